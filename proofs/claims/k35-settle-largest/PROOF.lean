import PyProof.Rows.All
import Wide.All
import OpenK.AllK
import Wide.FinOn
import KE.KStateDown
import HandS.ForMost
import HandS.More
import HandS.Exc
import HandS.WordsExc
import HandS.Defaults
import HandS.Wide
import HandS.Conv
import HandS.RevRange
import HandS.Sort
import HandS.DictComp
import HandS.Evl
import HandS.Walk
import HandS.Head0
import HandS.Head1
import HandS.Head2
import HandS.HeadEnd
import HandS.HeadHook1
import HandS.HeadHook2
import HandS.HeadHook4
import PySem.Challenge.RW_corebank_k35_whole_settle_largest
set_option Elab.async false
set_option linter.all false
set_option maxRecDepth 100000
set_option maxHeartbeats 4000000
/-! The plain law: choices of first payments, what they leave, and the largest one. No program here. -/
namespace K35

/-- a payment: who pays, who is paid, how much -/
structure Pay (A : Type) where
  key : A
  payer : A
  payee : A
  amt : Int

section
variable {A : Type} [DecidableEq A]

/-- how many payments of x are in the list -/
def cnt (ps : List (Pay A)) (x : A) : Nat := ps.countP fun p => decide (p.payer = x)

theorem cnt_nil (x : A) : cnt ([] : List (Pay A)) x = 0 := rfl
theorem cnt_snoc (ps : List (Pay A)) (p : Pay A) (x : A) : cnt (ps ++ [p]) x = cnt ps x + if p.payer = x then 1 else 0 := by
  unfold cnt
  rw [List.countP_append, List.countP_cons, List.countP_nil]
  by_cases h : p.payer = x
  · simp [h]
  · simp [h]
theorem take_succ_of {ps : List (Pay A)} {k : Nat} {p : Pay A} (h : ps[k]? = some p) : ps.take (k + 1) = ps.take k ++ [p] := by
  rw [List.take_add_one, h]; rfl
theorem cnt_take_succ {ps : List (Pay A)} {k : Nat} {p : Pay A} (h : ps[k]? = some p) (x : A) : cnt (ps.take (k + 1)) x = cnt (ps.take k) x + if p.payer = x then 1 else 0 := by
  rw [take_succ_of h, cnt_snoc]
theorem cnt_take_le (ps : List (Pay A)) (k : Nat) (x : A) : cnt (ps.take k) x ≤ cnt ps x := by
  unfold cnt
  exact List.Sublist.countP_le (List.take_sublist k ps)
theorem cnt_take_mono (ps : List (Pay A)) {j k : Nat} (h : j ≤ k) (x : A) : cnt (ps.take j) x ≤ cnt (ps.take k) x := by
  have e : ps.take j = (ps.take k).take j := by rw [List.take_take, Nat.min_eq_left h]
  rw [e]
  exact cnt_take_le _ _ _
theorem cnt_lt_of_at {ps : List (Pay A)} {k : Nat} {p : Pay A} (h : ps[k]? = some p) : cnt (ps.take k) p.payer < cnt ps p.payer := by
  have h1 := cnt_take_succ h p.payer
  have h2 := cnt_take_le ps (k + 1) p.payer
  rw [if_pos rfl] at h1
  omega
theorem cnt_pos {ps : List (Pay A)} {x : A} (h : 0 < cnt ps x) : ∃ p ∈ ps, p.payer = x := by
  unfold cnt at h
  obtain ⟨p, hp, e⟩ := List.countP_pos_iff.mp h
  exact ⟨p, hp, of_decide_eq_true e⟩

/-- an amount moved -/
def mv (b : A → Int) (x y : A) (a : Int) : A → Int := fun z => b z - (if z = x then a else 0) + (if z = y then a else 0)

/-- is the k-th payment among the first c of its payer's? -/
def flag (c : A → Int) (ps : List (Pay A)) (k : Nat) : Bool := match ps[k]? with
  | some p => decide ((cnt (ps.take k) p.payer : Int) < c p.payer)
  | none => false
theorem flag_at {c : A → Int} {ps : List (Pay A)} {k : Nat} {p : Pay A} (h : ps[k]? = some p) : flag c ps k = decide ((cnt (ps.take k) p.payer : Int) < c p.payer) := by
  unfold flag; rw [h]

/-- balances behind the first k payments, the chosen ones done -/
def run (c : A → Int) (b : A → Int) (ps : List (Pay A)) : Nat → A → Int
  | 0 => b
  | k + 1 => match ps[k]? with
    | some p => if flag c ps k = true then mv (run c b ps k) p.payer p.payee p.amt else run c b ps k
    | none => run c b ps k
theorem run_succ {c b : A → Int} {ps : List (Pay A)} {k : Nat} {p : Pay A} (h : ps[k]? = some p) :
    run c b ps (k + 1) = if flag c ps k = true then mv (run c b ps k) p.payer p.payee p.amt else run c b ps k := by
  show (match ps[k]? with
    | some p => if flag c ps k = true then mv (run c b ps k) p.payer p.payee p.amt else run c b ps k
    | none => run c b ps k) = _
  rw [h]
/-- what x has paid, has received -/
def paid (c : A → Int) (ps : List (Pay A)) : Nat → A → Int
  | 0, _ => 0
  | k + 1, x => paid c ps k x + match ps[k]? with
    | some p => if flag c ps k = true ∧ x = p.payer then p.amt else 0
    | none => 0
def recv (c : A → Int) (ps : List (Pay A)) : Nat → A → Int
  | 0, _ => 0
  | k + 1, x => recv c ps k x + match ps[k]? with
    | some p => if flag c ps k = true ∧ x = p.payee then p.amt else 0
    | none => 0
theorem run_eq (c b : A → Int) (ps : List (Pay A)) (x : A) : ∀ k, run c b ps k x = b x - paid c ps k x + recv c ps k x
  | 0 => by simp [run, paid, recv]
  | k + 1 => by
    have ih := run_eq c b ps x k
    unfold run paid recv
    cases e : ps[k]? with
    | none => simp only [ih]; omega
    | some p =>
      simp only
      by_cases hf : flag c ps k = true
      · simp only [hf, if_true, true_and]
        unfold mv
        rw [ih]
        omega
      · simp only [hf, Bool.false_eq_true, if_false, false_and]
        rw [ih]
        omega

/-- the amounts are not below 0 -/
def AmtOk (ps : List (Pay A)) : Prop := ∀ p ∈ ps, 0 ≤ p.amt

theorem flag_mono {c d : A → Int} {ps : List (Pay A)} (h : ∀ x, c x ≤ d x) {k : Nat} (hf : flag c ps k = true) : flag d ps k = true := by
  unfold flag at hf ⊢
  cases e : ps[k]? with
  | none => rw [e] at hf; cases hf
  | some p =>
    rw [e] at hf
    have h1 := of_decide_eq_true hf
    have h2 := h p.payer
    exact decide_eq_true (by omega)
theorem recv_mono {c d : A → Int} {ps : List (Pay A)} (h : ∀ x, c x ≤ d x) (ha : AmtOk ps) (x : A) : ∀ k, recv c ps k x ≤ recv d ps k x
  | 0 => Int.le_refl _
  | k + 1 => by
    have ih := recv_mono h ha x k
    unfold recv
    cases e : ps[k]? with
    | none => simp only; omega
    | some p =>
      have hp := ha p (List.mem_of_getElem? e)
      simp only
      by_cases hf : flag c ps k = true ∧ x = p.payee
      · rw [if_pos hf, if_pos ⟨flag_mono h hf.1, hf.2⟩]; omega
      · rw [if_neg hf]
        split <;> omega
theorem recv_nonneg {c : A → Int} {ps : List (Pay A)} (ha : AmtOk ps) (x : A) : ∀ k, 0 ≤ recv c ps k x
  | 0 => Int.le_refl _
  | k + 1 => by
    have ih := recv_nonneg (c := c) ha x k
    unfold recv
    cases e : ps[k]? with
    | none => simp only; omega
    | some p =>
      have hp := ha p (List.mem_of_getElem? e)
      simp only
      split <;> omega
theorem paid_congr {c d : A → Int} {ps : List (Pay A)} {x : A} (h : c x = d x) : ∀ k, paid c ps k x = paid d ps k x
  | 0 => rfl
  | k + 1 => by
    have ih := paid_congr (ps := ps) h k
    unfold paid
    cases e : ps[k]? with
    | none => simp only; omega
    | some p =>
      simp only
      have hh : (flag c ps k = true ∧ x = p.payer) ↔ (flag d ps k = true ∧ x = p.payer) := by
        rw [flag_at e, flag_at e]
        constructor
        · rintro ⟨h1, h2⟩
          subst h2
          exact ⟨by rw [← h]; exact h1, rfl⟩
        · rintro ⟨h1, h2⟩
          subst h2
          exact ⟨by rw [h]; exact h1, rfl⟩
      rw [ih]
      by_cases q : flag c ps k = true ∧ x = p.payer
      · rw [if_pos q, if_pos (hh.mp q)]
      · rw [if_neg q, if_neg fun z => q (hh.mpr z)]
theorem paid_zero {c : A → Int} {ps : List (Pay A)} {x : A} (h : c x ≤ 0) : ∀ k, paid c ps k x = 0
  | 0 => rfl
  | k + 1 => by
    have ih := paid_zero (ps := ps) h k
    unfold paid
    cases e : ps[k]? with
    | none => simp only; omega
    | some p =>
      simp only
      have hh : ¬ (flag c ps k = true ∧ x = p.payer) := by
        rw [flag_at e]
        rintro ⟨h1, h2⟩
        subst h2
        have := of_decide_eq_true h1
        omega
      rw [if_neg hh, ih]; rfl

/-- x keeps at least as much under the larger choice that lets x pay the same -/
theorem run_le {c d b : A → Int} {ps : List (Pay A)} (h : ∀ x, c x ≤ d x) (ha : AmtOk ps) {x : A} (hx : c x = d x) (k : Nat) : run c b ps k x ≤ run d b ps k x := by
  rw [run_eq, run_eq, paid_congr hx k]
  have := recv_mono h ha x k
  omega
theorem run_ge {c b : A → Int} {ps : List (Pay A)} (ha : AmtOk ps) {x : A} (hx : c x ≤ 0) (k : Nat) : b x ≤ run c b ps k x := by
  rw [run_eq, paid_zero hx k]
  have := recv_nonneg (c := c) ha x k
  omega

/-! ### one payment put back -/
/-- the next payment of x from place k on -/
theorem next_of {ps : List (Pay A)} {x : A} : ∀ (m k : Nat), ps.length - k ≤ m → cnt (ps.take k) x < cnt ps x → ∃ j p, k ≤ j ∧ ps[j]? = some p ∧ p.payer = x ∧ cnt (ps.take j) x = cnt (ps.take k) x
  | 0, k, hm, h => by
    have e : ps.take k = ps := List.take_of_length_le (by omega)
    rw [e] at h
    exact absurd h (Nat.lt_irrefl _)
  | m + 1, k, hm, h => by
    by_cases hk : k < ps.length
    · have e : ps[k]? = some ps[k] := List.getElem?_eq_getElem hk
      by_cases hp : ps[k].payer = x
      · exact ⟨k, ps[k], Nat.le_refl _, e, hp, rfl⟩
      · have e1 := cnt_take_succ e x
        rw [if_neg hp] at e1
        obtain ⟨j, p, h1, h2, h3, h4⟩ := next_of (ps := ps) (x := x) m (k + 1) (by omega) (by omega)
        exact ⟨j, p, by omega, h2, h3, by omega⟩
    · have e : ps.take k = ps := List.take_of_length_le (by omega)
      rw [e] at h
      exact absurd h (Nat.lt_irrefl _)
/-- the payment of x with r ones of x ahead of it -/
theorem rank_of {ps : List (Pay A)} {x : A} : ∀ (r : Nat), r < cnt ps x → ∃ j p, ps[j]? = some p ∧ p.payer = x ∧ cnt (ps.take j) x = r
  | 0, h => by
    obtain ⟨j, p, _, h2, h3, h4⟩ := next_of (ps := ps) (x := x) ps.length 0 (by omega) (by simpa [cnt] using h)
    exact ⟨j, p, h2, h3, by simpa [cnt] using h4⟩
  | r + 1, h => by
    obtain ⟨i, q, h1, h2, h3⟩ := rank_of (ps := ps) (x := x) r (by omega)
    have e1 := cnt_take_succ h1 x
    rw [if_pos h2] at e1
    obtain ⟨j, p, _, h5, h6, h7⟩ := next_of (ps := ps) (x := x) ps.length (i + 1) (by omega) (by omega)
    exact ⟨j, p, h5, h6, by omega⟩
def less (n : A → Int) (x : A) : A → Int := fun z => if z = x then n z - 1 else n z

theorem flag_less {n : A → Int} {ps : List (Pay A)} {x : A} {i : Nat} {p : Pay A} (hi : ps[i]? = some p) (hp : p.payer = x) (hr : (cnt (ps.take i) x : Int) = n x - 1) (k : Nat) :
    flag (less n x) ps k = if k = i then false else flag n ps k := by
  by_cases hk : k = i
  · subst hk
    rw [if_pos rfl, flag_at hi, hp]
    unfold less
    rw [if_pos rfl]
    exact decide_eq_false (by omega)
  · rw [if_neg hk]
    cases e : ps[k]? with
    | none => unfold flag; rw [e]
    | some q =>
      rw [flag_at e, flag_at e]
      unfold less
      by_cases hq : q.payer = x
      · rw [if_pos hq, hq]
        have hlt : (cnt (ps.take k) x : Int) ≠ n x - 1 := by
          rcases Nat.lt_or_gt_of_ne hk with h | h
          · have e1 := cnt_take_succ e x
            rw [if_pos hq] at e1
            have e2 := cnt_take_mono ps (show k + 1 ≤ i by omega) x
            omega
          · have e1 := cnt_take_succ hi x
            rw [if_pos hp] at e1
            have e2 := cnt_take_mono ps (show i + 1 ≤ k by omega) x
            omega
        exact decide_eq_decide.mpr (by omega)
      · rw [if_neg hq]
theorem run_less_lo {n b : A → Int} {ps : List (Pay A)} {x : A} {i : Nat} {p : Pay A} (hi : ps[i]? = some p) (hp : p.payer = x) (hr : (cnt (ps.take i) x : Int) = n x - 1) :
    ∀ k, k ≤ i → run (less n x) b ps k = run n b ps k
  | 0, _ => rfl
  | k + 1, h => by
    have ih := run_less_lo (b := b) hi hp hr k (by omega)
    have hk : k < ps.length := by have := (List.getElem?_eq_some_iff.mp hi).1; omega
    have e : ps[k]? = some ps[k] := List.getElem?_eq_getElem hk
    have hne : k ≠ i := by omega
    rw [run_succ e, run_succ e, flag_less hi hp hr k, if_neg hne, ih]
theorem mv_comm (b : A → Int) (x y u v : A) (a d : Int) : mv (mv b x y a) u v d = mv (mv b u v d) x y a := by
  funext z; unfold mv; omega
theorem mv_back (b : A → Int) (x y : A) (a : Int) : mv (mv b x y a) y x a = b := by
  funext z; unfold mv; omega
theorem run_less_hi {n b : A → Int} {ps : List (Pay A)} {x : A} {i : Nat} {p : Pay A} (hi : ps[i]? = some p) (hp : p.payer = x) (hr : (cnt (ps.take i) x : Int) = n x - 1) :
    ∀ k, i < k → k ≤ ps.length → run (less n x) b ps k = mv (run n b ps k) p.payee p.payer p.amt
  | 0, h, _ => absurd h (Nat.not_lt_zero _)
  | k + 1, h, hl => by
    have e : ps[k]? = some ps[k] := List.getElem?_eq_getElem (by omega)
    rw [run_succ e, run_succ e, flag_less hi hp hr]
    by_cases hk : k = i
    · subst hk
      rw [e] at hi
      have hi := Option.some.inj hi
      subst hi
      rw [if_pos rfl, if_neg Bool.false_ne_true, run_less_lo (b := b) e hp hr k (Nat.le_refl _)]
      have hf : flag n ps k = true := by
        rw [flag_at e, hp]
        exact decide_eq_true (by omega)
      rw [if_pos hf, mv_back]
    · rw [if_neg hk, run_less_hi (b := b) hi hp hr k (by omega) (by omega)]
      split
      · rw [mv_comm]
      · rfl

/-! ### the search for the largest choice -/
/-- no member is below its floor when the choice c is done -/
def Feas (ns : List A) (f b : A → Int) (ps : List (Pay A)) (c : A → Int) : Prop := ∀ x ∈ ns, f x ≤ run c b ps ps.length x
instance (ns : List A) (f b : A → Int) (ps : List (Pay A)) (c : A → Int) : Decidable (Feas ns f b ps c) := by unfold Feas; infer_instance
/-- a choice: of each payer's payments some first ones -/
def Choice (ps : List (Pay A)) (c : A → Int) : Prop := ∀ x, 0 ≤ c x ∧ c x ≤ (cnt ps x : Int)
/-- the search's invariant -/
structure Srch (ns : List A) (f b : A → Int) (ps : List (Pay A)) (n : A → Int) : Prop where
  ch : Choice ps n
  max : ∀ c, Choice ps c → Feas ns f b ps c → ∀ x, c x ≤ n x
def all (ps : List (Pay A)) : A → Int := fun x => (cnt ps x : Int)
theorem Srch.start (ns : List A) (f b : A → Int) (ps : List (Pay A)) : Srch ns f b ps (all ps) :=
  ⟨fun _ => ⟨Int.natCast_nonneg _, Int.le_refl _⟩, fun _ h _ x => (h x).2⟩
theorem Srch.pos {ns : List A} {f b : A → Int} {ps : List (Pay A)} {n : A → Int} (S : Srch ns f b ps n) (ha : AmtOk ps) {x : A} (h0 : f x ≤ b x) (hb : run n b ps ps.length x < f x) : 1 ≤ n x := by
  have h1 := (S.ch x).1
  by_cases h : n x = 0
  · have := run_ge (b := b) (c := n) ha (x := x) (by omega) ps.length
    omega
  · omega
theorem Srch.step {ns : List A} {f b : A → Int} {ps : List (Pay A)} {n : A → Int} (S : Srch ns f b ps n) (ha : AmtOk ps) {x : A} (hx : x ∈ ns) (h0 : f x ≤ b x) (hb : run n b ps ps.length x < f x) : Srch ns f b ps (less n x) := by
  have hp := S.pos ha h0 hb
  refine ⟨fun z => ?_, fun c hc hF z => ?_⟩
  · have := S.ch z
    unfold less
    split
    · rename_i e; subst e; omega
    · exact this
  · have h1 := S.max c hc hF
    unfold less
    by_cases hz : z = x
    · rw [if_pos hz]
      subst hz
      have h2 := h1 z
      by_cases e : c z = n z
      · have h3 := run_le (b := b) h1 ha e ps.length
        have h4 := hF z hx
        omega
      · omega
    · rw [if_neg hz]; exact h1 z
/-- the last chosen payment of x -/
theorem last_rank {ps : List (Pay A)} {n : A → Int} {x : A} {i : Nat} {p : Pay A} (hn : n x ≤ (cnt ps x : Int)) (hi : ps[i]? = some p) (hp : p.payer = x) (hf : flag n ps i = true)
    (hl : ∀ j q, i < j → ps[j]? = some q → q.payer = x → flag n ps j = false) : (cnt (ps.take i) x : Int) = n x - 1 := by
  rw [flag_at hi, hp] at hf
  have h1 := of_decide_eq_true hf
  by_cases e : (cnt (ps.take i) x : Int) = n x - 1
  · exact e
  · have e1 := cnt_take_succ hi x
    rw [if_pos hp] at e1
    obtain ⟨j, q, h2, h3, h4, h5⟩ := next_of (ps := ps) (x := x) ps.length (i + 1) (by omega) (by omega)
    have h6 := hl j q (by omega) h3 h4
    rw [flag_at h3, h4] at h6
    have h7 := of_decide_eq_false h6
    omega
theorem some_flag {ps : List (Pay A)} {n : A → Int} {x : A} (h1 : 1 ≤ n x) (hn : n x ≤ (cnt ps x : Int)) : ∃ i p, ps[i]? = some p ∧ p.payer = x ∧ flag n ps i = true := by
  obtain ⟨j, p, h2, h3, h4⟩ := rank_of (ps := ps) (x := x) (n x - 1).toNat (by omega)
  refine ⟨j, p, h2, h3, ?_⟩
  rw [flag_at h2, h3]
  exact decide_eq_true (by omega)

/-! ### the chosen ones, as a list -/
def sel (c : A → Int) (ps : List (Pay A)) : Nat → List (Pay A)
  | 0 => []
  | k + 1 => match ps[k]? with
    | some p => if flag c ps k = true then sel c ps k ++ [p] else sel c ps k
    | none => sel c ps k
theorem sel_succ {c : A → Int} {ps : List (Pay A)} {k : Nat} {p : Pay A} (h : ps[k]? = some p) : sel c ps (k + 1) = if flag c ps k = true then sel c ps k ++ [p] else sel c ps k := by
  show (match ps[k]? with
    | some p => if flag c ps k = true then sel c ps k ++ [p] else sel c ps k
    | none => sel c ps k) = _
  rw [h]
theorem cnt_sel {c : A → Int} {ps : List (Pay A)} (hc : ∀ x, 0 ≤ c x) (x : A) : ∀ k, k ≤ ps.length → (cnt (sel c ps k) x : Int) = min (c x) (cnt (ps.take k) x)
  | 0, _ => by
    have := hc x
    simp [sel, cnt]; omega
  | k + 1, h => by
    have e : ps[k]? = some ps[k] := List.getElem?_eq_getElem (by omega)
    have ih := cnt_sel (ps := ps) hc x k (by omega)
    have e1 := cnt_take_succ e x
    rw [sel_succ e]
    by_cases hp : ps[k].payer = x
    · rw [if_pos hp] at e1
      rw [flag_at e]
      by_cases hf : (cnt (ps.take k) ps[k].payer : Int) < c ps[k].payer
      · rw [if_pos (decide_eq_true hf), cnt_snoc, if_pos hp]
        rw [hp] at hf
        omega
      · rw [if_neg (by simpa using hf)]
        rw [hp] at hf
        omega
    · rw [if_neg hp] at e1
      split
      · rw [cnt_snoc, if_neg hp]; omega
      · omega
theorem cnt_sel_all {c : A → Int} {ps : List (Pay A)} (hc : Choice ps c) (x : A) : (cnt (sel c ps ps.length) x : Int) = c x := by
  have h := cnt_sel (fun x => (hc x).1) x ps.length (Nat.le_refl _)
  rw [List.take_length] at h
  have := (hc x).2
  omega
theorem sel_sub {c : A → Int} {ps : List (Pay A)} : ∀ k, ∀ p ∈ sel c ps k, p ∈ ps
  | 0, p, h => by cases h
  | k + 1, p, h => by
    unfold sel at h
    cases e : ps[k]? with
    | none => rw [e] at h; exact sel_sub k p h
    | some q =>
      rw [e] at h
      simp only at h
      split at h
      · rcases List.mem_append.mp h with h | h
        · exact sel_sub k p h
        · rw [List.mem_singleton.mp h]; exact List.mem_of_getElem? e
      · exact sel_sub k p h
/-- a row's due: what it had, and all of the list done -/
def due (d : Int) (ds : List (Pay A)) (x : A) : Int := ds.foldl (fun d p => (d - if p.payer = x then p.amt else 0) + if p.payee = x then p.amt else 0) d
theorem due_snoc (d : Int) (ds : List (Pay A)) (p : Pay A) (x : A) : due d (ds ++ [p]) x = (due d ds x - if p.payer = x then p.amt else 0) + if p.payee = x then p.amt else 0 := by
  unfold due; rw [List.foldl_append]; rfl
theorem due_sel (c b : A → Int) (ps : List (Pay A)) (x : A) : ∀ k, k ≤ ps.length → due (b x) (sel c ps k) x = run c b ps k x
  | 0, _ => rfl
  | k + 1, h => by
    have e : ps[k]? = some ps[k] := List.getElem?_eq_getElem (by omega)
    have ih := due_sel c b ps x k (by omega)
    rw [sel_succ e, run_succ e]
    split
    · rw [due_snoc, ih]
      unfold mv
      have e1 : (if ps[k].payer = x then ps[k].amt else 0) = (if x = ps[k].payer then ps[k].amt else 0) := by
        by_cases q : x = ps[k].payer
        · rw [if_pos q, if_pos q.symm]
        · rw [if_neg q, if_neg fun z => q z.symm]
      have e2 : (if ps[k].payee = x then ps[k].amt else 0) = (if x = ps[k].payee then ps[k].amt else 0) := by
        by_cases q : x = ps[k].payee
        · rw [if_pos q, if_pos q.symm]
        · rw [if_neg q, if_neg fun z => q z.symm]
      rw [e1, e2]
    · exact ih
/-- the counts of all members together -/
theorem sum_zero : ∀ ns : List A, (ns.map fun _ => (0 : Int)).sum = 0
  | [] => rfl
  | _ :: r => by
    rw [List.map_cons, List.sum_cons, sum_zero r]; rfl
theorem sum_cnt {ns : List A} (nd : ns.Nodup) : ∀ ds : List (Pay A), (∀ p ∈ ds, p.payer ∈ ns) → (ns.map fun x => (cnt ds x : Int)).sum = (ds.length : Int)
  | [], _ => by
    have e : (ns.map fun x => (cnt ([] : List (Pay A)) x : Int)) = ns.map fun _ => (0 : Int) := List.map_congr_left fun x _ => rfl
    rw [e, sum_zero]; rfl
  | p :: ds, h => by
    have ih := sum_cnt nd ds fun q hq => h q (List.mem_cons_of_mem _ hq)
    have hp := h p List.mem_cons_self
    have one : ∀ ms : List A, ms.Nodup → (ms.map fun x => (cnt (p :: ds) x : Int)).sum = (ms.map fun x => (cnt ds x : Int)).sum + if p.payer ∈ ms then 1 else 0 := by
      intro ms
      induction ms with
      | nil => intro _; simp
      | cons m r ihm =>
        intro hnd
        obtain ⟨h1, h2⟩ := List.nodup_cons.mp hnd
        rw [List.map_cons, List.map_cons, List.sum_cons, List.sum_cons, ihm h2]
        have e : (cnt (p :: ds) m : Int) = cnt ds m + if p.payer = m then 1 else 0 := by
          unfold cnt
          rw [List.countP_cons]
          by_cases q : p.payer = m
          · simp [q]
          · simp [q]
        rw [e]
        by_cases q : p.payer = m
        · subst q
          rw [if_pos rfl, if_neg h1, if_pos List.mem_cons_self]
          omega
        · rw [if_neg q]
          by_cases q2 : p.payer ∈ r
          · rw [if_pos q2, if_pos (List.mem_cons_of_mem _ q2)]; omega
          · rw [if_neg q2, if_neg (fun z => (List.mem_cons.mp z).elim q q2)]; omega
    rw [one ns nd, ih, if_pos hp, List.length_cons]
    omega
/-- every list that is as long as the members' is a function of them -/
theorem fun_of : ∀ {ns : List A}, ns.Nodup → ∀ cs : List Int, cs.length = ns.length → ∃ c : A → Int, ns.map c = cs ∧ ∀ x, x ∉ ns → c x = 0
  | [], _, cs, h => ⟨fun _ => 0, by
      cases cs with
      | nil => rfl
      | cons _ _ => simp at h, fun _ _ => rfl⟩
  | n :: r, nd, cs, h => by
    obtain ⟨h1, h2⟩ := List.nodup_cons.mp nd
    cases cs with
    | nil => simp at h
    | cons v vs =>
      obtain ⟨c, e, z⟩ := fun_of h2 vs (by simpa using h)
      refine ⟨fun x => if x = n then v else c x, ?_, fun x hx => ?_⟩
      · rw [List.map_cons, if_pos rfl]
        congr 1
        rw [← e]
        refine List.map_congr_left fun x hx => if_neg fun q => ?_
        rw [q] at hx
        exact h1 hx
      · have : x ≠ n := fun q => hx (by rw [q]; exact List.mem_cons_self)
        show (if x = n then v else c x) = 0
        rw [if_neg this]
        exact z x fun q => hx (List.mem_cons_of_mem _ q)
end
end K35
/-! The text by places, what the top has written. -/
namespace K35
open PySem L2
def top (i : Nat) : Stmt := PySem.Challenge.pw_corebank_k35_whole_settle_largest.main.body.getD i (.Pass ⟨0, 0, 0, 0⟩)
abbrev sIsAmount : Stmt := top 9
abbrev sIsName : Stmt := top 13
abbrev sFirstBelow : Stmt := top 17
abbrev sLastChosen : Stmt := top 18
abbrev sMove : Stmt := top 19
abbrev sInit : Stmt := inClass (top 20) 0
abbrev sAddMember : Stmt := inClass (top 20) 1
abbrev sCheckMember : Stmt := inClass (top 20) 2
abbrev sFund : Stmt := inClass (top 20) 3
abbrev sSubmit : Stmt := inClass (top 20) 4
abbrev sQueue : Stmt := inClass (top 20) 5
abbrev sSettle : Stmt := inClass (top 20) 6
abbrev sBalanceOf : Stmt := inClass (top 20) 7
abbrev sCell : Stmt := top 22
abbrev sSource : Stmt := top 23
abbrev sPick : Stmt := top 24
abbrev sName : Stmt := top 25
abbrev sNames : Stmt := top 26
abbrev sPairs : Stmt := top 28
abbrev sFilled : Stmt := top 29
abbrev sPayment : Stmt := top 30
abbrev sFits : Stmt := top 31
abbrev sCounts : Stmt := top 32
abbrev sContained : Stmt := top 33
abbrev sLargest : Stmt := top 34
abbrev sLaw : Stmt := top 35

/-- a def of the module, a method of the class, as data for the head -/
def dF (x : Str) (st : Stmt) : He.DefD := ⟨(x, none), x, x, defArgs st, defBody st, defScope st, [], []⟩
def dM (m q : Str) (st : Stmt) : He.DefD := ⟨("Clearing", some m), m, q, defArgs st, defBody st, defScope st, [], []⟩
def fn : List He.DefD := [dF "is_amount" sIsAmount, dF "is_name" sIsName, dF "first_below" sFirstBelow, dF "last_chosen" sLastChosen, dF "move" sMove,
  dM "__init__" "Clearing.__init__" sInit, dM "add_member" "Clearing.add_member" sAddMember, dM "check_member" "Clearing.check_member" sCheckMember, dM "fund" "Clearing.fund" sFund, dM "submit" "Clearing.submit" sSubmit,
  dM "queue" "Clearing.queue" sQueue, dM "settle" "Clearing.settle" sSettle, dM "balance_of" "Clearing.balance_of" sBalanceOf,
  dF "_law_cell" sCell, dF "_law_source" sSource, dF "_law_pick" sPick, dF "_law_name" sName, dF "_law_names" sNames, dF "_law_pairs" sPairs, dF "_law_filled" sFilled, dF "_law_payment" sPayment,
  dF "_law_fits" sFits, dF "_law_counts" sCounts, dF "_law_contained" sContained, dF "_law_largest" sLargest, dF "law" sLaw]
def fnNames : List Str := ["is_amount", "is_name", "first_below", "last_chosen", "move", "_law_cell", "_law_source", "_law_pick", "_law_name", "_law_names", "_law_pairs", "_law_filled", "_law_payment", "_law_fits", "_law_counts", "_law_contained", "_law_largest", "law", "Clearing"]
def blNames : List Str := ["len", "range", "reversed", "all", "int", "str", "list", "min", "max", "sum"]
def mtNames : List Str := ["add_member", "check_member", "fund", "submit", "queue", "settle", "balance_of"]
def flNames : List Str := ["balances", "floors", "known", "line"]
def letters : Str := "abcdefghijklmnopqrstuvwxyz"
def digits : Str := "0123456789"
def fa : List He.Fa := fnNames.map He.Fa.glo ++ blNames.map He.Fa.free ++ mtNames.map (He.Fa.meth "Clearing") ++ flNames.map (He.Fa.noat "Clearing") ++
  [.cls "Clearing", .mkr "Clearing", .int "LIMIT" 1000000000, .int "MOST_MEMBERS" 6, .int "MOST_KEY" 40, .str "LETTERS" letters, .str "DIGITS" digits]
abbrev R : PySem.W.OpenRow := PySem.W.OpenLaw.row PySem.Challenge.rw_corebank_k35_whole_settle_largest
end K35
/-! What the walk asks of the text as the top has written it; a def's promise kept; calls of such defs; heaps. -/
namespace K35
open PySem L2
open PySem.Spec PyProof.Rows

/-- the class -/
abbrev cC (K : PySem.W.Frag) : Addr := He.ga K "Clearing"
structure Txt (K : PySem.W.Frag) (mg : Str → Option Value) : Prop where
  fact : ∀ f ∈ fa, f.ok K = true
  defs : ∀ d ∈ fn, ∃ fd, FunD K d.name d.qual d.params d.body d.scope (d.dvs K) (d.kws K) (He.fAd K d.at_) fd
  glo : ∀ x ∈ fnNames, mg x = some (.ref (He.ga K x))
  bl : ∀ x ∈ blNames, mg x = none
  lim : ∃ t, mg "LIMIT" = some (.int 1000000000 t)
  mm : ∃ t, mg "MOST_MEMBERS" = some (.int 6 t)
  mkey : ∃ t, mg "MOST_KEY" = some (.int 40 t)
  lets : ∃ t, mg "LETTERS" = some (.str letters t)
  digs : ∃ t, mg "DIGITS" = some (.str digits t)
/-- a def of the module keeps its promise -/
structure Good (P : Program) (w : World) (K : PySem.W.Frag) (mg : Str → Option Value) (base : Heap) (k : Nat) (x : Str) (ps : List Str) (sp : Sp) : Prop where
  ex : ∃ fd, FnOk P w K mg base CX0 k (He.ga K x) fd ps sp ∧ Binds K fd ps [] ∧ ∃ oc od osl, K.lookup (He.ga K x) = some ⟨oc, od, .func fd, osl⟩
  mg : mg x = some (.ref (He.ga K x))
  kp : PySem.W.keepIn K (.ref (He.ga K x)) = true
/-- a method of the class keeps its promise -/
structure GoodM (P : Program) (w : World) (K : PySem.W.Frag) (mg : Str → Option Value) (base : Heap) (k : Nat) (m : Str) (ps : List Str) (sp : Sp) : Prop where
  ex : ∃ fd, FnOk P w K mg base CX0 k (He.ma K (cC K) m) fd ps sp ∧ Binds K fd ps []
  me : Meth K (cC K) m (He.ma K (cC K) m)
  cl : Cls K (cC K)
section
variable {P : Program} {w : World} {K : PySem.W.Frag} {mg : Str → Option Value} {base : Heap}
theorem Txt.good (T : Txt K mg) {x : Str} {st : Stmt} {N ps : List Str} {k : Nat} {sp : Sp} (hd : dF x st ∈ fn) (hx : x ∈ fnNames) (S : FnScope N ps (defScope st)) (len : ∀ vs H Q E, sp vs H Q E → vs.length = ps.length)
    (hb : ∀ (kV doc pm : Value) (an : Option Addr) (cdv ct : Value) (us : List Value), us.length = ps.length → bindArgs (PySem.W.fnOf x x (defArgs st) (defBody st) (defScope st) .none kV doc pm an cdv ct) ⟨us, []⟩ = pure (ps.zip us))
    (hbody : ∀ (cdv : Value) (A : Around) (outer : List Env) (s : Shared) (H : Hp) (vs : List V) (Q : VK) (E : XK), Room k (A.deeper (envOfC x (defScope st) s.heap.objs.size (He.ga K x) cdv)) → sp vs H Q E →
      ∃ t, PSs (cxOf CX0 P w K mg base N x (defScope st) (He.ga K x) cdv A outer s H E).nox (defBody st) t ∧ t { nx := fun _ H' => Q .non H', rt := Q } (start N vs) H) : Good P w K mg base (k + 1) x ps sp := by
  obtain ⟨fd, F⟩ := T.defs _ hd
  have F' : FunD K x x (defArgs st) (defBody st) (defScope st) [] [] (He.ga K x) fd := F
  obtain ⟨oc, od, _, _, _, _, _, _, _, osl, _, lk, _⟩ := F'.ex
  refine ⟨⟨fd, F'.ok S len fun cdv A outer s H vs Q E hr h => ?_, F'.bindsN hb, oc, od, osl, lk⟩, T.glo x hx, F'.kp⟩
  obtain ⟨t, h1, h2⟩ := hbody cdv A outer s H vs Q E hr h
  exact ⟨t, h1.nox, h2⟩
theorem Txt.goodM (T : Txt K mg) {m q : Str} {st : Stmt} {N ps : List Str} {k : Nat} {sp : Sp} (hd : dM m q st ∈ fn) (hm : He.Fa.meth "Clearing" m ∈ fa) (S : FnScope N ps (defScope st)) (len : ∀ vs H Q E, sp vs H Q E → vs.length = ps.length)
    (hb : ∀ (kV doc pm : Value) (an : Option Addr) (cdv ct : Value) (us : List Value), us.length = ps.length → bindArgs (PySem.W.fnOf m q (defArgs st) (defBody st) (defScope st) .none kV doc pm an cdv ct) ⟨us, []⟩ = pure (ps.zip us))
    (hbody : ∀ (cdv : Value) (A : Around) (outer : List Env) (s : Shared) (H : Hp) (vs : List V) (Q : VK) (E : XK), Room k (A.deeper (envOfC q (defScope st) s.heap.objs.size (He.ma K (cC K) m) cdv)) → sp vs H Q E →
      ∃ t, PSs (cxOf CX0 P w K mg base N q (defScope st) (He.ma K (cC K) m) cdv A outer s H E).nox (defBody st) t ∧ t { nx := fun _ H' => Q .non H', rt := Q } (start N vs) H) : GoodM P w K mg base (k + 1) m ps sp := by
  obtain ⟨fd, F⟩ := T.defs _ hd
  have F' : FunD K m q (defArgs st) (defBody st) (defScope st) [] [] (He.ma K (cC K) m) fd := F
  refine ⟨⟨fd, F'.ok S len fun cdv A outer s H vs Q E hr h => ?_, F'.bindsN hb⟩, He.meth_ok (T.fact _ hm), He.cls_ok (T.fact _ (by simp [fa] : He.Fa.cls "Clearing" ∈ fa))⟩
  obtain ⟨t, h1, h2⟩ := hbody cdv A outer s H vs Q E hr h
  exact ⟨t, h1.nox, h2⟩
end
section
variable {X : Cx} {k : Nat} {x m : Str} {ps : List Str} {sp : Sp} {p pos apos : Pos} {e o : Expr} {es : List Expr} {t : TA} {ta : TE}
/-- f(e, ..) of such a def -/
theorem pe_go (g : Good X.prog X.w X.K X.mg X.base k x ps sp) (hr : Room k X.A) (ha : PA X (e :: es) t) (hg : Gl X x := by rfl) (hdb : (x == ("__debug__" : Str)) = false := by decide) (hpl : (backTo pos (starEach es X.env)).any (·.1) = false := by rfl)
    (he : starEach (e :: es) X.env = (false, eval e X.env) :: starEach es X.env := by rfl) : PE X (.Call (.Name x p) (e :: es) [] pos) (tCall sp [] E0 t) := by
  obtain ⟨fd, G, b, _⟩ := g.ex
  exact pe_call G hr hg g.mg g.kp b .nil pass0 ha hdb he hpl
end

/-! ### heaps: all but the addresses in S is kept -/
def Keep (S : List Addr) (H H' : Hp) : Prop := ∀ b o, H b = some o → b ∉ S → H' b = some o
theorem Keep.refl (S : List Addr) (H : Hp) : Keep S H H := fun _ _ h _ => h
theorem Keep.trans {S : List Addr} {H H1 H2 : Hp} (a : Keep S H H1) (b : Keep S H1 H2) : Keep S H H2 := fun c o h n => b c o (a c o h n) n
theorem Keep.mono {S S' : List Addr} {H H1 : Hp} (a : Keep S H H1) (h : ∀ x ∈ S, x ∈ S') : Keep S' H H1 := fun c o e n => a c o e fun z => n (h c z)
theorem Keep.same {H H1 : Hp} (a : Keep [] H H1) : Same H H1 := fun c o e => a c o e (by simp)
theorem Keep.of_same {H H1 : Hp} (a : Same H H1) (S : List Addr) : Keep S H H1 := fun c o e _ => a c o e
/-- a new object -/
theorem Keep.new {S : List Addr} {H H1 : Hp} {p : Addr} {o : HO} (a : Keep S H H1) (hp : H1 p = none) : Keep S H (upd H1 p o) := fun c u e n => by
  have h := a c u e n
  rw [upd_ne (ne_of_none h hp)]
  exact h
/-- a store to one in S, or to one that H does not have -/
theorem Keep.put {S : List Addr} {H H1 : Hp} {p : Addr} {o : HO} (a : Keep S H H1) (hp : p ∈ S ∨ H p = none) : Keep S H (upd H1 p o) := fun c u e n => by
  have hc : c ≠ p := by
    rintro rfl
    rcases hp with h | h
    · exact n h
    · rw [h] at e; cases e
  rw [upd_ne hc]
  exact a c u e n
theorem Keep.free {H H1 : Hp} {S : List Addr} (a : Keep S H H1) {l : Addr} (h : H1 l = none) (hl : l ∉ S) : H l = none := by
  cases q : H l with
  | none => rfl
  | some o => rw [a l o q hl] at h; cases h
theorem Keep.seq {S : List Addr} {H H1 : Hp} (a : Keep S H H1) {K : PySem.W.Frag} {l : Addr} {xs : List V} (h : SqL K H l xs) (hl : l ∉ S) : SqL K H1 l xs := by
  exact h.elim (fun r => .inl (r.elim (fun z => .inl (a _ _ z hl)) fun ⟨o, z⟩ => .inr ⟨o, a _ _ z hl⟩)) .inr
theorem Keep.tup {S : List Addr} {H H1 : Hp} (a : Keep S H H1) {K : PySem.W.Frag} {l : Addr} {xs : List V} (h : SqT K H l xs) (hl : l ∉ S) : SqT K H1 l xs := by
  exact h.elim (fun r => .inl (r.elim (fun z => .inl (a _ _ z hl)) fun ⟨o, z⟩ => .inr ⟨o, a _ _ z hl⟩)) .inr
/-- a source of draws stands at a -/
def Src (H : Hp) (a : Addr) : Prop := ∃ x y : Int, H a = some (.lst [.int x, .int y])

/-! ### dicts over the members: one pair a name -/
def dct (ns : List Str) (b : Str → Int) : List (Key × V) := ns.map fun n => (Sum.inr n, V.int (b n))
theorem dct_length (ns : List Str) (b : Str → Int) : (dct ns b).length = ns.length := List.length_map _
theorem dct_val {ns : List Str} {b : Str → Int} {x : Str} : ∀ {ns : List Str}, x ∈ ns → valV (dct ns b) (Sum.inr x : Key) = some (.int (b x))
  | n :: r, h => by
    by_cases e : n = x
    · subst e
      exact valV_pos (p := ((Sum.inr n : Key), V.int (b n))) rfl
    · have h1 : ¬ ((Sum.inr n : Key), V.int (b n)).1 = Sum.inr x := fun z => e (Sum.inr.inj z)
      have h2 : valV (dct (n :: r) b) (Sum.inr x : Key) = valV (dct r b) (Sum.inr x) := valV_neg h1
      rw [h2]
      rcases List.mem_cons.mp h with q | q
      · exact absurd q.symm e
      · exact dct_val (ns := ns) q
theorem dct_none {b : Str → Int} {x : Str} : ∀ {ns : List Str}, x ∉ ns → valV (dct ns b) (Sum.inr x : Key) = none
  | [], _ => rfl
  | n :: r, h => by
    have e : ¬ n = x := fun z => h (by rw [z]; exact List.mem_cons_self)
    have h1 : ¬ ((Sum.inr n : Key), V.int (b n)).1 = Sum.inr x := fun z => e (Sum.inr.inj z)
    have h2 : valV (dct (n :: r) b) (Sum.inr x : Key) = valV (dct r b) (Sum.inr x) := valV_neg h1
    rw [h2]
    exact dct_none fun z => h (List.mem_cons_of_mem _ z)
def setF (b : Str → Int) (x : Str) (v : Int) : Str → Int := fun z => if z = x then v else b z
theorem setF_same (b : Str → Int) (x : Str) (v : Int) : setF b x v x = v := if_pos rfl
theorem setF_ne (b : Str → Int) {x z : Str} (v : Int) (h : z ≠ x) : setF b x v z = b z := if_neg h
theorem dct_put {ns : List Str} {b : Str → Int} {x : Str} (h : x ∈ ns) (v : Int) : putK (dct ns b) (Sum.inr x : Key) (.int v) = dct ns (setF b x v) := by
  have h1 : ((dct ns b).any fun kv => decide (kv.1 = (Sum.inr x : Key))) = true := by
    rw [valV_any, dct_val (ns := ns) h]; rfl
  unfold putK
  rw [if_pos h1]
  unfold dct
  rw [List.map_map]
  refine List.map_congr_left fun n _ => ?_
  show (if (Sum.inr n : Key) = Sum.inr x then ((Sum.inr n : Key), V.int v) else (Sum.inr n, V.int (b n))) = (Sum.inr n, V.int (setF b x v n))
  by_cases e : n = x
  · subst e
    rw [if_pos rfl, setF_same]
  · rw [if_neg fun z => e (Sum.inr.inj z), setF_ne b v e]
theorem dct_new {ns : List Str} {b : Str → Int} {x : Str} (h : x ∉ ns) (v : Int) : putK (dct ns b) (Sum.inr x : Key) (.int v) = dct (ns ++ [x]) (setF b x v) := by
  rw [putK_new _ (dct_none h)]
  unfold dct
  rw [List.map_append]
  congr 1
  · refine List.map_congr_left fun n hn => ?_
    have hne : n ≠ x := fun z => by
      rw [z] at hn
      exact h hn
    rw [setF_ne b v hne]
  · show [((Sum.inr x : Key), V.int v)] = [(Sum.inr x, V.int (setF b x v x))]
    rw [setF_same]
theorem dct_congr {ns : List Str} {b c : Str → Int} (h : ∀ x ∈ ns, b x = c x) : dct ns b = dct ns c := List.map_congr_left fun n hn => by rw [h n hn]
end K35
/-! The smallest defs. -/
namespace K35
open PySem L2
open PySem.Spec PyProof.Rows
/-! ### promises -/
def spIsAmount : Sp := fun vs H Q _ => ∃ n : Int, vs = [.int n] ∧ 1 ≤ n ∧ n ≤ 1000000000 ∧ Q (.bl true) H
/-- the codes of a name -/
def NameL (l : List Nat) : Prop := 1 ≤ l.length ∧ l.length ≤ 12 ∧ (∀ c, l[0]? = some c → c ∈ letters.cps.toList) ∧ ∀ c ∈ l, c ∈ letters.cps.toList ∨ c ∈ digits.cps.toList
def spIsName : Sp := fun vs H Q _ => ∃ z : Str, vs = [.str z] ∧ NameL z.cps.toList ∧ ∀ H', Keep [] H H' → Q (.bl true) H'
/-- -1 .. : a source's draw -/
def spPick : Sp := fun vs H Q _ => ∃ (a : Addr) (m : Int), vs = [.ref a, .int m] ∧ Src H a ∧ 0 < m ∧ m < 1073741824 ∧ ∀ (r : Int) (H' : Hp), 0 ≤ r → r < m → Src H' a → Keep [a] H H' → Q (.int r) H'
def spCell (K : PySem.W.Frag) : Sp := fun vs H Q _ => ∃ (l : Addr) (ns : List Int) (k : Nat), vs = [.ref l, .int (k : Int)] ∧ SqL K H l (ns.map V.int) ∧ ns.length ≤ 63 ∧ ∀ z : Int, Q (.int z) H
def spSource : Sp := fun vs H Q _ => ∃ (z k : Int), vs = [.int z, .int k] ∧ ∀ (a : Addr) (H' : Hp), H a = none → Src H' a → Keep [] H H' → Q (.ref a) H'
def spMove : Sp := fun vs H Q _ => ∃ (d : Addr) (ns : List Str) (b : Str → Int) (x y : Str) (v : Int), vs = [.ref d, .str x, .str y, .int v] ∧ H d = some (.dK (dct ns b)) ∧ ns.length ≤ 6 ∧ x ∈ ns ∧ y ∈ ns ∧
  Q .non (upd H d (.dK (dct ns (setF (setF b x (b x - v)) y (setF b x (b x - v) y + v)))))
/-- the first member below its floor, or none -/
def spFirst : Sp := fun vs H Q _ => ∃ (d e : Addr) (ns : List Str) (b f : Str → Int), vs = [.ref d, .ref e] ∧ d ≠ e ∧ H d = some (.dK (dct ns b)) ∧ H e = some (.dK (dct ns f)) ∧
  (∀ x H', x ∈ ns → b x < f x → H' = H → Q (.str x) H') ∧ (∀ H', (∀ x ∈ ns, f x ≤ b x) → H' = H → Q .non H')
section
variable {P : Program} {w : World} {K : PySem.W.Frag} {mg : Str → Option Value} {base : Heap}
theorem scIsAmount : FnScope ["number"] ["number"] (defScope sIsAmount) := ⟨rfl, rfl, rfl, by decide +kernel, rfl, by decide +kernel, by decide +kernel⟩
theorem ok_isAmount (T : Txt K mg) : Good P w K mg base 1 "is_amount" ["number"] spIsAmount := by
  obtain ⟨tl, hl⟩ := T.lim
  refine T.good (st := sIsAmount) (by simp [fn]) (by simp [fnNames]) scIsAmount (fun vs H Q E h => ?_) (fun _ _ _ _ _ _ us hl => match us, hl with | [_], _ => rfl) (fun cdv A outer s H vs Q E hr h => ?_)
  · obtain ⟨n, rfl, _⟩ := h
    rfl
  · obtain ⟨n, rfl, h1, h2, k⟩ := h
    refine ⟨_, pss_one (ps_ret (pe_chain op_le op_le pe_int (pv 0) (pe_glob (v := .int 1000000000) rfl hl ⟨_, rfl⟩))), ?_⟩
    refine ⟨_, rfl, _, _, rfl, rfl, _, rfl, ?_⟩
    rw [decide_eq_true h1]
    refine iteT ⟨_, _, rfl, rfl, ?_⟩
    show Q (.bl (decide (n ≤ 1000000000))) H
    rw [decide_eq_true h2]
    exact k
theorem scMove : FnScope ["balances", "payer", "payee", "amount"] ["balances", "payer", "payee", "amount"] (defScope sMove) := ⟨rfl, rfl, rfl, by decide +kernel, rfl, by decide +kernel, by decide +kernel⟩
theorem ok_move (T : Txt K mg) : Good P w K mg base 1 "move" ["balances", "payer", "payee", "amount"] spMove := by
  refine T.good (st := sMove) (by simp [fn]) (by simp [fnNames]) scMove (fun vs H Q E h => ?_) (fun _ _ _ _ _ _ us hl => match us, hl with | [_, _, _, _], _ => rfl) (fun cdv A outer s H vs Q E hr h => ?_)
  · obtain ⟨d, ns, b, x, y, v, rfl, _⟩ := h
    rfl
  · obtain ⟨d, ns, b, x, y, v, rfl, hd, hn, hx, hy, k⟩ := h
    have hu := hu_of hr
    have small : ∀ c : Str → Int, (dct ns c).length < sizeLine := fun c => by rw [dct_length]; exact small1000 (by omega)
    refine ⟨_, pss_cons (ps_daug hu (pv 0) (pv 1) (pv 3) in_sub (fun _ _ _ => rfl)) (pss_one (ps_daug hu (pv 0) (pv 2) (pv 3) in_add (fun _ _ _ => rfl))), ?_⟩
    have g1 : DGet H d (.str x) (some (.int (b x))) := by
      have := DGet.k (k := (Sum.inr x : Key)) hd
      rw [dct_val (ns := ns) hx] at this
      exact this
    have p1 : DPut H d (.str x) (.int (b x - v)) (upd H d (.dK (dct ns (setF b x (b x - v))))) := by
      have := DPut.k (k := (Sum.inr x : Key)) (v := .int (b x - v)) hd (small b)
      rw [dct_put hx] at this
      exact this
    refine ⟨_, rfl, _, rfl, d, _, rfl, g1, _, rfl, _, _, rfl, rfl, _, p1, ?_⟩
    have hd2 : (upd H d (.dK (dct ns (setF b x (b x - v))))) d = some (.dK (dct ns (setF b x (b x - v)))) := upd_same
    have g2 : DGet (upd H d (.dK (dct ns (setF b x (b x - v))))) d (.str y) (some (.int (setF b x (b x - v) y))) := by
      have := DGet.k (k := (Sum.inr y : Key)) hd2
      rw [dct_val (ns := ns) hy] at this
      exact this
    have p2 := DPut.k (k := (Sum.inr y : Key)) (v := .int (setF b x (b x - v) y + v)) hd2 (small _)
    rw [dct_put hy, upd_upd] at p2
    exact ⟨_, rfl, _, rfl, d, _, rfl, g2, _, rfl, _, _, rfl, rfl, _, p2, k⟩
theorem at_code {z : Str} {i : Nat} {c : Nat} (h : z.cps[i]? = some c) : z.cps.toList[i]? = some c := by simpa using h
theorem scIsName : FnScope ["text", "sign"] ["text"] (defScope sIsName) := ⟨rfl, rfl, rfl, by decide +kernel, rfl, by decide +kernel, by decide +kernel⟩
theorem ok_isName (T : Txt K mg) : Good P w K mg base 1 "is_name" ["text"] spIsName := by
  obtain ⟨tl, hL⟩ := T.lets
  obtain ⟨td, hD⟩ := T.digs
  have mLen : mg "len" = none := T.bl _ (by simp [blNames])
  have mAll : mg "all" = none := T.bl _ (by simp [blNames])
  refine T.good (st := sIsName) (by simp [fn]) (by simp [fnNames]) scIsName (fun vs H Q E h => ?_) (fun _ _ _ _ _ _ us hl => match us, hl with | [_], _ => rfl) (fun cdv A outer s H vs Q E hr h => ?_)
  · obtain ⟨n, rfl, _⟩ := h
    rfl
  · obtain ⟨z, rfl, ⟨h1, h2, h3, h4⟩, k⟩ := h
    refine ⟨_, pss_cons (ps_if (PW.pt (pw_or (pt_not (pt_chain op_le op_le pe_int (pe_callB call_len_str (by rfl) mLen PySem.boot_len (pa_cons (pv 0) pa_nil)) pe_int))
        (pw_or1 (pt_cmpR op_notIn_sign (pe_ix ix_str (pv 0) pe_int (fun _ _ => rfl)) (pe_glob (v := .str letters) rfl hL ⟨_, rfl⟩) rfl)))) (pss_one (ps_ret pe_bl)) pss_nil)
      (pss_one (ps_ret (pe_callB (cr_all rfl) (by rfl) mAll (by decide +kernel) (pa_cons (pe_lc (own := [("sign", 1)]) rfl scIsName.nd (pi_str (pv 0)) (blkOk_by (N := ["text", "sign"]) (sc := defScope sIsName) (by decide +kernel))
        (fun _ _ _ _ _ => pg_name (i := 1) scIsName.nd rfl (Or.inl rfl)) (fun _ _ _ _ _ => pts_nil)
        (fun _ _ _ _ _ => pe_or (pe_cmpR op_in_sign (pv 1) (pe_glob (v := .str letters) rfl hL ⟨_, rfl⟩) rfl) (pe_one (pe_cmpR op_in_sign (pv 1) (pe_glob (v := .str digits) rfl hD ⟨_, rfl⟩) rfl)))) pa_nil)))), ?_⟩
    have hlen : z.length = z.cps.toList.length := by simp [Str.length]
    have hz : z.length ≤ sizeLine := by rw [hlen]; exact Nat.le_of_lt (small1000 (by omega))
    obtain ⟨c, hc⟩ : ∃ c, z.cps.toList[0]? = some c := ⟨_, List.getElem?_eq_getElem (by omega)⟩
    have d1 : decide ((1 : Int) ≤ (z.length : Int)) = true := decide_eq_true (by omega)
    have d2 : decide ((z.length : Int) ≤ 12) = true := decide_eq_true (by omega)
    have hcl := h3 c hc
    refine ⟨_, rfl, _, rfl, hz, _, _, rfl, rfl, _, rfl, ?_⟩
    rw [d1]
    refine iteT ⟨_, _, rfl, rfl, _, rfl, ?_⟩
    rw [d2]
    refine iteF ?_
    refine ⟨_, rfl, z, 0, c, rfl, rfl, hz, atI_nat hc, c, letters, rfl, rfl, _, rfl, ?_⟩
    rw [decide_eq_true hcl]
    refine iteF ?_
    refine ⟨_, rfl, z, rfl, fun D hD0 => ?_⟩
    refine lc_it (walk_str (z := z)) (fun i H' => Keep [] H H' ∧ H' D = some (.lst (List.replicate i (V.bl true)))) ⟨(Keep.refl _ H).new hD0, upd_same⟩ (fun _ _ _ _ => trivial) ?_ ?_
    · rintro i x H1 H2 hi ⟨hk, hd⟩ ⟨rfl, u, hu, rfl⟩
      have hi2 : i < 12 := by
        have e : z.cps.size = z.cps.toList.length := by simp
        omega
      have fin : ∃ acc, H2 D = some (.lst acc) ∧ acc.length < sizeLine ∧ (Keep [] H (upd H2 D (.lst (acc ++ [V.bl true]))) ∧ (upd H2 D (.lst (acc ++ [V.bl true]))) D = some (.lst (List.replicate (i + 1) (V.bl true)))) :=
        ⟨_, hd, by rw [List.length_replicate]; exact small1000 (by omega), hk.put (.inr hD0), by rw [upd_same, List.replicate_succ']⟩
      have hmem : u ∈ z.cps.toList := List.mem_of_getElem? (at_code hu)
      refine ⟨rfl, _, rfl, u, letters, rfl, rfl, _, rfl, ?_⟩
      by_cases hl : u ∈ letters.cps.toList
      · rw [decide_eq_true hl]
        exact iteT fin
      · rw [decide_eq_false hl]
        refine iteF ⟨_, rfl, u, digits, rfl, rfl, ?_⟩
        have hd2 := (h4 u hmem).resolve_left hl
        show ∃ acc, H2 D = some (.lst acc) ∧ acc.length < sizeLine ∧ (Keep [] H (upd H2 D (.lst (acc ++ [V.bl (decide (u ∈ digits.cps.toList))]))) ∧ (upd H2 D (.lst (acc ++ [V.bl (decide (u ∈ digits.cps.toList))]))) D = some (.lst (List.replicate (i + 1) (V.bl true))))
        rw [decide_eq_true hd2]
        exact fin
    · rintro H1 ⟨hk, hd⟩
      refine ⟨D, List.replicate z.cps.size true, rfl, SqL.of (by rw [hd, List.map_replicate]), ?_⟩
      have e : (List.replicate z.cps.size true).all id = true := by simp
      show Q (.bl ((List.replicate z.cps.size true).all id)) H1
      rw [e]
      exact k _ hk
theorem scFirst : FnScope ["balances", "floors", "name"] ["balances", "floors"] (defScope sFirstBelow) := ⟨rfl, rfl, rfl, by decide +kernel, rfl, by decide +kernel, by decide +kernel⟩
theorem upd_back {H : Hp} {a : Addr} {o u : HO} (h : H a = some o) : upd (upd H a u) a o = H := by
  rw [upd_upd]
  funext b
  by_cases e : b = a
  · subst e; rw [upd_same, h]
  · rw [upd_ne e]
theorem ok_first (T : Txt K mg) : Good P w K mg base 1 "first_below" ["balances", "floors"] spFirst := by
  refine T.good (st := sFirstBelow) (by simp [fn]) (by simp [fnNames]) scFirst (fun vs H Q E h => ?_) (fun _ _ _ _ _ _ us hl => match us, hl with | [_, _], _ => rfl) (fun cdv A outer s H vs Q E hr h => ?_)
  · obtain ⟨d, e, ns, b, f, rfl, _⟩ := h
    rfl
  · obtain ⟨d, e, ns, b, f, rfl, hde, hd, he, k1, k2⟩ := h
    have hu := hu_of hr
    refine ⟨_, pss_cons (ps_lock (ps_for PassesOwn.never rfl (pi_keys (pv 1)) (pg_name (i := 2) scFirst.nd rfl (Or.inl rfl))
        (pss_one (ps_if (pt_cmpR op_lt (pe_dget hu (pv 0) (pv 2) (fun _ _ => rfl)) (pe_dget hu (pv 1) (pv 2) (fun _ _ => rfl)) (nomark _)) (pss_one (ps_ret (pv 2))) pss_nil))))
      (pss_one (ps_ret pe_non)), ?_⟩
    refine ⟨e, _, he, trivial, fun od => ?_⟩
    refine ⟨_, rfl, e, od, rfl, .inl ⟨_, upd_same, ?_⟩⟩
    have hde2 : (upd H e (.frz od (.dK (dct ns f)))) d = some (.dK (dct ns b)) := by rw [upd_ne hde]; exact hd
    refine for_it (walk_keys (d := e) (o := od) (kvs := dct ns f)) (fun i σ H' => H' = upd H e (.frz od (.dK (dct ns f))) ∧ (∃ v, σ = [some (.ref d), some (.ref e), v]) ∧ ∀ j x, j < i → ns[j]? = some x → f x ≤ b x)
      ⟨rfl, ⟨none, rfl⟩, fun j x hj => absurd hj (Nat.not_lt_zero _)⟩ (fun i σ H' _ h => by rw [h.1]; exact upd_same) ?_ ?_
    · rintro i x σ H1 H2 hi ⟨rfl, ⟨v, rfl⟩, hall⟩ ⟨rfl, kk, vv, hk, rfl⟩
      rw [dct_length] at hi
      obtain ⟨x, hx⟩ : ∃ x, ns[i]? = some x := ⟨_, List.getElem?_eq_getElem hi⟩
      have hmem := List.mem_of_getElem? hx
      have e1 : (dct ns f)[i]? = some ((Sum.inr x : Key), V.int (f x)) := by
        unfold dct
        rw [List.getElem?_map, hx]
        rfl
      rw [e1] at hk
      have e2 := Option.some.inj hk
      have e3 : (Sum.inr x : Key) = kk := congrArg Prod.fst e2
      subst e3
      have g1 : DGet (upd H e (.frz od (.dK (dct ns f)))) d (.str x) (some (.int (b x))) := by
        have := DGet.k (k := (Sum.inr x : Key)) hde2
        rw [dct_val (ns := ns) hmem] at this
        exact this
      have g2 : DGet (upd H e (.frz od (.dK (dct ns f)))) e (.str x) (some (.int (f x))) := by
        have : DGet (upd H e (.frz od (.dK (dct ns f)))) e (kV (Sum.inr x)) (valV (dct ns f) (Sum.inr x : Key)) := .inl ⟨_, _, .inr ⟨od, upd_same⟩, rfl, rfl⟩
        rw [dct_val (ns := ns) hmem] at this
        exact this
      refine ⟨_, rfl, _, rfl, d, _, rfl, g1, _, rfl, _, rfl, e, _, rfl, g2, _, _, rfl, rfl, _, rfl, ?_⟩
      by_cases hlt : b x < f x
      · rw [decide_eq_true hlt]
        refine iteT ⟨_, rfl, upd_same, ?_⟩
        exact k1 x _ hmem hlt (upd_back he)
      · rw [decide_eq_false hlt]
        refine iteF ⟨rfl, ⟨_, rfl⟩, fun j y hj hy => ?_⟩
        by_cases hji : j = i
        · subst hji
          rw [hx] at hy
          have := Option.some.inj hy
          subst this
          omega
        · exact hall j y (by omega) hy
    · rintro σ H1 ⟨rfl, ⟨v, rfl⟩, hall⟩
      refine ⟨upd_same, ?_⟩
      refine k2 _ (fun x hx => ?_) (upd_back he)
      obtain ⟨j, hj⟩ := List.getElem?_of_mem hx
      exact hall j x (by rw [dct_length]; exact (List.getElem?_eq_some_iff.mp hj).1) hj
end
end K35
/-! Payments in the heap; the search of the last chosen one; the draws. -/
namespace K35
open PySem L2
open PySem.Spec PyProof.Rows
/-! ### payments in the heap -/
def ptup (p : Pay Str) : List V := [.str p.key, .str p.payer, .str p.payee, .int p.amt]
structure Pays (H : Hp) (as : List Addr) (ps : List (Pay Str)) : Prop where
  len : as.length = ps.length
  at_ : ∀ (i : Nat) (a : Addr) (p : Pay Str), as[i]? = some a → ps[i]? = some p → H a = some (.tup (ptup p))
theorem Pays.keep {S : List Addr} {H H1 : Hp} {as : List Addr} {ps : List (Pay Str)} (h : Pays H as ps) (k : Keep S H H1) (hS : ∀ s ∈ S, ∀ xs, H s ≠ some (.tup xs)) : Pays H1 as ps :=
  ⟨h.len, fun i a p h1 h2 => by
    have e := h.at_ i a p h1 h2
    exact k a _ e fun hm => hS a hm _ e⟩
theorem Pays.keep0 {H H1 : Hp} {as : List Addr} {ps : List (Pay Str)} (h : Pays H as ps) (k : Keep [] H H1) : Pays H1 as ps := h.keep k fun s hs => by simp at hs
theorem Pays.pay {H : Hp} {as : List Addr} {ps : List (Pay Str)} (h : Pays H as ps) {i : Nat} (hi : i < ps.length) : ∃ a p, as[i]? = some a ∧ ps[i]? = some p ∧ H a = some (.tup (ptup p)) := by
  have e1 : as[i]? = some (as[i]'(by rw [h.len]; exact hi)) := List.getElem?_eq_getElem _
  have e2 : ps[i]? = some ps[i] := List.getElem?_eq_getElem hi
  exact ⟨_, _, e1, e2, h.at_ i _ _ e1 e2⟩
/-- a list of the first n answers -/
def bls (f : Nat → Bool) (n : Nat) : List V := (List.range n).map fun i => V.bl (f i)
theorem bls_at {f : Nat → Bool} {n i : Nat} (h : i < n) : (bls f n)[i]? = some (.bl (f i)) := by
  unfold bls
  rw [List.getElem?_map, List.getElem?_range h]
  rfl
theorem bls_length (f : Nat → Bool) (n : Nat) : (bls f n).length = n := by unfold bls; rw [List.length_map, List.length_range]
theorem refs_at {as : List Addr} {i : Nat} {a : Addr} (h : as[i]? = some a) : (as.map V.ref)[i]? = some (.ref a) := by rw [List.getElem?_map, h]; rfl
/-! ### promises -/
/-- the place of the last chosen payment of x (there is one) -/
def spLast (K : PySem.W.Frag) : Sp := fun vs H Q _ => ∃ (q c : Addr) (as : List Addr) (ps : List (Pay Str)) (fs : Nat → Bool) (x : Str), vs = [.ref q, .ref c, .str x] ∧ SqL K H q (as.map V.ref) ∧ Pays H as ps ∧ H c = some (.lst (bls fs ps.length)) ∧ ps.length ≤ 1000 ∧
  (∃ i p, ps[i]? = some p ∧ p.payer = x ∧ fs i = true) ∧
  ∀ i p, ps[i]? = some p → p.payer = x → fs i = true → (∀ j q, i < j → ps[j]? = some q → q.payer = x → fs j = false) → Q (.int (i : Int)) H
section
variable {P : Program} {w : World} {K : PySem.W.Frag} {mg : Str → Option Value} {base : Heap}
theorem scLast : FnScope ["queue", "chosen", "name", "at"] ["queue", "chosen", "name"] (defScope sLastChosen) := ⟨rfl, rfl, rfl, by decide +kernel, rfl, by decide +kernel, by decide +kernel⟩
theorem ok_last (T : Txt K mg) : Good P w K mg base 1 "last_chosen" ["queue", "chosen", "name"] (spLast K) := by
  have mLen : mg "len" = none := T.bl _ (by simp [blNames])
  have mRan : mg "range" = none := T.bl _ (by simp [blNames])
  have mRev : mg "reversed" = none := T.bl _ (by simp [blNames])
  refine T.good (st := sLastChosen) (by simp [fn]) (by simp [fnNames]) scLast (fun vs H Q E h => ?_) (fun _ _ _ _ _ _ us hl => match us, hl with | [_, _, _], _ => rfl) (fun cdv A outer s H vs Q E hr h => ?_)
  · obtain ⟨q, c, as, ps, fs, x, rfl, _⟩ := h
    rfl
  · obtain ⟨q, c, as, ps, fs, x, rfl, hq, hP, hc, hz, ⟨i0, p0, hi0, hx0, hf0⟩, k⟩ := h
    refine ⟨_, pss_cons (ps_for PassesOwn.never rfl (pi_revR (by rfl) mRev (prg_1 (by rfl) mRan (pe_callB call_len_seq (by rfl) mLen PySem.boot_len (pa_cons (pv 0) pa_nil)))) (pg_name (i := 3) scLast.nd rfl (Or.inl rfl))
        (pss_one (ps_if (PW.pt (pw_and (pt_val (pe_ix ix_list (pv 1) (pv 3) (fun _ _ => rfl))) (pw_and1 (pt_cmpR op_eq (pe_ix ix_tup (pe_ix ix_list (pv 0) (pv 3) (fun _ _ => rfl)) pe_int (fun _ _ => rfl)) (pv 2) (nomark _))))) (pss_one (ps_ret (pv 3))) pss_nil)))
      (pss_one (ps_ret pe_non)), ?_⟩
    have hl : (as.map V.ref).length = ps.length := by rw [List.length_map, hP.len]
    refine ⟨_, rfl, q, _, rfl, .inl hq, _, rfl, by omega, by omega, by omega, by omega, ?_⟩
    have en : (((as.map V.ref).length : Int) - 0).toNat = ps.length := by omega
    rw [en]
    refine for_it walk_rangeC (fun i σ H' => H' = H ∧ (∃ v, σ = [some (.ref q), some (.ref c), some (.str x), v]) ∧ ∀ j p, ps.length - i ≤ j → ps[j]? = some p → p.payer = x → fs j = false)
      ⟨rfl, ⟨none, rfl⟩, fun j p hj hp => ?_⟩ (fun _ _ _ _ _ => trivial) ?_ ?_
    · have := (List.getElem?_eq_some_iff.mp hp).1
      omega
    · rintro i v σ H1 H2 hi ⟨rfl, ⟨u, rfl⟩, hall⟩ ⟨rfl, hv⟩
      obtain ⟨j, hj⟩ : ∃ j : Nat, j + i + 1 = ps.length := ⟨ps.length - 1 - i, by omega⟩
      have ev : (0 : Int) + (ps.length : Int) - 1 + (i : Int) * (-1) = (j : Int) := by omega
      have hv : v = V.int (j : Int) := hv.trans (congrArg V.int ev)
      subst hv
      obtain ⟨a, p, ha, hp, hobj⟩ := hP.pay (i := j) (by omega)
      refine ⟨_, rfl, _, rfl, c, _, _, _, rfl, rfl, SqL.of hc, atI_nat (bls_at (by omega)), fs j, rfl, ?_⟩
      by_cases hf : fs j = true
      · rw [hf]
        refine iteT ?_
        refine ⟨_, rfl, _, rfl, q, _, _, _, rfl, rfl, hq, atI_nat (refs_at ha), a, _, 1, .str p.payer, rfl, rfl, SqT.of hobj, rfl, _, rfl, rfl, _, rfl, ?_⟩
        by_cases hx : p.payer = x
        · have e : decide (V.str p.payer = V.str x) = true := decide_eq_true (by rw [hx])
          rw [e]
          refine iteT ⟨_, rfl, ?_⟩
          refine k j p hp hx hf fun j' q' hj' hq' hx' => hall j' q' (by omega) hq' hx'
        · have e : decide (V.str p.payer = V.str x) = false := decide_eq_false fun z => hx (V.str.inj z)
          rw [e]
          refine iteF ⟨rfl, ⟨_, rfl⟩, fun j' p' hj' hp' hx' => ?_⟩
          by_cases e2 : j' = j
          · subst e2
            rw [hp] at hp'
            have := Option.some.inj hp'
            subst this
            exact absurd hx' hx
          · exact hall j' p' (by omega) hp' hx'
      · have hf2 : fs j = false := by simpa using hf
        rw [hf2]
        refine iteF (iteF ⟨rfl, ⟨_, rfl⟩, fun j' p' hj' hp' hx' => ?_⟩)
        by_cases e2 : j' = j
        · subst e2
          exact hf2
        · exact hall j' p' (by omega) hp' hx'
    · rintro σ H1 ⟨rfl, ⟨u, rfl⟩, hall⟩
      have := hall i0 p0 (by omega) hi0 hx0
      rw [hf0] at this
      cases this
theorem scCell : FnScope ["_law_script", "_law_k"] ["_law_script", "_law_k"] (defScope sCell) := ⟨rfl, rfl, rfl, by decide +kernel, rfl, by decide +kernel, by decide +kernel⟩
theorem ok_cell (T : Txt K mg) : Good P w K mg base 1 "_law_cell" ["_law_script", "_law_k"] (spCell K) := by
  have mLen : mg "len" = none := T.bl _ (by simp [blNames])
  refine T.good (st := sCell) (by simp [fn]) (by simp [fnNames]) scCell (fun vs H Q E h => ?_) (fun _ _ _ _ _ _ us hl => match us, hl with | [_, _], _ => rfl) (fun cdv A outer s H vs Q E hr h => ?_)
  · obtain ⟨l, ns, n, rfl, _⟩ := h
    rfl
  · obtain ⟨l, ns, n, rfl, hl, hn, k⟩ := h
    refine ⟨_, pss_cons (ps_if (pt_cmpR op_lt (pv 1) (pe_callB call_len_seq (by rfl) mLen PySem.boot_len (pa_cons (pv 0) pa_nil)) (nomark _)) (pss_one (ps_ret (pe_ix ix_list (pv 0) (pv 1) (fun _ _ => rfl)))) pss_nil) (pss_one (ps_ret pe_int)), ?_⟩
    refine ⟨_, rfl, _, rfl, l, _, rfl, .inl hl, _, _, rfl, rfl, _, rfl, ?_⟩
    rw [List.length_map]
    refine ite2 (fun h => ?_) (fun h => ?_)
    · have h2 := of_decide_eq_true h
      have hi : n < ns.length := by omega
      refine ⟨_, rfl, _, rfl, l, _, _, .int ns[n], rfl, rfl, hl, atI_nat (by rw [List.getElem?_map, List.getElem?_eq_getElem hi]; rfl), k _⟩
    · exact k _
theorem scSource : FnScope ["_law_cell_here", "_law_k"] ["_law_cell_here", "_law_k"] (defScope sSource) := ⟨rfl, rfl, rfl, by decide +kernel, rfl, by decide +kernel, by decide +kernel⟩
theorem ok_source (T : Txt K mg) : Good P w K mg base 1 "_law_source" ["_law_cell_here", "_law_k"] spSource := by
  have mInt : mg "int" = none := T.bl _ (by simp [blNames])
  refine T.good (st := sSource) (by simp [fn]) (by simp [fnNames]) scSource (fun vs H Q E h => ?_) (fun _ _ _ _ _ _ us hl => match us, hl with | [_, _], _ => rfl) (fun cdv A outer s H vs Q E hr h => ?_)
  · obtain ⟨z, n, rfl, _⟩ := h
    rfl
  · obtain ⟨z, n, rfl, k⟩ := h
    refine ⟨_, pss_cons (ps_if (pt_cmpR op_ge (pv 0) (pe_op op_pow pe_int pe_int) (nomark _)) (pss_one (ps_ret (pe_lst (pa_cons (pe_op op_sub (pv 0) (pe_op op_pow pe_int pe_int)) (pa_cons (pe_op op_add (pv 1) pe_int) pa_nil))))) pss_nil)
      (pss_one (ps_ret (pe_lst (pa_cons pe_int (pa_cons (pe_op op_mod (pe_callTy call_int1 (by rfl) mInt PyProof.Rows.boot_int (pa_cons (pe_op op_add (pe_op op_add (pe_op op_mul (pv 0) pe_int) (pe_op op_mul (pv 1) pe_int)) pe_int) pa_nil)) pe_int) pa_nil))))), ?_⟩
    have hp : CPow 10 18 := ⟨by decide, by decide, by decide⟩
    refine ⟨_, rfl, _, _, rfl, rfl, hp, _, _, rfl, rfl, _, rfl, ?_⟩
    refine ite2 (fun h => ?_) (fun h => ?_)
    · refine ⟨_, rfl, _, _, rfl, rfl, hp, _, _, rfl, rfl, _, rfl, _, _, rfl, rfl, by show 2 ≤ sizeLine; decide, fun a ha => ?_⟩
      exact k a _ ha ⟨_, _, upd_same⟩ ((Keep.refl _ H).new ha)
    · refine ⟨_, rfl, _, _, rfl, rfl, .inr ⟨by decide, by decide⟩, _, rfl, _, _, rfl, rfl, .inr ⟨by decide, by decide⟩, _, _, rfl, rfl, _, _, rfl, rfl, .inl ⟨_, rfl, _, _, rfl, rfl, (by show (0 : Int) < 2147483647; decide), by show 2 ≤ sizeLine; decide, fun a ha => ?_⟩⟩
      exact k a _ ha ⟨_, _, upd_same⟩ ((Keep.refl _ H).new ha)
end
end K35
/-! The draws: numbers, names, pairs, payments. -/
namespace K35
open PySem L2
open PySem.Spec PyProof.Rows
section
variable {P : Program} {w : World} {K : PySem.W.Frag} {mg : Str → Option Value} {base : Heap}
theorem scPick : FnScope ["_law_source_here", "_law_many", "_law_picked", "_law_mixed"] ["_law_source_here", "_law_many"] (defScope sPick) := ⟨rfl, rfl, rfl, by decide +kernel, rfl, by decide +kernel, by decide +kernel⟩
theorem ok_pick (T : Txt K mg) : Good P w K mg base 1 "_law_pick" ["_law_source_here", "_law_many"] spPick := by
  have mInt : mg "int" = none := T.bl _ (by simp [blNames])
  refine T.good (st := sPick) (by simp [fn]) (by simp [fnNames]) scPick (fun vs H Q E h => ?_) (fun _ _ _ _ _ _ us hl => match us, hl with | [_, _], _ => rfl) (fun cdv A outer s H vs Q E hr h => ?_)
  · obtain ⟨a, m, rfl, _⟩ := h
    rfl
  · obtain ⟨a, m, rfl, ⟨x, y, ha⟩, h1, h2, k⟩ := h
    refine ⟨_, pss_cons (ps_if (pt_cmpR op_gt (pe_ix ix_list (pv 0) pe_int (fun _ _ => rfl)) pe_int (nomark _))
        (pss_cons (ps_set (i := 2) scPick.nd rfl (Or.inl rfl) (pe_op op_mod (pe_callTy call_int1 (by rfl) mInt PyProof.Rows.boot_int (pa_cons (pe_ix ix_list (pv 0) pe_int (fun _ _ => rfl)) pa_nil)) (pv 1)))
        (pss_cons (ps_asg (pe_op op_fdiv (pe_ix ix_list (pv 0) pe_int (fun _ _ => rfl)) (pv 1)) (pg_sub (pv 0) pe_int set_list)) (pss_one (ps_ret (pv 2))))) pss_nil)
      (pss_cons (ps_asg (pe_op op_mod (pe_callTy call_int1 (by rfl) mInt PyProof.Rows.boot_int (pa_cons (pe_op op_add (pe_op op_mul (pe_ix ix_list (pv 0) pe_int (fun _ _ => rfl)) pe_int) pe_int) pa_nil)) pe_int) (pg_sub (pv 0) pe_int set_list))
      (pss_cons (ps_set (i := 3) scPick.nd rfl (Or.inl rfl) (pe_op op_mod (pe_callTy call_int1 (by rfl) mInt PyProof.Rows.boot_int (pa_cons (pe_op op_add (pe_op op_add (pe_op op_mul (pe_ix ix_list (pv 0) pe_int (fun _ _ => rfl)) pe_int) (pe_op op_fdiv (pe_ix ix_list (pv 0) pe_int (fun _ _ => rfl)) pe_int)) pe_int) pa_nil)) pe_int))
      (pss_one (ps_ret (pe_op op_mod (pe_callTy call_int1 (by rfl) mInt PyProof.Rows.boot_int (pa_cons (pe_op op_fdiv (pv 3) pe_int) pa_nil)) (pv 1)))))), ?_⟩
    refine ⟨_, rfl, a, _, 0, _, rfl, rfl, SqL.of ha, rfl, _, _, rfl, rfl, _, rfl, ?_⟩
    refine ite2 (fun _ => ?_) (fun _ => ?_)
    · refine ⟨_, rfl, a, _, 0, _, rfl, rfl, SqL.of ha, rfl, .inl ⟨_, rfl, _, rfl, _, _, rfl, rfl, h1, ?_⟩⟩
      refine ⟨_, rfl, a, _, 0, _, rfl, rfl, SqL.of ha, rfl, _, rfl, _, _, rfl, rfl, ⟨h1, h2⟩, _, rfl, a, _, 0, 0, rfl, rfl, ha, rfl, _, rfl, ?_⟩
      exact k _ _ (Int.emod_nonneg _ (by omega)) (Int.emod_lt_of_pos _ h1) ⟨_, _, upd_same⟩ ((Keep.refl _ H).put (.inl (by simp)))
    · refine ⟨_, rfl, a, _, 1, _, rfl, rfl, SqL.of ha, rfl, _, _, rfl, rfl, .inr ⟨by decide, by decide⟩, _, _, rfl, rfl, .inl ⟨_, rfl, _, _, rfl, rfl, (by show (0 : Int) < 2147483647; decide), _, rfl, a, _, 1, 1, rfl, rfl, ha, rfl, ?_⟩⟩
      have ha2 : ∀ z : Int, (upd H a (.lst (([.int x, .int y] : List V).set 1 (.int z)))) a = some (.lst [.int x, .int z]) := fun z => upd_same
      refine ⟨_, rfl, a, _, 1, _, rfl, rfl, SqL.of (ha2 _), rfl, _, _, rfl, rfl, .inr ⟨by decide, by decide⟩, _, rfl, a, _, 1, _, rfl, rfl, SqL.of (ha2 _), rfl, _, _, rfl, rfl, ⟨by decide, by decide⟩, _, _, rfl, rfl, _, _, rfl, rfl,
        .inl ⟨_, rfl, _, _, rfl, rfl, (by show (0 : Int) < 2147483629; decide), _, rfl, _, _, rfl, rfl, ⟨by decide, by decide⟩, .inl ⟨_, rfl, _, rfl, _, _, rfl, rfl, h1, ?_⟩⟩⟩
      exact k _ _ (Int.emod_nonneg _ (by omega)) (Int.emod_lt_of_pos _ h1) ⟨_, _, ha2 _⟩ ((Keep.refl _ H).put (.inl (by simp)))
def signs : Str := "abcdefghijklmnopqrstuvwxyz0123456789"
theorem signs_eq : signs.cps.toList = letters.cps.toList ++ digits.cps.toList := by decide +kernel
theorem letters_len : letters.cps.toList.length = 26 := by decide +kernel
theorem digits_len : digits.cps.toList.length = 10 := by decide +kernel
theorem sign_letter {j : Nat} (h : j < 26) : ∃ c, signs.cps.toList[j]? = some c ∧ c ∈ letters.cps.toList := by
  have e : letters.cps.toList[j]? = some (letters.cps.toList[j]'(by rw [letters_len]; exact h)) := List.getElem?_eq_getElem _
  refine ⟨_, ?_, List.mem_of_getElem? e⟩
  rw [signs_eq, List.getElem?_append_left (by rw [letters_len]; exact h)]
  exact e
theorem sign_any {j : Nat} (h : j < 36) : ∃ c, signs.cps.toList[j]? = some c ∧ (c ∈ letters.cps.toList ∨ c ∈ digits.cps.toList) := by
  have hl : signs.cps.toList.length = 36 := by rw [signs_eq, List.length_append, letters_len, digits_len]
  have e : signs.cps.toList[j]? = some (signs.cps.toList[j]'(by rw [hl]; exact h)) := List.getElem?_eq_getElem _
  refine ⟨_, e, ?_⟩
  have all : ∀ c ∈ signs.cps.toList, c ∈ letters.cps.toList ∨ c ∈ digits.cps.toList := fun c hc => by
    rw [signs_eq] at hc
    exact List.mem_append.mp hc
  exact all _ (List.mem_of_getElem? e)
theorem app_codes (z : Str) (c : Nat) : (z ++ (⟨#[c]⟩ : Str)).cps.toList = z.cps.toList ++ [c] := by
  show (z.cps ++ #[c]).toList = _
  simp
theorem str_len (z : Str) : z.length = z.cps.toList.length := by simp [Str.length]
def spName : Sp := fun vs H Q _ => ∃ (a : Addr), vs = [.ref a] ∧ Src H a ∧ ∀ (z : Str) (H' : Hp), NameL z.cps.toList → Src H' a → Keep [a] H H' → Q (.str z) H'
theorem scName : FnScope ["_law_source_here", "_law_signs", "_law_name_here", "_law_k"] ["_law_source_here"] (defScope sName) := ⟨rfl, rfl, rfl, by decide +kernel, rfl, by decide +kernel, by decide +kernel⟩
theorem ok_name (T : Txt K mg) : Good P w K mg base 2 "_law_name" ["_law_source_here"] spName := by
  have mRan : mg "range" = none := T.bl _ (by simp [blNames])
  have gP : Good P w K mg base 1 "_law_pick" ["_law_source_here", "_law_many"] spPick := ok_pick T
  refine T.good (st := sName) (by simp [fn]) (by simp [fnNames]) scName (fun vs H Q E h => ?_) (fun _ _ _ _ _ _ us hl => match us, hl with | [_], _ => rfl) (fun cdv A outer s H vs Q E hr h => ?_)
  · obtain ⟨a, rfl, _⟩ := h
    rfl
  · obtain ⟨a, rfl, ha, k⟩ := h
    refine ⟨_, pss_cons (ps_set (i := 1) scName.nd rfl (Or.inl rfl) pe_str)
      (pss_cons (ps_set (i := 2) scName.nd rfl (Or.inl rfl) (pe_ix ix_str (pv 1) (pe_go gP hr (pa_cons (pv 0) (pa_cons pe_int pa_nil))) (fun _ _ => rfl)))
      (pss_cons (ps_for PassesOwn.never rfl (pi_range1 (by rfl) mRan (pa_cons (pe_go gP hr (pa_cons (pv 0) (pa_cons pe_int pa_nil))) pa_nil)) (pg_name (i := 3) scName.nd rfl (Or.inl rfl))
        (pss_one (ps_set (i := 2) scName.nd rfl (Or.inl rfl) (pe_op op_add_str (pv 2) (pe_ix ix_str (pv 1) (pe_go gP hr (pa_cons (pv 0) (pa_cons pe_int pa_nil))) (fun _ _ => rfl))))))
      (pss_one (ps_ret (pv 2))))), ?_⟩
    have hsl : signs.length ≤ sizeLine := by decide +kernel
    refine ⟨_, rfl, _, rfl, a, 26, rfl, ha, by decide, by decide, fun r H1 h0 h1 s1 k1 => ?_⟩
    obtain ⟨j, rfl⟩ := Int.eq_ofNat_of_zero_le h0
    obtain ⟨c, hc, hcl⟩ := sign_letter (j := j) (by omega)
    refine ⟨signs, _, c, rfl, rfl, hsl, atI_nat hc, ?_⟩
    refine ⟨_, rfl, a, 12, rfl, s1, by decide, by decide, fun r H2 h2 h3 s2 k2 => ?_⟩
    refine ⟨r, rfl, by omega, by omega, ?_⟩
    refine for_it (walk_range (lo := 0)) (fun i σ H' => Src H' a ∧ Keep [a] H H' ∧ ∃ (z : Str) (v : Option V), σ = [some (.ref a), some (.str signs), some (.str z), v] ∧ z.cps.toList.length = i + 1 ∧ NameL z.cps.toList)
      ⟨s2, k1.trans k2, _, none, rfl, rfl, ⟨Nat.le_refl 1, (by show 1 ≤ 12; decide), fun d hd => ?_, fun d hd => ?_⟩⟩ (fun _ _ _ _ _ => trivial) ?_ ?_
    · have : c = d := Option.some.inj hd
      subst this
      exact hcl
    · have : d = c := by simpa using hd
      subst this
      exact .inl hcl
    · rintro i v σ H3 H4 hi ⟨s3, k3, z, u, rfl, hl, n1, n2, n3, n4⟩ ⟨rfl, rfl⟩
      refine ⟨_, rfl, _, rfl, _, rfl, a, 36, rfl, s3, by decide, by decide, fun r' H5 h5 h6 s5 k5 => ?_⟩
      obtain ⟨j', rfl⟩ := Int.eq_ofNat_of_zero_le h5
      obtain ⟨d, hd, hdl⟩ := sign_any (j := j') (by omega)
      refine ⟨signs, _, d, rfl, rfl, hsl, atI_nat hd, z, _, rfl, rfl, ?_, ?_⟩
      · have e1 := str_len z
        have e2 : (⟨#[d]⟩ : Str).length = 1 := rfl
        rw [e2]
        exact Nat.le_of_lt (small1000 (by omega))
      refine ⟨s5, k3.trans k5, _, _, rfl, ?_, ?_⟩
      · rw [app_codes, List.length_append, hl]; rfl
      · rw [app_codes]
        refine ⟨by rw [List.length_append]; omega, by rw [List.length_append, List.length_singleton]; omega, fun e he => ?_, fun e he => ?_⟩
        · rw [List.getElem?_append_left (by omega)] at he
          exact n3 e he
        · rcases List.mem_append.mp he with q | q
          · exact n4 e q
          · rw [List.mem_singleton.mp q]
            exact hdl
    · rintro σ H3 ⟨s3, k3, z, u, rfl, hl, hz⟩
      exact ⟨_, rfl, k z _ hz s3 k3⟩
end
end K35
/-! The members' names. -/
namespace K35
open PySem L2
open PySem.Spec PyProof.Rows
theorem Src.put {H : Hp} {a p : Addr} {o : HO} (h : Src H a) (ne : a ≠ p) : Src (upd H p o) a := by
  obtain ⟨x, y, e⟩ := h
  exact ⟨x, y, by rw [upd_ne ne]; exact e⟩
theorem Src.keep {S : List Addr} {H H1 : Hp} {a : Addr} (h : Src H a) (k : Keep S H H1) (n : a ∉ S) : Src H1 a := by
  obtain ⟨x, y, e⟩ := h
  exact ⟨x, y, k a _ e n⟩
theorem Src.ne {H : Hp} {a p : Addr} (h : Src H a) (hp : H p = none) : a ≠ p := by
  obtain ⟨x, y, e⟩ := h
  exact ne_of_none e hp
theorem cut_codes (z : Str) (k : Nat) : (cutS z none (some (k : Int))).cps.toList = z.cps.toList.take k := by
  unfold cutS
  have e1 : HT.sIx z.length 0 none = 0 := rfl
  have e2 : HT.sIx z.length z.length (some (k : Int)) = min k z.length := HT.sIx_nat _ _ _
  rw [e1, e2, str_len]
  show (List.take (min k z.cps.toList.length - 0) (z.cps.toList.drop 0)).toArray.toList = _
  rw [Nat.sub_zero, List.drop_zero]
  show List.take (min k z.cps.toList.length) z.cps.toList = _
  by_cases h : k ≤ z.cps.toList.length
  · rw [Nat.min_eq_left h]
  · rw [Nat.min_eq_right (by omega), List.take_of_length_le (Nat.le_refl _), List.take_of_length_le (by omega)]
theorem app_codes2 (z u : Str) : (z ++ u).cps.toList = z.cps.toList ++ u.cps.toList := by
  show (z.cps ++ u.cps).toList = _
  simp
/-- a beginning of a name -/
def NameP (l : List Nat) : Prop := l.length ≤ 12 ∧ (∀ c, l[0]? = some c → c ∈ letters.cps.toList) ∧ ∀ c ∈ l, c ∈ letters.cps.toList ∨ c ∈ digits.cps.toList
theorem NameL.pre {l : List Nat} (h : NameL l) (k : Nat) : NameP (l.take k) := by
  obtain ⟨h1, h2, h3, h4⟩ := h
  refine ⟨by rw [List.length_take]; omega, fun c hc => ?_, fun c hc => h4 c (List.mem_of_mem_take hc)⟩
  rw [List.getElem?_take] at hc
  split at hc
  · exact h3 c hc
  · cases hc
theorem NameL.glue {l m : List Nat} (hl : NameP l) (hm : NameL m) : NameL ((l ++ m).take 12) := by
  obtain ⟨l1, l2, l3⟩ := hl
  obtain ⟨m1, m2, m3, m4⟩ := hm
  refine ⟨by rw [List.length_take, List.length_append]; omega, by rw [List.length_take]; omega, fun c hc => ?_, fun c hc => ?_⟩
  · rw [List.getElem?_take, if_pos (by omega)] at hc
    by_cases hn : 0 < l.length
    · rw [List.getElem?_append_left hn] at hc
      exact l2 c hc
    · rw [List.getElem?_append_right (by omega)] at hc
      have e : 0 - l.length = 0 := by omega
      rw [e] at hc
      exact m3 c hc
  · rcases List.mem_append.mp (List.mem_of_mem_take hc) with q | q
    · exact l3 c q
    · exact m4 c q
/-! ### the spare names -/
def spares : List Str := ["a", "b", "c", "d", "e", "f", "g"]
theorem spares_nd : spares.Nodup := by decide +kernel
theorem spares_ok : ∀ z ∈ spares, NameL z.cps.toList := by
  have one : ∀ z ∈ spares, ∃ c, z.cps.toList = [c] ∧ c ∈ letters.cps.toList := by
    have h : (spares.all fun z => match z.cps.toList with
      | [c] => decide (c ∈ letters.cps.toList)
      | _ => false) = true := by decide +kernel
    intro z hz
    have q := List.all_eq_true.mp h z hz
    cases e : z.cps.toList with
    | nil => rw [e] at q; cases q
    | cons c r =>
      cases r with
      | nil =>
        rw [e] at q
        exact ⟨c, rfl, of_decide_eq_true q⟩
      | cons _ _ => rw [e] at q; cases q
  intro z hz
  obtain ⟨c, e, hc⟩ := one z hz
  rw [e]
  refine ⟨Nat.le_refl 1, (by show 1 ≤ 12; decide), fun d hd => ?_, fun d hd => ?_⟩
  · have : c = d := Option.some.inj hd
    subst this
    exact hc
  · have : d = c := by simpa using hd
    subst this
    exact .inl hc
theorem len_of_sub {A : Type} [DecidableEq A] : ∀ {xs ys : List A}, xs.Nodup → (∀ x ∈ xs, x ∈ ys) → xs.length ≤ ys.length
  | [], _, _, _ => Nat.zero_le _
  | x :: r, ys, nd, h => by
    obtain ⟨h1, h2⟩ := List.nodup_cons.mp nd
    have hx := h x List.mem_cons_self
    have ih := len_of_sub (xs := r) (ys := ys.erase x) h2 fun y hy => by
      have hne : y ≠ x := fun q => h1 (q ▸ hy)
      exact (List.mem_erase_of_ne hne).mpr (h y (List.mem_cons_of_mem _ hy))
    have e := List.length_erase_of_mem hx
    have hp : 0 < ys.length := List.length_pos_of_mem hx
    rw [List.length_cons]
    omega
theorem spare_left {ns : List Str} (h : ns.length < 7) : ∃ z, z ∈ spares ∧ z ∉ ns := by
  by_cases q : ∃ z, z ∈ spares ∧ z ∉ ns
  · exact q
  · have all : ∀ z ∈ spares, z ∈ ns := fun z hz => by
      by_cases hn : z ∈ ns
      · exact hn
      · exact absurd ⟨z, hz, hn⟩ q
    have := len_of_sub spares_nd all
    have e : spares.length = 7 := rfl
    omega
def left (ns : List Str) (l : List Str) : List Str := l.filter fun z => !decide (z ∈ ns)
theorem left_snoc_yes {ns l : List Str} {z : Str} (h : z ∉ ns) : left ns (l ++ [z]) = left ns l ++ [z] := by
  unfold left
  rw [List.filter_append, List.filter_cons, if_pos (by simp [h])]
  rfl
theorem left_snoc_no {ns l : List Str} {z : Str} (h : z ∈ ns) : left ns (l ++ [z]) = left ns l := by
  unfold left
  rw [List.filter_append, List.filter_cons, if_neg (by simp [h])]
  simp
theorem inV_strs (z : Str) : ∀ ns : List Str, inV (.str z) (ns.map V.str) = decide (z ∈ ns)
  | [] => rfl
  | n :: r => by
    have ih := inV_strs z r
    unfold inV at ih ⊢
    rw [List.map_cons, List.any_cons, ih]
    show ((n == z) || decide (z ∈ r)) = decide (z ∈ n :: r)
    by_cases h : n = z
    · subst h
      simp
    · have h2 : ¬ z = n := fun q => h q.symm
      simp [h, h2]
theorem flat_strs (ns : List Str) : (ns.map V.str).all flatV = true := by
  rw [List.all_eq_true]
  intro x hx
  obtain ⟨z, _, rfl⟩ := List.mem_map.mp hx
  rfl
theorem strs_at {ns : List Str} {i : Nat} {z : Str} (h : ns[i]? = some z) : (ns.map V.str)[i]? = some (.str z) := by rw [List.getElem?_map, h]; rfl
def spNames : Sp := fun vs H Q _ => ∃ (a : Addr) (m : Nat), vs = [.ref a, .int (m : Int)] ∧ Src H a ∧ m ≤ 6 ∧
  ∀ (l : Addr) (ns : List Str) (H' : Hp), H l = none → H' l = some (.lst (ns.map V.str)) → ns.length = m → ns.Nodup → (∀ z ∈ ns, NameL z.cps.toList) → Src H' a → Keep [a] H H' → Q (.ref l) H'
section
variable {P : Program} {w : World} {K : PySem.W.Frag} {mg : Str → Option Value} {base : Heap}
abbrev nNames : List Str := ["_law_source_here", "_law_many", "_law_names_here", "_law_common", "_law_k", "_law_name_here", "_law_spare"]
theorem scNames : FnScope nNames ["_law_source_here", "_law_many"] (defScope sNames) := ⟨rfl, rfl, rfl, by decide +kernel, rfl, by decide +kernel, by decide +kernel⟩
theorem ok_names (T : Txt K mg) : Good P w K mg base 3 "_law_names" ["_law_source_here", "_law_many"] spNames := by
  have mRan : mg "range" = none := T.bl _ (by simp [blNames])
  have gP : Good P w K mg base 1 "_law_pick" ["_law_source_here", "_law_many"] spPick := ok_pick T
  have gN : Good P w K mg base 2 "_law_name" ["_law_source_here"] spName := ok_name T
  refine T.good (st := sNames) (by simp [fn]) (by simp [fnNames]) scNames (fun vs H Q E h => ?_) (fun _ _ _ _ _ _ us hl => match us, hl with | [_, _], _ => rfl) (fun cdv A outer s H vs Q E hr h => ?_)
  · obtain ⟨a, m, rfl, _⟩ := h
    rfl
  · obtain ⟨a, m, rfl, ha, hm, k⟩ := h
    have hr1 : Room 1 _ := hr.mono (by decide)
    refine ⟨_, pss_cons (ps_set (i := 2) scNames.nd rfl (Or.inr rfl) (pe_lst pa_nil))
      (pss_cons (ps_set (i := 3) scNames.nd rfl (Or.inl rfl) (pe_slice sl_str (pe_go gN hr (pa_cons (pv 0) pa_nil)) po_none (po_some (pe_go gP hr1 (pa_cons (pv 0) (pa_cons pe_int pa_nil))))))
      (pss_cons (ps_for PassesOwn.never rfl (pi_range1 (by rfl) mRan (pa_cons (pv 1) pa_nil)) (pg_name (i := 4) scNames.nd rfl (Or.inl rfl))
        (pss_cons (ps_set (i := 5) scNames.nd rfl (Or.inl rfl) (pe_slice sl_str (pe_op op_add_str (pv 3) (pe_go gN hr (pa_cons (pv 0) pa_nil))) po_none (po_some pe_int)))
        (pss_cons (ps_if (PW.pt (pw_or (pt_cmpR op_in_seq (pv 5) (pv 2) rfl) (pw_or1 (pt_cmpR op_eq (pv 5) pe_str (nomark _)))))
          (pss_one (ps_set (i := 5) scNames.nd rfl (Or.inl rfl) (pe_ix ix_list (pe_lc (own := [("_law_spare", 6)]) rfl scNames.nd
            (pi_list (pe_lst (pa_cons pe_str (pa_cons pe_str (pa_cons pe_str (pa_cons pe_str (pa_cons pe_str (pa_cons pe_str (pa_cons pe_str pa_nil))))))))) (blkOk_by (N := nNames) (sc := defScope sNames) (by decide +kernel))
            (fun _ _ _ _ _ => pg_name (i := 6) scNames.nd rfl (Or.inl rfl)) (fun _ _ _ _ _ => pts_one (pt_cmpR (r := rIn K true) op_notIn_seq (pv 6) (pv 2) rfl)) (fun _ _ _ _ _ => pv 6)) pe_int (fun _ _ => rfl)))) pss_nil)
        (pss_one (ps_expr (pe_bm PySem.F.plainAttrs_list PySem.F.slot_list_append PySem.F.type_list_append mt_append (pv 2) (pa_cons (pv 5) pa_nil)))))))
      (pss_one (ps_ret (pv 2))))), ?_⟩
    refine ⟨Nat.zero_le _, fun L hL => ?_⟩
    have haL : a ≠ L := ha.ne hL
    refine ⟨_, rfl, a, rfl, ha.put haL, fun z0 H1 n0 s1 k1 => ?_⟩
    refine ⟨_, rfl, a, 9, rfl, s1, by decide, by decide, fun r H2 h0 h9 s2 k2 => ?_⟩
    obtain ⟨r, rfl⟩ := Int.eq_ofNat_of_zero_le h0
    have hz0 : z0.length ≤ sizeLine := by
      rw [str_len]
      have := n0.2.1
      exact Nat.le_of_lt (small1000 (by omega))
    refine ⟨_, rfl, z0, rfl, hz0, ?_⟩
    have hcm : NameP (cutS z0 none (some (r : Int))).cps.toList := by
      rw [cut_codes]
      exact n0.pre r
    have hLS : L ∉ [a] := by simp; exact haL.symm
    have e2 : H2 L = some (.lst (([] : List Str).map V.str)) := k2 L _ (k1 L _ upd_same hLS) hLS
    have kk2 : Keep [a] H H2 := (((Keep.refl [a] H).new hL).trans k1).trans k2
    refine ⟨_, rfl, (m : Int), rfl, by omega, by omega, ?_⟩
    refine for_it (walk_range (lo := 0)) (fun i σ H' => Src H' a ∧ Keep [a] H H' ∧ ∃ (ns : List Str) (v4 v5 v6 : Option V),
        σ = [some (.ref a), some (.int (m : Int)), some (.ref L), some (.str (cutS z0 none (some (r : Int)))), v4, v5, v6] ∧ H' L = some (.lst (ns.map V.str)) ∧ ns.length = i ∧ ns.Nodup ∧ ∀ z ∈ ns, NameL z.cps.toList)
      ⟨s2, kk2, [], none, none, none, rfl, e2, rfl, List.nodup_nil, fun z hz => by simp at hz⟩ (fun _ _ _ _ _ => trivial) ?_ ?_
    · rintro i v σ H3 H4 hi ⟨s3, k3, ns, v4, v5, v6, rfl, hl, hlen, nd, hok⟩ ⟨rfl, rfl⟩
      refine ⟨_, rfl, _, rfl, a, rfl, s3, fun z1 H5 n1 s5 k5 => ?_⟩
      have hz1 : z1.length ≤ 12 := by rw [str_len]; exact n1.2.1
      have hcl : (cutS z0 none (some (r : Int))).length ≤ 12 := by rw [str_len]; exact hcm.1
      refine ⟨_, _, rfl, rfl, Nat.le_of_lt (small1000 (by omega)), 12, rfl, _, rfl, ?_, ?_⟩
      · rw [str_len, app_codes2, List.length_append, ← str_len, ← str_len]
        exact Nat.le_of_lt (small1000 (by omega))
      generalize hz2 : cutS (cutS z0 none (some (r : Int)) ++ z1) none (some 12) = z2
      have n2 : NameL z2.cps.toList := by
        rw [← hz2]
        have e := cut_codes (cutS z0 none (some (r : Int)) ++ z1) 12
        rw [show ((12 : Nat) : Int) = 12 from rfl] at e
        rw [e, app_codes2]
        exact NameL.glue hcm n1
      have hl5 : H5 L = some (.lst (ns.map V.str)) := k5 L _ hl hLS
      have kk5 := k3.trans k5
      -- what follows once the name is new
      have fin : ∀ (z : Str) (H6 : Hp) (u4 u6 : Option V), z ∉ ns → NameL z.cps.toList → Src H6 a → Keep [a] H H6 → H6 L = some (.lst (ns.map V.str)) →
          tDrop (tBM K "list" rAppend (tVar 2) (tCons (tVar 5) tNil)) { nx := fun σ H' => Src H' a ∧ Keep [a] H H' ∧ ∃ (ns : List Str) (v4 v5 v6 : Option V),
        σ = [some (.ref a), some (.int (m : Int)), some (.ref L), some (.str (cutS z0 none (some (r : Int)))), v4, v5, v6] ∧ H' L = some (.lst (ns.map V.str)) ∧ ns.length = i + 1 ∧ ns.Nodup ∧ ∀ z ∈ ns, NameL z.cps.toList, rt := Q }
            [some (.ref a), some (.int (m : Int)), some (.ref L), some (.str (cutS z0 none (some (r : Int)))), u4, some (.str z), u6] H6 := by
        intro z H6 u4 u6 hz nz s6 k6 hl6
        refine ⟨_, rfl, .inl ⟨rfl, _, SqL.of hl6⟩, _, rfl, L, _, _, rfl, rfl, hl6, by rw [List.length_map]; exact small1000 (by omega), ?_⟩
        refine ⟨s6.put haL, k6.put (.inr hL), ns ++ [z], _, _, _, rfl, ?_, by rw [List.length_append, hlen]; rfl, ?_, fun y hy => ?_⟩
        · rw [upd_same, List.map_append]; rfl
        · exact nd_snoc nd hz
        · rcases List.mem_append.mp hy with q | q
          · exact hok y q
          · rw [List.mem_singleton.mp q]; exact nz
      -- the way on which a spare name is taken
      have spare : ∀ (u4 u6 : Option V), tAsg (tOp (rIxL K) (tLc (iList K (tLst (tCons (tC (.str "a")) (tCons (tC (.str "b")) (tCons (tC (.str "c")) (tCons (tC (.str "d")) (tCons (tC (.str "e")) (tCons (tC (.str "f")) (tCons (tC (.str "g")) tNil))))))))) (gName 6)
            (tTest (tOp (rIn K true) (tVar 6) (tVar 2))) (tVar 6) [6]) (tC (.int 0))) (gName 5)
          { nx := tDrop (tBM K "list" rAppend (tVar 2) (tCons (tVar 5) tNil)) { nx := fun σ H' => Src H' a ∧ Keep [a] H H' ∧ ∃ (ns : List Str) (v4 v5 v6 : Option V),
        σ = [some (.ref a), some (.int (m : Int)), some (.ref L), some (.str (cutS z0 none (some (r : Int)))), v4, v5, v6] ∧ H' L = some (.lst (ns.map V.str)) ∧ ns.length = i + 1 ∧ ns.Nodup ∧ ∀ z ∈ ns, NameL z.cps.toList, rt := Q }, rt := Q }
            [some (.ref a), some (.int (m : Int)), some (.ref L), some (.str (cutS z0 none (some (r : Int)))), u4, some (.str z2), u6] H5 := by
        intro u4 u6
        refine ⟨by show 7 ≤ sizeLine; decide, fun S hS => ?_⟩
        have hSL : S ≠ L := fun q => by rw [q, hl5] at hS; cases hS
        refine ⟨S, rfl, ⟨spares.map V.str, SqL.of upd_same⟩, fun D hD => ?_⟩
        have hDS : D ≠ S := fun q => by rw [q, upd_same] at hD; cases hD
        have hD5 : H5 D = none := by rw [upd_ne hDS] at hD; exact hD
        have hDL : D ≠ L := fun q => by rw [q, hl5] at hD5; cases hD5
        refine lc_it (walk_list (K := K) (a := S) (xs := spares.map V.str)) (fun j H' => Keep [] H5 H' ∧ H' S = some (.lst (spares.map V.str)) ∧ H' D = some (.lst ((left ns (spares.take j)).map V.str)))
          ⟨((Keep.refl [] H5).new hS).new (by rw [upd_ne hDS]; exact hD5), (by rw [upd_ne hDS.symm, upd_same]; rfl), by rw [upd_same]; rfl⟩ (fun _ _ _ h => SqL.of h.2.1) ?_ ?_
        · rintro j x H6 H7 hj ⟨k6, hS6, hD6⟩ ⟨rfl, hx⟩
          rw [List.length_map] at hj
          have ej : spares[j]? = some spares[j] := List.getElem?_eq_getElem hj
          rw [strs_at ej] at hx
          have hx := Option.some.inj hx
          subst hx
          generalize hy : spares[j] = y at ej
          have hl7 : H7 L = some (.lst (ns.map V.str)) := k6 L _ hl5 (by simp)
          refine ⟨rfl, _, rfl, _, rfl, L, _, rfl, .inl (SqL.of hl7), rfl, flat_strs _, _, rfl, ?_⟩
          rw [inV_strs]
          have et : spares.take (j + 1) = spares.take j ++ [y] := by rw [List.take_add_one, ej]; rfl
          by_cases hm : y ∈ ns
          · have ed : (if true = true then !decide (y ∈ ns) else decide (y ∈ ns)) = false := by simp [hm]
            rw [ed]
            refine iteF ⟨k6, hS6, ?_⟩
            rw [hD6, et, left_snoc_no hm]
          · have ed : (if true = true then !decide (y ∈ ns) else decide (y ∈ ns)) = true := by simp [hm]
            rw [ed]
            refine iteT ⟨_, rfl, _, hD6, ?_, ?_⟩
            · rw [List.length_map]
              have h1 : (left ns (spares.take j)).length ≤ (spares.take j).length := List.length_filter_le _ _
              have h2 : (spares.take j).length ≤ 7 := by rw [List.length_take]; exact Nat.min_le_right _ _
              exact small1000 (by omega)
            · refine ⟨k6.put (.inr hD5), by rw [upd_ne hDS.symm]; exact hS6, ?_⟩
              rw [upd_same, et, left_snoc_yes hm, List.map_append]
              rfl
        · rintro H6 ⟨k6, hS6, hD6⟩
          rw [List.length_map, List.take_length] at hD6
          obtain ⟨y, hy1, hy2⟩ := spare_left (ns := ns) (by omega)
          have hne : 0 < (left ns spares).length := List.length_pos_of_mem (List.mem_filter.mpr ⟨hy1, by simp [hy2]⟩)
          have e0 : (left ns spares)[0]? = some ((left ns spares)[0]) := List.getElem?_eq_getElem hne
          generalize hz : (left ns spares)[0] = z at e0
          have hmem := List.mem_of_getElem? e0
          obtain ⟨hz1, hz2⟩ := List.mem_filter.mp hmem
          have hz3 : z ∉ ns := by simpa using hz2
          refine ⟨D, _, 0, .str z, rfl, rfl, SqL.of hD6, atI_nat (strs_at e0), ?_⟩
          refine fin z H6 _ _ hz3 (spares_ok z hz1) (s5.keep k6 (by simp)) (kk5.trans (k6.mono (by simp))) (k6 L _ hl5 (by simp))
      refine ⟨_, rfl, _, rfl, L, _, rfl, .inl (SqL.of hl5), rfl, flat_strs _, _, rfl, ?_⟩
      rw [inV_strs]
      by_cases hin : z2 ∈ ns
      · have ed : (if false = true then !decide (z2 ∈ ns) else decide (z2 ∈ ns)) = true := by simp [hin]
        rw [ed]
        exact iteT (spare _ _)
      · have ed : (if false = true then !decide (z2 ∈ ns) else decide (z2 ∈ ns)) = false := by simp [hin]
        rw [ed]
        refine iteF ⟨_, rfl, rfl, _, rfl, ?_⟩
        refine ite2 (fun _ => ?_) (fun _ => ?_)
        · exact spare _ _
        · exact fin z2 H5 _ _ hin n2 s5 kk5 hl5
    · rintro σ H3 ⟨s3, k3, ns, v4, v5, v6, rfl, hl, hlen, nd, hok⟩
      exact ⟨_, rfl, k L ns _ hL hl hlen nd hok s3 k3⟩
end
end K35
/-! Pairs of members, drawn payments. -/
namespace K35
open PySem L2
open PySem.Spec PyProof.Rows
def spPairs : Sp := fun vs H Q _ => ∃ (a : Addr) (m : Nat), vs = [.ref a, .int (m : Int)] ∧ Src H a ∧ 2 ≤ m ∧ m ≤ 6 ∧
  ∀ (l : Addr) (i j : Nat) (H' : Hp), H l = none → H' l = some (.lst [.int (i : Int), .int (j : Int)]) → i < m → j < m → i ≠ j → Src H' a → Keep [a] H H' → Q (.ref l) H'
theorem shift_ne {i r m : Nat} (hi : i < m) (hr : r + 1 < m) : (i + 1 + r) % m < m ∧ i ≠ (i + 1 + r) % m := by
  refine ⟨Nat.mod_lt _ (by omega), ?_⟩
  by_cases h : i + 1 + r < m
  · rw [Nat.mod_eq_of_lt h]; omega
  · rw [Nat.mod_eq_sub_mod (by omega), Nat.mod_eq_of_lt (by omega)]; omega
/-- the text of a small number -/
def kstr (k : Nat) : Str := (toString (k : Int) : String)
def kc (k : Nat) : List Nat := (kstr k).cps.toList
theorem kc_len : ∀ k, k < 64 → (kc k).length ≤ 2 := by decide +kernel
theorem kc_inj : ∀ k, k < 64 → ∀ j, j < 64 → kc k = kc j → k = j := by decide +kernel
/-- a payment's key: a name, a stroke, its place -/
def KeyOk (k : Nat) (z : Str) : Prop := ∃ n, NameL n ∧ z.cps.toList = n ++ 47 :: kc k
theorem no_stroke {n : List Nat} (h : NameL n) : 47 ∉ n := fun m => by
  have h1 : 47 ∉ letters.cps.toList := by decide +kernel
  have h2 : 47 ∉ digits.cps.toList := by decide +kernel
  exact (h.2.2.2 47 m).elim h1 h2
theorem stroke_split : ∀ {n m s t : List Nat}, 47 ∉ n → 47 ∉ m → n ++ 47 :: s = m ++ 47 :: t → s = t
  | [], [], s, t, _, _, h => by simpa using h
  | [], b :: m, s, t, _, hm, h => by
    have e : 47 = b := (List.cons.inj h).1
    exact absurd (by rw [← e]; exact List.mem_cons_self) hm
  | a :: n, [], s, t, hn, _, h => by
    have e : a = 47 := (List.cons.inj h).1
    exact absurd (by rw [e]; exact List.mem_cons_self) hn
  | a :: n, b :: m, s, t, hn, hm, h => stroke_split (fun q => hn (List.mem_cons_of_mem _ q)) (fun q => hm (List.mem_cons_of_mem _ q)) (List.cons.inj h).2
theorem key_ne {j k : Nat} {y z : Str} (hj : j < 64) (hk : k < 64) (h1 : KeyOk j y) (h2 : KeyOk k z) (ne : j ≠ k) : y ≠ z := by
  rintro rfl
  obtain ⟨n, hn, e1⟩ := h1
  obtain ⟨m, hm, e2⟩ := h2
  rw [e1] at e2
  exact ne (kc_inj j hj k hk (stroke_split (no_stroke hn) (no_stroke hm) e2))
theorem key_len {k : Nat} {z : Str} (hk : k < 64) (h : KeyOk k z) : 1 ≤ z.length ∧ z.length ≤ 15 := by
  obtain ⟨n, hn, e⟩ := h
  have := hn.2.1
  have := kc_len k hk
  rw [str_len, e, List.length_append, List.length_cons]
  omega
def spPayment (K : PySem.W.Frag) : Sp := fun vs H Q _ => ∃ (a : Addr) (k : Nat) (l : Addr) (ns : List Str) (sc : Int), vs = [.ref a, .int (k : Int), .ref l, .int sc] ∧ Src H a ∧ l ≠ a ∧ SqL K H l (ns.map V.str) ∧ ns.Nodup ∧ 2 ≤ ns.length ∧ ns.length ≤ 6 ∧ k < 64 ∧ 0 < sc ∧ sc ≤ 1000000000 ∧
  ∀ (t : Addr) (p : Pay Str) (H' : Hp), H t = none → H' t = some (.tup (ptup p)) → p.payer ∈ ns → p.payee ∈ ns → p.payer ≠ p.payee → 1 ≤ p.amt → p.amt ≤ 1000000000 → KeyOk k p.key → Src H' a → Keep [a] H H' → Q (.ref t) H'
section
variable {P : Program} {w : World} {K : PySem.W.Frag} {mg : Str → Option Value} {base : Heap}
theorem scPairs : FnScope ["_law_source_here", "_law_many", "_law_payer"] ["_law_source_here", "_law_many"] (defScope sPairs) := ⟨rfl, rfl, rfl, by decide +kernel, rfl, by decide +kernel, by decide +kernel⟩
theorem ok_pairs (T : Txt K mg) : Good P w K mg base 2 "_law_pairs" ["_law_source_here", "_law_many"] spPairs := by
  have mInt : mg "int" = none := T.bl _ (by simp [blNames])
  have gP : Good P w K mg base 1 "_law_pick" ["_law_source_here", "_law_many"] spPick := ok_pick T
  refine T.good (st := sPairs) (by simp [fn]) (by simp [fnNames]) scPairs (fun vs H Q E h => ?_) (fun _ _ _ _ _ _ us hl => match us, hl with | [_, _], _ => rfl) (fun cdv A outer s H vs Q E hr h => ?_)
  · obtain ⟨a, m, rfl, _⟩ := h
    rfl
  · obtain ⟨a, m, rfl, ha, hm1, hm2, k⟩ := h
    refine ⟨_, pss_cons (ps_set (i := 2) scPairs.nd rfl (Or.inl rfl) (pe_go gP hr (pa_cons (pv 0) (pa_cons (pv 1) pa_nil))))
      (pss_one (ps_ret (pe_lst (pa_cons (pv 2) (pa_cons (pe_op op_mod (pe_callTy call_int1 (by rfl) mInt PyProof.Rows.boot_int (pa_cons (pe_op op_add (pe_op op_add (pv 2) pe_int) (pe_go gP hr (pa_cons (pv 0) (pa_cons (pe_op op_sub (pv 1) pe_int) pa_nil)))) pa_nil)) (pv 1)) pa_nil))))), ?_⟩
    refine ⟨_, rfl, _, rfl, a, _, rfl, ha, by omega, by omega, fun r H1 h0 h1 s1 k1 => ?_⟩
    obtain ⟨i, rfl⟩ := Int.eq_ofNat_of_zero_le h0
    refine ⟨_, rfl, _, rfl, _, _, rfl, rfl, _, rfl, _, rfl, _, _, rfl, rfl, a, _, rfl, s1, by omega, by omega, fun r H2 h2 h3 s2 k2 => ?_⟩
    obtain ⟨q, rfl⟩ := Int.eq_ofNat_of_zero_le h2
    refine ⟨_, _, rfl, rfl, .inl ⟨_, rfl, _, rfl, _, _, rfl, rfl, (by show (0 : Int) < (m : Int); omega), by show 2 ≤ sizeLine; decide, fun l hl => ?_⟩⟩
    have e : ((i : Int) + 1 + (q : Int)) % (m : Int) = (((i + 1 + q) % m : Nat) : Int) := by
      rw [Int.natCast_emod]
      congr 1
    obtain ⟨e1, e2⟩ := shift_ne (i := i) (r := q) (m := m) (by omega) (by omega)
    have kk : Keep [a] H H2 := k1.trans k2
    refine k l i ((i + 1 + q) % m) _ (kk.free hl (by simp; exact (s2.ne hl).symm)) ?_ (by omega) e1 e2 (s2.put (s2.ne hl)) (kk.new hl)
    rw [upd_same]
    show some (HO.lst [V.int (i : Int), V.int (((i : Int) + 1 + (q : Int)) % (m : Int))]) = _
    rw [e]
theorem scPayment : FnScope ["_law_source_here", "_law_k", "_law_names_here", "_law_scale", "_law_pair"] ["_law_source_here", "_law_k", "_law_names_here", "_law_scale"] (defScope sPayment) := ⟨rfl, rfl, rfl, by decide +kernel, rfl, by decide +kernel, by decide +kernel⟩
theorem ok_payment (T : Txt K mg) : Good P w K mg base 3 "_law_payment" ["_law_source_here", "_law_k", "_law_names_here", "_law_scale"] (spPayment K) := by
  have mLen : mg "len" = none := T.bl _ (by simp [blNames])
  have mStr : mg "str" = none := T.bl _ (by simp [blNames])
  have gP : Good P w K mg base 1 "_law_pick" ["_law_source_here", "_law_many"] spPick := ok_pick T
  have gN : Good P w K mg base 2 "_law_name" ["_law_source_here"] spName := ok_name T
  have gR : Good P w K mg base 2 "_law_pairs" ["_law_source_here", "_law_many"] spPairs := ok_pairs T
  refine T.good (st := sPayment) (by simp [fn]) (by simp [fnNames]) scPayment (fun vs H Q E h => ?_) (fun _ _ _ _ _ _ us hl => match us, hl with | [_, _, _, _], _ => rfl) (fun cdv A outer s H vs Q E hr h => ?_)
  · obtain ⟨a, n, l, ns, sc, rfl, _⟩ := h
    rfl
  · obtain ⟨a, n, l, ns, sc, rfl, ha, hla, hl, nd, hn1, hn2, hn, hs1, hs2, k⟩ := h
    have hr1 : Room 1 _ := hr.mono (by decide)
    refine ⟨_, pss_cons (ps_set (i := 4) scPayment.nd rfl (Or.inl rfl) (pe_go gR hr (pa_cons (pv 0) (pa_cons (pe_callB call_len_seq (by rfl) mLen PySem.boot_len (pa_cons (pv 2) pa_nil)) pa_nil))))
      (pss_one (ps_ret (pe_tup (pa_cons (pe_op op_add_str (pe_op op_add_str (pe_go gN hr (pa_cons (pv 0) pa_nil)) pe_str) (pe_callTy call_str_int (by rfl) mStr PyProof.Rows.boot_str (pa_cons (pv 1) pa_nil)))
        (pa_cons (pe_ix ix_list (pv 2) (pe_ix ix_list (pv 4) pe_int (fun _ _ => rfl)) (fun _ _ => rfl)) (pa_cons (pe_ix ix_list (pv 2) (pe_ix ix_list (pv 4) pe_int (fun _ _ => rfl)) (fun _ _ => rfl))
        (pa_cons (pe_op op_add pe_int (pe_go gP hr1 (pa_cons (pv 0) (pa_cons (pv 3) pa_nil)))) pa_nil))))))), ?_⟩
    refine ⟨_, rfl, _, rfl, l, _, rfl, .inl hl, ?_⟩
    rw [List.length_map]
    refine ⟨a, _, rfl, ha, hn1, hn2, fun pr i j H1 hpr epr hi hj hij s1 k1 => ?_⟩
    have hpa : pr ≠ a := (ha.ne hpr).symm
    refine ⟨_, rfl, a, rfl, s1, fun z H2 hz s2 k2 => ?_⟩
    have hlS : l ∉ [a] := by simp; exact hla
    have hpS : pr ∉ [a] := by simp; exact hpa
    have kk : Keep [a] H H2 := k1.trans k2
    have hl2 : SqL K H2 l (ns.map V.str) := kk.seq hl hlS
    have e2 : H2 pr = some (.lst [.int (i : Int), .int (j : Int)]) := k2 pr _ epr hpS
    have zl : z.length ≤ 12 := by rw [str_len]; exact hz.2.1
    have el : (kc n).length ≤ 2 := kc_len n hn
    have el2 : (kstr n).length ≤ 2 := by rw [str_len]; exact el
    have x1 : ns[i]? = some ns[i] := List.getElem?_eq_getElem hi
    have x2 : ns[j]? = some ns[j] := List.getElem?_eq_getElem hj
    have one : (Str.ofString "/").length = 1 := by decide +kernel
    have oc : (Str.ofString "/").cps.toList = [47] := by decide +kernel
    have hlog : ((n : Int)).natAbs.log2 < 1920 := by
      have : (n : Int).natAbs = n := Int.natAbs_natCast n
      rw [this]
      have := Nat.log2_le_self n
      omega
    refine ⟨_, _, rfl, rfl, Nat.le_of_lt (small1000 (by rw [one]; omega)), _, rfl, _, rfl, hlog, _, _, rfl, rfl, ?_, ?_⟩
    · have : (z ++ Str.ofString "/").length ≤ 13 := by
        rw [str_len, app_codes2, oc, List.length_append, ← str_len]
        show z.length + 1 ≤ 13
        omega
      exact Nat.le_of_lt (small1000 (show (z ++ Str.ofString "/").length + (kstr n).length ≤ 1000 by omega))
    refine ⟨_, rfl, _, rfl, pr, _, 0, .int (i : Int), rfl, rfl, SqL.of e2, rfl, l, _, _, .str ns[i], rfl, rfl, hl2, atI_nat (strs_at x1), ?_⟩
    refine ⟨_, rfl, _, rfl, pr, _, 1, .int (j : Int), rfl, rfl, SqL.of e2, rfl, l, _, _, .str ns[j], rfl, rfl, hl2, atI_nat (strs_at x2), ?_⟩
    refine ⟨_, rfl, _, rfl, a, sc, rfl, s2, hs1, by omega, fun r H3 h0 h1 s3 k3 => ?_⟩
    refine ⟨_, _, rfl, rfl, by show 4 ≤ sizeLine; decide, fun t ht => ?_⟩
    have kk3 := kk.trans k3
    refine k t ⟨z ++ Str.ofString "/" ++ kstr n, ns[i], ns[j], 1 + r⟩ _ (kk3.free ht (by simp; exact (s3.ne ht).symm)) upd_same (List.getElem_mem hi) (List.getElem_mem hj) (fun q => hij ((List.getElem_inj nd).mp q)) (by show 1 ≤ 1 + r; omega) (by show 1 + r ≤ 1000000000; omega)
      ⟨z.cps.toList, hz, ?_⟩ (s3.put (s3.ne ht)) (kk3.new ht)
    show (z ++ Str.ofString "/" ++ kstr n).cps.toList = _
    rw [app_codes2, app_codes2, oc, List.append_assoc]
    rfl
end
end K35
/-! The clearing: its fields, its small methods. -/
namespace K35
open PySem L2
open PySem.Spec PyProof.Rows
theorem ne_bf : ¬ (("balances" : Str) = "floors") := by decide +kernel
theorem ne_bk : ¬ (("balances" : Str) = "known") := by decide +kernel
theorem ne_bl : ¬ (("balances" : Str) = "line") := by decide +kernel
theorem ne_fk : ¬ (("floors" : Str) = "known") := by decide +kernel
theorem ne_fl : ¬ (("floors" : Str) = "line") := by decide +kernel
theorem ne_kl : ¬ (("known" : Str) = "line") := by decide +kernel
/-- the fields as __init__ stores them -/
def flds (d1 d2 d3 l4 : Addr) : List (Str × V) := putF "line" (.ref l4) (putF "known" (.ref d3) (putF "floors" (.ref d2) (putF "balances" (.ref d1) [])))
theorem flds_eq (d1 d2 d3 l4 : Addr) : flds d1 d2 d3 l4 = ([("balances", V.ref d1), ("floors", V.ref d2), ("known", V.ref d3), ("line", V.ref l4)] : List (Str × V)) := by
  unfold flds
  simp only [putF, ne_bf, ne_bk, ne_bl, ne_fk, ne_fl, ne_kl, if_false]
section
variable {d1 d2 d3 l4 : Addr}
theorem flds_b : (flds d1 d2 d3 l4).lookup ("balances" : Str) = some (.ref d1) := by
  unfold flds
  rw [lookup_putF, if_neg ne_bl, lookup_putF, if_neg ne_bk, lookup_putF, if_neg ne_bf, lookup_putF, if_pos rfl]
theorem flds_f : (flds d1 d2 d3 l4).lookup ("floors" : Str) = some (.ref d2) := by
  unfold flds
  rw [lookup_putF, if_neg ne_fl, lookup_putF, if_neg ne_fk, lookup_putF, if_pos rfl]
theorem flds_k : (flds d1 d2 d3 l4).lookup ("known" : Str) = some (.ref d3) := by
  unfold flds
  rw [lookup_putF, if_neg ne_kl, lookup_putF, if_pos rfl]
theorem flds_l : (flds d1 d2 d3 l4).lookup ("line" : Str) = some (.ref l4) := by
  unfold flds
  rw [lookup_putF, if_pos rfl]
theorem flds_no {m : Str} (h1 : ¬ m = "line") (h2 : ¬ m = "known") (h3 : ¬ m = "floors") (h4 : ¬ m = "balances") : (flds d1 d2 d3 l4).lookup m = none := by
  unfold flds
  rw [lookup_putF, if_neg h1, lookup_putF, if_neg h2, lookup_putF, if_neg h3, lookup_putF, if_neg h4]
  rfl
theorem flds_put_l (l : Addr) : putF "line" (.ref l) (flds d1 d2 d3 l4) = flds d1 d2 d3 l := by
  rw [flds_eq, flds_eq]
  simp only [putF, ne_bl, ne_fl, ne_kl, if_false, if_true]
theorem flds_put_b (d : Addr) : putF "balances" (.ref d) (flds d1 d2 d3 l4) = flds d d2 d3 l4 := by
  rw [flds_eq, flds_eq]
  simp only [putF, if_true]
theorem flds_len : (flds d1 d2 d3 l4).length = 4 := by rw [flds_eq]; rfl
end
/-- the keys known -/
def kd (ks : List Str) : List (Key × V) := ks.map fun k => (Sum.inr k, V.bl true)
theorem kd_length (ks : List Str) : (kd ks).length = ks.length := List.length_map _
theorem kd_none {x : Str} : ∀ {ks : List Str}, x ∉ ks → valV (kd ks) (Sum.inr x : Key) = none
  | [], _ => rfl
  | n :: r, h => by
    have e : ¬ n = x := fun z => h (by rw [z]; exact List.mem_cons_self)
    have h1 : ¬ ((Sum.inr n : Key), V.bl true).1 = Sum.inr x := fun z => e (Sum.inr.inj z)
    have h2 : valV (kd (n :: r)) (Sum.inr x : Key) = valV (kd r) (Sum.inr x) := valV_neg h1
    rw [h2]
    exact kd_none fun z => h (List.mem_cons_of_mem _ z)
theorem kd_new {ks : List Str} {x : Str} (h : x ∉ ks) : putK (kd ks) (Sum.inr x : Key) (.bl true) = kd (ks ++ [x]) := by
  rw [putK_new _ (kd_none h)]
  unfold kd
  rw [List.map_append]
  rfl
/-- a clearing stands at p: its dicts of balances b and floors f over the members ns, the keys known, the payments that wait -/
structure ClAt (K : PySem.W.Frag) (H : Hp) (p d1 d2 d3 l4 : Addr) (ns : List Str) (b f : Str → Int) (ks : List Str) (as : List Addr) (ps : List (Pay Str)) : Prop where
  ob : ∃ dx, H p = some (.ins (cC K) dx (flds d1 d2 d3 l4))
  hb : H d1 = some (.dK (dct ns b))
  hf : H d2 = some (.dK (dct ns f))
  hk : H d3 = some (.dK (kd ks))
  hl : H l4 = some (.lst (as.map V.ref))
  pays : Pays H as ps
  n12 : d1 ≠ d2
  n13 : d1 ≠ d3
  n23 : d2 ≠ d3
theorem ClAt.keep {K : PySem.W.Frag} {S : List Addr} {H H1 : Hp} {p d1 d2 d3 l4 : Addr} {ns : List Str} {b f : Str → Int} {ks : List Str} {as : List Addr} {ps : List (Pay Str)} (c : ClAt K H p d1 d2 d3 l4 ns b f ks as ps) (k : Keep S H H1)
    (hS : p ∉ S ∧ d1 ∉ S ∧ d2 ∉ S ∧ d3 ∉ S ∧ l4 ∉ S) (hT : ∀ s ∈ S, ∀ xs, H s ≠ some (.tup xs)) : ClAt K H1 p d1 d2 d3 l4 ns b f ks as ps := by
  obtain ⟨dx, e⟩ := c.ob
  exact ⟨⟨dx, k _ _ e hS.1⟩, k _ _ c.hb hS.2.1, k _ _ c.hf hS.2.2.1, k _ _ c.hk hS.2.2.2.1, k _ _ c.hl hS.2.2.2.2, c.pays.keep k hT, c.n12, c.n13, c.n23⟩
/-! ### promises -/
def spInit (K : PySem.W.Frag) : Sp := fun vs H Q _ => ∃ (p dx : Addr), vs = [.ref p] ∧ H p = some (.ins (cC K) dx []) ∧
  ∀ (d1 d2 d3 l4 : Addr) (H' : Hp), ClAt K H' p d1 d2 d3 l4 [] (fun _ => 0) (fun _ => 0) [] [] [] → (H d1 = none ∧ H d2 = none ∧ H d3 = none ∧ H l4 = none) → Keep [p] H H' → Q .non H'
def spAdd (K : PySem.W.Frag) : Sp := fun vs H Q _ => ∃ (p d1 d2 d3 l4 : Addr) (ns : List Str) (b f : Str → Int) (ks : List Str) (as : List Addr) (ps : List (Pay Str)) (z : Str) (u : Int), vs = [.ref p, .str z, .int u] ∧ ClAt K H p d1 d2 d3 l4 ns b f ks as ps ∧
  NameL z.cps.toList ∧ -1000000000 ≤ u ∧ u ≤ 0 ∧ z ∉ ns ∧ ns.length < 6 ∧ ∀ H', ClAt K H' p d1 d2 d3 l4 (ns ++ [z]) (setF b z 0) (setF f z u) ks as ps → Keep [d1, d2] H H' → Q .non H'
def spCheck (K : PySem.W.Frag) : Sp := fun vs H Q _ => ∃ (p d1 d2 d3 l4 dx : Addr) (ns : List Str) (f : Str → Int) (z : Str), vs = [.ref p, .str z] ∧ H p = some (.ins (cC K) dx (flds d1 d2 d3 l4)) ∧ H d2 = some (.dK (dct ns f)) ∧ z ∈ ns ∧ Q .non H
def spFund (K : PySem.W.Frag) : Sp := fun vs H Q _ => ∃ (p d1 d2 d3 l4 : Addr) (ns : List Str) (b f : Str → Int) (ks : List Str) (as : List Addr) (ps : List (Pay Str)) (z : Str) (u : Int), vs = [.ref p, .str z, .int u] ∧ ClAt K H p d1 d2 d3 l4 ns b f ks as ps ∧
  -1000000000 ≤ u ∧ u ≤ 1000000000 ∧ z ∈ ns ∧ f z ≤ b z + u ∧ ns.length ≤ 6 ∧ ∀ H', ClAt K H' p d1 d2 d3 l4 ns (setF b z (b z + u)) f ks as ps → Keep [d1] H H' → Q .non H'
def spSubmit (K : PySem.W.Frag) : Sp := fun vs H Q _ => ∃ (p d1 d2 d3 l4 : Addr) (ns : List Str) (b f : Str → Int) (ks : List Str) (as : List Addr) (ps : List (Pay Str)) (y : Pay Str), vs = [.ref p, .str y.key, .str y.payer, .str y.payee, .int y.amt] ∧ ClAt K H p d1 d2 d3 l4 ns b f ks as ps ∧
  1 ≤ y.key.length ∧ y.key.length ≤ 40 ∧ y.payer ∈ ns ∧ y.payee ∈ ns ∧ y.payer ≠ y.payee ∧ 1 ≤ y.amt ∧ y.amt ≤ 1000000000 ∧ y.key ∉ ks ∧ ks.length ≤ 100 ∧ ps.length ≤ 100 ∧
  ∀ (t : Addr) (H' : Hp), ClAt K H' p d1 d2 d3 l4 ns b f (ks ++ [y.key]) (as ++ [t]) (ps ++ [y]) → Keep [d3, l4] H H' → Q .non H'
def spQueue (K : PySem.W.Frag) : Sp := fun vs H Q _ => ∃ (p d1 d2 d3 l4 dx : Addr) (as : List Addr), vs = [.ref p] ∧ H p = some (.ins (cC K) dx (flds d1 d2 d3 l4)) ∧ H l4 = some (.lst (as.map V.ref)) ∧
  ∀ l : Addr, H l = none → Q (.ref l) (upd H l (.lst (as.map V.ref)))
def spBalance (K : PySem.W.Frag) : Sp := fun vs H Q _ => ∃ (p d1 d2 d3 l4 dx : Addr) (ns : List Str) (b f : Str → Int) (z : Str), vs = [.ref p, .str z] ∧ H p = some (.ins (cC K) dx (flds d1 d2 d3 l4)) ∧ H d1 = some (.dK (dct ns b)) ∧ H d2 = some (.dK (dct ns f)) ∧ z ∈ ns ∧ Q (.int (b z)) H
theorem get_dct {H : Hp} {d : Addr} {ns : List Str} {b : Str → Int} {x : Str} (h : H d = some (.dK (dct ns b))) (hx : x ∈ ns) : DGet H d (.str x) (some (.int (b x))) := by
  have := DGet.k (k := (Sum.inr x : Key)) h
  rw [dct_val (ns := ns) hx] at this
  exact this
theorem get_dct0 {H : Hp} {d : Addr} {ns : List Str} {b : Str → Int} {x : Str} (h : H d = some (.dK (dct ns b))) (hx : x ∉ ns) : DGet H d (.str x) none := by
  have := DGet.k (k := (Sum.inr x : Key)) h
  rw [dct_none hx] at this
  exact this
theorem put_dct {H : Hp} {d : Addr} {ns : List Str} {b : Str → Int} {x : Str} {v : Int} (h : H d = some (.dK (dct ns b))) (hx : x ∈ ns) (hn : ns.length ≤ 1000) : DPut H d (.str x) (.int v) (upd H d (.dK (dct ns (setF b x v)))) := by
  have := DPut.k (k := (Sum.inr x : Key)) (v := .int v) h (by rw [dct_length]; exact small1000 hn)
  rw [dct_put hx] at this
  exact this
theorem put_dct0 {H : Hp} {d : Addr} {ns : List Str} {b : Str → Int} {x : Str} {v : Int} (h : H d = some (.dK (dct ns b))) (hx : x ∉ ns) (hn : ns.length ≤ 1000) : DPut H d (.str x) (.int v) (upd H d (.dK (dct (ns ++ [x]) (setF b x v)))) := by
  have := DPut.k (k := (Sum.inr x : Key)) (v := .int v) h (by rw [dct_length]; exact small1000 hn)
  rw [dct_new hx] at this
  exact this
section
variable {P : Program} {w : World} {K : PySem.W.Frag} {mg : Str → Option Value} {base : Heap}
structure Cl4 (K : PySem.W.Frag) : Prop where
  cl : Cls K (cC K)
  nB : NoAttr K (cC K) "balances"
  nF : NoAttr K (cC K) "floors"
  nK : NoAttr K (cC K) "known"
  nL : NoAttr K (cC K) "line"
theorem Txt.cl4 (T : Txt K mg) : Cl4 K := ⟨He.cls_ok (T.fact _ (by simp [fa])), He.noat_ok (T.fact (.noat "Clearing" "balances") (by simp [fa, flNames])), He.noat_ok (T.fact (.noat "Clearing" "floors") (by simp [fa, flNames])),
  He.noat_ok (T.fact (.noat "Clearing" "known") (by simp [fa, flNames])), He.noat_ok (T.fact (.noat "Clearing" "line") (by simp [fa, flNames]))⟩
theorem scCheck : FnScope ["self", "name"] ["self", "name"] (defScope sCheckMember) := ⟨rfl, rfl, rfl, by decide +kernel, rfl, by decide +kernel, by decide +kernel⟩
theorem ok_check (T : Txt K mg) : GoodM P w K mg base 1 "check_member" ["self", "name"] (spCheck K) := by
  obtain ⟨cl, nB, nF, nK, nL⟩ := T.cl4
  refine T.goodM (q := "Clearing.check_member") (st := sCheckMember) (by simp [fn]) (by simp [fa, mtNames]) scCheck (fun vs H Q E h => ?_) (fun _ _ _ _ _ _ us hl => match us, hl with | [_, _], _ => rfl) (fun cdv A outer s H vs Q E hr h => ?_)
  · obtain ⟨p, d1, d2, d3, l4, dx, ns, f, z, rfl, _⟩ := h
    rfl
  · obtain ⟨p, d1, d2, d3, l4, dx, ns, f, z, rfl, h1, h2, hz, k⟩ := h
    have hu := hu_of hr
    refine ⟨_, pss_one (ps_if (pt_cmp (pc_dnotin hu (pv 1) (pe_fld (pv 0) rfl))) (pss_one ps_never) pss_nil), ?_⟩
    refine ⟨_, rfl, _, rfl, p, _, dx, _, _, rfl, h1, cl, nF, flds_f, d2, _, rfl, get_dct h2 hz, _, rfl, ?_⟩
    exact iteF k
theorem scBalance : FnScope ["self", "name"] ["self", "name"] (defScope sBalanceOf) := ⟨rfl, rfl, rfl, by decide +kernel, rfl, by decide +kernel, by decide +kernel⟩
theorem ok_balance (T : Txt K mg) : GoodM P w K mg base 2 "balance_of" ["self", "name"] (spBalance K) := by
  obtain ⟨cl, nB, nF, nK, nL⟩ := T.cl4
  have gC : GoodM P w K mg base 1 "check_member" ["self", "name"] (spCheck K) := ok_check T
  obtain ⟨_, gC1, gC2⟩ := gC.ex
  refine T.goodM (q := "Clearing.balance_of") (st := sBalanceOf) (by simp [fn]) (by simp [fa, mtNames]) scBalance (fun vs H Q E h => ?_) (fun _ _ _ _ _ _ us hl => match us, hl with | [_, _], _ => rfl) (fun cdv A outer s H vs Q E hr h => ?_)
  · obtain ⟨p, d1, d2, d3, l4, dx, ns, b, f, z, rfl, _⟩ := h
    rfl
  · obtain ⟨p, d1, d2, d3, l4, dx, ns, b, f, z, rfl, h1, hb, h2, hz, k⟩ := h
    have hu := hu_of hr
    refine ⟨_, pss_cons (ps_expr (pe_meth (pv 0) gC.cl gC.me gC1 hr gC2 .nil pass0 (pa_cons (pv 1) pa_nil))) (pss_one (ps_ret (pe_dget hu (pe_fld (pv 0) rfl) (pv 1) (fun _ _ => rfl)))), ?_⟩
    refine ⟨_, rfl, p, dx, _, rfl, h1, flds_no (by decide +kernel) (by decide +kernel) (by decide +kernel) (by decide +kernel), _, rfl, p, d1, d2, d3, l4, dx, ns, f, z, rfl, h1, h2, hz, ?_⟩
    exact ⟨_, rfl, p, _, dx, _, _, rfl, h1, cl, nB, flds_b, _, rfl, d1, _, rfl, get_dct hb hz, k⟩
theorem scQueue : FnScope ["self"] ["self"] (defScope sQueue) := ⟨rfl, rfl, rfl, by decide +kernel, rfl, by decide +kernel, by decide +kernel⟩
theorem ok_queue (T : Txt K mg) : GoodM P w K mg base 1 "queue" ["self"] (spQueue K) := by
  obtain ⟨cl, nB, nF, nK, nL⟩ := T.cl4
  have mLst : mg "list" = none := T.bl _ (by simp [blNames])
  refine T.goodM (q := "Clearing.queue") (st := sQueue) (by simp [fn]) (by simp [fa, mtNames]) scQueue (fun vs H Q E h => ?_) (fun _ _ _ _ _ _ us hl => match us, hl with | [_], _ => rfl) (fun cdv A outer s H vs Q E hr h => ?_)
  · obtain ⟨p, d1, d2, d3, l4, dx, as, rfl, _⟩ := h
    rfl
  · obtain ⟨p, d1, d2, d3, l4, dx, as, rfl, h1, h2, k⟩ := h
    refine ⟨_, pss_one (ps_ret (pe_callTy call_list_of (by rfl) mLst PyProof.Rows.boot_list (pa_cons (pe_fld (pv 0) rfl) pa_nil))), ?_⟩
    exact ⟨_, rfl, p, _, dx, _, _, rfl, h1, cl, nL, flds_l, l4, _, rfl, .inl (SqL.of h2), fun l hl => k l hl⟩
theorem scInit : FnScope ["self"] ["self"] (defScope sInit) := ⟨rfl, rfl, rfl, by decide +kernel, rfl, by decide +kernel, by decide +kernel⟩
/-- __init__: its promise, and that the class can be made -/
theorem ok_init (T : Txt K mg) : (∃ fd, FnOk P w K mg base CX0 1 (He.ma K (cC K) "__init__") fd ["self"] (spInit K) ∧ Binds K fd ["self"] []) ∧ Mk K (cC K) (He.ma K (cC K) "__init__") := by
  obtain ⟨cl, nB, nF, nK, nL⟩ := T.cl4
  obtain ⟨fd, F⟩ := T.defs (dM "__init__" "Clearing.__init__" sInit) (by simp [fn])
  have F' : FunD K "__init__" "Clearing.__init__" (defArgs sInit) (defBody sInit) (defScope sInit) [] [] (He.ma K (cC K) "__init__") fd := F
  refine ⟨⟨fd, F'.ok scInit (fun vs H Q E h => ?_) (fun cdv A outer s H vs Q E hr h => ?_), F'.bindsN fun _ _ _ _ _ _ us hl => match us, hl with | [_], _ => rfl⟩, He.mkr_ok (T.fact (.mkr "Clearing") (by simp [fa]))⟩
  · obtain ⟨p, dx, rfl, _⟩ := h
    rfl
  · obtain ⟨p, dx, rfl, hp, k⟩ := h
    refine ⟨_, PSs.nox (pss_cons (ps_fld (pv 0) pe_dnewK rfl) (pss_cons (ps_fld (pv 0) pe_dnewK rfl) (pss_cons (ps_fld (pv 0) pe_dnewK rfl) (pss_one (ps_fld (pv 0) (pe_lst pa_nil) rfl))))), ?_⟩
    intro d1 e1
    have p1 : p ≠ d1 := ne_of_none hp e1
    refine ⟨_, rfl, p, _, dx, [], rfl, (by rw [upd_ne p1]; exact hp), cl, nB, (by show 0 < 1000; decide), ?_⟩
    intro d2 e2
    have p2 : p ≠ d2 := fun q => by rw [← q, upd_same] at e2; cases e2
    have n12 : d1 ≠ d2 := fun q => by rw [← q, upd_ne p1.symm, upd_same] at e2; cases e2
    have e2' : H d2 = none := by rw [upd_ne p2.symm, upd_ne n12.symm] at e2; exact e2
    refine ⟨_, rfl, p, _, dx, _, rfl, (by rw [upd_ne p2, upd_same]), cl, nF, (by show 1 < 1000; decide), ?_⟩
    intro d3 e3
    have p3 : p ≠ d3 := fun q => by rw [← q, upd_same] at e3; cases e3
    have n23 : d2 ≠ d3 := fun q => by rw [← q, upd_ne p2.symm, upd_same] at e3; cases e3
    have n13 : d1 ≠ d3 := fun q => by rw [← q, upd_ne p1.symm, upd_ne n12, upd_ne p1.symm, upd_same] at e3; cases e3
    have e3' : H d3 = none := by rw [upd_ne p3.symm, upd_ne n23.symm, upd_ne p3.symm, upd_ne n13.symm] at e3; exact e3
    refine ⟨_, rfl, p, _, dx, _, rfl, (by rw [upd_ne p3, upd_same]), cl, nK, ?_, ?_⟩
    · simp only [putF, ne_bf, if_false]; show 2 < 1000; decide
    refine ⟨Nat.zero_le _, fun l4 e4 => ?_⟩
    have p4 : p ≠ l4 := fun q => by rw [← q, upd_same] at e4; cases e4
    have n34 : d3 ≠ l4 := fun q => by rw [← q, upd_ne p3.symm, upd_same] at e4; cases e4
    have n24 : d2 ≠ l4 := fun q => by rw [← q, upd_ne p2.symm, upd_ne n23, upd_ne p2.symm, upd_same] at e4; cases e4
    have n14 : d1 ≠ l4 := fun q => by rw [← q, upd_ne p1.symm, upd_ne n13, upd_ne p1.symm, upd_ne n12, upd_ne p1.symm, upd_same] at e4; cases e4
    have e4' : H l4 = none := by rw [upd_ne p4.symm, upd_ne n34.symm, upd_ne p4.symm, upd_ne n24.symm, upd_ne p4.symm, upd_ne n14.symm] at e4; exact e4
    refine ⟨_, rfl, p, _, dx, _, rfl, (by rw [upd_ne p4, upd_same]), cl, nL, ?_, ?_⟩
    · simp only [putF, ne_bf, ne_bk, ne_fk, if_false]; show 3 < 1000; decide
    refine k d1 d2 d3 l4 _ ⟨⟨dx, upd_same⟩, ?_, ?_, ?_, ?_, ⟨rfl, fun i a q h => by simp at h⟩, n12, n13, n23⟩ ⟨e1, e2', e3', e4'⟩ ?_
    · rw [upd_ne p1.symm, upd_ne n14, upd_ne p1.symm, upd_ne n13, upd_ne p1.symm, upd_ne n12, upd_ne p1.symm, upd_same]; rfl
    · rw [upd_ne p2.symm, upd_ne n24, upd_ne p2.symm, upd_ne n23, upd_ne p2.symm, upd_same]; rfl
    · rw [upd_ne p3.symm, upd_ne n34, upd_ne p3.symm, upd_same]; rfl
    · rw [upd_ne p4.symm, upd_same]; rfl
    · have inp : p ∈ [p] ∨ H p = none := .inl (by simp)
      exact ((((((((Keep.refl [p] H).new e1).put inp).put (.inr e2')).put inp).put (.inr e3')).put inp).put (.inr e4')).put inp
end
end K35
/-! The clearing: a member added, money brought, a payment handed in. -/
namespace K35
open PySem L2
open PySem.Spec PyProof.Rows
section
variable {P : Program} {w : World} {K : PySem.W.Frag} {mg : Str → Option Value} {base : Heap}
theorem scAdd : FnScope ["self", "name", "floor"] ["self", "name", "floor"] (defScope sAddMember) := ⟨rfl, rfl, rfl, by decide +kernel, rfl, by decide +kernel, by decide +kernel⟩
theorem ok_add (T : Txt K mg) : GoodM P w K mg base 2 "add_member" ["self", "name", "floor"] (spAdd K) := by
  obtain ⟨cl, nB, nF, nK, nL⟩ := T.cl4
  obtain ⟨tl, hL⟩ := T.lim
  obtain ⟨tm, hM⟩ := T.mm
  have mLen : mg "len" = none := T.bl _ (by simp [blNames])
  have gN : Good P w K mg base 1 "is_name" ["text"] spIsName := ok_isName T
  refine T.goodM (q := "Clearing.add_member") (st := sAddMember) (by simp [fn]) (by simp [fa, mtNames]) scAdd (fun vs H Q E h => ?_) (fun _ _ _ _ _ _ us hl => match us, hl with | [_, _, _], _ => rfl) (fun cdv A outer s H vs Q E hr h => ?_)
  · obtain ⟨p, d1, d2, d3, l4, ns, b, f, ks, as, ps, z, u, rfl, _⟩ := h
    rfl
  · obtain ⟨p, d1, d2, d3, l4, ns, b, f, ks, as, ps, z, u, rfl, C, hz, u1, u2, hn, hl6, k⟩ := h
    have hu := hu_of hr
    refine ⟨_, pss_cons (ps_if (pt_not (pt_val (pe_go gN hr (pa_cons (pv 1) pa_nil)))) (pss_one ps_never) pss_nil)
      (pss_cons (ps_if (pt_not (pt_chain op_le op_le (pe_op op_sub pe_int (pe_glob (v := .int 1000000000) rfl hL ⟨_, rfl⟩)) (pv 2) pe_int)) (pss_one ps_never) pss_nil)
      (pss_cons (ps_if (pt_cmp (pc_din hu (pv 1) (pe_fld (pv 0) rfl))) (pss_one ps_never) pss_nil)
      (pss_cons (ps_if (pt_cmpR op_ge (pe_callB call_lenD (by rfl) mLen PySem.boot_len (pa_cons (pe_fld (pv 0) rfl) pa_nil)) (pe_glob (v := .int 6) rfl hM ⟨_, rfl⟩) (nomark _)) (pss_one ps_never) pss_nil)
      (pss_cons (ps_dput hu (pe_fld (pv 0) rfl) (pv 1) (pv 2) rfl)
      (pss_one (ps_dput hu (pe_fld (pv 0) rfl) (pv 1) pe_int rfl)))))), ?_⟩
    refine ⟨_, rfl, z, rfl, hz, fun H1 k1 => ⟨_, rfl, ?_⟩⟩
    refine iteF ?_
    have C1 : ClAt K H1 p d1 d2 d3 l4 ns b f ks as ps := C.keep k1 (by simp) (by simp)
    obtain ⟨⟨dx, h1⟩, hb, hf, hk, hl, hp, n12, n13, n23⟩ := id C1
    refine ⟨_, _, rfl, rfl, _, rfl, _, _, rfl, rfl, _, rfl, ?_⟩
    have e1 : decide ((0 : Int) - 1000000000 ≤ u) = true := decide_eq_true (by omega)
    have e2 : decide (u ≤ 0) = true := decide_eq_true u2
    rw [e1]
    refine iteT ⟨_, _, rfl, rfl, _, rfl, ?_⟩
    rw [e2]
    refine iteF ?_
    refine ⟨_, rfl, _, rfl, p, _, dx, _, _, rfl, h1, cl, nF, flds_f, d2, _, rfl, get_dct0 hf hn, _, rfl, ?_⟩
    refine iteF ?_
    refine ⟨_, rfl, p, _, dx, _, _, rfl, h1, cl, nF, flds_f, d2, _, rfl, hf, _, _, rfl, rfl, _, rfl, ?_⟩
    have e3 : decide ((6 : Int) ≤ ((dct ns f).length : Nat)) = false := decide_eq_false (by rw [dct_length]; omega)
    rw [e3]
    refine iteF ?_
    refine ⟨_, rfl, _, rfl, p, _, dx, _, _, rfl, h1, cl, nF, flds_f, _, rfl, d2, _, rfl, put_dct0 hf hn (by omega), ?_⟩
    have np2 : p ≠ d2 := ne_of h1 hf (by intro q; cases q)
    have np1 : p ≠ d1 := ne_of h1 hb (by intro q; cases q)
    have nl1 : l4 ≠ d1 := ne_of hl hb (by intro q; cases q)
    have nl2 : l4 ≠ d2 := ne_of hl hf (by intro q; cases q)
    have h1' := h1
    generalize hH2 : upd H1 d2 (.dK (dct (ns ++ [z]) (setF f z u))) = H2
    have h1 : H2 p = some (.ins (cC K) dx (flds d1 d2 d3 l4)) := by rw [← hH2, upd_ne np2]; exact h1'
    have hb2 : H2 d1 = some (.dK (dct ns b)) := by rw [← hH2, upd_ne n12]; exact hb
    refine ⟨_, rfl, p, _, dx, _, _, rfl, h1, cl, nB, flds_b, _, rfl, d1, _, rfl, put_dct0 hb2 hn (by omega), ?_⟩
    refine k _ ⟨⟨dx, by rw [upd_ne np1]; exact h1⟩, upd_same, ?_, ?_, ?_, ?_, n12, n13, n23⟩ ?_
    · rw [upd_ne n12.symm, ← hH2, upd_same]
    · rw [upd_ne n13.symm, ← hH2, upd_ne n23.symm]; exact hk
    · rw [upd_ne nl1, ← hH2, upd_ne nl2]; exact hl
    · refine hp.keep (S := [d1, d2]) ?_ (fun s hs xs e => ?_)
      · rw [← hH2]
        exact (((Keep.refl [d1, d2] H1).put (.inl (by simp))).put (.inl (by simp)))
      · rcases List.mem_cons.mp hs with q | q
        · rw [q, hb] at e; cases e
        · rw [List.mem_singleton.mp q, hf] at e; cases e
    · rw [← hH2]
      exact (((k1.mono (by simp)).put (.inl (by simp))).put (.inl (by simp)))
theorem scFund : FnScope ["self", "name", "units"] ["self", "name", "units"] (defScope sFund) := ⟨rfl, rfl, rfl, by decide +kernel, rfl, by decide +kernel, by decide +kernel⟩
theorem ok_fund (T : Txt K mg) : GoodM P w K mg base 2 "fund" ["self", "name", "units"] (spFund K) := by
  obtain ⟨cl, nB, nF, nK, nL⟩ := T.cl4
  obtain ⟨tl, hL⟩ := T.lim
  have gC : GoodM P w K mg base 1 "check_member" ["self", "name"] (spCheck K) := ok_check T
  obtain ⟨_, gC1, gC2⟩ := gC.ex
  refine T.goodM (q := "Clearing.fund") (st := sFund) (by simp [fn]) (by simp [fa, mtNames]) scFund (fun vs H Q E h => ?_) (fun _ _ _ _ _ _ us hl => match us, hl with | [_, _, _], _ => rfl) (fun cdv A outer s H vs Q E hr h => ?_)
  · obtain ⟨p, d1, d2, d3, l4, ns, b, f, ks, as, ps, z, u, rfl, _⟩ := h
    rfl
  · obtain ⟨p, d1, d2, d3, l4, ns, b, f, ks, as, ps, z, u, rfl, C, u1, u2, hz, hfl, hn, k⟩ := h
    have hu := hu_of hr
    obtain ⟨⟨dx, h1⟩, hb, hf, hk, hl, hp, n12, n13, n23⟩ := id C
    refine ⟨_, pss_cons (ps_expr (pe_meth (pv 0) gC.cl gC.me gC1 hr gC2 .nil pass0 (pa_cons (pv 1) pa_nil)))
      (pss_cons (ps_if (pt_not (pt_chain op_le op_le (pe_op op_sub pe_int (pe_glob (v := .int 1000000000) rfl hL ⟨_, rfl⟩)) (pv 2) (pe_glob (v := .int 1000000000) rfl hL ⟨_, rfl⟩))) (pss_one ps_never) pss_nil)
      (pss_cons (ps_if (pt_cmpR op_lt (pe_op op_add (pe_dget hu (pe_fld (pv 0) rfl) (pv 1) (fun _ _ => rfl)) (pv 2)) (pe_dget hu (pe_fld (pv 0) rfl) (pv 1) (fun _ _ => rfl)) (nomark _)) (pss_one ps_never) pss_nil)
      (pss_one (ps_daug hu (pe_fld (pv 0) rfl) (pv 1) (pv 2) in_add (fun _ _ _ => rfl))))), ?_⟩
    refine ⟨_, rfl, p, dx, _, rfl, h1, flds_no (by decide +kernel) (by decide +kernel) (by decide +kernel) (by decide +kernel), _, rfl, p, d1, d2, d3, l4, dx, ns, f, z, rfl, h1, hf, hz, ?_⟩
    refine ⟨_, _, rfl, rfl, _, rfl, _, _, rfl, rfl, _, rfl, ?_⟩
    have e1 : decide ((0 : Int) - 1000000000 ≤ u) = true := decide_eq_true (by omega)
    have e2 : decide (u ≤ 1000000000) = true := decide_eq_true u2
    rw [e1]
    refine iteT ⟨_, _, rfl, rfl, _, rfl, ?_⟩
    rw [e2]
    refine iteF ?_
    refine ⟨_, rfl, p, _, dx, _, _, rfl, h1, cl, nB, flds_b, _, rfl, d1, _, rfl, get_dct hb hz, _, rfl, _, _, rfl, rfl, _, rfl, p, _, dx, _, _, rfl, h1, cl, nF, flds_f, _, rfl, d2, _, rfl, get_dct hf hz, _, _, rfl, rfl, _, rfl, ?_⟩
    have e3 : decide (b z + u < f z) = false := decide_eq_false (by omega)
    rw [e3]
    refine iteF ?_
    refine ⟨_, rfl, p, _, dx, _, _, rfl, h1, cl, nB, flds_b, _, rfl, d1, _, rfl, get_dct hb hz, _, rfl, _, _, rfl, rfl, _, put_dct hb hz (by omega), ?_⟩
    have np1 : p ≠ d1 := ne_of h1 hb (by intro q; cases q)
    have nl1 : l4 ≠ d1 := ne_of hl hb (by intro q; cases q)
    have kk : Keep [d1] H (upd H d1 (.dK (dct ns (setF b z (b z + u))))) := (Keep.refl [d1] H).put (.inl (by simp))
    refine k _ ⟨⟨dx, by rw [upd_ne np1]; exact h1⟩, upd_same, ?_, ?_, ?_, hp.keep kk (fun s hs xs e => ?_), n12, n13, n23⟩ kk
    · rw [upd_ne n12.symm]; exact hf
    · rw [upd_ne n13.symm]; exact hk
    · rw [upd_ne nl1]; exact hl
    · rw [List.mem_singleton.mp hs, hb] at e; cases e
theorem scSubmit : FnScope ["self", "key", "payer", "payee", "amount"] ["self", "key", "payer", "payee", "amount"] (defScope sSubmit) := ⟨rfl, rfl, rfl, by decide +kernel, rfl, by decide +kernel, by decide +kernel⟩
theorem ok_submit (T : Txt K mg) : GoodM P w K mg base 2 "submit" ["self", "key", "payer", "payee", "amount"] (spSubmit K) := by
  obtain ⟨cl, nB, nF, nK, nL⟩ := T.cl4
  obtain ⟨tl, hM⟩ := T.mkey
  have mLen : mg "len" = none := T.bl _ (by simp [blNames])
  have gC : GoodM P w K mg base 1 "check_member" ["self", "name"] (spCheck K) := ok_check T
  obtain ⟨_, gC1, gC2⟩ := gC.ex
  have gA : Good P w K mg base 1 "is_amount" ["number"] spIsAmount := ok_isAmount T
  refine T.goodM (q := "Clearing.submit") (st := sSubmit) (by simp [fn]) (by simp [fa, mtNames]) scSubmit (fun vs H Q E h => ?_) (fun _ _ _ _ _ _ us hl => match us, hl with | [_, _, _, _, _], _ => rfl) (fun cdv A outer s H vs Q E hr h => ?_)
  · obtain ⟨p, d1, d2, d3, l4, ns, b, f, ks, as, ps, y, rfl, _⟩ := h
    rfl
  · obtain ⟨p, d1, d2, d3, l4, ns, b, f, ks, as, ps, y, rfl, C, y1, y2, hx, hy, hxy, a1, a2, hkey, lk, lp, k⟩ := h
    have hu := hu_of hr
    obtain ⟨⟨dx, h1⟩, hb, hf, hk, hl, hp, n12, n13, n23⟩ := id C
    have no : (flds d1 d2 d3 l4).lookup ("check_member" : Str) = none := flds_no (by decide +kernel) (by decide +kernel) (by decide +kernel) (by decide +kernel)
    refine ⟨_, pss_cons (ps_if (pt_not (pt_chain op_le op_le pe_int (pe_callB call_len_str (by rfl) mLen PySem.boot_len (pa_cons (pv 1) pa_nil)) (pe_glob (v := .int 40) rfl hM ⟨_, rfl⟩))) (pss_one ps_never) pss_nil)
      (pss_cons (ps_expr (pe_meth (pv 0) gC.cl gC.me gC1 hr gC2 .nil pass0 (pa_cons (pv 2) pa_nil)))
      (pss_cons (ps_expr (pe_meth (pv 0) gC.cl gC.me gC1 hr gC2 .nil pass0 (pa_cons (pv 3) pa_nil)))
      (pss_cons (ps_if (pt_cmpR op_eq (pv 2) (pv 3) (nomark _)) (pss_one ps_never) pss_nil)
      (pss_cons (ps_if (pt_not (pt_val (pe_go gA hr (pa_cons (pv 4) pa_nil)))) (pss_one ps_never) pss_nil)
      (pss_cons (ps_if (pt_cmp (pc_din hu (pv 1) (pe_fld (pv 0) rfl))) (pss_one ps_never) pss_nil)
      (pss_cons (ps_dput hu (pe_fld (pv 0) rfl) (pv 1) pe_bl rfl)
      (pss_one (ps_expr (pe_bm PySem.F.plainAttrs_list PySem.F.slot_list_append PySem.F.type_list_append mt_append (pe_fld (pv 0) rfl) (pa_cons (pe_tup (pa_cons (pv 1) (pa_cons (pv 2) (pa_cons (pv 3) (pa_cons (pv 4) pa_nil))))) pa_nil)))))))))), ?_⟩
    refine ⟨_, rfl, y.key, rfl, Nat.le_of_lt (small1000 (by omega)), _, _, rfl, rfl, _, rfl, ?_⟩
    have e1 : decide ((1 : Int) ≤ (y.key.length : Nat)) = true := decide_eq_true (by omega)
    have e2 : decide (((y.key.length : Nat) : Int) ≤ 40) = true := decide_eq_true (by omega)
    rw [e1]
    refine iteT ⟨_, _, rfl, rfl, _, rfl, ?_⟩
    rw [e2]
    refine iteF ?_
    refine ⟨_, rfl, p, dx, _, rfl, h1, no, _, rfl, p, d1, d2, d3, l4, dx, ns, f, y.payer, rfl, h1, hf, hx, ?_⟩
    refine ⟨_, rfl, p, dx, _, rfl, h1, no, _, rfl, p, d1, d2, d3, l4, dx, ns, f, y.payee, rfl, h1, hf, hy, ?_⟩
    refine ⟨_, rfl, _, rfl, rfl, _, rfl, ?_⟩
    have e3 : decide (V.str y.payer = V.str y.payee) = false := decide_eq_false fun q => hxy (V.str.inj q)
    rw [e3]
    refine iteF ?_
    refine ⟨_, rfl, y.amt, rfl, a1, a2, _, rfl, ?_⟩
    refine iteF ?_
    have gk : DGet H d3 (.str y.key) none := by
      have := DGet.k (k := (Sum.inr y.key : Key)) hk
      rw [kd_none hkey] at this
      exact this
    refine ⟨_, rfl, _, rfl, p, _, dx, _, _, rfl, h1, cl, nK, flds_k, d3, _, rfl, gk, _, rfl, ?_⟩
    refine iteF ?_
    have pk : DPut H d3 (.str y.key) (.bl true) (upd H d3 (.dK (kd (ks ++ [y.key])))) := by
      have := DPut.k (k := (Sum.inr y.key : Key)) (v := .bl true) hk (by rw [kd_length]; exact small1000 (by omega))
      rw [kd_new hkey] at this
      exact this
    refine ⟨_, rfl, p, _, dx, _, _, rfl, h1, cl, nK, flds_k, _, rfl, d3, _, rfl, pk, ?_⟩
    have np3 : p ≠ d3 := ne_of h1 hk (by intro q; cases q)
    have nl3 : l4 ≠ d3 := ne_of hl hk (by intro q; cases q)
    have npl : p ≠ l4 := ne_of h1 hl (by intro q; cases q)
    have nl1 : l4 ≠ d1 := ne_of hl hb (by intro q; cases q)
    have nl2 : l4 ≠ d2 := ne_of hl hf (by intro q; cases q)
    have h1' := h1
    generalize hH2 : upd H d3 (.dK (kd (ks ++ [y.key]))) = H2
    have h1 : H2 p = some (.ins (cC K) dx (flds d1 d2 d3 l4)) := by rw [← hH2, upd_ne np3]; exact h1'
    have hl2 : H2 l4 = some (.lst (as.map V.ref)) := by rw [← hH2, upd_ne nl3]; exact hl
    refine ⟨_, rfl, p, _, dx, _, _, rfl, h1, cl, nL, flds_l, .inl ⟨rfl, _, SqL.of hl2⟩, _, rfl, _, rfl, _, rfl, _, rfl, by show 4 ≤ sizeLine; decide, fun t ht => ?_⟩
    have hlt : l4 ≠ t := ne_of_none hl2 ht
    have hl3 : (upd H2 t (.tup [.str y.key, .str y.payer, .str y.payee, .int y.amt])) l4 = some (.lst (as.map V.ref)) := by rw [upd_ne hlt]; exact hl2
    refine ⟨l4, _, _, rfl, rfl, hl3, by rw [List.length_map, hp.len]; exact small1000 (by omega), ?_⟩
    have ht0 : H t = none := by
      have q : t ≠ d3 := fun q => by rw [q, ← hH2, upd_same] at ht; cases ht
      rw [← hH2, upd_ne q] at ht
      exact ht
    have kk : Keep [d3, l4] H (upd (upd H2 t (.tup [.str y.key, .str y.payer, .str y.payee, .int y.amt])) l4 (.lst (as.map V.ref ++ [.ref t]))) := by
      rw [← hH2]
      exact (((Keep.refl [d3, l4] H).put (.inl (by simp))).put (.inr ht0)).put (.inl (by simp))
    have hS : ∀ s ∈ [d3, l4], ∀ xs, H s ≠ some (.tup xs) := fun s hs xs e => by
      rcases List.mem_cons.mp hs with q | q
      · rw [q, hk] at e; cases e
      · rw [List.mem_singleton.mp q, hl] at e; cases e
    have hp2 := hp.keep kk hS
    have htl : t ≠ l4 := hlt.symm
    refine k t _ ⟨⟨dx, ?_⟩, ?_, ?_, ?_, ?_, ⟨by rw [List.length_append, List.length_append, hp.len]; rfl, fun i a q hi hq => ?_⟩, n12, n13, n23⟩ kk
    · exact kk p _ h1' (by simp; exact ⟨np3, npl⟩)
    · exact kk d1 _ hb (by simp; exact ⟨n13, nl1.symm⟩)
    · exact kk d2 _ hf (by simp; exact ⟨n23, nl2.symm⟩)
    · have q3 : d3 ≠ t := fun q => by rw [← q, ← hH2, upd_same] at ht; cases ht
      rw [upd_ne nl3.symm, upd_ne q3, ← hH2, upd_same]
    · rw [upd_same, List.map_append]; rfl
    · by_cases hlt2 : i < as.length
      · rw [List.getElem?_append_left hlt2] at hi
        rw [List.getElem?_append_left (by rw [← hp.len]; exact hlt2)] at hq
        exact hp2.at_ i a q hi hq
      · have ei : i = as.length := by
          have := (List.getElem?_eq_some_iff.mp hi).1
          rw [List.length_append, List.length_singleton] at this
          omega
        subst ei
        rw [List.getElem?_append_right (Nat.le_refl _), Nat.sub_self] at hi
        rw [hp.len, List.getElem?_append_right (Nat.le_refl _), Nat.sub_self] at hq
        have hi := Option.some.inj hi
        have hq := Option.some.inj hq
        subst hi hq
        rw [upd_ne htl, upd_same]
        rfl
end
end K35
/-! Rules that the settling wants besides: y = {..} of a local, a range kept by a name, fields read in a comprehension; lists of answers. -/
namespace K35
open PySem L2
open PySem.Spec PyProof.Rows
section
variable {X : Cx}
/-- y = {kx: vx for ..}, y a local, all on one line -/
theorem ps_setDc {i : Nat} {y : Str} {py cp sp : Pos} {kx vx tg src : Expr} {cs : List Expr} {sc : Scope} {mine : List (Str × Nat)} {wi : TI} {g : TG} {tt : TT} {tk tv : TE} (calm : X.calm = true) (ndp : X.N.Nodup) (place : X.N[i]? = some y) (local_ : X.env.scope.names.lookup y = some .local)
    (swap : swapsWith (.DictComp kx vx [⟨tg, src, cs, 0⟩] sc cp) (some (.Name y py)) sp.line X.env = pure true) (walked : PI X tg src wi) (blk : BlkOk X.N X.env.scope sc mine)
    (hG : ∀ s H C cl fp, PG (X.blk s H sc (compEnvC sc cl C X.env) fp) tg g) (hT : ∀ s H C cl fp, PTs (X.blk s H sc (compEnvC sc cl C X.env) fp) cs tt)
    (hK : ∀ s H C cl fp, PE (X.blk s H sc (compEnvC sc cl C X.env) fp) kx tk) (hV : ∀ s H C cl fp, PE (X.blk s H sc (compEnvC sc cl C X.env) fp) vx tv) (plain : ∀ x, foldedSetIterable src X.env x = pure x := by intro _; rfl) :
    PS X (.Assign [.Name y py] (.DictComp kx vx [⟨tg, src, cs, 0⟩] sc cp) sp) (tAsg (tDc wi g tt tk tv (mine.map (·.2))) (gName i)) := by
  constructor
  intro ps st sl hp D I want
  have go : wpAny (model X.prog X.w) X.A (comprehension (.DictComp kx vx [⟨tg, src, cs, 0⟩] sc cp) sc X.env (firstIterPos [⟨tg, src, cs, 0⟩] cp) newDict false (eval src X.env) (some (assign (.Name y py) X.env))) (fun _ s' => SP X ps D .next s') X.xe st :=
    dc_core calm ndp I walked blk hG hT hK hV plain want fun L C s' m H' I' q hn ⟨f0, f1, _, f3, f4, f5⟩ =>
      wpAny_assign_Name (store_ok2 (v := V.ref L) I' ndp place (.inl local_) rfl (fun s2 I2 ⟨a, sb, ha⟩ =>
        ⟨m, hn.sameBut sb (ha.elim (fun z => z ▸ f1) fun z e => f4 y a z e.symm), fun h3 sb3 => ⟨_, H', I2.turned (t' := s2.toks) (fun b o hb e => (sb3.2 b hb).trans e) f0 f1 f3 f4 f5, q⟩⟩) (.inr local_))
  rw [exec_Assign_Name_used _ _ _ _ swap]
  exact wpAny_bind (wpAny_standAt (wpAny_bind (wpAny_bind (thn go fun _ s' hq => wpAny_pure (wpAny_pure hq)))))
theorem sw_trueD {kx vx : Expr} {gs : List Comprehension} {scope : Scope} {pos py : Pos} {y : Str} {l : Nat} {env : Env} (hk : env.scope.kind = .function) (hy : env.scope.names.lookup y = some .local) (hl : (py.line == pos.line) = true)
    (ha : (scope.names.any fun (n, k) => n == y && (k == .local || k == .cell)) = false) : swapsWith (.DictComp kx vx gs scope pos) (some (.Name y py)) l env = pure true := by
  have e1 : env.kindOf y = some .local := hy
  have e2 : env.blockKind = .function := by simp only [Env.blockKind, hk]; rfl
  simp only [swapsWith, e2, e1, ha, Expr.pos, hl]; rfl
/-- a dict comprehension over what a walk goes through: D the new dict, Pv its word -/
theorem dc_walk {J : It} {n : Nat} {G : Hp → Prop} {Y : Nat → Hp → V → Hp → Prop} (wk : Walk J n G Y) {wi : TI} {g : TG} {tt : TT} {tk tv : TE} {vs : List Nat} {σ : L2.St} {H H1 : Hp} {Q : VK} (src : ∀ R : It → Hp → Prop, R J H1 → wi σ H R)
    (Pv : Addr → Nat → Hp → Prop) (start : ∀ D, H1 D = none → Pv D 0 (upd H1 D (.dK []))) (stands : ∀ D i h, Pv D i h → G h)
    (turn : ∀ D i x h h', i < n → Pv D i h → Y i h x h' → g x (wipe σ vs) h' fun σ2 h2 => wipe σ2 vs = wipe σ vs ∧ tt σ2 h2 fun yes h3 =>
      if yes = true then tk σ2 h3 fun y h4 => tv σ2 h4 fun z h5 => ∃ kvs k, y = kV k ∧ h5 D = some (.dK kvs) ∧ kvs.length < sizeLine ∧ Pv D (i + 1) (upd h5 D (.dK (putK kvs k z))) else Pv D (i + 1) h3)
    (done : ∀ D h, H1 D = none → Pv D n h → Q (.ref D) h) : tDc wi g tt tk tv vs σ H Q := src _ fun D new => by
  refine ⟨fun i m h => m + i = n ∧ Pv D i h, ⟨n, Nat.add_zero n, start D new⟩, fun i m h ⟨e, p⟩ => ?_⟩
  have q := stands D i h p
  cases m with
  | zero =>
    have ei : i = n := by omega
    subst ei
    exact Or.inl ⟨wk.stops h q, done D h new p⟩
  | succ m => exact Or.inr ⟨wk.goes i h (by omega) q, Pv D (i + 1), fun h' p' => ⟨m, Nat.lt_succ_self m, by omega, p'⟩, fun x h' y => turn D i x h h' (by omega) p (wk.yields i h x h' (by omega) q y)⟩
/-- range(n) as a value -/
theorem cr_range1 : CallR X (.type "range") (fun vs H Q => ∃ j : Int, vs = [V.int j] ∧ ∀ p, H p = none → Q (.ref p) (upd H p (.rng 0 j))) := by
  rintro pins s σ H vs us Q I r ⟨j, rfl, q⟩
  obtain ⟨u1, rfl, t, rfl⟩ := vals1 r
  refine call_range_1 ⟨.ref s.heap.objs.size, upd H s.heap.objs.size (.rng 0 j), I.laid (fun b o e => Heap.get?_push_of_some _ e) (Nat.le_refl _) ?_, rfl, q _ (I.hok.fresh (Nat.le_refl _))⟩
  exact ⟨_, _, _, Heap.get?_push_size _ rfl⟩
/-- a range that a name holds, walked -/
def iRngV (te : TE) : TI := fun σ H R => te σ H fun x H1 => ∃ (a : Addr) (lo hi : Int), x = .ref a ∧ H1 a = some (.rng lo hi) ∧ (-(2 ^ 62) ≤ lo ∧ lo < 2 ^ 62 ∧ -(2 ^ 62) ≤ hi ∧ hi < 2 ^ 62) ∧ R (Itr lo (hi - lo).toNat) H1
theorem pi_rng {tg e : Expr} {te : TE} (he : PE X e te) : PI X tg e (iRngV te) := by
  constructor
  intro ps st sl hp R I want
  refine thn (he.run ps st sl hp _ I want) ?_
  rintro val s1 ⟨_, H1, I1, rv, a, lo, hi, rfl, hr, ⟨h1, h2, h3, h4⟩, q⟩
  have ev : val = Value.ref a := rv
  subst ev
  obtain ⟨t, u, w, ho⟩ := (show ∃ t u v, s1.heap.get? a = some { cls := .type "range", data := .fields #[.int lo t, .int hi u, .int 1 v] } from I1.hok a _ hr)
  have sz : Builtin.Range.rangeSize lo hi 1 = (((hi - lo).toNat : Nat) : Int) := by rw [rangeSize_one]; split <;> omega
  refine wpAny_pyIter_range (show IsRange s1.heap a lo hi 1 t u w from ho) (small_one h1 h2 h3 h4) ⟨_, [s1.heap.objs.size], _, _, H1, rfl, I1.kept (t' := s1.toks) fun b o e => Heap.get?_push_of_some _ e, turn_range _ lo (hi - lo).toNat, ?_, fun b hb => ?_, q⟩
  · show IsRangeIter _ _ (lo + (0 : Int) * 1) ((((hi - lo).toNat : Nat) : Int) - (0 : Int)) 1
    rw [Int.zero_mul, Int.add_zero, Int.sub_zero, ← sz]
    exact Heap.get?_push_size _ rfl
  · rw [List.mem_singleton.mp hb]
    exact I1.fpOk Nat.le.refl (I1.hok.fresh Nat.le.refl)
/-- e.f in a block: the written part named -/
theorem pe_fldK {K : PySem.W.Frag} {e : Expr} {f : Str} {pos : Pos} {ta : TE} (he : PE X e ta) (hb : attributeBase e f X.env (eval e X.env) = eval e X.env) (hK : X.K = K := by rfl) : PE X (.Attribute e f pos) (tFld K ta f) := by
  subst hK
  exact pe_fld he hb
end
/-! ### answers -/
theorem bls_set {f : Nat → Bool} {n i : Nat} (c : Bool) : (bls f n).set i (.bl c) = bls (fun k => if k = i then c else f k) n := by
  refine List.ext_getElem? fun j => ?_
  by_cases hj : j < n
  · rw [bls_at hj]
    by_cases e : i = j
    · subst e
      rw [List.getElem?_set_self (by rw [bls_length]; exact hj), if_pos rfl]
    · rw [List.getElem?_set_ne e, bls_at hj, if_neg fun q => e q.symm]
  · rw [List.getElem?_eq_none (by rw [List.length_set, bls_length]; omega), List.getElem?_eq_none (by rw [bls_length]; omega)]
theorem bls_congr {f g : Nat → Bool} {n : Nat} (h : ∀ i, i < n → f i = g i) : bls f n = bls g n := List.map_congr_left fun i hi => by rw [h i (List.mem_range.mp hi)]
theorem bls_all {f : Nat → Bool} : ∀ {n : Nat}, (∀ i, i < n → f i = true) → (List.replicate n [V.bl true]).flatten = bls f n
  | 0, _ => rfl
  | n + 1, h => by
    have ih := bls_all (f := f) (n := n) fun i hi => h i (by omega)
    rw [List.replicate_succ', List.flatten_append, ih]
    unfold bls
    rw [List.range_succ, List.map_append]
    show _ ++ [V.bl true] = _ ++ [V.bl (f n)]
    rw [h n (by omega)]
theorem ix_nat {n i : Nat} (h : i < n) : ixN n (i : Int) = some i := by
  unfold ixN
  rw [if_pos (by omega), if_pos (by omega)]
  rfl
theorem setF_mv (b : Str → Int) (x y : Str) (v : Int) : setF (setF b x (b x - v)) y (setF b x (b x - v) y + v) = mv b x y v := by
  funext z
  unfold mv
  by_cases h1 : z = y
  · subst h1
    rw [setF_same, if_pos rfl]
    by_cases h2 : z = x
    · subst h2
      rw [setF_same, if_pos rfl]
    · rw [setF_ne _ _ h2, if_neg h2]; omega
  · rw [setF_ne _ _ h1, if_neg h1]
    by_cases h2 : z = x
    · subst h2
      rw [setF_same, if_pos rfl]; omega
    · rw [setF_ne _ _ h2, if_neg h2]; omega
/-- the ones of a list that are answered yes -/
def selB {B : Type} (fs : Nat → Bool) (l : List B) : Nat → List B
  | 0 => []
  | k + 1 => match l[k]? with
    | some x => if fs k = true then selB fs l k ++ [x] else selB fs l k
    | none => selB fs l k
theorem selB_succ {B : Type} {fs : Nat → Bool} {l : List B} {k : Nat} {x : B} (h : l[k]? = some x) : selB fs l (k + 1) = if fs k = true then selB fs l k ++ [x] else selB fs l k := by
  show (match l[k]? with
    | some x => if fs k = true then selB fs l k ++ [x] else selB fs l k
    | none => selB fs l k) = _
  rw [h]
theorem selB_len {B : Type} (fs : Nat → Bool) (l : List B) : ∀ k, (selB fs l k).length ≤ k
  | 0 => Nat.le_refl _
  | k + 1 => by
    have ih := selB_len fs l k
    unfold selB
    split
    · split
      · rw [List.length_append, List.length_singleton]; omega
      · omega
    · omega
theorem sel_eq {c : Str → Int} {ps : List (Pay Str)} : ∀ k, sel c ps k = selB (flag c ps) ps k
  | 0 => rfl
  | k + 1 => by
    have ih := sel_eq (c := c) (ps := ps) k
    unfold sel selB
    cases e : ps[k]? with
    | none => exact ih
    | some p => simp only [ih]
theorem selB_pays {H : Hp} {as : List Addr} {ps : List (Pay Str)} (hP : Pays H as ps) (fs : Nat → Bool) : ∀ k, k ≤ ps.length → Pays H (selB fs as k) (selB fs ps k)
  | 0, _ => ⟨rfl, fun i a p h => by simp [selB] at h⟩
  | k + 1, hk => by
    have ih := selB_pays hP fs k (by omega)
    obtain ⟨a, p, ha, hp, hobj⟩ := hP.pay (i := k) (by omega)
    rw [selB_succ ha, selB_succ hp]
    by_cases hf : fs k = true
    · rw [if_pos hf, if_pos hf]
      refine ⟨by rw [List.length_append, List.length_append, ih.len]; rfl, fun i c q hi hq => ?_⟩
      by_cases hlt : i < (selB fs as k).length
      · rw [List.getElem?_append_left hlt] at hi
        rw [List.getElem?_append_left (by rw [← ih.len]; exact hlt)] at hq
        exact ih.at_ i c q hi hq
      · have ei : i = (selB fs as k).length := by
          have := (List.getElem?_eq_some_iff.mp hi).1
          rw [List.length_append, List.length_singleton] at this
          omega
        subst ei
        rw [List.getElem?_append_right (Nat.le_refl _), Nat.sub_self] at hi
        rw [ih.len, List.getElem?_append_right (Nat.le_refl _), Nat.sub_self] at hq
        have hi := Option.some.inj hi
        have hq := Option.some.inj hq
        subst hi hq
        exact hobj
    · rw [if_neg hf, if_neg hf]
      exact ih
theorem sum_less : ∀ {ns : List Str} {n m : Str → Int} {x : Str}, (∀ z, m z ≤ n z) → x ∈ ns → m x < n x → (ns.map m).sum < (ns.map n).sum
  | [], _, _, _, _, hx, _ => by cases hx
  | y :: r, n, m, x, h, hx, hl => by
    have le : ∀ l : List Str, (l.map m).sum ≤ (l.map n).sum := by
      intro l
      induction l with
      | nil => exact Int.le_refl _
      | cons a l ih =>
        rw [List.map_cons, List.map_cons, List.sum_cons, List.sum_cons]
        have := h a
        omega
    rw [List.map_cons, List.map_cons, List.sum_cons, List.sum_cons]
    rcases List.mem_cons.mp hx with q | q
    · subst q
      have := le r
      omega
    · have := sum_less h q hl
      have := h y
      omega
theorem sum_nn : ∀ {ns : List Str} {n : Str → Int}, (∀ z, 0 ≤ n z) → 0 ≤ (ns.map n).sum
  | [], _, _ => Int.le_refl _
  | y :: r, n, h => by
    rw [List.map_cons, List.sum_cons]
    have := sum_nn (ns := r) h
    have := h y
    omega
end K35
/-! The settling. -/
namespace K35
open PySem L2
open PySem.Spec PyProof.Rows
def spSettle (K : PySem.W.Frag) : Sp := fun vs H Q _ => ∃ (p d1 d2 d3 l4 : Addr) (ns : List Str) (b f : Str → Int) (ks : List Str) (as : List Addr) (ps : List (Pay Str)), vs = [.ref p] ∧ ClAt K H p d1 d2 d3 l4 ns b f ks as ps ∧ ns.Nodup ∧ ns.length ≤ 6 ∧ ps.length ≤ 100 ∧
  (∀ x ∈ ns, f x ≤ b x) ∧ (∀ q ∈ ps, q.payer ∈ ns ∧ q.payee ∈ ns ∧ 0 ≤ q.amt) ∧
  ∀ (S d l : Addr) (n : Str → Int) (sa : List Addr) (H' : Hp), H S = none → Srch ns f b ps n → Feas ns f b ps n → H' S = some (.lst (sa.map V.ref)) → Pays H' sa (sel n ps ps.length) →
    (∃ dx, H' p = some (.ins (cC K) dx (flds d d2 d3 l))) → H' d = some (.dK (dct ns (run n b ps ps.length))) → H' d2 = some (.dK (dct ns f)) → Keep [p] H H' → Q (.ref S) H'
section
variable {P : Program} {w : World} {K : PySem.W.Frag} {mg : Str → Option Value} {base : Heap}
abbrev nSettle : List Str := ["self", "name", "balances", "chosen", "key", "payer", "payee", "amount", "at", "places", "settled"]
theorem scSettle : FnScope nSettle ["self"] (defScope sSettle) := ⟨rfl, rfl, rfl, by decide +kernel, rfl, by decide +kernel, by decide +kernel⟩
theorem dct_take {ns : List Str} (nd : ns.Nodup) (b : Str → Int) {i : Nat} {x : Str} (h : ns[i]? = some x) : putK (dct (ns.take i) b) (Sum.inr x : Key) (.int (b x)) = dct (ns.take (i + 1)) b := by
  have hn : x ∉ ns.take i := fun hm => by
    obtain ⟨j, hj⟩ := List.getElem?_of_mem hm
    have hji : j < i := by
      have := (List.getElem?_eq_some_iff.mp hj).1
      rw [List.length_take] at this
      omega
    rw [List.getElem?_take_of_lt hji] at hj
    have := nd_ix nd hj h
    omega
  rw [dct_new hn, List.take_add_one, h]
  refine dct_congr fun y _ => ?_
  by_cases e : y = x
  · subst e; rw [setF_same]
  · rw [setF_ne b _ e]
theorem upd_out {H : Hp} {a c : Addr} {o u v : HO} (h : H a = some o) (ne : c ≠ a) : upd (upd (upd H a u) c v) a o = upd H c v := by
  funext z
  by_cases e : z = a
  · subst e
    rw [upd_same, upd_ne ne.symm, h]
  · rw [upd_ne e]
    by_cases e2 : z = c
    · subst e2
      rw [upd_same, upd_same]
    · rw [upd_ne e2, upd_ne e2, upd_ne e]
theorem ok_settle (T : Txt K mg) : GoodM P w K mg base 2 "settle" ["self"] (spSettle K) := by
  obtain ⟨cl, nB, nF, nK, nL⟩ := T.cl4
  have mLen : mg "len" = none := T.bl _ (by simp [blNames])
  have mRan : mg "range" = none := T.bl _ (by simp [blNames])
  have gMove : Good P w K mg base 1 "move" ["balances", "payer", "payee", "amount"] spMove := ok_move T
  have gFirst : Good P w K mg base 1 "first_below" ["balances", "floors"] spFirst := ok_first T
  have gLast : Good P w K mg base 1 "last_chosen" ["queue", "chosen", "name"] (spLast K) := ok_last T
  refine T.goodM (q := "Clearing.settle") (st := sSettle) (by simp [fn]) (by simp [fa, mtNames]) scSettle (fun vs H Q E h => ?_) (fun _ _ _ _ _ _ us hl => match us, hl with | [_], _ => rfl) (fun cdv A outer s H vs Q E hr h => ?_)
  · obtain ⟨p, d1, d2, d3, l4, ns, b, f, ks, as, ps, rfl, _⟩ := h
    rfl
  · obtain ⟨p, d1, d2, d3, l4, ns, b, f, ks, as, ps, rfl, C, nd, hn6, hps, hfb, hq, k⟩ := h
    have hu := hu_of hr
    obtain ⟨⟨dx, h1⟩, hb, hf, hk, hl, hp, n12, n13, n23⟩ := id C
    have nd1 := scSettle.nd
    refine ⟨_, Evl.pss_cut (ps_lock (ps_setDc (i := 2) (mine := [("name", 1)]) rfl nd1 rfl rfl (sw_trueD rfl rfl rfl (by decide +kernel)) (pi_keys (pe_fld (pv 0) rfl)) (blkOk_by (N := nSettle) (sc := defScope sSettle) (by decide +kernel))
        (fun _ _ _ _ _ => pg_name (i := 1) nd1 rfl (Or.inl rfl)) (fun _ _ _ _ _ => pts_nil) (fun _ _ _ _ _ => pv 1) (fun _ _ _ _ _ => pe_dget hu (pe_fldK (K := K) (pv 0) rfl) (pv 1) (fun _ _ => rfl))))
      (Evl.pss_cut (ps_set (i := 3) nd1 rfl (Or.inr rfl) (pe_op op_rep (pe_lst (pa_cons pe_bl pa_nil)) (pe_callB call_len_seq (by rfl) mLen PySem.boot_len (pa_cons (pe_fld (pv 0) rfl) pa_nil))))
      (Evl.pss_cut (ps_for PassesOwn.never rfl (pi_list (pe_fld (pv 0) rfl)) (pg_tup rfl (pgs_cons (pg_name (i := 4) nd1 rfl (Or.inl rfl)) (pgs_cons (pg_name (i := 5) nd1 rfl (Or.inl rfl)) (pgs_cons (pg_name (i := 6) nd1 rfl (Or.inl rfl)) (pgs_cons (pg_name (i := 7) nd1 rfl (Or.inl rfl)) pgs_nil)))))
        (pss_one (ps_expr (pe_go gMove hr (pa_cons (pv 2) (pa_cons (pv 5) (pa_cons (pv 6) (pa_cons (pv 7) pa_nil))))))))
      (Evl.pss_cut (ps_set (i := 1) nd1 rfl (Or.inl rfl) (pe_go gFirst hr (pa_cons (pv 2) (pa_cons (pe_fld (pv 0) rfl) pa_nil))))
      (Evl.pss_cut (ps_while PassesOwn.never (pt_cmp (pc_notN (pv 1)))
        (pss_cons (ps_set (i := 8) nd1 rfl (Or.inl rfl) (pe_go gLast hr (pa_cons (pe_fld (pv 0) rfl) (pa_cons (pv 3) (pa_cons (pv 1) pa_nil)))))
        (pss_cons (ps_asg pe_bl (pg_sub (pv 3) (pv 8) set_list))
        (pss_cons (ps_asg (pe_ix ix_list (pe_fld (pv 0) rfl) (pv 8) (fun _ _ => rfl)) (pg_tup rfl (pgs_cons (pg_name (i := 4) nd1 rfl (Or.inl rfl)) (pgs_cons (pg_name (i := 5) nd1 rfl (Or.inl rfl)) (pgs_cons (pg_name (i := 6) nd1 rfl (Or.inl rfl)) (pgs_cons (pg_name (i := 7) nd1 rfl (Or.inl rfl)) pgs_nil))))))
        (pss_cons (ps_expr (pe_go gMove hr (pa_cons (pv 2) (pa_cons (pv 6) (pa_cons (pv 5) (pa_cons (pv 7) pa_nil))))))
        (pss_one (ps_set (i := 1) nd1 rfl (Or.inl rfl) (pe_go gFirst hr (pa_cons (pv 2) (pa_cons (pe_fld (pv 0) rfl) pa_nil))))))))))
      (Evl.pss_cut (ps_set (i := 9) nd1 rfl (Or.inl rfl) (pe_callTy cr_range1 (by rfl) mRan PyProof.Rows.boot_range (pa_cons (pe_callB call_len_seq (by rfl) mLen PySem.boot_len (pa_cons (pe_fld (pv 0) rfl) pa_nil)) pa_nil)))
      (Evl.pss_cut (ps_setLc (i := 10) (own := [("at", 8)]) rfl nd1 rfl rfl (sw_true rfl rfl rfl (by decide +kernel)) (pi_rng (pv 9)) (blkOk_by (N := nSettle) (sc := defScope sSettle) (by decide +kernel))
        (fun _ _ _ _ _ => pg_name (i := 8) nd1 rfl (Or.inl rfl)) (fun _ _ _ _ _ => pts_one (pt_val (pe_ix (r := rIxL K) ix_list (pv 3) (pv 8) (fun _ _ => rfl)))) (fun _ _ _ _ _ => pe_ix (r := rIxL K) ix_list (pe_fldK (K := K) (pv 0) rfl) (pv 8) (fun _ _ => rfl)))
      (Evl.pss_cut (ps_fld (pv 0) (pe_lc (own := [("at", 8)]) rfl nd1 (pi_rng (pv 9)) (blkOk_by (N := nSettle) (sc := defScope sSettle) (by decide +kernel))
        (fun _ _ _ _ _ => pg_name (i := 8) nd1 rfl (Or.inl rfl)) (fun _ _ _ _ _ => pts_one (pt_not (pt_val (pe_ix (r := rIxL K) ix_list (pv 3) (pv 8) (fun _ _ => rfl))))) (fun _ _ _ _ _ => pe_ix (r := rIxL K) ix_list (pe_fldK (K := K) (pv 0) rfl) (pv 8) (fun _ _ => rfl))) rfl)
      (pss_cons (ps_fld (pv 0) (pv 2) rfl)
      (pss_one (ps_ret (pv 10))))))))))), ?_⟩
    have np1 : p ≠ d1 := ne_of h1 hb (by intro q; cases q)
    have np2 : p ≠ d2 := ne_of h1 hf (by intro q; cases q)
    have npl : p ≠ l4 := ne_of h1 hl (by intro q; cases q)
    have hl2 : l4 ≠ d2 := ne_of hl hf (by intro q; cases q)
    have psn : (as.map V.ref).length = ps.length := by rw [List.length_map, hp.len]
    -- balances = {name: self.balances[name] for name in self.floors}
    refine ⟨fun σ' H' => ∃ B, H B = none ∧ Keep [] H H' ∧ H' B = some (.dK (dct ns b)) ∧ σ' = [some (.ref p), none, some (.ref B), none, none, none, none, none, none, none, none], ?_, ?_⟩
    · refine ⟨d2, _, hf, trivial, fun od => ?_⟩
      have g1 : (upd H d2 (.frz od (.dK (dct ns f)))) p = some (.ins (cC K) dx (flds d1 d2 d3 l4)) := by rw [upd_ne np2]; exact h1
      refine dc_walk (walk_keys (d := d2) (o := od) (kvs := dct ns f)) (H1 := upd H d2 (.frz od (.dK (dct ns f)))) (fun R q => ⟨_, rfl, p, _, dx, _, _, rfl, g1, cl, nF, flds_f, d2, od, rfl, .inl ⟨_, upd_same, q⟩⟩)
        (fun B i h => (upd H d2 (.frz od (.dK (dct ns f)))) B = none ∧ h = upd (upd H d2 (.frz od (.dK (dct ns f)))) B (.dK (dct (ns.take i) b))) (fun B hB => ⟨hB, rfl⟩) (fun B i h ⟨hB, e⟩ => ?_) ?_ ?_
      · have nB2 : B ≠ d2 := fun q => by rw [q, upd_same] at hB; cases hB
        rw [e, upd_ne nB2.symm, upd_same]
      · rintro B i x H1 H2 hi ⟨hB, rfl⟩ ⟨rfl, kk, vv, hkv, rfl⟩
        have nB2 : B ≠ d2 := fun q => by rw [q, upd_same] at hB; cases hB
        have hB0 : H B = none := by rw [upd_ne nB2] at hB; exact hB
        have npB : p ≠ B := ne_of_none h1 hB0
        have n1B : d1 ≠ B := ne_of_none hb hB0
        rw [dct_length] at hi
        obtain ⟨x, hx⟩ : ∃ x, ns[i]? = some x := ⟨_, List.getElem?_eq_getElem hi⟩
        have e1 : (dct ns f)[i]? = some ((Sum.inr x : Key), V.int (f x)) := by
          unfold dct
          rw [List.getElem?_map, hx]
          rfl
        rw [e1] at hkv
        have e3 : (Sum.inr x : Key) = kk := congrArg Prod.fst (Option.some.inj hkv)
        subst e3
        have g2 : (upd (upd H d2 (.frz od (.dK (dct ns f)))) B (.dK (dct (ns.take i) b))) p = some (.ins (cC K) dx (flds d1 d2 d3 l4)) := by rw [upd_ne npB]; exact g1
        have g3 : (upd (upd H d2 (.frz od (.dK (dct ns f)))) B (.dK (dct (ns.take i) b))) d1 = some (.dK (dct ns b)) := by rw [upd_ne n1B, upd_ne n12]; exact hb
        refine ⟨rfl, _, rfl, _, rfl, p, _, dx, _, _, rfl, g2, cl, nB, flds_b, _, rfl, d1, _, rfl, get_dct g3 (List.mem_of_getElem? hx), _, Sum.inr x, rfl, upd_same, ?_, hB, ?_⟩
        · rw [dct_length, List.length_take]
          exact small1000 (by omega)
        · rw [upd_upd, dct_take nd b hx]
      · rintro B H1 _ ⟨hB, rfl⟩
        have nB2 : B ≠ d2 := fun q => by rw [q, upd_same] at hB; cases hB
        have hB0 : H B = none := by rw [upd_ne nB2] at hB; exact hB
        rw [dct_length, List.take_length]
        refine ⟨by rw [upd_ne nB2.symm, upd_same], B, hB0, ?_, ?_, rfl⟩
        · rw [upd_out hf nB2]
          exact (Keep.refl [] H).new hB0
        · rw [upd_ne nB2, upd_same]
    -- chosen = [True] * len(self.line)
    rintro σ1 H1 ⟨B, hB0, k1, hB1, rfl⟩
    have nl1 : ∀ z, d1 ≠ z ↔ z ≠ d1 := fun z => ne_comm
    have npB : p ≠ B := ne_of_none h1 hB0
    have nfB : d2 ≠ B := ne_of_none hf hB0
    have at1 : ∀ {H' : Hp}, Keep [] H H' → H' p = some (.ins (cC K) dx (flds d1 d2 d3 l4)) := fun q => q p _ h1 (by simp)
    have atl : ∀ {H' : Hp}, Keep [] H H' → H' l4 = some (.lst (as.map V.ref)) := fun q => q l4 _ hl (by simp)
    have atf : ∀ {H' : Hp}, Keep [] H H' → H' d2 = some (.dK (dct ns f)) := fun q => q d2 _ hf (by simp)
    refine ⟨fun σ' H' => ∃ Cn, H Cn = none ∧ Cn ≠ B ∧ Keep [] H H' ∧ H' B = some (.dK (dct ns b)) ∧ H' Cn = some (.lst (bls (flag (all ps) ps) ps.length)) ∧ σ' = [some (.ref p), none, some (.ref B), some (.ref Cn), none, none, none, none, none, none, none], ?_, ?_⟩
    · refine ⟨by show 1 ≤ sizeLine; decide, fun t1 ht1 => ?_⟩
      have tB : t1 ≠ B := fun q => by rw [q, hB1] at ht1; cases ht1
      have k2 : Keep [] H (upd H1 t1 (.lst [.bl true])) := k1.new ht1
      have g1 := at1 k2
      refine ⟨_, rfl, p, _, dx, _, _, rfl, g1, cl, nL, flds_l, l4, _, rfl, .inl (SqL.of (atl k2)), t1, _, [.bl true], rfl, rfl, upd_same, by omega, ?_, ?_, fun Cn hCn => ?_⟩
      · rw [psn]; omega
      · rw [psn, Int.toNat_natCast]
        show 1 * ps.length ≤ sizeLine
        rw [Nat.one_mul]
        exact Nat.le_of_lt (small1000 (by omega))
      have cB : Cn ≠ B := fun q => by rw [q, upd_ne tB.symm, hB1] at hCn; cases hCn
      refine ⟨Cn, k2.free hCn (by simp), cB, k2.new hCn, by rw [upd_ne cB.symm, upd_ne tB.symm]; exact hB1, ?_, rfl⟩
      rw [upd_same, psn, Int.toNat_natCast]
      refine congrArg (fun z => some (HO.lst z)) (bls_all fun i hi => ?_)
      have e : ps[i]? = some ps[i] := List.getElem?_eq_getElem hi
      rw [flag_at e]
      have := cnt_lt_of_at e
      exact decide_eq_true (by unfold all; omega)
    -- every payment is done
    rintro σ2 H2 ⟨Cn, hC0, cB, k2, hB2, hC2, rfl⟩
    refine ⟨fun σ' H' => ∃ v4 v5 v6 v7, Keep [] H H' ∧ H' B = some (.dK (dct ns (run (all ps) b ps ps.length))) ∧ H' Cn = some (.lst (bls (flag (all ps) ps) ps.length)) ∧ σ' = [some (.ref p), none, some (.ref B), some (.ref Cn), v4, v5, v6, v7, none, none, none], ?_, ?_⟩
    · have g1 := at1 k2
      refine ⟨_, rfl, p, _, dx, _, _, rfl, g1, cl, nL, flds_l, l4, rfl, ⟨_, SqL.of (atl k2)⟩, ?_⟩
      refine for_it (walk_list (K := K) (a := l4) (xs := as.map V.ref)) (fun i σ' H' => ∃ v4 v5 v6 v7, Keep [] H H' ∧ H' B = some (.dK (dct ns (run (all ps) b ps i))) ∧ H' Cn = some (.lst (bls (flag (all ps) ps) ps.length)) ∧ σ' = [some (.ref p), none, some (.ref B), some (.ref Cn), v4, v5, v6, v7, none, none, none])
        ⟨none, none, none, none, k2, hB2, hC2, rfl⟩ (fun i σ' H' _ ⟨_, _, _, _, kk, _⟩ => SqL.of (atl kk)) ?_ ?_
      · rintro i v σ' H3 H4 hi ⟨v4, v5, v6, v7, k3, hB3, hC3, rfl⟩ ⟨rfl, hv⟩
        rw [psn] at hi
        obtain ⟨a, q, ha, hqi, hobj⟩ := (hp.keep0 k3).pay hi
        rw [refs_at ha] at hv
        have hv := Option.some.inj hv
        subst hv
        obtain ⟨x1, x2, x3⟩ := hq q (List.mem_of_getElem? hqi)
        refine ⟨a, _, rfl, SqT.of hobj, rfl, _, _, rfl, _, _, rfl, _, _, rfl, _, _, rfl, rfl, ?_⟩
        refine ⟨_, rfl, _, rfl, _, rfl, _, rfl, B, ns, _, _, _, _, rfl, hB3, hn6, x1, x2, ?_⟩
        refine ⟨_, _, _, _, k3.put (.inr hB0), ?_, by rw [upd_ne cB]; exact hC3, rfl⟩
        rw [upd_same, setF_mv, run_succ hqi]
        have fl : flag (all ps) ps i = true := by
          rw [flag_at hqi]
          have := cnt_lt_of_at hqi
          exact decide_eq_true (by unfold all; omega)
        rw [if_pos fl]
      · rintro σ' H3 h3
        rw [psn] at h3
        exact h3
    -- name = first_below(balances, self.floors)
    rintro σ3 H3 ⟨v4, v5, v6, v7, k3, hB3, hC3, rfl⟩
    refine ⟨fun σ' H' => ∃ m : Nat, (fun m σ' H' => ∃ (n : Str → Int) (nv : V) (v4 v5 v6 v7 v8 : Option V), Srch ns f b ps n ∧ m = ((ns.map n).sum).toNat ∧ Keep [] H H' ∧ H' B = some (.dK (dct ns (run n b ps ps.length))) ∧ H' Cn = some (.lst (bls (flag n ps) ps.length)) ∧
      ((∃ x, nv = .str x ∧ x ∈ ns ∧ run n b ps ps.length x < f x) ∨ (nv = .non ∧ Feas ns f b ps n)) ∧ σ' = [some (.ref p), some nv, some (.ref B), some (.ref Cn), v4, v5, v6, v7, v8, none, none]) m σ' H', ?_, ?_⟩
    · have g1 := at1 k3
      refine ⟨_, rfl, _, rfl, p, _, dx, _, _, rfl, g1, cl, nF, flds_f, B, d2, ns, _, f, rfl, nfB.symm, hB3, atf k3, fun x H' hx hlt e => ?_, fun H' hall e => ?_⟩
      · subst e
        exact ⟨_, _, _, _, _, _, _, _, Srch.start ns f b ps, rfl, k3, hB3, hC3, .inl ⟨x, rfl, hx, hlt⟩, rfl⟩
      · subst e
        exact ⟨_, _, _, _, _, _, _, _, Srch.start ns f b ps, rfl, k3, hB3, hC3, .inr ⟨rfl, hall⟩, rfl⟩
    -- the while
    rintro σ4 H4 h4
    refine ⟨fun σ' H' => ∃ (n : Str → Int) (nv : V) (v4 v5 v6 v7 v8 : Option V), Srch ns f b ps n ∧ Feas ns f b ps n ∧ Keep [] H H' ∧ H' B = some (.dK (dct ns (run n b ps ps.length))) ∧ H' Cn = some (.lst (bls (flag n ps) ps.length)) ∧
      σ' = [some (.ref p), some nv, some (.ref B), some (.ref Cn), v4, v5, v6, v7, v8, none, none], ?_, ?_⟩
    · refine ⟨(fun m σ' H' => ∃ (n : Str → Int) (nv : V) (v4 v5 v6 v7 v8 : Option V), Srch ns f b ps n ∧ m = ((ns.map n).sum).toNat ∧ Keep [] H H' ∧ H' B = some (.dK (dct ns (run n b ps ps.length))) ∧ H' Cn = some (.lst (bls (flag n ps) ps.length)) ∧
      ((∃ x, nv = .str x ∧ x ∈ ns ∧ run n b ps ps.length x < f x) ∨ (nv = .non ∧ Feas ns f b ps n)) ∧ σ' = [some (.ref p), some nv, some (.ref B), some (.ref Cn), v4, v5, v6, v7, v8, none, none]), h4, ?_⟩
      rintro m σ' H5 ⟨n, nv, v4, v5, v6, v7, v8, hS, rfl, k5, hB5, hC5, hcase, rfl⟩
      refine ⟨_, rfl, _, rfl, ?_⟩
      rcases hcase with ⟨x, rfl, hx, hlt⟩ | ⟨rfl, hF⟩
      · refine ite2 (fun _ => ?_) (fun z => absurd rfl z)
        refine ⟨_, fun _ _ h => h, ?_⟩
        have hamt : AmtOk ps := fun q hqm => (hq q hqm).2.2
        have npos : 1 ≤ n x := hS.pos hamt (hfb x hx) hlt
        have g1 := at1 k5
        refine ⟨_, rfl, p, _, dx, _, _, rfl, g1, cl, nL, flds_l, _, rfl, _, rfl, l4, Cn, as, ps, flag n ps, x, rfl, SqL.of (atl k5), hp.keep0 k5, hC5, by omega, some_flag npos (hS.ch x).2, fun i q hqi hqx hqf hlast => ?_⟩
        have hi : i < ps.length := (List.getElem?_eq_some_iff.mp hqi).1
        have rank := last_rank (hS.ch x).2 hqi hqx hqf hlast
        refine ⟨_, rfl, _, rfl, Cn, _, _, i, rfl, rfl, hC5, ix_nat (by rw [bls_length]; exact hi), ?_⟩
        have k6 : Keep [] H (upd H5 Cn (.lst ((bls (flag n ps) ps.length).set i (.bl false)))) := k5.put (.inr hC0)
        have g2 := at1 k6
        obtain ⟨a, q', ha, hq', hobj⟩ := (hp.keep0 k6).pay hi
        rw [hqi] at hq'
        have hq' := Option.some.inj hq'
        subst hq'
        refine ⟨_, rfl, p, _, dx, _, _, rfl, g2, cl, nL, flds_l, _, rfl, l4, _, _, _, rfl, rfl, SqL.of (atl k6), atI_nat (refs_at ha), a, _, rfl, SqT.of hobj, rfl, _, _, rfl, _, _, rfl, _, _, rfl, _, _, rfl, rfl, ?_⟩
        obtain ⟨x1, x2, x3⟩ := hq q (List.mem_of_getElem? hqi)
        refine ⟨_, rfl, _, rfl, _, rfl, _, rfl, B, ns, _, _, _, _, rfl, by rw [upd_ne cB.symm]; exact hB5, hn6, x2, x1, ?_⟩
        rw [setF_mv]
        have hrun : mv (run n b ps ps.length) q.payee q.payer q.amt = run (less n x) b ps ps.length := (run_less_hi hqi hqx rank _ hi (Nat.le_refl _)).symm
        rw [hrun]
        generalize hH7 : upd (upd H5 Cn (.lst ((bls (flag n ps) ps.length).set i (.bl false)))) B (.dK (dct ns (run (less n x) b ps ps.length))) = H7
        have k7 : Keep [] H H7 := by rw [← hH7]; exact k6.put (.inr hB0)
        have hB7 : H7 B = some (.dK (dct ns (run (less n x) b ps ps.length))) := by rw [← hH7, upd_same]
        have hC7 : H7 Cn = some (.lst (bls (flag (less n x) ps) ps.length)) := by
          rw [← hH7, upd_ne cB, upd_same, bls_set]
          refine congrArg (fun z => some (HO.lst z)) (bls_congr fun j _ => ?_)
          rw [flag_less hqi hqx rank]
        have hS7 : Srch ns f b ps (less n x) := hS.step hamt hx (hfb x hx) hlt
        have hm7 : ((ns.map (less n x)).sum).toNat < ((ns.map n).sum).toNat := by
          have h1 : (ns.map (less n x)).sum < (ns.map n).sum := sum_less (x := x) (fun z => by unfold less; split <;> omega) hx (by unfold less; rw [if_pos rfl]; omega)
          have h2 : 0 ≤ (ns.map (less n x)).sum := sum_nn fun z => (hS7.ch z).1
          omega
        have g3 := at1 k7
        refine ⟨_, rfl, _, rfl, p, _, dx, _, _, rfl, g3, cl, nF, flds_f, B, d2, ns, _, f, rfl, nfB.symm, hB7, atf k7, fun y H' hy hlt2 e => ?_, fun H' hall e => ?_⟩
        · subst e
          exact ⟨_, hm7, _, _, _, _, _, _, _, hS7, rfl, k7, hB7, hC7, .inl ⟨y, rfl, hy, hlt2⟩, rfl⟩
        · subst e
          exact ⟨_, hm7, _, _, _, _, _, _, _, hS7, rfl, k7, hB7, hC7, .inr ⟨rfl, hall⟩, rfl⟩
      · refine ite2 (fun z => absurd z (by decide)) (fun _ => ?_)
        exact ⟨n, _, _, _, _, _, _, hS, hF, k5, hB5, hC5, rfl⟩
    -- places = range(len(self.line))
    rintro σ5 H5 ⟨n, nv, v4, v5, v6, v7, v8, hS, hF, k5, hB5, hC5, rfl⟩
    refine ⟨fun σ' H' => ∃ R, Keep [] H H' ∧ H' B = some (.dK (dct ns (run n b ps ps.length))) ∧ H' Cn = some (.lst (bls (flag n ps) ps.length)) ∧ H' R = some (.rng 0 (ps.length : Int)) ∧
      σ' = [some (.ref p), some nv, some (.ref B), some (.ref Cn), v4, v5, v6, v7, v8, some (.ref R), none], ?_, ?_⟩
    · have g1 := at1 k5
      refine ⟨_, rfl, p, _, dx, _, _, rfl, g1, cl, nL, flds_l, l4, _, rfl, .inl (SqL.of (atl k5)), _, rfl, fun R hR => ?_⟩
      rw [psn]
      refine ⟨R, k5.new hR, ?_, ?_, upd_same, rfl⟩
      · rw [upd_ne (ne_of_none hB5 hR)]; exact hB5
      · rw [upd_ne (ne_of_none hC5 hR)]; exact hC5
    -- settled = [..]
    rintro σ6 H6 ⟨R, k6, hB6, hC6, hR6, rfl⟩
    have en : ((ps.length : Int) - 0).toNat = ps.length := by omega
    refine ⟨fun σ' H' => ∃ S, H S = none ∧ Keep [] H6 H' ∧ H' S = some (.lst ((selB (flag n ps) as ps.length).map V.ref)) ∧ σ' = [some (.ref p), some nv, some (.ref B), some (.ref Cn), v4, v5, v6, v7, v8, some (.ref R), some (.ref S)], ?_, ?_⟩
    · refine ⟨_, rfl, R, 0, _, rfl, hR6, ⟨by decide, by decide, by omega, by omega⟩, fun S hS0 => ?_⟩
      rw [en]
      refine lc_it (walk_range (lo := 0)) (fun i H' => Keep [] H6 H' ∧ H' S = some (.lst ((selB (flag n ps) as i).map V.ref))) ⟨(Keep.refl [] H6).new hS0, upd_same⟩ (fun _ _ _ _ => trivial) ?_ ?_
      · rintro i v H7 H8 hi ⟨k7, hS7⟩ ⟨rfl, hv⟩
        have k7' : Keep [] H H8 := k6.trans k7
        have hv : v = V.int (i : Int) := hv.trans (congrArg V.int (Int.zero_add _))
        subst hv
        obtain ⟨a, q, ha, hqi, hobj⟩ := (hp.keep0 k7').pay hi
        have hC8 : H8 Cn = some (.lst (bls (flag n ps) ps.length)) := k7 Cn _ hC6 (by simp)
        refine ⟨rfl, _, rfl, _, rfl, Cn, _, _, _, rfl, rfl, SqL.of hC8, atI_nat (bls_at hi), _, rfl, ?_⟩
        by_cases hfl : flag n ps i = true
        · rw [hfl]
          refine iteT ?_
          have g1 := at1 k7'
          refine ⟨_, rfl, p, _, dx, _, _, rfl, g1, cl, nL, flds_l, _, rfl, l4, _, _, _, rfl, rfl, SqL.of (atl k7'), atI_nat (refs_at ha), _, hS7, ?_, k7.put (.inr hS0), ?_⟩
          · rw [List.length_map]
            have := selB_len (flag n ps) as i
            exact small1000 (by omega)
          · rw [upd_same, selB_succ ha, if_pos hfl, List.map_append]; rfl
        · have hf2 : flag n ps i = false := by simpa using hfl
          rw [hf2]
          refine iteF ⟨k7, ?_⟩
          rw [hS7, selB_succ ha, if_neg hfl]
      · rintro H7 ⟨k7, hS7⟩
        exact ⟨S, k6.free hS0 (by simp), k7, hS7, rfl⟩
    -- self.line = [..]
    rintro σ7 H7 ⟨S, hS0, k7, hS7, rfl⟩
    have k7' : Keep [] H H7 := k6.trans k7
    refine ⟨fun σ' H' => ∃ l, Keep [p] H H' ∧ H' p = some (.ins (cC K) dx (flds d1 d2 d3 l)) ∧ H' S = some (.lst ((selB (flag n ps) as ps.length).map V.ref)) ∧ H' B = some (.dK (dct ns (run n b ps ps.length))) ∧ σ' = [some (.ref p), some nv, some (.ref B), some (.ref Cn), v4, v5, v6, v7, v8, some (.ref R), some (.ref S)], ?_, ?_⟩
    · have hR7 : H7 R = some (.rng 0 (ps.length : Int)) := k7 R _ hR6 (by simp)
      refine ⟨_, rfl, R, 0, _, rfl, hR7, ⟨by decide, by decide, by omega, by omega⟩, fun L hL0 => ?_⟩
      rw [en]
      refine lc_it (walk_range (lo := 0)) (fun i H' => Keep [] H7 H' ∧ ∃ as', H' L = some (.lst as') ∧ as'.length ≤ i) ⟨(Keep.refl [] H7).new hL0, [], upd_same, Nat.le_refl _⟩ (fun _ _ _ _ => trivial) ?_ ?_
      · rintro i v H8 H9 hi ⟨k8, as', hL8, hl8⟩ ⟨rfl, hv⟩
        have k8' : Keep [] H H9 := k7'.trans k8
        have hv : v = V.int (i : Int) := hv.trans (congrArg V.int (Int.zero_add _))
        subst hv
        obtain ⟨a, q, ha, hqi, hobj⟩ := (hp.keep0 k8').pay hi
        have hC8 : H9 Cn = some (.lst (bls (flag n ps) ps.length)) := k8 Cn _ (k7 Cn _ hC6 (by simp)) (by simp)
        refine ⟨rfl, _, rfl, _, rfl, Cn, _, _, _, rfl, rfl, SqL.of hC8, atI_nat (bls_at hi), _, rfl, ?_⟩
        refine ite2 (fun _ => ?_) (fun _ => ?_)
        · have g1 := at1 k8'
          refine ⟨_, rfl, p, _, dx, _, _, rfl, g1, cl, nL, flds_l, _, rfl, l4, _, _, _, rfl, rfl, SqL.of (atl k8'), atI_nat (refs_at ha), _, hL8, small1000 (by omega), k8.put (.inr hL0), _, upd_same, ?_⟩
          rw [List.length_append, List.length_singleton]
          omega
        · exact ⟨k8, as', hL8, by omega⟩
      · rintro H8 ⟨k8, as', hL8, hl8⟩
        have k8' : Keep [] H H8 := k7'.trans k8
        have g1 := at1 k8'
        refine ⟨_, rfl, p, _, dx, _, rfl, g1, cl, nL, by rw [flds_len]; decide, L, ?_, ?_, ?_, ?_, rfl⟩
        · exact (k8'.mono (by simp)).put (.inl (by simp))
        · rw [upd_same, flds_put_l]
        · have : S ≠ p := (ne_of_none h1 hS0).symm
          rw [upd_ne this]
          exact k8 S _ hS7 (by simp)
        · rw [upd_ne npB.symm]
          exact k8 B _ (k7 B _ hB6 (by simp)) (by simp)
    -- self.balances = balances; return settled
    rintro σ8 H8 ⟨l, k8, hp8, hS8, hB8, rfl⟩
    refine ⟨_, rfl, _, rfl, p, _, dx, _, rfl, hp8, cl, nB, by rw [flds_len]; decide, _, rfl, ?_⟩
    have hSp : S ≠ p := (ne_of_none h1 hS0).symm
    have k9 : Keep [p] H (upd H8 p (.ins (cC K) dx (putF "balances" (.ref B) (flds d1 d2 d3 l)))) := k8.put (.inl (by simp))
    refine k S B l n _ _ hS0 hS hF (by rw [upd_ne hSp]; exact hS8) ?_ ⟨dx, by rw [upd_same, flds_put_b]⟩ (by rw [upd_ne npB.symm]; exact hB8) (k9 d2 _ hf (by simp; exact np2.symm)) k9
    rw [sel_eq]
    exact (selB_pays hp (flag n ps) _ (Nat.le_refl _)).keep k9 fun s hs xs e => by
      rw [List.mem_singleton.mp hs, h1] at e
      cases e
end
end K35
/-! What was told of the members, the counts, the fit of a choice. -/
namespace K35
open PySem L2
open PySem.Spec PyProof.Rows
/-! ### lists over the members -/
def iv (ns : List Str) (r : Str → Int) : List V := ns.map fun x => V.int (r x)
theorem iv_length (ns : List Str) (r : Str → Int) : (iv ns r).length = ns.length := List.length_map _
theorem iv_at {ns : List Str} {r : Str → Int} {j : Nat} {x : Str} (h : ns[j]? = some x) : (iv ns r)[j]? = some (.int (r x)) := by
  unfold iv
  rw [List.getElem?_map, h]
  rfl
theorem iv_set {ns : List Str} (nd : ns.Nodup) {r : Str → Int} {j : Nat} {x : Str} (h : ns[j]? = some x) (v : Int) : (iv ns r).set j (.int v) = iv ns (setF r x v) := by
  refine List.ext_getElem? fun i => ?_
  by_cases e : i = j
  · subst e
    rw [iv_at h, setF_same, List.getElem?_set_self (by rw [iv_length]; exact (List.getElem?_eq_some_iff.mp h).1)]
  · rw [List.getElem?_set_ne fun q => e q.symm]
    cases hy : ns[i]? with
    | none =>
      have hi : ns.length ≤ i := List.getElem?_eq_none_iff.mp hy
      rw [List.getElem?_eq_none (by rw [iv_length]; exact hi), List.getElem?_eq_none (by rw [iv_length]; exact hi)]
    | some y =>
      have hne : y ≠ x := fun q => e (nd_ix nd hy (q ▸ h))
      rw [iv_at hy, iv_at hy, setF_ne _ _ hne]
theorem iv_congr {ns : List Str} {r t : Str → Int} (h : ∀ x ∈ ns, r x = t x) : iv ns r = iv ns t := List.map_congr_left fun x hx => by rw [h x hx]
theorem iv_ints (ns : List Str) (r : Str → Int) : iv ns r = (ns.map r).map V.int := by unfold iv; rw [List.map_map]; rfl
theorem range_map {ns : List Str} {v : Nat → V} {g : Str → V} (h : ∀ i x, ns[i]? = some x → v i = g x) : (List.range ns.length).map v = ns.map g := by
  refine List.ext_getElem? fun i => ?_
  rw [List.getElem?_map, List.getElem?_map]
  by_cases hi : i < ns.length
  · have e : ns[i]? = some ns[i] := List.getElem?_eq_getElem hi
    rw [List.getElem?_range hi, e]
    exact congrArg some (h i _ e)
  · rw [List.getElem?_eq_none (by rw [List.length_range]; omega), List.getElem?_eq_none (by omega)]
    rfl
/-- the rows told: name, floor, money brought -/
structure Told (H : Hp) (rs : List Addr) (ns : List Str) (f b : Str → Int) : Prop where
  len : rs.length = ns.length
  at_ : ∀ (i : Nat) (r : Addr) (x : Str), rs[i]? = some r → ns[i]? = some x → H r = some (.lst [.str x, .int (f x), .int (b x)])
theorem Told.keep {S : List Addr} {H H1 : Hp} {rs : List Addr} {ns : List Str} {f b : Str → Int} (h : Told H rs ns f b) (k : Keep S H H1) (hS : ∀ r ∈ rs, r ∉ S) : Told H1 rs ns f b :=
  ⟨h.len, fun i r x h1 h2 => k r _ (h.at_ i r x h1 h2) (hS r (List.mem_of_getElem? h1))⟩
theorem Told.keep0 {H H1 : Hp} {rs : List Addr} {ns : List Str} {f b : Str → Int} (h : Told H rs ns f b) (k : Keep [] H H1) : Told H1 rs ns f b := h.keep k fun _ _ => by simp
theorem Told.row {H : Hp} {rs : List Addr} {ns : List Str} {f b : Str → Int} (h : Told H rs ns f b) {i : Nat} (hi : i < ns.length) : ∃ r x, rs[i]? = some r ∧ ns[i]? = some x ∧ H r = some (.lst [.str x, .int (f x), .int (b x)]) := by
  have e1 : rs[i]? = some (rs[i]'(by rw [h.len]; exact hi)) := List.getElem?_eq_getElem _
  have e2 : ns[i]? = some ns[i] := List.getElem?_eq_getElem hi
  exact ⟨_, _, e1, e2, h.at_ i _ _ e1 e2⟩
/-! ### comprehensions whose element only reads -/
theorem lc_pure {K : PySem.W.Frag} {a : Addr} {xs : List V} {tl te : TE} {j : Nat} {vs : List Nat} {σ : L2.St} {H : Hp} {Q : VK} (v : Nat → V) (hl : ∀ R : VK, R (.ref a) H → tl σ H R) (hx : SqL K H a xs) (hz : xs.length ≤ 1000)
    (hw : ∀ x, wipe ((wipe σ vs).set j (some x)) vs = wipe σ vs) (he : ∀ (i : Nat) (x : V) (H' : Hp) (R : VK), xs[i]? = some x → Keep [] H H' → R (v i) H' → te ((wipe σ vs).set j (some x)) H' R)
    (k : ∀ (D : Addr) (H' : Hp), H D = none → H' D = some (.lst ((List.range xs.length).map v)) → Keep [] H H' → Q (.ref D) H') : tLc (iList K tl) (gName j) tYes te vs σ H Q := by
  refine hl _ ⟨a, rfl, ⟨xs, hx⟩, fun D hD => ?_⟩
  refine lc_it (walk_list (K := K) (a := a) (xs := xs)) (fun i H' => Keep [] H H' ∧ H' D = some (.lst ((List.range i).map v))) ⟨(Keep.refl [] H).new hD, upd_same⟩ (fun _ _ _ h => h.1.seq hx (by simp)) ?_ (fun H' h => k D H' hD h.2 h.1)
  rintro i x H1 H2 hi ⟨k1, hD1⟩ ⟨rfl, hxi⟩
  refine ⟨hw x, he i x H2 _ hxi k1 ⟨_, hD1, ?_, k1.put (.inr hD), ?_⟩⟩
  · rw [List.length_map, List.length_range]
    exact small1000 (by omega)
  · rw [upd_same, List.range_succ, List.map_append]
    rfl
theorem lc_pureR {ta : TA} {te : TE} {j : Nat} {vs : List Nat} {σ : L2.St} {H : Hp} {Q : VK} (v : Nat → V) (m : Nat) (hl : ∀ R : List V → Hp → Prop, R [.int (m : Int)] H → ta σ H R) (hz : m ≤ 1000)
    (hw : ∀ x, wipe ((wipe σ vs).set j (some x)) vs = wipe σ vs) (he : ∀ (i : Nat) (H' : Hp) (R : VK), i < m → Keep [] H H' → R (v i) H' → te ((wipe σ vs).set j (some (.int (i : Int)))) H' R)
    (k : ∀ (D : Addr) (H' : Hp), H D = none → H' D = some (.lst ((List.range m).map v)) → Keep [] H H' → Q (.ref D) H') : tLc (iRng1 ta) (gName j) tYes te vs σ H Q := by
  refine hl _ ⟨(m : Int), rfl, by omega, by omega, fun D hD => ?_⟩
  rw [Int.toNat_natCast]
  refine lc_it (walk_range (lo := 0) (n := m)) (fun i H' => Keep [] H H' ∧ H' D = some (.lst ((List.range i).map v))) ⟨(Keep.refl [] H).new hD, upd_same⟩ (fun _ _ _ _ => trivial) ?_ (fun H' h => k D H' hD h.2 h.1)
  rintro i x H1 H2 hi ⟨k1, hD1⟩ ⟨rfl, hv⟩
  have hv : x = V.int (i : Int) := hv.trans (congrArg V.int (Int.zero_add _))
  subst hv
  refine ⟨hw _, he i H2 _ hi k1 ⟨_, hD1, ?_, k1.put (.inr hD), ?_⟩⟩
  · rw [List.length_map, List.length_range]
    exact small1000 (by omega)
  · rw [upd_same, List.range_succ, List.map_append]
    rfl
/-! ### promises -/
def spCounts (K : PySem.W.Frag) : Sp := fun vs H Q _ => ∃ (T D : Addr) (rs as : List Addr) (ns : List Str) (f b : Str → Int) (ps : List (Pay Str)), vs = [.ref T, .ref D] ∧ SqL K H T (rs.map V.ref) ∧ Told H rs ns f b ∧ SqL K H D (as.map V.ref) ∧ Pays H as ps ∧ ns.length ≤ 6 ∧ ps.length ≤ 100 ∧
  ∀ (l : Addr) (H' : Hp), H l = none → H' l = some (.lst (iv ns (all ps))) → Keep [] H H' → Q (.ref l) H'
def spFits (K : PySem.W.Frag) : Sp := fun vs H Q _ => ∃ (T W C : Addr) (rs as : List Addr) (ns : List Str) (f b c : Str → Int) (ps : List (Pay Str)), vs = [.ref T, .ref W, .ref C] ∧ SqL K H T (rs.map V.ref) ∧ Told H rs ns f b ∧ SqL K H W (as.map V.ref) ∧ Pays H as ps ∧ SqL K H C (iv ns c) ∧ ns.Nodup ∧ ns.length ≤ 6 ∧ ps.length ≤ 100 ∧
  (∀ q ∈ ps, q.payer ∈ ns ∧ q.payee ∈ ns) ∧ (∀ x, 0 ≤ c x) ∧ ∀ (bb : Bool) (H' : Hp), (bb = true ↔ Feas ns f b ps c) → Keep [] H H' → Q (.bl bb) H'
section
variable {P : Program} {w : World} {K : PySem.W.Frag} {mg : Str → Option Value} {base : Heap}
abbrev nCounts : List Str := ["_law_told", "_law_payments", "_law_payment_here", "_law_row"]
/-- the scope of the comprehension that a def returns -/
def retScope (st : Stmt) : Scope := match defBody st with
  | [.Return (some (.ListComp _ _ sc _)) _] => sc
  | _ => defScope st
theorem scCounts : FnScope nCounts ["_law_told", "_law_payments"] (defScope sCounts) := ⟨rfl, rfl, rfl, by decide +kernel, rfl, by decide +kernel, by decide +kernel⟩
theorem ok_counts (T : Txt K mg) : Good P w K mg base 1 "_law_counts" ["_law_told", "_law_payments"] (spCounts K) := by
  have mLen : mg "len" = none := T.bl _ (by simp [blNames])
  refine T.good (st := sCounts) (by simp [fn]) (by simp [fnNames]) scCounts (fun vs H Q E h => ?_) (fun _ _ _ _ _ _ us hl => match us, hl with | [_, _], _ => rfl) (fun cdv A outer s H vs Q E hr h => ?_)
  · obtain ⟨T0, D, rs, as, ns, f, b, ps, rfl, _⟩ := h
    rfl
  · obtain ⟨T0, D, rs, as, ns, f, b, ps, rfl, hT, tl, hD, hp, hn6, hps, k⟩ := h
    have nd1 := scCounts.nd
    refine ⟨_, pss_one (ps_ret (pe_lc (own := [("_law_row", 3)]) rfl nd1 (pi_list (pv 0)) (blkOk_by (N := nCounts) (sc := defScope sCounts) (by decide +kernel))
      (fun _ _ _ _ _ => pg_name (i := 3) nd1 rfl (Or.inr rfl)) (fun _ _ _ _ _ => pts_nil)
      (fun _ _ _ _ _ => pe_callB (r := Evl.rLenS K) call_len_seq (by rfl) mLen PySem.boot_len (pa_cons (pe_lc (wi := iList K (tVar 1)) (own := [("_law_payment_here", 2)]) rfl nd1 (pi_list (pv 1))
        (blkOk_by (N := nCounts) (sc := relS (retScope sCounts) (defScope sCounts)) (by decide +kernel))
        (fun _ _ _ _ _ => pg_name (i := 2) nd1 rfl (Or.inl rfl)) (fun _ _ _ _ _ => pts_one (pt_cmpR op_eq (pe_ix (r := rIxT K) ix_tup (pv 2) pe_int (fun _ _ => rfl)) (pe_ix (r := rIxL K) ix_list (pv 3) pe_int (fun _ _ => rfl)) (nomark _))) (fun _ _ _ _ _ => pv 2)) pa_nil)))), ?_⟩
    have rl : (rs.map V.ref).length = ns.length := by rw [List.length_map, tl.len]
    have al : (as.map V.ref).length = ps.length := by rw [List.length_map, hp.len]
    refine ⟨_, rfl, T0, rfl, ⟨_, hT⟩, fun L hL => ?_⟩
    refine lc_it (walk_list (K := K) (a := T0) (xs := rs.map V.ref)) (fun i H' => Keep [] H H' ∧ H' L = some (.lst (iv (ns.take i) (all ps)))) ⟨(Keep.refl [] H).new hL, upd_same⟩ (fun _ _ _ h => h.1.seq hT (by simp)) ?_ ?_
    · rintro i v H1 H2 hi ⟨k1, hL1⟩ ⟨rfl, hv⟩
      rw [rl] at hi
      obtain ⟨r, x, hri, hxi, hrow⟩ := (tl.keep0 k1).row hi
      rw [refs_at hri] at hv
      have hv := Option.some.inj hv
      subst hv
      refine ⟨rfl, _, rfl, D, rfl, ⟨_, k1.seq hD (by simp)⟩, fun M hM => ?_⟩
      have hML : M ≠ L := fun q => by rw [q, hL1] at hM; cases hM
      refine lc_it (walk_list (K := K) (a := D) (xs := as.map V.ref)) (fun j H' => Keep [] H2 H' ∧ ∃ ms, H' M = some (.lst ms) ∧ ms.length = cnt (ps.take j) x) ⟨(Keep.refl [] H2).new hM, [], upd_same, rfl⟩ (fun _ _ _ h => (k1.trans h.1).seq hD (by simp)) ?_ ?_
      · rintro j u H3 H4 hj ⟨k3, ms, hM3, hms⟩ ⟨rfl, hu⟩
        rw [al] at hj
        have kk := k1.trans k3
        obtain ⟨a, q, haj, hqj, hobj⟩ := (hp.keep0 kk).pay hj
        rw [refs_at haj] at hu
        have hu := Option.some.inj hu
        subst hu
        have hr4 : H4 r = some (.lst [.str x, .int (f x), .int (b x)]) := k3 r _ hrow (by simp)
        have hle : cnt (ps.take j) x ≤ ps.length := by
          refine Nat.le_trans (List.countP_le_length) ?_
          rw [List.length_take]
          exact Nat.min_le_right _ _
        refine ⟨rfl, _, rfl, a, _, 1, .str q.payer, rfl, rfl, SqT.of hobj, rfl, _, rfl, r, _, 0, .str x, rfl, rfl, SqL.of hr4, rfl, rfl, _, rfl, ?_⟩
        by_cases hx : q.payer = x
        · have e : decide (V.str q.payer = V.str x) = true := decide_eq_true (by rw [hx])
          rw [e]
          refine iteT ⟨_, rfl, _, hM3, small1000 (by omega), k3.put (.inr hM), _, upd_same, ?_⟩
          rw [List.length_append, hms, cnt_take_succ hqj, if_pos hx]
          rfl
        · have e : decide (V.str q.payer = V.str x) = false := decide_eq_false fun z => hx (V.str.inj z)
          rw [e]
          refine iteF ⟨k3, ms, hM3, ?_⟩
          rw [hms, cnt_take_succ hqj, if_neg hx]
          rfl
      · rintro H3 ⟨k3, ms, hM3, hms⟩
        rw [al, List.take_length] at hms
        refine ⟨M, ms, rfl, .inl (SqL.of hM3), _, k3 L _ hL1 (by simp), ?_, ?_, ?_⟩
        · rw [iv_length, List.length_take]
          exact small1000 (by omega)
        · exact (k1.trans k3).put (.inr hL)
        · rw [upd_same, List.take_add_one, hxi]
          unfold iv
          rw [List.map_append, hms]
          rfl
    · rintro H1 ⟨k1, hL1⟩
      rw [rl, List.take_length] at hL1
      exact k L _ hL hL1 k1
end
end K35
/-! The fit of a choice; whether it is contained. -/
namespace K35
open PySem L2
open PySem.Spec PyProof.Rows
section
variable {P : Program} {w : World} {K : PySem.W.Frag} {mg : Str → Option Value} {base : Heap}
abbrev nFits : List Str := ["_law_told", "_law_waits", "_law_counts_here", "_law_balances", "_law_names_here", "_law_done", "_law_payment_here", "_law_payer", "_law_payee", "_law_k", "_law_row"]
theorem scFits : FnScope nFits ["_law_told", "_law_waits", "_law_counts_here"] (defScope sFits) := ⟨rfl, rfl, rfl, by decide +kernel, rfl, by decide +kernel, by decide +kernel⟩
/-- the place of a member's name: no earlier one is the same -/
theorem place_of {ns : List Str} (nd : ns.Nodup) {x : Str} (hx : x ∈ ns) : ∃ j : Nat, ns[j]? = some x ∧ ∀ (m : Nat) (z : V), m < j → (ns.map V.str)[m]? = some z → eqV z (.str x) = false := by
  obtain ⟨j, hj⟩ := List.getElem?_of_mem hx
  refine ⟨j, hj, fun m z hm hz => ?_⟩
  rw [List.getElem?_map] at hz
  cases e : ns[m]? with
  | none => rw [e] at hz; cases hz
  | some y =>
    rw [e] at hz
    have hz := Option.some.inj hz
    subst hz
    show (y == x) = false
    refine beq_eq_false_iff_ne.mpr fun q => ?_
    have := nd_ix nd e (q ▸ hj)
    omega
def dn (c : Str → Int) (ps : List (Pay Str)) (i : Nat) : Str → Int := fun z => min (c z) (cnt (ps.take i) z)
theorem ok_fits (T : Txt K mg) : Good P w K mg base 1 "_law_fits" ["_law_told", "_law_waits", "_law_counts_here"] (spFits K) := by
  have mLen : mg "len" = none := T.bl _ (by simp [blNames])
  have mRan : mg "range" = none := T.bl _ (by simp [blNames])
  refine T.good (st := sFits) (by simp [fn]) (by simp [fnNames]) scFits (fun vs H Q E h => ?_) (fun _ _ _ _ _ _ us hl => match us, hl with | [_, _, _], _ => rfl) (fun cdv A outer s H vs Q E hr h => ?_)
  · obtain ⟨T0, W, C, rs, as, ns, f, b, c, ps, rfl, _⟩ := h
    rfl
  · obtain ⟨T0, W, C, rs, as, ns, f, b, c, ps, rfl, hT, tl, hW, hp, hC, nd, hn6, hps, hq, hc0, k⟩ := h
    have nd1 := scFits.nd
    refine ⟨_, Evl.pss_cut (ps_setLc (i := 3) (own := [("_law_row", 10)]) rfl nd1 rfl rfl (sw_true rfl rfl rfl (by decide +kernel)) (pi_list (pv 0)) (blkOk_by (N := nFits) (sc := defScope sFits) (by decide +kernel))
        (fun _ _ _ _ _ => pg_name (i := 10) nd1 rfl (Or.inl rfl)) (fun _ _ _ _ _ => pts_nil) (fun _ _ _ _ _ => pe_ix (r := rIxL K) ix_list (pv 10) pe_int (fun _ _ => rfl)))
      (Evl.pss_cut (ps_setLc (i := 4) (own := [("_law_row", 10)]) rfl nd1 rfl rfl (sw_true rfl rfl rfl (by decide +kernel)) (pi_list (pv 0)) (blkOk_by (N := nFits) (sc := defScope sFits) (by decide +kernel))
        (fun _ _ _ _ _ => pg_name (i := 10) nd1 rfl (Or.inl rfl)) (fun _ _ _ _ _ => pts_nil) (fun _ _ _ _ _ => pe_ix (r := rIxL K) ix_list (pv 10) pe_int (fun _ _ => rfl)))
      (Evl.pss_cut (ps_setLc (i := 5) (own := [("_law_row", 10)]) rfl nd1 rfl rfl (sw_true rfl rfl rfl (by decide +kernel)) (pi_list (pv 0)) (blkOk_by (N := nFits) (sc := defScope sFits) (by decide +kernel))
        (fun _ _ _ _ _ => pg_name (i := 10) nd1 rfl (Or.inl rfl)) (fun _ _ _ _ _ => pts_nil) (fun _ _ _ _ _ => pe_int))
      (Evl.pss_cut (ps_for PassesOwn.never rfl (pi_list (pv 1)) (pg_name (i := 6) nd1 rfl (Or.inl rfl))
        (pss_cons (ps_set (i := 7) nd1 rfl (Or.inl rfl) (pe_bm PySem.F.plainAttrs_list PySem.F.slot_list_index PySem.F.type_list_index mt_index (pv 4) (pa_cons (pe_ix ix_tup (pv 6) pe_int (fun _ _ => rfl)) pa_nil)))
        (pss_one (ps_if (pt_cmpR op_lt (pe_ix ix_list (pv 5) (pv 7) (fun _ _ => rfl)) (pe_ix ix_list (pv 2) (pv 7) (fun _ _ => rfl)) (nomark _))
          (pss_cons (ps_set (i := 8) nd1 rfl (Or.inl rfl) (pe_bm PySem.F.plainAttrs_list PySem.F.slot_list_index PySem.F.type_list_index mt_index (pv 4) (pa_cons (pe_ix ix_tup (pv 6) pe_int (fun _ _ => rfl)) pa_nil)))
          (pss_cons (ps_asg (pe_op op_add (pe_ix ix_list (pv 5) (pv 7) (fun _ _ => rfl)) pe_int) (pg_sub (pv 5) (pv 7) set_list))
          (pss_cons (ps_asg (pe_op op_sub (pe_ix ix_list (pv 3) (pv 7) (fun _ _ => rfl)) (pe_ix ix_tup (pv 6) pe_int (fun _ _ => rfl))) (pg_sub (pv 3) (pv 7) set_list))
          (pss_one (ps_asg (pe_op op_add (pe_ix ix_list (pv 3) (pv 8) (fun _ _ => rfl)) (pe_ix ix_tup (pv 6) pe_int (fun _ _ => rfl))) (pg_sub (pv 3) (pv 8) set_list)))))) pss_nil))))
      (pss_cons (ps_for PassesOwn.never rfl (pi_range1 (by rfl) mRan (pa_cons (pe_callB call_len_seq (by rfl) mLen PySem.boot_len (pa_cons (pv 0) pa_nil)) pa_nil)) (pg_name (i := 9) nd1 rfl (Or.inl rfl))
        (pss_one (ps_if (pt_cmpR op_lt (pe_ix ix_list (pv 3) (pv 9) (fun _ _ => rfl)) (pe_ix ix_list (pe_ix ix_list (pv 0) (pv 9) (fun _ _ => rfl)) pe_int (fun _ _ => rfl)) (nomark _)) (pss_one (ps_ret pe_bl)) pss_nil)))
      (pss_one (ps_ret pe_bl)))))), ?_⟩
    have rl : (rs.map V.ref).length = ns.length := by rw [List.length_map, tl.len]
    have al : (as.map V.ref).length = ps.length := by rw [List.length_map, hp.len]
    -- the three lists
    refine ⟨fun σ' H' => ∃ B, H B = none ∧ Keep [] H H' ∧ H' B = some (.lst (iv ns b)) ∧ σ' = [some (.ref T0), some (.ref W), some (.ref C), some (.ref B), none, none, none, none, none, none, none], ?_, ?_⟩
    · refine lc_pure (fun i => .int (b (ns.getD i default))) (fun R q => ⟨_, rfl, q⟩) hT (by omega) (fun _ => rfl) (fun i x H' R hi kk q => ?_) (fun D H' hD hD' kk => ?_)
      · have hi2 : i < ns.length := by rw [← rl]; exact (List.getElem?_eq_some_iff.mp hi).1
        obtain ⟨r, x', hri, hxi, hrow⟩ := (tl.keep0 kk).row hi2
        rw [refs_at hri] at hi
        have hi := Option.some.inj hi
        subst hi
        have e : ns.getD i default = x' := by rw [List.getD_eq_getElem?_getD, hxi]; rfl
        rw [e] at q
        exact ⟨_, rfl, r, _, 2, _, rfl, rfl, SqL.of hrow, rfl, q⟩
      · refine ⟨D, hD, kk, ?_, rfl⟩
        rw [hD', rl, range_map (g := fun x => V.int (b x)) fun i x hx => by rw [List.getD_eq_getElem?_getD, hx]; rfl]
        rfl
    rintro σ1 H1 ⟨B, hB0, k1, hB1, rfl⟩
    refine ⟨fun σ' H' => ∃ N, H1 N = none ∧ Keep [] H1 H' ∧ H' N = some (.lst (ns.map V.str)) ∧ σ' = [some (.ref T0), some (.ref W), some (.ref C), some (.ref B), some (.ref N), none, none, none, none, none, none], ?_, ?_⟩
    · refine lc_pure (fun i => .str (ns.getD i default)) (fun R q => ⟨_, rfl, q⟩) (k1.seq hT (by simp)) (by omega) (fun _ => rfl) (fun i x H' R hi kk q => ?_) (fun D H' hD hD' kk => ?_)
      · have hi2 : i < ns.length := by rw [← rl]; exact (List.getElem?_eq_some_iff.mp hi).1
        obtain ⟨r, x', hri, hxi, hrow⟩ := (tl.keep0 (k1.trans kk)).row hi2
        rw [refs_at hri] at hi
        have hi := Option.some.inj hi
        subst hi
        have e : ns.getD i default = x' := by rw [List.getD_eq_getElem?_getD, hxi]; rfl
        rw [e] at q
        exact ⟨_, rfl, r, _, 0, _, rfl, rfl, SqL.of hrow, rfl, q⟩
      · refine ⟨D, hD, kk, ?_, rfl⟩
        rw [hD', rl, range_map (g := V.str) fun i x hx => by rw [List.getD_eq_getElem?_getD, hx]; rfl]
    rintro σ2 H2 ⟨N, hN0, k2, hN2, rfl⟩
    have hB2 : H2 B = some (.lst (iv ns b)) := k2 B _ hB1 (by simp)
    refine ⟨fun σ' H' => ∃ Dn, H2 Dn = none ∧ Keep [] H2 H' ∧ H' Dn = some (.lst (iv ns (dn c ps 0))) ∧ σ' = [some (.ref T0), some (.ref W), some (.ref C), some (.ref B), some (.ref N), some (.ref Dn), none, none, none, none, none], ?_, ?_⟩
    · refine lc_pure (fun i => .int 0) (fun R q => ⟨_, rfl, q⟩) ((k1.trans k2).seq hT (by simp)) (by omega) (fun _ => rfl) (fun i x H' R hi kk q => q) (fun D H' hD hD' kk => ?_)
      refine ⟨D, hD, kk, ?_, rfl⟩
      rw [hD', rl, range_map (g := fun x => V.int (dn c ps 0 x)) fun i x hx => ?_]
      · rfl
      · have := hc0 x
        show V.int 0 = V.int (min (c x) ((cnt (ps.take 0) x : Nat) : Int))
        rw [List.take_zero, cnt_nil]
        congr 1
        omega
    rintro σ3 H3 ⟨Dn, hD0, k3, hD3, rfl⟩
    have hN3 : H3 N = some (.lst (ns.map V.str)) := k3 N _ hN2 (by simp)
    have hB3 : H3 B = some (.lst (iv ns b)) := k3 B _ hB2 (by simp)
    have kk3 : Keep [] H H3 := (k1.trans k2).trans k3
    have hN00 : H N = none := k1.free hN0 (by simp)
    have hD00 : H Dn = none := (k1.trans k2).free hD0 (by simp)
    have nBN : B ≠ N := ne_of_none hB1 hN0
    have nBD : B ≠ Dn := ne_of_none hB2 hD0
    have nND : N ≠ Dn := ne_of_none hN2 hD0
    -- the payments
    refine ⟨fun σ' H' => ∃ v6 v7 v8, Keep [] H H' ∧ H' B = some (.lst (iv ns (run c b ps ps.length))) ∧ σ' = [some (.ref T0), some (.ref W), some (.ref C), some (.ref B), some (.ref N), some (.ref Dn), v6, v7, v8, none, none], ?_, ?_⟩
    · refine ⟨_, rfl, W, rfl, ⟨_, kk3.seq hW (by simp)⟩, ?_⟩
      refine for_it (walk_list (K := K) (a := W) (xs := as.map V.ref)) (fun i σ' H' => ∃ v6 v7 v8, Keep [] H H' ∧ H' B = some (.lst (iv ns (run c b ps i))) ∧ H' N = some (.lst (ns.map V.str)) ∧ H' Dn = some (.lst (iv ns (dn c ps i))) ∧
        σ' = [some (.ref T0), some (.ref W), some (.ref C), some (.ref B), some (.ref N), some (.ref Dn), v6, v7, v8, none, none]) ⟨none, none, none, kk3, hB3, hN3, hD3, rfl⟩ (fun i σ' H' _ ⟨_, _, _, kk, _⟩ => kk.seq hW (by simp)) ?_ ?_
      · rintro i v σ' H4 H5 hi ⟨v6, v7, v8, k4, hB4, hN4, hD4, rfl⟩ ⟨rfl, hv⟩
        rw [al] at hi
        obtain ⟨a, q, ha, hqi, hobj⟩ := (hp.keep0 k4).pay hi
        rw [refs_at ha] at hv
        have hv := Option.some.inj hv
        subst hv
        obtain ⟨x1, x2⟩ := hq q (List.mem_of_getElem? hqi)
        obtain ⟨j, hj, nnj⟩ := place_of nd x1
        refine ⟨_, rfl, .inl ⟨rfl, _, SqL.of hN4⟩, _, rfl, a, _, 1, .str q.payer, rfl, rfl, SqT.of hobj, rfl, N, _, _, j, .str q.payer, rfl, rfl, SqL.of hN4, rfl, flat_strs _, strs_at hj, beq_self_eq_true q.payer, nnj, ?_⟩
        have hjl : j < ns.length := (List.getElem?_eq_some_iff.mp hj).1
        refine ⟨_, rfl, _, rfl, Dn, _, _, _, rfl, rfl, SqL.of hD4, atI_nat (iv_at hj), _, rfl, _, rfl, C, _, _, _, rfl, rfl, k4.seq hC (by simp), atI_nat (iv_at hj), _, _, rfl, rfl, _, rfl, ?_⟩
        have hfl : decide (dn c ps i q.payer < c q.payer) = flag c ps i := by
          rw [flag_at hqi]
          refine decide_eq_decide.mpr ?_
          unfold dn
          omega
        rw [hfl]
        by_cases hf : flag c ps i = true
        · rw [hf]
          refine iteT ?_
          obtain ⟨j2, hj2, nnj2⟩ := place_of nd x2
          refine ⟨_, rfl, .inl ⟨rfl, _, SqL.of hN4⟩, _, rfl, a, _, 2, .str q.payee, rfl, rfl, SqT.of hobj, rfl, N, _, _, j2, .str q.payee, rfl, rfl, SqL.of hN4, rfl, flat_strs _, strs_at hj2, beq_self_eq_true q.payee, nnj2, ?_⟩
          have hjl2 : j2 < ns.length := (List.getElem?_eq_some_iff.mp hj2).1
          refine ⟨_, rfl, _, rfl, Dn, _, _, _, rfl, rfl, SqL.of hD4, atI_nat (iv_at hj), _, _, rfl, rfl, _, rfl, _, rfl, Dn, _, _, j, rfl, rfl, hD4, ix_nat (by rw [iv_length]; exact hjl), ?_⟩
          rw [iv_set nd hj]
          generalize hH6 : upd H5 Dn (.lst (iv ns (setF (dn c ps i) q.payer (dn c ps i q.payer + 1)))) = H6
          have k6 : Keep [] H H6 := by rw [← hH6]; exact k4.put (.inr hD00)
          have hB6 : H6 B = some (.lst (iv ns (run c b ps i))) := by rw [← hH6, upd_ne nBD]; exact hB4
          have ho6 : H6 a = some (.tup (ptup q)) := (hp.keep0 k6).at_ i a q ha hqi
          refine ⟨_, rfl, _, rfl, B, _, _, _, rfl, rfl, SqL.of hB6, atI_nat (iv_at hj), _, rfl, a, _, 3, .int q.amt, rfl, rfl, SqT.of ho6, rfl, _, _, rfl, rfl, _, rfl, _, rfl, B, _, _, j, rfl, rfl, hB6, ix_nat (by rw [iv_length]; exact hjl), ?_⟩
          rw [iv_set nd hj]
          generalize hH7 : upd H6 B (.lst (iv ns (setF (run c b ps i) q.payer (run c b ps i q.payer - q.amt)))) = H7
          have k7 : Keep [] H H7 := by rw [← hH7]; exact k6.put (.inr hB0)
          have hB7 : H7 B = some (.lst (iv ns (setF (run c b ps i) q.payer (run c b ps i q.payer - q.amt)))) := by rw [← hH7, upd_same]
          have ho7 : H7 a = some (.tup (ptup q)) := (hp.keep0 k7).at_ i a q ha hqi
          refine ⟨_, rfl, _, rfl, B, _, _, _, rfl, rfl, SqL.of hB7, atI_nat (iv_at hj2), _, rfl, a, _, 3, .int q.amt, rfl, rfl, SqT.of ho7, rfl, _, _, rfl, rfl, _, rfl, _, rfl, B, _, _, j2, rfl, rfl, hB7, ix_nat (by rw [iv_length]; exact hjl2), ?_⟩
          rw [iv_set nd hj2]
          refine ⟨_, _, _, k7.put (.inr hB0), ?_, ?_, ?_, rfl⟩
          · rw [upd_same, setF_mv, run_succ hqi, if_pos hf]
          · rw [upd_ne nBN.symm, ← hH7, upd_ne nBN.symm, ← hH6, upd_ne nND]; exact hN4
          · rw [upd_ne nBD.symm, ← hH7, upd_ne nBD.symm, ← hH6, upd_same]
            refine congrArg (fun z => some (HO.lst z)) (iv_congr fun z _ => ?_)
            have e1 := cnt_take_succ hqi z
            rw [flag_at hqi] at hf
            have h2 := of_decide_eq_true hf
            by_cases hz : z = q.payer
            · subst hz
              rw [setF_same]
              rw [if_pos rfl] at e1
              unfold dn
              omega
            · rw [setF_ne _ _ hz]
              rw [if_neg fun y => hz y.symm] at e1
              unfold dn
              omega
        · have hf2 : flag c ps i = false := by simpa using hf
          rw [hf2]
          refine iteF ⟨_, _, _, k4, ?_, hN4, ?_, rfl⟩
          · rw [hB4, run_succ hqi, if_neg hf]
          · rw [hD4]
            refine congrArg (fun z => some (HO.lst z)) (iv_congr fun z _ => ?_)
            have e1 := cnt_take_succ hqi z
            rw [flag_at hqi] at hf2
            have h2 := of_decide_eq_false hf2
            by_cases hz : z = q.payer
            · subst hz
              rw [if_pos rfl] at e1
              unfold dn
              omega
            · rw [if_neg fun y => hz y.symm] at e1
              unfold dn
              omega
      · rintro σ' H4 ⟨v6, v7, v8, k4, hB4, hN4, hD4, rfl⟩
        rw [al] at hB4
        exact ⟨_, _, _, k4, hB4, rfl⟩
    -- is one below its floor?
    rintro σ4 H4 ⟨v6, v7, v8, k4, hB4, rfl⟩
    refine ⟨_, rfl, T0, _, rfl, .inl (k4.seq hT (by simp)), ?_⟩
    rw [rl]
    refine ⟨_, rfl, by omega, by omega, ?_⟩
    rw [Int.toNat_natCast]
    refine for_it (walk_range (lo := 0)) (fun i σ' H' => H' = H4 ∧ (∃ v9, σ' = [some (.ref T0), some (.ref W), some (.ref C), some (.ref B), some (.ref N), some (.ref Dn), v6, v7, v8, v9, none]) ∧ ∀ j x, j < i → ns[j]? = some x → f x ≤ run c b ps ps.length x)
      ⟨rfl, ⟨none, rfl⟩, fun j x hj => absurd hj (Nat.not_lt_zero _)⟩ (fun _ _ _ _ _ => trivial) ?_ ?_
    · rintro i v σ' H5 H6 hi ⟨rfl, ⟨v9, rfl⟩, hall⟩ ⟨rfl, hv⟩
      have hv : v = V.int (i : Int) := hv.trans (congrArg V.int (Int.zero_add _))
      subst hv
      obtain ⟨r, x, hri, hxi, hrow⟩ := (tl.keep0 k4).row hi
      refine ⟨_, rfl, _, rfl, B, _, _, _, rfl, rfl, SqL.of hB4, atI_nat (iv_at hxi), _, rfl, _, rfl, T0, _, _, _, rfl, rfl, k4.seq hT (by simp), atI_nat (refs_at hri), r, _, 1, _, rfl, rfl, SqL.of hrow, rfl, _, _, rfl, rfl, _, rfl, ?_⟩
      refine ite2 (fun hlt => ?_) (fun hge => ?_)
      · have hlt := of_decide_eq_true hlt
        refine k false _ ⟨fun z => Bool.noConfusion z, fun hF => ?_⟩ k4
        have := hF x (List.mem_of_getElem? hxi)
        omega
      · refine ⟨rfl, ⟨_, rfl⟩, fun j y hj hy => ?_⟩
        have hge : ¬ run c b ps ps.length x < f x := fun z => hge (decide_eq_true z)
        by_cases e : j = i
        · subst e
          rw [hxi] at hy
          have := Option.some.inj hy
          subst this
          omega
        · exact hall j y (by omega) hy
    · rintro σ' H5 ⟨rfl, ⟨v9, rfl⟩, hall⟩
      refine k true _ ⟨fun _ x hx => ?_, fun _ => rfl⟩ k4
      obtain ⟨j, hj⟩ := List.getElem?_of_mem hx
      exact hall j x (List.getElem?_eq_some_iff.mp hj).1 hj
end
end K35
/-! Contained; the largest. -/
namespace K35
open PySem L2
open PySem.Spec PyProof.Rows
theorem Keep.up {S : List Addr} {H H1 : Hp} (k : Keep [] H H1) : Keep S H H1 := k.mono fun _ h => by simp at h
def spContained (K : PySem.W.Frag) : Sp := fun vs H Q _ => ∃ (T W C M : Addr) (rs as : List Addr) (ns : List Str) (f b c n : Str → Int) (ps : List (Pay Str)), vs = [.ref T, .ref W, .ref C, .ref M] ∧ SqL K H T (rs.map V.ref) ∧ Told H rs ns f b ∧ SqL K H W (as.map V.ref) ∧ Pays H as ps ∧ SqL K H C (iv ns c) ∧ SqL K H M (iv ns n) ∧ ns.Nodup ∧ ns.length ≤ 6 ∧ ps.length ≤ 100 ∧
  (∀ q ∈ ps, q.payer ∈ ns ∧ q.payee ∈ ns) ∧ (∀ x, 0 ≤ c x) ∧ (Feas ns f b ps c → ∀ x ∈ ns, c x ≤ n x) ∧ ∀ (H' : Hp), Keep [] H H' → Q (.bl true) H'
def spLargest (K : PySem.W.Frag) : Sp := fun vs H Q _ => ∃ (T W M a : Addr) (rs as : List Addr) (ns : List Str) (f b n : Str → Int) (ps : List (Pay Str)), vs = [.ref T, .ref W, .ref M, .ref a] ∧ SqL K H T (rs.map V.ref) ∧ Told H rs ns f b ∧ SqL K H W (as.map V.ref) ∧ Pays H as ps ∧ SqL K H M (iv ns n) ∧ Src H a ∧
  (T ≠ a ∧ W ≠ a ∧ M ≠ a ∧ ∀ r ∈ rs, r ≠ a) ∧ ns.Nodup ∧ ns.length ≤ 6 ∧ ps.length ≤ 100 ∧ (∀ q ∈ ps, q.payer ∈ ns ∧ q.payee ∈ ns) ∧ Srch ns f b ps n ∧ ∀ (H' : Hp), Keep [a] H H' → Q (.bl true) H'
section
variable {P : Program} {w : World} {K : PySem.W.Frag} {mg : Str → Option Value} {base : Heap}
theorem scContained : FnScope ["_law_told", "_law_waits", "_law_counts_here", "_law_most", "_law_k"] ["_law_told", "_law_waits", "_law_counts_here", "_law_most"] (defScope sContained) := ⟨rfl, rfl, rfl, by decide +kernel, rfl, by decide +kernel, by decide +kernel⟩
theorem ok_contained (T : Txt K mg) : Good P w K mg base 2 "_law_contained" ["_law_told", "_law_waits", "_law_counts_here", "_law_most"] (spContained K) := by
  have mLen : mg "len" = none := T.bl _ (by simp [blNames])
  have mRan : mg "range" = none := T.bl _ (by simp [blNames])
  have gF : Good P w K mg base 1 "_law_fits" ["_law_told", "_law_waits", "_law_counts_here"] (spFits K) := ok_fits T
  refine T.good (st := sContained) (by simp [fn]) (by simp [fnNames]) scContained (fun vs H Q E h => ?_) (fun _ _ _ _ _ _ us hl => match us, hl with | [_, _, _, _], _ => rfl) (fun cdv A outer s H vs Q E hr h => ?_)
  · obtain ⟨T0, W, C, M, rs, as, ns, f, b, c, n, ps, rfl, _⟩ := h
    rfl
  · obtain ⟨T0, W, C, M, rs, as, ns, f, b, c, n, ps, rfl, hT, tl, hW, hp, hC, hM, nd, hn6, hps, hq, hc0, hmax, k⟩ := h
    refine ⟨_, pss_cons (ps_if (pt_not (pt_val (pe_go gF hr (pa_cons (pv 0) (pa_cons (pv 1) (pa_cons (pv 2) pa_nil)))))) (pss_one (ps_ret pe_bl)) pss_nil)
      (pss_cons (ps_for PassesOwn.never rfl (pi_range1 (by rfl) mRan (pa_cons (pe_callB call_len_seq (by rfl) mLen PySem.boot_len (pa_cons (pv 3) pa_nil)) pa_nil)) (pg_name (i := 4) scContained.nd rfl (Or.inl rfl))
        (pss_one (ps_if (pt_cmpR op_gt (pe_ix ix_list (pv 2) (pv 4) (fun _ _ => rfl)) (pe_ix ix_list (pv 3) (pv 4) (fun _ _ => rfl)) (nomark _)) (pss_one (ps_ret pe_bl)) pss_nil)))
      (pss_one (ps_ret pe_bl))), ?_⟩
    refine ⟨_, rfl, _, rfl, _, rfl, T0, W, C, rs, as, ns, f, b, c, ps, rfl, hT, tl, hW, hp, hC, nd, hn6, hps, hq, hc0, fun bb H1 hbb k1 => ⟨bb, rfl, ?_⟩⟩
    cases bb with
    | false => exact iteT (k _ k1)
    | true =>
      have hF := hbb.mp rfl
      refine iteF ?_
      refine ⟨_, rfl, M, _, rfl, .inl (k1.seq hM (by simp)), ?_⟩
      rw [iv_length]
      refine ⟨_, rfl, by omega, by omega, ?_⟩
      rw [Int.toNat_natCast]
      refine for_it (walk_range (lo := 0)) (fun i σ' H' => H' = H1 ∧ ∃ v4, σ' = [some (.ref T0), some (.ref W), some (.ref C), some (.ref M), v4]) ⟨rfl, none, rfl⟩ (fun _ _ _ _ _ => trivial) ?_ ?_
      · rintro i v σ' H5 H6 hi ⟨rfl, v4, rfl⟩ ⟨rfl, hv⟩
        have hv : v = V.int (i : Int) := hv.trans (congrArg V.int (Int.zero_add _))
        subst hv
        have hx : ns[i]? = some ns[i] := List.getElem?_eq_getElem hi
        refine ⟨_, rfl, _, rfl, C, _, _, _, rfl, rfl, k1.seq hC (by simp), atI_nat (iv_at hx), _, rfl, _, rfl, M, _, _, _, rfl, rfl, k1.seq hM (by simp), atI_nat (iv_at hx), _, _, rfl, rfl, _, rfl, ?_⟩
        have hle := hmax hF _ (List.mem_of_getElem? hx)
        rw [decide_eq_false (show ¬ n ns[i] < c ns[i] by omega)]
        exact iteF ⟨rfl, _, rfl⟩
      · rintro σ' H5 ⟨rfl, v4, rfl⟩
        exact k _ k1
abbrev nLargest : List Str := ["_law_told", "_law_waits", "_law_most", "_law_source_here", "_law_everything", "_law_k", "_law_counts_here", "_law_many", "_law_j"]
theorem scLargest : FnScope nLargest ["_law_told", "_law_waits", "_law_most", "_law_source_here"] (defScope sLargest) := ⟨rfl, rfl, rfl, by decide +kernel, rfl, by decide +kernel, by decide +kernel⟩
theorem all_choice (ps : List (Pay Str)) : Choice ps (all ps) := fun _ => ⟨Int.natCast_nonneg _, Int.le_refl _⟩
theorem ok_largest (T : Txt K mg) : Good P w K mg base 3 "_law_largest" ["_law_told", "_law_waits", "_law_most", "_law_source_here"] (spLargest K) := by
  have mLen : mg "len" = none := T.bl _ (by simp [blNames])
  have mRan : mg "range" = none := T.bl _ (by simp [blNames])
  have mLst : mg "list" = none := T.bl _ (by simp [blNames])
  have mMin : mg "min" = none := T.bl _ (by simp [blNames])
  have mMax : mg "max" = none := T.bl _ (by simp [blNames])
  have gC : Good P w K mg base 1 "_law_counts" ["_law_told", "_law_payments"] (spCounts K) := ok_counts T
  have gD : Good P w K mg base 2 "_law_contained" ["_law_told", "_law_waits", "_law_counts_here", "_law_most"] (spContained K) := ok_contained T
  have gP : Good P w K mg base 1 "_law_pick" ["_law_source_here", "_law_many"] spPick := ok_pick T
  refine T.good (st := sLargest) (by simp [fn]) (by simp [fnNames]) scLargest (fun vs H Q E h => ?_) (fun _ _ _ _ _ _ us hl => match us, hl with | [_, _, _, _], _ => rfl) (fun cdv A outer s H vs Q E hr h => ?_)
  · obtain ⟨T0, W, M, a, rs, as, ns, f, b, n, ps, rfl, _⟩ := h
    rfl
  · obtain ⟨T0, W, M, a, rs, as, ns, f, b, n, ps, rfl, hT, tl, hW, hp, hM, ha, ⟨neT, neW, neM, neR⟩, nd, hn6, hps, hq, hS, k⟩ := h
    have hr1 : Room 1 _ := hr.mono (by decide)
    have nd1 := scLargest.nd
    refine ⟨_, Evl.pss_cut (ps_set (i := 4) nd1 rfl (Or.inl rfl) (pe_go gC hr1 (pa_cons (pv 0) (pa_cons (pv 1) pa_nil))))
      (pss_cons (ps_if (pt_not (pt_val (pe_go gD hr (pa_cons (pv 0) (pa_cons (pv 1) (pa_cons (pv 4) (pa_cons (pv 2) pa_nil))))))) (pss_one (ps_ret pe_bl)) pss_nil)
      (Evl.pss_cut (ps_for PassesOwn.never rfl (pi_range1 (by rfl) mRan (pa_cons (pe_callB call_len_seq (by rfl) mLen PySem.boot_len (pa_cons (pv 0) pa_nil)) pa_nil)) (pg_name (i := 5) nd1 rfl (Or.inl rfl))
        (pss_cons (ps_set (i := 6) nd1 rfl (Or.inr rfl) (pe_callTy call_list_of (by rfl) mLst PyProof.Rows.boot_list (pa_cons (pv 2) pa_nil)))
        (pss_cons (ps_asg (pe_callB (call_min2 rfl) (by rfl) mMin PyProof.Rows.boot_min (pa_cons (pe_ix ix_list (pv 4) (pv 5) (fun _ _ => rfl)) (pa_cons (pe_op op_add (pe_ix ix_list (pv 2) (pv 5) (fun _ _ => rfl)) pe_int) pa_nil))) (pg_sub (pv 6) (pv 5) set_list))
        (pss_one (ps_if (pt_not (pt_val (pe_go gD hr (pa_cons (pv 0) (pa_cons (pv 1) (pa_cons (pv 6) (pa_cons (pv 2) pa_nil))))))) (pss_one (ps_ret pe_bl)) pss_nil)))))
      (pss_cons (ps_for PassesOwn.never rfl (pi_range1 (by rfl) mRan (pa_cons pe_int pa_nil)) (pg_name (i := 5) nd1 rfl (Or.inl rfl))
        (Evl.pss_cut (ps_set (i := 6) nd1 rfl (Or.inr rfl) (pe_lc (own := [("_law_many", 7)]) rfl nd1 (pi_list (pv 4)) (blkOk_by (N := nLargest) (sc := defScope sLargest) (by decide +kernel))
          (fun _ _ _ _ _ => pg_name (i := 7) nd1 rfl (Or.inl rfl)) (fun _ _ _ _ _ => pts_nil) (fun _ _ _ _ _ => pe_go gP hr1 (pa_cons (pv 3) (pa_cons (pe_op op_add (pv 7) pe_int) pa_nil)))))
        (pss_cons (ps_if (pt_not (pt_val (pe_go gD hr (pa_cons (pv 0) (pa_cons (pv 1) (pa_cons (pv 6) (pa_cons (pv 2) pa_nil))))))) (pss_one (ps_ret pe_bl)) pss_nil)
        (Evl.pss_cut (ps_set (i := 6) nd1 rfl (Or.inr rfl) (pe_lc (own := [("_law_j", 8)]) rfl nd1 (pi_range1 (by rfl) mRan (pa_cons (pe_callB call_len_seq (by rfl) mLen PySem.boot_len (pa_cons (pv 2) pa_nil)) pa_nil)) (blkOk_by (N := nLargest) (sc := defScope sLargest) (by decide +kernel))
          (fun _ _ _ _ _ => pg_name (i := 8) nd1 rfl (Or.inl rfl)) (fun _ _ _ _ _ => pts_nil) (fun _ _ _ _ _ => pe_callB (call_max2 rfl) (by rfl) mMax PyProof.Rows.boot_max (pa_cons (pe_ix (r := rIxL K) ix_list (pv 6) (pv 8) (fun _ _ => rfl)) (pa_cons (pe_ix (r := rIxL K) ix_list (pv 2) (pv 8) (fun _ _ => rfl)) pa_nil)))))
        (pss_one (ps_if (pt_not (pt_val (pe_go gD hr (pa_cons (pv 0) (pa_cons (pv 1) (pa_cons (pv 6) (pa_cons (pv 2) pa_nil))))))) (pss_one (ps_ret pe_bl)) pss_nil))))))
      (pss_one (ps_ret pe_bl))))), ?_⟩
    have rl : (rs.map V.ref).length = ns.length := by rw [List.length_map, tl.len]
    have notup : ∀ s ∈ [a], ∀ xs, H s ≠ some (.tup xs) := fun s hs xs e => by
      obtain ⟨x, y, e2⟩ := ha
      rw [List.mem_singleton.mp hs, e2] at e
      cases e
    have stT : ∀ {H' : Hp}, Keep [a] H H' → SqL K H' T0 (rs.map V.ref) := fun q => q.seq hT (by simp; exact neT)
    have stW : ∀ {H' : Hp}, Keep [a] H H' → SqL K H' W (as.map V.ref) := fun q => q.seq hW (by simp; exact neW)
    have stM : ∀ {H' : Hp}, Keep [a] H H' → SqL K H' M (iv ns n) := fun q => q.seq hM (by simp; exact neM)
    have stR : ∀ {H' : Hp}, Keep [a] H H' → Told H' rs ns f b := fun q => tl.keep q fun r hr2 => by simp; exact neR r hr2
    have stP : ∀ {H' : Hp}, Keep [a] H H' → Pays H' as ps := fun q => hp.keep q notup
    have allb : ∀ x, 0 ≤ all ps x ∧ all ps x ≤ 100 := fun x => ⟨Int.natCast_nonneg _, by
      have h2 : cnt ps x ≤ ps.length := List.countP_le_length
      unfold all
      omega⟩
    -- everything = _law_counts(told, waits)
    refine ⟨fun σ' H' => ∃ Ev, H Ev = none ∧ Keep [] H H' ∧ H' Ev = some (.lst (iv ns (all ps))) ∧ σ' = [some (.ref T0), some (.ref W), some (.ref M), some (.ref a), some (.ref Ev), none, none, none, none], ?_, ?_⟩
    · exact ⟨_, rfl, _, rfl, T0, W, rs, as, ns, f, b, ps, rfl, hT, tl, hW, hp, hn6, hps, fun l H' h1 h2 h3 => ⟨l, h1, h3, h2, rfl⟩⟩
    rintro σ1 H1 ⟨Ev, hE0, k1, hE1, rfl⟩
    have k1a : Keep [a] H H1 := k1.up
    have s1 : Src H1 a := ha.keep k1 (by simp)
    have nEa : a ≠ Ev := ha.ne hE0
    refine ⟨_, rfl, _, rfl, _, rfl, _, rfl, T0, W, Ev, M, rs, as, ns, f, b, (all ps), n, ps, rfl, stT k1a, stR k1a, stW k1a, stP k1a, (SqL.of hE1), stM k1a, nd, hn6, hps, hq, fun x => ((all_choice ps) x).1, fun hF x _ => hS.max _ (all_choice ps) hF x, fun H2 k2 => ⟨true, rfl, ?_⟩⟩
    refine iteF ?_
    have k2a : Keep [a] H H2 := k1a.trans k2.up
    have s2 : Src H2 a := s1.keep k2 (by simp)
    have hE2 : H2 Ev = some (.lst (iv ns (all ps))) := k2 Ev _ hE1 (by simp)
    -- every single payer with one more
    refine ⟨fun σ' H' => ∃ v5 v6, Keep [a] H H' ∧ Src H' a ∧ H' Ev = some (.lst (iv ns (all ps))) ∧ σ' = [some (.ref T0), some (.ref W), some (.ref M), some (.ref a), some (.ref Ev), v5, v6, none, none], ?_, ?_⟩
    · refine ⟨_, rfl, T0, _, rfl, .inl (stT k2a), ?_⟩
      rw [rl]
      refine ⟨_, rfl, by omega, by omega, ?_⟩
      rw [Int.toNat_natCast]
      refine for_it (walk_range (lo := 0)) (fun i σ' H' => ∃ v5 v6, Keep [a] H H' ∧ Src H' a ∧ H' Ev = some (.lst (iv ns (all ps))) ∧ σ' = [some (.ref T0), some (.ref W), some (.ref M), some (.ref a), some (.ref Ev), v5, v6, none, none])
        ⟨none, none, k2a, s2, hE2, rfl⟩ (fun _ _ _ _ _ => trivial) ?_ (fun σ' H' h => h)
      rintro i v σ' H3 H4 hi ⟨v5, v6, k4, s4, hE4, rfl⟩ ⟨rfl, hv⟩
      have hv : v = V.int (i : Int) := hv.trans (congrArg V.int (Int.zero_add _))
      subst hv
      have hx : ns[i]? = some ns[i] := List.getElem?_eq_getElem hi
      generalize hxe : ns[i] = x at hx
      refine ⟨_, rfl, M, _, rfl, .inl (stM k4), fun L hL => ?_⟩
      have nLa : a ≠ L := s4.ne hL
      have nEL : Ev ≠ L := ne_of_none hE4 hL
      have k5 : Keep [a] H (upd H4 L (.lst (iv ns n))) := k4.new hL
      have hE5 : (upd H4 L (.lst (iv ns n))) Ev = some (.lst (iv ns (all ps))) := by rw [upd_ne nEL]; exact hE4
      have hL0 : H L = none := k4.free hL (by simp; exact nLa.symm)
      refine ⟨_, rfl, _, rfl, Ev, _, _, _, rfl, rfl, SqL.of hE5, atI_nat (iv_at hx), _, rfl, _, rfl, M, _, _, _, rfl, rfl, stM k5, atI_nat (iv_at hx), _, _, rfl, rfl, _, _, rfl, _, rfl, _, rfl, L, _, _, i, rfl, rfl, upd_same, ix_nat (by rw [iv_length]; exact hi), ?_⟩
      rw [iv_set nd hx, upd_upd]
      have hch : Choice ps (setF n x (if n x + 1 < all ps x then n x + 1 else all ps x)) := fun z => by
        have h1 := hS.ch z
        by_cases e : z = x
        · subst e
          rw [setF_same]
          unfold all
          split <;> omega
        · rw [setF_ne _ _ e]
          exact h1
      have k6 : Keep [a] H (upd H4 L (.lst (iv ns (setF n x (if n x + 1 < all ps x then n x + 1 else all ps x))))) := k4.new hL
      refine ⟨_, rfl, _, rfl, _, rfl, _, rfl, T0, W, L, M, rs, as, ns, f, b, _, n, ps, rfl, stT k6, stR k6, stW k6, stP k6, (SqL.of upd_same), stM k6, nd, hn6, hps, hq, fun x => (hch x).1, fun hF x _ => hS.max _ hch hF x, fun H7 k7 => ⟨true, rfl, ?_⟩⟩
      refine iteF ⟨_, _, k6.trans k7.up, (s4.put nLa).keep k7 (by simp), k7 Ev _ (by rw [upd_ne nEL]; exact hE4) (by simp), rfl⟩
    -- drawn choices
    rintro σ2 H3 ⟨v5, v6, k3, s3, hE3, rfl⟩
    refine ⟨12, rfl, by decide, by decide, ?_⟩
    refine for_it (walk_range (lo := 0)) (fun i σ' H' => ∃ v5 v6, Keep [a] H H' ∧ Src H' a ∧ H' Ev = some (.lst (iv ns (all ps))) ∧ σ' = [some (.ref T0), some (.ref W), some (.ref M), some (.ref a), some (.ref Ev), v5, v6, none, none])
      ⟨_, _, k3, s3, hE3, rfl⟩ (fun _ _ _ _ _ => trivial) ?_ ?_
    · rintro i v σ' H4 H5 hi ⟨v5, v6, k4, s4, hE4, rfl⟩ ⟨rfl, rfl⟩
      refine ⟨fun σ' H' => ∃ (L : Addr) (c : Str → Int) (v5 : Option V), H L = none ∧ a ≠ L ∧ Ev ≠ L ∧ Keep [a] H H' ∧ Src H' a ∧ H' Ev = some (.lst (iv ns (all ps))) ∧ H' L = some (.lst (iv ns c)) ∧ Choice ps c ∧
        σ' = [some (.ref T0), some (.ref W), some (.ref M), some (.ref a), some (.ref Ev), v5, some (.ref L), none, none], ?_, ?_⟩
      · refine ⟨_, rfl, Ev, rfl, ⟨_, SqL.of hE4⟩, fun L hL => ?_⟩
        have nLa : a ≠ L := s4.ne hL
        have nEL : Ev ≠ L := ne_of_none hE4 hL
        have hL0 : H L = none := k4.free hL (by simp; exact nLa.symm)
        refine lc_it (walk_list (K := K) (a := Ev) (xs := iv ns (all ps))) (fun j H' => Keep [a] H H' ∧ Src H' a ∧ H' Ev = some (.lst (iv ns (all ps))) ∧ ∃ cs : List Int, H' L = some (.lst (cs.map V.int)) ∧ cs.length = j ∧ ∀ m z x, cs[m]? = some z → ns[m]? = some x → 0 ≤ z ∧ z ≤ all ps x)
          ⟨k4.new hL, s4.put nLa, by rw [upd_ne nEL]; exact hE4, ([] : List Int), upd_same, rfl, fun m z x h => by rw [List.getElem?_nil] at h; cases h⟩ (fun _ _ _ h => SqL.of h.2.2.1) ?_ ?_
        · rintro j u H6 H7 hj ⟨k6, s6, hE6, cs, hL6, hcs, hbd⟩ ⟨rfl, hu⟩
          rw [iv_length] at hj
          have hx : ns[j]? = some ns[j] := List.getElem?_eq_getElem hj
          generalize hxe : ns[j] = x at hx
          rw [iv_at hx] at hu
          have hu := Option.some.inj hu
          subst hu
          have hb := allb x
          refine ⟨rfl, _, rfl, _, rfl, _, _, rfl, rfl, a, _, rfl, s6, by omega, by omega, fun r H8 r0 r1 s8 k8 => ?_⟩
          have hL8 : H8 L = some (.lst (cs.map V.int)) := k8 L _ hL6 (by simp; exact nLa.symm)
          have hE8 : H8 Ev = some (.lst (iv ns (all ps))) := k8 Ev _ hE6 (by simp; exact nEa.symm)
          refine ⟨_, hL8, by rw [List.length_map]; exact small1000 (by omega), (k6.trans k8).put (.inr hL0), s8.put nLa, by rw [upd_ne nEL]; exact hE8, cs ++ [r], by rw [upd_same, List.map_append]; rfl, by rw [List.length_append, hcs]; rfl, fun m z y hm hy => ?_⟩
          by_cases hlt : m < cs.length
          · rw [List.getElem?_append_left hlt] at hm
            exact hbd m z y hm hy
          · have em : m = cs.length := by
              have := (List.getElem?_eq_some_iff.mp hm).1
              rw [List.length_append, List.length_singleton] at this
              omega
            subst em
            rw [List.getElem?_append_right (Nat.le_refl _), Nat.sub_self] at hm
            have hm := Option.some.inj hm
            subst hm
            rw [hcs, hx] at hy
            have hy := Option.some.inj hy
            subst hy
            omega
        · rintro H6 ⟨k6, s6, hE6, cs, hL6, hcs, hbd⟩
          rw [iv_length] at hcs
          obtain ⟨c, hc1, hc2⟩ := fun_of nd cs hcs
          refine ⟨L, c, _, hL0, nLa, nEL, k6, s6, hE6, by rw [hL6, iv_ints, hc1], fun x => ?_, rfl⟩
          by_cases hx : x ∈ ns
          · obtain ⟨m, hm⟩ := List.getElem?_of_mem hx
            have e : cs[m]? = some (c x) := by rw [← hc1, List.getElem?_map, hm]; rfl
            exact hbd m _ _ e hm
          · rw [hc2 x hx]
            exact ⟨Int.le_refl _, Int.natCast_nonneg _⟩
      rintro σ3 H6 ⟨L, c, v5, hL0, nLa, nEL, k6, s6, hE6, hL6, hch, rfl⟩
      refine ⟨_, rfl, _, rfl, _, rfl, _, rfl, T0, W, L, M, rs, as, ns, f, b, c, n, ps, rfl, stT k6, stR k6, stW k6, stP k6, (SqL.of hL6), stM k6, nd, hn6, hps, hq, fun x => (hch x).1, fun hF x _ => hS.max _ hch hF x, fun H7 k7 => ⟨true, rfl, ?_⟩⟩
      refine iteF ?_
      have k7a : Keep [a] H H7 := k6.trans k7.up
      have s7 : Src H7 a := s6.keep k7 (by simp)
      have hE7 := k7 Ev _ hE6 (by simp)
      have hL7 := k7 L _ hL6 (by simp)
      refine ⟨fun σ' H' => ∃ (L2 : Addr), Keep [a] H H' ∧ Src H' a ∧ H' Ev = some (.lst (iv ns (all ps))) ∧ H' L2 = some (.lst (iv ns fun x => if n x > c x then n x else c x)) ∧
        σ' = [some (.ref T0), some (.ref W), some (.ref M), some (.ref a), some (.ref Ev), v5, some (.ref L2), none, none], ?_, ?_⟩
      · refine lc_pureR (fun j => .int (if n (ns.getD j default) > c (ns.getD j default) then n (ns.getD j default) else c (ns.getD j default))) ns.length (fun R q => ⟨_, rfl, M, _, rfl, .inl (stM k7a), ?_⟩) (by omega) (fun _ => rfl) (fun j H' R hj kk q => ?_) (fun D H' hD hD' kk => ?_)
        · show R [.int ((iv ns n).length : Int)] H7
          rw [iv_length]
          exact q
        · have hx : ns[j]? = some ns[j] := List.getElem?_eq_getElem hj
          have e : ns.getD j default = ns[j] := by rw [List.getD_eq_getElem?_getD, hx]; rfl
          rw [e] at q
          exact ⟨_, rfl, _, rfl, L, _, _, _, rfl, rfl, SqL.of (kk L _ hL7 (by simp)), atI_nat (iv_at hx), _, rfl, _, rfl, M, _, _, _, rfl, rfl, stM (k7a.trans kk.up), atI_nat (iv_at hx), _, _, rfl, q⟩
        · refine ⟨D, k7a.trans kk.up, s7.keep kk (by simp), kk Ev _ hE7 (by simp), ?_, rfl⟩
          rw [hD', range_map (g := fun x => V.int (if n x > c x then n x else c x)) fun j x hx => by rw [List.getD_eq_getElem?_getD, hx]; rfl]
          rfl
      rintro σ4 H8 ⟨L2, k8, s8, hE8, hL8, rfl⟩
      have hch2 : Choice ps (fun x => if n x > c x then n x else c x) := fun x => by
        have h1 := hS.ch x
        have h2 := hch x
        show 0 ≤ (if n x > c x then n x else c x) ∧ (if n x > c x then n x else c x) ≤ _
        split <;> omega
      refine ⟨_, rfl, _, rfl, _, rfl, _, rfl, T0, W, L2, M, rs, as, ns, f, b, _, n, ps, rfl, stT k8, stR k8, stW k8, stP k8, (SqL.of hL8), stM k8, nd, hn6, hps, hq, fun x => (hch2 x).1, fun hF x _ => hS.max _ hch2 hF x, fun H9 k9 => ⟨true, rfl, ?_⟩⟩
      exact iteF ⟨_, _, k8.trans k9.up, s8.keep k9 (by simp), k9 Ev _ hE8 (by simp), rfl⟩
    · rintro σ' H4 ⟨v5, v6, k4, s4, hE4, rfl⟩
      exact k _ k4
end
end K35
/-! The clearing with its members, as the law draws it. -/
namespace K35
open PySem L2
open PySem.Spec PyProof.Rows
/-- all that stood in H0 stands still, where what changed is new to H0 -/
theorem Keep.old {S : List Addr} {H0 H H1 : Hp} (k0 : Keep [] H0 H) (k : Keep S H H1) (hS : ∀ s ∈ S, H0 s = none) : Keep [] H0 H1 := fun b o e _ => k b o (k0 b o e (by simp)) fun hm => by
  rw [hS b hm] at e
  cases e
theorem Keep.oldA {S A : List Addr} {H0 H H1 : Hp} (k0 : Keep A H0 H) (k : Keep S H H1) (hS : ∀ s ∈ S, s ∈ A ∨ H0 s = none) : Keep A H0 H1 := fun b o e n => k b o (k0 b o e n) fun hm => by
  rcases hS b hm with q | q
  · exact n q
  · rw [q] at e; cases e
theorem Told.congr {H : Hp} {rs : List Addr} {ns : List Str} {f b f' b' : Str → Int} (h : Told H rs ns f b) (e : ∀ x ∈ ns, f x = f' x ∧ b x = b' x) : Told H rs ns f' b' :=
  ⟨h.len, fun i r x h1 h2 => by
    obtain ⟨e1, e2⟩ := e x (List.mem_of_getElem? h2)
    rw [← e1, ← e2]
    exact h.at_ i r x h1 h2⟩
theorem Told.snoc {H : Hp} {rs : List Addr} {ns : List Str} {f b : Str → Int} {r : Addr} {x : Str} (h : Told H rs ns f b) (e : H r = some (.lst [.str x, .int (f x), .int (b x)])) : Told H (rs ++ [r]) (ns ++ [x]) f b :=
  ⟨by rw [List.length_append, List.length_append, h.len]; rfl, fun i s y h1 h2 => by
    by_cases hlt : i < rs.length
    · rw [List.getElem?_append_left hlt] at h1
      rw [List.getElem?_append_left (by rw [← h.len]; exact hlt)] at h2
      exact h.at_ i s y h1 h2
    · have ei : i = rs.length := by
        have := (List.getElem?_eq_some_iff.mp h1).1
        rw [List.length_append, List.length_singleton] at this
        omega
      subst ei
      rw [List.getElem?_append_right (Nat.le_refl _), Nat.sub_self] at h1
      rw [h.len, List.getElem?_append_right (Nat.le_refl _), Nat.sub_self] at h2
      have h1 := Option.some.inj h1
      have h2 := Option.some.inj h2
      subst h1 h2
      exact e⟩
/-- a row is no list of references -/
theorem row_ne {H : Hp} {r l : Addr} {x : Str} {u v : Int} {as : List Addr} (h1 : H r = some (.lst [.str x, .int u, .int v])) (h2 : H l = some (.lst (as.map V.ref))) : r ≠ l := ne_of h1 h2 fun q => by
  have e : ([.str x, .int u, .int v] : List V) = as.map V.ref := HO.lst.inj q
  cases as with
  | nil => cases e
  | cons a r => exact V.noConfusion (List.cons.inj e).1
def spFilled (K : PySem.W.Frag) : Sp := fun vs H Q _ => ∃ (a N : Addr) (ns : List Str), vs = [.ref a, .ref N] ∧ Src H a ∧ H N = some (.lst (ns.map V.str)) ∧ ns.Nodup ∧ 2 ≤ ns.length ∧ ns.length ≤ 6 ∧ (∀ z ∈ ns, NameL z.cps.toList) ∧
  ∀ (L p d1 d2 d3 l4 Tl : Addr) (rs : List Addr) (f b : Str → Int) (sc : Int) (H' : Hp), (H L = none ∧ H p = none ∧ H d1 = none ∧ H d2 = none ∧ H d3 = none ∧ H l4 = none ∧ H Tl = none) → H' L = some (.lst [.ref p, .ref Tl, .int sc]) → ClAt K H' p d1 d2 d3 l4 ns b f [] [] [] →
    H' Tl = some (.lst (rs.map V.ref)) → Told H' rs ns f b → Tl ≠ l4 → (∀ x ∈ ns, f x ≤ b x) → 0 < sc → sc ≤ 1000000000 → Src H' a → Keep [a] H H' → Q (.ref L) H'
section
variable {P : Program} {w : World} {K : PySem.W.Frag} {mg : Str → Option Value} {base : Heap}
abbrev nFilled : List Str := ["_law_source_here", "_law_names_here", "_law_clearing", "_law_told", "_law_scale", "_law_name_here", "_law_floor", "_law_units_here"]
theorem scFilled : FnScope nFilled ["_law_source_here", "_law_names_here"] (defScope sFilled) := ⟨rfl, rfl, rfl, by decide +kernel, rfl, by decide +kernel, by decide +kernel⟩
theorem scale_at {j : Nat} (h : j < 3) : ∃ sc : Int, ([.int 5, .int 100, .int 1000000000] : List V)[j]? = some (.int sc) ∧ 0 < sc ∧ sc ≤ 1000000000 := by
  match j, h with
  | 0, _ => exact ⟨5, rfl, by decide, by decide⟩
  | 1, _ => exact ⟨100, rfl, by decide, by decide⟩
  | 2, _ => exact ⟨1000000000, rfl, by decide, by decide⟩
theorem ok_filled (T : Txt K mg) : Good P w K mg base 3 "_law_filled" ["_law_source_here", "_law_names_here"] (spFilled K) := by
  obtain ⟨⟨fdI, GI, bI⟩, MI⟩ := ok_init (P := P) (w := w) (base := base) T
  have gP : Good P w K mg base 1 "_law_pick" ["_law_source_here", "_law_many"] spPick := ok_pick T
  have gA : GoodM P w K mg base 2 "add_member" ["self", "name", "floor"] (spAdd K) := ok_add T
  obtain ⟨_, gA1, gA2⟩ := gA.ex
  have gF : GoodM P w K mg base 2 "fund" ["self", "name", "units"] (spFund K) := ok_fund T
  obtain ⟨_, gF1, gF2⟩ := gF.ex
  have mCl : mg "Clearing" = some (.ref (cC K)) := T.glo "Clearing" (by simp [fnNames])
  refine T.good (st := sFilled) (by simp [fn]) (by simp [fnNames]) scFilled (fun vs H Q E h => ?_) (fun _ _ _ _ _ _ us hl => match us, hl with | [_, _], _ => rfl) (fun cdv A outer s H vs Q E hr h => ?_)
  · obtain ⟨a, N, ns, rfl, _⟩ := h
    rfl
  · obtain ⟨a, N, ns, rfl, ha, hN, nd, hn2, hn6, hok, k⟩ := h
    have hr1 : Room 1 _ := hr.mono (by decide)
    have nd1 := scFilled.nd
    refine ⟨_, Evl.pss_cut (ps_set (i := 2) nd1 rfl (Or.inl rfl) (pe_make0 MI GI hr rfl mCl bI .nil pass0))
      (pss_cons (ps_set (i := 3) nd1 rfl (Or.inl rfl) (pe_lst pa_nil))
      (pss_cons (ps_set (i := 4) nd1 rfl (Or.inl rfl) (pe_ix ix_list (pe_lst (pa_cons pe_int (pa_cons pe_int (pa_cons pe_int pa_nil)))) (pe_go gP hr1 (pa_cons (pv 0) (pa_cons pe_int pa_nil))) (fun _ _ => rfl)))
      (Evl.pss_cut (ps_for PassesOwn.never rfl (pi_list (pv 1)) (pg_name (i := 5) nd1 rfl (Or.inl rfl))
        (Evl.pss_cut (ps_set (i := 6) nd1 rfl (Or.inl rfl) (pe_ix ix_list (pe_lst (pa_cons pe_int (pa_cons (pe_op op_sub pe_int (pe_go gP hr1 (pa_cons (pv 0) (pa_cons (pv 4) pa_nil)))) pa_nil))) (pe_go gP hr1 (pa_cons (pv 0) (pa_cons pe_int pa_nil))) (fun _ _ => rfl)))
        (pss_cons (ps_set (i := 7) nd1 rfl (Or.inl rfl) (pe_go gP hr1 (pa_cons (pv 0) (pa_cons (pv 4) pa_nil))))
        (pss_cons (ps_expr (pe_meth (pv 2) gA.cl gA.me gA1 hr gA2 .nil pass0 (pa_cons (pv 5) (pa_cons (pv 6) pa_nil))))
        (pss_cons (ps_expr (pe_meth (pv 2) gF.cl gF.me gF1 hr gF2 .nil pass0 (pa_cons (pv 5) (pa_cons (pv 7) pa_nil))))
        (pss_one (ps_expr (pe_bm PySem.F.plainAttrs_list PySem.F.slot_list_append PySem.F.type_list_append mt_append (pv 3) (pa_cons (pe_lst (pa_cons (pv 5) (pa_cons (pv 6) (pa_cons (pv 7) pa_nil)))) pa_nil)))))))))
      (pss_one (ps_ret (pe_lst (pa_cons (pv 2) (pa_cons (pv 3) (pa_cons (pv 4) pa_nil))))))))), ?_⟩
    have naN : a ≠ N := by
      obtain ⟨x, y, e⟩ := ha
      refine ne_of e hN fun q => ?_
      have e2 : ([.int x, .int y] : List V) = ns.map V.str := HO.lst.inj q
      cases ns with
      | nil => cases e2
      | cons z r => exact V.noConfusion (List.cons.inj e2).1
    -- clearing = Clearing()
    refine ⟨fun σ' H' => ∃ p d1 d2 d3 l4, ClAt K H' p d1 d2 d3 l4 [] (fun _ => 0) (fun _ => 0) [] [] [] ∧ (H p = none ∧ H d1 = none ∧ H d2 = none ∧ H d3 = none ∧ H l4 = none) ∧ Keep [] H H' ∧ σ' = [some (.ref a), some (.ref N), some (.ref p), none, none, none, none, none], ?_, ?_⟩
    · intro x dx nx ndx nex
      refine ⟨x, dx, rfl, upd_same, fun d1 d2 d3 l4 H1 C1 ⟨e1, e2, e3, e4⟩ k1 => ⟨rfl, x, d1, d2, d3, l4, C1, ?_, ?_, rfl⟩⟩
      · have back : ∀ {z : Addr}, (upd (upd H dx (.own x)) x (.ins (cC K) dx [])) z = none → H z = none := fun {z} e => by
          have z1 : z ≠ x := fun q => by rw [q, upd_same] at e; cases e
          have z2 : z ≠ dx := fun q => by rw [upd_ne z1, q, upd_same] at e; cases e
          rw [upd_ne z1, upd_ne z2] at e
          exact e
        exact ⟨nx, back e1, back e2, back e3, back e4⟩
      · exact Keep.old (((Keep.refl [] H).put (.inr ndx)).put (.inr nx)) k1 fun s hs => by rw [List.mem_singleton.mp hs]; exact nx
    rintro σ1 H1 ⟨p, d1, d2, d3, l4, C1, ⟨fp, f1, f2, f3, f4⟩, k1, rfl⟩
    refine ⟨Nat.zero_le _, fun Tl hTl => ?_⟩
    obtain ⟨dx, hp1⟩ := C1.ob
    have tp : Tl ≠ p := (ne_of_none hp1 hTl).symm
    have t1 : Tl ≠ d1 := (ne_of_none C1.hb hTl).symm
    have t2 : Tl ≠ d2 := (ne_of_none C1.hf hTl).symm
    have t3 : Tl ≠ d3 := (ne_of_none C1.hk hTl).symm
    have t4 : Tl ≠ l4 := (ne_of_none C1.hl hTl).symm
    have fT : H Tl = none := k1.free hTl (by simp)
    have s1 : Src H1 a := ha.keep k1 (by simp)
    have nTa : a ≠ Tl := s1.ne hTl
    have kT : Keep [] H1 (upd H1 Tl (.lst [])) := (Keep.refl [] H1).new hTl
    have C2 : ClAt K (upd H1 Tl (.lst [])) p d1 d2 d3 l4 [] (fun _ => 0) (fun _ => 0) [] [] [] := C1.keep kT (by simp) (by simp)
    have s2 : Src (upd H1 Tl (.lst [])) a := s1.put nTa
    have k2 : Keep [] H (upd H1 Tl (.lst [])) := k1.trans kT
    have hT2 : (upd H1 Tl (.lst [])) Tl = some (.lst (([] : List Addr).map V.ref)) := upd_same
    generalize upd H1 Tl (.lst []) = H2 at C2 s2 k2 hT2
    refine ⟨by show 3 ≤ sizeLine; decide, fun t ht => ?_⟩
    have k3 : Keep [] H2 (upd H2 t (.lst [.int 5, .int 100, .int 1000000000])) := (Keep.refl [] H2).new ht
    have s3 : Src (upd H2 t (.lst [.int 5, .int 100, .int 1000000000])) a := s2.keep k3 (by simp)
    refine ⟨_, rfl, a, 3, rfl, s3, by decide, by decide, fun r H4 r0 r1 s4 k4 => ?_⟩
    have nta : t ≠ a := (s2.ne ht).symm
    have ht4 : H4 t = some (.lst [.int 5, .int 100, .int 1000000000]) := k4 t _ upd_same (by simp; exact nta)
    obtain ⟨j, rfl⟩ := Int.eq_ofNat_of_zero_le r0
    obtain ⟨sc, hsc, sc0, sc1⟩ := scale_at (j := j) (by omega)
    have k34 : Keep [a] H2 H4 := k3.up.trans k4
    have notup : ∀ s ∈ [a], ∀ xs, H2 s ≠ some (.tup xs) := fun s hs xs e => by
      obtain ⟨x, y, e2⟩ := s2
      rw [List.mem_singleton.mp hs, e2] at e
      cases e
    have nea : ∀ {z : Addr}, H z = none → z ∉ [a] := fun {z} e => by
      simp
      rintro rfl
      obtain ⟨x, y, e2⟩ := ha
      rw [e2] at e
      cases e
    have C4 : ClAt K H4 p d1 d2 d3 l4 [] (fun _ => 0) (fun _ => 0) [] [] [] := C2.keep k34 ⟨nea fp, nea f1, nea f2, nea f3, nea f4⟩ notup
    have hT4 : H4 Tl = some (.lst (([] : List Addr).map V.ref)) := k34 Tl _ hT2 (nea fT)
    have kk4 : Keep [a] H H4 := k2.up.trans k34
    refine ⟨t, _, _, .int sc, rfl, rfl, SqL.of ht4, atI_nat hsc, ?_⟩
    -- the members
    refine ⟨fun σ' H' => ∃ (rs : List Addr) (f b : Str → Int) (v5 v6 v7 : Option V), ClAt K H' p d1 d2 d3 l4 ns b f [] [] [] ∧ H' Tl = some (.lst (rs.map V.ref)) ∧ Told H' rs ns f b ∧ (∀ x ∈ ns, f x ≤ b x) ∧ Src H' a ∧ Keep [a] H H' ∧
      σ' = [some (.ref a), some (.ref N), some (.ref p), some (.ref Tl), some (.int sc), v5, v6, v7], ?_, ?_⟩
    · refine ⟨_, rfl, N, rfl, ⟨ns.map V.str, SqL.of (kk4 N _ hN (by simp; exact naN.symm))⟩, ?_⟩
      refine for_it (walk_list (K := K) (a := N) (xs := ns.map V.str)) (fun i σ' H' => ∃ (rs : List Addr) (f b : Str → Int) (v5 v6 v7 : Option V), ClAt K H' p d1 d2 d3 l4 (ns.take i) b f [] [] [] ∧ H' Tl = some (.lst (rs.map V.ref)) ∧ Told H' rs (ns.take i) f b ∧ (∀ x ∈ ns.take i, f x ≤ b x) ∧ Src H' a ∧ Keep [a] H H' ∧
          σ' = [some (.ref a), some (.ref N), some (.ref p), some (.ref Tl), some (.int sc), v5, v6, v7])
        ⟨[], fun _ => 0, fun _ => 0, none, none, none, C4, hT4, ⟨rfl, fun i r x h => by simp at h⟩, fun x hx => by simp at hx, s4, kk4, rfl⟩ (fun i σ' H' _ ⟨_, _, _, _, _, _, _, _, _, _, _, kk, _⟩ => SqL.of (kk N _ hN (by simp; exact naN.symm))) ?_ ?_
      · rintro i v σ' H5 H6 hi ⟨rs, f, b, v5, v6, v7, C6, hT6, tl, hfb, s6, k6, rfl⟩ ⟨rfl, hv⟩
        rw [List.length_map] at hi
        have hz : ns[i]? = some ns[i] := List.getElem?_eq_getElem hi
        generalize hze : ns[i] = z at hz
        rw [strs_at hz] at hv
        have hv := Option.some.inj hv
        subst hv
        have htk : ns.take (i + 1) = ns.take i ++ [z] := by rw [List.take_add_one, hz]; rfl
        have hzn : z ∉ ns.take i := fun hm => by
          obtain ⟨m, hm2⟩ := List.getElem?_of_mem hm
          have hmi : m < i := by
            have := (List.getElem?_eq_some_iff.mp hm2).1
            rw [List.length_take] at this
            omega
          rw [List.getElem?_take_of_lt hmi] at hm2
          have := nd_ix nd hm2 hz
          omega
        have hll : (ns.take i).length = i := by rw [List.length_take]; omega
        have rsn : rs.length = i := by rw [tl.len, hll]
        -- all that the clearing, the rows and the list told lean on, behind a draw
        have draw : ∀ {H' H'' : Hp}, Src H' a → ClAt K H' p d1 d2 d3 l4 (ns.take i) b f [] [] [] → Told H' rs (ns.take i) f b → Keep [a] H' H'' → ClAt K H'' p d1 d2 d3 l4 (ns.take i) b f [] [] [] ∧ Told H'' rs (ns.take i) f b := fun {H' H''} hs hc ht hk => by
          refine ⟨hc.keep hk ⟨nea fp, nea f1, nea f2, nea f3, nea f4⟩ fun s hs2 xs e => ?_, ht.keep hk fun r hr2 => ?_⟩
          · obtain ⟨x, y, e2⟩ := hs
            rw [List.mem_singleton.mp hs2, e2] at e
            cases e
          · obtain ⟨m, hm⟩ := List.getElem?_of_mem hr2
            have hml : m < (ns.take i).length := by rw [← ht.len]; exact (List.getElem?_eq_some_iff.mp hm).1
            have e := ht.at_ m r _ hm (List.getElem?_eq_getElem hml)
            obtain ⟨x, y, e2⟩ := hs
            simp
            exact ne_of e e2 (by intro q; cases q)
        -- floor = [0, 0 - draw][draw]
        refine ⟨fun σ' H' => ∃ u : Int, -1000000000 ≤ u ∧ u ≤ 0 ∧ ClAt K H' p d1 d2 d3 l4 (ns.take i) b f [] [] [] ∧ H' Tl = some (.lst (rs.map V.ref)) ∧ Told H' rs (ns.take i) f b ∧ Src H' a ∧ Keep [a] H H' ∧
          σ' = [some (.ref a), some (.ref N), some (.ref p), some (.ref Tl), some (.int sc), some (.str z), some (.int u), v7], ?_, ?_⟩
        · refine ⟨_, rfl, _, rfl, a, _, rfl, s6, sc0, by omega, fun q H7 q0 q1 s7 k7 => ?_⟩
          obtain ⟨C7, tl7⟩ := draw s6 C6 tl k7
          refine ⟨_, _, rfl, rfl, by show 2 ≤ sizeLine; decide, fun t2 ht2 => ?_⟩
          have k8 : Keep [] H7 (upd H7 t2 (.lst [.int 0, .int (0 - q)])) := (Keep.refl [] H7).new ht2
          have s8 := s7.keep k8 (by simp)
          refine ⟨_, rfl, a, 2, rfl, s8, by decide, by decide, fun q2 H9 q20 q21 s9 k9 => ?_⟩
          have nt2a : t2 ≠ a := (s7.ne ht2).symm
          have ht9 : H9 t2 = some (.lst [.int 0, .int (0 - q)]) := k9 t2 _ upd_same (by simp; exact nt2a)
          have k79 : Keep [a] H7 H9 := k8.up.trans k9
          obtain ⟨C9, tl9⟩ := draw s7 C7 tl7 k79
          have hT9 : H9 Tl = some (.lst (rs.map V.ref)) := (k7.trans k79) Tl _ hT6 (nea fT)
          have kk9 : Keep [a] H H9 := k6.trans (k7.trans k79)
          obtain ⟨m, rfl⟩ := Int.eq_ofNat_of_zero_le q20
          match m, q21 with
          | 0, _ => exact ⟨t2, _, _, .int 0, rfl, rfl, SqL.of ht9, rfl, 0, by decide, by decide, C9, hT9, tl9, s9, kk9, rfl⟩
          | 1, _ => exact ⟨t2, _, _, .int (0 - q), rfl, rfl, SqL.of ht9, rfl, 0 - q, by omega, by omega, C9, hT9, tl9, s9, kk9, rfl⟩
          | (m + 2), h => exact absurd h (by omega)
        rintro σ2 H7 ⟨u, u0, u1, C7, hT7, tl7, s7, k7, rfl⟩
        refine ⟨_, rfl, _, rfl, a, _, rfl, s7, sc0, by omega, fun y H8 y0 y1 s8 k8 => ?_⟩
        obtain ⟨C8, tl8⟩ := draw s7 C7 tl7 k8
        have hT8 : H8 Tl = some (.lst (rs.map V.ref)) := k8 Tl _ hT7 (nea fT)
        have kk8 : Keep [a] H H8 := k7.trans k8
        obtain ⟨dx8, e8⟩ := C8.ob
        -- what the rows and the list told lean on, behind a store to a dict of the clearing
        have rowd : ∀ {H' H'' : Hp} {S : List Addr}, Told H' rs (ns.take i) f b → Keep S H' H'' → (∀ s ∈ S, ∃ kvs, H' s = some (.dK kvs)) → Told H'' rs (ns.take i) f b := fun {H' H'' S} ht hk hS => ht.keep hk fun r hr2 hm => by
          obtain ⟨kvs, e⟩ := hS r hm
          obtain ⟨m, hm⟩ := List.getElem?_of_mem hr2
          have hml : m < (ns.take i).length := by rw [← ht.len]; exact (List.getElem?_eq_some_iff.mp hm).1
          rw [ht.at_ m r _ hm (List.getElem?_eq_getElem hml)] at e
          cases e
        refine ⟨_, rfl, p, dx8, _, rfl, e8, flds_no (by decide +kernel) (by decide +kernel) (by decide +kernel) (by decide +kernel), _, rfl, _, rfl, p, d1, d2, d3, l4, ns.take i, b, f, [], [], [], z, u, rfl, C8, hok z (List.mem_of_getElem? hz), u0, u1, hzn, by omega, fun H9 C9 k9 => ?_⟩
        have tl9 : Told H9 rs (ns.take i) f b := rowd tl8 k9 fun s hs => by
          rcases List.mem_cons.mp hs with q | q
          · rw [q]; exact ⟨_, C8.hb⟩
          · rw [List.mem_singleton.mp q]; exact ⟨_, C8.hf⟩
        have hT9 : H9 Tl = some (.lst (rs.map V.ref)) := k9 Tl _ hT8 (by simp; exact ⟨t1, t2⟩)
        have s9 : Src H9 a := s8.keep k9 (by
          have n1 := nea f1
          have n2 := nea f2
          simp at n1 n2
          simp
          exact ⟨fun q => n1 q.symm, fun q => n2 q.symm⟩)
        have kk9 : Keep [a] H H9 := kk8.oldA k9 fun s hs => .inr (by
          rcases List.mem_cons.mp hs with q | q
          · rw [q]; exact f1
          · rw [List.mem_singleton.mp q]; exact f2)
        obtain ⟨dx9, e9⟩ := C9.ob
        have hzm : z ∈ ns.take i ++ [z] := List.mem_append_right _ (List.mem_singleton.mpr rfl)
        refine ⟨_, rfl, p, dx9, _, rfl, e9, flds_no (by decide +kernel) (by decide +kernel) (by decide +kernel) (by decide +kernel), _, rfl, _, rfl, p, d1, d2, d3, l4, ns.take i ++ [z], setF b z 0, setF f z u, [], [], [], z, y, rfl, C9, by omega, by omega, hzm, ?_, ?_, fun HA CA kA => ?_⟩
        · rw [setF_same, setF_same]; omega
        · rw [List.length_append, hll, List.length_singleton]; omega
        rw [setF_same] at CA
        have tlA : Told HA rs (ns.take i) f b := rowd tl9 kA fun s hs => by
          rw [List.mem_singleton.mp hs]; exact ⟨_, C9.hb⟩
        have hTA : HA Tl = some (.lst (rs.map V.ref)) := kA Tl _ hT9 (by simp; exact t1)
        have sA : Src HA a := s9.keep kA (by
          have n1 := nea f1
          simp at n1
          simp
          exact fun q => n1 q.symm)
        have kkA : Keep [a] H HA := kk9.oldA kA fun s hs => .inr (by rw [List.mem_singleton.mp hs]; exact f1)
        -- told.append([name, floor, units])
        refine ⟨_, rfl, .inl ⟨rfl, _, SqL.of hTA⟩, _, rfl, _, rfl, _, rfl, by show 3 ≤ sizeLine; decide, fun ro hro => ?_⟩
        have nTr : Tl ≠ ro := ne_of_none hTA hro
        have kr : Keep [] HA (upd HA ro (.lst [.str z, .int u, .int y])) := (Keep.refl [] HA).new hro
        have CB := CA.keep kr (by simp) (by simp)
        have tlB := tlA.keep0 kr
        have sB := sA.keep kr (by simp)
        have kkB : Keep [a] H (upd HA ro (.lst [.str z, .int u, .int y])) := kkA.trans kr.up
        have hTB : (upd HA ro (.lst [.str z, .int u, .int y])) Tl = some (.lst (rs.map V.ref)) := by rw [upd_ne nTr]; exact hTA
        have hroB : (upd HA ro (.lst [.str z, .int u, .int y])) ro = some (.lst [.str z, .int u, .int y]) := upd_same
        generalize upd HA ro (.lst [.str z, .int u, .int y]) = HB at CB tlB sB kkB hTB hroB
        refine ⟨Tl, _, _, rfl, rfl, hTB, by rw [List.length_map]; exact small1000 (by omega), ?_⟩
        have kC : Keep [Tl] HB (upd HB Tl (.lst (rs.map V.ref ++ [.ref ro]))) := (Keep.refl [Tl] HB).put (.inl (by simp))
        have tlC : Told HB (rs ++ [ro]) (ns.take i ++ [z]) (setF f z u) (setF (setF b z 0) z (0 + y)) := by
          refine (tlB.congr (f' := setF f z u) (b' := setF (setF b z 0) z (0 + y)) fun x hx => ?_).snoc ?_
          · have hne : x ≠ z := fun q => hzn (q ▸ hx)
            rw [setF_ne _ _ hne, setF_ne _ _ hne, setF_ne _ _ hne]
            exact ⟨rfl, rfl⟩
          · rw [setF_same, setF_same, Int.zero_add]
            exact hroB
        refine ⟨rs ++ [ro], setF f z u, setF (setF b z 0) z (0 + y), _, _, _, ?_, ?_, ?_, ?_, sB.put nTa, kkB.oldA kC fun s hs => .inr (by rw [List.mem_singleton.mp hs]; exact fT), rfl⟩
        · rw [htk]
          refine CB.keep kC ?_ fun s hs xs e => ?_
          · simp
            exact ⟨tp.symm, t1.symm, t2.symm, t3.symm, t4.symm⟩
          · rw [List.mem_singleton.mp hs, hTB] at e
            cases e
        · rw [upd_same, List.map_append]
          rfl
        · rw [htk]
          refine tlC.keep kC fun r hr2 => ?_
          obtain ⟨m, hm⟩ := List.getElem?_of_mem hr2
          have hml : m < (ns.take i ++ [z]).length := by rw [← tlC.len]; exact (List.getElem?_eq_some_iff.mp hm).1
          have e := tlC.at_ m r _ hm (List.getElem?_eq_getElem hml)
          simp
          exact row_ne e hTB
        · intro x hx
          rw [htk] at hx
          rcases List.mem_append.mp hx with q | q
          · have hne : x ≠ z := fun q2 => hzn (q2 ▸ q)
            rw [setF_ne _ _ hne, setF_ne _ _ hne, setF_ne _ _ hne]
            exact hfb x q
          · rw [List.mem_singleton.mp q, setF_same, setF_same]
            omega
      · rintro σ' H5 ⟨rs, f, b, v5, v6, v7, C5, hT5, tl, hfb, s5, k5, rfl⟩
        rw [List.length_map, List.take_length] at C5 tl hfb
        exact ⟨rs, f, b, v5, v6, v7, C5, hT5, tl, hfb, s5, k5, rfl⟩
    rintro σ3 H5 ⟨rs, f, b, v5, v6, v7, C5, hT5, tl, hfb, s5, k5, rfl⟩
    refine ⟨_, rfl, _, rfl, _, rfl, by show 3 ≤ sizeLine; decide, fun L hL => ?_⟩
    have kL : Keep [] H5 (upd H5 L (.lst [.ref p, .ref Tl, .int sc])) := (Keep.refl [] H5).new hL
    have nLa : L ∉ [a] := by simp; exact (s5.ne hL).symm
    exact k L p d1 d2 d3 l4 Tl rs f b sc _ ⟨k5.free hL nLa, fp, f1, f2, f3, f4, fT⟩ upd_same (C5.keep kL (by simp) (by simp)) (kL Tl _ hT5 (by simp)) (tl.keep0 kL) t4 hfb sc0 sc1 (s5.keep kL (by simp)) (k5.trans kL.up)
end
end K35
/-! The law's own def. -/
namespace K35
open PySem L2
open PySem.Spec PyProof.Rows
def spLaw (K : PySem.W.Frag) : Sp := fun vs H Q _ => ∃ (l : Addr) (zs : List Int), vs = [.ref l] ∧ SqL K H l (zs.map V.int) ∧ zs.length ≤ 63 ∧ ∀ H', Q (.bl true) H'
theorem row_ne3 {H : Hp} {L l : Addr} {p q : Addr} {v : Int} {as : List Addr} (h1 : H L = some (.lst [.ref p, .ref q, .int v])) (h2 : H l = some (.lst (as.map V.ref))) : L ≠ l := ne_of h1 h2 fun z => by
  have e : ([.ref p, .ref q, .int v] : List V) = as.map V.ref := HO.lst.inj z
  match as, e with
  | [], e => cases e
  | [_], e => simp at e
  | [_, _], e => simp at e
  | _ :: _ :: _ :: _, e => simp at e
theorem strs_ne {H : Hp} {N l : Addr} {ns : List Str} {as : List Addr} (h0 : 0 < ns.length) (h1 : H N = some (.lst (ns.map V.str))) (h2 : H l = some (.lst (as.map V.ref))) : N ≠ l := ne_of h1 h2 fun z => by
  have e : ns.map V.str = as.map V.ref := HO.lst.inj z
  cases ns with
  | nil => simp at h0
  | cons x r =>
    cases as with
    | nil => cases e
    | cons a t => exact V.noConfusion (List.cons.inj e).1
section
variable {P : Program} {w : World} {K : PySem.W.Frag} {mg : Str → Option Value} {base : Heap}
abbrev nLaw : List Str := ["_law_script", "_law_first", "_law_names_here", "_law_filled_here", "_law_clearing", "_law_told", "_law_k", "_law_payment_here", "_law_waits", "_law_done", "_law_most", "_law_row", "_law_due"]
theorem scLaw : FnScope nLaw ["_law_script"] (defScope sLaw) := ⟨rfl, rfl, rfl, by decide +kernel, rfl, by decide +kernel, by decide +kernel⟩
theorem ok_law (T : Txt K mg) : Good P w K mg base 4 "law" ["_law_script"] (spLaw K) := by
  have mLen : mg "len" = none := T.bl _ (by simp [blNames])
  have mRan : mg "range" = none := T.bl _ (by simp [blNames])
  have mSum : mg "sum" = none := T.bl _ (by simp [blNames])
  have gCell : Good P w K mg base 1 "_law_cell" ["_law_script", "_law_k"] (spCell K) := ok_cell T
  have gSrc : Good P w K mg base 1 "_law_source" ["_law_cell_here", "_law_k"] spSource := ok_source T
  have gP : Good P w K mg base 1 "_law_pick" ["_law_source_here", "_law_many"] spPick := ok_pick T
  have gNs : Good P w K mg base 3 "_law_names" ["_law_source_here", "_law_many"] spNames := ok_names T
  have gFi : Good P w K mg base 3 "_law_filled" ["_law_source_here", "_law_names_here"] (spFilled K) := ok_filled T
  have gPa : Good P w K mg base 3 "_law_payment" ["_law_source_here", "_law_k", "_law_names_here", "_law_scale"] (spPayment K) := ok_payment T
  have gCo : Good P w K mg base 1 "_law_counts" ["_law_told", "_law_payments"] (spCounts K) := ok_counts T
  have gFt : Good P w K mg base 1 "_law_fits" ["_law_told", "_law_waits", "_law_counts_here"] (spFits K) := ok_fits T
  have gLa : Good P w K mg base 3 "_law_largest" ["_law_told", "_law_waits", "_law_most", "_law_source_here"] (spLargest K) := ok_largest T
  have gSub : GoodM P w K mg base 2 "submit" ["self", "key", "payer", "payee", "amount"] (spSubmit K) := ok_submit T
  obtain ⟨_, gSub1, gSub2⟩ := gSub.ex
  have gQue : GoodM P w K mg base 1 "queue" ["self"] (spQueue K) := ok_queue T
  obtain ⟨_, gQue1, gQue2⟩ := gQue.ex
  have gSet : GoodM P w K mg base 2 "settle" ["self"] (spSettle K) := ok_settle T
  obtain ⟨_, gSet1, gSet2⟩ := gSet.ex
  have gBal : GoodM P w K mg base 2 "balance_of" ["self", "name"] (spBalance K) := ok_balance T
  obtain ⟨_, gBal1, gBal2⟩ := gBal.ex
  refine T.good (st := sLaw) (by simp [fn]) (by simp [fnNames]) scLaw (fun vs H Q E h => ?_) (fun _ _ _ _ _ _ us hl => match us, hl with | [_], _ => rfl) (fun cdv A outer s H vs Q E hr h => ?_)
  · obtain ⟨l, zs, rfl, _⟩ := h
    rfl
  · obtain ⟨l, zs, rfl, hl, hz, k⟩ := h
    have hr1 : Room 1 _ := hr.mono (by decide)
    have hr2 : Room 2 _ := hr.mono (by decide)
    have nd1 := scLaw.nd
    refine ⟨_, Evl.pss_cut (ps_set (i := 1) nd1 rfl (Or.inl rfl) (pe_go gSrc hr1 (pa_cons (pe_go gCell hr1 (pa_cons (pv 0) (pa_cons pe_int pa_nil))) (pa_cons pe_int pa_nil))))
      (Evl.pss_cut (ps_set (i := 2) nd1 rfl (Or.inl rfl) (pe_go gNs hr (pa_cons (pv 1) (pa_cons (pe_op op_add pe_int (pe_go gP hr1 (pa_cons (pv 1) (pa_cons pe_int pa_nil)))) pa_nil))))
      (Evl.pss_cut (ps_set (i := 3) nd1 rfl (Or.inl rfl) (pe_go gFi hr (pa_cons (pv 1) (pa_cons (pv 2) pa_nil))))
      (pss_cons (ps_set (i := 4) nd1 rfl (Or.inl rfl) (pe_ix ix_list (pv 3) pe_int (fun _ _ => rfl)))
      (pss_cons (ps_set (i := 5) nd1 rfl (Or.inl rfl) (pe_ix ix_list (pv 3) pe_int (fun _ _ => rfl)))
      (Evl.pss_cut (ps_for PassesOwn.never rfl (pi_range2 (by rfl) mRan (pa_cons pe_int (pa_cons pe_int pa_nil))) (pg_name (i := 6) nd1 rfl (Or.inl rfl))
        (pss_one (ps_if (PW.pt (pw_or (pt_cmpR op_lt (pv 6) (pe_callB call_len_seq (by rfl) mLen PySem.boot_len (pa_cons (pv 0) pa_nil)) (nomark _)) (pw_or1 (pt_cmpR op_lt (pv 6) pe_int (nomark _)))))
          (pss_cons (ps_set (i := 7) nd1 rfl (Or.inl rfl) (pe_go gPa hr (pa_cons (pe_go gSrc hr1 (pa_cons (pe_go gCell hr1 (pa_cons (pv 0) (pa_cons (pv 6) pa_nil))) (pa_cons (pv 6) pa_nil))) (pa_cons (pv 6) (pa_cons (pv 2) (pa_cons (pe_ix ix_list (pv 3) pe_int (fun _ _ => rfl)) pa_nil))))))
          (pss_one (ps_expr (pe_meth (pv 4) gSub.cl gSub.me gSub1 hr2 gSub2 .nil pass0 (pa_cons (pe_ix ix_tup (pv 7) pe_int (fun _ _ => rfl)) (pa_cons (pe_ix ix_tup (pv 7) pe_int (fun _ _ => rfl)) (pa_cons (pe_ix ix_tup (pv 7) pe_int (fun _ _ => rfl)) (pa_cons (pe_ix ix_tup (pv 7) pe_int (fun _ _ => rfl)) pa_nil)))))))) pss_nil)))
      (Evl.pss_cut (ps_set (i := 8) nd1 rfl (Or.inl rfl) (pe_meth0 (pv 4) gQue.cl gQue.me gQue1 hr1 gQue2 .nil pass0))
      (Evl.pss_cut (ps_set (i := 9) nd1 rfl (Or.inl rfl) (pe_meth0 (pv 4) gSet.cl gSet.me gSet1 hr2 gSet2 .nil pass0))
      (Evl.pss_cut (ps_set (i := 10) nd1 rfl (Or.inl rfl) (pe_go gCo hr1 (pa_cons (pv 5) (pa_cons (pv 9) pa_nil))))
      (Evl.pss_cut (ps_if (PW.pt (pw_or (pt_cmpR op_ne (pe_callB call_len_seq (by rfl) mLen PySem.boot_len (pa_cons (pv 9) pa_nil)) (pe_callB (cr_sum rfl) (by rfl) mSum PyProof.Rows.boot_sum (pa_cons (pv 10) pa_nil)) (nomark _))
          (pw_or1 (pt_not (pt_val (pe_go gFt hr1 (pa_cons (pv 5) (pa_cons (pv 8) (pa_cons (pv 10) pa_nil))))))))) (pss_one (ps_ret pe_bl)) pss_nil)
      (Evl.pss_cut (ps_for PassesOwn.never rfl (pi_list (pv 5)) (pg_name (i := 11) nd1 rfl (Or.inl rfl))
        (pss_cons (ps_set (i := 12) nd1 rfl (Or.inl rfl) (pe_ix ix_list (pv 11) pe_int (fun _ _ => rfl)))
        (Evl.pss_cut (ps_for PassesOwn.never rfl (pi_list (pv 9)) (pg_name (i := 7) nd1 rfl (Or.inl rfl))
          (Evl.pss_cut (ps_if (pt_cmpR op_eq (pe_ix ix_tup (pv 7) pe_int (fun _ _ => rfl)) (pe_ix ix_list (pv 11) pe_int (fun _ _ => rfl)) (nomark _)) (pss_one (ps_set (i := 12) nd1 rfl (Or.inl rfl) (pe_op op_sub (pv 12) (pe_ix ix_tup (pv 7) pe_int (fun _ _ => rfl))))) pss_nil)
          (pss_one (ps_if (pt_cmpR op_eq (pe_ix ix_tup (pv 7) pe_int (fun _ _ => rfl)) (pe_ix ix_list (pv 11) pe_int (fun _ _ => rfl)) (nomark _)) (pss_one (ps_set (i := 12) nd1 rfl (Or.inl rfl) (pe_op op_add (pv 12) (pe_ix ix_tup (pv 7) pe_int (fun _ _ => rfl))))) pss_nil))))
        (pss_one (ps_if (pt_cmpR op_ne (pe_meth (pv 4) gBal.cl gBal.me gBal1 hr2 gBal2 .nil pass0 (pa_cons (pe_ix ix_list (pv 11) pe_int (fun _ _ => rfl)) pa_nil)) (pv 12) (nomark _)) (pss_one (ps_ret pe_bl)) pss_nil)))))
      (pss_one (ps_ret (pe_go gLa hr (pa_cons (pv 5) (pa_cons (pv 8) (pa_cons (pv 10) (pa_cons (pe_go gSrc hr1 (pa_cons (pe_go gCell hr1 (pa_cons (pv 0) (pa_cons pe_int pa_nil))) (pa_cons pe_int pa_nil))) pa_nil))))))))))))))))), ?_⟩
    have stl : ∀ {H' : Hp}, Keep [] H H' → SqL K H' l (zs.map V.int) := fun q => q.seq hl (by simp)
    -- first = _law_source(_law_cell(script, 0), 0)
    refine ⟨fun σ' H' => ∃ a, H a = none ∧ Src H' a ∧ Keep [] H H' ∧ σ' = [some (.ref l), some (.ref a), none, none, none, none, none, none, none, none, none, none, none], ?_, ?_⟩
    · exact ⟨_, rfl, l, zs, 0, rfl, hl, hz, fun z => ⟨z, 0, rfl, fun a H' h1 h2 h3 => ⟨a, h1, h2, h3, rfl⟩⟩⟩
    rintro σ1 H1 ⟨a, fa0, s1, k1, rfl⟩
    -- names
    refine ⟨fun σ' H' => ∃ (N : Addr) (ns : List Str), H N = none ∧ H' N = some (.lst (ns.map V.str)) ∧ ns.Nodup ∧ 2 ≤ ns.length ∧ ns.length ≤ 6 ∧ (∀ z ∈ ns, NameL z.cps.toList) ∧ Src H' a ∧ Keep [] H H' ∧ σ' = [some (.ref l), some (.ref a), some (.ref N), none, none, none, none, none, none, none, none, none, none], ?_, ?_⟩
    · refine ⟨_, rfl, _, rfl, a, 5, rfl, s1, by decide, by decide, fun r H2 r0 r1 s2 k2 => ?_⟩
      obtain ⟨j, rfl⟩ := Int.eq_ofNat_of_zero_le r0
      have kk2 : Keep [] H H2 := k1.old k2 fun s hs => by rw [List.mem_singleton.mp hs]; exact fa0
      refine ⟨_, _, rfl, rfl, a, 2 + j, ?_, s2, by omega, fun N ns H3 h1 h2 h3 h4 h5 s3 k3 => ?_⟩
      · show [V.ref a, V.int (2 + (j : Int))] = [V.ref a, V.int ((2 + j : Nat) : Int)]
        rw [Int.natCast_add]
        rfl
      · exact ⟨N, ns, kk2.free h1 (by simp), h2, h4, by omega, by omega, h5, s3, kk2.old k3 fun s hs => by rw [List.mem_singleton.mp hs]; exact fa0, rfl⟩
    rintro σ2 H2 ⟨N, ns, fN, hN2, nd, hn2, hn6, hok, s2, k2, rfl⟩
    -- the clearing with its members
    refine ⟨fun σ' H' => ∃ (L p d1 d2 d3 l4 Tl : Addr) (rs : List Addr) (f b : Str → Int) (sc : Int), (H L = none ∧ H p = none ∧ H d1 = none ∧ H d2 = none ∧ H d3 = none ∧ H l4 = none ∧ H Tl = none) ∧ H' L = some (.lst [.ref p, .ref Tl, .int sc]) ∧ ClAt K H' p d1 d2 d3 l4 ns b f [] [] [] ∧
      H' Tl = some (.lst (rs.map V.ref)) ∧ Told H' rs ns f b ∧ Tl ≠ l4 ∧ (∀ x ∈ ns, f x ≤ b x) ∧ 0 < sc ∧ sc ≤ 1000000000 ∧ H' N = some (.lst (ns.map V.str)) ∧ Keep [] H H' ∧ σ' = [some (.ref l), some (.ref a), some (.ref N), some (.ref L), none, none, none, none, none, none, none, none, none], ?_, ?_⟩
    · refine ⟨_, rfl, _, rfl, a, N, ns, rfl, s2, hN2, nd, hn2, hn6, hok, fun L p d1 d2 d3 l4 Tl rs f b sc H3 ⟨e1, e2, e3, e4, e5, e6, e7⟩ hL C hT tl ne hfb sc0 sc1 s3 k3 => ?_⟩
      have naN : N ∉ [a] := by
        obtain ⟨x, y, e⟩ := s2
        simp
        refine ne_of hN2 e fun q => ?_
        have e2 : ns.map V.str = ([.int x, .int y] : List V) := HO.lst.inj q
        cases ns with
        | nil => cases e2
        | cons z r => exact V.noConfusion (List.cons.inj e2).1
      exact ⟨L, p, d1, d2, d3, l4, Tl, rs, f, b, sc, ⟨k2.free e1 (by simp), k2.free e2 (by simp), k2.free e3 (by simp), k2.free e4 (by simp), k2.free e5 (by simp), k2.free e6 (by simp), k2.free e7 (by simp)⟩, hL, C, hT, tl, ne, hfb, sc0, sc1, k3 N _ hN2 naN,
        k2.old k3 fun s hs => by rw [List.mem_singleton.mp hs]; exact fa0, rfl⟩
    rintro σ3 H3 ⟨L, p, d1, d2, d3, l4, Tl, rs, f, b, sc, ⟨fL, fp, f1, f2, f3, f4, fT⟩, hL3, C3, hT3, tl3, neT, hfb, sc0, sc1, hN3, k3, rfl⟩
    refine ⟨_, rfl, L, _, 0, .ref p, rfl, rfl, SqL.of hL3, rfl, ?_⟩
    refine ⟨_, rfl, L, _, 1, .ref Tl, rfl, rfl, SqL.of hL3, rfl, ?_⟩
    -- the payments
    refine ⟨fun σ' H' => ∃ (as : List Addr) (ps : List (Pay Str)) (v6 v7 : Option V), ClAt K H' p d1 d2 d3 l4 ns b f (ps.map Pay.key) as ps ∧ H' Tl = some (.lst (rs.map V.ref)) ∧ Told H' rs ns f b ∧ (∀ q ∈ ps, q.payer ∈ ns ∧ q.payee ∈ ns ∧ 1 ≤ q.amt) ∧ ps.length ≤ 50 ∧ Keep [] H H' ∧
      σ' = [some (.ref l), some (.ref a), some (.ref N), some (.ref L), some (.ref p), some (.ref Tl), v6, v7, none, none, none, none, none], ?_, ?_⟩
    · refine ⟨2, 52, rfl, ⟨by decide, by decide, by decide, by decide⟩, ?_⟩
      refine for_it (walk_range (lo := 2)) (fun i σ' H' => ∃ (as : List Addr) (ps : List (Pay Str)) (v6 v7 : Option V), ClAt K H' p d1 d2 d3 l4 ns b f (ps.map Pay.key) as ps ∧ H' Tl = some (.lst (rs.map V.ref)) ∧ Told H' rs ns f b ∧ (∀ q ∈ ps, q.payer ∈ ns ∧ q.payee ∈ ns ∧ 1 ≤ q.amt) ∧ ps.length ≤ i ∧ Keep [] H H' ∧
          H' L = some (.lst [.ref p, .ref Tl, .int sc]) ∧ H' N = some (.lst (ns.map V.str)) ∧ (∀ y ∈ ps.map Pay.key, ∃ j, j < 2 + i ∧ KeyOk j y) ∧ σ' = [some (.ref l), some (.ref a), some (.ref N), some (.ref L), some (.ref p), some (.ref Tl), v6, v7, none, none, none, none, none])
        ⟨[], [], none, none, C3, hT3, tl3, fun q hq => by simp at hq, Nat.zero_le _, k3, hL3, hN3, fun y hy => by simp at hy, rfl⟩ (fun _ _ _ _ _ => trivial) ?_ ?_
      · rintro i v σ' H4 H5 hi ⟨as, ps, v6, v7, C5, hT5, tl5, hq5, hps5, k5, hL5, hN5, hks, rfl⟩ ⟨rfl, hv⟩
        have hi50 : i < 50 := hi
        have ei : (2 : Int) + (i : Int) = ((2 + i : Nat) : Int) := by rw [Int.natCast_add]; rfl
        have hv : v = V.int ((2 + i : Nat) : Int) := hv.trans (congrArg V.int ei)
        subst hv
        have hgo : ∀ (v6' v7' : Option V), (∀ y ∈ ps.map Pay.key, ∃ j, j < 2 + (i + 1) ∧ KeyOk j y) := fun _ _ y hy => by
          obtain ⟨j, h1, h2⟩ := hks y hy
          exact ⟨j, by omega, h2⟩
        -- a payment drawn and handed in
        have go : ∀ (D : Ends), D.nx = (fun σ' H' => ∃ (as : List Addr) (ps : List (Pay Str)) (v6 v7 : Option V), ClAt K H' p d1 d2 d3 l4 ns b f (ps.map Pay.key) as ps ∧ H' Tl = some (.lst (rs.map V.ref)) ∧ Told H' rs ns f b ∧ (∀ q ∈ ps, q.payer ∈ ns ∧ q.payee ∈ ns ∧ 1 ≤ q.amt) ∧ ps.length ≤ i + 1 ∧ Keep [] H H' ∧
          H' L = some (.lst [.ref p, .ref Tl, .int sc]) ∧ H' N = some (.lst (ns.map V.str)) ∧ (∀ y ∈ ps.map Pay.key, ∃ j, j < 2 + (i + 1) ∧ KeyOk j y) ∧ σ' = [some (.ref l), some (.ref a), some (.ref N), some (.ref L), some (.ref p), some (.ref Tl), v6, v7, none, none, none, none, none]) →
            tSeq (tAsg (tCall (spPayment K) [] E0 (tCons (tCall spSource [] E0 (tCons (tCall (spCell K) [] E0 (tCons (tVar 0) (tCons (tVar 6) tNil))) (tCons (tVar 6) tNil))) (tCons (tVar 6) (tCons (tVar 2) (tCons (tOp (rIxL K) (tVar 3) (tC (.int 2))) tNil))))) (gName 7))
              (tDrop (tMeth (cC K) "submit" (spSubmit K) [] E0 (tVar 4) (tCons (tOp (rIxT K) (tVar 7) (tC (.int 0))) (tCons (tOp (rIxT K) (tVar 7) (tC (.int 1))) (tCons (tOp (rIxT K) (tVar 7) (tC (.int 2))) (tCons (tOp (rIxT K) (tVar 7) (tC (.int 3))) tNil)))))) D
              [some (.ref l), some (.ref a), some (.ref N), some (.ref L), some (.ref p), some (.ref Tl), some (.int ((2 + i : Nat) : Int)), v7, none, none, none, none, none] H5 := by
          intro D hD
          refine ⟨_, rfl, _, rfl, l, zs, 2 + i, rfl, stl k5, hz, fun z => ?_⟩
          refine ⟨_, rfl, z, _, rfl, fun a2 H6 fa2 s6 k6 => ?_⟩
          have na2 : ∀ {q : Addr} {o : HO}, H5 q = some o → q ≠ a2 := fun e => ne_of_none e fa2
          have hL6 : H6 L = some (.lst [.ref p, .ref Tl, .int sc]) := k6 L _ hL5 (by simp)
          have hN6 : H6 N = some (.lst (ns.map V.str)) := k6 N _ hN5 (by simp)
          refine ⟨_, rfl, _, rfl, _, rfl, L, _, 2, .int sc, rfl, rfl, SqL.of hL6, rfl, ?_⟩
          refine ⟨a2, 2 + i, N, ns, sc, rfl, s6, na2 hN5, SqL.of hN6, nd, hn2, hn6, by omega, sc0, sc1, fun t q H7 ft ht7 x1 x2 x3 x4 x5 x6 s7 k7 => ?_⟩
          have k57 : Keep [] H5 H7 := k6.old k7 fun s hs => by rw [List.mem_singleton.mp hs]; exact fa2
          have C7 := C5.keep k57 (by simp) (by simp)
          have k7' : Keep [] H H7 := k5.trans k57
          obtain ⟨dx, e7⟩ := C7.ob
          have hnew : q.key ∉ ps.map Pay.key := fun hm => by
            obtain ⟨j, h1, h2⟩ := hks _ hm
            exact key_ne (by omega) (by omega) h2 x6 (by omega) rfl
          obtain ⟨kl1, kl2⟩ := key_len (show 2 + i < 64 by omega) x6
          refine ⟨_, rfl, p, dx, _, rfl, e7, flds_no (by decide +kernel) (by decide +kernel) (by decide +kernel) (by decide +kernel), ?_⟩
          refine ⟨_, rfl, t, _, 0, _, rfl, rfl, SqT.of ht7, rfl, _, rfl, t, _, 1, _, rfl, rfl, SqT.of ht7, rfl, _, rfl, t, _, 2, _, rfl, rfl, SqT.of ht7, rfl, _, rfl, t, _, 3, _, rfl, rfl, SqT.of ht7, rfl, ?_⟩
          refine ⟨p, d1, d2, d3, l4, ns, b, f, ps.map Pay.key, as, ps, q, rfl, C7, kl1, by omega, x1, x2, x3, x4, x5, hnew, by rw [List.length_map]; omega, by omega, fun t' H8 C8 k8 => ?_⟩
          have hL7 : H7 L = some (.lst [.ref p, .ref Tl, .int sc]) := k57 L _ hL5 (by simp)
          have hN7 : H7 N = some (.lst (ns.map V.str)) := k57 N _ hN5 (by simp)
          have hT7 : H7 Tl = some (.lst (rs.map V.ref)) := k57 Tl _ hT5 (by simp)
          have two : ∀ {z : Addr}, z ≠ d3 → z ≠ l4 → z ∉ [d3, l4] := fun h1 h2 => by simp; exact ⟨h1, h2⟩
          have ltod : ∀ {z : Addr} {xs : List V}, H7 z = some (.lst xs) → z ≠ d3 := fun e => ne_of e C7.hk (by intro q; cases q)
          rw [hD]
          refine ⟨as ++ [t'], ps ++ [q], _, _, ?_, k8 Tl _ hT7 (two (ltod hT7) neT), (tl5.keep0 k57).keep k8 fun r hr2 => ?_, ?_, ?_, k7'.old k8 fun s hs => ?_, k8 L _ hL7 (two (ltod hL7) (row_ne3 hL7 C7.hl)), k8 N _ hN7 (two (ltod hN7) (strs_ne (by omega) hN7 C7.hl)), ?_, rfl⟩
          · rw [List.map_append]
            exact C8
          · obtain ⟨m, hm⟩ := List.getElem?_of_mem hr2
            have hml : m < ns.length := by rw [← tl5.len]; exact (List.getElem?_eq_some_iff.mp hm).1
            have e := (tl5.keep0 k57).at_ m r _ hm (List.getElem?_eq_getElem hml)
            exact two (ltod e) (row_ne e C7.hl)
          · intro y hy
            rcases List.mem_append.mp hy with q2 | q2
            · exact hq5 y q2
            · rw [List.mem_singleton.mp q2]
              exact ⟨x1, x2, x4⟩
          · rw [List.length_append, List.length_singleton]
            omega
          · rcases List.mem_cons.mp hs with q2 | q2
            · rw [q2]; exact f3
            · rw [List.mem_singleton.mp q2]; exact f4
          · intro y hy
            rw [List.map_append] at hy
            rcases List.mem_append.mp hy with q2 | q2
            · exact hgo none none y q2
            · have ey : y = q.key := by simpa using q2
              rw [ey]
              exact ⟨2 + i, by omega, x6⟩
        have stay : ∃ (as : List Addr) (ps : List (Pay Str)) (v6' v7' : Option V), ClAt K H5 p d1 d2 d3 l4 ns b f (ps.map Pay.key) as ps ∧ H5 Tl = some (.lst (rs.map V.ref)) ∧ Told H5 rs ns f b ∧ (∀ q ∈ ps, q.payer ∈ ns ∧ q.payee ∈ ns ∧ 1 ≤ q.amt) ∧ ps.length ≤ i + 1 ∧ Keep [] H H5 ∧
          H5 L = some (.lst [.ref p, .ref Tl, .int sc]) ∧ H5 N = some (.lst (ns.map V.str)) ∧ (∀ y ∈ ps.map Pay.key, ∃ j, j < 2 + (i + 1) ∧ KeyOk j y) ∧
          ([some (.ref l), some (.ref a), some (.ref N), some (.ref L), some (.ref p), some (.ref Tl), some (.int ((2 + i : Nat) : Int)), v7, none, none, none, none, none] : L2.St) = [some (.ref l), some (.ref a), some (.ref N), some (.ref L), some (.ref p), some (.ref Tl), v6', v7', none, none, none, none, none] :=
          ⟨as, ps, _, _, C5, hT5, tl5, hq5, by omega, k5, hL5, hN5, hgo none none, rfl⟩
        refine ⟨_, rfl, _, rfl, l, _, rfl, .inl (stl k5), _, _, rfl, rfl, _, rfl, ?_⟩
        refine ite2 (fun _ => ?_) (fun _ => ?_)
        · exact go _ rfl
        · refine ⟨_, rfl, _, _, rfl, rfl, _, rfl, ?_⟩
          refine ite2 (fun _ => ?_) (fun _ => ?_)
          · exact go _ rfl
          · exact stay
      · rintro σ' H5 ⟨as, ps, v6, v7, C5, hT5, tl5, hq5, hps5, k5, hL5, hN5, hks, rfl⟩
        exact ⟨as, ps, v6, v7, C5, hT5, tl5, hq5, hps5, k5, rfl⟩
    rintro σ4 H4 ⟨as, ps, v6, v7, C4, hT4, tl4, hq4, hps4, k4, rfl⟩
    have hq4' : ∀ q ∈ ps, q.payer ∈ ns ∧ q.payee ∈ ns := fun q hq => ⟨(hq4 q hq).1, (hq4 q hq).2.1⟩
    -- waits = clearing.queue()
    refine ⟨fun σ' H' => ∃ W, H W = none ∧ W ≠ p ∧ ClAt K H' p d1 d2 d3 l4 ns b f (ps.map Pay.key) as ps ∧ H' W = some (.lst (as.map V.ref)) ∧ H' Tl = some (.lst (rs.map V.ref)) ∧ Told H' rs ns f b ∧ Keep [] H H' ∧
      σ' = [some (.ref l), some (.ref a), some (.ref N), some (.ref L), some (.ref p), some (.ref Tl), v6, v7, some (.ref W), none, none, none, none], ?_, ?_⟩
    · obtain ⟨dx, e4⟩ := C4.ob
      refine ⟨_, rfl, p, dx, _, rfl, e4, flds_no (by decide +kernel) (by decide +kernel) (by decide +kernel) (by decide +kernel), p, d1, d2, d3, l4, dx, as, rfl, e4, C4.hl, fun W hW => ?_⟩
      have kW : Keep [] H4 (upd H4 W (.lst (as.map V.ref))) := (Keep.refl [] H4).new hW
      exact ⟨W, k4.free hW (by simp), (ne_of_none e4 hW).symm, C4.keep kW (by simp) (by simp), upd_same, kW Tl _ hT4 (by simp), tl4.keep0 kW, k4.trans kW, rfl⟩
    rintro σ5 H5 ⟨W, fW, neW, C5, hW5, hT5, tl5, k5, rfl⟩
    obtain ⟨dx5, e5⟩ := C5.ob
    have nrow : ∀ r ∈ rs, r ∉ [p] := fun r hr2 => by
      obtain ⟨m, hm⟩ := List.getElem?_of_mem hr2
      have hml : m < ns.length := by rw [← tl5.len]; exact (List.getElem?_eq_some_iff.mp hm).1
      have e := tl5.at_ m r _ hm (List.getElem?_eq_getElem hml)
      simp
      exact ne_of e e5 (by intro q; cases q)
    -- done = clearing.settle()
    refine ⟨fun σ' H' => ∃ (S d l' : Addr) (n : Str → Int) (sa : List Addr), Srch ns f b ps n ∧ Feas ns f b ps n ∧ H' S = some (.lst (sa.map V.ref)) ∧ Pays H' sa (sel n ps ps.length) ∧ (∃ dx, H' p = some (.ins (cC K) dx (flds d d2 d3 l'))) ∧ H' d = some (.dK (dct ns (run n b ps ps.length))) ∧ H' d2 = some (.dK (dct ns f)) ∧
      H' W = some (.lst (as.map V.ref)) ∧ Pays H' as ps ∧ H' Tl = some (.lst (rs.map V.ref)) ∧ Told H' rs ns f b ∧ Keep [] H H' ∧ σ' = [some (.ref l), some (.ref a), some (.ref N), some (.ref L), some (.ref p), some (.ref Tl), v6, v7, some (.ref W), some (.ref S), none, none, none], ?_, ?_⟩
    · refine ⟨_, rfl, p, dx5, _, rfl, e5, flds_no (by decide +kernel) (by decide +kernel) (by decide +kernel) (by decide +kernel), p, d1, d2, d3, l4, ns, b, f, ps.map Pay.key, as, ps, rfl, C5, nd, hn6, by omega, hfb, fun q hq => ⟨(hq4 q hq).1, (hq4 q hq).2.1, by have := (hq4 q hq).2.2; omega⟩, fun S d l' n sa H6 hS0 hSr hF hS6 hsa hp6 hd6 hf6 k6 => ?_⟩
      refine ⟨S, d, l', n, sa, hSr, hF, hS6, hsa, hp6, hd6, hf6, k6 W _ hW5 (by simp; exact neW), C5.pays.keep k6 (fun s hs xs e => ?_), k6 Tl _ hT5 ?_, tl5.keep k6 nrow, k5.old k6 fun s hs => by rw [List.mem_singleton.mp hs]; exact fp, rfl⟩
      · rw [List.mem_singleton.mp hs, e5] at e
        cases e
      · simp
        exact ne_of hT5 e5 (by intro q; cases q)
    rintro σ6 H6 ⟨S, d, l', n, sa, hSr, hF, hS6, hsa, ⟨dx6, hp6⟩, hd6, hf6, hW6, hpay6, hT6, tl6, k6, rfl⟩
    have hds : (sel n ps ps.length).length ≤ 50 := by
      rw [sel_eq]
      exact Nat.le_trans (selB_len _ _ _) hps4
    -- most = _law_counts(told, done)
    have emost : iv ns (all (sel n ps ps.length)) = iv ns n := iv_congr fun x _ => cnt_sel_all hSr.ch x
    refine ⟨fun σ' H' => ∃ M, H' M = some (.lst (iv ns n)) ∧ Keep [] H6 H' ∧ σ' = [some (.ref l), some (.ref a), some (.ref N), some (.ref L), some (.ref p), some (.ref Tl), v6, v7, some (.ref W), some (.ref S), some (.ref M), none, none], ?_, ?_⟩
    · refine ⟨_, rfl, _, rfl, Tl, S, rs, sa, ns, f, b, sel n ps ps.length, rfl, SqL.of hT6, tl6, SqL.of hS6, hsa, hn6, by omega, fun M H7 h1 h2 h3 => ⟨M, ?_, h3, rfl⟩⟩
      rw [h2, emost]
    rintro σ7 H7 ⟨M, hM7, k7, rfl⟩
    have hsum : (ns.map n).sum = ((sa.map V.ref).length : Int) := by
      have h1 := sum_cnt nd (sel n ps ps.length) fun q hq => (hq4' q (sel_sub _ q hq)).1
      have h2 : (ns.map fun x => (cnt (sel n ps ps.length) x : Int)) = ns.map n := List.map_congr_left fun x _ => cnt_sel_all hSr.ch x
      rw [h2] at h1
      rw [h1, List.length_map, hsa.len]
    -- the settled ones are such a choice
    refine ⟨fun σ' H' => Keep [] H6 H' ∧ H' M = some (.lst (iv ns n)) ∧ σ' = [some (.ref l), some (.ref a), some (.ref N), some (.ref L), some (.ref p), some (.ref Tl), v6, v7, some (.ref W), some (.ref S), some (.ref M), none, none], ?_, ?_⟩
    · refine ⟨_, rfl, S, _, rfl, .inl (SqL.of (k7 S _ hS6 (by simp))), _, rfl, M, ns.map n, rfl, SqL.of (by rw [hM7, iv_ints]), rfl, _, rfl, ?_⟩
      have e1 : (!decide (V.int ((sa.map V.ref).length : Int) = V.int (ns.map n).sum)) = false := by rw [hsum]; simp
      rw [e1]
      refine iteF ?_
      refine ⟨_, rfl, _, rfl, _, rfl, Tl, W, M, rs, as, ns, f, b, n, ps, rfl, SqL.of (k7 Tl _ hT6 (by simp)), tl6.keep0 k7, SqL.of (k7 W _ hW6 (by simp)), hpay6.keep0 k7, SqL.of hM7, nd, hn6, by omega, hq4', fun x => (hSr.ch x).1, fun bb H8 hbb k8 => ⟨bb, rfl, ?_⟩⟩
      rw [hbb.mpr hF]
      exact iteF ⟨k7.trans k8, k8 M _ hM7 (by simp), rfl⟩
    rintro σ8 H8 ⟨k8, hM8, rfl⟩
    have hp8 := k8 p _ hp6 (by simp)
    have hd8 := k8 d _ hd6 (by simp)
    have hf8 := k8 d2 _ hf6 (by simp)
    have hT8 := k8 Tl _ hT6 (by simp)
    have hS8 := k8 S _ hS6 (by simp)
    have tl8 := tl6.keep0 k8
    have hsa8 := hsa.keep0 k8
    have rl : (rs.map V.ref).length = ns.length := by rw [List.length_map, tl6.len]
    have sl : (sa.map V.ref).length = (sel n ps ps.length).length := by rw [List.length_map, hsa.len]
    -- the balances
    refine ⟨fun σ' H' => ∃ v7 v11 v12 : Option V, H' = H8 ∧ σ' = [some (.ref l), some (.ref a), some (.ref N), some (.ref L), some (.ref p), some (.ref Tl), v6, v7, some (.ref W), some (.ref S), some (.ref M), v11, v12], ?_, ?_⟩
    · refine ⟨_, rfl, Tl, rfl, ⟨_, SqL.of hT8⟩, ?_⟩
      refine for_it (walk_list (K := K) (a := Tl) (xs := rs.map V.ref)) (fun i σ' H' => ∃ v7 v11 v12 : Option V, H' = H8 ∧ σ' = [some (.ref l), some (.ref a), some (.ref N), some (.ref L), some (.ref p), some (.ref Tl), v6, v7, some (.ref W), some (.ref S), some (.ref M), v11, v12])
        ⟨_, _, _, rfl, rfl⟩ (fun i σ' H' _ ⟨_, _, _, e, _⟩ => by rw [e]; exact SqL.of hT8) ?_ (fun σ' H' h => h)
      rintro i v σ' H9 H10 hi ⟨u7, u11, u12, rfl, rfl⟩ ⟨rfl, hv⟩
      rw [rl] at hi
      obtain ⟨r, x, hri, hxi, hrow⟩ := tl8.row hi
      rw [refs_at hri] at hv
      have hv := Option.some.inj hv
      subst hv
      refine ⟨_, rfl, r, _, 2, .int (b x), rfl, rfl, SqL.of hrow, rfl, ?_⟩
      refine ⟨fun σ' H' => ∃ v7 : Option V, H' = H10 ∧ σ' = [some (.ref l), some (.ref a), some (.ref N), some (.ref L), some (.ref p), some (.ref Tl), v6, v7, some (.ref W), some (.ref S), some (.ref M), some (.ref r), some (.int (run n b ps ps.length x))], ?_, ?_⟩
      · refine ⟨_, rfl, S, rfl, ⟨_, SqL.of hS8⟩, ?_⟩
        refine for_it (walk_list (K := K) (a := S) (xs := sa.map V.ref)) (fun j σ' H' => ∃ v7 : Option V, H' = H10 ∧ σ' = [some (.ref l), some (.ref a), some (.ref N), some (.ref L), some (.ref p), some (.ref Tl), v6, v7, some (.ref W), some (.ref S), some (.ref M), some (.ref r), some (.int (due (b x) ((sel n ps ps.length).take j) x))])
          ⟨_, rfl, rfl⟩ (fun j σ' H' _ ⟨_, e, _⟩ => by rw [e]; exact SqL.of hS8) ?_ ?_
        · rintro j v σ' H11 H12 hj ⟨w7, rfl, rfl⟩ ⟨rfl, hv⟩
          rw [sl] at hj
          obtain ⟨c, q, hc, hqj, hobj⟩ := hsa8.pay hj
          rw [refs_at hc] at hv
          have hv := Option.some.inj hv
          subst hv
          have hdue : due (b x) ((sel n ps ps.length).take (j + 1)) x = (due (b x) ((sel n ps ps.length).take j) x - if q.payer = x then q.amt else 0) + if q.payee = x then q.amt else 0 := by
            rw [take_succ_of hqj, due_snoc]
          rw [hdue]
          generalize due (b x) ((sel n ps ps.length).take j) x = dd
          refine ⟨fun σ' H' => H' = H12 ∧ σ' = [some (.ref l), some (.ref a), some (.ref N), some (.ref L), some (.ref p), some (.ref Tl), v6, some (.ref c), some (.ref W), some (.ref S), some (.ref M), some (.ref r), some (.int (dd - if q.payer = x then q.amt else 0))], ?_, ?_⟩
          · refine ⟨_, rfl, c, _, 1, .str q.payer, rfl, rfl, SqT.of hobj, rfl, _, rfl, r, _, 0, .str x, rfl, rfl, SqL.of hrow, rfl, rfl, _, rfl, ?_⟩
            by_cases hx : q.payer = x
            · rw [if_pos hx, decide_eq_true (show V.str q.payer = V.str x by rw [hx])]
              refine iteT ⟨_, rfl, _, rfl, c, _, 3, .int q.amt, rfl, rfl, SqT.of hobj, rfl, _, _, rfl, rfl, rfl, rfl⟩
            · rw [if_neg hx, decide_eq_false fun z => hx (V.str.inj z), Int.sub_zero]
              exact iteF ⟨rfl, rfl⟩
          rintro σ9 H13 ⟨rfl, rfl⟩
          refine ⟨_, rfl, c, _, 2, .str q.payee, rfl, rfl, SqT.of hobj, rfl, _, rfl, r, _, 0, .str x, rfl, rfl, SqL.of hrow, rfl, rfl, _, rfl, ?_⟩
          by_cases hx : q.payee = x
          · rw [if_pos hx, decide_eq_true (show V.str q.payee = V.str x by rw [hx])]
            refine iteT ⟨_, rfl, _, rfl, c, _, 3, .int q.amt, rfl, rfl, SqT.of hobj, rfl, _, _, rfl, rfl, _, rfl, rfl⟩
          · rw [if_neg hx, decide_eq_false fun z => hx (V.str.inj z), Int.add_zero]
            exact iteF ⟨_, rfl, rfl⟩
        · rintro σ' H11 ⟨w7, rfl, rfl⟩
          rw [sl, List.take_length, due_sel n b ps x ps.length (Nat.le_refl _)]
          exact ⟨_, rfl, rfl⟩
      rintro σ9 H11 ⟨w7, rfl, rfl⟩
      refine ⟨_, rfl, p, dx6, _, rfl, hp8, flds_no (by decide +kernel) (by decide +kernel) (by decide +kernel) (by decide +kernel), _, rfl, r, _, 0, .str x, rfl, rfl, SqL.of hrow, rfl, p, d, d2, d3, l', dx6, ns, run n b ps ps.length, f, x, rfl, hp8, hd8, hf8, List.mem_of_getElem? hxi, ?_⟩
      refine ⟨_, rfl, rfl, _, rfl, ?_⟩
      have e1 : (!decide (V.int (run n b ps ps.length x) = V.int (run n b ps ps.length x))) = false := by simp
      rw [e1]
      exact iteF ⟨_, _, _, rfl, rfl⟩
    -- the largest
    rintro σ9 H9 ⟨u7, u11, u12, rfl, rfl⟩
    have k9 : Keep [] H H9 := k6.trans k8
    refine ⟨_, rfl, _, rfl, _, rfl, _, rfl, l, zs, 1, rfl, stl k9, hz, fun z => ?_⟩
    refine ⟨z, 1, rfl, fun a2 H10 fa2 s10 k10 => ?_⟩
    have na2 : ∀ {q : Addr} {o : HO}, H9 q = some o → q ≠ a2 := fun e => ne_of_none e fa2
    have hW8 := k8 W _ hW6 (by simp)
    refine ⟨Tl, W, M, a2, rs, as, ns, f, b, n, ps, rfl, SqL.of (k10 Tl _ hT8 (by simp)), tl8.keep0 k10, SqL.of (k10 W _ hW8 (by simp)), (hpay6.keep0 k8).keep0 k10, SqL.of (k10 M _ hM8 (by simp)), s10, ⟨na2 hT8, na2 hW8, na2 hM8, fun r hr2 => ?_⟩, nd, hn6, by omega, hq4', hSr, fun H11 _ => k H11⟩
    obtain ⟨m, hm⟩ := List.getElem?_of_mem hr2
    have hml : m < ns.length := by rw [← tl8.len]; exact (List.getElem?_eq_some_iff.mp hm).1
    exact na2 (tl8.at_ m r _ hm (List.getElem?_eq_getElem hml))
end
end K35
set_option maxHeartbeats 0
namespace K35
open PySem L2
abbrev hk : PySem.W.Hook := He.hookD 4 fa fn
def ob (s : PySem.W.SharedT) : He.AlD := He.obsDG 4 fa fn (HandSHeadRun.getT s)
theorem ob_eq (s : PySem.W.SharedT) : ob s = hk.obs s.abs := He.obsDG_eq (HandSHeadRun.getT_eq s)
def loose : List Str := ["_wall", "__name__", "BankError", "BadValue", "Missing", "Refused", "Full", "LIMIT", "is_amount", "LETTERS", "DIGITS", "is_name", "MOST_MEMBERS", "MOST_KEY", "first_below", "last_chosen", "move", "Clearing",
  "_law_cell", "_law_source", "_law_pick", "_law_name", "_law_names", "_law_units", "_law_pairs", "_law_filled", "_law_payment", "_law_fits", "_law_counts", "_law_contained", "_law_largest"]
theorem run_top (w : World) : HandSHeadRun.RunEq R (PySem.W.view R.prog [35]) hk ob 4000 loose w := by
  intro os
  kernel_rfl
end K35
namespace K35
open PySem L2
open PySem.Spec PyProof.Rows
/-- what the top has written, from the head's facts -/
theorem txt_of {K : PySem.W.Frag} {h : Heap} {mg : Str → Option Value} (X : K.In h) (G : h.Ns mainGlobals mg) (c : He.SaysD fa fn K) : Txt K mg := by
  have fact : ∀ f ∈ fa, f.ok K = true := fun f hf => c.facts hf
  have defs : ∀ d ∈ fn, ∃ fd, FunD K d.name d.qual d.params d.body d.scope (d.dvs K) (d.kws K) (He.fAd K d.at_) fd := fun d hd => c.defs hd
  refine ⟨fact, defs, fun x hx => He.glo_ok X G (fact (.glo x) ?_), fun x hx => He.free_ok X G (fact (.free x) ?_), He.int_ok X G (fact (.int "LIMIT" 1000000000) (by simp [fa])), He.int_ok X G (fact (.int "MOST_MEMBERS" 6) (by simp [fa])),
    He.int_ok X G (fact (.int "MOST_KEY" 40) (by simp [fa])), He.str_ok X G (fact (.str "LETTERS" letters) (by simp [fa])), He.str_ok X G (fact (.str "DIGITS" digits) (by simp [fa]))⟩
  · simp [fa, hx]
  · simp [fa, hx]
theorem law_facts {P : Program} {w : World} {K : PySem.W.Frag} {h : Heap} {mg : Str → Option Value} {f : Addr} (X : K.In h) (G : h.Ns mainGlobals mg) (hfa : mg ("law" : Str) = some (.ref f)) (c : He.SaysD fa fn K) :
    ∃ fd : FuncData, (∀ (s : Shared) (v : Value), BindsTo s fd ⟨[v], []⟩ [("_law_script", v)]) ∧ ∀ base : Heap, K.In base → base.Ns mainGlobals mg → FnOk P w K mg base CX0 4 f fd ["_law_script"] (spLaw K) := by
  have T : Txt K mg := txt_of X G c
  have e := hfa.symm.trans (T.glo "law" (by simp [fnNames]))
  cases e
  obtain ⟨fd, F⟩ := T.defs (dF "law" sLaw) (by simp [fn])
  have F' : FunD K "law" "law" (defArgs sLaw) (defBody sLaw) (defScope sLaw) [] [] (He.ga K "law") fd := F
  have b := F'.bindsA (ps := ["_law_script"]) fun _ _ _ _ _ _ us hl => match us, hl with | [_], _ => rfl
  refine ⟨fd, fun s v => b s [v] rfl, fun base hb hg => ?_⟩
  obtain ⟨⟨fd2, G2, _, oc2, od2, osl2, lk2⟩, _, _⟩ := ok_law (P := P) (w := w) (K := K) (mg := mg) (base := base) T
  obtain ⟨oc, od, _, _, _, _, _, _, _, osl, _, lk, _⟩ := F'.ex
  have e2 := Option.some.inj (lk.symm.trans lk2)
  have efd : fd = fd2 := by
    injection e2 with _ _ e3 _
    injection e3
  rw [efd]
  exact G2
end K35
open PySem PySem.W PySem.Calls PyProof.Rows
theorem PySem.Challenge.cw_corebank_k35_whole_settle_largest_holds : PySem.Challenge.rw_corebank_k35_whole_settle_largest.Holds := by
  w_on; o_law
  refine HandSHeadRun.head_any (r := K35.R) (q := view K35.R.prog [35]) (H := K35.hk) (ob := K35.ob) (M := 4000) (loose := K35.loose) (d := HandSHeadRun.topDef K35.R.prog 35) (kwd := []) K35.ob_eq
    (by kernel_rfl) (fun s => by kernel_rfl) K35.run_top (by kernel_rfl) (by kernel_rfl) (by kernel_rfl) (by rfl) (by first | assumption | decide +kernel) (by decide +kernel) ⟨rfl, rfl, rfl, rfl, rfl, by decide +kernel⟩ ?hw ?hc
  case hw => w_witness2
  case hc =>
    refine L2.walk_ofE (l := PySem.Challenge.rw_corebank_k35_whole_settle_largest) (n := 63) (k := 4) (x := "_law_script") (CX := L2.CX0) rfl (by decide) (by kernel_rfl) ⟨rfl, by decide, by decide⟩ ?F (fun _ _ _ _ z => z)
    intro w mg fa h Y G hmg0
    obtain ⟨K, KX, c⟩ := Y
    have hmg : mg ("law" : PySem.Str) = some (.ref fa) := by
      have e : (HandSHeadRun.topDef K35.R.prog 35).name = ("law" : PySem.Str) := by kernel_rfl
      rw [← e]
      exact hmg0
    obtain ⟨fd, hb, hF⟩ := K35.law_facts (P := (PySem.Challenge.rw_corebank_k35_whole_settle_largest).prog) (w := w) KX G hmg c
    exact ⟨K, fd, K35.spLaw K, KX, hb, fun H a ns hl _ hS => ⟨a, ns, rfl, hS, hl, fun _ => rfl⟩, hF⟩
