import PyProof.Rows.All
import Wide.All
import OpenK.AllK
import Wide.FinOn
import HandS.Base
import HandS.Call
import HandS.List
import HandS.Comp
import HandS.Ends
import HandS.Iter
import HandS.Text
import HandS.Exc
import HandS.ReplaceLit
import HandS.ReplaceDef
import HandS.ReplaceList
import HandS.ExcOwn
import HandS.IsInst
import HandS.StrMore
import HandS.Words
import HandS.WordsList
import HandS.WordsExc
import HandS.Codes
import HandS.Defaults
import HandS.Head0
import HandS.Head1
import HandS.Head2
import HandS.HeadEnd
import HandS.HeadHook1
import HandS.HeadHook2
import KE.KStateDown
import PySem.Challenge.RW_marktext_k05_nested_parts
set_option Elab.async false
set_option linter.all false
set_option maxRecDepth 100000
namespace Fw
open PySem PySem.Spec PyProof.Rows L2

/-! ### plain data -/
inductive Dat where
  | non | bl (b : Bool) | int (i : Int) | str (s : List Nat) | lst (xs : List Dat) | tup (xs : List Dat) | frz (xs : List Dat)
  deriving Inhabited

/-- a text as a value -/
abbrev vS (l : List Nat) : V := .str ⟨l.toArray⟩

/-! ### a datum as it lies in the heap -/
mutual
def Rep (K : PySem.W.Frag) (H : Hp) : Dat → V → Prop
  | .non, v => v = .non
  | .bl b, v => v = .bl b
  | .int i, v => v = .int i
  | .str s, v => v = vS s
  | .lst ds, v => ∃ a vs, v = .ref a ∧ H a = some (.lst vs) ∧ RepL K H ds vs
  | .tup ds, v => ∃ a vs, v = .ref a ∧ H a = some (.tup vs) ∧ RepL K H ds vs
  | .frz ds, v => ∃ a vs, v = .ref a ∧ SqL K H a vs ∧ RepL K H ds vs
def RepL (K : PySem.W.Frag) (H : Hp) : List Dat → List V → Prop
  | [], vs => vs = []
  | d :: ds, vs => ∃ v r, vs = v :: r ∧ Rep K H d v ∧ RepL K H ds r
end

/-! ### equality of data, as Python has it -/
mutual
def eqv : Dat → Dat → Bool
  | .non, .non => true
  | .bl a, .bl b => a == b
  | .bl a, .int j => (if a then 1 else 0) == j
  | .int i, .bl b => i == (if b then 1 else 0)
  | .int i, .int j => i == j
  | .str x, .str y => x == y
  | .lst xs, .lst ys => eqvL xs ys
  | .tup xs, .tup ys => eqvL xs ys
  | _, _ => false
def eqvL : List Dat → List Dat → Bool
  | [], [] => true
  | x :: xs, y :: ys => eqv x y && eqvL xs ys
  | _, _ => false
end

section
variable {X : Cx}
/-! ### operators of any kind of values -/
theorem or_op {f : Value → Value → Sem Value} {r1 r2 : R2} (h1 : OpR X f r1) (h2 : OpR X f r2) : OpR X f (fun x y H Q => r1 x y H Q ∨ r2 x y H Q) :=
  fun pins s σ H x y v u Q I rx ry h => h.elim (h1 pins s σ H x y v u Q I rx ry) (h2 pins s σ H x y v u Q I rx ry)
end
inductive BOp | add | sub | mul | mod | fdiv | pow
  deriving DecidableEq
inductive COp | eq | ne | lt | le | gt | ge | isin | notin | is_ | isnot
  deriving DecidableEq

/-- s * n: written by its text -/
def repS (l : List Nat) (n : Int) : List Nat := (List.replicate n.toNat l).flatten
def rAdd : R2 := fun x y H Q => (∃ i j, x = .int i ∧ y = .int j ∧ Q (.int (i + j)) H) ∨ (∃ a b, x = vS a ∧ y = vS b ∧ a.length + b.length ≤ sizeLine ∧ Q (vS (a ++ b)) H) ∨ rCat x y H Q
def rMul : R2 := fun x y H Q => (∃ i j, x = .int i ∧ y = .int j ∧ CMul i j ∧ Q (.int (i * j)) H) ∨ (∃ a n, x = vS a ∧ y = .int n ∧ n < 2 ^ 20 ∧ -(2 ^ 62) < n ∧ a.length < 1000 ∧ a.length * n.toNat ≤ sizeLine ∧ Q (vS (repS a n)) H) ∨ rRep x y H Q
def rBin : BOp → R2
  | .add => rAdd
  | .sub => rI0 fun i j => .int (i - j)
  | .mul => rMul
  | .mod => rI (fun _ j => j ≠ 0) fun i j => .int (i.fmod j)
  | .fdiv => rI CDivN fun i j => .int (i.fdiv j)
  | .pow => rI CPow fun i j => .int (i ^ j.toNat)

theorem vS_app (a b : List Nat) : (⟨a.toArray⟩ : Str) ++ (⟨b.toArray⟩ : Str) = ⟨(a ++ b).toArray⟩ := by
  show Str.append _ _ = _
  unfold Str.append
  simp
theorem vS_len (a : List Nat) : Str.length ⟨a.toArray⟩ = a.length := by
  unfold Str.length
  simp
theorem opR_add {X : Cx} : OpR X (binaryOp .Add) rAdd := by
  intro pins s σ H x y v u Q I rx ry h
  rcases h with h | h | h
  · exact op_add pins s σ H x y v u Q I rx ry h
  · obtain ⟨a, b, rfl, rfl, hl, q⟩ := h
    refine op_add_str pins s σ H _ _ v u Q I rx ry ⟨_, _, rfl, rfl, by rw [vS_len, vS_len]; exact hl, ?_⟩
    rw [vS_app]
    exact q
  · exact op_cat pins s σ H x y v u Q I rx ry h
theorem mul_repS (a : List Nat) (n : Int) : Txt.mul ⟨a.toArray⟩ n = ⟨(repS a n).toArray⟩ := by
  unfold Txt.mul repS
  have key : ∀ (m : Nat) (acc : Array Nat), (List.replicate m a.toArray).foldl (· ++ ·) acc = acc ++ ((List.replicate m a).flatten).toArray := by
    intro m
    induction m with
    | zero => intro acc; simp
    | succ m ih =>
      intro acc
      rw [List.replicate_succ, List.foldl_cons, ih, List.replicate_succ, List.flatten_cons]
      simp
  split
  · rename_i h
    have e : n.toNat = 0 := by omega
    rw [e]
    rfl
  · split
    · rename_i h1 h2
      simp only [Bool.or_eq_true, beq_iff_eq] at h2
      rcases h2 with h2 | h2
      · subst h2
        simp [List.replicate_succ]
      · rw [vS_len] at h2
        have e : a = [] := List.eq_nil_of_length_eq_zero h2
        subst e
        simp
    · rw [key]
      simp
theorem opR_mul {X : Cx} : OpR X (binaryOp .Mult) rMul := by
  intro pins s σ H x y v u Q I rx ry h
  rcases h with h | h | h
  · exact op_mul pins s σ H x y v u Q I rx ry h
  · obtain ⟨a, n, rfl, rfl, hn, hn2, hl, hz, q⟩ := h
    obtain ⟨t, rfl⟩ := rx
    obtain ⟨t', rfl⟩ := ry
    refine SB.mul ⟨?_, ?_, ?_⟩ fun t2 k => ⟨vS (repS a n), H, I.tok k, ⟨t2, by rw [mul_repS]⟩, q⟩
    · have e1 : ¬ n < -(2 ^ 63 : Int) := by omega
      have e2 : ¬ n ≥ (2 ^ 63 : Int) := by omega
      simp only [decide_eq_false e1, decide_eq_false e2, Bool.or_false]
    · intro h1 _ hc
      rw [vS_len] at hc
      have h1' : 0 < n := by omega
      have := Int.le_ediv_of_mul_le (c := n) (a := (a.length : Int)) (b := 2 ^ 63 - 1) h1' (by
        have h3 : (a.length : Int) * n ≤ 1000 * n := Int.mul_le_mul_of_nonneg_right (by omega) (by omega)
        omega)
      omega
    · intro _ _
      rw [vS_len]
      exact decide_eq_false (by omega)
  · exact op_rep pins s σ H x y v u Q I rx ry h

/-! ### comparisons -/
mutual
def toPy : Dat → PyData
  | .non => .none
  | .bl b => .bool b
  | .int i => .int i
  | .str s => .str ⟨s.toArray⟩
  | .lst ds => .list (toPyL ds)
  | .tup ds => .tuple (toPyL ds)
  | .frz _ => .dict []
def toPyL : List Dat → List PyData
  | [] => []
  | d :: ds => toPy d :: toPyL ds
end
mutual
theorem rep_dp {K : PySem.W.Frag} {H : Hp} : ∀ (d : Dat) (v : V), (toPy d).canLay0 = true → Rep K H d v → Dp K H v (toPy d)
  | .non, v, _, h => by
    simp only [Rep] at h
    subst h
    exact .non
  | .bl b, v, _, h => by
    simp only [Rep] at h
    subst h
    exact .bl b
  | .int i, v, _, h => by
    simp only [Rep] at h
    subst h
    exact .int i
  | .str s, v, _, h => by
    simp only [Rep] at h
    subst h
    exact .str _
  | .lst ds, v, hc, h => by
    simp only [Rep] at h
    obtain ⟨a, vs, rfl, hs, hr⟩ := h
    exact .lst (SqL.of hs) (repL_dp ds vs (by simpa [toPy, PyData.canLay0] using hc) hr)
  | .tup ds, v, hc, h => by
    simp only [Rep] at h
    obtain ⟨a, vs, rfl, hs, hr⟩ := h
    exact .tup (SqT.of hs) (repL_dp ds vs (by simpa [toPy, PyData.canLay0] using hc) hr)
  | .frz ds, v, hc, h => by
    simp [toPy, PyData.canLay0] at hc
theorem repL_dp {K : PySem.W.Frag} {H : Hp} : ∀ (ds : List Dat) (vs : List V), PyData.canLayAll0 (toPyL ds) = true → RepL K H ds vs → DpAll K H vs (toPyL ds)
  | [], vs, _, h => by
    simp only [RepL] at h
    subst h
    exact .nil
  | d :: ds, vs, hc, h => by
    simp only [RepL] at h
    obtain ⟨v, r, rfl, h1, h2⟩ := h
    simp only [toPyL, PyData.canLayAll0, Bool.and_eq_true] at hc
    exact .cons (rep_dp d v hc.1 h1) (repL_dp ds r hc.2 h2)
end
theorem beq_S (a b : List Nat) : ((⟨a.toArray⟩ : Str) == (⟨b.toArray⟩ : Str)) = (a == b) := by
  by_cases h : a = b
  · subst h
    rw [beq_self_eq_true, beq_self_eq_true]
  · rw [beq_eq_false_iff_ne.mpr h, beq_eq_false_iff_ne.mpr]
    intro e
    exact h (by simpa using congrArg (fun x : Str => x.cps.toList) e)
mutual
theorem eqv_py : ∀ d e : Dat, PyData.eqv (toPy d) (toPy e) = eqv d e
  | .non, e => by cases e <;> simp [toPy, PyData.eqv, eqv]
  | .bl b, e => by cases e <;> simp [toPy, PyData.eqv, eqv]
  | .int i, e => by cases e <;> simp [toPy, PyData.eqv, eqv]
  | .str s, e => by
    cases e with
    | str t =>
      simp only [toPy, PyData.eqv, eqv]
      exact beq_S s t
    | _ => simp [toPy, PyData.eqv, eqv]
  | .lst xs, e => by
    cases e with
    | lst ys =>
      simp only [toPy, PyData.eqv, eqv]
      exact eqvL_py xs ys
    | _ => simp [toPy, PyData.eqv, eqv]
  | .tup xs, e => by
    cases e with
    | tup ys =>
      simp only [toPy, PyData.eqv, eqv]
      exact eqvL_py xs ys
    | _ => simp [toPy, PyData.eqv, eqv]
  | .frz xs, e => by cases e <;> simp [toPy, PyData.eqv, eqv]
theorem eqvL_py : ∀ ds es : List Dat, PyData.eqvAll (toPyL ds) (toPyL es) = eqvL ds es
  | [], [] => by simp [toPyL, PyData.eqvAll, eqvL]
  | [], _ :: _ => by simp [toPyL, PyData.eqvAll, eqvL]
  | _ :: _, [] => by simp [toPyL, PyData.eqvAll, eqvL]
  | d :: ds, e :: es => by
    simp only [toPyL, PyData.eqvAll, eqvL]
    rw [eqv_py d e, eqvL_py ds es]
end
/-- both may be compared as data -/
def cmpOk (d e : Dat) : Bool := (toPy d).canLay0 && (toPy e).canLay0 && decide (min (toPy d).depth (toPy e).depth ≤ 64)
def rEqv (K : PySem.W.Frag) (neg : Bool) : R2 := fun x y H Q =>
  (scal x y = true ∧ Q (.bl (neg != decide (x = y))) H) ∨
  (∃ a b xs, x = .ref a ∧ y = .ref b ∧ SqL K H a xs ∧ SqL K H b [] ∧ Q (.bl (neg != xs.isEmpty)) H) ∨
  (∃ d e, Rep K H d x ∧ Rep K H e y ∧ cmpOk d e = true ∧ Q (.bl (neg != eqv d e)) H)
theorem opR_eq {X : Cx} {k : Nat} (hr : Room k X.A) : OpR X (compareOp .Eq) (rEqv X.K false) := by
  intro pins s σ H x y v u Q I rx ry h
  rcases h with ⟨hs, q⟩ | ⟨a, b, xs, rfl, rfl, ha, hb, q⟩ | ⟨d, e, hd, he, hc, q⟩
  · exact op_eq pins s σ H x y v u Q I rx ry ⟨hs, by simpa using q⟩
  · cases rx
    cases ry
    obtain ⟨its, rv, pl, hz⟩ := I.list ha
    obtain ⟨its2, rv2, pl2, hz2⟩ := I.list hb
    have e2 : its2 = [] := by
      cases rv2
      rfl
    subst e2
    cases xs with
    | nil =>
      have e1 : its = [] := by
        cases rv
        rfl
      subst e1
      refine SeqAt.eq_listAt (e := fun _ => true) pl.isList pl2.isList rfl hr.units0 ?_ ?_
      · intro i hi
        exact absurd hi (by simp)
      · exact ⟨.bl true, H, I, rfl, by simpa using q⟩
    | cons z zs =>
      cases rv with
      | cons r1 r2 =>
        refine SeqAt.eq_list_lengthsAt pl.isList pl2.isList (by simp) hr.units0 ?_
        exact ⟨.bl false, H, I, rfl, by simpa using q⟩
  · unfold cmpOk at hc
    simp only [Bool.and_eq_true, decide_eq_true_eq] at hc
    obtain ⟨as, r1⟩ := Dp.reads I (toPy d) x v (rep_dp d x hc.1.1 hd) rx
    obtain ⟨bs, r2⟩ := Dp.reads I (toPy e) y u (rep_dp e y hc.1.2 he) ry
    have hu := hr.units
    refine SeqAt.compareEq_reads r1 r2 hc.1.1 hc.1.2 (by omega) ⟨.bl (eqv d e), H, I, by rw [eqv_py]; rfl, by simpa using q⟩
theorem opR_ne {X : Cx} {k : Nat} (hr : Room k X.A) : OpR X (compareOp .NotEq) (rEqv X.K true) := by
  intro pins s σ H x y v u Q I rx ry h
  rcases h with ⟨hs, q⟩ | ⟨a, b, xs, rfl, rfl, ha, hb, q⟩ | ⟨d, e, hd, he, hc, q⟩
  · exact op_ne pins s σ H x y v u Q I rx ry ⟨hs, by simpa using q⟩
  · cases rx
    cases ry
    obtain ⟨its, rv, pl, hz⟩ := I.list ha
    obtain ⟨its2, rv2, pl2, hz2⟩ := I.list hb
    have e2 : its2 = [] := by
      cases rv2
      rfl
    subst e2
    cases xs with
    | nil =>
      have e1 : its = [] := by
        cases rv
        rfl
      subst e1
      exact SeqAt.RcNeAt.lists pl.isList pl2.isList rfl hr.units0 (e := fun _ => true) (fun i hi => absurd hi (by simp)) _ _ _ _ ⟨.bl false, H, I, rfl, by simpa using q⟩
    | cons z zs =>
      cases rv with
      | cons r1 r2 =>
        exact SeqAt.RcNeAt.lists_lengths pl.isList pl2.isList (by simp) hr.units0 _ _ _ _ ⟨.bl true, H, I, rfl, by simpa using q⟩
  · unfold cmpOk at hc
    simp only [Bool.and_eq_true, decide_eq_true_eq] at hc
    obtain ⟨as, r1⟩ := Dp.reads I (toPy d) x v (rep_dp d x hc.1.1 hd) rx
    obtain ⟨bs, r2⟩ := Dp.reads I (toPy e) y u (rep_dp e y hc.1.2 he) ry
    have hu := hr.units
    refine SeqAt.compareNe_reads r1 r2 hc.1.1 hc.1.2 (by omega) ⟨.bl (!eqv d e), H, I, by rw [eqv_py]; rfl, by simpa using q⟩
/-! ### texts as lists of signs -/
def preL (a l : List Nat) : Bool := l.take a.length == a
def isSub (a : List Nat) : List Nat → Bool
  | [] => a.isEmpty
  | c :: r => preL a (c :: r) || isSub a r
theorem isSub_iff (a : List Nat) : ∀ b : List Nat, isSub a b = true ↔ ∃ i, i + a.length ≤ b.length ∧ preL a (b.drop i) = true
  | [] => by
    unfold isSub
    constructor
    · intro h
      have e : a = [] := by simpa using h
      subst e
      exact ⟨0, by simp, rfl⟩
    · rintro ⟨i, h1, _⟩
      have e : a.length = 0 := by
        simp only [List.length_nil] at h1
        omega
      simpa using e
  | c :: r => by
    unfold isSub
    rw [Bool.or_eq_true, isSub_iff a r]
    constructor
    · rintro (h | ⟨i, h1, h2⟩)
      · refine ⟨0, ?_, h⟩
        have e := eq_of_beq h
        have := congrArg List.length e
        rw [List.length_take] at this
        omega
      · exact ⟨i + 1, by simp; omega, by simpa using h2⟩
    · rintro ⟨i, h1, h2⟩
      cases i with
      | zero => exact .inl h2
      | succ i => exact .inr ⟨i, by simp at h1; omega, by simpa using h2⟩
theorem found_S (a b : List Nat) : (!(Builtin.Str.occurrences ⟨b.toArray⟩ ⟨a.toArray⟩ 0 (Str.length ⟨b.toArray⟩) 1).isEmpty) = isSub a b := by
  rw [Bool.eq_iff_iff, StrLaws.found_iff, isSub_iff]
  constructor
  · rintro ⟨i, h1, h2⟩
    rw [vS_len, vS_len] at h1
    rw [StrLaws.subAt_eq, vS_len] at h2
    exact ⟨i, h1, h2⟩
  · rintro ⟨i, h1, h2⟩
    refine ⟨i, by rw [vS_len, vS_len]; exact h1, ?_⟩
    rw [StrLaws.subAt_eq, vS_len]
    exact h2
/-- the place of a sign -/
def idxC (c : Nat) : List Nat → Option Nat
  | [] => none
  | x :: r => if x = c then some 0 else (idxC c r).map (· + 1)
theorem idxC_none {c : Nat} : ∀ {l : List Nat}, idxC c l = none → ∀ i : Nat, l[i]? ≠ some c
  | [], _, i => by simp
  | x :: r, h, i => by
    unfold idxC at h
    split at h
    · cases h
    · rename_i hx
      have hr : idxC c r = none := by simpa using h
      cases i with
      | zero => simpa using hx
      | succ i => simpa using idxC_none hr i
theorem idxC_some {c : Nat} : ∀ {l : List Nat} {k : Nat}, idxC c l = some k → l[k]? = some c ∧ ∀ i : Nat, i < k → l[i]? ≠ some c
  | [], k, h => by cases h
  | x :: r, k, h => by
    unfold idxC at h
    split at h
    · rename_i hx
      cases h
      exact ⟨by simpa using hx, fun i hi => absurd hi (Nat.not_lt_zero _)⟩
    · rename_i hx
      cases hr : idxC c r with
      | none => rw [hr] at h; cases h
      | some j =>
        rw [hr] at h
        have e : k = j + 1 := (Option.some.inj h).symm
        subst e
        obtain ⟨h1, h2⟩ := idxC_some hr
        refine ⟨by simpa using h1, fun i hi => ?_⟩
        cases i with
        | zero => simpa using hx
        | succ i => simpa using h2 i (by omega)
def findC (c : Nat) (l : List Nat) (i : Nat) : Int := match idxC c (l.drop i) with
  | some k => ((i + k : Nat) : Int)
  | none => -1
theorem range'_split' {lo n a : Nat} {pre post : List Nat} (h : List.range' lo n = pre ++ a :: post) : ∀ k, lo ≤ k → k < a → k ∈ pre := by
  intro k hk0 hk
  have hL : n = pre.length + (post.length + 1) := by
    have := congrArg List.length h
    simpa using this
  have hlen : lo + pre.length = a := by
    have h1 : (List.range' lo n)[pre.length]? = some a := by rw [h]; simp
    rw [List.getElem?_range'] at h1
    · simpa using h1
    · omega
  have h2 : (List.range' lo n)[k - lo]? = pre[k - lo]? := by rw [h, List.getElem?_append_left (by omega)]
  rw [List.getElem?_range'] at h2
  · have h3 : pre[k - lo]? = some k := by
      rw [← h2]
      have : lo + (k - lo) = k := by omega
      simp [this]
    exact List.mem_of_getElem? h3
  · omega
theorem find_S (a : List Nat) (c : Nat) (i : Int) (h0 : 0 ≤ i) (h1 : i ≤ a.length) : Txt.find3 ⟨a.toArray⟩ ⟨#[c]⟩ i = findC c a i.toNat := by
  unfold Txt.find3 findC
  have ef : ∀ n : Nat, fromIndex n i = i.toNat := by
    intro n
    unfold fromIndex
    rw [if_neg (by omega)]
    omega
  rw [ef]
  have key := StrLaws.occ_first ⟨a.toArray⟩ ⟨#[c]⟩ (Str.length ⟨a.toArray⟩) 1 (Nat.le_refl _) (List.range' i.toNat (Str.length ⟨a.toArray⟩ + 1 - i.toNat)) i.toNat (fun j hj => by
    rw [List.mem_range'] at hj
    obtain ⟨z, _, e⟩ := hj
    omega)
  have hat : ∀ j, StrLaws.At ⟨a.toArray⟩ ⟨#[c]⟩ (Str.length ⟨a.toArray⟩) j ↔ a[j]? = some c := fun j => StrLaws.subAt_one ⟨a.toArray⟩ c j
  have hlen : ∀ j, a[j]? = some c → j < a.length := fun j hj => (List.getElem?_eq_some_iff.mp hj).1
  rw [StrLaws.occ_eq]
  rcases key with ⟨h2, hn⟩ | ⟨pre, b, post, e, h2, hb, hn⟩
  · rw [h2]
    cases hi : idxC c (a.drop i.toNat) with
    | none => rfl
    | some k =>
      obtain ⟨h3, _⟩ := idxC_some hi
      rw [List.getElem?_drop] at h3
      have h4 := hlen _ h3
      exact absurd ((hat _).mpr h3) (hn _ (by
        rw [List.mem_range', vS_len]
        exact ⟨k, by omega, by omega⟩))
  · have hb' := (hat b).mp hb
    have hbl := hlen b hb'
    have hbi : i.toNat ≤ b := by
      have hm : b ∈ List.range' i.toNat (Str.length ⟨a.toArray⟩ + 1 - i.toNat) := by rw [e]; simp
      rw [List.mem_range'] at hm
      obtain ⟨z, _, e⟩ := hm
      omega
    cases hi : idxC c (a.drop i.toNat) with
    | none =>
      have := idxC_none hi (b - i.toNat)
      rw [List.getElem?_drop, show i.toNat + (b - i.toNat) = b by omega] at this
      exact absurd hb' this
    | some k =>
      obtain ⟨h3, h4⟩ := idxC_some hi
      rw [List.getElem?_drop] at h3
      have hkb : i.toNat + k = b := by
        rcases Nat.lt_trichotomy (i.toNat + k) b with hlt | heq | hgt
        · exact absurd ((hat _).mpr h3) (hn _ (range'_split' e _ (by omega) hlt))
        · exact heq
        · have := h4 (b - i.toNat) (by omega)
          rw [List.getElem?_drop, show i.toNat + (b - i.toNat) = b by omega] at this
          exact absurd hb' this
      generalize hG : (forIn (List.range' i.toNat (Str.length ⟨a.toArray⟩ + 1 - i.toNat)) ((#[] : Array Nat), i.toNat) (StrLaws.occBody ⟨a.toArray⟩ ⟨#[c]⟩ (Str.length ⟨a.toArray⟩) 1)).run.fst = arr at h2
      have h5 : arr.toList[0]? = some b := by simpa using h2
      cases hL : arr.toList with
      | nil => rw [hL] at h5; cases h5
      | cons z t =>
        rw [hL] at h5
        have hz : z = b := by simpa using h5
        subst hz
        simp only
        rw [hkb]
def rIsK (neg : Bool) : R2 := fun x y H Q => (y = .non ∨ ∃ b, y = .bl b) ∧ Q (.bl (neg != decide (x = y))) H
def rInA (K : PySem.W.Frag) (neg : Bool) : R2 := fun x y H Q =>
  (∃ a b, x = vS a ∧ y = vS b ∧ Q (.bl (neg != isSub a b)) H) ∨ (∃ p xs, y = .ref p ∧ (SqL K H p xs ∨ SqT K H p xs) ∧ flatV x = true ∧ xs.all flatV = true ∧ Q (.bl (neg != inV x xs)) H)
def rCmp (K : PySem.W.Frag) : COp → R2
  | .eq => rEqv K false
  | .ne => rEqv K true
  | .lt => rI0 fun i j => .bl (decide (i < j))
  | .le => rI0 fun i j => .bl (decide (i ≤ j))
  | .gt => rI0 fun i j => .bl (decide (i > j))
  | .ge => rI0 fun i j => .bl (decide (i ≥ j))
  | .isin => rInA K false
  | .notin => rInA K true
  | .is_ => rIsK false
  | .isnot => rIsK true
def COp.op : COp → CmpOp
  | .eq => .Eq | .ne => .NotEq | .lt => .Lt | .le => .LtE | .gt => .Gt | .ge => .GtE | .isin => .In | .notin => .NotIn | .is_ => .Is | .isnot => .IsNot
def BOp.op : BOp → Operator
  | .add => .Add | .sub => .Sub | .mul => .Mult | .mod => .Mod | .fdiv => .FloorDiv | .pow => .Pow
theorem opR_bin {X : Cx} : ∀ o : BOp, OpR X (binaryOp o.op) (rBin o)
  | .add => opR_add
  | .sub => op_sub
  | .mul => opR_mul
  | .mod => op_modN
  | .fdiv => op_fdivN
  | .pow => op_pow
theorem beq_rel {x y : V} {v u : Value} (rx : RelV x v) (ry : RelV y u) (hy : y = .non ∨ ∃ b, y = .bl b) : (v == u) = decide (x = y) ∧ plainIs v u = true := by
  rcases hy with rfl | ⟨b, rfl⟩
  · cases ry
    cases x <;> first
      | (cases rx; exact ⟨rfl, rfl⟩)
      | (obtain ⟨t, rfl⟩ := rx; exact ⟨rfl, rfl⟩)
  · cases ry
    cases x with
    | bl c =>
      cases rx
      refine ⟨?_, rfl⟩
      by_cases h : c = b
      · subst h
        simp
      · have h1 : Value.bool c ≠ Value.bool b := fun e => h (Value.bool.inj e)
        have h2 : V.bl c ≠ V.bl b := fun e => h (V.bl.inj e)
        rw [beq_eq_false_iff_ne.mpr h1, decide_eq_false h2]
    | non => cases rx; exact ⟨rfl, rfl⟩
    | int i => obtain ⟨t, rfl⟩ := rx; exact ⟨rfl, rfl⟩
    | str i => obtain ⟨t, rfl⟩ := rx; exact ⟨rfl, rfl⟩
    | byt i => obtain ⟨t, rfl⟩ := rx; exact ⟨rfl, rfl⟩
    | flt i => obtain ⟨t, rfl⟩ := rx; exact ⟨rfl, rfl⟩
    | ref a => cases rx; exact ⟨rfl, rfl⟩
    | ty n => cases rx; exact ⟨rfl, rfl⟩
theorem opR_is {X : Cx} : OpR X (compareOp .Is) (rIsK false) := by
  intro pins s σ H x y v u Q I rx ry h
  obtain ⟨hy, q⟩ := h
  obtain ⟨h1, h2⟩ := beq_rel rx ry hy
  exact wpAny_is_plain h2 ⟨.bl (decide (x = y)), H, I, by rw [h1]; rfl, by simpa using q⟩
theorem opR_isnot {X : Cx} : OpR X (compareOp .IsNot) (rIsK true) := by
  intro pins s σ H x y v u Q I rx ry h
  obtain ⟨hy, q⟩ := h
  obtain ⟨h1, h2⟩ := beq_rel rx ry hy
  exact wpAny_isNot_plain h2 ⟨.bl (!decide (x = y)), H, I, by rw [h1]; rfl, by simpa using q⟩
theorem opR_in {X : Cx} : OpR X (compareOp .In) (rInA X.K false) := by
  intro pins s σ H x y v u Q I rx ry h
  rcases h with ⟨a, b, rfl, rfl, q⟩ | ⟨p, xs, hy, hs, hf, hx, q⟩
  · exact op_in_str pins s σ H _ _ v u Q I rx ry ⟨_, _, rfl, rfl, by rw [found_S]; simpa using q⟩
  · exact op_in_seq pins s σ H x y v u Q I rx ry ⟨p, xs, hy, hs, hf, hx, by simpa using q⟩
theorem opR_notin {X : Cx} : OpR X (compareOp .NotIn) (rInA X.K true) := by
  intro pins s σ H x y v u Q I rx ry h
  rcases h with ⟨a, b, rfl, rfl, q⟩ | ⟨p, xs, hy, hs, hf, hx, q⟩
  · exact op_notIn_str pins s σ H _ _ v u Q I rx ry ⟨_, _, rfl, rfl, by rw [found_S]; simpa using q⟩
  · exact op_notIn_seq pins s σ H x y v u Q I rx ry ⟨p, xs, hy, hs, hf, hx, by simpa using q⟩
theorem opR_cmp {X : Cx} {k : Nat} (hr : Room k X.A) : ∀ o : COp, OpR X (compareOp o.op) (rCmp X.K o)
  | .eq => opR_eq hr
  | .ne => opR_ne hr
  | .lt => op_lt
  | .le => op_le
  | .gt => op_gt
  | .ge => op_ge
  | .isin => opR_in
  | .notin => opR_notin
  | .is_ => opR_is
  | .isnot => opR_isnot
end Fw

namespace Fw
open PySem PySem.Spec PyProof.Rows L2

/-! ### the subset of Python, deep -/
mutual
inductive Ex where
  | var (i : Nat) | con (v : V) | glb (i : Nat)
  | bin (o : BOp) (a b : Ex) | neg (a : Ex) | not (a : Ex)
  | cmp (o : COp) (a b : Ex) | chn (o o' : COp) (a b c : Ex)
  | and (a b : Ex) | or (a b : Ex) | ite (c a b : Ex)
  | call (f : Nat) (as : Exs)
  | len (a : Ex) | isi (a : Ex) (T : String) | int (a : Ex) | list (a : Ex) | tupl (a : Ex) | min (a b : Ex)
  | app (o e : Ex) | pop (o : Ex) | ext (o e : Ex)
  | lstrip (o e : Ex) | join (o e : Ex) | find (o e i : Ex) | split (o e : Ex) | part (o e : Ex)
  | idx (a b : Ex) | slf (a lo : Ex) | slt (a hi : Ex) | sl (a lo hi : Ex)
  | lst (as : Exs) | tup (as : Exs)
  | lc (j : Nat) (it : Itr) (e : Ex) | lcif (j : Nat) (it : Itr) (c e : Ex)
inductive Exs where
  | nil | cons (e : Ex) (es : Exs)
inductive Itr where
  | ls (e : Ex) | st (e : Ex) | rg (e : Ex)
end
mutual
inductive Sm where
  | asg (i : Nat) (e : Ex) | set (o i e : Ex) | ex (e : Ex) | ret (e : Ex)
  | ite (c : Ex) (a b : Sms) | whl (c : Ex) (b : Sms) | for_ (j : Nat) (it : Itr) (b : Sms)
  | cont | raise (c : Nat) | rrep (e : Ex) (y z : List Nat) | wrd (sg : Nat)
inductive Sms where
  | nil | cons (s : Sm) (r : Sms)
end
/-- the place of the k-th sign -/
def wIx (num k : Int) : Int := (num + k * (1 + num / 94 % 5)) % 94
def wList (S : List Nat) (num : Int) (n : Nat) : List Nat := (List.range n).map fun k : Nat => S.getD (wIx num (k : Int)).toNat 0
structure FDef where
  name : Str
  N : List Str
  np : Nat
  body : Sms
structure Tbl where
  fns : List FDef
  gls : List (Str × V)
  cls : List Str

/-! ### readings -/
def W0 : WX := fun _ _ _ _ => False
def rLen (K : PySem.W.Frag) : List V → Hp → VK → Prop := fun xs H Q => ∃ x n, xs = [x] ∧ LenV K x H n ∧ Q (.int n) H
def rInt : List V → Hp → VK → Prop := fun xs H Q => (∃ i, xs = [.int i] ∧ Q (.int i) H) ∨ ∃ k : Bool, xs = [.bl k] ∧ Q (.int (if k = true then 1 else 0)) H
def rList (K : PySem.W.Frag) : List V → Hp → VK → Prop := fun xs H Q => ∃ p ys, xs = [.ref p] ∧ (SqL K H p ys ∨ SqT K H p ys) ∧ ∀ l, H l = none → Q (.ref l) (upd H l (.lst ys))
def rTupl (K : PySem.W.Frag) : List V → Hp → VK → Prop := fun xs H Q => ∃ p ys, xs = [.ref p] ∧ ((SqL K H p ys ∧ ∀ l, H l = none → Q (.ref l) (upd H l (.tup ys))) ∨ SqT K H p ys ∧ Q (.ref p) H)
def rMin : List V → Hp → VK → Prop := fun xs H Q => ∃ i j : Int, xs = [.int i, .int j] ∧ Q (.int (if j < i then j else i)) H
def rLstrip : V → List V → Hp → VK → Prop := fun x xs H Q => ∃ a c, x = vS a ∧ xs = [vS [c]] ∧ a.length ≤ sizeLine ∧ Q (vS (a.dropWhile (· == c))) H
def rFind : V → List V → Hp → VK → Prop := fun x xs H Q => ∃ a c, ∃ i : Int, x = vS a ∧ xs = [vS [c], .int i] ∧ 0 ≤ i ∧ i ≤ a.length ∧ Q (.int (findC c a i.toNat)) H
def joinL (a : List Nat) : List (List Nat) → List Nat
  | [] => []
  | [x] => x
  | x :: y :: r => x ++ a ++ joinL a (y :: r)
def rJoin (K : PySem.W.Frag) : V → List V → Hp → VK → Prop := fun x xs H Q => ∃ a p, ∃ ys : List (List Nat), x = vS a ∧ xs = [.ref p] ∧ SqL K H p (ys.map vS) ∧ (ys.map List.length).sum + ys.length * a.length ≤ 16777216 ∧ Q (vS (joinL a ys)) H
/-- parts between a sign -/
def splitC (c : Nat) : List Nat → List (List Nat)
  | [] => [[]]
  | x :: r => if x = c then [] :: splitC c r else match splitC c r with
    | [] => [[x]]
    | p :: ps => (x :: p) :: ps
def rSplit : V → List V → Hp → VK → Prop := fun x xs H Q => ∃ a c, x = vS a ∧ xs = [vS [c]] ∧ c < 256 ∧ a.length + 2 ≤ sizeLine ∧ ∀ p, H p = none → Q (.ref p) (upd H p (.lst ((splitC c a).map vS)))
def partC (c : Nat) (a : List Nat) : List Nat × List Nat × List Nat := match idxC c a with
  | some k => (a.take k, [c], a.drop (k + 1))
  | none => (a, [], [])
def rPart : V → List V → Hp → VK → Prop := fun x xs H Q => ∃ a c, x = vS a ∧ xs = [vS [c]] ∧ a.length ≤ sizeLine ∧ ∀ p, H p = none → Q (.ref p) (upd H p (.tup [vS (partC c a).1, vS (partC c a).2.1, vS (partC c a).2.2]))
def rSl (K : PySem.W.Frag) : V → Option Int → Option Int → Hp → VK → Prop := fun x lo hi H Q => rSlS x lo hi H Q ∨ rSlL K x lo hi H Q

abbrev Sps := Nat → Sp
/-- what a def like _law_words gives; G sg: the signs -/
def tWrd (G : Sps) (sg : Nat) : TS := fun D σ H => ∃ (num size : Int) (c S : List Nat), σ[0]? = some (some (.int num)) ∧ σ[1]? = some (some (.int size)) ∧ σ[2]? = some (some (vS c)) ∧ 0 ≤ size ∧ size ≤ 1000 ∧ 1 ≤ c.length ∧ c ≠ [120] ∧ S.length = 94 ∧
  (∀ H', Same H H' → G sg [] H' (fun v H'' => v = vS S ∧ Same H' H'') (fun _ _ _ => False)) ∧ ∀ H', Same H H' → D.rt (vS (StrLaws.replL c [120] (wList S num size.toNat))) H'
mutual
def tE (K : PySem.W.Frag) (T : Tbl) (G : Sps) (W : WX) : Ex → TE
  | .var i => tVar i
  | .con v => tC v
  | .glb i => tC ((T.gls.map (·.2)).getD i .non)
  | .bin o a b => tOp (rBin o) (tE K T G W a) (tE K T G W b)
  | .neg a => tUn (rU fun i => .int (-i)) (tE K T G W a)
  | .not a => tNotV (tE K T G W a)
  | .cmp o a b => tOp (rCmp K o) (tE K T G W a) (tE K T G W b)
  | .chn o o' a b c => tChain (rCmp K o) (rCmp K o') (tE K T G W a) (tE K T G W b) (tE K T G W c)
  | .and a b => tAndV (tE K T G W a) (tE K T G W b)
  | .or a b => tOrV (tE K T G W a) (tE K T G W b)
  | .ite c a b => tIf (tB (tE K T G W c)) (tE K T G W a) (tE K T G W b)
  | .call f as => tCallS (G f) (WE W) (tA K T G W as)
  | .len a => tCB (rLen K) (tCons (tE K T G W a) tNil)
  | .isi a t => tCB (rIsi K) (tCons (tE K T G W a) (tCons (tC (.ty t)) tNil))
  | .int a => tCB rInt (tCons (tE K T G W a) tNil)
  | .list a => tCB (rList K) (tCons (tE K T G W a) tNil)
  | .tupl a => tCB (rTupl K) (tCons (tE K T G W a) tNil)
  | .min a b => tCB rMin (tCons (tE K T G W a) (tCons (tE K T G W b) tNil))
  | .app o e => tBM K "list" rAppend (tE K T G W o) (tCons (tE K T G W e) tNil)
  | .pop o => tBM0 K "list" rPop (tE K T G W o)
  | .ext o e => tBM K "list" rExtend (tE K T G W o) (tCons (tE K T G W e) tNil)
  | .lstrip o e => tM1 rLstrip (tE K T G W o) (tE K T G W e)
  | .join o e => tM1 (rJoin K) (tE K T G W o) (tE K T G W e)
  | .find o e i => tBM K "str" rFind (tE K T G W o) (tCons (tE K T G W e) (tCons (tE K T G W i) tNil))
  | .split o e => tM1 rSplit (tE K T G W o) (tE K T G W e)
  | .part o e => tM1 rPart (tE K T G W o) (tE K T G W e)
  | .idx a b => tOp (rIx K) (tE K T G W a) (tE K T G W b)
  | .slf a lo => tSl (rSl K) (tE K T G W a) (tPart (tE K T G W lo)) tNoPart
  | .slt a hi => tSl (rSl K) (tE K T G W a) tNoPart (tPart (tE K T G W hi))
  | .sl a lo hi => tSl (rSl K) (tE K T G W a) (tPart (tE K T G W lo)) (tPart (tE K T G W hi))
  | .lst as => tLst (tA K T G W as)
  | .tup as => tTup (tA K T G W as)
  | .lc j it e => tLc (tI K T G W it) (gName j) tYes (tE K T G W0 e) [j]
  | .lcif j it c e => tLc (tI K T G W it) (gName j) (tB (tE K T G W0 c)) (tE K T G W0 e) [j]
def tA (K : PySem.W.Frag) (T : Tbl) (G : Sps) (W : WX) : Exs → TA
  | .nil => tNil
  | .cons e es => tCons (tE K T G W e) (tA K T G W es)
def tI (K : PySem.W.Frag) (T : Tbl) (G : Sps) (W : WX) : Itr → TI
  | .ls e => iList K (tE K T G W e)
  | .st e => iStr (tE K T G W e)
  | .rg e => iRng1 (tCons (tE K T G W e) tNil)
end
mutual
def tS (K : PySem.W.Frag) (T : Tbl) (G : Sps) (W : WX) (cv : Nat → Value) : Sm → TS
  | .asg i e => tAsg (tE K T G W e) (gName i)
  | .set o i e => tAsg (tE K T G W e) (gSub (tE K T G W o) (tE K T G W i) rSetL)
  | .ex e => tDrop (tE K T G W e)
  | .ret e => tRet (tE K T G W e)
  | .ite c a b => tIfS (tB (tE K T G W c)) (tSs K T G W cv a) (tSs K T G W cv b)
  | .whl c b => tWhile (tB (tE K T G W c)) (tSs K T G W cv b)
  | .for_ j it b => tFor (tI K T G W it) (gName j) (tSs K T G W cv b)
  | .cont => tCont
  | .raise c => fun _ σ H => W (cv c) none σ H
  | .rrep e y z => tRet (CwR.tReplC (tE K T G W e) ⟨y.toArray⟩ ⟨z.toArray⟩)
  | .wrd sg => tWrd G sg
def tSs (K : PySem.W.Frag) (T : Tbl) (G : Sps) (W : WX) (cv : Nat → Value) : Sms → TS
  | .nil => tNext
  | .cons s r => tSeq (tS K T G W cv s) (tSs K T G W cv r)
end
/-- the whole program, by the depth of calls -/
def wpF (K : PySem.W.Frag) (T : Tbl) (cv : Nat → Value) : Nat → Nat → Sp
  | 0, _ => fun _ _ _ _ => False
  | n + 1, f => fun vs H Q E => match T.fns[f]? with
    | none => False
    | some d => vs.length = d.np ∧ tSs K T (wpF K T cv n) (fun c x _ H => E c x H) cv d.body { nx := fun _ H' => Q .non H', rt := Q } (start d.N vs) H

/-- a def whose body is like _law_words -/
def isRaw (d : FDef) : Bool := match d.body with
  | .cons (.wrd _) .nil => true
  | _ => false
/-! ### does a tree stand for an expression of the text? -/
def okn (x : Str) : Bool := !(x == ("__debug__" : Str)) && !(x == ("__classdict__" : Str)) && !(x == ("__name__" : Str))
def vis (sc : Scope) (x : Str) : Bool := match sc.names.lookup x with
  | some .local => true
  | some .cell => true
  | some .free => true
  | _ => false
def loc (sc : Scope) (x : Str) : Bool := match sc.names.lookup x with
  | some .local => true
  | some .cell => true
  | _ => false
def isG (sc : Scope) (x : Str) : Bool := match sc.names.lookup x with
  | some .globalImplicit => true
  | _ => false
def isConst (v : V) (e : Expr) : Bool := match v, e with
  | .int i, .Constant (.int j) _ _ => i == j
  | .bl b, .Constant (.bool c) _ _ => b == c
  | .non, .Constant .none _ _ => true
  | .str x, .Constant (.str y) _ _ => decide (x = y)
  | _, _ => false
def notSuper : Expr → Bool
  | .Call (.Name _ _) [] [] _ => false
  | _ => true
/-- a built-in's name, as it is called -/
def isB (sc : Scope) (x : String) (e : Expr) : Bool := match e with
  | .Name y _ => decide (y = (x : Str)) && isG sc y && okn y
  | _ => false
def tyNames : List String := ["str", "list", "tuple", "int", "bool"]
mutual
def corE (T : Tbl) (N : List Str) : Ex → Scope → Expr → Bool
  | .var i, sc, e => match e with
    | .Name x _ => decide (N[i]? = some x) && vis sc x && okn x
    | _ => false
  | .con v, _, e => isConst v e
  | .glb i, sc, e => match e with
    | .Name x _ => (match T.gls[i]? with | some p => decide (p.1 = x) | none => false) && isG sc x && okn x
    | _ => false
  | .bin o a b, sc, e => match e with
    | .BinOp l op r _ => decide (op = o.op) && corE T N a sc l && corE T N b sc r
    | _ => false
  | .neg a, sc, e => match e with
    | .UnaryOp .USub l _ => corE T N a sc l
    | _ => false
  | .not a, sc, e => match e with
    | .UnaryOp .Not l _ => corE T N a sc l
    | _ => false
  | .cmp o a b, sc, e => match e with
    | .Compare l [op] [r] _ => decide (op = o.op) && corE T N a sc l && corE T N b sc r
    | _ => false
  | .chn o o' a b c, sc, e => match e with
    | .Compare l [op, op'] [r, r'] _ => decide (op = o.op) && decide (op' = o'.op) && corE T N a sc l && corE T N b sc r && corE T N c sc r'
    | _ => false
  | .and a b, sc, e => match e with
    | .BoolOp .And [x, y] _ => corE T N a sc x && corE T N b sc y
    | .BoolOp .And (x :: y :: z :: r) pos => corE T N a sc x && (match b with | .and _ _ => true | _ => false) && corE T N b sc (.BoolOp .And (y :: z :: r) pos)
    | _ => false
  | .or a b, sc, e => match e with
    | .BoolOp .Or [x, y] _ => corE T N a sc x && corE T N b sc y
    | .BoolOp .Or (x :: y :: z :: r) pos => corE T N a sc x && (match b with | .or _ _ => true | _ => false) && corE T N b sc (.BoolOp .Or (y :: z :: r) pos)
    | _ => false
  | .ite c a b, sc, e => match e with
    | .IfExp t x y _ => corE T N c sc t && corE T N a sc x && corE T N b sc y
    | _ => false
  | .call f as, sc, e => match e with
    | .Call (.Name x _) es [] _ => (match T.fns[f]? with | some d => decide (d.name = x) && !isRaw d | none => false) && isG sc x && okn x && corA T N as sc es
    | _ => false
  | .len a, sc, e => match e with
    | .Call g [x] [] _ => isB sc "len" g && corE T N a sc x
    | _ => false
  | .isi a t, sc, e => match e with
    | .Call g [x, y] [] _ => isB sc "isinstance" g && isB sc t y && tyNames.contains t && corE T N a sc x
    | _ => false
  | .int a, sc, e => match e with
    | .Call g [x] [] _ => isB sc "int" g && corE T N a sc x
    | _ => false
  | .list a, sc, e => match e with
    | .Call g [x] [] _ => isB sc "list" g && corE T N a sc x
    | _ => false
  | .tupl a, sc, e => match e with
    | .Call g [x] [] _ => isB sc "tuple" g && corE T N a sc x
    | _ => false
  | .min a b, sc, e => match e with
    | .Call g [x, y] [] _ => isB sc "min" g && corE T N a sc x && corE T N b sc y
    | _ => false
  | .app o a, sc, e => match e with
    | .Call (.Attribute r m p) [x] [] q => decide (m = ("append" : Str)) && (p.endLine == q.line) && notSuper r && corE T N o sc r && corE T N a sc x
    | _ => false
  | .pop o, sc, e => match e with
    | .Call (.Attribute r m p) [] [] q => decide (m = ("pop" : Str)) && (p.endLine == q.line) && notSuper r && corE T N o sc r
    | _ => false
  | .ext o a, sc, e => match e with
    | .Call (.Attribute r m p) [x] [] q => decide (m = ("extend" : Str)) && (p.endLine == q.line) && notSuper r && corE T N o sc r && corE T N a sc x
    | _ => false
  | .lstrip o a, sc, e => match e with
    | .Call (.Attribute r m p) [x] [] q => decide (m = ("lstrip" : Str)) && (p.endLine == q.line) && notSuper r && corE T N o sc r && corE T N a sc x
    | _ => false
  | .join o a, sc, e => match e with
    | .Call (.Attribute r m p) [x] [] q => decide (m = ("join" : Str)) && (p.endLine == q.line) && notSuper r && corE T N o sc r && corE T N a sc x
    | _ => false
  | .find o a i, sc, e => match e with
    | .Call (.Attribute r m p) [x, y] [] q => decide (m = ("find" : Str)) && (p.endLine == q.line) && notSuper r && corE T N o sc r && corE T N a sc x && corE T N i sc y
    | _ => false
  | .split o a, sc, e => match e with
    | .Call (.Attribute r m p) [x] [] q => decide (m = ("split" : Str)) && (p.endLine == q.line) && notSuper r && corE T N o sc r && corE T N a sc x
    | _ => false
  | .part o a, sc, e => match e with
    | .Call (.Attribute r m p) [x] [] q => decide (m = ("partition" : Str)) && (p.endLine == q.line) && notSuper r && corE T N o sc r && corE T N a sc x
    | _ => false
  | .idx a b, sc, e => match e with
    | .Subscript x y _ => corE T N a sc x && corE T N b sc y
    | _ => false
  | .slf a lo, sc, e => match e with
    | .Subscript x (.Slice (some l) none none _) _ => corE T N a sc x && corE T N lo sc l
    | _ => false
  | .slt a hi, sc, e => match e with
    | .Subscript x (.Slice none (some h) none _) _ => corE T N a sc x && corE T N hi sc h
    | _ => false
  | .sl a lo hi, sc, e => match e with
    | .Subscript x (.Slice (some l) (some h) none _) _ => corE T N a sc x && corE T N lo sc l && corE T N hi sc h
    | _ => false
  | .lst as, sc, e => match e with
    | .List es _ => corA T N as sc es
    | _ => false
  | .tup as, sc, e => match e with
    | .Tuple es _ _ => corA T N as sc es
    | _ => false
  | .lc j it a, sc, e => match e with
    | .ListComp elt [⟨.Name x _, iter, [], 0⟩] s2 _ => decide (N[j]? = some x) && loc s2 x && blkC N sc s2 [(x, j)] && corI T N it sc iter && corE T N a s2 elt
    | _ => false
  | .lcif j it c a, sc, e => match e with
    | .ListComp elt [⟨.Name x _, iter, [t], 0⟩] s2 _ => decide (N[j]? = some x) && loc s2 x && blkC N sc s2 [(x, j)] && corI T N it sc iter && corE T N c s2 t && corE T N a s2 elt
    | _ => false
def corA (T : Tbl) (N : List Str) : Exs → Scope → List Expr → Bool
  | .nil, _, es => match es with
    | [] => true
    | _ => false
  | .cons a as, sc, es => match es with
    | x :: r => corE T N a sc x && corA T N as sc r
    | [] => false
def corI (T : Tbl) (N : List Str) : Itr → Scope → Expr → Bool
  | .ls a, sc, e => corE T N a sc e
  | .st a, sc, e => corE T N a sc e
  | .rg a, sc, e => match e with
    | .Call g [x] [] _ => isB sc "range" g && corE T N a sc x
    | _ => false
end
end Fw

set_option maxHeartbeats 4000000
namespace Fw
open PySem PySem.Spec PyProof.Rows L2

def plainX : Expr → Bool
  | .Starred _ _ => false
  | .Set _ _ _ => false
  | .Slice _ _ _ _ => false
  | .SetComp _ _ _ _ => false
  | .DictComp _ _ _ _ _ => false
  | _ => true
def noComp : Expr → Bool
  | .ListComp _ _ _ _ => false
  | _ => true
theorem corE_plain {T : Tbl} {N : List Str} {p : Ex} {sc : Scope} {e : Expr} (h : corE T N p sc e = true) : plainX e = true := by
  cases e <;> first
    | rfl
    | (exfalso
       cases p <;> first
        | exact Bool.false_ne_true h
        | (rename_i v
           cases v <;> exact Bool.false_ne_true h))
theorem star_plain {e : Expr} {es : List Expr} {env : Env} (h : plainX e = true) : starEach (e :: es) env = (false, eval e env) :: starEach es env := by
  cases e <;> first
    | rfl
    | exact absurd h Bool.false_ne_true
theorem folded_plain {e : Expr} {env : Env} (h : plainX e = true) (x : Value) : foldedSetIterable e env x = pure x := by
  cases e <;> first
    | rfl
    | exact absurd h Bool.false_ne_true
theorem behind_plain {op : CmpOp} {e : Expr} (h : plainX e = true) : behindInMarks op e = false := by
  cases e <;> first
    | rfl
    | exact absurd h Bool.false_ne_true
theorem ix_plain {e : Expr} (h : plainX e = true) : PlainIx e := by
  intro o i
  cases e <;> first
    | rfl
    | exact absurd h Bool.false_ne_true
theorem base_plain {e : Expr} {name : Str} {env : Env} {w : Sem Value} (h : notSuper e = true) : attributeBase e name env w = w := by
  unfold attributeBase
  split
  · exact absurd h Bool.false_ne_true
  · rfl
theorem swaps_plain {e : Expr} {t : Option Expr} {l : Nat} {env : Env} (h : plainX e = true) (h2 : noComp e = true) : swapsWith e t l env = pure false := by
  cases e <;> first
    | rfl
    | exact absurd h Bool.false_ne_true
    | exact absurd h2 Bool.false_ne_true
theorem stores_name {e : Expr} {x : Str} {p : Pos} {env : Env} : swappedStores [.Name x p] e env = pure none := by
  cases e <;> rfl
theorem stores_sub {e o i : Expr} {p : Pos} {env : Env} : swappedStores [.Subscript o i p] e env = pure none := by
  cases e <;> rfl
theorem star_any {T : Tbl} {N : List Str} {sc : Scope} {env : Env} {pos : Pos} : ∀ {as : Exs} {es : List Expr}, corA T N as sc es = true → (backTo pos (starEach es env)).any (·.1) = false
  | .nil, [], _ => rfl
  | .nil, _ :: _, h => absurd h Bool.false_ne_true
  | .cons a as, [], h => absurd h Bool.false_ne_true
  | .cons a as, e :: es, h => by
    have h' : (corE T N a sc e && corA T N as sc es) = true := by
      unfold corA at h
      exact h
    rw [Bool.and_eq_true] at h'
    rw [star_plain (corE_plain h'.1)]
    have ih := star_any (env := env) (pos := pos) h'.2
    unfold backTo at ih ⊢
    rw [List.map_cons, List.any_cons]
    simpa using ih

/-! ### where one stands -/
def bnames : List Str := [("len" : Str), ("isinstance" : Str), ("int" : Str), ("range" : Str), ("str" : Str), ("list" : Str), ("tuple" : Str), ("bool" : Str), ("min" : Str)]
/-- a def's promise; raw: the third argument is a text whose token is out -/
structure FnG (b : Bool) (P : Program) (w : World) (K : PySem.W.Frag) (mg : Str → Option Value) (base : Heap) (CX : CXT) (k : Nat) (f : Addr) (fd : FuncData) (ps : List Str) (sp : Sp) : Prop where
  len : ∀ vs H Q E, sp vs H Q E → vs.length = ps.length
  run : ∀ (A : Around) (outer : List Env) (s : Shared) (H : Hp) (args : Args) (us : List Value) (vs : List V) (Q : VK) (E : XK), Room k A → Env0 P w K mg base A outer s H → BindsTo s fd args (ps.zip us) → Vals vs us →
    (b = true → ∃ y t, us[2]? = some (.str y t) ∧ t ≠ 0 ∧ t < s.toks) → sp vs H Q E → codeAny (model P w) A (.call (.ref f) args) (CR CX outer P w H s Q E) s
theorem FnG.ok {b : Bool} {P : Program} {w : World} {K : PySem.W.Frag} {mg : Str → Option Value} {base : Heap} {CX : CXT} {k : Nat} {f : Addr} {fd : FuncData} {ps : List Str} {sp : Sp} (F : FnG b P w K mg base CX k f fd ps sp) (h : b = false) : FnOk P w K mg base CX k f fd ps sp :=
  ⟨F.len, fun A outer s H args us vs Q E hr he hb hv hs => F.run A outer s H args us vs Q E hr he hb hv (fun e => by rw [h] at e; cases e) hs⟩
theorem FnG.of {b : Bool} {P : Program} {w : World} {K : PySem.W.Frag} {mg : Str → Option Value} {base : Heap} {CX : CXT} {k : Nat} {f : Addr} {fd : FuncData} {ps : List Str} {sp : Sp} (F : FnOk P w K mg base CX k f fd ps sp) : FnG b P w K mg base CX k f fd ps sp :=
  ⟨F.len, fun A outer s H args us vs Q E hr he hb hv _ hs => F.run A outer s H args us vs Q E hr he hb hv hs⟩
structure Facts (T : Tbl) (cv : Nat → Value) (n : Nat) (X : Cx) : Prop where
  fn : ∀ (i : Nat) (d : FDef), T.fns[i]? = some d → ∃ f fd, FnG (isRaw d) X.prog X.w X.K X.mg X.base (L2.CX X.prog X.w) n f fd (d.N.take d.np) (wpF X.K T cv n i) ∧ X.mg d.name = some (.ref f) ∧ PySem.W.keepIn X.K (.ref f) = true ∧ Binds X.K fd (d.N.take d.np) []
  gl : ∀ (i : Nat) (p : Str × V), T.gls[i]? = some p → ∃ u, X.mg p.1 = some u ∧ RelV p.2 u
  bi : ∀ x ∈ bnames, X.mg x = none
  ex : ∀ (i : Nat) (x : Str), T.cls[i]? = some x → ∃ C, cv i = .ref C ∧ PySem.W.excIn X.K C PySem.HandSPX.veTail "ValueError.__new__" = true ∧ X.mg x = some (.ref C) ∧ PySem.W.keepIn X.K (.ref C) = true ∧ Raises X (.ref C)
structure Stand (T : Tbl) (cv : Nat → Value) (N : List Str) (sc : Scope) (n : Nat) (W : WX) (X : Cx) : Prop where
  fx : Facts T cv n X
  hN : X.N = N
  nd : N.Nodup
  sub : ∀ x k, sc.names.lookup x = some k → ∃ k', X.env.scope.names.lookup x = some k' ∧ (k' = k ∨ (k = .free ∧ k' = .cell))
  calm : X.calm = true
  kf : X.env.scope.kind = .function
  room : Room n X.A
  takes : Takes X W
  fn : ∀ x, sc.names.lookup x = some .cell → X.fn x = true
  own : PassesOwn (model X.prog X.w) X.A X.env X.xe

section
variable {T : Tbl} {cv : Nat → Value} {N : List Str} {sc : Scope} {n : Nat} {W : WX} {X : Cx}
theorem okn1 {x : Str} (h : okn x = true) : (x == ("__debug__" : Str)) = false ∧ (x == ("__classdict__" : Str)) = false ∧ x ≠ ("__name__" : Str) := by
  unfold okn at h
  simp only [Bool.and_eq_true, Bool.not_eq_true'] at h
  exact ⟨h.1.1, h.1.2, fun e => by
    have := h.2
    rw [e] at this
    simp at this⟩
theorem vis_ok (C : Stand T cv N sc n W X) {x : Str} (h : vis sc x = true) : Vis X.env.scope x := by
  unfold vis at h
  unfold Vis
  split at h
  · rename_i e
    obtain ⟨k, h1, h2⟩ := C.sub x _ e
    rcases h2 with rfl | ⟨z, _⟩
    · exact .inl h1
    · cases z
  · rename_i e
    obtain ⟨k, h1, h2⟩ := C.sub x _ e
    rcases h2 with rfl | ⟨z, _⟩
    · exact .inr (.inl h1)
    · cases z
  · rename_i e
    obtain ⟨k, h1, h2⟩ := C.sub x _ e
    rcases h2 with rfl | ⟨_, rfl⟩
    · exact .inr (.inr h1)
    · exact .inr (.inl h1)
  · cases h
theorem loc_ok (C : Stand T cv N sc n W X) {x : Str} (h : loc sc x = true) : L2.Loc X.env.scope x ∧ (X.fn x = true ∨ X.env.scope.names.lookup x = some .local) := by
  unfold loc at h
  unfold L2.Loc
  split at h
  · rename_i e
    obtain ⟨k, h1, h2⟩ := C.sub x _ e
    rcases h2 with rfl | ⟨z, _⟩
    · exact ⟨.inl h1, .inr h1⟩
    · cases z
  · rename_i e
    obtain ⟨k, h1, h2⟩ := C.sub x _ e
    rcases h2 with rfl | ⟨z, _⟩
    · exact ⟨.inr h1, .inl (C.fn x e)⟩
    · cases z
  · cases h
theorem gl_ok (C : Stand T cv N sc n W X) {x : Str} (h : isG sc x = true) : Gl X x := by
  unfold isG at h
  show X.env.scope.names.lookup x = some .globalImplicit
  split at h
  · rename_i e
    obtain ⟨k, h1, h2⟩ := C.sub x _ e
    rcases h2 with rfl | ⟨z, _⟩
    · exact h1
    · cases z
  · cases h
theorem blk_ok (C : Stand T cv N sc n W X) {s2 : Scope} {own : List (Str × Nat)} (h : blkC N sc s2 own = true) : BlkOk X.N X.env.scope s2 own := by
  have b := blkOk_by h
  rw [C.hN]
  refine ⟨b.kind, b.uniq, b.ix, fun y hy e => ?_, b.own⟩
  rcases b.free y hy e with z | z
  · obtain ⟨k, h1, h2⟩ := C.sub _ _ z
    rcases h2 with rfl | ⟨z, _⟩
    · exact .inl h1
    · cases z
  · obtain ⟨k, h1, h2⟩ := C.sub _ _ z
    rcases h2 with rfl | ⟨_, rfl⟩
    · exact .inr h1
    · exact .inl h1
theorem relabel_sub {env : Env} {names : List (Str × NameKind)} {x : Str} {k : NameKind} (h : names.lookup x = some k) :
    ∃ k', (names.map fun (n, k) => if (k == NameKind.free && env.scope.kind == .function && env.kindOf n == some .cell) then (n, NameKind.cell) else (n, k)).lookup x = some k' ∧ (k' = k ∨ (k = .free ∧ k' = .cell)) := by
  induction names with
  | nil => cases h
  | cons p r ih =>
    obtain ⟨n, kn⟩ := p
    by_cases e : x = n
    · subst e
      simp only [List.lookup, beq_self_eq_true] at h
      cases h
      simp only [List.map_cons]
      split
      · rename_i hc
        simp only [Bool.and_eq_true, beq_iff_eq] at hc
        exact ⟨.cell, by simp [List.lookup], .inr ⟨hc.1.1, rfl⟩⟩
      · exact ⟨k, by simp [List.lookup], .inl rfl⟩
    · have hb : (x == n) = false := beq_eq_false_iff_ne.mpr e
      have h' : r.lookup x = some k := by simpa [List.lookup, hb] using h
      obtain ⟨k', h1, h2⟩ := ih h'
      refine ⟨k', ?_, h2⟩
      simp only [List.map_cons]
      split <;> simpa [List.lookup, hb] using h1
theorem pe_constX {v : V} {e : Expr} (h : isConst v e = true) : PE X e (tC v) := by
  unfold isConst at h
  split at h
  · have e1 := eq_of_beq h
    subst e1
    exact pe_int
  · have e1 := eq_of_beq h
    subst e1
    exact pe_bl
  · exact pe_non
  · have e1 := of_decide_eq_true h
    subst e1
    exact pe_str
  · cases h
theorem isB_ok (C : Stand T cv N sc n W X) {x : String} {e : Expr} (h : isB sc x e = true) (hb : (x : Str) ∈ bnames) : ∃ p, e = .Name (x : Str) p ∧ Gl X (x : Str) ∧ X.mg (x : Str) = none ∧ (x : Str) ≠ ("__name__" : Str) ∧ ((x : Str) == ("__debug__" : Str)) = false := by
  unfold isB at h
  split at h
  · rename_i y p
    simp only [Bool.and_eq_true, decide_eq_true_eq] at h
    obtain ⟨⟨e1, h2⟩, h3⟩ := h
    subst e1
    obtain ⟨k1, k2, k3⟩ := okn1 h3
    exact ⟨p, rfl, gl_ok C h2, C.fx.bi _ hb, k3, k1⟩
  · cases h
/-- a test whose value is a bool -/
theorem tB_and {ta tb : TE} : tB (tAndV ta tb) = tAnd (tB ta) (tB tb) := by
  funext σ H Q
  unfold tB tAndV tAnd
  congr 1
  funext x H1
  refine propext ⟨?_, ?_⟩
  · rintro ⟨c, rfl, h⟩
    refine ⟨c, rfl, ?_⟩
    cases c with
    | true => exact h
    | false =>
      obtain ⟨c', e, q⟩ := h
      cases e
      exact q
  · rintro ⟨c, rfl, h⟩
    refine ⟨c, rfl, ?_⟩
    cases c with
    | true => exact h
    | false => exact ⟨false, rfl, h⟩
theorem tB_or {ta tb : TE} : tB (tOrV ta tb) = tOr (tB ta) (tB tb) := by
  funext σ H Q
  unfold tB tOrV tOr
  congr 1
  funext x H1
  refine propext ⟨?_, ?_⟩
  · rintro ⟨c, rfl, h⟩
    refine ⟨c, rfl, ?_⟩
    cases c with
    | false => exact h
    | true =>
      obtain ⟨c', e, q⟩ := h
      cases e
      exact q
  · rintro ⟨c, rfl, h⟩
    refine ⟨c, rfl, ?_⟩
    cases c with
    | false => exact h
    | true => exact ⟨true, rfl, h⟩
theorem tB_not {ta : TE} : tB (tNotV ta) = tNot (tB ta) := by
  funext σ H Q
  unfold tB tNotV tNot
  congr 1
  funext x H1
  refine propext ⟨?_, ?_⟩
  · rintro ⟨c, rfl, c', e, q⟩
    cases e
    exact ⟨c, rfl, q⟩
  · rintro ⟨c, rfl, q⟩
    exact ⟨c, rfl, _, rfl, q⟩
/-- f() -/
theorem pe_call0S {CX : CXT} {k : Nat} {f : Addr} {fd : FuncData} {ps : List Str} {sp : Sp} {E : L2.St → XK} {x : Str} {p pos : Pos} (F : FnOk X.prog X.w X.K X.mg X.base CX k f fd ps sp) (hr : Room k X.A) (hg : Gl X x) (hm : X.mg x = some (.ref f)) (hk : PySem.W.keepIn X.K (.ref f) = true) (hb : Binds X.K fd ps []) (hx : ∀ σ, PassesAt CX X σ (E σ))
    (hdb : (x == ("__debug__" : Str)) = false) : PE X (.Call (.Name x p) [] [] pos) (tCallS sp E tNil) := by
  refine ⟨fun pins s σ H Q I h => ?_⟩
  refine wpAny_Call_Name_kw (ld_glob I hg hm ?_ hdb)
  exact PySem.W.callWith_K0 I.kIn hk (run_fnS (us := []) F hr hb (hx σ) I .nil h)
theorem sl_any {X : Cx} : SlR X (rSl X.K) := by
  intro pins s σ H x v vl vu lo hi sl Q I r h1 h2 h3 h
  rcases h with h | h
  · exact sl_str pins s σ H x v vl vu lo hi sl Q I r h1 h2 h3 h
  · exact sl_list pins s σ H x v vl vu lo hi sl Q I r h1 h2 h3 h
end
end Fw

set_option maxHeartbeats 4000000
namespace Fw
open PySem PySem.Spec PyProof.Rows L2
open PySem.Builtin.Str (strSub)

/-! ### texts: the methods, sign by sign -/
theorem lstrip_S (a : List Nat) (c : Nat) : Txt.lstripChars ⟨a.toArray⟩ ⟨#[c]⟩ = ⟨(a.dropWhile (· == c)).toArray⟩ := by
  have hg : ∀ x : Nat, (⟨#[c]⟩ : Str).cps.contains x = (x == c) := fun x => by
    show (#[c] : Array Nat).contains x = (x == c)
    rw [← Array.contains_toList]
    simp [List.contains, List.elem]
    cases h : x == c <;> simp_all
  have e : Txt.lstripChars ⟨a.toArray⟩ ⟨#[c]⟩ = strSub ⟨a.toArray⟩ (stripLo (⟨#[c]⟩ : Str).cps.contains true ⟨a.toArray⟩) (Str.length ⟨a.toArray⟩) := by
    have := stripBy_eq (⟨#[c]⟩ : Str).cps.contains true false ⟨a.toArray⟩
    unfold Txt.lstripChars
    rw [this]
    rfl
  rw [e]
  unfold stripLo
  rw [if_pos rfl, strSub_mk, vS_len]
  have ef : (⟨#[c]⟩ : Str).cps.contains = fun x => (x == c) := funext hg
  rw [ef]
  congr 2
  show ((a.drop (a.takeWhile fun x => x == c).length).take (a.length - (a.takeWhile fun x => x == c).length)) = _
  have hd : a.drop (a.takeWhile fun x => x == c).length = a.dropWhile (· == c) := by
    have h1 := List.takeWhile_append_dropWhile (p := fun x => x == c) (l := a)
    conv => lhs; rw [← h1]
    rw [h1]
    conv => lhs; arg 2; rw [← h1]
    exact List.drop_left
  rw [hd]
  refine List.take_of_length_le ?_
  rw [← hd, List.length_drop]
  exact Nat.le_refl _
theorem splitC_ne (c : Nat) (a : List Nat) : splitC c a ≠ [] := by
  cases a with
  | nil => simp [splitC]
  | cons y r => unfold splitC; split <;> (try split) <;> simp
theorem spl_C (c : Nat) : ∀ (a acc : List Nat), TL.spl [c] 0 acc a = match splitC c a with
    | [] => [acc]
    | p :: ps => (acc ++ p) :: ps
  | [], acc => by
    rw [TL.spl_nil]
    simp [splitC]
  | x :: r, acc => by
    by_cases h : x = c
    · subst h
      rw [TL.spl_hit (by simp [TL.pre])]
      have ih := spl_C x r []
      simp only [List.length_cons, List.length_nil, Nat.zero_add, Nat.sub_self]
      rw [ih]
      have hne := splitC_ne x r
      have e : splitC x (x :: r) = [] :: splitC x r := by
        rw [splitC]
        rw [if_pos rfl]
      rw [e]
      cases hs : splitC x r with
      | nil => exact absurd hs hne
      | cons p ps => simp
    · rw [TL.spl_miss (by simp [TL.pre]; exact fun e => h e)]
      rw [spl_C c r (acc ++ [x])]
      conv => rhs; unfold splitC
      rw [if_neg h]
      cases hs : splitC c r with
      | nil => rfl
      | cons p ps => simp
theorem split_C (a : List Nat) (c : Nat) (hc : c < 256) : Txt.split ⟨a.toArray⟩ ⟨#[c]⟩ = (splitC c a).map fun l => (⟨l.toArray⟩ : Str) := by
  have h := SX.split_S (a := a) (b := [c]) (by simp) (by simpa using hc)
  show Txt.split (SX.S a) (SX.S [c]) = _
  rw [h, spl_C c a []]
  cases hs : splitC c a with
  | nil => exact absurd hs (splitC_ne c a)
  | cons p ps => rfl
theorem par_C (c : Nat) : ∀ (a acc : List Nat), TL.par [c] acc a = (idxC c a).map fun k => (acc ++ a.take k, a.drop (k + 1))
  | [], acc => rfl
  | x :: r, acc => by
    by_cases h : x = c
    · subst h
      rw [TL.par_hit (by simp [TL.pre])]
      unfold idxC
      rw [if_pos rfl]
      simp
    · rw [TL.par_miss (by simp [TL.pre]; exact fun e => h e), par_C c r (acc ++ [x])]
      conv => rhs; unfold idxC
      rw [if_neg h]
      cases idxC c r with
      | none => rfl
      | some k => simp
theorem part_C (a : List Nat) (c : Nat) : Txt.partition ⟨a.toArray⟩ ⟨#[c]⟩ = (⟨(partC c a).1.toArray⟩, ⟨(partC c a).2.1.toArray⟩, ⟨(partC c a).2.2.toArray⟩) := by
  have hp := par_C c a []
  unfold partC
  cases hi : idxC c a with
  | none =>
    rw [hi] at hp
    exact SX.partition_none (a := a) (b := [c]) (by simp) hp
  | some k =>
    rw [hi] at hp
    exact SX.partition_some (a := a) (b := [c]) (by simp) (by simpa using hp)
theorem joinL_TL (a : List Nat) : ∀ ys, TL.joinL a ys = joinL a ys
  | [] => rfl
  | [x] => rfl
  | x :: y :: r => by
    unfold TL.joinL joinL
    rw [joinL_TL a (y :: r), List.append_assoc]
section
variable {X : Cx}
theorem mtR_lstrip : MtR X "str.lstrip" rLstrip := by
  intro pins s σ H x xs v us Q I r1 r2 h
  obtain ⟨a, c, rfl, rfl, hl, q⟩ := h
  exact mt_lstripChars pins s σ H _ _ v us Q I r1 r2 ⟨_, _, rfl, rfl, by rw [vS_len]; exact hl, by rw [lstrip_S]; exact q⟩
theorem mtR_find : MtR X "str.find" rFind := by
  intro pins s σ H x xs v us Q I r1 r2 h
  obtain ⟨a, c, i, rfl, rfl, h0, h1, q⟩ := h
  exact mt_find3 pins s σ H _ _ v us Q I r1 r2 ⟨_, _, _, rfl, rfl, by rw [find_S a c i h0 h1]; exact q⟩
theorem mtR_join : MtR X "str.join" (rJoin X.K) := by
  intro pins s σ H x xs v us Q I r1 r2 h
  obtain ⟨a, p, ys, rfl, rfl, hs, hl, q⟩ := h
  refine mt_join pins s σ H _ _ v us Q I r1 r2 ⟨_, p, ys.map fun l => (⟨l.toArray⟩ : Str), rfl, rfl, .inl (by rw [List.map_map]; exact hs), ?_, ?_⟩
  · rw [List.map_map, List.length_map, vS_len]
    have e : ((fun x : Str => x.length) ∘ fun l : List Nat => (⟨l.toArray⟩ : Str)) = List.length := by
      funext l
      exact vS_len l
    rw [e]
    exact hl
  · have e := SX.join_S a ys
    rw [joinL_TL] at e
    have e2 : Txt.join ⟨a.toArray⟩ (ys.map fun l => (⟨l.toArray⟩ : Str)) = ⟨(joinL a ys).toArray⟩ := e
    rw [e2]
    exact q
theorem mtR_split : MtR X "str.split" rSplit := by
  intro pins s σ H x xs v us Q I r1 r2 h
  obtain ⟨a, c, rfl, rfl, hc, hl, q⟩ := h
  refine mt_split pins s σ H _ _ v us Q I r1 r2 ⟨_, _, rfl, rfl, rfl, by rw [vS_len]; exact hl, ?_⟩
  intro p hp
  have e : Txt.split ⟨a.toArray⟩ ⟨([c] : List Nat).toArray⟩ = (splitC c a).map fun l => (⟨l.toArray⟩ : Str) := split_C a c hc
  rw [e, List.map_map]
  exact q p hp
theorem mtR_part : MtR X "str.partition" rPart := by
  intro pins s σ H x xs v us Q I r1 r2 h
  obtain ⟨a, c, rfl, rfl, hl, q⟩ := h
  refine mt_partition pins s σ H _ _ v us Q I r1 r2 ⟨_, _, rfl, rfl, rfl, by rw [vS_len]; exact hl, ?_⟩
  intro p hp
  have e : Txt.partition ⟨a.toArray⟩ ⟨([c] : List Nat).toArray⟩ = _ := part_C a c
  rw [e]
  exact q p hp
end
end Fw

set_option maxHeartbeats 4000000
namespace Fw
open PySem PySem.Spec PyProof.Rows L2

theorem b_len : bootBuiltins ("len" : Str) = some (.builtin "len") := by decide +kernel
theorem b_isi : bootBuiltins ("isinstance" : Str) = some (.builtin "isinstance") := by decide +kernel
theorem b_min : bootBuiltins ("min" : Str) = some (.builtin "min") := by decide +kernel
theorem b_int : bootBuiltins ("int" : Str) = some (.type "int") := by decide +kernel
theorem b_str : bootBuiltins ("str" : Str) = some (.type "str") := by decide +kernel
theorem b_list : bootBuiltins ("list" : Str) = some (.type "list") := by decide +kernel
theorem b_tuple : bootBuiltins ("tuple" : Str) = some (.type "tuple") := by decide +kernel
theorem b_bool : bootBuiltins ("bool" : Str) = some (.type "bool") := by decide +kernel
theorem in_len : ("len" : Str) ∈ bnames := by decide +kernel
theorem in_isi : ("isinstance" : Str) ∈ bnames := by decide +kernel
theorem in_min : ("min" : Str) ∈ bnames := by decide +kernel
theorem in_int : ("int" : Str) ∈ bnames := by decide +kernel
theorem in_str : ("str" : Str) ∈ bnames := by decide +kernel
theorem in_list : ("list" : Str) ∈ bnames := by decide +kernel
theorem in_tuple : ("tuple" : Str) ∈ bnames := by decide +kernel
theorem in_bool : ("bool" : Str) ∈ bnames := by decide +kernel
theorem in_range : ("range" : Str) ∈ bnames := by decide +kernel
theorem ty_boot {t : String} (h : tyNames.contains t = true) : (t : Str) ∈ bnames ∧ bootBuiltins (t : Str) = some (.type t) := by
  have h' : t ∈ tyNames := List.contains_iff_mem.mp h
  unfold tyNames at h'
  simp only [List.mem_cons, List.not_mem_nil, or_false] at h'
  rcases h' with rfl | rfl | rfl | rfl | rfl
  · exact ⟨in_str, b_str⟩
  · exact ⟨in_list, b_list⟩
  · exact ⟨in_tuple, b_tuple⟩
  · exact ⟨in_int, b_int⟩
  · exact ⟨in_bool, b_bool⟩

section
variable {T : Tbl} {cv : Nat → Value} {N : List Str} {sc : Scope} {n : Nat} {W : WX} {X : Cx}
/-- within a comprehension's block -/
theorem Stand.blk (C : Stand T cv N sc n W X) {s2 : Scope} (hk : s2.kind = .function) (s : Shared) (H : Hp) (Ca : Addr) (cl : List (Str × Addr)) (fp : List Addr) :
    Stand T cv N s2 n W0 (X.blk s H s2 (compEnvC s2 cl Ca X.env) fp) where
  fx := ⟨C.fx.fn, C.fx.gl, C.fx.bi, C.fx.ex⟩
  kf := hk
  hN := C.hN
  nd := C.nd
  sub := fun x k h => relabel_sub (env := X.env) h
  calm := C.calm
  room := C.room
  takes := takes0
  fn := fun x hx => by
    show (s2.names.lookup x == some .cell) = true
    rw [hx]
    rfl
  own := PassesOwn.never
theorem pe_meth1L (C : Stand T cv N sc n W X) {o e : Expr} {to te : TE} {name : Str} {apos cpos : Pos} {Ty id : String} {r : V → List V → Hp → VK → Prop} (pa : PlainAttrs Ty) (slot : Slot Ty name id) (hty : typeOf (.builtin id) = pure (.type "method_descriptor")) (hm : MtR X id r)
    (hn : notSuper o = true) (hl : (apos.endLine == cpos.line) = true) (hp : plainX e = true) (ho : PE X o to) (he : PE X e te) : PE X (.Call (.Attribute o name apos) [e] [] cpos) (tBM X.K Ty r to (tCons te tNil)) := by
  have h1 := star_plain (es := []) (env := X.env) hp
  refine pe_bm pa slot hty hm ho (pa_cons he pa_nil h1) (base_plain hn) ?_ hl h1 rfl
  rw [h1]
  rfl
theorem pe_meth2S (C : Stand T cv N sc n W X) {o e f : Expr} {to te tf : TE} {name : Str} {apos cpos : Pos} {Ty id : String} {r : V → List V → Hp → VK → Prop} (pa : PlainAttrs Ty) (slot : Slot Ty name id) (hty : typeOf (.builtin id) = pure (.type "method_descriptor")) (hm : MtR X id r)
    (hn : notSuper o = true) (hl : (apos.endLine == cpos.line) = true) (hp : plainX e = true) (hp2 : plainX f = true) (ho : PE X o to) (he : PE X e te) (hf : PE X f tf) : PE X (.Call (.Attribute o name apos) [e, f] [] cpos) (tBM X.K Ty r to (tCons te (tCons tf tNil))) := by
  have h2 := star_plain (es := []) (env := X.env) hp2
  have h1 := star_plain (es := [f]) (env := X.env) hp
  refine pe_bm pa slot hty hm ho (pa_cons he (pa_cons hf pa_nil h2) h1) (base_plain hn) ?_ hl h1 ?_
  · rw [h1, h2]
    rfl
  · rw [h2]
    rfl
theorem and3 {a b c : Bool} (h : (a && b && c) = true) : a = true ∧ b = true ∧ c = true := by
  simp only [Bool.and_eq_true] at h
  exact ⟨h.1.1, h.1.2, h.2⟩
theorem and2 {a b : Bool} (h : (a && b) = true) : a = true ∧ b = true := by
  simp only [Bool.and_eq_true] at h
  exact h
/-- all readings of an expression -/
structure Good (X : Cx) (e : Expr) (t : TE) : Prop where
  pe : PE X e t
  pt : PT X e (tB t)
  pw : (∃ op es pos, e = .BoolOp op es pos) → PW X e (tB t)
theorem gd {X : Cx} {e : Expr} {t : TE} (h : PE X e t) (he : ∀ whole, isTrue e X.env whole = (do let v ← whole; standAt e.pos; holding [v] (truthy v)) := by intro _; rfl)
    (hn : ∀ op es pos, e ≠ .BoolOp op es pos := by (intros; intro z; cases z)) : Good X e t :=
  ⟨h, pt_val h he, fun ⟨op, es, pos, z⟩ => absurd z (hn op es pos)⟩
theorem gdW {X : Cx} {e : Expr} {t : TE} (h : PE X e t) (hw : PW X e (tB t)) : Good X e t := ⟨h, hw.pt, fun _ => hw⟩
theorem gdT {X : Cx} {e : Expr} {t : TE} (h : PE X e t) (ht : PT X e (tB t)) (hn : ∀ op es pos, e ≠ .BoolOp op es pos := by (intros; intro z; cases z)) : Good X e t := ⟨h, ht, fun ⟨op, es, pos, z⟩ => absurd z (hn op es pos)⟩
theorem pt_ifExp {X : Cx} {c a b : Expr} {pos : Pos} {tc : TT} {ta tb : TE} (hc : PT X c tc) (ha : PT X a (tB ta)) (hb : PT X b (tB tb)) : PT X (.IfExp c a b pos) (tB (tIf tc ta tb)) := by
  refine ⟨fun pins s σ H Q I h => ?_⟩
  refine isTrue_IfExp (thn (hc.run pins s σ H _ I h) fun d s1 ⟨H1, I1, q1⟩ => ?_)
  cases d with
  | true => exact ha.run pins s1 σ H1 Q I1 q1
  | false => exact hb.run pins s1 σ H1 Q I1 q1
theorem tTest_tB (t : TE) : tTest t = tB t := rfl

theorem corI_fold {it : Itr} {e : Expr} {env : Env} (h : corI T N it sc e = true) (v : Value) : foldedSetIterable e env v = pure v := by
  refine folded_plain ?_ v
  cases it with
  | ls a => unfold corI at h; exact corE_plain h
  | st a => unfold corI at h; exact corE_plain h
  | rg a =>
    unfold corI at h
    split at h
    · rfl
    · cases h
mutual
theorem corE_ok : ∀ (p : Ex) (W : WX) (X : Cx) (sc : Scope) (e : Expr), Stand T cv N sc n W X → corE T N p sc e = true → Good X e (tE X.K T (wpF X.K T cv n) W p)
  | .var i, W, X, sc, e, C, h => by
    unfold corE at h
    split at h
    · obtain ⟨h1, h2, h3⟩ := and3 h
      obtain ⟨k1, k2, k3⟩ := okn1 h3
      unfold tE
      exact gd (pe_var (by rw [C.hN]; exact of_decide_eq_true h1) (vis_ok C h2) k1 k2)
    · cases h
  | .con v, W, X, sc, e, C, h => by
    unfold corE at h
    unfold tE
    refine gd (pe_constX h) (fun w => ?_) (fun op es pos z => ?_)
    · unfold isConst at h
      split at h <;> first
        | rfl
        | cases h
    · subst z
      cases v <;> cases h
  | .glb i, W, X, sc, e, C, h => by
    unfold corE at h
    split at h
    · obtain ⟨h1, h2, h3⟩ := and3 h
      obtain ⟨k1, k2, k3⟩ := okn1 h3
      split at h1
      · rename_i p hp
        have e1 := of_decide_eq_true h1
        obtain ⟨u, hu, ru⟩ := C.fx.gl i p hp
        unfold tE
        have e2 : (T.gls.map (·.2)).getD i .non = p.2 := by
          rw [List.getD_eq_getElem?_getD, List.getElem?_map, hp]
          rfl
        rw [e2]
        exact gd (pe_glob (gl_ok C h2) (by rw [← e1]; exact hu) ru k1)
      · cases h1
    · cases h
  | .bin o a b, W, X, sc, e, C, h => by
    unfold corE at h
    split at h
    · obtain ⟨h1, h2, h3⟩ := and3 h
      have e1 := of_decide_eq_true h1
      subst e1
      unfold tE
      exact gd (pe_op (opR_bin o) (corE_ok a W X sc _ C h2).pe (corE_ok b W X sc _ C h3).pe)
    · cases h
  | .neg a, W, X, sc, e, C, h => by
    unfold corE at h
    split at h
    · unfold tE
      exact gd (pe_un un_neg (corE_ok a W X sc _ C h).pe)
    · cases h
  | .not a, W, X, sc, e, C, h => by
    unfold corE at h
    split at h
    · unfold tE
      have g := corE_ok a W X sc _ C h
      exact gdT (pe_not g.pe) (by rw [tB_not]; exact pt_not g.pt)
    · cases h
  | .cmp o a b, W, X, sc, e, C, h => by
    unfold corE at h
    split at h
    · obtain ⟨h1, h2, h3⟩ := and3 h
      have e1 := of_decide_eq_true h1
      subst e1
      unfold tE
      exact gdT (pe_cmpR (opR_cmp C.room o) (corE_ok a W X sc _ C h2).pe (corE_ok b W X sc _ C h3).pe (behind_plain (corE_plain h3))) (pt_cmpR (opR_cmp C.room o) (corE_ok a W X sc _ C h2).pe (corE_ok b W X sc _ C h3).pe (behind_plain (corE_plain h3)))
    · cases h
  | .chn o o' a b c, W, X, sc, e, C, h => by
    unfold corE at h
    split at h
    · simp only [Bool.and_eq_true, decide_eq_true_eq] at h
      obtain ⟨⟨⟨⟨e1, e2⟩, h3⟩, h4⟩, h5⟩ := h
      subst e1 e2
      unfold tE
      exact gdT (pe_chain (opR_cmp C.room o) (opR_cmp C.room o') (corE_ok a W X sc _ C h3).pe (corE_ok b W X sc _ C h4).pe (corE_ok c W X sc _ C h5).pe (behind_plain (corE_plain h5))) (pt_chain (opR_cmp C.room o) (opR_cmp C.room o') (corE_ok a W X sc _ C h3).pe (corE_ok b W X sc _ C h4).pe (corE_ok c W X sc _ C h5).pe (behind_plain (corE_plain h5)))
    · cases h
  | .and a b, W, X, sc, e, C, h => by
    unfold corE at h
    split at h
    · obtain ⟨h1, h2⟩ := and2 h
      unfold tE
      have g1 := corE_ok a W X sc _ C h1
      have g2 := corE_ok b W X sc _ C h2
      exact gdW (pe_and g1.pe (pe_one g2.pe)) (by rw [tB_and]; exact pw_and g1.pt (pw_and1 g2.pt))
    · obtain ⟨h1, h2, h3⟩ := and3 h
      unfold tE
      have g1 := corE_ok a W X sc _ C h1
      have g2 := corE_ok b W X sc _ C h3
      exact gdW (pe_and g1.pe g2.pe) (by rw [tB_and]; exact pw_and g1.pt (g2.pw ⟨_, _, _, rfl⟩))
    · cases h
  | .or a b, W, X, sc, e, C, h => by
    unfold corE at h
    split at h
    · obtain ⟨h1, h2⟩ := and2 h
      unfold tE
      have g1 := corE_ok a W X sc _ C h1
      have g2 := corE_ok b W X sc _ C h2
      exact gdW (pe_or g1.pe (pe_one g2.pe)) (by rw [tB_or]; exact pw_or g1.pt (pw_or1 g2.pt))
    · obtain ⟨h1, h2, h3⟩ := and3 h
      unfold tE
      have g1 := corE_ok a W X sc _ C h1
      have g2 := corE_ok b W X sc _ C h3
      exact gdW (pe_or g1.pe g2.pe) (by rw [tB_or]; exact pw_or g1.pt (g2.pw ⟨_, _, _, rfl⟩))
    · cases h
  | .ite c a b, W, X, sc, e, C, h => by
    unfold corE at h
    split at h
    · obtain ⟨h1, h2, h3⟩ := and3 h
      unfold tE
      exact gdT (pe_ifExp (corE_ok c W X sc _ C h1).pt (corE_ok a W X sc _ C h2).pe (corE_ok b W X sc _ C h3).pe) (pt_ifExp (corE_ok c W X sc _ C h1).pt (corE_ok a W X sc _ C h2).pt (corE_ok b W X sc _ C h3).pt)
    · cases h
  | .call f as, W, X, sc, e, C, h => by
    unfold corE at h
    split at h
    · rename_i x p es pos
      simp only [Bool.and_eq_true] at h
      obtain ⟨⟨⟨h1, h2⟩, h3⟩, h4⟩ := h
      obtain ⟨k1, k2, k3⟩ := okn1 h3
      split at h1
      · rename_i d hd
        rw [Bool.and_eq_true] at h1
        have e1 := of_decide_eq_true h1.1
        obtain ⟨fa, fd, F0, hm, hk, hb⟩ := C.fx.fn f d hd
        have F := F0.ok (by simpa using h1.2)
        rw [e1] at hm
        unfold tE
        cases es with
        | nil =>
          cases as with
          | nil =>
            unfold tA
            exact gd (pe_call0S F C.room (gl_ok C h2) hm hk hb (passAt C.takes) k1)
          | cons a as => exact absurd h4 (by unfold corA; exact Bool.false_ne_true)
        | cons e1 es =>
          cases as with
          | nil => exact absurd h4 (by unfold corA; exact Bool.false_ne_true)
          | cons a as =>
            have h5 : (corE T N a sc e1 && corA T N as sc es) = true := by
              unfold corA at h4
              exact h4
            obtain ⟨h6, h7⟩ := and2 h5
            exact gd (pe_callS F C.room (gl_ok C h2) hm hk hb (passAt C.takes) (corA_ok (.cons a as) W X sc _ C h4) k1 (star_plain (corE_plain h6)) (star_any h7))
      · cases h1
    · cases h
  | .len a, W, X, sc, e, C, h => by
    unfold corE at h
    split at h
    · obtain ⟨h1, h2⟩ := and2 h
      obtain ⟨p, rfl, g, m, n1, n2⟩ := isB_ok C h1 in_len
      have hp := star_plain (es := []) (env := X.env) (corE_plain h2)
      unfold tE
      exact gd (pe_callB call_len g m b_len (pa_cons (corE_ok a W X sc _ C h2).pe pa_nil hp) n1 n2 hp rfl)
    · cases h
  | .isi a t, W, X, sc, e, C, h => by
    unfold corE at h
    split at h
    · simp only [Bool.and_eq_true] at h
      obtain ⟨⟨⟨h1, h2⟩, h3⟩, h4⟩ := h
      obtain ⟨p, rfl, g, m, n1, n2⟩ := isB_ok C h1 in_isi
      obtain ⟨ht1, ht2⟩ := ty_boot h3
      obtain ⟨p2, rfl, g2, m2, n3, n4⟩ := isB_ok C h2 ht1
      have hp := star_plain (es := [.Name (t : Str) p2]) (env := X.env) (corE_plain h4)
      unfold tE
      exact gd (pe_callB call_isi g m b_isi (pa_cons (corE_ok a W X sc _ C h4).pe (pa_cons (pe_bltn g2 m2 ht2 rfl n3 n4) pa_nil) hp) n1 n2 hp rfl)
    · cases h
  | .int a, W, X, sc, e, C, h => by
    unfold corE at h
    split at h
    · obtain ⟨h1, h2⟩ := and2 h
      obtain ⟨p, rfl, g, m, n1, n2⟩ := isB_ok C h1 in_int
      have hp := star_plain (es := []) (env := X.env) (corE_plain h2)
      unfold tE
      exact gd (pe_callTy call_int1 g m b_int (pa_cons (corE_ok a W X sc _ C h2).pe pa_nil hp) n1 n2 hp rfl)
    · cases h
  | .list a, W, X, sc, e, C, h => by
    unfold corE at h
    split at h
    · obtain ⟨h1, h2⟩ := and2 h
      obtain ⟨p, rfl, g, m, n1, n2⟩ := isB_ok C h1 in_list
      have hp := star_plain (es := []) (env := X.env) (corE_plain h2)
      unfold tE
      exact gd (pe_callTy call_list_of g m b_list (pa_cons (corE_ok a W X sc _ C h2).pe pa_nil hp) n1 n2 hp rfl)
    · cases h
  | .tupl a, W, X, sc, e, C, h => by
    unfold corE at h
    split at h
    · obtain ⟨h1, h2⟩ := and2 h
      obtain ⟨p, rfl, g, m, n1, n2⟩ := isB_ok C h1 in_tuple
      have hp := star_plain (es := []) (env := X.env) (corE_plain h2)
      unfold tE
      exact gd (pe_callTy call_tuple_of g m b_tuple (pa_cons (corE_ok a W X sc _ C h2).pe pa_nil hp) n1 n2 hp rfl)
    · cases h
  | .min a b, W, X, sc, e, C, h => by
    unfold corE at h
    split at h
    · rename_i g x y pos
      obtain ⟨h1, h2, h3⟩ := and3 h
      obtain ⟨p, rfl, g, m, n1, n2⟩ := isB_ok C h1 in_min
      have hp2 := star_plain (es := []) (env := X.env) (corE_plain h3)
      have hp := star_plain (es := [y]) (env := X.env) (corE_plain h2)
      unfold tE
      exact gd (pe_callB (call_min2 C.calm) g m b_min (pa_cons (corE_ok a W X sc _ C h2).pe (pa_cons (corE_ok b W X sc _ C h3).pe pa_nil hp2) hp) n1 n2 hp (by rw [hp2]; rfl))
    · cases h
  | .app o a, W, X, sc, e, C, h => by
    unfold corE at h
    split at h
    · simp only [Bool.and_eq_true, decide_eq_true_eq] at h
      obtain ⟨⟨⟨⟨e1, h2⟩, h3⟩, h4⟩, h5⟩ := h
      subst e1
      unfold tE
      exact gd (pe_meth1L C PySem.F.plainAttrs_list PySem.F.slot_list_append PySem.F.type_list_append mt_append h3 h2 (corE_plain h5) (corE_ok o W X sc _ C h4).pe (corE_ok a W X sc _ C h5).pe)
    · cases h
  | .pop o, W, X, sc, e, C, h => by
    unfold corE at h
    split at h
    · simp only [Bool.and_eq_true, decide_eq_true_eq] at h
      obtain ⟨⟨⟨e1, h2⟩, h3⟩, h4⟩ := h
      subst e1
      unfold tE
      exact gd (pe_bm0 PySem.F.plainAttrs_list PySem.F.slot_list_pop PySem.F.type_list_pop mt_pop (corE_ok o W X sc _ C h4).pe (base_plain h3) h2)
    · cases h
  | .ext o a, W, X, sc, e, C, h => by
    unfold corE at h
    split at h
    · simp only [Bool.and_eq_true, decide_eq_true_eq] at h
      obtain ⟨⟨⟨⟨e1, h2⟩, h3⟩, h4⟩, h5⟩ := h
      subst e1
      unfold tE
      exact gd (pe_meth1L C PySem.F.plainAttrs_list PySem.F.slot_list_extend PySem.F.type_list_extend mt_extend h3 h2 (corE_plain h5) (corE_ok o W X sc _ C h4).pe (corE_ok a W X sc _ C h5).pe)
    · cases h
  | .lstrip o a, W, X, sc, e, C, h => by
    unfold corE at h
    split at h
    · simp only [Bool.and_eq_true, decide_eq_true_eq] at h
      obtain ⟨⟨⟨⟨e1, h2⟩, h3⟩, h4⟩, h5⟩ := h
      subst e1
      unfold tE
      exact gd (pe_m1 PySem.F.slot_str_lstrip PySem.F.type_str_lstrip mtR_lstrip (corE_ok o W X sc _ C h4).pe (corE_ok a W X sc _ C h5).pe (star_plain (corE_plain h5)) (base_plain h3) h2)
    · cases h
  | .join o a, W, X, sc, e, C, h => by
    unfold corE at h
    split at h
    · simp only [Bool.and_eq_true, decide_eq_true_eq] at h
      obtain ⟨⟨⟨⟨e1, h2⟩, h3⟩, h4⟩, h5⟩ := h
      subst e1
      unfold tE
      exact gd (pe_m1 PySem.F.slot_str_join PySem.F.type_str_join mtR_join (corE_ok o W X sc _ C h4).pe (corE_ok a W X sc _ C h5).pe (star_plain (corE_plain h5)) (base_plain h3) h2)
    · cases h
  | .find o a i, W, X, sc, e, C, h => by
    unfold corE at h
    split at h
    · simp only [Bool.and_eq_true, decide_eq_true_eq] at h
      obtain ⟨⟨⟨⟨⟨e1, h2⟩, h3⟩, h4⟩, h5⟩, h6⟩ := h
      subst e1
      unfold tE
      exact gd (pe_meth2S C PySem.F.plainAttrs_str PySem.F.slot_str_find PySem.F.type_str_find mtR_find h3 h2 (corE_plain h5) (corE_plain h6) (corE_ok o W X sc _ C h4).pe (corE_ok a W X sc _ C h5).pe (corE_ok i W X sc _ C h6).pe)
    · cases h
  | .split o a, W, X, sc, e, C, h => by
    unfold corE at h
    split at h
    · simp only [Bool.and_eq_true, decide_eq_true_eq] at h
      obtain ⟨⟨⟨⟨e1, h2⟩, h3⟩, h4⟩, h5⟩ := h
      subst e1
      unfold tE
      exact gd (pe_m1 PySem.F.slot_str_split PySem.F.type_str_split mtR_split (corE_ok o W X sc _ C h4).pe (corE_ok a W X sc _ C h5).pe (star_plain (corE_plain h5)) (base_plain h3) h2)
    · cases h
  | .part o a, W, X, sc, e, C, h => by
    unfold corE at h
    split at h
    · simp only [Bool.and_eq_true, decide_eq_true_eq] at h
      obtain ⟨⟨⟨⟨e1, h2⟩, h3⟩, h4⟩, h5⟩ := h
      subst e1
      unfold tE
      exact gd (pe_m1 PySem.F.slot_str_partition PySem.F.type_str_partition mtR_part (corE_ok o W X sc _ C h4).pe (corE_ok a W X sc _ C h5).pe (star_plain (corE_plain h5)) (base_plain h3) h2)
    · cases h
  | .idx a b, W, X, sc, e, C, h => by
    unfold corE at h
    split at h
    · obtain ⟨h1, h2⟩ := and2 h
      unfold tE
      exact gd (pe_ix ix_seq (corE_ok a W X sc _ C h1).pe (corE_ok b W X sc _ C h2).pe (ix_plain (corE_plain h2)))
    · cases h
  | .slf a lo, W, X, sc, e, C, h => by
    unfold corE at h
    split at h
    · obtain ⟨h1, h2⟩ := and2 h
      unfold tE
      exact gd (pe_slice sl_any (corE_ok a W X sc _ C h1).pe (po_some (corE_ok lo W X sc _ C h2).pe) po_none)
    · cases h
  | .slt a hi, W, X, sc, e, C, h => by
    unfold corE at h
    split at h
    · obtain ⟨h1, h2⟩ := and2 h
      unfold tE
      exact gd (pe_slice sl_any (corE_ok a W X sc _ C h1).pe po_none (po_some (corE_ok hi W X sc _ C h2).pe))
    · cases h
  | .sl a lo hi, W, X, sc, e, C, h => by
    unfold corE at h
    split at h
    · obtain ⟨h1, h2, h3⟩ := and3 h
      unfold tE
      exact gd (pe_slice sl_any (corE_ok a W X sc _ C h1).pe (po_some (corE_ok lo W X sc _ C h2).pe) (po_some (corE_ok hi W X sc _ C h3).pe))
    · cases h
  | .lst as, W, X, sc, e, C, h => by
    unfold corE at h
    split at h
    · unfold tE
      exact gd (pe_lst (corA_ok as W X sc _ C h))
    · cases h
  | .tup as, W, X, sc, e, C, h => by
    unfold corE at h
    split at h
    · unfold tE
      exact gd (pe_tup (corA_ok as W X sc _ C h))
    · cases h
  | .lc j it a, W, X, sc, e, C, h => by
    unfold corE at h
    split at h
    · rename_i elt x p iter s2 pos
      simp only [Bool.and_eq_true, decide_eq_true_eq] at h
      obtain ⟨⟨⟨⟨h1, h2⟩, h3⟩, h4⟩, h5⟩ := h
      unfold tE
      refine gd (pe_lc (own := [(x, j)]) (g := gName j) (tt := tYes) C.calm (by rw [C.hN]; exact C.nd) (corI_ok it W X sc _ (.Name x p) C h4) (blk_ok C h3) (fun s H Ca cl fp => ?_) (fun s H Ca cl fp => pts_nil) (fun s H Ca cl fp => ?_) (fun v => ?_))
      · have C2 := C.blk (s2 := s2) (blkOk_by h3).kind s H Ca cl fp
        obtain ⟨k1, k2⟩ := loc_ok C2 h2
        exact pg_name (by rw [C2.hN]; exact C2.nd) (by rw [C2.hN]; exact h1) k1 k2
      · exact (corE_ok a W0 _ s2 _ (C.blk (s2 := s2) (blkOk_by h3).kind s H Ca cl fp) h5).pe
      · exact corI_fold h4 v
    · cases h
  | .lcif j it c a, W, X, sc, e, C, h => by
    unfold corE at h
    split at h
    · rename_i elt x p iter t s2 pos
      simp only [Bool.and_eq_true, decide_eq_true_eq] at h
      obtain ⟨⟨⟨⟨⟨h1, h2⟩, h3⟩, h4⟩, h6⟩, h5⟩ := h
      unfold tE
      refine gd (pe_lc (own := [(x, j)]) (g := gName j) C.calm (by rw [C.hN]; exact C.nd) (corI_ok it W X sc _ (.Name x p) C h4) (blk_ok C h3) (fun s H Ca cl fp => ?_) (fun s H Ca cl fp => pts_one ?_) (fun s H Ca cl fp => ?_) (fun v => ?_))
      · have C2 := C.blk (s2 := s2) (blkOk_by h3).kind s H Ca cl fp
        obtain ⟨k1, k2⟩ := loc_ok C2 h2
        exact pg_name (by rw [C2.hN]; exact C2.nd) (by rw [C2.hN]; exact h1) k1 k2
      · exact (corE_ok c W0 _ s2 _ (C.blk (s2 := s2) (blkOk_by h3).kind s H Ca cl fp) h6).pt
      · exact (corE_ok a W0 _ s2 _ (C.blk (s2 := s2) (blkOk_by h3).kind s H Ca cl fp) h5).pe
      · exact corI_fold h4 v
    · cases h
theorem corA_ok : ∀ (as : Exs) (W : WX) (X : Cx) (sc : Scope) (es : List Expr), Stand T cv N sc n W X → corA T N as sc es = true → PA X es (tA X.K T (wpF X.K T cv n) W as)
  | .nil, W, X, sc, es, C, h => by
    cases es with
    | nil =>
      unfold tA
      exact pa_nil
    | cons e es => exact absurd h (by unfold corA; exact Bool.false_ne_true)
  | .cons a as, W, X, sc, es, C, h => by
    cases es with
    | nil => exact absurd h (by unfold corA; exact Bool.false_ne_true)
    | cons e es =>
      have h5 : (corE T N a sc e && corA T N as sc es) = true := by
        unfold corA at h
        exact h
      obtain ⟨h6, h7⟩ := and2 h5
      unfold tA
      exact pa_cons (corE_ok a W X sc _ C h6).pe (corA_ok as W X sc _ C h7) (star_plain (corE_plain h6))
theorem corI_ok : ∀ (it : Itr) (W : WX) (X : Cx) (sc : Scope) (e : Expr) (tg : Expr), Stand T cv N sc n W X → corI T N it sc e = true → PI X tg e (tI X.K T (wpF X.K T cv n) W it)
  | .ls a, W, X, sc, e, tg, C, h => by
    unfold corI at h
    unfold tI
    exact pi_list (corE_ok a W X sc _ C h).pe
  | .st a, W, X, sc, e, tg, C, h => by
    unfold corI at h
    unfold tI
    exact pi_str (corE_ok a W X sc _ C h).pe
  | .rg a, W, X, sc, e, tg, C, h => by
    unfold corI at h
    split at h
    · obtain ⟨h1, h2⟩ := and2 h
      obtain ⟨p, rfl, g, m, n1, n2⟩ := isB_ok C h1 in_range
      have hp := star_plain (es := []) (env := X.env) (corE_plain h2)
      unfold tI
      exact pi_range1 g m (pa_cons (corE_ok a W X sc _ C h2).pe pa_nil hp) hp
    · cases h
end
end
end Fw

set_option maxHeartbeats 4000000
namespace Fw
open PySem PySem.Spec PyProof.Rows L2
/-! ### a walk that keeps one local's own value in sight -/
structure IR (X : Cx) (pins : List (Addr × Obj)) (σ : L2.St) (H : Hp) (x : Str) (u : Value) (n : Nat) (s : Shared) : Prop where
  inv : Inv X pins σ H s
  raw : ∃ m, s.heap.Ns X.env.locals m ∧ m x = some u
  tok : n ≤ s.toks
section
variable {X : Cx} {pins : List (Addr × Obj)} {σ : L2.St} {H : Hp} {x : Str} {u : Value} {n : Nat} {s : Shared}
theorem IR.at (I : IR X pins σ H x u n s) {t : Nat} (h : n ≤ t) : IR X pins σ H x u n { s with toks := t } := ⟨I.inv.tok t, I.raw, h⟩
theorem IR.kept (I : IR X pins σ H x u n s) {h' : Heap} {t : Nat} (k : ∀ b o, s.heap.get? b = some o → h'.get? b = some o) (h : n ≤ t) : IR X pins σ H x u n { s with heap := h', toks := t } := by
  obtain ⟨m, hn, e⟩ := I.raw
  exact ⟨I.inv.kept k, ⟨m, hn.keeps k, e⟩, h⟩
theorem IR.after {s' : Shared} {Q : VK} {v : Value} (I : IR X pins σ H x u n s) (hT : n ≤ s'.toks) (h : CE X.stack X.prog X.w H s Q v s') : ∃ w H', IR X pins σ H' x u n s' ∧ RelV w v ∧ Q w H' := by
  obtain ⟨w, H', os, bare, un, hok, r, q⟩ := h
  obtain ⟨m, ⟨o, es, ep, ho, rest⟩, e⟩ := I.raw
  obtain ⟨sl, hL⟩ := un.any ho I.inv.free (by simp)
  obtain ⟨hh, g, d, t, os'⟩ := s'
  obtain rfl : os' = s.os := os
  refine ⟨w, H', ⟨I.inv.call (ch := []) un hok bare (fun b z => absurd z (by simp)), ⟨m, ⟨_, es, ep, hL, rest⟩, e⟩, hT⟩, r, q⟩
theorem IR.turned (I : IR X pins σ H x u n s) {h' : Heap} {t : Nat} {it : Addr} (k : ∀ b o, b ≠ it → s.heap.get? b = some o → h'.get? b = some o) (f : FpOk X pins H it) (ht : n ≤ t) : IR X pins σ H x u n { s with heap := h', toks := t } := by
  obtain ⟨f0, f1, f2, f3, f4, f5⟩ := f
  obtain ⟨m, ⟨o, es, ep, ho, rest⟩, e⟩ := I.raw
  exact ⟨I.inv.turned k f0 f1 f3 f4 f5, ⟨m, ⟨o, es, ep, k _ _ (fun z => f1 z.symm) ho, rest⟩, e⟩, ht⟩
/-- another local is stored -/
theorem IR.store {M : Model} {A : Around} {E : Value → Shared → Prop} {i : Nat} {y : Str} {v : V} {w : Value} {Q : Unit → Shared → Prop} (I : IR X pins σ H x u n s) (hN : X.N.Nodup) (hi : X.N[i]? = some y) (hy : X.env.scope.names.lookup y = some .local) (hxy : x ≠ y) (r : RelV v w)
    (h : ∀ s', IR X pins (σ.set i (some v)) H x u n s' → Q () s') : wpAny M A (storeName X.env y w) Q E s := by
  obtain ⟨m, hn, hl⟩ := I.inv.loc
  obtain ⟨m1, hn1, e1⟩ := I.raw
  have hcls : (X.env.scope.kind == .class || (X.env.scope.kind == .module && X.env.locals != X.env.globals)) = false := by
    rw [I.inv.ok.kind]
    rfl
  have hiσ : i < σ.length := by
    rw [I.inv.len]
    exact (List.getElem?_eq_some_iff.mp hi).1
  refine wpAny_storeName_local hy hn (fun h' hn' hs => h _ ?_) hcls
  have old : ∀ b, b < X.s_0.heap.objs.size → b ≠ X.env.locals := fun b hb e => by
    have := I.inv.ok.above
    rw [← e] at this
    omega
  obtain ⟨oL, _, _, hoL, _⟩ := id hn
  have hok : HOk X.prog X.w H h' := fun b ob e => by
    refine (I.inv.hok b ob e).stay (fun c w' hc q => (hs.2 c fun z => ?_).trans q) (fun _ q => q) fun _ _ q => q
    rw [z] at hc
    have hf := I.inv.free
    rcases hc with hc | hc
    · rw [← hc, hf] at e
      cases e
    · rw [hf] at hc
      cases hc
  have hinv : Inv X pins (σ.set i (some v)) H { s with heap := h', toks := s.toks + 1 } := {
    ok := I.inv.ok
    os := I.inv.os
    bare := I.inv.bare
    base := {
      keep := fun b o e n hb hx => (hs.2 b (old b (Heap.lt_size e))).trans (I.inv.base.keep b o e n hb hx)
      slot := fun b o e n hb hx => by
        obtain ⟨sl, q⟩ := I.inv.base.slot b o e n hb hx
        exact ⟨sl, (hs.2 b (old b (Heap.lt_size e))).trans q⟩
      free := I.inv.base.free
      there := fun b o e hx => by
        obtain ⟨o', q⟩ := I.inv.base.there b o e hx
        exact ⟨o', (hs.2 b (old b (Heap.lt_size e))).trans q⟩
      tups := I.inv.base.tups
      frzs := I.inv.base.frzs
      tbls := I.inv.base.tbls }
    loc := by
      refine ⟨_, hn', fun j z v' q1 q2 q3 => ?_⟩
      by_cases hj : j = i
      · subst hj
        rw [hi] at q1
        cases q1
        rw [List.getElem?_set_self hiσ] at q2
        cases q2
        exact ⟨w, r, .inl ⟨hy, by simp⟩⟩
      · rw [List.getElem?_set_ne (fun z => hj z.symm)] at q2
        obtain ⟨u', r', q⟩ := hl j z v' q1 q2 q3
        refine ⟨u', r', ?_⟩
        rcases q with ⟨k, e⟩ | ⟨k, c, e, g⟩
        · have : z ≠ y := fun e' => hj (nodup_ix hN q1 (e' ▸ hi))
          exact .inl ⟨k, by simp [this, e]⟩
        · exact .inr ⟨k, c, e, g.sameBut hs (I.inv.cne z c e)⟩
    cell := fun z c e => by
      obtain ⟨w', g⟩ := I.inv.cell z c e
      exact ⟨w', g.sameBut hs (I.inv.cne z c e)⟩
    free := I.inv.free
    freeC := I.inv.freeC
    pin := fun p hp => by
      obtain ⟨e, n, ne, nf, d⟩ := I.inv.pin p hp
      exact ⟨(hs.2 p.1 ne).trans e, n, ne, nf, d⟩
    hok := hok
    len := by simpa using I.inv.len }
  have hmm : m x = m1 x := hn.agree hn1 x
  refine ⟨hinv, ⟨_, hn', ?_⟩, Nat.le_trans I.tok (Nat.le_succ _)⟩
  show (if x = y then some w else m x) = some u
  rw [if_neg hxy, hmm, e1]
end
theorem wList_succ (S : List Nat) (num : Int) (n : Nat) : wList S num (n + 1) = wList S num n ++ [S.getD (wIx num (n : Int)).toNat 0] := by
  unfold wList
  rw [List.range_succ, List.map_append]
  rfl
theorem wList_len (S : List Nat) (num : Int) (n : Nat) : (wList S num n).length = n := by
  unfold wList
  simp
section
variable {X : Cx} {pins : List (Addr × Obj)} {σ : L2.St} {H : Hp} {u : Value} {s : Shared} {a0 a1 a2 a3 a4 g : Str}
structure WNames (X : Cx) (a0 a1 a2 a3 a4 : Str) : Prop where
  nd : X.N.Nodup
  n0 : X.N[0]? = some a0
  n1 : X.N[1]? = some a1
  n2 : X.N[2]? = some a2
  n3 : X.N[3]? = some a3
  n4 : X.N[4]? = some a4
  l0 : X.env.scope.names.lookup a0 = some .local
  l1 : X.env.scope.names.lookup a1 = some .local
  l2 : X.env.scope.names.lookup a2 = some .local
  l3 : X.env.scope.names.lookup a3 = some .local
  l4 : X.env.scope.names.lookup a4 = some .local
  o0 : okn a0 = true
  o1 : okn a1 = true
  o2 : okn a2 = true
  o3 : okn a3 = true
  o4 : okn a4 = true
  e3 : a2 ≠ a3
  e4 : a2 ≠ a4
theorem IR.pinned {x : Str} {n : Nat} {fp : List Addr} (I : IR X pins σ H x u n s) (hf : ∀ b ∈ fp, FpOk X pins H b) (ho : ∀ b ∈ fp, ∃ o, s.heap.get? b = some o ∧ ∀ v, o.data ≠ .cell v) : IR X (pins ++ pinsAt fp s.heap) σ H x u n s := ⟨I.inv.pinned hf ho, I.raw, I.tok⟩
theorem IR.unpinned {x : Str} {n : Nat} {pl : List (Addr × Obj)} (I : IR X (pins ++ pl) σ H x u n s) : IR X pins σ H x u n s := ⟨I.inv.unpinned, I.raw, I.tok⟩
/-- what a call of the signs gives -/
def SigOk (X : Cx) (x : Str) (u : Value) (g : Str) (S : List Nat) (H0 : Hp) : Prop := ∀ {pins : List (Addr × Obj)} {σ : L2.St} {H : Hp} {s1 : Shared} {p p3 : Pos}, Same H0 H → IR X pins σ H x u 0 s1 → wpAny (model X.prog X.w) X.A (eval (.Call (.Name g p) [] [] p3) X.env) (fun v s2 => ∃ H', Same H H' ∧ IR X pins σ H' x u 0 s2 ∧ ∃ t, v = .str ⟨S.toArray⟩ t) X.xe s1
theorem w_rhs (S : List Nat) (hS : S.length = 94) (N : WNames X a0 a1 a2 a3 a4) {H0 : Hp} (hs0 : Same H0 H) (hsig : SigOk X a2 u g S H0) (I : IR X pins σ H a2 u 0 s) {num k : Int} {w : List Nat} (h0 : σ[0]? = some (some (.int num))) (h3 : σ[3]? = some (some (vS w))) (h4 : σ[4]? = some (some (.int k))) (hk : 0 ≤ k) (hk2 : k < 1000) (hw : w.length ≤ 1000)
    {p1 p2 p3 p4 p5 p6 p7 p8 p9 p10 p11 p12 p13 p14 p15 p16 p17 p18 : Pos} {j1 j2 j3 j4 : Nat} :
    wpAny (model X.prog X.w) X.A (eval (.BinOp (.Name a3 p1) .Add (.Subscript (.Call (.Name g p2) [] [] p3) (.BinOp (.BinOp (.Name a0 p4) .Add (.BinOp (.Name a4 p5) .Mult (.BinOp (.Constant (.int 1) j1 p6) .Add (.BinOp (.BinOp (.Name a0 p7) .FloorDiv (.Constant (.int 94) j2 p8) p9) .Mod (.Constant (.int 5) j3 p10) p11) p12) p13) p14) .Mod (.Constant (.int 94) j4 p15) p16) p17) p18) X.env)
      (fun v s2 => ∃ H', Same H H' ∧ IR X pins σ H' a2 u 0 s2 ∧ ∃ t, v = .str ⟨(w ++ [S.getD (wIx num k).toNat 0]).toArray⟩ t) X.xe s := by
  obtain ⟨d0, c0, _⟩ := okn1 N.o0
  obtain ⟨d3, c3, _⟩ := okn1 N.o3
  obtain ⟨d4, c4, _⟩ := okn1 N.o4
  refine wpAny_BinOp (raw_name N.n3 (.inl N.l3) I.inv h3 (fun v r => ?_) d3 c3)
  obtain ⟨tw, rfl⟩ := r
  refine Subscript_ (thn (hsig hs0 I) fun v s2 q => ?_)
  obtain ⟨H', sm, I2, t2, rfl⟩ := q
  refine wpAny_BinOp (wpAny_BinOp (raw_name N.n0 (.inl N.l0) I2.inv h0 (fun v r => ?_) d0 c0))
  obtain ⟨tn, rfl⟩ := r
  refine wpAny_BinOp (raw_name N.n4 (.inl N.l4) I2.inv h4 (fun v r => ?_) d4 c4)
  obtain ⟨tk, rfl⟩ := r
  refine wpAny_BinOp (wpAny_Constant_int (wpAny_BinOp (wpAny_BinOp (raw_name N.n0 (.inl N.l0) (I2.inv.tok _) h0 (fun v r => ?_) d0 c0))))
  obtain ⟨tn2, rfl⟩ := r
  refine wpAny_Constant_int (floordiv_int (by decide) ?_ (.inl (PyProof.noPylong_small (by decide))))
  refine wpAny_Constant_int (mod_int' (by decide) (add_int (mul_int ?_ (CMul.ok (.inl ⟨by omega, by omega⟩)))))
  refine add_int (wpAny_Constant_int (mod_int' (by decide) ?_))
  have e1 : (num + k * (1 + (num.fdiv 94).fmod 5)).fmod 94 = wIx num k := by
    unfold wIx
    rw [Int.fmod_eq_emod_of_nonneg _ (by decide), Int.fmod_eq_emod_of_nonneg _ (by decide), Int.fdiv_eq_ediv_of_nonneg _ (by decide)]
  rw [e1]
  have hx0 : 0 ≤ wIx num k := by
    unfold wIx
    omega
  have hx1 : wIx num k < 94 := by
    unfold wIx
    omega
  have hlen : (⟨S.toArray⟩ : Str).length = 94 := by simpa [Str.length] using hS
  have hidx : seqIndex? (wIx num k) (⟨S.toArray⟩ : Str).length = some (wIx num k).toNat := PySem.StrLaws.seqIndex_nonneg hx0 (by rw [hlen]; omega)
  have hi : (wIx num k).toNat < S.length := by omega
  refine tail_any (typeIs_str _ _ _) slot_str_getitem.lookup (getItem_str (c := S.getD (wIx num k).toNat 0) ?_ ?_ ?_) rfl
  · have q1 : decide (wIx num k < -(2 ^ 63 : Int)) = false := decide_eq_false (by omega)
    have q2 : decide (wIx num k ≥ 2 ^ 63) = false := decide_eq_false (by omega)
    rw [q1, q2]
    rfl
  · rw [hidx]
    show (⟨S.toArray⟩ : Str).cps[(wIx num k).toNat]? = _
    simp [List.getD_eq_getElem?_getD, List.getElem?_eq_getElem hi]
  · refine add_str (fun t' tk' => ?_) ?_
    · refine ⟨H', sm, I2.at (Nat.zero_le _), t', ?_⟩
      rw [← vS_app]
    · rw [vS_len]
      show w.length + 1 ≤ sizeLine
      rw [sizeLine_eq]
      omega
/-- the walk of the loop -/
theorem w_loop (S : List Nat) (hS : S.length = 94) (N : WNames X a0 a1 a2 a3 a4) (hsig : SigOk X a2 u g S H) (hp : PassesOwn (model X.prog X.w) X.A X.env X.xe) (hc : X.calm = true) (hrg : Gl X ("range" : Str)) (hrm : X.mg ("range" : Str) = none)
    (I : IR X pins σ H a2 u 0 s) {num size : Int} (h0 : σ[0]? = some (some (.int num))) (h1 : σ[1]? = some (some (.int size))) (h3 : σ[3]? = some (some (vS []))) (hl : σ.length = 5) (hz0 : 0 ≤ size) (hz1 : size ≤ 1000)
    {p1 p2 p3 p4 p5 p6 p7 p8 p9 p10 p11 p12 p13 p14 p15 p16 p17 p18 q1 q2 q3 q4 q5 q6 q7 : Pos} {j1 j2 j3 j4 : Nat} :
    wpAny (model X.prog X.w) X.A (exec (.For (.Name a4 q1) (.Call (.Name ("range" : Str) q2) [.Name a1 q3] [] q4) [.Assign [.Name a3 q5] (.BinOp (.Name a3 p1) .Add (.Subscript (.Call (.Name g p2) [] [] p3) (.BinOp (.BinOp (.Name a0 p4) .Add (.BinOp (.Name a4 p5) .Mult (.BinOp (.Constant (.int 1) j1 p6) .Add (.BinOp (.BinOp (.Name a0 p7) .FloorDiv (.Constant (.int 94) j2 p8) p9) .Mod (.Constant (.int 5) j3 p10) p11) p12) p13) p14) .Mod (.Constant (.int 94) j4 p15) p16) p17) p18) q6] [] q7) X.env)
      (fun f s' => ∃ σ' H', f = .next ∧ Same H H' ∧ IR X pins σ' H' a2 u 0 s' ∧ σ'[3]? = some (some (vS (wList S num size.toNat)))) X.xe s := by
  obtain ⟨d1, c1, _⟩ := okn1 N.o1
  refine wpAny_For (Call_ (ld_blt I.inv hrg hrm boot_range (PyProof.Rows.callWith_type1 (Calls.spliced_cons (raw_name N.n1 (.inl N.l1) I.inv h1 (fun v r => Calls.spliced_nil ?_) d1 c1)) rfl rfl))) (fun _ => rfl)
  obtain ⟨tz, rfl⟩ := r
  refine call_range_1 (wpAny_pyIter_range (IsRange.new ..) (small_one (by omega) (by omega) (by omega) (by omega)) ?_)
  generalize hit : ((s.heap.push { cls := .type "range", data := .fields #[.int 0 s.toks, .int size tz, .int 1 (s.toks + 1)] }).objs.size) = it
  have I1 : IR X pins σ H a2 u 0 { s with heap := s.heap.push { cls := .type "range", data := .fields #[.int 0 s.toks, .int size tz, .int 1 (s.toks + 1)] }, toks := s.toks + 1 + 1 } := I.kept (fun b o e => Heap.get?_push_of_some _ e) (Nat.zero_le _)
  have hfp : ∀ b ∈ [it], FpOk X pins H b := fun b hb => by
    have e : b = it := by simpa using hb
    subst e
    rw [← hit]
    exact I1.inv.fpOk (Nat.le_refl _) (I1.inv.hok.fresh (Nat.le_refl _))
  have turn0 : ∀ {s' : Shared}, ∀ i, IsRangeIter s'.heap it (0 + (i : Nat) * 1) (((size.toNat : Nat) : Int) - (i : Nat)) 1 → ∀ b ∈ [it], ∃ o, s'.heap.get? b = some o ∧ ∀ v, o.data ≠ .cell v := fun {s'} i st b hb => by
    have e : b = it := by simpa using hb
    subst e
    exact ⟨_, st, fun v z => by
      have z' : Data.fields _ = Data.cell v := z
      cases z'⟩
  refine codeAny_forLoop_any (fun n s' => ∃ i σ' H', n = size.toNat - i ∧ i ≤ size.toNat ∧ Same H H' ∧ IR X pins σ' H' a2 u 0 s' ∧ H' it = none ∧ IsRangeIter s'.heap it (0 + (i : Nat) * 1) (((size.toNat : Nat) : Int) - (i : Nat)) 1 ∧ σ'.length = 5 ∧ σ'[0]? = some (some (.int num)) ∧ σ'[3]? = some (some (vS (wList S num i)))) ?_ (size.toNat - 0) ⟨0, σ, H, rfl, Nat.zero_le _, Same.refl H, ?_, (hfp it (by simp)).1, ?_, hl, h0, ?_⟩
  · rintro n s3 ⟨i, σ3, H3, rfl, hi, sm3, I3, fr3, st3, l3, g0, g3⟩
    have stat3 : ∀ b ∈ [it], FpOk X pins H3 b := fun b hb => by
      have e : b = it := by simpa using hb
      subst e
      exact ⟨fr3, (hfp b (by simp)).2⟩
    have f3 := stat3 it (by simp)
    by_cases hlt : i < size.toNat
    · have W := Walks.range (prog := X.prog) (w := X.w) (I.inv.ok.hd hc) it 0 1 size.toNat
      refine wpAny_passesOwn hp (W.item i s3 _ _ hlt st3 fun v h' tk hv st' kk => ?_)
      obtain ⟨t, rfl⟩ := hv
      have I4 : IR X pins σ3 H3 a2 u 0 { s3 with heap := h', toks := tk } := I3.turned (fun b o hb e => kk b o (by simpa using hb) e) f3 (Nat.zero_le _)
      refine wpAny_passesOwn hp (go_of (s := { s3 with heap := h', toks := tk }) (n := "range_iterator") st' rfl rfl (by decide) ?_)
      have I5 := I4.pinned stat3 (turn0 (s' := { s3 with heap := h', toks := tk }) (i + 1) st')
      refine wpAny_passesOwn hp (wpAny_assign_Name (I5.store N.nd N.n4 N.l4 N.e4 (v := .int (0 + (i : Int) * 1)) ⟨t, rfl⟩ fun s5 I6 => ?_))
      refine wpAny_passesOwn hp (wpAny_execs_cons (wpAny_Assign_Name (thn (w_rhs S hS N sm3 hsig I6 (k := (i : Int)) (w := wList S num i) (num := num) ?_ ?_ ?_ (by omega) (by omega) (by rw [wList_len]; omega)) fun v s6 q => ?_) rfl))
      · rw [List.getElem?_set_ne (by decide)]
        exact g0
      · rw [List.getElem?_set_ne (by decide)]
        exact g3
      · rw [List.getElem?_set_self (by omega)]
        simp
      · obtain ⟨H7, sm7, I7, t7, rfl⟩ := q
        refine I7.store N.nd N.n3 N.l3 N.e3 (v := vS (wList S num i ++ [S.getD (wIx num (i : Int)).toNat 0])) ⟨t7, rfl⟩ fun s8 I8 => wpAny_execs_nil ?_
        refine ⟨size.toNat - (i + 1), by omega, i + 1, _, H7, rfl, hlt, (fun b o e => sm7 b o (sm3 b o e)), I8.unpinned, ?_, ?_, ?_, ?_, ?_⟩
        · exact (I8.inv.pin (it, _) (List.mem_append_right _ (List.mem_append_right _ (mem_pinsAt (by simp) st')))).2.1
        · exact (I8.inv.pin (it, _) (List.mem_append_right _ (List.mem_append_right _ (mem_pinsAt (by simp) st')))).1
        · simp [l3]
        · rw [List.getElem?_set_ne (by decide), List.getElem?_set_ne (by decide)]
          exact g0
        · rw [List.getElem?_set_self (by simp [l3]), wList_succ]
    · have hie : i = size.toNat := by omega
      refine wpAny_passesOwn hp (wpAny_pyNext_range_end (I.inv.ok.hd hc) st3 (by omega) fun h' eb => ?_)
      refine wpAny_execs_nil ⟨σ3, H3, rfl, sm3, I3.turned (t := s3.toks) (fun b o hb e => eb b o hb e) f3 (Nat.zero_le _), ?_⟩
      rw [← hie]
      exact g3
  · exact I1.kept (t := s.toks + 1 + 1) (fun b o e => Heap.get?_push_of_some _ e) (Nat.zero_le _)
  · have e1 : (0 : Int) + ((0 : Nat) : Int) * 1 = 0 := by simp
    have e2 : ((size.toNat : Nat) : Int) - ((0 : Nat) : Int) = Builtin.Range.rangeSize 0 size 1 := by
      rw [rangeSize_one]
      split <;> omega
    show IsRangeIter _ _ ((0 : Int) + ((0 : Nat) : Int) * 1) (((size.toNat : Nat) : Int) - ((0 : Nat) : Int)) 1
    rw [e1, e2, ← hit]
    exact Heap.get?_push_size _ rfl
  · exact h3

theorem IR.zero {x : Str} {n : Nat} (I : IR X pins σ H x u n s) : IR X pins σ H x u 0 s := ⟨I.inv, I.raw, Nat.zero_le _⟩
theorem str_of (x : Str) : x = ⟨x.cps.toList.toArray⟩ := by
  cases x
  simp
/-- the walk of the body -/
theorem w_body (S : List Nat) (hS : S.length = 94) (N : WNames X a0 a1 a2 a3 a4) (hp : PassesOwn (model X.prog X.w) X.A X.env X.xe) (hc : X.calm = true) (hrg : Gl X ("range" : Str)) (hrm : X.mg ("range" : Str) = none)
    {y : Str} {ty : Tok} {num size : Int} {D : Ends} (hsig : SigOk X a2 (.str y ty) g S H) (I : IR X pins σ H a2 (.str y ty) (ty + 1) s) (h0 : σ[0]? = some (some (.int num))) (h1 : σ[1]? = some (some (.int size))) (hl : σ.length = 5) (hz0 : 0 ≤ size) (hz1 : size ≤ 1000)
    (ht0 : ty ≠ 0) (hy : 1 ≤ y.length) (hyx : (y == (⟨#[120]⟩ : Str)) = false)
    (hQ : ∀ H', Same H H' → D.rt (vS (StrLaws.replL y.cps.toList [120] (wList S num size.toNat))) H')
    {p1 p2 p3 p4 p5 p6 p7 p8 p9 p10 p11 p12 p13 p14 p15 p16 p17 p18 q1 q2 q3 q4 q5 q6 q7 r1 r2 r3 r4 r5 r6 r7 r8 r9 : Pos} {j1 j2 j3 j4 j5 j6 : Nat} (hline : (r6.endLine == r8.line) = true) :
    wpAny (model X.prog X.w) X.A (execs [.Assign [.Name a3 r1] (.Constant (.str ⟨#[]⟩) j5 r2) r3, .For (.Name a4 q1) (.Call (.Name ("range" : Str) q2) [.Name a1 q3] [] q4) [.Assign [.Name a3 q5] (.BinOp (.Name a3 p1) .Add (.Subscript (.Call (.Name g p2) [] [] p3) (.BinOp (.BinOp (.Name a0 p4) .Add (.BinOp (.Name a4 p5) .Mult (.BinOp (.Constant (.int 1) j1 p6) .Add (.BinOp (.BinOp (.Name a0 p7) .FloorDiv (.Constant (.int 94) j2 p8) p9) .Mod (.Constant (.int 5) j3 p10) p11) p12) p13) p14) .Mod (.Constant (.int 94) j4 p15) p16) p17) p18) q6] [] q7,
      .Return (some (.Call (.Attribute (.Name a3 r5) ("replace" : Str) r6) [.Name a2 r7, .Constant (.str ⟨#[120]⟩) j6 r4] [] r8)) r9] X.env) (SP X pins D) X.xe s := by
  obtain ⟨d3, c3, _⟩ := okn1 N.o3
  obtain ⟨d2, c2, _⟩ := okn1 N.o2
  refine wpAny_execs_cons (wpAny_Assign_Name (Calls.Constant_str ?_) rfl)
  refine IR.store (I.at (Nat.le_succ_of_le I.tok)) N.nd N.n3 N.l3 N.e3 (v := vS []) ⟨s.toks, rfl⟩ fun s1 I1 => ?_
  refine wpAny_execs_cons (wpAny_mono (wpAny_toks_of I1.tok (w_loop S hS N hsig hp hc hrg hrm I1.zero (num := num) (size := size) ?_ ?_ ?_ ?_ hz0 hz1)) (fun f s2 q => ?_) fun _ _ z => z.2)
  · rw [List.getElem?_set_ne (by decide)]
    exact h0
  · rw [List.getElem?_set_ne (by decide)]
    exact h1
  · rw [List.getElem?_set_self (by omega)]
  · simp [hl]
  obtain ⟨hk, σ2, H2, rfl, sm, I2, g3⟩ := q
  refine wpAny_execs_cons (wpAny_Return_some (PySem.Call_method2 rfl rfl hline (raw_name N.n3 (.inl N.l3) I2.inv g3 (fun v r => ?_) d3 c3)))
  obtain ⟨tx, rfl⟩ := r
  refine ⟨"str", _, PySem.F.plainAttrs_str, PySem.F.slot_str_replace, PySem.F.type_str_replace, typeIs_str _ _ _, (fun _ e => nomatch e), Calls.callWith_builtin rfl (Calls.evalArgs_plain (Calls.spliced_cons ?_))⟩
  obtain ⟨m, hn, hm⟩ := I2.raw
  refine wpAny_Name (wpAny_loadName_local I2.inv.ok.kind N.l2 hn hm ?_) d2
  refine Calls.spliced_cons (Calls.Constant_str (Calls.spliced_nil ?_))
  refine PySem.SC.replace ht0 (by show s2.toks ≠ 0; omega) (Nat.ne_of_lt hk) hyx ?_ fun t' k => ⟨vS (StrLaws.replL y.cps.toList [120] (wList S num size.toNat)), σ2, H2, I2.inv.tok k, ⟨t', ?_⟩, hQ H2 sm⟩
  · rw [vS_len, wList_len]
    show size.toNat + (size.toNat + 1) * 1 ≤ _
    omega
  · rw [str_of (Txt.replace _ y _), StrLaws.replace_list hy]
end
end Fw

set_option maxHeartbeats 4000000
namespace Fw
open PySem PySem.Spec PyProof.Rows L2

/-- may the value be stored under the name so? a comprehension's list goes by its own way -/
def swOk (sc : Scope) (x : Str) (p : Pos) (v : Expr) : Bool := match v with
  | .ListComp _ _ s2 vp => (match sc.names.lookup x with
    | some .local => (p.line == vp.line) && !(s2.names.any fun (n, k) => n == x && (k == .local || k == .cell))
    | some .cell => true
    | _ => false)
  | _ => true
mutual
def corS (T : Tbl) (N : List Str) : Sm → Scope → Stmt → Bool
  | .asg i e, sc, st => match st with
    | .Assign [.Name x p] v _ => decide (N[i]? = some x) && loc sc x && swOk sc x p v && corE T N e sc v
    | _ => false
  | .set o i e, sc, st => match st with
    | .Assign [.Subscript r y _] v _ => corE T N o sc r && corE T N i sc y && corE T N e sc v
    | _ => false
  | .ex e, sc, st => match st with
    | .Expr v _ => noComp v && corE T N e sc v
    | _ => false
  | .ret e, sc, st => match st with
    | .Return (some v) _ => corE T N e sc v
    | _ => false
  | .ite c a b, sc, st => match st with
    | .If t x y _ => corE T N c sc t && corSs T N a sc x && corSs T N b sc y
    | _ => false
  | .whl c b, sc, st => match st with
    | .While t x [] _ => corE T N c sc t && corSs T N b sc x
    | _ => false
  | .for_ j it b, sc, st => match st with
    | .For (.Name x _) iter body [] _ => decide (N[j]? = some x) && loc sc x && corI T N it sc iter && corSs T N b sc body
    | _ => false
  | .cont, _, st => match st with
    | .Continue _ => true
    | _ => false
  | .raise c, sc, st => match st with
    | .Raise (some (.Call (.Name x _) [.Constant (.str _) _ _] [] _)) none _ => decide (T.cls[c]? = some x) && isG sc x && okn x
    | _ => false
  | .rrep _ _ _, _, _ => false
  | .wrd _, _, _ => false
def corSs (T : Tbl) (N : List Str) : Sms → Scope → List Stmt → Bool
  | .nil, _, ss => match ss with
    | [] => true
    | _ => false
  | .cons s r, sc, ss => match ss with
    | x :: y => corS T N s sc x && corSs T N r sc y
    | [] => false
end
section
variable {T : Tbl} {cv : Nat → Value} {N : List Str} {sc : Scope} {n : Nat} {W : WX} {X : Cx}
theorem lookup_sub (C : Stand T cv N sc n W X) {x : Str} (h : sc.names.lookup x = some .local) : X.env.scope.names.lookup x = some .local := by
  obtain ⟨k, h1, h2⟩ := C.sub x _ h
  rcases h2 with rfl | ⟨z, _⟩
  · exact h1
  · cases z
theorem lookup_subC (C : Stand T cv N sc n W X) {x : Str} (h : sc.names.lookup x = some .cell) : X.env.scope.names.lookup x = some .cell := by
  obtain ⟨k, h1, h2⟩ := C.sub x _ h
  rcases h2 with rfl | ⟨z, _⟩
  · exact h1
  · cases z
theorem sw_cell {e : Expr} {x : Str} {p : Pos} {l : Nat} {env : Env} (h : env.scope.names.lookup x = some .cell) (hp : plainX e = true) : swapsWith e (some (.Name x p)) l env = pure false := by
  cases e <;> first
    | rfl
    | exact absurd hp Bool.false_ne_true
    | (show (pure (env.blockKind == .function && env.kindOf x == some .local && _ && _) : Sem Bool) = pure false
       have hk : env.kindOf x = some .cell := h
       rw [hk]
       have e1 : ((some NameKind.cell : Option NameKind) == some NameKind.local) = false := rfl
       rw [e1, Bool.and_false, Bool.false_and, Bool.false_and])
theorem sole_sub {e o i : Expr} {p : Pos} {l : Nat} {env : Env} : swapsWithSole [.Subscript o i p] e l env = pure false := by
  cases e <;> rfl
theorem ps_asgX (C : Stand T cv N sc n W X) {i : Nat} {e : Ex} {x : Str} {p pos : Pos} {v : Expr} (h1 : N[i]? = some x) (h2 : loc sc x = true) (h3 : swOk sc x p v = true) (h4 : corE T N e sc v = true) :
    PS X (.Assign [.Name x p] v pos) (tAsg (tE X.K T (wpF X.K T cv n) W e) (gName i)) := by
  obtain ⟨k1, k2⟩ := loc_ok C h2
  have hN : X.N[i]? = some x := by rw [C.hN]; exact h1
  have nd : X.N.Nodup := by rw [C.hN]; exact C.nd
  have pe := (corE_ok e W X sc v C h4).pe
  have pl := corE_plain h4
  have plain : swapsWithSole [.Name x p] v pos.line X.env = pure false → PS X (.Assign [.Name x p] v pos) (tAsg (tE X.K T (wpF X.K T cv n) W e) (gName i)) := fun hs =>
    ps_asg pe (pg_name nd hN k1 k2) hs stores_name rfl
  cases hc : noComp v with
  | true => exact plain (swaps_plain (e := v) (t := some (.Name x p)) (l := pos.line) pl hc)
  | false =>
    cases v <;> first
      | exact absurd hc.symm Bool.false_ne_true
      | skip
    rename_i elt gs s2 vp
    have h3' : (match sc.names.lookup x with
      | some .local => (p.line == vp.line) && !(s2.names.any fun (n, k) => n == x && (k == .local || k == .cell))
      | some .cell => true
      | _ => false) = true := h3
    clear h3
    have h3 := h3'
    split at h3
    · rename_i e1
      simp only [Bool.and_eq_true, Bool.not_eq_true'] at h3
      have ly := lookup_sub C e1
      cases e <;> first
        | exact absurd h4 Bool.false_ne_true
        | skip
      · rename_i w
        cases w <;> exact absurd h4 Bool.false_ne_true
      · rename_i j it a
        unfold corE at h4
        split at h4
        · rename_i y p2 iter s3 pos3 heq
          injection heq with z1 z2 z3 z4
          subst z1 z2 z3 z4
          simp only [Bool.and_eq_true, decide_eq_true_eq] at h4
          obtain ⟨⟨⟨⟨g1, g2⟩, g3⟩, g4⟩, g5⟩ := h4
          unfold tE
          refine ps_setLc (own := [(y, j)]) (g := gName j) (tt := tYes) C.calm nd hN ly (sw_true C.kf ly h3.1 h3.2) (corI_ok it W X sc _ (.Name y p2) C g4) (blk_ok C g3) (fun s H Ca cl fp => ?_) (fun s H Ca cl fp => pts_nil) (fun s H Ca cl fp => ?_) (fun v => ?_)
          · have C2 := C.blk (s2 := s2) (blkOk_by g3).kind s H Ca cl fp
            obtain ⟨q1, q2⟩ := loc_ok C2 g2
            exact pg_name (by rw [C2.hN]; exact C2.nd) (by rw [C2.hN]; exact g1) q1 q2
          · exact (corE_ok a W0 _ s2 _ (C.blk (s2 := s2) (blkOk_by g3).kind s H Ca cl fp) g5).pe
          · exact corI_fold g4 v
        · cases h4
      · rename_i j it c a
        unfold corE at h4
        split at h4
        · rename_i y p2 iter t s3 pos3 heq
          injection heq with z1 z2 z3 z4
          subst z1 z2 z3 z4
          simp only [Bool.and_eq_true, decide_eq_true_eq] at h4
          obtain ⟨⟨⟨⟨⟨g1, g2⟩, g3⟩, g4⟩, g6⟩, g5⟩ := h4
          unfold tE
          refine ps_setLc (own := [(y, j)]) (g := gName j) C.calm nd hN ly (sw_true C.kf ly h3.1 h3.2) (corI_ok it W X sc _ (.Name y p2) C g4) (blk_ok C g3) (fun s H Ca cl fp => ?_) (fun s H Ca cl fp => pts_one ?_) (fun s H Ca cl fp => ?_) (fun v => ?_)
          · have C2 := C.blk (s2 := s2) (blkOk_by g3).kind s H Ca cl fp
            obtain ⟨q1, q2⟩ := loc_ok C2 g2
            exact pg_name (by rw [C2.hN]; exact C2.nd) (by rw [C2.hN]; exact g1) q1 q2
          · exact (corE_ok c W0 _ s2 _ (C.blk (s2 := s2) (blkOk_by g3).kind s H Ca cl fp) g6).pt
          · exact (corE_ok a W0 _ s2 _ (C.blk (s2 := s2) (blkOk_by g3).kind s H Ca cl fp) g5).pe
          · exact corI_fold g4 v
        · cases h4
    · rename_i e1
      exact plain (sw_cell (p := p) (l := pos.line) (lookup_subC C e1) pl)
    · cases h3
theorem as_sub {o i : Expr} {pos : Pos} {env : Env} (h : plainX i = true) (v : Value) : assign (.Subscript o i pos) env v = (do
                let ov ← holding [v] (eval o env)
                let iv ← holding [v, ov] (eval i env)
                standAt pos
                holding [v, ov, iv] (setItem ov iv v)
                PySem.release [v, ov, iv] []) := by
  cases i <;> first
    | rfl
    | exact absurd h Bool.false_ne_true
mutual
theorem corS_ok : ∀ (p : Sm) (sc : Scope) (st : Stmt), Stand T cv N sc n W X → corS T N p sc st = true → PS X st (tS X.K T (wpF X.K T cv n) W cv p)
  | .asg i e, sc, st, C, h => by
    unfold corS at h
    split at h
    · simp only [Bool.and_eq_true, decide_eq_true_eq] at h
      obtain ⟨⟨⟨h1, h2⟩, h3⟩, h4⟩ := h
      unfold tS
      exact ps_asgX C h1 h2 h3 h4
    · cases h
  | .set o i e, sc, st, C, h => by
    unfold corS at h
    split at h
    · obtain ⟨h1, h2, h3⟩ := and3 h
      unfold tS
      exact ps_asg (corE_ok e W X sc _ C h3).pe (pg_sub (corE_ok o W X sc _ C h1).pe (corE_ok i W X sc _ C h2).pe set_list (as_sub (corE_plain h2))) sole_sub stores_sub rfl
    · cases h
  | .ex e, sc, st, C, h => by
    unfold corS at h
    split at h
    · obtain ⟨h1, h2⟩ := and2 h
      unfold tS
      exact ps_expr (corE_ok e W X sc _ C h2).pe (swaps_plain (corE_plain h2) h1)
    · cases h
  | .ret e, sc, st, C, h => by
    unfold corS at h
    split at h
    · unfold tS
      exact ps_ret (corE_ok e W X sc _ C h).pe
    · cases h
  | .ite c a b, sc, st, C, h => by
    unfold corS at h
    split at h
    · obtain ⟨h1, h2, h3⟩ := and3 h
      unfold tS
      exact ps_if (corE_ok c W X sc _ C h1).pt (corSs_ok a sc _ C h2) (corSs_ok b sc _ C h3)
    · cases h
  | .whl c b, sc, st, C, h => by
    unfold corS at h
    split at h
    · obtain ⟨h1, h2⟩ := and2 h
      unfold tS
      exact ps_while C.own (corE_ok c W X sc _ C h1).pt (corSs_ok b sc _ C h2)
    · cases h
  | .for_ j it b, sc, st, C, h => by
    unfold corS at h
    split at h
    · rename_i x p iter body pos
      simp only [Bool.and_eq_true, decide_eq_true_eq] at h
      obtain ⟨⟨⟨h1, h2⟩, h3⟩, h4⟩ := h
      obtain ⟨k1, k2⟩ := loc_ok C h2
      unfold tS
      exact ps_for C.own C.calm (corI_ok it W X sc _ _ C h3) (pg_name (by rw [C.hN]; exact C.nd) (by rw [C.hN]; exact h1) k1 k2) (corSs_ok b sc _ C h4) (corI_fold h3)
    · cases h
  | .cont, sc, st, C, h => by
    unfold corS at h
    split at h
    · unfold tS
      exact ps_continue
    · cases h
  | .raise c, sc, st, C, h => by
    unfold corS at h
    split at h
    · rename_i x p m j p2 p3 p4
      simp only [Bool.and_eq_true, decide_eq_true_eq] at h
      obtain ⟨⟨h1, h2⟩, h3⟩ := h
      obtain ⟨k1, k2, k3⟩ := okn1 h3
      obtain ⟨Ca, e1, q1, q2, q3, q4⟩ := C.fx.ex c x h1
      unfold tS
      rw [e1]
      exact ps_raise C.calm C.takes (pmk_own PySem.F.excBase_ValueError q1 q2 q3 q4 (gl_ok C h2) k1)
    · cases h
  | .rrep _ _ _, sc, st, C, h => by
    unfold corS at h
    cases h
  | .wrd _, sc, st, C, h => by
    unfold corS at h
    cases h
theorem corSs_ok : ∀ (p : Sms) (sc : Scope) (ss : List Stmt), Stand T cv N sc n W X → corSs T N p sc ss = true → PSs X ss (tSs X.K T (wpF X.K T cv n) W cv p)
  | .nil, sc, ss, C, h => by
    cases ss with
    | nil =>
      unfold tSs
      exact pss_nil
    | cons e es => exact absurd h (by unfold corSs; exact Bool.false_ne_true)
  | .cons s r, sc, ss, C, h => by
    cases ss with
    | nil => exact absurd h (by unfold corSs; exact Bool.false_ne_true)
    | cons e es =>
      have h5 : (corS T N s sc e && corSs T N r sc es) = true := by
        unfold corSs at h
        exact h
      obtain ⟨h6, h7⟩ := and2 h5
      unfold tSs
      exact pss_cons (corS_ok s sc _ C h6) (corSs_ok r sc _ C h7)
end
/-- `return e.replace(y, z)` of two written texts, at a body's end: a token must be out -/
def corR (T : Tbl) (N : List Str) : Sm → Scope → Stmt → Bool
  | .rrep e y z, sc, st => match st with
    | .Return (some (.Call (.Attribute o m p) [.Constant (.str a) _ _, .Constant (.str b) _ _] [] q)) _ => decide (m = ("replace" : Str)) && (p.endLine == q.line) && notSuper o && decide (a = ⟨y.toArray⟩) && decide (b = ⟨z.toArray⟩) && (a != b) && corE T N e sc o
    | _ => false
  | _, _, _ => false
def corB (T : Tbl) (N : List Str) : Sms → Scope → List Stmt → Bool
  | .nil, _, _ => false
  | .cons s .nil, sc, ss => match ss with
    | [x] => corR T N s sc x
    | _ => false
  | .cons s r, sc, ss => match ss with
    | x :: y => corS T N s sc x && corB T N r sc y
    | [] => false
theorem corR_ok (s : Sm) (sc : Scope) (st : Stmt) (C : Stand T cv N sc n W X) (h : corR T N s sc st = true) : PST X st (tS X.K T (wpF X.K T cv n) W cv s) := by
  cases s with
  | rrep e y z =>
    unfold corR at h
    simp only at h
    split at h
    · rename_i o m p a ja pa b jb pb q pos
      simp only [Bool.and_eq_true, decide_eq_true_eq] at h
      obtain ⟨⟨⟨⟨⟨⟨e1, h2⟩, h3⟩, h4⟩, h5⟩, h6⟩, h7⟩ := h
      subst e1 h4 h5
      unfold tS
      exact CwR.pst_ret (CwR.pet_replC (corE_ok e W X sc _ C h7).pe (by simpa [bne] using h6) rfl (base_plain h3) h2)
    · cases h
  | _ => exact absurd h (by unfold corR; exact Bool.false_ne_true)
theorem corB_ok : ∀ (p : Sms) (sc : Scope) (ss : List Stmt), Stand T cv N sc n W X → corB T N p sc ss = true → PSsT X ss (tSs X.K T (wpF X.K T cv n) W cv p)
  | .nil, sc, ss, C, h => by
    unfold corB at h
    cases h
  | .cons s .nil, sc, ss, C, h => by
    unfold corB at h
    split at h
    · have := CwR.psst_one (corR_ok s sc _ C h)
      have e : tSs X.K T (wpF X.K T cv n) W cv (.cons s .nil) = tSeq (tS X.K T (wpF X.K T cv n) W cv s) tNext := by
        rw [tSs, tSs]
      rw [e]
      exact psst_cons (corR_ok s sc _ C h) CwR.psst_nil
    · cases h
  | .cons s (.cons s2 r), sc, ss, C, h => by
    unfold corB at h
    split at h
    · obtain ⟨h6, h7⟩ := and2 h
      unfold tSs
      exact psst_cons (PST.of (corS_ok s sc _ C h6)) (corB_ok (.cons s2 r) sc _ C h7)
    · cases h
/-! ### where a token is out: calls of a def like _law_words -/
def rawAs : Exs → Bool
  | .cons _ (.cons _ (.cons (.con (.str _)) .nil)) => true
  | _ => false
mutual
def corET (T : Tbl) (N : List Str) : Ex → Scope → Expr → Bool
  | .call f as, sc, e => corE T N (.call f as) sc e || (match e with
    | .Call (.Name x _) es [] _ => (match T.fns[f]? with | some d => decide (d.name = x) && isRaw d | none => false) && isG sc x && okn x && rawAs as && corA T N as sc es
    | _ => false)
  | .tup as, sc, e => match e with
    | .Tuple es _ _ => corAT T N as sc es
    | _ => false
  | .lst as, sc, e => match e with
    | .List es _ => corAT T N as sc es
    | _ => false
  | .bin o a b, sc, e => match e with
    | .BinOp l op r _ => decide (op = o.op) && corET T N a sc l && corET T N b sc r
    | _ => false
  | .app o a, sc, e => match e with
    | .Call (.Attribute r m p) [x] [] q => decide (m = ("append" : Str)) && (p.endLine == q.line) && notSuper r && corE T N o sc r && corET T N a sc x
    | _ => false
  | p, sc, e => corE T N p sc e
def corAT (T : Tbl) (N : List Str) : Exs → Scope → List Expr → Bool
  | .nil, _, es => match es with
    | [] => true
    | _ => false
  | .cons a as, sc, es => match es with
    | x :: r => corET T N a sc x && corAT T N as sc r
    | [] => false
end
theorem pet_tup {x1} {es : List Expr} {t : TA} {pos : Pos} (h : PAT X es t) : PET X (.Tuple es x1 pos) (tTup t) := by
  intro pins s σ H Q h0 I hq
  refine wpAny_Tuple_spliced (thn (h pos pins s σ H _ h0 I hq) fun us s1 ⟨xs, H1, I1, r, z, q⟩ => ⟨by rw [← r.length]; exact z, ?_⟩)
  have hf : H1 s1.heap.objs.size = none := I1.hok.fresh (Nat.le_refl _)
  refine ⟨.ref s1.heap.objs.size, upd H1 s1.heap.objs.size (.tup xs), I1.laid (t' := s1.toks) (fun b u e => Heap.get?_push_of_some _ e) (Nat.le_refl _) ?_, rfl, q _ hf⟩
  exact ⟨z, us, r, ⟨_, Heap.get?_push_size _ rfl, rfl, _, rfl⟩⟩
theorem pet_meth1 {o e : Expr} {to te : TE} {name : Str} {apos cpos : Pos} {Ty id : String} {r : V → List V → Hp → VK → Prop} (pa : PlainAttrs Ty) (slot : Slot Ty name id) (hty : typeOf (.builtin id) = pure (.type "method_descriptor")) (hm : MtR X id r)
    (hn : notSuper o = true) (hl : (apos.endLine == cpos.line) = true) (hp : plainX e = true) (ho : PE X o to) (he : PET X e te) : PET X (.Call (.Attribute o name apos) [e] [] cpos) (tBM X.K Ty r to (tCons te tNil)) := by
  have h1 := star_plain (es := []) (env := X.env) hp
  intro pins s σ H Q h0 I h
  refine wpAny_Call_method_late (base_plain hn) (by rw [h1]; rfl) hl rfl (wpAny_mono (PySem.wpAny_toks (ho.run pins s σ H _ I h)) (fun v s1 q => ?_) fun _ _ z => z.2)
  obtain ⟨hk, x, H1, I1, r1, ty, q1⟩ := q
  obtain ⟨h2, h3⟩ := tyV_is I1 r1 ty
  refine ⟨Ty, id, pa, slot, hty, h2, h3, ?_⟩
  have hA := pat_cons he pat_nil h1 cpos pins s1 σ H1 _ (Nat.le_trans h0 hk) I1 q1
  rw [h1] at hA ⊢
  refine Calls.callWith_builtin rfl (Calls.evalArgs_plain ?_)
  exact thn hA fun us s2 ⟨vs, H2, I2, r2, q2⟩ => hm pins s2 σ H2 x vs v us Q I2 r1 r2 q2
/-- f(a, b, 'c') -/
theorem pet_callR {CX : CXT} {k : Nat} {f : Addr} {fd : FuncData} {ps : List Str} {sp : Sp} {E : L2.St → XK} {x y : Str} {p pos cp : Pos} {j : Nat} {ea eb : Expr} {ta tb : TE} (F : FnG true X.prog X.w X.K X.mg X.base CX k f fd ps sp) (hr : Room k X.A) (hg : Gl X x) (hm : X.mg x = some (.ref f)) (hk : PySem.W.keepIn X.K (.ref f) = true) (hb : Binds X.K fd ps []) (hx : ∀ σ, PassesAt CX X σ (E σ))
    (ha : PE X ea ta) (hbe : PE X eb tb) (hpa : plainX ea = true) (hpb : plainX eb = true) (hdb : (x == ("__debug__" : Str)) = false) :
    PET X (.Call (.Name x p) [ea, eb, .Constant (.str y) j cp] [] pos) (tCallS sp E (tCons ta (tCons tb (tCons (tC (.str y)) tNil)))) := by
  intro pins s σ H Q h0 I h
  have h1 := star_plain (es := [eb, .Constant (.str y) j cp]) (env := X.env) hpa
  have h2 := star_plain (es := [.Constant (.str y) j cp]) (env := X.env) hpb
  refine wpAny_Call_Name_kw (ld_glob I hg hm ?_ hdb)
  refine PySem.W.callWith_K (h₀ := X.base) I.ok.mod.kin hk ?_ h1 (by rw [h2]; rfl)
  rw [h1, h2]
  show wpAny _ _ (spliced ((false, eval ea X.env) :: (false, eval eb X.env) :: backTo pos (starEach [.Constant (.str y) j cp] X.env))) _ _ s
  refine Calls.spliced_cons (wpAny_mono (PySem.wpAny_toks (ha.run pins s σ H _ I h)) (fun v s1 q => ?_) fun _ _ z => z.2)
  obtain ⟨k1, x1, H1, I1, r1, q1⟩ := q
  refine Calls.spliced_cons (wpAny_mono (PySem.wpAny_toks (hbe.run pins s1 σ H1 _ I1 q1)) (fun v2 s2 q => ?_) fun _ _ z => z.2)
  obtain ⟨k2, x2, H2, I2, r2, q2⟩ := q
  show wpAny _ _ (spliced ((false, eval (.Constant (.str y) j cp) X.env) :: backTo pos (starEach [] X.env))) _ _ s2
  refine Calls.spliced_cons (Calls.Constant_str (Calls.spliced_nil ?_))
  have I3 : Inv X pins σ H2 { s2 with toks := s2.toks + 1 } := I2.tok _
  have rv : Vals [x1, x2, .str y] [v, v2, .str y s2.toks] := .cons r1 (.cons r2 (.cons ⟨s2.toks, rfl⟩ .nil))
  refine ⟨I3.kIn, ?_⟩
  have hl : [v, v2, Value.str y s2.toks].length = ps.length := by rw [← rv.length]; exact F.len _ _ _ _ q2
  have b := hb { s2 with toks := s2.toks + 1 } [v, v2, .str y s2.toks] I3.kIn (by rw [List.append_nil]; exact hl)
  rw [List.append_nil] at b
  refine wpAny_call (codeAny_mono (F.run X.A X.stack _ H2 ⟨[v, v2, .str y s2.toks], []⟩ _ _ Q (E σ) hr I3.env0 b rv (fun _ => ⟨y, s2.toks, rfl, ?_, Nat.lt_succ_self _⟩) q2) fun r s' hq => ?_)
  · show s2.toks ≠ 0
    omega
  cases r with
  | error e => exact hx σ pins H2 _ e s' I3 hq
  | ok fl =>
    cases fl with
    | ret u => exact I3.after hq
    | next => exact False.elim hq
    | brk => exact False.elim hq
    | cont => exact False.elim hq
mutual
theorem corET_plain : ∀ (p : Ex) (sc : Scope) (e : Expr), corET T N p sc e = true → plainX e = true := by
  intro p sc e h
  cases p <;> first
    | exact corE_plain (by unfold corET at h; exact h)
    | (unfold corET at h
       cases e <;> first
        | rfl
        | exact absurd h Bool.false_ne_true
        | (rw [Bool.or_eq_true] at h
           rcases h with h | h
           · exact corE_plain h
           · exact absurd h Bool.false_ne_true))
end
theorem isConst_str {y : Str} {e : Expr} (h : isConst (.str y) e = true) : ∃ j p, e = .Constant (.str y) j p := by
  cases e <;> first
    | exact absurd h Bool.false_ne_true
    | skip
  rename_i c j p
  cases c <;> first
    | exact absurd h Bool.false_ne_true
    | skip
  rename_i z
  have e1 : y = z := of_decide_eq_true h
  subst e1
  exact ⟨j, p, rfl⟩
theorem starT {env : Env} {a : Ex} {as : Exs} {x : Expr} {r : List Expr} {sc : Scope} (h : corET T N a sc x = true) : starEach (x :: r) env = (false, eval x env) :: starEach r env := star_plain (corET_plain a sc x h)
mutual
theorem corET_ok : ∀ (p : Ex) (sc : Scope) (e : Expr), Stand T cv N sc n W X → corET T N p sc e = true → PET X e (tE X.K T (wpF X.K T cv n) W p)
  | .call f as, sc, e, C, h => by
    unfold corET at h
    rw [Bool.or_eq_true] at h
    rcases h with h | h
    · exact CwR.PET.of (corE_ok _ W X sc e C h).pe
    · split at h
      · rename_i x p es pos
        simp only [Bool.and_eq_true] at h
        obtain ⟨⟨⟨⟨h1, h2⟩, h3⟩, h4⟩, h5⟩ := h
        obtain ⟨k1, k2, k3⟩ := okn1 h3
        split at h1
        · rename_i d hd
          rw [Bool.and_eq_true] at h1
          have e1 := of_decide_eq_true h1.1
          obtain ⟨fa, fd, F, hm, hk, hb⟩ := C.fx.fn f d hd
          rw [e1] at hm
          rw [h1.2] at F
          unfold rawAs at h4
          split at h4
          · rename_i a b y
            match es, h5 with
            | [x1, x2, x3], h5 =>
              have h6 : (corE T N a sc x1 && (corE T N b sc x2 && (corE T N (.con (.str y)) sc x3 && true))) = true := by
                simpa [corA] using h5
              simp only [Bool.and_eq_true] at h6
              obtain ⟨g1, g2, g3, _⟩ := h6
              have g4 : isConst (.str y) x3 = true := by
                unfold corE at g3
                exact g3
              obtain ⟨jj, pp, rfl⟩ := isConst_str g4
              simp only [tE, tA]
              exact pet_callR F C.room (gl_ok C h2) hm hk hb (passAt C.takes) (corE_ok a W X sc _ C g1).pe (corE_ok b W X sc _ C g2).pe (corE_plain g1) (corE_plain g2) k1
            | [], h5 => exact absurd h5 (by simp [corA])
            | [_], h5 => exact absurd h5 (by simp [corA])
            | [_, _], h5 => exact absurd h5 (by simp [corA])
            | _ :: _ :: _ :: _ :: _, h5 => exact absurd h5 (by simp [corA])
          · cases h4
        · cases h1
      · cases h
  | .tup as, sc, e, C, h => by
    unfold corET at h
    split at h
    · unfold tE
      exact pet_tup (corAT_ok as sc _ C h)
    · cases h
  | .lst as, sc, e, C, h => by
    unfold corET at h
    split at h
    · unfold tE
      exact pet_lst (corAT_ok as sc _ C h)
    · cases h
  | .bin o a b, sc, e, C, h => by
    unfold corET at h
    split at h
    · obtain ⟨h1, h2, h3⟩ := and3 h
      have e1 := of_decide_eq_true h1
      subst e1
      unfold tE
      exact CwR.pet_op (opR_bin o) (corET_ok a sc _ C h2) (corET_ok b sc _ C h3)
    · cases h
  | .app o a, sc, e, C, h => by
    unfold corET at h
    split at h
    · simp only [Bool.and_eq_true, decide_eq_true_eq] at h
      obtain ⟨⟨⟨⟨e1, h2⟩, h3⟩, h4⟩, h5⟩ := h
      subst e1
      unfold tE
      exact pet_meth1 PySem.F.plainAttrs_list PySem.F.slot_list_append PySem.F.type_list_append mt_append h3 h2 (corET_plain a sc _ h5) (corE_ok o W X sc _ C h4).pe (corET_ok a sc _ C h5)
    · cases h
  | .var _, sc, e, C, h | .con _, sc, e, C, h | .glb _, sc, e, C, h | .neg _, sc, e, C, h | .not _, sc, e, C, h | .cmp _ _ _, sc, e, C, h | .chn _ _ _ _ _, sc, e, C, h | .and _ _, sc, e, C, h | .or _ _, sc, e, C, h | .ite _ _ _, sc, e, C, h | .len _, sc, e, C, h | .isi _ _, sc, e, C, h
  | .int _, sc, e, C, h | .list _, sc, e, C, h | .tupl _, sc, e, C, h | .min _ _, sc, e, C, h | .pop _, sc, e, C, h | .ext _ _, sc, e, C, h | .lstrip _ _, sc, e, C, h | .join _ _, sc, e, C, h | .find _ _ _, sc, e, C, h | .split _ _, sc, e, C, h | .part _ _, sc, e, C, h | .idx _ _, sc, e, C, h
  | .slf _ _, sc, e, C, h | .slt _ _, sc, e, C, h | .sl _ _ _, sc, e, C, h | .lc _ _ _, sc, e, C, h | .lcif _ _ _ _, sc, e, C, h => by
    unfold corET at h
    exact CwR.PET.of (corE_ok _ W X sc e C h).pe
theorem corAT_ok : ∀ (as : Exs) (sc : Scope) (es : List Expr), Stand T cv N sc n W X → corAT T N as sc es = true → PAT X es (tA X.K T (wpF X.K T cv n) W as)
  | .nil, sc, es, C, h => by
    cases es with
    | nil =>
      unfold tA
      exact pat_nil
    | cons e es => exact absurd h (by unfold corAT; exact Bool.false_ne_true)
  | .cons a as, sc, es, C, h => by
    cases es with
    | nil => exact absurd h (by unfold corAT; exact Bool.false_ne_true)
    | cons e es =>
      have h5 : (corET T N a sc e && corAT T N as sc es) = true := by
        unfold corAT at h
        exact h
      obtain ⟨h6, h7⟩ := and2 h5
      unfold tA
      exact pat_cons (corET_ok a sc _ C h6) (corAT_ok as sc _ C h7) (star_plain (corET_plain a sc _ h6))
end
mutual
def corST (T : Tbl) (N : List Str) : Sm → Scope → Stmt → Bool
  | .ite c a b, sc, st => match st with
    | .If t x y _ => corE T N c sc t && corSsT T N a sc x && corSsT T N b sc y
    | _ => false
  | .ex e, sc, st => match st with
    | .Expr v _ => noComp v && corET T N e sc v
    | _ => false
  | .ret e, sc, st => match st with
    | .Return (some v) _ => corET T N e sc v
    | _ => false
  | .asg i e, sc, st => corS T N (.asg i e) sc st || (match st with
    | .Assign [.Name x p] v _ => decide (N[i]? = some x) && loc sc x && noComp v && corET T N e sc v
    | _ => false)
  | p, sc, st => corS T N p sc st
def corSsT (T : Tbl) (N : List Str) : Sms → Scope → List Stmt → Bool
  | .nil, _, ss => match ss with
    | [] => true
    | _ => false
  | .cons s r, sc, ss => match ss with
    | x :: y => corST T N s sc x && corSsT T N r sc y
    | [] => false
end
theorem pst_expr {e : Expr} {te : TE} {pos : Pos} (he : PET X e te) (hs : swapsWith e none pos.line X.env = pure false) : PST X (.Expr e pos) (tDrop te) := by
  intro pins s σ H D h0 I h
  exact wpAny_Expr_any (thn (he pins s σ H _ h0 I h) fun v s1 ⟨x, H1, I1, r1, q1⟩ => ⟨σ, H1, I1, q1⟩) I.quiet hs
theorem pst_asg {i : Nat} {x : Str} {p pos : Pos} {v : Expr} {te : TE} (he : PET X v te) (hN : X.N.Nodup) (hi : X.N[i]? = some x) (hx : L2.Loc X.env.scope x) (hf : X.fn x = true ∨ X.env.scope.names.lookup x = some .local) (hs : swapsWith v (some (.Name x p)) pos.line X.env = pure false) : PST X (.Assign [.Name x p] v pos) (tAsg te (gName i)) := by
  intro pins s σ H D h0 I h
  refine wpAny_Assign_Name (thn (he pins s σ H _ h0 I h) fun u s1 ⟨y, H1, I1, r1, q1⟩ => ?_) hs
  exact store_ok I1 hN hi hx r1 (fun s' I' => ⟨_, H1, I', q1⟩) hf
mutual
theorem corST_ok : ∀ (p : Sm) (sc : Scope) (st : Stmt), Stand T cv N sc n W X → corST T N p sc st = true → PST X st (tS X.K T (wpF X.K T cv n) W cv p)
  | .ite c a b, sc, st, C, h => by
    unfold corST at h
    split at h
    · obtain ⟨h1, h2, h3⟩ := and3 h
      unfold tS
      exact CwR.pst_if (corE_ok c W X sc _ C h1).pt (corSsT_ok a sc _ C h2) (corSsT_ok b sc _ C h3)
    · cases h
  | .ex e, sc, st, C, h => by
    unfold corST at h
    split at h
    · obtain ⟨h1, h2⟩ := and2 h
      unfold tS
      exact pst_expr (corET_ok e sc _ C h2) (swaps_plain (corET_plain e sc _ h2) h1)
    · cases h
  | .ret e, sc, st, C, h => by
    unfold corST at h
    split at h
    · unfold tS
      exact CwR.pst_ret (corET_ok e sc _ C h)
    · cases h
  | .asg i e, sc, st, C, h => by
    unfold corST at h
    rw [Bool.or_eq_true] at h
    rcases h with h | h
    · exact PST.of (corS_ok _ sc _ C h)
    · split at h
      · simp only [Bool.and_eq_true, decide_eq_true_eq] at h
        obtain ⟨⟨⟨h1, h2⟩, h3⟩, h4⟩ := h
        obtain ⟨k1, k2⟩ := loc_ok C h2
        unfold tS
        exact pst_asg (corET_ok e sc _ C h4) (by rw [C.hN]; exact C.nd) (by rw [C.hN]; exact h1) k1 k2 (swaps_plain (corET_plain e sc _ h4) h3)
      · cases h
  | .set _ _ _, sc, st, C, h | .whl _ _, sc, st, C, h | .for_ _ _ _, sc, st, C, h | .cont, sc, st, C, h | .raise _, sc, st, C, h | .rrep _ _ _, sc, st, C, h | .wrd _, sc, st, C, h => by
    unfold corST at h
    exact PST.of (corS_ok _ sc _ C h)
theorem corSsT_ok : ∀ (p : Sms) (sc : Scope) (ss : List Stmt), Stand T cv N sc n W X → corSsT T N p sc ss = true → PSsT X ss (tSs X.K T (wpF X.K T cv n) W cv p)
  | .nil, sc, ss, C, h => by
    cases ss with
    | nil =>
      unfold tSs
      exact CwR.psst_nil
    | cons e es => exact absurd h (by unfold corSsT; exact Bool.false_ne_true)
  | .cons s r, sc, ss, C, h => by
    cases ss with
    | nil => exact absurd h (by unfold corSsT; exact Bool.false_ne_true)
    | cons e es =>
      have h5 : (corST T N s sc e && corSsT T N r sc es) = true := by
        unfold corSsT at h
        exact h
      obtain ⟨h6, h7⟩ := and2 h5
      unfold tSs
      exact psst_cons (corST_ok s sc _ C h6) (corSsT_ok r sc _ C h7)
end
end
end Fw

set_option maxHeartbeats 4000000
namespace Fw
open PySem PySem.Spec PyProof.Rows L2

/-- a def's scope, checked -/
def scopeB (N ps : List Str) (sc : Scope) : Bool :=
  (match sc.kind with | .function => true | _ => false) && !sc.isCoroutine && !sc.isGenerator && decide (N.Nodup) && decide (N.take ps.length = ps) &&
    (ps.all fun x => match sc.names.lookup x with | some .local => true | some .cell => true | _ => false) &&
    (sc.names.all fun y => match y.2 with | .free => false | _ => true)
theorem scopeB_ok {N ps : List Str} {sc : Scope} (h : scopeB N ps sc = true) : FnScope N ps sc := by
  unfold scopeB at h
  simp only [Bool.and_eq_true, decide_eq_true_eq, Bool.not_eq_true', List.all_eq_true] at h
  obtain ⟨⟨⟨⟨⟨⟨h1, h2⟩, h3⟩, h4⟩, h5⟩, h6⟩, h7⟩ := h
  refine ⟨?_, h2, h3, h4, h5, fun x hx => ?_, fun y hy e => ?_⟩
  · split at h1
    · assumption
    · cases h1
  · have q := h6 x hx
    split at q
    · exact .inl (by assumption)
    · exact .inr (by assumption)
    · cases q
  · have q := h7 y hy
    rw [e] at q
    cases q
/-- binding parameters: one that is no cell gives out a token -/
theorem bind_tok {M : Model} {A : Around} {E : Value → Shared → Prop} {s0 : Shared} {env : Env} (f : Str × Value → PUnit → Sem (ForInStep PUnit)) (hf : ∀ n v u, f (n, v) u = (do storeName env n v; pure (.yield ⟨⟩))) (hk : env.scope.kind = .function) :
    ∀ (bs : List (Str × Value)) (m cm : Str → Option Value) (s : Shared) (Q : PUnit → Shared → Prop), InCallC s0 env.locals m env.cells cm s → (∀ x ∈ bs, env.kindOf x.1 = some .local ∨ (env.kindOf x.1 = some .cell ∧ (env.cells.lookup x.1).isSome = true)) →
      (1 ≤ s.toks ∨ ∃ x ∈ bs, env.kindOf x.1 = some .local) → (∀ s', 1 ≤ s'.toks → InCallC s0 env.locals (bindL env.kindOf bs m) env.cells (bindC env.kindOf bs cm) s' → Q ⟨⟩ s') → wpAny M A (forIn bs ⟨⟩ f) Q E s := by
  intro bs
  induction bs with
  | nil =>
    intro m cm s Q x _ ht h
    rw [List.forIn_nil]
    exact wpAny_pure (h s (ht.resolve_right fun ⟨y, hy, _⟩ => by cases hy) x)
  | cons p r ih =>
    obtain ⟨n, v⟩ := p
    intro m cm s Q x hkd ht h
    have hr := fun y hy => hkd y (List.mem_cons_of_mem _ hy)
    rw [List.forIn_cons, hf]
    refine wpAny_bind (wpAny_bind ?_)
    by_cases hl : env.kindOf n = some .local
    · have e1 : bindL env.kindOf ((n, v) :: r) m = bindL env.kindOf r (fun y => if y = n then some v else m y) := by
        show bindL env.kindOf r (if env.kindOf n = some .local then _ else _) = _
        rw [if_pos hl]
      have e2 : bindC env.kindOf ((n, v) :: r) cm = bindC env.kindOf r cm := by
        show bindC env.kindOf r (if env.kindOf n = some .local then _ else _) = _
        rw [if_pos hl]
      rw [e1, e2] at h
      refine wpAny_storeName_local hl x.toInCall.ns (fun h' hn' hs' => wpAny_pure ?_) (by rw [hk]; rfl)
      have x' : InCallC s0 env.locals (fun y => if y = n then some v else m y) env.cells cm { s with heap := h', toks := s.toks + 1 } := by
        obtain ⟨h1, tk, e⟩ := x.toInCall.same
        refine ⟨⟨⟨h', s.toks + 1, by rw [e]⟩, hn', fun b o q => ?_, x.toInCall.fresh⟩, fun k c hc => ?_, x.apart, x.above⟩
        · have := Nat.lt_of_lt_of_le (Heap.lt_size q) x.toInCall.fresh
          exact hs'.extBut b o (Nat.ne_of_lt this) (x.toInCall.keep b o q)
        · have := x.above k c (mem_of_lookup hc)
          exact (x.cell k c hc).sameBut hs' (Nat.ne_of_gt this)
      exact ih _ _ _ Q x' hr (.inl (Nat.le_add_left 1 _)) h
    · rcases hkd (n, v) (List.mem_cons_self ..) with q | ⟨hc, hs⟩
      · exact absurd q hl
      have e1 : bindL env.kindOf ((n, v) :: r) m = bindL env.kindOf r m := by
        show bindL env.kindOf r (if env.kindOf n = some .local then _ else _) = _
        rw [if_neg hl]
      have e2 : bindC env.kindOf ((n, v) :: r) cm = bindC env.kindOf r (fun y => if y = n then some v else cm y) := by
        show bindC env.kindOf r (if env.kindOf n = some .local then _ else _) = _
        rw [if_neg hl]
      rw [e1, e2] at h
      obtain ⟨c, hcc⟩ := Option.isSome_iff_exists.mp hs
      have w := PySem.wpAny_toks (stCC (M := M) (A := A) (E := E) (v := v) (Q := fun _ s' => InCallC s0 env.locals m env.cells (fun y => if y = n then some v else cm y) s') x hk hc hcc fun _ y => y)
      refine wpAny_mono w (fun _ s' y => wpAny_pure ?_) fun _ _ y => y.2
      refine ih _ _ _ Q y.2 hr ?_ h
      rcases ht with ht | ⟨z, hz, hz2⟩
      · exact .inl (Nat.le_trans ht y.1)
      · rcases List.mem_cons.mp hz with e | hz
        · rw [e] at hz2
          exact absurd hz2 hl
        · exact .inr ⟨z, hz, hz2⟩
theorem newEnv_tok {M : Model} {A : Around} {E : Value → Shared → Prop} {s : Shared} {scope : Scope} {globals : Addr} {binds : List (Str × Value)} {qual : Str} {func : Option Addr} {code : Value} {builtins : Addr} {Q : Env → Shared → Prop} (hk : scope.kind = .function)
    (hkd : ∀ x ∈ binds, scope.names.lookup x.1 = some .local ∨ (scope.names.lookup x.1 = some .cell ∧ ((cellsFrom (s.heap.objs.size + 1) scope.names []).lookup x.1).isSome = true)) (ht : ∃ x ∈ binds, scope.names.lookup x.1 = some .local)
    (hQ : ∀ env, env = newEnv scope s.heap.objs.size globals (cellsFrom (s.heap.objs.size + 1) scope.names []) qual func code none builtins → ∀ s', 1 ≤ s'.toks →
      InCallC s env.locals (bindL env.kindOf binds fun _ => none) env.cells (bindC env.kindOf binds fun _ => none) s' → Q env s') : wpAny M A (newFunctionEnv scope globals [] binds qual func code none builtins) Q E s := by
  simp only [newFunctionEnv, Option.isSome_none, Bool.false_eq_true, if_false]
  refine wpAny_bind (wpAny_alloc (wpAny_bind (wpAny_layCells _ (fun name kind cells => by cases hkc : kind == NameKind.cell <;> simp [hkc]) _ _ _ _ ?_)))
  have sz : (s.heap.push { cls := .type "frame", data := .dict #[] }).objs.size = s.heap.objs.size + 1 := Heap.size_push ..
  have ok := cellsFrom_ok scope.names (s.heap.push { cls := .type "frame", data := .dict #[] }) (s.heap.objs.size + 1) []
    ⟨fun _ _ hm => (by cases hm), List.Pairwise.nil⟩ (Nat.le_of_eq sz.symm)
  rw [sz] at ok
  show wpAny M A _ _ E _
  rw [show ({ s with heap := s.heap.push { cls := .type "frame", data := .dict #[] } } : Shared).heap.objs.size = s.heap.objs.size + 1 from sz]
  have x0 : InCallC s s.heap.objs.size (fun _ => none) (cellsFrom (s.heap.objs.size + 1) scope.names []) (fun _ => none) { s with heap := pushCells (s.heap.push { cls := .type "frame", data := .dict #[] }) scope.names } := by
    refine ⟨⟨⟨_, s.toks, rfl⟩, ?_, fun b o e => ?_, Nat.le_refl _⟩, fun n c hc => ?_, ok.apart, fun n c hm => ?_⟩
    · exact (Heap.Ns.new s.heap (.type "frame")).keeps (pushCells_keeps _ _)
    · exact pushCells_keeps _ _ b o (Heap.get?_push_of_some _ e)
    · exact (ok.empty n c (mem_of_lookup hc)).1
    · exact (ok.empty n c hm).2
  refine wpAny_bind (bind_tok (s0 := s) (env := newEnv scope s.heap.objs.size globals (cellsFrom (s.heap.objs.size + 1) scope.names []) qual func code none builtins) _ (fun _ _ _ => rfl) hk binds _ _ _ _ x0 hkd (.inr ht) ?_)
  exact fun s' h1 x => wpAny_pure (hQ _ rfl s' h1 x)
theorem _root_.L2.FunD.okT {P : Program} {w : World} {K : PySem.W.Frag} {mg : Str → Option Value} {base : Heap} {x qual : Str} {params : Arguments} {body : List Stmt} {scope : Scope} {dvs : List V} {kws : List (Str × V)} {f : Addr} {fd : FuncData} {CX : CXT} {N ps : List Str} {k : Nat} {sp : Sp} (F : FunD K x qual params body scope dvs kws f fd) (S : FnScope N ps scope) (hps : ∃ y ∈ ps, scope.names.lookup y = some .local) (len : ∀ vs H Q E, sp vs H Q E → vs.length = ps.length)
    (hbody : ∀ (cdv : Value) (A : Around) (outer : List Env) (s : Shared) (H : Hp) (vs : List V) (Q : VK) (E : XK), Room k (A.deeper (envOfC qual scope s.heap.objs.size f cdv)) → sp vs H Q E →
      ∃ t, PSsT (cxOf CX P w K mg base N qual scope f cdv A outer s H E) body t ∧ t { nx := fun _ H' => Q .non H', rt := Q } (start N vs) H) : FnOk P w K mg base CX (k + 1) f fd ps sp := by
  obtain ⟨oc, od, dV, kV, doc, pm, an, cdv, ct, osl, rfl, lk, hcd, _, _⟩ := F.ex
  refine ⟨len, fun A outer s H args us vs Q E hr e0 hb r hsp => ?_⟩
  have hl := len _ _ _ _ hsp
  have hul : us.length = ps.length := by rw [← r.length, hl]
  have KX : K.In s.heap := e0.mod.kin.keeps fun b o e => (e0.bs b o e).1
  have lim : s.heap.NoLimit := e0.mod.nolimit.keeps fun b o e => (e0.bs b o e).1
  have hkd : ∀ y ∈ ps.zip us, scope.names.lookup y.1 = some .local ∨ (scope.names.lookup y.1 = some .cell ∧ ((cellsFrom (s.heap.objs.size + 1) scope.names []).lookup y.1).isSome = true) := by
    rintro ⟨n, v⟩ hy
    exact (S.par n (List.of_mem_zip hy).1).imp id fun q => ⟨q, PySem.W.cellsFrom_some _ _ _ (.inl q)⟩
  have hloc : ∃ y ∈ ps.zip us, scope.names.lookup y.1 = some .local := by
    obtain ⟨y, hy, e⟩ := hps
    obtain ⟨i, hi, e2⟩ := List.getElem_of_mem hy
    have hz : i < (ps.zip us).length := by rw [List.length_zip, hul, Nat.min_self]; exact hi
    refine ⟨(ps.zip us)[i], List.getElem_mem hz, ?_⟩
    rw [List.getElem_zip, e2]
    exact e
  refine codeAny_call_function hr.depth (KX _ _ lk) rfl S.co S.gen rfl (PySem.W.codeRec_of KX hcd) (hb _ _ _ _ ?_)
  refine newEnv_tok S.kind hkd hloc fun env he s1 h1 y => ?_
  subst he
  obtain ⟨t, ht, hq⟩ := hbody cdv A outer s H vs Q E (hr.deeper _) hsp
  have I : Inv (cxOf CX P w K mg base N qual scope f cdv A outer s H E) [] (start N vs) H s1 := inv_start S hr.hd e0 hl r y
  refine ⟨lim.keeps y.toInCall.keep, codeAny_func (wpAny_mono (ht [] s1 (start N vs) H _ h1 I hq) (fun fl s' hs => ?_) fun _ _ z => z)⟩
  have fin : ∀ {σ' : L2.St} {H' : Hp} {v : V} {u : Value}, Inv (cxOf CX P w K mg base N qual scope f cdv A outer s H E) [] σ' H' s' → RelV v u → Q v H' → CE outer P w H s Q u s' := by
    intro σ' H' v u J rv q
    exact ⟨v, H', J.os, J.bare, J.base, J.hok, rv, q⟩
  cases fl with
  | ret u => exact hs.elim fun v hs => hs.elim fun σ' hs => hs.elim fun H' hs => fin hs.1 hs.2.1 hs.2.2
  | next => exact hs.elim fun σ' hs => hs.elim fun H' hs => fin (v := V.non) (u := Value.none) hs.1 rfl hs.2
  | brk => exact hs.elim fun _ hs => hs.elim fun _ hs => hs.2.elim
  | cont => exact hs.elim fun _ hs => hs.elim fun _ hs => hs.2.elim
/-- what a call of the signs gives -/
theorem sig_ok {X : Cx} {k : Nat} {f : Addr} {fd : FuncData} {sp : Sp} {x g : Str} {u : Value} {S : List Nat} {H0 : Hp} (F : FnOk X.prog X.w X.K X.mg X.base (L2.CX X.prog X.w) k f fd [] sp) (hr : Room k X.A) (hg : Gl X g) (hm : X.mg g = some (.ref f)) (hk : PySem.W.keepIn X.K (.ref f) = true) (hb : Binds X.K fd [] [])
    (hdb : (g == ("__debug__" : Str)) = false) (hS : ∀ H', Same H0 H' → sp [] H' (fun v H'' => v = vS S ∧ Same H' H'') (fun _ _ _ => False)) : SigOk X x u g S H0 := by
  intro pins σ H s1 p p3 sm I
  refine wpAny_Call_Name_kw (ld_glob I.inv hg hm ?_ hdb)
  refine PySem.W.callWith_K0 I.inv.kIn hk ?_
  have b := hb s1 [] I.inv.kIn rfl
  refine wpAny_call (codeAny_mono (F.run X.A X.stack s1 H ⟨[], []⟩ [] [] _ _ hr I.inv.env0 b .nil (hS H sm)) fun r s' hq => ?_)
  cases r with
  | error e =>
    obtain ⟨_, _, _, _, _, _, _, _, _, _, _, _, z⟩ := hq
    exact z.elim
  | ok fl =>
    cases fl with
    | ret v =>
      obtain ⟨w, H', I', rv, q1, q2⟩ := I.after (Nat.zero_le _) hq
      rw [q1] at rv
      obtain ⟨t, rfl⟩ := rv
      exact ⟨H', q2, I', t, rfl⟩
    | next => exact False.elim hq
    | brk => exact False.elim hq
    | cont => exact False.elim hq
/-- the text of a def like _law_words -/
def corW (T : Tbl) (N : List Str) (np sg : Nat) (sc : Scope) (ss : List Stmt) : Bool := match N, ss with
  | [a0, a1, a2, a3, a4], [.Assign [.Name x3 _] (.Constant (.str em) _ _) _, .For (.Name x4 _) (.Call (.Name rg _) [.Name x1 _] [] _) [.Assign [.Name y3 _] (.BinOp (.Name z3 _) .Add (.Subscript (.Call (.Name g _) [] [] _) (.BinOp (.BinOp (.Name x0 _) .Add (.BinOp (.Name y4 _) .Mult (.BinOp (.Constant (.int i1) _ _) .Add (.BinOp (.BinOp (.Name y0 _) .FloorDiv (.Constant (.int i2) _ _) _) .Mod (.Constant (.int i3) _ _) _) _) _) _) .Mod (.Constant (.int i4) _ _) _) _) _) _] [] _,
      .Return (some (.Call (.Attribute (.Name w3 _) m ap) [.Name x2 _, .Constant (.str xx) _ _] [] q)) _] =>
    decide (x3 = a3) && decide (y3 = a3) && decide (z3 = a3) && decide (w3 = a3) && decide (x4 = a4) && decide (y4 = a4) && decide (x1 = a1) && decide (x0 = a0) && decide (y0 = a0) && decide (x2 = a2) &&
    decide (em = ⟨#[]⟩) && decide (xx = ⟨#[120]⟩) && decide (rg = ("range" : Str)) && decide (m = ("replace" : Str)) && (ap.endLine == q.line) && decide (i1 = 1) && decide (i2 = 94) && decide (i3 = 5) && decide (i4 = 94) &&
    decide (np = 3) && decide (a2 ≠ a3) && decide (a2 ≠ a4) && decide (a0 ≠ a2) && decide (a1 ≠ a2) && ([a0, a1, a2, a3, a4].all fun x => decide (sc.names.lookup x = some .local) && okn x) && isG sc rg && isG sc g && okn g &&
    (match T.fns[sg]? with | some d => decide (d.name = g) && !isRaw d && decide (d.np = 0) | none => false)
  | _, _ => false
def someLoc (ps : List Str) (sc : Scope) : Bool := ps.any fun y => decide (sc.names.lookup y = some .local)
theorem someLoc_ok {ps : List Str} {sc : Scope} (h : someLoc ps sc = true) : ∃ y ∈ ps, sc.names.lookup y = some .local := by
  obtain ⟨y, hy, e⟩ := List.any_eq_true.mp h
  exact ⟨y, hy, of_decide_eq_true e⟩
/-- a def of the text fits its deep form -/
def fits (T : Tbl) (d : FDef) (st : Stmt) : Bool :=
  scopeB d.N (d.N.take d.np) (defScope st) && (corSs T d.N d.body (defScope st) (defBody st) || (corB T d.N d.body (defScope st) (defBody st) && someLoc (d.N.take d.np) (defScope st)) || (corSsT T d.N d.body (defScope st) (defBody st) && someLoc (d.N.take d.np) (defScope st)) || (match d.body with
    | .cons (.wrd sg) .nil => corW T d.N d.np sg (defScope st) (defBody st)
    | _ => false)) && decide ((d.N.take d.np).length = d.np)
section
variable {T : Tbl} {cv : Nat → Value} {P : Program} {w : World} {K : PySem.W.Frag} {mg : Str → Option Value} {base : Heap}
/-- what the top has left -/
structure Top (T : Tbl) (cv : Nat → Value) (sts : List Stmt) (K : PySem.W.Frag) (mg : Str → Option Value) : Prop where
  fn : ∀ (i : Nat) (d : FDef) (st : Stmt), T.fns[i]? = some d → sts[i]? = some st → ∃ f fd, FunD K d.name d.name (defArgs st) (defBody st) (defScope st) [] [] f fd ∧ mg d.name = some (.ref f) ∧ Binds K fd (d.N.take d.np) []
  len : sts.length = T.fns.length
  gl : ∀ (i : Nat) (p : Str × V), T.gls[i]? = some p → ∃ u, mg p.1 = some u ∧ RelV p.2 u
  bi : ∀ x ∈ bnames, mg x = none
  ex : ∀ (i : Nat) (x : Str), T.cls[i]? = some x → ∃ C, cv i = .ref C ∧ PySem.W.excIn K C PySem.HandSPX.veTail "ValueError.__new__" = true ∧ mg x = some (.ref C) ∧ PySem.W.keepIn K (.ref C) = true ∧ (∀ (M : Model) (h : Heap), K.In h → PySem.W.Looks M h (isSubtype (.ref C) (.type "BaseException")) true ∧ PySem.W.Looks M h (typeOf (.ref C)) (.type "type"))
def fitsAll (T : Tbl) (sts : List Stmt) : Bool := (T.fns.zip sts).all fun p => fits T p.1 p.2
theorem zip_get {α β : Type} : ∀ {xs : List α} {ys : List β} {i : Nat} {x : α} {y : β}, xs[i]? = some x → ys[i]? = some y → (x, y) ∈ xs.zip ys
  | [], _, _, _, _, h, _ => by simp at h
  | _ :: _, [], _, _, _, _, h => by simp at h
  | a :: xs, b :: ys, 0, x, y, h1, h2 => by
    simp at h1 h2
    subst h1 h2
    simp
  | a :: xs, b :: ys, i + 1, x, y, h1, h2 => by
    have := zip_get (xs := xs) (ys := ys) (i := i) (x := x) (y := y) (by simpa using h1) (by simpa using h2)
    simp [this]
theorem raw_fn {n i : Nat} {d : FDef} {st : Stmt} {f : Addr} {fd : FuncData} {sg : Nat} (F : FunD K d.name d.name (defArgs st) (defBody st) (defScope st) [] [] f fd) (S : FnScope d.N (d.N.take d.np) (defScope st)) (hbd : d.body = .cons (.wrd sg) .nil) (hw : corW T d.N d.np sg (defScope st) (defBody st) = true)
    (hlen : ∀ (vs : List V) (H : Hp) (Q : VK) (E : XK), wpF K T cv (n + 1) i vs H Q E → vs.length = (d.N.take d.np).length ∧ tSs K T (wpF K T cv n) (fun c x _ H => E c x H) cv d.body { nx := fun _ H' => Q .non H', rt := Q } (start d.N vs) H)
    (C : ∀ (cdv : Value) (A : Around) (outer : List Env) (s : Shared) (H : Hp) (E : XK), Room n (A.deeper (envOfC d.name (defScope st) s.heap.objs.size f cdv)) → Stand T cv d.N (defScope st) n (fun c x _ H => E c x H) (cxOf (L2.CX P w) P w K mg base d.N d.name (defScope st) f cdv A outer s H E)) :
    FnG (isRaw d) P w K mg base (L2.CX P w) (n + 1) f fd (d.N.take d.np) (wpF K T cv (n + 1) i) := by
  have hraw : isRaw d = true := by
    unfold isRaw
    rw [hbd]
  rw [hraw]
  obtain ⟨nm, N, np, bd⟩ := d
  simp only at hbd hw hlen C S F ⊢
  subst hbd
  generalize hsc : defScope st = scope at *
  generalize hbo : defBody st = body at *
  unfold corW at hw
  split at hw
  · rename_i N' ss' a0 a1 a2 a3 a4 x3 r1 em j5 r2 r3 x4 q1 rg q2 x1 q3 q4 y3 q5 z3 p1 g p2 p3 x0 p4 y4 p5 i1 j1 p6 y0 p7 i2 j2 p8 p9 i3 j3 p10 p11 p12 p13 p14 i4 j4 p15 p16 p17 p18 q6 q7 w3 r5 m ap x2 r7 xx j6 r4 q r9
    simp only [Bool.and_eq_true, decide_eq_true_eq, List.all_cons, List.all_nil, Bool.and_true] at hw
    obtain ⟨⟨⟨⟨⟨⟨⟨⟨⟨⟨⟨⟨⟨⟨⟨⟨⟨⟨⟨⟨⟨⟨⟨⟨⟨⟨⟨⟨e1, e2⟩, e3⟩, e4⟩, e5⟩, e6⟩, e7⟩, e8⟩, e9⟩, e10⟩, e11⟩, e12⟩, e13⟩, e14⟩, hline⟩, e16⟩, e17⟩, e18⟩, e19⟩, e20⟩, n1⟩, n2⟩, n3⟩, n4⟩, hloc⟩, g1⟩, g2⟩, g3⟩, g4⟩ := hw
    subst e1 e2 e3 e4 e5 e6 e7 e8 e9 e10 e11 e12 e13 e14 e16 e17 e18 e19 e20
    obtain ⟨⟨l0, o0⟩, ⟨l1, o1⟩, ⟨l2, o2⟩, ⟨l3, o3⟩, ⟨l4, o4⟩⟩ := hloc
    split at g4
    · rename_i dsg hds
      simp only [Bool.and_eq_true, decide_eq_true_eq, Bool.not_eq_true'] at g4
      obtain ⟨⟨u1, u2⟩, u3⟩ := g4
      obtain ⟨oc, od, dV, kV, doc, pm, an, cdv, ct, osl, rfl, lk, hcd, _, _⟩ := F.ex
      refine ⟨fun vs H Q E h => (hlen vs H Q E h).1, fun A outer s H args us vs Q E hr e0 hb r hto hsp => ?_⟩
      obtain ⟨hvl, hsp2⟩ := hlen _ _ _ _ hsp
      have hst := C cdv A outer s H E (hr.deeper _)
      have hul : us.length = 3 := by rw [← r.length, hvl]; rfl
      match vs, us, hvl, hul with
      | [v0, v1, v2], [w0, w1, w2], _, _ => ?_
      obtain ⟨yv, ty, ey, ht0, htl⟩ := hto rfl
      have ey' : w2 = .str yv ty := by simpa using ey
      subst ey'
      simp only [tSs, tS, tSeq, tNext] at hsp2
      obtain ⟨num, size, c, Sg, h0, h1, h2, hz0, hz1, hc1, hcx, hSl, hG, hQ⟩ := hsp2
      have h0' : v0 = .int num := by
        have : some (some v0) = some (some (V.int num)) := h0
        simpa using this
      have h1' : v1 = .int size := by
        have : some (some v1) = some (some (V.int size)) := h1
        simpa using this
      have h2' : v2 = vS c := by
        have : some (some v2) = some (some (vS c)) := h2
        simpa using this
      subst h0' h1' h2'
      have hyc : yv = ⟨c.toArray⟩ := by
        cases r with
        | cons _ r =>
          cases r with
          | cons _ r =>
            cases r with
            | cons r3 _ =>
              obtain ⟨t', e⟩ := r3
              cases e
              rfl
      subst hyc
      have KX : K.In s.heap := e0.mod.kin.keeps fun b o e => (e0.bs b o e).1
      have lim : s.heap.NoLimit := e0.mod.nolimit.keeps fun b o e => (e0.bs b o e).1
      have hkd : ∀ y ∈ ([y0, x1, x2] : List Str).zip [w0, w1, .str ⟨c.toArray⟩ ty], scope.names.lookup y.1 = some .local ∨ (scope.names.lookup y.1 = some .cell ∧ ((cellsFrom (s.heap.objs.size + 1) scope.names []).lookup y.1).isSome = true) := by
        intro y hy
        simp only [List.zip_cons_cons, List.zip_nil_right, List.mem_cons, List.not_mem_nil, or_false] at hy
        rcases hy with rfl | rfl | rfl
        · exact .inl l0
        · exact .inl l1
        · exact .inl l2
      refine codeAny_call_function hr.depth (KX _ _ lk) rfl S.co S.gen rfl (PySem.W.codeRec_of KX hcd) (hb _ _ _ _ ?_)
      refine wpAny_mono (wpAny_toks (newEnv_tok (Q := fun env s1 => env = newEnv scope s.heap.objs.size mainGlobals (cellsFrom (s.heap.objs.size + 1) scope.names []) (nm ++ ".<locals>.") (some f) cdv none builtinsNs ∧ InCallC s env.locals (bindL env.kindOf _ fun _ => none) env.cells (bindC env.kindOf _ fun _ => none) s1) S.kind hkd ⟨(y0, w0), by simp, l0⟩ fun env he s1 h1 y => ⟨he, y⟩)) (fun env s1 q => ?_) fun _ _ z => z.2
      obtain ⟨hk, he, y⟩ := q
      subst he
      have I : Inv (cxOf (L2.CX P w) P w K mg base [y0, x1, x2, w3, y4] nm scope f cdv A outer s H E) [] (start [y0, x1, x2, w3, y4] [.int num, .int size, vS c]) H s1 := inv_start S hr.hd e0 rfl r y
      have hraw : ∃ m, s1.heap.Ns (envOfC nm scope s.heap.objs.size f cdv).locals m ∧ m x2 = some (.str ⟨c.toArray⟩ ty) := by
        refine ⟨_, y.toInCall.ns, ?_⟩
        have hk2 : (envOfC nm scope s.heap.objs.size f cdv).kindOf x2 = some .local := by
          first
          | exact l2
          | simpa [Env.kindOf, envOfC, newEnv, S.kind] using l2
        show (if (envOfC nm scope s.heap.objs.size f cdv).kindOf x2 = some .local then fun z => if z = x2 then some (Value.str ⟨c.toArray⟩ ty) else _ else _) x2 = _
        rw [if_pos hk2, if_pos rfl]
      refine ⟨lim.keeps y.toInCall.keep, codeAny_func ?_⟩
      obtain ⟨fa, fd', F', hm', hk', hb'⟩ := hst.fx.fn sg dsg hds
      have hps : dsg.N.take dsg.np = [] := by rw [u3]; rfl
      rw [hps] at F' hb'
      rw [u1] at hm'
      obtain ⟨dg, _, _⟩ := okn1 g3
      have hsig : SigOk (cxOf (L2.CX P w) P w K mg base [y0, x1, x2, w3, y4] nm scope f cdv A outer s H E) x2 (.str ⟨c.toArray⟩ ty) g Sg H := sig_ok (F'.ok u2) hst.room (gl_ok hst g2) hm' hk' hb' dg hG
      have hty : ty + 1 ≤ s1.toks := Nat.le_trans htl hk
      have N0 : WNames (cxOf (L2.CX P w) P w K mg base [y0, x1, x2, w3, y4] nm scope f cdv A outer s H E) y0 x1 x2 w3 y4 := ⟨S.nd, rfl, rfl, rfl, rfl, rfl, l0, l1, l2, l3, l4, o0, o1, o2, o3, o4, n1, n2⟩
      refine wpAny_mono (w_body Sg hSl N0 hst.own hst.calm (gl_ok hst g1) (hst.fx.bi _ in_range) hsig ⟨I, hraw, hty⟩ (D := { nx := fun _ _ => False, rt := Q }) (num := num) (size := size) rfl rfl rfl hz0 hz1 ht0 (by rw [vS_len]; exact hc1) ?_ hQ hline) (fun fl s' hs => ?_) fun _ _ z => z
      · rw [beq_eq_false_iff_ne]
        intro e
        exact hcx (by simpa using congrArg (fun z : Str => z.cps.toList) e)
      have fin : ∀ {σ' : L2.St} {H' : Hp} {v : V} {u : Value}, Inv (cxOf (L2.CX P w) P w K mg base [y0, x1, x2, w3, y4] nm scope f cdv A outer s H E) [] σ' H' s' → RelV v u → Q v H' → CE outer P w H s Q u s' := by
        intro σ' H' v u J rv q
        exact ⟨v, H', J.os, J.bare, J.base, J.hok, rv, q⟩
      cases fl with
      | ret u => exact hs.elim fun v hs => hs.elim fun σ' hs => hs.elim fun H' hs => fin hs.1 hs.2.1 hs.2.2
      | next => exact hs.elim fun _ hs => hs.elim fun _ hs => hs.2.elim
      | brk => exact hs.elim fun _ hs => hs.elim fun _ hs => hs.2.elim
      | cont => exact hs.elim fun _ hs => hs.elim fun _ hs => hs.2.elim
    · cases g4
  · cases hw
/-- THE PROGRAM: every def keeps what its body says, to any depth -/
theorem fns_ok {sts : List Stmt} (Z : Top T cv sts K mg) (hf : fitsAll T sts = true) : ∀ (n i : Nat) (d : FDef) (st : Stmt) (f : Addr) (fd : FuncData), T.fns[i]? = some d → sts[i]? = some st →
    FunD K d.name d.name (defArgs st) (defBody st) (defScope st) [] [] f fd → FnG (isRaw d) P w K mg base (L2.CX P w) n f fd (d.N.take d.np) (wpF K T cv n i)
  | 0, i, d, st, f, fd, hi, hs, F => ⟨fun vs H Q E h => False.elim h, fun A outer s H args us vs Q E _ _ _ _ _ h => False.elim h⟩
  | n + 1, i, d, st, f, fd, hi, hs, F => by
    have ht := List.all_eq_true.mp hf (d, st) (zip_get hi hs)
    unfold fits at ht
    simp only [Bool.and_eq_true] at ht
    obtain ⟨⟨h1, h2⟩, h4⟩ := ht
    have S := scopeB_ok h1
    have hnp := of_decide_eq_true h4
    have hlen : ∀ (vs : List V) (H : Hp) (Q : VK) (E : XK), wpF K T cv (n + 1) i vs H Q E → vs.length = (d.N.take d.np).length ∧ tSs K T (wpF K T cv n) (fun c x _ H => E c x H) cv d.body { nx := fun _ H' => Q .non H', rt := Q } (start d.N vs) H := by
      intro vs H Q E h
      have h' : (match T.fns[i]? with
        | none => False
        | some d => vs.length = d.np ∧ tSs K T (wpF K T cv n) (fun c x _ H => E c x H) cv d.body { nx := fun _ H' => Q .non H', rt := Q } (start d.N vs) H) := h
      rw [hi] at h'
      rw [hnp]
      exact h'
    have C : ∀ (cdv : Value) (A : Around) (outer : List Env) (s : Shared) (H : Hp) (E : XK), Room n (A.deeper (envOfC d.name (defScope st) s.heap.objs.size f cdv)) → Stand T cv d.N (defScope st) n (fun c x _ H => E c x H) (cxOf (L2.CX P w) P w K mg base d.N d.name (defScope st) f cdv A outer s H E) := by
      intro cdv A outer s H E hr
      exact {
        fx := ⟨fun j d' hj => by
          have hl : j < sts.length := by
            rw [Z.len]
            exact (List.getElem?_eq_some_iff.mp hj).1
          have hs' := List.getElem?_eq_getElem hl
          obtain ⟨f', fd', F', hm', hb'⟩ := Z.fn j d' _ hj hs'
          exact ⟨f', fd', fns_ok Z hf n j d' _ f' fd' hj hs' F', hm', F'.kp, hb'⟩, Z.gl, Z.bi, fun j x hj => by
          obtain ⟨C, q1, q2, q3, q4, q5⟩ := Z.ex j x hj
          exact ⟨C, q1, q2, q3, q4, q5⟩⟩
        hN := rfl
        nd := S.nd
        sub := fun x k hk => ⟨k, hk, .inl rfl⟩
        calm := rfl
        kf := S.kind
        room := hr
        takes := takes_of rfl rfl rfl rfl
        fn := fun x _ => rfl
        own := passes_of rfl }
    rcases Bool.or_eq_true_iff.mp h2 with h2 | h2
    · rcases Bool.or_eq_true_iff.mp h2 with h2 | h2
      · rcases Bool.or_eq_true_iff.mp h2 with h2 | h2
        · exact .of (F.ok S (fun vs H Q E h => (hlen vs H Q E h).1) fun cdv A outer s H vs Q E hr h =>
            ⟨_, corSs_ok (W := fun c x _ H => E c x H) (cv := cv) d.body (defScope st) _ (C cdv A outer s H E hr) h2, (hlen vs H Q E h).2⟩)
        · rw [Bool.and_eq_true] at h2
          obtain ⟨h5, h6⟩ := h2
          exact .of (F.okT S (someLoc_ok h6) (fun vs H Q E h => (hlen vs H Q E h).1) fun cdv A outer s H vs Q E hr h =>
            ⟨_, corB_ok (W := fun c x _ H => E c x H) (cv := cv) d.body (defScope st) _ (C cdv A outer s H E hr) h5, (hlen vs H Q E h).2⟩)
      · rw [Bool.and_eq_true] at h2
        obtain ⟨h5, h6⟩ := h2
        exact .of (F.okT S (someLoc_ok h6) (fun vs H Q E h => (hlen vs H Q E h).1) fun cdv A outer s H vs Q E hr h =>
          ⟨_, corSsT_ok (W := fun c x _ H => E c x H) (cv := cv) d.body (defScope st) _ (C cdv A outer s H E hr) h5, (hlen vs H Q E h).2⟩)
    · split at h2
      · rename_i sg hbd
        exact raw_fn F S hbd h2 hlen C
      · cases h2
end
theorem exc_fact {K : PySem.W.Frag} {h : Heap} {mg : Str → Option Value} {x : Str} (X : K.In h) (G : h.Ns mainGlobals mg) (cg : (He.Fa.glo x).ok K = true) (c : (He.Fa.exc x).ok K = true) : ∃ C, Value.ref (He.ga K x) = .ref C ∧ PySem.W.excIn K C PySem.HandSPX.veTail "ValueError.__new__" = true ∧ mg x = some (.ref C) ∧ PySem.W.keepIn K (.ref C) = true ∧
    (∀ (M : Model) (h : Heap), K.In h → PySem.W.Looks M h (isSubtype (.ref C) (.type "BaseException")) true ∧ PySem.W.Looks M h (typeOf (.ref C)) (.type "type")) := by
  obtain ⟨c1, c2, c3, c4⟩ := He.exc_ok c
  exact ⟨_, rfl, c1, He.glo_ok X G cg, c2, fun M h Y => ⟨PySem.W.looks_subIn Y c3, PySem.W.looks_typeIn Y c4⟩⟩
theorem nox {P : Program} {w : World} {o : List Env} {H : Hp} {s s' : Shared} {e : Value} (h : L2.CX P w o H s (fun _ _ _ => False) e s') : False := by
  obtain ⟨_, _, _, _, _, _, _, _, _, _, _, _, z⟩ := h
  exact z
/-- a law's end, the wish about exceptions by the world -/
theorem walk_w {l : PySem.W.OpenLaw} {n k : Nat} {q : Program} {loose : List Str} {XP : (Str → Option Value) → Heap → Prop} {YP : World → Heap → Prop} {d : DefRec} {x : Str}
    (hn : l.most = some n) (hn2 : n ≤ sizeLine) (hdf : d.params.defaults = []) (hr : Room k callerA)
    (F : ∀ (w : World) (mg : Str → Option Value) (fa : Addr) (h : Heap), YP w h → h.Ns mainGlobals mg → mg d.name = some (.ref fa) →
      ∃ (K : PySem.W.Frag) (fd : FuncData) (sp : Sp), K.In h ∧ (∀ (s : Shared) (u : Value), BindsTo s fd ⟨[u], []⟩ [(x, u)]) ∧
        (∀ (H : Hp) (a : Addr) (ns : List Int), ns.length ≤ n → SqL K H a (ns.map V.int) → sp [.ref a] H (fun v _ => v = .bl true) fun _ _ _ => False) ∧
        ∀ base : Heap, K.In base → base.Ns mainGlobals mg → FnOk l.prog w K mg base (L2.CX l.prog w) k fa fd [x] sp) :
    PySem.W.WalkO q loose XP YP l.row.toRowW d [] (fun f vs => PySem.call f vs) := by
  refine Att.attach_call hn hdf fun w s₀ s₁ mg mb fa o pm cd doc a vs ns G Y ho hd hcd hmg hobj hints hlen hg => ?_
  obtain ⟨K, fd, sp, KX, hb, hsp, hF⟩ := F w mg fa _ Y G.T.g hmg
  exact law_call KX G.T.g G.T.b G.T.builtins G.T.nolimit hg hobj hints (Nat.le_trans hlen hn2) hr hF hb (fun H _ hS => hsp H a ns hlen hS) fun H e s' => nox
end Fw

set_option maxHeartbeats 4000000
namespace Fw
open PySem PySem.Spec PyProof.Rows L2

/-! ### an interpreter over plain data -/
/-- what running gives: a value, an exception's class, or nothing that is served -/
inductive Rs (α : Type) where
  | ok (a : α) | ex (c : Nat) | er
def Rs.bind {α β : Type} (r : Rs α) (f : α → Rs β) : Rs β := match r with
  | .ok a => f a
  | .ex c => .ex c
  | .er => .er
def Rs.chk {α : Type} (c : Bool) (r : Rs α) : Rs α := match c with
  | true => r
  | false => .er
/-- an exception within a comprehension isn't served -/
def Rs.quiet {α : Type} (r : Rs α) : Rs α := match r with
  | .ok a => .ok a
  | _ => .er
def leq (a b : Nat) : Bool := decide (a ≤ b)
def datC : V → Rs Dat
  | .non => .ok .non
  | .bl b => .ok (.bl b)
  | .int i => .ok (.int i)
  | .str s => .ok (.str s.cps.toList)
  | _ => .er
def small64 (i : Int) : Bool := decide (-(2 ^ 64) < i) && decide (i < 2 ^ 64)
def binD : BOp → Dat → Dat → Rs Dat
  | .add, .int i, .int j => .ok (.int (i + j))
  | .add, .str a, .str b => .chk (leq (a.length + b.length) sizeLine) (.ok (.str (a ++ b)))
  | .add, .lst a, .lst b => .chk (leq (a.length + b.length) sizeLine) (.ok (.lst (a ++ b)))
  | .sub, .int i, .int j => .ok (.int (i - j))
  | .mul, .int i, .int j => .chk (small64 i || small64 j) (.ok (.int (i * j)))
  | .mul, .str a, .int n => .chk (decide (n < 2 ^ 20) && decide (-(2 ^ 62) < n) && decide (a.length < 1000) && leq (a.length * n.toNat) sizeLine) (.ok (.str (repS a n)))
  | .mul, .lst a, .int n => .chk (decide (n < 2 ^ 20) && decide (-(2 ^ 62) < n) && leq (a.length * n.toNat) sizeLine) (.ok (.lst (List.replicate n.toNat a).flatten))
  | .mod, .int i, .int j => .chk (decide (j ≠ 0)) (.ok (.int (i.fmod j)))
  | .fdiv, .int i, .int j => .chk (decide (j ≠ 0) && decide (j.natAbs < 1073741824)) (.ok (.int (i.fdiv j)))
  | .pow, .int i, .int j => .chk (decide (0 ≤ j) && decide (j ≤ 1000000) && decide (i.natAbs < 2 ^ 64)) (.ok (.int (i ^ j.toNat)))
  | _, _, _ => .er
/-- as scal, of data -/
def scalD : Dat → Dat → Bool
  | .non, .non => true
  | .non, .int _ => true
  | .int _, .non => true
  | .non, .bl _ => true
  | .bl _, .non => true
  | .non, .str _ => true
  | .str _, .non => true
  | .int _, .int _ => true
  | .bl _, .bl _ => true
  | .str _, .str _ => true
  | .int _, .str _ => true
  | .str _, .int _ => true
  | .bl _, .str _ => true
  | .str _, .bl _ => true
  | _, _ => false
def eqD (neg : Bool) (d e : Dat) : Rs Dat := match scalD d e with
  | true => .ok (.bl (neg != eqv d e))
  | false => match d, e with
    | .lst xs, .lst [] => .ok (.bl (neg != xs.isEmpty))
    | d, e => .chk (cmpOk d e) (.ok (.bl (neg != eqv d e)))
def flatD : Dat → Bool
  | .non => true
  | .bl _ => true
  | .int _ => true
  | .str _ => true
  | _ => false
def inD (neg : Bool) (d e : Dat) : Rs Dat := match d, e with
  | .str a, .str b => .ok (.bl (neg != isSub a b))
  | d, .tup xs => .chk (flatD d && xs.all flatD) (.ok (.bl (neg != xs.any fun y => eqv y d)))
  | d, .lst xs => .chk (flatD d && xs.all flatD) (.ok (.bl (neg != xs.any fun y => eqv y d)))
  | _, _ => .er
def isD (neg : Bool) (d e : Dat) : Rs Dat := match e with
  | .non => .ok (.bl (neg != (match d with | .non => true | _ => false)))
  | .bl b => .ok (.bl (neg != (match d with | .bl c => c == b | _ => false)))
  | _ => .er
def ordD (f : Int → Int → Bool) (d e : Dat) : Rs Dat := match d, e with
  | .int i, .int j => .ok (.bl (f i j))
  | _, _ => .er
def cmpD : COp → Dat → Dat → Rs Dat
  | .eq => eqD false
  | .ne => eqD true
  | .lt => ordD fun i j => decide (i < j)
  | .le => ordD fun i j => decide (i ≤ j)
  | .gt => ordD fun i j => decide (i > j)
  | .ge => ordD fun i j => decide (i ≥ j)
  | .isin => inD false
  | .notin => inD true
  | .is_ => isD false
  | .isnot => isD true
def lenD : Dat → Rs Dat
  | .str a => .chk (leq a.length sizeLine) (.ok (.int a.length))
  | .lst xs => .ok (.int xs.length)
  | .tup xs => .ok (.int xs.length)
  | .frz xs => .ok (.int xs.length)
  | _ => .er
def isiD (t : String) : Dat → Bool
  | .non => false
  | .bl _ => t == "bool" || t == "int"
  | .int _ => t == "int"
  | .str _ => t == "str"
  | .lst _ => t == "list"
  | .frz _ => t == "list"
  | .tup _ => t == "tuple"
def intD : Dat → Rs Dat
  | .int i => .ok (.int i)
  | .bl b => .ok (.int (if b = true then 1 else 0))
  | _ => .er
def listD : Dat → Rs Dat
  | .lst xs => .ok (.lst xs)
  | .tup xs => .ok (.lst xs)
  | .frz xs => .ok (.lst xs)
  | _ => .er
def tuplD : Dat → Rs Dat
  | .lst xs => .ok (.tup xs)
  | .tup xs => .ok (.tup xs)
  | .frz xs => .ok (.tup xs)
  | _ => .er
def minD : Dat → Dat → Rs Dat
  | .int i, .int j => .ok (.int (if j < i then j else i))
  | _, _ => .er
def lstripD : Dat → Dat → Rs Dat
  | .str a, .str [c] => .chk (leq a.length sizeLine) (.ok (.str (a.dropWhile (· == c))))
  | _, _ => .er
def strsD : List Dat → Option (List (List Nat))
  | [] => some []
  | .str a :: r => (strsD r).map (a :: ·)
  | _ :: _ => none
def joinD : Dat → Dat → Rs Dat
  | .str a, .lst xs => match strsD xs with
    | some ys => .chk (leq ((ys.map List.length).sum + ys.length * a.length) 16777216) (.ok (.str (joinL a ys)))
    | none => .er
  | _, _ => .er
def findD : Dat → Dat → Dat → Rs Dat
  | .str a, .str [c], .int i => .chk (decide (0 ≤ i) && decide (i ≤ a.length)) (.ok (.int (findC c a i.toNat)))
  | _, _, _ => .er
def splitD : Dat → Dat → Rs Dat
  | .str a, .str [c] => .chk (decide (c < 256) && leq (a.length + 2) sizeLine) (.ok (.lst ((splitC c a).map Dat.str)))
  | _, _ => .er
def partD : Dat → Dat → Rs Dat
  | .str a, .str [c] => .chk (leq a.length sizeLine) (.ok (.tup [.str (partC c a).1, .str (partC c a).2.1, .str (partC c a).2.2]))
  | _, _ => .er
def ofO {α : Type} : Option α → Rs α
  | some a => .ok a
  | none => .er
def idxD : Dat → Dat → Rs Dat
  | .str a, .int i => .chk (leq a.length sizeLine) ((ofO (atI a i)).bind fun c => .ok (.str [c]))
  | .lst xs, .int i => ofO (atI xs i)
  | .tup xs, .int i => ofO (atI xs i)
  | .frz xs, .int i => ofO (atI xs i)
  | _, _ => .er
/-- a slice of any list -/
def cutL {α : Type} (xs : List α) (lo hi : Option Int) : List α := (xs.drop (HT.sIx xs.length 0 lo)).take (HT.sIx xs.length xs.length hi - HT.sIx xs.length 0 lo)
def slD (lo hi : Option Int) : Dat → Rs Dat
  | .str a => .chk (leq a.length sizeLine) (.ok (.str (cutL a lo hi)))
  | .lst xs => .ok (.lst (cutL xs lo hi))
  | .frz xs => .ok (.lst (cutL xs lo hi))
  | _ => .er
def asInt {α : Type} (d : Dat) (f : Int → Rs α) : Rs α := match d with
  | .int i => f i
  | _ => .er
def asBl {α : Type} (d : Dat) (f : Bool → Rs α) : Rs α := match d with
  | .bl b => f b
  | _ => .er
def itemsL : Dat → Rs (List Dat)
  | .lst xs => .ok xs
  | .frz xs => .ok xs
  | _ => .er
def itemsS : Dat → Rs (List Dat)
  | .str a => .ok (a.map fun c => .str [c])
  | _ => .er
def itemsR : Dat → Rs (List Dat)
  | .int n => .chk (decide (-(2 ^ 62) ≤ n) && decide (n < 2 ^ 62)) (.ok ((List.range n.toNat).map fun k => .int (k : Nat)))
  | _ => .er
def mapD (f : Dat → Rs Dat) : List Dat → Rs (List Dat)
  | [] => .ok []
  | x :: r => (f x).bind fun y => (mapD f r).bind fun ys => .ok (y :: ys)
def mapIfD (c : Dat → Rs Bool) (f : Dat → Rs Dat) : List Dat → Rs (List Dat)
  | [] => .ok []
  | x :: r => (c x).bind fun b => match b with
    | true => (f x).bind fun y => (mapIfD c f r).bind fun ys => .ok (y :: ys)
    | false => mapIfD c f r
def isStr : Dat → Bool
  | .str _ => true
  | _ => false
def notSt : Itr → Bool
  | .st _ => false
  | _ => true
abbrev Env1 := List (Option Dat)
abbrev Gd := Nat → List Dat → Rs (Dat × List Dat)
mutual
def evD (T : Tbl) (io : Nat → Bool) (G : Gd) : Ex → Env1 → Rs Dat
  | .var i, ρ => ofO (ρ.getD i none)
  | .con v, _ => datC v
  | .glb i, _ => datC ((T.gls.map (·.2)).getD i .non)
  | .bin o a b, ρ => (evD T io G a ρ).bind fun x => (evD T io G b ρ).bind fun y => binD o x y
  | .neg a, ρ => (evD T io G a ρ).bind fun x => asInt x fun i => .ok (.int (-i))
  | .not a, ρ => (evD T io G a ρ).bind fun x => asBl x fun b => .ok (.bl (!b))
  | .cmp o a b, ρ => (evD T io G a ρ).bind fun x => (evD T io G b ρ).bind fun y => cmpD o x y
  | .chn o o' a b c, ρ => (evD T io G a ρ).bind fun x => (evD T io G b ρ).bind fun y => (cmpD o x y).bind fun z => asBl z fun k => match k with
    | true => (evD T io G c ρ).bind fun u => cmpD o' y u
    | false => .ok (.bl false)
  | .and a b, ρ => (evD T io G a ρ).bind fun x => asBl x fun k => match k with
    | true => evD T io G b ρ
    | false => .ok (.bl false)
  | .or a b, ρ => (evD T io G a ρ).bind fun x => asBl x fun k => match k with
    | true => .ok (.bl true)
    | false => evD T io G b ρ
  | .ite c a b, ρ => (evD T io G c ρ).bind fun x => asBl x fun k => match k with
    | true => evD T io G a ρ
    | false => evD T io G b ρ
  | .call f as, ρ => (evA T io G as ρ).bind fun ds => match io f with
    | true => .er
    | false => (G f ds).bind fun r => .ok r.1
  | .len a, ρ => (evD T io G a ρ).bind lenD
  | .isi a t, ρ => (evD T io G a ρ).bind fun x => .chk (tyNames.contains t) (.ok (.bl (isiD t x)))
  | .int a, ρ => (evD T io G a ρ).bind intD
  | .list a, ρ => (evD T io G a ρ).bind listD
  | .tupl a, ρ => (evD T io G a ρ).bind tuplD
  | .min a b, ρ => (evD T io G a ρ).bind fun x => (evD T io G b ρ).bind fun y => minD x y
  | .app _ _, _ => .er
  | .pop _, _ => .er
  | .ext _ _, _ => .er
  | .lstrip o e, ρ => (evD T io G o ρ).bind fun x => .chk (isStr x) <| (evD T io G e ρ).bind fun y => lstripD x y
  | .join o e, ρ => (evD T io G o ρ).bind fun x => .chk (isStr x) <| (evD T io G e ρ).bind fun y => joinD x y
  | .find o e i, ρ => (evD T io G o ρ).bind fun x => .chk (isStr x) <| (evD T io G e ρ).bind fun y => (evD T io G i ρ).bind fun z => findD x y z
  | .split o e, ρ => (evD T io G o ρ).bind fun x => .chk (isStr x) <| (evD T io G e ρ).bind fun y => splitD x y
  | .part o e, ρ => (evD T io G o ρ).bind fun x => .chk (isStr x) <| (evD T io G e ρ).bind fun y => partD x y
  | .idx a b, ρ => (evD T io G a ρ).bind fun x => (evD T io G b ρ).bind fun y => idxD x y
  | .slf a lo, ρ => (evD T io G a ρ).bind fun x => (evD T io G lo ρ).bind fun y => asInt y fun i => slD (some i) none x
  | .slt a hi, ρ => (evD T io G a ρ).bind fun x => (evD T io G hi ρ).bind fun y => asInt y fun i => slD none (some i) x
  | .sl a lo hi, ρ => (evD T io G a ρ).bind fun x => (evD T io G lo ρ).bind fun y => asInt y fun i => (evD T io G hi ρ).bind fun z => asInt z fun j => slD (some i) (some j) x
  | .lst as, ρ => (evA T io G as ρ).bind fun ds => .chk (leq ds.length sizeLine) (.ok (.lst ds))
  | .tup as, ρ => (evA T io G as ρ).bind fun ds => .chk (leq ds.length sizeLine) (.ok (.tup ds))
  | .lc j it e, ρ => .chk (notSt it) <| (evI T io G it ρ).bind fun xs => .chk (decide (xs.length < sizeLine)) ((mapD (fun x => (evD T io G e (ρ.set j (some x))).quiet) xs).bind fun ys => .ok (.lst ys))
  | .lcif j it c e, ρ => .chk (notSt it) <| (evI T io G it ρ).bind fun xs => .chk (decide (xs.length < sizeLine)) ((mapIfD (fun x => (evD T io G c (ρ.set j (some x))).quiet.bind fun z => asBl z .ok) (fun x => (evD T io G e (ρ.set j (some x))).quiet) xs).bind fun ys => .ok (.lst ys))
def evA (T : Tbl) (io : Nat → Bool) (G : Gd) : Exs → Env1 → Rs (List Dat)
  | .nil, _ => .ok []
  | .cons e es, ρ => (evD T io G e ρ).bind fun x => (evA T io G es ρ).bind fun xs => .ok (x :: xs)
def evI (T : Tbl) (io : Nat → Bool) (G : Gd) : Itr → Env1 → Rs (List Dat)
  | .ls e, ρ => (evD T io G e ρ).bind itemsL
  | .st e, ρ => (evD T io G e ρ).bind itemsS
  | .rg e, ρ => (evD T io G e ρ).bind itemsR
end
/-! ### which slots an expression names -/
mutual
def ment : Ex → Nat → Bool
  | .var i, k => i == k
  | .con _, _ => false
  | .glb _, _ => false
  | .bin _ a b, k => ment a k || ment b k
  | .neg a, k => ment a k
  | .not a, k => ment a k
  | .cmp _ a b, k => ment a k || ment b k
  | .chn _ _ a b c, k => ment a k || ment b k || ment c k
  | .and a b, k => ment a k || ment b k
  | .or a b, k => ment a k || ment b k
  | .ite c a b, k => ment c k || ment a k || ment b k
  | .call _ as, k => mentA as k
  | .len a, k => ment a k
  | .isi a _, k => ment a k
  | .int a, k => ment a k
  | .list a, k => ment a k
  | .tupl a, k => ment a k
  | .min a b, k => ment a k || ment b k
  | .app a b, k => ment a k || ment b k
  | .pop a, k => ment a k
  | .ext a b, k => ment a k || ment b k
  | .lstrip a b, k => ment a k || ment b k
  | .join a b, k => ment a k || ment b k
  | .find a b c, k => ment a k || ment b k || ment c k
  | .split a b, k => ment a k || ment b k
  | .part a b, k => ment a k || ment b k
  | .idx a b, k => ment a k || ment b k
  | .slf a b, k => ment a k || ment b k
  | .slt a b, k => ment a k || ment b k
  | .sl a b c, k => ment a k || ment b k || ment c k
  | .lst as, k => mentA as k
  | .tup as, k => mentA as k
  | .lc _ it e, k => mentI it k || ment e k
  | .lcif _ it c e, k => mentI it k || ment c k || ment e k
def mentA : Exs → Nat → Bool
  | .nil, _ => false
  | .cons e es, k => ment e k || mentA es k
def mentI : Itr → Nat → Bool
  | .ls e, k => ment e k
  | .st e, k => ment e k
  | .rg e, k => ment e k
end
/-! no list within -/
mutual
def nolst : Dat → Bool
  | .lst _ => false
  | .frz _ => false
  | .tup ds => nolstL ds
  | _ => true
def nolstL : List Dat → Bool
  | [] => true
  | d :: ds => nolst d && nolstL ds
end
/-- a new list is made -/
def fresh : Ex → Bool
  | .lst _ => true
  | .lc _ _ _ => true
  | .lcif _ _ _ _ => true
  | .list _ => true
  | .slf _ _ => true
  | .slt _ _ => true
  | .sl _ _ _ => true
  | .bin _ _ _ => true
  | .split _ _ => true
  | _ => false

/-! ### statements -/
abbrev DS := List (Option (Dat × Bool))
def vals (ρ : DS) : Env1 := ρ.map fun x => x.map (·.1)
/-- what running a statement gives -/
inductive Rd where
  | nx (ρ : DS) | rt (d : Dat) (ρ : DS) | ct (ρ : DS) | ex (c : Nat) | er
def Rd.bind (r : Rd) (f : DS → Rd) : Rd := match r with
  | .nx ρ => f ρ
  | r => r
def onRs {α : Type} (r : Rs α) (f : α → Rd) : Rd := match r with
  | .ok a => f a
  | .ex c => .ex c
  | .er => .er
/-- what e names is no more owned -/
def unownF (m : Nat → Bool) : Nat → DS → DS
  | _, [] => []
  | k, x :: r => (match x with
    | some (d, true) => some (d, !m k)
    | x => x) :: unownF m (k + 1) r
def unown (e : Ex) (d : Dat) (ρ : DS) : DS := match nolst d with
  | true => ρ
  | false => unownF (ment e) 0 ρ
def unownL (as : Exs) (xs : List Dat) (ρ : DS) : DS := match nolstL xs with
  | true => ρ
  | false => unownF (mentA as) 0 ρ
def isLst : Dat → Bool
  | .lst _ => true
  | _ => false
def ownAt (ρ : DS) (i : Nat) : Option (List Dat) := match ρ.getD i none with
  | some (.lst ds, true) => some ds
  | _ => none
def forD (j : Nat) (body : DS → Rd) : List Dat → DS → Rd
  | [], ρ => .nx ρ
  | x :: r, ρ => match body (ρ.set j (some (x, false))) with
    | .nx ρ' => forD j body r ρ'
    | .ct ρ' => forD j body r ρ'
    | o => o
def whD (c : DS → Rs Bool) (body : DS → Rd) : Nat → DS → Rd
  | 0, _ => .er
  | n + 1, ρ => onRs (c ρ) fun b => match b with
    | true => (match body ρ with
      | .nx ρ' => whD c body n ρ'
      | .ct ρ' => whD c body n ρ'
      | o => o)
    | false => .nx ρ
def unownI (it : Itr) (ρ : DS) : DS := unownF (mentI it) 0 ρ
/-- the caller's list isn't walked -/
def forOk (z : Bool) (it : Itr) (ρ : DS) : Bool := match z with
  | true => !mentI it 0 && (ownAt ρ 0).isSome
  | false => true
/-- z: may slot 0 not be stored (it is the caller's list) -/
def okSlot (z : Bool) (i : Nat) (ρ : DS) : Bool := !(z && i == 0) && decide (i < ρ.length)
def wrdD (z : Bool) (r : Rs (Dat × List Dat)) (x y w : Option (Dat × Bool)) (ρ : DS) : Rd := match z, r, x, y, w with
  | false, .ok (.str S, _), some (.int num, false), some (.int size, false), some (.str c, false) =>
    (match decide (0 ≤ size) && decide (size ≤ 1000) && leq 1 c.length && !(c == [120]) && decide (S.length = 94) with
    | true => .rt (.str (StrLaws.replL c [120] (wList S num size.toNat))) ρ
    | false => .er)
  | _, _, _, _, _ => .er
mutual
def exD (T : Tbl) (io : Nat → Bool) (G : Gd) (wf : Nat) (z : Bool) : Sm → DS → Rd
  | .asg i e, ρ => onRs (evD T io G e (vals ρ)) fun d => match okSlot z i ρ with
    | true => .nx ((unown e d ρ).set i (some (d, fresh e && isLst d)))
    | false => .er
  | .ex e, ρ => match e with
    | .app (.var i) e => (match ownAt ρ i with
      | none => .er
      | some _ => onRs (evD T io G e (vals ρ)) fun d => match ownAt (unown e d ρ) i with
        | some ds => (match decide (ds.length < sizeLine) with
          | true => .nx ((unown e d ρ).set i (some (.lst (ds ++ [d]), true)))
          | false => .er)
        | none => .er)
    | .ext (.var i) e => (match ownAt ρ i with
      | none => .er
      | some _ => onRs (evD T io G e (vals ρ)) fun d => match d with
        | .lst es => (match ownAt (unownF (ment e) 0 ρ) i with
          | some ds => (match leq (ds.length + es.length) sizeLine with
            | true => .nx ((unownF (ment e) 0 ρ).set i (some (.lst (ds ++ es), true)))
            | false => .er)
          | none => .er)
        | _ => .er)
    | .call f (.cons (.var i) as) => (match io f with
      | true => (match ownAt ρ i, mentA as i with
        | some ds, false => onRs (evA T io G as (vals ρ)) fun xs => onRs (G f (.lst ds :: xs)) fun r => .nx ((unownL as xs ρ).set i (some (.lst r.2, true)))
        | _, _ => .er)
      | false => onRs (evD T io G e (vals ρ)) fun _ => .nx ρ)
    | e => onRs (evD T io G e (vals ρ)) fun _ => .nx ρ
  | .set _ _ _, _ => .er
  | .ret e, ρ => onRs (evD T io G e (vals ρ)) fun d => .rt d ρ
  | .ite c a b, ρ => onRs (evD T io G c (vals ρ)) fun d => match d with
    | .bl true => exDs T io G wf z a ρ
    | .bl false => exDs T io G wf z b ρ
    | _ => .er
  | .whl c b, ρ => whD (fun ρ => (evD T io G c (vals ρ)).bind fun d => asBl d .ok) (exDs T io G wf z b) wf ρ
  | .for_ j it b, ρ => onRs (evI T io G it (vals ρ)) fun xs => match okSlot z j ρ && forOk z it ρ with
    | true => forD j (exDs T io G wf z b) xs (unownI it ρ)
    | false => .er
  | .cont, ρ => .ct ρ
  | .raise c, _ => .ex c
  | .rrep e y z, ρ => onRs (evD T io G e (vals ρ)) fun d => match d with
    | .str x => (match leq (x.length + (x.length + 1) * z.length) 16777216 && leq 1 y.length with
      | true => .rt (.str (StrLaws.replL y z x)) ρ
      | false => .er)
    | _ => .er
  | .wrd sg, ρ => wrdD (io sg) (G sg []) (ρ.getD 0 none) (ρ.getD 1 none) (ρ.getD 2 none) ρ
def exDs (T : Tbl) (io : Nat → Bool) (G : Gd) (wf : Nat) (z : Bool) : Sms → DS → Rd
  | .nil, ρ => .nx ρ
  | .cons s r, ρ => (exD T io G wf z s ρ).bind fun ρ' => exDs T io G wf z r ρ'
end
def startD (N : Nat) (z : Bool) (ds : List Dat) : DS := match ds, z with
  | d :: r, true => some (d, true) :: (r.map fun d => some (d, false)) ++ List.replicate (N - (r.length + 1)) none
  | ds, _ => (ds.map fun d => some (d, false)) ++ List.replicate (N - ds.length) none
/-- a def's end -/
def outD (z : Bool) : Rd → Rs (Dat × List Dat)
  | .nx ρ => (match z with
    | true => (ofO (ownAt ρ 0)).bind fun ds => .ok (.non, ds)
    | false => .ok (.non, []))
  | .rt d ρ => (match z with
    | true => .er
    | false => .ok (d, []))
  | .ct _ => .er
  | .ex c => .ex c
  | .er => .er
abbrev Exn := Nat → Option (Nat × (List Dat → Rs Dat))
/-- the program over plain data, by the depth of calls; X: defs whose meaning is shown by hand, from a depth on -/
def callD (T : Tbl) (io : Nat → Bool) (X : Exn) (wf : Nat) : Nat → Gd
  | 0, _, _ => .er
  | n + 1, f, ds => match X f with
    | some (lv, g) => .chk (leq lv (n + 1)) ((g ds).bind fun d => .ok (d, []))
    | none => match T.fns[f]? with
      | none => .er
      | some d => .chk (decide (ds.length = d.np)) (outD (io f) (exDs T io (callD T io X wf n) wf (io f) d.body (startD d.N.length (io f) ds)))
end Fw

set_option maxHeartbeats 4000000
namespace Fw
open PySem PySem.Spec PyProof.Rows L2
open Classical

noncomputable def hide (Z : Addr → Prop) (H : Hp) : Hp := fun a => if Z a then none else H a
def ZD (Z : Addr → Prop) (H : Hp) : Prop := ∀ a, Z a → H a ≠ none
section
variable {K : PySem.W.Frag} {Z Z' : Addr → Prop} {H H' H1 H2 : Hp}
theorem hide_some {a : Addr} {o : HO} (h : hide Z H a = some o) : H a = some o ∧ ¬ Z a := by
  unfold hide at h
  split at h
  · cases h
  · exact ⟨h, by assumption⟩
theorem hide_of {a : Addr} {o : HO} (h : H a = some o) (z : ¬ Z a) : hide Z H a = some o := by
  unfold hide
  rw [if_neg z]
  exact h
theorem hide_same (s : Same H H') : Same (hide Z H) (hide Z H') := fun b o h => by
  obtain ⟨h1, h2⟩ := hide_some h
  exact hide_of (s b o h1) h2
theorem hide_anti (s : ∀ a, Z' a → Z a) : Same (hide Z H) (hide Z' H) := fun b o h => by
  obtain ⟨h1, h2⟩ := hide_some h
  exact hide_of h1 fun z => h2 (s b z)
theorem hide_le : Same (hide Z H) H := fun b o h => (hide_some h).1
theorem ZD.same (z : ZD Z H) (s : Same H H') : ZD Z H' := fun a ha e => by
  cases h : H a with
  | none => exact z a ha h
  | some o => rw [s a o h] at e; cases e
theorem ZD.new (z : ZD Z H) {p : Addr} (h : H p = none) : ¬ Z p := fun hz => z p hz h
theorem same_new {p : Addr} {o : HO} (h : H p = none) : Same H (upd H p o) := fun b x e => by
  rw [upd_ne (ne_of_none e h)]
  exact e
mutual
theorem rep_mono (s : Same H H') : ∀ (d : Dat) (v : V), Rep K H d v → Rep K H' d v
  | .non, v, h => by simpa only [Rep] using h
  | .bl b, v, h => by simpa only [Rep] using h
  | .int i, v, h => by simpa only [Rep] using h
  | .str t, v, h => by simpa only [Rep] using h
  | .lst ds, v, h => by
    simp only [Rep] at h ⊢
    obtain ⟨a, vs, e, h1, h2⟩ := h
    exact ⟨a, vs, e, s _ _ h1, repL_mono s ds vs h2⟩
  | .tup ds, v, h => by
    simp only [Rep] at h ⊢
    obtain ⟨a, vs, e, h1, h2⟩ := h
    exact ⟨a, vs, e, s _ _ h1, repL_mono s ds vs h2⟩
  | .frz ds, v, h => by
    simp only [Rep] at h ⊢
    obtain ⟨a, vs, e, h1, h2⟩ := h
    exact ⟨a, vs, e, s.seq h1, repL_mono s ds vs h2⟩
theorem repL_mono (s : Same H H') : ∀ (ds : List Dat) (vs : List V), RepL K H ds vs → RepL K H' ds vs
  | [], vs, h => by simpa only [RepL] using h
  | d :: ds, vs, h => by
    simp only [RepL] at h ⊢
    obtain ⟨v, r, e, h1, h2⟩ := h
    exact ⟨v, r, e, rep_mono s d v h1, repL_mono s ds r h2⟩
end
mutual
/-- where there is no list, hiding lists hides nothing -/
theorem rep_nolst (s : ∀ a vs, H a = some (.tup vs) → H' a = some (.tup vs)) : ∀ (d : Dat) (v : V), nolst d = true → Rep K H d v → Rep K H' d v
  | .non, v, _, h => by simpa only [Rep] using h
  | .bl b, v, _, h => by simpa only [Rep] using h
  | .int i, v, _, h => by simpa only [Rep] using h
  | .str t, v, _, h => by simpa only [Rep] using h
  | .lst ds, v, n, h => by cases n
  | .tup ds, v, n, h => by
    simp only [Rep] at h ⊢
    obtain ⟨a, vs, e, h1, h2⟩ := h
    exact ⟨a, vs, e, s _ _ h1, repL_nolst s ds vs (by simpa only [nolst] using n) h2⟩
  | .frz ds, v, n, h => by cases n
theorem repL_nolst (s : ∀ a vs, H a = some (.tup vs) → H' a = some (.tup vs)) : ∀ (ds : List Dat) (vs : List V), nolstL ds = true → RepL K H ds vs → RepL K H' ds vs
  | [], vs, _, h => by simpa only [RepL] using h
  | d :: ds, vs, n, h => by
    simp only [RepL] at h ⊢
    obtain ⟨v, r, e, h1, h2⟩ := h
    simp only [nolstL, Bool.and_eq_true] at n
    exact ⟨v, r, e, rep_nolst s d v n.1 h1, repL_nolst s ds r n.2 h2⟩
end
theorem repL_len : ∀ {ds : List Dat} {vs : List V}, RepL K H ds vs → vs.length = ds.length
  | [], vs, h => by
    simp only [RepL] at h
    subst h
    rfl
  | d :: ds, vs, h => by
    simp only [RepL] at h
    obtain ⟨v, r, rfl, _, h2⟩ := h
    rw [List.length_cons, List.length_cons, repL_len h2]
theorem repL_get : ∀ {ds : List Dat} {vs : List V} {i : Nat} {d : Dat}, RepL K H ds vs → ds[i]? = some d → ∃ v, vs[i]? = some v ∧ Rep K H d v
  | [], vs, i, d, _, e => by simp at e
  | d :: ds, vs, 0, d', h, e => by
    simp only [RepL] at h
    obtain ⟨v, r, rfl, h1, _⟩ := h
    simp at e
    subst e
    exact ⟨v, by simp, h1⟩
  | d :: ds, vs, i + 1, d', h, e => by
    simp only [RepL] at h
    obtain ⟨v, r, rfl, _, h2⟩ := h
    obtain ⟨v', h3, h4⟩ := repL_get (i := i) h2 (by simpa using e)
    exact ⟨v', by simpa using h3, h4⟩
theorem repL_app : ∀ {ds es : List Dat} {vs ws : List V}, RepL K H ds vs → RepL K H es ws → RepL K H (ds ++ es) (vs ++ ws)
  | [], es, vs, ws, h, g => by
    simp only [RepL] at h
    subst h
    exact g
  | d :: ds, es, vs, ws, h, g => by
    simp only [RepL] at h
    obtain ⟨v, r, rfl, h1, h2⟩ := h
    rw [List.cons_append, List.cons_append]
    simp only [RepL]
    exact ⟨v, _, rfl, h1, repL_app h2 g⟩
theorem repL_drop : ∀ {ds : List Dat} {vs : List V} (n : Nat), RepL K H ds vs → RepL K H (ds.drop n) (vs.drop n)
  | _, _, 0, h => h
  | [], vs, n + 1, h => by
    simp only [RepL] at h
    subst h
    simp [RepL]
  | d :: ds, vs, n + 1, h => by
    simp only [RepL] at h
    obtain ⟨v, r, rfl, _, h2⟩ := h
    exact repL_drop n h2
theorem repL_take : ∀ {ds : List Dat} {vs : List V} (n : Nat), RepL K H ds vs → RepL K H (ds.take n) (vs.take n)
  | _, _, 0, h => by simp [RepL]
  | [], vs, n + 1, h => by
    simp only [RepL] at h
    subst h
    simp [RepL]
  | d :: ds, vs, n + 1, h => by
    simp only [RepL] at h
    obtain ⟨v, r, rfl, h1, h2⟩ := h
    rw [List.take_succ_cons, List.take_succ_cons]
    simp only [RepL]
    exact ⟨v, _, rfl, h1, repL_take n h2⟩
theorem repL_nil : RepL K H [] [] := by simp [RepL]
theorem repL_cons {d : Dat} {ds : List Dat} {v : V} {vs : List V} (h : Rep K H d v) (g : RepL K H ds vs) : RepL K H (d :: ds) (v :: vs) := by
  simp only [RepL]
  exact ⟨v, vs, rfl, h, g⟩
theorem repL_flat {ds : List Dat} {vs : List V} (h : RepL K H ds vs) : ∀ n : Nat, RepL K H (List.replicate n ds).flatten (List.replicate n vs).flatten
  | 0 => by simp [RepL]
  | n + 1 => by
    rw [List.replicate_succ, List.replicate_succ, List.flatten_cons, List.flatten_cons]
    exact repL_app h (repL_flat h n)
theorem repL_strs : ∀ (ys : List (List Nat)), RepL K H (ys.map Dat.str) (ys.map vS)
  | [] => by simp [RepL]
  | y :: ys => by
    rw [List.map_cons, List.map_cons]
    exact repL_cons (by simp [Rep]) (repL_strs ys)
theorem strsD_rep : ∀ {xs : List Dat} {ys : List (List Nat)} {vs : List V}, strsD xs = some ys → RepL K H xs vs → vs = ys.map vS
  | [], ys, vs, h, g => by
    simp only [strsD, Option.some.injEq] at h
    subst h
    simpa [RepL] using g
  | d :: xs, ys, vs, h, g => by
    cases d with
    | str a =>
      simp only [strsD] at h
      cases hr : strsD xs with
      | none => rw [hr] at h; cases h
      | some r =>
        rw [hr] at h
        have e : ys = a :: r := by simpa using h.symm
        subst e
        simp only [RepL] at g
        obtain ⟨v, s, rfl, h1, h2⟩ := g
        simp only [Rep] at h1
        subst h1
        rw [List.map_cons, strsD_rep hr h2]
    | _ => cases h
end

/-! ### what is asked of running -/
def Post (K : PySem.W.Frag) (Z : Addr → Prop) (H : Hp) (r : Rs Dat) (Q : VK) (X : Nat → Hp → Prop) : Prop := match r with
  | .ok d => ∀ v H', Same H H' → Rep K (hide Z H') d v → Q v H'
  | .ex c => ∀ H', Same H H' → X c H'
  | .er => False
/-- .. of a new list -/
def PostN (K : PySem.W.Frag) (Z : Addr → Prop) (H : Hp) (r : Rs Dat) (Q : VK) (X : Nat → Hp → Prop) : Prop := match r with
  | .ok (.lst ds) => ∀ p vs H', H p = none → Same H H' → H' p = some (.lst vs) → RepL K (hide (fun a => Z a ∨ a = p) H') ds vs → Q (.ref p) H'
  | .ok d => ∀ v H', Same H H' → Rep K (hide Z H') d v → Q v H'
  | .ex c => ∀ H', Same H H' → X c H'
  | .er => False
section
variable {K : PySem.W.Frag} {Z Z' : Addr → Prop} {H H' H1 H2 : Hp} {r : Rs Dat} {Q : VK} {X : Nat → Hp → Prop}
theorem Post.n (z : ZD Z H) (h : Post K Z H r Q X) : PostN K Z H r Q X := by
  cases r with
  | er => exact h
  | ex c => exact h
  | ok d =>
    cases d with
    | lst ds =>
      intro p vs H' hp s e hr
      refine h (.ref p) H' s ?_
      simp only [Rep]
      exact ⟨p, vs, rfl, hide_of e (z.new hp), repL_mono (hide_anti fun a ha => .inl ha) ds vs hr⟩
    | _ => exact h
theorem Post.same (s : Same H H') (h : Post K Z H r Q X) : Post K Z H' r Q X := by
  cases r with
  | er => exact h
  | ex c => exact fun H2 s2 => h H2 (s.trans s2)
  | ok d => exact fun v H2 s2 => h v H2 (s.trans s2)
theorem PostN.same (s : Same H H') (h : PostN K Z H r Q X) : PostN K Z H' r Q X := by
  cases r with
  | er => exact h
  | ex c => exact fun H2 s2 => h H2 (s.trans s2)
  | ok d =>
    cases d with
    | lst ds => exact fun p vs H2 hp s2 => h p vs H2 (s.free hp) (s.trans s2)
    | _ => exact fun v H2 s2 => h v H2 (s.trans s2)
/-- of any result in a chain -/
theorem post_bind {α : Type} {r : Rs Dat} {f : Dat → Rs α} {P : Rs α → Hp → Prop} {Q1 : VK} (hP : ∀ c H', P (.ex c) H' → ∀ H'', Same H' H'' → X c H'') (he : ∀ H', ¬ P .er H') (hs : ∀ x H1 H2, Same H1 H2 → P x H1 → P x H2)
    (h : P (r.bind f) H) (hq : ∀ d v H', Same H H' → Rep K (hide Z H') d v → P (f d) H' → Q1 v H') : Post K Z H r Q1 X := by
  cases r with
  | er => exact he H h
  | ex c => exact hP c H h
  | ok d => exact fun v H' s hr => hq d v H' s hr (hs _ _ _ s h)
theorem chk_ok {α : Type} {c : Bool} {r : Rs α} {P : Rs α → Prop} (he : ¬ P .er) (h : P (.chk c r)) : c = true ∧ P r := by
  cases c with
  | true => exact ⟨rfl, h⟩
  | false => exact (he h).elim
end

section
variable {K : PySem.W.Frag} {Z : Addr → Prop} {H : Hp} {Q : VK} {X : Nat → Hp → Prop} {x y : Dat} {v w : V}
theorem rep_new {H0 : Hp} {p : Addr} {ds : List Dat} {vs : List V} (h : RepL K (hide Z H0) ds vs) (hp : H0 p = none) : RepL K (hide (fun a => Z a ∨ a = p) (upd H0 p (.lst vs))) ds vs :=
  repL_mono (fun b o e => by
    obtain ⟨h1, h2⟩ := hide_some e
    have hb : b ≠ p := ne_of_none h1 hp
    exact hide_of (by rw [upd_ne hb]; exact h1) (fun z => z.elim h2 hb)) ds vs h
/-- a new list's end -/
theorem new_list {ds : List Dat} {vs : List V} (h : RepL K (hide Z H) ds vs) (q : PostN K Z H (.ok (.lst ds)) Q X) : ∀ p, H p = none → Q (.ref p) (upd H p (.lst vs)) := fun p hp =>
  q p vs _ hp (same_new hp) upd_same (rep_new h hp)
theorem new_tup (z : ZD Z H) {ds : List Dat} {vs : List V} (h : RepL K (hide Z H) ds vs) (q : Post K Z H (.ok (.tup ds)) Q X) : ∀ p, H p = none → Q (.ref p) (upd H p (.tup vs)) := fun p hp => by
  refine q _ _ (same_new hp) ?_
  simp only [Rep]
  exact ⟨p, vs, rfl, hide_of upd_same (z.new hp), repL_mono (hide_same (same_new hp)) ds vs h⟩
theorem chkN {c : Bool} {r : Rs Dat} (h : PostN K Z H (.chk c r) Q X) : c = true ∧ PostN K Z H r Q X := chk_ok (P := fun r => PostN K Z H r Q X) (fun z => z) h
theorem chkP {c : Bool} {r : Rs Dat} (h : Post K Z H (.chk c r) Q X) : c = true ∧ Post K Z H r Q X := chk_ok (P := fun r => Post K Z H r Q X) (fun z => z) h
theorem leq_ok {a b : Nat} (h : leq a b = true) : a ≤ b := of_decide_eq_true h
/-- a value without a heap -/
theorem post_here {d : Dat} (q : Post K Z H (.ok d) Q X) (h : Rep K (hide Z H) d v) : Q v H := q v H (Same.refl H) h
theorem postN_here {d : Dat} (q : PostN K Z H (.ok d) Q X) (hd : isLst d = false) (h : Rep K (hide Z H) d v) : Q v H := by
  cases d with
  | lst ds => cases hd
  | _ => exact q v H (Same.refl H) h
theorem bin_ok (z : ZD Z H) (o : BOp) (hx : Rep K (hide Z H) x v) (hy : Rep K (hide Z H) y w) (h : PostN K Z H (binD o x y) Q X) : rBin o v w H Q := by
  cases o with
  | add =>
    cases x <;> cases y <;> first
      | exact False.elim h
      | skip
    · simp only [Rep] at hx hy
      exact .inl ⟨_, _, hx, hy, postN_here h rfl (by simp [Rep])⟩
    · simp only [Rep] at hx hy
      obtain ⟨h1, h2⟩ := chkN h
      exact .inr (.inl ⟨_, _, hx, hy, leq_ok h1, postN_here h2 rfl (by simp [Rep])⟩)
    · simp only [Rep] at hx hy
      obtain ⟨h1, h2⟩ := chkN h
      obtain ⟨a, vs, rfl, g1, g2⟩ := hx
      obtain ⟨b, ws, rfl, k1, k2⟩ := hy
      refine .inr (.inr ⟨a, b, vs, ws, rfl, rfl, (hide_some g1).1, (hide_some k1).1, ?_, new_list (repL_app g2 k2) h2⟩)
      rw [repL_len g2, repL_len k2]
      exact leq_ok h1
  | sub =>
    cases x <;> cases y <;> first
      | exact False.elim h
      | skip
    simp only [Rep] at hx hy
    exact ⟨_, _, hx, hy, postN_here h rfl (by simp [Rep])⟩
  | mul =>
    cases x <;> cases y <;> first
      | exact False.elim h
      | skip
    · simp only [Rep] at hx hy
      obtain ⟨h1, h2⟩ := chkN h
      refine .inl ⟨_, _, hx, hy, ?_, postN_here h2 rfl (by simp [Rep])⟩
      unfold small64 at h1
      simp only [Bool.or_eq_true, Bool.and_eq_true, decide_eq_true_eq] at h1
      exact h1
    · simp only [Rep] at hx hy
      obtain ⟨h1, h2⟩ := chkN h
      simp only [Bool.and_eq_true, decide_eq_true_eq] at h1
      exact .inr (.inl ⟨_, _, hx, hy, h1.1.1.1, h1.1.1.2, h1.1.2, leq_ok h1.2, postN_here h2 rfl (by simp [Rep])⟩)
    · simp only [Rep] at hx hy
      obtain ⟨h1, h2⟩ := chkN h
      simp only [Bool.and_eq_true, decide_eq_true_eq] at h1
      obtain ⟨a, vs, rfl, g1, g2⟩ := hx
      refine .inr (.inr ⟨a, _, vs, rfl, hy, (hide_some g1).1, by omega, by omega, ?_, new_list (repL_flat g2 _) h2⟩)
      rw [repL_len g2]
      exact leq_ok h1.2
  | mod =>
    cases x <;> cases y <;> first
      | exact False.elim h
      | skip
    simp only [Rep] at hx hy
    obtain ⟨h1, h2⟩ := chkN h
    exact ⟨_, _, hx, hy, of_decide_eq_true h1, postN_here h2 rfl (by simp [Rep])⟩
  | fdiv =>
    cases x <;> cases y <;> first
      | exact False.elim h
      | skip
    simp only [Rep] at hx hy
    obtain ⟨h1, h2⟩ := chkN h
    simp only [Bool.and_eq_true, decide_eq_true_eq] at h1
    exact ⟨_, _, hx, hy, h1, postN_here h2 rfl (by simp [Rep])⟩
  | pow =>
    cases x <;> cases y <;> first
      | exact False.elim h
      | skip
    simp only [Rep] at hx hy
    obtain ⟨h1, h2⟩ := chkN h
    simp only [Bool.and_eq_true, decide_eq_true_eq] at h1
    exact ⟨_, _, hx, hy, ⟨h1.1.1, h1.1.2, h1.2⟩, postN_here h2 rfl (by simp [Rep])⟩
end
end Fw

set_option maxHeartbeats 4000000
namespace Fw
open PySem PySem.Spec PyProof.Rows L2
open Classical
section
variable {K : PySem.W.Frag} {Z : Addr → Prop} {H : Hp} {Q : VK} {X : Nat → Hp → Prop} {x y : Dat} {v w : V}

theorem vS_inj {a b : List Nat} (h : vS a = vS b) : a = b := by
  injection h with h
  simpa using congrArg (fun x : Str => x.cps.toList) h
theorem scal_rep (hx : Rep K H x v) (hy : Rep K H y w) (h : scalD x y = true) : scal v w = true ∧ decide (v = w) = eqv x y := by
  cases x <;> cases y <;> first
    | exact absurd h Bool.false_ne_true
    | skip
  all_goals
    simp only [Rep] at hx hy
    subst hx hy
    refine ⟨rfl, ?_⟩
    first
      | rfl
      | skip
  · rename_i a b
    simp only [eqv]
    cases a <;> cases b <;> rfl
  · rename_i i j
    simp only [eqv]
    by_cases e : i = j
    · subst e
      simp
    · rw [decide_eq_false fun z => e (V.int.inj z)]
      exact (beq_eq_false_iff_ne.mpr e).symm
  · rename_i a b
    simp only [eqv]
    by_cases e : a = b
    · subst e
      simp
    · rw [decide_eq_false fun z => e (vS_inj z)]
      exact (beq_eq_false_iff_ne.mpr e).symm
theorem eq_ok (neg : Bool) (hx : Rep K (hide Z H) x v) (hy : Rep K (hide Z H) y w) (h : Post K Z H (eqD neg x y) Q X) : rEqv K neg v w H Q := by
  unfold eqD at h
  cases hs : scalD x y with
  | true =>
    rw [hs] at h
    obtain ⟨h1, h2⟩ := scal_rep hx hy hs
    exact .inl ⟨h1, by rw [h2]; exact post_here h (by simp [Rep])⟩
  | false =>
    rw [hs] at h
    have deep : Post K Z H (.chk (cmpOk x y) (.ok (.bl (neg != eqv x y)))) Q X → rEqv K neg v w H Q := fun h => by
      obtain ⟨h1, h2⟩ := chkP h
      exact .inr (.inr ⟨x, y, rep_mono hide_le x v hx, rep_mono hide_le y w hy, h1, post_here h2 (by simp [Rep])⟩)
    cases x <;> first
      | exact deep h
      | skip
    cases y <;> first
      | exact deep h
      | skip
    rename_i xs ys
    cases ys with
    | cons a b => exact deep h
    | nil =>
      simp only [Rep] at hx hy
      obtain ⟨a, vs, rfl, g1, g2⟩ := hx
      obtain ⟨b, ws, rfl, k1, k2⟩ := hy
      simp only [RepL] at k2
      subst k2
      refine .inr (.inl ⟨a, b, vs, rfl, rfl, SqL.of (hide_some g1).1, SqL.of (hide_some k1).1, ?_⟩)
      have e : vs.isEmpty = xs.isEmpty := by
        have := repL_len g2
        cases vs <;> cases xs <;> simp_all
      rw [e]
      exact post_here h (by simp [Rep])
theorem flat_rep : ∀ {d : Dat} {v : V}, flatD d = true → Rep K H d v → flatV v = true
  | .non, v, _, h => by simp only [Rep] at h; subst h; rfl
  | .bl b, v, _, h => by simp only [Rep] at h; subst h; rfl
  | .int b, v, _, h => by simp only [Rep] at h; subst h; rfl
  | .str b, v, _, h => by simp only [Rep] at h; subst h; rfl
theorem eqV_rep : ∀ {d e : Dat} {v w : V}, flatD d = true → flatD e = true → Rep K H d v → Rep K H e w → eqV v w = eqv d e := by
  intro d e v w h1 h2 hx hy
  cases d <;> cases e <;> first
    | exact absurd h1 Bool.false_ne_true
    | exact absurd h2 Bool.false_ne_true
    | skip
  all_goals
    simp only [Rep] at hx hy
    subst hx hy
    first
      | rfl
      | skip
  · simp only [eqv, eqV]
    exact beq_S _ _
theorem inV_rep {x : Dat} {v : V} (hx : flatD x = true) (r : Rep K H x v) : ∀ {ds : List Dat} {vs : List V}, ds.all flatD = true → RepL K H ds vs → vs.all flatV = true ∧ inV v vs = ds.any fun y => eqv y x
  | [], vs, _, h => by
    simp only [RepL] at h
    subst h
    exact ⟨rfl, rfl⟩
  | d :: ds, vs, hf, h => by
    simp only [RepL] at h
    obtain ⟨u, s, rfl, h1, h2⟩ := h
    rw [List.all_cons, Bool.and_eq_true] at hf
    obtain ⟨k1, k2⟩ := inV_rep hx r hf.2 h2
    refine ⟨by rw [List.all_cons, flat_rep hf.1 h1, k1]; rfl, ?_⟩
    unfold inV at k2 ⊢
    rw [List.any_cons, List.any_cons, k2, eqV_rep hf.1 hx h1 r]
theorem in_ok (neg : Bool) (hx : Rep K (hide Z H) x v) (hy : Rep K (hide Z H) y w) (h : Post K Z H (inD neg x y) Q X) : rInA K neg v w H Q := by
  have seq : ∀ {ys : List Dat} {p : Addr} {ws : List V}, (SqL K H p ws ∨ SqT K H p ws) → RepL K (hide Z H) ys ws → Post K Z H (.chk (flatD x && ys.all flatD) (.ok (.bl (neg != ys.any fun y => eqv y x)))) Q X → rInA K neg v (.ref p) H Q := fun {ys p ws} hs hr h => by
    obtain ⟨h1, h2⟩ := chkP h
    rw [Bool.and_eq_true] at h1
    obtain ⟨k1, k2⟩ := inV_rep h1.1 hx h1.2 hr
    exact .inr ⟨p, ws, rfl, hs, flat_rep h1.1 hx, k1, by rw [k2]; exact post_here h2 (by simp [Rep])⟩
  unfold inD at h
  split at h
  · simp only [Rep] at hx hy
    exact .inl ⟨_, _, hx, hy, post_here h (by simp [Rep])⟩
  · simp only [Rep] at hy
    obtain ⟨a, ws, rfl, g1, g2⟩ := hy
    exact seq (.inr (SqT.of (hide_some g1).1)) g2 h
  · simp only [Rep] at hy
    obtain ⟨a, ws, rfl, g1, g2⟩ := hy
    exact seq (.inl (SqL.of (hide_some g1).1)) g2 h
  · exact False.elim h
theorem is_ok (neg : Bool) (hx : Rep K (hide Z H) x v) (hy : Rep K (hide Z H) y w) (h : Post K Z H (isD neg x y) Q X) : rIsK neg v w H Q := by
  cases y <;> first
    | exact False.elim h
    | skip
  · simp only [Rep] at hy
    subst hy
    refine ⟨.inl rfl, ?_⟩
    cases x with
    | non =>
      simp only [Rep] at hx
      subst hx
      exact post_here h (by simp [Rep])
    | bl b => simp only [Rep] at hx; subst hx; exact post_here h (by simp [Rep])
    | int b => simp only [Rep] at hx; subst hx; exact post_here h (by simp [Rep])
    | str b => simp only [Rep] at hx; subst hx; exact post_here h (by simp [Rep])
    | lst b => simp only [Rep] at hx; obtain ⟨a, ws, rfl, _, _⟩ := hx; exact post_here h (by simp [Rep])
    | tup b => simp only [Rep] at hx; obtain ⟨a, ws, rfl, _, _⟩ := hx; exact post_here h (by simp [Rep])
    | frz b => simp only [Rep] at hx; obtain ⟨a, ws, rfl, _, _⟩ := hx; exact post_here h (by simp [Rep])
  · simp only [Rep] at hy
    subst hy
    refine ⟨.inr ⟨_, rfl⟩, ?_⟩
    cases x with
    | bl b =>
      rename_i c
      simp only [Rep] at hx
      subst hx
      have e : decide (V.bl b = V.bl c) = (b == c) := by cases b <;> cases c <;> rfl
      rw [e]
      exact post_here h (by simp [Rep])
    | non => simp only [Rep] at hx; subst hx; exact post_here h (by simp [Rep])
    | int b => simp only [Rep] at hx; subst hx; exact post_here h (by simp [Rep])
    | str b => simp only [Rep] at hx; subst hx; exact post_here h (by simp [Rep])
    | lst b => simp only [Rep] at hx; obtain ⟨a, ws, rfl, _, _⟩ := hx; exact post_here h (by simp [Rep])
    | tup b => simp only [Rep] at hx; obtain ⟨a, ws, rfl, _, _⟩ := hx; exact post_here h (by simp [Rep])
    | frz b => simp only [Rep] at hx; obtain ⟨a, ws, rfl, _, _⟩ := hx; exact post_here h (by simp [Rep])
theorem ord_ok {f : Int → Int → Bool} (hx : Rep K (hide Z H) x v) (hy : Rep K (hide Z H) y w) (h : Post K Z H (ordD f x y) Q X) : (rI0 fun i j => .bl (f i j)) v w H Q := by
  cases x <;> cases y <;> first
    | exact False.elim h
    | skip
  simp only [Rep] at hx hy
  exact ⟨_, _, hx, hy, post_here h (by simp [Rep])⟩
theorem cmp_ok (o : COp) (hx : Rep K (hide Z H) x v) (hy : Rep K (hide Z H) y w) (h : Post K Z H (cmpD o x y) Q X) : rCmp K o v w H Q := by
  cases o with
  | eq => exact eq_ok false hx hy h
  | ne => exact eq_ok true hx hy h
  | lt => exact ord_ok hx hy h
  | le => exact ord_ok hx hy h
  | gt => exact ord_ok hx hy h
  | ge => exact ord_ok hx hy h
  | isin => exact in_ok false hx hy h
  | notin => exact in_ok true hx hy h
  | is_ => exact is_ok false hx hy h
  | isnot => exact is_ok true hx hy h
theorem len_ok (hx : Rep K (hide Z H) x v) (h : Post K Z H (lenD x) Q X) : rLen K [v] H Q := by
  cases x <;> first
    | exact False.elim h
    | skip
  · rename_i s
    simp only [Rep] at hx
    subst hx
    obtain ⟨h1, h2⟩ := chkP h
    exact ⟨_, s.length, rfl, ⟨by rw [vS_len]; exact leq_ok h1, (vS_len s).symm⟩, post_here h2 (by simp [Rep])⟩
  · rename_i xs
    simp only [Rep] at hx
    obtain ⟨a, ws, rfl, g1, g2⟩ := hx
    exact ⟨_, xs.length, rfl, .inl ⟨ws, SqL.of (hide_some g1).1, (repL_len g2).symm⟩, post_here h (by simp [Rep])⟩
  · rename_i xs
    simp only [Rep] at hx
    obtain ⟨a, ws, rfl, g1, g2⟩ := hx
    exact ⟨_, xs.length, rfl, .inr ⟨ws, SqT.of (hide_some g1).1, (repL_len g2).symm⟩, post_here h (by simp [Rep])⟩
  · rename_i xs
    simp only [Rep] at hx
    obtain ⟨a, ws, rfl, g1, g2⟩ := hx
    exact ⟨_, xs.length, rfl, .inl ⟨ws, hide_le.seq g1, (repL_len g2).symm⟩, post_here h (by simp [Rep])⟩
theorem sq_ty {a : Addr} {xs : List V} (h : SqL K H a xs) : TyX K H (.ref a) (.type "list") := by
  rcases h with (h | ⟨o, h⟩) | ⟨o, its, n, h, c, _⟩
  · exact .base (.lst h)
  · exact .base (.frz h)
  · exact .kList h c
def tyOf : Dat → String
  | .non => "NoneType"
  | .bl _ => "bool"
  | .int _ => "int"
  | .str _ => "str"
  | .lst _ => "list"
  | .frz _ => "list"
  | .tup _ => "tuple"
theorem ty_rep (hx : Rep K (hide Z H) x v) : TyX K H v (.type (tyOf x)) := by
  cases x with
  | non => simp only [Rep] at hx; subst hx; exact .base .non
  | bl b => simp only [Rep] at hx; subst hx; exact .base (.bl b)
  | int b => simp only [Rep] at hx; subst hx; exact .base (.int b)
  | str b => simp only [Rep] at hx; subst hx; exact .base (.str _)
  | lst b => simp only [Rep] at hx; obtain ⟨a, ws, rfl, g, _⟩ := hx; exact .base (.lst (hide_some g).1)
  | tup b => simp only [Rep] at hx; obtain ⟨a, ws, rfl, g, _⟩ := hx; exact .base (.tup (hide_some g).1)
  | frz b => simp only [Rep] at hx; obtain ⟨a, ws, rfl, g, _⟩ := hx; exact sq_ty (hide_le.seq g)
theorem kits : (["NoneType", "bool", "int", "str", "list", "tuple"].all fun a => tyNames.all fun t => decide (kitB a t = some (match a with
    | "bool" => t == "bool" || t == "int"
    | a => a == t))) = true := by decide +kernel
theorem kit_is (x : Dat) {t : String} (ht : tyNames.contains t = true) : kitB (tyOf x) t = some (isiD t x) := by
  have h' : t ∈ tyNames := List.contains_iff_mem.mp ht
  have k := kits
  rw [List.all_eq_true] at k
  have k2 := fun a ha => of_decide_eq_true (List.all_eq_true.mp (k a ha) t h')
  cases x with
  | non =>
    have := k2 "NoneType" (by simp)
    rw [show tyOf .non = "NoneType" from rfl, this]
    unfold tyNames at h'
    simp only [List.mem_cons, List.not_mem_nil, or_false] at h'
    rcases h' with rfl | rfl | rfl | rfl | rfl <;> rfl
  | bl b =>
    have := k2 "bool" (by simp)
    rw [show tyOf (.bl b) = "bool" from rfl, this]
    rfl
  | int b =>
    have := k2 "int" (by simp)
    rw [show tyOf (.int b) = "int" from rfl, this]
    unfold tyNames at h'
    simp only [List.mem_cons, List.not_mem_nil, or_false] at h'
    rcases h' with rfl | rfl | rfl | rfl | rfl <;> rfl
  | str b =>
    have := k2 "str" (by simp)
    rw [show tyOf (.str b) = "str" from rfl, this]
    unfold tyNames at h'
    simp only [List.mem_cons, List.not_mem_nil, or_false] at h'
    rcases h' with rfl | rfl | rfl | rfl | rfl <;> rfl
  | lst b =>
    have := k2 "list" (by simp)
    rw [show tyOf (.lst b) = "list" from rfl, this]
    unfold tyNames at h'
    simp only [List.mem_cons, List.not_mem_nil, or_false] at h'
    rcases h' with rfl | rfl | rfl | rfl | rfl <;> rfl
  | frz b =>
    have := k2 "list" (by simp)
    rw [show tyOf (.frz b) = "list" from rfl, this]
    unfold tyNames at h'
    simp only [List.mem_cons, List.not_mem_nil, or_false] at h'
    rcases h' with rfl | rfl | rfl | rfl | rfl <;> rfl
  | tup b =>
    have := k2 "tuple" (by simp)
    rw [show tyOf (.tup b) = "tuple" from rfl, this]
    unfold tyNames at h'
    simp only [List.mem_cons, List.not_mem_nil, or_false] at h'
    rcases h' with rfl | rfl | rfl | rfl | rfl <;> rfl
theorem isi_ok {t : String} (hx : Rep K (hide Z H) x v) (h : Post K Z H (.chk (tyNames.contains t) (.ok (.bl (isiD t x)))) Q X) : rIsi K [v, .ty t] H Q := by
  obtain ⟨h1, h2⟩ := chkP h
  exact ⟨v, .ty t, .type (tyOf x), .type t, isiD t x, rfl, .ty t, ty_rep hx, kit_ty (kit_is x h1), post_here h2 (by simp [Rep])⟩
theorem int_ok (hx : Rep K (hide Z H) x v) (h : Post K Z H (intD x) Q X) : rInt [v] H Q := by
  cases x <;> first
    | exact False.elim h
    | skip
  · simp only [Rep] at hx
    subst hx
    exact .inr ⟨_, rfl, post_here h (by simp [Rep])⟩
  · simp only [Rep] at hx
    subst hx
    exact .inl ⟨_, rfl, post_here h (by simp [Rep])⟩
theorem list_ok (hx : Rep K (hide Z H) x v) (h : PostN K Z H (listD x) Q X) : rList K [v] H Q := by
  cases x <;> first
    | exact False.elim h
    | skip
  · simp only [Rep] at hx
    obtain ⟨a, ws, rfl, g1, g2⟩ := hx
    exact ⟨a, ws, rfl, .inl (SqL.of (hide_some g1).1), new_list g2 h⟩
  · simp only [Rep] at hx
    obtain ⟨a, ws, rfl, g1, g2⟩ := hx
    exact ⟨a, ws, rfl, .inr (SqT.of (hide_some g1).1), new_list g2 h⟩
  · simp only [Rep] at hx
    obtain ⟨a, ws, rfl, g1, g2⟩ := hx
    exact ⟨a, ws, rfl, .inl (hide_le.seq g1), new_list g2 h⟩
theorem tupl_ok (z : ZD Z H) (hx : Rep K (hide Z H) x v) (h : Post K Z H (tuplD x) Q X) : rTupl K [v] H Q := by
  cases x <;> first
    | exact False.elim h
    | skip
  · simp only [Rep] at hx
    obtain ⟨a, ws, rfl, g1, g2⟩ := hx
    exact ⟨a, ws, rfl, .inl ⟨SqL.of (hide_some g1).1, new_tup z g2 h⟩⟩
  · have hx' := hx
    simp only [Rep] at hx
    obtain ⟨a, ws, rfl, g1, g2⟩ := hx
    exact ⟨a, ws, rfl, .inr ⟨SqT.of (hide_some g1).1, post_here h hx'⟩⟩
  · simp only [Rep] at hx
    obtain ⟨a, ws, rfl, g1, g2⟩ := hx
    exact ⟨a, ws, rfl, .inl ⟨hide_le.seq g1, new_tup z g2 h⟩⟩
theorem min_ok (hx : Rep K (hide Z H) x v) (hy : Rep K (hide Z H) y w) (h : Post K Z H (minD x y) Q X) : rMin [v, w] H Q := by
  cases x <;> cases y <;> first
    | exact False.elim h
    | skip
  simp only [Rep] at hx hy
  subst hx hy
  exact ⟨_, _, rfl, post_here h (by simp [Rep])⟩
theorem lstrip_ok (hx : Rep K (hide Z H) x v) (hy : Rep K (hide Z H) y w) (h : Post K Z H (lstripD x y) Q X) : (∃ a, v = .str a) ∧ rLstrip v [w] H Q := by
  unfold lstripD at h
  split at h
  · simp only [Rep] at hx hy
    subst hx hy
    obtain ⟨h1, h2⟩ := chkP h
    exact ⟨⟨_, rfl⟩, _, _, rfl, rfl, leq_ok h1, post_here h2 (by simp [Rep])⟩
  · exact False.elim h
theorem join_ok (hx : Rep K (hide Z H) x v) (hy : Rep K (hide Z H) y w) (h : Post K Z H (joinD x y) Q X) : (∃ a, v = .str a) ∧ rJoin K v [w] H Q := by
  unfold joinD at h
  split at h
  · split at h
    · rename_i hs
      simp only [Rep] at hx hy
      subst hx
      obtain ⟨a, ws, rfl, g1, g2⟩ := hy
      have e := strsD_rep hs g2
      subst e
      obtain ⟨h1, h2⟩ := chkP h
      exact ⟨⟨_, rfl⟩, _, a, _, rfl, rfl, SqL.of (hide_some g1).1, leq_ok h1, post_here h2 (by simp [Rep])⟩
    · exact False.elim h
  · exact False.elim h
theorem find_ok {u : V} {z : Dat} (hx : Rep K (hide Z H) x v) (hy : Rep K (hide Z H) y w) (hz : Rep K (hide Z H) z u) (h : Post K Z H (findD x y z) Q X) : tyV K "str" v H ∧ rFind v [w, u] H Q := by
  unfold findD at h
  split at h
  · simp only [Rep] at hx hy hz
    subst hx hy hz
    obtain ⟨h1, h2⟩ := chkP h
    simp only [Bool.and_eq_true, decide_eq_true_eq] at h1
    exact ⟨rfl, _, _, _, rfl, rfl, h1.1, h1.2, post_here h2 (by simp [Rep])⟩
  · exact False.elim h
theorem split_ok (hx : Rep K (hide Z H) x v) (hy : Rep K (hide Z H) y w) (h : PostN K Z H (splitD x y) Q X) : (∃ a, v = .str a) ∧ rSplit v [w] H Q := by
  unfold splitD at h
  split at h
  · simp only [Rep] at hx hy
    subst hx hy
    obtain ⟨h1, h2⟩ := chkN h
    simp only [Bool.and_eq_true, decide_eq_true_eq] at h1
    exact ⟨⟨_, rfl⟩, _, _, rfl, rfl, h1.1, leq_ok h1.2, new_list (repL_strs _) h2⟩
  · exact False.elim h
theorem part_ok (z : ZD Z H) (hx : Rep K (hide Z H) x v) (hy : Rep K (hide Z H) y w) (h : Post K Z H (partD x y) Q X) : (∃ a, v = .str a) ∧ rPart v [w] H Q := by
  unfold partD at h
  split at h
  · simp only [Rep] at hx hy
    subst hx hy
    obtain ⟨h1, h2⟩ := chkP h
    refine ⟨⟨_, rfl⟩, _, _, rfl, rfl, leq_ok h1, new_tup z ?_ h2⟩
    exact repL_cons (by simp [Rep]) (repL_cons (by simp [Rep]) (repL_cons (by simp [Rep]) repL_nil))
  · exact False.elim h
theorem at_rep {ds : List Dat} {vs : List V} {i : Int} {d : Dat} (h : RepL K H ds vs) (e : atI ds i = some d) : ∃ u, atI vs i = some u ∧ Rep K H d u := by
  unfold atI at e ⊢
  rw [repL_len h]
  cases hi : ixN ds.length i with
  | none => rw [hi] at e; cases e
  | some j =>
    rw [hi] at e
    obtain ⟨u, h1, h2⟩ := repL_get (i := j) h e
    exact ⟨u, h1, h2⟩
theorem idx_ok (hx : Rep K (hide Z H) x v) (hy : Rep K (hide Z H) y w) (h : Post K Z H (idxD x y) Q X) : rIx K v w H Q := by
  unfold idxD at h
  split at h
  · rename_i a i
    simp only [Rep] at hx hy
    subst hx hy
    obtain ⟨h1, h2⟩ := chkP h
    cases e : atI a i with
    | none => rw [e] at h2; exact False.elim h2
    | some c =>
      rw [e] at h2
      exact .inr (.inr ⟨_, i, c, rfl, rfl, by rw [vS_len]; exact leq_ok h1, e, post_here h2 (by simp [Rep])⟩)
  · rename_i xs i
    simp only [Rep] at hx hy
    subst hy
    obtain ⟨a, ws, rfl, g1, g2⟩ := hx
    cases e : atI xs i with
    | none => rw [e] at h; exact False.elim h
    | some d =>
      rw [e] at h
      obtain ⟨u, k1, k2⟩ := at_rep g2 e
      exact .inl ⟨a, ws, i, u, rfl, rfl, SqL.of (hide_some g1).1, k1, post_here h k2⟩
  · rename_i xs i
    simp only [Rep] at hx hy
    subst hy
    obtain ⟨a, ws, rfl, g1, g2⟩ := hx
    cases e : atI xs i with
    | none => rw [e] at h; exact False.elim h
    | some d =>
      rw [e] at h
      obtain ⟨u, k1, k2⟩ := at_rep g2 e
      exact .inr (.inl ⟨a, ws, i, u, rfl, rfl, SqT.of (hide_some g1).1, k1, post_here h k2⟩)
  · rename_i xs i
    simp only [Rep] at hx hy
    subst hy
    obtain ⟨a, ws, rfl, g1, g2⟩ := hx
    cases e : atI xs i with
    | none => rw [e] at h; exact False.elim h
    | some d =>
      rw [e] at h
      obtain ⟨u, k1, k2⟩ := at_rep g2 e
      exact .inl ⟨a, ws, i, u, rfl, rfl, hide_le.seq g1, k1, post_here h k2⟩
  · exact False.elim h
theorem cut_rep {ds : List Dat} {vs : List V} {lo hi : Option Int} (h : RepL K H ds vs) : RepL K H (cutL ds lo hi) (cutV vs lo hi) := by
  unfold cutL cutV
  rw [repL_len h]
  exact repL_take _ (repL_drop _ h)
theorem sl_ok {lo hi : Option Int} (hx : Rep K (hide Z H) x v) (h : PostN K Z H (slD lo hi x) Q X) : rSl K v lo hi H Q := by
  unfold slD at h
  split at h
  · rename_i a
    simp only [Rep] at hx
    subst hx
    obtain ⟨h1, h2⟩ := chkN h
    refine .inl ⟨_, rfl, by rw [vS_len]; exact leq_ok h1, ?_⟩
    have e : cutS ⟨a.toArray⟩ lo hi = ⟨(cutL a lo hi).toArray⟩ := by
      unfold cutS cutL
      rw [vS_len]
    rw [e]
    exact postN_here h2 rfl (by simp [Rep])
  · simp only [Rep] at hx
    obtain ⟨a, ws, rfl, g1, g2⟩ := hx
    exact .inr ⟨a, ws, rfl, SqL.of (hide_some g1).1, new_list (cut_rep g2) h⟩
  · simp only [Rep] at hx
    obtain ⟨a, ws, rfl, g1, g2⟩ := hx
    exact .inr ⟨a, ws, rfl, hide_le.seq g1, new_list (cut_rep g2) h⟩
  · exact False.elim h
end
end Fw

set_option maxHeartbeats 4000000
namespace Fw
open PySem PySem.Spec PyProof.Rows L2
open Classical

def PostL (K : PySem.W.Frag) (Z : Addr → Prop) (H : Hp) (r : Rs (List Dat)) (Q : List V → Hp → Prop) (X : Nat → Hp → Prop) : Prop := match r with
  | .ok ds => ∀ vs H', Same H H' → RepL K (hide Z H') ds vs → Q vs H'
  | .ex c => ∀ H', Same H H' → X c H'
  | .er => False
/-- what a for walks: the items, while G stands -/
structure Yields (J : It) (ws : List V) (G : Hp → Prop) : Prop where
  go : ∀ i H, G H → i < ws.length → J.go i H
  yl : ∀ i H x H', G H → J.yld i H x H' → H' = H ∧ (i < ws.length → ws[i]? = some x)
  st : ∀ i H, G H → ws.length ≤ i → J.stop i H
def PostI (K : PySem.W.Frag) (Z : Addr → Prop) (H : Hp) (r : Rs (List Dat)) (Q : It → Hp → Prop) (X : Nat → Hp → Prop) : Prop := match r with
  | .ok xs => ∀ J ws G H', Same H H' → (∀ H1, Same (hide Z H') H1 → G H1) → Yields J ws G → RepL K (hide Z H') xs ws → Q J H'
  | .ex c => ∀ H', Same H H' → X c H'
  | .er => False
def EnvOk (K : PySem.W.Frag) (Z : Addr → Prop) (H : Hp) (m : Nat → Bool) (ρ : Env1) (σ : L2.St) : Prop :=
  ρ.length ≤ σ.length ∧ ∀ i d, m i = true → ρ.getD i none = some d → ∃ v, σ[i]? = some (some v) ∧ Rep K (hide Z H) d v
section
variable {K : PySem.W.Frag} {Z : Addr → Prop} {H H' : Hp} {X : Nat → Hp → Prop} {Q : VK} {σ : L2.St} {ρ : Env1} {m m' : Nat → Bool}
theorem EnvOk.same (h : EnvOk K Z H m ρ σ) (s : Same H H') : EnvOk K Z H' m ρ σ := ⟨h.1, fun i d hm e => by
  obtain ⟨v, h1, h2⟩ := h.2 i d hm e
  exact ⟨v, h1, rep_mono (hide_same s) d v h2⟩⟩
theorem EnvOk.sub (h : EnvOk K Z H m ρ σ) (s : ∀ i, m' i = true → m i = true) : EnvOk K Z H m' ρ σ := ⟨h.1, fun i d hm e => h.2 i d (s i hm) e⟩
theorem EnvOk.l {a b : Nat → Bool} (h : EnvOk K Z H (fun k => a k || b k) ρ σ) : EnvOk K Z H a ρ σ := h.sub fun i e => by simp [e]
theorem EnvOk.r {a b : Nat → Bool} (h : EnvOk K Z H (fun k => a k || b k) ρ σ) : EnvOk K Z H b ρ σ := h.sub fun i e => by simp [e]
theorem bindP {r : Rs Dat} {f : Dat → Rs Dat} {Q1 : VK} (h : Post K Z H (r.bind f) Q X) (hq : ∀ d v H', Same H H' → Rep K (hide Z H') d v → Post K Z H' (f d) Q X → Q1 v H') : Post K Z H r Q1 X :=
  post_bind (P := fun r H => Post K Z H r Q X) (fun c H' h => h) (fun H' h => h) (fun x H1 H2 s h => Post.same s h) h hq
theorem bindN {r : Rs Dat} {f : Dat → Rs Dat} {Q1 : VK} (h : PostN K Z H (r.bind f) Q X) (hq : ∀ d v H', Same H H' → Rep K (hide Z H') d v → PostN K Z H' (f d) Q X → Q1 v H') : Post K Z H r Q1 X :=
  post_bind (P := fun r H => PostN K Z H r Q X) (fun c H' h => h) (fun H' h => h) (fun x H1 H2 s h => PostN.same s h) h hq
theorem PostL.same {r : Rs (List Dat)} {Q : List V → Hp → Prop} (s : Same H H') (h : PostL K Z H r Q X) : PostL K Z H' r Q X := by
  cases r with
  | er => exact h
  | ex c => exact fun H2 s2 => h H2 (s.trans s2)
  | ok d => exact fun v H2 s2 => h v H2 (s.trans s2)
theorem PostI.same {r : Rs (List Dat)} {Q : It → Hp → Prop} (s : Same H H') (h : PostI K Z H r Q X) : PostI K Z H' r Q X := by
  cases r with
  | er => exact h
  | ex c => exact fun H2 s2 => h H2 (s.trans s2)
  | ok d => exact fun v ws G H2 s2 => h v ws G H2 (s.trans s2)
theorem bindL {r : Rs Dat} {f : Dat → Rs (List Dat)} {Q : List V → Hp → Prop} {Q1 : VK} (h : PostL K Z H (r.bind f) Q X) (hq : ∀ d v H', Same H H' → Rep K (hide Z H') d v → PostL K Z H' (f d) Q X → Q1 v H') : Post K Z H r Q1 X :=
  post_bind (P := fun r H => PostL K Z H r Q X) (fun c H' h => h) (fun H' h => h) (fun x H1 H2 s h => PostL.same s h) h hq
theorem bindI {r : Rs Dat} {f : Dat → Rs (List Dat)} {Q : It → Hp → Prop} {Q1 : VK} (h : PostI K Z H (r.bind f) Q X) (hq : ∀ d v H', Same H H' → Rep K (hide Z H') d v → PostI K Z H' (f d) Q X → Q1 v H') : Post K Z H r Q1 X :=
  post_bind (P := fun r H => PostI K Z H r Q X) (fun c H' h => h) (fun H' h => h) (fun x H1 H2 s h => PostI.same s h) h hq
/-- a list of data, then more -/
theorem bindA {β : Type} {r : Rs (List Dat)} {f : List Dat → Rs β} {P : Rs β → Hp → Prop} {Q1 : List V → Hp → Prop} (hP : ∀ c H', P (.ex c) H' → ∀ H'', Same H' H'' → X c H'') (he : ∀ H', ¬ P .er H') (hs : ∀ x H1 H2, Same H1 H2 → P x H1 → P x H2)
    (h : P (r.bind f) H) (hq : ∀ ds vs H', Same H H' → RepL K (hide Z H') ds vs → P (f ds) H' → Q1 vs H') : PostL K Z H r Q1 X := by
  cases r with
  | er => exact he H h
  | ex c => exact hP c H h
  | ok d => exact fun v H' s hr => hq d v H' s hr (hs _ _ _ s h)
theorem bindJ {β : Type} {r : Rs (List Dat)} {f : List Dat → Rs β} {P : Rs β → Hp → Prop} {Q1 : It → Hp → Prop} (hP : ∀ c H', P (.ex c) H' → ∀ H'', Same H' H'' → X c H'') (he : ∀ H', ¬ P .er H') (hs : ∀ x H1 H2, Same H1 H2 → P x H1 → P x H2)
    (h : P (r.bind f) H) (hq : ∀ xs J ws G H', Same H H' → (∀ H1, Same (hide Z H') H1 → G H1) → Yields J ws G → RepL K (hide Z H') xs ws → P (f xs) H' → Q1 J H') : PostI K Z H r Q1 X := by
  cases r with
  | er => exact he H h
  | ex c => exact hP c H h
  | ok xs => exact fun J ws G H' s hg hy hr => hq xs J ws G H' s hg hy hr (hs _ _ _ s h)
theorem datC_ok {v : V} (h : Post K Z H (datC v) Q X) : Q v H := by
  cases v with
  | non => exact post_here h (by simp [Rep])
  | bl b => exact post_here h (by simp [Rep])
  | int b => exact post_here h (by simp [Rep])
  | str s => exact post_here h (by simp [Rep])
  | _ => exact False.elim h
theorem intP {α : Type} {d : Dat} {f : Int → Rs α} {P : Rs α → Prop} (he : ¬ P .er) (h : P (asInt d f)) : ∃ i, d = .int i ∧ P (f i) := by
  cases d <;> first
    | exact absurd h he
    | exact ⟨_, rfl, h⟩
theorem blP {α : Type} {d : Dat} {f : Bool → Rs α} {P : Rs α → Prop} (he : ¬ P .er) (h : P (asBl d f)) : ∃ i, d = .bl i ∧ P (f i) := by
  cases d <;> first
    | exact absurd h he
    | exact ⟨_, rfl, h⟩
theorem itemsL_ok {d : Dat} {v : V} {R : It → Hp → Prop} (hx : Rep K (hide Z H) d v) (h : PostI K Z H (itemsL d) R X) : ∃ a, v = .ref a ∧ (∃ xs, SqL K H a xs) ∧ R (Itl K a) H := by
  have fin : ∀ {a : Addr} {ws : List V} {xs : List Dat}, SqL K (hide Z H) a ws → RepL K (hide Z H) xs ws → PostI K Z H (.ok xs) R X → R (Itl K a) H := fun {a ws xs} hs hr h =>
    h (Itl K a) ws (fun H1 => SqL K H1 a ws) H (Same.refl H) (fun H1 s => s.seq hs) ⟨fun i H1 g hi => ⟨ws, ws[i], g, by simp [hi]⟩, fun i H1 x H2 g y => ⟨y.1, fun hi => y.2 ws g⟩, fun i H1 g hi => ⟨ws, g, hi⟩⟩ hr
  cases d <;> first
    | exact False.elim h
    | skip
  · simp only [Rep] at hx
    obtain ⟨a, ws, rfl, g1, g2⟩ := hx
    exact ⟨a, rfl, ⟨ws, SqL.of (hide_some g1).1⟩, fin (SqL.of g1) g2 h⟩
  · simp only [Rep] at hx
    obtain ⟨a, ws, rfl, g1, g2⟩ := hx
    exact ⟨a, rfl, ⟨ws, hide_le.seq g1⟩, fin g1 g2 h⟩
theorem repL_map {α : Type} {f : α → Dat} {g : α → V} (h : ∀ x, Rep K H (f x) (g x)) : ∀ l : List α, RepL K H (l.map f) (l.map g)
  | [] => by simp [RepL]
  | x :: l => by
    rw [List.map_cons, List.map_cons]
    exact repL_cons (h x) (repL_map h l)
theorem itemsS_ok {d : Dat} {v : V} {R : It → Hp → Prop} (hx : Rep K (hide Z H) d v) (h : PostI K Z H (itemsS d) R X) : ∃ x, v = .str x ∧ R (Its x) H := by
  cases d <;> first
    | exact False.elim h
    | skip
  rename_i s
  simp only [Rep] at hx
  subst hx
  refine ⟨_, rfl, h _ (s.map fun c => vS [c]) (fun _ => True) H (Same.refl H) (fun _ _ => trivial) ⟨fun i H1 _ hi => ?_, fun i H1 x H2 _ y => ⟨y.1, fun hi => ?_⟩, fun i H1 _ hi => ?_⟩ (repL_map (fun c => by simp [Rep]) s)⟩
  · show i < s.toArray.size
    simpa using hi
  · obtain ⟨_, c, e, rfl⟩ := y
    have e' : s[i]? = some c := by simpa using e
    simp [e']
  · show s.toArray.size ≤ i
    simpa using hi
theorem itemsR_ok {d : Dat} {v : V} {R : It → Hp → Prop} (hx : Rep K (hide Z H) d v) (h : PostI K Z H (itemsR d) R X) : ∃ j : Int, [v] = [.int j] ∧ -(2 ^ 62) ≤ j ∧ j < 2 ^ 62 ∧ R (L2.Itr 0 j.toNat) H := by
  cases d <;> first
    | exact False.elim h
    | skip
  rename_i n
  simp only [Rep] at hx
  subst hx
  obtain ⟨h1, h2⟩ := chk_ok (P := fun r => PostI K Z H r R X) (fun z => z) h
  simp only [Bool.and_eq_true, decide_eq_true_eq] at h1
  refine ⟨n, rfl, h1.1, h1.2, h2 _ ((List.range n.toNat).map fun k => V.int ((k : Nat) : Int)) (fun _ => True) H (Same.refl H) (fun _ _ => trivial) ⟨fun i H1 _ hi => ?_, fun i H1 x H2 _ y => ⟨y.1, fun hi => ?_⟩, fun i H1 _ hi => ?_⟩ (repL_map (fun c => by simp [Rep]) _)⟩
  · show i < n.toNat
    simpa using hi
  · obtain ⟨_, rfl⟩ := y
    have hi' : i < n.toNat := by simpa using hi
    simp [hi']
  · show n.toNat ≤ i
    simpa using hi
/-! ### comprehensions -/
theorem mapD_ok {f : Dat → Rs Dat} : ∀ {xs ys : List Dat}, mapD f xs = .ok ys → ys.length = xs.length ∧ ∀ (i : Nat) x, xs[i]? = some x → ∃ y, f x = .ok y ∧ ys[i]? = some y
  | [], ys, h => by
    simp only [mapD, Rs.ok.injEq] at h
    subst h
    exact ⟨rfl, fun i x e => by simp at e⟩
  | a :: xs, ys, h => by
    unfold mapD at h
    cases ha : f a with
    | er => rw [ha] at h; cases h
    | ex c => rw [ha] at h; cases h
    | ok y =>
      rw [ha] at h
      cases hr : mapD f xs with
      | er => simp only [Rs.bind, hr] at h; cases h
      | ex c => simp only [Rs.bind, hr] at h; cases h
      | ok zs =>
        simp only [Rs.bind, hr] at h
        cases h
        obtain ⟨h1, h2⟩ := mapD_ok hr
        refine ⟨by simp [h1], fun i x e => ?_⟩
        cases i with
        | zero =>
          have e' : a = x := by simpa using e
          subst e'
          exact ⟨y, ha, by simp⟩
        | succ i =>
          obtain ⟨y', k1, k2⟩ := h2 i x (by simpa using e)
          exact ⟨y', k1, by simpa using k2⟩
theorem mapD_ex {f : Dat → Rs Dat} (hf : ∀ x c, f x ≠ .ex c) : ∀ (xs : List Dat) c, mapD f xs ≠ .ex c
  | [], c, h => by simp [mapD] at h
  | a :: xs, c, h => by
    unfold mapD at h
    cases ha : f a with
    | er => rw [ha] at h; cases h
    | ex c => exact hf a c ha
    | ok y =>
      rw [ha] at h
      cases hr : mapD f xs with
      | er => simp only [Rs.bind, hr] at h; cases h
      | ex c => exact mapD_ex hf xs c hr
      | ok zs => simp only [Rs.bind, hr] at h; cases h
theorem quiet_ok {α : Type} {r : Rs α} {a : α} (h : r.quiet = .ok a) : r = .ok a := by
  cases r with
  | ok b => exact h
  | ex c => cases h
  | er => cases h
theorem quiet_ex {α : Type} {r : Rs α} {c : Nat} : r.quiet ≠ .ex c := by
  cases r <;> (intro h; cases h)
theorem env_set {j : Nat} {x : Dat} {v : V} (E : EnvOk K Z H m ρ σ) (hx : Rep K (hide Z H) x v) : EnvOk K Z H m (ρ.set j (some x)) ((σ.set j none).set j (some v)) := by
  refine ⟨by rw [List.length_set, List.length_set, List.length_set]; exact E.1, fun i d hm e => ?_⟩
  by_cases hi : i = j
  · subst hi
    by_cases hl : i < ρ.length
    · have e' : x = d := by
        rw [List.getD_eq_getElem?_getD, List.getElem?_set_self hl] at e
        simpa using e
      subst e'
      have hl2 : i < σ.length := Nat.lt_of_lt_of_le hl E.1
      exact ⟨v, by rw [List.getElem?_set_self (by rw [List.length_set]; exact hl2)], hx⟩
    · rw [List.getD_eq_getElem?_getD, List.getElem?_eq_none (by rw [List.length_set]; omega)] at e
      cases e
  · have hji : j ≠ i := fun z => hi z.symm
    rw [List.getD_eq_getElem?_getD, List.getElem?_set_ne hji] at e
    obtain ⟨u, h1, h2⟩ := E.2 i d hm (by rw [List.getD_eq_getElem?_getD]; exact e)
    exact ⟨u, by rw [List.getElem?_set_ne hji, List.getElem?_set_ne hji]; exact h1, h2⟩
theorem wipe1 {j : Nat} : wipe σ [j] = σ.set j none := rfl
theorem wipe_back {j : Nat} {v : V} : wipe ((wipe σ [j]).set j (some v)) [j] = wipe σ [j] := by
  rw [wipe1]
  show ((σ.set j none).set j (some v)).set j none = σ.set j none
  rw [List.set_set, List.set_set]
/-- the walk of a comprehension with one test -/
theorem lc_walk {J : It} {ws : List V} {G : Hp → Prop} {xs ys : List Dat} {tt : TT} {te : TE} {j : Nat} {c : Dat → Rs Bool} {f : Dat → Rs Dat}
    (zd : ZD Z H) (hg : ∀ H1, Same (hide Z H) H1 → G H1) (hy : Yields J ws G) (hr : RepL K (hide Z H) xs ws) (hm : mapIfD c f xs = .ok ys) (hl : xs.length < sizeLine)
    (ht : ∀ x v Z' H1, ZD Z' H1 → Same (hide Z H) (hide Z' H1) → Rep K (hide Z' H1) x v → ∀ b, c x = .ok b → ∀ Q : Bool → Hp → Prop, (∀ H2, Same H1 H2 → Q b H2) → tt ((wipe σ [j]).set j (some v)) H1 Q)
    (he : ∀ x v Z' H1, ZD Z' H1 → Same (hide Z H) (hide Z' H1) → Rep K (hide Z' H1) x v → ∀ y, f x = .ok y → ∀ Q : VK, (∀ u H2, Same H1 H2 → Rep K (hide Z' H2) y u → Q u H2) → te ((wipe σ [j]).set j (some v)) H1 Q)
    (q : PostN K Z H (.ok (.lst ys)) Q X) :
    ∀ D, H D = none → ∃ W : Nat → Nat → Hp → Prop, (∃ m, W 0 m (upd H D (.lst []))) ∧ ∀ i m H, W i m H →
      (J.stop i H ∧ Q (.ref D) H) ∨ (J.go i H ∧ ∃ Nx : Hp → Prop, (∀ H', Nx H' → ∃ m', m' < m ∧ W (i + 1) m' H') ∧ ∀ x H', J.yld i H x H' → gName j x (wipe σ [j]) H' fun σ2 H2 => wipe σ2 [j] = wipe σ [j] ∧ tt σ2 H2 fun b H3 =>
        if b = true then te σ2 H3 fun y H4 => ∃ acc, H4 D = some (.lst acc) ∧ acc.length < sizeLine ∧ Nx (upd H4 D (.lst (acc ++ [y]))) else Nx H3) := by
  intro D hD
  have hlen := repL_len hr
  -- what is done so far: ys is done ++ the rest's
  let Pv : Nat → Hp → Prop := fun i H1 => i ≤ ws.length ∧ Same H H1 ∧ ∃ acc done rest, H1 D = some (.lst acc) ∧ acc.length ≤ i ∧ RepL K (hide (fun a => Z a ∨ a = D) H1) done acc ∧ mapIfD c f (xs.drop i) = .ok rest ∧ ys = done ++ rest
  refine ⟨fun i m H1 => m = ws.length - i ∧ Pv i H1, ⟨ws.length, rfl, Nat.zero_le _, same_new hD, [], [], ys, upd_same, Nat.le_refl _, repL_nil, by simpa using hm, rfl⟩, ?_⟩
  rintro i mm H1 ⟨rfl, hi, s1, acc, done, rest, hacc, hal, hdone, hrest, hys⟩
  have gG : G H1 := hg H1 fun b o e => s1 b o (hide_some e).1
  by_cases hlt : i < ws.length
  · refine .inr ⟨hy.go i H1 gG hlt, Pv (i + 1), fun H' p => ⟨ws.length - (i + 1), by omega, rfl, p⟩, fun v H' y => ?_⟩
    obtain ⟨e1, e2⟩ := hy.yl i H1 v H' gG y
    subst e1
    have ev := e2 hlt
    have hxi : i < xs.length := by omega
    have ex : xs[i]? = some xs[i] := List.getElem?_eq_getElem hxi
    obtain ⟨v', ev', rv⟩ := repL_get hr ex
    have evv : v' = v := by rw [ev] at ev'; exact (Option.some.inj ev').symm
    subst evv
    have zd1 : ZD (fun a => Z a ∨ a = D) H' := fun a z e => by
      rcases z with z | z
      · exact zd.same s1 a z e
      · subst z
        rw [hacc] at e
        cases e
    have sh : Same (hide Z H) (hide (fun a => Z a ∨ a = D) H') := fun b o e => by
      obtain ⟨k1, k2⟩ := hide_some e
      exact hide_of (s1 _ _ k1) (fun z => z.elim k2 (ne_of_none k1 hD))
    have rv1 := rep_mono sh _ _ rv
    have hd : xs.drop i = xs[i] :: xs.drop (i + 1) := List.drop_eq_getElem_cons hxi
    rw [hd] at hrest
    unfold mapIfD at hrest
    show wipe ((wipe σ [j]).set j (some v')) [j] = wipe σ [j] ∧ _
    refine ⟨wipe_back, ?_⟩
    cases hc : c xs[i] with
    | er => rw [hc] at hrest; cases hrest
    | ex c => rw [hc] at hrest; cases hrest
    | ok b =>
      rw [hc] at hrest
      refine ht xs[i] v' _ H' zd1 sh rv1 b hc _ fun H2 s2 => ?_
      cases b with
      | false =>
        show Pv (i + 1) H2
        refine ⟨hlt, s1.trans s2, acc, done, rest, s2 _ _ hacc, by omega, repL_mono (hide_same s2) _ _ hdone, hrest, hys⟩
      | true =>
        show te _ H2 _
        cases hf : f xs[i] with
        | er => simp only [Rs.bind, hf] at hrest; cases hrest
        | ex c => simp only [Rs.bind, hf] at hrest; cases hrest
        | ok y1 =>
          cases hm2 : mapIfD c f (xs.drop (i + 1)) with
          | er => simp only [Rs.bind, hf, hm2] at hrest; cases hrest
          | ex c => simp only [Rs.bind, hf, hm2] at hrest; cases hrest
          | ok rest2 =>
            simp only [Rs.bind, hf, hm2] at hrest
            cases hrest
            refine he xs[i] v' _ H2 (zd1.same s2) (sh.trans (hide_same s2)) (rep_mono (hide_same s2) _ _ rv1) y1 hf _ fun u H3 s3 ru => ?_
            have hacc3 := s3 _ _ (s2 _ _ hacc)
            refine ⟨acc, hacc3, by omega, ?_⟩
            show Pv (i + 1) (upd H3 D (.lst (acc ++ [u])))
            have sD : Same H (upd H3 D (.lst (acc ++ [u]))) := fun b o e => by
              rw [upd_ne (ne_of_none e hD)]
              exact s3 _ _ (s2 _ _ (s1 _ _ e))
            have hh : Same (hide (fun a => Z a ∨ a = D) H3) (hide (fun a => Z a ∨ a = D) (upd H3 D (.lst (acc ++ [u])))) := fun b o e => by
              obtain ⟨k1, k2⟩ := hide_some e
              exact hide_of (by rw [upd_ne fun z => k2 (.inr z)]; exact k1) k2
            have ru2 := rep_mono hh _ _ ru
            refine ⟨hlt, sD, acc ++ [u], done ++ [y1], rest2, upd_same, by simp; omega, repL_app (repL_mono hh _ _ (repL_mono (hide_same (s2.trans s3)) _ _ hdone)) (repL_cons ru2 repL_nil), hm2, ?_⟩
            rw [hys, List.append_assoc]
            rfl
  · have hi' : i = ws.length := by omega
    subst hi'
    refine .inl ⟨hy.st _ H1 gG (Nat.le_refl _), ?_⟩
    have hd : xs.drop ws.length = [] := List.drop_eq_nil_of_le (by omega)
    rw [hd] at hrest
    simp only [mapIfD, Rs.ok.injEq] at hrest
    subst hrest
    rw [List.append_nil] at hys
    subst hys
    exact q D acc H1 hD s1 hacc hdone
end
end Fw

set_option maxHeartbeats 4000000
namespace Fw
open PySem PySem.Spec PyProof.Rows L2
open Classical
theorem mapD_if {f : Dat → Rs Dat} : ∀ xs, mapD f xs = mapIfD (fun _ => .ok true) f xs
  | [] => rfl
  | x :: xs => by
    unfold mapD mapIfD
    rw [mapD_if xs]
    rfl
theorem mapIfD_ex {c : Dat → Rs Bool} {f : Dat → Rs Dat} (hc : ∀ x k, c x ≠ .ex k) (hf : ∀ x k, f x ≠ .ex k) : ∀ (xs : List Dat) k, mapIfD c f xs ≠ .ex k
  | [], k, h => by simp [mapIfD] at h
  | a :: xs, k, h => by
    unfold mapIfD at h
    cases hca : c a with
    | er => rw [hca] at h; cases h
    | ex k => exact hc a k hca
    | ok b =>
      rw [hca] at h
      cases b with
      | false => exact mapIfD_ex hc hf xs k h
      | true =>
        cases ha : f a with
        | er => simp only [Rs.bind, ha] at h; cases h
        | ex c => exact hf a c ha
        | ok y =>
          cases hr : mapIfD c f xs with
          | er => simp only [Rs.bind, ha, hr] at h; cases h
          | ex k => exact mapIfD_ex hc hf xs k hr
          | ok zs => simp only [Rs.bind, ha, hr] at h; cases h
theorem bl_ex {r : Rs Dat} {k : Nat} : r.quiet.bind (fun z => asBl z .ok) ≠ .ex k := by
  cases r with
  | ok d => cases d <;> (intro h; cases h)
  | ex c => intro h; cases h
  | er => intro h; cases h
theorem bl_ok {r : Rs Dat} {b : Bool} (h : r.quiet.bind (fun z => asBl z .ok) = .ok b) : r = .ok (.bl b) := by
  cases r with
  | ok d =>
    cases d <;> first
      | (cases h; done)
      | (have e : Rs.ok _ = Rs.ok b := h
         cases e
         rfl)
  | ex c => cases h
  | er => cases h
/-- what the called defs give -/
def FnsOk (K : PySem.W.Frag) (cv : Nat → Value) (io : Nat → Bool) (S : Sps) (G : Gd) : Prop :=
  ∀ f ds vs Z H Q E, io f = false → ZD Z H → RepL K (hide Z H) ds vs → Post K Z H ((G f ds).bind fun r => .ok r.1) Q (fun c H' => E (cv c) none H') → S f vs H Q E
section
variable {T : Tbl} {K : PySem.W.Frag} {cv : Nat → Value} {io : Nat → Bool} {S : Sps} {G : Gd}

theorem postW0 {Z : Addr → Prop} {H : Hp} {σ : L2.St} {r : Rs Dat} {y : Dat} {Q : VK} (h : r = .ok y) (q : ∀ u H', Same H H' → Rep K (hide Z H') y u → Q u H') : Post K Z H r Q (fun c H' => W0 (cv c) none σ H') := by
  subst h
  exact q
theorem isStr_ok {Z : Addr → Prop} {H : Hp} {x : Dat} {v : V} (h : isStr x = true) (r : Rep K (hide Z H) x v) : ∃ a, v = .str a := by
  cases x <;> first
    | exact absurd h Bool.false_ne_true
    | skip
  simp only [Rep] at r
  exact ⟨_, r⟩
theorem isStr_ty {Z : Addr → Prop} {H : Hp} {x : Dat} {v : V} (h : isStr x = true) (r : Rep K (hide Z H) x v) : tyV K "str" v H := by
  obtain ⟨a, rfl⟩ := isStr_ok h r
  rfl
mutual
theorem evD_ok (hG : FnsOk K cv io S G) : ∀ (e : Ex) (W : WX) (σ : L2.St) (H : Hp) (ρ : Env1) (Z : Addr → Prop) (Q : VK), ZD Z H → EnvOk K Z H (ment e) ρ σ → PostN K Z H (evD T io G e ρ) Q (fun c H' => W (cv c) none σ H') → (fresh e = true ∨ Post K Z H (evD T io G e ρ) Q (fun c H' => W (cv c) none σ H')) → tE K T S W e σ H Q
  | .var i, W, σ, H, ρ, Z, Q, zd, E, hN, hP => by
    have h := hP.resolve_left Bool.false_ne_true
    unfold evD at h
    unfold tE
    cases e : ρ.getD i none with
    | none => rw [e] at h; exact False.elim h
    | some d =>
      rw [e] at h
      obtain ⟨v, h1, h2⟩ := E.2 i d (by unfold ment; simp) e
      exact ⟨v, h1, post_here h h2⟩
  | .con v, W, σ, H, ρ, Z, Q, zd, E, hN, hP => by
    have h := hP.resolve_left Bool.false_ne_true
    unfold evD at h
    unfold tE
    exact datC_ok h
  | .glb i, W, σ, H, ρ, Z, Q, zd, E, hN, hP => by
    have h := hP.resolve_left Bool.false_ne_true
    unfold evD at h
    unfold tE
    exact datC_ok h
  | .bin o a b, W, σ, H, ρ, Z, Q, zd, E, hN, hP => by
    unfold evD at hN
    unfold tE
    change EnvOk K Z H (fun k => ment a k || ment b k) ρ σ at E
    refine evP hG a W σ H ρ Z _ zd E.l (bindN hN fun x v H1 s1 rx h1 => ?_)
    refine evP hG b W σ H1 ρ Z _ (zd.same s1) (E.r.same s1) (bindN h1 fun y w H2 s2 ry h2 => ?_)
    exact bin_ok ((zd.same s1).same s2) o (rep_mono (hide_same s2) x v rx) ry h2
  | .neg a, W, σ, H, ρ, Z, Q, zd, E, hN, hP => by
    have h := hP.resolve_left Bool.false_ne_true
    unfold evD at h
    unfold tE
    change EnvOk K Z H (ment a) ρ σ at E
    refine evP hG a W σ H ρ Z _ zd E (bindP h fun x v H1 s1 rx h1 => ?_)
    obtain ⟨i, rfl, h2⟩ := intP (P := fun r => Post K Z H1 r Q _) (fun z => z) h1
    simp only [Rep] at rx
    exact ⟨i, rx, post_here h2 (by simp [Rep])⟩
  | .not a, W, σ, H, ρ, Z, Q, zd, E, hN, hP => by
    have h := hP.resolve_left Bool.false_ne_true
    unfold evD at h
    unfold tE
    change EnvOk K Z H (ment a) ρ σ at E
    refine evP hG a W σ H ρ Z _ zd E (bindP h fun x v H1 s1 rx h1 => ?_)
    obtain ⟨i, rfl, h2⟩ := blP (P := fun r => Post K Z H1 r Q _) (fun z => z) h1
    simp only [Rep] at rx
    exact ⟨i, rx, post_here h2 (by simp [Rep])⟩
  | .cmp o a b, W, σ, H, ρ, Z, Q, zd, E, hN, hP => by
    have h := hP.resolve_left Bool.false_ne_true
    unfold evD at h
    unfold tE
    change EnvOk K Z H (fun k => ment a k || ment b k) ρ σ at E
    refine evP hG a W σ H ρ Z _ zd E.l (bindP h fun x v H1 s1 rx h1 => ?_)
    refine evP hG b W σ H1 ρ Z _ (zd.same s1) (E.r.same s1) (bindP h1 fun y w H2 s2 ry h2 => ?_)
    exact cmp_ok o (rep_mono (hide_same s2) x v rx) ry h2
  | .chn o o' a b c, W, σ, H, ρ, Z, Q, zd, E, hN, hP => by
    have h := hP.resolve_left Bool.false_ne_true
    unfold evD at h
    unfold tE
    change EnvOk K Z H (fun k => ment a k || ment b k || ment c k) ρ σ at E
    have Eab : EnvOk K Z H (fun k => ment a k || ment b k) ρ σ := E.sub fun i e => by simp at e ⊢; rcases e with e | e <;> simp [e]
    have Ec : EnvOk K Z H (ment c) ρ σ := E.sub fun i e => by simp [e]
    refine evP hG a W σ H ρ Z _ zd Eab.l (bindP h fun x v H1 s1 rx h1 => ?_)
    refine evP hG b W σ H1 ρ Z _ (zd.same s1) (Eab.r.same s1) (bindP h1 fun y w H2 s2 ry h2 => ?_)
    have zd2 := (zd.same s1).same s2
    have cont : ∀ z H', Post K Z H' (asBl z fun k => match k with
        | true => (evD T io G c ρ).bind fun u => cmpD o' y u
        | false => .ok (.bl false)) Q (fun c H' => W (cv c) none σ H') → Same H2 H' → ∀ vz, Rep K (hide Z H') z vz → ∃ k, vz = .bl k ∧ (if k = true then tE K T S W c σ H' fun u H4 => rCmp K o' w u H4 Q else Q (.bl false) H') := fun z H' hz s3 vz rz => by
      obtain ⟨k, rfl, h3⟩ := blP (P := fun r => Post K Z H' r Q _) (fun z => z) hz
      simp only [Rep] at rz
      refine ⟨k, rz, ?_⟩
      cases k with
      | false => exact post_here h3 (by simp [Rep])
      | true =>
        show tE K T S W c σ H' _
        refine evP hG c W σ H' ρ Z _ (zd2.same s3) (Ec.same ((s1.trans s2).trans s3)) (bindP h3 fun u vu H4 s4 ru h4 => ?_)
        exact cmp_ok (X := fun c H' => W (cv c) none σ H') o' (rep_mono (hide_same (s3.trans s4)) y w ry) ru h4
    exact cmp_ok (X := fun c H' => W (cv c) none σ H') o (rep_mono (hide_same s2) x v rx) ry (bindP h2 fun z vz H' s3 rz hz => cont z H' hz s3 vz rz)
  | .and a b, W, σ, H, ρ, Z, Q, zd, E, hN, hP => by
    have h := hP.resolve_left Bool.false_ne_true
    unfold evD at h
    unfold tE
    change EnvOk K Z H (fun k => ment a k || ment b k) ρ σ at E
    refine evP hG a W σ H ρ Z _ zd E.l (bindP h fun x v H1 s1 rx h1 => ?_)
    obtain ⟨k, rfl, h2⟩ := blP (P := fun r => Post K Z H1 r Q _) (fun z => z) h1
    simp only [Rep] at rx
    refine ⟨k, rx, ?_⟩
    cases k with
    | true => exact evP hG b W σ H1 ρ Z Q (zd.same s1) (E.r.same s1) h2
    | false => exact post_here h2 (by simp [Rep])
  | .or a b, W, σ, H, ρ, Z, Q, zd, E, hN, hP => by
    have h := hP.resolve_left Bool.false_ne_true
    unfold evD at h
    unfold tE
    change EnvOk K Z H (fun k => ment a k || ment b k) ρ σ at E
    refine evP hG a W σ H ρ Z _ zd E.l (bindP h fun x v H1 s1 rx h1 => ?_)
    obtain ⟨k, rfl, h2⟩ := blP (P := fun r => Post K Z H1 r Q _) (fun z => z) h1
    simp only [Rep] at rx
    refine ⟨k, rx, ?_⟩
    cases k with
    | false => exact evP hG b W σ H1 ρ Z Q (zd.same s1) (E.r.same s1) h2
    | true => exact post_here h2 (by simp [Rep])
  | .ite c a b, W, σ, H, ρ, Z, Q, zd, E, hN, hP => by
    have h := hP.resolve_left Bool.false_ne_true
    unfold evD at h
    unfold tE
    change EnvOk K Z H (fun k => ment c k || ment a k || ment b k) ρ σ at E
    have Ec : EnvOk K Z H (ment c) ρ σ := E.sub fun i e => by simp [e]
    have Ea : EnvOk K Z H (ment a) ρ σ := E.sub fun i e => by simp [e]
    have Eb : EnvOk K Z H (ment b) ρ σ := E.sub fun i e => by simp [e]
    refine evP hG c W σ H ρ Z _ zd Ec (bindP h fun x v H1 s1 rx h1 => ?_)
    obtain ⟨k, rfl, h2⟩ := blP (P := fun r => Post K Z H1 r Q _) (fun z => z) h1
    simp only [Rep] at rx
    refine ⟨k, rx, ?_⟩
    cases k with
    | true => exact evP hG a W σ H1 ρ Z Q (zd.same s1) (Ea.same s1) h2
    | false => exact evP hG b W σ H1 ρ Z Q (zd.same s1) (Eb.same s1) h2
  | .call f as, W, σ, H, ρ, Z, Q, zd, E, hN, hP => by
    have h := hP.resolve_left Bool.false_ne_true
    unfold evD at h
    unfold tE
    change EnvOk K Z H (mentA as) ρ σ at E
    refine evA_ok hG as W σ H ρ Z _ zd E (bindA (P := fun r H => Post K Z H r Q (fun c H' => W (cv c) none σ H')) (fun c H' h => h) (fun H' h => h) (fun x H1 H2 s h => Post.same s h) h fun ds vs H1 s1 rs h1 => ?_)
    cases hio : io f with
    | true => rw [hio] at h1; exact False.elim h1
    | false =>
      rw [hio] at h1
      exact hG f ds vs Z H1 Q _ hio (zd.same s1) rs h1
  | .len a, W, σ, H, ρ, Z, Q, zd, E, hN, hP => by
    have h := hP.resolve_left Bool.false_ne_true
    unfold evD at h
    unfold tE
    change EnvOk K Z H (ment a) ρ σ at E
    exact evP hG a W σ H ρ Z _ zd E (bindP h fun x v H1 s1 rx h1 => len_ok rx h1)
  | .isi a t, W, σ, H, ρ, Z, Q, zd, E, hN, hP => by
    have h := hP.resolve_left Bool.false_ne_true
    unfold evD at h
    unfold tE
    change EnvOk K Z H (ment a) ρ σ at E
    exact evP hG a W σ H ρ Z _ zd E (bindP h fun x v H1 s1 rx h1 => isi_ok rx h1)
  | .int a, W, σ, H, ρ, Z, Q, zd, E, hN, hP => by
    have h := hP.resolve_left Bool.false_ne_true
    unfold evD at h
    unfold tE
    change EnvOk K Z H (ment a) ρ σ at E
    exact evP hG a W σ H ρ Z _ zd E (bindP h fun x v H1 s1 rx h1 => int_ok rx h1)
  | .list a, W, σ, H, ρ, Z, Q, zd, E, hN, hP => by
    unfold evD at hN
    unfold tE
    change EnvOk K Z H (ment a) ρ σ at E
    exact evP hG a W σ H ρ Z _ zd E (bindN hN fun x v H1 s1 rx h1 => list_ok rx h1)
  | .tupl a, W, σ, H, ρ, Z, Q, zd, E, hN, hP => by
    have h := hP.resolve_left Bool.false_ne_true
    unfold evD at h
    unfold tE
    change EnvOk K Z H (ment a) ρ σ at E
    exact evP hG a W σ H ρ Z _ zd E (bindP h fun x v H1 s1 rx h1 => tupl_ok (zd.same s1) rx h1)
  | .min a b, W, σ, H, ρ, Z, Q, zd, E, hN, hP => by
    have h := hP.resolve_left Bool.false_ne_true
    unfold evD at h
    unfold tE
    change EnvOk K Z H (fun k => ment a k || ment b k) ρ σ at E
    refine evP hG a W σ H ρ Z _ zd E.l (bindP h fun x v H1 s1 rx h1 => ?_)
    exact evP hG b W σ H1 ρ Z _ (zd.same s1) (E.r.same s1) (bindP h1 fun y w H2 s2 ry h2 => min_ok (rep_mono (hide_same s2) x v rx) ry h2)
  | .app o e, W, σ, H, ρ, Z, Q, zd, E, hN, hP => by
    have h := hP.resolve_left Bool.false_ne_true
    unfold evD at h
    exact False.elim h
  | .pop o, W, σ, H, ρ, Z, Q, zd, E, hN, hP => by
    have h := hP.resolve_left Bool.false_ne_true
    unfold evD at h
    exact False.elim h
  | .ext o e, W, σ, H, ρ, Z, Q, zd, E, hN, hP => by
    have h := hP.resolve_left Bool.false_ne_true
    unfold evD at h
    exact False.elim h
  | .lstrip a b, W, σ, H, ρ, Z, Q, zd, E, hN, hP => by
    have h := hP.resolve_left Bool.false_ne_true
    unfold evD at h
    unfold tE
    change EnvOk K Z H (fun k => ment a k || ment b k) ρ σ at E
    refine evP hG a W σ H ρ Z _ zd E.l (bindP h fun x v H1 s1 rx h1 => ?_)
    obtain ⟨h0, h1⟩ := chkP h1
    exact ⟨isStr_ok h0 rx, evP hG b W σ H1 ρ Z _ (zd.same s1) (E.r.same s1) (bindP h1 fun y w H2 s2 ry h2 => (lstrip_ok (rep_mono (hide_same s2) x v rx) ry h2).2)⟩
  | .join a b, W, σ, H, ρ, Z, Q, zd, E, hN, hP => by
    have h := hP.resolve_left Bool.false_ne_true
    unfold evD at h
    unfold tE
    change EnvOk K Z H (fun k => ment a k || ment b k) ρ σ at E
    refine evP hG a W σ H ρ Z _ zd E.l (bindP h fun x v H1 s1 rx h1 => ?_)
    obtain ⟨h0, h1⟩ := chkP h1
    exact ⟨isStr_ok h0 rx, evP hG b W σ H1 ρ Z _ (zd.same s1) (E.r.same s1) (bindP h1 fun y w H2 s2 ry h2 => (join_ok (rep_mono (hide_same s2) x v rx) ry h2).2)⟩
  | .find a b c, W, σ, H, ρ, Z, Q, zd, E, hN, hP => by
    have h := hP.resolve_left Bool.false_ne_true
    unfold evD at h
    unfold tE
    change EnvOk K Z H (fun k => ment a k || ment b k || ment c k) ρ σ at E
    have Ea : EnvOk K Z H (ment a) ρ σ := E.sub fun i e => by simp [e]
    have Eb : EnvOk K Z H (ment b) ρ σ := E.sub fun i e => by simp [e]
    have Ec : EnvOk K Z H (ment c) ρ σ := E.sub fun i e => by simp [e]
    refine evP hG a W σ H ρ Z _ zd Ea (bindP h fun x v H1 s1 rx h1 => ?_)
    obtain ⟨h0, h1⟩ := chkP h1
    refine ⟨isStr_ty h0 rx, evP hG b W σ H1 ρ Z _ (zd.same s1) (Eb.same s1) (bindP h1 fun y w H2 s2 ry h2 => ?_)⟩
    exact evP hG c W σ H2 ρ Z _ ((zd.same s1).same s2) (Ec.same (s1.trans s2)) (bindP h2 fun y2 w2 H3 s3 ry2 h3 => (find_ok (rep_mono (hide_same (s2.trans s3)) x v rx) (rep_mono (hide_same s3) y w ry) ry2 h3).2)
  | .split a b, W, σ, H, ρ, Z, Q, zd, E, hN, hP => by
    unfold evD at hN
    unfold tE
    change EnvOk K Z H (fun k => ment a k || ment b k) ρ σ at E
    refine evP hG a W σ H ρ Z _ zd E.l (bindN hN fun x v H1 s1 rx h1 => ?_)
    obtain ⟨h0, h1⟩ := chkN h1
    exact ⟨isStr_ok h0 rx, evP hG b W σ H1 ρ Z _ (zd.same s1) (E.r.same s1) (bindN h1 fun y w H2 s2 ry h2 => (split_ok (rep_mono (hide_same s2) x v rx) ry h2).2)⟩
  | .part a b, W, σ, H, ρ, Z, Q, zd, E, hN, hP => by
    have h := hP.resolve_left Bool.false_ne_true
    unfold evD at h
    unfold tE
    change EnvOk K Z H (fun k => ment a k || ment b k) ρ σ at E
    refine evP hG a W σ H ρ Z _ zd E.l (bindP h fun x v H1 s1 rx h1 => ?_)
    obtain ⟨h0, h1⟩ := chkP h1
    exact ⟨isStr_ok h0 rx, evP hG b W σ H1 ρ Z _ (zd.same s1) (E.r.same s1) (bindP h1 fun y w H2 s2 ry h2 => (part_ok ((zd.same s1).same s2) (rep_mono (hide_same s2) x v rx) ry h2).2)⟩
  | .idx a b, W, σ, H, ρ, Z, Q, zd, E, hN, hP => by
    have h := hP.resolve_left Bool.false_ne_true
    unfold evD at h
    unfold tE
    change EnvOk K Z H (fun k => ment a k || ment b k) ρ σ at E
    refine evP hG a W σ H ρ Z _ zd E.l (bindP h fun x v H1 s1 rx h1 => ?_)
    exact evP hG b W σ H1 ρ Z _ (zd.same s1) (E.r.same s1) (bindP h1 fun y w H2 s2 ry h2 => idx_ok (rep_mono (hide_same s2) x v rx) ry h2)
  | .slf a lo, W, σ, H, ρ, Z, Q, zd, E, hN, hP => by
    unfold evD at hN
    unfold tE
    change EnvOk K Z H (fun k => ment a k || ment lo k) ρ σ at E
    refine evP hG a W σ H ρ Z _ zd E.l (bindN hN fun x v H1 s1 rx h1 => ?_)
    refine evP hG lo W σ H1 ρ Z _ (zd.same s1) (E.r.same s1) (bindN h1 fun y w H2 s2 ry h2 => ?_)
    obtain ⟨i, rfl, h3⟩ := intP (P := fun r => PostN K Z H2 r Q _) (fun z => z) h2
    simp only [Rep] at ry
    exact ⟨i, ry, sl_ok (rep_mono (hide_same s2) x v rx) h3⟩
  | .slt a hi, W, σ, H, ρ, Z, Q, zd, E, hN, hP => by
    unfold evD at hN
    unfold tE
    change EnvOk K Z H (fun k => ment a k || ment hi k) ρ σ at E
    refine evP hG a W σ H ρ Z _ zd E.l (bindN hN fun x v H1 s1 rx h1 => ?_)
    refine evP hG hi W σ H1 ρ Z _ (zd.same s1) (E.r.same s1) (bindN h1 fun y w H2 s2 ry h2 => ?_)
    obtain ⟨i, rfl, h3⟩ := intP (P := fun r => PostN K Z H2 r Q _) (fun z => z) h2
    simp only [Rep] at ry
    exact ⟨i, ry, sl_ok (rep_mono (hide_same s2) x v rx) h3⟩
  | .sl a lo hi, W, σ, H, ρ, Z, Q, zd, E, hN, hP => by
    unfold evD at hN
    unfold tE
    change EnvOk K Z H (fun k => ment a k || ment lo k || ment hi k) ρ σ at E
    have Ea : EnvOk K Z H (ment a) ρ σ := E.sub fun i e => by simp [e]
    have Eb : EnvOk K Z H (ment lo) ρ σ := E.sub fun i e => by simp [e]
    have Ec : EnvOk K Z H (ment hi) ρ σ := E.sub fun i e => by simp [e]
    refine evP hG a W σ H ρ Z _ zd Ea (bindN hN fun x v H1 s1 rx h1 => ?_)
    refine evP hG lo W σ H1 ρ Z _ (zd.same s1) (Eb.same s1) (bindN h1 fun y w H2 s2 ry h2 => ?_)
    obtain ⟨i, rfl, h3⟩ := intP (P := fun r => PostN K Z H2 r Q _) (fun z => z) h2
    simp only [Rep] at ry
    refine ⟨i, ry, ?_⟩
    refine evP hG hi W σ H2 ρ Z _ ((zd.same s1).same s2) (Ec.same (s1.trans s2)) (bindN h3 fun y2 w2 H3 s3 ry2 h4 => ?_)
    obtain ⟨j, rfl, h5⟩ := intP (P := fun r => PostN K Z H3 r Q _) (fun z => z) h4
    simp only [Rep] at ry2
    exact ⟨j, ry2, sl_ok (rep_mono (hide_same (s2.trans s3)) x v rx) h5⟩
  | .lst as, W, σ, H, ρ, Z, Q, zd, E, hN, hP => by
    unfold evD at hN
    unfold tE
    change EnvOk K Z H (mentA as) ρ σ at E
    refine evA_ok hG as W σ H ρ Z _ zd E (bindA (P := fun r H => PostN K Z H r Q (fun c H' => W (cv c) none σ H')) (fun c H' h => h) (fun H' h => h) (fun x H1 H2 s h => PostN.same s h) hN fun ds vs H1 s1 rs h1 => ?_)
    obtain ⟨h2, h3⟩ := chkN h1
    exact ⟨by rw [repL_len rs]; exact leq_ok h2, new_list rs h3⟩
  | .tup as, W, σ, H, ρ, Z, Q, zd, E, hN, hP => by
    have h := hP.resolve_left Bool.false_ne_true
    unfold evD at h
    unfold tE
    change EnvOk K Z H (mentA as) ρ σ at E
    refine evA_ok hG as W σ H ρ Z _ zd E (bindA (P := fun r H => Post K Z H r Q (fun c H' => W (cv c) none σ H')) (fun c H' h => h) (fun H' h => h) (fun x H1 H2 s h => Post.same s h) h fun ds vs H1 s1 rs h1 => ?_)
    obtain ⟨h2, h3⟩ := chkP h1
    exact ⟨by rw [repL_len rs]; exact leq_ok h2, new_tup (zd.same s1) rs h3⟩
  | .lc j it e, W, σ, H, ρ, Z, Q, zd, E, hN, hP => by
    unfold evD at hN
    unfold tE
    change EnvOk K Z H (fun k => mentI it k || ment e k) ρ σ at E
    obtain ⟨hst, hN⟩ := chkN hN
    refine evI_ok hG it W σ H ρ Z _ zd E.l (bindJ (P := fun r H => PostN K Z H r Q (fun c H' => W (cv c) none σ H')) (fun c H' h => h) (fun H' h => h) (fun x H1 H2 s h => PostN.same s h) hN fun xs J ws G' H1 s1 hg hy rs h1 => ?_)
    obtain ⟨h2, h3⟩ := chkN h1
    have hl := of_decide_eq_true h2
    cases hm : mapD (fun x => (evD T io G e (ρ.set j (some x))).quiet) xs with
    | er => rw [hm] at h3; exact False.elim h3
    | ex c => exact absurd hm (mapD_ex (fun x c => quiet_ex) xs c)
    | ok ys =>
      rw [hm] at h3
      rw [mapD_if] at hm
      refine lc_walk (zd.same s1) hg hy rs hm hl (fun x v Z' H2 _ _ _ b hb Q1 q => ?_) (fun x v Z' H2 zd2 s2 rx y hy1 Q1 q => ?_) h3
      · cases hb
        exact q H2 (Same.refl H2)
      · have E2 : EnvOk K Z' H2 (ment e) ρ σ := ⟨E.1, fun i d hm e1 => by
          obtain ⟨u, k1, k2⟩ := (E.r.same s1).2 i d hm e1
          exact ⟨u, k1, rep_mono s2 d u k2⟩⟩
        exact evP hG e W0 _ H2 (ρ.set j (some x)) Z' _ zd2 (env_set E2 rx) (postW0 (quiet_ok hy1) q)
  | .lcif j it c e, W, σ, H, ρ, Z, Q, zd, E, hN, hP => by
    unfold evD at hN
    unfold tE
    change EnvOk K Z H (fun k => mentI it k || ment c k || ment e k) ρ σ at E
    have Ei : EnvOk K Z H (mentI it) ρ σ := E.sub fun i e => by simp [e]
    have Ec : EnvOk K Z H (ment c) ρ σ := E.sub fun i e => by simp [e]
    have Ee : EnvOk K Z H (ment e) ρ σ := E.sub fun i e => by simp [e]
    obtain ⟨hst, hN⟩ := chkN hN
    refine evI_ok hG it W σ H ρ Z _ zd Ei (bindJ (P := fun r H => PostN K Z H r Q (fun c H' => W (cv c) none σ H')) (fun c H' h => h) (fun H' h => h) (fun x H1 H2 s h => PostN.same s h) hN fun xs J ws G' H1 s1 hg hy rs h1 => ?_)
    obtain ⟨h2, h3⟩ := chkN h1
    have hl := of_decide_eq_true h2
    cases hm : mapIfD (fun x => (evD T io G c (ρ.set j (some x))).quiet.bind fun z => asBl z .ok) (fun x => (evD T io G e (ρ.set j (some x))).quiet) xs with
    | er => rw [hm] at h3; exact False.elim h3
    | ex k => exact absurd hm (mapIfD_ex (fun x k => bl_ex) (fun x c => quiet_ex) xs k)
    | ok ys =>
      rw [hm] at h3
      refine lc_walk (zd.same s1) hg hy rs hm hl (fun x v Z' H2 zd2 s2 rx b hb Q1 q => ?_) (fun x v Z' H2 zd2 s2 rx y hy1 Q1 q => ?_) h3
      · have E2 : EnvOk K Z' H2 (ment c) ρ σ := ⟨E.1, fun i d hm e1 => by
          obtain ⟨u, k1, k2⟩ := (Ec.same s1).2 i d hm e1
          exact ⟨u, k1, rep_mono s2 d u k2⟩⟩
        refine evP hG c W0 _ H2 (ρ.set j (some x)) Z' _ zd2 (env_set E2 rx) (postW0 (bl_ok hb) fun u H3 s3 ru => ?_)
        simp only [Rep] at ru
        exact ⟨b, ru, q H3 s3⟩
      · have E2 : EnvOk K Z' H2 (ment e) ρ σ := ⟨E.1, fun i d hm e1 => by
          obtain ⟨u, k1, k2⟩ := (Ee.same s1).2 i d hm e1
          exact ⟨u, k1, rep_mono s2 d u k2⟩⟩
        exact evP hG e W0 _ H2 (ρ.set j (some x)) Z' _ zd2 (env_set E2 rx) (postW0 (quiet_ok hy1) q)
theorem evA_ok (hG : FnsOk K cv io S G) : ∀ (as : Exs) (W : WX) (σ : L2.St) (H : Hp) (ρ : Env1) (Z : Addr → Prop) (Q : List V → Hp → Prop), ZD Z H → EnvOk K Z H (mentA as) ρ σ → PostL K Z H (evA T io G as ρ) Q (fun c H' => W (cv c) none σ H') → tA K T S W as σ H Q
  | .nil, W, σ, H, ρ, Z, Q, zd, E, h => by
    unfold evA at h
    unfold tA
    exact h [] H (Same.refl H) repL_nil
  | .cons e es, W, σ, H, ρ, Z, Q, zd, E, h => by
    unfold evA at h
    unfold tA
    change EnvOk K Z H (fun k => ment e k || mentA es k) ρ σ at E
    refine evP hG e W σ H ρ Z _ zd E.l (bindL h fun x v H1 s1 rx h1 => ?_)
    refine evA_ok hG es W σ H1 ρ Z _ (zd.same s1) (E.r.same s1) (bindA (P := fun r H => PostL K Z H r Q (fun c H' => W (cv c) none σ H')) (fun c H' h => h) (fun H' h => h) (fun x H1 H2 s h => PostL.same s h) h1 fun ds vs H2 s2 rs h2 => ?_)
    exact h2 (v :: vs) H2 (Same.refl H2) (repL_cons (rep_mono (hide_same s2) x v rx) rs)
theorem evI_ok (hG : FnsOk K cv io S G) : ∀ (it : Itr) (W : WX) (σ : L2.St) (H : Hp) (ρ : Env1) (Z : Addr → Prop) (Q : It → Hp → Prop), ZD Z H → EnvOk K Z H (mentI it) ρ σ → PostI K Z H (evI T io G it ρ) Q (fun c H' => W (cv c) none σ H') → tI K T S W it σ H Q
  | .ls e, W, σ, H, ρ, Z, Q, zd, E, h => by
    unfold evI at h
    unfold tI
    change EnvOk K Z H (ment e) ρ σ at E
    exact evP hG e W σ H ρ Z _ zd E (bindI h fun x v H1 s1 rx h1 => itemsL_ok rx h1)
  | .st e, W, σ, H, ρ, Z, Q, zd, E, h => by
    unfold evI at h
    unfold tI
    change EnvOk K Z H (ment e) ρ σ at E
    exact evP hG e W σ H ρ Z _ zd E (bindI h fun x v H1 s1 rx h1 => itemsS_ok rx h1)
  | .rg e, W, σ, H, ρ, Z, Q, zd, E, h => by
    unfold evI at h
    unfold tI
    change EnvOk K Z H (ment e) ρ σ at E
    exact evP hG e W σ H ρ Z _ zd E (bindI h fun x v H1 s1 rx h1 => itemsR_ok rx h1)
theorem evP (hG : FnsOk K cv io S G) (e : Ex) (W : WX) (σ : L2.St) (H : Hp) (ρ : Env1) (Z : Addr → Prop) (Q : VK) (zd : ZD Z H) (E : EnvOk K Z H (ment e) ρ σ) (h : Post K Z H (evD T io G e ρ) Q (fun c H' => W (cv c) none σ H')) : tE K T S W e σ H Q :=
  evD_ok hG e W σ H ρ Z Q zd E (h.n zd) (.inr h)
end
end
end Fw

set_option maxHeartbeats 4000000
namespace Fw
open PySem PySem.Spec PyProof.Rows L2
open Classical

def PostIo (K : PySem.W.Frag) (cv : Nat → Value) (Z : Addr → Prop) (a : Addr) (H : Hp) (Q : VK) (E : XK) : Rs (Dat × List Dat) → Prop
  | .ok r => ∀ v va' H', (∀ b o, b ≠ a → H b = some o → H' b = some o) → H' a = some (.lst va') → RepL K (hide Z H') r.2 va' → Q v H'
  | .ex c => ∀ H', (∀ b o, b ≠ a → H b = some o → H' b = some o) → E (cv c) none H'
  | .er => False
/-- what the called defs that fill the caller's list give -/
def IosOk (K : PySem.W.Frag) (cv : Nat → Value) (io : Nat → Bool) (S : Sps) (G : Gd) : Prop :=
  ∀ (f : Nat) (acc ds : List Dat) (a : Addr) (va vs : List V) (Z : Addr → Prop) (H : Hp) (Q : VK) (E : XK), io f = true → ZD Z H → Z a → H a = some (.lst va) → RepL K (hide Z H) acc va → RepL K (hide Z H) ds vs →
    PostIo K cv Z a H Q E (G f (.lst acc :: ds)) → S f (.ref a :: vs) H Q E
structure Si (K : PySem.W.Frag) (B : Addr → Prop) (a0 : Option Addr) (H0 : Hp) (L : Nat) (Z : Addr → Prop) (ρ : DS) (σ : L2.St) (H : Hp) : Prop where
  fr : ∀ (b : Addr) (o : HO), some b ≠ a0 → H0 b = some o → H b = some o
  zb : ∀ a : Addr, B a → Z a
  zd : ZD Z H
  len : ρ.length = σ.length
  ln : ρ.length = L
  dm : ∀ (b : Addr) (o : HO), H0 b = some o → ∃ o', H b = some o'
  zo : ∀ a : Addr, Z a → B a ∨ H0 a = none ∨ a0 = some a
  val : ∀ (i : Nat) (d : Dat), ρ.getD i none = some (d, false) → ∃ v, σ[i]? = some (some v) ∧ Rep K (hide Z H) d v
  own : ∀ (i : Nat) (d : Dat), ρ.getD i none = some (d, true) → ∃ (a : Addr) (vs : List V) (ds : List Dat), σ[i]? = some (some (.ref a)) ∧ d = .lst ds ∧ H a = some (.lst vs) ∧ RepL K (hide Z H) ds vs ∧ Z a ∧ ¬ B a ∧ (H0 a = none ∨ a0 = some a)
  inj : ∀ (i j : Nat) (d e : Dat) (a : Addr), ρ.getD i none = some (d, true) → ρ.getD j none = some (e, true) → σ[i]? = some (some (.ref a)) → σ[j]? = some (some (.ref a)) → i = j
  io0 : ∀ a : Addr, a0 = some a → σ[0]? = some (some (.ref a))
def SiE (K : PySem.W.Frag) (B : Addr → Prop) (a0 : Option Addr) (H0 : Hp) (L : Nat) (ρ : DS) (σ : L2.St) (H : Hp) : Prop := ∃ Z, Si K B a0 H0 L Z ρ σ H
def PostS (K : PySem.W.Frag) (cv : Nat → Value) (B : Addr → Prop) (a0 : Option Addr) (H0 : Hp) (L : Nat) (W : WX) (D : Ends) : Rd → Prop
  | .nx ρ => ∀ σ H, SiE K B a0 H0 L ρ σ H → D.nx σ H
  | .ct ρ => ∀ σ H, SiE K B a0 H0 L ρ σ H → D.ct σ H
  | .rt d _ => ∀ v H, (∀ b o, some b ≠ a0 → H0 b = some o → H b = some o) → Rep K (hide B H) d v → D.rt v H
  | .ex c => ∀ σ H, (∀ b o, some b ≠ a0 → H0 b = some o → H b = some o) → W (cv c) none σ H
  | .er => False
section
variable {K : PySem.W.Frag} {B : Addr → Prop} {a0 : Option Addr} {H0 : Hp} {L : Nat} {Z : Addr → Prop} {ρ : DS} {σ : L2.St} {H H' : Hp}
theorem Si.same (h : Si K B a0 H0 L Z ρ σ H) (s : Same H H') : Si K B a0 H0 L Z ρ σ H' where
  fr := fun b o hb e => s _ _ (h.fr b o hb e)
  zb := h.zb
  zd := h.zd.same s
  len := h.len
  ln := h.ln
  dm := fun b o e => by
    obtain ⟨o', e'⟩ := h.dm b o e
    exact ⟨o', s _ _ e'⟩
  zo := h.zo
  val := fun i d e => by
    obtain ⟨v, h1, h2⟩ := h.val i d e
    exact ⟨v, h1, rep_mono (hide_same s) d v h2⟩
  own := fun i d e => by
    obtain ⟨a, vs, ds, h1, h2, h3, h4, h5⟩ := h.own i d e
    exact ⟨a, vs, ds, h1, h2, s _ _ h3, repL_mono (hide_same s) ds vs h4, h5⟩
  inj := h.inj
  io0 := h.io0
theorem vals_get {i : Nat} : (vals ρ).getD i none = (ρ.getD i none).map (·.1) := by
  unfold vals
  rw [List.getD_eq_getElem?_getD, List.getD_eq_getElem?_getD, List.getElem?_map]
  cases ρ[i]? with
  | none => rfl
  | some x => rfl
theorem vals_len : (vals ρ).length = ρ.length := by
  unfold vals
  rw [List.length_map]
/-- the owned lists that m names -/
def namedOwn (ρ : DS) (σ : L2.St) (m : Nat → Bool) (a : Addr) : Prop := ∃ i d, m i = true ∧ ρ.getD i none = some (d, true) ∧ σ[i]? = some (some (.ref a))
/-- hidden but for what m names -/
def Zm (Z : Addr → Prop) (ρ : DS) (σ : L2.St) (m : Nat → Bool) : Addr → Prop := fun a => Z a ∧ ¬ namedOwn ρ σ m a
/-- an expression may be evaluated where what it names is seen -/
theorem Si.env (h : Si K B a0 H0 L Z ρ σ H) (m : Nat → Bool) : EnvOk K (Zm Z ρ σ m) H m (vals ρ) σ := by
  refine ⟨by rw [vals_len, h.len]; exact Nat.le_refl _, fun i d hm e => ?_⟩
  rw [vals_get] at e
  cases hx : ρ.getD i none with
  | none => rw [hx] at e; cases e
  | some p =>
    obtain ⟨d', b⟩ := p
    rw [hx] at e
    have e' : d' = d := by simpa using e
    subst e'
    cases b with
    | false =>
      obtain ⟨v, h1, h2⟩ := h.val i d' hx
      exact ⟨v, h1, rep_mono (hide_anti fun a z => z.1) d' v h2⟩
    | true =>
      obtain ⟨a, vs, ds, h1, rfl, h3, h4, h5, h6, h7⟩ := h.own i d' hx
      refine ⟨.ref a, h1, ?_⟩
      simp only [Rep]
      exact ⟨a, vs, rfl, hide_of h3 (fun z => z.2 ⟨i, _, hm, hx, h1⟩), repL_mono (hide_anti fun a z => z.1) ds vs h4⟩
theorem Si.zdm (h : Si K B a0 H0 L Z ρ σ H) (m : Nat → Bool) : ZD (Zm Z ρ σ m) H := fun a z => h.zd a z.1
theorem unF_get (m : Nat → Bool) : ∀ (k : Nat) (ρ : DS) (i : Nat), (unownF m k ρ).getD i none = match ρ.getD i none with
    | some (d, true) => some (d, !m (k + i))
    | x => x
  | k, [], i => by simp [unownF]
  | k, x :: r, 0 => by
    unfold unownF
    simp only [List.getD_cons_zero]
    cases x with
    | none => rfl
    | some p =>
      obtain ⟨d, b⟩ := p
      cases b <;> rfl
  | k, x :: r, i + 1 => by
    unfold unownF
    simp only [List.getD_cons_succ]
    rw [unF_get m (k + 1) r i]
    have e1 : k + 1 + i = k + (i + 1) := by omega
    rw [e1]
theorem unF_len (m : Nat → Bool) : ∀ (k : Nat) (ρ : DS), (unownF m k ρ).length = ρ.length
  | k, [] => rfl
  | k, x :: r => by
    unfold unownF
    rw [List.length_cons, List.length_cons, unF_len m (k + 1) r]
theorem unF_own {m : Nat → Bool} {i : Nat} {d : Dat} (h : (unownF m 0 ρ).getD i none = some (d, true)) : ρ.getD i none = some (d, true) ∧ m i = false := by
  rw [unF_get] at h
  rw [Nat.zero_add] at h
  cases hx : ρ.getD i none with
  | none => rw [hx] at h; cases h
  | some p =>
    obtain ⟨d', b⟩ := p
    rw [hx] at h
    cases b with
    | false => cases h
    | true =>
      have h' : some (d', !m i) = some (d, true) := h
      simp only [Option.some.injEq, Prod.mk.injEq, Bool.not_eq_true'] at h'
      exact ⟨by rw [h'.1], h'.2⟩
theorem unF_val {m : Nat → Bool} {i : Nat} {d : Dat} (h : (unownF m 0 ρ).getD i none = some (d, false)) : ρ.getD i none = some (d, false) ∨ (ρ.getD i none = some (d, true) ∧ m i = true) := by
  rw [unF_get] at h
  rw [Nat.zero_add] at h
  cases hx : ρ.getD i none with
  | none => rw [hx] at h; cases h
  | some p =>
    obtain ⟨d', b⟩ := p
    rw [hx] at h
    cases b with
    | false => exact .inl h
    | true =>
      have h' : some (d', !m i) = some (d, false) := h
      simp only [Option.some.injEq, Prod.mk.injEq, Bool.not_eq_false'] at h'
      exact .inr ⟨by rw [h'.1], h'.2⟩
/-- what e names is given up -/
theorem Si.un (h : Si K B a0 H0 L Z ρ σ H) (m : Nat → Bool) : Si K B a0 H0 L (Zm Z ρ σ m) (unownF m 0 ρ) σ H where
  fr := h.fr
  zb := fun a ha => ⟨h.zb a ha, fun ⟨i, d, _, h2, h3⟩ => by
    obtain ⟨a', vs, ds, k1, k2, k3, k4, k5, k6, k7⟩ := h.own i d h2
    rw [h3] at k1
    cases k1
    exact k6 ha⟩
  zd := h.zdm _
  len := by rw [unF_len]; exact h.len
  ln := by rw [unF_len]; exact h.ln
  dm := h.dm
  zo := fun a z => h.zo a z.1
  val := fun i d hd => by
    rcases unF_val hd with hd | ⟨hd, hm⟩
    · obtain ⟨v, h1, h2⟩ := h.val i d hd
      exact ⟨v, h1, rep_mono (hide_anti fun a z => z.1) d v h2⟩
    · obtain ⟨a, vs, ds, h1, rfl, h3, h4, h5, h6, h7⟩ := h.own i d hd
      refine ⟨.ref a, h1, ?_⟩
      simp only [Rep]
      exact ⟨a, vs, rfl, hide_of h3 (fun z => z.2 ⟨i, _, hm, hd, h1⟩), repL_mono (hide_anti fun a z => z.1) ds vs h4⟩
  own := fun i d hd => by
    obtain ⟨hd, hm⟩ := unF_own hd
    obtain ⟨a, vs, ds, h1, h2, h3, h4, h5, h6, h7⟩ := h.own i d hd
    refine ⟨a, vs, ds, h1, h2, h3, repL_mono (hide_anti fun a z => z.1) ds vs h4, ⟨h5, fun ⟨j, d', k1, k2, k3⟩ => ?_⟩, h6, h7⟩
    have := h.inj i j d d' a hd k2 h1 k3
    subst this
    rw [hm] at k1
    cases k1
  inj := fun i j d e' a h1 h2 => h.inj i j d e' a (unF_own h1).1 (unF_own h2).1
  io0 := h.io0
/-- hiding more lists from what has none -/
theorem nolst_hide (h : Si K B a0 H0 L Z ρ σ H) (s : Same H H') {m : Nat → Bool} {d : Dat} {v : V} (n : nolst d = true) (r : Rep K (hide (Zm Z ρ σ m) H') d v) : Rep K (hide Z H') d v := by
  refine rep_nolst (fun a vs e => ?_) d v n r
  obtain ⟨h1, h2⟩ := hide_some e
  refine hide_of h1 fun z => h2 ⟨z, fun ⟨i, d', _, k2, k3⟩ => ?_⟩
  obtain ⟨a', vs', ds', q1, q2, q3, _⟩ := h.own i d' k2
  rw [k3] at q1
  cases q1
  rw [s _ _ q3] at h1
  cases h1
theorem nolstL_hide (h : Si K B a0 H0 L Z ρ σ H) (s : Same H H') {m : Nat → Bool} {d : List Dat} {v : List V} (n : nolstL d = true) (r : RepL K (hide (Zm Z ρ σ m) H') d v) : RepL K (hide Z H') d v := by
  refine repL_nolst (fun a vs e => ?_) d v n r
  obtain ⟨h1, h2⟩ := hide_some e
  refine hide_of h1 fun z => h2 ⟨z, fun ⟨i, d', _, k2, k3⟩ => ?_⟩
  obtain ⟨a', vs', ds', q1, q2, q3, _⟩ := h.own i d' k2
  rw [k3] at q1
  cases q1
  rw [s _ _ q3] at h1
  cases h1
/-- behind the evaluation of e: the state, and its value -/
theorem Si.after (h : Si K B a0 H0 L Z ρ σ H) (s : Same H H') (e : Ex) {d : Dat} {v : V} (r : Rep K (hide (Zm Z ρ σ (ment e)) H') d v) : ∃ Z', Si K B a0 H0 L Z' (unown e d ρ) σ H' ∧ Rep K (hide Z' H') d v ∧ ∀ a, Z' a → Z a := by
  unfold unown
  cases n : nolst d with
  | true => exact ⟨Z, h.same s, nolst_hide h s n r, fun a z => z⟩
  | false => exact ⟨_, (h.un (ment e)).same s, r, fun a z => z.1⟩
theorem getD_set {α : Type} {l : List α} {i j : Nat} {x y : α} : (l.set i x).getD j y = if i = j ∧ i < l.length then x else l.getD j y := by
  rw [List.getD_eq_getElem?_getD, List.getD_eq_getElem?_getD, List.getElem?_set]
  by_cases e : i = j
  · subst e
    by_cases hl : i < l.length
    · simp [hl]
    · simp [hl]
  · simp [e]
theorem set_get {i j : Nat} {v : V} (hi : i < σ.length) : (σ.set i (some v))[j]? = if i = j then some (some v) else σ[j]? := by
  rw [List.getElem?_set]
  by_cases e : i = j
  · subst e
    simp [hi]
  · simp [e]
/-- a name is stored -/
theorem Si.put (h : Si K B a0 H0 L Z ρ σ H) {i : Nat} (hi : i < ρ.length) (h0 : ∀ a, a0 = some a → i ≠ 0) {d : Dat} {v : V} (r : Rep K (hide Z H) d v) : Si K B a0 H0 L Z (ρ.set i (some (d, false))) (σ.set i (some v)) H where
  fr := h.fr
  zb := h.zb
  zd := h.zd
  len := by rw [List.length_set, List.length_set]; exact h.len
  ln := by rw [List.length_set]; exact h.ln
  dm := h.dm
  zo := h.zo
  val := fun j e hj => by
    rw [getD_set] at hj
    rw [set_get (by rw [← h.len]; exact hi)]
    split at hj
    · rename_i hc
      rw [if_pos hc.1]
      cases hj
      exact ⟨v, rfl, r⟩
    · rename_i hc
      rw [if_neg fun z => hc ⟨z, hi⟩]
      exact h.val j e hj
  own := fun j e hj => by
    rw [getD_set] at hj
    rw [set_get (by rw [← h.len]; exact hi)]
    split at hj
    · cases hj
    · rename_i hc
      rw [if_neg fun z => hc ⟨z, hi⟩]
      exact h.own j e hj
  inj := fun j k d1 e1 a h1 h2 g1 g2 => by
    rw [getD_set] at h1 h2
    rw [set_get (by rw [← h.len]; exact hi)] at g1 g2
    split at h1
    · cases h1
    · rename_i hc
      split at h2
      · cases h2
      · rename_i hc2
        rw [if_neg fun z => hc ⟨z, hi⟩] at g1
        rw [if_neg fun z => hc2 ⟨z, hi⟩] at g2
        exact h.inj j k d1 e1 a h1 h2 g1 g2
  io0 := fun a ha => by
    rw [set_get (by rw [← h.len]; exact hi), if_neg (h0 a ha)]
    exact h.io0 a ha
/-- a name is stored: a new list -/
theorem Si.putN (h : Si K B a0 H0 L Z ρ σ H) {i : Nat} (hi : i < ρ.length) (h0 : ∀ a, a0 = some a → i ≠ 0) {ds : List Dat} {vs : List V} {p : Addr} (hp : H p = none) (s : Same H H') (e : H' p = some (.lst vs)) (r : RepL K (hide (fun a => Z a ∨ a = p) H') ds vs) :
    Si K B a0 H0 L (fun a => Z a ∨ a = p) (ρ.set i (some (.lst ds, true))) (σ.set i (some (.ref p))) H' := by
  have hB : ¬ B p := fun z => h.zd p (h.zb p z) hp
  have hn0 : H0 p = none := by
    cases q : H0 p with
    | none => rfl
    | some o =>
      obtain ⟨o', q'⟩ := h.dm p o q
      rw [hp] at q'
      cases q'
  have sh : Same (hide Z H) (hide (fun a => Z a ∨ a = p) H') := fun b o e => by
    obtain ⟨k1, k2⟩ := hide_some e
    exact hide_of (s _ _ k1) (fun z => z.elim k2 (ne_of_none k1 hp))
  exact {
    fr := fun b o hb e => s _ _ (h.fr b o hb e)
    zb := fun a ha => .inl (h.zb a ha)
    zd := fun a z => by
      rcases z with z | rfl
      · exact h.zd.same s a z
      · rw [e]
        exact fun z => by cases z
    len := by rw [List.length_set, List.length_set]; exact h.len
    ln := by rw [List.length_set]; exact h.ln
    dm := fun b o e => by
      obtain ⟨o', e'⟩ := h.dm b o e
      exact ⟨o', s _ _ e'⟩
    zo := fun a z => by
      rcases z with z | rfl
      · exact h.zo a z
      · exact .inr (.inl hn0)
    val := fun j d hj => by
      rw [getD_set] at hj
      rw [set_get (by rw [← h.len]; exact hi)]
      split at hj
      · cases hj
      · rename_i hc
        rw [if_neg fun z => hc ⟨z, hi⟩]
        obtain ⟨v, h1, h2⟩ := h.val j d hj
        exact ⟨v, h1, rep_mono sh d v h2⟩
    own := fun j d hj => by
      rw [getD_set] at hj
      rw [set_get (by rw [← h.len]; exact hi)]
      split at hj
      · rename_i hc
        rw [if_pos hc.1]
        cases hj
        exact ⟨p, vs, ds, rfl, rfl, e, r, .inr rfl, hB, .inl hn0⟩
      · rename_i hc
        rw [if_neg fun z => hc ⟨z, hi⟩]
        obtain ⟨a, vs', ds', h1, h2, h3, h4, h5, h6, h7⟩ := h.own j d hj
        exact ⟨a, vs', ds', h1, h2, s _ _ h3, repL_mono sh _ _ h4, .inl h5, h6, h7⟩
    inj := fun j k d1 e1 a h1 h2 g1 g2 => by
      rw [getD_set] at h1 h2
      rw [set_get (by rw [← h.len]; exact hi)] at g1 g2
      have old : ∀ j d, ρ.getD j none = some (d, true) → σ[j]? = some (some (V.ref p)) → False := fun j d hj g => by
        obtain ⟨a, vs', ds', k1, _, k3, _⟩ := h.own j d hj
        rw [g] at k1
        cases k1
        rw [hp] at k3
        cases k3
      split at h1
      · rename_i hc
        split at h2
        · rename_i hc2
          omega
        · rename_i hc2
          rw [if_pos hc.1] at g1
          rw [if_neg fun z => hc2 ⟨z, hi⟩] at g2
          cases g1
          exact (old k e1 h2 g2).elim
      · rename_i hc
        split at h2
        · rename_i hc2
          rw [if_neg fun z => hc ⟨z, hi⟩] at g1
          rw [if_pos hc2.1] at g2
          cases g2
          exact (old j d1 h1 g1).elim
        · rename_i hc2
          rw [if_neg fun z => hc ⟨z, hi⟩] at g1
          rw [if_neg fun z => hc2 ⟨z, hi⟩] at g2
          exact h.inj j k d1 e1 a h1 h2 g1 g2
    io0 := fun a ha => by
      rw [set_get (by rw [← h.len]; exact hi), if_neg (h0 a ha)]
      exact h.io0 a ha }
theorem ownAt_get {i : Nat} {ds : List Dat} (h : ownAt ρ i = some ds) : ρ.getD i none = some (.lst ds, true) := by
  unfold ownAt at h
  split at h
  · rename_i e
    cases h
    exact e
  · cases h
/-- an owned list is changed -/
theorem Si.mut (h : Si K B a0 H0 L Z ρ σ H) {i : Nat} {ds ds' : List Dat} {a : Addr} {vs' : List V} (hi : ρ.getD i none = some (.lst ds, true)) (ha : σ[i]? = some (some (.ref a)))
    (k : ∀ b o, b ≠ a → H b = some o → H' b = some o) (e : H' a = some (.lst vs')) (r : RepL K (hide Z H') ds' vs') : Si K B a0 H0 L Z (ρ.set i (some (.lst ds', true))) σ H' := by
  obtain ⟨a', vs, ds1, q1, q2, q3, q4, q5, q6, q7⟩ := h.own i _ hi
  rw [ha] at q1
  cases q1
  have sh : Same (hide Z H) (hide Z H') := fun b o e => by
    obtain ⟨k1, k2⟩ := hide_some e
    exact hide_of (k _ _ (fun z => k2 (z ▸ q5)) k1) k2
  have other : ∀ j d, ρ.getD j none = some (d, true) → j ≠ i → ∀ b, σ[j]? = some (some (V.ref b)) → b ≠ a := fun j d hj hji b hb z => by
    subst z
    exact hji (h.inj j i d _ b hj hi hb ha)
  exact {
    fr := fun b o hb e0 => by
      refine k b o (fun z => ?_) (h.fr b o hb e0)
      subst z
      rcases q7 with z | z
      · rw [e0] at z
        cases z
      · exact hb z.symm
    zb := h.zb
    zd := fun b z => by
      by_cases hb : b = a
      · subst hb
        rw [e]
        exact fun z => by cases z
      · cases q : H b with
        | none => exact absurd q (h.zd b z)
        | some o => rw [k b o hb q]; exact fun z => by cases z
    len := by rw [List.length_set]; exact h.len
    ln := by rw [List.length_set]; exact h.ln
    dm := fun b o e0 => by
      by_cases hb : b = a
      · subst hb
        exact ⟨_, e⟩
      · obtain ⟨o', e'⟩ := h.dm b o e0
        exact ⟨o', k b o' hb e'⟩
    zo := h.zo
    val := fun j d hj => by
      rw [getD_set] at hj
      split at hj
      · cases hj
      · obtain ⟨v, h1, h2⟩ := h.val j d hj
        exact ⟨v, h1, rep_mono sh d v h2⟩
    own := fun j d hj => by
      rw [getD_set] at hj
      split at hj
      · rename_i hc
        cases hj
        rw [← hc.1]
        exact ⟨a, vs', ds', ha, rfl, e, r, q5, q6, q7⟩
      · rename_i hc
        obtain ⟨b, ws, es, h1, h2, h3, h4, h5, h6, h7⟩ := h.own j d hj
        have hji : j ≠ i := fun z => by
          subst z
          refine hc ⟨rfl, ?_⟩
          cases Nat.lt_or_ge j ρ.length with
          | inl z => exact z
          | inr z =>
            rw [List.getD_eq_getElem?_getD, List.getElem?_eq_none z] at hi
            cases hi
        exact ⟨b, ws, es, h1, h2, k _ _ (other j d hj hji b h1) h3, repL_mono sh _ _ h4, h5, h6, h7⟩
    inj := fun j k d1 e1 b h1 h2 g1 g2 => by
      rw [getD_set] at h1 h2
      split at h1
      · rename_i hc
        split at h2
        · rename_i hc2
          omega
        · rename_i hc2
          rw [← hc.1] at g1 ⊢
          exact h.inj i k _ e1 b hi h2 g1 g2
      · rename_i hc
        split at h2
        · rename_i hc2
          rw [← hc2.1] at g2 ⊢
          exact h.inj j i d1 _ b h1 hi g1 g2
        · exact h.inj j k d1 e1 b h1 h2 g1 g2
    io0 := h.io0 }
end
end Fw

set_option maxHeartbeats 4000000
namespace Fw
open PySem PySem.Spec PyProof.Rows L2
open Classical
section
variable {K : PySem.W.Frag} {cv : Nat → Value} {B : Addr → Prop} {a0 : Option Addr} {H0 H0' : Hp} {L : Nat} {Z : Addr → Prop} {ρ : DS} {σ : L2.St} {H H' : Hp} {W : WX} {D : Ends}
/-- all slots, where only the caller's lists are hidden -/
theorem Si.envB (h : Si K B a0 H0 L Z ρ σ H) (m : Nat → Bool) : EnvOk K B H m (vals ρ) σ := by
  refine ⟨by rw [vals_len, h.len]; exact Nat.le_refl _, fun i d hm e => ?_⟩
  rw [vals_get] at e
  cases hx : ρ.getD i none with
  | none => rw [hx] at e; cases e
  | some p =>
    obtain ⟨d', b⟩ := p
    rw [hx] at e
    have e' : d' = d := by simpa using e
    subst e'
    cases b with
    | false =>
      obtain ⟨v, h1, h2⟩ := h.val i d' hx
      exact ⟨v, h1, rep_mono (hide_anti h.zb) d' v h2⟩
    | true =>
      obtain ⟨a, vs, ds, h1, rfl, h3, h4, h5, h6, h7⟩ := h.own i d' hx
      refine ⟨.ref a, h1, ?_⟩
      simp only [Rep]
      exact ⟨a, vs, rfl, hide_of h3 h6, repL_mono (hide_anti h.zb) ds vs h4⟩
/-- against a smaller frame -/
theorem Si.weak (h : Si K B a0 H0' L Z ρ σ H) (f1 : ∀ b o, some b ≠ a0 → H0 b = some o → H0' b = some o) (f2 : ∀ b, H0' b = none → H0 b = none) : Si K B a0 H0 L Z ρ σ H where
  fr := fun b o hb e => h.fr b o hb (f1 b o hb e)
  zb := h.zb
  zd := h.zd
  len := h.len
  ln := h.ln
  dm := fun b o e => by
    cases q : H0' b with
    | none => rw [f2 b q] at e; cases e
    | some o' => exact h.dm b o' q
  zo := fun a z => by
    rcases h.zo a z with z | z | z
    · exact .inl z
    · exact .inr (.inl (f2 a z))
    · exact .inr (.inr z)
  val := h.val
  own := fun i d e => by
    obtain ⟨a, vs, ds, h1, h2, h3, h4, h5, h6, h7⟩ := h.own i d e
    exact ⟨a, vs, ds, h1, h2, h3, h4, h5, h6, h7.imp (f2 a) id⟩
  inj := h.inj
  io0 := h.io0
theorem nolst_map {α : Type} {f : α → Dat} (h : ∀ x, nolst (f x) = true) : ∀ l : List α, nolstL (l.map f) = true
  | [] => rfl
  | x :: l => by
    rw [List.map_cons]
    unfold nolstL
    rw [h x, nolst_map h l]
    rfl
theorem itemsS_no {r : Rs Dat} {xs : List Dat} (h : r.bind itemsS = .ok xs) : nolstL xs = true := by
  cases r with
  | ok d =>
    cases d <;> first
      | (cases h; done)
      | skip
    have e : Rs.ok _ = Rs.ok xs := h
    cases e
    exact nolst_map (fun _ => rfl) _
  | ex c => cases h
  | er => cases h
theorem itemsR_no {r : Rs Dat} {xs : List Dat} (h : r.bind itemsR = .ok xs) : nolstL xs = true := by
  cases r with
  | ok d =>
    cases d <;> first
      | (cases h; done)
      | skip
    rename_i n
    have e : Rs.chk _ (Rs.ok _) = Rs.ok xs := h
    unfold Rs.chk at e
    split at e
    · cases e
      exact nolst_map (fun _ => rfl) _
    · cases e
  | ex c => cases h
  | er => cases h
theorem onRs_ok {α : Type} {r : Rs α} {f : α → Rd} {P : Rd → Prop} (he : ¬ P .er) (h : P (onRs r f)) : (∃ a, r = .ok a ∧ P (f a)) ∨ ∃ c, r = .ex c ∧ P (.ex c) := by
  cases r with
  | ok a => exact .inl ⟨a, rfl, h⟩
  | ex c => exact .inr ⟨c, rfl, h⟩
  | er => exact (he h).elim
theorem okSlot_ok {z : Bool} {i : Nat} {ρ : DS} (h : okSlot z i ρ = true) : i < ρ.length ∧ (z = true → i ≠ 0) := by
  unfold okSlot at h
  simp only [Bool.and_eq_true, Bool.not_eq_true', decide_eq_true_eq] at h
  refine ⟨h.2, fun hz e => ?_⟩
  subst hz e
  cases h.1
theorem unown_len {e : Ex} {d : Dat} {ρ : DS} : (unown e d ρ).length = ρ.length := by
  unfold unown
  split
  · rfl
  · exact unF_len _ _ _
end
section
variable {T : Tbl} {K : PySem.W.Frag} {cv : Nat → Value} {io : Nat → Bool} {S : Sps} {G : Gd} {wf : Nat} {B : Addr → Prop} {a0 : Option Addr} {z : Bool} {L : Nat} {W : WX}
theorem asg_ok (hG : FnsOk K cv io S G) (hz : ∀ a, a0 = some a → z = true) (i : Nat) (e : Ex) {H0 : Hp} {Z : Addr → Prop} {ρ : DS} {σ : L2.St} {H : Hp} {D : Ends} (hs : Si K B a0 H0 L Z ρ σ H)
    (h : PostS K cv B a0 H0 L W D (exD T io G wf z (.asg i e) ρ)) : tS K T S W cv (.asg i e) D σ H := by
  unfold exD at h
  unfold tS
  show tE K T S W e σ H fun x H1 => D.nx (σ.set i (some x)) H1
  have zd := hs.zdm (ment e)
  have E := hs.env (ment e)
  rcases onRs_ok (P := PostS K cv B a0 H0 L W D) (fun h => h) h with ⟨d, hd, h⟩ | ⟨c, hc, h⟩
  · split at h
    · rename_i ho
      obtain ⟨hi, h0⟩ := okSlot_ok ho
      have h0' : ∀ a, a0 = some a → i ≠ 0 := fun a ha => h0 (hz a ha)
      cases hf : fresh e && isLst d with
      | true =>
        rw [hf] at h
        obtain ⟨hf1, hf2⟩ := and2 hf
        cases d <;> first
          | exact absurd hf2 Bool.false_ne_true
          | skip
        rename_i ds
        refine evD_ok hG e W σ H (vals ρ) _ _ zd E ?_ (.inl hf1)
        rw [hd]
        intro p vs H' hp s e1 r
        have hu := hs.un (ment e)
        exact h _ _ ⟨_, hu.putN (by rw [unF_len]; exact hi) h0' hp s e1 r⟩
      | false =>
        rw [hf] at h
        have fin : ∀ v H', Same H H' → Rep K (hide (Zm Z ρ σ (ment e)) H') d v → D.nx (σ.set i (some v)) H' := fun v H' s r => by
          obtain ⟨Z', h1, h2, _⟩ := hs.after s e r
          exact h _ _ ⟨Z', h1.put (by rw [unown_len]; exact hi) h0' h2⟩
        cases hfe : fresh e with
        | false =>
          have hP : Post K (Zm Z ρ σ (ment e)) H (evD T io G e (vals ρ)) (fun x H1 => D.nx (σ.set i (some x)) H1) (fun c H' => W (cv c) none σ H') := by
            rw [hd]
            exact fin
          exact evD_ok hG e W σ H (vals ρ) _ _ zd E (hP.n zd) (.inr hP)
        | true =>
          refine evD_ok hG e W σ H (vals ρ) _ _ zd E ?_ (.inl hfe)
          rw [hd]
          rw [hfe] at hf
          cases d <;> first
            | exact absurd hf.symm Bool.false_ne_true
            | exact fin
    · exact False.elim h
  · have hP : Post K (Zm Z ρ σ (ment e)) H (evD T io G e (vals ρ)) (fun x H1 => D.nx (σ.set i (some x)) H1) (fun c H' => W (cv c) none σ H') := by
      rw [hc]
      exact fun H' s => h σ H' fun b o hb e => s _ _ (hs.fr b o hb e)
    exact evD_ok hG e W σ H (vals ρ) _ _ zd E (hP.n zd) (.inr hP)
/-- an expression's evaluation, at a statement -/
theorem ev_at (hG : FnsOk K cv io S G) (e : Ex) {H0 : Hp} {Z : Addr → Prop} {ρ : DS} {σ : L2.St} {H : Hp} {D : Ends} (hs : Si K B a0 H0 L Z ρ σ H) {f : Dat → Rd} {Q : VK}
    (h : PostS K cv B a0 H0 L W D (onRs (evD T io G e (vals ρ)) f))
    (q : ∀ d v H', evD T io G e (vals ρ) = .ok d → Same H H' → Rep K (hide (Zm Z ρ σ (ment e)) H') d v → PostS K cv B a0 H0 L W D (f d) → Q v H') : tE K T S W e σ H Q := by
  have zd := hs.zdm (ment e)
  have E := hs.env (ment e)
  have hP : Post K (Zm Z ρ σ (ment e)) H (evD T io G e (vals ρ)) Q (fun c H' => W (cv c) none σ H') := by
    rcases onRs_ok (P := PostS K cv B a0 H0 L W D) (fun h => h) h with ⟨d, hd, h⟩ | ⟨c, hc, h⟩
    · rw [hd]
      exact fun v H' s r => q d v H' hd s r h
    · rw [hc]
      exact fun H' s => h σ H' fun b o hb e => s _ _ (hs.fr b o hb e)
  exact evP hG e W σ H (vals ρ) _ _ zd E hP
theorem drop_ok (hG : FnsOk K cv io S G) (e : Ex) {H0 : Hp} {Z : Addr → Prop} {ρ : DS} {σ : L2.St} {H : Hp} {D : Ends} (hs : Si K B a0 H0 L Z ρ σ H)
    (h : PostS K cv B a0 H0 L W D (onRs (evD T io G e (vals ρ)) fun _ => .nx ρ)) : tS K T S W cv (.ex e) D σ H := by
  unfold tS
  exact ev_at hG e hs h fun d v H' _ s r h => h σ H' ⟨Z, hs.same s⟩
theorem list_ty {H : Hp} {a : Addr} {vs : List V} (h : H a = some (.lst vs)) : tyV K "list" (.ref a) H := .inl ⟨rfl, vs, SqL.of h⟩
theorem hide_mut {Z : Addr → Prop} {H : Hp} {a : Addr} {o : HO} (ha : Z a) : Same (hide Z H) (hide Z (upd H a o)) := fun b x e => by
  obtain ⟨k1, k2⟩ := hide_some e
  exact hide_of (by rw [upd_ne fun (z : b = a) => k2 (z ▸ ha)]; exact k1) k2
theorem app_ok (hG : FnsOk K cv io S G) (i : Nat) (e : Ex) {H0 : Hp} {Z : Addr → Prop} {ρ : DS} {σ : L2.St} {H : Hp} {D : Ends} (hs : Si K B a0 H0 L Z ρ σ H)
    (h : PostS K cv B a0 H0 L W D (exD T io G wf z (.ex (.app (.var i) e)) ρ)) : tS K T S W cv (.ex (.app (.var i) e)) D σ H := by
  unfold exD at h
  simp only at h
  split at h
  · exact False.elim h
  rename_i ds0 ho
  obtain ⟨a, vs, ds, h1, _, h3, _⟩ := hs.own i _ (ownAt_get ho)
  unfold tS
  unfold tE
  have ev : tE K T S W (Ex.var i) = tVar i := by unfold tE; rfl
  rw [ev]
  refine ⟨.ref a, h1, list_ty h3, ?_⟩
  refine ev_at hG e hs h fun d v H' _ s r h => ?_
  split at h
  · rename_i ds1 ho1
    split at h
    · rename_i hl
      obtain ⟨Z', hs', r', _⟩ := hs.after s e r
      have hg := ownAt_get ho1
      obtain ⟨a', vs', ds', q1, q2, q3, q4, q5, _⟩ := hs'.own i _ hg
      rw [h1] at q1
      cases q1
      cases q2
      refine ⟨a, vs', v, rfl, rfl, q3, by rw [repL_len q4]; exact of_decide_eq_true hl, ?_⟩
      refine h _ _ ⟨Z', hs'.mut hg h1 (fun b o hb k => by rw [upd_ne hb]; exact k) upd_same ?_⟩
      exact repL_mono (hide_mut q5) _ _ (repL_app q4 (repL_cons r' repL_nil))
    · exact False.elim h
  · exact False.elim h
theorem ext_ok (hG : FnsOk K cv io S G) (i : Nat) (e : Ex) {H0 : Hp} {Z : Addr → Prop} {ρ : DS} {σ : L2.St} {H : Hp} {D : Ends} (hs : Si K B a0 H0 L Z ρ σ H)
    (h : PostS K cv B a0 H0 L W D (exD T io G wf z (.ex (.ext (.var i) e)) ρ)) : tS K T S W cv (.ex (.ext (.var i) e)) D σ H := by
  unfold exD at h
  simp only at h
  split at h
  · exact False.elim h
  rename_i ds0 ho
  obtain ⟨a, vs, ds, h1, _, h3, _⟩ := hs.own i _ (ownAt_get ho)
  unfold tS
  unfold tE
  have ev : tE K T S W (Ex.var i) = tVar i := by unfold tE; rfl
  rw [ev]
  refine ⟨.ref a, h1, list_ty h3, ?_⟩
  refine ev_at hG e hs h fun d v H' _ s r h => ?_
  split at h
  · rename_i es
    split at h
    · rename_i ds1 ho1
      split at h
      · rename_i hl
        have hs' := (hs.un (ment e)).same s
        have hg := ownAt_get ho1
        obtain ⟨a', vs', ds', q1, q2, q3, q4, q5, _⟩ := hs'.own i _ hg
        rw [h1] at q1
        cases q1
        cases q2
        simp only [Rep] at r
        obtain ⟨b, ws, rfl, k1, k2⟩ := r
        refine ⟨a, b, vs', ws, rfl, rfl, q3, (hide_some k1).1, by rw [repL_len q4, repL_len k2]; exact leq_ok hl, ?_⟩
        refine h _ _ ⟨_, hs'.mut hg h1 (fun b o hb k => by rw [upd_ne hb]; exact k) upd_same ?_⟩
        exact repL_mono (hide_mut q5) _ _ (repL_app q4 k2)
      · exact False.elim h
    · exact False.elim h
  · exact False.elim h
theorem ioc_ok (hG : FnsOk K cv io S G) (hI : IosOk K cv io S G) (f i : Nat) (as : Exs) {H0 : Hp} {Z : Addr → Prop} {ρ : DS} {σ : L2.St} {H : Hp} {D : Ends} (hs : Si K B a0 H0 L Z ρ σ H)
    (h : PostS K cv B a0 H0 L W D (exD T io G wf z (.ex (.call f (.cons (.var i) as))) ρ)) : tS K T S W cv (.ex (.call f (.cons (.var i) as))) D σ H := by
  cases hio : io f with
  | false =>
    refine drop_ok hG _ hs ?_
    unfold exD at h
    simp only [hio] at h
    exact h
  | true =>
    unfold exD at h
    simp only [hio] at h
    split at h
    · rename_i ds hds hm
      obtain ⟨a, vs, ds', h1, h2, h3, h4, h5, h6, h7⟩ := hs.own i _ (ownAt_get hds)
      cases h2
      unfold tS
      unfold tE
      unfold tA
      have ev : tE K T S W (Ex.var i) = tVar i := by unfold tE; rfl
      rw [ev]
      refine ⟨.ref a, h1, ?_⟩
      have zd := hs.zdm (mentA as)
      have E := hs.env (mentA as)
      have hP : PostL K (Zm Z ρ σ (mentA as)) H (evA T io G as (vals ρ)) (fun xs H2 => S f (.ref a :: xs) H2 (fun _ H3 => D.nx σ H3) (WE W σ)) (fun c H' => W (cv c) none σ H') := by
        rcases onRs_ok (P := PostS K cv B a0 H0 L W D) (fun h => h) h with ⟨xs, hd, h⟩ | ⟨c, hc, h⟩
        · rw [hd]
          intro ws H' s r
          -- the state behind the arguments
          obtain ⟨Z', ρ', hs', r', ha', hρ⟩ : ∃ Z' ρ', Si K B a0 H0 L Z' ρ' σ H' ∧ RepL K (hide Z' H') xs ws ∧ ρ'.getD i none = some (.lst ds, true) ∧ unownL as xs ρ = ρ' := by
            unfold unownL
            cases n : nolstL xs with
            | true => exact ⟨Z, ρ, hs.same s, nolstL_hide hs s n r, ownAt_get hds, rfl⟩
            | false =>
              refine ⟨_, _, (hs.un (mentA as)).same s, r, ?_, rfl⟩
              rw [unF_get, ownAt_get hds, Nat.zero_add]
              show some (Dat.lst ds, !mentA as i) = _
              rw [hm]
              rfl
          rw [hρ] at h
          obtain ⟨a', vs', ds1, q1, q2, q3, q4, q5, q6, q7⟩ := hs'.own i _ ha'
          rw [h1] at q1
          cases q1
          cases q2
          refine hI f ds xs a vs' ws Z' H' _ _ hio hs'.zd q5 q3 q4 r' ?_
          rcases onRs_ok (P := PostS K cv B a0 H0 L W D) (fun h => h) h with ⟨rr, hg, h⟩ | ⟨c, hc, h⟩
          · rw [hg]
            intro v va' H3 k e1 r3
            exact h _ _ ⟨Z', hs'.mut ha' h1 k e1 r3⟩
          · rw [hc]
            refine fun H3 k => h σ H3 fun b o hb e0 => ?_
            refine k b o (fun hba => ?_) (hs'.fr b o hb e0)
            subst hba
            rcases q7 with q | q
            · rw [e0] at q
              cases q
            · exact hb q.symm
        · rw [hc]
          exact fun H' s => h σ H' fun b o hb e => s _ _ (hs.fr b o hb e)
      refine evA_ok hG as W σ H (vals ρ) _ _ zd E ?_
      exact hP
    · exact False.elim h
mutual
theorem exD_ok (hG : FnsOk K cv io S G) (hI : IosOk K cv io S G) (hz : ∀ a, a0 = some a → z = true) (hz2 : z = true → ∃ a, a0 = some a) : ∀ (s : Sm) (H0 : Hp) (Z : Addr → Prop) (ρ : DS) (σ : L2.St) (H : Hp) (D : Ends), Si K B a0 H0 L Z ρ σ H → PostS K cv B a0 H0 L W D (exD T io G wf z s ρ) → tS K T S W cv s D σ H
  | .asg i e, H0, Z, ρ, σ, H, D, hs, h => asg_ok hG hz i e hs h
  | .set o i e, H0, Z, ρ, σ, H, D, hs, h => by
    unfold exD at h
    exact False.elim h
  | .ex e, H0, Z, ρ, σ, H, D, hs, h => by
    have dflt : PostS K cv B a0 H0 L W D (onRs (evD T io G e (vals ρ)) fun _ => .nx ρ) → tS K T S W cv (.ex e) D σ H := drop_ok hG e hs
    cases e <;> first
      | (refine dflt ?_; unfold exD at h; exact h)
      | skip
    · rename_i f as
      cases as with
      | nil => refine dflt ?_; unfold exD at h; exact h
      | cons e as =>
        cases e <;> first
          | (refine dflt ?_; unfold exD at h; exact h)
          | exact ioc_ok hG hI _ _ _ hs h
    · rename_i o e
      cases o <;> first
        | (refine dflt ?_; unfold exD at h; exact h)
        | exact app_ok hG _ _ hs h
    · rename_i o e
      cases o <;> first
        | (refine dflt ?_; unfold exD at h; exact h)
        | exact ext_ok hG _ _ hs h
  | .ret e, H0, Z, ρ, σ, H, D, hs, h => by
    unfold exD at h
    unfold tS
    have hP : Post K B H (evD T io G e (vals ρ)) D.rt (fun c H' => W (cv c) none σ H') := by
      rcases onRs_ok (P := PostS K cv B a0 H0 L W D) (fun h => h) h with ⟨d, hd, h⟩ | ⟨c, hc, h⟩
      · rw [hd]
        exact fun v H' s r => h v H' (fun b o hb e => s _ _ (hs.fr b o hb e)) r
      · rw [hc]
        exact fun H' s => h σ H' fun b o hb e => s _ _ (hs.fr b o hb e)
    exact evP hG e W σ H (vals ρ) _ _ (fun a ha => hs.zd a (hs.zb a ha)) (hs.envB _) hP
  | .ite c a b, H0, Z, ρ, σ, H, D, hs, h => by
    unfold exD at h
    unfold tS
    refine ev_at hG c hs h fun d v H' hd s r h => ?_
    clear hd
    cases d <;> first
      | exact False.elim h
      | skip
    rename_i k
    simp only [Rep] at r
    refine ⟨k, r, ?_⟩
    cases k with
    | true => exact exDs_ok hG hI hz hz2 a H0 Z ρ σ H' D (hs.same s) h
    | false => exact exDs_ok hG hI hz hz2 b H0 Z ρ σ H' D (hs.same s) h
  | .whl c b, H0, Z, ρ, σ, H, D, hs, h => by
    unfold exD at h
    unfold tS
    refine ⟨fun m σ H => ∃ ρ Z, Si K B a0 H0 L Z ρ σ H ∧ PostS K cv B a0 H0 L W D (whD (fun ρ => (evD T io G c (vals ρ)).bind fun d => asBl d .ok) (exDs T io G wf z b) m ρ), ⟨wf, ρ, Z, hs, h⟩, ?_⟩
    rintro m σ1 H1 ⟨ρ1, Z1, hs1, h1⟩
    cases m with
    | zero => exact False.elim h1
    | succ m =>
      unfold whD at h1
      have h2 : PostS K cv B a0 H0 L W D (onRs (evD T io G c (vals ρ1)) fun d => onRs (asBl d Rs.ok) fun b' => match b' with
          | true => (match exDs T io G wf z b ρ1 with
            | .nx ρ' => whD (fun ρ => (evD T io G c (vals ρ)).bind fun d => asBl d .ok) (exDs T io G wf z b) m ρ'
            | .ct ρ' => whD (fun ρ => (evD T io G c (vals ρ)).bind fun d => asBl d .ok) (exDs T io G wf z b) m ρ'
            | o => o)
          | false => .nx ρ1) := by
        cases he : evD T io G c (vals ρ1) with
        | ok d =>
          rw [he] at h1
          exact h1
        | ex k => rw [he] at h1; exact h1
        | er => rw [he] at h1; exact h1
      refine ev_at hG c hs1 h2 fun d v H' hd s r h => ?_
      clear hd
      cases d <;> first
        | exact False.elim h
        | skip
      rename_i k
      simp only [Rep] at r
      refine ⟨k, r, ?_⟩
      have hs2 := hs1.same s
      cases k with
      | false => exact h σ1 H' ⟨Z1, hs2⟩
      | true =>
        refine ⟨_, fun σ' H' n => ⟨m, Nat.lt_succ_self m, n⟩, exDs_ok hG hI hz hz2 b H0 Z1 ρ1 σ1 H' _ hs2 ?_⟩
        have h' : PostS K cv B a0 H0 L W D (match exDs T io G wf z b ρ1 with
            | .nx ρ' => whD (fun ρ => (evD T io G c (vals ρ)).bind fun d => asBl d .ok) (exDs T io G wf z b) m ρ'
            | .ct ρ' => whD (fun ρ => (evD T io G c (vals ρ)).bind fun d => asBl d .ok) (exDs T io G wf z b) m ρ'
            | o => o) := h
        cases hb : exDs T io G wf z b ρ1 with
        | nx ρ' =>
          rw [hb] at h'
          exact fun σ2 H2 ⟨Z2, hs3⟩ => ⟨ρ', Z2, hs3, h'⟩
        | ct ρ' =>
          rw [hb] at h'
          exact fun σ2 H2 ⟨Z2, hs3⟩ => ⟨ρ', Z2, hs3, h'⟩
        | rt d ρ' => rw [hb] at h'; exact h'
        | ex c => rw [hb] at h'; exact h'
        | er => rw [hb] at h'; exact h'
  | .for_ j it b, H0, Z, ρ, σ, H, D, hs, h => by
    unfold exD at h
    unfold tS
    have zd := hs.zdm (mentI it)
    have E := hs.env (mentI it)
    refine evI_ok hG it W σ H (vals ρ) _ _ zd E ?_
    rcases onRs_ok (P := PostS K cv B a0 H0 L W D) (fun h => h) h with ⟨xs, hxs, h⟩ | ⟨c, hc, h⟩
    · rw [hxs]
      intro J ws G' H1 s1 hg hy hr
      split at h
      · rename_i hok
        obtain ⟨ho, hfo⟩ := and2 hok
        obtain ⟨hj, hj0⟩ := okSlot_ok ho
        -- the state ahead of the first turn
        have hs1 : Si K B a0 H0 L (Zm Z ρ σ (mentI it)) (unownI it ρ) σ H1 := (hs.un (mentI it)).same s1
        -- what is seen stays seen
        let Z1 : Addr → Prop := Zm Z ρ σ (mentI it)
        let F : Hp := fun b => match hide Z1 H1 b with
          | some o => some o
          | none => H0 b
        have zs0 : ∀ a, a0 = some a → Z1 a := fun a ha => by
          have hzt := hz a ha
          subst hzt
          have hfo' : (!mentI it 0 && (ownAt ρ 0).isSome) = true := hfo
          simp only [Bool.and_eq_true, Bool.not_eq_true'] at hfo'
          obtain ⟨ds, hds⟩ := Option.isSome_iff_exists.mp hfo'.2
          obtain ⟨a', vs, ds', k1, k2, k3, k4, k5, k6, k7⟩ := hs.own 0 _ (ownAt_get hds)
          have := hs.io0 a ha
          rw [this] at k1
          cases k1
          refine ⟨k5, fun ⟨i, d, q1, q2, q3⟩ => ?_⟩
          have := hs.inj i 0 d _ a q2 (ownAt_get hds) q3 this
          subst this
          rw [hfo'.1] at q1
          cases q1
        have fN : ∀ a, Z1 a → H0 a = none → F a = none := fun a hz1 h0 => by
          show (match hide Z1 H1 a with
            | some o => some o
            | none => H0 a) = none
          cases q : hide Z1 H1 a with
          | some o => exact absurd hz1 (hide_some q).2
          | none => exact h0
        have fS : ∀ b o, hide Z1 H1 b = some o → F b = some o := fun b o q => by
          show (match hide Z1 H1 b with
            | some o => some o
            | none => H0 b) = some o
          rw [q]
        have f0 : ∀ b, hide Z1 H1 b = none → F b = H0 b := fun b q => by
          show (match hide Z1 H1 b with
            | some o => some o
            | none => H0 b) = H0 b
          rw [q]
        have f1 : ∀ b o, some b ≠ a0 → H0 b = some o → F b = some o := fun b o hb e => by
          cases q : hide Z1 H1 b with
          | some o' =>
            have e2 := hs1.fr b o hb e
            rw [(hide_some q).1] at e2
            rw [fS b o' q, e2]
          | none => rw [f0 b q, e]
        have f2 : ∀ b, F b = none → H0 b = none := fun b e => by
          cases q : hide Z1 H1 b with
          | some o' => rw [fS b o' q] at e; cases e
          | none => rw [← f0 b q, e]
        have seen : ∀ {Z2 ρ2 σ2 H2}, Si K B a0 F L Z2 ρ2 σ2 H2 → Same (hide Z1 H1) (hide Z2 H2) := fun {Z2 ρ2 σ2 H2} g b o q => by
          have hn : some b ≠ a0 := fun e => (hide_some q).2 (zs0 b e.symm)
          refine hide_of (g.fr b o hn (fS b o q)) fun z2 => ?_
          rcases g.zo b z2 with k | k | k
          · exact (hide_some q).2 (hs1.zb b k)
          · rw [fS b o q] at k
            cases k
          · exact hn k.symm
        have hF : Si K B a0 F L Z1 (unownI it ρ) σ H1 := {
          fr := fun b o hb e => by
            cases q : hide Z1 H1 b with
            | some o' =>
              rw [fS b o' q] at e
              rw [← e]
              exact (hide_some q).1
            | none =>
              rw [f0 b q] at e
              exact hs1.fr b o hb e
          zb := hs1.zb
          zd := hs1.zd
          len := hs1.len
          ln := hs1.ln
          dm := fun b o e => by
            cases q : hide Z1 H1 b with
            | some o' => exact ⟨o', (hide_some q).1⟩
            | none =>
              rw [f0 b q] at e
              exact hs1.dm b o e
          zo := fun a z1 => by
            rcases hs1.zo a z1 with k | k | k
            · exact .inl k
            · exact .inr (.inl (fN a z1 k))
            · exact .inr (.inr k)
          val := hs1.val
          own := fun i d e => by
            obtain ⟨a, vs, ds, h1, h2, h3, h4, h5, h6, h7⟩ := hs1.own i d e
            exact ⟨a, vs, ds, h1, h2, h3, h4, h5, h6, h7.imp (fN a h5) id⟩
          inj := hs1.inj
          io0 := hs1.io0 }
        have hlen := repL_len hr
        have wk : ∀ {r : Rd}, PostS K cv B a0 H0 L W D r → (∀ ρ2, r ≠ .nx ρ2) → (∀ ρ2, r ≠ .ct ρ2) → ∀ D', D'.rt = D.rt → PostS K cv B a0 F L W D' r := fun {r} hp n1 n2 D' ed => by
          cases r with
          | nx ρ2 => exact absurd rfl (n1 ρ2)
          | ct ρ2 => exact absurd rfl (n2 ρ2)
          | er => exact hp
          | rt d ρ2 =>
            intro v H2 k r2
            rw [ed]
            exact hp v H2 (fun b o hb e => k b o hb (f1 b o hb e)) r2
          | ex c => exact fun σ2 H2 k => hp σ2 H2 fun b o hb e => k b o hb (f1 b o hb e)
        refine ⟨fun i m σ H => m = ws.length - i ∧ i ≤ ws.length ∧ ∃ ρ Z, Si K B a0 F L Z ρ σ H ∧ PostS K cv B a0 H0 L W D (forD j (exDs T io G wf z b) (xs.drop i) ρ), ⟨ws.length, rfl, Nat.zero_le _, _, Z1, hF, h⟩, ?_⟩
        rintro i m σ2 H2 ⟨rfl, hi, ρ2, Z2, hs2, h2⟩
        have gG : G' H2 := hg H2 fun b o q => hide_le b o (seen hs2 b o q)
        by_cases hlt : i < ws.length
        · refine .inr ⟨hy.go i H2 gG hlt, fun σ H => i + 1 ≤ ws.length ∧ ∃ ρ Z, Si K B a0 F L Z ρ σ H ∧ PostS K cv B a0 H0 L W D (forD j (exDs T io G wf z b) (xs.drop (i + 1)) ρ), fun σ3 H3 n => ⟨ws.length - (i + 1), by omega, rfl, n⟩, fun v H3 y => ?_⟩
          obtain ⟨e1, e2⟩ := hy.yl i H2 v H3 gG y
          subst e1
          have hxi : i < xs.length := by omega
          obtain ⟨v', ev', rv⟩ := repL_get hr (List.getElem?_eq_getElem hxi)
          have evv : v' = v := by
            rw [e2 hlt] at ev'
            exact (Option.some.inj ev').symm
          subst evv
          have hd : xs.drop i = xs[i] :: xs.drop (i + 1) := List.drop_eq_getElem_cons hxi
          rw [hd] at h2
          unfold forD at h2
          have hj2 : j < ρ2.length := by
            rw [hs2.ln, ← hs.ln]
            exact hj
          have hs3 := hs2.put hj2 (fun a ha => hj0 (hz a ha)) (rep_mono (seen hs2) _ _ rv)
          show tSs K T S W cv b _ (σ2.set j (some v')) H3
          refine exDs_ok hG hI hz hz2 b F Z2 _ _ H3 _ hs3 ?_
          cases hb : exDs T io G wf z b (ρ2.set j (some (xs[i], false))) with
          | nx ρ3 =>
            rw [hb] at h2
            exact fun σ4 H4 ⟨Z4, hs4⟩ => ⟨hlt, ρ3, Z4, hs4, h2⟩
          | ct ρ3 =>
            rw [hb] at h2
            exact fun σ4 H4 ⟨Z4, hs4⟩ => ⟨hlt, ρ3, Z4, hs4, h2⟩
          | rt d ρ3 =>
            rw [hb] at h2
            exact wk (r := .rt d ρ3) h2 (fun _ q => by cases q) (fun _ q => by cases q) _ rfl
          | ex c =>
            rw [hb] at h2
            exact wk (r := .ex c) h2 (fun _ q => by cases q) (fun _ q => by cases q) { D with nx := _, ct := _, bk := D.nx } rfl
          | er => rw [hb] at h2; exact h2
        · have hi' : i = ws.length := by omega
          subst hi'
          refine .inl ⟨hy.st _ H2 gG (Nat.le_refl _), ?_⟩
          have hd : xs.drop ws.length = [] := List.drop_eq_nil_of_le (by omega)
          rw [hd] at h2
          unfold forD at h2
          exact h2 σ2 H2 ⟨Z2, hs2.weak f1 f2⟩
      · exact False.elim h
    · rw [hc]
      exact fun H' s => h σ H' fun b o hb e => s _ _ (hs.fr b o hb e)
  | .cont, H0, Z, ρ, σ, H, D, hs, h => by
    unfold exD at h
    unfold tS
    exact h σ H ⟨Z, hs⟩
  | .raise c, H0, Z, ρ, σ, H, D, hs, h => by
    unfold exD at h
    unfold tS
    exact h σ H hs.fr
  | .rrep e y z, H0, Z, ρ, σ, H, D, hs, h => by
    unfold exD at h
    unfold tS
    have hP : Post K B H (evD T io G e (vals ρ)) (fun v H' => ∃ x, v = .str x ∧ x.length + (x.length + 1) * (⟨z.toArray⟩ : Str).length ≤ 16777216 ∧ D.rt (.str (Txt.replace x ⟨y.toArray⟩ ⟨z.toArray⟩)) H') (fun c H' => W (cv c) none σ H') := by
      rcases onRs_ok (P := PostS K cv B a0 H0 L W D) (fun h => h) h with ⟨d, hd, h⟩ | ⟨c, hc, h⟩
      · rw [hd]
        cases d with
        | str x =>
          intro v H' s r
          cases hq : leq (x.length + (x.length + 1) * z.length) 16777216 && leq 1 y.length with
          | true =>
            rw [Bool.and_eq_true] at hq
            have hb := of_decide_eq_true hq.1
            have hy := of_decide_eq_true hq.2
            simp only [hq.1, hq.2, Bool.and_self] at h
            have ev : v = vS x := by
              simp only [Rep] at r
              exact r
            refine ⟨⟨x.toArray⟩, ev, by simpa [Str.length] using hb, ?_⟩
            have e2 : Txt.replace (⟨x.toArray⟩ : Str) ⟨y.toArray⟩ ⟨z.toArray⟩ = ⟨(StrLaws.replL y z x).toArray⟩ := by
              have := StrLaws.replace_list (x := (⟨x.toArray⟩ : Str)) (y := ⟨y.toArray⟩) (z := ⟨z.toArray⟩) (by simpa [Str.length] using hy)
              generalize Txt.replace (⟨x.toArray⟩ : Str) ⟨y.toArray⟩ ⟨z.toArray⟩ = w at this
              cases w with
              | mk cps =>
                simp at this
                rw [← this]
            rw [e2]
            exact h _ H' (fun b o hb e => s _ _ (hs.fr b o hb e)) (by simp only [Rep])
          | false =>
            simp only [hq] at h
            exact h.elim
        | _ => exact h.elim
      · rw [hc]
        exact fun H' s => h σ H' fun b o hb e => s _ _ (hs.fr b o hb e)
    exact evP hG e W σ H (vals ρ) _ _ (fun a ha => hs.zd a (hs.zb a ha)) (hs.envB _) hP
  | .wrd sg, H0, Z, ρ, σ, H, D, hs, h => by
    unfold exD at h
    unfold tS
    unfold wrdD at h
    split at h
    · rename_i S l num size c hio hg e0 e1 e2
      split at h
      · rename_i hc
        simp only [Bool.and_eq_true, decide_eq_true_eq, Bool.not_eq_true', beq_eq_false_iff_ne] at hc
        obtain ⟨⟨⟨⟨c1, c2⟩, c3⟩, c4⟩, c5⟩ := hc
        obtain ⟨v0, g0, r0⟩ := hs.val 0 _ e0
        obtain ⟨v1, g1, r1⟩ := hs.val 1 _ e1
        obtain ⟨v2, g2, r2⟩ := hs.val 2 _ e2
        simp only [Rep] at r0 r1 r2
        subst r0 r1 r2
        refine ⟨num, size, c, S, g0, g1, g2, c1, c2, leq_ok c3, c4, c5, fun H' s => ?_, fun H' s => ?_⟩
        · refine hG sg [] [] (fun _ => False) H' _ _ hio (fun _ z => z.elim) (by simp [RepL]) ?_
          rw [hg]
          intro v H'' s2 r
          simp only [Rep] at r
          exact ⟨r, s2⟩
        · exact h _ H' (fun b o hb e => s _ _ (hs.fr b o hb e)) (by simp only [Rep])
      · exact h.elim
    · exact h.elim
theorem exDs_ok (hG : FnsOk K cv io S G) (hI : IosOk K cv io S G) (hz : ∀ a, a0 = some a → z = true) (hz2 : z = true → ∃ a, a0 = some a) : ∀ (s : Sms) (H0 : Hp) (Z : Addr → Prop) (ρ : DS) (σ : L2.St) (H : Hp) (D : Ends), Si K B a0 H0 L Z ρ σ H → PostS K cv B a0 H0 L W D (exDs T io G wf z s ρ) → tSs K T S W cv s D σ H
  | .nil, H0, Z, ρ, σ, H, D, hs, h => by
    unfold exDs at h
    unfold tSs
    exact h σ H ⟨Z, hs⟩
  | .cons s r, H0, Z, ρ, σ, H, D, hs, h => by
    unfold exDs at h
    unfold tSs
    refine exD_ok hG hI hz hz2 s H0 Z ρ σ H _ hs ?_
    cases hb : exD T io G wf z s ρ with
    | nx ρ' =>
      rw [hb] at h
      exact fun σ2 H2 ⟨Z2, hs3⟩ => exDs_ok hG hI hz hz2 r H0 Z2 ρ' σ2 H2 D hs3 h
    | ct ρ' => rw [hb] at h; exact h
    | rt d ρ' => rw [hb] at h; exact h
    | ex c => rw [hb] at h; exact h
    | er => rw [hb] at h; exact h
end
end
end Fw

set_option maxHeartbeats 4000000
namespace Fw
open PySem PySem.Spec PyProof.Rows L2
open Classical
/-- a def whose meaning on data is shown by hand -/
def PureF (K : PySem.W.Frag) (cv : Nat → Value) (sp : Sp) (g : List Dat → Rs Dat) : Prop :=
  ∀ (ds : List Dat) (vs : List V) (Z : Addr → Prop) (H : Hp) (Q : VK) (E : XK), ZD Z H → RepL K (hide Z H) ds vs → Post K Z H (g ds) Q (fun c H' => E (cv c) none H') → sp vs H Q E
def ExtOk (K : PySem.W.Frag) (T : Tbl) (cv : Nat → Value) (io : Nat → Bool) (X : Exn) : Prop :=
  ∀ f lv g, X f = some (lv, g) → io f = false ∧ ∀ n, lv ≤ n → PureF K cv (wpF K T cv n f) g
section
variable {K : PySem.W.Frag} {T : Tbl} {cv : Nat → Value} {io : Nat → Bool} {X : Exn} {wf : Nat}
theorem start_get {N : List Str} {vs : List V} {i : Nat} {v : V} (h : vs[i]? = some v) : (L2.start N vs)[i]? = some (some v) := by
  unfold L2.start
  have hi : i < vs.length := (List.getElem?_eq_some_iff.mp h).1
  rw [List.getElem?_append_left (by rw [List.length_map]; exact hi), List.getElem?_map, h]
  rfl
theorem startF_get {n i : Nat} {ds : List Dat} {d : Dat} {b : Bool} (h : (startD n false ds).getD i none = some (d, b)) : ds[i]? = some d ∧ b = false := by
  have e : startD n false ds = (ds.map fun d => some (d, false)) ++ List.replicate (n - ds.length) none := by
    cases ds <;> rfl
  rw [e, List.getD_eq_getElem?_getD] at h
  by_cases hi : i < ds.length
  · rw [List.getElem?_append_left (by rw [List.length_map]; exact hi), List.getElem?_map, List.getElem?_eq_getElem hi] at h
    have h' : some (ds[i], false) = some (d, b) := h
    simp only [Option.some.injEq, Prod.mk.injEq] at h'
    exact ⟨by rw [List.getElem?_eq_getElem hi, h'.1], h'.2.symm⟩
  · rw [List.getElem?_append_right (by rw [List.length_map]; omega), List.getElem?_replicate] at h
    split at h <;> cases h
theorem startT_get {n i : Nat} {x : Dat} {ds : List Dat} {d : Dat} {b : Bool} (h : (startD n true (x :: ds)).getD i none = some (d, b)) : (i = 0 ∧ d = x ∧ b = true) ∨ ((x :: ds)[i]? = some d ∧ b = false ∧ 0 < i) := by
  have e : startD n true (x :: ds) = some (x, true) :: ((ds.map fun d => some (d, false)) ++ List.replicate (n - (ds.length + 1)) none) := rfl
  rw [e] at h
  cases i with
  | zero =>
    have h' : some (x, true) = some (d, b) := h
    simp only [Option.some.injEq, Prod.mk.injEq] at h'
    exact .inl ⟨rfl, h'.1.symm, h'.2.symm⟩
  | succ i =>
    rw [List.getD_cons_succ, List.getD_eq_getElem?_getD] at h
    by_cases hi : i < ds.length
    · rw [List.getElem?_append_left (by rw [List.length_map]; exact hi), List.getElem?_map, List.getElem?_eq_getElem hi] at h
      have h' : some (ds[i], false) = some (d, b) := h
      simp only [Option.some.injEq, Prod.mk.injEq] at h'
      exact .inr ⟨by rw [List.getElem?_cons_succ, List.getElem?_eq_getElem hi, h'.1], h'.2.symm, Nat.succ_pos _⟩
    · rw [List.getElem?_append_right (by rw [List.length_map]; omega), List.getElem?_replicate] at h
      split at h <;> cases h
theorem start_len {N : List Str} {vs : List V} {ds : List Dat} {b : Bool} (h : vs.length = ds.length) : (startD N.length b ds).length = (L2.start N vs).length := by
  unfold L2.start
  cases b with
  | false =>
    have e : startD N.length false ds = (ds.map fun d => some (d, false)) ++ List.replicate (N.length - ds.length) none := by
      cases ds <;> rfl
    rw [e]
    simp [h]
  | true =>
    cases ds with
    | nil =>
      have e : startD N.length true [] = List.replicate (N.length - 0) none := rfl
      rw [e]
      simp [h]
    | cons x ds =>
      have e : startD N.length true (x :: ds) = some (x, true) :: ((ds.map fun d => some (d, false)) ++ List.replicate (N.length - (ds.length + 1)) none) := rfl
      rw [e]
      simp [h]
      omega
theorem si_start {N : List Str} {Z : Addr → Prop} {H : Hp} {ds : List Dat} {vs : List V} (zd : ZD Z H) (r : RepL K (hide Z H) ds vs) : Si K Z none H (startD N.length false ds).length Z (startD N.length false ds) (L2.start N vs) H where
  fr := fun b o _ e => e
  zb := fun a z => z
  zd := zd
  len := start_len (repL_len r)
  ln := rfl
  dm := fun b o e => ⟨o, e⟩
  zo := fun a z => .inl z
  val := fun i d e => by
    obtain ⟨h1, _⟩ := startF_get e
    obtain ⟨v, h2, h3⟩ := repL_get r h1
    exact ⟨v, start_get h2, h3⟩
  own := fun i d e => absurd (startF_get e).2 (by simp)
  inj := fun i j d e a h => absurd (startF_get h).2 (by simp)
  io0 := fun a e => by cases e
theorem si_startIo {N : List Str} {Z : Addr → Prop} {H : Hp} {a : Addr} {acc ds : List Dat} {va vs : List V} (zd : ZD Z H) (hz : Z a) (ha : H a = some (.lst va)) (ra : RepL K (hide Z H) acc va) (r : RepL K (hide Z H) ds vs) :
    Si K (fun b => Z b ∧ b ≠ a) (some a) H (startD N.length true (.lst acc :: ds)).length Z (startD N.length true (.lst acc :: ds)) (L2.start N (.ref a :: vs)) H where
  fr := fun b o _ e => e
  zb := fun a z => z.1
  zd := zd
  len := start_len (by simp [repL_len r])
  ln := rfl
  dm := fun b o e => ⟨o, e⟩
  zo := fun b z => by
    by_cases e : b = a
    · subst e
      exact .inr (.inr rfl)
    · exact .inl ⟨z, e⟩
  val := fun i d e => by
    rcases startT_get e with ⟨_, _, h⟩ | ⟨h1, _, h0⟩
    · cases h
    · cases i with
      | zero => exact absurd h0 (Nat.lt_irrefl _)
      | succ i =>
        obtain ⟨v, h2, h3⟩ := repL_get (i := i) r (by simpa using h1)
        exact ⟨v, start_get (by simpa using h2), h3⟩
  own := fun i d e => by
    rcases startT_get e with ⟨rfl, rfl, _⟩ | ⟨_, h, _⟩
    · exact ⟨a, va, acc, start_get rfl, rfl, ha, ra, hz, fun z => z.2 rfl, .inr rfl⟩
    · cases h
  inj := fun i j d e a h1 h2 _ _ => by
    rcases startT_get h1 with ⟨rfl, _, _⟩ | ⟨_, h, _⟩
    · rcases startT_get h2 with ⟨rfl, _, _⟩ | ⟨_, h, _⟩
      · rfl
      · cases h
    · cases h
  io0 := fun b e => by
    cases e
    exact start_get rfl
/-- THE PROGRAM over plain data -/
theorem callD_ok (hX : ExtOk K T cv io X) : ∀ n : Nat, FnsOk K cv io (wpF K T cv n) (callD T io X wf n) ∧ IosOk K cv io (wpF K T cv n) (callD T io X wf n)
  | 0 => ⟨fun f ds vs Z H Q E _ _ _ h => False.elim h, fun f acc ds a va vs Z H Q E _ _ _ _ _ _ h => False.elim h⟩
  | n + 1 => by
    obtain ⟨ihF, ihI⟩ := callD_ok hX n
    refine ⟨fun f ds vs Z H Q E hio zd r h => ?_, fun f acc ds a va vs Z H Q E hio zd hz ha ra r h => ?_⟩
    · unfold callD at h
      cases hx : X f with
      | some p =>
        obtain ⟨lv, g⟩ := p
        rw [hx] at h
        have h' : Post K Z H ((Rs.chk (leq lv (n + 1)) ((g ds).bind fun d => Rs.ok (d, ([] : List Dat)))).bind fun r => .ok r.1) Q (fun c H' => E (cv c) none H') := h
        cases hl : leq lv (n + 1) with
        | false => rw [hl] at h'; exact False.elim h'
        | true =>
          rw [hl] at h'
          refine (hX f lv g hx).2 (n + 1) (leq_ok hl) ds vs Z H Q E zd r ?_
          cases hg : g ds with
          | ok d => rw [hg] at h'; exact h'
          | ex c => rw [hg] at h'; exact h'
          | er => rw [hg] at h'; exact h'
      | none =>
        rw [hx] at h
        cases hf : T.fns[f]? with
        | none => simp only [hf] at h; exact False.elim h
        | some d =>
          simp only [hf] at h
          cases hl : decide (ds.length = d.np) with
          | false => rw [hl] at h; exact False.elim h
          | true =>
            rw [hl, hio] at h
            have h' : Post K Z H ((outD false (exDs T io (callD T io X wf n) wf false d.body (startD d.N.length false ds))).bind fun r => .ok r.1) Q (fun c H' => E (cv c) none H') := h
            show (match T.fns[f]? with
              | none => False
              | some d => vs.length = d.np ∧ tSs K T (wpF K T cv n) (fun c x _ H => E c x H) cv d.body { nx := fun _ H' => Q .non H', rt := Q } (L2.start d.N vs) H)
            rw [hf]
            refine ⟨by rw [repL_len r]; exact of_decide_eq_true hl, ?_⟩
            refine exDs_ok (a0 := none) (B := Z) (z := false) (wf := wf) (io := io) ihF ihI (fun a e => by cases e) (fun e => by cases e) d.body H Z _ _ H _ (si_start zd r) ?_
            cases hr : exDs T io (callD T io X wf n) wf false d.body (startD d.N.length false ds) with
            | nx ρ =>
              rw [hr] at h'
              exact fun σ H' ⟨Z', hs⟩ => h' .non H' (fun b o e => hs.fr b o (by simp) e) (by simp [Rep])
            | rt d ρ =>
              rw [hr] at h'
              exact fun v H' k r2 => h' v H' (fun b o e => k b o (by simp) e) r2
            | ct ρ => rw [hr] at h'; exact False.elim h'
            | ex c =>
              rw [hr] at h'
              exact fun σ H' k => h' H' fun b o e => k b o (by simp) e
            | er => rw [hr] at h'; exact False.elim h'
    · unfold callD at h
      cases hx : X f with
      | some p =>
        obtain ⟨lv, g⟩ := p
        have := (hX f lv g hx).1
        rw [hio] at this
        cases this
      | none =>
        rw [hx] at h
        cases hf : T.fns[f]? with
        | none => simp only [hf] at h; exact False.elim h
        | some d =>
          simp only [hf] at h
          cases hl : decide ((Dat.lst acc :: ds).length = d.np) with
          | false => rw [hl] at h; exact False.elim h
          | true =>
            rw [hl, hio] at h
            have h' : PostIo K cv Z a H Q E (outD true (exDs T io (callD T io X wf n) wf true d.body (startD d.N.length true (.lst acc :: ds)))) := h
            show (match T.fns[f]? with
              | none => False
              | some d => (V.ref a :: vs).length = d.np ∧ tSs K T (wpF K T cv n) (fun c x _ H => E c x H) cv d.body { nx := fun _ H' => Q .non H', rt := Q } (L2.start d.N (.ref a :: vs)) H)
            rw [hf]
            refine ⟨by rw [List.length_cons, repL_len r, ← List.length_cons (a := Dat.lst acc)]; exact of_decide_eq_true hl, ?_⟩
            refine exDs_ok (a0 := some a) (B := fun b => Z b ∧ b ≠ a) (z := true) (wf := wf) (io := io) ihF ihI (fun a e => rfl) (fun e => ⟨a, rfl⟩) d.body H Z _ _ H _ (si_startIo zd hz ha ra r) ?_
            cases hr : exDs T io (callD T io X wf n) wf true d.body (startD d.N.length true (.lst acc :: ds)) with
            | nx ρ =>
              rw [hr] at h'
              intro σ H' ⟨Z', hs⟩
              have h2 : PostIo K cv Z a H Q E ((ofO (ownAt ρ 0)).bind fun ds => .ok (.non, ds)) := h'
              cases ho : ownAt ρ 0 with
              | none => rw [ho] at h2; exact False.elim h2
              | some es =>
                rw [ho] at h2
                obtain ⟨a', vs', ds', q1, q2, q3, q4, q5, q6, q7⟩ := hs.own 0 _ (ownAt_get ho)
                rw [hs.io0 a rfl] at q1
                cases q1
                cases q2
                refine h2 .non vs' H' (fun b o hb e => hs.fr b o (fun z => hb (Option.some.inj z)) e) q3 (repL_mono (hide_anti fun b zb => ?_) _ _ q4)
                by_cases e : b = a
                · subst e
                  exact q5
                · exact hs.zb b ⟨zb, e⟩
            | rt d ρ => rw [hr] at h'; exact False.elim h'
            | ct ρ => rw [hr] at h'; exact False.elim h'
            | ex c =>
              rw [hr] at h'
              exact fun σ H' k => h' H' fun b o hb e => k b o (fun z => hb (Option.some.inj z)) e
            | er => rw [hr] at h'; exact False.elim h'
/-- what a call gives -/
theorem call_pure (hX : ExtOk K T cv io X) {n f : Nat} (hio : io f = false) {ds : List Dat} {d : Dat} {l : List Dat} (h : callD T io X wf n f ds = .ok (d, l)) {vs : List V} {Z : Addr → Prop} {H : Hp} {Q : VK} {E : XK} (zd : ZD Z H) (r : RepL K (hide Z H) ds vs)
    (q : ∀ v H', Same H H' → Rep K (hide Z H') d v → Q v H') : wpF K T cv n f vs H Q E := by
  refine (callD_ok (wf := wf) hX n).1 f ds vs Z H Q E hio zd r ?_
  rw [h]
  exact q
end
end Fw

set_option maxHeartbeats 4000000
namespace Fw
open PySem PySem.Spec PyProof.Rows L2

/-! ### reckoning with the data interpreter -/
section
variable {α β : Type}
@[simp] theorem bind_ok (a : α) (f : α → Rs β) : (Rs.ok a).bind f = f a := rfl
@[simp ↓] theorem bind_ok_d (a : α) (f : α → Rs β) : (Rs.ok a).bind f = f a := rfl
@[simp] theorem bind_ex (c : Nat) (f : α → Rs β) : (Rs.ex c).bind f = .ex c := rfl
@[simp ↓] theorem bind_ex_d (c : Nat) (f : α → Rs β) : (Rs.ex c).bind f = .ex c := rfl
@[simp] theorem bind_er (f : α → Rs β) : Rs.er.bind f = .er := rfl
@[simp ↓] theorem bind_er_d (f : α → Rs β) : Rs.er.bind f = .er := rfl
theorem chk_t {c : Bool} (h : c = true) (r : Rs α) : Rs.chk c r = r := by rw [h]; rfl
@[simp] theorem chk_true (r : Rs α) : Rs.chk true r = r := rfl
theorem chk_leq {a b : Nat} (h : a ≤ b) (r : Rs α) : Rs.chk (leq a b) r = r := chk_t (decide_eq_true h) r
theorem chk_le2 {a b : Nat} (c : Bool) (h : a ≤ b) (r : Rs α) : Rs.chk (c && leq a b) r = Rs.chk c r := by
  show Rs.chk (c && decide (a ≤ b)) r = _
  rw [decide_eq_true h, Bool.and_true]
theorem chk_dec {p : Prop} [Decidable p] (h : p) (r : Rs α) : Rs.chk (decide p) r = r := chk_t (decide_eq_true h) r
theorem chk_dec2 {p : Prop} [Decidable p] (c : Bool) (h : p) (r : Rs α) : Rs.chk (c && decide p) r = Rs.chk c r := by
  rw [decide_eq_true h, Bool.and_true]
theorem chk_small1 {i : Int} (b : Bool) (h : -(2 ^ 64) < i) (h2 : i < 2 ^ 64) (r : Rs α) : Rs.chk (small64 i || b) r = r := by
  refine chk_t ?_ r
  unfold small64
  rw [decide_eq_true h, decide_eq_true h2]
  rfl
theorem chk_small2 {i : Int} (b : Bool) (h : -(2 ^ 64) < i) (h2 : i < 2 ^ 64) (r : Rs α) : Rs.chk (b || small64 i) r = r := by
  refine chk_t ?_ r
  unfold small64
  rw [decide_eq_true h, decide_eq_true h2]
  simp
@[simp] theorem bind_if (p : Prop) [Decidable p] (a b : Rs α) (f : α → Rs β) : (if p then a else b).bind f = if p then a.bind f else b.bind f := by
  split <;> rfl
@[simp ↓] theorem bind_if_d (p : Prop) [Decidable p] (a b : Rs α) (f : α → Rs β) : (if p then a else b).bind f = if p then a.bind f else b.bind f := by
  split <;> rfl
@[simp] theorem quietE (a : α) : (Rs.ok a).quiet = .ok a := rfl
@[simp] theorem quiet_if (p : Prop) [Decidable p] (a b : Rs α) : (if p then a else b).quiet = if p then a.quiet else b.quiet := by
  split <;> rfl
@[simp] theorem asInt_i (i : Int) (f : Int → Rs α) : asInt (.int i) f = f i := rfl
@[simp ↓] theorem asInt_i_d (i : Int) (f : Int → Rs α) : asInt (.int i) f = f i := rfl
@[simp] theorem asBl_b (b : Bool) (f : Bool → Rs α) : asBl (.bl b) f = f b := rfl
@[simp ↓] theorem asBl_b_d (b : Bool) (f : Bool → Rs α) : asBl (.bl b) f = f b := rfl
@[simp] theorem ofO_some (a : α) : ofO (some a) = .ok a := rfl
def Rs.cond (b : Bool) (x y : Rs α) : Rs α := match b with
  | true => x
  | false => y
theorem cond_eq (b : Bool) (x y : Rs α) : Rs.cond b x y = if b = true then x else y := by
  cases b <;> rfl
end
@[simp] theorem onRsE {α : Type} (a : α) (f : α → Rd) : onRs (.ok a) f = f a := rfl
@[simp ↓] theorem onRsE_d {α : Type} (a : α) (f : α → Rd) : onRs (.ok a) f = f a := rfl
@[simp] theorem onRs_ex {α : Type} (c : Nat) (f : α → Rd) : onRs (.ex c) f = .ex c := rfl
@[simp ↓] theorem onRs_ex_d {α : Type} (c : Nat) (f : α → Rd) : onRs (.ex c) f = .ex c := rfl
@[simp] theorem onRs_if {α : Type} (p : Prop) [Decidable p] (a b : Rs α) (f : α → Rd) : onRs (if p then a else b) f = if p then onRs a f else onRs b f := by
  split <;> rfl
@[simp ↓] theorem onRs_if_d {α : Type} (p : Prop) [Decidable p] (a b : Rs α) (f : α → Rd) : onRs (if p then a else b) f = if p then onRs a f else onRs b f := by
  split <;> rfl
@[simp] theorem nx_bind (ρ : DS) (f : DS → Rd) : (Rd.nx ρ).bind f = f ρ := rfl
@[simp ↓] theorem nx_bind_d (ρ : DS) (f : DS → Rd) : (Rd.nx ρ).bind f = f ρ := rfl
@[simp] theorem rt_bind (d : Dat) (ρ : DS) (f : DS → Rd) : (Rd.rt d ρ).bind f = .rt d ρ := rfl
@[simp ↓] theorem rt_bind_d (d : Dat) (ρ : DS) (f : DS → Rd) : (Rd.rt d ρ).bind f = .rt d ρ := rfl
@[simp] theorem ct_bind (ρ : DS) (f : DS → Rd) : (Rd.ct ρ).bind f = .ct ρ := rfl
@[simp ↓] theorem ct_bind_d (ρ : DS) (f : DS → Rd) : (Rd.ct ρ).bind f = .ct ρ := rfl
@[simp] theorem exn_bind (c : Nat) (f : DS → Rd) : (Rd.ex c).bind f = .ex c := rfl
@[simp ↓] theorem exn_bind_d (c : Nat) (f : DS → Rd) : (Rd.ex c).bind f = .ex c := rfl
@[simp] theorem rd_if (p : Prop) [Decidable p] (a b : Rd) (f : DS → Rd) : (if p then a else b).bind f = if p then a.bind f else b.bind f := by
  split <;> rfl
@[simp ↓] theorem rd_if_d (p : Prop) [Decidable p] (a b : Rd) (f : DS → Rd) : (if p then a else b).bind f = if p then a.bind f else b.bind f := by
  split <;> rfl
@[simp] theorem out_if (z : Bool) (p : Prop) [Decidable p] (a b : Rd) : outD z (if p then a else b) = if p then outD z a else outD z b := by
  split <;> rfl
@[simp] theorem out_rt (d : Dat) (ρ : DS) : outD false (.rt d ρ) = .ok (d, []) := rfl
@[simp] theorem out_nx (ρ : DS) : outD false (.nx ρ) = .ok (.non, []) := rfl
@[simp] theorem out_ex (z : Bool) (c : Nat) : outD z (.ex c) = .ex c := rfl
def Rd.cond (d : Dat) (x y : Rd) : Rd := match d with
  | .bl true => x
  | .bl false => y
  | _ => .er
@[simp] theorem rcond_b (b : Bool) (x y : Rd) : Rd.cond (.bl b) x y = if b = true then x else y := by
  cases b <;> rfl
@[simp ↓] theorem rcond_b_d (b : Bool) (x y : Rd) : Rd.cond (.bl b) x y = if b = true then x else y := by
  cases b <;> rfl
section
variable {T : Tbl} {io : Nat → Bool} {G : Gd} {wf : Nat} {z : Bool}
theorem exD_ite (c : Ex) (a b : Sms) (ρ : DS) : exD T io G wf z (.ite c a b) ρ = onRs (evD T io G c (vals ρ)) fun d => Rd.cond d (exDs T io G wf z a ρ) (exDs T io G wf z b ρ) := by
  rw [exD]
  rfl
theorem evD_and (a b : Ex) (ρ : Env1) : evD T io G (.and a b) ρ = (evD T io G a ρ).bind fun x => asBl x fun k => Rs.cond k (evD T io G b ρ) (.ok (.bl false)) := by
  rw [evD]
  rfl
theorem evD_or (a b : Ex) (ρ : Env1) : evD T io G (.or a b) ρ = (evD T io G a ρ).bind fun x => asBl x fun k => Rs.cond k (.ok (.bl true)) (evD T io G b ρ) := by
  rw [evD]
  rfl
theorem evD_ite (c a b : Ex) (ρ : Env1) : evD T io G (.ite c a b) ρ = (evD T io G c ρ).bind fun x => asBl x fun k => Rs.cond k (evD T io G a ρ) (evD T io G b ρ) := by
  rw [evD]
  rfl
theorem evD_chn (o o' : COp) (a b c : Ex) (ρ : Env1) : evD T io G (.chn o o' a b c) ρ = (evD T io G a ρ).bind fun x => (evD T io G b ρ).bind fun y => (cmpD o x y).bind fun z => asBl z fun k => Rs.cond k ((evD T io G c ρ).bind fun u => cmpD o' y u) (.ok (.bl false)) := by
  rw [evD]
  rfl
theorem evD_call {f : Nat} (as : Exs) (ρ : Env1) (h : io f = false) : evD T io G (.call f as) ρ = (evA T io G as ρ).bind fun ds => (G f ds).bind fun r => .ok r.1 := by
  rw [evD]
  congr 1
  funext d
  rw [h]
/-- a two-way truth is kept whole -/
@[simp] theorem asBl_and (x y : Bool) : Rs.cond x (Rs.ok (Dat.bl y)) (.ok (.bl false)) = .ok (.bl (x && y)) := by cases x <;> rfl
@[simp] theorem asBl_or (x y : Bool) : Rs.cond x (.ok (.bl true)) (Rs.ok (Dat.bl y)) = .ok (.bl (x || y)) := by cases x <;> rfl
/-- assignment -/
@[simp] theorem ev_and (a b : Ex) (a0 : Option (Dat × Bool)) (r0 : DS) : evD T io G (.and a b) (vals (a0 :: r0)) = (evD T io G a (vals (a0 :: r0))).bind fun x => asBl x fun k => Rs.cond k (evD T io G b (vals (a0 :: r0))) (.ok (.bl false)) := evD_and ..
@[simp] theorem ev_or (a b : Ex) (a0 : Option (Dat × Bool)) (r0 : DS) : evD T io G (.or a b) (vals (a0 :: r0)) = (evD T io G a (vals (a0 :: r0))).bind fun x => asBl x fun k => Rs.cond k (.ok (.bl true)) (evD T io G b (vals (a0 :: r0))) := evD_or ..
@[simp] theorem ev_ite (c a b : Ex) (a0 : Option (Dat × Bool)) (r0 : DS) : evD T io G (.ite c a b) (vals (a0 :: r0)) = (evD T io G c (vals (a0 :: r0))).bind fun x => asBl x fun k => Rs.cond k (evD T io G a (vals (a0 :: r0))) (evD T io G b (vals (a0 :: r0))) := evD_ite ..
@[simp] theorem ev_chn (o o' : COp) (a b c : Ex) (a0 : Option (Dat × Bool)) (r0 : DS) : evD T io G (.chn o o' a b c) (vals (a0 :: r0)) = (evD T io G a (vals (a0 :: r0))).bind fun x => (evD T io G b (vals (a0 :: r0))).bind fun y => (cmpD o x y).bind fun z => asBl z fun k => Rs.cond k ((evD T io G c (vals (a0 :: r0))).bind fun u => cmpD o' y u) (.ok (.bl false)) := evD_chn ..
@[simp] theorem ex_ite (c : Ex) (a b : Sms) (a0 : Option (Dat × Bool)) (r0 : DS) : exD T io G wf z (.ite c a b) (a0 :: r0) = onRs (evD T io G c (vals (a0 :: r0))) fun d => Rd.cond d (exDs T io G wf z a (a0 :: r0)) (exDs T io G wf z b (a0 :: r0)) := exD_ite ..
theorem ev_call {f : Nat} (as : Exs) (a0 : Option (Dat × Bool)) (r0 : DS) (h : io f = false) : evD T io G (.call f as) (vals (a0 :: r0)) = (evA T io G as (vals (a0 :: r0))).bind fun ds => (G f ds).bind fun r => .ok r.1 := evD_call as _ h
@[simp] theorem exD_asgF {i : Nat} {e : Ex} {a0 : Option (Dat × Bool)} {r0 : DS} (h : i < (a0 :: r0).length) : exD T io G wf false (.asg i e) (a0 :: r0) = onRs (evD T io G e (vals (a0 :: r0))) fun d => .nx ((unown e d (a0 :: r0)).set i (some (d, fresh e && isLst d))) := by
  rw [exD]
  congr 1
  funext d
  rw [show okSlot false i (a0 :: r0) = true from decide_eq_true h]
theorem exD_asg {i : Nat} {e : Ex} {ρ : DS} (h : okSlot z i ρ = true) : exD T io G wf z (.asg i e) ρ = onRs (evD T io G e (vals ρ)) fun d => .nx ((unown e d ρ).set i (some (d, fresh e && isLst d))) := by
  rw [exD]
  congr 1
  funext d
  rw [h]
end
theorem unown_flat {e : Ex} {d : Dat} {ρ : DS} (h : nolst d = true) : unown e d ρ = ρ := by
  unfold unown
  rw [h]
@[simp] theorem chk_line {α : Type} {a : Nat} (h : a ≤ 16777216) (r : Rs α) : Rs.chk (leq a sizeLine) r = r := chk_leq h r
@[simp] theorem chk_lineD {α : Type} {a : Nat} (h : a < 16777216) (r : Rs α) : Rs.chk (decide (a < sizeLine)) r = r := chk_dec h r
/-! ### comparisons -/
@[simp] theorem eqD_str (n : Bool) (a b : List Nat) : eqD n (.str a) (.str b) = .ok (.bl (n != decide (a = b))) := by
  unfold eqD
  rw [show scalD (.str a) (.str b) = true from rfl]
  have e : (a == b) = decide (a = b) := by by_cases h : a = b <;> simp [h]
  simp [eqv, e]
@[simp] theorem eqD_int (n : Bool) (a b : Int) : eqD n (.int a) (.int b) = .ok (.bl (n != decide (a = b))) := by
  unfold eqD
  rw [show scalD (.int a) (.int b) = true from rfl]
  have e : (a == b) = decide (a = b) := by by_cases h : a = b <;> simp [h]
  simp [eqv, e]
@[simp] theorem eqD_bl (n : Bool) (a b : Bool) : eqD n (.bl a) (.bl b) = .ok (.bl (n != (a == b))) := by
  unfold eqD
  rw [show scalD (.bl a) (.bl b) = true from rfl]
  simp [eqv]
@[simp] theorem eqD_nil (n : Bool) (xs : List Dat) : eqD n (.lst xs) (.lst []) = .ok (.bl (n != xs.isEmpty)) := rfl
theorem eqD_tup (n : Bool) (xs ys : List Dat) (h : cmpOk (.tup xs) (.tup ys) = true) : eqD n (.tup xs) (.tup ys) = .ok (.bl (n != eqvL xs ys)) := by
  unfold eqD
  rw [show scalD (.tup xs) (.tup ys) = false from rfl]
  simp only [h]
  rfl
@[simp] theorem xf (b : Bool) : (false != b) = b := by cases b <;> rfl
@[simp] theorem xt (b : Bool) : (true != b) = !b := by cases b <;> rfl
/-! ### slices -/
section
variable {α : Type}
theorem sIx_pos {n d : Nat} {i : Int} (h : 0 ≤ i) : HT.sIx n d (some i) = min i.toNat n := by
  show (if i < 0 then (i + (n : Int)).toNat else min i.toNat n) = _
  rw [if_neg (by omega)]
theorem sIx_neg {n d : Nat} {i : Int} (h : i < 0) : HT.sIx n d (some i) = (i + (n : Int)).toNat := by
  show (if i < 0 then (i + (n : Int)).toNat else min i.toNat n) = _
  rw [if_pos h]
@[simp] theorem cut_drop {xs : List α} {i : Int} (h : 0 ≤ i) : cutL xs (some i) none = xs.drop i.toNat := by
  unfold cutL
  rw [sIx_pos h, HT.sIx_none]
  rcases Nat.le_total i.toNat xs.length with h1 | h1
  · rw [Nat.min_eq_left h1, List.take_of_length_le (by rw [List.length_drop]; exact Nat.le_refl _)]
  · rw [Nat.min_eq_right h1, List.drop_eq_nil_of_le (Nat.le_refl _), List.drop_eq_nil_of_le h1]
    simp
@[simp] theorem cut_take {xs : List α} {i : Int} (h : 0 ≤ i) : cutL xs none (some i) = xs.take i.toNat := by
  unfold cutL
  rw [sIx_pos h, HT.sIx_none, List.drop_zero, Nat.sub_zero]
  rcases Nat.le_total i.toNat xs.length with h1 | h1
  · rw [Nat.min_eq_left h1]
  · rw [Nat.min_eq_right h1, List.take_of_length_le (Nat.le_refl _), List.take_of_length_le h1]
@[simp] theorem cut_mid {xs : List α} {i j : Int} (h : 0 ≤ i) (hj : 0 ≤ j) : cutL xs (some i) (some j) = (xs.drop i.toNat).take (j.toNat - i.toNat) := by
  unfold cutL
  rw [sIx_pos h, sIx_pos hj]
  rcases Nat.le_total i.toNat xs.length with h1 | h1
  · rw [Nat.min_eq_left h1]
    rcases Nat.le_total j.toNat xs.length with h2 | h2
    · rw [Nat.min_eq_left h2]
    · rw [Nat.min_eq_right h2, List.take_of_length_le (by rw [List.length_drop]; exact Nat.le_refl _), List.take_of_length_le (by rw [List.length_drop]; omega)]
  · rw [Nat.min_eq_right h1, List.drop_eq_nil_of_le (Nat.le_refl _), List.drop_eq_nil_of_le h1]
    simp
/-- xs[-1:] -/
@[simp] theorem cut_last {xs : List α} : cutL xs (some (-1)) none = xs.drop (xs.length - 1) := by
  unfold cutL
  rw [HT.sIx_none]
  rw [sIx_neg (by omega)]
  have e : ((-1 : Int) + (xs.length : Int)).toNat = xs.length - 1 := by omega
  rw [e, List.take_of_length_le (by rw [List.length_drop]; exact Nat.le_refl _)]
/-- xs[:-1] -/
@[simp] theorem cut_init {xs : List α} : cutL xs none (some (-1)) = xs.take (xs.length - 1) := by
  unfold cutL
  rw [HT.sIx_none]
  rw [sIx_neg (by omega)]
  have e : ((-1 : Int) + (xs.length : Int)).toNat = xs.length - 1 := by omega
  rw [e, List.drop_zero, Nat.sub_zero]
@[simp] theorem at_pos {xs : List α} {i : Int} (h : 0 ≤ i) : atI xs i = xs[i.toNat]? := by
  unfold atI ixN
  rw [if_pos h]
  by_cases h1 : i < xs.length
  · rw [if_pos h1]
    rfl
  · rw [if_neg h1, List.getElem?_eq_none (by omega)]
    rfl
@[simp] theorem at_last {xs : List α} : atI xs (-1) = xs[xs.length - 1]? := by
  unfold atI ixN
  rw [if_neg (by omega)]
  by_cases h1 : -(xs.length : Int) ≤ -1
  · rw [if_pos h1]
    show xs[((-1 : Int) + xs.length).toNat]? = _
    congr 1
    omega
  · rw [if_neg h1, List.getElem?_eq_none (by omega)]
    rfl
end
/-! ### loops -/
theorem mapD_eq {f : Dat → Rs Dat} {g : Dat → Dat} : ∀ {xs : List Dat}, (∀ x ∈ xs, f x = .ok (g x)) → mapD f xs = .ok (xs.map g)
  | [], _ => rfl
  | x :: r, h => by
    rw [mapD, h x (List.mem_cons_self ..), bind_ok, mapD_eq fun y hy => h y (List.mem_cons_of_mem _ hy)]
    rfl
theorem mapD_of {α : Type} {f : Dat → Rs Dat} {k : α → Dat} {g : α → Dat} : ∀ {xs : List α}, (∀ x ∈ xs, f (k x) = .ok (g x)) → mapD f (xs.map k) = .ok (xs.map g)
  | [], _ => rfl
  | x :: r, h => by
    rw [List.map_cons, mapD, h x (List.mem_cons_self ..), bind_ok, mapD_of fun y hy => h y (List.mem_cons_of_mem _ hy)]
    rfl
theorem mapIfD_of {α : Type} {c : Dat → Rs Bool} {f : Dat → Rs Dat} {k : α → Dat} {p : α → Bool} {g : α → Dat} : ∀ {xs : List α}, (∀ x ∈ xs, c (k x) = .ok (p x)) → (∀ x ∈ xs, p x = true → f (k x) = .ok (g x)) → mapIfD c f (xs.map k) = .ok ((xs.filter p).map g)
  | [], _, _ => rfl
  | x :: r, h, hf => by
    rw [List.map_cons, mapIfD, h x (List.mem_cons_self ..), bind_ok]
    have ih := mapIfD_of (fun y hy => h y (List.mem_cons_of_mem _ hy)) (fun y hy => hf y (List.mem_cons_of_mem _ hy))
    cases hp : p x with
    | true =>
      simp only
      rw [hf x (List.mem_cons_self ..) hp, bind_ok, ih, List.filter_cons_of_pos hp]
      rfl
    | false =>
      simp only
      rw [ih, List.filter_cons_of_neg (by rw [hp]; exact Bool.false_ne_true)]
/-- a walk that goes through, by what it keeps -/
theorem forD_nx {α σ : Type} {j : Nat} {body : DS → Rd} {k : α → Dat} {S : σ → DS → Prop} {step : σ → α → σ} : ∀ {xs : List α} {a : σ} {ρ : DS}, (∀ a ρ x, x ∈ xs → S a ρ → ∃ ρ', (body (ρ.set j (some (k x, false))) = .nx ρ' ∨ body (ρ.set j (some (k x, false))) = .ct ρ') ∧ S (step a x) ρ') → S a ρ → ∃ ρ', forD j body (xs.map k) ρ = .nx ρ' ∧ S (xs.foldl step a) ρ'
  | [], a, ρ, _, h => ⟨ρ, rfl, h⟩
  | x :: r, a, ρ, hb, h => by
    obtain ⟨ρ1, e, h1⟩ := hb a ρ x (List.mem_cons_self ..) h
    obtain ⟨ρ2, e2, h2⟩ := forD_nx (fun a ρ y hy => hb a ρ y (List.mem_cons_of_mem _ hy)) h1
    refine ⟨ρ2, ?_, h2⟩
    rw [List.map_cons, forD]
    rcases e with e | e <;> rw [e] <;> exact e2
theorem whD_step {c : DS → Rs Bool} {body : DS → Rd} {n : Nat} {ρ : DS} {b : Bool} (h : c ρ = .ok b) : whD c body (n + 1) ρ = if b = true then (match body ρ with
      | .nx ρ' => whD c body n ρ'
      | .ct ρ' => whD c body n ρ'
      | o => o) else .nx ρ := by
  rw [whD, h, onRsE]
  cases b <;> rfl
def isiR (t : String) (d : Dat) : Rs Dat := .chk (tyNames.contains t) (.ok (.bl (isiD t d)))
@[simp] theorem isi_str_non  : isiR "str" .non = .ok (.bl false) := by
  unfold isiR
  rw [chk_t (by decide)]
  simp [isiD]
@[simp] theorem isi_str_bl (b : Bool) : isiR "str" (.bl b) = .ok (.bl false) := by
  unfold isiR
  rw [chk_t (by decide)]
  simp [isiD]
@[simp] theorem isi_str_int (i : Int) : isiR "str" (.int i) = .ok (.bl false) := by
  unfold isiR
  rw [chk_t (by decide)]
  simp [isiD]
@[simp] theorem isi_str_str (s : List Nat) : isiR "str" (.str s) = .ok (.bl true) := by
  unfold isiR
  rw [chk_t (by decide)]
  simp [isiD]
@[simp] theorem isi_str_lst (s : List Dat) : isiR "str" (.lst s) = .ok (.bl false) := by
  unfold isiR
  rw [chk_t (by decide)]
  simp [isiD]
@[simp] theorem isi_str_tup (s : List Dat) : isiR "str" (.tup s) = .ok (.bl false) := by
  unfold isiR
  rw [chk_t (by decide)]
  simp [isiD]
@[simp] theorem isi_str_frz (s : List Dat) : isiR "str" (.frz s) = .ok (.bl false) := by
  unfold isiR
  rw [chk_t (by decide)]
  simp [isiD]
@[simp] theorem isi_list_non  : isiR "list" .non = .ok (.bl false) := by
  unfold isiR
  rw [chk_t (by decide)]
  simp [isiD]
@[simp] theorem isi_list_bl (b : Bool) : isiR "list" (.bl b) = .ok (.bl false) := by
  unfold isiR
  rw [chk_t (by decide)]
  simp [isiD]
@[simp] theorem isi_list_int (i : Int) : isiR "list" (.int i) = .ok (.bl false) := by
  unfold isiR
  rw [chk_t (by decide)]
  simp [isiD]
@[simp] theorem isi_list_str (s : List Nat) : isiR "list" (.str s) = .ok (.bl false) := by
  unfold isiR
  rw [chk_t (by decide)]
  simp [isiD]
@[simp] theorem isi_list_lst (s : List Dat) : isiR "list" (.lst s) = .ok (.bl true) := by
  unfold isiR
  rw [chk_t (by decide)]
  simp [isiD]
@[simp] theorem isi_list_tup (s : List Dat) : isiR "list" (.tup s) = .ok (.bl false) := by
  unfold isiR
  rw [chk_t (by decide)]
  simp [isiD]
@[simp] theorem isi_list_frz (s : List Dat) : isiR "list" (.frz s) = .ok (.bl true) := by
  unfold isiR
  rw [chk_t (by decide)]
  simp [isiD]
@[simp] theorem isi_tuple_non  : isiR "tuple" .non = .ok (.bl false) := by
  unfold isiR
  rw [chk_t (by decide)]
  simp [isiD]
@[simp] theorem isi_tuple_bl (b : Bool) : isiR "tuple" (.bl b) = .ok (.bl false) := by
  unfold isiR
  rw [chk_t (by decide)]
  simp [isiD]
@[simp] theorem isi_tuple_int (i : Int) : isiR "tuple" (.int i) = .ok (.bl false) := by
  unfold isiR
  rw [chk_t (by decide)]
  simp [isiD]
@[simp] theorem isi_tuple_str (s : List Nat) : isiR "tuple" (.str s) = .ok (.bl false) := by
  unfold isiR
  rw [chk_t (by decide)]
  simp [isiD]
@[simp] theorem isi_tuple_lst (s : List Dat) : isiR "tuple" (.lst s) = .ok (.bl false) := by
  unfold isiR
  rw [chk_t (by decide)]
  simp [isiD]
@[simp] theorem isi_tuple_tup (s : List Dat) : isiR "tuple" (.tup s) = .ok (.bl true) := by
  unfold isiR
  rw [chk_t (by decide)]
  simp [isiD]
@[simp] theorem isi_tuple_frz (s : List Dat) : isiR "tuple" (.frz s) = .ok (.bl false) := by
  unfold isiR
  rw [chk_t (by decide)]
  simp [isiD]
@[simp] theorem isi_int_non  : isiR "int" .non = .ok (.bl false) := by
  unfold isiR
  rw [chk_t (by decide)]
  simp [isiD]
@[simp] theorem isi_int_bl (b : Bool) : isiR "int" (.bl b) = .ok (.bl true) := by
  unfold isiR
  rw [chk_t (by decide)]
  simp [isiD]
@[simp] theorem isi_int_int (i : Int) : isiR "int" (.int i) = .ok (.bl true) := by
  unfold isiR
  rw [chk_t (by decide)]
  simp [isiD]
@[simp] theorem isi_int_str (s : List Nat) : isiR "int" (.str s) = .ok (.bl false) := by
  unfold isiR
  rw [chk_t (by decide)]
  simp [isiD]
@[simp] theorem isi_int_lst (s : List Dat) : isiR "int" (.lst s) = .ok (.bl false) := by
  unfold isiR
  rw [chk_t (by decide)]
  simp [isiD]
@[simp] theorem isi_int_tup (s : List Dat) : isiR "int" (.tup s) = .ok (.bl false) := by
  unfold isiR
  rw [chk_t (by decide)]
  simp [isiD]
@[simp] theorem isi_int_frz (s : List Dat) : isiR "int" (.frz s) = .ok (.bl false) := by
  unfold isiR
  rw [chk_t (by decide)]
  simp [isiD]
@[simp] theorem isi_bool_non  : isiR "bool" .non = .ok (.bl false) := by
  unfold isiR
  rw [chk_t (by decide)]
  simp [isiD]
@[simp] theorem isi_bool_bl (b : Bool) : isiR "bool" (.bl b) = .ok (.bl true) := by
  unfold isiR
  rw [chk_t (by decide)]
  simp [isiD]
@[simp] theorem isi_bool_int (i : Int) : isiR "bool" (.int i) = .ok (.bl false) := by
  unfold isiR
  rw [chk_t (by decide)]
  simp [isiD]
@[simp] theorem isi_bool_str (s : List Nat) : isiR "bool" (.str s) = .ok (.bl false) := by
  unfold isiR
  rw [chk_t (by decide)]
  simp [isiD]
@[simp] theorem isi_bool_lst (s : List Dat) : isiR "bool" (.lst s) = .ok (.bl false) := by
  unfold isiR
  rw [chk_t (by decide)]
  simp [isiD]
@[simp] theorem isi_bool_tup (s : List Dat) : isiR "bool" (.tup s) = .ok (.bl false) := by
  unfold isiR
  rw [chk_t (by decide)]
  simp [isiD]
@[simp] theorem isi_bool_frz (s : List Dat) : isiR "bool" (.frz s) = .ok (.bl false) := by
  unfold isiR
  rw [chk_t (by decide)]
  simp [isiD]
/-- what a slot holds -/
def lookD : DS → Nat → Rs Dat
  | [], _ => .er
  | x :: _, 0 => (match x with
    | some (d, _) => .ok d
    | none => .er)
  | _ :: r, n + 1 => lookD r n
@[simp] theorem lk_0 (d : Dat) (b : Bool) (r : DS) : lookD (some (d, b) :: r) 0 = .ok d := rfl
@[simp] theorem lk_n (x : Option (Dat × Bool)) (r : DS) (n : Nat) : lookD (x :: r) (n + 1) = lookD r n := rfl
@[simp] theorem vals_set (ρ : DS) (j : Nat) (x : Dat) : (vals ρ).set j (some x) = vals (ρ.set j (some (x, false))) := by
  unfold vals
  rw [List.map_set]
  rfl
def glbV (T : Tbl) (i : Nat) : Rs Dat := datC ((T.gls.map (·.2)).getD i .non)
section
variable {T : Tbl} {io : Nat → Bool} {G : Gd} {wf : Nat} {z : Bool}
@[simp] theorem ev_var (i : Nat) (ρ : DS) : evD T io G (.var i) (vals ρ) = lookD ρ i := by
  rw [evD]
  unfold vals
  rw [List.getD_eq_getElem?_getD, List.getElem?_map]
  induction ρ generalizing i with
  | nil => rfl
  | cons x r ih =>
    cases i with
    | zero => rcases x with _ | ⟨d, b⟩ <;> rfl
    | succ i => exact ih i
@[simp] theorem ev_con (v : V) (a0 : Option (Dat × Bool)) (r0 : DS) : evD T io G (.con v) (vals (a0 :: r0)) = datC v := by rw [evD]
@[simp] theorem ev_glb (i : Nat) (a0 : Option (Dat × Bool)) (r0 : DS) : evD T io G (.glb i) (vals (a0 :: r0)) = glbV T i := by rw [evD]; rfl
@[simp] theorem ev_bin (o : BOp) (a b : Ex) (a0 : Option (Dat × Bool)) (r0 : DS) : evD T io G (.bin o a b) (vals (a0 :: r0)) = (evD T io G a (vals (a0 :: r0))).bind fun x => (evD T io G b (vals (a0 :: r0))).bind fun y => binD o x y := by rw [evD]
@[simp] theorem ev_neg (a : Ex) (a0 : Option (Dat × Bool)) (r0 : DS) : evD T io G (.neg a) (vals (a0 :: r0)) = (evD T io G a (vals (a0 :: r0))).bind fun x => asInt x fun i => .ok (.int (-i)) := by rw [evD]
@[simp] theorem ev_not (a : Ex) (a0 : Option (Dat × Bool)) (r0 : DS) : evD T io G (.not a) (vals (a0 :: r0)) = (evD T io G a (vals (a0 :: r0))).bind fun x => asBl x fun b => .ok (.bl (!b)) := by rw [evD]
@[simp] theorem ev_cmp (o : COp) (a b : Ex) (a0 : Option (Dat × Bool)) (r0 : DS) : evD T io G (.cmp o a b) (vals (a0 :: r0)) = (evD T io G a (vals (a0 :: r0))).bind fun x => (evD T io G b (vals (a0 :: r0))).bind fun y => cmpD o x y := by rw [evD]
@[simp] theorem ev_len (a : Ex) (a0 : Option (Dat × Bool)) (r0 : DS) : evD T io G (.len a) (vals (a0 :: r0)) = (evD T io G a (vals (a0 :: r0))).bind lenD := by rw [evD]
@[simp] theorem ev_isi (a : Ex) (t : String) (a0 : Option (Dat × Bool)) (r0 : DS) : evD T io G (.isi a t) (vals (a0 :: r0)) = (evD T io G a (vals (a0 :: r0))).bind (isiR t) := by rw [evD]; rfl
@[simp] theorem ev_int (a : Ex) (a0 : Option (Dat × Bool)) (r0 : DS) : evD T io G (.int a) (vals (a0 :: r0)) = (evD T io G a (vals (a0 :: r0))).bind intD := by rw [evD]
@[simp] theorem ev_list (a : Ex) (a0 : Option (Dat × Bool)) (r0 : DS) : evD T io G (.list a) (vals (a0 :: r0)) = (evD T io G a (vals (a0 :: r0))).bind listD := by rw [evD]
@[simp] theorem ev_tupl (a : Ex) (a0 : Option (Dat × Bool)) (r0 : DS) : evD T io G (.tupl a) (vals (a0 :: r0)) = (evD T io G a (vals (a0 :: r0))).bind tuplD := by rw [evD]
@[simp] theorem ev_min (a b : Ex) (a0 : Option (Dat × Bool)) (r0 : DS) : evD T io G (.min a b) (vals (a0 :: r0)) = (evD T io G a (vals (a0 :: r0))).bind fun x => (evD T io G b (vals (a0 :: r0))).bind fun y => minD x y := by rw [evD]
@[simp] theorem ev_lstrip (a b : Ex) (a0 : Option (Dat × Bool)) (r0 : DS) : evD T io G (.lstrip a b) (vals (a0 :: r0)) = (evD T io G a (vals (a0 :: r0))).bind fun x => .chk (isStr x) <| (evD T io G b (vals (a0 :: r0))).bind fun y => lstripD x y := by rw [evD]
@[simp] theorem ev_join (a b : Ex) (a0 : Option (Dat × Bool)) (r0 : DS) : evD T io G (.join a b) (vals (a0 :: r0)) = (evD T io G a (vals (a0 :: r0))).bind fun x => .chk (isStr x) <| (evD T io G b (vals (a0 :: r0))).bind fun y => joinD x y := by rw [evD]
@[simp] theorem ev_split (a b : Ex) (a0 : Option (Dat × Bool)) (r0 : DS) : evD T io G (.split a b) (vals (a0 :: r0)) = (evD T io G a (vals (a0 :: r0))).bind fun x => .chk (isStr x) <| (evD T io G b (vals (a0 :: r0))).bind fun y => splitD x y := by rw [evD]
@[simp] theorem ev_part (a b : Ex) (a0 : Option (Dat × Bool)) (r0 : DS) : evD T io G (.part a b) (vals (a0 :: r0)) = (evD T io G a (vals (a0 :: r0))).bind fun x => .chk (isStr x) <| (evD T io G b (vals (a0 :: r0))).bind fun y => partD x y := by rw [evD]
@[simp] theorem ev_find (a b c : Ex) (a0 : Option (Dat × Bool)) (r0 : DS) : evD T io G (.find a b c) (vals (a0 :: r0)) = (evD T io G a (vals (a0 :: r0))).bind fun x => .chk (isStr x) <| (evD T io G b (vals (a0 :: r0))).bind fun y => (evD T io G c (vals (a0 :: r0))).bind fun z => findD x y z := by rw [evD]
@[simp] theorem ev_idx (a b : Ex) (a0 : Option (Dat × Bool)) (r0 : DS) : evD T io G (.idx a b) (vals (a0 :: r0)) = (evD T io G a (vals (a0 :: r0))).bind fun x => (evD T io G b (vals (a0 :: r0))).bind fun y => idxD x y := by rw [evD]
@[simp] theorem ev_slf (a b : Ex) (a0 : Option (Dat × Bool)) (r0 : DS) : evD T io G (.slf a b) (vals (a0 :: r0)) = (evD T io G a (vals (a0 :: r0))).bind fun x => (evD T io G b (vals (a0 :: r0))).bind fun y => asInt y fun i => slD (some i) none x := by rw [evD]
@[simp] theorem ev_slt (a b : Ex) (a0 : Option (Dat × Bool)) (r0 : DS) : evD T io G (.slt a b) (vals (a0 :: r0)) = (evD T io G a (vals (a0 :: r0))).bind fun x => (evD T io G b (vals (a0 :: r0))).bind fun y => asInt y fun i => slD none (some i) x := by rw [evD]
@[simp] theorem ev_sl (a b c : Ex) (a0 : Option (Dat × Bool)) (r0 : DS) : evD T io G (.sl a b c) (vals (a0 :: r0)) = (evD T io G a (vals (a0 :: r0))).bind fun x => (evD T io G b (vals (a0 :: r0))).bind fun y => asInt y fun i => (evD T io G c (vals (a0 :: r0))).bind fun z => asInt z fun j => slD (some i) (some j) x := by rw [evD]
@[simp] theorem ev_lst (as : Exs) (a0 : Option (Dat × Bool)) (r0 : DS) : evD T io G (.lst as) (vals (a0 :: r0)) = (evA T io G as (vals (a0 :: r0))).bind fun ds => .chk (leq ds.length sizeLine) (.ok (.lst ds)) := by rw [evD]
@[simp] theorem ev_tup (as : Exs) (a0 : Option (Dat × Bool)) (r0 : DS) : evD T io G (.tup as) (vals (a0 :: r0)) = (evA T io G as (vals (a0 :: r0))).bind fun ds => .chk (leq ds.length sizeLine) (.ok (.tup ds)) := by rw [evD]
@[simp] theorem ev_lc (j : Nat) (it : Itr) (e : Ex) (a0 : Option (Dat × Bool)) (r0 : DS) : evD T io G (.lc j it e) (vals (a0 :: r0)) = .chk (notSt it) ((evI T io G it (vals (a0 :: r0))).bind fun xs => .chk (decide (xs.length < sizeLine)) ((mapD (fun x => (evD T io G e ((vals (a0 :: r0)).set j (some x))).quiet) xs).bind fun ys => .ok (.lst ys))) := by rw [evD]
@[simp] theorem ev_lcif (j : Nat) (it : Itr) (c e : Ex) (a0 : Option (Dat × Bool)) (r0 : DS) : evD T io G (.lcif j it c e) (vals (a0 :: r0)) = .chk (notSt it) ((evI T io G it (vals (a0 :: r0))).bind fun xs => .chk (decide (xs.length < sizeLine)) ((mapIfD (fun x => (evD T io G c ((vals (a0 :: r0)).set j (some x))).quiet.bind fun z => asBl z .ok) (fun x => (evD T io G e ((vals (a0 :: r0)).set j (some x))).quiet) xs).bind fun ys => .ok (.lst ys))) := by rw [evD]
@[simp] theorem ea_nil (a0 : Option (Dat × Bool)) (r0 : DS) : evA T io G .nil (vals (a0 :: r0)) = .ok [] := by rw [evA]
@[simp] theorem ea_cons (e : Ex) (es : Exs) (a0 : Option (Dat × Bool)) (r0 : DS) : evA T io G (.cons e es) (vals (a0 :: r0)) = (evD T io G e (vals (a0 :: r0))).bind fun x => (evA T io G es (vals (a0 :: r0))).bind fun xs => .ok (x :: xs) := by rw [evA]
@[simp] theorem ei_ls (e : Ex) (a0 : Option (Dat × Bool)) (r0 : DS) : evI T io G (.ls e) (vals (a0 :: r0)) = (evD T io G e (vals (a0 :: r0))).bind itemsL := by rw [evI]
@[simp] theorem ei_st (e : Ex) (a0 : Option (Dat × Bool)) (r0 : DS) : evI T io G (.st e) (vals (a0 :: r0)) = (evD T io G e (vals (a0 :: r0))).bind itemsS := by rw [evI]
@[simp] theorem ei_rg (e : Ex) (a0 : Option (Dat × Bool)) (r0 : DS) : evI T io G (.rg e) (vals (a0 :: r0)) = (evD T io G e (vals (a0 :: r0))).bind itemsR := by rw [evI]
@[simp] theorem ex_nil (a0 : Option (Dat × Bool)) (r0 : DS) : exDs T io G wf z .nil (a0 :: r0) = .nx (a0 :: r0) := by rw [exDs]
@[simp] theorem ex_cons (s : Sm) (r : Sms) (a0 : Option (Dat × Bool)) (r0 : DS) : exDs T io G wf z (.cons s r) (a0 :: r0) = (exD T io G wf z s (a0 :: r0)).bind fun ρ' => exDs T io G wf z r ρ' := by rw [exDs]
@[simp] theorem ex_ret (e : Ex) (a0 : Option (Dat × Bool)) (r0 : DS) : exD T io G wf z (.ret e) (a0 :: r0) = onRs (evD T io G e (vals (a0 :: r0))) fun d => .rt d (a0 :: r0) := by rw [exD]
@[simp] theorem ex_cont (a0 : Option (Dat × Bool)) (r0 : DS) : exD T io G wf z .cont (a0 :: r0) = .ct (a0 :: r0) := by rw [exD]
@[simp] theorem ex_raise (c : Nat) (a0 : Option (Dat × Bool)) (r0 : DS) : exD T io G wf z (.raise c) (a0 :: r0) = .ex c := by rw [exD]
theorem ex_rrep (e : Ex) (y z x : List Nat) (a0 : Option (Dat × Bool)) (r0 : DS) (h : evD T io G e (vals (a0 :: r0)) = .ok (.str x)) (hy : 1 ≤ y.length) (hb : x.length + (x.length + 1) * z.length ≤ 16777216) : exD T io G wf z0 (.rrep e y z) (a0 :: r0) = .rt (.str (StrLaws.replL y z x)) (a0 :: r0) := by
  rw [exD, h]
  show (match leq (x.length + (x.length + 1) * z.length) 16777216 && leq 1 y.length with
    | true => Rd.rt (.str (StrLaws.replL y z x)) (a0 :: r0)
    | false => .er) = _
  rw [show leq (x.length + (x.length + 1) * z.length) 16777216 = true from decide_eq_true hb, show leq 1 y.length = true from decide_eq_true hy]
  rfl
theorem ex_whl (c : Ex) (b : Sms) (ρ : DS) : exD T io G wf z (.whl c b) ρ = whD (fun ρ => (evD T io G c (vals ρ)).bind fun d => asBl d .ok) (exDs T io G wf z b) wf ρ := by rw [exD]
theorem ex_for (j : Nat) (it : Itr) (b : Sms) (ρ : DS) (h : (okSlot z j ρ && forOk z it ρ) = true) : exD T io G wf z (.for_ j it b) ρ = onRs (evI T io G it (vals ρ)) fun xs => forD j (exDs T io G wf z b) xs (unownI it ρ) := by
  rw [exD]
  congr 1
  funext d
  rw [h]
theorem ex_app (i : Nat) (e : Ex) (ρ : DS) {ds : List Dat} (h : ownAt ρ i = some ds) : exD T io G wf z (.ex (.app (.var i) e)) ρ = onRs (evD T io G e (vals ρ)) fun d => match ownAt (unown e d ρ) i with
        | some ds => (match decide (ds.length < sizeLine) with
          | true => .nx ((unown e d ρ).set i (some (.lst (ds ++ [d]), true)))
          | false => .er)
        | none => .er := by
  rw [exD]
  simp only [h] <;> rfl
@[simp] theorem it_frz (xs : List Dat) : itemsL (.frz xs) = .ok xs := rfl
@[simp] theorem it_lst (xs : List Dat) : itemsL (.lst xs) = .ok xs := rfl
@[simp] theorem it_str (a : List Nat) : itemsS (.str a) = .ok (a.map fun c => .str [c]) := rfl
@[simp] theorem it_rg (n : Int) (h : -(2 ^ 62) ≤ n) (h2 : n < 2 ^ 62) : itemsR (.int n) = .ok ((List.range n.toNat).map fun k => .int (k : Nat)) := by
  show Rs.chk _ _ = _
  rw [decide_eq_true h, decide_eq_true h2]
  rfl
end
@[simp] theorem dc_int (i : Int) : datC (.int i) = .ok (.int i) := rfl
@[simp] theorem dc_bl (i : Bool) : datC (.bl i) = .ok (.bl i) := rfl
@[simp] theorem dc_non : datC .non = .ok .non := rfl
@[simp] theorem dc_str (l : List Nat) : datC (vS l) = .ok (.str l) := by
  show Rs.ok (Dat.str l.toArray.toList) = _
  simp
@[simp] theorem bd_add (i j : Int) : binD .add (.int i) (.int j) = .ok (.int (i + j)) := rfl
@[simp] theorem bd_sub (i j : Int) : binD .sub (.int i) (.int j) = .ok (.int (i - j)) := rfl
@[simp] theorem bd_cat (a b : List Nat) (h : a.length + b.length ≤ 16777216) : binD .add (.str a) (.str b) = .ok (.str (a ++ b)) := chk_leq h _
@[simp] theorem bd_catL (a b : List Dat) (h : a.length + b.length ≤ 16777216) : binD .add (.lst a) (.lst b) = .ok (.lst (a ++ b)) := chk_leq h _
@[simp] theorem bd_mul (i j : Int) (h : -(2 ^ 64) < i) (h2 : i < 2 ^ 64) : binD .mul (.int i) (.int j) = .ok (.int (i * j)) := chk_small1 _ h h2 _
@[simp] theorem bd_mul2 (i j : Int) (h : -(2 ^ 64) < j) (h2 : j < 2 ^ 64) : binD .mul (.int i) (.int j) = .ok (.int (i * j)) := chk_small2 _ h h2 _
@[simp] theorem bd_mod (i j : Int) (h : 0 < j) : binD .mod (.int i) (.int j) = .ok (.int (i % j)) := by
  show Rs.chk _ (Rs.ok (Dat.int (i.fmod j))) = _
  rw [chk_dec (by omega), Int.fmod_eq_emod_of_nonneg i (by omega)]
@[simp] theorem bd_div (i j : Int) (h : 0 < j) (h2 : j < 1073741824) : binD .fdiv (.int i) (.int j) = .ok (.int (i / j)) := by
  show Rs.chk _ (Rs.ok (Dat.int (i.fdiv j))) = _
  rw [chk_dec2 _ (by omega), chk_dec (by omega), Int.fdiv_eq_ediv_of_nonneg i (by omega)]
@[simp] theorem bd_rep (a : List Nat) (n : Int) (h : n < 2 ^ 20) (h2 : -(2 ^ 62) < n) (h3 : a.length < 1000) (h4 : a.length * n.toNat ≤ 16777216) : binD .mul (.str a) (.int n) = .ok (.str (repS a n)) := by
  show Rs.chk _ _ = _
  rw [chk_le2 (b := sizeLine) _ h4, chk_dec2 _ h3, chk_dec2 _ h2, chk_dec h]
@[simp] theorem cd_eq (d e : Dat) : cmpD .eq d e = eqD false d e := rfl
@[simp] theorem cd_ne (d e : Dat) : cmpD .ne d e = eqD true d e := rfl
@[simp] theorem cd_lt (i j : Int) : cmpD .lt (.int i) (.int j) = .ok (.bl (decide (i < j))) := rfl
@[simp] theorem cd_le (i j : Int) : cmpD .le (.int i) (.int j) = .ok (.bl (decide (i ≤ j))) := rfl
@[simp] theorem cd_gt (i j : Int) : cmpD .gt (.int i) (.int j) = .ok (.bl (decide (j < i))) := rfl
@[simp] theorem cd_ge (i j : Int) : cmpD .ge (.int i) (.int j) = .ok (.bl (decide (j ≤ i))) := rfl
@[simp] theorem cd_in (d e : Dat) : cmpD .isin d e = inD false d e := rfl
@[simp] theorem cd_nin (d e : Dat) : cmpD .notin d e = inD true d e := rfl
@[simp] theorem cd_is (d e : Dat) : cmpD .is_ d e = isD false d e := rfl
@[simp] theorem cd_isn (d e : Dat) : cmpD .isnot d e = isD true d e := rfl
@[simp] theorem in_strE (n : Bool) (a b : List Nat) : inD n (.str a) (.str b) = .ok (.bl (n != isSub a b)) := rfl
@[simp] theorem ln_str (a : List Nat) (h : a.length ≤ 16777216) : lenD (.str a) = .ok (.int a.length) := chk_leq h _
@[simp] theorem ln_lst (a : List Dat) : lenD (.lst a) = .ok (.int a.length) := rfl
@[simp] theorem ln_tup (a : List Dat) : lenD (.tup a) = .ok (.int a.length) := rfl
@[simp] theorem ln_frz (a : List Dat) : lenD (.frz a) = .ok (.int a.length) := rfl
@[simp] theorem id_int (i : Int) : intD (.int i) = .ok (.int i) := rfl
@[simp] theorem id_bl (b : Bool) : intD (.bl b) = .ok (.int (if b = true then 1 else 0)) := rfl
@[simp] theorem lstrip_str (a : List Nat) (c : Nat) (h : a.length ≤ 16777216) : lstripD (.str a) (.str [c]) = .ok (.str (a.dropWhile (· == c))) := chk_leq h _
@[simp] theorem find_str (a : List Nat) (c : Nat) (i : Int) (h0 : 0 ≤ i) (h : i ≤ a.length) : findD (.str a) (.str [c]) (.int i) = .ok (.int (findC c a i.toNat)) := by
  show Rs.chk _ _ = _
  rw [chk_dec2 _ h, chk_dec h0]
@[simp] theorem split_str (a : List Nat) (c : Nat) (hc : c < 256) (h : a.length + 2 ≤ 16777216) : splitD (.str a) (.str [c]) = .ok (.lst ((splitC c a).map Dat.str)) := by
  show Rs.chk _ _ = _
  rw [chk_le2 (b := sizeLine) _ h, chk_dec hc]
@[simp] theorem part_str (a : List Nat) (c : Nat) (h : a.length ≤ 16777216) : partD (.str a) (.str [c]) = .ok (.tup [.str (partC c a).1, .str (partC c a).2.1, .str (partC c a).2.2]) := chk_leq h _
@[simp] theorem ix_str (a : List Nat) (i : Int) (h : a.length ≤ 16777216) : idxD (.str a) (.int i) = (ofO (atI a i)).bind fun c => .ok (.str [c]) := chk_leq h _
@[simp] theorem ix_lst (a : List Dat) (i : Int) : idxD (.lst a) (.int i) = ofO (atI a i) := rfl
@[simp] theorem ix_tup (a : List Dat) (i : Int) : idxD (.tup a) (.int i) = ofO (atI a i) := rfl
@[simp] theorem ix_frz (a : List Dat) (i : Int) : idxD (.frz a) (.int i) = ofO (atI a i) := rfl
@[simp] theorem slc_str (lo hi : Option Int) (a : List Nat) (h : a.length ≤ 16777216) : slD lo hi (.str a) = .ok (.str (cutL a lo hi)) := chk_leq h _
@[simp] theorem sl_lst (lo hi : Option Int) (a : List Dat) : slD lo hi (.lst a) = .ok (.lst (cutL a lo hi)) := rfl
@[simp] theorem isS_s (a : List Nat) : isStr (.str a) = true := rfl
@[simp] theorem nl_str (a : List Nat) : nolst (.str a) = true := by rw [nolst]; all_goals simp
@[simp] theorem nl_int (a : Int) : nolst (.int a) = true := by rw [nolst]; all_goals simp
@[simp] theorem nl_bl (a : Bool) : nolst (.bl a) = true := by rw [nolst]; all_goals simp
@[simp] theorem nl_non : nolst .non = true := by rw [nolst]; all_goals simp
@[simp] theorem nl_lst (a : List Dat) : nolst (.lst a) = false := by rw [nolst]
@[simp] theorem nl_frz (a : List Dat) : nolst (.frz a) = false := by rw [nolst]
@[simp] theorem nl_tup (a : List Dat) : nolst (.tup a) = nolstL a := by rw [nolst]
@[simp] theorem nL_nil : nolstL [] = true := by rw [nolstL]
@[simp] theorem nL_cons (d : Dat) (a : List Dat) : nolstL (d :: a) = (nolst d && nolstL a) := by rw [nolstL]
@[simp] theorem iL_str (a : List Nat) : isLst (.str a) = false := rfl
@[simp] theorem iL_int (a : Int) : isLst (.int a) = false := rfl
@[simp] theorem iL_bl (a : Bool) : isLst (.bl a) = false := rfl
@[simp] theorem iL_lst (a : List Dat) : isLst (.lst a) = true := rfl
@[simp] theorem iL_tup (a : List Dat) : isLst (.tup a) = false := rfl
@[simp] theorem un_lst (e : Ex) (a : List Dat) (ρ : DS) : unown e (.lst a) ρ = unownF (ment e) 0 ρ := by
  unfold unown
  rw [nl_lst]
@[simp] theorem un_str (e : Ex) (a : List Nat) (ρ : DS) : unown e (.str a) ρ = ρ := unown_flat (nl_str a)
@[simp] theorem un_int (e : Ex) (a : Int) (ρ : DS) : unown e (.int a) ρ = ρ := unown_flat (nl_int a)
@[simp] theorem un_bl (e : Ex) (a : Bool) (ρ : DS) : unown e (.bl a) ρ = ρ := unown_flat (nl_bl a)
theorem whD_run {c : DS → Rs Bool} {body : DS → Rd} {S : Nat → DS} {N : Nat} (h : ∀ i, i < N → c (S i) = .ok true ∧ body (S i) = .nx (S (i + 1))) (he : c (S N) = .ok false) : ∀ (m i wf : Nat), i + m = N → m < wf → whD c body wf (S i) = .nx (S N)
  | 0, i, wf + 1, e, _ => by
    have : i = N := by omega
    subst this
    rw [whD_step he]
    rfl
  | m + 1, i, wf + 1, e, hw => by
    obtain ⟨h1, h2⟩ := h i (by omega)
    rw [whD_step h1, if_pos rfl, h2]
    exact whD_run h he m (i + 1) wf (by omega) (by omega)
theorem ex_whl_run {T : Tbl} {io : Nat → Bool} {G : Gd} {wf : Nat} {z : Bool} {c : Ex} {b : Sms} {ρ : DS} (S : Nat → DS) (N : Nat) (h0 : ρ = S 0) (hw : N < wf) (h : ∀ i, i < N → evD T io G c (vals (S i)) = .ok (.bl true) ∧ exDs T io G wf z b (S i) = .nx (S (i + 1))) (he : evD T io G c (vals (S N)) = .ok (.bl false)) : exD T io G wf z (.whl c b) ρ = .nx (S N) := by
  rw [ex_whl, h0]
  refine whD_run (S := S) (N := N) (fun i hi => ⟨?_, (h i hi).2⟩) ?_ N 0 wf (by omega) hw
  · rw [(h i hi).1]
    rfl
  · rw [he]
    rfl
theorem ex_for_run {α σ : Type} {T : Tbl} {io : Nat → Bool} {G : Gd} {wf : Nat} {z : Bool} {j : Nat} {it : Itr} {b : Sms} {ρ : DS} (k : α → Dat) (S : σ → DS → Prop) (step : σ → α → σ) (xs : List α) (a : σ) (hk : (okSlot z j ρ && forOk z it ρ) = true) (hi : evI T io G it (vals ρ) = .ok (xs.map k)) (h0 : S a (unownI it ρ))
    (h : ∀ a ρ x, x ∈ xs → S a ρ → ∃ ρ', (exDs T io G wf z b (ρ.set j (some (k x, false))) = .nx ρ' ∨ exDs T io G wf z b (ρ.set j (some (k x, false))) = .ct ρ') ∧ S (step a x) ρ') : ∃ ρ', exD T io G wf z (.for_ j it b) ρ = .nx ρ' ∧ S (xs.foldl step a) ρ' := by
  rw [ex_for j it b ρ hk, hi, onRsE]
  exact forD_nx h h0
theorem cut1 {α : Type} (l : List α) (i : Nat) : cutL l (some (i : Int)) (some ((i : Int) + 1)) = l[i]?.toList := by
  rw [cut_mid (by omega) (by omega)]
  have e : ((i : Int) + 1).toNat - (i : Int).toNat = 1 := by omega
  rw [e]
  simp only [Int.toNat_natCast]
  rw [List.take_one, List.head?_drop]
@[simp] theorem take1_drop {α : Type} (l : List α) (i : Nat) : (l.drop i).take 1 = l[i]?.toList := by
  rw [List.take_one, List.head?_drop]
/-- how often c stands first -/
def runL (c : Nat) : List Nat → Nat
  | [] => 0
  | x :: r => if x = c then runL c r + 1 else 0
theorem runL_le (c : Nat) : ∀ l : List Nat, runL c l ≤ l.length
  | [] => Nat.le_refl _
  | x :: r => by
    unfold runL
    have := runL_le c r
    split
    · simpa using this
    · exact Nat.zero_le _
theorem runL_lt {c : Nat} : ∀ {l : List Nat} {i : Nat}, i < runL c l → l[i]? = some c
  | [], i, h => by simp [runL] at h
  | x :: r, i, h => by
    unfold runL at h
    split at h
    · cases i with
      | zero => simpa using ‹x = c›
      | succ i => simpa using runL_lt (l := r) (by omega)
    · omega
theorem runL_at {c : Nat} : ∀ {l : List Nat}, l[runL c l]? ≠ some c
  | [] => by simp
  | x :: r => by
    unfold runL
    split
    · simpa using runL_at (l := r)
    · simpa using ‹¬ x = c›
@[simp] theorem runL_drop {c : Nat} : ∀ {l : List Nat}, l.dropWhile (· == c) = l.drop (runL c l)
  | [] => rfl
  | x :: r => by
    unfold runL
    by_cases h : x = c
    · rw [if_pos h, List.dropWhile_cons_of_pos (by simpa using h), List.drop_succ_cons, runL_drop]
    · rw [if_neg h, List.dropWhile_cons_of_neg (by simpa using h), List.drop_zero]
@[simp] theorem toList_eq {α : Type} (o : Option α) (c : α) : o.toList = [c] ↔ o = some c := by
  cases o <;> simp
theorem ok_if {p : Prop} [Decidable p] (a b : Dat) (l : List Dat) : Rs.ok ((if p then a else b), l) = if p then Rs.ok (a, l) else Rs.ok (b, l) := by
  split <;> rfl
@[simp] theorem fl_int (i : Int) : flatD (.int i) = true := rfl
@[simp] theorem fl_str (i : List Nat) : flatD (.str i) = true := rfl
@[simp] theorem fl_bl (i : Bool) : flatD (.bl i) = true := rfl
@[simp] theorem fl_non : flatD .non = true := rfl
@[simp] theorem in_int_tup (n : Bool) (i : Int) (xs : List Dat) : inD n (.int i) (.tup xs) = .chk (xs.all flatD) (.ok (.bl (n != xs.any fun y => eqv y (.int i)))) := rfl
@[simp] theorem in_str_tup (n : Bool) (i : List Nat) (xs : List Dat) : inD n (.str i) (.tup xs) = .chk (xs.all flatD) (.ok (.bl (n != xs.any fun y => eqv y (.str i)))) := rfl
@[simp] theorem eqv_int (i j : Int) : eqv (.int i) (.int j) = decide (i = j) := by by_cases h : i = j <;> simp [eqv, h]
@[simp] theorem eqv_str (i j : List Nat) : eqv (.str i) (.str j) = decide (i = j) := by by_cases h : i = j <;> simp [eqv, h]
@[simp] theorem is_non (n : Bool) : isD n .non .non = .ok (.bl (n != true)) := rfl
@[simp] theorem is_str (n : Bool) (a : List Nat) : isD n (.str a) .non = .ok (.bl (n != false)) := rfl
@[simp] theorem un_tup (e : Ex) (a : List Dat) (ρ : DS) : unown e (.tup a) ρ = if nolstL a = true then ρ else unownF (ment e) 0 ρ := by
  unfold unown
  rw [nl_tup]
  cases nolstL a <;> rfl
theorem strsD_map {α : Type} (f : α → List Nat) : ∀ xs : List α, strsD (xs.map fun k => .str (f k)) = some (xs.map f)
  | [] => rfl
  | x :: r => by
    rw [List.map_cons, strsD, strsD_map f r]
    rfl
theorem joinD_map {α : Type} (a : List Nat) (f : α → List Nat) (xs : List α) (h : ((xs.map f).map List.length).sum + xs.length * a.length ≤ 16777216) : joinD (.str a) (.lst (xs.map fun k => .str (f k))) = .ok (.str (joinL a (xs.map f))) := by
  unfold joinD
  dsimp only
  rw [strsD_map]
  refine chk_leq ?_ _
  rw [List.length_map]
  exact h
theorem joinL_nil : ∀ xs : List (List Nat), joinL [] xs = xs.flatten
  | [] => rfl
  | [x] => by simp [joinL]
  | x :: y :: r => by
    rw [joinL, joinL_nil (y :: r)]
    simp
theorem flat_one {α : Type} (f : α → Nat) (xs : List α) : (xs.map fun k => [f k]).flatten = xs.map f := by
  induction xs with
  | nil => rfl
  | cons x r ih => simp [ih]
theorem sum_one {α : Type} (f : α → Nat) (xs : List α) : ((xs.map fun k => [f k]).map List.length).sum = xs.length := by
  induction xs with
  | nil => rfl
  | cons x r ih => rw [List.map_cons, List.map_cons, List.sum_cons, ih]; simp; omega
/-- ''.join of single signs -/
theorem joinD_one {α : Type} (f : α → Nat) (xs : List α) (h : xs.length ≤ 16777216) : joinD (.str []) (.lst (xs.map fun k => .str [f k])) = .ok (.str (xs.map f)) := by
  rw [joinD_map [] (fun k => [f k]) xs (by rw [sum_one]; simpa using h), joinL_nil, flat_one]
@[simp ↓] theorem cond_t {α : Type} (x y : Rs α) : Rs.cond true x y = x := rfl
@[simp ↓] theorem cond_f {α : Type} (x y : Rs α) : Rs.cond false x y = y := rfl
@[simp] theorem cond_t' {α : Type} (x y : Rs α) : Rs.cond true x y = x := rfl
@[simp] theorem cond_f' {α : Type} (x y : Rs α) : Rs.cond false x y = y := rfl
end Fw

set_option maxHeartbeats 4000000
namespace Fw
open PySem PySem.Spec PyProof.Rows L2

/-! ### what a run must end in -/
def SatM (r : Rd) (N C : DS → Prop) (R : Dat → Prop) : Prop := match r with
  | .nx ρ => N ρ
  | .ct ρ => C ρ
  | .rt d _ => R d
  | .ex _ => False
  | .er => False
structure Sat (r : Rd) (N C : DS → Prop) (R : Dat → Prop) : Prop where
  out' : SatM r N C R
theorem Sat.nx {ρ : DS} {N C : DS → Prop} {R : Dat → Prop} (h : N ρ) : Sat (.nx ρ) N C R := ⟨h⟩
theorem Sat.ct {ρ : DS} {N C : DS → Prop} {R : Dat → Prop} (h : C ρ) : Sat (.ct ρ) N C R := ⟨h⟩
theorem Sat.rt {d : Dat} {ρ : DS} {N C : DS → Prop} {R : Dat → Prop} (h : R d) : Sat (.rt d ρ) N C R := ⟨h⟩
theorem Sat.bind {r : Rd} {f : DS → Rd} {N C : DS → Prop} {R : Dat → Prop} (h : Sat r (fun ρ => Sat (f ρ) N C R) C R) : Sat (r.bind f) N C R := by
  have h := h.out'
  cases r with
  | nx ρ => exact h
  | _ => exact ⟨h⟩
theorem Sat.mono {r : Rd} {N C N' C' : DS → Prop} {R R' : Dat → Prop} (h : Sat r N C R) (hN : ∀ ρ, N ρ → N' ρ) (hC : ∀ ρ, C ρ → C' ρ) (hR : ∀ d, R d → R' d) : Sat r N' C' R' := by
  have h := h.out'
  cases r with
  | nx ρ => exact ⟨hN _ h⟩
  | ct ρ => exact ⟨hC _ h⟩
  | rt d ρ => exact ⟨hR _ h⟩
  | ex c => exact ⟨h⟩
  | er => exact ⟨h⟩
theorem Sat.out {r : Rd} {R : Dat → Prop} (h : Sat r (fun _ => R .non) (fun _ => False) R) : ∃ d, outD false r = .ok (d, []) ∧ R d := by
  have h := h.out'
  cases r with
  | nx ρ => exact ⟨_, rfl, h⟩
  | ct ρ => exact h.elim
  | rt d ρ => exact ⟨d, rfl, h⟩
  | ex c => exact h.elim
  | er => exact h.elim
section
variable {T : Tbl} {io : Nat → Bool} {G : Gd} {wf : Nat} {N C : DS → Prop} {R : Dat → Prop} {ρ : DS}
theorem sat_nil (h : N ρ) : Sat (exDs T io G wf false .nil ρ) N C R := by
  rw [exDs]
  exact ⟨h⟩
theorem sat_cons {s : Sm} {r : Sms} (h : Sat (exD T io G wf false s ρ) (fun ρ' => Sat (exDs T io G wf false r ρ') N C R) C R) : Sat (exDs T io G wf false (.cons s r) ρ) N C R := by
  rw [exDs]
  exact h.bind
theorem sat_asg {i : Nat} {e : Ex} (d : Dat) (hi : i < ρ.length) (h : evD T io G e (vals ρ) = .ok d) (k : N ((unown e d ρ).set i (some (d, fresh e && isLst d)))) : Sat (exD T io G wf false (.asg i e) ρ) N C R := by
  rw [exD_asg (z := false) (show okSlot false i ρ = true from decide_eq_true hi), h]
  exact ⟨k⟩
theorem isLst_no {d : Dat} (h : nolst d = true) : isLst d = false := by
  cases d <;> first | rfl | (rw [nl_lst] at h; cases h)
theorem sat_asgF {i : Nat} {e : Ex} (d : Dat) (hi : i < ρ.length) (h : evD T io G e (vals ρ) = .ok d) (hd : nolst d = true) (k : N (ρ.set i (some (d, false)))) : Sat (exD T io G wf false (.asg i e) ρ) N C R := by
  refine sat_asg d hi h ?_
  rw [unown_flat hd, isLst_no hd, Bool.and_false]
  exact k
theorem sat_asgI {i : Nat} {e : Ex} (d : Int) (hi : i < ρ.length) (h : evD T io G e (vals ρ) = .ok (.int d)) (k : N (ρ.set i (some (.int d, false)))) : Sat (exD T io G wf false (.asg i e) ρ) N C R := sat_asgF _ hi h (nl_int _) k
theorem sat_asgS {i : Nat} {e : Ex} (d : List Nat) (hi : i < ρ.length) (h : evD T io G e (vals ρ) = .ok (.str d)) (k : N (ρ.set i (some (.str d, false)))) : Sat (exD T io G wf false (.asg i e) ρ) N C R := sat_asgF _ hi h (nl_str _) k
theorem sat_ret {e : Ex} (d : Dat) (h : evD T io G e (vals ρ) = .ok d) (k : R d) : Sat (exD T io G wf false (.ret e) ρ) N C R := by
  rw [exD, h]
  exact ⟨k⟩
theorem sat_cont (k : C ρ) : Sat (exD T io G wf false .cont ρ) N C R := by
  rw [exD]
  exact ⟨k⟩
theorem sat_ite {c : Ex} {a b : Sms} (t : Bool) (h : evD T io G c (vals ρ) = .ok (.bl t)) (ka : t = true → Sat (exDs T io G wf false a ρ) N C R) (kb : t = false → Sat (exDs T io G wf false b ρ) N C R) : Sat (exD T io G wf false (.ite c a b) ρ) N C R := by
  rw [exD_ite, h, onRsE]
  cases t with
  | true => exact ka rfl
  | false => exact kb rfl
theorem sat_iteP {c : Ex} {a b : Sms} (p : Prop) [Decidable p] (h : evD T io G c (vals ρ) = .ok (.bl (decide p))) (ka : p → Sat (exDs T io G wf false a ρ) N C R) (kb : ¬p → Sat (exDs T io G wf false b ρ) N C R) : Sat (exD T io G wf false (.ite c a b) ρ) N C R :=
  sat_ite _ h (fun e => ka (of_decide_eq_true e)) (fun e => kb (of_decide_eq_false e))
theorem sat_forD {α σ : Type} {j : Nat} {body : DS → Rd} {k : α → Dat} {S : σ → DS → Prop} {step : σ → α → σ} : ∀ {xs : List α} {a : σ} {ρ : DS}, (∀ a ρ x, x ∈ xs → S a ρ → Sat (body (ρ.set j (some (k x, false)))) (S (step a x)) (S (step a x)) R) → S a ρ → (∀ ρ', S (xs.foldl step a) ρ' → N ρ') → Sat (forD j body (xs.map k) ρ) N C R
  | [], a, ρ, _, h, q => ⟨q ρ h⟩
  | x :: r, a, ρ, hb, h, q => by
    have h1 := hb a ρ x (List.mem_cons_self ..) h
    rw [List.map_cons, forD]
    revert h1
    cases body (ρ.set j (some (k x, false))) with
    | nx ρ1 => exact fun h1 => sat_forD (fun a ρ y hy => hb a ρ y (List.mem_cons_of_mem _ hy)) h1.out' q
    | ct ρ1 => exact fun h1 => sat_forD (fun a ρ y hy => hb a ρ y (List.mem_cons_of_mem _ hy)) h1.out' q
    | rt d ρ1 => exact fun h1 => ⟨h1.out'⟩
    | ex c => exact fun h1 => h1.out'.elim
    | er => exact fun h1 => h1.out'.elim
theorem sat_for {α σ : Type} {j : Nat} {it : Itr} {b : Sms} (k : α → Dat) (S : σ → DS → Prop) (step : σ → α → σ) (xs : List α) (a : σ) (hk : j < ρ.length) (hi : evI T io G it (vals ρ) = .ok (xs.map k)) (h0 : S a (unownI it ρ))
    (h : ∀ a ρ x, x ∈ xs → S a ρ → Sat (exDs T io G wf false b (ρ.set j (some (k x, false)))) (S (step a x)) (S (step a x)) R) (q : ∀ ρ', S (xs.foldl step a) ρ' → N ρ') : Sat (exD T io G wf false (.for_ j it b) ρ) N C R := by
  rw [ex_for j it b ρ (by rw [show okSlot false j ρ = true from decide_eq_true hk]; rfl), hi, onRsE]
  exact sat_forD h h0 q
/-- by an invariant alone -/
theorem sat_forI {α : Type} {j : Nat} {it : Itr} {b : Sms} (k : α → Dat) (S : DS → Prop) (xs : List α) (hk : j < ρ.length) (hi : evI T io G it (vals ρ) = .ok (xs.map k)) (h0 : S (unownI it ρ))
    (h : ∀ ρ x, x ∈ xs → S ρ → Sat (exDs T io G wf false b (ρ.set j (some (k x, false)))) S S R) (q : ∀ ρ', S ρ' → N ρ') : Sat (exD T io G wf false (.for_ j it b) ρ) N C R :=
  sat_for (σ := Unit) k (fun _ => S) (fun a _ => a) xs () hk hi h0 (fun _ => h) q
theorem sat_forND {α : Type} {j : Nat} {body : DS → Rd} {k : α → Dat} {S : Nat → DS → Prop} : ∀ {xs : List α} {m : Nat} {ρ : DS}, (∀ (i : Nat) ρ (h : i < xs.length), S (m + i) ρ → Sat (body (ρ.set j (some (k xs[i], false)))) (S (m + i + 1)) (S (m + i + 1)) R) → S m ρ → (∀ ρ', S (m + xs.length) ρ' → N ρ') → Sat (forD j body (xs.map k) ρ) N C R
  | [], m, ρ, _, h, q => ⟨q ρ h⟩
  | x :: r, m, ρ, hb, h, q => by
    have h1 := hb 0 ρ (Nat.zero_lt_succ _) h
    have hb' : ∀ (i : Nat) ρ (h : i < r.length), S (m + 1 + i) ρ → Sat (body (ρ.set j (some (k r[i], false)))) (S (m + 1 + i + 1)) (S (m + 1 + i + 1)) R := by
      intro i ρ hi hs
      have := hb (i + 1) ρ (Nat.succ_lt_succ hi)
      rw [show m + 1 + i = m + (i + 1) by omega] at hs ⊢
      exact this hs
    have q' : ∀ ρ', S (m + 1 + r.length) ρ' → N ρ' := by
      intro ρ' hs
      refine q ρ' ?_
      rw [List.length_cons, show m + (r.length + 1) = m + 1 + r.length by omega]
      exact hs
    rw [List.map_cons, forD]
    revert h1
    simp only [List.getElem_cons_zero]
    cases body (ρ.set j (some (k x, false))) with
    | nx ρ1 => exact fun h1 => sat_forND hb' h1.out' q'
    | ct ρ1 => exact fun h1 => sat_forND hb' h1.out' q'
    | rt d ρ1 => exact fun h1 => ⟨h1.out'⟩
    | ex c => exact fun h1 => h1.out'.elim
    | er => exact fun h1 => h1.out'.elim
/-- by how many have been walked -/
theorem sat_forN {α : Type} {j : Nat} {it : Itr} {b : Sms} (k : α → Dat) (S : Nat → DS → Prop) (xs : List α) (hk : j < ρ.length) (hi : evI T io G it (vals ρ) = .ok (xs.map k)) (h0 : S 0 (unownI it ρ))
    (h : ∀ (i : Nat) ρ (h : i < xs.length), S i ρ → Sat (exDs T io G wf false b (ρ.set j (some (k xs[i], false)))) (S (i + 1)) (S (i + 1)) R) (q : ∀ ρ', S xs.length ρ' → N ρ') : Sat (exD T io G wf false (.for_ j it b) ρ) N C R := by
  rw [ex_for j it b ρ (by rw [show okSlot false j ρ = true from decide_eq_true hk]; rfl), hi, onRsE]
  refine sat_forND (m := 0) (fun i ρ hi hs => ?_) h0 fun ρ' hs => q ρ' (by rwa [Nat.zero_add] at hs)
  rw [Nat.zero_add] at hs ⊢
  exact h i ρ hi hs
theorem sat_whD {c : DS → Rs Bool} {body : DS → Rd} (S : DS → Prop) (μ : DS → Nat) (t : DS → Bool) (hc : ∀ ρ, S ρ → c ρ = .ok (t ρ)) (hb : ∀ ρ, S ρ → t ρ = true → Sat (body ρ) (fun ρ' => S ρ' ∧ μ ρ' < μ ρ) (fun ρ' => S ρ' ∧ μ ρ' < μ ρ) R) (hq : ∀ ρ, S ρ → t ρ = false → N ρ) : ∀ (wf : Nat) (ρ : DS), S ρ → μ ρ < wf → Sat (whD c body wf ρ) N C R
  | 0, ρ, _, h => by omega
  | wf + 1, ρ, s, h => by
    rw [whD_step (hc ρ s)]
    cases ht : t ρ with
    | false => exact ⟨hq ρ s ht⟩
    | true =>
      have h1 := hb ρ s ht
      rw [if_pos rfl]
      revert h1
      cases body ρ with
      | nx ρ1 => exact fun h1 => sat_whD S μ t hc hb hq wf ρ1 h1.out'.1 (by have := h1.out'.2; omega)
      | ct ρ1 => exact fun h1 => sat_whD S μ t hc hb hq wf ρ1 h1.out'.1 (by have := h1.out'.2; omega)
      | rt d ρ1 => exact fun h1 => ⟨h1.out'⟩
      | ex c => exact fun h1 => h1.out'.elim
      | er => exact fun h1 => h1.out'.elim
theorem sat_whl {c : Ex} {b : Sms} (S : DS → Prop) (μ : DS → Nat) (t : DS → Bool) (h0 : S ρ) (hμ : μ ρ < wf) (hc : ∀ ρ, S ρ → evD T io G c (vals ρ) = .ok (.bl (t ρ))) (hb : ∀ ρ, S ρ → t ρ = true → Sat (exDs T io G wf false b ρ) (fun ρ' => S ρ' ∧ μ ρ' < μ ρ) (fun ρ' => S ρ' ∧ μ ρ' < μ ρ) R) (hq : ∀ ρ, S ρ → t ρ = false → N ρ) : Sat (exD T io G wf false (.whl c b) ρ) N C R := by
  rw [ex_whl]
  refine sat_whD S μ t (fun ρ s => ?_) hb hq wf ρ h0 hμ
  rw [hc ρ s]
  rfl
end
/-! ### the law's end -/
theorem hide_none (H : Hp) : hide (fun _ => False) H = H := by
  funext a
  unfold hide
  simp
theorem repL_ints (K : PySem.W.Frag) (H : Hp) : ∀ ns : List Int, RepL K H (ns.map .int) (ns.map V.int)
  | [] => rfl
  | n :: r => ⟨_, _, rfl, rfl, repL_ints K H r⟩
theorem wp_of {K : PySem.W.Frag} {T : Tbl} {cv : Nat → Value} {io : Nat → Bool} {X : Exn} {wf : Nat} (hX : ExtOk K T cv io X) {n f : Nat} (hio : io f = false) {ns : List Int} {l : List Dat} (h : callD T io X wf n f [.frz (ns.map .int)] = .ok (.bl true, l)) {H : Hp} {a : Addr} (hS : SqL K H a (ns.map V.int)) : wpF K T cv n f [.ref a] H (fun v _ => v = .bl true) (fun _ _ _ => False) := by
  refine call_pure hX hio h (Z := fun _ => False) ?_ ?_ ?_
  · intro a ha
    exact ha.elim
  · rw [hide_none]
    exact ⟨_, _, rfl, ⟨a, _, rfl, hS, repL_ints K H ns⟩, rfl⟩
  · intro v H' _ r
    exact r
end Fw

set_option maxHeartbeats 4000000
namespace Fw
open PySem PySem.Spec PyProof.Rows L2

/-! ### a pile of lists that still grow, each within a tuple behind its mark -/
structure Frm where
  t : Addr
  l : Addr
  m : List Nat
  ds : List Dat
  vs : List V
/-- what is hidden: what still grows -/
def MZ (Z : Addr → Prop) (p : Addr) (fs : List Frm) : Addr → Prop := fun a => Z a ∨ a = p ∨ a ∈ fs.map (·.l)
def frD (f : Frm) : Dat := .tup [.str f.m, .lst f.ds]
structure PL (K : PySem.W.Frag) (H0 H : Hp) (Z : Addr → Prop) (p : Addr) (fs : List Frm) : Prop where
  sm : Same H0 H
  np : H0 p = none
  pp : H p = some (.lst ((fs.map fun f => V.ref f.t).reverse))
  nl : ∀ f ∈ fs, H0 f.l = none
  nt : ∀ f ∈ fs, H0 f.t = none
  lp : ∀ f ∈ fs, f.l ≠ p
  tt : ∀ f ∈ fs, H f.t = some (.tup [vS f.m, .ref f.l])
  ll : ∀ f ∈ fs, H f.l = some (.lst f.vs)
  rr : ∀ f ∈ fs, RepL K (hide (MZ Z p fs) H) f.ds f.vs
  nd : (fs.map (·.l)).Nodup
section
variable {K : PySem.W.Frag} {H0 H H1 : Hp} {Z : Addr → Prop} {p : Addr} {f f2 : Frm} {fs : List Frm}
theorem same_trans {A B C : Hp} (h : Same A B) (g : Same B C) : Same A C := fun b o e => g b o (h b o e)
/-- a change of what is new -/
theorem same_upd {A B : Hp} {a : Addr} {o : HO} (h : Same A B) (n : A a = none) : Same A (upd B a o) := fun b x e => by
  rw [upd_ne (fun hb => by rw [hb, n] at e; cases e)]
  exact h b x e
theorem PL.same (h : PL K H0 H Z p fs) (s : Same H H1) : PL K H0 H1 Z p fs where
  sm := same_trans h.sm s
  np := h.np
  pp := s _ _ h.pp
  nl := h.nl
  nt := h.nt
  lp := h.lp
  tt := fun f m => s _ _ (h.tt f m)
  ll := fun f m => s _ _ (h.ll f m)
  rr := fun f m => repL_mono (hide_same s) _ _ (h.rr f m)
  nd := h.nd
/-- what is outside is hidden -/
theorem PL.mz (h : PL K H0 H Z p fs) (zd : ZD Z H0) : ZD (MZ Z p fs) H := by
  intro a ha
  rcases ha with ha | rfl | hf
  · exact zd.same h.sm a ha
  · rw [h.pp]
    simp
  · obtain ⟨f, hf2, rfl⟩ := List.mem_map.mp hf
    rw [h.ll f hf2]
    simp
theorem PL.z (h : PL K H0 H Z p fs) (zd : ZD Z H0) : ZD Z H := zd.same h.sm
theorem PL.zp (h : PL K H0 H Z p fs) (zd : ZD Z H0) : ¬ Z p := fun z => zd p z h.np
theorem PL.zl (h : PL K H0 H Z p fs) (zd : ZD Z H0) (m : f ∈ fs) : ¬ Z f.l := fun z => zd _ z (h.nl f m)
theorem PL.zt (h : PL K H0 H Z p fs) (zd : ZD Z H0) (m : f ∈ fs) : ¬ Z f.t := fun z => zd _ z (h.nt f m)
theorem PL.tne (h : PL K H0 H Z p fs) (m : f ∈ fs) : f.t ≠ p := ne_of (h.tt f m) h.pp (by simp)
theorem PL.tnl (h : PL K H0 H Z p fs) (m : f ∈ fs) (m2 : f2 ∈ fs) : f.t ≠ f2.l := ne_of (h.tt f m) (h.ll f2 m2) (by simp)
theorem mz_le : ∀ a, Z a → MZ Z p fs a := fun a z => .inl z
theorem rep_str {K : PySem.W.Frag} {H : Hp} (s : List Nat) : Rep K H (.str s) (vS s) := by simp only [Rep]
theorem rep_int {K : PySem.W.Frag} {H : Hp} (s : Int) : Rep K H (.int s) (.int s) := by simp only [Rep]
theorem rep_bl {K : PySem.W.Frag} {H : Hp} (s : Bool) : Rep K H (.bl s) (.bl s) := by simp only [Rep]
theorem rep_non {K : PySem.W.Frag} {H : Hp} : Rep K H .non .non := by simp only [Rep]
theorem rep_tup {K : PySem.W.Frag} {H : Hp} {a : Addr} {ds : List Dat} {vs : List V} (h : H a = some (.tup vs)) (r : RepL K H ds vs) : Rep K H (.tup ds) (.ref a) := by
  simp only [Rep]
  exact ⟨a, vs, rfl, h, r⟩
theorem rep_lst {K : PySem.W.Frag} {H : Hp} {a : Addr} {ds : List Dat} {vs : List V} (h : H a = some (.lst vs)) (r : RepL K H ds vs) : Rep K H (.lst ds) (.ref a) := by
  simp only [Rep]
  exact ⟨a, vs, rfl, h, r⟩
theorem PL.lst (h : PL K H0 H Z p fs) (zd : ZD Z H0) (m : f ∈ fs) : Rep K (hide Z H) (.lst f.ds) (.ref f.l) :=
  rep_lst (hide_of (h.ll f m) (h.zl zd m)) (repL_mono (hide_anti mz_le) _ _ (h.rr f m))
/-- a tuple of the pile, seen whole -/
theorem PL.tup (h : PL K H0 H Z p fs) (zd : ZD Z H0) (m : f ∈ fs) : Rep K (hide Z H) (frD f) (.ref f.t) :=
  rep_tup (hide_of (h.tt f m) (h.zt zd m)) (repL_cons (rep_str _) (repL_cons (h.lst zd m) repL_nil))
theorem repL_all {K : PySem.W.Frag} {H : Hp} {α : Type} {g : α → Dat} {k : α → V} : ∀ {xs : List α}, (∀ x ∈ xs, Rep K H (g x) (k x)) → RepL K H (xs.map g) (xs.map k)
  | [], _ => repL_nil
  | x :: r, h => repL_cons (h x (List.mem_cons_self ..)) (repL_all fun y hy => h y (List.mem_cons_of_mem _ hy))
/-- the pile, seen whole -/
theorem PL.view (h : PL K H0 H Z p fs) (zd : ZD Z H0) : Rep K (hide Z H) (.lst (fs.reverse.map frD)) (.ref p) := by
  refine rep_lst (vs := fs.reverse.map fun f => V.ref f.t) (hide_of ?_ (h.zp zd)) (repL_all fun f hf => h.tup zd (List.mem_reverse.mp hf))
  rw [h.pp, List.map_reverse]
/-- the top list changes -/
theorem PL.set_top (h : PL K H0 H Z p (f :: fs)) {ds : List Dat} {vs : List V} (r : RepL K (hide (MZ Z p (f :: fs)) H) ds vs) : PL K H0 (upd H f.l (.lst vs)) Z p (⟨f.t, f.l, f.m, ds, vs⟩ :: fs) := by
  have mf : f ∈ f :: fs := List.mem_cons_self ..
  have hz : MZ Z p (f :: fs) f.l := .inr (.inr (List.mem_cons_self ..))
  have nd := h.nd
  rw [List.map_cons, List.nodup_cons] at nd
  exact {
    sm := same_upd h.sm (h.nl f mf)
    np := h.np
    pp := by
      rw [upd_ne (Ne.symm (h.lp f mf))]
      exact h.pp
    nl := fun g hg => by
      rcases List.mem_cons.mp hg with rfl | hg
      · exact h.nl f mf
      · exact h.nl g (List.mem_cons_of_mem _ hg)
    nt := fun g hg => by
      rcases List.mem_cons.mp hg with rfl | hg
      · exact h.nt f mf
      · exact h.nt g (List.mem_cons_of_mem _ hg)
    lp := fun g hg => by
      rcases List.mem_cons.mp hg with rfl | hg
      · exact h.lp f mf
      · exact h.lp g (List.mem_cons_of_mem _ hg)
    tt := fun g hg => by
      rcases List.mem_cons.mp hg with rfl | hg
      · rw [upd_ne (h.tnl mf mf)]
        exact h.tt f mf
      · rw [upd_ne (h.tnl (List.mem_cons_of_mem _ hg) mf)]
        exact h.tt g (List.mem_cons_of_mem _ hg)
    ll := fun g hg => by
      rcases List.mem_cons.mp hg with rfl | hg
      · exact upd_same
      · rw [upd_ne (fun e => nd.1 (by rw [← e]; exact List.mem_map_of_mem hg))]
        exact h.ll g (List.mem_cons_of_mem _ hg)
    rr := fun g hg => by
      rcases List.mem_cons.mp hg with rfl | hg
      · exact repL_mono (hide_mut hz) _ _ r
      · exact repL_mono (hide_mut hz) _ _ (h.rr g (List.mem_cons_of_mem _ hg))
    nd := h.nd }
/-- a new top -/
theorem PL.push (h : PL K H0 H Z p fs) (zd : ZD Z H0) {l t : Addr} (m : List Nat) (hl : H l = none) (ht : upd H l (.lst []) t = none) :
    PL K H0 (upd (upd (upd H l (.lst [])) t (.tup [vS m, .ref l])) p (.lst ((fs.map fun f => V.ref f.t).reverse ++ [.ref t]))) Z p (⟨t, l, m, [], []⟩ :: fs) := by
  have ht' : H t = none := by
    cases e : H t with
    | none => rfl
    | some o => rw [same_new hl t o e] at ht; cases ht
  have ltne : t ≠ l := fun e => by rw [e, upd_same] at ht; cases ht
  have pl : p ≠ l := fun e => by rw [← e, h.pp] at hl; cases hl
  have pt : p ≠ t := fun e => by rw [← e, h.pp] at ht'; cases ht'
  have s1 : Same H (upd (upd H l (.lst [])) t (.tup [vS m, .ref l])) := same_trans (same_new hl) (same_new ht)
  have n0 : ∀ a, H a = none → H0 a = none := fun a e => by
    cases e2 : H0 a with
    | none => rfl
    | some o => rw [h.sm a o e2] at e; cases e
  have k := h.same s1
  have old : ∀ g ∈ fs, g.l ≠ l := fun g hg e => by
    have := h.ll g hg
    rw [e, hl] at this
    cases this
  have key : Same (hide (MZ Z p fs) H) (hide (MZ Z p (⟨t, l, m, [], []⟩ :: fs)) (upd (upd (upd H l (.lst [])) t (.tup [vS m, .ref l])) p (.lst ((fs.map fun f => V.ref f.t).reverse ++ [.ref t])))) := by
    intro b o e
    obtain ⟨e1, e2⟩ := hide_some e
    have bl : b ≠ l := fun x => by rw [x, hl] at e1; cases e1
    have bp : b ≠ p := fun x => e2 (.inr (.inl x))
    refine hide_of ?_ ?_
    · rw [upd_ne bp]
      exact s1 b o e1
    · rintro (z | z | z)
      · exact e2 (.inl z)
      · exact bp z
      · rcases List.mem_cons.mp z with z | z
        · exact bl z
        · exact e2 (.inr (.inr z))
  exact {
    sm := same_upd k.sm h.np
    np := h.np
    pp := by
      rw [upd_same, List.map_cons, List.reverse_cons]
    nl := fun g hg => by
      rcases List.mem_cons.mp hg with rfl | hg
      · exact n0 l hl
      · exact h.nl g hg
    nt := fun g hg => by
      rcases List.mem_cons.mp hg with rfl | hg
      · exact n0 t ht'
      · exact h.nt g hg
    lp := fun g hg => by
      rcases List.mem_cons.mp hg with rfl | hg
      · exact pl.symm
      · exact h.lp g hg
    tt := fun g hg => by
      rcases List.mem_cons.mp hg with rfl | hg
      · rw [upd_ne pt.symm]
        exact upd_same
      · rw [upd_ne (h.tne hg)]
        exact k.tt g hg
    ll := fun g hg => by
      rcases List.mem_cons.mp hg with rfl | hg
      · show upd _ p _ l = _
        rw [upd_ne pl.symm, upd_ne ltne.symm]
        exact upd_same
      · rw [upd_ne (h.lp g hg)]
        exact k.ll g hg
    rr := fun g hg => by
      rcases List.mem_cons.mp hg with rfl | hg
      · exact repL_nil
      · exact repL_mono key _ _ (h.rr g hg)
    nd := by
      rw [List.map_cons, List.nodup_cons]
      refine ⟨fun e => ?_, h.nd⟩
      obtain ⟨g, hg, e⟩ := List.mem_map.mp e
      exact old g hg e }
/-- the top goes -/
theorem PL.pop (h : PL K H0 H Z p (f :: fs)) (zd : ZD Z H0) : PL K H0 (upd H p (.lst ((fs.map fun f => V.ref f.t).reverse))) Z p fs ∧
    Rep K (hide (MZ Z p fs) (upd H p (.lst ((fs.map fun f => V.ref f.t).reverse)))) (.lst f.ds) (.ref f.l) ∧ Rep K (hide (MZ Z p fs) (upd H p (.lst ((fs.map fun f => V.ref f.t).reverse)))) (frD f) (.ref f.t) ∧
    upd H p (.lst ((fs.map fun f => V.ref f.t).reverse)) f.t = some (.tup [vS f.m, .ref f.l]) := by
  have mf : f ∈ f :: fs := List.mem_cons_self ..
  have nd := h.nd
  rw [List.map_cons, List.nodup_cons] at nd
  have sub : ∀ a, MZ Z p fs a → MZ Z p (f :: fs) a := by
    rintro a (z | z | z)
    · exact .inl z
    · exact .inr (.inl z)
    · exact .inr (.inr (List.mem_cons_of_mem _ z))
  have key : ∀ o, Same (hide (MZ Z p (f :: fs)) H) (hide (MZ Z p fs) (upd H p o)) := fun o => same_trans (hide_anti sub) (hide_mut (.inr (.inl rfl)))
  have nz : ¬ MZ Z p fs f.l := by
    rintro (z | z | z)
    · exact h.zl zd mf z
    · exact h.lp f mf z
    · exact nd.1 z
  have nz2 : ¬ MZ Z p fs f.t := by
    rintro (z | z | z)
    · exact h.zt zd mf z
    · exact h.tne mf z
    · obtain ⟨g, hg, e⟩ := List.mem_map.mp z
      exact h.tnl mf (List.mem_cons_of_mem _ hg) e.symm
  have hl : Rep K (hide (MZ Z p fs) (upd H p (.lst ((fs.map fun f => V.ref f.t).reverse)))) (.lst f.ds) (.ref f.l) := by
    refine rep_lst (hide_of ?_ nz) (repL_mono (key _) _ _ (h.rr f mf))
    rw [upd_ne (h.lp f mf)]
    exact h.ll f mf
  have ht : upd H p (.lst ((fs.map fun f => V.ref f.t).reverse)) f.t = some (.tup [vS f.m, .ref f.l]) := by
    rw [upd_ne (h.tne mf)]
    exact h.tt f mf
  refine ⟨?_, hl, rep_tup (hide_of ht nz2) (repL_cons (rep_str _) (repL_cons hl repL_nil)), ht⟩
  exact {
    sm := same_upd h.sm h.np
    np := h.np
    pp := upd_same
    nl := fun g hg => h.nl g (List.mem_cons_of_mem _ hg)
    nt := fun g hg => h.nt g (List.mem_cons_of_mem _ hg)
    lp := fun g hg => h.lp g (List.mem_cons_of_mem _ hg)
    tt := fun g hg => by
      rw [upd_ne (h.tne (List.mem_cons_of_mem _ hg))]
      exact h.tt g (List.mem_cons_of_mem _ hg)
    ll := fun g hg => by
      rw [upd_ne (h.lp g (List.mem_cons_of_mem _ hg))]
      exact h.ll g (List.mem_cons_of_mem _ hg)
    rr := fun g hg => repL_mono (key _) _ _ (h.rr g (List.mem_cons_of_mem _ hg))
    nd := nd.2 }
end
end Fw

set_option maxHeartbeats 4000000
namespace Fw
open PySem PySem.Spec PyProof.Rows L2

def bP0 (o g h : Nat) : Sms := (.cons (.ite (.cmp .eq (.idx (.var 0) (.var 1)) (.con (vS [91])))
 (.cons (.ret (.con (vS [91]))) .nil)
 .nil) (.cons (.ite (.and (.cmp .isin (.idx (.var 0) (.var 1)) (.glb g)) (.cmp .eq (.sl (.var 0) (.bin .add (.var 1) (.con (.int 1))) (.bin .add (.var 1) (.con (.int 2)))) (.con (vS [40]))))
 (.cons (.ret (.sl (.var 0) (.var 1) (.bin .add (.var 1) (.con (.int 2))))) .nil)
 .nil) (.cons (.ret (.con (vS []))) .nil)))
def dP0 (o g h : Nat) : FDef := ⟨("opener" : Str), [("row" : Str), ("at" : Str)], 2, bP0 o g h⟩
def bP1 (o g h : Nat) : Sms := (.cons (.asg 3 (.find (.var 0) (.var 2) (.var 1))) (.cons (.ite (.cmp .lt (.var 3) (.con (.int 0)))
 (.cons (.ret (.tup (.cons (.slf (.var 0) (.var 1)) (.cons (.con (.bl false)) .nil)))) .nil)
 .nil) (.cons (.ret (.tup (.cons (.sl (.var 0) (.var 1) (.var 3)) (.cons (.con (.bl true)) .nil)))) .nil)))
def dP1 (o g h : Nat) : FDef := ⟨("up_to" : Str), [("row" : Str), ("at" : Str), ("sign" : Str), ("end" : Str)], 3, bP1 o g h⟩
def bP2 (o g h : Nat) : Sms := (.cons (.ite (.and (.cmp .gt (.len (.var 0)) (.con (.int 0))) (.isi (.idx (.var 0) (.neg (.con (.int 1)))) "str"))
 (.cons (.set (.var 0) (.neg (.con (.int 1))) (.bin .add (.idx (.var 0) (.neg (.con (.int 1)))) (.var 1))) .nil)
 (.cons (.ex (.app (.var 0) (.var 1))) .nil)) .nil)
def dP2 (o g h : Nat) : FDef := ⟨("add_plain" : Str), [("parts" : Str), ("sign" : Str)], 2, bP2 o g h⟩
def bP3 (o g h : Nat) : Sms := (.cons (.asg 3 (.pop (.var 0))) (.cons (.ite (.cmp .eq (.idx (.var 3) (.con (.int 0))) (.con (vS [91])))
 (.cons (.ex (.app (.idx (.idx (.var 0) (.neg (.con (.int 1)))) (.con (.int 1))) (.tup (.cons (.con (vS [108, 105, 110, 107])) (.cons (.idx (.var 3) (.con (.int 1))) (.cons (.var 1) (.cons (.var 2) .nil))))))) .nil)
 (.cons (.ex (.app (.idx (.idx (.var 0) (.neg (.con (.int 1)))) (.con (.int 1))) (.tup (.cons (.con (vS [115, 112, 97, 110])) (.cons (.idx (.idx (.var 3) (.con (.int 0))) (.con (.int 0))) (.cons (.idx (.var 3) (.con (.int 1))) (.cons (.var 2) .nil))))))) .nil)) .nil))
def dP3 (o g h : Nat) : FDef := ⟨("end_top" : Str), [("pile" : Str), ("target" : Str), ("closed" : Str), ("top" : Str)], 3, bP3 o g h⟩
def bP4 (o g h : Nat) : Sms := (.cons (.ite (.cmp .ne (.sl (.var 0) (.bin .add (.var 1) (.con (.int 1))) (.bin .add (.var 1) (.con (.int 2)))) (.con (vS [40])))
 (.cons (.ex (.call (o + 3) (.cons (.var 2) (.cons (.con .non) (.cons (.con (.bl true)) .nil))))) (.cons (.ret (.bin .add (.var 1) (.con (.int 1)))) .nil))
 .nil) (.cons (.asg 3 (.call (o + 1) (.cons (.var 0) (.cons (.bin .add (.var 1) (.con (.int 2))) (.cons (.con (vS [41])) .nil))))) (.cons (.ex (.call (o + 3) (.cons (.var 2) (.cons (.idx (.var 3) (.con (.int 0))) (.cons (.idx (.var 3) (.con (.int 1))) .nil))))) (.cons (.ret (.bin .add (.bin .add (.bin .add (.var 1) (.con (.int 2))) (.len (.idx (.var 3) (.con (.int 0))))) (.int (.idx (.var 3) (.con (.int 1)))))) .nil))))
def dP4 (o g h : Nat) : FDef := ⟨("end_label" : Str), [("row" : Str), ("at" : Str), ("pile" : Str), ("target" : Str)], 3, bP4 o g h⟩
def bP5 (o g h : Nat) : Sms := (.cons (.asg 3 (.idx (.var 0) (.var 1))) (.cons (.asg 4 (.idx (.var 2) (.neg (.con (.int 1))))) (.cons (.ite (.cmp .eq (.var 3) (.con (vS [92])))
 (.cons (.ex (.app (.idx (.var 4) (.con (.int 1))) (.tup (.cons (.con (vS [107, 101, 112, 116])) (.cons (.sl (.var 0) (.bin .add (.var 1) (.con (.int 1))) (.bin .add (.var 1) (.con (.int 2)))) .nil))))) (.cons (.ret (.bin .add (.var 1) (.con (.int 2)))) .nil))
 .nil) (.cons (.ite (.cmp .eq (.var 3) (.con (vS [96])))
 (.cons (.asg 6 (.call (o + 1) (.cons (.var 0) (.cons (.bin .add (.var 1) (.con (.int 1))) (.cons (.con (vS [96])) .nil))))) (.cons (.ex (.app (.idx (.var 4) (.con (.int 1))) (.tup (.cons (.con (vS [99, 111, 100, 101])) (.cons (.idx (.var 6) (.con (.int 0))) (.cons (.idx (.var 6) (.con (.int 1))) .nil)))))) (.cons (.ret (.bin .add (.bin .add (.bin .add (.var 1) (.con (.int 1))) (.len (.idx (.var 6) (.con (.int 0))))) (.int (.idx (.var 6) (.con (.int 1)))))) .nil)))
 .nil) (.cons (.asg 5 (.call (o + 0) (.cons (.var 0) (.cons (.var 1) .nil)))) (.cons (.ite (.and (.cmp .ne (.var 5) (.con (vS []))) (.cmp .le (.len (.var 2)) (.glb h)))
 (.cons (.ex (.app (.var 2) (.tup (.cons (.var 5) (.cons (.lst .nil) .nil))))) (.cons (.ret (.bin .add (.var 1) (.len (.var 5)))) .nil))
 .nil) (.cons (.ite (.and (.cmp .eq (.var 3) (.con (vS [41]))) (.cmp .eq (.len (.idx (.var 4) (.con (.int 0)))) (.con (.int 2))))
 (.cons (.ex (.call (o + 3) (.cons (.var 2) (.cons (.con .non) (.cons (.con (.bl true)) .nil))))) (.cons (.ret (.bin .add (.var 1) (.con (.int 1)))) .nil))
 .nil) (.cons (.ite (.and (.cmp .eq (.var 3) (.con (vS [93]))) (.cmp .eq (.idx (.var 4) (.con (.int 0))) (.con (vS [91]))))
 (.cons (.ret (.call (o + 4) (.cons (.var 0) (.cons (.var 1) (.cons (.var 2) .nil))))) .nil)
 .nil) (.cons (.ex (.call (o + 2) (.cons (.idx (.var 4) (.con (.int 1))) (.cons (.var 3) .nil)))) (.cons (.ret (.bin .add (.var 1) (.con (.int 1)))) .nil))))))))))
def dP5 (o g h : Nat) : FDef := ⟨("take" : Str), [("row" : Str), ("at" : Str), ("pile" : Str), ("sign" : Str), ("top" : Str), ("mark" : Str), ("code" : Str)], 3, bP5 o g h⟩
def bP6 (o g h : Nat) : Sms := (.cons (.asg 1 (.lst (.cons (.tup (.cons (.con (vS [])) (.cons (.lst .nil) .nil))) .nil))) (.cons (.asg 2 (.con (.int 0))) (.cons (.whl (.cmp .lt (.var 2) (.len (.var 0)))
 (.cons (.asg 2 (.call (o + 5) (.cons (.var 0) (.cons (.var 2) (.cons (.var 1) .nil))))) .nil)) (.cons (.whl (.cmp .gt (.len (.var 1)) (.con (.int 1)))
 (.cons (.ex (.call (o + 3) (.cons (.var 1) (.cons (.con .non) (.cons (.con (.bl false)) .nil))))) .nil)) (.cons (.ret (.idx (.idx (.var 1) (.con (.int 0))) (.con (.int 1)))) .nil)))))
def dP6 (o g h : Nat) : FDef := ⟨("parts_of" : Str), [("row" : Str), ("pile" : Str), ("at" : Str)], 1, bP6 o g h⟩
structure PT (T : Tbl) (io : Nat → Bool) (o g h : Nat) : Prop where
  f0 : T.fns[o + 0]? = some (dP0 o g h)
  f1 : T.fns[o + 1]? = some (dP1 o g h)
  f2 : T.fns[o + 2]? = some (dP2 o g h)
  f3 : T.fns[o + 3]? = some (dP3 o g h)
  f4 : T.fns[o + 4]? = some (dP4 o g h)
  f5 : T.fns[o + 5]? = some (dP5 o g h)
  f6 : T.fns[o + 6]? = some (dP6 o g h)
  g0 : glbV T g = .ok (.str [42, 95, 126])
  g1 : glbV T h = .ok (.int 12)
  i0 : io (o + 0) = false
  i1 : io (o + 1) = false
def X0 : Exn := fun _ => none
/-! ### plain: what the parts are -/
def openD : List Nat → List Nat
  | [] => []
  | c :: r => if c = 91 then [91] else if (c = 42 ∨ c = 95 ∨ c = 126) ∧ r.head? = some 40 then [c, 40] else []
def upTo (c : Nat) (s : List Nat) : List Nat × Bool := match idxC c s with
  | some k => (s.take k, true)
  | none => (s, false)
abbrev Pile := List (List Nat × List Dat)
def addP (ds : List Dat) (c : List Nat) : List Dat := match ds.getLast? with
  | some (.str a) => ds.dropLast ++ [.str (a ++ c)]
  | _ => ds ++ [.str c]
def endPart (m : List Nat) (ds : List Dat) (tg : Dat) (b : Bool) : Dat :=
  if m = [91] then .tup [.str [108, 105, 110, 107], .lst ds, tg, .bl b] else .tup [.str [115, 112, 97, 110], .str (m.take 1), .lst ds, .bl b]
def endTop (tg : Dat) (b : Bool) : Pile → Pile
  | (m, ds) :: (m2, ds2) :: r => (m2, ds2 ++ [endPart m ds tg b]) :: r
  | pl => pl
def pushTop (d : Dat) : Pile → Pile
  | (m, ds) :: r => (m, ds ++ [d]) :: r
  | [] => []
def addTop (c : List Nat) : Pile → Pile
  | (m, ds) :: r => (m, addP ds c) :: r
  | [] => []
def topMark : Pile → List Nat
  | (m, _) :: _ => m
  | [] => []
/-- a step: what is left, the pile -/
def stepP (c : Nat) (r : List Nat) (pl : Pile) : List Nat × Pile :=
  if c = 92 then (r.drop 1, pushTop (.tup [.str [107, 101, 112, 116], .str (r.take 1)]) pl)
  else if c = 96 then (r.drop ((upTo 96 r).1.length + (upTo 96 r).2.toNat), pushTop (.tup [.str [99, 111, 100, 101], .str (upTo 96 r).1, .bl (upTo 96 r).2]) pl)
  else if openD (c :: r) ≠ [] ∧ pl.length ≤ 12 then (r.drop ((openD (c :: r)).length - 1), (openD (c :: r), []) :: pl)
  else if c = 41 ∧ (topMark pl).length = 2 then (r, endTop .non true pl)
  else if c = 93 ∧ topMark pl = [91] then
    (if r.head? = some 40 then (r.drop (1 + (upTo 41 (r.drop 1)).1.length + (upTo 41 (r.drop 1)).2.toNat), endTop (.str (upTo 41 (r.drop 1)).1) (upTo 41 (r.drop 1)).2 pl)
    else (r, endTop .non true pl))
  else (r, addTop [c] pl)
def runP : Nat → List Nat → Pile → Pile
  | _, [], pl => pl
  | 0, _, pl => pl
  | n + 1, c :: r, pl => runP n (stepP c r pl).1 (stepP c r pl).2
def closeR (m : List Nat) (ds : List Dat) : Pile → List Dat
  | [] => ds
  | (m2, ds2) :: r => closeR m2 (ds2 ++ [endPart m ds .non false]) r
def closeP : Pile → List Dat
  | [] => []
  | (m, ds) :: r => closeR m ds r
def partsP (row : List Nat) : List Dat := closeP (runP row.length row [([], [])])
section
variable {K : PySem.W.Frag} {T : Tbl} {cv : Nat → Value} {io : Nat → Bool} {o g h : Nat}
theorem ext0 : ExtOk K T cv io X0 := fun f lv g e => by cases e
theorem fns0 (n : Nat) : FnsOk K cv io (wpF K T cv n) (callD T io X0 1000 n) := (callD_ok ext0 n).1
theorem call_at {f : Nat} {d : FDef} (hf : T.fns[f]? = some d) (hio : io f = false) (n : Nat) (ds : List Dat) (hl : ds.length = d.np) : callD T io X0 1000 (n + 1) f ds = outD false (exDs T io (callD T io X0 1000 n) 1000 false d.body (startD d.N.length false ds)) := by
  rw [callD]
  simp only [X0, hf, hio, decide_eq_true hl]
  rfl
/-- an expression that changes nothing -/
theorem tE_of {n : Nat} {e : Ex} {W : WX} {σ : L2.St} {H : Hp} {ρ : DS} {Z : Addr → Prop} {Q : VK} (d : Dat) (zd : ZD Z H) (E : EnvOk K Z H (ment e) (vals ρ) σ) (h : evD T io (callD T io X0 1000 n) e (vals ρ) = .ok d) (q : ∀ v H', Same H H' → Rep K (hide Z H') d v → Q v H') : tE K T (wpF K T cv n) W e σ H Q := by
  refine evP (fns0 (io := io) n) e W σ H (vals ρ) Z Q zd E ?_
  rw [h]
  exact q
theorem wp_at {f : Nat} {d : FDef} (hf : T.fns[f]? = some d) {n : Nat} {vs : List V} {H : Hp} {Q : VK} {E : XK} (hl : vs.length = d.np) (k : tSs K T (wpF K T cv n) (fun c x _ H => E c x H) cv d.body { nx := fun _ H' => Q .non H', rt := Q } (L2.start d.N vs) H) : wpF K T cv (n + 1) f vs H Q E := by
  rw [wpF]
  simp only [hf]
  exact ⟨hl, k⟩
theorem c_opener (P : PT T io o g h) (n : Nat) (row : List Nat) (at_ : Nat) (hl : row.length ≤ 16777216) (ha : at_ < row.length) : callD T io X0 1000 (n + 1) (o + 0) [.str row, .int at_] = .ok (.str (openD (row.drop at_)), []) := by
  rw [call_at P.f0 P.i0 n _ rfl]
  show outD false (exDs T io (callD T io X0 1000 n) 1000 false (bP0 o g h) [some (.str row, false), some (.int at_, false)]) = _
  obtain ⟨c, r, e⟩ : ∃ c r, row.drop at_ = c :: r := by
    cases e : row.drop at_ with
    | nil => have := List.drop_eq_nil_iff.mp e; omega
    | cons c r => exact ⟨c, r, rfl⟩
  have h0 : row[at_]? = some c := by
    have := congrArg (fun l => l[0]?) e
    simpa using this
  have h1 : row.drop (at_ + 1) = r := by
    have := congrArg (fun l => l.drop 1) e
    simpa using this
  have h2 : cutL row (some ((at_ : Int) + 1)) (some ((at_ : Int) + 2)) = r.take 1 := by
    rw [cut_mid (by omega) (by omega), show ((at_ : Int) + 1).toNat = at_ + 1 by omega, h1, show ((at_ : Int) + 2).toNat - (at_ + 1) = 1 by omega]
  have h3 : cutL row (some (at_ : Int)) (some ((at_ : Int) + 2)) = (c :: r).take 2 := by
    rw [cut_mid (by omega) (by omega), show (at_ : Int).toNat = at_ by omega, e, show ((at_ : Int) + 2).toNat - at_ = 2 by omega]
  have h4 : idxD (.str row) (.int at_) = .ok (.str [c]) := by
    rw [Fw.ix_str _ _ hl, Fw.at_pos (by omega), show (at_ : Int).toNat = at_ by omega, h0]
    rfl
  unfold bP0
  rw [e]
  simp (disch := first | omega | (simp only [List.length_cons, List.length_nil]; omega)) [P.g0, h4, h2, h3, -cut_mid]
  have h5 : (isSub [c] [42, 95, 126] = true ∧ List.take 1 r = [40]) ↔ ((c = 42 ∨ c = 95 ∨ c = 126) ∧ r.head? = some 40) := by
    rw [List.take_one, toList_eq]
    refine and_congr_left' ?_
    simp [isSub, preL]
    omega
  have h6 : List.take 1 r = [40] → Rs.ok (Dat.str (c :: List.take 1 r), ([] : List Dat)) = Rs.ok (Dat.str [c, 40], []) := fun e => by rw [e]
  rw [show openD (c :: r) = if c = 91 then [91] else if (c = 42 ∨ c = 95 ∨ c = 126) ∧ r.head? = some 40 then [c, 40] else [] from rfl]
  by_cases e1 : c = 91
  · rw [if_pos e1, if_pos e1]
  · rw [if_neg e1, if_neg e1]
    by_cases e2 : isSub [c] [42, 95, 126] = true ∧ List.take 1 r = [40]
    · rw [if_pos e2, if_pos (h5.mp e2), h6 e2.2]
    · rw [if_neg e2, if_neg (fun x => e2 (h5.mpr x))]
theorem c_upto (P : PT T io o g h) (n : Nat) (row : List Nat) (at_ : Int) (c : Nat) (hl : row.length ≤ 16777216) (h0 : 0 ≤ at_) (ha : at_ ≤ row.length) : callD T io X0 1000 (n + 1) (o + 1) [.str row, .int at_, .str [c]] = .ok (.tup [.str (upTo c (row.drop at_.toNat)).1, .bl (upTo c (row.drop at_.toNat)).2], []) := by
  rw [call_at P.f1 P.i1 n _ rfl]
  show outD false (exDs T io (callD T io X0 1000 n) 1000 false (bP1 o g h) [some (.str row, false), some (.int at_, false), some (.str [c], false), none]) = _
  unfold bP1 upTo
  cases e : idxC c (row.drop at_.toNat) with
  | none =>
    have e2 : findC c row at_.toNat = -1 := by
      unfold findC
      rw [e]
    simp (disch := first | omega | (simp only [List.length_cons, List.length_nil]; omega)) [e2]
  | some k =>
    have e2 : findC c row at_.toNat = ((at_.toNat + k : Nat) : Int) := by
      unfold findC
      rw [e]
    have e3 : ¬ (((at_.toNat + k : Nat) : Int) < 0) := by omega
    have e4 : cutL row (some at_) (some ((at_.toNat + k : Nat) : Int)) = (row.drop at_.toNat).take k := by
      rw [cut_mid h0 (by omega), Int.toNat_natCast, Nat.add_sub_cancel_left]
    simp (disch := first | omega | (simp only [List.length_cons, List.length_nil]; omega)) [e2, e3, e4, -cut_mid, -Int.natCast_add]
/-- slots, one by one -/
theorem env_nil {K : PySem.W.Frag} {Z : Addr → Prop} {H : Hp} {m : Nat → Bool} {σ : L2.St} : EnvOk K Z H m (vals []) σ := ⟨Nat.zero_le _, fun i d _ e => by cases i <;> cases e⟩
theorem env_c {K : PySem.W.Frag} {Z : Addr → Prop} {H : Hp} {m : Nat → Bool} {σ : L2.St} {ρ : DS} {d : Dat} {b : Bool} {v : V} (h : Rep K (hide Z H) d v) (E : EnvOk K Z H (fun k => m (k + 1)) (vals ρ) σ) : EnvOk K Z H m (vals (some (d, b) :: ρ)) (some v :: σ) :=
  ⟨Nat.succ_le_succ E.1, fun i d' hm e => match i, hm, e with
    | 0, _, e => by
      cases e
      exact ⟨v, rfl, h⟩
    | i + 1, hm, e => E.2 i d' hm e⟩
theorem env_n {K : PySem.W.Frag} {Z : Addr → Prop} {H : Hp} {m : Nat → Bool} {σ : L2.St} {ρ : DS} {x : Option V} (E : EnvOk K Z H (fun k => m (k + 1)) (vals ρ) σ) : EnvOk K Z H m (vals (none :: ρ)) (x :: σ) :=
  ⟨Nat.succ_le_succ E.1, fun i d' hm e => match i, hm, e with
    | 0, _, e => by cases e
    | i + 1, hm, e => E.2 i d' hm e⟩
theorem tyl {K : PySem.W.Frag} {H : Hp} {l : Addr} {vs : List V} (h : H l = some (.lst vs)) : tyV K "list" (.ref l) H := .inl ⟨rfl, vs, .inl (.inl h)⟩
theorem dropLast_set {α : Type} (xs : List α) (v : α) (h : xs ≠ []) : xs.set (xs.length - 1) v = xs.dropLast ++ [v] := by
  obtain ⟨ys, y, rfl⟩ : ∃ ys y, xs = ys ++ [y] := ⟨xs.dropLast, xs.getLast h, (List.dropLast_concat_getLast h).symm⟩
  simp
theorem repL_init {K : PySem.W.Frag} {H : Hp} {ds : List Dat} {vs : List V} (h : RepL K H ds vs) : RepL K H ds.dropLast vs.dropLast := by
  rw [List.dropLast_eq_take, List.dropLast_eq_take, repL_len h]
  exact repL_take _ h
theorem w_add {cv : Nat → Value} (P : PT T io o g h) (n : Nat) {l : Addr} {vs : List V} {ds : List Dat} {Z Zl : Addr → Prop} {H : Hp} {Q : VK} {E : XK} {c : Nat} (zd : ZD Z H) (sub : ∀ a, Z a → Zl a) (nz : ¬ Z l) (hl : H l = some (.lst vs)) (r : RepL K (hide Zl H) ds vs) (b1 : ds.length < 16777216) (b2 : ∀ a, ds.getLast? = some (.str a) → a.length < 16777216)
    (q : ∀ H1 vs', Same H H1 → RepL K (hide Zl H1) (addP ds [c]) vs' → Q .non (upd H1 l (.lst vs'))) : wpF K T cv (n + 1) (o + 2) [.ref l, vS [c]] H Q E := by
  refine wp_at P.f2 rfl ?_
  show tSs K T (wpF K T cv n) _ cv (bP2 o g h) _ [some (.ref l), some (vS [c])] H
  unfold bP2
  simp only [tSs, tS, tSeq, tNext, tIfS, tB]
  have E0 : ∀ {H' : Hp} {m : Nat → Bool}, Same H H' → EnvOk K Z H' m (vals [some (.lst ds, false), some (.str [c], false)]) [some (.ref l), some (vS [c])] := fun s => env_c (rep_lst (hide_of (s _ _ hl) nz) (repL_mono (same_trans (hide_anti sub) (hide_same s)) _ _ r)) (env_c (rep_str _) env_nil)
  have app : ∀ H1, Same H H1 → addP ds [c] = ds ++ [.str [c]] → tDrop (tE K T (wpF K T cv n) (fun c x _ H => E c x H) (.app (.var 0) (.var 1))) { nx := fun _ H' => Q .non H', rt := Q } [some (.ref l), some (vS [c])] H1 := by
    intro H1 s e
    refine ⟨_, rfl, tyl (s _ _ hl), ?_⟩
    refine ⟨_, rfl, ?_⟩
    refine ⟨l, vs, _, rfl, rfl, s _ _ hl, by rw [repL_len r]; exact b1, ?_⟩
    refine q H1 _ s ?_
    rw [e]
    exact repL_app (repL_mono (hide_same s) _ _ r) (repL_cons (rep_str _) repL_nil)
  have put : ∀ (a : List Nat), ds.getLast? = some (.str a) → ∀ H1, Same H H1 → tAsg (tE K T (wpF K T cv n) (fun c x _ H => E c x H) (.bin .add (.idx (.var 0) (.neg (.con (.int 1)))) (.var 1))) (gSub (tE K T (wpF K T cv n) (fun c x _ H => E c x H) (.var 0)) (tE K T (wpF K T cv n) (fun c x _ H => E c x H) (.neg (.con (.int 1)))) rSetL) { nx := fun _ H' => Q .non H', rt := Q } [some (.ref l), some (vS [c])] H1 := by
    intro a ha H1 s
    have hne : ds ≠ [] := by
      rintro rfl
      cases ha
    have hv : vs ≠ [] := by
      intro e
      have := repL_len r
      rw [e] at this
      exact hne (List.eq_nil_of_length_eq_zero this.symm)
    have e1 : ds[ds.length - 1]? = some (.str a) := by rw [← List.getLast?_eq_getElem?]; exact ha
    refine tE_of (io := io) (Z := Z) (.str (a ++ [c])) (zd.same s) (E0 s) ?_ ?_
    · have := b2 a ha
      simp (disch := first | omega | (simp only [List.length_cons, List.length_nil]; omega)) [Fw.at_last, e1]
    · intro v H2 s2 rv
      simp only [Rep] at rv
      subst rv
      have hl2 : H2 l = some (.lst vs) := s2 _ _ (s _ _ hl)
      refine ⟨_, rfl, ?_⟩
      refine ⟨1, rfl, ?_⟩
      refine ⟨l, vs, -1, vs.length - 1, rfl, rfl, hl2, ?_, ?_⟩
      · have : 0 < vs.length := List.length_pos_iff.mpr hv
        unfold ixN
        rw [if_neg (by omega), if_pos (by omega)]
        congr 1
        omega
      · refine q H2 _ (same_trans s s2) ?_
        rw [dropLast_set _ _ hv]
        unfold addP
        rw [ha]
        exact repL_app (repL_init (repL_mono (hide_same (same_trans s s2)) _ _ r)) (repL_cons (rep_str _) repL_nil)
  rcases List.eq_nil_or_concat ds with e | ⟨ds', d, e⟩
  · refine tE_of (io := io) (Z := Z) (.bl false) zd (E0 fun _ _ h => h) ?_ ?_
    · rw [e]
      simp (disch := first | omega | (simp only [List.length_cons, List.length_nil]; omega))
    · intro v H1 s rv
      simp only [Rep] at rv
      subst rv
      refine ⟨_, rfl, app H1 s ?_⟩
      rw [e]
      rfl
  · have hlast : ds.getLast? = some d := by rw [e]; simp
    have e1 : ds[ds.length - 1]? = some d := by rw [← List.getLast?_eq_getElem?]; exact hlast
    have hp : 0 < ds.length := by rw [e]; simp
    have hev : ∀ b, isiR "str" d = .ok (.bl b) → evD T io (callD T io X0 1000 n) (.and (.cmp .gt (.len (.var 0)) (.con (.int 0))) (.isi (.idx (.var 0) (.neg (.con (.int 1)))) "str")) (vals [some (.lst ds, false), some (.str [c], false)]) = .ok (.bl b) := by
      intro b hb
      simp (disch := first | omega | (simp only [List.length_cons, List.length_nil]; omega)) [Fw.at_last]
      rw [decide_eq_true hp, (List.getElem?_eq_some_iff.mp e1).2, hb]
      rfl
    cases hd : d with
    | str a =>
      rw [hd] at hlast hev
      refine tE_of (io := io) (Z := Z) (.bl true) zd (E0 fun _ _ h => h) (hev _ (isi_str_str a)) ?_
      intro v H1 s rv
      simp only [Rep] at rv
      subst rv
      exact ⟨_, rfl, put a hlast H1 s⟩
    | _ =>
      rw [hd] at hlast hev
      refine tE_of (io := io) (Z := Z) (.bl false) zd (E0 fun _ _ h => h) (hev _ (by simp)) ?_
      intro v H1 s rv
      simp only [Rep] at rv
      subst rv
      refine ⟨_, rfl, app H1 s ?_⟩
      unfold addP
      rw [hlast]
abbrev absF (fs : List Frm) : Pile := fs.map fun f => (f.m, f.ds)
theorem last_rev {α β : Type} (g : α → β) (x : α) (xs : List α) : (((x :: xs).map g).reverse)[((x :: xs).map g).reverse.length - 1]? = some (g x) := by
  simp
theorem pop_rev {α β : Type} (g : α → β) (x : α) (xs : List α) : ((x :: xs).map g).reverse.dropLast = (xs.map g).reverse := by
  simp
/-- pile[-1] -/
theorem r_top {H0 H : Hp} {Z : Addr → Prop} {p : Addr} {f : Frm} {fs : List Frm} {Q : VK} (L : PL K H0 H Z p (f :: fs)) (q : Q (.ref f.t) H) : rIx K (.ref p) (.int (-1)) H Q :=
  .inl ⟨p, _, -1, _, rfl, rfl, .inl (.inl L.pp), by rw [Fw.at_last]; exact last_rev _ _ _, q⟩
theorem r_t1 {H : Hp} {t : Addr} {x y : V} {Q : VK} (ht : H t = some (.tup [x, y])) (q : Q y H) : rIx K (.ref t) (.int 1) H Q :=
  .inr (.inl ⟨t, _, 1, y, rfl, rfl, .inl (.inl ht), rfl, q⟩)
theorem r_t0 {H : Hp} {t : Addr} {x y : V} {Q : VK} (ht : H t = some (.tup [x, y])) (q : Q x H) : rIx K (.ref t) (.int 0) H Q :=
  .inr (.inl ⟨t, _, 0, x, rfl, rfl, .inl (.inl ht), rfl, q⟩)
theorem w_end {cv : Nat → Value} (P : PT T io o g h) (n : Nat) {H0 H : Hp} {Z : Addr → Prop} {p : Addr} {f f2 : Frm} {fs : List Frm} {tg : Dat} {vt : V} {b : Bool} {Q : VK} {E : XK} (zd : ZD Z H0) (L : PL K H0 H Z p (f :: f2 :: fs)) (rt : Rep K (hide (MZ Z p (f :: f2 :: fs)) H) tg vt) (hm : f.m ≠ []) (b1 : f.m.length ≤ 16777216) (b2 : f2.ds.length < 16777216)
    (q : ∀ H1 fs', PL K H0 H1 Z p fs' → absF fs' = endTop tg b (absF (f :: f2 :: fs)) → Same (hide (MZ Z p (f :: f2 :: fs)) H) H1 → Q .non H1) : wpF K T cv (n + 1) (o + 3) [.ref p, vt, .bl b] H Q E := by
  refine wp_at P.f3 rfl ?_
  show tSs K T (wpF K T cv n) _ cv (bP3 o g h) _ [some (.ref p), some vt, some (.bl b), none] H
  unfold bP3
  simp only [tSs, tS, tSeq, tNext, tIfS, tB]
  obtain ⟨L1, _, rT, hT⟩ := L.pop zd
  refine ⟨_, rfl, tyl L.pp, p, _, _, rfl, rfl, L.pp, last_rev _ _ _, ?_⟩
  rw [pop_rev]
  generalize hH : upd H p (.lst (((f2 :: fs).map fun f => V.ref f.t).reverse)) = Ha at *
  show tE K T (wpF K T cv n) _ _ [some (.ref p), some vt, some (.bl b), some (.ref f.t)] Ha _
  have sub : ∀ a, MZ Z p (f2 :: fs) a → MZ Z p (f :: f2 :: fs) a := by
    rintro a (z | z | z)
    · exact .inl z
    · exact .inr (.inl z)
    · exact .inr (.inr (List.mem_cons_of_mem _ z))
  have rt1 : Rep K (hide (MZ Z p (f2 :: fs)) Ha) tg vt := by
    refine rep_mono ?_ _ _ rt
    rw [← hH]
    exact same_trans (hide_anti sub) (hide_mut (.inr (.inl rfl)))
  have rl1 : Rep K (hide (MZ Z p (f2 :: fs)) Ha) (.lst f.ds) (.ref f.l) := by
    rw [← hH]
    rw [← hH] at rT
    exact (L.pop zd).2.1
  refine tE_of (io := io) (Z := MZ Z p (f2 :: fs)) (ρ := [none, none, none, some (frD f, false)]) (.bl (decide (f.m = [91]))) (L1.mz zd) (env_n (env_n (env_n (env_c rT env_nil)))) ?_ ?_
  · simp (disch := first | omega | (simp only [List.length_cons, List.length_nil]; omega)) [lookD, frD]
  intro v H2 s2 rv
  simp only [Rep] at rv
  subst rv
  refine ⟨_, rfl, ?_⟩
  show (if decide (f.m = [91]) = true then _ else _)
  have L2 := L1.same s2
  have fin : ∀ (H3 : Hp) (q3 : Addr) (xs : List V) (es : List Dat), Same H2 H3 → H3 q3 = none → RepL K (hide (MZ Z p (f2 :: fs)) H3) es xs → endPart f.m f.ds tg b = .tup es → ∀ {Q' : VK}, (∀ H', PL K H0 H' Z p (⟨f2.t, f2.l, f2.m, f2.ds ++ [endPart f.m f.ds tg b], f2.vs ++ [.ref q3]⟩ :: fs) → Same (hide (MZ Z p (f :: f2 :: fs)) H) H' → Q' .non H') → rAppend (.ref f2.l) [.ref q3] (upd H3 q3 (.tup xs)) Q' := by
    intro H3 q3 xs es s3 hn r e Q' k
    have L3 := (L2.same s3).same (same_new hn (o := .tup xs))
    have mf2 : f2 ∈ f2 :: fs := List.mem_cons_self ..
    have nz : ¬ MZ Z p (f2 :: fs) q3 := (((L2.same s3).mz zd).new hn)
    refine ⟨f2.l, f2.vs, _, rfl, rfl, L3.ll f2 mf2, by rw [repL_len (L3.rr f2 mf2)]; exact b2, k _ (L3.set_top ?_) ?_⟩
    · refine repL_app (L3.rr f2 mf2) (repL_cons ?_ repL_nil)
      rw [e]
      exact rep_tup (hide_of upd_same nz) (repL_mono (hide_same (same_new hn)) _ _ r)
    · intro x o hx
      obtain ⟨h1, h2⟩ := hide_some hx
      have n1 : x ≠ f2.l := fun hh => h2 (.inr (.inr (List.mem_cons_of_mem _ (by rw [hh]; exact List.mem_cons_self ..))))
      have n2 : x ≠ p := fun hh => h2 (.inr (.inl hh))
      rw [upd_ne n1]
      refine same_new hn x o (s3 x o (s2 x o ?_))
      rw [← hH, upd_ne n2]
      exact h1
  by_cases e : f.m = [91]
  · rw [decide_eq_true e, if_pos rfl]
    refine ⟨.ref p, rfl, ⟨1, rfl, r_top L2 (r_t1 (L2.tt f2 (List.mem_cons_self ..)) ⟨tyl (L2.ll f2 (List.mem_cons_self ..)), ?_⟩)⟩⟩
    refine ⟨.ref f.t, rfl, r_t1 (s2 _ _ hT) ⟨vt, rfl, .bl b, rfl, by simp [sizeLine], fun q3 hq => ?_⟩⟩
    refine fin H2 q3 _ [.str [108, 105, 110, 107], .lst f.ds, tg, .bl b] (fun _ _ h => h) hq ?_ ?_ fun H' L' fr => q _ _ L' ?_ fr
    · exact repL_cons (rep_str _) (repL_cons (rep_mono (hide_same s2) _ _ rl1) (repL_cons (rep_mono (hide_same s2) _ _ rt1) (repL_cons (rep_bl _) repL_nil)))
    · unfold endPart
      rw [if_pos e]
    · rfl
  · rw [decide_eq_false e, if_neg Bool.false_ne_true]
    obtain ⟨c, m', hc⟩ : ∃ c m', f.m = c :: m' := by
      cases hh : f.m with
      | nil => exact absurd hh hm
      | cons c m' => exact ⟨c, m', rfl⟩
    refine ⟨.ref p, rfl, ⟨1, rfl, r_top L2 (r_t1 (L2.tt f2 (List.mem_cons_self ..)) ⟨tyl (L2.ll f2 (List.mem_cons_self ..)), ?_⟩)⟩⟩
    refine ⟨.ref f.t, rfl, r_t0 (s2 _ _ hT) ?_⟩
    refine .inr (.inr ⟨_, 0, c, rfl, rfl, by rw [vS_len]; exact b1, by rw [hc, Fw.at_pos (by omega)]; simp, ?_⟩)
    refine ⟨.ref f.t, rfl, r_t1 (s2 _ _ hT) ⟨.bl b, rfl, by simp [sizeLine], fun q3 hq => ?_⟩⟩
    refine fin H2 q3 _ [.str [115, 112, 97, 110], .str [c], .lst f.ds, .bl b] (fun _ _ h => h) hq ?_ ?_ fun H' L' fr => q _ _ L' ?_ fr
    · exact repL_cons (rep_str _) (repL_cons (rep_str [c]) (repL_cons (rep_mono (hide_same s2) _ _ rl1) (repL_cons (rep_bl _) repL_nil)))
    · unfold endPart
      rw [if_neg e, hc]
      rfl
    · rfl
/-! ### statements, one by one -/
section
variable {cv : Nat → Value} {n : Nat} {W : WX} {D : Ends} {σ : L2.St} {H : Hp} {ρ : DS} {Z : Addr → Prop}
theorem s_seq {s : Sm} {r : Sms} (h : tS K T (wpF K T cv n) W cv s { D with nx := tSs K T (wpF K T cv n) W cv r D } σ H) : tSs K T (wpF K T cv n) W cv (.cons s r) D σ H := by
  simp only [tSs]
  exact h
theorem s_nil (h : D.nx σ H) : tSs K T (wpF K T cv n) W cv .nil D σ H := by
  simp only [tSs]
  exact h
theorem s_ifT {c : Ex} {a b : Sms} (io : Nat → Bool) (zd : ZD Z H) (E : EnvOk K Z H (ment c) (vals ρ) σ) (h : evD T io (callD T io X0 1000 n) c (vals ρ) = .ok (.bl true)) (k : ∀ H1, Same H H1 → tSs K T (wpF K T cv n) W cv a D σ H1) : tS K T (wpF K T cv n) W cv (.ite c a b) D σ H := by
  simp only [tS]
  refine tE_of (io := io) (.bl true) zd E h fun v H1 s r => ?_
  simp only [Rep] at r
  subst r
  refine ⟨_, rfl, ?_⟩
  show (if true = true then _ else _)
  rw [if_pos rfl]
  exact k H1 s
theorem s_ifF {c : Ex} {a b : Sms} (io : Nat → Bool) (zd : ZD Z H) (E : EnvOk K Z H (ment c) (vals ρ) σ) (h : evD T io (callD T io X0 1000 n) c (vals ρ) = .ok (.bl false)) (k : ∀ H1, Same H H1 → tSs K T (wpF K T cv n) W cv b D σ H1) : tS K T (wpF K T cv n) W cv (.ite c a b) D σ H := by
  simp only [tS]
  refine tE_of (io := io) (.bl false) zd E h fun v H1 s r => ?_
  simp only [Rep] at r
  subst r
  refine ⟨_, rfl, ?_⟩
  show (if false = true then _ else _)
  rw [if_neg Bool.false_ne_true]
  exact k H1 s
theorem s_ret {e : Ex} (io : Nat → Bool) (d : Dat) (zd : ZD Z H) (E : EnvOk K Z H (ment e) (vals ρ) σ) (h : evD T io (callD T io X0 1000 n) e (vals ρ) = .ok d) (k : ∀ v H1, Same H H1 → Rep K (hide Z H1) d v → D.rt v H1) : tS K T (wpF K T cv n) W cv (.ret e) D σ H := by
  simp only [tS]
  exact tE_of (io := io) d zd E h k
theorem s_asg {i : Nat} {e : Ex} (io : Nat → Bool) (d : Dat) (zd : ZD Z H) (E : EnvOk K Z H (ment e) (vals ρ) σ) (h : evD T io (callD T io X0 1000 n) e (vals ρ) = .ok d) (k : ∀ v H1, Same H H1 → Rep K (hide Z H1) d v → D.nx (σ.set i (some v)) H1) : tS K T (wpF K T cv n) W cv (.asg i e) D σ H := by
  simp only [tS]
  exact tE_of (io := io) d zd E h k
theorem s_tE {e : Ex} {Q : VK} (io : Nat → Bool) (d : Dat) (zd : ZD Z H) (E : EnvOk K Z H (ment e) (vals ρ) σ) (h : evD T io (callD T io X0 1000 n) e (vals ρ) = .ok d) (k : ∀ v H1, Same H H1 → Rep K (hide Z H1) d v → Q v H1) : tE K T (wpF K T cv n) W e σ H Q := tE_of (io := io) d zd E h k
theorem s_call {f : Nat} {as : Exs} (h : tA K T (wpF K T cv n) W as σ H (fun vs H1 => wpF K T cv n f vs H1 (fun _ H2 => D.nx σ H2) (WE W σ))) : tS K T (wpF K T cv n) W cv (.ex (.call f as)) D σ H := by
  simp only [tS, tE]
  exact h
theorem a_nil {Q : List V → Hp → Prop} (h : Q [] H) : tA K T (wpF K T cv n) W .nil σ H Q := by
  simp only [tA]
  exact h
theorem a_var {i : Nat} {as : Exs} {v : V} {Q : List V → Hp → Prop} (hi : σ[i]? = some (some v)) (h : tA K T (wpF K T cv n) W as σ H (fun vs H1 => Q (v :: vs) H1)) : tA K T (wpF K T cv n) W (.cons (.var i) as) σ H Q := by
  simp only [tA, tE]
  exact ⟨v, hi, h⟩
theorem a_con {c : V} {as : Exs} {Q : List V → Hp → Prop} (h : tA K T (wpF K T cv n) W as σ H (fun vs H1 => Q (c :: vs) H1)) : tA K T (wpF K T cv n) W (.cons (.con c) as) σ H Q := by
  simp only [tA, tE]
  exact h
theorem a_ev {e : Ex} {as : Exs} {Q : List V → Hp → Prop} (io : Nat → Bool) (d : Dat) (zd : ZD Z H) (E : EnvOk K Z H (ment e) (vals ρ) σ) (h : evD T io (callD T io X0 1000 n) e (vals ρ) = .ok d) (k : ∀ v H1, Same H H1 → Rep K (hide Z H1) d v → tA K T (wpF K T cv n) W as σ H1 (fun vs H2 => Q (v :: vs) H2)) : tA K T (wpF K T cv n) W (.cons e as) σ H Q := by
  simp only [tA]
  exact tE_of (io := io) d zd E h k
end
theorem at_cons {row : List Nat} {at_ : Nat} {c : Nat} {r : List Nat} (e : row.drop at_ = c :: r) : row[at_]? = some c ∧ row.drop (at_ + 1) = r ∧ at_ < row.length := by
  refine ⟨?_, ?_, ?_⟩
  · have := congrArg (fun l => l[0]?) e
    simpa using this
  · have := congrArg (fun l => l.drop 1) e
    simpa using this
  · apply Classical.byContradiction
    intro hn
    rw [List.drop_eq_nil_of_le (by omega)] at e
    cases e
theorem cut_1 {row : List Nat} {at_ : Nat} {c : Nat} {r : List Nat} (e : row.drop at_ = c :: r) : cutL row (some ((at_ : Int) + 1)) (some ((at_ : Int) + 2)) = r.take 1 := by
  rw [cut_mid (by omega) (by omega), show ((at_ : Int) + 1).toNat = at_ + 1 by omega, (at_cons e).2.1, show ((at_ : Int) + 2).toNat - (at_ + 1) = 1 by omega]
theorem idxC_lt {c : Nat} : ∀ {s : List Nat} {k : Nat}, idxC c s = some k → k < s.length
  | [], k, h => by cases h
  | x :: r, k, h => by
    unfold idxC at h
    split at h
    · cases h
      simp
    · obtain ⟨j, hj, rfl⟩ := Option.map_eq_some_iff.mp h
      have := idxC_lt hj
      simp
      omega
theorem upTo_len (c : Nat) (s : List Nat) : (upTo c s).1.length + (upTo c s).2.toNat ≤ s.length := by
  unfold upTo
  cases e : idxC c s with
  | none => simp
  | some k =>
    have : k < s.length := idxC_lt e
    simp
    omega
theorem w_label {cv : Nat → Value} (P : PT T io o g h) (n : Nat) {H0 H : Hp} {Z : Addr → Prop} {p : Addr} {f f2 : Frm} {fs : List Frm} {Q : VK} {E : XK} {row : List Nat} {at_ c : Nat} {r : List Nat} (zd : ZD Z H0) (L : PL K H0 H Z p (f :: f2 :: fs)) (hm : f.m = [91]) (b2 : f2.ds.length < 16777216) (hl : row.length ≤ 16000000) (e : row.drop at_ = c :: r)
    (q : ∀ H1 fs' (k : Nat), PL K H0 H1 Z p fs' → absF fs' = (if r.head? = some 40 then endTop (.str (upTo 41 (r.drop 1)).1) (upTo 41 (r.drop 1)).2 (absF (f :: f2 :: fs)) else endTop .non true (absF (f :: f2 :: fs))) →
      row.drop k = (if r.head? = some 40 then r.drop (1 + (upTo 41 (r.drop 1)).1.length + (upTo 41 (r.drop 1)).2.toNat) else r) → at_ < k → Q (.int k) H1) : wpF K T cv (n + 2) (o + 4) [vS row, .int at_, .ref p] H Q E := by
  obtain ⟨h0, h1, ha⟩ := at_cons e
  refine wp_at P.f4 rfl ?_
  show tSs K T (wpF K T cv (n + 1)) _ cv (bP4 o g h) _ [some (vS row), some (.int at_), some (.ref p), none] H
  unfold bP4
  have E0 : ∀ {Z' : Addr → Prop} {H' : Hp} {m : Nat → Bool} {x : Option V}, EnvOk K Z' H' m (vals [some (.str row, false), some (.int at_, false)]) [some (vS row), some (.int at_), some (.ref p), x] := env_c (rep_str _) (env_c (rep_int _) env_nil)
  have z := L.z zd
  have hm1 : f.m.length ≤ 16777216 := by rw [hm]; decide
  have hmn : f.m ≠ [] := by rw [hm]; simp
  refine s_seq ?_
  by_cases e1 : r.head? = some 40
  · rw [if_pos e1, if_pos e1] at q
    obtain ⟨r', hr'⟩ : ∃ r', r = 40 :: r' := by
      cases r with
      | nil => cases e1
      | cons x r' =>
        cases e1
        exact ⟨r', rfl⟩
    have h2 : row.drop (at_ + 2) = r.drop 1 := by rw [← h1, List.drop_drop]
    have hlen : at_ + 2 ≤ row.length := by
      have := congrArg List.length h1
      rw [hr', List.length_drop, List.length_cons] at this
      omega
    have zm := L.mz zd
    refine s_ifF (ρ := [some (.str row, false), some (.int at_, false)]) io zm E0 ?_ fun H1 s1 => s_nil (s_seq ?_)
    · have hc := cut_1 e
      rw [hr'] at hc
      simp (disch := first | omega | (simp only [List.length_cons, List.length_nil]; omega)) [hc, -cut_mid]
    have cu := c_upto P n row (at_ + 2 : Int) 41 (by omega) (by omega) (by omega)
    rw [show ((at_ : Int) + 2).toNat = at_ + 2 by omega, h2] at cu
    have hlu := upTo_len 41 (r.drop 1)
    generalize hu : upTo 41 (r.drop 1) = u at *
    obtain ⟨w, cl⟩ := u
    have hrl : r.length = row.length - (at_ + 1) := by rw [← h1, List.length_drop]
    have hlw : w.length + cl.toNat ≤ row.length := by
      have : (r.drop 1).length ≤ row.length := by rw [List.length_drop]; omega
      exact Nat.le_trans hlu this
    refine s_asg (ρ := [some (.str row, false), some (.int at_, false)]) io (.tup [.str w, .bl cl]) (zm.same s1) E0 ?_ ?_
    · rw [ev_call _ _ _ P.i1]
      simp (disch := first | omega | (simp only [List.length_cons, List.length_nil]; omega)) [cu]
    intro v H2 s2 rv
    show tSs K T (wpF K T cv (n + 1)) _ cv _ _ [some (vS row), some (.int at_), some (.ref p), some v] H2
    have s12 := same_trans s1 s2
    have E3 : ∀ {H' : Hp} {m : Nat → Bool}, Same H2 H' → EnvOk K (MZ Z p (f :: f2 :: fs)) H' m (vals [none, none, none, some (.tup [.str w, .bl cl], false)]) [some (vS row), some (.int at_), some (.ref p), some v] := fun s => env_n (env_n (env_n (env_c (rep_mono (hide_same s) _ _ rv) env_nil)))
    refine s_seq ?_
    refine s_call (a_var rfl ?_)
    refine a_ev (ρ := [none, none, none, some (.tup [.str w, .bl cl], false)]) io (.str w) (zm.same s12) (E3 fun _ _ h => h) ?_ ?_
    · simp [lookD, Fw.at_pos]
    intro v1 H3 s3 rv1
    refine a_ev (ρ := [none, none, none, some (.tup [.str w, .bl cl], false)]) io (.bl cl) (zm.same (same_trans s12 s3)) (E3 s3) ?_ ?_
    · simp [lookD, Fw.at_pos]
    intro v2 H4 s4 rv2
    simp only [Rep] at rv2
    subst rv2
    refine a_nil ?_
    refine w_end P n zd (L.same (same_trans (same_trans s12 s3) s4)) (rep_mono (hide_same s4) _ _ rv1) hmn hm1 b2 ?_
    intro H5 fs5 L5 a5 fr
    refine s_seq ?_
    refine s_ret (ρ := [none, some (.int at_, false), none, some (.tup [.str w, .bl cl], false)]) (Z := fun _ => False) io (.int ((at_ : Int) + 2 + w.length + cl.toNat)) (fun _ h => h.elim) (env_n (env_c (rep_int _) (env_n (env_c ?_ env_nil)))) ?_ ?_
    · rw [hide_none]
      exact rep_mono fr _ _ (rep_mono (hide_same (same_trans s3 s4)) _ _ rv)
    · have hb : (if cl = true then (1 : Int) else 0) = cl.toNat := by cases cl <;> rfl
      simp (disch := first | omega | (simp only [List.length_cons, List.length_nil]; omega)) [lookD, Fw.at_pos, hb]
    · intro v6 H6 s6 rv6
      simp only [Rep] at rv6
      subst rv6
      have := q H6 fs5 (at_ + 2 + w.length + cl.toNat) (L5.same s6) a5 ?_ (by omega)
      · exact this
      · dsimp only
        rw [← h1, List.drop_drop]
        congr 1
        omega
  · rw [if_neg e1, if_neg e1] at q
    refine s_ifT (ρ := [some (.str row, false), some (.int at_, false)]) io z E0 ?_ fun H1 s1 => s_seq ?_
    · have hc := cut_1 e
      have : ¬ r.take 1 = [40] := by
        rw [List.take_one, toList_eq]
        exact e1
      simp (disch := first | omega | (simp only [List.length_cons, List.length_nil]; omega)) [hc, -cut_mid, this]
    refine s_call (a_var rfl (a_con (a_con (a_nil ?_))))
    show wpF K T cv (n + 1) (o + 3) [.ref p, .non, .bl true] H1 _ _
    refine w_end P n zd (L.same s1) (tg := .non) rep_non hmn hm1 b2 ?_
    intro H5 fs5 L5 a5 fr
    refine s_seq ?_
    refine s_ret (ρ := [some (.str row, false), some (.int at_, false)]) (Z := fun _ => False) io (.int ((at_ : Int) + 1)) (fun _ h => h.elim) E0 ?_ ?_
    · simp
    · intro v6 H6 s6 rv6
      simp only [Rep] at rv6
      subst rv6
      exact q H6 fs5 (at_ + 1) (L5.same s6) a5 h1 (by omega)
end
end Fw

set_option maxHeartbeats 4000000
namespace Fw
open PySem PySem.Spec PyProof.Rows L2
def Bk (B : Nat) (ds : List Dat) : Prop := ds.length ≤ B ∧ ∀ a, ds.getLast? = some (.str a) → a.length ≤ B
def BdP (B : Nat) : Pile → Prop
  | [] => False
  | [(m, ds)] => m = [] ∧ Bk B ds
  | (m, ds) :: q :: r => m ≠ [] ∧ m.length ≤ 2 ∧ Bk B ds ∧ BdP B (q :: r)
theorem BdP.top {B : Nat} {m : List Nat} {ds : List Dat} {r : Pile} (h : BdP B ((m, ds) :: r)) : Bk B ds ∧ m.length ≤ 2 := by
  cases r with
  | nil => exact ⟨h.2, by rw [h.1]; simp⟩
  | cons q r => exact ⟨h.2.2.1, h.2.1⟩
section
variable {K : PySem.W.Frag} {T : Tbl} {cv : Nat → Value} {io : Nat → Bool} {o g h : Nat}
theorem a_t1 {W : WX} {σ : L2.St} {H : Hp} {n i : Nat} {t : Addr} {x y : V} {as : Exs} {Q : List V → Hp → Prop} (hi : σ[i]? = some (some (.ref t))) (ht : H t = some (.tup [x, y])) (h : tA K T (wpF K T cv n) W as σ H (fun vs H1 => Q (y :: vs) H1)) : tA K T (wpF K T cv n) W (.cons (.idx (.var i) (.con (.int 1))) as) σ H Q := by
  simp only [tA, tE]
  exact ⟨.ref t, hi, r_t1 ht h⟩
theorem push_fin {H0 H H1 : Hp} {Z : Addr → Prop} {p : Addr} {f : Frm} {fs : List Frm} {q3 : Addr} {xs : List V} {es : List Dat} {Q : VK} (zd : ZD Z H0) (L : PL K H0 H Z p (f :: fs)) (b : f.ds.length < 16777216) (s : Same H H1) (hn : H1 q3 = none) (r : RepL K (hide (MZ Z p (f :: fs)) H1) es xs)
    (k : ∀ H', PL K H0 H' Z p (⟨f.t, f.l, f.m, f.ds ++ [.tup es], f.vs ++ [.ref q3]⟩ :: fs) → Same (hide (MZ Z p (f :: fs)) H) H' → Q .non H') : rAppend (.ref f.l) [.ref q3] (upd H1 q3 (.tup xs)) Q := by
  have mf : f ∈ f :: fs := List.mem_cons_self ..
  have L3 := (L.same s).same (same_new hn (o := .tup xs))
  have nz : ¬ MZ Z p (f :: fs) q3 := ((L.same s).mz zd).new hn
  refine ⟨f.l, f.vs, _, rfl, rfl, L3.ll f mf, by rw [repL_len (L3.rr f mf)]; exact b, k _ (L3.set_top ?_) ?_⟩
  · exact repL_app (L3.rr f mf) (repL_cons (rep_tup (hide_of upd_same nz) (repL_mono (hide_same (same_new hn)) _ _ r)) repL_nil)
  · intro x o hx
    obtain ⟨h1, h2⟩ := hide_some hx
    have n1 : x ≠ f.l := fun hh => h2 (.inr (.inr (by rw [hh]; exact List.mem_cons_self ..)))
    rw [upd_ne n1]
    exact same_new hn x o (s x o h1)
theorem s_push {W : WX} {D : Ends} {σ : L2.St} {n i : Nat} {as : Exs} {H0 H : Hp} {Z : Addr → Prop} {p : Addr} {f : Frm} {fs : List Frm} (L : PL K H0 H Z p (f :: fs)) (hi : σ[i]? = some (some (.ref f.t)))
    (k : tA K T (wpF K T cv n) W as σ H fun xs H1 => xs.length ≤ sizeLine ∧ ∀ q, H1 q = none → rAppend (.ref f.l) [.ref q] (upd H1 q (.tup xs)) (fun _ H2 => D.nx σ H2)) : tS K T (wpF K T cv n) W cv (.ex (.app (.idx (.var i) (.con (.int 1))) (.tup as))) D σ H := by
  simp only [tS, tE]
  exact ⟨.ref f.t, hi, r_t1 (L.tt f (List.mem_cons_self ..)) ⟨tyl (L.ll f (List.mem_cons_self ..)), k⟩⟩
theorem w_take (P : PT T io o g h) (n : Nat) {H0 H : Hp} {Z : Addr → Prop} {p : Addr} {fs : List Frm} {Q : VK} {E : XK} {row : List Nat} {at_ c : Nat} {r : List Nat} {B : Nat} (zd : ZD Z H0) (L : PL K H0 H Z p fs) (hb : BdP B (absF fs)) (hB : B < 16000000) (hl : row.length ≤ 16000000) (e : row.drop at_ = c :: r)
    (q : ∀ H1 fs' (k : Nat), PL K H0 H1 Z p fs' → absF fs' = (stepP c r (absF fs)).2 → row.drop k = (stepP c r (absF fs)).1 → at_ < k → Q (.int k) H1) : wpF K T cv (n + 3) (o + 5) [vS row, .int at_, .ref p] H Q E := by
  obtain ⟨h0, h1, ha⟩ := at_cons e
  cases fs with
  | nil => exact hb.elim
  | cons f fs =>
  have mf : f ∈ f :: fs := List.mem_cons_self ..
  obtain ⟨⟨tb1, tb2⟩, tm⟩ := BdP.top hb
  refine wp_at P.f5 rfl ?_
  show tSs K T (wpF K T cv (n + 2)) _ cv (bP5 o g h) _ [some (vS row), some (.int at_), some (.ref p), none, none, none, none] H
  unfold bP5
  have z := L.z zd
  have zm := L.mz zd
  have ER : ∀ {Z' : Addr → Prop} {H' : Hp} {m : Nat → Bool} {σ : L2.St}, EnvOk K Z' H' m (vals [some (.str row, false), some (.int at_, false), none, some (.str [c], false)]) (some (vS row) :: some (.int at_) :: some (.ref p) :: some (vS [c]) :: σ) := env_c (rep_str _) (env_c (rep_int _) (env_n (env_c (rep_str _) env_nil)))
  refine s_seq (s_asg (ρ := [some (.str row, false), some (.int at_, false)]) io (.str [c]) z (env_c (rep_str _) (env_c (rep_int _) env_nil)) ?_ ?_)
  · have h4 : idxD (.str row) (.int at_) = .ok (.str [c]) := by
      rw [Fw.ix_str _ _ (by omega), Fw.at_pos (by omega), show (at_ : Int).toNat = at_ by omega, h0]
      rfl
    simp [h4]
  intro v3 Ha sa rv3
  simp only [Rep] at rv3
  subst rv3
  have La := L.same sa
  have za := z.same sa
  have zma := zm.same sa
  refine s_seq ?_
  simp only [tS, tE]
  refine ⟨.ref p, rfl, 1, rfl, r_top La ?_⟩
  show tSs K T (wpF K T cv (n + 2)) _ cv _ _ [some (vS row), some (.int at_), some (.ref p), some (vS [c]), some (.ref f.t), none, none] Ha
  have EA : ∀ {H' : Hp} {m : Nat → Bool} {x5 : Option V} {d5 : Option (Dat × Bool)} , Same Ha H' → EnvOk K Z H' m (vals [some (.str row, false), some (.int at_, false), some (.lst ((f :: fs).reverse.map frD), false), some (.str [c], false), some (frD f, false)]) [some (vS row), some (.int at_), some (.ref p), some (vS [c]), some (.ref f.t), x5, none] := fun s =>
    env_c (rep_str _) (env_c (rep_int _) (env_c ((La.same s).view zd) (env_c (rep_str _) (env_c ((La.same s).tup zd mf) env_nil))))
  -- a kept sign
  refine s_seq ?_
  by_cases c1 : c = 92
  · rw [show stepP c r (absF (f :: fs)) = (r.drop 1, pushTop (.tup [.str [107, 101, 112, 116], .str (r.take 1)]) (absF (f :: fs))) by unfold stepP; rw [if_pos c1]] at q
    refine s_ifT (ρ := [some (.str row, false), some (.int at_, false), none, some (.str [c], false)]) io za ER ?_ fun H1 s1 => s_seq ?_
    · simp (disch := first | omega | (simp only [List.length_cons, List.length_nil]; omega)) [lookD, c1]
    refine s_push (La.same s1) rfl (a_con ?_)
    refine a_ev (ρ := [some (.str row, false), some (.int at_, false)]) (Z := MZ Z p (f :: fs)) io (.str (r.take 1)) (zma.same s1) (env_c (rep_str _) (env_c (rep_int _) env_nil)) ?_ ?_
    · have hc := cut_1 e
      simp (disch := first | omega | (simp only [List.length_cons, List.length_nil]; omega)) [hc, -cut_mid]
    intro v H2 s2 rv
    refine a_nil ⟨by simp [sizeLine], fun q3 hq => ?_⟩
    refine push_fin zd (La.same s1) (by omega) s2 hq (es := [.str [107, 101, 112, 116], .str (r.take 1)]) (repL_cons (rep_str _) (repL_cons rv repL_nil)) ?_
    intro H3 L3 _
    refine s_seq (s_ret (ρ := [some (.str row, false), some (.int at_, false)]) (Z := fun _ => False) io (.int ((at_ : Int) + 2)) (fun _ h => h.elim) (env_c (rep_str _) (env_c (rep_int _) env_nil)) ?_ ?_)
    · simp
    intro v6 H6 s6 rv6
    simp only [Rep] at rv6
    subst rv6
    refine q H6 _ (at_ + 2) (L3.same s6) rfl ?_ (by omega)
    show row.drop (at_ + 2) = r.drop 1
    rw [← h1, List.drop_drop]
  refine s_ifF (ρ := [some (.str row, false), some (.int at_, false), none, some (.str [c], false)]) io za ER ?_ fun H1 s1 => s_nil (s_seq ?_)
  · simp (disch := first | omega | (simp only [List.length_cons, List.length_nil]; omega)) [lookD, c1]
  -- a code
  by_cases c2 : c = 96
  · have cu := c_upto P (n + 1) row (at_ + 1 : Int) 96 (by omega) (by omega) (by omega)
    rw [show ((at_ : Int) + 1).toNat = at_ + 1 by omega, h1] at cu
    have hlu := upTo_len 96 r
    rw [show stepP c r (absF (f :: fs)) = (r.drop ((upTo 96 r).1.length + (upTo 96 r).2.toNat), pushTop (.tup [.str [99, 111, 100, 101], .str (upTo 96 r).1, .bl (upTo 96 r).2]) (absF (f :: fs))) by unfold stepP; rw [if_neg c1, if_pos c2]] at q
    generalize hu : upTo 96 r = u at *
    obtain ⟨w, cl⟩ := u
    have hrl : r.length = row.length - (at_ + 1) := by rw [← h1, List.length_drop]
    have hlw : w.length + cl.toNat ≤ r.length := hlu
    refine s_ifT (ρ := [some (.str row, false), some (.int at_, false), none, some (.str [c], false)]) io (za.same s1) ER ?_ fun H2 s2 => s_seq ?_
    · simp (disch := first | omega | (simp only [List.length_cons, List.length_nil]; omega)) [lookD, c2]
    have s12 := same_trans s1 s2
    refine s_asg (ρ := [some (.str row, false), some (.int at_, false)]) (Z := MZ Z p (f :: fs)) io (.tup [.str w, .bl cl]) (zma.same s12) (env_c (rep_str _) (env_c (rep_int _) env_nil)) ?_ ?_
    · rw [ev_call _ _ _ P.i1]
      simp (disch := first | omega | (simp only [List.length_cons, List.length_nil]; omega)) [cu]
    intro v6 H3 s3 rv
    show tSs K T (wpF K T cv (n + 2)) _ cv _ _ [some (vS row), some (.int at_), some (.ref p), some (vS [c]), some (.ref f.t), none, some v6] H3
    have s13 := same_trans s12 s3
    have E6 : ∀ {H' : Hp} {m : Nat → Bool} {a0 a1 a2 a3 a4 a5 : Option V}, Same H3 H' → EnvOk K (MZ Z p (f :: fs)) H' m (vals [none, none, none, none, none, none, some (.tup [.str w, .bl cl], false)]) [a0, a1, a2, a3, a4, a5, some v6] := fun s => env_n (env_n (env_n (env_n (env_n (env_n (env_c (rep_mono (hide_same s) _ _ rv) env_nil))))))
    refine s_seq (s_push (La.same s13) rfl (a_con ?_))
    refine a_ev (ρ := [none, none, none, none, none, none, some (.tup [.str w, .bl cl], false)]) io (.str w) (zma.same s13) (E6 fun _ _ h => h) ?_ ?_
    · simp [lookD, Fw.at_pos]
    intro v1 H4 s4 rv1
    refine a_ev (ρ := [none, none, none, none, none, none, some (.tup [.str w, .bl cl], false)]) io (.bl cl) (zma.same (same_trans s13 s4)) (E6 s4) ?_ ?_
    · simp [lookD, Fw.at_pos]
    intro v2 H5 s5 rv2
    refine a_nil ⟨by simp [sizeLine], fun q3 hq => ?_⟩
    refine push_fin zd (La.same s13) (by omega) (same_trans s4 s5) hq (es := [.str [99, 111, 100, 101], .str w, .bl cl]) (repL_cons (rep_str _) (repL_cons (rep_mono (hide_same s5) _ _ rv1) (repL_cons rv2 repL_nil))) ?_
    intro H6 L6 fr
    refine s_seq (s_ret (ρ := [none, some (.int at_, false), none, none, none, none, some (.tup [.str w, .bl cl], false)]) (Z := fun _ => False) io (.int ((at_ : Int) + 1 + w.length + cl.toNat)) (fun _ h => h.elim) (env_n (env_c (rep_int _) (env_n (env_n (env_n (env_n (env_c ?_ env_nil))))))) ?_ ?_)
    · rw [hide_none]
      exact rep_mono fr _ _ rv
    · have hb : (if cl = true then (1 : Int) else 0) = cl.toNat := by cases cl <;> rfl
      simp (disch := first | omega | (simp only [List.length_cons, List.length_nil]; omega)) [lookD, Fw.at_pos, hb]
    intro v7 H7 s7 rv7
    simp only [Rep] at rv7
    subst rv7
    refine q H7 _ (at_ + 1 + w.length + cl.toNat) (L6.same s7) rfl ?_ (by omega)
    dsimp only
    rw [← h1, List.drop_drop]
    congr 1
    omega
  refine s_ifF (ρ := [some (.str row, false), some (.int at_, false), none, some (.str [c], false)]) io (za.same s1) ER ?_ fun H2 s2 => s_nil (s_seq ?_)
  · simp (disch := first | omega | (simp only [List.length_cons, List.length_nil]; omega)) [lookD, c2]
  have s12 := same_trans s1 s2
  have co := c_opener P (n + 1) row at_ (by omega) ha
  rw [e] at co
  have hol : (openD (c :: r)).length ≤ 2 := by
    unfold openD
    repeat' split
    all_goals simp
  generalize hO : openD (c :: r) = O at *
  refine s_asg (ρ := [some (.str row, false), some (.int at_, false)]) io (.str O) (za.same s12) (env_c (rep_str _) (env_c (rep_int _) env_nil)) ?_ ?_
  · have co' : callD T io X0 1000 (n + 2) o [.str row, .int at_] = .ok (.str O, []) := co
    rw [ev_call _ _ _ P.i0]
    simp [co']
  intro v5 H3 s3 rv5
  simp only [Rep] at rv5
  subst rv5
  show tSs K T (wpF K T cv (n + 2)) _ cv _ _ [some (vS row), some (.int at_), some (.ref p), some (vS [c]), some (.ref f.t), some (vS O), none] H3
  have s13 := same_trans s12 s3
  have EB : ∀ {H' : Hp} {m : Nat → Bool}, Same H3 H' → EnvOk K Z H' m (vals [some (.str row, false), some (.int at_, false), some (.lst ((f :: fs).reverse.map frD), false), some (.str [c], false), some (frD f, false), some (.str O, false)]) [some (vS row), some (.int at_), some (.ref p), some (vS [c]), some (.ref f.t), some (vS O), none] := fun s =>
    env_c (rep_str _) (env_c (rep_int _) (env_c ((La.same (same_trans s13 s)).view zd) (env_c (rep_str _) (env_c ((La.same (same_trans s13 s)).tup zd mf) (env_c (rep_str _) env_nil)))))
  have z3 := za.same s13
  have st : stepP c r (absF (f :: fs)) = if O ≠ [] ∧ (absF (f :: fs)).length ≤ 12 then (r.drop (O.length - 1), (O, []) :: absF (f :: fs))
      else if c = 41 ∧ (topMark (absF (f :: fs))).length = 2 then (r, endTop .non true (absF (f :: fs)))
      else if c = 93 ∧ topMark (absF (f :: fs)) = [91] then
        (if r.head? = some 40 then (r.drop (1 + (upTo 41 (r.drop 1)).1.length + (upTo 41 (r.drop 1)).2.toNat), endTop (.str (upTo 41 (r.drop 1)).1) (upTo 41 (r.drop 1)).2 (absF (f :: fs)))
        else (r, endTop .non true (absF (f :: fs))))
      else (r, addTop [c] (absF (f :: fs))) := by
    rw [← hO]
    unfold stepP
    rw [if_neg c1, if_neg c2]
  refine s_seq ?_
  by_cases c3 : O ≠ [] ∧ (absF (f :: fs)).length ≤ 12
  · rw [st, if_pos c3] at q
    have c3' : fs.length + 1 ≤ 12 := by
      have := c3.2
      rw [List.length_map, List.length_cons] at this
      exact this
    refine s_ifT (ρ := [some (.str row, false), some (.int at_, false), some (.lst ((f :: fs).reverse.map frD), false), some (.str [c], false), some (frD f, false), some (.str O, false)]) io z3 (EB fun _ _ h => h) ?_ fun H4 s4 => s_seq ?_
    · simp (disch := first | omega | (simp only [List.length_cons, List.length_nil]; omega)) [lookD, P.g1]
      exact ⟨c3.1, by omega⟩
    have L4 := La.same (same_trans s13 s4)
    simp only [tS, tE, tA]
    refine ⟨.ref p, rfl, tyl L4.pp, vS O, rfl, by simp [sizeLine], fun l hl => ⟨by simp [sizeLine], fun t ht => ?_⟩⟩
    have L5 := L4.push zd O hl ht
    have hp2 : upd (upd H4 l (.lst [])) t (.tup [vS O, .ref l]) p = some (.lst (((f :: fs).map fun f => V.ref f.t).reverse)) := by
      have := (L4.same (same_trans (same_new hl) (same_new ht (o := .tup [vS O, .ref l])))).pp
      exact this
    refine ⟨p, _, _, rfl, rfl, hp2, by simp [sizeLine]; omega, ?_⟩
    refine s_seq (s_ret (ρ := [none, some (.int at_, false), none, none, none, some (.str O, false)]) (Z := fun _ => False) io (.int ((at_ : Int) + O.length)) (fun _ h => h.elim) (env_n (env_c (rep_int _) (env_n (env_n (env_n (env_c (rep_str _) env_nil)))))) ?_ ?_)
    · simp (disch := first | omega | (simp only [List.length_cons, List.length_nil]; omega)) [lookD]
    intro v7 H7 s7 rv7
    simp only [Rep] at rv7
    subst rv7
    have hO1 : 1 ≤ O.length := List.length_pos_iff.mpr c3.1
    refine q H7 _ (at_ + O.length) (L5.same s7) rfl ?_ (by omega)
    dsimp only
    rw [← h1, List.drop_drop]
    congr 1
    omega
  rw [st, if_neg c3] at q
  refine s_ifF (ρ := [some (.str row, false), some (.int at_, false), some (.lst ((f :: fs).reverse.map frD), false), some (.str [c], false), some (frD f, false), some (.str O, false)]) io z3 (EB fun _ _ h => h) ?_ fun H4 s4 => s_nil (s_seq ?_)
  · simp (disch := first | omega | (simp only [List.length_cons, List.length_nil]; omega)) [lookD, P.g1]
    intro hne
    have : ¬ ((absF (f :: fs)).length ≤ 12) := fun hh => c3 ⟨hne, hh⟩
    rw [List.length_map, List.length_cons] at this
    omega
  have s14 := same_trans s13 s4
  have z4 := za.same s14
  have EC : ∀ {H' : Hp} {m : Nat → Bool} {x5 x6 : Option V}, Same H4 H' → EnvOk K Z H' m (vals [none, none, none, some (.str [c], false), some (frD f, false)]) [some (vS row), some (.int at_), some (.ref p), some (vS [c]), some (.ref f.t), x5, x6] := fun s =>
    env_n (env_n (env_n (env_c (rep_str _) (env_c ((La.same (same_trans s14 s)).tup zd mf) env_nil))))
  -- a closed span
  have hm0 : topMark (absF (f :: fs)) = f.m := rfl
  have two : f.m ≠ [] → ∃ f2 fs2, fs = f2 :: fs2 := by
    intro hne
    cases fs with
    | nil => exact absurd hb.1 hne
    | cons f2 fs2 => exact ⟨f2, fs2, rfl⟩
  by_cases c4 : c = 41 ∧ f.m.length = 2
  · rw [hm0, if_pos c4] at q
    have hne : f.m ≠ [] := by
      intro h
      rw [h] at c4
      cases c4.2
    obtain ⟨f2, fs2, rfl⟩ := two hne
    have tb3 := (BdP.top hb.2.2.2).1.1
    refine s_ifT (ρ := [none, none, none, some (.str [c], false), some (frD f, false)]) io z4 (EC fun _ _ h => h) ?_ fun H5 s5 => s_seq ?_
    · simp (disch := first | omega | (simp only [List.length_cons, List.length_nil]; omega)) [lookD, Fw.at_pos, frD, c4.1, c4.2]
    refine s_call (a_var rfl (a_con (a_con (a_nil ?_))))
    show wpF K T cv (n + 2) (o + 3) [.ref p, .non, .bl true] H5 _ _
    refine w_end P (n + 1) zd (La.same (same_trans s14 s5)) (tg := .non) rep_non hne (by omega) (by omega) ?_
    intro H6 fs6 L6 a6 _
    refine s_seq (s_ret (ρ := [none, some (.int at_, false)]) (Z := fun _ => False) io (.int ((at_ : Int) + 1)) (fun _ h => h.elim) (env_n (env_c (rep_int _) env_nil)) ?_ ?_)
    · simp [lookD]
    intro v7 H7 s7 rv7
    simp only [Rep] at rv7
    subst rv7
    exact q H7 fs6 (at_ + 1) (L6.same s7) a6 h1 (by omega)
  rw [hm0, if_neg c4] at q
  refine s_ifF (ρ := [none, none, none, some (.str [c], false), some (frD f, false)]) io z4 (EC fun _ _ h => h) ?_ fun H5 s5 => s_nil (s_seq ?_)
  · simp (disch := first | omega | (simp only [List.length_cons, List.length_nil]; omega)) [lookD, Fw.at_pos, frD]
    intro h1 h2
    exact c4 ⟨h1, by omega⟩
  have s15 := same_trans s14 s5
  -- a label's end
  by_cases c5 : c = 93 ∧ f.m = [91]
  · rw [if_pos c5] at q
    obtain ⟨f2, fs2, rfl⟩ := two (by rw [c5.2]; simp)
    have tb3 := (BdP.top hb.2.2.2).1.1
    refine s_ifT (ρ := [none, none, none, some (.str [c], false), some (frD f, false)]) io (z4.same s5) (EC s5) ?_ fun H6 s6 => s_seq ?_
    · simp (disch := first | omega | (simp only [List.length_cons, List.length_nil]; omega)) [lookD, Fw.at_pos, frD, c5.1, c5.2]
    simp only [tS, tE, tA]
    refine ⟨_, rfl, _, rfl, _, rfl, ?_⟩
    show wpF K T cv (n + 2) (o + 4) [vS row, .int at_, .ref p] H6 _ _
    refine w_label P n zd (La.same (same_trans s15 s6)) c5.2 (by omega) hl e ?_
    intro H7 fs7 k L7 a7 e7 hk
    refine q H7 fs7 k L7 ?_ ?_ hk
    · rw [a7]
      split <;> rfl
    · rw [e7]
      split <;> rfl
  rw [if_neg c5] at q
  refine s_ifF (ρ := [none, none, none, some (.str [c], false), some (frD f, false)]) io (z4.same s5) (EC s5) ?_ fun H6 s6 => s_nil (s_seq ?_)
  · simp (disch := first | omega | (simp only [List.length_cons, List.length_nil]; omega)) [lookD, Fw.at_pos, frD]
    intro h1 h2
    exact c5 ⟨h1, h2⟩
  -- plain
  have L6 := La.same (same_trans s15 s6)
  refine s_call (a_t1 (t := f.t) rfl (L6.tt f mf) (a_var rfl (a_nil ?_)))
  show wpF K T cv (n + 2) (o + 2) [.ref f.l, vS [c]] H6 _ _
  refine w_add P (n + 1) (Z := Z) (Zl := MZ Z p (f :: fs)) (L6.z zd) mz_le (L6.zl zd mf) (L6.ll f mf) (L6.rr f mf) (by omega) (fun a ha => by have := tb2 a ha; omega) ?_
  intro H7 vs7 s7 r7
  have L7 := (L6.same s7).set_top r7
  refine s_seq (s_ret (ρ := [none, some (.int at_, false)]) (Z := fun _ => False) io (.int ((at_ : Int) + 1)) (fun _ h => h.elim) (env_n (env_c (rep_int _) env_nil)) ?_ ?_)
  · simp [lookD]
  intro v8 H8 s8 rv8
  simp only [Rep] at rv8
  subst rv8
  exact q H8 _ (at_ + 1) (L7.same s8) rfl h1 (by omega)
end
end Fw

set_option maxHeartbeats 4000000
namespace Fw
open PySem PySem.Spec PyProof.Rows L2
theorem stepP_len (c : Nat) (r : List Nat) (pl : Pile) : (stepP c r pl).1.length ≤ r.length := by
  unfold stepP
  repeat' split
  all_goals simp
theorem runP_fuel : ∀ (n : Nat) (s : List Nat) (pl : Pile), s.length ≤ n → runP n s pl = runP s.length s pl
  | 0, [], pl, _ => rfl
  | 0, c :: r, pl, h => by simp at h
  | n + 1, [], pl, _ => rfl
  | n + 1, c :: r, pl, h => by
    have h1 := stepP_len c r pl
    have h2 : r.length ≤ n := by simpa using h
    show runP n _ _ = runP r.length _ _
    rw [runP_fuel n _ _ (by omega)]
    by_cases hr : r.length = n
    · rw [hr, runP_fuel n _ _ (by omega)]
    · rw [runP_fuel r.length _ _ h1]
termination_by n => n
def runQ (s : List Nat) (pl : Pile) : Pile := runP s.length s pl
theorem runQ_nil (pl : Pile) : runQ [] pl = pl := rfl
theorem runQ_cons (c : Nat) (r : List Nat) (pl : Pile) : runQ (c :: r) pl = runQ (stepP c r pl).1 (stepP c r pl).2 := by
  show runP r.length _ _ = _
  exact runP_fuel _ _ _ (stepP_len c r pl)
theorem partsP_eq (row : List Nat) : partsP row = closeP (runQ row [([], [])]) := rfl
/-! ### bounds -/
theorem Bk.mono {B C : Nat} {ds : List Dat} (h : Bk B ds) (k : B ≤ C) : Bk C ds := ⟨Nat.le_trans h.1 k, fun a ha => Nat.le_trans (h.2 a ha) k⟩
theorem BdP.mono {B C : Nat} (k : B ≤ C) : ∀ {pl : Pile}, BdP B pl → BdP C pl
  | [], h => h
  | [(m, ds)], h => ⟨h.1, h.2.mono k⟩
  | (m, ds) :: q :: r, h => ⟨h.1, h.2.1, h.2.2.1.mono k, BdP.mono k h.2.2.2⟩
theorem Bk.push {B : Nat} {ds : List Dat} (h : Bk B ds) (es : List Dat) : Bk (B + 1) (ds ++ [.tup es]) := by
  refine ⟨?_, ?_⟩
  · have := h.1
    simp
    omega
  · intro a ha
    simp at ha
theorem Bk.add {B : Nat} {ds : List Dat} (h : Bk B ds) (c : Nat) : Bk (B + 1) (addP ds [c]) := by
  unfold addP
  split
  · rename_i a ha
    refine ⟨?_, ?_⟩
    · have := h.1
      simp
      omega
    · intro b hb
      simp at hb
      have := h.2 a ha
      rw [← hb]
      simp
      omega
  · refine ⟨?_, ?_⟩
    · have := h.1
      simp
      omega
    · intro b hb
      simp at hb
      rw [← hb]
      simp
/-- the top's list changes -/
theorem BdP.top_set {B : Nat} {m : List Nat} {ds ds' : List Dat} {r : Pile} (h : BdP B ((m, ds) :: r)) (k : Bk (B + 1) ds') : BdP (B + 1) ((m, ds') :: r) := by
  cases r with
  | nil => exact ⟨h.1, k⟩
  | cons q r => exact ⟨h.1, h.2.1, k, BdP.mono (Nat.le_succ B) h.2.2.2⟩
theorem endPart_tup (m : List Nat) (ds : List Dat) (tg : Dat) (b : Bool) : ∃ es, endPart m ds tg b = .tup es := by
  unfold endPart
  split
  · exact ⟨_, rfl⟩
  · exact ⟨_, rfl⟩
theorem BdP.end {B : Nat} {pl : Pile} (tg : Dat) (b : Bool) (h : BdP B pl) : BdP (B + 1) (endTop tg b pl) := by
  match pl, h with
  | [(m, ds)], h => exact BdP.mono (Nat.le_succ B) h
  | (m, ds) :: (m2, ds2) :: r, h =>
    obtain ⟨es, e⟩ := endPart_tup m ds tg b
    show BdP (B + 1) ((m2, ds2 ++ [endPart m ds tg b]) :: r)
    rw [e]
    exact h.2.2.2.top_set (h.2.2.2.top.1.push es)
theorem openD_len (s : List Nat) : (openD s).length ≤ 2 := by
  unfold openD
  split
  · simp
  · repeat' split
    all_goals simp
theorem stepP_bd {B : Nat} {pl : Pile} (c : Nat) (r : List Nat) (h : BdP B pl) : BdP (B + 1) (stepP c r pl).2 := by
  unfold stepP
  cases pl with
  | nil => exact h.elim
  | cons p pl =>
  obtain ⟨m, ds⟩ := p
  split
  · exact h.top_set (h.top.1.push _)
  split
  · exact h.top_set (h.top.1.push _)
  split
  · rename_i hh
    exact ⟨hh.1, openD_len _, ⟨by simp, by simp⟩, BdP.mono (Nat.le_succ B) h⟩
  split
  · exact h.end _ _
  split
  · split
    · exact h.end _ _
    · exact h.end _ _
  · exact h.top_set (h.top.1.add c)
theorem endTop_len (tg : Dat) (b : Bool) (pl : Pile) : (endTop tg b pl).length ≤ pl.length := by
  unfold endTop
  split <;> simp
theorem stepP_plen (c : Nat) (r : List Nat) (pl : Pile) : (stepP c r pl).2.length ≤ pl.length + 1 := by
  have hp : ∀ d, (pushTop d pl).length ≤ pl.length := by
    intro d
    unfold pushTop
    split <;> simp
  have ha : ∀ d, (addTop d pl).length ≤ pl.length := by
    intro d
    unfold addTop
    split <;> simp
  unfold stepP
  repeat' split
  · exact Nat.le_succ_of_le (hp _)
  · exact Nat.le_succ_of_le (hp _)
  · exact Nat.le_refl _
  · exact Nat.le_succ_of_le (endTop_len _ _ _)
  · exact Nat.le_succ_of_le (endTop_len _ _ _)
  · exact Nat.le_succ_of_le (endTop_len _ _ _)
  · exact Nat.le_succ_of_le (ha _)
theorem close_end (m m2 : List Nat) (ds ds2 : List Dat) (r : Pile) : closeP ((m, ds) :: (m2, ds2) :: r) = closeP (endTop .non false ((m, ds) :: (m2, ds2) :: r)) := rfl
section
variable {K : PySem.W.Frag} {T : Tbl} {cv : Nat → Value} {io : Nat → Bool} {o g h : Nat}
theorem PL.init {H : Hp} {Z : Addr → Prop} {l t p : Addr} (hl : H l = none) (ht : upd H l (.lst []) t = none) (hp : upd (upd H l (.lst [])) t (.tup [vS [], .ref l]) p = none) :
    PL K H (upd (upd (upd H l (.lst [])) t (.tup [vS [], .ref l])) p (.lst [.ref t])) Z p [⟨t, l, [], [], []⟩] := by
  have ht' : H t = none := by
    cases e : H t with
    | none => rfl
    | some o => rw [same_new hl t o e] at ht; cases ht
  have hp' : H p = none := by
    cases e : H p with
    | none => rfl
    | some o => rw [same_new ht p o (same_new hl p o e)] at hp; cases hp
  have ltne : t ≠ l := fun e => by rw [e, upd_same] at ht; cases ht
  have pt : p ≠ t := fun e => by rw [e, upd_same] at hp; cases hp
  have pl : p ≠ l := fun e => by rw [e, upd_ne ltne.symm, upd_same] at hp; cases hp
  exact {
    sm := same_trans (same_trans (same_new hl) (same_new ht)) (same_new hp)
    np := hp'
    pp := upd_same
    nl := fun f hf => by
      cases List.mem_singleton.mp hf
      exact hl
    nt := fun f hf => by
      cases List.mem_singleton.mp hf
      exact ht'
    lp := fun f hf => by
      cases List.mem_singleton.mp hf
      exact pl.symm
    tt := fun f hf => by
      cases List.mem_singleton.mp hf
      show upd _ p _ t = _
      rw [upd_ne pt.symm]
      exact upd_same
    ll := fun f hf => by
      cases List.mem_singleton.mp hf
      show upd _ p _ l = _
      rw [upd_ne pl.symm, upd_ne ltne.symm]
      exact upd_same
    rr := fun f hf => by
      cases List.mem_singleton.mp hf
      exact repL_nil
    nd := by simp }
theorem s_asgcall {W : WX} {D : Ends} {σ : L2.St} {H : Hp} {n i f : Nat} {as : Exs} (h : tA K T (wpF K T cv n) W as σ H (fun vs H1 => wpF K T cv n f vs H1 (fun v H2 => D.nx (σ.set i (some v)) H2) (WE W σ))) : tS K T (wpF K T cv n) W cv (.asg i (.call f as)) D σ H := by
  simp only [tS, tE]
  exact h
theorem w_parts (P : PT T io o g h) (n : Nat) {H0 : Hp} {Z : Addr → Prop} {Q : VK} {E : XK} {row : List Nat} (zd : ZD Z H0) (hl : row.length ≤ 8000000)
    (q : ∀ v H', Same H0 H' → Rep K (hide Z H') (.lst (partsP row)) v → Q v H') : wpF K T cv (n + 4) (o + 6) [vS row] H0 Q E := by
  refine wp_at P.f6 rfl ?_
  show tSs K T (wpF K T cv (n + 3)) _ cv (bP6 o g h) _ [some (vS row), none, none] H0
  unfold bP6
  refine s_seq ?_
  simp only [tS, tE, tA]
  refine ⟨by simp [sizeLine], fun l hl0 => ⟨by simp [sizeLine], fun t ht => ⟨by simp [sizeLine], fun p hp => ?_⟩⟩⟩
  have L := PL.init (K := K) (Z := Z) hl0 ht hp
  generalize upd (upd (upd H0 l (.lst [])) t (.tup [vS [], .ref l])) p (.lst [.ref t]) = H1 at L
  show tSs K T (wpF K T cv (n + 3)) _ cv _ _ [some (vS row), some (.ref p), none] H1
  refine s_seq (s_asg (ρ := []) io (.int 0) (L.z zd) env_nil (by rw [evD]; rfl) ?_)
  intro v0 Ha sa rv0
  simp only [Rep] at rv0
  subst rv0
  have La := L.same sa
  show tSs K T (wpF K T cv (n + 3)) _ cv _ _ [some (vS row), some (.ref p), some (.int 0)] Ha
  refine s_seq ?_
  simp only [tS]
  refine ⟨fun m σ H => ∃ (k B : Nat) (fs : List Frm), m = (row.drop k).length ∧ PL K H0 H Z p fs ∧ BdP B (absF fs) ∧ B ≤ k ∧ B ≤ row.length ∧ (absF fs).length ≤ B + 1 ∧ runQ (row.drop k) (absF fs) = runQ row [([], [])] ∧ σ = [some (vS row), some (.ref p), some (.int k)], ⟨_, 0, 0, _, rfl, La, ⟨rfl, ⟨Nat.le_refl _, fun a ha => by cases ha⟩⟩, Nat.le_refl _, Nat.zero_le _, Nat.le_refl _, rfl, rfl⟩, ?_⟩
  rintro m σ H ⟨k, B, fs, rfl, L2, hb, hBk, hBr, hpl, hrun, rfl⟩
  have ER : ∀ {H' : Hp} {m : Nat → Bool}, EnvOk K Z H' m (vals [some (.str row, false), none, some (.int k, false)]) [some (vS row), some (.ref p), some (.int k)] := env_c (rep_str _) (env_n (env_c (rep_int _) env_nil))
  refine tE_of (io := io) (ρ := [some (.str row, false), none, some (.int k, false)]) (.bl (decide (k < row.length))) (L2.z zd) ER ?_ ?_
  · simp (disch := first | omega | (simp only [List.length_cons, List.length_nil]; omega)) [lookD]
  intro v H2 s2 rv
  simp only [Rep] at rv
  subst rv
  refine ⟨_, rfl, ?_⟩
  show (if decide (k < row.length) = true then _ else _)
  have L3 := L2.same s2
  by_cases hk : k < row.length
  · rw [decide_eq_true hk, if_pos rfl]
    obtain ⟨c, r, e⟩ : ∃ c r, row.drop k = c :: r := by
      cases e : row.drop k with
      | nil => have := List.drop_eq_nil_iff.mp e; omega
      | cons c r => exact ⟨c, r, rfl⟩
    refine ⟨_, fun σ' H' x => x, ?_⟩
    refine s_seq (s_asgcall (a_var rfl (a_var rfl (a_var rfl (a_nil ?_)))))
    show wpF K T cv (n + 3) (o + 5) [vS row, .int k, .ref p] H2 _ _
    refine w_take P n zd L3 hb (by omega) (by omega) e ?_
    intro H3 fs3 k3 L4 a4 e4 hk3
    simp only [tSs, tNext]
    refine ⟨(row.drop k3).length, ?_, k3, B + 1, fs3, rfl, L4, ?_, by omega, by omega, ?_, ?_, rfl⟩
    · rw [e, e4, List.length_cons]
      exact Nat.lt_succ_of_le (stepP_len _ _ _)
    · rw [a4]
      exact stepP_bd c r hb
    · rw [a4]
      exact Nat.le_trans (stepP_plen _ _ _) (by omega)
    · rw [e4, a4, ← runQ_cons, ← e]
      exact hrun
  · rw [decide_eq_false hk, if_neg Bool.false_ne_true]
    rw [List.drop_eq_nil_of_le (by omega), runQ_nil] at hrun
    have hfin : closeP (absF fs) = partsP row := by rw [hrun, partsP_eq]
    clear hrun
    have hsum : B + (absF fs).length ≤ 16000001 := by omega
    clear hpl hBk hBr
    show tSs K T (wpF K T cv (n + 3)) _ cv _ _ [some (vS row), some (.ref p), some (.int k)] H2
    refine s_seq ?_
    simp only [tS]
    refine ⟨fun m σ H => ∃ (B : Nat) (fs : List Frm), m = fs.length ∧ PL K H0 H Z p fs ∧ BdP B (absF fs) ∧ B + fs.length ≤ 16000001 ∧ closeP (absF fs) = partsP row ∧ σ = [some (vS row), some (.ref p), some (.int k)], ⟨_, B, fs, rfl, L3, hb, by rw [List.length_map] at hsum; exact hsum, hfin, rfl⟩, ?_⟩
    clear hfin hsum L3 hb L2 s2
    rintro m σ H ⟨B, fs, rfl, L2, hb, hs, hc, rfl⟩
    have EP : ∀ {H' : Hp} {m : Nat → Bool}, Same H H' → EnvOk K Z H' m (vals [none, some (.lst (fs.reverse.map frD), false)]) [some (vS row), some (.ref p), some (.int k)] := fun s => env_n (env_c ((L2.same s).view zd) env_nil)
    refine tE_of (io := io) (ρ := [none, some (.lst (fs.reverse.map frD), false)]) (.bl (decide (1 < fs.length))) (L2.z zd) (EP fun _ _ h => h) ?_ ?_
    · simp [lookD]
      omega
    intro v H4 s4 rv
    simp only [Rep] at rv
    subst rv
    refine ⟨_, rfl, ?_⟩
    show (if decide (1 < fs.length) = true then _ else _)
    have L3 := L2.same s4
    cases fs with
    | nil => exact hb.elim
    | cons f fs =>
    cases fs with
    | nil =>
      rw [decide_eq_false (by simp), if_neg Bool.false_ne_true]
      show tSs K T (wpF K T cv (n + 3)) _ cv _ _ [some (vS row), some (.ref p), some (.int k)] H4
      refine s_seq ?_
      simp only [tS, tE]
      refine ⟨.ref p, rfl, .inl ⟨p, _, 0, .ref f.t, rfl, rfl, .inl (.inl L3.pp), rfl, r_t1 (L3.tt f (List.mem_cons_self ..)) ?_⟩⟩
      refine q _ _ L3.sm ?_
      have := L3.lst zd (List.mem_cons_self ..)
      rw [← hc]
      exact this
    | cons f2 fs =>
      rw [decide_eq_true (by simp), if_pos rfl]
      have hne : f.m ≠ [] := hb.1
      have hm2 : f.m.length ≤ 2 := hb.2.1
      have tb3 := (BdP.top hb.2.2.2).1.1
      have hlen : B + (fs.length + 1 + 1) ≤ 16000001 := hs
      refine ⟨_, fun σ' H' x => x, ?_⟩
      refine s_seq (s_call (a_var rfl (a_con (a_con (a_nil ?_)))))
      show wpF K T cv (n + 3) (o + 3) [.ref p, .non, .bl false] H4 _ _
      refine w_end P (n + 2) zd L3 (tg := .non) rep_non hne (by omega) (by omega) ?_
      intro H5 fs5 L5 a5 _
      simp only [tSs, tNext]
      have l5 : fs5.length = fs.length + 1 := by
        have := congrArg List.length a5
        simpa [endTop] using this
      refine ⟨fs5.length, by rw [l5]; simp, B + 1, fs5, rfl, L5, ?_, by omega, ?_, by first | trivial | rfl⟩
      · rw [a5]
        exact hb.end _ _
      · rw [a5, ← hc]
        exact (close_end _ _ _ _ _).symm
def partsG : List Dat → Rs Dat
  | [.str row] => .chk (leq row.length 8000000) (.ok (.lst (partsP row)))
  | _ => .er
theorem parts_pure (P : PT T io o g h) (n : Nat) (hn : 4 ≤ n) : PureF K cv (wpF K T cv n (o + 6)) partsG := by
  obtain ⟨n, rfl⟩ : ∃ m, n = m + 4 := ⟨n - 4, by omega⟩
  intro ds vs Z H Q E zd r h
  match ds, r, h with
  | [.str row], r, h =>
    simp only [RepL, Rep] at r
    obtain ⟨v, rr, rfl, rfl, rfl⟩ := r
    by_cases hl : row.length ≤ 8000000
    · refine w_parts P n zd hl ?_
      have e : partsG [.str row] = .ok (.lst (partsP row)) := chk_leq hl _
      rw [e] at h
      exact h
    · have e : partsG [.str row] = .er := by
        show Rs.chk (decide (row.length ≤ 8000000)) _ = _
        rw [decide_eq_false hl]
        rfl
      rw [e] at h
      exact h.elim
  | [], r, h => exact h.elim
  | [.non], r, h => exact h.elim
  | [.bl _], r, h => exact h.elim
  | [.int _], r, h => exact h.elim
  | [.lst _], r, h => exact h.elim
  | [.tup _], r, h => exact h.elim
  | [.frz _], r, h => exact h.elim
  | a :: b :: l, r, h =>
    have e : partsG (a :: b :: l) = .er := by cases a <;> rfl
    rw [e] at h
    exact h.elim
end
end Fw

set_option maxHeartbeats 4000000
namespace Fw
open PySem PySem.Spec PyProof.Rows L2

def bS0 (o : Nat) : Sms := (.cons (.ite (.cmp .ne (.var 2) (.con (vS [])))
 (.cons (.ex (.app (.var 0) (.tup (.cons (.var 1) (.cons (.var 2) .nil))))) .nil)
 .nil) .nil)
def dS0 (o : Nat) : FDef := ⟨("put" : Str), [("pieces" : Str), ("kind" : Str), ("words" : Str)], 3, bS0 o⟩
def bS1 (o : Nat) : Sms := (.cons (.ex (.call (o + 0) (.cons (.var 0) (.cons (.con (vS [109, 97, 114, 107])) (.cons (.con (vS [91])) .nil))))) (.cons (.ex (.call (o + 3) (.cons (.var 0) (.cons (.idx (.var 1) (.con (.int 1))) .nil)))) (.cons (.ite (.cmp .isnot (.idx (.var 1) (.con (.int 2))) (.con .non))
 (.cons (.ex (.call (o + 0) (.cons (.var 0) (.cons (.con (vS [109, 97, 114, 107])) (.cons (.con (vS [93, 40])) .nil))))) (.cons (.ex (.call (o + 0) (.cons (.var 0) (.cons (.con (vS [116, 97, 114, 103, 101, 116])) (.cons (.idx (.var 1) (.con (.int 2))) .nil))))) (.cons (.ite (.idx (.var 1) (.con (.int 3)))
 (.cons (.ex (.call (o + 0) (.cons (.var 0) (.cons (.con (vS [109, 97, 114, 107])) (.cons (.con (vS [41])) .nil))))) .nil)
 .nil) .nil)))
 (.cons (.ite (.idx (.var 1) (.con (.int 3)))
 (.cons (.ex (.call (o + 0) (.cons (.var 0) (.cons (.con (vS [109, 97, 114, 107])) (.cons (.con (vS [93])) .nil))))) .nil)
 .nil) .nil)) .nil)))
def dS1 (o : Nat) : FDef := ⟨("put_link" : Str), [("pieces" : Str), ("part" : Str)], 2, bS1 o⟩
def bS2 (o : Nat) : Sms := (.cons (.ite (.cmp .eq (.idx (.var 1) (.con (.int 0))) (.con (vS [107, 101, 112, 116])))
 (.cons (.ex (.call (o + 0) (.cons (.var 0) (.cons (.con (vS [109, 97, 114, 107])) (.cons (.con (vS [92])) .nil))))) (.cons (.ex (.call (o + 0) (.cons (.var 0) (.cons (.con (vS [107, 101, 112, 116])) (.cons (.idx (.var 1) (.con (.int 1))) .nil))))) .nil))
 (.cons (.ite (.cmp .eq (.idx (.var 1) (.con (.int 0))) (.con (vS [99, 111, 100, 101])))
 (.cons (.ex (.call (o + 0) (.cons (.var 0) (.cons (.con (vS [109, 97, 114, 107])) (.cons (.con (vS [96])) .nil))))) (.cons (.ex (.call (o + 0) (.cons (.var 0) (.cons (.con (vS [99, 111, 100, 101])) (.cons (.idx (.var 1) (.con (.int 1))) .nil))))) (.cons (.ite (.idx (.var 1) (.con (.int 2)))
 (.cons (.ex (.call (o + 0) (.cons (.var 0) (.cons (.con (vS [109, 97, 114, 107])) (.cons (.con (vS [96])) .nil))))) .nil)
 .nil) .nil)))
 (.cons (.ite (.cmp .eq (.idx (.var 1) (.con (.int 0))) (.con (vS [115, 112, 97, 110])))
 (.cons (.ex (.call (o + 0) (.cons (.var 0) (.cons (.con (vS [109, 97, 114, 107])) (.cons (.bin .add (.idx (.var 1) (.con (.int 1))) (.con (vS [40]))) .nil))))) (.cons (.ex (.call (o + 3) (.cons (.var 0) (.cons (.idx (.var 1) (.con (.int 2))) .nil)))) (.cons (.ite (.idx (.var 1) (.con (.int 3)))
 (.cons (.ex (.call (o + 0) (.cons (.var 0) (.cons (.con (vS [109, 97, 114, 107])) (.cons (.con (vS [41])) .nil))))) .nil)
 .nil) .nil)))
 (.cons (.ex (.call (o + 1) (.cons (.var 0) (.cons (.var 1) .nil)))) .nil)) .nil)) .nil)) .nil)
def dS2 (o : Nat) : FDef := ⟨("put_mark" : Str), [("pieces" : Str), ("part" : Str)], 2, bS2 o⟩
def bS3 (o : Nat) : Sms := (.cons (.for_ 2 (.ls (.var 1))
 (.cons (.ite (.isi (.var 2) "str")
 (.cons (.ex (.call (o + 0) (.cons (.var 0) (.cons (.con (vS [119, 111, 114, 100, 115])) (.cons (.var 2) .nil))))) .nil)
 (.cons (.ex (.call (o + 2) (.cons (.var 0) (.cons (.var 2) .nil)))) .nil)) .nil)) .nil)
def dS3 (o : Nat) : FDef := ⟨("put_parts" : Str), [("pieces" : Str), ("parts" : Str), ("part" : Str)], 2, bS3 o⟩
def bS4 (o : Nat) : Sms := (.cons (.asg 2 (.lst .nil)) (.cons (.ex (.call (o + 0) (.cons (.var 2) (.cons (.con (vS [109, 97, 114, 107])) (.cons (.var 0) .nil))))) (.cons (.ex (.call (o + 3) (.cons (.var 2) (.cons (.var 1) .nil)))) (.cons (.ret (.var 2)) .nil))))
def dS4 (o : Nat) : FDef := ⟨("pieces_of" : Str), [("mark" : Str), ("parts" : Str), ("pieces" : Str)], 2, bS4 o⟩
def bS5 (o : Nat) : Sms := (.cons (.ret (.join (.con (vS [])) (.lc 1 (.ls (.var 0)) (.idx (.var 1) (.con (.int 1)))))) .nil)
def dS5 (o : Nat) : FDef := ⟨("text_of" : Str), [("pieces" : Str), ("piece" : Str)], 1, bS5 o⟩
def bS6 (o : Nat) : Sms := (.cons (.ret (.call (o + 5) (.cons (.call (o + 4) (.cons (.con (vS [])) (.cons (.var 0) .nil))) .nil))) .nil)
def dS6 (o : Nat) : FDef := ⟨("row_of" : Str), [("parts" : Str)], 1, bS6 o⟩
structure ST (T : Tbl) (io : Nat → Bool) (X : Exn) (o : Nat) : Prop where
  f0 : T.fns[o + 0]? = some (dS0 o)
  f1 : T.fns[o + 1]? = some (dS1 o)
  f2 : T.fns[o + 2]? = some (dS2 o)
  f3 : T.fns[o + 3]? = some (dS3 o)
  f4 : T.fns[o + 4]? = some (dS4 o)
  f5 : T.fns[o + 5]? = some (dS5 o)
  f6 : T.fns[o + 6]? = some (dS6 o)
  i : ∀ k, io (o + k) = decide (k < 4) ∨ 7 ≤ k
  x : ∀ k, X (o + k) = none ∨ 7 ≤ k
section
variable {T : Tbl} {io : Nat → Bool} {X : Exn} {wf : Nat} {G : Gd} {z : Bool} {N C : DS → Prop} {R : Dat → Prop} {ρ : DS}
theorem ST.io1 {o k : Nat} (S : ST T io X o) (h : k < 4) : io (o + k) = true := by
  rcases S.i k with e | e
  · rw [e, decide_eq_true h]
  · omega
theorem ST.io0 {o k : Nat} (S : ST T io X o) (h : 4 ≤ k) (h2 : k < 7) : io (o + k) = false := by
  rcases S.i k with e | e
  · rw [e, decide_eq_false (by omega)]
  · omega
theorem ST.xn {o k : Nat} (S : ST T io X o) (h2 : k < 7) : X (o + k) = none := by
  rcases S.x k with e | e
  · exact e
  · omega
theorem call_gen {f : Nat} {d : FDef} (hx : X f = none) (hf : T.fns[f]? = some d) (n : Nat) (ds : List Dat) (hl : ds.length = d.np) : callD T io X wf (n + 1) f ds = outD (io f) (exDs T io (callD T io X wf n) wf (io f) d.body (startD d.N.length (io f) ds)) := by
  rw [callD]
  simp only [hx, hf, decide_eq_true hl]
  rfl
/-! ### rules for any def -/
theorem zat_nil (h : N ρ) : Sat (exDs T io G wf z .nil ρ) N C R := by
  rw [exDs]
  exact ⟨h⟩
theorem zat_cons {s : Sm} {r : Sms} (h : Sat (exD T io G wf z s ρ) (fun ρ' => Sat (exDs T io G wf z r ρ') N C R) C R) : Sat (exDs T io G wf z (.cons s r) ρ) N C R := by
  rw [exDs]
  exact h.bind
theorem zat_ite {c : Ex} {a b : Sms} (t : Bool) (h : evD T io G c (vals ρ) = .ok (.bl t)) (ka : t = true → Sat (exDs T io G wf z a ρ) N C R) (kb : t = false → Sat (exDs T io G wf z b ρ) N C R) : Sat (exD T io G wf z (.ite c a b) ρ) N C R := by
  rw [exD_ite, h, onRsE]
  cases t with
  | true => exact ka rfl
  | false => exact kb rfl
theorem zat_iteP {c : Ex} {a b : Sms} (p : Prop) [Decidable p] (h : evD T io G c (vals ρ) = .ok (.bl (decide p))) (ka : p → Sat (exDs T io G wf z a ρ) N C R) (kb : ¬p → Sat (exDs T io G wf z b ρ) N C R) : Sat (exD T io G wf z (.ite c a b) ρ) N C R :=
  zat_ite _ h (fun e => ka (of_decide_eq_true e)) (fun e => kb (of_decide_eq_false e))
theorem zat_asg {i : Nat} {e : Ex} (d : Dat) (hi : okSlot z i ρ = true) (h : evD T io G e (vals ρ) = .ok d) (k : N ((unown e d ρ).set i (some (d, fresh e && isLst d)))) : Sat (exD T io G wf z (.asg i e) ρ) N C R := by
  rw [exD_asg hi, h]
  exact ⟨k⟩
theorem zat_ret {e : Ex} (d : Dat) (h : evD T io G e (vals ρ) = .ok d) (k : R d) : Sat (exD T io G wf z (.ret e) ρ) N C R := by
  rw [exD, h]
  exact ⟨k⟩
theorem zat_rrep {e : Ex} {y w : List Nat} (x : List Nat) (h : evD T io G e (vals ρ) = .ok (.str x)) (hy : 1 ≤ y.length) (hb : x.length + (x.length + 1) * w.length ≤ 16777216) (k : R (.str (StrLaws.replL y w x))) : Sat (exD T io G wf z (.rrep e y w) ρ) N C R := by
  rw [exD, h, onRsE]
  simp only [show leq (x.length + (x.length + 1) * w.length) 16777216 = true from decide_eq_true hb, show leq 1 y.length = true from decide_eq_true hy, Bool.and_self]
  exact ⟨k⟩
theorem zat_wrd {sg : Nat} {num size : Int} {c S : List Nat} {l : List Dat} (hio : io sg = false) (hg : G sg [] = .ok (.str S, l)) (e0 : ρ.getD 0 none = some (.int num, false)) (e1 : ρ.getD 1 none = some (.int size, false)) (e2 : ρ.getD 2 none = some (.str c, false))
    (c1 : 0 ≤ size) (c2 : size ≤ 1000) (c3 : 1 ≤ c.length) (c4 : c ≠ [120]) (c5 : S.length = 94) (k : R (.str (StrLaws.replL c [120] (wList S num size.toNat)))) : Sat (exD T io G wf z (.wrd sg) ρ) N C R := by
  rw [exD, hio, hg, e0, e1, e2]
  unfold wrdD
  simp only [show leq 1 c.length = true from decide_eq_true c3, decide_eq_true c1, decide_eq_true c2, decide_eq_true c5, show (!(c == [120])) = true by simp [c4], Bool.and_self]
  exact ⟨k⟩
/-- x.append(e), x an own list -/
theorem zat_app {i : Nat} {e : Ex} {ds ds' : List Dat} (d : Dat) (ho : ownAt ρ i = some ds) (h : evD T io G e (vals ρ) = .ok d) (ho' : ownAt (unown e d ρ) i = some ds') (hl : ds'.length < 16777216) (k : N ((unown e d ρ).set i (some (.lst (ds' ++ [d]), true)))) : Sat (exD T io G wf z (.ex (.app (.var i) e)) ρ) N C R := by
  rw [ex_app i e ρ ho, h, onRsE, ho']
  simp only
  rw [decide_eq_true (show ds'.length < sizeLine from hl)]
  exact ⟨k⟩
/-- f(x, ..), f fills the own list x -/
theorem zat_io {f i : Nat} {as : Exs} {ds xs : List Dat} {r : Dat × List Dat} (hio : io f = true) (ho : ownAt ρ i = some ds) (hm : mentA as i = false) (ha : evA T io G as (vals ρ) = .ok xs) (hg : G f (.lst ds :: xs) = .ok r) (k : N ((unownL as xs ρ).set i (some (.lst r.2, true)))) : Sat (exD T io G wf z (.ex (.call f (.cons (.var i) as))) ρ) N C R := by
  rw [exD]
  simp only [hio, ho, hm]
  rw [ha, onRsE, hg, onRsE]
  exact ⟨k⟩
def own1 : Option (Dat × Bool) → Bool
  | some (_, true) => true
  | _ => false
@[simp] theorem own1_n : own1 none = false := rfl
@[simp] theorem own1_s (d : Dat) (b : Bool) : own1 (some (d, b)) = b := by cases b <;> rfl
def noOwn (ρ : DS) : Bool := ρ.all fun x => !own1 x
theorem unownF_no {m : Nat → Bool} : ∀ {ρ : DS} {k : Nat}, noOwn ρ = true → unownF m k ρ = ρ
  | [], k, _ => rfl
  | x :: r, k, h => by
    unfold noOwn at h
    rw [List.all_cons, Bool.and_eq_true] at h
    have ih := unownF_no (m := m) (ρ := r) (k := k + 1) h.2
    rcases x with _ | ⟨d, b⟩
    · simp [unownF, ih]
    · cases b with
      | true => exact absurd h.1 (by simp)
      | false => simp [unownF, ih]
theorem unown_no {e : Ex} {d : Dat} {ρ : DS} (h : noOwn ρ = true) : unown e d ρ = ρ := by
  unfold unown
  rw [unownF_no h]
  cases nolst d <;> rfl
theorem unownI_no {it : Itr} {ρ : DS} (h : noOwn ρ = true) : unownI it ρ = ρ := unownF_no h
theorem unownL_no {as : Exs} {ds : List Dat} {ρ : DS} (h : noOwn ρ = true) : unownL as ds ρ = ρ := by
  unfold unownL
  rw [unownF_no h]
  cases nolstL ds <;> rfl
/-- .., the own list is slot 0, the only own one -/
theorem zat_io0 {f : Nat} {as : Exs} {ds xs : List Dat} {r : Dat × List Dat} {r0 : DS} (hio : io f = true) (hm : mentA as 0 = false) (hr : noOwn r0 = true) (ha : evA T io G as (vals (some (.lst ds, true) :: r0)) = .ok xs) (hg : G f (.lst ds :: xs) = .ok r) (k : N (some (.lst r.2, true) :: r0)) : Sat (exD T io G wf z (.ex (.call f (.cons (.var 0) as))) (some (.lst ds, true) :: r0)) N C R := by
  refine zat_io (ds := ds) hio rfl hm ha hg ?_
  have e : unownL as xs (some (.lst ds, true) :: r0) = some (.lst ds, true) :: r0 := by
    unfold unownL
    cases nolstL xs with
    | true => rfl
    | false =>
      show unownF (mentA as) 0 (some (.lst ds, true) :: r0) = _
      rw [unownF, unownF_no hr, hm]
      rfl
  rw [e]
  exact k
theorem zat_forN {α : Type} {j : Nat} {it : Itr} {b : Sms} (k : α → Dat) (S : Nat → DS → Prop) (xs : List α) (hk : (okSlot z j ρ && forOk z it ρ) = true) (hi : evI T io G it (vals ρ) = .ok (xs.map k)) (h0 : S 0 (unownI it ρ))
    (h : ∀ (i : Nat) ρ (h : i < xs.length), S i ρ → Sat (exDs T io G wf z b (ρ.set j (some (k xs[i], false)))) (S (i + 1)) (S (i + 1)) R) (q : ∀ ρ', S xs.length ρ' → N ρ') : Sat (exD T io G wf z (.for_ j it b) ρ) N C R := by
  rw [ex_for j it b ρ hk, hi, onRsE]
  refine sat_forND (m := 0) (fun i ρ hi hs => ?_) h0 fun ρ' hs => q ρ' (by rwa [Nat.zero_add] at hs)
  rw [Nat.zero_add] at hs ⊢
  exact h i ρ hi hs
/-- what a def that fills its first list gives -/
theorem Sat.outIo {r : Rd} {ds : List Dat} (h : Sat r (fun ρ => ownAt ρ 0 = some ds) (fun _ => False) (fun _ => False)) : outD true r = .ok (.non, ds) := by
  have h := h.out'
  cases r with
  | nx ρ =>
    show (ofO (ownAt ρ 0)).bind _ = _
    rw [show ownAt ρ 0 = some ds from h]
    rfl
  | ct ρ => exact h.elim
  | rt d ρ => exact h.elim
  | ex c => exact h.elim
  | er => exact h.elim
end
/-! ### the pieces -/
def pw (k w : List Nat) : List Dat := if w = [] then [] else [.tup [.str k, .str w]]
abbrev wMark : List Nat := [109, 97, 114, 107]
abbrev wWords : List Nat := [119, 111, 114, 100, 115]
abbrev wKept : List Nat := [107, 101, 112, 116]
abbrev wCode : List Nat := [99, 111, 100, 101]
abbrev wSpan : List Nat := [115, 112, 97, 110]
abbrev wLink : List Nat := [108, 105, 110, 107]
abbrev wTarget : List Nat := [116, 97, 114, 103, 101, 116]
def mk (w : List Nat) : List Dat := [.tup [.str wMark, .str w]]
inductive Shows : Nat → List Dat → List Dat → Prop
  | nil (d : Nat) : Shows d [] []
  | txt {d : Nat} {r q : List Dat} (s : List Nat) (h : Shows d r q) : Shows d (.str s :: r) (pw wWords s ++ q)
  | kept {d : Nat} {r q : List Dat} (s : List Nat) (h : Shows d r q) : Shows d (.tup [.str wKept, .str s] :: r) ((mk [92] ++ pw wKept s) ++ q)
  | code {d : Nat} {r q : List Dat} (s : List Nat) (b : Bool) (h : Shows d r q) : Shows d (.tup [.str wCode, .str s, .bl b] :: r) ((mk [96] ++ pw wCode s ++ (if b = true then mk [96] else [])) ++ q)
  | span {d : Nat} {r q ps q1 : List Dat} (m : List Nat) (b : Bool) (hm : m.length ≤ 1000) (h1 : Shows d ps q1) (h : Shows (d + 1) r q) : Shows (d + 1) (.tup [.str wSpan, .str m, .lst ps, .bl b] :: r) ((mk (m ++ [40]) ++ q1 ++ (if b = true then mk [41] else [])) ++ q)
  | linkN {d : Nat} {r q ps q1 : List Dat} (b : Bool) (h1 : Shows d ps q1) (h : Shows (d + 1) r q) : Shows (d + 1) (.tup [.str wLink, .lst ps, .non, .bl b] :: r) ((mk [91] ++ q1 ++ (if b = true then mk [93] else [])) ++ q)
  | linkT {d : Nat} {r q ps q1 : List Dat} (t : List Nat) (b : Bool) (h1 : Shows d ps q1) (h : Shows (d + 1) r q) : Shows (d + 1) (.tup [.str wLink, .lst ps, .str t, .bl b] :: r) ((mk [91] ++ q1 ++ (mk [93, 40] ++ pw wTarget t ++ (if b = true then mk [41] else []))) ++ q)
section
variable {T : Tbl} {io : Nat → Bool} {X : Exn} {wf : Nat} {o : Nat}
theorem c_put (S : ST T io X o) (n : Nat) (acc : List Dat) (k w : List Nat) (h : acc.length < 16777216) : callD T io X wf (n + 1) (o + 0) [.lst acc, .str k, .str w] = .ok (.non, acc ++ pw k w) := by
  rw [call_gen (S.xn (by omega)) S.f0 n _ rfl, S.io1 (by omega)]
  refine Sat.outIo ?_
  show Sat (exDs T io _ wf true (bS0 o) [some (.lst acc, true), some (.str k, false), some (.str w, false)]) _ _ _
  unfold bS0 pw
  refine zat_cons (zat_iteP (¬ w = []) ?_ ?_ ?_)
  · simp [lookD]
  · intro e
    rw [if_neg e]
    refine zat_cons (zat_app (.tup [.str k, .str w]) (ds := acc) (ds' := acc) rfl ?_ ?_ h ?_)
    · simp [lookD]
    · simp [ownAt]
    · exact zat_nil (zat_nil (by simp [ownAt]))
  · intro e
    have e : w = [] := by simpa using e
    rw [if_pos e]
    exact zat_nil (zat_nil (by simp [ownAt]))
theorem pw_mark {w : List Nat} (h : w ≠ []) : pw wMark w = mk w := by
  unfold pw mk
  rw [if_neg h]
theorem c_putM (S : ST T io X o) (n : Nat) (acc : List Dat) (w : List Nat) (hw : w ≠ []) (h : acc.length < 16777216) : callD T io X wf (n + 1) (o + 0) [.lst acc, .str wMark, .str w] = .ok (.non, acc ++ mk w) := by
  rw [c_put S n acc _ _ h, pw_mark hw]
theorem mk_len (w : List Nat) : (mk w).length = 1 := rfl
theorem pw_len (k w : List Nat) : (pw k w).length ≤ 1 := by
  unfold pw
  split <;> simp
theorem c_kept (S : ST T io X o) (n : Nat) (acc : List Dat) (s : List Nat) (h : acc.length + 2 < 16777216) : callD T io X wf (n + 2) (o + 2) [.lst acc, .tup [.str wKept, .str s]] = .ok (.non, acc ++ (mk [92] ++ pw wKept s)) := by
  rw [call_gen (S.xn (by omega)) S.f2 (n + 1) _ rfl, S.io1 (by omega)]
  refine Sat.outIo ?_
  show Sat (exDs T io _ wf true (bS2 o) [some (.lst acc, true), some (.tup [.str wKept, .str s], false)]) _ _ _
  unfold bS2
  refine zat_cons (zat_ite true ?_ (fun _ => ?_) (fun e => by cases e))
  · simp [lookD, Fw.at_pos]
  refine zat_cons (zat_io0 (ds := acc) (S.io1 (by omega)) rfl rfl (xs := [.str wMark, .str [92]]) (by simp) (c_putM S n acc [92] (by simp) (by omega)) ?_)
  refine zat_cons (zat_io0 (ds := acc ++ mk [92]) (S.io1 (by omega)) rfl rfl (xs := [.str wKept, .str s]) (by simp [lookD, Fw.at_pos]) (c_put S n _ _ _ (by simp [mk_len]; omega)) ?_)
  refine zat_nil (zat_nil ?_)
  simp [ownAt]
theorem c_code (S : ST T io X o) (n : Nat) (acc : List Dat) (s : List Nat) (b : Bool) (h : acc.length + 3 < 16777216) : callD T io X wf (n + 2) (o + 2) [.lst acc, .tup [.str wCode, .str s, .bl b]] = .ok (.non, acc ++ (mk [96] ++ pw wCode s ++ (if b = true then mk [96] else []))) := by
  rw [call_gen (S.xn (by omega)) S.f2 (n + 1) _ rfl, S.io1 (by omega)]
  refine Sat.outIo ?_
  show Sat (exDs T io _ wf true (bS2 o) [some (.lst acc, true), some (.tup [.str wCode, .str s, .bl b], false)]) _ _ _
  have hp := pw_len wCode s
  unfold bS2
  refine zat_cons (zat_ite false ?_ (fun e => by cases e) (fun _ => ?_))
  · simp [lookD, Fw.at_pos]
  refine zat_cons (zat_ite true ?_ (fun _ => ?_) (fun e => by cases e))
  · simp [lookD, Fw.at_pos]
  refine zat_cons (zat_io0 (ds := acc) (S.io1 (by omega)) rfl rfl (xs := [.str wMark, .str [96]]) (by simp) (c_putM S n acc [96] (by simp) (by omega)) ?_)
  refine zat_cons (zat_io0 (ds := acc ++ mk [96]) (S.io1 (by omega)) rfl rfl (xs := [.str wCode, .str s]) (by simp [lookD, Fw.at_pos]) (c_put S n _ _ _ (by simp [mk_len]; omega)) ?_)
  refine zat_cons (zat_ite b (by simp [lookD, Fw.at_pos]) ?_ ?_)
  · intro e
    subst e
    refine zat_cons (zat_io0 (ds := acc ++ mk [96] ++ pw wCode s) (S.io1 (by omega)) rfl rfl (xs := [.str wMark, .str [96]]) (by simp) (c_putM S n _ [96] (by simp) (by simp [mk_len]; omega)) ?_)
    refine zat_nil (zat_nil (zat_nil (zat_nil ?_)))
    simp [ownAt]
  · intro e
    subst e
    refine zat_nil (zat_nil (zat_nil (zat_nil ?_)))
    simp [ownAt]
theorem c_span (S : ST T io X o) (n : Nat) (acc : List Dat) (m : List Nat) (ps q1 : List Dat) (b : Bool) (hm : m.length ≤ 1000) (h : acc.length + q1.length + 1 < 16777200) (hin : ∀ acc : List Dat, acc.length + q1.length < 16777200 → callD T io X wf (n + 1) (o + 3) [.lst acc, .lst ps] = .ok (.non, acc ++ q1)) : callD T io X wf (n + 2) (o + 2) [.lst acc, .tup [.str wSpan, .str m, .lst ps, .bl b]] = .ok (.non, acc ++ (mk (m ++ [40]) ++ q1 ++ (if b = true then mk [41] else []))) := by
  rw [call_gen (S.xn (by omega)) S.f2 (n + 1) _ rfl, S.io1 (by omega)]
  refine Sat.outIo ?_
  show Sat (exDs T io _ wf true (bS2 o) [some (.lst acc, true), some (.tup [.str wSpan, .str m, .lst ps, .bl b], false)]) _ _ _
  unfold bS2
  refine zat_cons (zat_ite false ?_ (fun e => by cases e) (fun _ => ?_))
  · simp [lookD, Fw.at_pos]
  refine zat_cons (zat_ite false ?_ (fun e => by cases e) (fun _ => ?_))
  · simp [lookD, Fw.at_pos]
  refine zat_cons (zat_ite true ?_ (fun _ => ?_) (fun e => by cases e))
  · simp [lookD, Fw.at_pos]
  refine zat_cons (zat_io0 (ds := acc) (S.io1 (by omega)) rfl rfl (xs := [.str wMark, .str (m ++ [40])]) (by simp (disch := first | omega | (simp only [List.length_cons, List.length_nil]; omega)) [lookD, Fw.at_pos]) (c_putM S n acc (m ++ [40]) (by simp) (by omega)) ?_)
  refine zat_cons (zat_io0 (ds := acc ++ mk (m ++ [40])) (S.io1 (by omega)) rfl rfl (xs := [.lst ps]) (by simp [lookD, Fw.at_pos]) (hin _ (by simp [mk_len]; omega)) ?_)
  refine zat_cons (zat_ite b (by simp [lookD, Fw.at_pos]) ?_ ?_)
  · intro e
    subst e
    refine zat_cons (zat_io0 (ds := acc ++ mk (m ++ [40]) ++ q1) (S.io1 (by omega)) rfl rfl (xs := [.str wMark, .str [41]]) (by simp) (c_putM S n _ [41] (by simp) (by simp [mk_len]; omega)) ?_)
    refine zat_nil (zat_nil (zat_nil (zat_nil (zat_nil ?_))))
    simp [ownAt]
  · intro e
    subst e
    refine zat_nil (zat_nil (zat_nil (zat_nil (zat_nil ?_))))
    simp [ownAt]
theorem c_linkN (S : ST T io X o) (n : Nat) (acc : List Dat) (ps q1 : List Dat) (b : Bool) (h : acc.length + q1.length + 1 < 16777200) (hin : ∀ acc : List Dat, acc.length + q1.length < 16777200 → callD T io X wf (n + 1) (o + 3) [.lst acc, .lst ps] = .ok (.non, acc ++ q1)) : callD T io X wf (n + 2) (o + 1) [.lst acc, .tup [.str wLink, .lst ps, .non, .bl b]] = .ok (.non, acc ++ (mk [91] ++ q1 ++ (if b = true then mk [93] else []))) := by
  rw [call_gen (S.xn (by omega)) S.f1 (n + 1) _ rfl, S.io1 (by omega)]
  refine Sat.outIo ?_
  show Sat (exDs T io _ wf true (bS1 o) [some (.lst acc, true), some (.tup [.str wLink, .lst ps, .non, .bl b], false)]) _ _ _
  unfold bS1
  refine zat_cons (zat_io0 (ds := acc) (S.io1 (by omega)) rfl rfl (xs := [.str wMark, .str [91]]) (by simp) (c_putM S n acc [91] (by simp) (by omega)) ?_)
  refine zat_cons (zat_io0 (ds := acc ++ mk [91]) (S.io1 (by omega)) rfl rfl (xs := [.lst ps]) (by simp [lookD, Fw.at_pos]) (hin _ (by simp [mk_len]; omega)) ?_)
  refine zat_cons (zat_ite false (by simp [lookD, Fw.at_pos]) (fun e => by cases e) (fun _ => ?_))
  refine zat_cons (zat_ite b (by simp [lookD, Fw.at_pos]) ?_ ?_)
  · intro e
    subst e
    refine zat_cons (zat_io0 (ds := acc ++ mk [91] ++ q1) (S.io1 (by omega)) rfl rfl (xs := [.str wMark, .str [93]]) (by simp) (c_putM S n _ [93] (by simp) (by simp [mk_len]; omega)) ?_)
    refine zat_nil (zat_nil (zat_nil ?_))
    simp [ownAt]
  · intro e
    subst e
    refine zat_nil (zat_nil (zat_nil ?_))
    simp [ownAt]
theorem c_linkT (S : ST T io X o) (n : Nat) (acc : List Dat) (ps q1 : List Dat) (t : List Nat) (b : Bool) (h : acc.length + q1.length + 1 < 16777200) (hin : ∀ acc : List Dat, acc.length + q1.length < 16777200 → callD T io X wf (n + 1) (o + 3) [.lst acc, .lst ps] = .ok (.non, acc ++ q1)) : callD T io X wf (n + 2) (o + 1) [.lst acc, .tup [.str wLink, .lst ps, .str t, .bl b]] = .ok (.non, acc ++ (mk [91] ++ q1 ++ (mk [93, 40] ++ pw wTarget t ++ (if b = true then mk [41] else [])))) := by
  rw [call_gen (S.xn (by omega)) S.f1 (n + 1) _ rfl, S.io1 (by omega)]
  refine Sat.outIo ?_
  show Sat (exDs T io _ wf true (bS1 o) [some (.lst acc, true), some (.tup [.str wLink, .lst ps, .str t, .bl b], false)]) _ _ _
  have hp := pw_len wTarget t
  unfold bS1
  refine zat_cons (zat_io0 (ds := acc) (S.io1 (by omega)) rfl rfl (xs := [.str wMark, .str [91]]) (by simp) (c_putM S n acc [91] (by simp) (by omega)) ?_)
  refine zat_cons (zat_io0 (ds := acc ++ mk [91]) (S.io1 (by omega)) rfl rfl (xs := [.lst ps]) (by simp [lookD, Fw.at_pos]) (hin _ (by simp [mk_len]; omega)) ?_)
  refine zat_cons (zat_ite true (by simp [lookD, Fw.at_pos]) (fun _ => ?_) (fun e => by cases e))
  refine zat_cons (zat_io0 (ds := acc ++ mk [91] ++ q1) (S.io1 (by omega)) rfl rfl (xs := [.str wMark, .str [93, 40]]) (by simp) (c_putM S n _ [93, 40] (by simp) (by simp [mk_len]; omega)) ?_)
  refine zat_cons (zat_io0 (ds := acc ++ mk [91] ++ q1 ++ mk [93, 40]) (S.io1 (by omega)) rfl rfl (xs := [.str wTarget, .str t]) (by simp [lookD, Fw.at_pos]) (c_put S n _ _ _ (by simp [mk_len]; omega)) ?_)
  refine zat_cons (zat_ite b (by simp [lookD, Fw.at_pos]) ?_ ?_)
  · intro e
    subst e
    refine zat_cons (zat_io0 (ds := acc ++ mk [91] ++ q1 ++ mk [93, 40] ++ pw wTarget t) (S.io1 (by omega)) rfl rfl (xs := [.str wMark, .str [41]]) (by simp) (c_putM S n _ [41] (by simp) (by simp [mk_len]; omega)) ?_)
    refine zat_nil (zat_nil (zat_nil ?_))
    simp [ownAt]
  · intro e
    subst e
    refine zat_nil (zat_nil (zat_nil ?_))
    simp [ownAt]
/-- put_mark hands links on -/
theorem c_mlink (S : ST T io X o) (n : Nat) (acc es q : List Dat) (h : callD T io X wf (n + 1) (o + 1) [.lst acc, .tup (.str wLink :: es)] = .ok (.non, acc ++ q)) : callD T io X wf (n + 2) (o + 2) [.lst acc, .tup (.str wLink :: es)] = .ok (.non, acc ++ q) := by
  rw [call_gen (S.xn (by omega)) S.f2 (n + 1) _ rfl, S.io1 (by omega)]
  refine Sat.outIo ?_
  show Sat (exDs T io _ wf true (bS2 o) [some (.lst acc, true), some (.tup (.str wLink :: es), false)]) _ _ _
  unfold bS2
  refine zat_cons (zat_ite false ?_ (fun e => by cases e) (fun _ => ?_))
  · simp [lookD, Fw.at_pos]
  refine zat_cons (zat_ite false ?_ (fun e => by cases e) (fun _ => ?_))
  · simp [lookD, Fw.at_pos]
  refine zat_cons (zat_ite false ?_ (fun e => by cases e) (fun _ => ?_))
  · simp [lookD, Fw.at_pos]
  refine zat_cons (zat_io0 (ds := acc) (S.io1 (by omega)) rfl rfl (xs := [.tup (.str wLink :: es)]) (by simp [lookD, Fw.at_pos]) h ?_)
  refine zat_nil (zat_nil (zat_nil (zat_nil ?_)))
  simp [ownAt]
abbrev loopB (o : Nat) : Sms := .cons (.ite (.isi (.var 2) "str")
 (.cons (.ex (.call (o + 0) (.cons (.var 0) (.cons (.con (vS [119, 111, 114, 100, 115])) (.cons (.var 2) .nil))))) .nil)
 (.cons (.ex (.call (o + 2) (.cons (.var 0) (.cons (.var 2) .nil)))) .nil)) .nil
/-- put_parts, by its loop -/
theorem c_loop (S : ST T io X o) (n : Nat) (acc ps q : List Dat) (h : ∃ x', forD 2 (exDs T io (callD T io X wf n) wf true (loopB o)) ps [some (.lst acc, true), some (.lst ps, false), none] = .nx [some (.lst (acc ++ q), true), some (.lst ps, false), x']) : callD T io X wf (n + 1) (o + 3) [.lst acc, .lst ps] = .ok (.non, acc ++ q) := by
  obtain ⟨x', h⟩ := h
  rw [call_gen (S.xn (by omega)) S.f3 n _ rfl, S.io1 (by omega)]
  refine Sat.outIo ?_
  show Sat (exDs T io _ wf true (bS3 o) [some (.lst acc, true), some (.lst ps, false), none]) _ _ _
  unfold bS3
  refine zat_cons ?_
  rw [ex_for 2 _ _ _ rfl]
  simp only [ei_ls, ev_var, lookD, bind_ok, it_lst, onRsE]
  rw [show unownI (.ls (.var 1)) [some (.lst acc, true), some (.lst ps, false), none] = [some (.lst acc, true), some (.lst ps, false), none] from by simp [unownI, unownF, mentI, ment], h]
  show Sat (exDs T io (callD T io X wf n) wf true .nil [some (.lst (acc ++ q), true), some (.lst ps, false), x']) _ _ _
  refine zat_nil ?_
  show Sat (exDs T io (callD T io X wf n) wf true .nil [some (.lst (acc ++ q), true), some (.lst ps, false), x']) _ _ _
  exact zat_nil (by simp [ownAt])
/-- a turn of the loop -/
theorem loop_str {n : Nat} {acc ps0 r : List Dat} {s : List Nat} {x : Option (Dat × Bool)} (S : ST T io X o) (h : acc.length < 16777216) : forD 2 (exDs T io (callD T io X wf (n + 1)) wf true (loopB o)) (.str s :: r) [some (.lst acc, true), some (.lst ps0, false), x] = forD 2 (exDs T io (callD T io X wf (n + 1)) wf true (loopB o)) r [some (.lst (acc ++ pw wWords s), true), some (.lst ps0, false), some (.str s, false)] := by
  rw [forD]
  have : exDs T io (callD T io X wf (n + 1)) wf true (loopB o) [some (.lst acc, true), some (.lst ps0, false), some (.str s, false)] = .nx [some (.lst (acc ++ pw wWords s), true), some (.lst ps0, false), some (.str s, false)] := by
    have hs : Sat (exDs T io (callD T io X wf (n + 1)) wf true (loopB o) [some (.lst acc, true), some (.lst ps0, false), some (.str s, false)]) (fun ρ => ρ = [some (.lst (acc ++ pw wWords s), true), some (.lst ps0, false), some (.str s, false)]) (fun _ => False) (fun _ => False) := by
      refine zat_cons (zat_ite true (by simp [lookD]) (fun _ => ?_) (fun e => by cases e))
      refine zat_cons (zat_io0 (ds := acc) (S.io1 (by omega)) rfl rfl (xs := [.str wWords, .str s]) (by simp [lookD]) (c_put S n _ _ _ (by omega)) ?_)
      exact zat_nil (zat_nil rfl)
    revert hs
    cases exDs T io (callD T io X wf (n + 1)) wf true (loopB o) [some (.lst acc, true), some (.lst ps0, false), some (.str s, false)] with
    | nx ρ => exact fun hs => congrArg Rd.nx hs.out'
    | ct ρ => exact fun hs => hs.out'.elim
    | rt d ρ => exact fun hs => hs.out'.elim
    | ex c => exact fun hs => hs.out'.elim
    | er => exact fun hs => hs.out'.elim
  simp only [List.set_cons_succ, List.set_cons_zero, this]
theorem loop_tup {n : Nat} {acc ps0 r es q : List Dat} {x : Option (Dat × Bool)} (S : ST T io X o) (h : callD T io X wf n (o + 2) [.lst acc, .tup es] = .ok (.non, acc ++ q)) : forD 2 (exDs T io (callD T io X wf n) wf true (loopB o)) (.tup es :: r) [some (.lst acc, true), some (.lst ps0, false), x] = forD 2 (exDs T io (callD T io X wf n) wf true (loopB o)) r [some (.lst (acc ++ q), true), some (.lst ps0, false), some (.tup es, false)] := by
  rw [forD]
  have : exDs T io (callD T io X wf n) wf true (loopB o) [some (.lst acc, true), some (.lst ps0, false), some (.tup es, false)] = .nx [some (.lst (acc ++ q), true), some (.lst ps0, false), some (.tup es, false)] := by
    have hs : Sat (exDs T io (callD T io X wf n) wf true (loopB o) [some (.lst acc, true), some (.lst ps0, false), some (.tup es, false)]) (fun ρ => ρ = [some (.lst (acc ++ q), true), some (.lst ps0, false), some (.tup es, false)]) (fun _ => False) (fun _ => False) := by
      refine zat_cons (zat_ite false (by simp [lookD]) (fun e => by cases e) (fun _ => ?_))
      refine zat_cons (zat_io0 (ds := acc) (S.io1 (by omega)) rfl rfl (xs := [.tup es]) (by simp [lookD]) h ?_)
      exact zat_nil (zat_nil rfl)
    revert hs
    cases exDs T io (callD T io X wf n) wf true (loopB o) [some (.lst acc, true), some (.lst ps0, false), some (.tup es, false)] with
    | nx ρ => exact fun hs => congrArg Rd.nx hs.out'
    | ct ρ => exact fun hs => hs.out'.elim
    | rt d ρ => exact fun hs => hs.out'.elim
    | ex c => exact fun hs => hs.out'.elim
    | er => exact fun hs => hs.out'.elim
  simp only [List.set_cons_succ, List.set_cons_zero, this]
theorem c_shows (S : ST T io X o) {d : Nat} {ps q : List Dat} (h : Shows d ps q) : ∀ (n : Nat) (acc ps0 : List Dat) (x : Option (Dat × Bool)), 3 * d + 2 ≤ n → acc.length + q.length < 16777200 → ∃ x', forD 2 (exDs T io (callD T io X wf n) wf true (loopB o)) ps [some (.lst acc, true), some (.lst ps0, false), x] = .nx [some (.lst (acc ++ q), true), some (.lst ps0, false), x'] := by
  induction h with
  | nil d =>
    intro n acc ps0 x _ _
    exact ⟨x, by rw [List.append_nil]; rfl⟩
  | @txt d r q s h ih =>
    intro n acc ps0 x hn hl
    obtain ⟨n, rfl⟩ : ∃ m, n = m + 1 := ⟨n - 1, by omega⟩
    rw [List.length_append] at hl
    obtain ⟨x', e⟩ := ih (n + 1) (acc ++ pw wWords s) ps0 (some (.str s, false)) hn (by rw [List.length_append]; omega)
    refine ⟨x', ?_⟩
    rw [loop_str S (by omega), e, List.append_assoc]
  | @kept d r q s h ih =>
    intro n acc ps0 x hn hl
    obtain ⟨n, rfl⟩ : ∃ m, n = m + 2 := ⟨n - 2, by omega⟩
    have hp := pw_len wKept s
    simp only [List.length_append, mk_len] at hl
    obtain ⟨x', e⟩ := ih (n + 2) (acc ++ (mk [92] ++ pw wKept s)) ps0 (some (.tup [.str wKept, .str s], false)) hn (by simp only [List.length_append, mk_len]; omega)
    refine ⟨x', ?_⟩
    rw [loop_tup S (c_kept S n acc s (by first | omega | (simp only [List.length_append, mk_len] at hl; omega))), e]
    simp only [List.append_assoc]
  | @code d r q s b h ih =>
    intro n acc ps0 x hn hl
    obtain ⟨n, rfl⟩ : ∃ m, n = m + 2 := ⟨n - 2, by omega⟩
    rw [List.length_append] at hl
    obtain ⟨x', e⟩ := ih (n + 2) (acc ++ (mk [96] ++ pw wCode s ++ (if b = true then mk [96] else []))) ps0 (some (.tup [.str wCode, .str s, .bl b], false)) hn (by rw [List.length_append]; omega)
    refine ⟨x', ?_⟩
    rw [loop_tup S (c_code S n acc s b (by first | omega | (simp only [List.length_append, mk_len] at hl; omega))), e]
    simp only [List.append_assoc]
  | @span d r q ps q1 m b hm h1 h ih1 ih =>
    intro n acc ps0 x hn hl
    obtain ⟨n, rfl⟩ : ∃ m, n = m + 2 := ⟨n - 2, by omega⟩
    rw [List.length_append] at hl
    obtain ⟨x', e⟩ := ih (n + 2) (acc ++ (mk (m ++ [40]) ++ q1 ++ (if b = true then mk [41] else []))) ps0 (some (.tup [.str wSpan, .str m, .lst ps, .bl b], false)) hn (by rw [List.length_append]; omega)
    refine ⟨x', ?_⟩
    rw [loop_tup S (c_span S n acc m ps q1 b hm (by first | omega | (simp only [List.length_append, mk_len] at hl; omega)) fun acc' ha => c_loop S n acc' ps q1 (ih1 n acc' ps none (by omega) ha)), e]
    simp only [List.append_assoc]
  | @linkN d r q ps q1 b h1 h ih1 ih =>
    intro n acc ps0 x hn hl
    obtain ⟨n, rfl⟩ : ∃ m, n = m + 3 := ⟨n - 3, by omega⟩
    rw [List.length_append] at hl
    obtain ⟨x', e⟩ := ih (n + 3) (acc ++ (mk [91] ++ q1 ++ (if b = true then mk [93] else []))) ps0 (some (.tup [.str wLink, .lst ps, .non, .bl b], false)) hn (by rw [List.length_append]; omega)
    refine ⟨x', ?_⟩
    rw [loop_tup S (c_mlink S (n + 1) acc _ _ (c_linkN S n acc ps q1 b (by first | omega | (simp only [List.length_append, mk_len] at hl; omega)) fun acc' ha => c_loop S n acc' ps q1 (ih1 n acc' ps none (by omega) ha))), e]
    simp only [List.append_assoc]
  | @linkT d r q ps q1 t b h1 h ih1 ih =>
    intro n acc ps0 x hn hl
    obtain ⟨n, rfl⟩ : ∃ m, n = m + 3 := ⟨n - 3, by omega⟩
    rw [List.length_append] at hl
    obtain ⟨x', e⟩ := ih (n + 3) (acc ++ (mk [91] ++ q1 ++ (mk [93, 40] ++ pw wTarget t ++ (if b = true then mk [41] else [])))) ps0 (some (.tup [.str wLink, .lst ps, .str t, .bl b], false)) hn (by rw [List.length_append]; omega)
    refine ⟨x', ?_⟩
    rw [loop_tup S (c_mlink S (n + 1) acc _ _ (c_linkT S n acc ps q1 t b (by first | omega | (simp only [List.length_append, mk_len] at hl; omega)) fun acc' ha => c_loop S n acc' ps q1 (ih1 n acc' ps none (by omega) ha))), e]
    simp only [List.append_assoc]
end
end Fw

set_option maxHeartbeats 4000000
namespace Fw
open PySem PySem.Spec PyProof.Rows L2
def wordD : Dat → List Nat
  | .tup [_, .str w] => w
  | _ => []
def IsPc (x : Dat) : Prop := ∃ k w, x = .tup [.str k, .str w]
def txt (q : List Dat) : List Nat := (q.map wordD).flatten
theorem txt_app (p q : List Dat) : txt (p ++ q) = txt p ++ txt q := by simp [txt]
theorem txt_mk (w : List Nat) : txt (mk w) = w := by simp [txt, mk, wordD]
theorem txt_pw (k w : List Nat) : txt (pw k w) = w := by
  unfold pw
  split
  · rename_i h
    rw [h]
    rfl
  · simp [txt, wordD]
theorem pc_pw (k w : List Nat) : ∀ x ∈ pw k w, IsPc x := by
  unfold pw
  split
  · simp
  · intro x hx
    rw [List.mem_singleton.mp hx]
    exact ⟨k, w, rfl⟩
theorem pc_mk (w : List Nat) : ∀ x ∈ mk w, IsPc x := by
  intro x hx
  rw [List.mem_singleton.mp hx]
  exact ⟨_, w, rfl⟩
theorem pc_app {p q : List Dat} (h : ∀ x ∈ p, IsPc x) (g : ∀ x ∈ q, IsPc x) : ∀ x ∈ p ++ q, IsPc x := fun x hx => (List.mem_append.mp hx).elim (h x) (g x)
theorem Shows.pc {d : Nat} {ps q : List Dat} (h : Shows d ps q) : ∀ x ∈ q, IsPc x := by
  induction h with
  | nil d => simp
  | txt s h ih => exact pc_app (pc_pw _ _) ih
  | kept s h ih => exact pc_app (pc_app (pc_mk _) (pc_pw _ _)) ih
  | code s b h ih =>
    refine pc_app (pc_app (pc_app (pc_mk _) (pc_pw _ _)) ?_) ih
    split
    · exact pc_mk _
    · simp
  | span m b hm h1 h ih1 ih =>
    refine pc_app (pc_app (pc_app (pc_mk _) ih1) ?_) ih
    split
    · exact pc_mk _
    · simp
  | linkN b h1 h ih1 ih =>
    refine pc_app (pc_app (pc_app (pc_mk _) ih1) ?_) ih
    split
    · exact pc_mk _
    · simp
  | linkT t b h1 h ih1 ih =>
    refine pc_app (pc_app (pc_app (pc_mk _) ih1) (pc_app (pc_app (pc_mk _) (pc_pw _ _)) ?_)) ih
    split
    · exact pc_mk _
    · simp
theorem strsD_of {f : Dat → List Nat} : ∀ {xs : List Dat}, strsD (xs.map fun x => .str (f x)) = some (xs.map f) := strsD_map f _
section
variable {T : Tbl} {io : Nat → Bool} {X : Exn} {wf : Nat} {o : Nat}
theorem c_parts (S : ST T io X o) {d : Nat} {ps q : List Dat} (h : Shows d ps q) (n : Nat) (acc : List Dat) (hn : 3 * d + 3 ≤ n) (hl : acc.length + q.length < 16777200) : callD T io X wf n (o + 3) [.lst acc, .lst ps] = .ok (.non, acc ++ q) := by
  obtain ⟨n, rfl⟩ : ∃ m, n = m + 1 := ⟨n - 1, by omega⟩
  exact c_loop S n acc ps q (c_shows S h n acc ps none (by omega) hl)
theorem c_pieces (S : ST T io X o) {d : Nat} {ps q : List Dat} (h : Shows d ps q) (n : Nat) (m : List Nat) (hn : 3 * d + 4 ≤ n) (hl : q.length < 16777100) : callD T io X wf n (o + 4) [.str m, .lst ps] = .ok (.lst (pw wMark m ++ q), []) := by
  obtain ⟨n, rfl⟩ : ∃ m, n = m + 2 := ⟨n - 2, by omega⟩
  rw [call_gen (S.xn (by omega)) S.f4 (n + 1) _ rfl, S.io0 (by omega) (by omega)]
  have hp := pw_len wMark m
  suffices hs : Sat (exDs T io (callD T io X wf (n + 1)) wf false (bS4 o) [some (.str m, false), some (.lst ps, false), none]) (fun _ => False) (fun _ => False) (fun d => d = .lst (pw wMark m ++ q)) by
    obtain ⟨d, e, rfl⟩ := (hs.mono (fun _ h => h.elim) (fun _ h => h) (fun _ h => h)).out
    exact e
  unfold bS4
  refine zat_cons (zat_asg (.lst []) rfl (by simp) ?_)
  rw [un_lst]
  simp only [unownF, List.set_cons_succ, List.set_cons_zero]
  refine zat_cons (zat_io (i := 2) (ds := []) (S.io1 (by omega)) rfl rfl (xs := [.str wMark, .str m]) (by simp [lookD]) (c_put S n [] _ _ (by simp)) ?_)
  rw [show unownL (.cons (.con (vS [109, 97, 114, 107])) (.cons (.var 0) .nil)) [.str wMark, .str m] [some (.str m, false), some (.lst ps, false), some (.lst [], fresh (.lst .nil) && isLst (.lst []))] = [some (.str m, false), some (.lst ps, false), some (.lst [], true)] from by simp [unownL, Fw.fresh]]
  simp only [List.set_cons_succ, List.set_cons_zero]
  refine zat_cons (zat_io (i := 2) (ds := [] ++ pw wMark m) (S.io1 (by omega)) rfl rfl (xs := [.lst ps]) (by simp [lookD]) (c_parts S h (n + 1) _ (by omega) (by simp; omega)) ?_)
  rw [show unownL (.cons (.var 1) .nil) [.lst ps] [some (.str m, false), some (.lst ps, false), some (.lst ([] ++ pw wMark m), true)] = [some (.str m, false), some (.lst ps, false), some (.lst ([] ++ pw wMark m), true)] from by simp [unownL, unownF, mentA, ment]]
  refine zat_cons (zat_ret (.lst (pw wMark m ++ q)) ?_ rfl)
  simp [lookD]
theorem c_text (S : ST T io X o) (n : Nat) {q : List Dat} (hq : ∀ x ∈ q, IsPc x) (hl : q.length < 16777216) (ht : (txt q).length ≤ 16777216) : callD T io X wf (n + 1) (o + 5) [.lst q] = .ok (.str (txt q), []) := by
  rw [call_gen (S.xn (by omega)) S.f5 n _ rfl, S.io0 (by omega) (by omega)]
  show outD false (exDs T io (callD T io X wf n) wf false (bS5 o) [some (.lst q, false), none]) = _
  unfold bS5
  have hm : mapD (fun x => (evD T io (callD T io X wf n) (.idx (.var 1) (.con (.int 1))) ((vals [some (.lst q, false), none]).set 1 (some x))).quiet) q = .ok (q.map fun x => .str (wordD x)) := by
    refine mapD_eq fun x hx => ?_
    obtain ⟨k, w, rfl⟩ := hq x hx
    rw [vals_set]
    simp [lookD, Fw.at_pos, wordD]
  have hj : joinD (.str []) (.lst (q.map fun x => .str (wordD x))) = .ok (.str (txt q)) := by
    rw [joinD_map [] wordD q ?_, joinL_nil]
    · rfl
    · have : ((q.map wordD).map List.length).sum = (txt q).length := by
        unfold txt
        rw [List.length_flatten]
      rw [this]
      simpa using ht
  simp (disch := first | omega | (simp only [List.length_cons, List.length_nil]; omega)) [lookD, hm, hj, -vals_set, notSt]
theorem c_row (S : ST T io X o) {d : Nat} {ps q : List Dat} (h : Shows d ps q) (n : Nat) (hn : 3 * d + 5 ≤ n) (hl : q.length < 16777100) (ht : (txt q).length ≤ 16777216) : callD T io X wf n (o + 6) [.lst ps] = .ok (.str (txt q), []) := by
  obtain ⟨n, rfl⟩ : ∃ m, n = m + 2 := ⟨n - 2, by omega⟩
  rw [call_gen (S.xn (by omega)) S.f6 (n + 1) _ rfl, S.io0 (by omega) (by omega)]
  show outD false (exDs T io (callD T io X wf (n + 1)) wf false (bS6 o) [some (.lst ps, false)]) = _
  have e1 : callD T io X wf (n + 1) (o + 4) [.str [], .lst ps] = .ok (.lst q, []) := c_pieces S h (n + 1) [] (by omega) hl
  have e2 := c_text (wf := wf) S n h.pc (by omega) ht
  unfold bS6
  have i4 : io (o + 4) = false := S.io0 (by omega) (by omega)
  have i5 : io (o + 5) = false := S.io0 (by omega) (by omega)
  have ec : ∀ (f : Nat) (as : Exs), io f = false → evD T io (callD T io X wf (n + 1)) (.call f as) (vals [some (.lst ps, false)]) = (evA T io (callD T io X wf (n + 1)) as (vals [some (.lst ps, false)])).bind fun ds => (callD T io X wf (n + 1) f ds).bind fun r => .ok r.1 := fun f as hf => ev_call as _ _ hf
  simp [lookD, ec _ _ i4, ec _ _ i5, e1, e2]
end
@[simp] theorem fr_var (i : Nat) : fresh (.var i) = false := rfl
@[simp] theorem fr_call (i : Nat) (as : Exs) : fresh (.call i as) = false := rfl
@[simp] theorem fr_idx (a b : Ex) : fresh (.idx a b) = false := rfl
@[simp] theorem fr_ite (a b c : Ex) : fresh (.ite a b c) = false := rfl
@[simp] theorem fr_lst (as : Exs) : fresh (.lst as) = true := rfl
@[simp] theorem fr_lc (j : Nat) (it : Itr) (e : Ex) : fresh (.lc j it e) = true := rfl
@[simp] theorem fr_lcif (j : Nat) (it : Itr) (c e : Ex) : fresh (.lcif j it c e) = true := rfl
@[simp] theorem fr_list (a : Ex) : fresh (.list a) = true := rfl
@[simp] theorem fr_slf (a b : Ex) : fresh (.slf a b) = true := rfl
@[simp] theorem fr_slt (a b : Ex) : fresh (.slt a b) = true := rfl
@[simp] theorem fr_sl (a b c : Ex) : fresh (.sl a b c) = true := rfl
@[simp] theorem fr_bin (o : BOp) (a b : Ex) : fresh (.bin o a b) = true := rfl
@[simp] theorem fr_split (a b : Ex) : fresh (.split a b) = true := rfl
end Fw

set_option maxHeartbeats 4000000
namespace Fw
open PySem PySem.Spec PyProof.Rows L2

def bA (o : Nat) : Sms := (.cons (.ite (.cmp .is_ (.var 1) (.con .non))
 (.cons (.ret (.cmp .is_ (.var 0) (.con .non))) .nil)
 .nil) (.cons (.ite (.cmp .is_ (.var 1) (.con (.bl true)))
 (.cons (.ret (.cmp .is_ (.var 0) (.con (.bl true)))) .nil)
 .nil) (.cons (.ite (.cmp .is_ (.var 1) (.con (.bl false)))
 (.cons (.ret (.cmp .is_ (.var 0) (.con (.bl false)))) .nil)
 .nil) (.cons (.ite (.isi (.var 1) "str")
 (.cons (.ret (.and (.isi (.var 0) "str") (.cmp .eq (.var 0) (.var 1)))) .nil)
 .nil) (.cons (.ite (.isi (.var 1) "int")
 (.cons (.ret (.and (.isi (.var 0) "int") (.and (.not (.isi (.var 0) "bool")) (.cmp .eq (.var 0) (.var 1))))) .nil)
 .nil) (.cons (.ite (.or (.and (.isi (.var 1) "list") (.not (.isi (.var 0) "list"))) (.and (.isi (.var 1) "tuple") (.not (.isi (.var 0) "tuple"))))
 (.cons (.ret (.con (.bl false))) .nil)
 .nil) (.cons (.ite (.cmp .ne (.len (.var 0)) (.len (.var 1)))
 (.cons (.ret (.con (.bl false))) .nil)
 .nil) (.cons (.for_ 2 (.rg (.len (.var 1)))
 (.cons (.ite (.not (.call o (.cons (.idx (.var 0) (.var 2)) (.cons (.idx (.var 1) (.var 2)) .nil))))
 (.cons (.ret (.con (.bl false))) .nil)
 .nil) .nil)) (.cons (.ret (.con (.bl true))) .nil)))))))))
def dA (o : Nat) : FDef := ⟨("_law_alike" : Str), [("_law_found" : Str), ("_law_due" : Str), ("_law_k" : Str)], 2, bA o⟩
/-- data that _law_alike takes, by how deep they nest -/
def Gd0 : Nat → Dat → Prop
  | _, .non => True
  | _, .bl _ => True
  | _, .int _ => True
  | _, .str _ => True
  | 0, .lst _ => False
  | 0, .tup _ => False
  | n + 1, .lst ds => ds.length < 16777216 ∧ ∀ d ∈ ds, Gd0 n d
  | n + 1, .tup ds => ds.length < 16777216 ∧ ∀ d ∈ ds, Gd0 n d
  | _, .frz _ => False
theorem Gd0.mono : ∀ {n m : Nat} {d : Dat}, n ≤ m → Gd0 n d → Gd0 m d
  | _, 0, .non, _, _ => trivial
  | _, m + 1, .non, _, _ => trivial
  | _, 0, .bl _, _, _ => trivial
  | _, m + 1, .bl _, _, _ => trivial
  | _, 0, .int _, _, _ => trivial
  | _, m + 1, .int _, _, _ => trivial
  | _, 0, .str _, _, _ => trivial
  | _, m + 1, .str _, _, _ => trivial
  | 0, _, .lst _, _, g => g.elim
  | 0, _, .tup _, _, g => g.elim
  | n + 1, m + 1, .lst ds, h, g => ⟨g.1, fun d hd => Gd0.mono (Nat.le_of_succ_le_succ h) (g.2 d hd)⟩
  | n + 1, m + 1, .tup ds, h, g => ⟨g.1, fun d hd => Gd0.mono (Nat.le_of_succ_le_succ h) (g.2 d hd)⟩
  | 0, _, .frz _, _, g => g.elim
  | n + 1, _, .frz _, _, g => g.elim
theorem it_rgN (k : Nat) (h : k ≤ 16777216) : itemsR (.int k) = .ok ((List.range k).map fun k => .int (k : Nat)) := by
  have h1 : (k : Int) ≤ 16777216 := by omega
  have h2 : (0 : Int) ≤ k := by omega
  exact it_rg (k : Int) (Int.le_trans (by decide) h2) (Int.lt_of_le_of_lt h1 (by decide))
section
variable {T : Tbl} {io : Nat → Bool} {X : Exn} {wf : Nat} {o : Nat}
theorem alike_seq (hf : T.fns[o]? = some (dA o)) (hi : io o = false) (hx : X o = none) (m : Nat) (d : Dat) (ds : List Dat) (hd : d = .lst ds ∨ d = .tup ds) (hl : ds.length < 16777216) (ih : ∀ x ∈ ds, callD T io X wf m o [x, x] = .ok (.bl true, [])) : callD T io X wf (m + 1) o [d, d] = .ok (.bl true, []) := by
  rw [call_gen hx hf m _ rfl, hi]
  suffices hs : Sat (exDs T io (callD T io X wf m) wf false (bA o) [some (d, false), some (d, false), none]) (fun _ => False) (fun _ => False) (fun v => v = .bl true) by
    obtain ⟨v, e, rfl⟩ := (hs.mono (fun _ h => h.elim) (fun _ h => h) (fun _ h => h)).out
    exact e
  have i1 : isD false d .non = .ok (.bl false) := by rcases hd with rfl | rfl <;> rfl
  have i2 : ∀ b, isD false d (.bl b) = .ok (.bl false) := by intro b; rcases hd with rfl | rfl <;> rfl
  have i3 : isiR "str" d = .ok (.bl false) := by rcases hd with rfl | rfl <;> simp
  have i4 : isiR "int" d = .ok (.bl false) := by rcases hd with rfl | rfl <;> simp
  have hlen : lenD d = .ok (.int ds.length) := by rcases hd with rfl | rfl <;> rfl
  have hix : ∀ k : Int, idxD d (.int k) = ofO (atI ds k) := by intro k; rcases hd with rfl | rfl <;> rfl
  unfold bA
  refine sat_cons (sat_ite false (by simp [lookD, i1]) (fun e => by cases e) (fun _ => sat_nil ?_))
  refine sat_cons (sat_ite false (by simp [lookD, i2]) (fun e => by cases e) (fun _ => sat_nil ?_))
  refine sat_cons (sat_ite false (by simp [lookD, i2]) (fun e => by cases e) (fun _ => sat_nil ?_))
  refine sat_cons (sat_ite false (by simp [lookD, i3]) (fun e => by cases e) (fun _ => sat_nil ?_))
  refine sat_cons (sat_ite false (by simp [lookD, i4]) (fun e => by cases e) (fun _ => sat_nil ?_))
  refine sat_cons (sat_ite false (by rcases hd with rfl | rfl <;> simp [lookD]) (fun e => by cases e) (fun _ => sat_nil ?_))
  refine sat_cons (sat_ite false (by simp [lookD, hlen]) (fun e => by cases e) (fun _ => sat_nil ?_))
  refine sat_cons (sat_forN (fun k : Nat => Dat.int k) (fun _ ρ => ∃ x, ρ = [some (d, false), some (d, false), x]) (List.range ds.length) (by simp) ?_ ⟨none, by rw [unownI_no rfl]⟩ ?_ ?_)
  · rw [ei_rg, ev_len, ev_var]
    show (lenD d).bind itemsR = _
    rw [hlen, bind_ok]
    exact it_rgN _ (Nat.le_of_lt hl)
  · rintro k ρ hk ⟨x, rfl⟩
    rw [List.length_range] at hk
    simp only [List.set_cons_succ, List.set_cons_zero, List.getElem_range]
    have e1 : ofO (atI ds (k : Int)) = .ok ds[k] := by
      rw [Fw.at_pos (by omega), show (k : Int).toNat = k by omega, List.getElem?_eq_getElem hk]
      rfl
    refine sat_cons (sat_ite false ?_ (fun e => by cases e) (fun _ => sat_nil (sat_nil ⟨_, rfl⟩)))
    rw [ev_not, ev_call _ _ _ hi]
    simp only [ea_cons, ea_nil, ev_idx, ev_var, lookD, bind_ok, hix, e1]
    rw [ih _ (List.getElem_mem hk)]
    rfl
  · rintro ρ ⟨x, rfl⟩
    exact sat_cons (sat_ret _ (by simp) rfl)
theorem c_alike (hf : T.fns[o]? = some (dA o)) (hi : io o = false) (hx : X o = none) : ∀ (n : Nat) (d : Dat), Gd0 n d → ∀ m, n + 1 ≤ m → callD T io X wf m o [d, d] = .ok (.bl true, []) := by
  have sc : ∀ (m : Nat) (d : Dat), outD false (exDs T io (callD T io X wf m) wf false (bA o) [some (d, false), some (d, false), none]) = .ok (.bl true, []) → callD T io X wf (m + 1) o [d, d] = .ok (.bl true, []) := by
    intro m d h
    rw [call_gen hx hf m _ rfl, hi]
    exact h
  have flat : ∀ (m : Nat) (d : Dat), (match d with | .non => True | .bl _ => True | .int _ => True | .str _ => True | _ => False) → callD T io X wf (m + 1) o [d, d] = .ok (.bl true, []) := by
    intro m d h
    refine sc m d ?_
    unfold bA
    match d, h with
    | .non, _ => simp [lookD]
    | .bl true, _ => simp [lookD, isD]
    | .bl false, _ => simp [lookD, isD]
    | .int i, _ => simp [lookD, isD]
    | .str s, _ => simp [lookD, isD]
  intro n
  induction n with
  | zero =>
    intro d g m hm
    obtain ⟨m, rfl⟩ : ∃ k, m = k + 1 := ⟨m - 1, by omega⟩
    match d, g with
    | .non, _ => exact flat m _ trivial
    | .bl _, _ => exact flat m _ trivial
    | .int _, _ => exact flat m _ trivial
    | .str _, _ => exact flat m _ trivial
    | .lst _, g => exact g.elim
    | .tup _, g => exact g.elim
    | .frz _, g => exact g.elim
  | succ n ih =>
    intro d g m hm
    obtain ⟨m, rfl⟩ : ∃ k, m = k + 1 := ⟨m - 1, by omega⟩
    match d, g with
    | .non, _ => exact flat m _ trivial
    | .bl _, _ => exact flat m _ trivial
    | .int _, _ => exact flat m _ trivial
    | .str _, _ => exact flat m _ trivial
    | .lst ds, g => exact alike_seq hf hi hx m _ ds (.inl rfl) g.1 fun x hx => ih x (g.2 x hx) m (by omega)
    | .tup ds, g => exact alike_seq hf hi hx m _ ds (.inr rfl) g.1 fun x hx => ih x (g.2 x hx) m (by omega)
    | .frz _, g => exact g.elim
end
end Fw

set_option maxHeartbeats 4000000
namespace Fw
open PySem PySem.Spec PyProof.Rows L2

/-! ### a walk through a list, by hand -/
section
variable {K : PySem.W.Frag} {T : Tbl} {cv : Nat → Value} {n : Nat} {W : WX} {D : Ends} {σ : L2.St} {H : Hp}
theorem s_forL {j i : Nat} {b : Sms} {a : Addr} {xs : List V} (S : Nat → L2.St → Hp → Prop) (hi : σ[i]? = some (some (.ref a))) (h0 : S 0 σ H) (hs : ∀ k σ' H', S k σ' H' → SqL K H' a xs)
    (step : ∀ k x σ' H', xs[k]? = some x → S k σ' H' → tSs K T (wpF K T cv n) W cv b { D with nx := S (k + 1), ct := S (k + 1), bk := D.nx } (σ'.set j (some x)) H') (fin : ∀ σ' H', S xs.length σ' H' → D.nx σ' H') : tS K T (wpF K T cv n) W cv (.for_ j (.ls (.var i)) b) D σ H := by
  simp only [tS, tI, tE]
  refine ⟨.ref a, hi, a, rfl, ⟨xs, hs _ _ _ h0⟩, ?_⟩
  refine ⟨fun k m σ' H' => S k σ' H' ∧ k ≤ xs.length ∧ m = xs.length - k, ⟨xs.length, h0, Nat.zero_le _, rfl⟩, ?_⟩
  rintro k m σ' H' ⟨s, hk, rfl⟩
  rcases Nat.lt_or_ge k xs.length with h | h
  · right
    refine ⟨⟨xs, xs[k], hs _ _ _ s, List.getElem?_eq_getElem h⟩, S (k + 1), fun σ2 H2 s2 => ⟨xs.length - (k + 1), by omega, s2, h, rfl⟩, ?_⟩
    rintro x H2 ⟨rfl, hx⟩
    exact step k x σ' H2 (hx xs (hs _ _ _ s)) s
  · left
    have e : k = xs.length := Nat.le_antisymm hk h
    subst e
    exact ⟨⟨xs, hs _ _ _ s, Nat.le_refl _⟩, fin σ' H' s⟩
end
/-! ### a spine of lists: each one's last thing is a tuple that holds the next one -/
structure Fri where
  t : Addr
  l : Addr
  q : Addr
  d : Int
  pd : Dat
  pv : V
  ds : List Dat
  vs : List V
def MI (Z : Addr → Prop) (p : Addr) (fs : List Fri) : Addr → Prop := fun a => Z a ∨ a = p ∨ a ∈ fs.map (·.l)
/-- the chain below the top -/
def Chn (H : Hp) : List Fri → Prop
  | c :: f :: r => H f.l = some (.lst (f.vs ++ [.ref c.q])) ∧ H c.q = some (.tup [.int c.d, c.pv, .ref c.l]) ∧ Chn H (f :: r)
  | _ => True
structure SpI (K : PySem.W.Frag) (H0 H : Hp) (Z : Addr → Prop) (p : Addr) (fs : List Fri) : Prop where
  sm : Same H0 H
  np : H0 p = none
  nl : ∀ f ∈ fs, H0 f.l = none
  nt : ∀ f ∈ fs, H0 f.t = none
  lp : ∀ f ∈ fs, f.l ≠ p
  tt : ∀ f ∈ fs, H f.t = some (.tup [.int f.d, .ref f.l])
  ll : ∀ f ∈ fs, ∃ ws, H f.l = some (.lst ws)
  tl : ∀ f ∈ fs.head?, H f.l = some (.lst f.vs)
  ch : Chn H fs
  qz : ∀ f ∈ fs.dropLast, H0 f.q = none
  rr : ∀ f ∈ fs, RepL K (hide (MI Z p fs) H) f.ds f.vs
  rp : ∀ f ∈ fs, Rep K (hide (MI Z p fs) H) f.pd f.pv
  nd : (fs.map (·.l)).Nodup
section
variable {K : PySem.W.Frag} {H0 H H1 : Hp} {Z : Addr → Prop} {p : Addr} {c f f2 : Fri} {fs : List Fri}
theorem Chn.same (s : Same H H1) : ∀ {fs : List Fri}, Chn H fs → Chn H1 fs
  | [], h => h
  | [_], h => h
  | c :: f :: r, h => ⟨s _ _ h.1, s _ _ h.2.1, Chn.same s h.2.2⟩
theorem SpI.same (h : SpI K H0 H Z p fs) (s : Same H H1) : SpI K H0 H1 Z p fs where
  sm := same_trans h.sm s
  np := h.np
  nl := h.nl
  nt := h.nt
  lp := h.lp
  tt := fun f m => s _ _ (h.tt f m)
  ll := fun f m => by
    obtain ⟨ws, e⟩ := h.ll f m
    exact ⟨ws, s _ _ e⟩
  tl := fun f m => s _ _ (h.tl f m)
  ch := h.ch.same s
  qz := h.qz
  rr := fun f m => repL_mono (hide_same s) _ _ (h.rr f m)
  rp := fun f m => rep_mono (hide_same s) _ _ (h.rp f m)
  nd := h.nd
theorem SpI.zl (h : SpI K H0 H Z p fs) (zd : ZD Z H0) (m : f ∈ fs) : ¬ Z f.l := fun z => zd _ z (h.nl f m)
theorem SpI.zp (h : SpI K H0 H Z p fs) (zd : ZD Z H0) : ¬ Z p := fun z => zd p z h.np
theorem mi_le : ∀ a, Z a → MI Z p fs a := fun a z => .inl z
/-- the top is closed, in the mind: no cell changes -/
def shutF (c f : Fri) : Fri := { f with ds := f.ds ++ [.tup [.int c.d, c.pd, .lst c.ds]], vs := f.vs ++ [.ref c.q] }
theorem SpI.shut (h : SpI K H0 H Z p (c :: f :: fs)) (zd : ZD Z H0) (hp : ∃ o, H p = some (.lst o)) : SpI K H0 H Z p (shutF c f :: fs) := by
  have mc : c ∈ c :: f :: fs := List.mem_cons_self ..
  have mf : f ∈ c :: f :: fs := List.mem_cons_of_mem _ (List.mem_cons_self ..)
  have nd := h.nd
  rw [List.map_cons, List.nodup_cons] at nd
  have sub : ∀ a, MI Z p (shutF c f :: fs) a → MI Z p (c :: f :: fs) a := by
    rintro a (z | z | z)
    · exact .inl z
    · exact .inr (.inl z)
    · exact .inr (.inr (List.mem_cons_of_mem _ z))
  have anti : Same (hide (MI Z p (c :: f :: fs)) H) (hide (MI Z p (shutF c f :: fs)) H) := hide_anti sub
  have nz : ¬ MI Z p (shutF c f :: fs) c.l := by
    rintro (z | z | z)
    · exact h.zl zd mc z
    · exact h.lp c mc z
    · exact nd.1 z
  have hq := h.ch.2.1
  have nq : ¬ MI Z p (shutF c f :: fs) c.q := by
    rintro (z | z | z)
    · exact zd _ z (h.qz c (by simp))
    · obtain ⟨o, ho⟩ := hp
      rw [z, ho] at hq
      cases hq
    · obtain ⟨g, hg, e⟩ := List.mem_map.mp (show c.q ∈ (f :: fs).map (·.l) from z)
      obtain ⟨ws, hw⟩ := h.ll g (List.mem_cons_of_mem _ hg)
      rw [show g.l = c.q from e, hq] at hw
      cases hw
  have new : Rep K (hide (MI Z p (shutF c f :: fs)) H) (.tup [.int c.d, c.pd, .lst c.ds]) (.ref c.q) :=
    rep_tup (hide_of hq nq) (repL_cons (rep_int _) (repL_cons (rep_mono anti _ _ (h.rp c mc)) (repL_cons (rep_lst (hide_of (h.tl c rfl) nz) (repL_mono anti _ _ (h.rr c mc))) repL_nil)))
  have mem : ∀ g ∈ fs, g ∈ c :: f :: fs := fun g hg => List.mem_cons_of_mem _ (List.mem_cons_of_mem _ hg)
  exact {
    sm := h.sm
    np := h.np
    nl := fun g hg => by
      rcases List.mem_cons.mp hg with rfl | hg
      · exact h.nl f mf
      · exact h.nl g (mem g hg)
    nt := fun g hg => by
      rcases List.mem_cons.mp hg with rfl | hg
      · exact h.nt f mf
      · exact h.nt g (mem g hg)
    lp := fun g hg => by
      rcases List.mem_cons.mp hg with rfl | hg
      · exact h.lp f mf
      · exact h.lp g (mem g hg)
    tt := fun g hg => by
      rcases List.mem_cons.mp hg with rfl | hg
      · exact h.tt f mf
      · exact h.tt g (mem g hg)
    ll := fun g hg => by
      rcases List.mem_cons.mp hg with rfl | hg
      · exact h.ll f mf
      · exact h.ll g (mem g hg)
    tl := fun g hg => by
      cases hg
      exact h.ch.1
    ch := by
      have hc := h.ch.2.2
      cases fs with
      | nil => trivial
      | cons f2 r => exact hc
    qz := fun g hg => by
      cases fs with
      | nil => cases hg
      | cons f2 r =>
        rw [List.dropLast_cons_cons] at hg
        rcases List.mem_cons.mp hg with rfl | hg
        · exact h.qz f (by simp)
        · exact h.qz g (by rw [List.dropLast_cons_cons, List.dropLast_cons_cons]; exact List.mem_cons_of_mem _ (List.mem_cons_of_mem _ hg))
    rr := fun g hg => by
      rcases List.mem_cons.mp hg with rfl | hg
      · exact repL_app (repL_mono anti _ _ (h.rr f mf)) (repL_cons new repL_nil)
      · exact repL_mono anti _ _ (h.rr g (mem g hg))
    rp := fun g hg => by
      rcases List.mem_cons.mp hg with rfl | hg
      · exact rep_mono anti _ _ (h.rp f mf)
      · exact rep_mono anti _ _ (h.rp g (mem g hg))
    nd := nd.2 }
/-- the pile itself changes -/
theorem SpI.pile (h : SpI K H0 H Z p fs) (hp : ∃ o, H p = some (.lst o)) (o : HO) : SpI K H0 (upd H p o) Z p fs := by
  obtain ⟨w, hw⟩ := hp
  have ut : ∀ {a : Addr} {xs : List V}, H a = some (.tup xs) → upd H p o a = some (.tup xs) := fun e => by
    rw [upd_ne (ne_of e hw (by simp))]
    exact e
  have chn : ∀ {gs : List Fri}, (∀ g ∈ gs, g.l ≠ p) → Chn H gs → Chn (upd H p o) gs := by
    intro gs
    induction gs with
    | nil => exact fun _ h => h
    | cons c r ih =>
      intro hl hc
      cases r with
      | nil => trivial
      | cons f r =>
        refine ⟨?_, ut hc.2.1, ih (fun g hg => hl g (List.mem_cons_of_mem _ hg)) hc.2.2⟩
        rw [upd_ne (hl f (by simp))]
        exact hc.1
  exact {
    sm := same_upd h.sm h.np
    np := h.np
    nl := h.nl
    nt := h.nt
    lp := h.lp
    tt := fun f m => ut (h.tt f m)
    ll := fun f m => by
      obtain ⟨ws, e⟩ := h.ll f m
      exact ⟨ws, by rw [upd_ne (h.lp f m)]; exact e⟩
    tl := fun f m => by
      rw [upd_ne (h.lp f (List.mem_of_mem_head? m))]
      exact h.tl f m
    ch := chn h.lp h.ch
    qz := h.qz
    rr := fun f m => repL_mono (hide_mut (.inr (.inl rfl))) _ _ (h.rr f m)
    rp := fun f m => rep_mono (hide_mut (.inr (.inl rfl))) _ _ (h.rp f m)
    nd := h.nd }
/-- a new thing, its list open, on the top's list -/
theorem SpI.push (h : SpI K H0 H Z p (f :: fs)) (zd : ZD Z H0) (hp : ∃ o, H p = some (.lst o)) {l q t : Addr} {d : Int} {pd : Dat} {pv : V} {H2 H5 : Hp} (hl : H l = none) (s1 : Same (upd H l (.lst [])) H2) (rp : Rep K (hide (fun a => MI Z p (f :: fs) a ∨ a = l) H2) pd pv) (hq : H2 q = none)
    (s4 : Same (upd (upd H2 q (.tup [.int d, pv, .ref l])) f.l (.lst (f.vs ++ [.ref q]))) H5) (ht : H5 t = none) : SpI K H0 (upd H5 t (.tup [.int d, .ref l])) Z p (⟨t, l, q, d, pd, pv, [], []⟩ :: f :: fs) := by
  obtain ⟨w, hw⟩ := hp
  have mf : f ∈ f :: fs := List.mem_cons_self ..
  have sHl : Same H (upd H l (.lst [])) := same_new hl
  have sH2 : Same H H2 := same_trans sHl s1
  have hl2 : H2 l = some (.lst []) := s1 _ _ upd_same
  have hfl : H f.l = some (.lst f.vs) := h.tl f rfl
  have lf : l ≠ f.l := fun e => by rw [e, hfl] at hl; cases hl
  have lp : l ≠ p := fun e => by rw [e, hw] at hl; cases hl
  have ql : q ≠ l := fun e => by rw [e, hl2] at hq; cases hq
  have qf : q ≠ f.l := fun e => by rw [e, sH2 _ _ hfl] at hq; cases hq
  have n0 : ∀ a, H a = none → H0 a = none := fun a e => by
    cases e2 : H0 a with
    | none => rfl
    | some o => rw [h.sm a o e2] at e; cases e
  have nH : ∀ {a : Addr} {A B : Hp}, Same A B → B a = none → A a = none := fun {a A B} s e => by
    cases e2 : A a with
    | none => rfl
    | some o => rw [s a o e2] at e; cases e
  have hq0 : H0 q = none := n0 q (nH sH2 hq)
  -- what was, but the top's list
  have old : ∀ b o, b ≠ f.l → H b = some o → upd H5 t (.tup [.int d, .ref l]) b = some o := fun b o hb e => by
    refine same_new ht b o (s4 b o ?_)
    rw [upd_ne hb]
    exact same_new hq b o (sH2 b o e)
  have htH : H t = none := by
    cases e : H t with
    | none => rfl
    | some o =>
      by_cases x : t = f.l
      · rw [x, s4 _ _ upd_same] at ht
        cases ht
      · have := s4 t o (by rw [upd_ne x]; exact same_new hq t o (sH2 t o e))
        rw [this] at ht
        cases ht
  have ht0 : H0 t = none := n0 t htH
  have hl0 : H0 l = none := n0 l hl
  have lfin : upd H5 t (.tup [.int d, .ref l]) l = some (.lst []) := by
    refine same_new ht _ _ (s4 _ _ ?_)
    rw [upd_ne lf, upd_ne ql.symm]
    exact hl2
  have ffin : upd H5 t (.tup [.int d, .ref l]) f.l = some (.lst (f.vs ++ [.ref q])) := same_new ht _ _ (s4 _ _ upd_same)
  have qfin : upd H5 t (.tup [.int d, .ref l]) q = some (.tup [.int d, pv, .ref l]) := by
    refine same_new ht _ _ (s4 _ _ ?_)
    rw [upd_ne qf]
    exact upd_same
  have flz : MI Z p (f :: fs) f.l := .inr (.inr (List.mem_cons_self ..))
  have key : Same (hide (MI Z p (f :: fs)) H) (hide (MI Z p (⟨t, l, q, d, pd, pv, [], []⟩ :: f :: fs)) (upd H5 t (.tup [.int d, .ref l]))) := by
    intro b o e
    obtain ⟨e1, e2⟩ := hide_some e
    have bl : b ≠ l := fun x => by rw [x, hl] at e1; cases e1
    refine hide_of (old b o (fun x => e2 (by rw [x]; exact flz)) e1) ?_
    rintro (z | z | z)
    · exact e2 (.inl z)
    · exact e2 (.inr (.inl z))
    · rcases List.mem_cons.mp z with z | z
      · exact bl z
      · exact e2 (.inr (.inr z))
  have key2 : Same (hide (fun a => MI Z p (f :: fs) a ∨ a = l) H2) (hide (MI Z p (⟨t, l, q, d, pd, pv, [], []⟩ :: f :: fs)) (upd H5 t (.tup [.int d, .ref l]))) := by
    intro b o e
    obtain ⟨e1, e2⟩ := hide_some e
    have bf : b ≠ f.l := fun x => e2 (.inl (by rw [x]; exact flz))
    refine hide_of (same_new ht b o (s4 b o ?_)) ?_
    · rw [upd_ne bf]
      exact same_new hq b o e1
    · rintro (z | z | z)
      · exact e2 (.inl (.inl z))
      · exact e2 (.inl (.inr (.inl z)))
      · rcases List.mem_cons.mp z with z | z
        · exact e2 (.inr z)
        · exact e2 (.inl (.inr (.inr z)))
  have notl : ∀ g ∈ f :: fs, g.l ≠ l := fun g hg e => by
    obtain ⟨ws, x⟩ := h.ll g hg
    rw [e, hl] at x
    cases x
  have nd := h.nd
  rw [List.map_cons, List.nodup_cons] at nd
  have chn : ∀ {gs : List Fri}, (∀ g ∈ gs.tail, g.l ≠ f.l) → Chn H gs → Chn (upd H5 t (.tup [.int d, .ref l])) gs := by
    intro gs
    induction gs with
    | nil => exact fun _ h => h
    | cons c r ih =>
      intro hn hc
      cases r with
      | nil => trivial
      | cons g r =>
        exact ⟨old _ _ (hn g (by simp)) hc.1, old _ _ (fun e => by have := hc.2.1; rw [e, hfl] at this; cases this) hc.2.1, ih (fun x hx => hn x (List.mem_cons_of_mem _ hx)) hc.2.2⟩
  exact {
    sm := fun b o e => by
      have hb : b ≠ f.l := fun x => by rw [x, h.nl f mf] at e; cases e
      exact old b o hb (h.sm b o e)
    np := h.np
    nl := fun g hg => by
      rcases List.mem_cons.mp hg with rfl | hg
      · exact hl0
      · exact h.nl g hg
    nt := fun g hg => by
      rcases List.mem_cons.mp hg with rfl | hg
      · exact ht0
      · exact h.nt g hg
    lp := fun g hg => by
      rcases List.mem_cons.mp hg with rfl | hg
      · exact lp
      · exact h.lp g hg
    tt := fun g hg => by
      rcases List.mem_cons.mp hg with rfl | hg
      · exact upd_same
      · exact old _ _ (ne_of (h.tt g hg) hfl (by simp)) (h.tt g hg)
    ll := fun g hg => by
      rcases List.mem_cons.mp hg with rfl | hg
      · exact ⟨_, lfin⟩
      · by_cases x : g.l = f.l
        · rw [x]
          exact ⟨_, ffin⟩
        · obtain ⟨ws, e⟩ := h.ll g hg
          exact ⟨ws, old _ _ x e⟩
    tl := fun g hg => by
      cases hg
      exact lfin
    ch := ⟨ffin, qfin, chn (fun g hg e => nd.1 (by rw [← e]; exact List.mem_map_of_mem hg)) h.ch⟩
    qz := fun g hg => by
      rw [List.dropLast_cons_cons] at hg
      rcases List.mem_cons.mp hg with rfl | hg
      · exact hq0
      · exact h.qz g hg
    rr := fun g hg => by
      rcases List.mem_cons.mp hg with rfl | hg
      · exact repL_nil
      · exact repL_mono key _ _ (h.rr g hg)
    rp := fun g hg => by
      rcases List.mem_cons.mp hg with rfl | hg
      · exact rep_mono key2 _ _ rp
      · exact rep_mono key _ _ (h.rp g hg)
    nd := by
      rw [List.map_cons, List.nodup_cons]
      refine ⟨fun e => ?_, h.nd⟩
      obtain ⟨g, hg, e⟩ := List.mem_map.mp e
      exact notl g hg e }
end
end Fw

set_option maxHeartbeats 4000000
namespace Fw
open PySem PySem.Spec PyProof.Rows L2

def bI (o : Nat) : Sms := (.cons (.asg 1 (.lst .nil)) (.cons (.asg 2 (.lst (.cons (.tup (.cons (.con (.int 0)) (.cons (.var 1) .nil))) .nil))) (.cons (.for_ 3 (.ls (.var 0))
 (.cons (.whl (.cmp .ge (.idx (.idx (.var 2) (.neg (.con (.int 1)))) (.con (.int 0))) (.idx (.var 3) (.con (.int 1))))
 (.cons (.ex (.pop (.var 2))) .nil)) (.cons (.asg 4 (.lst .nil)) (.cons (.ex (.app (.idx (.idx (.var 2) (.neg (.con (.int 1)))) (.con (.int 1))) (.tup (.cons (.idx (.var 3) (.con (.int 1))) (.cons (.call o (.cons (.idx (.var 3) (.con (.int 2))) .nil)) (.cons (.var 4) .nil)))))) (.cons (.ex (.app (.var 2) (.tup (.cons (.idx (.var 3) (.con (.int 1))) (.cons (.var 4) .nil))))) .nil))))) (.cons (.ret (.var 1)) .nil))))
def dI (o : Nat) : FDef := ⟨("items_of" : Str), [("shapes" : Str), ("found" : Str), ("pile" : Str), ("one" : Str), ("under" : Str)], 1, bI o⟩
/-! ### items under one another -/
abbrev Stk := List (Int × Dat × List Dat)
def itD (d : Int) (pd : Dat) (ds : List Dat) : Dat := .tup [.int d, pd, .lst ds]
def popR (x d : Int) (pd : Dat) (ds : List Dat) : Stk → Stk
  | [] => [(d, pd, ds)]
  | f :: r => if x ≤ d then popR x f.1 f.2.1 (f.2.2 ++ [itD d pd ds]) r else (d, pd, ds) :: f :: r
def popS (x : Int) : Stk → Stk
  | [] => []
  | c :: r => popR x c.1 c.2.1 c.2.2 r
def itemS (s : Stk) (x : Int × List Nat) : Stk := (x.1, .lst (partsP x.2), []) :: popS x.1 s
def shutR (d : Int) (pd : Dat) (ds : List Dat) : Stk → List Dat
  | [] => ds
  | f :: r => shutR f.1 f.2.1 (f.2.2 ++ [itD d pd ds]) r
def shutS : Stk → List Dat
  | [] => []
  | c :: r => shutR c.1 c.2.1 c.2.2 r
def itemsP (xs : List (Int × List Nat)) : List Dat := shutS (xs.foldl itemS [(0, .non, [])])
abbrev absI (fs : List Fri) : Stk := fs.map fun f => (f.d, f.pd, f.ds)
section
variable {K : PySem.W.Frag} {H0 H H1 : Hp} {Z : Addr → Prop} {p : Addr} {fs : List Fri}
/-- the bottom's list, seen whole -/
theorem SpI.whole (zd : ZD Z H0) (hp : ∃ o, H p = some (.lst o)) : ∀ {fs : List Fri} {b : Addr}, SpI K H0 H Z p fs → fs.getLast?.map (·.l) = some b → Rep K (hide Z H) (.lst (shutS (absI fs))) (.ref b)
  | [], b, _, e => by cases e
  | [f], b, h, e => by
    cases e
    exact rep_lst (hide_of (h.tl f rfl) (h.zl zd (List.mem_cons_self ..))) (repL_mono (hide_anti mi_le) _ _ (h.rr f (List.mem_cons_self ..)))
  | c :: f :: r, b, h, e => by
    have := SpI.whole zd hp (h.shut zd hp) (b := b) (by
      cases r with
      | nil => exact e
      | cons g r => rw [List.getLast?_cons_cons] at e ⊢; rwa [List.getLast?_cons_cons] at e)
    exact this
termination_by fs => fs.length
theorem popS_step {x : Int} {c f : Fri} {r : List Fri} (h : x ≤ c.d) : popS x (absI (c :: f :: r)) = popS x (absI (shutF c f :: r)) := by
  show popR x c.d c.pd c.ds ((f.d, f.pd, f.ds) :: absI r) = _
  rw [popR, if_pos h]
  rfl
theorem popS_stop {x : Int} {c : Fri} {r : List Fri} (h : ¬ x ≤ c.d) : popS x (absI (c :: r)) = absI (c :: r) := by
  show popR x c.d c.pd c.ds (absI r) = _
  cases r with
  | nil => rfl
  | cons f r =>
    show popR x c.d c.pd c.ds ((f.d, f.pd, f.ds) :: absI r) = _
    rw [popR, if_neg h]
    rfl
theorem SpI.init {H : Hp} {Z : Addr → Prop} {l t p : Addr} (hl : H l = none) (ht : upd H l (.lst []) t = none) (hp : upd (upd H l (.lst [])) t (.tup [.int 0, .ref l]) p = none) :
    SpI K H (upd (upd (upd H l (.lst [])) t (.tup [.int 0, .ref l])) p (.lst [.ref t])) Z p [⟨t, l, l, 0, .non, .non, [], []⟩] := by
  have ht' : H t = none := by
    cases e : H t with
    | none => rfl
    | some o => rw [same_new hl t o e] at ht; cases ht
  have hp' : H p = none := by
    cases e : H p with
    | none => rfl
    | some o => rw [same_new ht p o (same_new hl p o e)] at hp; cases hp
  have ltne : t ≠ l := fun e => by rw [e, upd_same] at ht; cases ht
  have pt : p ≠ t := fun e => by rw [e, upd_same] at hp; cases hp
  have pl : p ≠ l := fun e => by rw [e, upd_ne ltne.symm, upd_same] at hp; cases hp
  have lf : upd (upd (upd H l (.lst [])) t (.tup [.int 0, .ref l])) p (.lst [.ref t]) l = some (.lst []) := by
    rw [upd_ne pl.symm, upd_ne ltne.symm]
    exact upd_same
  exact {
    sm := same_trans (same_trans (same_new hl) (same_new ht)) (same_new hp)
    np := hp'
    nl := fun f hf => by
      cases List.mem_singleton.mp hf
      exact hl
    nt := fun f hf => by
      cases List.mem_singleton.mp hf
      exact ht'
    lp := fun f hf => by
      cases List.mem_singleton.mp hf
      exact pl.symm
    tt := fun f hf => by
      cases List.mem_singleton.mp hf
      show upd _ p _ t = _
      rw [upd_ne pt.symm]
      exact upd_same
    ll := fun f hf => by
      cases List.mem_singleton.mp hf
      exact ⟨_, lf⟩
    tl := fun f hf => by
      cases hf
      exact lf
    ch := trivial
    qz := fun f hf => by cases hf
    rr := fun f hf => by
      cases List.mem_singleton.mp hf
      exact repL_nil
    rp := fun f hf => by
      cases List.mem_singleton.mp hf
      exact rep_non
    nd := by simp }
end
section
variable {K : PySem.W.Frag} {T : Tbl} {cv : Nat → Value} {io : Nat → Bool} {o g h : Nat}
def shD (x : List Nat × Int × List Nat) : Dat := .tup [.str x.1, .int x.2.1, .str x.2.2]
theorem a_call {W : WX} {σ : L2.St} {H : Hp} {n f : Nat} {as as' : Exs} {Q : List V → Hp → Prop} (h : tA K T (wpF K T cv n) W as' σ H (fun vs H1 => wpF K T cv n f vs H1 (fun v H2 => tA K T (wpF K T cv n) W as σ H2 (fun us H3 => Q (v :: us) H3)) (WE W σ))) : tA K T (wpF K T cv n) W (.cons (.call f as') as) σ H Q := by
  simp only [tA, tE]
  exact h
theorem s_appV {W : WX} {D : Ends} {σ : L2.St} {H : Hp} {n i : Nat} {p : Addr} {ws : List V} {as : Exs} (hi : σ[i]? = some (some (.ref p))) (hp : H p = some (.lst ws))
    (k : tA K T (wpF K T cv n) W as σ H fun ys H4 => ys.length ≤ sizeLine ∧ ∀ t, H4 t = none → rAppend (.ref p) [.ref t] (upd H4 t (.tup ys)) (fun _ H5 => D.nx σ H5)) : tS K T (wpF K T cv n) W cv (.ex (.app (.var i) (.tup as))) D σ H := by
  simp only [tS, tE]
  exact ⟨.ref p, hi, tyl hp, k⟩
theorem r_topI {H : Hp} {p : Addr} {f : Fri} {fs : List Fri} {Q : VK} (hp : H p = some (.lst (((f :: fs).map fun f => V.ref f.t).reverse))) (q : Q (.ref f.t) H) : rIx K (.ref p) (.int (-1)) H Q :=
  .inl ⟨p, _, -1, _, rfl, rfl, .inl (.inl hp), by rw [Fw.at_last]; exact last_rev _ _ _, q⟩
theorem s_appI {W : WX} {D : Ends} {σ : L2.St} {H : Hp} {n i : Nat} {p : Addr} {c : Fri} {r : List Fri} {x : V} {ws : List V} {as : Exs} (hi : σ[i]? = some (some (.ref p))) (hp : H p = some (.lst (((c :: r).map fun f => V.ref f.t).reverse))) (ht : H c.t = some (.tup [x, .ref c.l])) (hl : H c.l = some (.lst ws))
    (k : tA K T (wpF K T cv n) W as σ H fun ys H4 => ys.length ≤ sizeLine ∧ ∀ t, H4 t = none → rAppend (.ref c.l) [.ref t] (upd H4 t (.tup ys)) (fun _ H5 => D.nx σ H5)) : tS K T (wpF K T cv n) W cv (.ex (.app (.idx (.idx (.var i) (.neg (.con (.int 1)))) (.con (.int 1))) (.tup as))) D σ H := by
  simp only [tS, tE]
  exact ⟨.ref p, hi, 1, rfl, r_topI hp (r_t1 ht ⟨tyl hl, k⟩)⟩
/-- between two items -/
def ItS (K : PySem.W.Frag) (H0 : Hp) (Z : Addr → Prop) (p l0 : Addr) (B : Nat) (fs : List Fri) (H : Hp) : Prop :=
  SpI K H0 H Z p fs ∧ H p = some (.lst ((fs.map fun f => V.ref f.t).reverse)) ∧ fs.getLast?.map (·.l) = some l0 ∧ fs.getLast?.map (·.d) = some 0 ∧ (fs.map fun f => f.vs.length).sum + fs.length ≤ B + 1
theorem w_items (P : PT T io o g h) {oi : Nat} (hf : T.fns[oi]? = some (dI (o + 6))) (n : Nat) {H0 : Hp} {Z : Addr → Prop} {a : Addr} {vs : List V} {xs : List (List Nat × Int × List Nat)} {Q : VK} {E : XK} (zd : ZD Z H0) (sq : SqL K H0 a vs) (rs : RepL K (hide Z H0) (xs.map shD) vs) (hd : ∀ x ∈ xs, 1 ≤ x.2.1 ∧ x.2.2.length ≤ 8000000) (hl : xs.length ≤ 1000000)
    (q : ∀ v H', Same H0 H' → Rep K (hide Z H') (.lst (itemsP (xs.map fun x => x.2))) v → Q v H') : wpF K T cv (n + 5) oi [.ref a] H0 Q E := by
  refine wp_at hf rfl ?_
  show tSs K T (wpF K T cv (n + 4)) _ cv (bI (o + 6)) _ [some (.ref a), none, none, none, none] H0
  unfold bI
  refine s_seq ?_
  simp only [tS, tE, tA]
  refine ⟨by simp [sizeLine], fun l0 hl0 => ?_⟩
  show tSs K T (wpF K T cv (n + 4)) _ cv _ _ [some (.ref a), some (.ref l0), none, none, none] _
  refine s_seq ?_
  simp only [tS, tE, tA]
  refine ⟨.ref l0, rfl, by simp [sizeLine], fun t ht => ⟨by simp [sizeLine], fun p hp => ?_⟩⟩
  have L := SpI.init (K := K) (Z := Z) hl0 ht hp
  have hpp : upd (upd (upd H0 l0 (.lst [])) t (.tup [.int 0, .ref l0])) p (.lst [.ref t]) p = some (.lst [.ref t]) := upd_same
  generalize upd (upd (upd H0 l0 (.lst [])) t (.tup [.int 0, .ref l0])) p (.lst [.ref t]) = H1 at L hpp
  show tSs K T (wpF K T cv (n + 4)) _ cv _ _ [some (.ref a), some (.ref l0), some (.ref p), none, none] H1
  have hvl : vs.length = xs.length := by rw [repL_len rs, List.length_map]
  refine s_seq (s_forL (a := a) (xs := vs) (fun k σ H => ∃ fs x3 x4, ItS K H0 Z p l0 k fs H ∧ absI fs = ((xs.take k).map fun x => x.2).foldl itemS [(0, .non, [])] ∧ σ = [some (.ref a), some (.ref l0), some (.ref p), x3, x4]) rfl ?_ ?_ ?_ ?_)
  · exact ⟨_, none, none, ⟨L, hpp, rfl, rfl, by simp⟩, rfl, rfl⟩
  · rintro k σ H ⟨fs, x3, x4, hS, _, _⟩
    exact hS.1.sm.seq sq
  · rintro k x σ H hx ⟨fs, x3, x4, hS, habs, rfl⟩
    have hk : k < xs.length := by
      have := (List.getElem?_eq_some_iff.mp hx).1
      omega
    obtain ⟨v, hv, rx⟩ := repL_get (i := k) rs (d := shD xs[k]) (by rw [List.getElem?_map, List.getElem?_eq_getElem hk]; rfl)
    have e := hv.symm.trans hx
    cases e
    obtain ⟨hd1, hd2⟩ := hd xs[k] (List.getElem_mem hk)
    rw [List.take_succ_eq_append_getElem hk, List.map_append, List.foldl_append, ← habs]
    clear habs
    generalize xs[k] = y at *
    show tSs K T (wpF K T cv (n + 4)) _ cv _ _ [some (.ref a), some (.ref l0), some (.ref p), some x, x4] H
    refine s_seq ?_
    simp only [tS]
    refine ⟨fun m σ' H' => ∃ fs', m = fs'.length ∧ ItS K H0 Z p l0 k fs' H' ∧ popS y.2.1 (absI fs') = popS y.2.1 (absI fs) ∧ σ' = [some (.ref a), some (.ref l0), some (.ref p), some x, x4], ⟨_, fs, rfl, hS, rfl, rfl⟩, ?_⟩
    rintro m σ' H' ⟨fs', rfl, hS', hpop, rfl⟩
    obtain ⟨L1, hp1, hb1, hz1, hn1⟩ := hS'
    cases fs' with
    | nil => cases hb1
    | cons c r =>
    have zd1 : ZD Z H' := zd.same L1.sm
    have rx1 : Rep K (hide Z H') (shD y) x := rep_mono (hide_same L1.sm) _ _ rx
    have EX : ∀ {H2 : Hp} {m : Nat → Bool} {a0 a1 a2 : Option V} {σ : L2.St}, Same H' H2 → EnvOk K Z H2 m (vals [none, none, none, some (shD y, false)]) (a0 :: a1 :: a2 :: some x :: σ) := fun s => env_n (env_n (env_n (env_c (rep_mono (hide_same s) _ _ rx1) env_nil)))
    simp only [tE]
    refine ⟨.ref p, rfl, 1, rfl, r_topI hp1 (r_t0 (L1.tt c (List.mem_cons_self ..)) ?_)⟩
    refine s_tE (e := .idx (.var 3) (.con (.int 1))) (T := T) (n := n + 4) (W := fun c x _ H => E c x H) (cv := cv) (ρ := [none, none, none, some (shD y, false)]) io (.int y.2.1) zd1 (EX fun _ _ h => h) (by simp [lookD, shD, Fw.at_pos]) ?_
    intro v1 H2 s2 rv1
    simp only [Rep] at rv1
    subst rv1
    refine ⟨c.d, y.2.1, rfl, rfl, decide (c.d ≥ y.2.1), rfl, ?_⟩
    have L2 := L1.same s2
    have hp2 := s2 _ _ hp1
    show (if decide (c.d ≥ y.2.1) = true then _ else _)
    by_cases hc : y.2.1 ≤ c.d
    · rw [decide_eq_true hc, if_pos rfl]
      cases r with
      | nil =>
        have hz2 : c.d = 0 := by simpa using hz1
        omega
      | cons f r =>
      refine ⟨_, fun σ' H' x => x, ?_⟩
      simp only [tSs, tS, tE, tSeq, tNext]
      refine ⟨.ref p, rfl, tyl hp2, p, _, _, rfl, rfl, hp2, last_rev _ _ _, ?_⟩
      rw [pop_rev]
      refine ⟨(shutF c f :: r).length, by simp, shutF c f :: r, rfl, ⟨(L2.shut zd ⟨_, hp2⟩).pile ⟨_, hp2⟩ _, upd_same, ?_, ?_, ?_⟩, ?_, by first | trivial | rfl⟩
      · cases r with
        | nil => exact hb1
        | cons g r => rw [List.getLast?_cons_cons] at hb1 ⊢; rwa [List.getLast?_cons_cons] at hb1
      · cases r with
        | nil => exact hz1
        | cons g r => rw [List.getLast?_cons_cons] at hz1 ⊢; rwa [List.getLast?_cons_cons] at hz1
      · simp [shutF] at hn1 ⊢
        omega
      · rw [← hpop, popS_step hc]
    · rw [decide_eq_false hc, if_neg Bool.false_ne_true]
      rw [popS_stop hc] at hpop
      show tSs K T (wpF K T cv (n + 4)) _ cv _ _ [some (.ref a), some (.ref l0), some (.ref p), some x, x4] H2
      refine s_seq ?_
      simp only [tS, tE, tA]
      refine ⟨by simp [sizeLine], fun l hl => ?_⟩
      have sl : Same H2 (upd H2 l (.lst [])) := same_new hl
      have L3 := L2.same sl
      have hp3 := sl _ _ hp2
      have s3 : Same H' (upd H2 l (.lst [])) := same_trans s2 sl
      have zmi : ZD (fun b => MI Z p (c :: r) b ∨ b = l) (upd H2 l (.lst [])) := by
        rintro b (hb | hb)
        · rcases hb with hb | rfl | hb
          · exact zd1.same s3 b hb
          · rw [hp3]
            simp
          · obtain ⟨f, hf2, rfl⟩ := List.mem_map.mp hb
            obtain ⟨ws, e⟩ := L3.ll f hf2
            rw [e]
            simp
        · rw [hb, upd_same]
          simp
      generalize hG : upd H2 l (.lst []) = H3 at *
      show tSs K T (wpF K T cv (n + 4)) _ cv _ _ [some (.ref a), some (.ref l0), some (.ref p), some x, some (.ref l)] H3
      have mc : c ∈ c :: r := List.mem_cons_self ..
      refine s_seq (s_appI rfl hp3 (L3.tt c mc) (L3.tl c rfl) ?_)
      ·
        refine a_ev (ρ := [none, none, none, some (shD y, false)]) io (.int y.2.1) (zd1.same s3) (EX s3) (by simp [lookD, shD, Fw.at_pos]) ?_
        intro v4 H4 s4 rv4
        simp only [Rep] at rv4
        subst rv4
        refine a_call (a_ev (ρ := [none, none, none, some (shD y, false)]) io (.str y.2.2) (zd1.same (same_trans s3 s4)) (EX (same_trans s3 s4)) (by simp [lookD, shD, Fw.at_pos]) ?_)
        intro v5 H5 s5 rv5
        simp only [Rep] at rv5
        subst rv5
        refine a_nil ?_
        refine w_parts P n (zmi.same (same_trans s4 s5)) hd2 ?_
        intro pv H6 s6 rp6
        refine a_var rfl (a_nil ⟨by simp [sizeLine], fun q2 hq2 => ?_⟩)
        have s36 := same_trans (same_trans s4 s5) s6
        have L6 := L3.same s36
        have hcl : upd H6 q2 (.tup [.int y.2.1, pv, .ref l]) c.l = some (.lst c.vs) := same_new hq2 _ _ (L6.tl c rfl)
        refine ⟨c.l, c.vs, _, rfl, rfl, hcl, by simp at hn1; simp [sizeLine]; omega, ?_⟩
        have hn0 : H0 c.l = none := L6.nl c mc
        have hn6 : c.vs.length ≤ 1000000 := by simp at hn1; omega
        have hlq : Same H6 (upd H6 q2 (.tup [.int y.2.1, pv, .ref l])) := same_new hq2
        have sm7 : Same H0 (upd (upd H6 q2 (.tup [.int y.2.1, pv, .ref l])) c.l (.lst (c.vs ++ [.ref q2]))) := same_upd (same_trans L6.sm hlq) hn0
        have hp7 : upd (upd H6 q2 (.tup [.int y.2.1, pv, .ref l])) c.l (.lst (c.vs ++ [.ref q2])) p = some (.lst (((c :: r).map fun f => V.ref f.t).reverse)) := by
          rw [upd_ne (L6.lp c mc).symm]
          exact hlq _ _ (s36 _ _ hp3)
        have hlH2 : H2 l = none := hl
        have s6' : Same (upd H2 l (.lst [])) H6 := by
          rw [hG]
          exact s36
        have hpush := fun (H8 : Hp) (t8 : Addr) (s8 : Same (upd (upd H6 q2 (.tup [.int y.2.1, pv, .ref l])) c.l (.lst (c.vs ++ [.ref q2]))) H8) (h8 : H8 t8 = none) => L2.push zd ⟨_, hp2⟩ (d := y.2.1) (pd := .lst (partsP y.2.2)) hlH2 s6' rp6 hq2 s8 h8
        generalize hH7 : upd (upd H6 q2 (.tup [.int y.2.1, pv, .ref l])) c.l (.lst (c.vs ++ [.ref q2])) = H7 at *
        refine s_seq (s_appV rfl hp7 ?_)
        refine a_ev (ρ := [none, none, none, some (shD y, false)]) (Z := Z) io (.int y.2.1) (zd.same sm7) (env_n (env_n (env_n (env_c (rep_mono (hide_same sm7) _ _ rx) env_nil)))) (by simp [lookD, shD, Fw.at_pos]) ?_
        intro v8 H8 s8 rv8
        simp only [Rep] at rv8
        subst rv8
        refine a_var rfl (a_nil ⟨by simp [sizeLine], fun t8 ht8 => ?_⟩)
        have L9 := hpush H8 t8 s8 ht8
        have hp9 : upd H8 t8 (.tup [.int y.2.1, .ref l]) p = some (.lst (((c :: r).map fun f => V.ref f.t).reverse)) := same_new ht8 _ _ (s8 _ _ hp7)
        refine ⟨p, _, _, rfl, rfl, hp9, by simp at hn1; simp [sizeLine]; omega, ?_⟩
        simp only [tSs, tNext]
        refine ⟨⟨t8, l, q2, y.2.1, .lst (partsP y.2.2), pv, [], []⟩ :: c :: r, some x, some (.ref l), ⟨L9.pile ⟨_, hp9⟩ _, ?_, ?_, ?_, ?_⟩, ?_, rfl⟩
        · rw [upd_same]
          simp
        · rw [List.getLast?_cons_cons]
          exact hb1
        · rw [List.getLast?_cons_cons]
          exact hz1
        · simp at hn1 ⊢
          omega
        · show _ = itemS (absI fs) y.2
          unfold itemS
          rw [← hpop]
          rfl
  · rintro σ H ⟨fs, x3, x4, hS, habs, rfl⟩
    show tSs K T (wpF K T cv (n + 4)) _ cv _ _ [some (.ref a), some (.ref l0), some (.ref p), x3, x4] H
    refine s_seq ?_
    simp only [tS, tE]
    refine ⟨.ref l0, rfl, q _ _ hS.1.sm ?_⟩
    have := hS.1.whole zd ⟨_, hS.2.1⟩ hS.2.2.1
    rw [habs, List.take_of_length_le (by omega)] at this
    exact this
def shapesOf : List Dat → Option (List (List Nat × Int × List Nat))
  | [] => some []
  | .tup [.str k, .int d, .str w] :: r => (shapesOf r).map ((k, d, w) :: ·)
  | _ => none
theorem shapesOf_map : ∀ xs : List (List Nat × Int × List Nat), shapesOf (xs.map shD) = some xs
  | [] => rfl
  | x :: r => by
    show (shapesOf (r.map shD)).map _ = _
    rw [shapesOf_map r]
    rfl
theorem shapesOf_eq : ∀ {ds : List Dat} {xs : List (List Nat × Int × List Nat)}, shapesOf ds = some xs → ds = xs.map shD
  | [], xs, h => by
    cases h
    rfl
  | d :: r, xs, h => by
    unfold shapesOf at h
    split at h
    · rename_i e; cases e
    · rename_i k x w r' e
      cases e
      obtain ⟨ys, hy, rfl⟩ := Option.map_eq_some_iff.mp h
      rw [shapesOf_eq hy]
      rfl
    · cases h
def okSh (xs : List (List Nat × Int × List Nat)) : Bool := leq xs.length 1000000 && xs.all fun x => decide (1 ≤ x.2.1) && leq x.2.2.length 8000000
def itemsG : List Dat → Rs Dat
  | [.lst ds] => match shapesOf ds with
    | some xs => .chk (okSh xs) (.ok (.lst (itemsP (xs.map fun x => x.2))))
    | none => .er
  | _ => .er
theorem items_pure (P : PT T io o g h) {oi : Nat} (hf : T.fns[oi]? = some (dI (o + 6))) (n : Nat) (hn : 5 ≤ n) : PureF K cv (wpF K T cv n oi) itemsG := by
  obtain ⟨n, rfl⟩ : ∃ m, n = m + 5 := ⟨n - 5, by omega⟩
  intro ds vs Z H Q E zd r h
  match ds, r, h with
  | [.lst ds], r, h =>
    simp only [RepL, Rep] at r
    obtain ⟨v, rr, rfl, ⟨a, ws, rfl, ha, hr⟩, rfl⟩ := r
    have h' : Post K Z H (match shapesOf ds with
      | some xs => .chk (okSh xs) (.ok (.lst (itemsP (xs.map fun x => x.2))))
      | none => .er) Q (fun c H' => E (cv c) none H') := h
    cases hs : shapesOf ds with
    | none =>
      rw [hs] at h'
      exact h'.elim
    | some xs =>
      rw [hs] at h'
      cases hk : okSh xs with
      | false =>
        simp only [hk] at h'
        exact h'.elim
      | true =>
        simp only [hk] at h'
        have e := shapesOf_eq hs
        subst e
        unfold okSh at hk
        rw [Bool.and_eq_true] at hk
        refine w_items P hf n zd (.inl (.inl (hide_some ha).1)) hr (fun x hx => ?_) (of_decide_eq_true hk.1) h'
        have := List.all_eq_true.mp hk.2 x hx
        rw [Bool.and_eq_true] at this
        exact ⟨of_decide_eq_true this.1, of_decide_eq_true this.2⟩
  | [], r, h => exact h.elim
  | [.non], r, h => exact h.elim
  | [.bl _], r, h => exact h.elim
  | [.int _], r, h => exact h.elim
  | [.str _], r, h => exact h.elim
  | [.tup _], r, h => exact h.elim
  | [.frz _], r, h => exact h.elim
  | a :: b :: l, r, h =>
    have e : itemsG (a :: b :: l) = .er := by cases a <;> rfl
    rw [e] at h
    exact h.elim
end
end Fw

set_option maxHeartbeats 4000000
namespace Fw
open PySem PySem.Spec PyProof.Rows L2
section
variable {K : PySem.W.Frag} {T : Tbl} {cv : Nat → Value} {n : Nat} {W : WX} {D : Ends} {σ : L2.St} {H : Hp} {ρ : DS} {Z : Addr → Prop}
/-- [el for j in range(e)], by an invariant -/
theorem lc_rg {j : Nat} {e el : Ex} {Q : VK} (io : Nat → Bool) (N : Nat) (S : Nat → Addr → Hp → Prop) (hN : N < 16777216) (zd : ZD Z H) (E : EnvOk K Z H (ment e) (vals ρ) σ) (h : evD T io (callD T io X0 1000 n) e (vals ρ) = .ok (.int N))
    (h0 : ∀ D H1, Same H H1 → H1 D = none → S 0 D (upd H1 D (.lst [])))
    (step : ∀ k D H1, k < N → S k D H1 → tE K T (wpF K T cv n) W0 el ((wipe σ [j]).set j (some (.int k))) H1 fun y H2 => ∃ acc, H2 D = some (.lst acc) ∧ acc.length < sizeLine ∧ S (k + 1) D (upd H2 D (.lst (acc ++ [y]))))
    (fin : ∀ D H1, S N D H1 → Q (.ref D) H1) : tE K T (wpF K T cv n) W (.lc j (.rg e) el) σ H Q := by
  simp only [tE, tI]
  refine tE_of (io := io) (.int N) zd E h ?_
  intro v H1 s r
  simp only [Rep] at r
  subst r
  have h1 : (N : Int) ≤ 16777216 := by omega
  refine ⟨(N : Int), rfl, Int.le_trans (by decide) (Int.natCast_nonneg N), Int.lt_of_le_of_lt h1 (by decide), fun D hD => ?_⟩
  rw [Int.toNat_natCast]
  refine ⟨fun k m H' => S k D H' ∧ k ≤ N ∧ m = N - k, ⟨N, h0 D H1 s hD, Nat.zero_le _, rfl⟩, ?_⟩
  rintro k m H' ⟨hs, hk, rfl⟩
  rcases Nat.lt_or_ge k N with hlt | hge
  · right
    refine ⟨hlt, fun H2 => S (k + 1) D H2, fun H2 s2 => ⟨N - (k + 1), by omega, s2, hlt, rfl⟩, ?_⟩
    rintro x H2 ⟨rfl, rfl⟩
    have st := step k D H2 hlt hs
    rw [← Int.zero_add (k : Int)] at st
    refine ⟨wipe_back, ?_⟩
    exact st
  · left
    have : k = N := Nat.le_antisymm hk hge
    subst this
    exact ⟨Nat.le_refl _, fin D H' hs⟩
/-- a walk through range(e), by hand -/
theorem s_forR {j : Nat} {e : Ex} {b : Sms} (io : Nat → Bool) (N : Nat) (S : Nat → L2.St → Hp → Prop) (hN : N < 16777216) (zd : ZD Z H) (E : EnvOk K Z H (ment e) (vals ρ) σ) (h : evD T io (callD T io X0 1000 n) e (vals ρ) = .ok (.int N))
    (h0 : ∀ H1, Same H H1 → S 0 σ H1)
    (step : ∀ k σ' H', k < N → S k σ' H' → tSs K T (wpF K T cv n) W cv b { D with nx := S (k + 1), ct := S (k + 1), bk := D.nx } (σ'.set j (some (.int k))) H') (fin : ∀ σ' H', S N σ' H' → D.nx σ' H') : tS K T (wpF K T cv n) W cv (.for_ j (.rg e) b) D σ H := by
  simp only [tS, tI]
  refine tE_of (io := io) (.int N) zd E h ?_
  intro v H1 s r
  simp only [Rep] at r
  subst r
  have h1 : (N : Int) ≤ 16777216 := by omega
  refine ⟨(N : Int), rfl, Int.le_trans (by decide) (Int.natCast_nonneg N), Int.lt_of_le_of_lt h1 (by decide), ?_⟩
  rw [Int.toNat_natCast]
  refine ⟨fun k m σ' H' => S k σ' H' ∧ k ≤ N ∧ m = N - k, ⟨N, h0 H1 s, Nat.zero_le _, rfl⟩, ?_⟩
  rintro k m σ' H' ⟨s, hk, rfl⟩
  rcases Nat.lt_or_ge k N with hlt | hge
  · right
    refine ⟨hlt, S (k + 1), fun σ2 H2 s2 => ⟨N - (k + 1), by omega, s2, hlt, rfl⟩, ?_⟩
    rintro x H2 ⟨rfl, rfl⟩
    show tSs K T (wpF K T cv n) W cv b _ (σ'.set j (some (.int (0 + (k : Int))))) H2
    rw [Int.zero_add]
    exact step k σ' H2 hlt s
  · left
    have : k = N := Nat.le_antisymm hk hge
    subst this
    exact ⟨Nat.le_refl _, fin σ' H' s⟩
end
end Fw

set_option maxHeartbeats 4000000
namespace Fw
open PySem PySem.Spec PyProof.Rows L2

def bNst : Sms := (.cons (.asg 2 (.lc 4 (.rg (.len (.var 0))) (.tup (.cons (.idx (.var 0) (.var 4)) (.cons (.lst (.cons (.idx (.var 1) (.var 4)) .nil)) (.cons (.lst .nil) .nil)))))) (.cons (.asg 3 (.lst .nil)) (.cons (.for_ 4 (.rg (.len (.var 0)))
 (.cons (.asg 5 (.bin .sub (.var 4) (.con (.int 1)))) (.cons (.whl (.and (.cmp .ge (.var 5) (.con (.int 0))) (.cmp .ge (.idx (.var 0) (.var 5)) (.idx (.var 0) (.var 4))))
 (.cons (.asg 5 (.bin .sub (.var 5) (.con (.int 1)))) .nil)) (.cons (.ite (.cmp .lt (.var 5) (.con (.int 0)))
 (.cons (.ex (.app (.var 3) (.idx (.var 2) (.var 4)))) .nil)
 (.cons (.ex (.app (.idx (.idx (.var 2) (.var 5)) (.con (.int 2))) (.idx (.var 2) (.var 4)))) .nil)) .nil)))) (.cons (.ret (.var 3)) .nil))))
def dNst : FDef := ⟨("_law_nest" : Str), [("_law_dashes" : Str), ("_law_words" : Str), ("_law_nodes" : Str), ("_law_top" : Str), ("_law_k" : Str), ("_law_at" : Str)], 2, bNst⟩
/-! ### nodes whose lists grow -/
structure Nd where
  t : Addr
  u : Addr
  d : Int
  w : Dat
  wv : V
  ch : List Nat
def NZ (Z : Addr → Prop) (O : Addr → Prop) (ns : List Nd) : Addr → Prop := fun a => Z a ∨ O a ∨ a ∈ ns.map (·.u)
/-- O: other lists that grow -/
structure NdS (K : PySem.W.Frag) (H0 H : Hp) (Z O : Addr → Prop) (tof : Nat → Addr) (ns : List Nd) : Prop where
  sm : Same H0 H
  o0 : ∀ a, O a → H0 a = none
  oo : ∀ a, O a → ∃ ws, H a = some (.lst ws)
  un : ∀ f ∈ ns, H0 f.u = none
  tn : ∀ f ∈ ns, H0 f.t = none
  uo : ∀ f ∈ ns, ¬ O f.u
  tt : ∀ f ∈ ns, H f.t = some (.tup [.int f.d, f.wv, .ref f.u])
  uu : ∀ f ∈ ns, H f.u = some (.lst (f.ch.map fun j => V.ref (tof j)))
  ww : ∀ f ∈ ns, Rep K (hide (NZ Z O ns) H) f.w f.wv
  nd : (ns.map (·.u)).Nodup
section
variable {K : PySem.W.Frag} {H0 H H1 : Hp} {Z O : Addr → Prop} {tof : Nat → Addr} {ns : List Nd}
theorem NdS.same (h : NdS K H0 H Z O tof ns) (s : Same H H1) : NdS K H0 H1 Z O tof ns where
  sm := same_trans h.sm s
  o0 := h.o0
  oo := fun a ha => by
    obtain ⟨ws, e⟩ := h.oo a ha
    exact ⟨ws, s _ _ e⟩
  un := h.un
  tn := h.tn
  uo := h.uo
  tt := fun f m => s _ _ (h.tt f m)
  uu := fun f m => s _ _ (h.uu f m)
  ww := fun f m => rep_mono (hide_same s) _ _ (h.ww f m)
  nd := h.nd
/-- one of the other lists changes -/
theorem NdS.other (h : NdS K H0 H Z O tof ns) {a : Addr} {ws : List V} (ha : O a) : NdS K H0 (upd H a (.lst ws)) Z O tof ns where
  sm := same_upd h.sm (h.o0 a ha)
  o0 := h.o0
  oo := fun b hb => by
    by_cases e : b = a
    · rw [e, upd_same]
      exact ⟨_, rfl⟩
    · rw [upd_ne e]
      exact h.oo b hb
  un := h.un
  tn := h.tn
  uo := h.uo
  tt := fun f m => by
    obtain ⟨w, hw⟩ := h.oo a ha
    rw [upd_ne (ne_of (h.tt f m) hw (by simp))]
    exact h.tt f m
  uu := fun f m => by
    rw [upd_ne (fun e => h.uo f m (by rw [e]; exact ha))]
    exact h.uu f m
  ww := fun f m => rep_mono (hide_mut (.inr (.inl ha))) _ _ (h.ww f m)
  nd := h.nd
/-- a new list that grows -/
theorem NdS.newO (h : NdS K H0 H Z O tof ns) {a : Addr} {ws : List V} (ha : H a = none) : NdS K H0 (upd H a (.lst ws)) Z (fun b => O b ∨ b = a) tof ns where
  sm := same_trans h.sm (same_new ha)
  o0 := fun b hb => by
    rcases hb with hb | rfl
    · exact h.o0 b hb
    · cases e : H0 b with
      | none => rfl
      | some o => rw [h.sm b o e] at ha; cases ha
  oo := fun b hb => by
    rcases hb with hb | rfl
    · obtain ⟨w, e⟩ := h.oo b hb
      exact ⟨w, same_new ha _ _ e⟩
    · exact ⟨_, upd_same⟩
  un := h.un
  tn := h.tn
  uo := fun f m hb => by
    rcases hb with hb | e
    · exact h.uo f m hb
    · have := h.uu f m
      rw [e, ha] at this
      cases this
  tt := fun f m => same_new ha _ _ (h.tt f m)
  uu := fun f m => same_new ha _ _ (h.uu f m)
  ww := fun f m => rep_mono (fun b o e => by
    obtain ⟨e1, e2⟩ := hide_some e
    refine hide_of (same_new ha b o e1) ?_
    rintro (z | (z | z) | z)
    · exact e2 (.inl z)
    · exact e2 (.inr (.inl z))
    · rw [z, ha] at e1
      cases e1
    · exact e2 (.inr (.inr z))) _ _ (h.ww f m)
  nd := h.nd
/-- a new node -/
theorem NdS.node (h : NdS K H0 H Z O tof ns) {t u : Addr} {d : Int} {w : Dat} {wv : V} (hu : H u = none) (ht : upd H u (.lst []) t = none) (rw_ : Rep K (hide (NZ Z O ns) H) w wv) : NdS K H0 (upd (upd H u (.lst [])) t (.tup [.int d, wv, .ref u])) Z O tof (ns ++ [⟨t, u, d, w, wv, []⟩]) := by
  have s1 : Same H (upd (upd H u (.lst [])) t (.tup [.int d, wv, .ref u])) := same_trans (same_new hu) (same_new ht)
  have ht' : H t = none := by
    cases e : H t with
    | none => rfl
    | some o => rw [same_new hu t o e] at ht; cases ht
  have tu : t ≠ u := fun e => by rw [e, upd_same] at ht; cases ht
  have n0 : ∀ a, H a = none → H0 a = none := fun a e => by
    cases e2 : H0 a with
    | none => rfl
    | some o => rw [h.sm a o e2] at e; cases e
  have key : Same (hide (NZ Z O ns) H) (hide (NZ Z O (ns ++ [⟨t, u, d, w, wv, []⟩])) (upd (upd H u (.lst [])) t (.tup [.int d, wv, .ref u]))) := fun b o e => by
    obtain ⟨e1, e2⟩ := hide_some e
    refine hide_of (s1 b o e1) ?_
    rintro (z | z | z)
    · exact e2 (.inl z)
    · exact e2 (.inr (.inl z))
    · rw [List.map_append, List.mem_append] at z
      rcases z with z | z
      · exact e2 (.inr (.inr z))
      · have : b = u := by simpa using z
        rw [this, hu] at e1
        cases e1
  have mem : ∀ f, f ∈ ns ++ [(⟨t, u, d, w, wv, []⟩ : Nd)] → f ∈ ns ∨ f = ⟨t, u, d, w, wv, []⟩ := fun f hf => by
    rw [List.mem_append, List.mem_singleton] at hf
    exact hf
  exact {
    sm := same_trans h.sm s1
    o0 := h.o0
    oo := fun a ha => by
      obtain ⟨ws, e⟩ := h.oo a ha
      exact ⟨ws, s1 _ _ e⟩
    un := fun f m => by
      rcases mem f m with m | rfl
      · exact h.un f m
      · exact n0 u hu
    tn := fun f m => by
      rcases mem f m with m | rfl
      · exact h.tn f m
      · exact n0 t ht'
    uo := fun f m => by
      rcases mem f m with m | rfl
      · exact h.uo f m
      · intro ho
        obtain ⟨ws, e⟩ := h.oo u ho
        rw [hu] at e
        cases e
    tt := fun f m => by
      rcases mem f m with m | rfl
      · exact s1 _ _ (h.tt f m)
      · exact upd_same
    uu := fun f m => by
      rcases mem f m with m | rfl
      · exact s1 _ _ (h.uu f m)
      · show upd _ t _ u = _
        rw [upd_ne tu.symm]
        exact upd_same
    ww := fun f m => by
      rcases mem f m with m | rfl
      · exact rep_mono key _ _ (h.ww f m)
      · exact rep_mono key _ _ rw_
    nd := by
      rw [List.map_append, List.nodup_append]
      refine ⟨h.nd, by simp, ?_⟩
      intro a ha b hb e
      have hb' : b = u := by simpa using hb
      obtain ⟨f, hf, rfl⟩ := List.mem_map.mp ha
      have := h.uu f hf
      rw [e, hb', hu] at this
      cases this }
/-- a node gets a child -/
def addC (ns : List Nd) (i k : Nat) : List Nd := match ns[i]? with
  | some f => ns.set i { f with ch := f.ch ++ [k] }
  | none => ns
theorem addC_u (ns : List Nd) (i k : Nat) : (addC ns i k).map (·.u) = ns.map (·.u) := by
  unfold addC
  cases e : ns[i]? with
  | none => rfl
  | some f =>
    show (ns.set i _).map (·.u) = _
    rw [List.map_set]
    apply List.ext_getElem?
    intro j
    rw [List.getElem?_set]
    by_cases hj : i = j
    · subst hj
      have hl : i < ns.length := (List.getElem?_eq_some_iff.mp e).1
      simp [e, hl]
      exact congrArg Nd.u (List.getElem?_eq_some_iff.mp e).2.symm
    · rw [if_neg hj]
theorem addC_get {ns : List Nd} {i k j : Nat} {g : Nd} (h : (addC ns i k)[j]? = some g) : ∃ f, ns[j]? = some f ∧ g = { f with ch := if j = i then f.ch ++ [k] else f.ch } := by
  unfold addC at h
  cases e : ns[i]? with
  | none =>
    rw [e] at h
    refine ⟨g, h, ?_⟩
    have : j ≠ i := fun x => by rw [x, e] at h; cases h
    rw [if_neg this]
  | some f =>
    rw [e] at h
    have h' : (ns.set i { f with ch := f.ch ++ [k] })[j]? = some g := h
    rw [List.getElem?_set] at h'
    by_cases hj : i = j
    · subst hj
      have hl : i < ns.length := (List.getElem?_eq_some_iff.mp e).1
      rw [if_pos rfl, if_pos hl] at h'
      cases h'
      exact ⟨f, e, by rw [if_pos rfl]⟩
    · rw [if_neg hj] at h'
      exact ⟨g, h', by rw [if_neg (Ne.symm hj)]⟩
theorem nd_inj {ns : List Nd} (nd : (ns.map (·.u)).Nodup) {i j : Nat} {f g : Nd} (hi : ns[i]? = some f) (hj : ns[j]? = some g) (e : f.u = g.u) : i = j := by
  have h1 : i < (ns.map (·.u)).length := by rw [List.length_map]; exact (List.getElem?_eq_some_iff.mp hi).1
  have h2 : j < (ns.map (·.u)).length := by rw [List.length_map]; exact (List.getElem?_eq_some_iff.mp hj).1
  have e3 : (ns.map (·.u))[i] = (ns.map (·.u))[j] := by
    rw [List.getElem_map, List.getElem_map, (List.getElem?_eq_some_iff.mp hi).2, (List.getElem?_eq_some_iff.mp hj).2]
    exact e
  have pw := List.pairwise_iff_getElem.mp nd
  rcases Nat.lt_trichotomy i j with h | h | h
  · exact absurd e3 (pw i j h1 h2 h)
  · exact h
  · exact absurd e3.symm (pw j i h2 h1 h)
theorem NdS.child (h : NdS K H0 H Z O tof ns) {i k : Nat} {f : Nd} (hi : ns[i]? = some f) : NdS K H0 (upd H f.u (.lst ((f.ch ++ [k]).map fun j => V.ref (tof j)))) Z O tof (addC ns i k) := by
  have mf : f ∈ ns := List.mem_of_getElem? hi
  have hz : NZ Z O (addC ns i k) = NZ Z O ns := by
    unfold NZ
    rw [addC_u]
  have hu : NZ Z O ns f.u := .inr (.inr (List.mem_map_of_mem mf))
  have get : ∀ g ∈ addC ns i k, ∃ (j : Nat) (f' : Nd), ns[j]? = some f' ∧ g = { f' with ch := if j = i then f'.ch ++ [k] else f'.ch } := fun g hg => by
    obtain ⟨j, hj⟩ := List.getElem?_of_mem hg
    obtain ⟨f', e1, e2⟩ := addC_get hj
    exact ⟨j, f', e1, e2⟩
  exact {
    sm := same_upd h.sm (h.un f mf)
    o0 := h.o0
    oo := fun a ha => by
      obtain ⟨ws, e⟩ := h.oo a ha
      exact ⟨ws, by rw [upd_ne (fun x => h.uo f mf (by rw [← x]; exact ha))]; exact e⟩
    un := fun g hg => by
      obtain ⟨j, f', e1, rfl⟩ := get g hg
      exact h.un f' (List.mem_of_getElem? e1)
    tn := fun g hg => by
      obtain ⟨j, f', e1, rfl⟩ := get g hg
      exact h.tn f' (List.mem_of_getElem? e1)
    uo := fun g hg => by
      obtain ⟨j, f', e1, rfl⟩ := get g hg
      exact h.uo f' (List.mem_of_getElem? e1)
    tt := fun g hg => by
      obtain ⟨j, f', e1, rfl⟩ := get g hg
      have := h.tt f' (List.mem_of_getElem? e1)
      show upd _ _ _ f'.t = _
      rw [upd_ne (ne_of this (h.uu f mf) (by simp))]
      exact this
    uu := fun g hg => by
      obtain ⟨j, f', e1, rfl⟩ := get g hg
      show upd _ _ _ f'.u = _
      by_cases hj : j = i
      · subst hj
        rw [hi] at e1
        cases e1
        rw [upd_same, if_pos rfl]
      · rw [upd_ne (fun e => hj (nd_inj h.nd e1 hi e)), if_neg hj]
        exact h.uu f' (List.mem_of_getElem? e1)
    ww := fun g hg => by
      obtain ⟨j, f', e1, rfl⟩ := get g hg
      rw [hz]
      exact rep_mono (hide_mut hu) _ _ (h.ww f' (List.mem_of_getElem? e1))
    nd := by
      rw [addC_u]
      exact h.nd }
/-- the tree below a node -/
def treeN (ns : List Nd) : Nat → Nat → Dat
  | 0, _ => .non
  | n + 1, k => match ns[k]? with
    | some f => .tup [.int f.d, f.w, .lst (f.ch.map (treeN ns n))]
    | none => .non
theorem NdS.tree (h : NdS K H0 H Z O tof ns) (zd : ZD Z H0) (hch : ∀ (k : Nat) f, ns[k]? = some f → ∀ j ∈ f.ch, k < j ∧ j < ns.length) (ht : ∀ (k : Nat) f, ns[k]? = some f → tof k = f.t) : ∀ (n k : Nat), k < ns.length → ns.length ≤ k + n → Rep K (hide Z H) (treeN ns n k) (.ref (tof k))
  | 0, k, h1, h2 => by omega
  | n + 1, k, h1, h2 => by
    have e : ns[k]? = some ns[k] := List.getElem?_eq_getElem h1
    generalize ns[k] = f at e
    have mf : f ∈ ns := List.mem_of_getElem? e
    have nz : ∀ a, H0 a = none → ¬ Z a := fun a ha z => zd a z ha
    rw [ht k f e]
    show Rep K (hide Z H) (match ns[k]? with
      | some f => .tup [.int f.d, f.w, .lst (f.ch.map (treeN ns n))]
      | none => .non) _
    rw [e]
    refine rep_tup (hide_of (h.tt f mf) (nz _ (h.tn f mf))) (repL_cons (rep_int _) (repL_cons (rep_mono (hide_anti fun a z => .inl z) _ _ (h.ww f mf)) (repL_cons (rep_lst (hide_of (h.uu f mf) (nz _ (h.un f mf))) (repL_all fun j hj => ?_)) repL_nil)))
    obtain ⟨g1, g2⟩ := hch k f e j hj
    exact h.tree zd hch ht n j g2 (by omega)
end
end Fw

set_option maxHeartbeats 4000000
namespace Fw
open PySem PySem.Spec PyProof.Rows L2
/-- the last one ahead of n with less than x -/
def upD (ds : List Int) (x : Int) : Nat → Option Nat
  | 0 => none
  | n + 1 => if ds.getD n 0 < x then some n else upD ds x n
theorem upD_lt {ds : List Int} {x : Int} : ∀ {n p : Nat}, upD ds x n = some p → p < n
  | 0, p, h => by cases h
  | n + 1, p, h => by
    unfold upD at h
    split at h
    · cases h
      omega
    · have := upD_lt h
      omega
def condN (ds : List Int) (x : Int) : Nat → Bool
  | 0 => false
  | p + 1 => decide (x ≤ ds.getD p 0)
abbrev parN (ds : List Int) (k : Nat) : Option Nat := upD ds (ds.getD k 0) k
def kids (ds : List Int) (k : Nat) (p : Option Nat) : List Nat := (List.range k).filter fun j => decide (parN ds j = p)
theorem kids_succ (ds : List Int) (k : Nat) (p : Option Nat) : kids ds (k + 1) p = if parN ds k = p then kids ds k p ++ [k] else kids ds k p := by
  unfold kids
  rw [List.range_succ, List.filter_append]
  by_cases h : parN ds k = p
  · rw [if_pos h]
    simp [h]
  · rw [if_neg h]
    simp [h]
/-- the tree below k -/
def treeD (ds : List Int) (ws : List (List Nat)) : Nat → Nat → Dat
  | 0, _ => .non
  | n + 1, k => .tup [.int (ds.getD k 0), .lst [.str (ws.getD k [])], .lst ((kids ds ds.length (some k)).map (treeD ds ws n))]
def nestP (ds : List Int) (ws : List (List Nat)) : List Dat := (kids ds ds.length none).map (treeD ds ws ds.length)
section
variable {K : PySem.W.Frag} {T : Tbl} {cv : Nat → Value} {io : Nat → Bool} {H0 H : Hp} {Z O : Addr → Prop} {tof : Nat → Addr} {ns : List Nd}
theorem NdS.zd (h : NdS K H0 H Z O tof ns) (zd : ZD Z H0) : ZD (NZ Z O ns) H := by
  rintro a (z | z | z)
  · exact zd.same h.sm a z
  · obtain ⟨ws, e⟩ := h.oo a z
    rw [e]
    simp
  · obtain ⟨f, hf, rfl⟩ := List.mem_map.mp z
    rw [h.uu f hf]
    simp
theorem NdS.retof {tof2 : Nat → Addr} (h : NdS K H0 H Z O tof ns) (hc : ∀ f ∈ ns, f.ch = []) : NdS K H0 H Z O tof2 ns where
  sm := h.sm
  o0 := h.o0
  oo := h.oo
  un := h.un
  tn := h.tn
  uo := h.uo
  tt := h.tt
  uu := fun f m => by
    have := h.uu f m
    rw [hc f m] at this ⊢
    exact this
  ww := h.ww
  nd := h.nd
/-- what the nodes hold when none has a child -/
def Bare (ds : List Int) (ws : List (List Nat)) (ns : List Nd) : Prop := ∀ (i : Nat) f, ns[i]? = some f → f.d = ds.getD i 0 ∧ f.w = .lst [.str (ws.getD i [])]
theorem at_map {α : Type} {g : α → V} {xs : List α} {k : Nat} {d : α} (h : k < xs.length) : atI (xs.map g) (k : Int) = some (g (xs.getD k d)) := by
  rw [Fw.at_pos (by omega), show (k : Int).toNat = k by omega, List.getElem?_map, List.getD_eq_getElem?_getD, List.getElem?_eq_getElem h]
  rfl
theorem ints_inv {K : PySem.W.Frag} {H : Hp} : ∀ {ds : List Int} {vs : List V}, RepL K H (ds.map .int) vs → vs = ds.map V.int
  | [], vs, h => by simpa only [List.map_nil, RepL] using h
  | d :: r, vs, h => by
    simp only [List.map_cons, RepL, Rep] at h
    obtain ⟨v, r', rfl, rfl, h2⟩ := h
    rw [ints_inv h2]
    rfl
theorem strs_inv {K : PySem.W.Frag} {H : Hp} : ∀ {ws : List (List Nat)} {vs : List V}, RepL K H (ws.map .str) vs → vs = ws.map vS
  | [], vs, h => by simpa only [List.map_nil, RepL] using h
  | d :: r, vs, h => by
    simp only [List.map_cons, RepL, Rep] at h
    obtain ⟨v, r', rfl, rfl, h2⟩ := h
    rw [strs_inv h2]
    rfl
theorem kids_mem {ds : List Int} {m j : Nat} {p : Option Nat} (h : j ∈ kids ds m p) : j < m ∧ parN ds j = p := by
  unfold kids at h
  rw [List.mem_filter, List.mem_range] at h
  exact ⟨h.1, of_decide_eq_true h.2⟩
theorem tree_eq {ds : List Int} {ws : List (List Nat)} {ns : List Nd} (hl : ns.length = ds.length) (hB : Bare ds ws ns) (hC : ∀ (i : Nat) f, ns[i]? = some f → f.ch = kids ds ds.length (some i)) : ∀ (n k : Nat), k < ds.length → treeN ns n k = treeD ds ws n k
  | 0, k, _ => rfl
  | n + 1, k, hk => by
    have e : ns[k]? = some ns[k] := List.getElem?_eq_getElem (by omega)
    generalize ns[k] = f at e
    show (match ns[k]? with
      | some f => Dat.tup [.int f.d, f.w, .lst (f.ch.map (treeN ns n))]
      | none => .non) = _
    rw [e]
    show Dat.tup [.int f.d, f.w, .lst (f.ch.map (treeN ns n))] = .tup [.int (ds.getD k 0), .lst [.str (ws.getD k [])], .lst ((kids ds ds.length (some k)).map (treeD ds ws n))]
    rw [(hB k f e).1, (hB k f e).2, hC k f e]
    congr 5
    exact List.map_congr_left fun j hj => tree_eq hl hB hC n j (kids_mem hj).1
theorem w_nest {oi : Nat} (hf : T.fns[oi]? = some dNst) (n : Nat) {a b : Addr} {ds : List Int} {ws : List (List Nat)} {Q : VK} {E : XK} (zd : ZD Z H0) (ra : Rep K (hide Z H0) (.lst (ds.map .int)) (.ref a)) (rb : Rep K (hide Z H0) (.lst (ws.map .str)) (.ref b)) (hl : ds.length ≤ 1000000) (hw : ws.length = ds.length)
    (q : ∀ v H', Same H0 H' → Rep K (hide Z H') (.lst (nestP ds ws)) v → Q v H') : wpF K T cv (n + 1) oi [.ref a, .ref b] H0 Q E := by
  obtain ⟨a', va, ea, ha, hra⟩ : ∃ a' va, V.ref a = .ref a' ∧ hide Z H0 a' = some (.lst va) ∧ RepL K (hide Z H0) (ds.map .int) va := by
    simpa only [Rep] using ra
  cases ea
  have hva := ints_inv hra
  subst hva
  obtain ⟨b', vb, eb, hb, hrb⟩ : ∃ a' va, V.ref b = .ref a' ∧ hide Z H0 a' = some (.lst va) ∧ RepL K (hide Z H0) (ws.map .str) va := by
    simpa only [Rep] using rb
  cases eb
  have hvb := strs_inv hrb
  subst hvb
  have sa : H0 a = some (.lst (ds.map V.int)) := (hide_some ha).1
  have sb : H0 b = some (.lst (ws.map vS)) := (hide_some hb).1
  refine wp_at hf rfl ?_
  show tSs K T (wpF K T cv n) _ cv bNst _ [some (.ref a), some (.ref b), none, none, none, none] H0
  unfold bNst
  refine s_seq ?_
  simp only [tS]
  refine lc_rg (ρ := [some (.lst (ds.map .int), false)]) (Z := Z) (fun _ => false) ds.length (fun k D H => ∃ ns, (∀ tof, NdS K H0 H Z (fun x => x = D) tof ns) ∧ ns.length = k ∧ Bare ds ws ns ∧ (∀ f ∈ ns, f.ch = []) ∧ H D = some (.lst (ns.map fun f => V.ref f.t))) (by omega) zd (env_c ra env_nil) (by simp) ?_ ?_ ?_
  · intro D H1 s hD
    refine ⟨[], fun tof => ⟨same_trans s (same_new hD), fun x hx => ?_, fun x hx => ?_, by simp, by simp, by simp, by simp, by simp, by simp, by simp⟩, rfl, (by intro i f h; simp at h), by simp, upd_same⟩
    · rw [hx]
      cases e : H0 D with
      | none => rfl
      | some o => rw [s D o e] at hD; cases hD
    · rw [hx, upd_same]
      exact ⟨_, rfl⟩
  · rintro k D H1 hk ⟨ns, hN, hlen, hB, hC, hD⟩
    have h0 := hN (fun _ => 0)
    show tE K T (wpF K T cv n) W0 _ [some (.ref a), some (.ref b), none, none, some (.int k), none] H1 _
    simp only [tE, tA]
    refine ⟨.ref a, rfl, .int k, rfl, .inl ⟨a, _, k, _, rfl, rfl, .inl (.inl (h0.sm _ _ sa)), at_map (d := 0) hk, ?_⟩⟩
    refine ⟨.ref b, rfl, .int k, rfl, .inl ⟨b, _, k, _, rfl, rfl, .inl (.inl (h0.sm _ _ sb)), at_map (d := []) (by omega), ?_⟩⟩
    refine ⟨by simp [sizeLine], fun A hA => ⟨by simp [sizeLine], fun u hu => ⟨by simp [sizeLine], fun t ht => ?_⟩⟩⟩
    have h1 : ∀ tof, NdS K H0 (upd H1 A (.lst [vS (ws.getD k [])])) Z (fun x => x = D) tof ns := fun tof => (hN tof).same (same_new hA)
    have nzA : ¬ NZ Z (fun x => x = D) ns A := (h0.zd zd).new hA
    have rw_ : Rep K (hide (NZ Z (fun x => x = D) ns) (upd H1 A (.lst [vS (ws.getD k [])]))) (.lst [.str (ws.getD k [])]) (.ref A) := rep_lst (hide_of upd_same nzA) (repL_cons (rep_str _) repL_nil)
    have h2 := fun tof => (h1 tof).node (d := ds.getD k 0) hu ht rw_
    have hD2 : upd (upd (upd H1 A (.lst [vS (ws.getD k [])])) u (.lst [])) t (.tup [.int (ds.getD k 0), .ref A, .ref u]) D = some (.lst (ns.map fun f => V.ref f.t)) := same_new ht _ _ (same_new hu _ _ (same_new hA _ _ hD))
    refine ⟨_, hD2, by rw [List.length_map]; simp [sizeLine]; omega, ns ++ [⟨t, u, ds.getD k 0, .lst [.str (ws.getD k [])], .ref A, []⟩], fun tof => (h2 tof).other rfl, by simp [hlen], ?_, ?_, ?_⟩
    · intro i f hi
      rw [List.getElem?_append] at hi
      split at hi
      · exact hB i f hi
      · have : i = k := by
          rcases Nat.lt_or_ge i (k + 1) with h | h
          · omega
          · rw [List.getElem?_eq_none (by simp; omega)] at hi
            cases hi
        subst this
        rw [hlen, Nat.sub_self] at hi
        cases hi
        exact ⟨rfl, rfl⟩
    · intro f hf
      rw [List.mem_append, List.mem_singleton] at hf
      rcases hf with hf | rfl
      · exact hC f hf
      · rfl
    · rw [upd_same, List.map_append]
      rfl
  · rintro N H1 ⟨ns0, hN, hlen, hB, hC, hNN⟩
    show tSs K T (wpF K T cv n) _ cv _ _ [some (.ref a), some (.ref b), some (.ref N), none, none, none] H1
    refine s_seq ?_
    simp only [tS, tE, tA]
    refine ⟨by simp [sizeLine], fun R hR => ?_⟩
    obtain ⟨tof, htof⟩ : ∃ tof : Nat → Addr, ∀ (i : Nat) f, ns0[i]? = some f → tof i = f.t := ⟨fun j => ((ns0[j]?).map Nd.t).getD 0, fun i f h => by
      show ((ns0[i]?).map Nd.t).getD 0 = _
      rw [h]
      rfl⟩
    have hN2 := (hN tof).newO (ws := []) hR
    have hNN2 : upd H1 R (.lst []) N = some (.lst (ns0.map fun f => V.ref f.t)) := same_new hR _ _ hNN
    have hRR : upd H1 R (.lst []) R = some (.lst []) := upd_same
    have NR : N ≠ R := fun e => by rw [e, hR] at hNN; cases hNN
    generalize upd H1 R (.lst []) = H3 at hN2 hNN2 hRR
    show tSs K T (wpF K T cv n) _ cv _ _ [some (.ref a), some (.ref b), some (.ref N), some (.ref R), none, none] H3
    have hat : ∀ k, k < ds.length → atI (ns0.map fun f => V.ref f.t) (k : Int) = some (.ref (tof k)) := fun k hk => by
      rw [Fw.at_pos (by omega), show (k : Int).toNat = k by omega, List.getElem?_map, List.getElem?_eq_getElem (show k < ns0.length by omega), htof k _ (List.getElem?_eq_getElem (show k < ns0.length by omega))]
      rfl
    refine s_seq (s_forR (ρ := [some (.lst (ds.map .int), false)]) (Z := Z) (fun _ => false) ds.length (fun k σ H => ∃ ns x4 x5, NdS K H0 H Z (fun b => b = N ∨ b = R) tof ns ∧ ns.length = ds.length ∧ Bare ds ws ns ∧ (∀ (i : Nat) f, ns[i]? = some f → f.ch = kids ds k (some i)) ∧ (∀ (i : Nat) f, ns[i]? = some f → tof i = f.t) ∧ H N = some (.lst (ns0.map fun f => V.ref f.t)) ∧ H R = some (.lst ((kids ds k none).map fun j => V.ref (tof j))) ∧ σ = [some (.ref a), some (.ref b), some (.ref N), some (.ref R), x4, x5]) (by omega) (zd.same hN2.sm) (env_c (rep_mono (hide_same hN2.sm) _ _ ra) env_nil) (by simp) ?_ ?_ ?_)
    · intro H4 s4
      refine ⟨ns0, none, none, hN2.same s4, hlen, hB, fun i f h => by rw [hC f (List.mem_of_getElem? h)]; rfl, htof, s4 _ _ hNN2, s4 _ _ hRR, rfl⟩
    · rintro k σ H4 hk ⟨ns, x4, x5, h4, hl4, hB4, hC4, hT4, hN4, hR4, rfl⟩
      show tSs K T (wpF K T cv n) _ cv _ _ [some (.ref a), some (.ref b), some (.ref N), some (.ref R), some (.int k), x5] H4
      have EV : ∀ {H' : Hp} {m : Nat → Bool} {x5 : Option V} {i5 : Int}, Same H4 H' → x5 = some (.int i5) → EnvOk K Z H' m (vals [some (.lst (ds.map .int), false), none, none, none, some (.int k, false), some (.int i5, false)]) [some (.ref a), some (.ref b), some (.ref N), some (.ref R), some (.int k), x5] := fun s e => by
        subst e
        exact env_c (rep_mono (hide_same (same_trans h4.sm s)) _ _ ra) (env_n (env_n (env_n (env_c (rep_int _) (env_c (rep_int _) env_nil)))))
      refine s_seq (s_asg (ρ := [none, none, none, none, some (.int k, false)]) (Z := Z) (fun _ => false) (.int ((k : Int) - 1)) (zd.same h4.sm) (env_n (env_n (env_n (env_n (env_c (rep_int _) env_nil))))) (by simp [lookD]) ?_)
      intro v5 H5 s5 rv5
      simp only [Rep] at rv5
      subst rv5
      show tSs K T (wpF K T cv n) _ cv _ _ [some (.ref a), some (.ref b), some (.ref N), some (.ref R), some (.int k), some (.int ((k : Int) - 1))] H5
      have hdk : (ds.map Dat.int)[k]? = some (.int (ds.getD k 0)) := by
        rw [List.getElem?_map, List.getD_eq_getElem?_getD, List.getElem?_eq_getElem hk]
        rfl
      refine s_seq ?_
      simp only [tS]
      refine ⟨fun m σ' H' => m ≤ k ∧ Same H4 H' ∧ upD ds (ds.getD k 0) m = upD ds (ds.getD k 0) k ∧ σ' = [some (.ref a), some (.ref b), some (.ref N), some (.ref R), some (.int k), some (.int ((m : Int) - 1))], ⟨k, Nat.le_refl _, s5, rfl, rfl⟩, ?_⟩
      rintro m σ' H6 ⟨hm, s6, hup, rfl⟩
      have fin : ∀ {H7 : Hp}, Same H4 H7 → (m = 0 ∨ ∃ p, m = p + 1 ∧ ds.getD p 0 < ds.getD k 0) → tSs K T (wpF K T cv n) (fun c x _ H => E c x H) cv (.cons (.ite (.cmp .lt (.var 5) (.con (.int 0)))
 (.cons (.ex (.app (.var 3) (.idx (.var 2) (.var 4)))) .nil)
 (.cons (.ex (.app (.idx (.idx (.var 2) (.var 5)) (.con (.int 2))) (.idx (.var 2) (.var 4)))) .nil)) .nil) { nx := fun σ H => ∃ ns x4 x5, NdS K H0 H Z (fun b => b = N ∨ b = R) tof ns ∧ ns.length = ds.length ∧ Bare ds ws ns ∧ (∀ (i : Nat) f, ns[i]? = some f → f.ch = kids ds (k + 1) (some i)) ∧ (∀ (i : Nat) f, ns[i]? = some f → tof i = f.t) ∧ H N = some (.lst (ns0.map fun f => V.ref f.t)) ∧ H R = some (.lst ((kids ds (k + 1) none).map fun j => V.ref (tof j))) ∧ σ = [some (.ref a), some (.ref b), some (.ref N), some (.ref R), x4, x5], rt := Q, bk := tSs K T (wpF K T cv n) (fun c x _ H => E c x H) cv (.cons (.ret (.var 3)) .nil) { nx := fun _ H' => Q .non H', rt := Q }, ct := fun σ H => ∃ ns x4 x5, NdS K H0 H Z (fun b => b = N ∨ b = R) tof ns ∧ ns.length = ds.length ∧ Bare ds ws ns ∧ (∀ (i : Nat) f, ns[i]? = some f → f.ch = kids ds (k + 1) (some i)) ∧ (∀ (i : Nat) f, ns[i]? = some f → tof i = f.t) ∧ H N = some (.lst (ns0.map fun f => V.ref f.t)) ∧ H R = some (.lst ((kids ds (k + 1) none).map fun j => V.ref (tof j))) ∧ σ = [some (.ref a), some (.ref b), some (.ref N), some (.ref R), x4, x5] } [some (.ref a), some (.ref b), some (.ref N), some (.ref R), some (.int k), some (.int ((m : Int) - 1))] H7 := by
        intro H7 s7 hm7
        have h7 := h4.same s7
        have z7 : ZD Z H7 := zd.same h7.sm
        have hN7 := s7 _ _ hN4
        have hR7 := s7 _ _ hR4
        have ixk : ∀ {W : WX} {Q : VK} {H8 : Hp} {x : Option V}, H8 N = some (.lst (ns0.map fun f => V.ref f.t)) → Q (.ref (tof k)) H8 → tE K T (wpF K T cv n) W (.idx (.var 2) (.var 4)) [some (.ref a), some (.ref b), some (.ref N), some (.ref R), some (.int k), x] H8 Q := by
          intro W Q H8 x hN8 hq
          simp only [tE]
          exact ⟨.ref N, rfl, .int k, rfl, .inl ⟨N, _, k, _, rfl, rfl, .inl (.inl hN8), hat k hk, hq⟩⟩
        rcases hm7 with hm0 | ⟨p, hmp, hlt⟩
        · have hpn : parN ds k = none := by
            rw [hm0] at hup
            exact hup.symm
          refine s_seq (s_ifT (ρ := [none, none, none, none, none, some (.int ((m : Int) - 1), false)]) (fun _ => false) z7 (env_n (env_n (env_n (env_n (env_n (env_c (rep_int _) env_nil)))))) ?_ fun H8 s8 => s_seq ?_)
          · simp [lookD]
            omega
          have h8 := h7.same s8
          have hN8 := s8 _ _ hN7
          have hR8 := s8 _ _ hR7
          simp only [tS]
          have goal : tE K T (wpF K T cv n) (fun c x _ H => E c x H) (.idx (.var 2) (.var 4)) [some (.ref a), some (.ref b), some (.ref N), some (.ref R), some (.int k), some (.int ((m : Int) - 1))] H8 (fun y H9 => H9 = H8 ∧ y = .ref (tof k)) := ixk hN8 ⟨rfl, rfl⟩
          simp only [tE]
          refine ⟨.ref R, rfl, tyl hR8, .ref N, rfl, .int k, rfl, .inl ⟨N, _, k, _, rfl, rfl, .inl (.inl hN8), hat k hk, ?_⟩⟩
          refine ⟨R, _, _, rfl, rfl, hR8, by rw [List.length_map]; exact Nat.lt_of_le_of_lt (List.length_filter_le _ _) (by rw [List.length_range]; unfold sizeLine; omega), ?_⟩
          simp only [tSs, tNext]
          refine ⟨ns, _, _, h8.other (.inr rfl), hl4, hB4, fun i f h => ?_, hT4, ?_, ?_, rfl⟩
          · rw [kids_succ, hpn, if_neg (by simp)]
            exact hC4 i f h
          · rw [upd_ne NR]
            exact hN8
          · rw [upd_same, kids_succ, hpn, if_pos rfl, List.map_append]
            rfl
        · subst hmp
          have hpn : parN ds k = some p := by
            refine hup.symm.trans ?_
            show (if ds.getD p 0 < ds.getD k 0 then some p else _) = _
            rw [if_pos hlt]
          have hpk : p < ds.length := by omega
          have e5 : (((p + 1 : Nat) : Int) - 1) = (p : Int) := by omega
          rw [e5]
          obtain ⟨f, hfp⟩ : ∃ f, ns[p]? = some f := ⟨_, List.getElem?_eq_getElem (by omega)⟩
          refine s_seq (s_ifF (ρ := [none, none, none, none, none, some (.int (p : Int), false)]) (fun _ => false) z7 (env_n (env_n (env_n (env_n (env_n (env_c (rep_int _) env_nil)))))) ?_ fun H8 s8 => s_seq ?_)
          · simp [lookD]
            try omega
          have h8 := h7.same s8
          have hN8 := s8 _ _ hN7
          have hR8 := s8 _ _ hR7
          have mf := List.mem_of_getElem? hfp
          have htt := h8.tt f mf
          rw [← hT4 p f hfp] at htt
          simp only [tS, tE]
          refine ⟨.ref N, rfl, .int p, rfl, .inl ⟨N, _, p, _, rfl, rfl, .inl (.inl hN8), hat p hpk, .inr (.inl ⟨tof p, _, 2, .ref f.u, rfl, rfl, .inl (.inl htt), rfl, tyl (h8.uu f mf), ?_⟩)⟩⟩
          refine ⟨.ref N, rfl, .int k, rfl, .inl ⟨N, _, k, _, rfl, rfl, .inl (.inl hN8), hat k hk, ?_⟩⟩
          refine ⟨f.u, _, _, rfl, rfl, h8.uu f mf, by rw [List.length_map, hC4 p f hfp]; exact Nat.lt_of_le_of_lt (List.length_filter_le _ _) (by rw [List.length_range]; unfold sizeLine; omega), ?_⟩
          have hc := h8.child (k := k) hfp
          rw [List.map_append] at hc
          simp only [tSs, tNext]
          refine ⟨addC ns p k, _, _, hc, ?_, fun i g hg => ?_, fun i g hg => ?_, fun i g hg => ?_, ?_, ?_, rfl⟩
          · have := congrArg List.length (addC_u ns p k)
            rw [List.length_map, List.length_map] at this
            rw [this]
            exact hl4
          · obtain ⟨f', e1, rfl⟩ := addC_get hg
            exact hB4 i f' e1
          · obtain ⟨f', e1, rfl⟩ := addC_get hg
            show (if i = p then f'.ch ++ [k] else f'.ch) = _
            rw [kids_succ, hpn, hC4 i f' e1]
            by_cases hip : i = p
            · rw [if_pos hip, if_pos (by rw [hip])]
            · rw [if_neg hip, if_neg (fun e => hip (Option.some.inj e).symm)]
          · obtain ⟨f', e1, rfl⟩ := addC_get hg
            exact hT4 i f' e1
          · rw [upd_ne (fun e => h8.uo f mf (.inl e.symm))]
            exact hN8
          · rw [upd_ne (fun e => h8.uo f mf (.inr e.symm)), kids_succ, hpn, if_neg (by simp)]
            exact hR8
      have hev : ∀ b, condN ds (ds.getD k 0) m = b → evD T (fun _ => false) (callD T (fun _ => false) X0 1000 n) (.and (.cmp .ge (.var 5) (.con (.int 0))) (.cmp .ge (.idx (.var 0) (.var 5)) (.idx (.var 0) (.var 4)))) (vals [some (.lst (ds.map .int), false), none, none, none, some (.int k, false), some (.int ((m : Int) - 1), false)]) = .ok (.bl b) := by
        intro b hb
        have h4k : atI (ds.map Dat.int) (k : Int) = some (.int (ds.getD k 0)) := by
          rw [Fw.at_pos (by omega), show (k : Int).toNat = k by omega]
          exact hdk
        cases m with
        | zero =>
          unfold condN at hb
          subst hb
          simp [lookD]
        | succ p =>
          have e5 : (((p + 1 : Nat) : Int) - 1) = (p : Int) := by omega
          have h4p : atI (ds.map Dat.int) (p : Int) = some (.int (ds.getD p 0)) := by
            rw [Fw.at_pos (by omega), show (p : Int).toNat = p by omega, List.getElem?_map, List.getD_eq_getElem?_getD, List.getElem?_eq_getElem (show p < ds.length by omega)]
            rfl
          rw [e5]
          unfold condN at hb
          subst hb
          simp [lookD, h4k, h4p, -Fw.at_pos]
      refine tE_of (io := fun _ => false) (Z := Z) (ρ := [some (.lst (ds.map .int), false), none, none, none, some (.int k, false), some (.int ((m : Int) - 1), false)]) (.bl (condN ds (ds.getD k 0) m)) (zd.same (same_trans h4.sm s6)) (EV s6 rfl) (hev _ rfl) ?_
      intro v H7 s7 rv
      simp only [Rep] at rv
      subst rv
      refine ⟨_, rfl, ?_⟩
      have s67 := same_trans s6 s7
      cases m with
      | zero =>
        show (if false = true then _ else _)
        rw [if_neg Bool.false_ne_true]
        exact fin s67 (.inl rfl)
      | succ p =>
        show (if decide (ds.getD k 0 ≤ ds.getD p 0) = true then _ else _)
        by_cases hc : ds.getD k 0 ≤ ds.getD p 0
        · rw [decide_eq_true hc, if_pos rfl]
          refine ⟨_, fun σ' H' x => x, ?_⟩
          refine s_seq (s_asg (ρ := [none, none, none, none, none, some (.int (((p + 1 : Nat) : Int) - 1), false)]) (Z := Z) (fun _ => false) (.int ((p : Int) - 1)) (zd.same (same_trans h4.sm s67)) (env_n (env_n (env_n (env_n (env_n (env_c (rep_int _) env_nil)))))) ?_ ?_)
          · simp [lookD]
          intro v8 H8 s8 rv8
          simp only [Rep] at rv8
          subst rv8
          simp only [tSs, tNext]
          refine ⟨p, by omega, by omega, same_trans s67 s8, ?_, by first | trivial | rfl⟩
          rw [← hup]
          show _ = (if ds.getD p 0 < ds.getD k 0 then some p else _)
          rw [if_neg (by omega)]
        · rw [decide_eq_false hc, if_neg Bool.false_ne_true]
          exact fin s67 (.inr ⟨p, rfl, by omega⟩)
    · rintro σ H4 ⟨ns, x4, x5, h4, hl4, hB4, hC4, hT4, hN4, hR4, rfl⟩
      show tSs K T (wpF K T cv n) _ cv _ _ [some (.ref a), some (.ref b), some (.ref N), some (.ref R), x4, x5] H4
      refine s_seq ?_
      simp only [tS, tE]
      refine ⟨.ref R, rfl, q _ _ h4.sm ?_⟩
      have nzR : ¬ Z R := fun z => zd R z (h4.o0 R (.inr rfl))
      refine rep_lst (hide_of hR4 nzR) (repL_all fun j hj => ?_)
      obtain ⟨j1, j2⟩ := kids_mem hj
      rw [← tree_eq hl4 hB4 hC4 _ _ j1]
      refine h4.tree zd (fun k f hf j hj => ?_) hT4 ds.length j (by omega) (by omega)
      rw [hC4 k f hf] at hj
      obtain ⟨g1, g2⟩ := kids_mem hj
      exact ⟨upD_lt g2, by omega⟩
def intsOf : List Dat → Option (List Int)
  | [] => some []
  | .int i :: r => (intsOf r).map (i :: ·)
  | _ => none
theorem intsOf_map : ∀ ds : List Int, intsOf (ds.map .int) = some ds
  | [] => rfl
  | x :: r => by
    show (intsOf (r.map Dat.int)).map _ = _
    rw [intsOf_map r]
    rfl
theorem intsOf_eq : ∀ {xs : List Dat} {ds : List Int}, intsOf xs = some ds → xs = ds.map .int
  | [], ds, h => by
    cases h
    rfl
  | d :: r, ds, h => by
    unfold intsOf at h
    split at h
    · rename_i e; cases e
    · rename_i i r' e
      cases e
      obtain ⟨ys, hy, rfl⟩ := Option.map_eq_some_iff.mp h
      rw [intsOf_eq hy]
      rfl
    · cases h
theorem strsD_eq : ∀ {xs : List Dat} {ws : List (List Nat)}, strsD xs = some ws → xs = ws.map .str
  | [], ds, h => by
    cases h
    rfl
  | d :: r, ds, h => by
    unfold strsD at h
    split at h
    · rename_i e; cases e
    · rename_i i r' e
      cases e
      obtain ⟨ys, hy, rfl⟩ := Option.map_eq_some_iff.mp h
      rw [strsD_eq hy]
      rfl
    · cases h
def nestG : List Dat → Rs Dat
  | [.lst xs, .lst ys] => match intsOf xs, strsD ys with
    | some ds, some ws => .chk (leq ds.length 1000000 && decide (ws.length = ds.length)) (.ok (.lst (nestP ds ws)))
    | _, _ => .er
  | _ => .er
theorem nestG_ok (ds : List Int) (ws : List (List Nat)) (hl : ds.length ≤ 1000000) (hw : ws.length = ds.length) : nestG [.lst (ds.map .int), .lst (ws.map .str)] = .ok (.lst (nestP ds ws)) := by
  show (match intsOf (ds.map .int), strsD (ws.map .str) with
    | some ds, some ws => Rs.chk (leq ds.length 1000000 && decide (ws.length = ds.length)) (Rs.ok (Dat.lst (nestP ds ws)))
    | _, _ => .er) = _
  rw [intsOf_map, show strsD (ws.map .str) = some (ws.map fun w => w) from strsD_map (fun w => w) ws, List.map_id']
  show Rs.chk _ _ = _
  rw [chk_dec2 _ hw, chk_leq hl]
theorem nest_pure {oi : Nat} (hf : T.fns[oi]? = some dNst) (n : Nat) (hn : 1 ≤ n) : PureF K cv (wpF K T cv n oi) nestG := by
  obtain ⟨n, rfl⟩ : ∃ m, n = m + 1 := ⟨n - 1, by omega⟩
  intro ds vs Z H Q E zd r h
  unfold nestG at h
  split at h
  · rename_i xs ys
    split at h
    · rename_i is ss hi hs
      have e1 := intsOf_eq hi
      have e2 := strsD_eq hs
      subst e1
      subst e2
      cases hk : (leq is.length 1000000 && decide (ss.length = is.length)) with
      | false =>
        rw [hk] at h
        exact h.elim
      | true =>
        rw [hk] at h
        rw [Bool.and_eq_true] at hk
        simp only [RepL] at r
        obtain ⟨v1, r1, rfl, ra, v2, r2, rfl, rb, rfl⟩ := r
        have ra' := ra
        have rb' := rb
        simp only [Rep] at ra' rb'
        obtain ⟨a, _, rfl, _⟩ := ra'
        obtain ⟨b, _, rfl, _⟩ := rb'
        exact w_nest hf n zd ra rb (of_decide_eq_true hk.1) (of_decide_eq_true hk.2) h
    · exact h.elim
  · exact h.elim
end
end Fw

set_option maxHeartbeats 4000000
namespace Fw
open PySem PySem.Spec PyProof.Rows L2
/-! ### items by a pile, items by their parents -/
section
variable {ds : List Int} {ws : List (List Nat)}
abbrev dv (ds : List Int) (i : Nat) : Int := ds.getD i 0
theorem upD_none {x : Int} : ∀ {n : Nat}, upD ds x n = none → ∀ j, j < n → x ≤ dv ds j
  | 0, _, j, h => by omega
  | n + 1, h, j, hj => by
    unfold upD at h
    split at h
    · cases h
    · by_cases e : j = n
      · subst e
        have := ‹¬ ds.getD j 0 < x›
        show x ≤ ds.getD j 0
        omega
      · exact upD_none h j (by omega)
theorem upD_some {x : Int} : ∀ {n p : Nat}, upD ds x n = some p → dv ds p < x ∧ ∀ j, p < j → j < n → x ≤ dv ds j
  | 0, p, h => by cases h
  | n + 1, p, h => by
    unfold upD at h
    split at h
    · cases h
      exact ⟨by assumption, fun j h1 h2 => by omega⟩
    · obtain ⟨h1, h2⟩ := upD_some h
      refine ⟨h1, fun j h3 h4 => ?_⟩
      by_cases e : j = n
      · subst e
        have := ‹¬ ds.getD j 0 < x›
        show x ≤ ds.getD j 0
        omega
      · exact h2 j h3 (by omega)
/-- what is not less is passed -/
theorem upD_skip {x : Int} : ∀ {n m : Nat}, m ≤ n → (∀ j, m ≤ j → j < n → x ≤ dv ds j) → upD ds x n = upD ds x m
  | 0, m, h, _ => by
    have : m = 0 := by omega
    rw [this]
  | n + 1, m, h, hx => by
    by_cases e : m = n + 1
    · rw [e]
    · have h1 := hx n (by omega) (by omega)
      show (if ds.getD n 0 < x then some n else upD ds x n) = _
      rw [if_neg (by show ¬ dv ds n < x; omega)]
      exact upD_skip (by omega) fun j h2 h3 => hx j h2 (by omega)
theorem tree_fuel {m : Nat} (hm : m = ds.length) : ∀ (n n' k : Nat), k < m → m ≤ k + n → m ≤ k + n' → treeD ds ws n k = treeD ds ws n' k
  | 0, n', k, h, h1, h2 => by omega
  | n + 1, 0, k, h, h1, h2 => by omega
  | n + 1, n' + 1, k, h, h1, h2 => by
    show Dat.tup [.int (ds.getD k 0), .lst [.str (ws.getD k [])], .lst ((kids ds ds.length (some k)).map (treeD ds ws n))] = .tup [.int (ds.getD k 0), .lst [.str (ws.getD k [])], .lst ((kids ds ds.length (some k)).map (treeD ds ws n'))]
    congr 5
    refine List.map_congr_left fun j hj => ?_
    obtain ⟨g1, g2⟩ := kids_mem hj
    have := upD_lt g2
    exact tree_fuel hm n n' j (by omega) (by omega) (by omega)
abbrev tF (ds : List Int) (ws : List (List Nat)) (k : Nat) : Dat := treeD ds ws ds.length k
abbrev pF (ws : List (List Nat)) (k : Nat) : Dat := .lst [.str (ws.getD k [])]
theorem tF_eq {k : Nat} (h : k < ds.length) : tF ds ws k = itD (dv ds k) (pF ws k) ((kids ds ds.length (some k)).map (tF ds ws)) := by
  obtain ⟨n, hn⟩ : ∃ n, ds.length = n + 1 := ⟨ds.length - 1, by omega⟩
  show treeD ds ws ds.length k = _
  rw [tree_fuel rfl ds.length (n + 1) k h (by omega) (by omega)]
  show Dat.tup [.int (ds.getD k 0), .lst [.str (ws.getD k [])], .lst ((kids ds ds.length (some k)).map (treeD ds ws n))] = .tup [.int (ds.getD k 0), .lst [.str (ws.getD k [])], .lst ((kids ds ds.length (some k)).map (treeD ds ws ds.length))]
  congr 5
  refine List.map_congr_left fun j hj => ?_
  obtain ⟨g1, g2⟩ := kids_mem hj
  have := upD_lt g2
  exact tree_fuel rfl n ds.length j g1 (by omega) (by omega)
/-- the frames below a node -/
def below (ds : List Int) (ws : List (List Nat)) (k : Nat) : Nat → Nat → Stk
  | 0, _ => []
  | n + 1, i => match parN ds i with
    | none => [(0, .non, (kids ds k none).dropLast.map (tF ds ws))]
    | some p => (dv ds p, pF ws p, (kids ds k (some p)).dropLast.map (tF ds ws)) :: below ds ws k n p
/-- i is on the spine at k -/
def OnS (ds : List Int) (k i : Nat) : Prop := i < k ∧ ∀ l, i < l → l < k → dv ds i < dv ds l
theorem OnS.par {k i p : Nat} (h : OnS ds k i) (hp : parN ds i = some p) : OnS ds k p := by
  have h1 := upD_lt hp
  obtain ⟨h2, h3⟩ := upD_some hp
  refine ⟨by have := h.1; omega, fun l hl hk => ?_⟩
  by_cases e1 : l < i
  · have := h3 l hl e1
    show dv ds p < dv ds l
    exact Int.lt_of_lt_of_le h2 this
  · by_cases e2 : l = i
    · subst e2
      exact h2
    · exact Int.lt_trans h2 (h.2 l (by omega) hk)
/-- it is the last kid of its parent -/
theorem OnS.last {k i : Nat} (h : OnS ds k i) : kids ds k (parN ds i) = (kids ds k (parN ds i)).dropLast ++ [i] := by
  have key : ∀ n, i + 1 + n ≤ k → kids ds (i + 1 + n) (parN ds i) = kids ds (i + 1) (parN ds i) := by
    intro n
    induction n with
    | zero => intro _; rfl
    | succ n ih =>
      intro hk
      rw [show i + 1 + (n + 1) = (i + 1 + n) + 1 by omega, kids_succ, if_neg, ih (by omega)]
      intro e
      have hlt := h.2 (i + 1 + n) (by omega) (by omega)
      cases hp : parN ds (i + 1 + n) with
      | none =>
        have := upD_none hp i (by omega)
        exact absurd hlt (by show ¬ dv ds i < dv ds (i + 1 + n); exact Int.not_lt.mpr this)
      | some q =>
        obtain ⟨h2, h3⟩ := upD_some hp
        have hq : i ≤ q := by
          rcases Nat.lt_or_ge q i with g | g
          · have := h3 i g (by omega)
            exact absurd hlt (Int.not_lt.mpr this)
          · exact g
        rw [hp] at e
        have := upD_lt e.symm
        omega
  have h1 := h.1
  have e := key (k - (i + 1)) (by omega)
  rw [show i + 1 + (k - (i + 1)) = k by omega] at e
  rw [e, kids_succ, if_pos rfl]
  simp
theorem below_fuel {k : Nat} : ∀ (n n' i : Nat), i < n → i < n' → below ds ws k n i = below ds ws k n' i
  | 0, n', i, h, _ => by omega
  | n + 1, 0, i, _, h => by omega
  | n + 1, n' + 1, i, h, h' => by
    unfold below
    cases hp : parN ds i with
    | none => rfl
    | some p =>
      have := upD_lt hp
      simp only
      rw [below_fuel n n' p (by omega) (by omega)]
/-- no kids come later -/
theorem kids_shut {k i : Nat} (hk : k < ds.length) (hi : i < k) (hx : dv ds k ≤ dv ds i) : kids ds ds.length (some i) = kids ds k (some i) := by
  have key : ∀ n, k + n ≤ ds.length → kids ds (k + n) (some i) = kids ds k (some i) := by
    intro n
    induction n with
    | zero => intro _; rfl
    | succ n ih =>
      intro h
      rw [show k + (n + 1) = (k + n) + 1 by omega, kids_succ, if_neg, ih (by omega)]
      intro e
      obtain ⟨h2, h3⟩ := upD_some e
      have h2' : dv ds i < dv ds (k + n) := h2
      by_cases e0 : n = 0
      · subst e0
        exact absurd h2' (Int.not_lt.mpr hx)
      · have := h3 k hi (by omega)
        exact absurd h2' (Int.not_lt.mpr (Int.le_trans this hx))
  have := key (ds.length - k) (by omega)
  rwa [show k + (ds.length - k) = ds.length by omega] at this
def topOf (ds : List Int) (ws : List (List Nat)) (k : Nat) : Option Nat → Stk
  | none => [(0, .non, (kids ds k none).map (tF ds ws))]
  | some p => (dv ds p, pF ws p, (kids ds k (some p)).map (tF ds ws)) :: below ds ws k ds.length p
theorem pop_spec {k : Nat} (hk : k < ds.length) : ∀ (n i : Nat), i < n → OnS ds k i → popR (dv ds k) (dv ds i) (pF ws i) ((kids ds k (some i)).map (tF ds ws)) (below ds ws k n i) = topOf ds ws k (upD ds (dv ds k) (i + 1))
  | 0, i, h, _ => by omega
  | n + 1, i, h, ho => by
    by_cases hx : dv ds k ≤ dv ds i
    · have hu : upD ds (dv ds k) (i + 1) = upD ds (dv ds k) i := by
        show (if ds.getD i 0 < dv ds k then some i else upD ds (dv ds k) i) = _
        rw [if_neg (Int.not_lt.mpr hx)]
      have hT : itD (dv ds i) (pF ws i) ((kids ds k (some i)).map (tF ds ws)) = tF ds ws i := by
        rw [tF_eq (by have := ho.1; omega), kids_shut hk ho.1 hx]
      have hlast := ho.last
      rw [hu]
      cases hp : parN ds i with
      | none =>
        rw [hp] at hlast
        have h0 : upD ds (dv ds k) i = none := by
          rw [upD_skip (m := 0) (by omega) fun j _ hj => Int.le_trans hx (upD_none hp j hj)]
          rfl
        rw [h0]
        unfold below
        rw [hp]
        simp only
        rw [popR, if_pos hx, hT]
        show [((0 : Int), Dat.non, (kids ds k none).dropLast.map (tF ds ws) ++ [tF ds ws i])] = [(0, .non, (kids ds k none).map (tF ds ws))]
        conv => rhs; rw [hlast, List.map_append]
        rfl
      | some p =>
        rw [hp] at hlast
        obtain ⟨h2, h3⟩ := upD_some hp
        have hlt := upD_lt hp
        have h0 : upD ds (dv ds k) i = upD ds (dv ds k) (p + 1) := upD_skip (by omega) fun j h4 h5 => Int.le_trans hx (h3 j (by omega) h5)
        rw [h0]
        unfold below
        rw [hp]
        simp only
        rw [popR, if_pos hx, hT]
        have e : (kids ds k (some p)).dropLast.map (tF ds ws) ++ [tF ds ws i] = (kids ds k (some p)).map (tF ds ws) := by
          conv => rhs; rw [hlast, List.map_append]
          rfl
        rw [e]
        exact pop_spec hk n p (by omega) (ho.par hp)
    · have hu : upD ds (dv ds k) (i + 1) = some i := by
        show (if ds.getD i 0 < dv ds k then some i else upD ds (dv ds k) i) = _
        rw [if_pos (Int.not_le.mp hx)]
      rw [hu]
      show _ = (dv ds i, pF ws i, (kids ds k (some i)).map (tF ds ws)) :: below ds ws k ds.length i
      rw [below_fuel ds.length (n + 1) i (by have := ho.1; omega) h]
      cases hb : below ds ws k (n + 1) i with
      | nil => rfl
      | cons f r =>
        rw [popR, if_neg hx]
def stk (ds : List Int) (ws : List (List Nat)) : Nat → Stk
  | 0 => [(0, .non, [])]
  | k + 1 => (dv ds k, pF ws k, []) :: below ds ws (k + 1) ds.length k
theorem kids_self {k : Nat} : kids ds (k + 1) (some k) = [] := by
  apply List.eq_nil_iff_forall_not_mem.mpr
  intro j hj
  obtain ⟨g1, g2⟩ := kids_mem hj
  have := upD_lt g2
  omega
theorem pop_stk {k : Nat} (hk : k < ds.length) : popS (dv ds k) (stk ds ws k) = topOf ds ws k (parN ds k) := by
  cases k with
  | zero => rfl
  | succ k =>
    have h := pop_spec (ws := ws) hk ds.length k (by omega) ⟨by omega, fun l h1 h2 => by omega⟩
    rw [kids_self] at h
    exact h
theorem below_succ {k p : Nat} (hp : parN ds k = some p) : ∀ (n q : Nat), q ≤ p → below ds ws (k + 1) n q = below ds ws k n q
  | 0, q, _ => rfl
  | n + 1, q, h => by
    unfold below
    cases hq : parN ds q with
    | none =>
      simp only
      rw [kids_succ, hp, if_neg (by simp)]
    | some r =>
      have := upD_lt hq
      simp only
      rw [kids_succ, hp, if_neg (by simp; omega), below_succ hp n r (by omega)]
theorem stk_succ {k : Nat} (hk : k < ds.length) : stk ds ws (k + 1) = (dv ds k, pF ws k, []) :: topOf ds ws k (parN ds k) := by
  show (dv ds k, pF ws k, []) :: below ds ws (k + 1) ds.length k = _
  congr 1
  obtain ⟨n, hn⟩ : ∃ n, ds.length = n + 1 := ⟨ds.length - 1, by omega⟩
  cases hp : parN ds k with
  | none =>
    rw [hn]
    unfold below
    rw [hp]
    simp only
    rw [kids_succ, hp, if_pos rfl, List.dropLast_concat]
    rfl
  | some p =>
    have hlt := upD_lt hp
    show _ = (dv ds p, pF ws p, (kids ds k (some p)).map (tF ds ws)) :: below ds ws k ds.length p
    rw [show below ds ws (k + 1) ds.length k = below ds ws (k + 1) (n + 1) k by rw [hn]]
    conv => lhs; unfold below
    rw [hp]
    simp only
    rw [kids_succ, hp, if_pos rfl, List.dropLast_concat, below_succ hp n p (Nat.le_refl _), below_fuel n ds.length p (by omega) (by omega)]
theorem fold_stk (hp : ∀ j, j < ds.length → partsP (ws.getD j []) = [.str (ws.getD j [])]) : ∀ k, k ≤ ds.length → ((List.range k).map fun j => (dv ds j, ws.getD j [])).foldl itemS [(0, .non, [])] = stk ds ws k
  | 0, _ => rfl
  | k + 1, h => by
    rw [List.range_succ, List.map_append, List.foldl_append, fold_stk hp k (by omega), stk_succ (by omega)]
    show (dv ds k, Dat.lst (partsP (ws.getD k [])), []) :: popS (dv ds k) (stk ds ws k) = _
    rw [pop_stk (by omega), hp k (by omega)]
theorem shut_spec {k : Nat} (hk : k = ds.length) : ∀ (n i : Nat), i < n → OnS ds k i → shutR (dv ds i) (pF ws i) ((kids ds k (some i)).map (tF ds ws)) (below ds ws k n i) = (kids ds k none).map (tF ds ws)
  | 0, i, h, _ => by omega
  | n + 1, i, h, ho => by
    have hT : itD (dv ds i) (pF ws i) ((kids ds k (some i)).map (tF ds ws)) = tF ds ws i := by
      rw [tF_eq (by have := ho.1; omega), hk]
    have hlast := ho.last
    unfold below
    cases hp : parN ds i with
    | none =>
      rw [hp] at hlast
      simp only
      rw [shutR, hT]
      show (kids ds k none).dropLast.map (tF ds ws) ++ [tF ds ws i] = _
      conv => rhs; rw [hlast, List.map_append]
      rfl
    | some p =>
      rw [hp] at hlast
      have hlt := upD_lt hp
      simp only
      rw [shutR, hT]
      have e : (kids ds k (some p)).dropLast.map (tF ds ws) ++ [tF ds ws i] = (kids ds k (some p)).map (tF ds ws) := by
        conv => rhs; rw [hlast, List.map_append]
        rfl
      rw [e]
      exact shut_spec hk n p (by omega) (ho.par hp)
/-- both ways give the same -/
theorem items_nest (hp : ∀ j, j < ds.length → partsP (ws.getD j []) = [.str (ws.getD j [])]) : itemsP ((List.range ds.length).map fun j => (dv ds j, ws.getD j [])) = nestP ds ws := by
  unfold itemsP nestP
  rw [fold_stk hp ds.length (Nat.le_refl _)]
  cases h : ds.length with
  | zero =>
    rfl
  | succ k =>
    show shutR (dv ds k) (pF ws k) [] (below ds ws (k + 1) ds.length k) = _
    have := shut_spec (ws := ws) (k := k + 1) h.symm ds.length k (by omega) ⟨by omega, fun l h1 h2 => by omega⟩
    rw [kids_self] at this
    rw [← h]
    rw [← h] at this
    exact this
end
end Fw

set_option maxHeartbeats 4000000
namespace Fw
open PySem PySem.Spec PyProof.Rows L2
/-! ### which parts a row has: good ones, that show the row -/
def SGNL : List Nat := [32, 33, 34, 35, 36, 38, 39, 40, 41, 42, 43, 44, 45, 46, 47, 48, 49, 50, 51, 52, 53, 54, 55, 56, 57, 58, 59, 60, 61, 62, 63, 64, 65, 66, 67, 68, 69, 70, 71, 72, 73, 74, 75, 76, 77, 78, 79, 80, 81, 82, 83, 84, 85, 86, 87, 88, 89, 90, 91, 92, 93, 94, 95, 96, 97, 98, 99, 100, 101, 102, 103, 104, 105, 106, 107, 108, 109, 110, 111, 112, 113, 114, 115, 116, 117, 118, 119, 120, 121, 122, 123, 124, 125, 126]
def Sg (l : List Nat) : Prop := ∀ c ∈ l, c ∈ SGNL
def noOpen (w : List Nat) : Prop := ∀ k, openD (w.drop k) = []
inductive Fl (n : Nat) (mark : List Nat) : Bool → Option Dat → Dat → List Nat → Prop
  | txt (w : List Nat) (last : Bool) (ahead : Option Dat) (h0 : w ≠ []) (h1 : Sg w) (h2 : ∀ s, ahead ≠ some (.str s)) (h3 : 92 ∉ w) (h4 : 96 ∉ w) (h5 : n ≠ 0 → noOpen w) (h6 : mark = [91] → 93 ∉ w) (h7 : mark.length = 2 → 41 ∉ w)
      (h8 : w.head? = some 40 → ∀ ps b, ahead ≠ some (.tup [.str wLink, .lst ps, .non, .bl b])) : Fl n mark last ahead (.str w) w
  | kept (k : List Nat) (last : Bool) (ahead : Option Dat) (h1 : Sg k) (h2 : k.length ≤ 1) (h3 : k = [] → last = true) : Fl n mark last ahead (.tup [.str wKept, .str k]) (92 :: k)
  | code (w : List Nat) (b last : Bool) (ahead : Option Dat) (h1 : Sg w) (h2 : 96 ∉ w) (h3 : b = false → last = true) : Fl n mark last ahead (.tup [.str wCode, .str w, .bl b]) (96 :: w ++ if b = true then [96] else [])
inductive PLs {α : Type} (P : Bool → Option Dat → Dat → List α → Prop) : Bool → List Dat → List α → Prop
  | nil (l : Bool) : PLs P l [] []
  | snoc {l : Bool} {ds : List Dat} {t tp : List α} {p : Dat} (h : PLs P false ds t) (hp : P l ds.getLast? p tp) : PLs P l (ds ++ [p]) (t ++ tp)
inductive Nst (P : List Nat → Bool → List Dat → List Nat → Prop) : Bool → Dat → List Nat → Prop
  | span (m : Nat) (b last : Bool) (ds : List Dat) (t : List Nat) (hm : m = 42 ∨ m = 95 ∨ m = 126) (hb : b = false → last = true) (h : P [m, 40] (last && !b) ds t) : Nst P last (.tup [.str wSpan, .str [m], .lst ds, .bl b]) ([m, 40] ++ t ++ if b = true then [41] else [])
  | linkN (b last : Bool) (ds : List Dat) (t : List Nat) (hb : b = false → last = true) (h : P [91] (last && !b) ds t) : Nst P last (.tup [.str wLink, .lst ds, .non, .bl b]) ([91] ++ t ++ if b = true then [93] else [])
  | linkT (tg : List Nat) (b last : Bool) (ds : List Dat) (t : List Nat) (hb : b = false → last = true) (h1 : Sg tg) (h2 : 41 ∉ tg) (h : P [91] false ds t) : Nst P last (.tup [.str wLink, .lst ds, .str tg, .bl b]) ([91] ++ t ++ ([93, 40] ++ tg ++ if b = true then [41] else []))
def POK : Nat → List Nat → Bool → Option Dat → Dat → List Nat → Prop
  | 0, mark, last, ahead, p, t => Fl 0 mark last ahead p t
  | n + 1, mark, last, ahead, p, t => Fl (n + 1) mark last ahead p t ∨ Nst (fun mk l ds t => PLs (POK n mk) l ds t) last p t
theorem POK.fl {n : Nat} {mark : List Nat} {last : Bool} {ahead : Option Dat} {p : Dat} {t : List Nat} (h : Fl n mark last ahead p t) : POK n mark last ahead p t := by
  cases n with
  | zero => exact h
  | succ n => exact .inl h
theorem Fl.mono {n : Nat} {mark : List Nat} {a : Option Dat} {p : Dat} {t : List Nat} (h : Fl n mark false a p t) : Fl n mark true a p t := by
  cases h with
  | txt w _ _ h0 h1 h2 h3 h4 h5 h6 h7 h8 => exact .txt _ _ _ h0 h1 h2 h3 h4 h5 h6 h7 h8
  | kept k _ _ h1 h2 h3 => exact .kept k _ _ h1 h2 fun _ => rfl
  | code w b _ _ h1 h2 h3 => exact .code w b _ _ h1 h2 fun _ => rfl
theorem POK.mono {n : Nat} {mark : List Nat} {a : Option Dat} {p : Dat} {t : List Nat} (h : POK n mark false a p t) : POK n mark true a p t := by
  cases n with
  | zero => exact Fl.mono h
  | succ n =>
    rcases h with h | h
    · exact .inl h.mono
    · refine .inr ?_
      cases h with
      | span m b _ ds t hm hb h =>
        cases b with
        | false => exact absurd (hb rfl) (by simp)
        | true => exact .span m true _ ds t hm (fun e => by cases e) h
      | linkN b _ ds t hb h =>
        cases b with
        | false => exact absurd (hb rfl) (by simp)
        | true => exact .linkN true _ ds t (fun e => by cases e) h
      | linkT tg b _ ds t hb h1 h2 h => exact .linkT tg b _ ds t (fun _ => rfl) h1 h2 h
abbrev PLo (n : Nat) (m : List Nat) (o : Bool) (ds : List Dat) (t : List Nat) : Prop := PLs (POK n m) o ds t
theorem PLo.mono {n : Nat} {m : List Nat} {o : Bool} {ds : List Dat} {t : List Nat} (h : PLo n m false ds t) : PLo n m o ds t := by
  cases o with
  | false => exact h
  | true =>
    cases h with
    | nil => exact .nil _
    | snoc h hp => exact .snoc h hp.mono
theorem PLo.up {n : Nat} {m : List Nat} {o : Bool} {ds : List Dat} {t : List Nat} (h : PLo n m o ds t) : PLo n m true ds t := by
  cases o with
  | false => exact PLo.mono h
  | true => exact h
/-! ### the pile while a row is read -/
def okM (m : List Nat) : Prop := m = [91] ∨ ∃ a, (a = 42 ∨ a = 95 ∨ a = 126) ∧ m = [a, 40]
inductive PileOK : Bool → Pile → List Nat → Prop
  | bot {o : Bool} {ds : List Dat} {t : List Nat} (h : PLo 12 [] o ds t) : PileOK o [([], ds)] t
  | lvl {o : Bool} {m : List Nat} {ds : List Dat} {low : Pile} {t0 t : List Nat} (h0 : PileOK false low t0) (hl : low.length ≤ 12) (hm : okM m) (h : PLo (12 - low.length) m o ds t) : PileOK o ((m, ds) :: low) (t0 ++ m ++ t)
/-- what the next sign may not be -/
def Bd (n : Nat) (ds : List Dat) (rest : List Nat) : Prop :=
  (∀ w, ds.getLast? = some (.str w) → n ≠ 0 → openD (w.drop (w.length - 1) ++ rest.take 1) = []) ∧ (∀ ps b, ds.getLast? = some (.tup [.str wLink, .lst ps, .non, .bl b]) → rest.head? ≠ some 40)
def BdQ (pl : Pile) (rest : List Nat) : Prop := match pl with
  | (_, ds) :: low => Bd (12 - low.length) ds rest
  | [] => True
/-- the top level of a pile -/
theorem PileOK.top {o : Bool} {pl : Pile} {t : List Nat} (h : PileOK o pl t) : ∃ m ds low t0 t1, pl = (m, ds) :: low ∧ low.length ≤ 12 ∧ PLo (12 - low.length) m o ds t1 ∧ t = t0 ++ t1 ∧ ((low = [] ∧ m = []) ∨ okM m) ∧ ∀ o' ds' t', PLo (12 - low.length) m o' ds' t' → PileOK o' ((m, ds') :: low) (t0 ++ t') := by
  cases h with
  | bot h => exact ⟨[], _, [], [], t, rfl, Nat.zero_le _, h, rfl, .inl ⟨rfl, rfl⟩, fun o' ds' t' h' => .bot h'⟩
  | lvl h0 hl hm h => exact ⟨_, _, _, _, _, rfl, hl, h, rfl, .inr hm, fun o' ds' t' h' => .lvl h0 hl hm h'⟩
theorem addP_cases (ds : List Dat) (c : List Nat) : (∃ ds0 a, ds = ds0 ++ [.str a] ∧ addP ds c = ds0 ++ [.str (a ++ c)]) ∨ ((∀ s, ds.getLast? ≠ some (.str s)) ∧ addP ds c = ds ++ [.str c]) := by
  unfold addP
  split
  · rename_i a h
    left
    obtain ⟨ds0, e⟩ := List.getLast?_eq_some_iff.mp h
    subst e
    exact ⟨ds0, a, rfl, by simp⟩
  · rename_i h
    right
    exact ⟨fun s e => h s e, rfl⟩
theorem openD_nil_iff (c : Nat) (r : List Nat) : openD (c :: r) = [] ↔ c ≠ 91 ∧ ¬((c = 42 ∨ c = 95 ∨ c = 126) ∧ r.head? = some 40) := by
  rw [show openD (c :: r) = if c = 91 then [91] else if (c = 42 ∨ c = 95 ∨ c = 126) ∧ r.head? = some 40 then [c, 40] else [] from rfl]
  by_cases h : c = 91
  · simp [h]
  · by_cases h2 : (c = 42 ∨ c = 95 ∨ c = 126) ∧ r.head? = some 40
    · rw [if_neg h, if_pos h2]
      simp [h2]
    · rw [if_neg h, if_neg h2]
      exact ⟨fun _ => ⟨h, h2⟩, fun _ => rfl⟩
theorem openD_one {c : Nat} : openD [c] = [] ↔ c ≠ 91 := by
  rw [openD_nil_iff]
  simp
theorem noOpen_one {c : Nat} (h : c ≠ 91) : noOpen [c] := by
  intro k
  cases k with
  | zero => exact openD_one.mpr h
  | succ k => simp [openD]
/-- one sign more -/
theorem noOpen_snoc {c : Nat} (hc : c ≠ 91) : ∀ {w : List Nat}, noOpen w → openD (w.drop (w.length - 1) ++ [c]) = [] → noOpen (w ++ [c])
  | [], _, _ => noOpen_one hc
  | [x], h, hl => by
    intro k
    cases k with
    | zero => exact hl
    | succ k => exact noOpen_one hc k
  | x :: y :: w, h, hl => by
    have ih : noOpen (y :: w ++ [c]) := by
      refine noOpen_snoc hc (fun k => h (k + 1)) ?_
      have : (x :: y :: w).drop ((x :: y :: w).length - 1) = (y :: w).drop ((y :: w).length - 1) := by simp
      rw [this] at hl
      exact hl
    intro k
    cases k with
    | zero =>
      have h0 := h 0
      rw [List.drop_zero, openD_nil_iff] at h0
      show openD (x :: (y :: w ++ [c])) = []
      rw [openD_nil_iff]
      simpa using h0
    | succ k => exact ih k
theorem upTo_spec (c : Nat) : ∀ (s : List Nat), c ∉ (upTo c s).1 ∧ (((upTo c s).2 = true ∧ ∃ r, s = (upTo c s).1 ++ c :: r) ∨ ((upTo c s).2 = false ∧ s = (upTo c s).1))
  | [] => ⟨by simp [upTo, idxC], .inr ⟨rfl, rfl⟩⟩
  | x :: r => by
    obtain ⟨h1, h2⟩ := upTo_spec c r
    by_cases hx : x = c
    · subst hx
      have e : upTo x (x :: r) = ([], true) := by simp [upTo, idxC]
      rw [e]
      exact ⟨by simp, .inl ⟨rfl, r, rfl⟩⟩
    · have hx' : c ≠ x := fun e => hx e.symm
      have e : upTo c (x :: r) = (x :: (upTo c r).1, (upTo c r).2) := by
        have hi : idxC c (x :: r) = (idxC c r).map (· + 1) := by
          show (if x = c then some 0 else (idxC c r).map (· + 1)) = _
          rw [if_neg hx]
        unfold upTo
        rw [hi]
        cases idxC c r with
        | none => rfl
        | some k => simp
      rw [e]
      refine ⟨by simp [hx', h1], ?_⟩
      rcases h2 with ⟨g1, r', g2⟩ | ⟨g1, g2⟩
      · exact .inl ⟨g1, r', by rw [List.cons_append, ← g2]⟩
      · exact .inr ⟨g1, by rw [← g2]⟩
theorem Sg.app {a b : List Nat} : Sg (a ++ b) ↔ Sg a ∧ Sg b := by
  unfold Sg
  constructor
  · exact fun h => ⟨fun c hc => h c (List.mem_append_left _ hc), fun c hc => h c (List.mem_append_right _ hc)⟩
  · exact fun h c hc => (List.mem_append.mp hc).elim (h.1 c) (h.2 c)
theorem Sg.cons {c : Nat} {b : List Nat} : Sg (c :: b) ↔ c ∈ SGNL ∧ Sg b := by
  unfold Sg
  simp
theorem bd_tup {n : Nat} {ds : List Dat} {x : List Dat} {rest : List Nat} (h : ∀ ps b, x = [.str wLink, .lst ps, .non, .bl b] → rest.head? ≠ some 40) : Bd n (ds ++ [.tup x]) rest := by
  constructor
  · intro w e
    simp at e
  · intro ps b e
    simp at e
    exact h ps b e
theorem endTop_ok {o o' : Bool} {m : List Nat} {ds : List Dat} {low : Pile} {t : List Nat} {tg : Dat} {b : Bool} {x : List Nat} (h : PileOK o ((m, ds) :: low) t) (hne : low ≠ [])
    (hp : ∀ n t1, PLo n m o ds t1 → POK (n + 1) [] o' none (endPart m ds tg b) (m ++ t1 ++ x) → True)
    (hN : ∀ n t1, okM m → PLo n m o ds t1 → Nst (fun mk l ds t => PLs (POK n mk) l ds t) o' (endPart m ds tg b) (m ++ t1 ++ x)) :
    PileOK o' (endTop tg b ((m, ds) :: low)) (t ++ x) := by
  cases h with
  | bot h => exact absurd rfl hne
  | @lvl _ _ _ _ t0 t1 h0 hl hm h =>
    obtain ⟨m2, ds2, low2, t2, t3, e, hl2, h2, e2, hm2, put⟩ := h0.top
    subst e
    rw [e2]
    have hn : 12 - low2.length = (12 - ((m2, ds2) :: low2).length) + 1 := by
      rw [List.length_cons] at hl ⊢
      omega
    have h3 : POK (12 - low2.length) m2 o' ds2.getLast? (endPart m ds tg b) (m ++ t1 ++ x) := by
      rw [hn]
      exact .inr (hN _ _ hm h)
    have := put o' (ds2 ++ [endPart m ds tg b]) (t3 ++ (m ++ t1 ++ x)) (.snoc h2 h3)
    show PileOK o' ((m2, ds2 ++ [endPart m ds tg b]) :: low2) _
    rw [show t2 ++ t3 ++ m ++ t1 ++ x = t2 ++ (t3 ++ (m ++ t1 ++ x)) by simp [List.append_assoc]]
    exact this
theorem okM_not {m : List Nat} (h : okM m) (h2 : m ≠ [91]) : ∃ a, (a = 42 ∨ a = 95 ∨ a = 126) ∧ m = [a, 40] := h.resolve_left h2
theorem bd_endTop {tg : Dat} {b : Bool} {m : List Nat} {ds : List Dat} {low : Pile} {rest : List Nat} (hne : low ≠ []) (h : m = [91] → tg = .non → rest.head? ≠ some 40) : BdQ (endTop tg b ((m, ds) :: low)) rest := by
  cases low with
  | nil => exact absurd rfl hne
  | cons f low =>
    show Bd _ (f.2 ++ [endPart m ds tg b]) rest
    unfold endPart
    split
    · rename_i e
      refine bd_tup fun ps b' e2 => h e ?_
      simp at e2
      exact e2.2.1
    · refine bd_tup fun ps b' e2 => ?_
      simp at e2
theorem bd_nil (n : Nat) (rest : List Nat) : Bd n [] rest := ⟨fun w e => (by cases e), fun ps b e => (by cases e)⟩
theorem step_ok {pl : Pile} {t : List Nat} {c : Nat} {r : List Nat} (h : PileOK false pl t) (hb : BdQ pl (c :: r)) (hs : Sg (c :: r)) : ∃ o t', PileOK o (stepP c r pl).2 t' ∧ (o = true → (stepP c r pl).1 = []) ∧ BdQ (stepP c r pl).2 (stepP c r pl).1 ∧ t ++ c :: r = t' ++ (stepP c r pl).1 := by
  obtain ⟨hc, hr⟩ := Sg.cons.mp hs
  obtain ⟨m, ds, low, t0, t1, e, hl, hp, et, hm, put⟩ := h.top
  subst e
  unfold stepP
  by_cases c1 : c = 92
  · rw [if_pos c1]
    subst c1
    have hk : Sg (r.take 1) := fun x hx => hr x (List.mem_of_mem_take hx)
    refine ⟨decide (r = []), t0 ++ (t1 ++ 92 :: r.take 1), put _ _ _ (.snoc hp (POK.fl (.kept _ _ _ hk (by rw [List.length_take]; omega) ?_))), ?_, bd_tup (fun ps b e => by simp at e), ?_⟩
    · intro e
      cases r with
      | nil => rfl
      | cons x r => simp at e
    · intro e
      rw [of_decide_eq_true e]
      rfl
    · rw [et]
      simp only [List.append_assoc, List.cons_append, List.take_append_drop]
  rw [if_neg c1]
  by_cases c2 : c = 96
  · rw [if_pos c2]
    subst c2
    obtain ⟨g1, g2⟩ := upTo_spec 96 r
    have hn : (upTo 96 r).2 = false → (!(upTo 96 r).2) = true := fun e => by rw [e]; rfl
    have hsg : Sg (upTo 96 r).1 := by
      rcases g2 with ⟨g2, r', g3⟩ | ⟨g2, g3⟩
      · rw [g3] at hr
        exact (Sg.app.mp hr).1
      · rw [g3] at hr
        exact hr
    refine ⟨!(upTo 96 r).2, t0 ++ (t1 ++ (96 :: (upTo 96 r).1 ++ if (upTo 96 r).2 = true then [96] else [])), put _ _ _ (.snoc hp (POK.fl (.code _ _ _ _ hsg g1 hn))), ?_, bd_tup (fun ps b e => by simp at e), ?_⟩
    · intro e
      rcases g2 with ⟨g2, r', g3⟩ | ⟨g2, g3⟩
      · rw [g2] at e
        cases e
      · show r.drop _ = []
        rw [g2]
        refine List.drop_eq_nil_of_le ?_
        have := congrArg List.length g3
        omega
    · rw [et]
      show _ = _ ++ r.drop ((upTo 96 r).1.length + (upTo 96 r).2.toNat)
      rcases g2 with ⟨g2, r', g3⟩ | ⟨g2, g3⟩
      · rw [g2]
        generalize (upTo 96 r).1 = w at g3
        subst g3
        rw [show (w ++ 96 :: r').drop (w.length + true.toNat) = r' by rw [List.drop_append]; simp]
        simp
      · rw [g2]
        generalize (upTo 96 r).1 = w at g3
        subst g3
        simp
  rw [if_neg c2]
  by_cases c3 : openD (c :: r) ≠ [] ∧ ((m, ds) :: low).length ≤ 12
  · rw [if_pos c3]
    obtain ⟨c3, c4⟩ := c3
    have hop : okM (openD (c :: r)) ∧ c :: r = openD (c :: r) ++ r.drop ((openD (c :: r)).length - 1) := by
      rw [show openD (c :: r) = if c = 91 then [91] else if (c = 42 ∨ c = 95 ∨ c = 126) ∧ r.head? = some 40 then [c, 40] else [] from rfl] at c3 ⊢
      by_cases h1 : c = 91
      · rw [if_pos h1, h1]
        exact ⟨.inl rfl, rfl⟩
      · rw [if_neg h1] at c3 ⊢
        by_cases h2 : (c = 42 ∨ c = 95 ∨ c = 126) ∧ r.head? = some 40
        · rw [if_pos h2]
          refine ⟨.inr ⟨c, h2.1, rfl⟩, ?_⟩
          cases r with
          | nil => simp at h2
          | cons x r =>
            simp at h2
            rw [h2.2]
            rfl
        · rw [if_neg h2] at c3
          exact absurd rfl c3
    obtain ⟨o1, o2⟩ := hop
    refine ⟨false, t ++ openD (c :: r) ++ [], .lvl h c4 o1 (.nil _), (fun e => by cases e), bd_nil _ _, ?_⟩
    rw [List.append_nil, List.append_assoc, ← o2]
  rw [if_neg c3]
  by_cases c4 : c = 41 ∧ (topMark ((m, ds) :: low)).length = 2
  · rw [if_pos c4]
    obtain ⟨rfl, c5⟩ := c4
    have hm' : okM m := by
      rcases hm with ⟨_, rfl⟩ | hm
      · simp [topMark] at c5
      · exact hm
    have h91 : m ≠ [91] := fun e => by
      rw [e] at c5
      simp [topMark] at c5
    have hne : low ≠ [] := by
      intro e
      subst e
      cases h with
      | bot h => simp [topMark] at c5
      | lvl h0 => cases h0
    refine ⟨false, t ++ [41], endTop_ok h hne (fun _ _ _ _ => trivial) fun n t1 _ hq => ?_, (fun e => by cases e), bd_endTop hne (fun e => absurd e h91), by simp⟩
    obtain ⟨a, ha, e⟩ := okM_not hm' h91
    subst e
    unfold endPart
    rw [if_neg h91]
    exact .span a true false ds t1 ha (fun e => by cases e) hq
  rw [if_neg c4]
  by_cases c5 : c = 93 ∧ topMark ((m, ds) :: low) = [91]
  · rw [if_pos c5]
    obtain ⟨rfl, c6⟩ := c5
    have e : m = [91] := c6
    subst e
    have hne : low ≠ [] := by
      intro e
      subst e
      cases h with
      | lvl h0 => cases h0
    by_cases c7 : r.head? = some 40
    · rw [if_pos c7]
      obtain ⟨r, rfl⟩ : ∃ r', r = 40 :: r' := by
        cases r with
        | nil => simp at c7
        | cons x r =>
          simp at c7
          exact ⟨r, by rw [c7]⟩
      simp only [List.drop_succ_cons, List.drop_zero]
      have hr' := (Sg.cons.mp hr).2
      obtain ⟨g1, g2⟩ := upTo_spec 41 r
      have hn : (upTo 41 r).2 = false → (!(upTo 41 r).2) = true := fun e => by rw [e]; rfl
      have hsg : Sg (upTo 41 r).1 := by
        rcases g2 with ⟨g2, r', g3⟩ | ⟨g2, g3⟩
        · rw [g3] at hr'
          exact (Sg.app.mp hr').1
        · rw [g3] at hr'
          exact hr'
      refine ⟨!(upTo 41 r).2, t ++ ([93, 40] ++ (upTo 41 r).1 ++ if (upTo 41 r).2 = true then [41] else []), endTop_ok h hne (fun _ _ _ _ => trivial) fun n t1 _ hq => ?_, ?_, bd_endTop hne (fun _ e => by cases e), ?_⟩
      · unfold endPart
        rw [if_pos rfl]
        exact .linkT _ _ _ ds t1 hn hsg g1 hq
      · intro e
        rcases g2 with ⟨g2, r', g3⟩ | ⟨g2, g3⟩
        · rw [g2] at e
          cases e
        · show (40 :: r).drop _ = []
          rw [g2]
          refine List.drop_eq_nil_of_le ?_
          have := congrArg List.length g3
          simp
          omega
      · show _ = _ ++ (40 :: r).drop (1 + (upTo 41 r).1.length + (upTo 41 r).2.toNat)
        rcases g2 with ⟨g2, r', g3⟩ | ⟨g2, g3⟩
        · rw [g2]
          generalize (upTo 41 r).1 = w at g3
          subst g3
          rw [show 1 + w.length + true.toNat = (w.length + 1) + 1 by simp; omega, List.drop_succ_cons, show (w ++ 41 :: r').drop (w.length + 1) = r' by rw [List.drop_append]; simp]
          simp
        · rw [g2]
          generalize (upTo 41 r).1 = w at g3
          subst g3
          rw [show 1 + r.length + false.toNat = r.length + 1 by simp; omega]
          simp
    · rw [if_neg c7]
      refine ⟨false, t ++ [93], endTop_ok h hne (fun _ _ _ _ => trivial) fun n t1 _ hq => ?_, (fun e => by cases e), bd_endTop hne (fun _ _ => c7), by simp⟩
      unfold endPart
      rw [if_pos rfl]
      exact .linkN true false ds t1 (fun e => by cases e) hq
  rw [if_neg c5]
  have hn0 : 12 - low.length ≠ 0 → openD (c :: r) = [] := by
    intro hn
    by_cases h1 : openD (c :: r) = []
    · exact h1
    · exact absurd ⟨h1, by rw [List.length_cons]; omega⟩ c3
  have hsc : Sg [c] := fun x hx => by rw [List.mem_singleton.mp hx]; exact hc
  have h6 : m = [91] → c ≠ 93 := fun e e2 => c5 ⟨e2, e⟩
  have h7 : m.length = 2 → c ≠ 41 := fun e e2 => c4 ⟨e2, e⟩
  have hb' : Bd (12 - low.length) ds (c :: r) := hb
  have hbd : ∀ ds0 a, addP ds [c] = ds0 ++ [.str (a ++ [c])] → Bd (12 - low.length) (addP ds [c]) r := by
    intro ds0 a e
    rw [e]
    constructor
    · intro w e2 hn
      simp at e2
      subst e2
      have := hn0 hn
      rw [openD_nil_iff] at this
      simp only [List.length_append, List.length_cons, List.length_nil, Nat.zero_add, Nat.add_sub_cancel, List.drop_left]
      show openD (c :: ([] ++ r.take 1)) = []
      rw [openD_nil_iff]
      refine ⟨this.1, fun ⟨q1, q2⟩ => this.2 ⟨q1, ?_⟩⟩
      cases r with
      | nil => simp at q2
      | cons x r => simpa using q2
    · intro ps b e2
      simp at e2
  rcases addP_cases ds [c] with ⟨ds0, a, e1, e2⟩ | ⟨e1, e2⟩
  · refine ⟨false, t ++ [c], ?_, (fun e => by cases e), hbd ds0 a e2, by simp⟩
    show PileOK false ((m, addP ds [c]) :: low) _
    rw [e2, et]
    subst e1
    generalize hg : ds0 ++ [Dat.str a] = dsx at hp
    cases hp with
    | nil => simp at hg
    | @snoc _ ds1 t2 tp p hq hP =>
      obtain ⟨q1, q2⟩ := List.append_inj' hg rfl
      subst q1
      simp at q2
      subst q2
      have hF : Fl (12 - low.length) m false ds0.getLast? (.str a) tp := by
        revert hP
        cases 12 - low.length with
        | zero => exact fun h => h
        | succ n =>
          intro h
          rcases h with h | h
          · exact h
          · cases h
      cases hF with
      | txt w _ _ g0 g1 g2 g3 g4 g5 g6 g7 g8 =>
        rw [show t0 ++ (t2 ++ a) ++ [c] = t0 ++ (t2 ++ (a ++ [c])) by simp]
        refine put _ _ _ (.snoc hq (POK.fl (.txt _ _ _ (by simp) (Sg.app.mpr ⟨g1, hsc⟩) g2 ?_ ?_ ?_ ?_ ?_ ?_)))
        · simp [g3]
          exact fun e => c1 e.symm
        · simp [g4]
          exact fun e => c2 e.symm
        · intro hn
          have h1 := hn0 hn
          rw [openD_nil_iff] at h1
          refine noOpen_snoc h1.1 (g5 hn) ?_
          have := hb'.1 a (by simp) hn
          simpa using this
        · intro e
          have := g6 e
          have := h6 e
          simp_all
          exact fun e => this e.symm
        · intro e
          have := g7 e
          have := h7 e
          simp_all
          exact fun e => this e.symm
        · intro e
          refine g8 ?_
          cases a with
          | nil => exact absurd rfl g0
          | cons x a => simpa using e
  · refine ⟨false, t ++ [c], ?_, (fun e => by cases e), hbd ds [] (by rw [e2]; rfl), by simp⟩
    show PileOK false ((m, addP ds [c]) :: low) _
    rw [e2, et, List.append_assoc]
    refine put _ _ _ (.snoc hp (POK.fl (.txt _ _ _ (by simp) hsc e1 ?_ ?_ ?_ ?_ ?_ ?_)))
    · simp
      exact fun e => c1 e.symm
    · simp
      exact fun e => c2 e.symm
    · intro hn
      have h1 := hn0 hn
      rw [openD_nil_iff] at h1
      exact noOpen_one h1.1
    · intro e
      have := h6 e
      simp
      exact fun e => this e.symm
    · intro e
      have := h7 e
      simp
      exact fun e => this e.symm
    · intro e ps b e3
      refine hb'.2 ps b e3 ?_
      simpa using e
theorem run_ok : ∀ (n : Nat) (s : List Nat) (pl : Pile) (o : Bool) (t : List Nat), s.length ≤ n → PileOK o pl t → (o = true → s = []) → BdQ pl s → Sg s → ∃ o', PileOK o' (runQ s pl) (t ++ s)
  | _, [], pl, o, t, _, h, _, _, _ => ⟨o, by rw [runQ_nil, List.append_nil]; exact h⟩
  | 0, c :: r, pl, o, t, hn, _, _, _, _ => by simp at hn
  | n + 1, c :: r, pl, o, t, hn, h, ho, hb, hs => by
    have e : o = false := by
      cases o with
      | false => rfl
      | true => cases ho rfl
    subst e
    obtain ⟨o', t', h1, h2, h3, h4⟩ := step_ok h hb hs
    have hl := stepP_len c r pl
    have hsub : Sg (stepP c r pl).1 := by
      unfold stepP
      have hr := (Sg.cons.mp hs).2
      have hd : ∀ k, Sg (r.drop k) := fun k x hx => hr x (List.mem_of_mem_drop hx)
      repeat' split
      all_goals first | exact hd _ | exact hr
    rw [runQ_cons, h4]
    exact run_ok n _ _ o' t' (by simp at hn; omega) h1 h2 h3 hsub
/-- what closes at the end -/
theorem close_ok : ∀ (pl : Pile) (o : Bool) (t : List Nat), PileOK o pl t → PLo 12 [] true (closeP pl) t
  | [], _, _, h => by cases h
  | [(m, ds)], o, t, h => by
    cases h with
    | bot h => exact h.up
    | lvl h0 => cases h0
  | (m, ds) :: (m2, ds2) :: low, o, t, h => by
    have h' : PileOK true ((m, ds) :: (m2, ds2) :: low) t := by
      cases h with
      | lvl h0 hl hm h => exact .lvl h0 hl hm h.up
    have := endTop_ok (o' := true) (tg := .non) (b := false) (x := []) h' (by simp) (fun _ _ _ _ => trivial) fun n t1 hm hq => ?_
    · rw [List.append_nil] at this
      exact close_ok ((m2, ds2 ++ [endPart m ds .non false]) :: low) true t this
    · rw [List.append_nil]
      unfold endPart
      rcases hm with rfl | ⟨a, ha, rfl⟩
      · rw [if_pos rfl]
        have := Nst.linkN (P := fun mk l ds t => PLs (POK n mk) l ds t) false true ds t1 (fun _ => rfl) hq
        simpa using this
      · rw [if_neg (by simp)]
        have := Nst.span (P := fun mk l ds t => PLs (POK n mk) l ds t) a false true ds t1 ha (fun _ => rfl) hq
        simpa using this
termination_by pl => pl.length
/-- THE LAW of parts -/
theorem parts_ok (row : List Nat) (hs : Sg row) : PLo 12 [] true (partsP row) row := by
  have h0 : PileOK false [([], [])] [] := .bot (.nil _)
  obtain ⟨o, h⟩ := run_ok row.length row [([], [])] false [] (Nat.le_refl _) h0 (fun e => by cases e) (bd_nil _ _) hs
  rw [partsP_eq]
  exact close_ok _ _ _ h
/-! ### they show the row -/
theorem Shows.app {d : Nat} {a q : List Dat} (h : Shows d a q) : ∀ {b q' : List Dat}, Shows d b q' → Shows d (a ++ b) (q ++ q') := by
  induction h with
  | nil d => exact fun h => h
  | txt s h ih =>
    intro b q' hb
    rw [List.append_assoc]
    exact .txt s (ih hb)
  | kept s h ih =>
    intro b q' hb
    rw [List.append_assoc]
    exact .kept s (ih hb)
  | code s c h ih =>
    intro b q' hb
    rw [List.append_assoc]
    exact .code s c (ih hb)
  | span m c hm h1 h ih1 ih =>
    intro b q' hb
    rw [List.append_assoc]
    exact .span m c hm h1 (ih hb)
  | linkN c h1 h ih1 ih =>
    intro b q' hb
    rw [List.append_assoc]
    exact .linkN c h1 (ih hb)
  | linkT t c h1 h ih1 ih =>
    intro b q' hb
    rw [List.append_assoc]
    exact .linkT t c h1 (ih hb)
theorem txt_if (b : Bool) (w : List Nat) : txt (if b = true then mk w else []) = if b = true then w else [] := by
  cases b with
  | true => exact txt_mk w
  | false => rfl
theorem pw_le (k w : List Nat) : (pw k w).length ≤ w.length := by
  unfold pw
  split
  · simp
  · rename_i h
    exact List.length_pos_iff.mpr h
theorem if_len (b : Bool) (w w' : List Nat) (h : 1 ≤ w'.length) : (if b = true then mk w else []).length ≤ (if b = true then w' else []).length := by
  cases b with
  | true => exact h
  | false => exact Nat.le_refl _
theorem pls_shows : ∀ (n : Nat) {m : List Nat} {o : Bool} {ds : List Dat} {t : List Nat}, PLo n m o ds t → ∃ q, Shows n ds q ∧ txt q = t ∧ q.length ≤ t.length := by
  intro n
  have flat : ∀ (n : Nat) {m : List Nat} {o : Bool} {a : Option Dat} {p : Dat} {t : List Nat}, Fl n m o a p t → ∃ q, Shows n [p] q ∧ txt q = t ∧ q.length ≤ t.length := by
    intro n m o a p t h
    cases h with
    | txt w => exact ⟨_, .txt _ (.nil _), by rw [List.append_nil, txt_pw], by rw [List.append_nil]; exact pw_le _ _⟩
    | kept k =>
      refine ⟨_, .kept _ (.nil _), by rw [List.append_nil, txt_app, txt_mk, txt_pw]; rfl, ?_⟩
      rw [List.append_nil, List.length_append]
      have := pw_le wKept k
      simp [mk]
      omega
    | code w b =>
      refine ⟨_, .code _ b (.nil _), by rw [List.append_nil, txt_app, txt_app, txt_mk, txt_pw, txt_if]; rfl, ?_⟩
      rw [List.append_nil, List.length_append, List.length_append, List.length_append]
      have := pw_le wCode w
      have := if_len b [96] [96] (by simp)
      simp only [List.length_cons, mk, List.length_nil] at *
      omega
  have step : ∀ (n : Nat) {m : List Nat} {o : Bool} {ds : List Dat} {t : List Nat}, (∀ {m : List Nat} {o : Bool} {a : Option Dat} {p : Dat} {t : List Nat}, POK n m o a p t → ∃ q, Shows n [p] q ∧ txt q = t ∧ q.length ≤ t.length) → PLo n m o ds t → ∃ q, Shows n ds q ∧ txt q = t ∧ q.length ≤ t.length := by
    intro n m o ds t hp h
    induction h with
    | nil l => exact ⟨[], .nil _, rfl, Nat.le_refl _⟩
    | snoc h hpp ih =>
      obtain ⟨q, h1, h2, h3⟩ := ih
      obtain ⟨q', h4, h5, h6⟩ := hp hpp
      exact ⟨_, h1.app h4, by rw [txt_app, h2, h5], by rw [List.length_append, List.length_append]; omega⟩
  have one : ∀ (n : Nat) {m : List Nat} {o : Bool} {a : Option Dat} {p : Dat} {t : List Nat}, POK n m o a p t → ∃ q, Shows n [p] q ∧ txt q = t ∧ q.length ≤ t.length := by
    intro n
    induction n with
    | zero => exact fun h => flat 0 h
    | succ n ih =>
      intro m o a p t h
      rcases h with h | h
      · exact flat _ h
      · cases h with
        | span m b _ ds t hm hb h =>
          obtain ⟨q, h1, h2, h3⟩ := step n ih h
          refine ⟨_, .span _ b (by simp) h1 (.nil _), by rw [List.append_nil, txt_app, txt_app, txt_mk, txt_if, h2]; rfl, ?_⟩
          have := if_len b [41] [41] (by simp)
          simp only [List.append_nil, List.length_append, List.length_cons, mk, List.length_nil] at *
          omega
        | linkN b _ ds t hb h =>
          obtain ⟨q, h1, h2, h3⟩ := step n ih h
          refine ⟨_, .linkN b h1 (.nil _), by rw [List.append_nil, txt_app, txt_app, txt_mk, txt_if, h2], ?_⟩
          have := if_len b [93] [93] (by simp)
          simp only [List.append_nil, List.length_append, List.length_cons, mk, List.length_nil] at *
          omega
        | linkT tg b _ ds t hb g1 g2 h =>
          obtain ⟨q, h1, h2, h3⟩ := step n ih h
          refine ⟨_, .linkT tg b h1 (.nil _), by rw [List.append_nil, txt_app, txt_app, txt_app, txt_app, txt_mk, txt_mk, txt_pw, txt_if, h2], ?_⟩
          have := if_len b [41] [41] (by simp)
          have := pw_le wTarget tg
          simp only [List.append_nil, List.length_append, List.length_cons, mk, List.length_nil] at *
          omega
  intro m o ds t h
  exact step n (one n) h
theorem pok_pos {n : Nat} {m : List Nat} {o : Bool} {a : Option Dat} {p : Dat} {t : List Nat} (h : POK n m o a p t) : 1 ≤ t.length := by
  have fl : ∀ {n : Nat}, Fl n m o a p t → 1 ≤ t.length := by
    intro n h
    cases h with
    | txt w _ _ h0 => exact List.length_pos_iff.mpr h0
    | kept k => simp
    | code w b => simp
  cases n with
  | zero => exact fl h
  | succ n =>
    rcases h with h | h
    · exact fl h
    · cases h <;> simp
theorem pls_len {n : Nat} {m : List Nat} {o : Bool} {ds : List Dat} {t : List Nat} (h : PLo n m o ds t) : ds.length ≤ t.length := by
  induction h with
  | nil l => simp
  | snoc h hp ih =>
    have := pok_pos hp
    simp only [List.length_append, List.length_cons, List.length_nil]
    omega
theorem pls_gd : ∀ (n : Nat) {m : List Nat} {o : Bool} {ds : List Dat} {t : List Nat}, PLo n m o ds t → t.length < 16777216 → Gd0 (2 * n + 2) (.lst ds) := by
  intro n
  have flat : ∀ (n : Nat) {m : List Nat} {o : Bool} {a : Option Dat} {p : Dat} {t : List Nat}, Fl n m o a p t → Gd0 1 p := by
    intro n m o a p t h
    cases h with
    | txt w => trivial
    | kept k => exact ⟨by simp, fun d hd => by simp at hd; rcases hd with rfl | rfl <;> trivial⟩
    | code w b => exact ⟨by simp, fun d hd => by simp at hd; rcases hd with rfl | rfl | rfl <;> trivial⟩
  have step : ∀ (n k : Nat) {m : List Nat} {o : Bool} {ds : List Dat} {t : List Nat}, (∀ {m : List Nat} {o : Bool} {a : Option Dat} {p : Dat} {t : List Nat}, POK n m o a p t → t.length < 16777216 → Gd0 k p) → PLo n m o ds t → t.length < 16777216 → Gd0 (k + 1) (.lst ds) := by
    intro n k m o ds t hp h hl
    refine ⟨Nat.lt_of_le_of_lt (pls_len h) hl, ?_⟩
    induction h with
    | nil l => simp
    | snoc h hpp ih =>
      rw [List.length_append] at hl
      intro d hd
      rcases List.mem_append.mp hd with hd | hd
      · exact ih (by omega) d hd
      · rw [List.mem_singleton.mp hd]
        exact hp hpp (by omega)
  have one : ∀ (n : Nat) {m : List Nat} {o : Bool} {a : Option Dat} {p : Dat} {t : List Nat}, POK n m o a p t → t.length < 16777216 → Gd0 (2 * n + 1) p := by
    intro n
    induction n with
    | zero => exact fun h _ => flat 0 h
    | succ n ih =>
      intro m o a p t h hl
      rcases h with h | h
      · exact Gd0.mono (by omega) (flat _ h)
      · cases h with
        | span m b _ ds t hm hb h =>
          have g := step n _ ih h (by simp only [List.length_append] at hl; omega)
          refine ⟨by simp, fun d hd => ?_⟩
          simp at hd
          rcases hd with rfl | rfl | rfl | rfl
          · trivial
          · trivial
          · exact g
          · trivial
        | linkN b _ ds t hb h =>
          have g := step n _ ih h (by simp only [List.length_append] at hl; omega)
          refine ⟨by simp, fun d hd => ?_⟩
          simp at hd
          rcases hd with rfl | rfl | rfl | rfl
          · trivial
          · exact g
          · trivial
          · trivial
        | linkT tg b _ ds t hb g1 g2 h =>
          have g := step n _ ih h (by simp only [List.length_append] at hl; omega)
          refine ⟨by simp, fun d hd => ?_⟩
          simp at hd
          rcases hd with rfl | rfl | rfl | rfl
          · trivial
          · exact g
          · trivial
          · trivial
  intro m o ds t h hl
  exact step n _ (one n) h hl
/-- [el for j in range(e)] -/
theorem lc_rgD {T : Tbl} {io : Nat → Bool} {G : Gd} {a0 : Option (Dat × Bool)} {r0 : DS} {j : Nat} {e el : Ex} (k : Nat) (ys : List Dat) (h : evD T io G e (vals (a0 :: r0)) = .ok (.int k)) (hk : k < 16777216)
    (hm : mapD (fun x => (evD T io G el ((vals (a0 :: r0)).set j (some x))).quiet) ((List.range k).map fun k => .int (k : Nat)) = .ok ys) : evD T io G (.lc j (.rg e) el) (vals (a0 :: r0)) = .ok (.lst ys) := by
  rw [ev_lc, ei_rg, h, bind_ok, it_rgN k (by omega), bind_ok, hm, decide_eq_true (show ((List.range k).map fun (k : Nat) => Dat.int (k : Nat)).length < sizeLine by rw [List.length_map, List.length_range]; exact hk)]
  rfl
/-- [el for j in e], e a list -/
theorem lc_lsD {T : Tbl} {io : Nat → Bool} {G : Gd} {a0 : Option (Dat × Bool)} {r0 : DS} {j : Nat} {e el : Ex} (xs ys : List Dat) (h : evI T io G (.ls e) (vals (a0 :: r0)) = .ok xs) (hk : xs.length < 16777216)
    (hm : mapD (fun x => (evD T io G el ((vals (a0 :: r0)).set j (some x))).quiet) xs = .ok ys) : evD T io G (.lc j (.ls e) el) (vals (a0 :: r0)) = .ok (.lst ys) := by
  rw [ev_lc, h, bind_ok, hm, decide_eq_true (show xs.length < sizeLine from hk)]
  rfl
section
variable {T : Tbl} {io : Nat → Bool} {G : Gd} {a0 : Option (Dat × Bool)} {r0 : DS}
theorem ev_b {o : BOp} {a b : Ex} {x y z : Dat} (ha : evD T io G a (vals (a0 :: r0)) = .ok x) (hb : evD T io G b (vals (a0 :: r0)) = .ok y) (h : binD o x y = .ok z) : evD T io G (.bin o a b) (vals (a0 :: r0)) = .ok z := by
  rw [ev_bin, ha, bind_ok, hb, bind_ok, h]
theorem ev_i {a b : Ex} {x y z : Dat} (ha : evD T io G a (vals (a0 :: r0)) = .ok x) (hb : evD T io G b (vals (a0 :: r0)) = .ok y) (h : idxD x y = .ok z) : evD T io G (.idx a b) (vals (a0 :: r0)) = .ok z := by
  rw [ev_idx, ha, bind_ok, hb, bind_ok, h]
theorem ev_ci (i : Int) : evD T io G (.con (.int i)) (vals (a0 :: r0)) = .ok (.int i) := by
  rw [ev_con]
  rfl
theorem ev_cs (s : List Nat) : evD T io G (.con (vS s)) (vals (a0 :: r0)) = .ok (.str s) := by
  rw [ev_con]
  rfl
theorem ev_v {i : Nat} {d : Dat} (h : lookD (a0 :: r0) i = .ok d) : evD T io G (.var i) (vals (a0 :: r0)) = .ok d := by
  rw [ev_var, h]
theorem ev_q {a : Ex} {ρ : List (Option Dat)} {d : Dat} (h : evD T io G a ρ = .ok d) : (evD T io G a ρ).quiet = .ok d := by
  rw [h]
  rfl
theorem bd_mulN (k : Nat) (j : Int) (h : k ≤ 1000) : binD .mul (.int (k : Nat)) (.int j) = .ok (.int (k * j)) :=
  bd_mul _ _ (Int.lt_of_lt_of_le (by decide) (Int.natCast_nonneg k)) (Int.lt_of_le_of_lt (show (k : Int) ≤ 1000 by omega) (by decide))
theorem bd_repN (a : List Nat) (n : Nat) (h : n ≤ 1000) (h3 : a.length < 1000) (h4 : a.length * n ≤ 16777216) : binD .mul (.str a) (.int (n : Int)) = .ok (.str (repS a n)) := by
  have h1 : (n : Int) ≤ 1000 := by omega
  refine bd_rep a n (Int.lt_of_le_of_lt h1 (by decide)) (Int.lt_of_lt_of_le (by decide) (Int.natCast_nonneg n)) h3 ?_
  rw [Int.toNat_natCast]
  exact h4
end
end Fw

set_option maxHeartbeats 4000000
namespace Fw
open PySem PySem.Spec PyProof.Rows L2

/-! ### lists made thing by thing -/
theorem PLs.get {α : Type} {P : Bool → Option Dat → Dat → List α → Prop} {l : Bool} {ds : List Dat} {t : List α} (h : PLs P l ds t) : ∀ i (hi : i < ds.length), ∃ tp, P (l && decide (i + 1 = ds.length)) (ds.take i).getLast? ds[i] tp ∧ tp.length ≤ t.length := by
  induction h with
  | nil l =>
    intro i hi
    simp at hi
  | @snoc l ds t tp p h hp ih =>
    intro i hi
    rw [List.length_append, List.length_singleton] at hi
    by_cases e : i = ds.length
    · subst e
      refine ⟨tp, ?_, by rw [List.length_append]; omega⟩
      have e1 : (l && decide (ds.length + 1 = (ds ++ [p]).length)) = l := by simp
      rw [e1]
      simpa using hp
    · have hi' : i < ds.length := by omega
      obtain ⟨tp', h1, h2⟩ := ih i hi'
      refine ⟨tp', ?_, by rw [List.length_append]; omega⟩
      have e1 : (l && decide (i + 1 = (ds ++ [p]).length)) = (false && decide (i + 1 = ds.length)) := by
        have : ¬ (i + 1 = (ds ++ [p]).length) := by rw [List.length_append, List.length_singleton]; omega
        rw [decide_eq_false this, Bool.and_false, Bool.false_and]
      rw [e1, List.take_append_of_le_length (by omega), List.getElem_append_left hi']
      exact h1
theorem forD_app (j : Nat) (body : DS → Rd) : ∀ (xs ys : List Dat) (ρ : DS), forD j body (xs ++ ys) ρ = (forD j body xs ρ).bind fun ρ' => forD j body ys ρ'
  | [], ys, ρ => rfl
  | x :: xs, ys, ρ => by
    rw [List.cons_append, forD, forD]
    cases body (ρ.set j (some (x, false))) with
    | nx ρ1 => exact forD_app j body xs ys ρ1
    | ct ρ1 => exact forD_app j body xs ys ρ1
    | rt d ρ1 => rfl
    | ex c => rfl
    | er => rfl
theorem sat_forD_cons {j : Nat} {body : DS → Rd} {x : Dat} {xs : List Dat} {ρ : DS} {N C : DS → Prop} {R : Dat → Prop} (h : Sat (body (ρ.set j (some (x, false)))) (fun ρ' => Sat (forD j body xs ρ') N C R) (fun ρ' => Sat (forD j body xs ρ') N C R) R) : Sat (forD j body (x :: xs) ρ) N C R := by
  rw [forD]
  revert h
  cases body (ρ.set j (some (x, false))) with
  | nx ρ2 => exact fun h1 => h1.out'
  | ct ρ2 => exact fun h1 => h1.out'
  | rt d ρ2 => exact fun h1 => .rt h1.out'
  | ex c => exact fun h1 => h1.out'.elim
  | er => exact fun h1 => h1.out'.elim
theorem sat_forPD {α : Type} {P : Bool → Option Dat → Dat → List α → Prop} {l : Bool} {ds : List Dat} {t : List α} (h : PLs P l ds t) {j : Nat} {body : DS → Rd} {S : List Dat → List α → DS → Prop} {R : Dat → Prop} :
    ∀ (step : ∀ ds' t' l' p tp ρ, (l' = true → l = true) → P l' ds'.getLast? p tp → (t' ++ tp).length ≤ t.length → (∀ x ∈ tp, x ∈ t) → S ds' t' ρ → Sat (body (ρ.set j (some (p, false)))) (S (ds' ++ [p]) (t' ++ tp)) (S (ds' ++ [p]) (t' ++ tp)) R) (ρ : DS), S [] [] ρ → Sat (forD j body ds ρ) (S ds t) (fun _ => False) R := by
  induction h with
  | nil l => exact fun _ ρ h0 => .nx h0
  | @snoc l ds t tp p h hp ih =>
    intro step ρ h0
    rw [forD_app]
    refine Sat.bind ((ih (fun ds' t' l' p' tp' ρ' e hp' hl hd hs => step ds' t' l' p' tp' ρ' (fun e' => by cases e e') hp' (by rw [List.length_append (as := t)]; omega) (fun x hx => List.mem_append_left _ (hd x hx)) hs) ρ h0).mono (fun ρ1 hs => ?_) (fun _ x => x) fun _ x => x)
    have h1 := step ds t l p tp ρ1 (fun e => e) hp (Nat.le_refl _) (fun x hx => List.mem_append_right _ hx) hs
    rw [forD]
    revert h1
    cases body (ρ1.set j (some (p, false))) with
    | nx ρ2 => exact fun h1 => .nx h1.out'
    | ct ρ2 => exact fun h1 => .nx h1.out'
    | rt d ρ2 => exact fun h1 => .rt h1.out'
    | ex c => exact fun h1 => h1.out'.elim
    | er => exact fun h1 => h1.out'.elim
theorem zat_forP {T : Tbl} {io : Nat → Bool} {G : Gd} {wf : Nat} {z : Bool} {N C : DS → Prop} {R : Dat → Prop} {ρ : DS} {α : Type} {P : Bool → Option Dat → Dat → List α → Prop} {l : Bool} {ds : List Dat} {t : List α} (h : PLs P l ds t) {j : Nat} {it : Itr} {b : Sms} (S : List Dat → List α → DS → Prop) (hk : (okSlot z j ρ && forOk z it ρ) = true) (hi : evI T io G it (vals ρ) = .ok ds) (h0 : S [] [] (unownI it ρ))
    (step : ∀ ds' t' l' p tp ρ, (l' = true → l = true) → P l' ds'.getLast? p tp → (t' ++ tp).length ≤ t.length → (∀ x ∈ tp, x ∈ t) → S ds' t' ρ → Sat (exDs T io G wf z b (ρ.set j (some (p, false)))) (S (ds' ++ [p]) (t' ++ tp)) (S (ds' ++ [p]) (t' ++ tp)) R) (q : ∀ ρ', S ds t ρ' → N ρ') : Sat (exD T io G wf z (.for_ j it b) ρ) N C R := by
  rw [ex_for j it b ρ hk, hi, onRsE]
  exact (sat_forPD h step _ h0).mono q (fun _ x => x.elim) fun _ x => x
/-! ### items under one another -/
def rowD (d : Int) (w : List Nat) : List Nat := List.replicate d.toNat 45 ++ 32 :: w
inductive ITs : Int → Int → List Dat → List (List Nat) → Prop
  | nil (l m : Int) : ITs l m [] []
  | cons {l m d : Int} {ps ch xs : List Dat} {w : List Nat} {r1 r2 : List (List Nat)} (h1 : l ≤ d) (h2 : d ≤ m) (h9 : d ≤ 9) (hp : PLo 12 [] true ps w) (hc : ITs (d + 1) 9 ch r1) (hx : ITs l d xs r2) : ITs l m (itD d (.lst ps) ch :: xs) (rowD d w :: (r1 ++ r2))
def dashD : Dat → Int
  | .tup (.int d :: _) => d
  | _ => 0
def capI : Int → List Dat → Int
  | m, [] => m
  | _, x :: xs => capI (dashD x) xs
theorem capI_snoc (x : Dat) : ∀ (xs : List Dat) (m : Int), capI m (xs ++ [x]) = dashD x
  | [], m => rfl
  | y :: xs, m => capI_snoc x xs _
theorem its_snoc {l m : Int} {xs : List Dat} {r : List (List Nat)} (h : ITs l m xs r) : ∀ {d : Int} {ps ch : List Dat} {w : List Nat} {r1 : List (List Nat)}, l ≤ d → d ≤ capI m xs → d ≤ 9 → PLo 12 [] true ps w → ITs (d + 1) 9 ch r1 → ITs l m (xs ++ [itD d (.lst ps) ch]) (r ++ rowD d w :: r1) := by
  induction h with
  | nil l m =>
    intro d ps ch w r1 h1 h2 h9 hp hc
    have := ITs.cons h1 h2 h9 hp hc (.nil l d)
    rw [List.append_nil] at this
    exact this
  | @cons l m d0 ps0 ch0 xs0 w0 ra rb g1 g2 g9 gp gc gx ihc ihx =>
    intro d ps ch w r1 h1 h2 h9 hp hc
    have := ITs.cons g1 g2 g9 gp gc (ihx h1 h2 h9 hp hc)
    rw [List.cons_append, List.cons_append, List.append_assoc]
    exact this
inductive SOK : Stk → List (List Nat) → Prop
  | bot {ds : List Dat} {r : List (List Nat)} (h : ITs 1 9 ds r) : SOK [(0, .non, ds)] r
  | lvl {d0 d : Int} {p0 : Dat} {ds0 ds ps : List Dat} {s : Stk} {r0 r : List (List Nat)} {w : List Nat} (h0 : SOK ((d0, p0, ds0) :: s) r0) (h1 : d0 < d) (h2 : d ≤ capI 9 ds0) (h9 : d ≤ 9) (hp : PLo 12 [] true ps w) (h : ITs (d + 1) 9 ds r) : SOK ((d, .lst ps, ds) :: (d0, p0, ds0) :: s) (r0 ++ rowD d w :: r)
theorem SOK.top {d0 : Int} {p0 : Dat} {ds0 : List Dat} {s : Stk} {r0 : List (List Nat)} (h : SOK ((d0, p0, ds0) :: s) r0) : ∃ ra rb, r0 = ra ++ rb ∧ ITs (d0 + 1) 9 ds0 rb ∧ ∀ ds' rb', ITs (d0 + 1) 9 ds' rb' → SOK ((d0, p0, ds') :: s) (ra ++ rb') := by
  cases h with
  | bot h => exact ⟨[], r0, rfl, h, fun ds' rb' h' => .bot h'⟩
  | @lvl e0 _ q0 es0 _ ps _ ra r w h0 h1 h2 h9 hp h =>
    refine ⟨ra ++ [rowD d0 w], r, by simp, h, fun ds' rb' h' => ?_⟩
    rw [List.append_assoc]
    exact .lvl h0 h1 h2 h9 hp h'
theorem SOK.close {d : Int} {pd : Dat} {ds : List Dat} {f : Int × Dat × List Dat} {s : Stk} {r : List (List Nat)} (h : SOK ((d, pd, ds) :: f :: s) r) : SOK ((f.1, f.2.1, f.2.2 ++ [itD d pd ds]) :: s) r := by
  cases h with
  | @lvl d0 _ p0 ds0 _ ps _ r0 r w h0 h1 h2 h9 hp h =>
    obtain ⟨ra, rb, e, g1, g2⟩ := h0.top
    subst e
    rw [List.append_assoc]
    exact g2 _ _ (its_snoc g1 (by omega) h2 h9 hp h)
theorem pop_ok (x : Int) (h1 : 1 ≤ x) : ∀ (s : Stk) (d : Int) (pd : Dat) (ds : List Dat) (r : List (List Nat)), SOK ((d, pd, ds) :: s) r → x ≤ capI 9 ds → ∃ d' pd' ds' s', popR x d pd ds s = (d', pd', ds') :: s' ∧ SOK ((d', pd', ds') :: s') r ∧ d' < x ∧ x ≤ capI 9 ds'
  | [], d, pd, ds, r, h, hc => by
    refine ⟨d, pd, ds, [], rfl, h, ?_, hc⟩
    cases h with
    | bot h => omega
  | f :: s, d, pd, ds, r, h, hc => by
    by_cases hx : x ≤ d
    · obtain ⟨d', pd', ds', s', e, g⟩ := pop_ok x h1 s f.1 f.2.1 (f.2.2 ++ [itD d pd ds]) r h.close (by rw [capI_snoc]; exact hx)
      refine ⟨d', pd', ds', s', ?_, g⟩
      rw [← e]
      show (if x ≤ d then _ else _) = _
      rw [if_pos hx]
    · refine ⟨d, pd, ds, f :: s, ?_, h, by omega, hc⟩
      show (if x ≤ d then _ else _) = _
      rw [if_neg hx]
def okIt (x : Int × List Nat) : Prop := (1 ≤ x.1 ∧ x.1 ≤ 9) ∧ Sg x.2
theorem fold_ok : ∀ (xs : List (Int × List Nat)) (d : Int) (pd : Dat) (s : Stk) (r : List (List Nat)), (∀ x ∈ xs, okIt x) → SOK ((d, pd, []) :: s) r → SOK (xs.foldl itemS ((d, pd, []) :: s)) (r ++ xs.map fun x => rowD x.1 x.2)
  | [], d, pd, s, r, _, h => by
    rw [List.map_nil, List.append_nil]
    exact h
  | x :: xs, d, pd, s, r, hx, h => by
    obtain ⟨⟨g1, g9⟩, gs⟩ := hx x (List.mem_cons_self ..)
    obtain ⟨d', pd', ds', s', e, k1, k2, k3⟩ := pop_ok x.1 g1 s d pd [] r h g9
    have : SOK ((x.1, .lst (partsP x.2), []) :: (d', pd', ds') :: s') (r ++ rowD x.1 x.2 :: []) := .lvl k1 k2 k3 g9 (parts_ok x.2 gs) (.nil _ _)
    have ih := fold_ok xs x.1 (.lst (partsP x.2)) ((d', pd', ds') :: s') _ (fun y hy => hx y (List.mem_cons_of_mem _ hy)) this
    rw [List.foldl_cons, List.map_cons]
    rw [List.append_assoc] at ih
    show SOK (xs.foldl itemS ((x.1, .lst (partsP x.2), []) :: popR x.1 d pd [] s)) _
    rw [e]
    exact ih
theorem shut_ok : ∀ (s : Stk) (d : Int) (pd : Dat) (ds : List Dat) (r : List (List Nat)), SOK ((d, pd, ds) :: s) r → ITs 1 9 (shutR d pd ds s) r
  | [], d, pd, ds, r, h => by
    cases h with
    | bot h => exact h
  | f :: s, d, pd, ds, r, h => shut_ok s f.1 f.2.1 _ r h.close
/-- THE LAW of items -/
theorem items_ok (xs : List (Int × List Nat)) (h : ∀ x ∈ xs, okIt x) : ITs 1 9 (itemsP xs) (xs.map fun x => rowD x.1 x.2) := by
  have := fold_ok xs 0 .non [] [] h (.bot (.nil _ _))
  unfold itemsP
  rw [List.nil_append] at this
  revert this
  cases xs.foldl itemS [(0, .non, [])] with
  | nil => exact fun h => by cases h
  | cons c s => exact fun h => shut_ok s _ _ _ _ h
theorem its_ne {l m : Int} {xs : List Dat} {r : List (List Nat)} (h : ITs l m xs r) : r ≠ [] → xs ≠ [] := by
  cases h with
  | nil => exact fun h => absurd rfl h
  | cons => simp
/-! ### blocks -/
abbrev kGap : List Nat := [103, 97, 112]
abbrev kHead : List Nat := [104, 101, 97, 100, 105, 110, 103]
abbrev kList : List Nat := [108, 105, 115, 116]
abbrev kPara : List Nat := [112, 97, 114, 97]
abbrev kQuote : List Nat := [113, 117, 111, 116, 101]
abbrev kItem : List Nat := [105, 116, 101, 109]
abbrev kPlain : List Nat := [112, 108, 97, 105, 110]
def D3 (k : List Nat) (n : Int) (r : List Nat) : Dat := .tup [.str k, .int n, .str r]
/-- a row's shape -/
def shp (l : List Nat) (deep : Int) : List Nat × Int × List Nat :=
  if l = [] then (kGap, 0, [])
  else if l.take 2 = [62, 32] ∧ deep < 9 then (kQuote, 0, l.drop 2)
  else if (0 < runL 35 l ∧ (runL 35 l : Int) ≤ 6) ∧ l[runL 35 l]? = some 32 then (kHead, runL 35 l, l.drop (runL 35 l + 1))
  else if (0 < runL 45 l ∧ (runL 45 l : Int) ≤ 9) ∧ l[runL 45 l]? = some 32 then (kItem, runL 45 l, l.drop (runL 45 l + 1))
  else (kPlain, 0, l)
def blkK : Dat → List Nat
  | .tup (.str k :: _) => k
  | _ => []
def ParaP (deep : Int) : Bool → Option Dat → Dat → List (List Nat) → Prop := fun _ _ p r => ∃ ps w, p = .lst ps ∧ r = [w] ∧ PLo 12 [] true ps w ∧ Sg w ∧ (shp w deep).1 = kPlain
inductive FB (m : Nat) : Dat → List (List Nat) → Prop
  | gap (k : Nat) (h : 1 ≤ k) : FB m (.tup [.str kGap, .int (k : Nat)]) (List.replicate k [])
  | head (s : Nat) (ps : List Dat) (w : List Nat) (h1 : 1 ≤ s) (h6 : s ≤ 6) (hp : PLo 12 [] true ps w) : FB m (.tup [.str kHead, .int (s : Nat), .lst ps]) [List.replicate s 35 ++ 32 :: w]
  | list (its : List Dat) (rows : List (List Nat)) (h : ITs 1 9 its rows) (hne : its ≠ []) : FB m (.tup [.str kList, .lst its]) rows
  | para (pss : List Dat) (rows : List (List Nat)) (h : PLs (ParaP (9 - (m : Int))) false pss rows) (hne : pss ≠ []) : FB m (.tup [.str kPara, .lst pss]) rows
def BKs (Q : Dat → List (List Nat) → Prop) : Bool → Option Dat → Dat → List (List Nat) → Prop := fun _ ahead b r => Q b r ∧ ∀ a, ahead = some a → blkK a = blkK b → blkK b = kHead
/-- m: how many quotes may be within -/
def BK : Nat → Dat → List (List Nat) → Prop
  | 0 => FB 0
  | m + 1 => fun b r => FB (m + 1) b r ∨ ∃ bs rs, b = .tup [.str kQuote, .lst bs] ∧ bs ≠ [] ∧ PLs (BKs (BK m)) false bs rs ∧ r = rs.map fun x => 62 :: 32 :: x
abbrev BLs (m : Nat) (bs : List Dat) (rows : List (List Nat)) : Prop := PLs (BKs (BK m)) false bs rows
theorem BK.fb {m : Nat} {b : Dat} {r : List (List Nat)} (h : FB m b r) : BK m b r := by
  cases m with
  | zero => exact h
  | succ m => exact .inl h
theorem run_eq (c : Nat) : ∀ l : List Nat, l = List.replicate (runL c l) c ++ l.drop (runL c l)
  | [] => rfl
  | x :: r => by
    by_cases h : x = c
    · have e : runL c (x :: r) = runL c r + 1 := by simp [runL, h]
      rw [e, List.replicate_succ, List.cons_append, List.drop_succ_cons, ← run_eq c r, h]
    · have e : runL c (x :: r) = 0 := by simp [runL, h]
      rw [e]
      rfl
theorem mark_eq (c : Nat) (l : List Nat) (h : l[runL c l]? = some 32) : l = List.replicate (runL c l) c ++ 32 :: l.drop (runL c l + 1) := by
  have e := run_eq c l
  have hd : l.drop (runL c l) = 32 :: l.drop (runL c l + 1) := by
    obtain ⟨hl, hx⟩ := List.getElem?_eq_some_iff.mp h
    rw [List.drop_eq_getElem_cons hl, hx]
  rw [hd] at e
  exact e
/-! ### values by terms -/
section
variable {T : Tbl} {io : Nat → Bool} {G : Gd} {a0 : Option (Dat × Bool)} {r0 : DS}
theorem ev_andB {a b : Ex} {p q : Bool} (h1 : evD T io G a (vals (a0 :: r0)) = .ok (.bl p)) (h2 : evD T io G b (vals (a0 :: r0)) = .ok (.bl q)) : evD T io G (.and a b) (vals (a0 :: r0)) = .ok (.bl (p && q)) := by
  rw [ev_and, h1, bind_ok, h2]
  cases p <;> rfl
theorem ev_andF {a b : Ex} (h1 : evD T io G a (vals (a0 :: r0)) = .ok (.bl false)) : evD T io G (.and a b) (vals (a0 :: r0)) = .ok (.bl false) := by
  rw [ev_and, h1, bind_ok]
  rfl
theorem ev_andT {a b : Ex} {d : Dat} (h1 : evD T io G a (vals (a0 :: r0)) = .ok (.bl true)) (h2 : evD T io G b (vals (a0 :: r0)) = .ok d) : evD T io G (.and a b) (vals (a0 :: r0)) = .ok d := by
  rw [ev_and, h1, bind_ok, h2]
  rfl
theorem ev_orB {a b : Ex} {p q : Bool} (h1 : evD T io G a (vals (a0 :: r0)) = .ok (.bl p)) (h2 : evD T io G b (vals (a0 :: r0)) = .ok (.bl q)) : evD T io G (.or a b) (vals (a0 :: r0)) = .ok (.bl (p || q)) := by
  rw [ev_or, h1, bind_ok, h2]
  cases p <;> rfl
theorem ev_orT {a b : Ex} (h1 : evD T io G a (vals (a0 :: r0)) = .ok (.bl true)) : evD T io G (.or a b) (vals (a0 :: r0)) = .ok (.bl true) := by
  rw [ev_or, h1, bind_ok]
  rfl
theorem ev_orF {a b : Ex} {d : Dat} (h1 : evD T io G a (vals (a0 :: r0)) = .ok (.bl false)) (h2 : evD T io G b (vals (a0 :: r0)) = .ok d) : evD T io G (.or a b) (vals (a0 :: r0)) = .ok d := by
  rw [ev_or, h1, bind_ok, h2]
  rfl
theorem ev_notB {a : Ex} {p : Bool} (h1 : evD T io G a (vals (a0 :: r0)) = .ok (.bl p)) : evD T io G (.not a) (vals (a0 :: r0)) = .ok (.bl (!p)) := by
  rw [ev_not, h1, bind_ok]
  rfl
theorem ev_cm {o : COp} {a b : Ex} {x y d : Dat} (h1 : evD T io G a (vals (a0 :: r0)) = .ok x) (h2 : evD T io G b (vals (a0 :: r0)) = .ok y) (h : cmpD o x y = .ok d) : evD T io G (.cmp o a b) (vals (a0 :: r0)) = .ok d := by
  rw [ev_cmp, h1, bind_ok, h2, bind_ok, h]
theorem ev_ie {a : Ex} {t : String} {x d : Dat} (h1 : evD T io G a (vals (a0 :: r0)) = .ok x) (h : isiR t x = .ok d) : evD T io G (.isi a t) (vals (a0 :: r0)) = .ok d := by
  rw [ev_isi, h1, bind_ok, h]
theorem ev_ln {a : Ex} {x d : Dat} (h1 : evD T io G a (vals (a0 :: r0)) = .ok x) (h : lenD x = .ok d) : evD T io G (.len a) (vals (a0 :: r0)) = .ok d := by
  rw [ev_len, h1, bind_ok, h]
theorem ev_cb (b : Bool) : evD T io G (.con (.bl b)) (vals (a0 :: r0)) = .ok (.bl b) := by
  rw [ev_con]
  rfl
theorem ev_cn : evD T io G (.con .non) (vals (a0 :: r0)) = .ok .non := by
  rw [ev_con]
  rfl
theorem ev_g {i : Nat} {d : Dat} (h : glbV T i = .ok d) : evD T io G (.glb i) (vals (a0 :: r0)) = .ok d := by
  rw [ev_glb, h]
theorem ev_f1 {f : Nat} {e : Ex} {x d : Dat} (hf : io f = false) (h : evD T io G e (vals (a0 :: r0)) = .ok x) (cs : G f [x] = .ok (d, [])) : evD T io G (.call f (.cons e .nil)) (vals (a0 :: r0)) = .ok d := by
  rw [ev_call _ _ _ hf, ea_cons, h, bind_ok, ea_nil, bind_ok, bind_ok, cs]
  rfl
theorem ev_f2 {f : Nat} {e e2 : Ex} {x y d : Dat} (hf : io f = false) (h : evD T io G e (vals (a0 :: r0)) = .ok x) (h2 : evD T io G e2 (vals (a0 :: r0)) = .ok y) (cs : G f [x, y] = .ok (d, [])) : evD T io G (.call f (.cons e (.cons e2 .nil))) (vals (a0 :: r0)) = .ok d := by
  rw [ev_call _ _ _ hf, ea_cons, h, bind_ok, ea_cons, h2, bind_ok, ea_nil, bind_ok, bind_ok, bind_ok, cs]
  rfl
theorem ev_f3 {f : Nat} {e e2 e3 : Ex} {x y z d : Dat} (hf : io f = false) (h : evD T io G e (vals (a0 :: r0)) = .ok x) (h2 : evD T io G e2 (vals (a0 :: r0)) = .ok y) (h3 : evD T io G e3 (vals (a0 :: r0)) = .ok z) (cs : G f [x, y, z] = .ok (d, [])) : evD T io G (.call f (.cons e (.cons e2 (.cons e3 .nil)))) (vals (a0 :: r0)) = .ok d := by
  rw [ev_call _ _ _ hf, ea_cons, h, bind_ok, ea_cons, h2, bind_ok, ea_cons, h3, bind_ok, ea_nil, bind_ok, bind_ok, bind_ok, bind_ok, cs]
  rfl
theorem ev_f4 {f : Nat} {e e2 e3 e4 : Ex} {x y z w d : Dat} (hf : io f = false) (h : evD T io G e (vals (a0 :: r0)) = .ok x) (h2 : evD T io G e2 (vals (a0 :: r0)) = .ok y) (h3 : evD T io G e3 (vals (a0 :: r0)) = .ok z) (h4 : evD T io G e4 (vals (a0 :: r0)) = .ok w) (cs : G f [x, y, z, w] = .ok (d, [])) : evD T io G (.call f (.cons e (.cons e2 (.cons e3 (.cons e4 .nil))))) (vals (a0 :: r0)) = .ok d := by
  rw [ev_call _ _ _ hf, ea_cons, h, bind_ok, ea_cons, h2, bind_ok, ea_cons, h3, bind_ok, ea_cons, h4, bind_ok, ea_nil, bind_ok, bind_ok, bind_ok, bind_ok, bind_ok, cs]
  rfl
end
theorem ix_at {ds : List Dat} {k : Nat} (h : k < ds.length) : idxD (.lst ds) (.int (k : Nat)) = .ok ds[k] := by
  rw [ix_lst, Fw.at_pos (by omega), show ((k : Nat) : Int).toNat = k by omega, List.getElem?_eq_getElem h]
  rfl
theorem sub_one (c : Nat) : ∀ S : List Nat, isSub [c] S = decide (c ∈ S)
  | [] => rfl
  | x :: r => by
    unfold isSub
    rw [sub_one c r]
    simp [preL]
    by_cases h : x = c
    · simp [h]
    · have : c ≠ x := fun e => h e.symm
      simp [h, this]
theorem noOpen_mem {w : List Nat} (h : noOpen w) : 91 ∉ w := by
  intro hm
  obtain ⟨i, hi, e⟩ := List.getElem_of_mem hm
  have := h i
  rw [List.drop_eq_getElem_cons hi, e] at this
  exact (openD_nil_iff _ _).mp this |>.1 rfl
theorem noOpen_sub {w : List Nat} {m : Nat} (hm : m = 42 ∨ m = 95 ∨ m = 126) (h : noOpen w) : isSub [m, 40] w = false := by
  induction w with
  | nil => rfl
  | cons x r ih =>
    have h0 := h 0
    rw [List.drop_zero, openD_nil_iff] at h0
    unfold isSub
    rw [ih fun k => h (k + 1)]
    cases r with
    | nil => simp [preL]
    | cons y r =>
      simp [preL]
      intro e e2
      exact h0.2 ⟨by rw [e]; exact hm, by simp [e2]⟩
end Fw

set_option maxHeartbeats 4000000
namespace Fw
open PySem PySem.Spec PyProof.Rows L2
/-! ### good parts are what their row is read to -/
theorem fw_upTo_hit (c : Nat) {s r : List Nat} (h : c ∉ s) : Fw.upTo c (s ++ c :: r) = (s, true) := by
  have e : idxC c (s ++ c :: r) = some s.length := by
    induction s with
    | nil =>
      show (if c = c then some 0 else _) = _
      rw [if_pos rfl]
      rfl
    | cons x s ih =>
      have hx : x ≠ c := fun e => h (by rw [e]; exact List.mem_cons_self ..)
      show (if x = c then some 0 else (idxC c (s ++ c :: r)).map (· + 1)) = _
      rw [if_neg hx, ih fun e => h (List.mem_cons_of_mem _ e)]
      rfl
  unfold Fw.upTo
  rw [e]
  simp
theorem fw_upTo_miss (c : Nat) {s : List Nat} (h : c ∉ s) : Fw.upTo c s = (s, false) := by
  have e : idxC c s = none := by
    induction s with
    | nil => rfl
    | cons x s ih =>
      have hx : x ≠ c := fun e => h (by rw [e]; exact List.mem_cons_self ..)
      show (if x = c then some 0 else (idxC c s).map (· + 1)) = _
      rw [if_neg hx, ih fun e => h (List.mem_cons_of_mem _ e)]
      rfl
  unfold Fw.upTo
  rw [e]
/-- a sign that is plain here -/
theorem step_plain {c : Nat} {r : List Nat} {m : List Nat} {ds : List Dat} {low : Pile} (h1 : c ≠ 92) (h2 : c ≠ 96) (h3 : low.length < 12 → openD (c :: r) = []) (h4 : m.length = 2 → c ≠ 41) (h5 : m = [91] → c ≠ 93) : stepP c r ((m, ds) :: low) = (r, (m, addP ds [c]) :: low) := by
  unfold stepP
  rw [if_neg h1, if_neg h2, if_neg (fun h => h.1 (h3 (by have := h.2; rw [List.length_cons] at this; omega))), if_neg (fun h => h4 h.2 h.1), if_neg (fun h => h5 h.2 h.1)]
  rfl
theorem openD_drop {w : List Nat} {c : Nat} {r rest : List Nat} (h : w = c :: r) (hn : noOpen w) (hb : openD (w.drop (w.length - 1) ++ rest.take 1) = []) : openD (c :: (r ++ rest)) = [] := by
  subst h
  rw [openD_nil_iff]
  have h0 := hn 0
  rw [List.drop_zero, openD_nil_iff] at h0
  refine ⟨h0.1, fun ⟨q1, q2⟩ => ?_⟩
  cases r with
  | nil =>
    have hb' : openD (c :: ([] ++ rest.take 1)) = [] := hb
    rw [openD_nil_iff] at hb'
    refine hb'.2 ⟨q1, ?_⟩
    cases rest with
    | nil => simp at q2
    | cons x rest => simpa using q2
  | cons y r =>
    exact h0.2 ⟨q1, by simpa using q2⟩
/-- a plain text is read on -/
theorem run_plain {m : List Nat} {low : Pile} : ∀ (w a rest : List Nat) (ds : List Dat), 92 ∉ w → 96 ∉ w → (low.length < 12 → noOpen w) → (low.length < 12 → w ≠ [] → openD (w.drop (w.length - 1) ++ rest.take 1) = []) → (m.length = 2 → 41 ∉ w) → (m = [91] → 93 ∉ w) → runQ (w ++ rest) ((m, ds ++ [.str a]) :: low) = runQ rest ((m, ds ++ [.str (a ++ w)]) :: low)
  | [], a, rest, ds, _, _, _, _, _, _ => by rw [List.append_nil, List.nil_append]
  | c :: w, a, rest, ds, h1, h2, h3, h4, h5, h6 => by
    rw [List.cons_append, runQ_cons, step_plain (fun e => h1 (by rw [e]; exact List.mem_cons_self ..)) (fun e => h2 (by rw [e]; exact List.mem_cons_self ..)) (fun hl => openD_drop rfl (h3 hl) (h4 hl (by simp))) (fun hm e => h5 hm (by rw [e]; exact List.mem_cons_self ..)) (fun hm e => h6 hm (by rw [e]; exact List.mem_cons_self ..))]
    have e : addP (ds ++ [.str a]) [c] = ds ++ [.str (a ++ [c])] := by simp [addP]
    rw [e]
    show runQ (w ++ rest) ((m, ds ++ [.str (a ++ [c])]) :: low) = _
    rw [run_plain w (a ++ [c]) rest ds (fun e => h1 (List.mem_cons_of_mem _ e)) (fun e => h2 (List.mem_cons_of_mem _ e)) (fun hl k => h3 hl (k + 1)) (fun hl hne => ?_) (fun hm e => h5 hm (List.mem_cons_of_mem _ e)) (fun hm e => h6 hm (List.mem_cons_of_mem _ e)), List.append_assoc]
    · rfl
    · have := h4 hl (by simp)
      cases w with
      | nil => exact absurd rfl hne
      | cons y w =>
        have e2 : (c :: y :: w).drop ((c :: y :: w).length - 1) = (y :: w).drop ((y :: w).length - 1) := by simp
        rw [e2] at this
        exact this
theorem run_text {m : List Nat} {low : Pile} {w rest : List Nat} {ds : List Dat} (h0 : w ≠ []) (h1 : 92 ∉ w) (h2 : 96 ∉ w) (h3 : low.length < 12 → noOpen w) (h4 : low.length < 12 → openD (w.drop (w.length - 1) ++ rest.take 1) = []) (h5 : m.length = 2 → 41 ∉ w) (h6 : m = [91] → 93 ∉ w) (hd : ∀ s, ds.getLast? ≠ some (.str s)) : runQ (w ++ rest) ((m, ds) :: low) = runQ rest ((m, ds ++ [.str w]) :: low) := by
  cases w with
  | nil => exact absurd rfl h0
  | cons c w =>
    rw [List.cons_append, runQ_cons, step_plain (fun e => h1 (by rw [e]; exact List.mem_cons_self ..)) (fun e => h2 (by rw [e]; exact List.mem_cons_self ..)) (fun hl => openD_drop rfl (h3 hl) (h4 hl)) (fun hm e => h5 hm (by rw [e]; exact List.mem_cons_self ..)) (fun hm e => h6 hm (by rw [e]; exact List.mem_cons_self ..))]
    have e : addP ds [c] = ds ++ [.str [c]] := by
      rcases addP_cases ds [c] with ⟨ds0, a, e, _⟩ | ⟨_, e⟩
      · exact absurd (by rw [e]; simp) (hd a)
      · exact e
    rw [e]
    show runQ (w ++ rest) ((m, ds ++ [.str [c]]) :: low) = _
    rw [run_plain w [c] rest ds (fun e => h1 (List.mem_cons_of_mem _ e)) (fun e => h2 (List.mem_cons_of_mem _ e)) (fun hl k => h3 hl (k + 1)) (fun hl hne => ?_) (fun hm e => h5 hm (List.mem_cons_of_mem _ e)) (fun hm e => h6 hm (List.mem_cons_of_mem _ e))]
    · rfl
    · have := h4 hl
      cases w with
      | nil => exact absurd rfl hne
      | cons y w =>
        have e2 : (c :: y :: w).drop ((c :: y :: w).length - 1) = (y :: w).drop ((y :: w).length - 1) := by simp
        rw [e2] at this
        exact this
theorem run_kept (m : List Nat) (low : Pile) (r : List Nat) (ds : List Dat) : runQ (92 :: r) ((m, ds) :: low) = runQ (r.drop 1) ((m, ds ++ [.tup [.str wKept, .str (r.take 1)]]) :: low) := by
  rw [runQ_cons]
  rfl
theorem run_code (m : List Nat) (low : Pile) (r : List Nat) (ds : List Dat) : runQ (96 :: r) ((m, ds) :: low) = runQ (r.drop ((Fw.upTo 96 r).1.length + (Fw.upTo 96 r).2.toNat)) ((m, ds ++ [.tup [.str wCode, .str (Fw.upTo 96 r).1, .bl (Fw.upTo 96 r).2]]) :: low) := by
  rw [runQ_cons]
  unfold stepP
  rw [if_neg (by decide), if_pos rfl]
  rfl
theorem run_codeT (m : List Nat) (low : Pile) (w r : List Nat) (ds : List Dat) (h : 96 ∉ w) : runQ (96 :: (w ++ 96 :: r)) ((m, ds) :: low) = runQ r ((m, ds ++ [.tup [.str wCode, .str w, .bl true]]) :: low) := by
  rw [run_code, fw_upTo_hit 96 h]
  show runQ ((w ++ 96 :: r).drop (w.length + 1)) _ = _
  rw [show (w ++ 96 :: r).drop (w.length + 1) = r by rw [List.drop_append]; simp]
theorem run_codeF (m : List Nat) (low : Pile) (w : List Nat) (ds : List Dat) (h : 96 ∉ w) : runQ (96 :: w) ((m, ds) :: low) = ((m, ds ++ [.tup [.str wCode, .str w, .bl false]]) :: low) := by
  rw [run_code, fw_upTo_miss 96 h]
  show runQ (w.drop (w.length + 0)) _ = _
  rw [show w.drop (w.length + 0) = [] by simp]
  rfl
/-- a mark opens -/
theorem run_open {m mk : List Nat} {low : Pile} {r : List Nat} {ds : List Dat} (hm : okM mk) (hl : low.length < 12) : runQ (mk ++ r) ((m, ds) :: low) = runQ r ((mk, []) :: (m, ds) :: low) := by
  have hle : ((m, ds) :: low).length ≤ 12 := by rw [List.length_cons]; omega
  rcases hm with rfl | ⟨a, ha, rfl⟩
  · show runQ (91 :: r) _ = _
    rw [runQ_cons]
    unfold stepP
    rw [if_neg (by decide), if_neg (by decide), if_pos ⟨by simp [openD], hle⟩]
    rfl
  · show runQ (a :: 40 :: r) _ = _
    have ho : openD (a :: 40 :: r) = [a, 40] := by
      rw [show openD (a :: 40 :: r) = if a = 91 then [91] else if (a = 42 ∨ a = 95 ∨ a = 126) ∧ (40 :: r).head? = some 40 then [a, 40] else [] from rfl, if_neg (by omega), if_pos ⟨ha, rfl⟩]
    rw [runQ_cons]
    unfold stepP
    rw [if_neg (by omega), if_neg (by omega), if_pos ⟨by rw [ho]; simp, hle⟩, ho]
    rfl
theorem openD_41 (c : Nat) : openD (c :: [41]) = [] ↔ c ≠ 91 := by
  rw [openD_nil_iff]
  simp
/-- a span closes -/
theorem run_span {a : Nat} {f : List Nat × List Dat} {low : Pile} {r : List Nat} {ds : List Dat} (ha : a = 42 ∨ a = 95 ∨ a = 126) : runQ (41 :: r) (([a, 40], ds) :: f :: low) = runQ r ((f.1, f.2 ++ [.tup [.str wSpan, .str [a], .lst ds, .bl true]]) :: low) := by
  rw [runQ_cons]
  unfold stepP
  have ho : openD (41 :: r) = [] := by
    rw [openD_nil_iff]
    simp
  rw [if_neg (by decide), if_neg (by decide), if_neg (fun h => h.1 ho), if_pos ⟨rfl, rfl⟩]
  show runQ r ((f.1, f.2 ++ [endPart [a, 40] ds .non true]) :: low) = _
  have : endPart [a, 40] ds .non true = .tup [.str wSpan, .str [a], .lst ds, .bl true] := by
    unfold endPart
    rw [if_neg (by simp)]
    rfl
  rw [this]
theorem run_linkN {f : List Nat × List Dat} {low : Pile} {r : List Nat} {ds : List Dat} (hr : r.head? ≠ some 40) : runQ (93 :: r) (([91], ds) :: f :: low) = runQ r ((f.1, f.2 ++ [.tup [.str wLink, .lst ds, .non, .bl true]]) :: low) := by
  rw [runQ_cons]
  unfold stepP
  have ho : openD (93 :: r) = [] := by
    rw [openD_nil_iff]
    simp
  rw [if_neg (by decide), if_neg (by decide), if_neg (fun h => h.1 ho), if_neg (by simp), if_pos ⟨rfl, rfl⟩, if_neg hr]
  rfl
theorem run_linkT {f : List Nat × List Dat} {low : Pile} {r : List Nat} {ds : List Dat} : runQ (93 :: 40 :: r) (([91], ds) :: f :: low) = runQ (r.drop ((Fw.upTo 41 r).1.length + (Fw.upTo 41 r).2.toNat)) ((f.1, f.2 ++ [.tup [.str wLink, .lst ds, .str (Fw.upTo 41 r).1, .bl (Fw.upTo 41 r).2]]) :: low) := by
  rw [runQ_cons]
  unfold stepP
  have ho : openD (93 :: 40 :: r) = [] := by
    rw [openD_nil_iff]
    simp
  rw [if_neg (by decide), if_neg (by decide), if_neg (fun h => h.1 ho), if_neg (by simp), if_pos ⟨rfl, rfl⟩, if_pos (show (40 :: r).head? = some 40 from rfl)]
  show runQ ((40 :: r).drop (1 + (Fw.upTo 41 r).1.length + (Fw.upTo 41 r).2.toNat)) _ = _
  rw [show 1 + (Fw.upTo 41 r).1.length + (Fw.upTo 41 r).2.toNat = ((Fw.upTo 41 r).1.length + (Fw.upTo 41 r).2.toNat) + 1 by omega, List.drop_succ_cons]
  rfl
theorem last_str {n : Nat} {m : List Nat} {l : Bool} {ds : List Dat} {t w : List Nat} (h : PLo n m l ds t) (e : ds.getLast? = some (.str w)) : w ≠ [] ∧ (n ≠ 0 → noOpen w) := by
  cases h with
  | nil => cases e
  | @snoc _ ds0 t0 tp p h hp =>
    rw [List.getLast?_concat] at e
    cases e
    have hF : Fl n m l ds0.getLast? (.str w) tp := by
      revert hp
      cases n with
      | zero => exact fun h => h
      | succ n =>
        intro h
        rcases h with h | h
        · exact h
        · cases h
    cases hF with
    | txt _ _ _ h0 h1 h2 h3 h4 h5 => exact ⟨h0, h5⟩
theorem open_last {w : List Nat} {x : Nat} {r : List Nat} (hw : w ≠ []) (h : noOpen w) (hx : x ≠ 40) : openD (w.drop (w.length - 1) ++ (x :: r).take 1) = [] := by
  have hd := h (w.length - 1)
  have hl : w.length - 1 < w.length := by
    have := List.length_pos_iff.mpr hw
    omega
  have e : w.drop (w.length - 1) = [w[w.length - 1]] := by
    rw [List.drop_eq_getElem_cons hl, List.drop_eq_nil_of_le (by omega)]
  rw [e] at hd ⊢
  show openD (w[w.length - 1] :: [x]) = []
  rw [openD_nil_iff] at hd ⊢
  refine ⟨hd.1, fun ⟨_, q⟩ => hx (by simpa using q)⟩
theorem open_last0 {w : List Nat} (h : noOpen w) : openD (w.drop (w.length - 1) ++ ([] : List Nat).take 1) = [] := by
  rw [List.take_nil, List.append_nil]
  exact h _
theorem bd_of {n : Nat} {m : List Nat} {l : Bool} {ds : List Dat} {t : List Nat} (h : PLo n m l ds t) {x : Nat} {r : List Nat} (hx : x ≠ 40) : Bd n ds (x :: r) := by
  refine ⟨fun w e hn => ?_, fun ps b e => by simpa using hx⟩
  obtain ⟨h1, h2⟩ := last_str h e
  exact open_last h1 (h2 hn) hx
theorem pok_head {n : Nat} {m : List Nat} {l : Bool} {a : Option Dat} {p : Dat} {t : List Nat} (h : POK n m l a p t) : (∃ w, p = .str w ∧ t = w ∧ (∀ s, a ≠ some (.str s)) ∧ w ≠ [] ∧ (w.head? = some 40 → ∀ ps b, a ≠ some (.tup [.str wLink, .lst ps, .non, .bl b]))) ∨ ∃ x r, t = x :: r ∧ x ≠ 40 := by
  have fl : ∀ {n : Nat}, Fl n m l a p t → (∃ w, p = .str w ∧ t = w ∧ (∀ s, a ≠ some (.str s)) ∧ w ≠ [] ∧ (w.head? = some 40 → ∀ ps b, a ≠ some (.tup [.str wLink, .lst ps, .non, .bl b]))) ∨ ∃ x r, t = x :: r ∧ x ≠ 40 := by
    intro n h
    cases h with
    | txt _ _ _ h0 h1 h2 h3 h4 h5 h6 h7 h8 => exact .inl ⟨_, rfl, rfl, h2, h0, h8⟩
    | kept k => exact .inr ⟨92, _, rfl, by decide⟩
    | code w b => exact .inr ⟨96, _, rfl, by decide⟩
  cases n with
  | zero => exact fl h
  | succ n =>
    rcases h with h | h
    · exact fl h
    · cases h with
      | span a b _ ds t hm => exact .inr ⟨a, _, rfl, by omega⟩
      | linkN => exact .inr ⟨91, _, rfl, by decide⟩
      | linkT => exact .inr ⟨91, _, rfl, by decide⟩
/-- what stands ahead of a part -/
theorem bd_pre {n : Nat} {m : List Nat} {l : Bool} {ds : List Dat} {t tp : List Nat} {p : Dat} (h : PLo n m false ds t) (hp : POK n m l ds.getLast? p tp) (rest : List Nat) : Bd n ds (tp ++ rest) := by
  rcases pok_head hp with ⟨w, rfl, rfl, h1, h2, h3⟩ | ⟨x, r, rfl, hx⟩
  · refine ⟨fun w' e => absurd e (h1 w'), fun ps b e => ?_⟩
    intro hh
    refine h3 ?_ ps b e
    cases tp with
    | nil => exact absurd rfl h2
    | cons c r => simpa using hh
  · exact bd_of h hx
def RB (n : Nat) : Prop := ∀ (m : List Nat) (ds : List Dat) (t : List Nat), PLo n m false ds t → ∀ (low : Pile) (rest : List Nat), n + low.length = 12 → Bd n ds rest → runQ (t ++ rest) ((m, []) :: low) = runQ rest ((m, ds) :: low)
theorem flat_back {n : Nat} {m : List Nat} {ds : List Dat} {tp : List Nat} {p : Dat} {low : Pile} {rest : List Nat} (hp : Fl n m false ds.getLast? p tp) (hn : n + low.length = 12) (hb : Bd n (ds ++ [p]) rest) : runQ (tp ++ rest) ((m, ds) :: low) = runQ rest ((m, ds ++ [p]) :: low) := by
  cases hp with
  | txt _ _ _ h0 h1 h2 h3 h4 h5 h6 h7 h8 => exact run_text h0 h3 h4 (fun hl => h5 (by omega)) (fun hl => hb.1 _ (by simp) (by omega)) h7 h6 h2
  | kept k _ _ h1 h2 h3 =>
    cases k with
    | nil => exact absurd (h3 rfl) (by decide)
    | cons c k =>
      have : k = [] := List.eq_nil_of_length_eq_zero (by rw [List.length_cons] at h2; omega)
      subst this
      exact run_kept m low (c :: rest) ds
  | code w b _ _ h1 h2 h3 =>
    cases b with
    | false => exact absurd (h3 rfl) (by decide)
    | true =>
      have := run_codeT m low w rest ds h2
      simpa using this
theorem rb_step (n : Nat) (ih : ∀ j, n = j + 1 → RB j) : RB n := by
  intro m ds t h
  generalize ho : false = o at h
  induction h with
  | nil l => exact fun low rest _ _ => rfl
  | @snoc l ds t tp p h hp ihl =>
    subst ho
    intro low rest hn hb
    rw [List.append_assoc, ihl rfl low (tp ++ rest) hn (bd_pre h hp rest)]
    cases n with
    | zero => exact flat_back hp hn hb
    | succ j =>
      rcases hp with hp | hp
      · exact flat_back hp hn hb
      have ih := ih j rfl
      have hl12 : low.length < 12 := by omega
      have hj : j + ((m, ds) :: low).length = 12 := by rw [List.length_cons]; omega
      cases hp with
      | span a b _ ds' t' hm hbb hq =>
        cases b with
        | false => exact absurd (hbb rfl) (by decide)
        | true =>
          have e : ([a, 40] ++ t' ++ (if true = true then [41] else [])) ++ rest = [a, 40] ++ (t' ++ (41 :: rest)) := by simp
          rw [e, run_open (.inr ⟨a, hm, rfl⟩) hl12, ih [a, 40] ds' t' hq ((m, ds) :: low) (41 :: rest) hj (bd_of hq (by decide)), run_span hm]
      | linkN b _ ds' t' hbb hq =>
        cases b with
        | false => exact absurd (hbb rfl) (by decide)
        | true =>
          have e : ([91] ++ t' ++ (if true = true then [93] else [])) ++ rest = [91] ++ (t' ++ (93 :: rest)) := by simp
          rw [e, run_open (.inl rfl) hl12, ih [91] ds' t' hq ((m, ds) :: low) (93 :: rest) hj (bd_of hq (by decide)), run_linkN (hb.2 ds' true (by simp))]
      | linkT tg b _ ds' t' hbb h1 h2 hq =>
        cases b with
        | false => exact absurd (hbb rfl) (by decide)
        | true =>
          have e : ([91] ++ t' ++ ([93, 40] ++ tg ++ (if true = true then [41] else []))) ++ rest = [91] ++ (t' ++ (93 :: 40 :: (tg ++ 41 :: rest))) := by simp
          rw [e, run_open (.inl rfl) hl12, ih [91] ds' t' hq ((m, ds) :: low) (93 :: 40 :: (tg ++ 41 :: rest)) hj (bd_of hq (by decide)), run_linkT, fw_upTo_hit 41 h2]
          show runQ ((tg ++ 41 :: rest).drop (tg.length + 1)) _ = _
          rw [show (tg ++ 41 :: rest).drop (tg.length + 1) = rest by rw [List.drop_append]; simp]
theorem rb_all : ∀ n, RB n
  | 0 => rb_step 0 fun j e => by cases e
  | n + 1 => rb_step (n + 1) fun j e => by
    cases e
    exact rb_all n
theorem flat_open {n : Nat} {m : List Nat} {l : Bool} {ds : List Dat} {tp : List Nat} {p : Dat} {low : Pile} (hp : Fl n m l ds.getLast? p tp) (hn : n + low.length = 12) : runQ tp ((m, ds) :: low) = (m, ds ++ [p]) :: low := by
  cases hp with
  | txt _ _ _ h0 h1 h2 h3 h4 h5 h6 h7 h8 =>
    have := run_text (rest := []) (ds := ds) (low := low) h0 h3 h4 (fun hl => h5 (by omega)) (fun hl => open_last0 (h5 (by omega))) h7 h6 h2
    rw [List.append_nil] at this
    exact this
  | kept k _ _ h1 h2 h3 =>
    cases k with
    | nil => exact run_kept m low [] ds
    | cons c k =>
      have : k = [] := List.eq_nil_of_length_eq_zero (by rw [List.length_cons] at h2; omega)
      subst this
      exact run_kept m low [c] ds
  | code w b _ _ h1 h2 h3 =>
    cases b with
    | false =>
      have := run_codeF m low w ds h2
      simpa using this
    | true =>
      have := run_codeT m low w [] ds h2
      rw [runQ_nil] at this
      simpa using this
def RO' (n : Nat) : Prop := ∀ (m : List Nat) (ds : List Dat) (t : List Nat), PLo n m true ds t → ∀ (low : Pile), n + low.length = 12 → closeP (runQ t ((m, []) :: low)) = closeP ((m, ds) :: low)
theorem ro_step (n : Nat) (ih : ∀ j, n = j + 1 → RO' j) : RO' n := by
  intro m ds t h low hn
  cases h with
  | nil => rfl
  | @snoc _ ds t tp p h hp =>
    rw [rb_all n m ds t h low tp hn (by have := bd_pre h hp []; rw [List.append_nil] at this; exact this)]
    cases n with
    | zero => rw [flat_open hp hn]
    | succ j =>
      rcases hp with hp | hp
      · rw [flat_open hp hn]
      have ih := ih j rfl
      have hl12 : low.length < 12 := by omega
      have hj : j + ((m, ds) :: low).length = 12 := by rw [List.length_cons]; omega
      cases hp with
      | span a b _ ds' t' hm hbb hq =>
        cases b with
        | false =>
          have e : ([a, 40] ++ t' ++ (if false = true then [41] else [])) = [a, 40] ++ t' := by simp
          rw [e, run_open (.inr ⟨a, hm, rfl⟩) hl12, ih [a, 40] ds' t' hq ((m, ds) :: low) hj, close_end]
          show closeP ((m, ds ++ [endPart [a, 40] ds' .non false]) :: low) = _
          have : endPart [a, 40] ds' .non false = .tup [.str wSpan, .str [a], .lst ds', .bl false] := by
            unfold endPart
            rw [if_neg (by simp)]
            rfl
          rw [this]
        | true =>
          have e : ([a, 40] ++ t' ++ (if true = true then [41] else [])) = [a, 40] ++ (t' ++ (41 :: [])) := by simp
          rw [e, run_open (.inr ⟨a, hm, rfl⟩) hl12, rb_all j [a, 40] ds' t' hq ((m, ds) :: low) (41 :: []) hj (bd_of hq (by decide)), run_span hm]
          rfl
      | linkN b _ ds' t' hbb hq =>
        cases b with
        | false =>
          have e : ([91] ++ t' ++ (if false = true then [93] else [])) = [91] ++ t' := by simp
          rw [e, run_open (.inl rfl) hl12, ih [91] ds' t' hq ((m, ds) :: low) hj, close_end]
          rfl
        | true =>
          have e : ([91] ++ t' ++ (if true = true then [93] else [])) = [91] ++ (t' ++ (93 :: [])) := by simp
          rw [e, run_open (.inl rfl) hl12, rb_all j [91] ds' t' hq ((m, ds) :: low) (93 :: []) hj (bd_of hq (by decide)), run_linkN (by simp)]
          rfl
      | linkT tg b _ ds' t' hbb h1 h2 hq =>
        cases b with
        | false =>
          have e : ([91] ++ t' ++ ([93, 40] ++ tg ++ (if false = true then [41] else []))) = [91] ++ (t' ++ (93 :: 40 :: tg)) := by simp
          rw [e, run_open (.inl rfl) hl12, rb_all j [91] ds' t' hq ((m, ds) :: low) (93 :: 40 :: tg) hj (bd_of hq (by decide)), run_linkT, fw_upTo_miss 41 h2]
          have e0 : tg.drop (tg.length + false.toNat) = [] := by simp
          show closeP (runQ (tg.drop (tg.length + false.toNat)) _) = _
          rw [e0]
          rfl
        | true =>
          have e : ([91] ++ t' ++ ([93, 40] ++ tg ++ (if true = true then [41] else []))) = [91] ++ (t' ++ (93 :: 40 :: (tg ++ 41 :: []))) := by simp
          rw [e, run_open (.inl rfl) hl12, rb_all j [91] ds' t' hq ((m, ds) :: low) (93 :: 40 :: (tg ++ 41 :: [])) hj (bd_of hq (by decide)), run_linkT, fw_upTo_hit 41 h2]
          have e0 : (tg ++ 41 :: []).drop (tg.length + true.toNat) = [] := by simp
          show closeP (runQ ((tg ++ 41 :: []).drop (tg.length + true.toNat)) _) = _
          rw [e0]
          rfl
theorem ro_all : ∀ n, RO' n
  | 0 => ro_step 0 fun j e => by cases e
  | n + 1 => ro_step (n + 1) fun j e => by
    cases e
    exact ro_all n
/-- THE LAW back: good parts are those of the row that they show -/
theorem parts_back {ds : List Dat} {t : List Nat} (h : PLo 12 [] true ds t) : partsP t = ds := by
  rw [partsP_eq, ro_all 12 [] ds t h [] rfl]
  rfl
end Fw

set_option maxHeartbeats 4000000
namespace Fw
open PySem PySem.Spec PyProof.Rows L2
/-! ### parts put together by a law: its defs, over plain data -/
def bJ0 (s : Nat) : Sms := (.cons (.asg 0 (.con (vS [32, 33, 34, 35, 36, 38, 39, 40, 41, 42, 43, 44, 45, 46, 47, 48, 49, 50, 51, 52, 53, 54, 55, 56, 57, 58, 59, 60, 61, 62, 63, 64, 65, 66, 67, 68, 69, 70, 71, 72, 73, 74, 75, 76, 77, 78, 79, 80, 81, 82, 83, 84, 85, 86, 87, 88, 89, 90, 91, 92, 93, 94, 95, 96]))) (.cons (.ret (.bin .add (.var 0) (.con (vS [97, 98, 99, 100, 101, 102, 103, 104, 105, 106, 107, 108, 109, 110, 111, 112, 113, 114, 115, 116, 117, 118, 119, 120, 121, 122, 123, 124, 125, 126])))) .nil))
def dJ0 (s : Nat) : FDef := ⟨("_law_signs" : Str), [("_law_some" : Str)], 0, bJ0 s⟩
def bJ3 (s : Nat) : Sms := (.cons (.asg 5 (.con (vS []))) (.cons (.for_ 6 (.rg (.var 1))
 (.cons (.asg 7 (.idx (.call (s + 0) .nil) (.bin .mod (.bin .add (.var 0) (.bin .mul (.var 6) (.bin .add (.con (.int 1)) (.bin .mod (.bin .fdiv (.var 0) (.con (.int 94))) (.con (.int 7)))))) (.con (.int 94))))) (.cons (.ite (.or (.cmp .isin (.var 7) (.con (vS [92, 96]))) (.or (.and (.cmp .eq (.var 2) (.con (vS [91]))) (.cmp .eq (.var 7) (.con (vS [93])))) (.and (.cmp .eq (.len (.var 2)) (.con (.int 2))) (.cmp .eq (.var 7) (.con (vS [41]))))))
 (.cons (.asg 7 (.con (vS [109]))) .nil)
 .nil) (.cons (.ite (.and (.cmp .lt (.var 3) (.con (.int 12))) (.or (.cmp .eq (.var 7) (.con (vS [91]))) (.and (.cmp .eq (.var 7) (.con (vS [40]))) (.cmp .isin (.slf (.var 5) (.neg (.con (.int 1)))) (.tup (.cons (.con (vS [42])) (.cons (.con (vS [95])) (.cons (.con (vS [126])) .nil))))))))
 (.cons (.asg 7 (.con (vS [110]))) .nil)
 .nil) (.cons (.ite (.and (.var 4) (.and (.cmp .eq (.var 6) (.con (.int 0))) (.cmp .eq (.var 7) (.con (vS [40])))))
 (.cons (.asg 7 (.con (vS [111]))) .nil)
 .nil) (.cons (.asg 5 (.bin .add (.var 5) (.var 7))) .nil)))))) (.cons (.ite (.and (.cmp .eq (.var 3) (.con (.int 12))) (.cmp .eq (.bin .mod (.var 0) (.con (.int 2))) (.con (.int 0))))
 (.cons (.asg 5 (.bin .add (.var 5) (.con (vS [42, 40, 91, 95, 40, 126, 40])))) .nil)
 .nil) (.cons (.ret (.var 5)) .nil))))
def dJ3 (s : Nat) : FDef := ⟨("_law_plain" : Str), [("_law_number" : Str), ("_law_size_here" : Str), ("_law_mark" : Str), ("_law_deep" : Str), ("_law_barred_here" : Str), ("_law_words_here" : Str), ("_law_k" : Str), ("_law_sign" : Str)], 5, bJ3 s⟩
def bJ4 (s : Nat) : Sms := .cons (.wrd (s + 0)) .nil
def dJ4 (s : Nat) : FDef := ⟨("_law_words" : Str), [("_law_number" : Str), ("_law_size_here" : Str), ("_law_left" : Str), ("_law_words_here" : Str), ("_law_k" : Str)], 3, bJ4 s⟩
def bJ5 (s : Nat) : Sms := (.cons (.ret (.and (.cmp .gt (.len (.var 0)) (.con (.int 0))) (.and (.cmp .eq (.idx (.idx (.var 0) (.neg (.con (.int 1)))) (.con (.int 0))) (.con (vS [108, 105, 110, 107]))) (.cmp .is_ (.idx (.idx (.var 0) (.neg (.con (.int 1)))) (.con (.int 2))) (.con .non))))) .nil)
def dJ5 (s : Nat) : FDef := ⟨("_law_barred" : Str), [("_law_parts_here" : Str)], 1, bJ5 s⟩
def bJ6 (s : Nat) : Sms := (.cons (.ite (.cmp .eq (.bin .mod (.var 0) (.con (.int 3))) (.con (.int 1)))
 (.cons (.ret (.bin .mod (.bin .fdiv (.var 0) (.con (.int 3))) (.con (.int 49)))) .nil)
 .nil) (.cons (.ret (.bin .mod (.bin .fdiv (.var 0) (.con (.int 3))) (.con (.int 7)))) .nil))
def dJ6 (s : Nat) : FDef := ⟨("_law_size" : Str), [("_law_number" : Str)], 1, bJ6 s⟩
def bJ7 (s : Nat) : Sms := (.cons (.asg 3 (.pop (.var 0))) (.cons (.asg 4 (.idx (.idx (.var 0) (.neg (.con (.int 1)))) (.con (.int 1)))) (.cons (.ite (.cmp .ne (.idx (.var 3) (.con (.int 0))) (.con (vS [91])))
 (.cons (.ex (.app (.var 4) (.tup (.cons (.con (vS [115, 112, 97, 110])) (.cons (.idx (.idx (.var 3) (.con (.int 0))) (.con (.int 0))) (.cons (.idx (.var 3) (.con (.int 1))) (.cons (.var 2) .nil))))))) .nil)
 (.cons (.ite (.and (.var 2) (.cmp .gt (.bin .mod (.var 1) (.con (.int 3))) (.con (.int 0))))
 (.cons (.ex (.app (.var 4) (.tup (.cons (.con (vS [108, 105, 110, 107])) (.cons (.idx (.var 3) (.con (.int 1))) (.cons (.call (s + 4) (.cons (.bin .fdiv (.var 1) (.con (.int 3))) (.cons (.call (s + 6) (.cons (.bin .fdiv (.var 1) (.con (.int 300))) .nil)) (.cons (.con (vS [41])) .nil)))) (.cons (.con (.bl true)) .nil))))))) .nil)
 (.cons (.ex (.app (.var 4) (.tup (.cons (.con (vS [108, 105, 110, 107])) (.cons (.idx (.var 3) (.con (.int 1))) (.cons (.con .non) (.cons (.var 2) .nil))))))) .nil)) .nil)) .nil)))
def dJ7 (s : Nat) : FDef := ⟨("_law_end" : Str), [("_law_pile" : Str), ("_law_number" : Str), ("_law_closed" : Str), ("_law_top" : Str), ("_law_parts_here" : Str)], 3, bJ7 s⟩
def bJ8 (s : Nat) : Sms := (.cons (.asg 2 (.bin .mod (.bin .mul (.var 1) (.con (.int 48271))) (.con (.int 2147483647)))) (.cons (.asg 3 (.bin .mod (.var 2) (.con (.int 9)))) (.cons (.asg 4 (.bin .fdiv (.var 2) (.con (.int 9)))) (.cons (.asg 5 (.bin .sub (.len (.var 0)) (.con (.int 1)))) (.cons (.asg 6 (.idx (.idx (.var 0) (.neg (.con (.int 1)))) (.con (.int 1)))) (.cons (.ite (.and (.cmp .lt (.var 3) (.con (.int 3))) (.not (.and (.cmp .gt (.len (.var 6)) (.con (.int 0))) (.isi (.idx (.var 6) (.neg (.con (.int 1)))) "str"))))
 (.cons (.asg 7 (.bin .add (.con (.int 1)) (.call (s + 6) (.cons (.bin .fdiv (.var 4) (.con (.int 700))) .nil)))) (.cons (.ex (.app (.var 6) (.call (s + 3) (.cons (.var 4) (.cons (.var 7) (.cons (.idx (.idx (.var 0) (.neg (.con (.int 1)))) (.con (.int 0))) (.cons (.var 5) (.cons (.call (s + 5) (.cons (.var 6) .nil)) .nil)))))))) .nil))
 (.cons (.ite (.cmp .eq (.var 3) (.con (.int 4)))
 (.cons (.ex (.app (.var 6) (.tup (.cons (.con (vS [99, 111, 100, 101])) (.cons (.call (s + 4) (.cons (.var 4) (.cons (.call (s + 6) (.cons (.bin .fdiv (.var 4) (.con (.int 500))) .nil)) (.cons (.con (vS [96])) .nil)))) (.cons (.con (.bl true)) .nil)))))) .nil)
 (.cons (.ite (.and (.cmp .eq (.var 3) (.con (.int 5))) (.cmp .lt (.var 5) (.con (.int 12))))
 (.cons (.ex (.app (.var 0) (.tup (.cons (.slt (.slf (.con (vS [42, 40, 95, 40, 126, 40])) (.bin .mul (.bin .mod (.var 4) (.con (.int 3))) (.con (.int 2)))) (.con (.int 2))) (.cons (.lst .nil) .nil))))) .nil)
 (.cons (.ite (.and (.or (.cmp .eq (.var 3) (.con (.int 6))) (.cmp .eq (.var 3) (.con (.int 7)))) (.cmp .lt (.var 5) (.con (.int 12))))
 (.cons (.ex (.app (.var 0) (.tup (.cons (.con (vS [91])) (.cons (.lst .nil) .nil))))) .nil)
 (.cons (.ite (.and (.cmp .eq (.var 3) (.con (.int 8))) (.cmp .gt (.var 5) (.con (.int 0))))
 (.cons (.ex (.call (s + 7) (.cons (.var 0) (.cons (.var 4) (.cons (.con (.bl true)) .nil))))) .nil)
 (.cons (.ex (.app (.var 6) (.tup (.cons (.con (vS [107, 101, 112, 116])) (.cons (.idx (.call (s + 0) .nil) (.bin .mod (.var 4) (.con (.int 94)))) .nil))))) .nil)) .nil)) .nil)) .nil)) .nil)) .nil))))))
def dJ8 (s : Nat) : FDef := ⟨("_law_put" : Str), [("_law_pile" : Str), ("_law_cell" : Str), ("_law_mixed" : Str), ("_law_step" : Str), ("_law_number" : Str), ("_law_deep" : Str), ("_law_parts_here" : Str), ("_law_size_here" : Str)], 2, bJ8 s⟩
def bJ9 (s : Nat) : Sms := (.cons (.ite (.cmp .gt (.var 1) (.con (.int 8)))
 (.cons (.ret (.lst (.cons (.con (vS [108, 97, 98, 101, 108])) .nil))) .nil)
 .nil) (.cons (.asg 2 (.lst (.cons (.lst (.cons (.con (vS [108, 97, 98, 101, 108])) .nil)) (.cons (.lst .nil) (.cons (.lst (.cons (.con (vS [97])) (.cons (.tup (.cons (.con (vS [107, 101, 112, 116])) (.cons (.con (vS [93])) .nil))) (.cons (.con (vS [98, 42])) .nil)))) (.cons (.lst (.cons (.tup (.cons (.con (vS [115, 112, 97, 110])) (.cons (.con (vS [95])) (.cons (.lst (.cons (.con (vS [99])) (.cons (.tup (.cons (.con (vS [99, 111, 100, 101])) (.cons (.con (vS [93])) (.cons (.con (.bl true)) .nil)))) .nil))) (.cons (.con (.bl true)) .nil))))) .nil)) .nil)))))) (.cons (.asg 2 (.bin .add (.var 2) (.lst (.cons (.lst (.cons (.con (vS [115, 101, 101, 32])) (.cons (.tup (.cons (.con (vS [108, 105, 110, 107])) (.cons (.lst (.cons (.con (vS [100])) .nil)) (.cons (.con (vS [101])) (.cons (.con (.bl true)) .nil))))) (.cons (.con (vS [40, 102])) .nil)))) (.cons (.lst (.cons (.tup (.cons (.con (vS [108, 105, 110, 107])) (.cons (.lst (.cons (.tup (.cons (.con (vS [115, 112, 97, 110])) (.cons (.con (vS [42])) (.cons (.lst (.cons (.con (vS [103])) .nil)) (.cons (.con (.bl true)) .nil))))) .nil)) (.cons (.con .non) (.cons (.con (.bl true)) .nil))))) .nil)) .nil))))) (.cons (.asg 2 (.bin .add (.var 2) (.lst (.cons (.lst (.cons (.tup (.cons (.con (vS [107, 101, 112, 116])) (.cons (.con (vS [120])) .nil))) (.cons (.tup (.cons (.con (vS [115, 112, 97, 110])) (.cons (.con (vS [126])) (.cons (.lst (.cons (.tup (.cons (.con (vS [108, 105, 110, 107])) (.cons (.lst (.cons (.con (vS [104])) .nil)) (.cons (.con (vS [105])) (.cons (.con (.bl true)) .nil))))) .nil)) (.cons (.con (.bl true)) .nil))))) (.cons (.con (vS [106])) .nil)))) .nil)))) (.cons (.ret (.idx (.bin .add (.var 2) (.lst (.cons (.lst (.cons (.tup (.cons (.con (vS [108, 105, 110, 107])) (.cons (.lst (.cons (.tup (.cons (.con (vS [108, 105, 110, 107])) (.cons (.lst (.cons (.con (vS [107])) .nil)) (.cons (.con (vS [108])) (.cons (.con (.bl true)) .nil))))) (.cons (.con (vS [109])) .nil))) (.cons (.con (vS [110])) (.cons (.con (.bl true)) .nil))))) .nil)) .nil))) (.bin .mod (.var 0) (.con (.int 8))))) .nil)))))
def dJ9 (s : Nat) : FDef := ⟨("_law_label" : Str), [("_law_number" : Str), ("_law_deep" : Str), ("_law_some" : Str)], 2, bJ9 s⟩
def bJ10 (s : Nat) : Sms := (.cons (.asg 2 (.lst (.cons (.tup (.cons (.con (vS [])) (.cons (.lst .nil) .nil))) .nil))) (.cons (.for_ 3 (.ls (.var 0))
 (.cons (.ex (.call (s + 8) (.cons (.var 2) (.cons (.var 3) .nil)))) .nil)) (.cons (.asg 4 (.cmp .gt (.bin .mod (.var 1) (.con (.int 7))) (.con (.int 2)))) (.cons (.asg 5 (.idx (.idx (.var 2) (.neg (.con (.int 1)))) (.con (.int 1)))) (.cons (.asg 6 (.call (s + 6) (.cons (.bin .fdiv (.var 1) (.con (.int 7))) .nil))) (.cons (.ite (.cmp .eq (.bin .mod (.var 1) (.con (.int 7))) (.con (.int 0)))
 (.cons (.ex (.app (.var 5) (.tup (.cons (.con (vS [107, 101, 112, 116])) (.cons (.con (vS [])) .nil))))) .nil)
 .nil) (.cons (.ite (.cmp .eq (.bin .mod (.var 1) (.con (.int 7))) (.con (.int 1)))
 (.cons (.ex (.app (.var 5) (.tup (.cons (.con (vS [99, 111, 100, 101])) (.cons (.call (s + 4) (.cons (.bin .fdiv (.var 1) (.con (.int 7))) (.cons (.var 6) (.cons (.con (vS [96])) .nil)))) (.cons (.con (.bl false)) .nil)))))) .nil)
 .nil) (.cons (.ite (.and (.cmp .eq (.bin .mod (.var 1) (.con (.int 7))) (.con (.int 2))) (.cmp .lt (.len (.var 2)) (.con (.int 13))))
 (.cons (.asg 7 (.call (s + 9) (.cons (.bin .fdiv (.var 1) (.con (.int 21))) (.cons (.len (.var 2)) .nil)))) (.cons (.ex (.app (.var 5) (.tup (.cons (.con (vS [108, 105, 110, 107])) (.cons (.var 7) (.cons (.call (s + 4) (.cons (.bin .fdiv (.var 1) (.con (.int 7))) (.cons (.var 6) (.cons (.con (vS [41])) .nil)))) (.cons (.con (.bl false)) .nil))))))) .nil))
 .nil) (.cons (.asg 1 (.bin .fdiv (.var 1) (.con (.int 7)))) (.cons (.whl (.cmp .gt (.len (.var 2)) (.con (.int 1)))
 (.cons (.ite (.cmp .eq (.bin .mod (.var 1) (.con (.int 4))) (.con (.int 0)))
 (.cons (.asg 4 (.con (.bl false))) .nil)
 .nil) (.cons (.ex (.call (s + 7) (.cons (.var 2) (.cons (.bin .fdiv (.var 1) (.con (.int 4))) (.cons (.var 4) .nil))))) (.cons (.asg 1 (.bin .fdiv (.var 1) (.con (.int 4)))) .nil)))) (.cons (.ret (.idx (.idx (.var 2) (.con (.int 0))) (.con (.int 1)))) .nil)))))))))))
def dJ10 (s : Nat) : FDef := ⟨("_law_parts" : Str), [("_law_cells" : Str), ("_law_last" : Str), ("_law_pile" : Str), ("_law_cell" : Str), ("_law_closing" : Str), ("_law_parts_here" : Str), ("_law_size_here" : Str), ("_law_label_here" : Str)], 2, bJ10 s⟩
structure BT (T : Tbl) (io : Nat → Bool) (s : Nat) : Prop where
  f0 : T.fns[s + 0]? = some (dJ0 s)
  f3 : T.fns[s + 3]? = some (dJ3 s)
  f4 : T.fns[s + 4]? = some (dJ4 s)
  f5 : T.fns[s + 5]? = some (dJ5 s)
  f6 : T.fns[s + 6]? = some (dJ6 s)
  f7 : T.fns[s + 7]? = some (dJ7 s)
  f8 : T.fns[s + 8]? = some (dJ8 s)
  f9 : T.fns[s + 9]? = some (dJ9 s)
  f10 : T.fns[s + 10]? = some (dJ10 s)
  i0 : io (s + 0) = false
  i3 : io (s + 3) = false
  i4 : io (s + 4) = false
  i5 : io (s + 5) = false
  i6 : io (s + 6) = false
  i7 : io (s + 7) = false
  i8 : io (s + 8) = false
  i9 : io (s + 9) = false
  i10 : io (s + 10) = false

theorem fw_repl1 (c d : Nat) : ∀ l : List Nat, StrLaws.replL [c] [d] l = l.map fun x => if x = c then d else x
  | [] => StrLaws.replL_nil
  | x :: r => by
    by_cases h : x = c
    · rw [StrLaws.replL_hit (by simp) (by simp [h])]
      show [d] ++ StrLaws.replL [c] [d] r = _
      rw [fw_repl1 c d r, List.map_cons, if_pos h]
      rfl
    · rw [StrLaws.replL_miss (by simp [h]), fw_repl1 c d r, List.map_cons, if_neg h]
def szD (x : Int) : Nat := if x % 3 = 1 then (x / 3 % 49).toNat else (x / 3 % 7).toNat
theorem szD_le (x : Int) : szD x ≤ 48 := by
  unfold szD
  split <;> omega
def sgI (i : Int) : Nat := SGNL.getD i.toNat 0
theorem sgI_mem {i : Int} (h : 0 ≤ i) (h2 : i < 94) : sgI i ∈ SGNL := by
  have hl : i.toNat < SGNL.length := by
    have : SGNL.length = 94 := rfl
    omega
  unfold sgI
  rw [List.getD_eq_getElem?_getD, List.getElem?_eq_getElem hl]
  exact List.getElem_mem hl
theorem sgI_ix {i : Int} (h : 0 ≤ i) (h2 : i < 94) : idxD (.str SGNL) (.int i) = .ok (.str [sgI i]) := by
  have hl : i.toNat < SGNL.length := by
    have : SGNL.length = 94 := rfl
    omega
  rw [Fw.ix_str _ _ (by decide), Fw.at_pos h, List.getElem?_eq_getElem hl]
  unfold sgI
  rw [List.getD_eq_getElem?_getD, List.getElem?_eq_getElem hl]
  rfl
def wdD (num : Int) (z c : Nat) : List Nat := StrLaws.replL [c] [120] (wList SGNL num z)
theorem wIx_mem (num k : Int) : SGNL.getD (wIx num k).toNat 0 ∈ SGNL := sgI_mem (i := wIx num k) (by unfold wIx; omega) (by unfold wIx; omega)
theorem wdD_len (num : Int) (z c : Nat) : (wdD num z c).length = z := by
  unfold wdD
  rw [fw_repl1, List.length_map, wList_len]
theorem wdD_sg (num : Int) (z c : Nat) : Sg (wdD num z c) := by
  intro x hx
  unfold wdD at hx
  rw [fw_repl1] at hx
  obtain ⟨y, hy, rfl⟩ := List.mem_map.mp hx
  split
  · decide
  · unfold wList at hy
    obtain ⟨k, _, rfl⟩ := List.mem_map.mp hy
    exact wIx_mem num k
theorem wdD_not (num : Int) (z c : Nat) (h : c ≠ 120) : c ∉ wdD num z c := by
  intro hx
  unfold wdD at hx
  rw [fw_repl1] at hx
  obtain ⟨y, _, e⟩ := List.mem_map.mp hx
  split at e
  · exact h e.symm
  · rename_i h2
    exact h2 e
theorem nt {b : Bool} (h : b = false) : ¬ (b = true) := by simp [h]
def lastMk (w : List Nat) : Bool := match w.getLast? with
  | some x => decide (x = 42 ∨ x = 95 ∨ x = 126)
  | none => false
/-- a plain text's next sign -/
def plS (num : Int) (mark : List Nat) (deep : Nat) (barred : Bool) (k : Nat) (w : List Nat) : Nat :=
  let c := sgI ((num + (k : Int) * (1 + num / 94 % 7)) % 94)
  let c1 := if (decide (c = 92 ∨ c = 96) || ((decide (mark = [91]) && decide (c = 93)) || (decide (mark.length = 2) && decide (c = 41)))) = true then 109 else c
  let c2 := if (decide (deep < 12) && (decide (c1 = 91) || (decide (c1 = 40) && lastMk w))) = true then 110 else c1
  if (barred && (decide (k = 0) && decide (c2 = 40))) = true then 111 else c2
def plF (num : Int) (mark : List Nat) (deep : Nat) (barred : Bool) : Nat → List Nat
  | 0 => []
  | k + 1 => plF num mark deep barred k ++ [plS num mark deep barred k (plF num mark deep barred k)]
def plE (num : Int) (deep : Nat) : List Nat := if (decide (deep = 12) && decide (num % 2 = 0)) = true then [42, 40, 91, 95, 40, 126, 40] else []
def plD (num : Int) (z : Nat) (mark : List Nat) (deep : Nat) (barred : Bool) : List Nat := plF num mark deep barred z ++ plE num deep
theorem plF_len (num : Int) (mark : List Nat) (deep : Nat) (barred : Bool) : ∀ k, (plF num mark deep barred k).length = k
  | 0 => rfl
  | k + 1 => by
    rw [plF, List.length_append, plF_len num mark deep barred k]
    rfl
/-- the last part is a link without target -/
def barX : Dat → Bool
  | .tup [.str k, _, .non, _] => decide (k = wLink)
  | _ => false
def barD (ds : List Dat) : Bool := match ds.getLast? with
  | some x => barX x
  | none => false
/-- a part's form -/
def PtF (d : Dat) : Prop := (∃ w, d = .str w) ∨ (∃ k, d = .tup [.str wKept, k]) ∨ (∃ a b, d = .tup [.str wCode, a, b]) ∨ (∃ a b c, d = .tup [.str wSpan, a, b, c]) ∨ (∃ a b, d = .tup [.str wLink, a, .non, b]) ∨ ∃ a t b, d = .tup [.str wLink, a, .str t, b]
theorem pok_form {n : Nat} {m : List Nat} {l : Bool} {a : Option Dat} {p : Dat} {t : List Nat} (h : POK n m l a p t) : PtF p := by
  have fl : ∀ {n : Nat}, Fl n m l a p t → PtF p := by
    intro n h
    cases h with
    | txt => exact .inl ⟨_, rfl⟩
    | kept => exact .inr (.inl ⟨_, rfl⟩)
    | code => exact .inr (.inr (.inl ⟨_, _, rfl⟩))
  cases n with
  | zero => exact fl h
  | succ n =>
    rcases h with h | h
    · exact fl h
    · cases h with
      | span m b _ ds t => exact .inr (.inr (.inr (.inl ⟨_, _, _, rfl⟩)))
      | linkN b _ ds t => exact .inr (.inr (.inr (.inr (.inl ⟨_, _, rfl⟩))))
      | linkT tg b _ ds t => exact .inr (.inr (.inr (.inr (.inr ⟨_, _, _, rfl⟩))))
theorem plo_last {n : Nat} {m : List Nat} {l : Bool} {ds : List Dat} {t : List Nat} (h : PLo n m l ds t) : ∀ d, ds.getLast? = some d → PtF d := by
  intro d e
  cases h with
  | nil => cases e
  | snoc h hp =>
    rw [List.getLast?_concat] at e
    cases e
    exact pok_form hp
/-! values of tests -/
theorem cq_s (a b : List Nat) : cmpD .eq (.str a) (.str b) = .ok (.bl (decide (a = b))) := by
  show eqD false (.str a) (.str b) = _
  rw [eqD_str, xf]
theorem cq_1 (a b : Nat) : cmpD .eq (.str [a]) (.str [b]) = .ok (.bl (decide (a = b))) := by
  rw [cq_s]
  simp
theorem cq_ns (a b : List Nat) : cmpD .ne (.str a) (.str b) = .ok (.bl (decide (a ≠ b))) := by
  show eqD true (.str a) (.str b) = _
  rw [eqD_str, xt]
  simp
theorem cq_i (a b : Int) : cmpD .eq (.int a) (.int b) = .ok (.bl (decide (a = b))) := by
  show eqD false (.int a) (.int b) = _
  rw [eqD_int, xf]
theorem cq_n (a b : Nat) : cmpD .eq (.int a) (.int b) = .ok (.bl (decide (a = b))) := by
  rw [cq_i]
  congr 2
  exact decide_eq_decide.mpr (by omega)
theorem cq_lt (a b : Int) : cmpD .lt (.int a) (.int b) = .ok (.bl (decide (a < b))) := rfl
theorem cq_ltn (a b : Nat) : cmpD .lt (.int a) (.int b) = .ok (.bl (decide (a < b))) := by
  rw [cq_lt]
  congr 2
  exact decide_eq_decide.mpr (by omega)
theorem cq_gt (a b : Int) : cmpD .gt (.int a) (.int b) = .ok (.bl (decide (b < a))) := rfl
theorem cq_gtn (a b : Nat) : cmpD .gt (.int a) (.int b) = .ok (.bl (decide (b < a))) := by
  rw [cq_gt]
  congr 2
  exact decide_eq_decide.mpr (by omega)
theorem len_s (a : List Nat) (h : a.length ≤ 16777216) : lenD (.str a) = .ok (.int (a.length : Nat)) := chk_leq h _
theorem len_lst (a : List Dat) : lenD (.lst a) = .ok (.int (a.length : Nat)) := rfl
section
variable {T : Tbl} {io : Nat → Bool} {s : Nat}
theorem ev_f0 {G : Gd} {a0 : Option (Dat × Bool)} {r0 : DS} {f : Nat} {d : Dat} (hf : io f = false) (cs : G f [] = .ok (d, [])) : evD T io G (.call f .nil) (vals (a0 :: r0)) = .ok d := by
  rw [ev_call _ _ _ hf, ea_nil, bind_ok, cs]
  rfl
theorem ev_f5 {G : Gd} {a0 : Option (Dat × Bool)} {r0 : DS} {f : Nat} {e e2 e3 e4 e5 : Ex} {x y z w v d : Dat} (hf : io f = false) (h : evD T io G e (vals (a0 :: r0)) = .ok x) (h2 : evD T io G e2 (vals (a0 :: r0)) = .ok y) (h3 : evD T io G e3 (vals (a0 :: r0)) = .ok z) (h4 : evD T io G e4 (vals (a0 :: r0)) = .ok w) (h5 : evD T io G e5 (vals (a0 :: r0)) = .ok v) (cs : G f [x, y, z, w, v] = .ok (d, [])) : evD T io G (.call f (.cons e (.cons e2 (.cons e3 (.cons e4 (.cons e5 .nil)))))) (vals (a0 :: r0)) = .ok d := by
  rw [ev_call _ _ _ hf, ea_cons, h, bind_ok, ea_cons, h2, bind_ok, ea_cons, h3, bind_ok, ea_cons, h4, bind_ok, ea_cons, h5, bind_ok, ea_nil, bind_ok, bind_ok, bind_ok, bind_ok, bind_ok, bind_ok, cs]
  rfl
theorem c_jsig (P : BT T io s) (n : Nat) : callD T io X0 1000 (n + 1) (s + 0) [] = .ok (.str SGNL, []) := by
  rw [call_at P.f0 P.i0 n _ rfl]
  show outD false (exDs T io (callD T io X0 1000 n) 1000 false (bJ0 s) [none]) = _
  have hs : Sat (exDs T io (callD T io X0 1000 n) 1000 false (bJ0 s) [none]) (fun _ => False) (fun _ => False) (fun d => d = .str SGNL) := by
    generalize callD T io X0 1000 n = G
    unfold bJ0
    refine sat_cons (sat_asgS _ (by simp) (ev_cs _) ?_)
    simp only [List.set_cons_zero]
    refine sat_cons (sat_ret _ (ev_b (ev_v rfl) (ev_cs _) (bd_cat _ _ (by decide))) ?_)
    rfl
  obtain ⟨d, e, rfl⟩ := (hs.mono (fun _ h => h.elim) (fun _ h => h) (fun _ h => h)).out
  exact e
theorem c_jsz (P : BT T io s) (n : Nat) (x : Int) : callD T io X0 1000 (n + 1) (s + 6) [.int x] = .ok (.int (szD x : Nat), []) := by
  rw [call_at P.f6 P.i6 n _ rfl]
  show outD false (exDs T io (callD T io X0 1000 n) 1000 false (bJ6 s) [some (.int x, false)]) = _
  have hs : Sat (exDs T io (callD T io X0 1000 n) 1000 false (bJ6 s) [some (.int x, false)]) (fun _ => False) (fun _ => False) (fun d => d = .int (szD x : Nat)) := by
    generalize callD T io X0 1000 n = G
    unfold bJ6
    refine sat_cons (sat_iteP (x % 3 = 1) (ev_cm (ev_b (ev_v rfl) (ev_ci 3) (bd_mod _ _ (by decide))) (ev_ci 1) (cq_i _ _)) (fun h => ?_) (fun h => sat_nil ?_))
    · refine sat_cons (sat_ret _ (ev_b (ev_b (ev_v rfl) (ev_ci 3) (bd_div _ _ (by decide) (by decide))) (ev_ci 49) (bd_mod _ _ (by decide))) ?_)
      unfold szD
      rw [if_pos h]
      congr 1
      omega
    · refine sat_cons (sat_ret _ (ev_b (ev_b (ev_v rfl) (ev_ci 3) (bd_div _ _ (by decide) (by decide))) (ev_ci 7) (bd_mod _ _ (by decide))) ?_)
      unfold szD
      rw [if_neg h]
      congr 1
      omega
  obtain ⟨d, e, rfl⟩ := (hs.mono (fun _ h => h.elim) (fun _ h => h) (fun _ h => h)).out
  exact e
theorem c_jwd (P : BT T io s) (n : Nat) (num : Int) (z c : Nat) (hz : z ≤ 1000) (hc : c ≠ 120) : callD T io X0 1000 (n + 2) (s + 4) [.int num, .int z, .str [c]] = .ok (.str (wdD num z c), []) := by
  rw [call_at P.f4 P.i4 (n + 1) _ rfl]
  show outD false (exDs T io (callD T io X0 1000 (n + 1)) 1000 false (bJ4 s) [some (.int num, false), some (.int z, false), some (.str [c], false), none, none]) = _
  have hs : Sat (exDs T io (callD T io X0 1000 (n + 1)) 1000 false (bJ4 s) [some (.int num, false), some (.int z, false), some (.str [c], false), none, none]) (fun _ => False) (fun _ => False) (fun d => d = .str (wdD num z c)) := by
    have cs := c_jsig P n
    generalize callD T io X0 1000 (n + 1) = G at *
    unfold bJ4
    refine sat_cons (zat_wrd P.i0 cs rfl rfl rfl (by omega) (by omega) (by simp) (by simp [hc]) rfl ?_)
    rw [Int.toNat_natCast]
    rfl
  obtain ⟨d, e, rfl⟩ := (hs.mono (fun _ h => h.elim) (fun _ h => h) (fun _ h => h)).out
  exact e
theorem last_tup (w : List Nat) : (inD false (.str (cutL w (some (-1)) none)) (.tup [.str [42], .str [95], .str [126]])) = .ok (.bl (lastMk w)) := by
  rw [cut_last, in_str_tup, show [Dat.str [42], .str [95], .str [126]].all flatD = true from rfl, chk_t rfl, xf]
  congr 2
  rcases List.eq_nil_or_concat w with rfl | ⟨w', x, rfl⟩
  · rfl
  · rw [List.concat_eq_append]
    unfold lastMk
    rw [List.getLast?_concat]
    have e : (w' ++ [x]).drop ((w' ++ [x]).length - 1) = [x] := by simp
    rw [e]
    simp [eqv]
    by_cases h1 : x = 42
    · subst h1
      rfl
    · by_cases h2 : x = 95
      · subst h2
        rfl
      · by_cases h3 : x = 126
        · subst h3
          rfl
        · simp [h1, h2, h3]
          omega
theorem c_jpl (P : BT T io s) (n : Nat) (num : Int) (z : Nat) (mark : List Nat) (deep : Nat) (barred : Bool) (hz : z ≤ 1000) (hm : mark.length ≤ 2) : callD T io X0 1000 (n + 2) (s + 3) [.int num, .int z, .str mark, .int deep, .bl barred] = .ok (.str (plD num z mark deep barred), []) := by
  rw [call_at P.f3 P.i3 (n + 1) _ rfl]
  show outD false (exDs T io (callD T io X0 1000 (n + 1)) 1000 false (bJ3 s) [some (.int num, false), some (.int z, false), some (.str mark, false), some (.int deep, false), some (.bl barred, false), none, none, none]) = _
  have hs : Sat (exDs T io (callD T io X0 1000 (n + 1)) 1000 false (bJ3 s) [some (.int num, false), some (.int z, false), some (.str mark, false), some (.int deep, false), some (.bl barred, false), none, none, none]) (fun _ => False) (fun _ => False) (fun d => d = .str (plD num z mark deep barred)) := by
    have cs := c_jsig P n
    generalize callD T io X0 1000 (n + 1) = G at *
    unfold bJ3
    refine sat_cons (sat_asgS [] (by simp) (ev_cs _) ?_)
    simp only [List.set_cons_succ, List.set_cons_zero]
    refine sat_cons (sat_forN (fun k : Nat => .int (k : Nat)) (fun k ρ => ∃ x6 x7, ρ = [some (.int num, false), some (.int z, false), some (.str mark, false), some (.int deep, false), some (.bl barred, false), some (.str (plF num mark deep barred k), false), x6, x7]) (List.range z) (by simp) ?_ ⟨none, none, rfl⟩ ?_ ?_)
    · rw [ei_rg, ev_v rfl, bind_ok]
      exact it_rgN z (by omega)
    · rintro k ρ hk ⟨x6, x7, rfl⟩
      simp only [List.set_cons_succ, List.set_cons_zero, List.getElem_range]
      rw [List.length_range] at hk
      have hwl := plF_len num mark deep barred k
      have hst : plF num mark deep barred (k + 1) = plF num mark deep barred k ++ [plS num mark deep barred k (plF num mark deep barred k)] := rfl
      rw [hst]
      generalize plF num mark deep barred k = w at *
      unfold plS
      simp only
      generalize hc : sgI ((num + (k : Int) * (1 + num / 94 % 7)) % 94) = c
      refine sat_cons (sat_asgS [c] (by simp) ?_ ?_)
      · rw [← hc]
        exact ev_i (ev_f0 P.i0 cs) (ev_b (ev_b (ev_v rfl) (ev_b (ev_v rfl) (ev_b (ev_ci 1) (ev_b (ev_b (ev_v rfl) (ev_ci 94) (bd_div _ _ (by decide) (by decide))) (ev_ci 7) (bd_mod _ _ (by decide))) (bd_add _ _)) (bd_mulN k _ (by omega))) (bd_add _ _)) (ev_ci 94) (bd_mod _ _ (by decide))) (sgI_ix (by omega) (by omega))
      simp only [List.set_cons_succ, List.set_cons_zero]
      have nxt : ∀ (c1 : Nat), Sat (exDs T io G 1000 false (.cons (.ite (.and (.cmp .lt (.var 3) (.con (.int 12))) (.or (.cmp .eq (.var 7) (.con (vS [91]))) (.and (.cmp .eq (.var 7) (.con (vS [40]))) (.cmp .isin (.slf (.var 5) (.neg (.con (.int 1)))) (.tup (.cons (.con (vS [42])) (.cons (.con (vS [95])) (.cons (.con (vS [126])) .nil))))))))
 (.cons (.asg 7 (.con (vS [110]))) .nil)
 .nil) (.cons (.ite (.and (.var 4) (.and (.cmp .eq (.var 6) (.con (.int 0))) (.cmp .eq (.var 7) (.con (vS [40])))))
 (.cons (.asg 7 (.con (vS [111]))) .nil)
 .nil) (.cons (.asg 5 (.bin .add (.var 5) (.var 7))) .nil))) [some (.int num, false), some (.int z, false), some (.str mark, false), some (.int deep, false), some (.bl barred, false), some (.str w, false), some (.int (k : Nat), false), some (.str [c1], false)])
          (fun ρ => ∃ x6 x7, ρ = [some (.int num, false), some (.int z, false), some (.str mark, false), some (.int deep, false), some (.bl barred, false), some (.str (w ++ [if (barred && (decide (k = 0) && decide ((if (decide (deep < 12) && (decide (c1 = 91) || (decide (c1 = 40) && lastMk w))) = true then 110 else c1) = 40))) = true then 111 else (if (decide (deep < 12) && (decide (c1 = 91) || (decide (c1 = 40) && lastMk w))) = true then 110 else c1)]), false), x6, x7])
          (fun ρ => ∃ x6 x7, ρ = [some (.int num, false), some (.int z, false), some (.str mark, false), some (.int deep, false), some (.bl barred, false), some (.str (w ++ [if (barred && (decide (k = 0) && decide ((if (decide (deep < 12) && (decide (c1 = 91) || (decide (c1 = 40) && lastMk w))) = true then 110 else c1) = 40))) = true then 111 else (if (decide (deep < 12) && (decide (c1 = 91) || (decide (c1 = 40) && lastMk w))) = true then 110 else c1)]), false), x6, x7]) (fun d => d = .str (plD num z mark deep barred)) := by
        intro c1
        have fin : ∀ (c2 : Nat), Sat (exDs T io G 1000 false (.cons (.ite (.and (.var 4) (.and (.cmp .eq (.var 6) (.con (.int 0))) (.cmp .eq (.var 7) (.con (vS [40])))))
 (.cons (.asg 7 (.con (vS [111]))) .nil)
 .nil) (.cons (.asg 5 (.bin .add (.var 5) (.var 7))) .nil)) [some (.int num, false), some (.int z, false), some (.str mark, false), some (.int deep, false), some (.bl barred, false), some (.str w, false), some (.int (k : Nat), false), some (.str [c2], false)])
          (fun ρ => ∃ x6 x7, ρ = [some (.int num, false), some (.int z, false), some (.str mark, false), some (.int deep, false), some (.bl barred, false), some (.str (w ++ [if (barred && (decide (k = 0) && decide (c2 = 40))) = true then 111 else c2]), false), x6, x7])
          (fun ρ => ∃ x6 x7, ρ = [some (.int num, false), some (.int z, false), some (.str mark, false), some (.int deep, false), some (.bl barred, false), some (.str (w ++ [if (barred && (decide (k = 0) && decide (c2 = 40))) = true then 111 else c2]), false), x6, x7]) (fun d => d = .str (plD num z mark deep barred)) := by
          intro c2
          have hev : evD T io G (.and (.var 4) (.and (.cmp .eq (.var 6) (.con (.int 0))) (.cmp .eq (.var 7) (.con (vS [40]))))) (vals [some (.int num, false), some (.int z, false), some (.str mark, false), some (.int deep, false), some (.bl barred, false), some (.str w, false), some (.int (k : Nat), false), some (.str [c2], false)]) = .ok (.bl (barred && (decide (k = 0) && decide (c2 = 40)))) :=
            ev_andB (ev_v rfl) (ev_andB (ev_cm (ev_v rfl) (ev_ci 0) (cq_n k 0)) (ev_cm (ev_v rfl) (ev_cs _) (cq_1 _ _)))
          refine sat_cons (sat_ite _ hev (fun h => ?_) (fun h => ?_))
          · rw [if_pos h]
            refine sat_cons (sat_asgS [111] (by simp) (ev_cs _) (sat_nil ?_))
            simp only [List.set_cons_succ, List.set_cons_zero]
            refine sat_cons (sat_asgS (w ++ [111]) (by simp) (ev_b (ev_v rfl) (ev_v rfl) (bd_cat _ _ (by simp; omega))) (sat_nil ?_))
            exact ⟨_, _, rfl⟩
          · rw [if_neg (nt h)]
            refine sat_nil (sat_cons (sat_asgS (w ++ [c2]) (by simp) (ev_b (ev_v rfl) (ev_v rfl) (bd_cat _ _ (by simp; omega))) (sat_nil ?_)))
            exact ⟨_, _, rfl⟩
        have hev : evD T io G (.and (.cmp .lt (.var 3) (.con (.int 12))) (.or (.cmp .eq (.var 7) (.con (vS [91]))) (.and (.cmp .eq (.var 7) (.con (vS [40]))) (.cmp .isin (.slf (.var 5) (.neg (.con (.int 1)))) (.tup (.cons (.con (vS [42])) (.cons (.con (vS [95])) (.cons (.con (vS [126])) .nil)))))))) (vals [some (.int num, false), some (.int z, false), some (.str mark, false), some (.int deep, false), some (.bl barred, false), some (.str w, false), some (.int (k : Nat), false), some (.str [c1], false)]) = .ok (.bl (decide (deep < 12) && (decide (c1 = 91) || (decide (c1 = 40) && lastMk w)))) := by
          refine ev_andB (ev_cm (ev_v rfl) (ev_ci 12) (cq_ltn deep 12)) (ev_orB (ev_cm (ev_v rfl) (ev_cs _) (cq_1 _ _)) (ev_andB (ev_cm (ev_v rfl) (ev_cs _) (cq_1 _ _)) (ev_cm (x := .str (cutL w (some (-1)) none)) (y := .tup [.str [42], .str [95], .str [126]]) ?_ ?_ (last_tup w))))
          · rw [ev_slf, ev_v rfl, bind_ok, ev_neg, ev_ci, bind_ok]
            exact slc_str _ _ _ (by omega)
          · rw [ev_tup, ea_cons, ev_cs, bind_ok, ea_cons, ev_cs, bind_ok, ea_cons, ev_cs, bind_ok, ea_nil]
            rfl
        refine sat_cons (sat_ite _ hev (fun h => ?_) (fun h => ?_))
        · rw [if_pos h]
          refine sat_cons (sat_asgS [110] (by simp) (ev_cs _) (sat_nil ?_))
          exact fin 110
        · rw [if_neg (nt h)]
          exact sat_nil (fin c1)
      have hin : cmpD .isin (.str [c]) (.str [92, 96]) = .ok (.bl (decide (c = 92 ∨ c = 96))) := by
        rw [cd_in, in_strE, xf, sub_one]
        congr 2
        simp
      have hev : evD T io G (.or (.cmp .isin (.var 7) (.con (vS [92, 96]))) (.or (.and (.cmp .eq (.var 2) (.con (vS [91]))) (.cmp .eq (.var 7) (.con (vS [93])))) (.and (.cmp .eq (.len (.var 2)) (.con (.int 2))) (.cmp .eq (.var 7) (.con (vS [41])))))) (vals [some (.int num, false), some (.int z, false), some (.str mark, false), some (.int deep, false), some (.bl barred, false), some (.str w, false), some (.int (k : Nat), false), some (.str [c], false)]) = .ok (.bl (decide (c = 92 ∨ c = 96) || ((decide (mark = [91]) && decide (c = 93)) || (decide (mark.length = 2) && decide (c = 41))))) :=
        ev_orB (ev_cm (ev_v rfl) (ev_cs _) hin) (ev_orB (ev_andB (ev_cm (ev_v rfl) (ev_cs _) (cq_s _ _)) (ev_cm (ev_v rfl) (ev_cs _) (cq_1 _ _))) (ev_andB (ev_cm (ev_ln (ev_v rfl) (len_s mark (by omega))) (ev_ci 2) (cq_n _ 2)) (ev_cm (ev_v rfl) (ev_cs _) (cq_1 _ _))))
      refine sat_cons (sat_ite _ hev (fun h => ?_) (fun h => ?_))
      · rw [if_pos h]
        refine sat_cons (sat_asgS [109] (by simp) (ev_cs _) (sat_nil ?_))
        exact nxt 109
      · rw [if_neg (nt h)]
        exact sat_nil (nxt c)
    · rintro ρ ⟨x6, x7, rfl⟩
      rw [List.length_range]
      unfold plD
      have hwl := plF_len num mark deep barred z
      generalize plF num mark deep barred z = w at *
      have hev : evD T io G (.and (.cmp .eq (.var 3) (.con (.int 12))) (.cmp .eq (.bin .mod (.var 0) (.con (.int 2))) (.con (.int 0)))) (vals [some (.int num, false), some (.int z, false), some (.str mark, false), some (.int deep, false), some (.bl barred, false), some (.str w, false), x6, x7]) = .ok (.bl (decide (deep = 12) && decide (num % 2 = 0))) :=
        ev_andB (ev_cm (ev_v rfl) (ev_ci 12) (cq_n deep 12)) (ev_cm (ev_b (ev_v rfl) (ev_ci 2) (bd_mod _ _ (by decide))) (ev_ci 0) (cq_i _ _))
      unfold plE
      refine sat_cons (sat_ite _ hev (fun h => ?_) (fun h => ?_))
      · rw [if_pos h]
        refine sat_cons (sat_asgS (w ++ [42, 40, 91, 95, 40, 126, 40]) (by simp) (ev_b (ev_v rfl) (ev_cs _) (bd_cat _ _ (by simp; omega))) (sat_nil ?_))
        exact sat_cons (sat_ret _ (ev_v rfl) rfl)
      · rw [if_neg (nt h)]
        exact sat_nil (sat_cons (sat_ret _ (ev_v rfl) (by rw [List.append_nil])))
  obtain ⟨d, e, rfl⟩ := (hs.mono (fun _ h => h.elim) (fun _ h => h) (fun _ h => h)).out
  exact e
theorem c_jba (P : BT T io s) (n : Nat) (ds : List Dat) (h : ∀ d, ds.getLast? = some d → PtF d ∧ ∀ w, d ≠ .str w) : callD T io X0 1000 (n + 1) (s + 5) [.lst ds] = .ok (.bl (barD ds), []) := by
  rw [call_at P.f5 P.i5 n _ rfl]
  show outD false (exDs T io (callD T io X0 1000 n) 1000 false (bJ5 s) [some (.lst ds, false)]) = _
  have hs : Sat (exDs T io (callD T io X0 1000 n) 1000 false (bJ5 s) [some (.lst ds, false)]) (fun _ => False) (fun _ => False) (fun d => d = .bl (barD ds)) := by
    generalize callD T io X0 1000 n = G
    unfold bJ5
    refine sat_cons (sat_ret _ ?_ rfl)
    rcases List.eq_nil_or_concat ds with rfl | ⟨ds', x, rfl⟩
    · refine ev_andF (ev_cm (ev_ln (ev_v rfl) (len_lst _)) (ev_ci 0) (cq_gtn _ 0)) |>.trans ?_
      rfl
    · rw [List.concat_eq_append] at *
      have hx : ∀ b : Bool, evD T io G (.and (.cmp .eq (.idx (.idx (.var 0) (.neg (.con (.int 1)))) (.con (.int 0))) (.con (vS [108, 105, 110, 107]))) (.cmp .is_ (.idx (.idx (.var 0) (.neg (.con (.int 1)))) (.con (.int 2))) (.con .non))) (vals [some (.lst (ds' ++ [x]), false)]) = .ok (.bl b) → evD T io G (.and (.cmp .gt (.len (.var 0)) (.con (.int 0))) (.and (.cmp .eq (.idx (.idx (.var 0) (.neg (.con (.int 1)))) (.con (.int 0))) (.con (vS [108, 105, 110, 107]))) (.cmp .is_ (.idx (.idx (.var 0) (.neg (.con (.int 1)))) (.con (.int 2))) (.con .non)))) (vals [some (.lst (ds' ++ [x]), false)]) = .ok (.bl b) := by
        intro b hb
        refine ev_andT ?_ hb
        refine (ev_cm (ev_ln (ev_v rfl) (len_lst _)) (ev_ci 0) (cq_gtn _ 0)).trans ?_
        simp
      have hl : evD T io G (.idx (.var 0) (.neg (.con (.int 1)))) (vals [some (.lst (ds' ++ [x]), false)]) = .ok x := by
        rw [ev_idx, ev_v rfl, bind_ok, ev_neg, ev_ci, bind_ok]
        show (idxD (.lst (ds' ++ [x])) (.int (-1))) = _
        rw [ix_lst, Fw.at_last]
        simp
      obtain ⟨hf, hns⟩ := h x (by simp)
      have hb : barD (ds' ++ [x]) = barX x := by
        unfold barD
        rw [List.getLast?_concat]
      refine hx _ ?_
      rw [hb]
      have t0 : ∀ k r, x = .tup (.str k :: r) → evD T io G (.cmp .eq (.idx (.idx (.var 0) (.neg (.con (.int 1)))) (.con (.int 0))) (.con (vS [108, 105, 110, 107]))) (vals [some (.lst (ds' ++ [x]), false)]) = .ok (.bl (decide (k = [108, 105, 110, 107]))) := by
        intro k r e
        refine ev_cm (ev_i hl (ev_ci 0) (z := .str k) ?_) (ev_cs _) (cq_s _ _)
        rw [e]
        simp
      rcases hf with ⟨w, rfl⟩ | ⟨k, rfl⟩ | ⟨a, b, rfl⟩ | ⟨a, b, c, rfl⟩ | ⟨a, b, rfl⟩ | ⟨a, t, b, rfl⟩
      · exact absurd rfl (hns w)
      · exact ev_andF (t0 _ _ rfl)
      · exact (ev_andF (t0 _ _ rfl)).trans (by cases b <;> rfl)
      · refine (ev_andF (t0 _ _ rfl)).trans ?_
        cases b <;> rfl
      · refine (ev_andT (t0 _ _ rfl) (ev_cm (ev_i hl (ev_ci 2) (z := .non) (by simp)) ev_cn rfl)).trans ?_
        rfl
      · refine (ev_andT (t0 _ _ rfl) (ev_cm (ev_i hl (ev_ci 2) (z := .str t) (by simp)) ev_cn rfl)).trans ?_
        rfl
  obtain ⟨d, e, rfl⟩ := (hs.mono (fun _ h => h.elim) (fun _ h => h) (fun _ h => h)).out
  exact e
end
end Fw

set_option maxHeartbeats 4000000
namespace Fw
open PySem PySem.Spec PyProof.Rows L2
/-! ### parts put together by a law: the pile -/
def tgJ (num : Int) (b : Bool) : Dat := if (b && decide (0 < num % 3)) = true then .str (wdD (num / 3) (szD (num / 300)) 41) else .non
def mxD (c : Int) : Int := c * 48271 % 2147483647
def opM (num : Int) : List Nat := (([42, 40, 95, 40, 126, 40] : List Nat).drop (num % 3 * 2).toNat).take 2
def isStrD : Dat → Bool
  | .str _ => true
  | _ => false
def lastS (ds : List Dat) : Bool := match ds.getLast? with
  | some x => isStrD x
  | none => false
def putJ (c : Int) (pl : Pile) : Pile := match pl with
  | [] => []
  | (m, ds) :: low =>
    if (decide (mxD c % 9 < 3) && !lastS ds) = true then (m, ds ++ [.str (plD (mxD c / 9) (1 + szD (mxD c / 9 / 700)) m low.length (barD ds))]) :: low
    else if mxD c % 9 = 4 then (m, ds ++ [.tup [.str wCode, .str (wdD (mxD c / 9) (szD (mxD c / 9 / 500)) 96), .bl true]]) :: low
    else if (decide (mxD c % 9 = 5) && decide (low.length < 12)) = true then (opM (mxD c / 9), []) :: (m, ds) :: low
    else if ((decide (mxD c % 9 = 6) || decide (mxD c % 9 = 7)) && decide (low.length < 12)) = true then ([91], []) :: (m, ds) :: low
    else if (decide (mxD c % 9 = 8) && decide (0 < low.length)) = true then endTop (tgJ (mxD c / 9) true) true ((m, ds) :: low)
    else (m, ds ++ [.tup [.str wKept, .str [sgI (mxD c / 9 % 94)]]]) :: low
section
variable {K : PySem.W.Frag} {T : Tbl} {cv : Nat → Value} {io : Nat → Bool} {s : Nat}
section
variable {G : Gd} {a0 : Option (Dat × Bool)} {r0 : DS}
theorem ev_tp {as : Exs} {ds : List Dat} (h : evA T io G as (vals (a0 :: r0)) = .ok ds) (hl : ds.length ≤ 16777216) : evD T io G (.tup as) (vals (a0 :: r0)) = .ok (.tup ds) := by
  rw [ev_tup, h, bind_ok]
  exact chk_leq hl _
theorem ea_c {e : Ex} {as : Exs} {d : Dat} {ds : List Dat} (h1 : evD T io G e (vals (a0 :: r0)) = .ok d) (h2 : evA T io G as (vals (a0 :: r0)) = .ok ds) : evA T io G (.cons e as) (vals (a0 :: r0)) = .ok (d :: ds) := by
  rw [ea_cons, h1, bind_ok, h2, bind_ok]
theorem ea_n : evA T io G .nil (vals (a0 :: r0)) = .ok [] := ea_nil ..
end
section
variable {n : Nat} {W : WX} {D : Ends} {σ : L2.St} {H H0 : Hp} {ρ : DS} {Z : Addr → Prop} {p : Addr} {f : Frm} {fs : List Frm}
/-- the top list gets a thing more -/
theorem s_pushE {i : Nat} {e : Ex} (io : Nat → Bool) (d : Dat) (zd : ZD Z H0) (L : PL K H0 H Z p (f :: fs)) (hi : σ[i]? = some (some (.ref f.l))) (E : EnvOk K (MZ Z p (f :: fs)) H (ment e) (vals ρ) σ) (h : evD T io (callD T io X0 1000 n) e (vals ρ) = .ok d) (b : f.ds.length < 16777216)
    (k : ∀ H' v, PL K H0 H' Z p (⟨f.t, f.l, f.m, f.ds ++ [d], f.vs ++ [v]⟩ :: fs) → D.nx σ H') : tS K T (wpF K T cv n) W cv (.ex (.app (.var i) e)) D σ H := by
  have mf : f ∈ f :: fs := List.mem_cons_self ..
  simp only [tS, tE]
  refine ⟨.ref f.l, hi, tyl (L.ll f mf), ?_⟩
  refine tE_of (io := io) d (L.mz zd) E h fun v H1 s1 rv => ?_
  have L1 := L.same s1
  exact ⟨f.l, f.vs, v, rfl, rfl, L1.ll f mf, by rw [repL_len (L1.rr f mf)]; exact b, k _ v (L1.set_top (repL_app (L1.rr f mf) (repL_cons rv repL_nil)))⟩
/-- a text more, made of what is in the pile -/
theorem s_pushS {i : Nat} {e : Ex} (io : Nat → Bool) (w : List Nat) (zd : ZD Z H0) (L : PL K H0 H Z p (f :: fs)) (hi : σ[i]? = some (some (.ref f.l))) (E : EnvOk K Z H (ment e) (vals ρ) σ) (h : evD T io (callD T io X0 1000 n) e (vals ρ) = .ok (.str w)) (b : f.ds.length < 16777216)
    (k : ∀ H' v, PL K H0 H' Z p (⟨f.t, f.l, f.m, f.ds ++ [.str w], f.vs ++ [v]⟩ :: fs) → D.nx σ H') : tS K T (wpF K T cv n) W cv (.ex (.app (.var i) e)) D σ H := by
  have mf : f ∈ f :: fs := List.mem_cons_self ..
  simp only [tS, tE]
  refine ⟨.ref f.l, hi, tyl (L.ll f mf), ?_⟩
  refine tE_of (io := io) (.str w) (L.z zd) E h fun v H1 s1 rv => ?_
  simp only [Rep] at rv
  subst rv
  have L1 := L.same s1
  exact ⟨f.l, f.vs, _, rfl, rfl, L1.ll f mf, by rw [repL_len (L1.rr f mf)]; exact b, k _ _ (L1.set_top (repL_app (L1.rr f mf) (repL_cons (rep_str _) repL_nil)))⟩
/-- a new level -/
theorem s_open {i : Nat} {e : Ex} (io : Nat → Bool) (m : List Nat) (zd : ZD Z H0) (L : PL K H0 H Z p fs) (hi : σ[i]? = some (some (.ref p))) (E : EnvOk K Z H (ment e) (vals ρ) σ) (h : evD T io (callD T io X0 1000 n) e (vals ρ) = .ok (.str m)) (b : fs.length < 16777216)
    (k : ∀ H' t l, PL K H0 H' Z p (⟨t, l, m, [], []⟩ :: fs) → D.nx σ H') : tS K T (wpF K T cv n) W cv (.ex (.app (.var i) (.tup (.cons e (.cons (.lst .nil) .nil))))) D σ H := by
  simp only [tS, tE, tA]
  refine ⟨.ref p, hi, tyl L.pp, ?_⟩
  refine tE_of (io := io) (.str m) (L.z zd) E h fun v H1 s1 rv => ?_
  simp only [Rep] at rv
  subst rv
  have L4 := L.same s1
  refine ⟨by simp [sizeLine], fun l hl => ⟨by simp [sizeLine], fun t ht => ?_⟩⟩
  have L5 := L4.push zd m hl ht
  have hp2 : upd (upd H1 l (.lst [])) t (.tup [vS m, .ref l]) p = some (.lst ((fs.map fun f => V.ref f.t).reverse)) := (L4.same (same_trans (same_new hl) (same_new ht (o := .tup [vS m, .ref l])))).pp
  exact ⟨p, _, _, rfl, rfl, hp2, by rw [List.length_reverse, List.length_map]; exact b, k _ _ _ L5⟩
/-- x = pile[-1][1] -/
theorem s_parts {i j : Nat} (L : PL K H0 H Z p (f :: fs)) (hi : σ[i]? = some (some (.ref p))) (k : D.nx (σ.set j (some (.ref f.l))) H) : tS K T (wpF K T cv n) W cv (.asg j (.idx (.idx (.var i) (.neg (.con (.int 1)))) (.con (.int 1)))) D σ H := by
  simp only [tS, tE]
  exact ⟨.ref p, hi, 1, rfl, r_top L (r_t1 (L.tt f (List.mem_cons_self ..)) k)⟩
end
theorem w_lend (P : BT T io s) (n : Nat) {H0 H : Hp} {Z : Addr → Prop} {p : Addr} {f f2 : Frm} {fs : List Frm} {num : Int} {b : Bool} {Q : VK} {E : XK} (zd : ZD Z H0) (L : PL K H0 H Z p (f :: f2 :: fs)) (hm : f.m = [91] ∨ ∃ a, f.m = [a, 40]) (b2 : f2.ds.length < 16777216)
    (q : ∀ H1 fs', PL K H0 H1 Z p fs' → absF fs' = endTop (tgJ num b) b (absF (f :: f2 :: fs)) → Q .non H1) : wpF K T cv (n + 3) (s + 7) [.ref p, .int num, .bl b] H Q E := by
  refine wp_at P.f7 rfl ?_
  show tSs K T (wpF K T cv (n + 2)) _ cv (bJ7 s) _ [some (.ref p), some (.int num), some (.bl b), none, none] H
  unfold bJ7
  refine s_seq ?_
  simp only [tS, tE]
  obtain ⟨L1, rl, rT, hT⟩ := L.pop zd
  refine ⟨_, rfl, tyl L.pp, p, _, _, rfl, rfl, L.pp, last_rev _ _ _, ?_⟩
  rw [pop_rev]
  generalize hH : upd H p (.lst (((f2 :: fs).map fun f => V.ref f.t).reverse)) = Ha at *
  show tSs K T (wpF K T cv (n + 2)) _ cv _ _ [some (.ref p), some (.int num), some (.bl b), some (.ref f.t), none] Ha
  refine s_seq (s_parts L1 rfl ?_)
  show tSs K T (wpF K T cv (n + 2)) _ cv _ _ [some (.ref p), some (.int num), some (.bl b), some (.ref f.t), some (.ref f2.l)] Ha
  have EV : ∀ {H' : Hp} {m : Nat → Bool}, Same Ha H' → EnvOk K (MZ Z p (f2 :: fs)) H' m (vals [none, some (.int num, false), some (.bl b, false), some (frD f, false), none]) [some (.ref p), some (.int num), some (.bl b), some (.ref f.t), some (.ref f2.l)] := fun s => env_n (env_c (rep_int _) (env_c (rep_bl _) (env_c (rep_mono (hide_same s) _ _ rT) (env_n env_nil))))
  have fin : ∀ {H'}, PL K H0 H' Z p (f2 :: fs) → ∀ (e : Ex) (d : Dat), (∀ {G : Gd}, G = callD T io X0 1000 (n + 2) → evD T io G e (vals [none, some (.int num, false), some (.bl b, false), some (frD f, false), none]) = .ok d) → EnvOk K (MZ Z p (f2 :: fs)) H' (ment e) (vals [none, some (.int num, false), some (.bl b, false), some (frD f, false), none]) [some (.ref p), some (.int num), some (.bl b), some (.ref f.t), some (.ref f2.l)] → d = endPart f.m f.ds (tgJ num b) b →
      tSs K T (wpF K T cv (n + 2)) (fun c x _ H => E c x H) cv (.cons (.ex (.app (.var 4) e)) .nil) { nx := fun _ H' => Q .non H', rt := Q } [some (.ref p), some (.int num), some (.bl b), some (.ref f.t), some (.ref f2.l)] H' := by
    intro H' L2 e d hev hE hd
    refine s_seq (s_pushE io d zd L2 rfl hE (hev rfl) b2 fun H3 v L3 => ?_)
    simp only [tSs, tNext]
    refine q H3 _ L3 ?_
    rw [hd]
    rfl
  have hx0 : ∀ {G : Gd}, evD T io G (.idx (.var 3) (.con (.int 0))) (vals [none, some (.int num, false), some (.bl b, false), some (frD f, false), none]) = .ok (.str f.m) := ev_i (ev_v rfl) (ev_ci 0) (by simp [frD])
  have hx1 : ∀ {G : Gd}, evD T io G (.idx (.var 3) (.con (.int 1))) (vals [none, some (.int num, false), some (.bl b, false), some (frD f, false), none]) = .ok (.lst f.ds) := ev_i (ev_v rfl) (ev_ci 1) (by simp [frD])
  have zm := L1.mz zd
  have cw := c_jwd P n (num / 3) (szD (num / 300)) 41 (by have := szD_le (num / 300); omega) (by decide)
  have cz := c_jsz P (n + 1) (num / 300)
  refine s_seq ?_
  rcases hm with hm | ⟨a, hm⟩
  · refine s_ifF (ρ := [none, some (.int num, false), some (.bl b, false), some (frD f, false), none]) (Z := MZ Z p (f2 :: fs)) io zm (EV fun _ _ h => h) ?_ fun H1 s1 => s_seq ?_
    · refine (ev_cm hx0 (ev_cs _) (cq_ns _ _)).trans ?_
      simp [hm]
    have hc : evD T io (callD T io X0 1000 (n + 2)) (.and (.var 2) (.cmp .gt (.bin .mod (.var 1) (.con (.int 3))) (.con (.int 0)))) (vals [none, some (.int num, false), some (.bl b, false), some (frD f, false), none]) = .ok (.bl (b && decide (0 < num % 3))) :=
      ev_andB (ev_v rfl) (ev_cm (ev_b (ev_v rfl) (ev_ci 3) (bd_mod _ _ (by decide))) (ev_ci 0) (cq_gt _ _))
    cases ht : (b && decide (0 < num % 3)) with
    | true =>
      rw [ht] at hc
      have hb : b = true := by
        rw [Bool.and_eq_true] at ht
        exact ht.1
      refine s_ifT (ρ := [none, some (.int num, false), some (.bl b, false), some (frD f, false), none]) (Z := MZ Z p (f2 :: fs)) io (zm.same s1) (EV s1) hc fun H2 s2 => ?_
      refine fin (L1.same (same_trans s1 s2)) _ (.tup [.str wLink, .lst f.ds, .str (wdD (num / 3) (szD (num / 300)) 41), .bl true]) ?_ (EV (same_trans s1 s2)) ?_
      · rintro G rfl
        exact ev_tp (ea_c (ev_cs _) (ea_c hx1 (ea_c (ev_f3 P.i4 (ev_b (ev_v rfl) (ev_ci 3) (bd_div _ _ (by decide) (by decide))) (ev_f1 P.i6 (ev_b (ev_v rfl) (ev_ci 300) (bd_div _ _ (by decide) (by decide))) cz) (ev_cs _) cw) (ea_c (ev_cb _) ea_n)))) (by simp)
      · unfold endPart tgJ
        rw [if_pos hm, if_pos ht, hb]
    | false =>
      rw [ht] at hc
      refine s_ifF (ρ := [none, some (.int num, false), some (.bl b, false), some (frD f, false), none]) (Z := MZ Z p (f2 :: fs)) io (zm.same s1) (EV s1) hc fun H2 s2 => ?_
      refine fin (L1.same (same_trans s1 s2)) _ (.tup [.str wLink, .lst f.ds, .non, .bl b]) ?_ (EV (same_trans s1 s2)) ?_
      · rintro G rfl
        exact ev_tp (ea_c (ev_cs _) (ea_c hx1 (ea_c ev_cn (ea_c (ev_v rfl) ea_n)))) (by simp)
      · unfold endPart tgJ
        rw [if_pos hm, if_neg (nt ht)]
  · refine s_ifT (ρ := [none, some (.int num, false), some (.bl b, false), some (frD f, false), none]) (Z := MZ Z p (f2 :: fs)) io zm (EV fun _ _ h => h) ?_ fun H1 s1 => ?_
    · refine (ev_cm hx0 (ev_cs _) (cq_ns _ _)).trans ?_
      simp [hm]
    refine fin (L1.same s1) _ (.tup [.str wSpan, .str [a], .lst f.ds, .bl b]) ?_ (EV s1) ?_
    · rintro G rfl
      refine ev_tp (ea_c (ev_cs _) (ea_c (ev_i hx0 (ev_ci 0) ?_) (ea_c hx1 (ea_c (ev_v rfl) ea_n)))) (by simp)
      rw [hm]
      simp
    · unfold endPart
      rw [if_neg (by rw [hm]; simp), hm]
      rfl
theorem lastS_ev {G : Gd} {a0 a1 a2 a3 a4 a5 a7 : Option (Dat × Bool)} (ds : List Dat) : evD T io G (.and (.cmp .gt (.len (.var 6)) (.con (.int 0))) (.isi (.idx (.var 6) (.neg (.con (.int 1)))) "str")) (vals [a0, a1, a2, a3, a4, a5, some (.lst ds, false), a7]) = .ok (.bl (lastS ds)) := by
  have h0 : evD T io G (.cmp .gt (.len (.var 6)) (.con (.int 0))) (vals [a0, a1, a2, a3, a4, a5, some (.lst ds, false), a7]) = .ok (.bl (decide (0 < ds.length))) := ev_cm (ev_ln (ev_v rfl) (len_lst _)) (ev_ci 0) (cq_gtn _ 0)
  rcases List.eq_nil_or_concat ds with rfl | ⟨ds', x, rfl⟩
  · exact ev_andF h0
  · rw [List.concat_eq_append] at *
    have hl : evD T io G (.idx (.var 6) (.neg (.con (.int 1)))) (vals [a0, a1, a2, a3, a4, a5, some (.lst (ds' ++ [x]), false), a7]) = .ok x := by
      rw [ev_idx, ev_v rfl, bind_ok, ev_neg, ev_ci, bind_ok]
      show (idxD (.lst (ds' ++ [x])) (.int (-1))) = _
      rw [ix_lst, Fw.at_last]
      simp
    rw [show decide (0 < (ds' ++ [x]).length) = true by simp] at h0
    refine ev_andT h0 (ev_ie hl ?_)
    unfold lastS
    rw [List.getLast?_concat]
    cases x <;> simp [isStrD]
theorem last_frD (f : Frm) (fs : List Frm) : idxD (.lst ((f :: fs).reverse.map frD)) (.int (-1)) = .ok (frD f) := by
  rw [ix_lst, Fw.at_last]
  simp
theorem w_lput (P : BT T io s) (n : Nat) {H0 H : Hp} {Z : Addr → Prop} {p : Addr} {f : Frm} {fs : List Frm} {c : Int} {Q : VK} {E : XK} (zd : ZD Z H0) (L : PL K H0 H Z p (f :: fs)) (hm : fs ≠ [] → f.m = [91] ∨ ∃ a, f.m = [a, 40]) (hm2 : f.m.length ≤ 2) (hl : fs.length ≤ 1000) (hb : ∀ g ∈ f :: fs, g.ds.length < 16777216) (hpt : ∀ d, f.ds.getLast? = some d → PtF d)
    (q : ∀ H1 fs', PL K H0 H1 Z p fs' → absF fs' = putJ c (absF (f :: fs)) → Q .non H1) : wpF K T cv (n + 4) (s + 8) [.ref p, .int c] H Q E := by
  refine wp_at P.f8 rfl ?_
  show tSs K T (wpF K T cv (n + 3)) _ cv (bJ8 s) _ [some (.ref p), some (.int c), none, none, none, none, none, none] H
  have mf : f ∈ f :: fs := List.mem_cons_self ..
  have cs := c_jsig P (n + 2)
  have cz : ∀ x, callD T io X0 1000 (n + 3) (s + 6) [.int x] = .ok (.int (szD x : Nat), []) := c_jsz P (n + 2)
  have cw : ∀ num z c, z ≤ 1000 → c ≠ 120 → callD T io X0 1000 (n + 3) (s + 4) [.int num, .int (z : Nat), .str [c]] = .ok (.str (wdD num z c), []) := c_jwd P (n + 1)
  have cp : ∀ num z mark deep barred, z ≤ 1000 → mark.length ≤ 2 → callD T io X0 1000 (n + 3) (s + 3) [.int num, .int (z : Nat), .str mark, .int (deep : Nat), .bl barred] = .ok (.str (plD num z mark deep barred), []) := c_jpl P (n + 1)
  have cb : ∀ ds : List Dat, (∀ d, ds.getLast? = some d → PtF d ∧ ∀ w, d ≠ .str w) → callD T io X0 1000 (n + 3) (s + 5) [.lst ds] = .ok (.bl (barD ds), []) := c_jba P (n + 2)
  unfold bJ8
  refine s_seq (s_asg (ρ := [none, some (.int c, false)]) (Z := Z) io (.int (mxD c)) (L.z zd) (env_n (env_c (rep_int _) env_nil)) (ev_b (ev_b (ev_v rfl) (ev_ci _) (bd_mul2 _ _ (by decide) (by decide))) (ev_ci _) (bd_mod _ _ (by decide))) fun v2 H2 s2 r2 => ?_)
  simp only [Rep] at r2
  subst r2
  unfold putJ at q
  generalize mxD c = x at *
  refine s_seq (s_asg (ρ := [none, none, some (.int x, false)]) (Z := Z) io (.int (x % 9)) ((L.z zd).same s2) (env_n (env_n (env_c (rep_int _) env_nil))) (ev_b (ev_v rfl) (ev_ci _) (bd_mod _ _ (by decide))) fun v3 H3 s3 r3 => ?_)
  simp only [Rep] at r3
  subst r3
  have s23 := same_trans s2 s3
  refine s_seq (s_asg (ρ := [none, none, some (.int x, false)]) (Z := Z) io (.int (x / 9)) ((L.z zd).same s23) (env_n (env_n (env_c (rep_int _) env_nil))) (ev_b (ev_v rfl) (ev_ci _) (bd_div _ _ (by decide) (by decide))) fun v4 H4 s4 r4 => ?_)
  simp only [Rep] at r4
  subst r4
  have s24 := same_trans s23 s4
  generalize hst : x % 9 = st at *
  generalize hnum : x / 9 = num at *
  clear hst hnum
  refine s_seq (s_asg (ρ := [some (.lst ((f :: fs).reverse.map frD), false)]) (Z := Z) io (.int (fs.length : Nat)) ((L.z zd).same s24) (env_c ((L.same s24).view zd) env_nil) ((ev_b (ev_ln (ev_v rfl) (len_lst _)) (ev_ci 1) (bd_sub _ _)).trans ?_) fun v5 H5 s5 r5 => ?_)
  · simp
  simp only [Rep] at r5
  subst r5
  have s25 := same_trans s24 s5
  have La := L.same s25
  refine s_seq (s_parts La rfl ?_)
  show tSs K T (wpF K T cv (n + 3)) _ cv _ _ [some (.ref p), some (.int c), some (.int x), some (.int st), some (.int num), some (.int (fs.length : Nat)), some (.ref f.l), none] H5
  clear s2 s3 s4 s5 s23 s24 s25 L
  have EV : ∀ {H' : Hp} {m : Nat → Bool} {x7 : Option V}, Same H5 H' → EnvOk K Z H' m (vals [some (.lst ((f :: fs).reverse.map frD), false), none, none, some (.int st, false), some (.int num, false), some (.int (fs.length : Nat), false), some (.lst f.ds, false), none]) [some (.ref p), some (.int c), some (.int x), some (.int st), some (.int num), some (.int (fs.length : Nat)), some (.ref f.l), x7] := fun s =>
    env_c ((La.same s).view zd) (env_n (env_n (env_c (rep_int _) (env_c (rep_int _) (env_c (rep_int _) (env_c ((La.same s).lst zd mf) (env_n env_nil)))))))
  have EM : ∀ {H' : Hp} {m : Nat → Bool} {x7 : Option V}, EnvOk K (MZ Z p (f :: fs)) H' m (vals [none, none, none, some (.int st, false), some (.int num, false), some (.int (fs.length : Nat), false), none, none]) [some (.ref p), some (.int c), some (.int x), some (.int st), some (.int num), some (.int (fs.length : Nat)), some (.ref f.l), x7] :=
    env_n (env_n (env_n (env_c (rep_int _) (env_c (rep_int _) (env_c (rep_int _) (env_n (env_n env_nil)))))))
  have z5 := La.z zd
  have bf := hb f mf
  have v3e : ∀ {G : Gd} {a0 a6 a7 : Option (Dat × Bool)}, evD T io G (.var 3) (vals [a0, none, none, some (.int st, false), some (.int num, false), some (.int (fs.length : Nat), false), a6, a7]) = .ok (.int st) := ev_v rfl
  have v4e : ∀ {G : Gd} {a0 a6 a7 : Option (Dat × Bool)}, evD T io G (.var 4) (vals [a0, none, none, some (.int st, false), some (.int num, false), some (.int (fs.length : Nat), false), a6, a7]) = .ok (.int num) := ev_v rfl
  have v5e : ∀ {G : Gd} {a0 a6 a7 : Option (Dat × Bool)}, evD T io G (.var 5) (vals [a0, none, none, some (.int st, false), some (.int num, false), some (.int (fs.length : Nat), false), a6, a7]) = .ok (.int (fs.length : Nat)) := ev_v rfl
  refine s_seq ?_
  have c1 : evD T io (callD T io X0 1000 (n + 3)) (.and (.cmp .lt (.var 3) (.con (.int 3))) (.not (.and (.cmp .gt (.len (.var 6)) (.con (.int 0))) (.isi (.idx (.var 6) (.neg (.con (.int 1)))) "str")))) (vals [some (.lst ((f :: fs).reverse.map frD), false), none, none, some (.int st, false), some (.int num, false), some (.int (fs.length : Nat), false), some (.lst f.ds, false), none]) = .ok (.bl (decide (st < 3) && !lastS f.ds)) :=
    ev_andB (ev_cm v3e (ev_ci 3) (cq_lt _ _)) (ev_notB (lastS_ev _))
  cases h1 : (decide (st < 3) && !lastS f.ds) with
  | true =>
    rw [h1] at c1
    refine s_ifT (Z := Z) io z5 (EV fun _ _ h => h) c1 fun H6 s6 => s_seq ?_
    have hz := szD_le (num / 700)
    refine s_asg (ρ := [none, none, none, some (.int st, false), some (.int num, false), some (.int (fs.length : Nat), false), none, none]) (Z := MZ Z p (f :: fs)) io (.int ((1 + szD (num / 700) : Nat) : Int)) ((La.same s6).mz zd) EM ((ev_b (ev_ci 1) (ev_f1 P.i6 (ev_b v4e (ev_ci 700) (bd_div _ _ (by decide) (by decide))) (cz _)) (bd_add _ _)).trans ?_) fun v7 H7 s7 r7 => ?_
    · congr 1
    simp only [Rep] at r7
    subst r7
    have s67 := same_trans s6 s7
    show tSs K T (wpF K T cv (n + 3)) _ cv _ _ [some (.ref p), some (.int c), some (.int x), some (.int st), some (.int num), some (.int (fs.length : Nat)), some (.ref f.l), some (.int ((1 + szD (num / 700) : Nat) : Int))] H7
    have hns : ∀ d, f.ds.getLast? = some d → PtF d ∧ ∀ w, d ≠ .str w := by
      intro d hd
      refine ⟨hpt d hd, fun w e => ?_⟩
      have : lastS f.ds = true := by
        unfold lastS
        rw [hd, e]
        rfl
      rw [this] at h1
      simp at h1
    refine s_seq (s_pushS (ρ := [some (.lst ((f :: fs).reverse.map frD), false), none, none, some (.int st, false), some (.int num, false), some (.int (fs.length : Nat), false), some (.lst f.ds, false), some (.int ((1 + szD (num / 700) : Nat) : Int), false)]) io (plD num (1 + szD (num / 700)) f.m fs.length (barD f.ds)) zd (La.same s67) rfl ?_ ?_ bf fun H8 v8 L8 => ?_)
    · exact env_c ((La.same s67).view zd) (env_n (env_n (env_c (rep_int _) (env_c (rep_int _) (env_c (rep_int _) (env_c ((La.same s67).lst zd mf) (env_c (rep_int _) env_nil)))))))
    · refine ev_f5 P.i3 v4e (ev_v rfl) (ev_i (ev_i (ev_v rfl) (y := .int (-1)) ?_ (last_frD f fs)) (ev_ci 0) (z := .str f.m) ?_) v5e (ev_f1 P.i5 (ev_v rfl) (cb _ hns)) (cp _ _ _ _ _ (by omega) hm2)
      · rw [ev_neg, ev_ci, bind_ok]
        rfl
      · simp [frD]
    simp only [tSs, tNext]
    refine q H8 _ L8 ?_
    show _ = (if (decide (st < 3) && !lastS f.ds) = true then _ else _)
    rw [if_pos h1]
    show ((f.m, f.ds ++ _) :: absF fs) = _
    rw [show (absF fs).length = fs.length from List.length_map ..]
  | false =>
  rw [h1] at c1
  refine s_ifF (Z := Z) io z5 (EV fun _ _ h => h) c1 fun H6 s6 => s_seq ?_
  have q1 : ∀ H1 fs', PL K H0 H1 Z p fs' → absF fs' = (if st = 4 then (f.m, f.ds ++ [.tup [.str wCode, .str (wdD num (szD (num / 500)) 96), .bl true]]) :: absF fs
    else if (decide (st = 5) && decide (fs.length < 12)) = true then (opM num, []) :: (f.m, f.ds) :: absF fs
    else if ((decide (st = 6) || decide (st = 7)) && decide (fs.length < 12)) = true then ([91], []) :: (f.m, f.ds) :: absF fs
    else if (decide (st = 8) && decide (0 < fs.length)) = true then endTop (tgJ num true) true ((f.m, f.ds) :: absF fs)
    else (f.m, f.ds ++ [.tup [.str wKept, .str [sgI (num % 94)]]]) :: absF fs) → Q .non H1 := by
    intro H1 fs' L' e
    refine q H1 fs' L' ?_
    show _ = (if (decide (st < 3) && !lastS f.ds) = true then _ else _)
    rw [if_neg (nt h1), e, show (absF fs).length = fs.length from List.length_map ..]
  clear q c1
  by_cases h2 : st = 4
  · rw [if_pos h2] at q1
    have hz := szD_le (num / 500)
    refine s_ifT (Z := Z) io (z5.same s6) (EV s6) ((ev_cm v3e (ev_ci 4) (cq_i _ _)).trans (by rw [decide_eq_true h2])) fun H7 s7 => s_seq ?_
    refine s_pushE io (.tup [.str wCode, .str (wdD num (szD (num / 500)) 96), .bl true]) zd (La.same (same_trans s6 s7)) rfl EM ?_ bf fun H8 v8 L8 => ?_
    · exact ev_tp (ea_c (ev_cs _) (ea_c (ev_f3 P.i4 v4e (ev_f1 P.i6 (ev_b v4e (ev_ci 500) (bd_div _ _ (by decide) (by decide))) (cz _)) (ev_cs _) (cw _ _ _ (by omega) (by decide))) (ea_c (ev_cb _) ea_n))) (by simp)
    simp only [tSs, tNext]
    exact q1 H8 _ L8 rfl
  rw [if_neg h2] at q1
  refine s_ifF (Z := Z) io (z5.same s6) (EV s6) ((ev_cm v3e (ev_ci 4) (cq_i _ _)).trans (by rw [decide_eq_false h2])) fun H7 s7 => s_seq ?_
  have s57 := same_trans s6 s7
  have c3 : evD T io (callD T io X0 1000 (n + 3)) (.and (.cmp .eq (.var 3) (.con (.int 5))) (.cmp .lt (.var 5) (.con (.int 12)))) (vals [some (.lst ((f :: fs).reverse.map frD), false), none, none, some (.int st, false), some (.int num, false), some (.int (fs.length : Nat), false), some (.lst f.ds, false), none]) = .ok (.bl (decide (st = 5) && decide (fs.length < 12))) :=
    ev_andB (ev_cm v3e (ev_ci 5) (cq_i _ _)) (ev_cm v5e (ev_ci 12) (cq_ltn _ 12))
  cases h3 : (decide (st = 5) && decide (fs.length < 12)) with
  | true =>
    rw [h3] at c3
    rw [if_pos h3] at q1
    refine s_ifT (Z := Z) io (z5.same s57) (EV s57) c3 fun H8 s8 => s_seq ?_
    refine s_open (ρ := [none, none, none, some (.int st, false), some (.int num, false), some (.int (fs.length : Nat), false), none, none]) io (opM num) zd (La.same (same_trans s57 s8)) rfl (env_n (env_n (env_n (env_c (rep_int _) (env_c (rep_int _) (env_c (rep_int _) (env_n (env_n env_nil)))))))) ?_ (by simp; omega) fun H9 t l L9 => ?_
    · have e1 : evD T io (callD T io X0 1000 (n + 3)) (.bin .mul (.bin .mod (.var 4) (.con (.int 3))) (.con (.int 2))) (vals [none, none, none, some (.int st, false), some (.int num, false), some (.int (fs.length : Nat), false), none, none]) = .ok (.int (num % 3 * 2)) := ev_b (ev_b v4e (ev_ci 3) (bd_mod _ _ (by decide))) (ev_ci 2) (bd_mul2 _ _ (by decide) (by decide))
      rw [ev_slt, ev_slf, ev_cs, bind_ok, e1, bind_ok]
      show ((slD (some (num % 3 * 2)) none (.str [42, 40, 95, 40, 126, 40])).bind _) = _
      rw [slc_str _ _ _ (by decide), bind_ok, ev_ci, bind_ok]
      show slD none (some 2) (.str (cutL [42, 40, 95, 40, 126, 40] (some (num % 3 * 2)) none)) = _
      rw [cut_drop (by omega), slc_str _ _ _ (by simp; omega), cut_take (by decide)]
      rfl
    simp only [tSs, tNext]
    exact q1 H9 _ L9 rfl
  | false =>
  rw [h3] at c3
  rw [if_neg (nt h3)] at q1
  refine s_ifF (Z := Z) io (z5.same s57) (EV s57) c3 fun H8 s8 => s_seq ?_
  have s58 := same_trans s57 s8
  have c4 : evD T io (callD T io X0 1000 (n + 3)) (.and (.or (.cmp .eq (.var 3) (.con (.int 6))) (.cmp .eq (.var 3) (.con (.int 7)))) (.cmp .lt (.var 5) (.con (.int 12)))) (vals [some (.lst ((f :: fs).reverse.map frD), false), none, none, some (.int st, false), some (.int num, false), some (.int (fs.length : Nat), false), some (.lst f.ds, false), none]) = .ok (.bl ((decide (st = 6) || decide (st = 7)) && decide (fs.length < 12))) :=
    ev_andB (ev_orB (ev_cm v3e (ev_ci 6) (cq_i _ _)) (ev_cm v3e (ev_ci 7) (cq_i _ _))) (ev_cm v5e (ev_ci 12) (cq_ltn _ 12))
  cases h4 : ((decide (st = 6) || decide (st = 7)) && decide (fs.length < 12)) with
  | true =>
    rw [h4] at c4
    rw [if_pos h4] at q1
    refine s_ifT (Z := Z) io (z5.same s58) (EV s58) c4 fun H9 s9 => s_seq ?_
    refine s_open (ρ := [none]) io [91] zd (La.same (same_trans s58 s9)) rfl (env_n env_nil) (ev_cs _) (by simp; omega) fun Ha t l L9 => ?_
    simp only [tSs, tNext]
    exact q1 Ha _ L9 rfl
  | false =>
  rw [h4] at c4
  rw [if_neg (nt h4)] at q1
  refine s_ifF (Z := Z) io (z5.same s58) (EV s58) c4 fun H9 s9 => s_seq ?_
  have s59 := same_trans s58 s9
  have c5 : evD T io (callD T io X0 1000 (n + 3)) (.and (.cmp .eq (.var 3) (.con (.int 8))) (.cmp .gt (.var 5) (.con (.int 0)))) (vals [some (.lst ((f :: fs).reverse.map frD), false), none, none, some (.int st, false), some (.int num, false), some (.int (fs.length : Nat), false), some (.lst f.ds, false), none]) = .ok (.bl (decide (st = 8) && decide (0 < fs.length))) :=
    ev_andB (ev_cm v3e (ev_ci 8) (cq_i _ _)) (ev_cm v5e (ev_ci 0) (cq_gtn _ 0))
  cases h5 : (decide (st = 8) && decide (0 < fs.length)) with
  | true =>
    rw [h5] at c5
    rw [if_pos h5] at q1
    refine s_ifT (Z := Z) io (z5.same s59) (EV s59) c5 fun Ha sa => s_seq ?_
    have hfs : fs ≠ [] := by
      rintro rfl
      simp at h5
    cases fs with
    | nil => exact absurd rfl hfs
    | cons f2 fs =>
    refine s_call (a_var rfl (a_var rfl (a_con (a_nil ?_))))
    show wpF K T cv (n + 3) (s + 7) [.ref p, .int num, .bl true] Ha _ _
    refine w_lend P n zd (La.same (same_trans s59 sa)) (hm hfs) (hb f2 (List.mem_cons_of_mem _ (List.mem_cons_self ..))) ?_
    intro Hb fs' L' e
    simp only [tSs, tNext]
    exact q1 Hb fs' L' e
  | false =>
  rw [h5] at c5
  rw [if_neg (nt h5)] at q1
  refine s_ifF (Z := Z) io (z5.same s59) (EV s59) c5 fun Ha sa => s_seq ?_
  refine s_pushE io (.tup [.str wKept, .str [sgI (num % 94)]]) zd (La.same (same_trans s59 sa)) rfl EM ?_ bf fun Hb v8 L8 => ?_
  · exact ev_tp (ea_c (ev_cs _) (ea_c (ev_i (ev_f0 P.i0 cs) (ev_b v4e (ev_ci 94) (bd_mod _ _ (by decide))) (sgI_ix (by omega) (by omega))) ea_n)) (by simp)
  simp only [tSs, tNext]
  exact q1 Hb _ L8 rfl
end
end Fw

set_option maxHeartbeats 4000000
namespace Fw
open PySem PySem.Spec PyProof.Rows L2
/-! ### parts put together by a law: they are good ones -/
theorem lastMk_iff {w : List Nat} : lastMk w = true ↔ ∃ x, w.getLast? = some x ∧ (x = 42 ∨ x = 95 ∨ x = 126) := by
  unfold lastMk
  cases w.getLast? with
  | none => simp
  | some x => simp
theorem plS_ok (num : Int) (mark : List Nat) (deep : Nat) (barred : Bool) (k : Nat) (w : List Nat) : ∀ r, r = plS num mark deep barred k w → r ∈ SGNL ∧ (r ≠ 92 ∧ r ≠ 96) ∧ (mark = [91] → r ≠ 93) ∧ (mark.length = 2 → r ≠ 41) ∧ (deep < 12 → r ≠ 91 ∧ ¬ (r = 40 ∧ lastMk w = true)) ∧ (barred = true → k = 0 → r ≠ 40) := by
  unfold plS
  have hc : sgI ((num + (k : Int) * (1 + num / 94 % 7)) % 94) ∈ SGNL := sgI_mem (by omega) (by omega)
  generalize sgI ((num + (k : Int) * (1 + num / 94 % 7)) % 94) = c at *
  simp only
  -- the first change
  generalize hc1 : (if (decide (c = 92 ∨ c = 96) || ((decide (mark = [91]) && decide (c = 93)) || (decide (mark.length = 2) && decide (c = 41)))) = true then 109 else c) = c1
  have f1 : c1 ∈ SGNL ∧ (c1 ≠ 92 ∧ c1 ≠ 96) ∧ (mark = [91] → c1 ≠ 93) ∧ (mark.length = 2 → c1 ≠ 41) := by
    rw [← hc1]
    split
    · exact ⟨by decide, by decide, fun _ => by decide, fun _ => by decide⟩
    · rename_i h
      simp only [Bool.or_eq_true, Bool.and_eq_true, decide_eq_true_eq] at h
      exact ⟨hc, ⟨fun e => h (.inl (.inl e)), fun e => h (.inl (.inr e))⟩, fun e e2 => h (.inr (.inl ⟨e, e2⟩)), fun e e2 => h (.inr (.inr ⟨e, e2⟩))⟩
  clear hc hc1
  generalize hc2 : (if (decide (deep < 12) && (decide (c1 = 91) || (decide (c1 = 40) && lastMk w))) = true then 110 else c1) = c2
  have f2 : c2 ∈ SGNL ∧ (c2 ≠ 92 ∧ c2 ≠ 96) ∧ (mark = [91] → c2 ≠ 93) ∧ (mark.length = 2 → c2 ≠ 41) ∧ (deep < 12 → c2 ≠ 91 ∧ ¬ (c2 = 40 ∧ lastMk w = true)) := by
    rw [← hc2]
    split
    · exact ⟨by decide, by decide, fun _ => by decide, fun _ => by decide, fun _ => ⟨by decide, fun h => by cases h.1⟩⟩
    · rename_i h
      simp only [Bool.or_eq_true, Bool.and_eq_true, decide_eq_true_eq] at h
      exact ⟨f1.1, f1.2.1, f1.2.2.1, f1.2.2.2, fun hd => ⟨fun e => h ⟨hd, .inl e⟩, fun e => h ⟨hd, .inr e⟩⟩⟩
  clear f1 hc2
  intro r hr
  rw [hr]
  split
  · exact ⟨by decide, by decide, fun _ => by decide, fun _ => by decide, fun _ => ⟨by decide, fun h => by cases h.1⟩, fun _ _ => by decide⟩
  · rename_i h
    simp only [Bool.and_eq_true, decide_eq_true_eq] at h
    exact ⟨f2.1, f2.2.1, f2.2.2.1, f2.2.2.2.1, f2.2.2.2.2, fun e1 e2 e3 => h ⟨e1, e2, e3⟩⟩
theorem plF_ok (num : Int) (mark : List Nat) (deep : Nat) (barred : Bool) : ∀ k, Sg (plF num mark deep barred k) ∧ 92 ∉ plF num mark deep barred k ∧ 96 ∉ plF num mark deep barred k ∧ (mark = [91] → 93 ∉ plF num mark deep barred k) ∧ (mark.length = 2 → 41 ∉ plF num mark deep barred k) ∧ (deep < 12 → noOpen (plF num mark deep barred k)) ∧ (barred = true → (plF num mark deep barred k).head? ≠ some 40)
  | 0 => by
    rw [show plF num mark deep barred 0 = [] from rfl]
    exact ⟨fun c h => (by cases h), by simp, by simp, fun _ => by simp, fun _ => by simp, fun _ k => by simp [openD], fun _ => by simp⟩
  | k + 1 => by
    obtain ⟨h1, h2, h3, h4, h5, h6, h7⟩ := plF_ok num mark deep barred k
    have hl := plF_len num mark deep barred k
    rw [plF]
    generalize plF num mark deep barred k = w at *
    obtain ⟨g1, ⟨g2, g3⟩, g4, g5, g6, g7⟩ := plS_ok num mark deep barred k w _ rfl
    generalize plS num mark deep barred k w = r at *
    refine ⟨Sg.app.mpr ⟨h1, fun c hc => by rw [List.mem_singleton.mp hc]; exact g1⟩, ?_, ?_, fun e => ?_, fun e => ?_, fun hd => ?_, fun hb => ?_⟩
    · simp [h2]
      exact fun e => g2 e.symm
    · simp [h3]
      exact fun e => g3 e.symm
    · simp [h4 e]
      exact fun e2 => g4 e e2.symm
    · simp [h5 e]
      exact fun e2 => g5 e e2.symm
    · refine noOpen_snoc (g6 hd).1 (h6 hd) ?_
      rcases List.eq_nil_or_concat w with rfl | ⟨w', x, rfl⟩
      · exact openD_one.mpr (g6 hd).1
      · rw [List.concat_eq_append] at *
        rw [show (w' ++ [x]).drop ((w' ++ [x]).length - 1) = [x] by simp]
        show openD (x :: [r]) = []
        rw [openD_nil_iff]
        refine ⟨fun e => noOpen_mem (h6 hd) (by rw [e]; simp), fun ⟨e1, e2⟩ => (g6 hd).2 ⟨by simpa using e2, lastMk_iff.mpr ⟨x, by simp, e1⟩⟩⟩
    · cases w with
      | nil =>
        have : k = 0 := by simpa using hl.symm
        intro e
        exact g7 hb this (by simpa using e)
      | cons x w => exact h7 hb
theorem bar_iff {ds : List Dat} (h : barD ds = false) : ∀ ps b, ds.getLast? ≠ some (.tup [.str wLink, .lst ps, .non, .bl b]) := by
  intro ps b e
  unfold barD at h
  rw [e] at h
  simp [barX] at h
theorem lastS_not {ds : List Dat} (h : lastS ds = false) : ∀ s, ds.getLast? ≠ some (.str s) := by
  intro s e
  unfold lastS at h
  rw [e] at h
  cases h
theorem plD_fl {n : Nat} {low : Nat} {m : List Nat} {l : Bool} {ds : List Dat} {num : Int} {z : Nat} (hn : n = 12 - low) (hlow : low ≤ 12) (hz : 1 ≤ z) (hs : lastS ds = false) : Fl n m l ds.getLast? (.str (plD num z m low (barD ds))) (plD num z m low (barD ds)) := by
  obtain ⟨h1, h2, h3, h4, h5, h6, h7⟩ := plF_ok num m low (barD ds) z
  have hl := plF_len num m low (barD ds) z
  unfold plD
  generalize plF num m low (barD ds) z = w at *
  have hw : w ≠ [] := by
    rintro rfl
    simp at hl
    omega
  have hE : ∀ x ∈ plE num low, x = 42 ∨ x = 40 ∨ x = 91 ∨ x = 95 ∨ x = 126 := by
    intro x hx
    unfold plE at hx
    split at hx
    · simp at hx
      omega
    · cases hx
  have not : ∀ x, x ∉ w → (x ≠ 42 ∧ x ≠ 40 ∧ x ≠ 91 ∧ x ≠ 95 ∧ x ≠ 126) → x ∉ w ++ plE num low := by
    intro x hx hne hm
    rcases List.mem_append.mp hm with hm | hm
    · exact hx hm
    · rcases hE x hm with e | e | e | e | e
      · exact hne.1 e
      · exact hne.2.1 e
      · exact hne.2.2.1 e
      · exact hne.2.2.2.1 e
      · exact hne.2.2.2.2 e
  refine .txt _ l _ (by simp [hw]) (Sg.app.mpr ⟨h1, fun x hx => ?_⟩) (lastS_not hs) (not _ h2 (by decide)) (not _ h3 (by decide)) (fun hne => ?_) (fun e => not _ (h4 e) (by decide)) (fun e => not _ (h5 e) (by decide)) (fun hh ps b e => ?_)
  · rcases hE x hx with e | e | e | e | e <;> (rw [e]; decide)
  · have : plE num low = [] := by
      unfold plE
      rw [decide_eq_false (show ¬ low = 12 by omega)]
      rfl
    rw [this, List.append_nil]
    exact h6 (by omega)
  · cases hb : barD ds with
    | true =>
      refine h7 hb ?_
      cases w with
      | nil => exact absurd rfl hw
      | cons x w => exact hh
    | false => exact bar_iff hb ps b e
theorem opM_ok (num : Int) : okM (opM num) ∧ (opM num).length = 2 := by
  have h : num % 3 = 0 ∨ num % 3 = 1 ∨ num % 3 = 2 := by omega
  unfold opM
  rcases h with h | h | h <;> rw [h]
  · exact ⟨.inr ⟨42, by decide, rfl⟩, rfl⟩
  · exact ⟨.inr ⟨95, by decide, rfl⟩, rfl⟩
  · exact ⟨.inr ⟨126, by decide, rfl⟩, rfl⟩
theorem tgJ_len (num : Int) (b : Bool) {w : List Nat} (h : tgJ num b = .str w) : w.length ≤ 48 ∧ Sg w ∧ 41 ∉ w ∧ b = true := by
  unfold tgJ at h
  split at h
  · rename_i hb
    cases h
    rw [Bool.and_eq_true] at hb
    refine ⟨?_, wdD_sg _ _ _, wdD_not _ _ _ (by decide), hb.1⟩
    rw [wdD_len]
    exact szD_le _
  · cases h
/-- a level ends -/
theorem endJ_ok {o : Bool} {m : List Nat} {ds : List Dat} {low : Pile} {t : List Nat} {num : Int} {b : Bool} (h : PileOK o ((m, ds) :: low) t) (hne : low ≠ []) (hb : b = true → o = false) : ∃ x, PileOK (!b) (endTop (tgJ num b) b ((m, ds) :: low)) (t ++ x) ∧ x.length ≤ 60 := by
  have key : ∀ x : List Nat, (∀ n t1, okM m → PLo n m o ds t1 → Nst (fun mk l ds t => PLs (POK n mk) l ds t) (!b) (endPart m ds (tgJ num b) b) (m ++ t1 ++ x)) → x.length ≤ 60 → ∃ x, PileOK (!b) (endTop (tgJ num b) b ((m, ds) :: low)) (t ++ x) ∧ x.length ≤ 60 := fun x h1 h2 => ⟨x, endTop_ok h hne (fun _ _ _ _ => trivial) h1, h2⟩
  have within : ∀ n t1, PLo n m o ds t1 → PLo n m (!b && !b) ds t1 := by
    intro n t1 hp
    cases b with
    | true =>
      rw [hb rfl] at hp
      exact hp
    | false => exact PLo.up hp
  by_cases e : m = [91]
  · subst e
    cases ht : tgJ num b with
    | str w =>
      obtain ⟨w1, w2, w3, w4⟩ := tgJ_len num b ht
      subst w4
      rw [ht] at key
      refine key ([93, 40] ++ w ++ [41]) (fun n t1 hm hp => ?_) (by simp; omega)
      unfold endPart
      rw [if_pos rfl]
      have hp' := within n t1 hp
      exact .linkT w true _ ds t1 (fun e => by cases e) w2 w3 hp'
    | non =>
      rw [ht] at key
      refine key (if b = true then [93] else []) (fun n t1 hm hp => ?_) (by split <;> simp)
      unfold endPart
      rw [if_pos rfl]
      exact .linkN b _ ds t1 (fun e => by rw [e]; rfl) (within n t1 hp)
    | _ =>
      exfalso
      unfold tgJ at ht
      split at ht <;> cases ht
  · refine key (if b = true then [41] else []) (fun n t1 hm hp => ?_) (by split <;> simp)
    obtain ⟨a, ha, rfl⟩ := okM_not hm e
    unfold endPart
    rw [if_neg (by simp)]
    exact .span a b _ ds t1 ha (fun e => by rw [e]; rfl) (within n t1 hp)
/-- a step -/
theorem putJ_ok {pl : Pile} {t : List Nat} (c : Int) (h : PileOK false pl t) : ∃ t', PileOK false (putJ c pl) t' ∧ t'.length ≤ t.length + 60 := by
  obtain ⟨m, ds, low, t0, t1, rfl, hl, hp, rfl, hm, put⟩ := h.top
  have flat : ∀ p tp, Fl (12 - low.length) m false ds.getLast? p tp → tp.length ≤ 60 → ∃ t', PileOK false ((m, ds ++ [p]) :: low) t' ∧ t'.length ≤ (t0 ++ t1).length + 60 := fun p tp hf hlen => ⟨_, put false _ _ (.snoc hp (POK.fl hf)), by simp; omega⟩
  have opens : ∀ mk, okM mk → low.length < 12 → ∃ t', PileOK false ((mk, []) :: (m, ds) :: low) t' ∧ t'.length ≤ (t0 ++ t1).length + 60 := by
    intro mk hk hlt
    refine ⟨_, .lvl h (by simp; omega) hk (.nil _), ?_⟩
    have : mk.length ≤ 2 := by
      rcases hk with rfl | ⟨a, _, rfl⟩ <;> simp
    simp
    omega
  unfold putJ
  simp only
  split
  · rename_i h1
    rw [Bool.and_eq_true] at h1
    have hz := szD_le (mxD c / 9 / 700)
    refine flat _ _ (plD_fl rfl hl (by omega) (by simpa using h1.2)) ?_
    unfold plD
    rw [List.length_append, plF_len]
    unfold plE
    split <;> simp <;> omega
  · split
    · refine flat _ _ (.code _ true _ _ (wdD_sg _ _ _) (wdD_not _ _ _ (by decide)) (fun e => by cases e)) ?_
      have := szD_le (mxD c / 9 / 500)
      simp [wdD_len]
      omega
    · split
      · rename_i h3
        rw [Bool.and_eq_true, decide_eq_true_eq, decide_eq_true_eq] at h3
        exact opens _ (opM_ok _).1 h3.2
      · split
        · rename_i h4
          rw [Bool.and_eq_true, decide_eq_true_eq] at h4
          exact opens _ (.inl rfl) h4.2
        · split
          · rename_i h5
            rw [Bool.and_eq_true, decide_eq_true_eq, decide_eq_true_eq] at h5
            obtain ⟨x, h6, h7⟩ := endJ_ok (num := mxD c / 9) (b := true) h (by rintro rfl; simp at h5) (fun _ => rfl)
            exact ⟨_, h6, by simp at h7 ⊢; omega⟩
          · refine flat _ (92 :: [sgI (mxD c / 9 % 94)]) (.kept _ _ _ (fun x hx => ?_) (by simp) (fun e => by cases e)) (by simp)
            rw [List.mem_singleton.mp hx]
            exact sgI_mem (by omega) (by omega)
theorem endTop_plen {tg : Dat} {b : Bool} {pl : Pile} (h : 1 < pl.length) : (endTop tg b pl).length = pl.length - 1 := by
  match pl, h with
  | (m, ds) :: (m2, ds2) :: r, _ => simp [endTop]
/-- what is open ends -/
def closeJ : Nat → Int → Bool → Pile → Pile
  | 0, _, _, pl => pl
  | k + 1, last, cl, pl => closeJ k (last / 4) (cl && !decide (last % 4 = 0)) (endTop (tgJ (last / 4) (cl && !decide (last % 4 = 0))) (cl && !decide (last % 4 = 0)) pl)
theorem closeJ_ok : ∀ (k : Nat) (last : Int) (cl o : Bool) (pl : Pile) (t : List Nat), PileOK o pl t → (cl = true → o = false) → pl.length = k + 1 → ∃ ds t' o', closeJ k last cl pl = [([], ds)] ∧ PLo 12 [] o' ds t' ∧ t'.length ≤ t.length + 60 * k
  | 0, last, cl, o, pl, t, h, hc, hl => by
    cases h with
    | bot h => exact ⟨_, _, _, rfl, h, by omega⟩
    | lvl h0 _ _ _ =>
      have : ∀ {o} {pl : Pile} {t}, PileOK o pl t → pl ≠ [] := by
        intro o pl t h
        cases h <;> simp
      have h1 := this h0
      simp at hl
      exact absurd hl h1
  | k + 1, last, cl, o, pl, t, h, hc, hl => by
    obtain ⟨m, ds, low, t0, t1, rfl, _⟩ := h.top
    have hne : low ≠ [] := by
      rintro rfl
      simp at hl
    obtain ⟨x, h1, h2⟩ := endJ_ok (num := last / 4) (b := cl && !decide (last % 4 = 0)) h hne (fun e => hc (by rw [Bool.and_eq_true] at e; exact e.1))
    obtain ⟨ds', t', o', e1, e2, e3⟩ := closeJ_ok k (last / 4) (cl && !decide (last % 4 = 0)) _ _ _ h1 (fun e => by rw [e]; rfl) (by rw [endTop_plen (by simp at hl ⊢; omega)]; omega)
    refine ⟨ds', t', o', e1, e2, ?_⟩
    rw [List.length_append] at e3
    omega
/-! labels that a law puts -/
abbrev tLab : List Nat := [108, 97, 98, 101, 108]
def lbs : List (List Dat) := [[.str tLab], [], [.str [97], .tup [.str wKept, .str [93]], .str [98, 42]], [.tup [.str wSpan, .str [95], .lst [.str [99], .tup [.str wCode, .str [93], .bl true]], .bl true]],
  [.str [115, 101, 101, 32], .tup [.str wLink, .lst [.str [100]], .str [101], .bl true], .str [40, 102]], [.tup [.str wLink, .lst [.tup [.str wSpan, .str [42], .lst [.str [103]], .bl true]], .non, .bl true]],
  [.tup [.str wKept, .str [120]], .tup [.str wSpan, .str [126], .lst [.tup [.str wLink, .lst [.str [104]], .str [105], .bl true]], .bl true], .str [106]], [.tup [.str wLink, .lst [.tup [.str wLink, .lst [.str [107]], .str [108], .bl true], .str [109]], .str [110], .bl true]]]
def lbD (num : Int) (deep : Nat) : List Dat := if 8 < deep then [.str tLab] else lbs.getD (num % 8).toNat []

theorem lb_txt {n : Nat} {m w : List Nat} {ds : List Dat} {t : List Nat} (h : PLo n m false ds t) (h0 : w ≠ []) (h1 : Sg w) (h2 : lastS ds = false) (h3 : 92 ∉ w) (h4 : 96 ∉ w) (h5 : noOpen w) (h6 : 93 ∉ w) (h7 : 41 ∉ w) (h8 : w.head? = some 40 → ∀ ps b, ds.getLast? ≠ some (.tup [.str wLink, .lst ps, .non, .bl b])) : PLo n m false (ds ++ [.str w]) (t ++ w) :=
  .snoc h (POK.fl (.txt w _ _ h0 h1 (lastS_not h2) h3 h4 (fun _ => h5) (fun _ => h6) (fun _ => h7) h8))
theorem lb_kept {n : Nat} {m : List Nat} {c : Nat} {ds : List Dat} {t : List Nat} (h : PLo n m false ds t) (h1 : c ∈ SGNL) : PLo n m false (ds ++ [.tup [.str wKept, .str [c]]]) (t ++ (92 :: [c])) :=
  .snoc h (POK.fl (.kept _ _ _ (fun x hx => by rw [List.mem_singleton.mp hx]; exact h1) (by simp) (fun e => by cases e)))
theorem lb_code {n : Nat} {m w : List Nat} {ds : List Dat} {t : List Nat} (h : PLo n m false ds t) (h1 : Sg w) (h2 : 96 ∉ w) : PLo n m false (ds ++ [.tup [.str wCode, .str w, .bl true]]) (t ++ (96 :: w ++ [96])) :=
  .snoc h (POK.fl (.code w true _ _ h1 h2 (fun e => by cases e)))
theorem lb_span {n a : Nat} {m : List Nat} {ds es : List Dat} {t u : List Nat} (h : PLo (n + 1) m false ds t) (ha : a = 42 ∨ a = 95 ∨ a = 126) (g : PLo n [a, 40] false es u) : PLo (n + 1) m false (ds ++ [.tup [.str wSpan, .str [a], .lst es, .bl true]]) (t ++ ([a, 40] ++ u ++ [41])) :=
  .snoc h (.inr (.span a true _ es u ha (fun e => by cases e) g))
theorem lb_linkN {n : Nat} {m : List Nat} {ds es : List Dat} {t u : List Nat} (h : PLo (n + 1) m false ds t) (g : PLo n [91] false es u) : PLo (n + 1) m false (ds ++ [.tup [.str wLink, .lst es, .non, .bl true]]) (t ++ ([91] ++ u ++ [93])) :=
  .snoc h (.inr (.linkN true _ es u (fun e => by cases e) g))
theorem lb_linkT {n : Nat} {m w : List Nat} {ds es : List Dat} {t u : List Nat} (h : PLo (n + 1) m false ds t) (g : PLo n [91] false es u) (h1 : Sg w) (h2 : 41 ∉ w) : PLo (n + 1) m false (ds ++ [.tup [.str wLink, .lst es, .str w, .bl true]]) (t ++ ([91] ++ u ++ ([93, 40] ++ w ++ [41]))) :=
  .snoc h (.inr (.linkT w true _ es u (fun e => by cases e) h1 h2 g))
theorem sg_dec {w : List Nat} (h : (w.all fun c => SGNL.contains c) = true) : Sg w := by
  intro c hc
  have := List.all_eq_true.mp h c hc
  exact List.contains_iff_mem.mp this
theorem no_dec {w : List Nat} (h : (w.all fun c => decide (c ≠ 91 ∧ c ≠ 40)) = true) : noOpen w := by
  intro k
  cases e : w.drop k with
  | nil => rfl
  | cons c r =>
    have hm : ∀ x ∈ c :: r, x ≠ 91 ∧ x ≠ 40 := fun x hx => of_decide_eq_true (List.all_eq_true.mp h x (by rw [← e] at hx; exact List.mem_of_mem_drop hx))
    rw [openD_nil_iff]
    refine ⟨(hm c (List.mem_cons_self ..)).1, fun ⟨_, e2⟩ => ?_⟩
    cases r with
    | nil => cases e2
    | cons y r => exact (hm y (by simp)).2 (by simpa using e2)
theorem lb_one {n : Nat} {m : List Nat} (w : List Nat) (h : (decide (w ≠ []) && (w.all fun c => SGNL.contains c && (decide (c ≠ 91 ∧ c ≠ 40) && (decide (c ≠ 92) && (decide (c ≠ 96) && (decide (c ≠ 93) && decide (c ≠ 41))))))) = true) {ds : List Dat} {t : List Nat} (hp : PLo n m false ds t) (hs : lastS ds = false) : PLo n m false (ds ++ [.str w]) (t ++ w) := by
  rw [Bool.and_eq_true, decide_eq_true_eq] at h
  have hm : ∀ c ∈ w, c ∈ SGNL ∧ (c ≠ 91 ∧ c ≠ 40) ∧ c ≠ 92 ∧ c ≠ 96 ∧ c ≠ 93 ∧ c ≠ 41 := fun c hc => by
    have := List.all_eq_true.mp h.2 c hc
    simp only [Bool.and_eq_true, decide_eq_true_eq] at this
    exact ⟨List.contains_iff_mem.mp this.1, this.2⟩
  refine lb_txt hp h.1 (fun c hc => (hm c hc).1) hs (fun hc => (hm _ hc).2.2.1 rfl) (fun hc => (hm _ hc).2.2.2.1 rfl) (no_dec (List.all_eq_true.mpr fun c hc => decide_eq_true (hm c hc).2.1)) (fun hc => (hm _ hc).2.2.2.2.1 rfl) (fun hc => (hm _ hc).2.2.2.2.2 rfl) (fun hh => ?_)
  cases w with
  | nil => cases hh
  | cons x w => exact absurd (by simpa using hh) (hm x (by simp)).2.1.2
theorem lb_ok (num : Int) (deep n : Nat) (hd : n + deep = 12) : ∃ t, PLo n [91] false (lbD num deep) t ∧ t.length ≤ 40 := by
  unfold lbD
  split
  · exact ⟨_, lb_one tLab (by decide) (.nil _) rfl, by decide⟩
  · rename_i h8
    obtain ⟨k, rfl⟩ : ∃ k, n = k + 3 := ⟨n - 3, by omega⟩
    have h : num % 8 = 0 ∨ num % 8 = 1 ∨ num % 8 = 2 ∨ num % 8 = 3 ∨ num % 8 = 4 ∨ num % 8 = 5 ∨ num % 8 = 6 ∨ num % 8 = 7 := by omega
    rcases h with h | h | h | h | h | h | h | h <;> rw [h]
    · exact ⟨_, lb_one tLab (by decide) (.nil _) rfl, by decide⟩
    · exact ⟨_, .nil _, by decide⟩
    · exact ⟨_, lb_one [98, 42] (by decide) (lb_kept (lb_one [97] (by decide) (.nil _) rfl) (c := 93) (by decide)) rfl, by decide⟩
    · exact ⟨_, lb_span (.nil _) (.inr (.inl rfl)) (lb_code (lb_one [99] (by decide) (.nil _) rfl) (w := [93]) (sg_dec (by decide)) (by decide)), by decide⟩
    · refine ⟨_, lb_txt (w := [40, 102]) (lb_linkT (lb_one [115, 101, 101, 32] (by decide) (.nil _) rfl) (lb_one [100] (by decide) (.nil _) rfl) (w := [101]) (sg_dec (by decide)) (by decide)) (by decide) (sg_dec (by decide)) rfl (by decide) (by decide) ?_ (by decide) (by decide) ?_, by decide⟩
      · intro k
        rcases k with _ | _ | k <;> simp [openD]
      · intro _ ps b e
        simp at e
    · exact ⟨_, lb_linkN (.nil _) (lb_span (.nil _) (.inl rfl) (lb_one [103] (by decide) (.nil _) rfl)), by decide⟩
    · exact ⟨_, lb_one [106] (by decide) (lb_span (lb_kept (.nil _) (c := 120) (by decide)) (.inr (.inr rfl)) (lb_linkT (.nil _) (lb_one [104] (by decide) (.nil _) rfl) (w := [105]) (sg_dec (by decide)) (by decide))) rfl, by decide⟩
    · exact ⟨_, lb_linkT (.nil _) (lb_one [109] (by decide) (lb_linkT (.nil _) (lb_one [107] (by decide) (.nil _) rfl) (w := [108]) (sg_dec (by decide)) (by decide)) rfl) (w := [110]) (sg_dec (by decide)) (by decide), by decide⟩
/-- what the last number puts -/
def tailJ (last : Int) (pl : Pile) : Pile := match pl with
  | [] => []
  | (m, ds) :: low =>
    if last % 7 = 0 then (m, ds ++ [.tup [.str wKept, .str []]]) :: low
    else if last % 7 = 1 then (m, ds ++ [.tup [.str wCode, .str (wdD (last / 7) (szD (last / 7)) 96), .bl false]]) :: low
    else if (decide (last % 7 = 2) && decide (low.length + 1 < 13)) = true then (m, ds ++ [.tup [.str wLink, .lst (lbD (last / 21) (low.length + 1)), .str (wdD (last / 7) (szD (last / 7)) 41), .bl false]]) :: low
    else (m, ds) :: low
theorem tailJ_ok (last : Int) {pl : Pile} {t : List Nat} (h : PileOK false pl t) : ∃ t' o, PileOK o (tailJ last pl) t' ∧ (o = true → last % 7 ≤ 2) ∧ t'.length ≤ t.length + 120 ∧ (tailJ last pl).length = pl.length := by
  obtain ⟨m, ds, low, t0, t1, rfl, hl, hp, rfl, hm, put⟩ := h.top
  have hz := szD_le (last / 7)
  unfold tailJ
  simp only
  split
  · exact ⟨_, true, put true _ _ (.snoc hp (POK.fl (.kept [] true _ (fun x hx => by cases hx) (by simp) (fun _ => rfl)))), fun _ => by omega, by simp; omega, by simp⟩
  · split
    · refine ⟨_, true, put true _ _ (.snoc hp (POK.fl (.code _ false true _ (wdD_sg _ _ _) (wdD_not _ _ _ (by decide)) (fun _ => rfl)))), fun _ => by omega, ?_, by simp⟩
      simp [wdD_len]
      omega
    · split
      · rename_i h3
        rw [Bool.and_eq_true, decide_eq_true_eq, decide_eq_true_eq] at h3
        obtain ⟨u, hu, hul⟩ := lb_ok (last / 21) (low.length + 1) (11 - low.length) (by omega)
        have hP : POK (12 - low.length) m true ds.getLast? (.tup [.str wLink, .lst (lbD (last / 21) (low.length + 1)), .str (wdD (last / 7) (szD (last / 7)) 41), .bl false]) ([91] ++ u ++ ([93, 40] ++ wdD (last / 7) (szD (last / 7)) 41 ++ if false = true then [41] else [])) := by
          rw [show 12 - low.length = (11 - low.length) + 1 by omega]
          exact .inr (.linkT _ false true _ u (fun _ => rfl) (wdD_sg _ _ _) (wdD_not _ _ _ (by decide)) hu)
        refine ⟨_, true, put true _ _ (.snoc hp hP), fun _ => by omega, ?_, by simp⟩
        simp [wdD_len]
        omega
      · exact ⟨_, false, h, fun e => (by cases e), by simp, rfl⟩
def pilJ (cells : List Int) : Pile := cells.foldl (fun pl c => putJ c pl) [([], [])]
def lpD (cells : List Int) (last : Int) : List Dat := closeP (closeJ ((tailJ last (pilJ cells)).length - 1) (last / 7) (decide (2 < last % 7)) (tailJ last (pilJ cells)))
theorem pil_ok : ∀ (cells : List Int) (pl : Pile) (t : List Nat), PileOK false pl t → ∃ t', PileOK false (cells.foldl (fun pl c => putJ c pl) pl) t' ∧ t'.length ≤ t.length + 60 * cells.length
  | [], pl, t, h => ⟨t, h, by simp⟩
  | c :: r, pl, t, h => by
    obtain ⟨t1, h1, h2⟩ := putJ_ok c h
    obtain ⟨t2, h3, h4⟩ := pil_ok r _ _ h1
    exact ⟨t2, h3, by rw [List.length_cons]; omega⟩
theorem lp_ok (cells : List Int) (last : Int) : ∃ t, PLo 12 [] true (lpD cells last) t ∧ t.length ≤ 60 * cells.length + 1000 := by
  obtain ⟨t1, h1, h2⟩ := pil_ok cells [([], [])] [] (.bot (.nil _))
  obtain ⟨t2, o, h3, h4, h5, h6⟩ := tailJ_ok last h1
  unfold lpD pilJ
  generalize tailJ last (cells.foldl (fun pl c => putJ c pl) [([], [])]) = pl at *
  have hpos : 0 < pl.length ∧ pl.length ≤ 13 := by
    obtain ⟨m, ds, low, _, _, rfl, hl, _⟩ := h3.top
    simp
    omega
  obtain ⟨ds, t3, o', e1, e2, e3⟩ := closeJ_ok (pl.length - 1) (last / 7) (decide (2 < last % 7)) o pl t2 h3 (fun e => by
    cases o with
    | false => rfl
    | true =>
      have := h4 rfl
      simp at e
      omega) (by omega)
  rw [e1]
  exact ⟨t3, PLo.up e2, by simp at h2; omega⟩
end Fw

set_option maxHeartbeats 4000000
namespace Fw
open PySem PySem.Spec PyProof.Rows L2
/-! ### parts put together by a law: the whole -/
theorem pile_bound {o : Bool} {pl : Pile} {t : List Nat} (h : PileOK o pl t) : ∀ x ∈ pl, x.2.length ≤ t.length := by
  induction h with
  | bot h =>
    intro x hx
    rw [List.mem_singleton.mp hx]
    exact pls_len h
  | lvl h0 hl hm h ih =>
    intro x hx
    rw [List.length_append, List.length_append]
    rcases List.mem_cons.mp hx with rfl | hx
    · refine Nat.le_trans (pls_len h) ?_
      omega
    · have := ih x hx
      omega
theorem pile_top {o : Bool} {f : Frm} {fs : List Frm} {t : List Nat} (h : PileOK o (absF (f :: fs)) t) (hB : t.length < 16777216) : (fs ≠ [] → f.m = [91] ∨ ∃ a, f.m = [a, 40]) ∧ f.m.length ≤ 2 ∧ fs.length ≤ 12 ∧ (∀ g ∈ f :: fs, g.ds.length < 16777216) ∧ ∀ d, f.ds.getLast? = some d → PtF d := by
  have hb := pile_bound h
  obtain ⟨m, ds, low, t0, t1, e, hl, hp, _, hm, _⟩ := h.top
  have e' : (f.m, f.ds) :: absF fs = (m, ds) :: low := e
  injection e' with e1 e2
  injection e1 with e3 e4
  subst e3 e4 e2
  rw [List.length_map] at hl
  refine ⟨fun hne => ?_, ?_, hl, fun g hg => ?_, plo_last hp⟩
  · rcases hm with ⟨h1, _⟩ | h1
    · exact absurd (by simpa using h1) hne
    · rcases h1 with h1 | ⟨a, _, h1⟩
      · exact .inl h1
      · exact .inr ⟨a, h1⟩
  · rcases hm with ⟨_, h1⟩ | h1
    · rw [h1]
      simp
    · rcases h1 with h1 | ⟨a, _, h1⟩ <;> rw [h1] <;> simp
  · have := hb (g.m, g.ds) (List.mem_map_of_mem (f := fun f : Frm => (f.m, f.ds)) hg)
    exact Nat.lt_of_le_of_lt this hB
section
variable {K : PySem.W.Frag} {T : Tbl} {cv : Nat → Value} {io : Nat → Bool} {s : Nat}
theorem c_jlb (P : BT T io s) (n : Nat) (num : Int) (deep : Nat) : callD T io X0 1000 (n + 1) (s + 9) [.int num, .int deep] = .ok (.lst (lbD num deep), []) := by
  rw [call_at P.f9 P.i9 n _ rfl]
  show outD false (exDs T io (callD T io X0 1000 n) 1000 false (bJ9 s) [some (.int num, false), some (.int deep, false), none]) = _
  have hs : Sat (exDs T io (callD T io X0 1000 n) 1000 false (bJ9 s) [some (.int num, false), some (.int deep, false), none]) (fun _ => False) (fun _ => False) (fun d => d = .lst (lbD num deep)) := by
    generalize callD T io X0 1000 n = G
    unfold bJ9 lbD
    refine sat_cons (sat_iteP (8 < deep) (ev_cm (ev_v rfl) (ev_ci 8) (cq_gtn _ 8)) (fun h => ?_) (fun h => sat_nil ?_))
    · rw [if_pos h]
      refine sat_cons (sat_ret (.lst [.str tLab]) ?_ rfl)
      simp
    rw [if_neg h]
    refine sat_cons (sat_asg (.lst ((lbs.take 4).map .lst)) (by simp) ?_ ?_)
    · simp [lbs]
    rw [unown_no (by simp [noOwn])]
    simp only [List.set_cons_succ, List.set_cons_zero, fr_lst, iL_lst, Bool.and_self]
    refine sat_cons (sat_asg (.lst ((lbs.take 6).map .lst)) (by simp) ?_ ?_)
    · simp [lbs, lookD]
    have hu : ∀ (e : Ex) (d : Dat) (x : Dat), ment e 2 = true → isLst d = true → nolst d = false → unown e d [some (.int num, false), some (.int deep, false), some (x, true)] = [some (.int num, false), some (.int deep, false), some (x, false)] := by
      intro e d x he _ hd
      unfold unown
      rw [hd]
      simp [unownF, he]
    rw [hu _ _ _ (by simp [ment, mentA]) rfl (by simp [lbs])]
    simp only [List.set_cons_succ, List.set_cons_zero, iL_lst, Bool.and_true]
    generalize fresh _ = fr1
    refine sat_cons (sat_asg (.lst ((lbs.take 7).map .lst)) (by simp) ?_ ?_)
    · simp [lbs, lookD]
    have hu2 : ∀ (e : Ex) (d : Dat) (x : Dat) (b : Bool), ment e 2 = true → nolst d = false → unown e d [some (.int num, false), some (.int deep, false), some (x, b)] = [some (.int num, false), some (.int deep, false), some (x, false)] := by
      intro e d x b he hd
      unfold unown
      rw [hd]
      cases b <;> simp [unownF, he]
    rw [hu2 _ _ _ _ (by simp [ment, mentA]) (by simp [lbs])]
    simp only [List.set_cons_succ, List.set_cons_zero, iL_lst, Bool.and_true]
    generalize fresh _ = fr2
    refine sat_cons (sat_ret (.lst (lbs.getD (num % 8).toNat [])) (ev_i (x := .lst (lbs.map .lst)) ?_ (ev_b (ev_v rfl) (ev_ci 8) (bd_mod _ _ (by decide))) ?_) rfl)
    · simp [lbs, lookD]
    · rw [ix_lst, Fw.at_pos (by omega), List.getElem?_map, List.getD_eq_getElem?_getD]
      have hl : (num % 8).toNat < lbs.length := by
        have : lbs.length = 8 := rfl
        omega
      rw [List.getElem?_eq_getElem hl]
      rfl
  obtain ⟨d, e, rfl⟩ := (hs.mono (fun _ h => h.elim) (fun _ h => h) (fun _ h => h)).out
  exact e
theorem len_pile (f : Frm) (fs : List Frm) : lenD (.lst ((f :: fs).reverse.map frD)) = .ok (.int ((fs.length + 1 : Nat) : Int)) := by
  rw [len_lst, List.length_map, List.length_reverse, List.length_cons]
theorem close_one {ds : List Dat} {pl : Pile} {m : List Nat} (h : pl = [(m, ds)]) : closeP pl = ds := by
  rw [h]
  rfl
theorem w_lparts (P : BT T io s) (n : Nat) {H0 : Hp} {Z : Addr → Prop} {a : Addr} {cells : List Int} {last : Int} {Q : VK} {E : XK} (zd : ZD Z H0) (ha : SqL K H0 a (cells.map V.int)) (hl : cells.length ≤ 1000)
    (q : ∀ v H', Same H0 H' → Rep K (hide Z H') (.lst (lpD cells last)) v → Q v H') (hsq : ∀ H', Same H0 H' → SqL K H' a (cells.map V.int)) : wpF K T cv (n + 5) (s + 10) [.ref a, .int last] H0 Q E := by
  refine wp_at P.f10 rfl ?_
  show tSs K T (wpF K T cv (n + 4)) _ cv (bJ10 s) _ [some (.ref a), some (.int last), none, none, none, none, none, none] H0
  have cz : ∀ x, callD T io X0 1000 (n + 4) (s + 6) [.int x] = .ok (.int (szD x : Nat), []) := c_jsz P (n + 3)
  have cw : ∀ num z c, z ≤ 1000 → c ≠ 120 → callD T io X0 1000 (n + 4) (s + 4) [.int num, .int (z : Nat), .str [c]] = .ok (.str (wdD num z c), []) := c_jwd P (n + 2)
  have cl : ∀ num deep, callD T io X0 1000 (n + 4) (s + 9) [.int num, .int (deep : Nat)] = .ok (.lst (lbD num deep), []) := c_jlb P (n + 3)
  unfold bJ10
  refine s_seq ?_
  simp only [tS, tE, tA]
  refine ⟨by simp [sizeLine], fun l hl0 => ⟨by simp [sizeLine], fun t ht => ⟨by simp [sizeLine], fun p hp => ?_⟩⟩⟩
  have L := PL.init (K := K) (Z := Z) hl0 ht hp
  generalize upd (upd (upd H0 l (.lst [])) t (.tup [vS [], .ref l])) p (.lst [.ref t]) = H1 at L
  show tSs K T (wpF K T cv (n + 4)) _ cv _ _ [some (.ref a), some (.int last), some (.ref p), none, none, none, none, none] H1
  refine s_seq (s_forL (a := a) (xs := cells.map V.int) (fun k σ H => ∃ fs x3, PL K H0 H Z p fs ∧ absF fs = pilJ (cells.take k) ∧ σ = [some (.ref a), some (.int last), some (.ref p), x3, none, none, none, none]) rfl ⟨_, none, L, rfl, rfl⟩ ?_ ?_ ?_)
  · rintro k σ H ⟨fs, x3, L2, _, _⟩
    exact hsq H L2.sm
  · rintro k x σ H hx ⟨fs, x3, L2, hab, rfl⟩
    obtain ⟨c, hc, rfl⟩ : ∃ c, cells[k]? = some c ∧ x = V.int c := by
      rw [List.getElem?_map] at hx
      obtain ⟨c, h1, h2⟩ := Option.map_eq_some_iff.mp hx
      exact ⟨c, h1, h2.symm⟩
    show tSs K T (wpF K T cv (n + 4)) _ cv _ _ [some (.ref a), some (.int last), some (.ref p), some (.int c), none, none, none, none] H
    have hk : k < cells.length := (List.getElem?_eq_some_iff.mp hc).1
    obtain ⟨t1, h1, h2⟩ := pil_ok (cells.take k) [([], [])] [] (.bot (.nil _))
    have h1' : PileOK false (absF fs) t1 := by
      rw [hab]
      exact h1
    have hB : t1.length < 16777216 := by
      have : (cells.take k).length ≤ 1000 := by rw [List.length_take]; omega
      simp at h2
      omega
    cases fs with
    | nil => cases h1'
    | cons f fs =>
    obtain ⟨b1, b2, b3, b4, b5⟩ := pile_top h1' hB
    refine s_seq (s_call (a_var rfl (a_var rfl (a_nil ?_))))
    show wpF K T cv (n + 4) (s + 8) [.ref p, .int c] H _ _
    refine w_lput P n zd L2 b1 b2 (by omega) b4 b5 ?_
    intro H2 fs' L3 e
    simp only [tSs, tNext]
    refine ⟨fs', _, L3, ?_, rfl⟩
    rw [e, hab]
    unfold pilJ
    rw [List.take_succ, hc]
    simp
  · rintro σ H ⟨fs, x3, L2, hab, rfl⟩
    rw [List.length_map, List.take_length] at hab
    show tSs K T (wpF K T cv (n + 4)) _ cv _ _ [some (.ref a), some (.int last), some (.ref p), x3, none, none, none, none] H
    obtain ⟨t1, h1, h2⟩ := pil_ok cells [([], [])] [] (.bot (.nil _))
    have h1' : PileOK false (absF fs) t1 := by
      rw [hab]
      exact h1
    have hB : t1.length ≤ 60000 := by
      simp at h2
      omega
    unfold lpD at q
    rw [← hab] at q
    clear hab h1 h2
    cases fs with
    | nil => cases h1'
    | cons f fs =>
    obtain ⟨b1, b2, b3, b4, b5⟩ := pile_top h1' (by omega)
    have bf := b4 f (List.mem_cons_self ..)
    have mf : f ∈ f :: fs := List.mem_cons_self ..
    refine s_seq (s_asg (ρ := [none, some (.int last, false)]) (Z := Z) io (.bl (decide (2 < last % 7))) (L2.z zd) (env_n (env_c (rep_int _) env_nil)) (ev_cm (ev_b (ev_v rfl) (ev_ci 7) (bd_mod _ _ (by decide))) (ev_ci 2) (cq_gt _ _)) fun v4 H2 s2 r4 => ?_)
    simp only [Rep] at r4
    subst r4
    refine s_seq (s_parts (L2.same s2) rfl ?_)
    show tSs K T (wpF K T cv (n + 4)) _ cv _ _ [some (.ref a), some (.int last), some (.ref p), x3, some (.bl (decide (2 < last % 7))), some (.ref f.l), none, none] H2
    refine s_seq (s_asg (ρ := [none, some (.int last, false)]) (Z := Z) io (.int (szD (last / 7) : Nat)) ((L2.z zd).same s2) (env_n (env_c (rep_int _) env_nil)) (ev_f1 P.i6 (ev_b (ev_v rfl) (ev_ci 7) (bd_div _ _ (by decide) (by decide))) (cz _)) fun v6 H3 s3 r6 => ?_)
    simp only [Rep] at r6
    subst r6
    have L3 := L2.same (same_trans s2 s3)
    clear s2 s3 L2
    show tSs K T (wpF K T cv (n + 4)) _ cv _ _ [some (.ref a), some (.int last), some (.ref p), x3, some (.bl (decide (2 < last % 7))), some (.ref f.l), some (.int (szD (last / 7) : Nat)), none] H3
    have hz := szD_le (last / 7)
    -- behind the three tests
    have rest : ∀ (H : Hp) (fs' : List Frm) (x5 x6 x7 : Option V), PL K H0 H Z p fs' → absF fs' = tailJ last (absF (f :: fs)) → tSs K T (wpF K T cv (n + 4)) (fun c x _ H => E c x H) cv (.cons (.asg 1 (.bin .fdiv (.var 1) (.con (.int 7)))) (.cons (.whl (.cmp .gt (.len (.var 2)) (.con (.int 1)))
 (.cons (.ite (.cmp .eq (.bin .mod (.var 1) (.con (.int 4))) (.con (.int 0)))
 (.cons (.asg 4 (.con (.bl false))) .nil)
 .nil) (.cons (.ex (.call (s + 7) (.cons (.var 2) (.cons (.bin .fdiv (.var 1) (.con (.int 4))) (.cons (.var 4) .nil))))) (.cons (.asg 1 (.bin .fdiv (.var 1) (.con (.int 4)))) .nil)))) (.cons (.ret (.idx (.idx (.var 2) (.con (.int 0))) (.con (.int 1)))) .nil))) { nx := fun _ H' => Q .non H', rt := Q } [some (.ref a), some (.int last), some (.ref p), x3, some (.bl (decide (2 < last % 7))), x5, x6, x7] H := by
      intro H fs' x5 x6 x7 L4 e4
      obtain ⟨t2, o, h3, h4, h5, h6⟩ := tailJ_ok last h1'
      rw [← e4] at h3 h6 q
      have hlen6 : fs'.length = fs.length + 1 := by
        have : (absF fs').length = (absF (f :: fs)).length := h6
        simpa using this
      have hcl : decide (2 < last % 7) = true → o = false := by
        intro e
        cases o with
        | false => rfl
        | true =>
          have := h4 rfl
          simp at e
          omega
      have hlen2 : t2.length + 60 * fs'.length ≤ 100000 := by omega
      have hq : ∀ v H', Same H0 H' → Rep K (hide Z H') (.lst (closeP (closeJ (fs'.length - 1) (last / 7) (decide (2 < last % 7)) (absF fs')))) v → Q v H' := by
        rw [show (absF fs').length = fs'.length from List.length_map ..] at q
        exact q
      clear q e4 h5 h6 h4
      refine s_seq (s_asg (ρ := [none, some (.int last, false)]) (Z := Z) io (.int (last / 7)) (L4.z zd) (env_n (env_c (rep_int _) env_nil)) (ev_b (ev_v rfl) (ev_ci 7) (bd_div _ _ (by decide) (by decide))) fun v1 H5 s5 r1 => ?_)
      simp only [Rep] at r1
      subst r1
      show tSs K T (wpF K T cv (n + 4)) _ cv _ _ [some (.ref a), some (.int (last / 7)), some (.ref p), x3, some (.bl (decide (2 < last % 7))), x5, x6, x7] H5
      have L5 := L4.same s5
      clear L4 s5
      generalize last / 7 = la at *
      generalize decide (2 < last % 7) = c0 at *
      refine s_seq ?_
      simp only [tS]
      refine ⟨fun m σ H => ∃ fs la c0 o t, m = fs.length ∧ PL K H0 H Z p fs ∧ PileOK o (absF fs) t ∧ (c0 = true → o = false) ∧ t.length + 60 * fs.length ≤ 100000 ∧ (∀ v H', Same H0 H' → Rep K (hide Z H') (.lst (closeP (closeJ (fs.length - 1) la c0 (absF fs)))) v → Q v H') ∧ σ = [some (.ref a), some (.int la), some (.ref p), x3, some (.bl c0), x5, x6, x7], ⟨_, fs', la, c0, o, t2, rfl, L5, h3, hcl, hlen2, hq, rfl⟩, ?_⟩
      clear hq hlen2 hcl h3 hlen6 L5 H5 H
      rintro m σ H ⟨fs', la, c0, o, t2, rfl, L5, h3, hcl, hlen2, hq, rfl⟩
      cases fs' with
      | nil => cases h3
      | cons g gs =>
      obtain ⟨d1, d2, d3, d4, d5⟩ := pile_top h3 (by simp at hlen2; omega)
      refine tE_of (io := io) (ρ := [none, none, some (.lst ((g :: gs).reverse.map frD), false)]) (Z := Z) (.bl (decide (1 < gs.length + 1))) (L5.z zd) (env_n (env_n (env_c (L5.view zd) env_nil))) (ev_cm (ev_ln (ev_v rfl) (len_pile g gs)) (ev_ci 1) (cq_gtn _ 1)) ?_
      intro v H6 s6 rv
      simp only [Rep] at rv
      subst rv
      refine ⟨_, rfl, ?_⟩
      show (if decide (1 < gs.length + 1) = true then _ else _)
      have L6 := L5.same s6
      clear L5
      cases gs with
      | nil =>
        rw [if_neg (by simp)]
        show tSs K T (wpF K T cv (n + 4)) _ cv _ _ [some (.ref a), some (.int la), some (.ref p), x3, some (.bl c0), x5, x6, x7] H6
        refine s_seq ?_
        simp only [tS, tE]
        refine ⟨.ref p, rfl, .inl ⟨p, _, 0, .ref g.t, rfl, rfl, .inl (.inl L6.pp), rfl, r_t1 (L6.tt g (List.mem_cons_self ..)) ?_⟩⟩
        refine hq _ _ L6.sm ?_
        exact L6.lst zd (List.mem_cons_self ..)
      | cons g2 gs =>
        rw [if_pos (by simp)]
        refine ⟨_, fun σ' H' x => x, ?_⟩
        have go : ∀ (D : Ends) (H7 : Hp) (c1 : Bool), Same H6 H7 → (∀ H8 fs8, PL K H0 H8 Z p fs8 → absF fs8 = endTop (tgJ (la / 4) c1) c1 (absF (g :: g2 :: gs)) → D.nx [some (.ref a), some (.int (la / 4)), some (.ref p), x3, some (.bl c1), x5, x6, x7] H8) → tSs K T (wpF K T cv (n + 4)) (fun c x _ H => E c x H) cv (.cons (.ex (.call (s + 7) (.cons (.var 2) (.cons (.bin .fdiv (.var 1) (.con (.int 4))) (.cons (.var 4) .nil))))) (.cons (.asg 1 (.bin .fdiv (.var 1) (.con (.int 4)))) .nil)) D [some (.ref a), some (.int la), some (.ref p), x3, some (.bl c1), x5, x6, x7] H7 := by
          intro D H7 c1 s7 k
          refine s_seq (s_call (a_var rfl (a_ev (ρ := [none, some (.int la, false)]) (Z := Z) io (.int (la / 4)) ((L6.z zd).same s7) (env_n (env_c (rep_int _) env_nil)) (ev_b (ev_v rfl) (ev_ci 4) (bd_div _ _ (by decide) (by decide))) fun v8 H8 s8 r8 => ?_)))
          simp only [Rep] at r8
          subst r8
          refine a_var rfl (a_nil ?_)
          show wpF K T cv (n + 4) (s + 7) [.ref p, .int (la / 4), .bl c1] H8 _ _
          refine w_lend P (n + 1) zd (L6.same (same_trans s7 s8)) (d1 (by simp)) (d4 g2 (by simp)) ?_
          intro H9 fs9 L9 e9
          refine s_seq (s_asg (ρ := [none, some (.int la, false)]) (Z := Z) io (.int (la / 4)) (L9.z zd) (env_n (env_c (rep_int _) env_nil)) (ev_b (ev_v rfl) (ev_ci 4) (bd_div _ _ (by decide) (by decide))) fun va Ha sa ra => ?_)
          simp only [Rep] at ra
          subst ra
          simp only [tSs, tNext]
          exact k Ha fs9 (L9.same sa) e9
        have back : ∀ (H8 : Hp) (fs8 : List Frm) (c1 : Bool), c1 = (c0 && !decide (la % 4 = 0)) → PL K H0 H8 Z p fs8 → absF fs8 = endTop (tgJ (la / 4) c1) c1 (absF (g :: g2 :: gs)) → ∃ m', m' < (g :: g2 :: gs).length ∧ ∃ fs la0 c o t, m' = fs.length ∧ PL K H0 H8 Z p fs ∧ PileOK o (absF fs) t ∧ (c = true → o = false) ∧ t.length + 60 * fs.length ≤ 100000 ∧ (∀ v H', Same H0 H' → Rep K (hide Z H') (.lst (closeP (closeJ (fs.length - 1) la0 c (absF fs)))) v → Q v H') ∧ [some (.ref a), some (.int (la / 4)), some (.ref p), x3, some (.bl c1), x5, x6, x7] = [some (.ref a), some (.int la0), some (.ref p), x3, some (.bl c), x5, x6, x7] := by
          intro H8 fs8 c1 e1 L8 e8
          have h3' : PileOK o ((g.m, g.ds) :: absF (g2 :: gs)) t2 := h3
          obtain ⟨x, k1, k2⟩ := endJ_ok (num := la / 4) (b := c1) h3' (by simp) (fun e => hcl (by rw [e1, Bool.and_eq_true] at e; exact e.1))
          have hl8 : fs8.length = gs.length + 1 := by
            have := congrArg List.length e8
            rw [endTop_plen (by simp)] at this
            simpa using this
          rw [← show absF (g :: g2 :: gs) = (g.m, g.ds) :: absF (g2 :: gs) from rfl, ← e8] at k1
          refine ⟨fs8.length, by rw [hl8]; simp, fs8, la / 4, c1, !c1, _, rfl, L8, k1, fun e => by rw [e]; rfl, ?_, ?_, rfl⟩
          · rw [List.length_append, hl8]
            simp at hlen2
            omega
          · rw [hl8, e8, e1]
            exact hq
        refine s_seq ?_
        have hc4 : evD T io (callD T io X0 1000 (n + 4)) (.cmp .eq (.bin .mod (.var 1) (.con (.int 4))) (.con (.int 0))) (vals [none, some (.int la, false)]) = .ok (.bl (decide (la % 4 = 0))) := ev_cm (ev_b (ev_v rfl) (ev_ci 4) (bd_mod _ _ (by decide))) (ev_ci 0) (cq_i _ _)
        by_cases h0 : la % 4 = 0
        · rw [decide_eq_true h0] at hc4
          refine s_ifT (ρ := [none, some (.int la, false)]) (Z := Z) io (L6.z zd) (env_n (env_c (rep_int _) env_nil)) hc4 fun H7 s7 => s_seq ?_
          refine s_asg (ρ := [none]) (Z := Z) io (.bl false) ((L6.z zd).same s7) (env_n env_nil) (ev_cb _) fun v8 H8 s8 r8 => ?_
          simp only [Rep] at r8
          subst r8
          simp only [tSs, tNext]
          have := go { nx := fun σ' H' => ∃ m', m' < (g :: g2 :: gs).length ∧ ∃ fs la0 c o t, m' = fs.length ∧ PL K H0 H' Z p fs ∧ PileOK o (absF fs) t ∧ (c = true → o = false) ∧ t.length + 60 * fs.length ≤ 100000 ∧ (∀ v H', Same H0 H' → Rep K (hide Z H') (.lst (closeP (closeJ (fs.length - 1) la0 c (absF fs)))) v → Q v H') ∧ σ' = [some (.ref a), some (.int la0), some (.ref p), x3, some (.bl c), x5, x6, x7], rt := Q } H8 false (same_trans s7 s8) (fun H9 fs9 L9 e9 => back H9 fs9 false (by simp [h0]) L9 e9)
          simp only [tSs, tNext] at this
          exact this
        · rw [decide_eq_false h0] at hc4
          refine s_ifF (ρ := [none, some (.int la, false)]) (Z := Z) io (L6.z zd) (env_n (env_c (rep_int _) env_nil)) hc4 fun H7 s7 => ?_
          simp only [tSs, tNext]
          have := go { nx := fun σ' H' => ∃ m', m' < (g :: g2 :: gs).length ∧ ∃ fs la0 c o t, m' = fs.length ∧ PL K H0 H' Z p fs ∧ PileOK o (absF fs) t ∧ (c = true → o = false) ∧ t.length + 60 * fs.length ≤ 100000 ∧ (∀ v H', Same H0 H' → Rep K (hide Z H') (.lst (closeP (closeJ (fs.length - 1) la0 c (absF fs)))) v → Q v H') ∧ σ' = [some (.ref a), some (.int la0), some (.ref p), x3, some (.bl c), x5, x6, x7], rt := Q } H7 c0 s7 (fun H9 fs9 L9 e9 => back H9 fs9 c0 (by simp [h0]) L9 e9)
          simp only [tSs, tNext] at this
          exact this
    have t7 : ∀ {G : Gd}, evD T io G (.bin .mod (.var 1) (.con (.int 7))) (vals [none, some (.int last, false)]) = .ok (.int (last % 7)) := ev_b (ev_v rfl) (ev_ci 7) (bd_mod _ _ (by decide))
    have E1 : ∀ {Z' : Addr → Prop} {H' : Hp} {m : Nat → Bool} {x5 x6 x7 : Option V}, EnvOk K Z' H' m (vals [none, some (.int last, false)]) [some (.ref a), some (.int last), some (.ref p), x3, some (.bl (decide (2 < last % 7))), x5, x6, x7] := env_n (env_c (rep_int _) env_nil)
    have E6 : ∀ {Z' : Addr → Prop} {H' : Hp} {m : Nat → Bool} {x5 x7 : Option V}, EnvOk K Z' H' m (vals [none, some (.int last, false), none, none, none, none, some (.int (szD (last / 7) : Nat), false)]) [some (.ref a), some (.int last), some (.ref p), x3, some (.bl (decide (2 < last % 7))), x5, some (.int (szD (last / 7) : Nat)), x7] := env_n (env_c (rep_int _) (env_n (env_n (env_n (env_n (env_c (rep_int _) env_nil))))))
    have q0 : ∀ {G : Gd} (k : Int), evD T io G (.cmp .eq (.bin .mod (.var 1) (.con (.int 7))) (.con (.int k))) (vals [none, some (.int last, false)]) = .ok (.bl (decide (last % 7 = k))) := fun k => ev_cm t7 (ev_ci k) (cq_i _ _)
    have hte : tailJ last (absF (f :: fs)) = (if last % 7 = 0 then (f.m, f.ds ++ [.tup [.str wKept, .str []]]) :: absF fs
    else if last % 7 = 1 then (f.m, f.ds ++ [.tup [.str wCode, .str (wdD (last / 7) (szD (last / 7)) 96), .bl false]]) :: absF fs
    else if (decide (last % 7 = 2) && decide (fs.length + 1 < 13)) = true then (f.m, f.ds ++ [.tup [.str wLink, .lst (lbD (last / 21) (fs.length + 1)), .str (wdD (last / 7) (szD (last / 7)) 41), .bl false]]) :: absF fs
    else absF (f :: fs)) := by
      show (if last % 7 = 0 then _ else if last % 7 = 1 then _ else if (decide (last % 7 = 2) && decide ((absF fs).length + 1 < 13)) = true then (f.m, f.ds ++ [.tup [.str wLink, .lst (lbD (last / 21) ((absF fs).length + 1)), _, _]]) :: absF fs else _) = _
      rw [show (absF fs).length = fs.length from List.length_map ..]
      rfl
    rw [hte] at rest
    clear hte q h1'
    refine s_seq ?_
    by_cases k0 : last % 7 = 0
    · rw [if_pos k0] at rest
      refine s_ifT (ρ := [none, some (.int last, false)]) (Z := Z) io (L3.z zd) E1 ((q0 0).trans (by rw [decide_eq_true k0])) fun H4 s4 => s_seq ?_
      refine s_pushE (ρ := [none, some (.int last, false)]) io (.tup [.str wKept, .str []]) zd (L3.same s4) rfl E1 (ev_tp (ea_c (ev_cs _) (ea_c (ev_cs _) ea_n)) (by simp)) bf fun H5 v5 L5 => ?_
      show tSs K T (wpF K T cv (n + 4)) (fun c x _ H => E c x H) cv .nil _ _ _
      refine s_nil (s_seq ?_)
      refine s_ifF (ρ := [none, some (.int last, false)]) (Z := Z) io (L5.z zd) E1 ((q0 1).trans (by rw [decide_eq_false (by omega)])) fun H6 s6 => s_nil (s_seq ?_)
      refine s_ifF (ρ := [none, some (.int last, false)]) (Z := Z) io ((L5.z zd).same s6) E1 (ev_andF ((q0 2).trans (by rw [decide_eq_false (by omega)]))) fun H7 s7 => s_nil ?_
      exact rest H7 _ _ _ _ (L5.same (same_trans s6 s7)) rfl
    rw [if_neg k0] at rest
    refine s_ifF (ρ := [none, some (.int last, false)]) (Z := Z) io (L3.z zd) E1 ((q0 0).trans (by rw [decide_eq_false k0])) fun H4 s4 => s_nil (s_seq ?_)
    by_cases k1 : last % 7 = 1
    · rw [if_pos k1] at rest
      refine s_ifT (ρ := [none, some (.int last, false)]) (Z := Z) io ((L3.z zd).same s4) E1 ((q0 1).trans (by rw [decide_eq_true k1])) fun H5 s5 => s_seq ?_
      refine s_pushE io (.tup [.str wCode, .str (wdD (last / 7) (szD (last / 7)) 96), .bl false]) zd (L3.same (same_trans s4 s5)) rfl E6 (ev_tp (ea_c (ev_cs _) (ea_c (ev_f3 P.i4 (ev_b (ev_v rfl) (ev_ci 7) (bd_div _ _ (by decide) (by decide))) (ev_v rfl) (ev_cs _) (cw _ _ _ (by omega) (by decide))) (ea_c (ev_cb _) ea_n))) (by simp)) bf fun H6 v5 L5 => ?_
      show tSs K T (wpF K T cv (n + 4)) (fun c x _ H => E c x H) cv .nil _ _ _
      refine s_nil (s_seq ?_)
      refine s_ifF (ρ := [none, some (.int last, false)]) (Z := Z) io (L5.z zd) E1 (ev_andF ((q0 2).trans (by rw [decide_eq_false (by omega)]))) fun H7 s7 => s_nil ?_
      exact rest H7 _ _ _ _ (L5.same s7) rfl
    rw [if_neg k1] at rest
    refine s_ifF (ρ := [none, some (.int last, false)]) (Z := Z) io ((L3.z zd).same s4) E1 ((q0 1).trans (by rw [decide_eq_false k1])) fun H5 s5 => s_nil (s_seq ?_)
    have L5 := L3.same (same_trans s4 s5)
    clear s4 s5 L3
    have EP : ∀ {H' : Hp} {m : Nat → Bool} {x5 x6 x7 : Option V}, Same H5 H' → EnvOk K Z H' m (vals [none, some (.int last, false), some (.lst ((f :: fs).reverse.map frD), false)]) [some (.ref a), some (.int last), some (.ref p), x3, some (.bl (decide (2 < last % 7))), x5, x6, x7] := fun s => env_n (env_c (rep_int _) (env_c ((L5.same s).view zd) env_nil))
    have t72 : ∀ {G : Gd}, evD T io G (.bin .mod (.var 1) (.con (.int 7))) (vals [none, some (.int last, false), some (.lst ((f :: fs).reverse.map frD), false)]) = .ok (.int (last % 7)) := ev_b (ev_v rfl) (ev_ci 7) (bd_mod _ _ (by decide))
    have hc : evD T io (callD T io X0 1000 (n + 4)) (.and (.cmp .eq (.bin .mod (.var 1) (.con (.int 7))) (.con (.int 2))) (.cmp .lt (.len (.var 2)) (.con (.int 13)))) (vals [none, some (.int last, false), some (.lst ((f :: fs).reverse.map frD), false)]) = .ok (.bl (decide (last % 7 = 2) && decide (fs.length + 1 < 13))) :=
      ev_andB (ev_cm t72 (ev_ci 2) (cq_i _ _)) (ev_cm (ev_ln (ev_v rfl) (len_pile f fs)) (ev_ci 13) (cq_ltn _ 13))
    cases h2 : (decide (last % 7 = 2) && decide (fs.length + 1 < 13)) with
    | false =>
      rw [h2] at hc
      rw [if_neg (nt h2)] at rest
      refine s_ifF (Z := Z) io (L5.z zd) (EP fun _ _ h => h) hc fun H6 s6 => s_nil ?_
      exact rest H6 _ _ _ _ (L5.same s6) rfl
    | true =>
      rw [h2] at hc
      rw [if_pos h2] at rest
      refine s_ifT (Z := Z) io (L5.z zd) (EP fun _ _ h => h) hc fun H6 s6 => s_seq ?_
      refine s_asgcall (a_ev (ρ := [none, some (.int last, false)]) (Z := Z) io (.int (last / 21)) ((L5.z zd).same s6) E1 (ev_b (ev_v rfl) (ev_ci 21) (bd_div _ _ (by decide) (by decide))) fun va Ha sa ra => ?_)
      simp only [Rep] at ra
      subst ra
      refine a_ev (ρ := [none, some (.int last, false), some (.lst ((f :: fs).reverse.map frD), false)]) (Z := Z) io (.int ((fs.length + 1 : Nat) : Int)) ((L5.z zd).same (same_trans s6 sa)) (EP (same_trans s6 sa)) (ev_ln (ev_v rfl) (len_pile f fs)) fun vb Hb sb rb => a_nil ?_
      simp only [Rep] at rb
      subst rb
      have s6b := same_trans (same_trans s6 sa) sb
      refine call_pure (io := io) ext0 P.i9 (cl (last / 21) (fs.length + 1)) (Z := MZ Z p (f :: fs)) ((L5.same s6b).mz zd) (repL_cons (rep_int _) (repL_cons (rep_int _) repL_nil)) ?_
      intro v7 H7 s7' r7
      have s7 : Same H6 H7 := same_trans (same_trans sa sb) s7'
      show tSs K T (wpF K T cv (n + 4)) _ cv _ _ [some (.ref a), some (.int last), some (.ref p), x3, some (.bl (decide (2 < last % 7))), some (.ref f.l), some (.int (szD (last / 7) : Nat)), some v7] H7
      refine s_seq (s_pushE (ρ := [none, some (.int last, false), none, none, none, none, some (.int (szD (last / 7) : Nat), false), some (.lst (lbD (last / 21) (fs.length + 1)), false)]) io (.tup [.str wLink, .lst (lbD (last / 21) (fs.length + 1)), .str (wdD (last / 7) (szD (last / 7)) 41), .bl false]) zd (L5.same (same_trans s6 s7)) rfl ?_ ?_ bf fun H8 v8 L8 => ?_)
      · exact env_n (env_c (rep_int _) (env_n (env_n (env_n (env_n (env_c (rep_int _) (env_c r7 env_nil)))))))
      · exact ev_tp (ea_c (ev_cs _) (ea_c (ev_v rfl) (ea_c (ev_f3 P.i4 (ev_b (ev_v rfl) (ev_ci 7) (bd_div _ _ (by decide) (by decide))) (ev_v rfl) (ev_cs _) (cw _ _ _ (by omega) (by decide))) (ea_c (ev_cb _) ea_n)))) (by simp)
      show tSs K T (wpF K T cv (n + 4)) (fun c x _ H => E c x H) cv .nil _ _ _
      refine s_nil ?_
      exact rest H8 _ _ _ _ L8 rfl
def lpG : List Dat → Rs Dat
  | [.lst xs, .int last] => match intsOf xs with
    | some cells => .chk (leq cells.length 1000) (.ok (.lst (lpD cells last)))
    | none => .er
  | _ => .er
theorem lpG_ok (cells : List Int) (last : Int) (hl : cells.length ≤ 1000) : lpG [.lst (cells.map .int), .int last] = .ok (.lst (lpD cells last)) := by
  show (match intsOf (cells.map .int) with
    | some cells => Rs.chk (leq cells.length 1000) (Rs.ok (Dat.lst (lpD cells last)))
    | none => .er) = _
  rw [intsOf_map]
  exact chk_leq hl _
theorem lparts_pure (P : BT T io s) (n : Nat) (hn : 5 ≤ n) : PureF K cv (wpF K T cv n (s + 10)) lpG := by
  obtain ⟨n, rfl⟩ : ∃ m, n = m + 5 := ⟨n - 5, by omega⟩
  intro ds vs Z H Q E zd r h
  unfold lpG at h
  split at h
  · rename_i xs last
    split at h
    · rename_i cells hi
      have e1 := intsOf_eq hi
      subst e1
      cases hk : (leq cells.length 1000) with
      | false =>
        rw [hk] at h
        exact h.elim
      | true =>
        rw [hk] at h
        simp only [RepL] at r
        obtain ⟨v1, r1, rfl, ra, v2, r2, rfl, rb, rfl⟩ := r
        simp only [Rep] at ra rb
        subst rb
        obtain ⟨a, us, rfl, hh, rr⟩ := ra
        have e2 := ints_inv rr
        subst e2
        have h1 := (hide_some hh).1
        exact w_lparts P n zd (SqL.of h1) (leq_ok hk) h fun H' s => SqL.of (s _ _ h1)
    · exact h.elim
  · exact h.elim
end
end Fw

set_option maxHeartbeats 4000000
namespace Fw
open PySem PySem.Spec PyProof.Rows L2
/-! ### a law's own row and words of parts -/
def bLRow (r : Nat) : Sms := (.cons (.asg 1 (.con (vS []))) (.cons (.for_ 2 (.ls (.var 0))
 (.cons (.ite (.isi (.var 2) "str")
 (.cons (.asg 1 (.bin .add (.var 1) (.var 2))) .nil)
 (.cons (.ite (.cmp .eq (.idx (.var 2) (.con (.int 0))) (.con (vS [107, 101, 112, 116])))
 (.cons (.asg 1 (.bin .add (.bin .add (.var 1) (.con (vS [92]))) (.idx (.var 2) (.con (.int 1))))) .nil)
 (.cons (.ite (.cmp .eq (.idx (.var 2) (.con (.int 0))) (.con (vS [99, 111, 100, 101])))
 (.cons (.asg 1 (.bin .add (.bin .add (.bin .add (.var 1) (.con (vS [96]))) (.idx (.var 2) (.con (.int 1)))) (.bin .mul (.con (vS [96])) (.int (.idx (.var 2) (.con (.int 2))))))) .nil)
 (.cons (.ite (.cmp .eq (.idx (.var 2) (.con (.int 0))) (.con (vS [115, 112, 97, 110])))
 (.cons (.asg 1 (.bin .add (.bin .add (.bin .add (.var 1) (.idx (.var 2) (.con (.int 1)))) (.con (vS [40]))) (.call r (.cons (.idx (.var 2) (.con (.int 2))) .nil)))) (.cons (.asg 1 (.bin .add (.var 1) (.bin .mul (.con (vS [41])) (.int (.idx (.var 2) (.con (.int 3))))))) .nil))
 (.cons (.ite (.cmp .is_ (.idx (.var 2) (.con (.int 2))) (.con .non))
 (.cons (.asg 1 (.bin .add (.bin .add (.bin .add (.var 1) (.con (vS [91]))) (.call r (.cons (.idx (.var 2) (.con (.int 1))) .nil))) (.bin .mul (.con (vS [93])) (.int (.idx (.var 2) (.con (.int 3))))))) .nil)
 (.cons (.asg 1 (.bin .add (.bin .add (.bin .add (.var 1) (.con (vS [91]))) (.call r (.cons (.idx (.var 2) (.con (.int 1))) .nil))) (.con (vS [93, 40])))) (.cons (.asg 1 (.bin .add (.bin .add (.var 1) (.idx (.var 2) (.con (.int 2)))) (.bin .mul (.con (vS [41])) (.int (.idx (.var 2) (.con (.int 3))))))) .nil))) .nil)) .nil)) .nil)) .nil)) .nil)) (.cons (.ret (.var 1)) .nil)))
def dLRow (r : Nat) : FDef := ⟨("_law_row" : Str), [("_law_parts_here" : Str), ("_law_row_here" : Str), ("_law_part" : Str)], 1, bLRow r⟩
def bWo (r : Nat) : Sms := (.cons (.asg 1 (.con (vS []))) (.cons (.for_ 2 (.ls (.var 0))
 (.cons (.ite (.isi (.var 2) "str")
 (.cons (.asg 1 (.bin .add (.var 1) (.var 2))) .nil)
 (.cons (.ite (.cmp .eq (.idx (.var 2) (.con (.int 0))) (.con (vS [115, 112, 97, 110])))
 (.cons (.asg 1 (.bin .add (.var 1) (.call r (.cons (.idx (.var 2) (.con (.int 2))) .nil)))) .nil)
 (.cons (.asg 1 (.bin .add (.var 1) (.ite (.cmp .eq (.idx (.var 2) (.con (.int 0))) (.con (vS [108, 105, 110, 107]))) (.call r (.cons (.idx (.var 2) (.con (.int 1))) .nil)) (.idx (.var 2) (.con (.int 1)))))) .nil)) .nil)) .nil)) (.cons (.ret (.var 1)) .nil)))
def dWo (r : Nat) : FDef := ⟨("words_of" : Str), [("parts" : Str), ("found" : Str), ("part" : Str)], 1, bWo r⟩
def bSd (r : Nat) : Sms := (.cons (.asg 1 (.con (vS []))) (.cons (.for_ 2 (.ls (.var 0))
 (.cons (.ite (.isi (.var 2) "str")
 (.cons (.asg 1 (.bin .add (.var 1) (.var 2))) .nil)
 (.cons (.ite (.or (.cmp .eq (.idx (.var 2) (.con (.int 0))) (.con (vS [107, 101, 112, 116]))) (.cmp .eq (.idx (.var 2) (.con (.int 0))) (.con (vS [99, 111, 100, 101]))))
 (.cons (.asg 1 (.bin .add (.var 1) (.idx (.var 2) (.con (.int 1))))) .nil)
 (.cons (.asg 1 (.bin .add (.var 1) (.call r (.cons (.idx (.var 2) (.bin .add (.con (.int 1)) (.int (.cmp .eq (.idx (.var 2) (.con (.int 0))) (.con (vS [115, 112, 97, 110])))))) .nil)))) .nil)) .nil)) .nil)) (.cons (.ret (.var 1)) .nil)))
def dSd (r : Nat) : FDef := ⟨("_law_said" : Str), [("_law_parts_here" : Str), ("_law_words_here" : Str), ("_law_part" : Str)], 1, bSd r⟩
def bLRow1 (r : Nat) : Sms := (.cons (.ite (.isi (.var 2) "str")
 (.cons (.asg 1 (.bin .add (.var 1) (.var 2))) .nil)
 (.cons (.ite (.cmp .eq (.idx (.var 2) (.con (.int 0))) (.con (vS [107, 101, 112, 116])))
 (.cons (.asg 1 (.bin .add (.bin .add (.var 1) (.con (vS [92]))) (.idx (.var 2) (.con (.int 1))))) .nil)
 (.cons (.ite (.cmp .eq (.idx (.var 2) (.con (.int 0))) (.con (vS [99, 111, 100, 101])))
 (.cons (.asg 1 (.bin .add (.bin .add (.bin .add (.var 1) (.con (vS [96]))) (.idx (.var 2) (.con (.int 1)))) (.bin .mul (.con (vS [96])) (.int (.idx (.var 2) (.con (.int 2))))))) .nil)
 (.cons (.ite (.cmp .eq (.idx (.var 2) (.con (.int 0))) (.con (vS [115, 112, 97, 110])))
 (.cons (.asg 1 (.bin .add (.bin .add (.bin .add (.var 1) (.idx (.var 2) (.con (.int 1)))) (.con (vS [40]))) (.call r (.cons (.idx (.var 2) (.con (.int 2))) .nil)))) (.cons (.asg 1 (.bin .add (.var 1) (.bin .mul (.con (vS [41])) (.int (.idx (.var 2) (.con (.int 3))))))) .nil))
 (.cons (.ite (.cmp .is_ (.idx (.var 2) (.con (.int 2))) (.con .non))
 (.cons (.asg 1 (.bin .add (.bin .add (.bin .add (.var 1) (.con (vS [91]))) (.call r (.cons (.idx (.var 2) (.con (.int 1))) .nil))) (.bin .mul (.con (vS [93])) (.int (.idx (.var 2) (.con (.int 3))))))) .nil)
 (.cons (.asg 1 (.bin .add (.bin .add (.bin .add (.var 1) (.con (vS [91]))) (.call r (.cons (.idx (.var 2) (.con (.int 1))) .nil))) (.con (vS [93, 40])))) (.cons (.asg 1 (.bin .add (.bin .add (.var 1) (.idx (.var 2) (.con (.int 2)))) (.bin .mul (.con (vS [41])) (.int (.idx (.var 2) (.con (.int 3))))))) .nil))) .nil)) .nil)) .nil)) .nil)) .nil)
def bWo1 (r : Nat) : Sms := (.cons (.ite (.isi (.var 2) "str")
 (.cons (.asg 1 (.bin .add (.var 1) (.var 2))) .nil)
 (.cons (.ite (.cmp .eq (.idx (.var 2) (.con (.int 0))) (.con (vS [115, 112, 97, 110])))
 (.cons (.asg 1 (.bin .add (.var 1) (.call r (.cons (.idx (.var 2) (.con (.int 2))) .nil)))) .nil)
 (.cons (.asg 1 (.bin .add (.var 1) (.ite (.cmp .eq (.idx (.var 2) (.con (.int 0))) (.con (vS [108, 105, 110, 107]))) (.call r (.cons (.idx (.var 2) (.con (.int 1))) .nil)) (.idx (.var 2) (.con (.int 1)))))) .nil)) .nil)) .nil)
def bSd1 (r : Nat) : Sms := (.cons (.ite (.isi (.var 2) "str")
 (.cons (.asg 1 (.bin .add (.var 1) (.var 2))) .nil)
 (.cons (.ite (.or (.cmp .eq (.idx (.var 2) (.con (.int 0))) (.con (vS [107, 101, 112, 116]))) (.cmp .eq (.idx (.var 2) (.con (.int 0))) (.con (vS [99, 111, 100, 101]))))
 (.cons (.asg 1 (.bin .add (.var 1) (.idx (.var 2) (.con (.int 1))))) .nil)
 (.cons (.asg 1 (.bin .add (.var 1) (.call r (.cons (.idx (.var 2) (.bin .add (.con (.int 1)) (.int (.cmp .eq (.idx (.var 2) (.con (.int 0))) (.con (vS [115, 112, 97, 110])))))) .nil)))) .nil)) .nil)) .nil)

def wE (rec : List Dat → List Nat) : Dat → List Nat
  | .str w => w
  | .tup [_, .str w] => w
  | .tup [_, .str w, .bl _] => w
  | .tup [_, .str _, .lst es, .bl _] => rec es
  | .tup [_, .lst es, _, .bl _] => rec es
  | _ => []
/-- the words of parts -/
def wL : Nat → List Dat → List Nat
  | 0, ds => (ds.map (wE fun _ => [])).flatten
  | n + 1, ds => (ds.map (wE (wL n))).flatten
def wF : Nat → Dat → List Nat
  | 0 => wE fun _ => []
  | n + 1 => wE (wL n)
theorem wL_eq (n : Nat) (ds : List Dat) : wL n ds = (ds.map (wF n)).flatten := by
  cases n <;> rfl
theorem wL_snoc (n : Nat) (ds : List Dat) (p : Dat) : wL n (ds ++ [p]) = wL n ds ++ wF n p := by
  rw [wL_eq, wL_eq]
  simp
theorem wL_len : ∀ (n : Nat) {mk : List Nat} {o : Bool} {ds : List Dat} {t : List Nat}, PLo n mk o ds t → (wL n ds).length ≤ t.length ∧ ∀ {l : Bool} {a : Option Dat} {p : Dat} {tp : List Nat}, POK n mk l a p tp → (wF n p).length ≤ tp.length := by
  have fl : ∀ {n k : Nat} {mk : List Nat} {l : Bool} {a : Option Dat} {p : Dat} {tp : List Nat}, Fl n mk l a p tp → (wF k p).length ≤ tp.length := by
    intro n k mk l a p tp h
    have e : ∀ rec, (wE rec p).length ≤ tp.length := by
      intro rec
      cases h with
      | txt => exact Nat.le_refl _
      | kept w => simp [wE]
      | code w b => simp [wE]; omega
    cases k with
    | zero => exact e _
    | succ k => exact e _
  have up : ∀ (n : Nat) (mk : List Nat), (∀ {l : Bool} {a : Option Dat} {p : Dat} {tp : List Nat}, POK n mk l a p tp → (wF n p).length ≤ tp.length) → ∀ {o : Bool} {ds : List Dat} {t : List Nat}, PLo n mk o ds t → (wL n ds).length ≤ t.length := by
    intro n mk hp o ds t h
    induction h with
    | nil => rw [wL_eq]; simp
    | snoc h hq ih =>
      rw [wL_snoc, List.length_append, List.length_append]
      have := hp hq
      omega
  intro n
  induction n with
  | zero =>
    intro mk o ds t h
    have hp : ∀ {l : Bool} {a : Option Dat} {p : Dat} {tp : List Nat}, POK 0 mk l a p tp → (wF 0 p).length ≤ tp.length := fun h => fl h
    exact ⟨up 0 mk hp h, hp⟩
  | succ n ih =>
    intro mk o ds t h
    have hp : ∀ {l : Bool} {a : Option Dat} {p : Dat} {tp : List Nat}, POK (n + 1) mk l a p tp → (wF (n + 1) p).length ≤ tp.length := by
      intro l a p tp h
      rcases h with h | h
      · exact fl h
      · cases h with
        | span m b _ es u hm hb h =>
          have := (ih h).1
          show (wL n es).length ≤ _
          simp
          omega
        | linkN b _ es u hb h =>
          have := (ih h).1
          show (wL n es).length ≤ _
          simp
          omega
        | linkT tg b _ es u hb h1 h2 h =>
          have := (ih h).1
          show (wL n es).length ≤ _
          simp
          omega
    exact ⟨up (n + 1) mk hp h, hp⟩
section
variable {T : Tbl} {io : Nat → Bool} {X : Exn} {wf r : Nat}
section
variable {G : Gd} {a0 : Option (Dat × Bool)} {r0 : DS}
theorem ev_int1 {e : Ex} {b : Bool} (h : evD T io G e (vals (a0 :: r0)) = .ok (.bl b)) : evD T io G (.int e) (vals (a0 :: r0)) = .ok (.int (if b = true then 1 else 0)) := by
  rw [ev_int, h, bind_ok]
  cases b <;> rfl
theorem ev_iteT {c x y : Ex} {d : Dat} (h : evD T io G c (vals (a0 :: r0)) = .ok (.bl true)) (h2 : evD T io G x (vals (a0 :: r0)) = .ok d) : evD T io G (.ite c x y) (vals (a0 :: r0)) = .ok d := by
  rw [ev_ite, h, bind_ok]
  exact h2
theorem ev_iteF {c x y : Ex} {d : Dat} (h : evD T io G c (vals (a0 :: r0)) = .ok (.bl false)) (h2 : evD T io G y (vals (a0 :: r0)) = .ok d) : evD T io G (.ite c x y) (vals (a0 :: r0)) = .ok d := by
  rw [ev_ite, h, bind_ok]
  exact h2
theorem ev_rb {e : Ex} {b : Bool} (c : Nat) (h : evD T io G e (vals (a0 :: r0)) = .ok (.bl b)) : evD T io G (.bin .mul (.con (vS [c])) (.int e)) (vals (a0 :: r0)) = .ok (.str (if b = true then [c] else [])) := by
  refine ev_b (ev_cs _) (ev_int1 h) ?_
  cases b with
  | true => exact bd_rep _ _ (by decide) (by decide) (by simp) (by simp)
  | false => exact bd_rep _ _ (by decide) (by decide) (by simp) (by simp)
end
theorem tag0 {G : Gd} {D : Dat} {acc k : List Nat} {rs : List Dat} : evD T io G (.idx (.var 2) (.con (.int 0))) (vals [some (D, false), some (.str acc, false), some (.tup (.str k :: rs), false)]) = .ok (.str k) := ev_i (ev_v rfl) (ev_ci 0) (by simp)
theorem at1 {G : Gd} {D x y : Dat} {acc : List Nat} {rs : List Dat} : evD T io G (.idx (.var 2) (.con (.int 1))) (vals [some (D, false), some (.str acc, false), some (.tup (x :: y :: rs), false)]) = .ok y := ev_i (ev_v rfl) (ev_ci 1) (by simp)
theorem at2 {G : Gd} {D x y z : Dat} {acc : List Nat} {rs : List Dat} : evD T io G (.idx (.var 2) (.con (.int 2))) (vals [some (D, false), some (.str acc, false), some (.tup (x :: y :: z :: rs), false)]) = .ok z := ev_i (ev_v rfl) (ev_ci 2) (by simp)
theorem at3 {G : Gd} {D x y z u : Dat} {acc : List Nat} {rs : List Dat} : evD T io G (.idx (.var 2) (.con (.int 3))) (vals [some (D, false), some (.str acc, false), some (.tup (x :: y :: z :: u :: rs), false)]) = .ok u := ev_i (ev_v rfl) (ev_ci 3) (by simp)
theorem tagq {G : Gd} {D : Dat} {acc k : List Nat} {rs : List Dat} (w : List Nat) : evD T io G (.cmp .eq (.idx (.var 2) (.con (.int 0))) (.con (vS w))) (vals [some (D, false), some (.str acc, false), some (.tup (.str k :: rs), false)]) = .ok (.bl (decide (k = w))) := ev_cm tag0 (ev_cs _) (cq_s _ _)
theorem ist {G : Gd} {D : Dat} {acc : List Nat} {rs : List Dat} : evD T io G (.isi (.var 2) "str") (vals [some (D, false), some (.str acc, false), some (.tup rs, false)]) = .ok (.bl false) := ev_ie (ev_v rfl) (by simp)
theorem jrow_step {G : Gd} (hio : io r = false) {n : Nat} {mk : List Nat} {l : Bool} {a : Option Dat} {p : Dat} {tp : List Nat} (h : POK n mk l a p tp) (hG : ∀ k, n = k + 1 → ∀ mk o es u, PLo k mk o es u → u.length ≤ 1000000 → G r [.lst es] = .ok (.str u, [])) (D : Dat) (acc : List Nat) (hl : (acc ++ tp).length ≤ 1000000) :
    Sat (exDs T io G wf false (bLRow1 r) [some (D, false), some (.str acc, false), some (p, false)]) (fun ρ => ∃ x, ρ = [some (D, false), some (.str (acc ++ tp), false), x]) (fun ρ => ∃ x, ρ = [some (D, false), some (.str (acc ++ tp), false), x]) (fun _ => False) := by
  rw [List.length_append] at hl
  have fl : ∀ {n : Nat}, Fl n mk l a p tp → Sat (exDs T io G wf false (bLRow1 r) [some (D, false), some (.str acc, false), some (p, false)]) (fun ρ => ∃ x, ρ = [some (D, false), some (.str (acc ++ tp), false), x]) (fun ρ => ∃ x, ρ = [some (D, false), some (.str (acc ++ tp), false), x]) (fun _ => False) := by
    intro n h
    unfold bLRow1
    cases h with
    | txt =>
      refine sat_cons (sat_ite true (ev_ie (ev_v rfl) (isi_str_str _)) (fun _ => ?_) (fun e => by cases e))
      exact sat_cons (sat_asgS _ (by simp) (ev_b (ev_v rfl) (ev_v rfl) (bd_cat _ _ (by omega))) (sat_nil (sat_nil ⟨_, rfl⟩)))
    | kept k =>
      rw [List.length_cons] at hl
      refine sat_cons (sat_ite false ist (fun e => by cases e) (fun _ => ?_))
      refine sat_cons (sat_ite true (tagq _) (fun _ => ?_) (fun e => by cases e))
      refine sat_cons (sat_asgS (acc ++ 92 :: k) (by simp) ?_ (sat_nil (sat_nil (sat_nil ⟨_, rfl⟩))))
      refine ev_b (ev_b (ev_v rfl) (ev_cs [92]) (bd_cat _ _ (by rw [List.length_singleton]; omega))) at1 ?_
      rw [bd_cat _ _ (by rw [List.length_append, List.length_singleton]; omega), List.append_assoc]
      rfl
    | code w b =>
      rw [List.length_append, List.length_cons] at hl
      refine sat_cons (sat_ite false ist (fun e => by cases e) (fun _ => ?_))
      refine sat_cons (sat_ite false (tagq _) (fun e => by cases e) (fun _ => ?_))
      refine sat_cons (sat_ite true (tagq _) (fun _ => ?_) (fun e => by cases e))
      refine sat_cons (sat_asgS (acc ++ (96 :: w ++ if b = true then [96] else [])) (by simp) ?_ (sat_nil (sat_nil (sat_nil (sat_nil ⟨_, rfl⟩)))))
      refine ev_b (ev_b (ev_b (ev_v rfl) (ev_cs [96]) (bd_cat _ _ (by rw [List.length_singleton]; omega))) at1 (bd_cat _ _ (by rw [List.length_append, List.length_singleton]; omega))) (ev_rb 96 at2) ?_
      rw [bd_cat _ _ (by rw [List.length_append, List.length_append, List.length_singleton]; omega)]
      simp
  cases n with
  | zero => exact fl h
  | succ n =>
    rcases h with h | h
    · exact fl h
    · unfold bLRow1
      cases h with
      | span m b _ es u hm hb h =>
        rw [List.length_append, List.length_append] at hl
        simp only [List.length_cons, List.length_nil] at hl
        have hg := hG n rfl _ _ _ _ h (by omega)
        refine sat_cons (sat_ite false ist (fun e => by cases e) (fun _ => ?_))
        refine sat_cons (sat_ite false (tagq _) (fun e => by cases e) (fun _ => ?_))
        refine sat_cons (sat_ite false (tagq _) (fun e => by cases e) (fun _ => ?_))
        refine sat_cons (sat_ite true (tagq _) (fun _ => ?_) (fun e => by cases e))
        refine sat_cons (sat_asgS (acc ++ [m] ++ [40] ++ u) (by simp) (ev_b (ev_b (ev_b (ev_v rfl) at1 (bd_cat _ _ (by rw [List.length_singleton]; omega))) (ev_cs [40]) (bd_cat _ _ (by simp; omega))) (ev_f1 hio at2 hg) (bd_cat _ _ (by simp; omega))) ?_)
        simp only [List.set_cons_succ, List.set_cons_zero]
        refine sat_cons (sat_asgS (acc ++ [m] ++ [40] ++ u ++ if b = true then [41] else []) (by simp) (ev_b (ev_v rfl) (ev_rb 41 at3) (bd_cat _ _ (by simp; omega))) (sat_nil (sat_nil (sat_nil (sat_nil (sat_nil ⟨some (.tup [.str wSpan, .str [m], .lst es, .bl b], false), ?_⟩))))))
        simp
      | linkN b _ es u hb h =>
        rw [List.length_append, List.length_append] at hl
        simp only [List.length_cons, List.length_nil] at hl
        have hg := hG n rfl _ _ _ _ h (by omega)
        refine sat_cons (sat_ite false ist (fun e => by cases e) (fun _ => ?_))
        refine sat_cons (sat_ite false (tagq _) (fun e => by cases e) (fun _ => ?_))
        refine sat_cons (sat_ite false (tagq _) (fun e => by cases e) (fun _ => ?_))
        refine sat_cons (sat_ite false (tagq _) (fun e => by cases e) (fun _ => ?_))
        refine sat_cons (sat_ite true (ev_cm at2 ev_cn rfl) (fun _ => ?_) (fun e => by cases e))
        refine sat_cons (sat_asgS (acc ++ [91] ++ u ++ if b = true then [93] else []) (by simp) (ev_b (ev_b (ev_b (ev_v rfl) (ev_cs [91]) (bd_cat _ _ (by rw [List.length_singleton]; omega))) (ev_f1 hio at1 hg) (bd_cat _ _ (by simp; omega))) (ev_rb 93 at3) (bd_cat _ _ (by simp; omega))) (sat_nil (sat_nil (sat_nil (sat_nil (sat_nil (sat_nil ⟨some (.tup [.str wLink, .lst es, .non, .bl b], false), ?_⟩)))))))
        simp
      | linkT tg b _ es u hb h1 h2 h =>
        rw [List.length_append, List.length_append, List.length_append, List.length_append] at hl
        simp only [List.length_cons, List.length_nil] at hl
        have hg := hG n rfl _ _ _ _ h (by omega)
        refine sat_cons (sat_ite false ist (fun e => by cases e) (fun _ => ?_))
        refine sat_cons (sat_ite false (tagq _) (fun e => by cases e) (fun _ => ?_))
        refine sat_cons (sat_ite false (tagq _) (fun e => by cases e) (fun _ => ?_))
        refine sat_cons (sat_ite false (tagq _) (fun e => by cases e) (fun _ => ?_))
        refine sat_cons (sat_ite false (ev_cm at2 ev_cn rfl) (fun e => by cases e) (fun _ => ?_))
        refine sat_cons (sat_asgS (acc ++ [91] ++ u ++ [93, 40]) (by simp) (ev_b (ev_b (ev_b (ev_v rfl) (ev_cs [91]) (bd_cat _ _ (by rw [List.length_singleton]; omega))) (ev_f1 hio at1 hg) (bd_cat _ _ (by simp; omega))) (ev_cs [93, 40]) (bd_cat _ _ (by simp; omega))) ?_)
        simp only [List.set_cons_succ, List.set_cons_zero]
        refine sat_cons (sat_asgS (acc ++ [91] ++ u ++ [93, 40] ++ tg ++ if b = true then [41] else []) (by simp) (ev_b (ev_b (ev_v rfl) at2 (bd_cat _ _ (by simp; omega))) (ev_rb 41 at3) (bd_cat _ _ (by simp; omega))) (sat_nil (sat_nil (sat_nil (sat_nil (sat_nil (sat_nil ⟨some (.tup [.str wLink, .lst es, .str tg, .bl b], false), ?_⟩)))))))
        simp
/-- _law_row of good parts is what they show -/
theorem c_jrow (hf : T.fns[r]? = some (dLRow r)) (hio : io r = false) (hx : X r = none) : ∀ (n : Nat) {mk : List Nat} {o : Bool} {ds : List Dat} {t : List Nat}, PLo n mk o ds t → t.length ≤ 1000000 → ∀ m, n + 1 ≤ m → callD T io X wf m r [.lst ds] = .ok (.str t, []) := by
  have all : ∀ (n : Nat) {mk : List Nat} {o : Bool} {ds : List Dat} {t : List Nat}, PLo n mk o ds t → t.length ≤ 1000000 → ∀ m, (∀ k, n = k + 1 → ∀ mk o es u, PLo k mk o es u → u.length ≤ 1000000 → callD T io X wf m r [.lst es] = .ok (.str u, [])) → callD T io X wf (m + 1) r [.lst ds] = .ok (.str t, []) := by
    intro n mk o ds t h hl m hG
    rw [call_gen hx hf m _ rfl, hio]
    show outD false (exDs T io (callD T io X wf m) wf false (bLRow r) [some (.lst ds, false), none, none]) = _
    have hs : Sat (exDs T io (callD T io X wf m) wf false (bLRow r) [some (.lst ds, false), none, none]) (fun _ => False) (fun _ => False) (fun d => d = .str t) := by
      generalize callD T io X wf m = G at *
      unfold bLRow
      refine sat_cons (sat_asgS [] (by simp) (ev_cs _) ?_)
      simp only [List.set_cons_succ, List.set_cons_zero]
      refine sat_cons (zat_forP h (fun _ t' ρ => ∃ x, ρ = [some (.lst ds, false), some (.str t', false), x]) rfl (by rw [ei_ls, ev_v rfl]; rfl) ⟨none, by rw [unownI_no (by simp [noOwn])]⟩ ?_ ?_)
      · rintro ds' t' l' p tp ρ _ hp hlen _ ⟨x, rfl⟩
        simp only [List.set_cons_succ, List.set_cons_zero]
        exact (jrow_step hio hp hG _ _ (by omega)).mono (fun _ h => h) (fun _ h => h) (fun _ h => h.elim)
      · rintro ρ ⟨x, rfl⟩
        exact sat_cons (sat_ret _ (ev_v rfl) rfl)
    obtain ⟨d, e, rfl⟩ := (hs.mono (fun _ h => h.elim) (fun _ h => h) (fun _ h => h)).out
    exact e
  intro n
  induction n with
  | zero =>
    intro mk o ds t h hl m hm
    obtain ⟨m, rfl⟩ : ∃ k, m = k + 1 := ⟨m - 1, by omega⟩
    exact all 0 h hl m fun k e => by cases e
  | succ n ih =>
    intro mk o ds t h hl m hm
    obtain ⟨m, rfl⟩ : ∃ k, m = k + 1 := ⟨m - 1, by omega⟩
    refine all (n + 1) h hl m fun k e mk o es u hu hul => ?_
    cases e
    exact ih hu hul m (by omega)
theorem jwo_step {G : Gd} (hio : io r = false) {n : Nat} {mk : List Nat} {l : Bool} {a : Option Dat} {p : Dat} {tp : List Nat} (h : POK n mk l a p tp) (hG : ∀ k, n = k + 1 → ∀ mk o es u, PLo k mk o es u → u.length ≤ 500000 → G r [.lst es] = .ok (.str (wL k es), [])) (D : Dat) (acc : List Nat) (hl : acc.length + tp.length ≤ 1000000) (htp : tp.length ≤ 500000) :
    Sat (exDs T io G wf false (bWo1 r) [some (D, false), some (.str acc, false), some (p, false)]) (fun ρ => ∃ x, ρ = [some (D, false), some (.str (acc ++ wF n p), false), x]) (fun ρ => ∃ x, ρ = [some (D, false), some (.str (acc ++ wF n p), false), x]) (fun _ => False) := by
  have fl : ∀ {k : Nat}, Fl k mk l a p tp → Sat (exDs T io G wf false (bWo1 r) [some (D, false), some (.str acc, false), some (p, false)]) (fun ρ => ∃ x, ρ = [some (D, false), some (.str (acc ++ wF n p), false), x]) (fun ρ => ∃ x, ρ = [some (D, false), some (.str (acc ++ wF n p), false), x]) (fun _ => False) := by
    intro k h
    unfold bWo1
    cases h with
    | txt =>
      refine sat_cons (sat_ite true (ev_ie (ev_v rfl) (isi_str_str _)) (fun _ => ?_) (fun e => by cases e))
      exact sat_cons (sat_asgS _ (by simp) (ev_b (ev_v rfl) (ev_v rfl) (bd_cat _ _ (by omega))) (sat_nil (sat_nil ⟨_, by cases n <;> rfl⟩)))
    | kept k =>
      rw [List.length_cons] at hl
      refine sat_cons (sat_ite false ist (fun e => by cases e) (fun _ => ?_))
      refine sat_cons (sat_ite false (tagq _) (fun e => by cases e) (fun _ => ?_))
      refine sat_cons (sat_asgS (acc ++ k) (by simp) (ev_b (ev_v rfl) ?_ (bd_cat _ _ (by omega))) (sat_nil (sat_nil (sat_nil ⟨_, by cases n <;> rfl⟩))))
      exact ev_iteF (tagq _) at1
    | code w b =>
      rw [List.length_append, List.length_cons] at hl
      refine sat_cons (sat_ite false ist (fun e => by cases e) (fun _ => ?_))
      refine sat_cons (sat_ite false (tagq _) (fun e => by cases e) (fun _ => ?_))
      refine sat_cons (sat_asgS (acc ++ w) (by simp) (ev_b (ev_v rfl) ?_ (bd_cat _ _ (by omega))) (sat_nil (sat_nil (sat_nil ⟨_, by cases n <;> rfl⟩))))
      exact ev_iteF (tagq _) at1
  cases n with
  | zero => exact fl h
  | succ n =>
    rcases h with h | h
    · exact fl h
    · unfold bWo1
      cases h with
      | span m b _ es u hm hb h =>
        simp only [List.length_append, List.length_cons, List.length_nil] at hl htp
        have hg := hG n rfl _ _ _ _ h (by omega)
        have hw := (wL_len n h).1
        refine sat_cons (sat_ite false ist (fun e => by cases e) (fun _ => ?_))
        refine sat_cons (sat_ite true (tagq _) (fun _ => ?_) (fun e => by cases e))
        exact sat_cons (sat_asgS (acc ++ wL n es) (by simp) (ev_b (ev_v rfl) (ev_f1 hio at2 hg) (bd_cat _ _ (by omega))) (sat_nil (sat_nil (sat_nil ⟨_, rfl⟩))))
      | linkN b _ es u hb h =>
        simp only [List.length_append, List.length_cons, List.length_nil] at hl htp
        have hg := hG n rfl _ _ _ _ h (by omega)
        have hw := (wL_len n h).1
        refine sat_cons (sat_ite false ist (fun e => by cases e) (fun _ => ?_))
        refine sat_cons (sat_ite false (tagq _) (fun e => by cases e) (fun _ => ?_))
        refine sat_cons (sat_asgS (acc ++ wL n es) (by simp) (ev_b (ev_v rfl) ?_ (bd_cat _ _ (by omega))) (sat_nil (sat_nil (sat_nil ⟨_, rfl⟩))))
        exact ev_iteT (tagq _) (ev_f1 hio at1 hg)
      | linkT tg b _ es u hb h1 h2 h =>
        simp only [List.length_append, List.length_cons, List.length_nil] at hl htp
        have hg := hG n rfl _ _ _ _ h (by omega)
        have hw := (wL_len n h).1
        refine sat_cons (sat_ite false ist (fun e => by cases e) (fun _ => ?_))
        refine sat_cons (sat_ite false (tagq _) (fun e => by cases e) (fun _ => ?_))
        refine sat_cons (sat_asgS (acc ++ wL n es) (by simp) (ev_b (ev_v rfl) ?_ (bd_cat _ _ (by omega))) (sat_nil (sat_nil (sat_nil ⟨_, rfl⟩))))
        exact ev_iteT (tagq _) (ev_f1 hio at1 hg)
theorem jsd_step {G : Gd} (hio : io r = false) {n : Nat} {mk : List Nat} {l : Bool} {a : Option Dat} {p : Dat} {tp : List Nat} (h : POK n mk l a p tp) (hG : ∀ k, n = k + 1 → ∀ mk o es u, PLo k mk o es u → u.length ≤ 500000 → G r [.lst es] = .ok (.str (wL k es), [])) (D : Dat) (acc : List Nat) (hl : acc.length + tp.length ≤ 1000000) (htp : tp.length ≤ 500000) :
    Sat (exDs T io G wf false (bSd1 r) [some (D, false), some (.str acc, false), some (p, false)]) (fun ρ => ∃ x, ρ = [some (D, false), some (.str (acc ++ wF n p), false), x]) (fun ρ => ∃ x, ρ = [some (D, false), some (.str (acc ++ wF n p), false), x]) (fun _ => False) := by
  have fl : ∀ {k : Nat}, Fl k mk l a p tp → Sat (exDs T io G wf false (bSd1 r) [some (D, false), some (.str acc, false), some (p, false)]) (fun ρ => ∃ x, ρ = [some (D, false), some (.str (acc ++ wF n p), false), x]) (fun ρ => ∃ x, ρ = [some (D, false), some (.str (acc ++ wF n p), false), x]) (fun _ => False) := by
    intro k h
    unfold bSd1
    cases h with
    | txt =>
      refine sat_cons (sat_ite true (ev_ie (ev_v rfl) (isi_str_str _)) (fun _ => ?_) (fun e => by cases e))
      exact sat_cons (sat_asgS _ (by simp) (ev_b (ev_v rfl) (ev_v rfl) (bd_cat _ _ (by omega))) (sat_nil (sat_nil ⟨_, by cases n <;> rfl⟩)))
    | kept k =>
      rw [List.length_cons] at hl
      refine sat_cons (sat_ite false ist (fun e => by cases e) (fun _ => ?_))
      refine sat_cons (sat_ite true (ev_orT (tagq _)) (fun _ => ?_) (fun e => by cases e))
      exact sat_cons (sat_asgS (acc ++ k) (by simp) (ev_b (ev_v rfl) at1 (bd_cat _ _ (by omega))) (sat_nil (sat_nil (sat_nil ⟨_, by cases n <;> rfl⟩))))
    | code w b =>
      rw [List.length_append, List.length_cons] at hl
      refine sat_cons (sat_ite false ist (fun e => by cases e) (fun _ => ?_))
      refine sat_cons (sat_ite true (ev_orF (tagq _) (tagq _)) (fun _ => ?_) (fun e => by cases e))
      exact sat_cons (sat_asgS (acc ++ w) (by simp) (ev_b (ev_v rfl) at1 (bd_cat _ _ (by omega))) (sat_nil (sat_nil (sat_nil ⟨_, by cases n <;> rfl⟩))))
  cases n with
  | zero => exact fl h
  | succ n =>
    rcases h with h | h
    · exact fl h
    · unfold bSd1
      have ix : ∀ {k : List Nat} {rs : List Dat}, evD T io G (.bin .add (.con (.int 1)) (.int (.cmp .eq (.idx (.var 2) (.con (.int 0))) (.con (vS [115, 112, 97, 110]))))) (vals [some (D, false), some (.str acc, false), some (.tup (.str k :: rs), false)]) = .ok (.int (1 + if decide (k = [115, 112, 97, 110]) = true then 1 else 0)) := ev_b (ev_ci 1) (ev_int1 (tagq _)) (bd_add _ _)
      cases h with
      | span m b _ es u hm hb h =>
        simp only [List.length_append, List.length_cons, List.length_nil] at hl htp
        have hg := hG n rfl _ _ _ _ h (by omega)
        have hw := (wL_len n h).1
        refine sat_cons (sat_ite false ist (fun e => by cases e) (fun _ => ?_))
        refine sat_cons (sat_ite false (ev_orF (tagq _) (tagq _)) (fun e => by cases e) (fun _ => ?_))
        exact sat_cons (sat_asgS (acc ++ wL n es) (by simp) (ev_b (ev_v rfl) (ev_f1 hio (ev_i (ev_v rfl) ix (z := .lst es) (by simp)) hg) (bd_cat _ _ (by omega))) (sat_nil (sat_nil (sat_nil ⟨_, rfl⟩))))
      | linkN b _ es u hb h =>
        simp only [List.length_append, List.length_cons, List.length_nil] at hl htp
        have hg := hG n rfl _ _ _ _ h (by omega)
        have hw := (wL_len n h).1
        refine sat_cons (sat_ite false ist (fun e => by cases e) (fun _ => ?_))
        refine sat_cons (sat_ite false (ev_orF (tagq _) (tagq _)) (fun e => by cases e) (fun _ => ?_))
        exact sat_cons (sat_asgS (acc ++ wL n es) (by simp) (ev_b (ev_v rfl) (ev_f1 hio (ev_i (ev_v rfl) ix (z := .lst es) (by simp)) hg) (bd_cat _ _ (by omega))) (sat_nil (sat_nil (sat_nil ⟨_, rfl⟩))))
      | linkT tg b _ es u hb h1 h2 h =>
        simp only [List.length_append, List.length_cons, List.length_nil] at hl htp
        have hg := hG n rfl _ _ _ _ h (by omega)
        have hw := (wL_len n h).1
        refine sat_cons (sat_ite false ist (fun e => by cases e) (fun _ => ?_))
        refine sat_cons (sat_ite false (ev_orF (tagq _) (tagq _)) (fun e => by cases e) (fun _ => ?_))
        exact sat_cons (sat_asgS (acc ++ wL n es) (by simp) (ev_b (ev_v rfl) (ev_f1 hio (ev_i (ev_v rfl) ix (z := .lst es) (by simp)) hg) (bd_cat _ _ (by omega))) (sat_nil (sat_nil (sat_nil ⟨_, rfl⟩))))
theorem c_jwo (hf : T.fns[r]? = some (dWo r)) (hio : io r = false) (hx : X r = none) : ∀ (n : Nat) {mk : List Nat} {o : Bool} {ds : List Dat} {t : List Nat}, PLo n mk o ds t → t.length ≤ 500000 → ∀ m, n + 1 ≤ m → callD T io X wf m r [.lst ds] = .ok (.str (wL n ds), []) := by
  have all : ∀ (n : Nat) {mk : List Nat} {o : Bool} {ds : List Dat} {t : List Nat}, PLo n mk o ds t → t.length ≤ 500000 → ∀ m, (∀ k, n = k + 1 → ∀ mk o es u, PLo k mk o es u → u.length ≤ 500000 → callD T io X wf m r [.lst es] = .ok (.str (wL k es), [])) → callD T io X wf (m + 1) r [.lst ds] = .ok (.str (wL n ds), []) := by
    intro n mk o ds t h hl m hG
    rw [call_gen hx hf m _ rfl, hio]
    show outD false (exDs T io (callD T io X wf m) wf false (bWo r) [some (.lst ds, false), none, none]) = _
    have hs : Sat (exDs T io (callD T io X wf m) wf false (bWo r) [some (.lst ds, false), none, none]) (fun _ => False) (fun _ => False) (fun d => d = .str (wL n ds)) := by
      generalize callD T io X wf m = G at *
      unfold bWo
      refine sat_cons (sat_asgS [] (by simp) (ev_cs _) ?_)
      simp only [List.set_cons_succ, List.set_cons_zero]
      refine sat_cons (zat_forP h (fun ds' t' ρ => ∃ x, (wL n ds').length ≤ t'.length ∧ t'.length ≤ 500000 ∧ ρ = [some (.lst ds, false), some (.str (wL n ds'), false), x]) rfl (by rw [ei_ls, ev_v rfl]; rfl) ⟨none, by rw [wL_eq]; simp, by simp, by rw [unownI_no (by simp [noOwn]), wL_eq]; rfl⟩ ?_ ?_)
      · rintro ds' t' l' p tp ρ _ hp hlen _ ⟨x, hx1, hx2, rfl⟩
        simp only [List.set_cons_succ, List.set_cons_zero]
        rw [List.length_append] at hlen
        have h1 := (wL_len n h).2 hp
        refine (jwo_step hio hp (fun k e mk o es u hu hul => ?_) _ _ (by omega) (by omega)).mono ?_ ?_ (fun _ h => h.elim)
        · exact hG k e mk o es u hu hul
        · rintro ρ ⟨x, rfl⟩
          exact ⟨x, by rw [wL_snoc, List.length_append, List.length_append]; omega, by rw [List.length_append]; omega, by rw [wL_snoc]⟩
        · rintro ρ ⟨x, rfl⟩
          exact ⟨x, by rw [wL_snoc, List.length_append, List.length_append]; omega, by rw [List.length_append]; omega, by rw [wL_snoc]⟩
      · rintro ρ ⟨x, _, _, rfl⟩
        exact sat_cons (sat_ret _ (ev_v rfl) rfl)
    obtain ⟨d, e, rfl⟩ := (hs.mono (fun _ h => h.elim) (fun _ h => h) (fun _ h => h)).out
    exact e
  intro n
  induction n with
  | zero =>
    intro mk o ds t h hl m hm
    obtain ⟨m, rfl⟩ : ∃ k, m = k + 1 := ⟨m - 1, by omega⟩
    exact all 0 h hl m fun k e => by cases e
  | succ n ih =>
    intro mk o ds t h hl m hm
    obtain ⟨m, rfl⟩ : ∃ k, m = k + 1 := ⟨m - 1, by omega⟩
    refine all (n + 1) h hl m fun k e mk o es u hu hul => ?_
    cases e
    exact ih hu hul m (by omega)
theorem c_jsd (hf : T.fns[r]? = some (dSd r)) (hio : io r = false) (hx : X r = none) : ∀ (n : Nat) {mk : List Nat} {o : Bool} {ds : List Dat} {t : List Nat}, PLo n mk o ds t → t.length ≤ 500000 → ∀ m, n + 1 ≤ m → callD T io X wf m r [.lst ds] = .ok (.str (wL n ds), []) := by
  have all : ∀ (n : Nat) {mk : List Nat} {o : Bool} {ds : List Dat} {t : List Nat}, PLo n mk o ds t → t.length ≤ 500000 → ∀ m, (∀ k, n = k + 1 → ∀ mk o es u, PLo k mk o es u → u.length ≤ 500000 → callD T io X wf m r [.lst es] = .ok (.str (wL k es), [])) → callD T io X wf (m + 1) r [.lst ds] = .ok (.str (wL n ds), []) := by
    intro n mk o ds t h hl m hG
    rw [call_gen hx hf m _ rfl, hio]
    show outD false (exDs T io (callD T io X wf m) wf false (bSd r) [some (.lst ds, false), none, none]) = _
    have hs : Sat (exDs T io (callD T io X wf m) wf false (bSd r) [some (.lst ds, false), none, none]) (fun _ => False) (fun _ => False) (fun d => d = .str (wL n ds)) := by
      generalize callD T io X wf m = G at *
      unfold bSd
      refine sat_cons (sat_asgS [] (by simp) (ev_cs _) ?_)
      simp only [List.set_cons_succ, List.set_cons_zero]
      refine sat_cons (zat_forP h (fun ds' t' ρ => ∃ x, (wL n ds').length ≤ t'.length ∧ t'.length ≤ 500000 ∧ ρ = [some (.lst ds, false), some (.str (wL n ds'), false), x]) rfl (by rw [ei_ls, ev_v rfl]; rfl) ⟨none, by rw [wL_eq]; simp, by simp, by rw [unownI_no (by simp [noOwn]), wL_eq]; rfl⟩ ?_ ?_)
      · rintro ds' t' l' p tp ρ _ hp hlen _ ⟨x, hx1, hx2, rfl⟩
        simp only [List.set_cons_succ, List.set_cons_zero]
        rw [List.length_append] at hlen
        have h1 := (wL_len n h).2 hp
        refine (jsd_step hio hp (fun k e mk o es u hu hul => ?_) _ _ (by omega) (by omega)).mono ?_ ?_ (fun _ h => h.elim)
        · exact hG k e mk o es u hu hul
        · rintro ρ ⟨x, rfl⟩
          exact ⟨x, by rw [wL_snoc, List.length_append, List.length_append]; omega, by rw [List.length_append]; omega, by rw [wL_snoc]⟩
        · rintro ρ ⟨x, rfl⟩
          exact ⟨x, by rw [wL_snoc, List.length_append, List.length_append]; omega, by rw [List.length_append]; omega, by rw [wL_snoc]⟩
      · rintro ρ ⟨x, _, _, rfl⟩
        exact sat_cons (sat_ret _ (ev_v rfl) rfl)
    obtain ⟨d, e, rfl⟩ := (hs.mono (fun _ h => h.elim) (fun _ h => h) (fun _ h => h)).out
    exact e
  intro n
  induction n with
  | zero =>
    intro mk o ds t h hl m hm
    obtain ⟨m, rfl⟩ : ∃ k, m = k + 1 := ⟨m - 1, by omega⟩
    exact all 0 h hl m fun k e => by cases e
  | succ n ih =>
    intro mk o ds t h hl m hm
    obtain ⟨m, rfl⟩ : ∃ k, m = k + 1 := ⟨m - 1, by omega⟩
    refine all (n + 1) h hl m fun k e mk o es u hu hul => ?_
    cases e
    exact ih hu hul m (by omega)
end
end Fw

set_option maxHeartbeats 0
namespace K05
open PySem PySem.Spec PyProof.Rows L2 Fw
def b_p_opener : Sms := (.cons (.ite (.cmp .eq (.idx (.var 0) (.var 1)) (.con (vS [91])))
 (.cons (.ret (.con (vS [91]))) .nil)
 .nil) (.cons (.ite (.and (.cmp .isin (.idx (.var 0) (.var 1)) (.glb 0)) (.cmp .eq (.sl (.var 0) (.bin .add (.var 1) (.con (.int 1))) (.bin .add (.var 1) (.con (.int 2)))) (.con (vS [40]))))
 (.cons (.ret (.sl (.var 0) (.var 1) (.bin .add (.var 1) (.con (.int 2))))) .nil)
 .nil) (.cons (.ret (.con (vS []))) .nil)))
def d_p_opener : FDef := ⟨("opener" : Str), [("row" : Str), ("at" : Str)], 2, b_p_opener⟩
def b_p_up_to : Sms := (.cons (.asg 3 (.find (.var 0) (.var 2) (.var 1))) (.cons (.ite (.cmp .lt (.var 3) (.con (.int 0)))
 (.cons (.ret (.tup (.cons (.slf (.var 0) (.var 1)) (.cons (.con (.bl false)) .nil)))) .nil)
 .nil) (.cons (.ret (.tup (.cons (.sl (.var 0) (.var 1) (.var 3)) (.cons (.con (.bl true)) .nil)))) .nil)))
def d_p_up_to : FDef := ⟨("up_to" : Str), [("row" : Str), ("at" : Str), ("sign" : Str), ("end" : Str)], 3, b_p_up_to⟩
def b_p_add_plain : Sms := (.cons (.ite (.and (.cmp .gt (.len (.var 0)) (.con (.int 0))) (.isi (.idx (.var 0) (.neg (.con (.int 1)))) "str"))
 (.cons (.set (.var 0) (.neg (.con (.int 1))) (.bin .add (.idx (.var 0) (.neg (.con (.int 1)))) (.var 1))) .nil)
 (.cons (.ex (.app (.var 0) (.var 1))) .nil)) .nil)
def d_p_add_plain : FDef := ⟨("add_plain" : Str), [("parts" : Str), ("sign" : Str)], 2, b_p_add_plain⟩
def b_p_end_top : Sms := (.cons (.asg 3 (.pop (.var 0))) (.cons (.ite (.cmp .eq (.idx (.var 3) (.con (.int 0))) (.con (vS [91])))
 (.cons (.ex (.app (.idx (.idx (.var 0) (.neg (.con (.int 1)))) (.con (.int 1))) (.tup (.cons (.con (vS [108, 105, 110, 107])) (.cons (.idx (.var 3) (.con (.int 1))) (.cons (.var 1) (.cons (.var 2) .nil))))))) .nil)
 (.cons (.ex (.app (.idx (.idx (.var 0) (.neg (.con (.int 1)))) (.con (.int 1))) (.tup (.cons (.con (vS [115, 112, 97, 110])) (.cons (.idx (.idx (.var 3) (.con (.int 0))) (.con (.int 0))) (.cons (.idx (.var 3) (.con (.int 1))) (.cons (.var 2) .nil))))))) .nil)) .nil))
def d_p_end_top : FDef := ⟨("end_top" : Str), [("pile" : Str), ("target" : Str), ("closed" : Str), ("top" : Str)], 3, b_p_end_top⟩
def b_p_end_label : Sms := (.cons (.ite (.cmp .ne (.sl (.var 0) (.bin .add (.var 1) (.con (.int 1))) (.bin .add (.var 1) (.con (.int 2)))) (.con (vS [40])))
 (.cons (.ex (.call 3 (.cons (.var 2) (.cons (.con .non) (.cons (.con (.bl true)) .nil))))) (.cons (.ret (.bin .add (.var 1) (.con (.int 1)))) .nil))
 .nil) (.cons (.asg 3 (.call 1 (.cons (.var 0) (.cons (.bin .add (.var 1) (.con (.int 2))) (.cons (.con (vS [41])) .nil))))) (.cons (.ex (.call 3 (.cons (.var 2) (.cons (.idx (.var 3) (.con (.int 0))) (.cons (.idx (.var 3) (.con (.int 1))) .nil))))) (.cons (.ret (.bin .add (.bin .add (.bin .add (.var 1) (.con (.int 2))) (.len (.idx (.var 3) (.con (.int 0))))) (.int (.idx (.var 3) (.con (.int 1)))))) .nil))))
def d_p_end_label : FDef := ⟨("end_label" : Str), [("row" : Str), ("at" : Str), ("pile" : Str), ("target" : Str)], 3, b_p_end_label⟩
def b_p_take : Sms := (.cons (.asg 3 (.idx (.var 0) (.var 1))) (.cons (.asg 4 (.idx (.var 2) (.neg (.con (.int 1))))) (.cons (.ite (.cmp .eq (.var 3) (.con (vS [92])))
 (.cons (.ex (.app (.idx (.var 4) (.con (.int 1))) (.tup (.cons (.con (vS [107, 101, 112, 116])) (.cons (.sl (.var 0) (.bin .add (.var 1) (.con (.int 1))) (.bin .add (.var 1) (.con (.int 2)))) .nil))))) (.cons (.ret (.bin .add (.var 1) (.con (.int 2)))) .nil))
 .nil) (.cons (.ite (.cmp .eq (.var 3) (.con (vS [96])))
 (.cons (.asg 6 (.call 1 (.cons (.var 0) (.cons (.bin .add (.var 1) (.con (.int 1))) (.cons (.con (vS [96])) .nil))))) (.cons (.ex (.app (.idx (.var 4) (.con (.int 1))) (.tup (.cons (.con (vS [99, 111, 100, 101])) (.cons (.idx (.var 6) (.con (.int 0))) (.cons (.idx (.var 6) (.con (.int 1))) .nil)))))) (.cons (.ret (.bin .add (.bin .add (.bin .add (.var 1) (.con (.int 1))) (.len (.idx (.var 6) (.con (.int 0))))) (.int (.idx (.var 6) (.con (.int 1)))))) .nil)))
 .nil) (.cons (.asg 5 (.call 0 (.cons (.var 0) (.cons (.var 1) .nil)))) (.cons (.ite (.and (.cmp .ne (.var 5) (.con (vS []))) (.cmp .le (.len (.var 2)) (.glb 1)))
 (.cons (.ex (.app (.var 2) (.tup (.cons (.var 5) (.cons (.lst .nil) .nil))))) (.cons (.ret (.bin .add (.var 1) (.len (.var 5)))) .nil))
 .nil) (.cons (.ite (.and (.cmp .eq (.var 3) (.con (vS [41]))) (.cmp .eq (.len (.idx (.var 4) (.con (.int 0)))) (.con (.int 2))))
 (.cons (.ex (.call 3 (.cons (.var 2) (.cons (.con .non) (.cons (.con (.bl true)) .nil))))) (.cons (.ret (.bin .add (.var 1) (.con (.int 1)))) .nil))
 .nil) (.cons (.ite (.and (.cmp .eq (.var 3) (.con (vS [93]))) (.cmp .eq (.idx (.var 4) (.con (.int 0))) (.con (vS [91]))))
 (.cons (.ret (.call 4 (.cons (.var 0) (.cons (.var 1) (.cons (.var 2) .nil))))) .nil)
 .nil) (.cons (.ex (.call 2 (.cons (.idx (.var 4) (.con (.int 1))) (.cons (.var 3) .nil)))) (.cons (.ret (.bin .add (.var 1) (.con (.int 1)))) .nil))))))))))
def d_p_take : FDef := ⟨("take" : Str), [("row" : Str), ("at" : Str), ("pile" : Str), ("sign" : Str), ("top" : Str), ("mark" : Str), ("code" : Str)], 3, b_p_take⟩
def b_p_parts_of : Sms := (.cons (.asg 1 (.lst (.cons (.tup (.cons (.con (vS [])) (.cons (.lst .nil) .nil))) .nil))) (.cons (.asg 2 (.con (.int 0))) (.cons (.whl (.cmp .lt (.var 2) (.len (.var 0)))
 (.cons (.asg 2 (.call 5 (.cons (.var 0) (.cons (.var 2) (.cons (.var 1) .nil))))) .nil)) (.cons (.whl (.cmp .gt (.len (.var 1)) (.con (.int 1)))
 (.cons (.ex (.call 3 (.cons (.var 1) (.cons (.con .non) (.cons (.con (.bl false)) .nil))))) .nil)) (.cons (.ret (.idx (.idx (.var 1) (.con (.int 0))) (.con (.int 1)))) .nil)))))
def d_p_parts_of : FDef := ⟨("parts_of" : Str), [("row" : Str), ("pile" : Str), ("at" : Str)], 1, b_p_parts_of⟩
def b_p_put : Sms := (.cons (.ite (.cmp .ne (.var 2) (.con (vS [])))
 (.cons (.ex (.app (.var 0) (.tup (.cons (.var 1) (.cons (.var 2) .nil))))) .nil)
 .nil) .nil)
def d_p_put : FDef := ⟨("put" : Str), [("pieces" : Str), ("kind" : Str), ("words" : Str)], 3, b_p_put⟩
def b_p_put_link : Sms := (.cons (.ex (.call 7 (.cons (.var 0) (.cons (.con (vS [109, 97, 114, 107])) (.cons (.con (vS [91])) .nil))))) (.cons (.ex (.call 10 (.cons (.var 0) (.cons (.idx (.var 1) (.con (.int 1))) .nil)))) (.cons (.ite (.cmp .isnot (.idx (.var 1) (.con (.int 2))) (.con .non))
 (.cons (.ex (.call 7 (.cons (.var 0) (.cons (.con (vS [109, 97, 114, 107])) (.cons (.con (vS [93, 40])) .nil))))) (.cons (.ex (.call 7 (.cons (.var 0) (.cons (.con (vS [116, 97, 114, 103, 101, 116])) (.cons (.idx (.var 1) (.con (.int 2))) .nil))))) (.cons (.ite (.idx (.var 1) (.con (.int 3)))
 (.cons (.ex (.call 7 (.cons (.var 0) (.cons (.con (vS [109, 97, 114, 107])) (.cons (.con (vS [41])) .nil))))) .nil)
 .nil) .nil)))
 (.cons (.ite (.idx (.var 1) (.con (.int 3)))
 (.cons (.ex (.call 7 (.cons (.var 0) (.cons (.con (vS [109, 97, 114, 107])) (.cons (.con (vS [93])) .nil))))) .nil)
 .nil) .nil)) .nil)))
def d_p_put_link : FDef := ⟨("put_link" : Str), [("pieces" : Str), ("part" : Str)], 2, b_p_put_link⟩
def b_p_put_mark : Sms := (.cons (.ite (.cmp .eq (.idx (.var 1) (.con (.int 0))) (.con (vS [107, 101, 112, 116])))
 (.cons (.ex (.call 7 (.cons (.var 0) (.cons (.con (vS [109, 97, 114, 107])) (.cons (.con (vS [92])) .nil))))) (.cons (.ex (.call 7 (.cons (.var 0) (.cons (.con (vS [107, 101, 112, 116])) (.cons (.idx (.var 1) (.con (.int 1))) .nil))))) .nil))
 (.cons (.ite (.cmp .eq (.idx (.var 1) (.con (.int 0))) (.con (vS [99, 111, 100, 101])))
 (.cons (.ex (.call 7 (.cons (.var 0) (.cons (.con (vS [109, 97, 114, 107])) (.cons (.con (vS [96])) .nil))))) (.cons (.ex (.call 7 (.cons (.var 0) (.cons (.con (vS [99, 111, 100, 101])) (.cons (.idx (.var 1) (.con (.int 1))) .nil))))) (.cons (.ite (.idx (.var 1) (.con (.int 2)))
 (.cons (.ex (.call 7 (.cons (.var 0) (.cons (.con (vS [109, 97, 114, 107])) (.cons (.con (vS [96])) .nil))))) .nil)
 .nil) .nil)))
 (.cons (.ite (.cmp .eq (.idx (.var 1) (.con (.int 0))) (.con (vS [115, 112, 97, 110])))
 (.cons (.ex (.call 7 (.cons (.var 0) (.cons (.con (vS [109, 97, 114, 107])) (.cons (.bin .add (.idx (.var 1) (.con (.int 1))) (.con (vS [40]))) .nil))))) (.cons (.ex (.call 10 (.cons (.var 0) (.cons (.idx (.var 1) (.con (.int 2))) .nil)))) (.cons (.ite (.idx (.var 1) (.con (.int 3)))
 (.cons (.ex (.call 7 (.cons (.var 0) (.cons (.con (vS [109, 97, 114, 107])) (.cons (.con (vS [41])) .nil))))) .nil)
 .nil) .nil)))
 (.cons (.ex (.call 8 (.cons (.var 0) (.cons (.var 1) .nil)))) .nil)) .nil)) .nil)) .nil)
def d_p_put_mark : FDef := ⟨("put_mark" : Str), [("pieces" : Str), ("part" : Str)], 2, b_p_put_mark⟩
def b_p_put_parts : Sms := (.cons (.for_ 2 (.ls (.var 1))
 (.cons (.ite (.isi (.var 2) "str")
 (.cons (.ex (.call 7 (.cons (.var 0) (.cons (.con (vS [119, 111, 114, 100, 115])) (.cons (.var 2) .nil))))) .nil)
 (.cons (.ex (.call 9 (.cons (.var 0) (.cons (.var 2) .nil)))) .nil)) .nil)) .nil)
def d_p_put_parts : FDef := ⟨("put_parts" : Str), [("pieces" : Str), ("parts" : Str), ("part" : Str)], 2, b_p_put_parts⟩
def b_p_pieces_of : Sms := (.cons (.asg 2 (.lst .nil)) (.cons (.ex (.call 7 (.cons (.var 2) (.cons (.con (vS [109, 97, 114, 107])) (.cons (.var 0) .nil))))) (.cons (.ex (.call 10 (.cons (.var 2) (.cons (.var 1) .nil)))) (.cons (.ret (.var 2)) .nil))))
def d_p_pieces_of : FDef := ⟨("pieces_of" : Str), [("mark" : Str), ("parts" : Str), ("pieces" : Str)], 2, b_p_pieces_of⟩
def b_p_text_of : Sms := (.cons (.ret (.join (.con (vS [])) (.lc 1 (.ls (.var 0)) (.idx (.var 1) (.con (.int 1)))))) .nil)
def d_p_text_of : FDef := ⟨("text_of" : Str), [("pieces" : Str), ("piece" : Str)], 1, b_p_text_of⟩
def b_p_row_of : Sms := (.cons (.ret (.call 12 (.cons (.call 11 (.cons (.con (vS [])) (.cons (.var 0) .nil))) .nil))) .nil)
def d_p_row_of : FDef := ⟨("row_of" : Str), [("parts" : Str)], 1, b_p_row_of⟩
def b_p_words_of : Sms := (.cons (.asg 1 (.con (vS []))) (.cons (.for_ 2 (.ls (.var 0))
 (.cons (.ite (.isi (.var 2) "str")
 (.cons (.asg 1 (.bin .add (.var 1) (.var 2))) .nil)
 (.cons (.ite (.cmp .eq (.idx (.var 2) (.con (.int 0))) (.con (vS [115, 112, 97, 110])))
 (.cons (.asg 1 (.bin .add (.var 1) (.call 14 (.cons (.idx (.var 2) (.con (.int 2))) .nil)))) .nil)
 (.cons (.asg 1 (.bin .add (.var 1) (.ite (.cmp .eq (.idx (.var 2) (.con (.int 0))) (.con (vS [108, 105, 110, 107]))) (.call 14 (.cons (.idx (.var 2) (.con (.int 1))) .nil)) (.idx (.var 2) (.con (.int 1)))))) .nil)) .nil)) .nil)) (.cons (.ret (.var 1)) .nil)))
def d_p_words_of : FDef := ⟨("words_of" : Str), [("parts" : Str), ("found" : Str), ("part" : Str)], 1, b_p_words_of⟩
def b_l_cell_at : Sms := (.cons (.ite (.cmp .lt (.var 1) (.len (.var 0)))
 (.cons (.ret (.idx (.var 0) (.var 1))) .nil)
 .nil) (.cons (.ret (.con (.int 0))) .nil))
def d_l_cell_at : FDef := ⟨("_law_cell_at" : Str), [("_law_script" : Str), ("_law_k" : Str)], 2, b_l_cell_at⟩
def b_l_signs : Sms := (.cons (.asg 0 (.con (vS [32, 33, 34, 35, 36, 38, 39, 40, 41, 42, 43, 44, 45, 46, 47, 48, 49, 50, 51, 52, 53, 54, 55, 56, 57, 58, 59, 60, 61, 62, 63, 64, 65, 66, 67, 68, 69, 70, 71, 72, 73, 74, 75, 76, 77, 78, 79, 80, 81, 82, 83, 84, 85, 86, 87, 88, 89, 90, 91, 92, 93, 94, 95, 96]))) (.cons (.ret (.bin .add (.var 0) (.con (vS [97, 98, 99, 100, 101, 102, 103, 104, 105, 106, 107, 108, 109, 110, 111, 112, 113, 114, 115, 116, 117, 118, 119, 120, 121, 122, 123, 124, 125, 126])))) .nil))
def d_l_signs : FDef := ⟨("_law_signs" : Str), [("_law_some" : Str)], 0, b_l_signs⟩
def b_l_alike : Sms := (.cons (.ite (.cmp .is_ (.var 1) (.con .non))
 (.cons (.ret (.cmp .is_ (.var 0) (.con .non))) .nil)
 .nil) (.cons (.ite (.cmp .is_ (.var 1) (.con (.bl true)))
 (.cons (.ret (.cmp .is_ (.var 0) (.con (.bl true)))) .nil)
 .nil) (.cons (.ite (.cmp .is_ (.var 1) (.con (.bl false)))
 (.cons (.ret (.cmp .is_ (.var 0) (.con (.bl false)))) .nil)
 .nil) (.cons (.ite (.isi (.var 1) "str")
 (.cons (.ret (.and (.isi (.var 0) "str") (.cmp .eq (.var 0) (.var 1)))) .nil)
 .nil) (.cons (.ite (.isi (.var 1) "int")
 (.cons (.ret (.and (.isi (.var 0) "int") (.and (.not (.isi (.var 0) "bool")) (.cmp .eq (.var 0) (.var 1))))) .nil)
 .nil) (.cons (.ite (.or (.and (.isi (.var 1) "list") (.not (.isi (.var 0) "list"))) (.and (.isi (.var 1) "tuple") (.not (.isi (.var 0) "tuple"))))
 (.cons (.ret (.con (.bl false))) .nil)
 .nil) (.cons (.ite (.cmp .ne (.len (.var 0)) (.len (.var 1)))
 (.cons (.ret (.con (.bl false))) .nil)
 .nil) (.cons (.for_ 2 (.rg (.len (.var 1)))
 (.cons (.ite (.not (.call 17 (.cons (.idx (.var 0) (.var 2)) (.cons (.idx (.var 1) (.var 2)) .nil))))
 (.cons (.ret (.con (.bl false))) .nil)
 .nil) .nil)) (.cons (.ret (.con (.bl true))) .nil)))))))))
def d_l_alike : FDef := ⟨("_law_alike" : Str), [("_law_found" : Str), ("_law_due" : Str), ("_law_k" : Str)], 2, b_l_alike⟩
def b_l_row : Sms := (.cons (.asg 1 (.con (vS []))) (.cons (.for_ 2 (.ls (.var 0))
 (.cons (.ite (.isi (.var 2) "str")
 (.cons (.asg 1 (.bin .add (.var 1) (.var 2))) .nil)
 (.cons (.ite (.cmp .eq (.idx (.var 2) (.con (.int 0))) (.con (vS [107, 101, 112, 116])))
 (.cons (.asg 1 (.bin .add (.bin .add (.var 1) (.con (vS [92]))) (.idx (.var 2) (.con (.int 1))))) .nil)
 (.cons (.ite (.cmp .eq (.idx (.var 2) (.con (.int 0))) (.con (vS [99, 111, 100, 101])))
 (.cons (.asg 1 (.bin .add (.bin .add (.bin .add (.var 1) (.con (vS [96]))) (.idx (.var 2) (.con (.int 1)))) (.bin .mul (.con (vS [96])) (.int (.idx (.var 2) (.con (.int 2))))))) .nil)
 (.cons (.ite (.cmp .eq (.idx (.var 2) (.con (.int 0))) (.con (vS [115, 112, 97, 110])))
 (.cons (.asg 1 (.bin .add (.bin .add (.bin .add (.var 1) (.idx (.var 2) (.con (.int 1)))) (.con (vS [40]))) (.call 18 (.cons (.idx (.var 2) (.con (.int 2))) .nil)))) (.cons (.asg 1 (.bin .add (.var 1) (.bin .mul (.con (vS [41])) (.int (.idx (.var 2) (.con (.int 3))))))) .nil))
 (.cons (.ite (.cmp .is_ (.idx (.var 2) (.con (.int 2))) (.con .non))
 (.cons (.asg 1 (.bin .add (.bin .add (.bin .add (.var 1) (.con (vS [91]))) (.call 18 (.cons (.idx (.var 2) (.con (.int 1))) .nil))) (.bin .mul (.con (vS [93])) (.int (.idx (.var 2) (.con (.int 3))))))) .nil)
 (.cons (.asg 1 (.bin .add (.bin .add (.bin .add (.var 1) (.con (vS [91]))) (.call 18 (.cons (.idx (.var 2) (.con (.int 1))) .nil))) (.con (vS [93, 40])))) (.cons (.asg 1 (.bin .add (.bin .add (.var 1) (.idx (.var 2) (.con (.int 2)))) (.bin .mul (.con (vS [41])) (.int (.idx (.var 2) (.con (.int 3))))))) .nil))) .nil)) .nil)) .nil)) .nil)) .nil)) (.cons (.ret (.var 1)) .nil)))
def d_l_row : FDef := ⟨("_law_row" : Str), [("_law_parts_here" : Str), ("_law_row_here" : Str), ("_law_part" : Str)], 1, b_l_row⟩
def b_l_plain : Sms := (.cons (.asg 5 (.con (vS []))) (.cons (.for_ 6 (.rg (.var 1))
 (.cons (.asg 7 (.idx (.call 16 .nil) (.bin .mod (.bin .add (.var 0) (.bin .mul (.var 6) (.bin .add (.con (.int 1)) (.bin .mod (.bin .fdiv (.var 0) (.con (.int 94))) (.con (.int 7)))))) (.con (.int 94))))) (.cons (.ite (.or (.cmp .isin (.var 7) (.con (vS [92, 96]))) (.or (.and (.cmp .eq (.var 2) (.con (vS [91]))) (.cmp .eq (.var 7) (.con (vS [93])))) (.and (.cmp .eq (.len (.var 2)) (.con (.int 2))) (.cmp .eq (.var 7) (.con (vS [41]))))))
 (.cons (.asg 7 (.con (vS [109]))) .nil)
 .nil) (.cons (.ite (.and (.cmp .lt (.var 3) (.con (.int 12))) (.or (.cmp .eq (.var 7) (.con (vS [91]))) (.and (.cmp .eq (.var 7) (.con (vS [40]))) (.cmp .isin (.slf (.var 5) (.neg (.con (.int 1)))) (.tup (.cons (.con (vS [42])) (.cons (.con (vS [95])) (.cons (.con (vS [126])) .nil))))))))
 (.cons (.asg 7 (.con (vS [110]))) .nil)
 .nil) (.cons (.ite (.and (.var 4) (.and (.cmp .eq (.var 6) (.con (.int 0))) (.cmp .eq (.var 7) (.con (vS [40])))))
 (.cons (.asg 7 (.con (vS [111]))) .nil)
 .nil) (.cons (.asg 5 (.bin .add (.var 5) (.var 7))) .nil)))))) (.cons (.ite (.and (.cmp .eq (.var 3) (.con (.int 12))) (.cmp .eq (.bin .mod (.var 0) (.con (.int 2))) (.con (.int 0))))
 (.cons (.asg 5 (.bin .add (.var 5) (.con (vS [42, 40, 91, 95, 40, 126, 40])))) .nil)
 .nil) (.cons (.ret (.var 5)) .nil))))
def d_l_plain : FDef := ⟨("_law_plain" : Str), [("_law_number" : Str), ("_law_size_here" : Str), ("_law_mark" : Str), ("_law_deep" : Str), ("_law_barred_here" : Str), ("_law_words_here" : Str), ("_law_k" : Str), ("_law_sign" : Str)], 5, b_l_plain⟩
def b_l_words : Sms := .cons (.wrd 16) .nil
def d_l_words : FDef := ⟨("_law_words" : Str), [("_law_number" : Str), ("_law_size_here" : Str), ("_law_left" : Str), ("_law_words_here" : Str), ("_law_k" : Str)], 3, b_l_words⟩
def b_l_barred : Sms := (.cons (.ret (.and (.cmp .gt (.len (.var 0)) (.con (.int 0))) (.and (.cmp .eq (.idx (.idx (.var 0) (.neg (.con (.int 1)))) (.con (.int 0))) (.con (vS [108, 105, 110, 107]))) (.cmp .is_ (.idx (.idx (.var 0) (.neg (.con (.int 1)))) (.con (.int 2))) (.con .non))))) .nil)
def d_l_barred : FDef := ⟨("_law_barred" : Str), [("_law_parts_here" : Str)], 1, b_l_barred⟩
def b_l_size : Sms := (.cons (.ite (.cmp .eq (.bin .mod (.var 0) (.con (.int 3))) (.con (.int 1)))
 (.cons (.ret (.bin .mod (.bin .fdiv (.var 0) (.con (.int 3))) (.con (.int 49)))) .nil)
 .nil) (.cons (.ret (.bin .mod (.bin .fdiv (.var 0) (.con (.int 3))) (.con (.int 7)))) .nil))
def d_l_size : FDef := ⟨("_law_size" : Str), [("_law_number" : Str)], 1, b_l_size⟩
def b_l_end : Sms := (.cons (.asg 3 (.pop (.var 0))) (.cons (.asg 4 (.idx (.idx (.var 0) (.neg (.con (.int 1)))) (.con (.int 1)))) (.cons (.ite (.cmp .ne (.idx (.var 3) (.con (.int 0))) (.con (vS [91])))
 (.cons (.ex (.app (.var 4) (.tup (.cons (.con (vS [115, 112, 97, 110])) (.cons (.idx (.idx (.var 3) (.con (.int 0))) (.con (.int 0))) (.cons (.idx (.var 3) (.con (.int 1))) (.cons (.var 2) .nil))))))) .nil)
 (.cons (.ite (.and (.var 2) (.cmp .gt (.bin .mod (.var 1) (.con (.int 3))) (.con (.int 0))))
 (.cons (.ex (.app (.var 4) (.tup (.cons (.con (vS [108, 105, 110, 107])) (.cons (.idx (.var 3) (.con (.int 1))) (.cons (.call 20 (.cons (.bin .fdiv (.var 1) (.con (.int 3))) (.cons (.call 22 (.cons (.bin .fdiv (.var 1) (.con (.int 300))) .nil)) (.cons (.con (vS [41])) .nil)))) (.cons (.con (.bl true)) .nil))))))) .nil)
 (.cons (.ex (.app (.var 4) (.tup (.cons (.con (vS [108, 105, 110, 107])) (.cons (.idx (.var 3) (.con (.int 1))) (.cons (.con .non) (.cons (.var 2) .nil))))))) .nil)) .nil)) .nil)))
def d_l_end : FDef := ⟨("_law_end" : Str), [("_law_pile" : Str), ("_law_number" : Str), ("_law_closed" : Str), ("_law_top" : Str), ("_law_parts_here" : Str)], 3, b_l_end⟩
def b_l_put : Sms := (.cons (.asg 2 (.bin .mod (.bin .mul (.var 1) (.con (.int 48271))) (.con (.int 2147483647)))) (.cons (.asg 3 (.bin .mod (.var 2) (.con (.int 9)))) (.cons (.asg 4 (.bin .fdiv (.var 2) (.con (.int 9)))) (.cons (.asg 5 (.bin .sub (.len (.var 0)) (.con (.int 1)))) (.cons (.asg 6 (.idx (.idx (.var 0) (.neg (.con (.int 1)))) (.con (.int 1)))) (.cons (.ite (.and (.cmp .lt (.var 3) (.con (.int 3))) (.not (.and (.cmp .gt (.len (.var 6)) (.con (.int 0))) (.isi (.idx (.var 6) (.neg (.con (.int 1)))) "str"))))
 (.cons (.asg 7 (.bin .add (.con (.int 1)) (.call 22 (.cons (.bin .fdiv (.var 4) (.con (.int 700))) .nil)))) (.cons (.ex (.app (.var 6) (.call 19 (.cons (.var 4) (.cons (.var 7) (.cons (.idx (.idx (.var 0) (.neg (.con (.int 1)))) (.con (.int 0))) (.cons (.var 5) (.cons (.call 21 (.cons (.var 6) .nil)) .nil)))))))) .nil))
 (.cons (.ite (.cmp .eq (.var 3) (.con (.int 4)))
 (.cons (.ex (.app (.var 6) (.tup (.cons (.con (vS [99, 111, 100, 101])) (.cons (.call 20 (.cons (.var 4) (.cons (.call 22 (.cons (.bin .fdiv (.var 4) (.con (.int 500))) .nil)) (.cons (.con (vS [96])) .nil)))) (.cons (.con (.bl true)) .nil)))))) .nil)
 (.cons (.ite (.and (.cmp .eq (.var 3) (.con (.int 5))) (.cmp .lt (.var 5) (.con (.int 12))))
 (.cons (.ex (.app (.var 0) (.tup (.cons (.slt (.slf (.con (vS [42, 40, 95, 40, 126, 40])) (.bin .mul (.bin .mod (.var 4) (.con (.int 3))) (.con (.int 2)))) (.con (.int 2))) (.cons (.lst .nil) .nil))))) .nil)
 (.cons (.ite (.and (.or (.cmp .eq (.var 3) (.con (.int 6))) (.cmp .eq (.var 3) (.con (.int 7)))) (.cmp .lt (.var 5) (.con (.int 12))))
 (.cons (.ex (.app (.var 0) (.tup (.cons (.con (vS [91])) (.cons (.lst .nil) .nil))))) .nil)
 (.cons (.ite (.and (.cmp .eq (.var 3) (.con (.int 8))) (.cmp .gt (.var 5) (.con (.int 0))))
 (.cons (.ex (.call 23 (.cons (.var 0) (.cons (.var 4) (.cons (.con (.bl true)) .nil))))) .nil)
 (.cons (.ex (.app (.var 6) (.tup (.cons (.con (vS [107, 101, 112, 116])) (.cons (.idx (.call 16 .nil) (.bin .mod (.var 4) (.con (.int 94)))) .nil))))) .nil)) .nil)) .nil)) .nil)) .nil)) .nil))))))
def d_l_put : FDef := ⟨("_law_put" : Str), [("_law_pile" : Str), ("_law_cell" : Str), ("_law_mixed" : Str), ("_law_step" : Str), ("_law_number" : Str), ("_law_deep" : Str), ("_law_parts_here" : Str), ("_law_size_here" : Str)], 2, b_l_put⟩
def b_l_label : Sms := (.cons (.ite (.cmp .gt (.var 1) (.con (.int 8)))
 (.cons (.ret (.lst (.cons (.con (vS [108, 97, 98, 101, 108])) .nil))) .nil)
 .nil) (.cons (.asg 2 (.lst (.cons (.lst (.cons (.con (vS [108, 97, 98, 101, 108])) .nil)) (.cons (.lst .nil) (.cons (.lst (.cons (.con (vS [97])) (.cons (.tup (.cons (.con (vS [107, 101, 112, 116])) (.cons (.con (vS [93])) .nil))) (.cons (.con (vS [98, 42])) .nil)))) (.cons (.lst (.cons (.tup (.cons (.con (vS [115, 112, 97, 110])) (.cons (.con (vS [95])) (.cons (.lst (.cons (.con (vS [99])) (.cons (.tup (.cons (.con (vS [99, 111, 100, 101])) (.cons (.con (vS [93])) (.cons (.con (.bl true)) .nil)))) .nil))) (.cons (.con (.bl true)) .nil))))) .nil)) .nil)))))) (.cons (.asg 2 (.bin .add (.var 2) (.lst (.cons (.lst (.cons (.con (vS [115, 101, 101, 32])) (.cons (.tup (.cons (.con (vS [108, 105, 110, 107])) (.cons (.lst (.cons (.con (vS [100])) .nil)) (.cons (.con (vS [101])) (.cons (.con (.bl true)) .nil))))) (.cons (.con (vS [40, 102])) .nil)))) (.cons (.lst (.cons (.tup (.cons (.con (vS [108, 105, 110, 107])) (.cons (.lst (.cons (.tup (.cons (.con (vS [115, 112, 97, 110])) (.cons (.con (vS [42])) (.cons (.lst (.cons (.con (vS [103])) .nil)) (.cons (.con (.bl true)) .nil))))) .nil)) (.cons (.con .non) (.cons (.con (.bl true)) .nil))))) .nil)) .nil))))) (.cons (.asg 2 (.bin .add (.var 2) (.lst (.cons (.lst (.cons (.tup (.cons (.con (vS [107, 101, 112, 116])) (.cons (.con (vS [120])) .nil))) (.cons (.tup (.cons (.con (vS [115, 112, 97, 110])) (.cons (.con (vS [126])) (.cons (.lst (.cons (.tup (.cons (.con (vS [108, 105, 110, 107])) (.cons (.lst (.cons (.con (vS [104])) .nil)) (.cons (.con (vS [105])) (.cons (.con (.bl true)) .nil))))) .nil)) (.cons (.con (.bl true)) .nil))))) (.cons (.con (vS [106])) .nil)))) .nil)))) (.cons (.ret (.idx (.bin .add (.var 2) (.lst (.cons (.lst (.cons (.tup (.cons (.con (vS [108, 105, 110, 107])) (.cons (.lst (.cons (.tup (.cons (.con (vS [108, 105, 110, 107])) (.cons (.lst (.cons (.con (vS [107])) .nil)) (.cons (.con (vS [108])) (.cons (.con (.bl true)) .nil))))) (.cons (.con (vS [109])) .nil))) (.cons (.con (vS [110])) (.cons (.con (.bl true)) .nil))))) .nil)) .nil))) (.bin .mod (.var 0) (.con (.int 8))))) .nil)))))
def d_l_label : FDef := ⟨("_law_label" : Str), [("_law_number" : Str), ("_law_deep" : Str), ("_law_some" : Str)], 2, b_l_label⟩
def b_l_parts : Sms := (.cons (.asg 2 (.lst (.cons (.tup (.cons (.con (vS [])) (.cons (.lst .nil) .nil))) .nil))) (.cons (.for_ 3 (.ls (.var 0))
 (.cons (.ex (.call 24 (.cons (.var 2) (.cons (.var 3) .nil)))) .nil)) (.cons (.asg 4 (.cmp .gt (.bin .mod (.var 1) (.con (.int 7))) (.con (.int 2)))) (.cons (.asg 5 (.idx (.idx (.var 2) (.neg (.con (.int 1)))) (.con (.int 1)))) (.cons (.asg 6 (.call 22 (.cons (.bin .fdiv (.var 1) (.con (.int 7))) .nil))) (.cons (.ite (.cmp .eq (.bin .mod (.var 1) (.con (.int 7))) (.con (.int 0)))
 (.cons (.ex (.app (.var 5) (.tup (.cons (.con (vS [107, 101, 112, 116])) (.cons (.con (vS [])) .nil))))) .nil)
 .nil) (.cons (.ite (.cmp .eq (.bin .mod (.var 1) (.con (.int 7))) (.con (.int 1)))
 (.cons (.ex (.app (.var 5) (.tup (.cons (.con (vS [99, 111, 100, 101])) (.cons (.call 20 (.cons (.bin .fdiv (.var 1) (.con (.int 7))) (.cons (.var 6) (.cons (.con (vS [96])) .nil)))) (.cons (.con (.bl false)) .nil)))))) .nil)
 .nil) (.cons (.ite (.and (.cmp .eq (.bin .mod (.var 1) (.con (.int 7))) (.con (.int 2))) (.cmp .lt (.len (.var 2)) (.con (.int 13))))
 (.cons (.asg 7 (.call 25 (.cons (.bin .fdiv (.var 1) (.con (.int 21))) (.cons (.len (.var 2)) .nil)))) (.cons (.ex (.app (.var 5) (.tup (.cons (.con (vS [108, 105, 110, 107])) (.cons (.var 7) (.cons (.call 20 (.cons (.bin .fdiv (.var 1) (.con (.int 7))) (.cons (.var 6) (.cons (.con (vS [41])) .nil)))) (.cons (.con (.bl false)) .nil))))))) .nil))
 .nil) (.cons (.asg 1 (.bin .fdiv (.var 1) (.con (.int 7)))) (.cons (.whl (.cmp .gt (.len (.var 2)) (.con (.int 1)))
 (.cons (.ite (.cmp .eq (.bin .mod (.var 1) (.con (.int 4))) (.con (.int 0)))
 (.cons (.asg 4 (.con (.bl false))) .nil)
 .nil) (.cons (.ex (.call 23 (.cons (.var 2) (.cons (.bin .fdiv (.var 1) (.con (.int 4))) (.cons (.var 4) .nil))))) (.cons (.asg 1 (.bin .fdiv (.var 1) (.con (.int 4)))) .nil)))) (.cons (.ret (.idx (.idx (.var 2) (.con (.int 0))) (.con (.int 1)))) .nil)))))))))))
def d_l_parts : FDef := ⟨("_law_parts" : Str), [("_law_cells" : Str), ("_law_last" : Str), ("_law_pile" : Str), ("_law_cell" : Str), ("_law_closing" : Str), ("_law_parts_here" : Str), ("_law_size_here" : Str), ("_law_label_here" : Str)], 2, b_l_parts⟩
def b_l_said : Sms := (.cons (.asg 1 (.con (vS []))) (.cons (.for_ 2 (.ls (.var 0))
 (.cons (.ite (.isi (.var 2) "str")
 (.cons (.asg 1 (.bin .add (.var 1) (.var 2))) .nil)
 (.cons (.ite (.or (.cmp .eq (.idx (.var 2) (.con (.int 0))) (.con (vS [107, 101, 112, 116]))) (.cmp .eq (.idx (.var 2) (.con (.int 0))) (.con (vS [99, 111, 100, 101]))))
 (.cons (.asg 1 (.bin .add (.var 1) (.idx (.var 2) (.con (.int 1))))) .nil)
 (.cons (.asg 1 (.bin .add (.var 1) (.call 27 (.cons (.idx (.var 2) (.bin .add (.con (.int 1)) (.int (.cmp .eq (.idx (.var 2) (.con (.int 0))) (.con (vS [115, 112, 97, 110])))))) .nil)))) .nil)) .nil)) .nil)) (.cons (.ret (.var 1)) .nil)))
def d_l_said : FDef := ⟨("_law_said" : Str), [("_law_parts_here" : Str), ("_law_words_here" : Str), ("_law_part" : Str)], 1, b_l_said⟩
def b_law : Sms := (.cons (.asg 1 (.call 26 (.cons (.sl (.var 0) (.con (.int 1)) (.con (.int 41))) (.cons (.bin .mod (.bin .mul (.call 15 (.cons (.var 0) (.cons (.con (.int 0)) .nil))) (.con (.int 48271))) (.con (.int 2147483647))) .nil)))) (.cons (.asg 2 (.call 18 (.cons (.var 1) .nil))) (.cons (.asg 3 (.call 6 (.cons (.var 2) .nil))) (.cons (.ite (.or (.not (.call 17 (.cons (.var 3) (.cons (.var 1) .nil)))) (.cmp .ne (.call 13 (.cons (.var 3) .nil)) (.var 2)))
 (.cons (.ret (.con (.bl false))) .nil)
 .nil) (.cons (.asg 4 (.call 14 (.cons (.var 3) .nil))) (.cons (.ret (.and (.isi (.var 4) "str") (.and (.cmp .eq (.var 4) (.call 27 (.cons (.var 1) .nil))) (.call 17 (.cons (.var 3) (.cons (.var 1) .nil)))))) .nil))))))
def d_law : FDef := ⟨("law" : Str), [("_law_script" : Str), ("_law_due" : Str), ("_law_row_here" : Str), ("_law_found" : Str), ("_law_words_here" : Str)], 1, b_law⟩
def tb : Tbl := ⟨[d_p_opener, d_p_up_to, d_p_add_plain, d_p_end_top, d_p_end_label, d_p_take, d_p_parts_of, d_p_put, d_p_put_link, d_p_put_mark, d_p_put_parts, d_p_pieces_of, d_p_text_of, d_p_row_of, d_p_words_of, d_l_cell_at, d_l_signs, d_l_alike, d_l_row, d_l_plain, d_l_words, d_l_barred, d_l_size, d_l_end, d_l_put, d_l_label, d_l_parts, d_l_said, d_law], [(("MARKS" : Str), vS [42, 95, 126]), (("DEEPEST_MARK" : Str), .int 12)], []⟩
abbrev PR : Program := PySem.Challenge.pw_marktext_k05_nested_parts
def stAt (i : Nat) : Stmt := PR.main.body.getD i (.Pass ⟨0, 0, 0, 0⟩)
def sts : List Stmt := [stAt 3, stAt 4, stAt 5, stAt 6, stAt 7, stAt 8, stAt 9, stAt 11, stAt 12, stAt 13, stAt 14, stAt 15, stAt 16, stAt 17, stAt 19, stAt 21, stAt 22, stAt 23, stAt 24, stAt 25, stAt 26, stAt 27, stAt 28, stAt 29, stAt 30, stAt 31, stAt 32, stAt 33, stAt 34]
theorem fit : fitsAll tb sts = true := by decide +kernel
def dn : List He.DefD := [⟨(("opener" : Str), none), "opener", "opener", defArgs (stAt 3), defBody (stAt 3), defScope (stAt 3), [], []⟩, ⟨(("up_to" : Str), none), "up_to", "up_to", defArgs (stAt 4), defBody (stAt 4), defScope (stAt 4), [], []⟩, ⟨(("add_plain" : Str), none), "add_plain", "add_plain", defArgs (stAt 5), defBody (stAt 5), defScope (stAt 5), [], []⟩, ⟨(("end_top" : Str), none), "end_top", "end_top", defArgs (stAt 6), defBody (stAt 6), defScope (stAt 6), [], []⟩, ⟨(("end_label" : Str), none), "end_label", "end_label", defArgs (stAt 7), defBody (stAt 7), defScope (stAt 7), [], []⟩, ⟨(("take" : Str), none), "take", "take", defArgs (stAt 8), defBody (stAt 8), defScope (stAt 8), [], []⟩, ⟨(("parts_of" : Str), none), "parts_of", "parts_of", defArgs (stAt 9), defBody (stAt 9), defScope (stAt 9), [], []⟩, ⟨(("put" : Str), none), "put", "put", defArgs (stAt 11), defBody (stAt 11), defScope (stAt 11), [], []⟩, ⟨(("put_link" : Str), none), "put_link", "put_link", defArgs (stAt 12), defBody (stAt 12), defScope (stAt 12), [], []⟩, ⟨(("put_mark" : Str), none), "put_mark", "put_mark", defArgs (stAt 13), defBody (stAt 13), defScope (stAt 13), [], []⟩, ⟨(("put_parts" : Str), none), "put_parts", "put_parts", defArgs (stAt 14), defBody (stAt 14), defScope (stAt 14), [], []⟩, ⟨(("pieces_of" : Str), none), "pieces_of", "pieces_of", defArgs (stAt 15), defBody (stAt 15), defScope (stAt 15), [], []⟩, ⟨(("text_of" : Str), none), "text_of", "text_of", defArgs (stAt 16), defBody (stAt 16), defScope (stAt 16), [], []⟩, ⟨(("row_of" : Str), none), "row_of", "row_of", defArgs (stAt 17), defBody (stAt 17), defScope (stAt 17), [], []⟩, ⟨(("words_of" : Str), none), "words_of", "words_of", defArgs (stAt 19), defBody (stAt 19), defScope (stAt 19), [], []⟩, ⟨(("_law_cell_at" : Str), none), "_law_cell_at", "_law_cell_at", defArgs (stAt 21), defBody (stAt 21), defScope (stAt 21), [], []⟩, ⟨(("_law_signs" : Str), none), "_law_signs", "_law_signs", defArgs (stAt 22), defBody (stAt 22), defScope (stAt 22), [], []⟩, ⟨(("_law_alike" : Str), none), "_law_alike", "_law_alike", defArgs (stAt 23), defBody (stAt 23), defScope (stAt 23), [], []⟩, ⟨(("_law_row" : Str), none), "_law_row", "_law_row", defArgs (stAt 24), defBody (stAt 24), defScope (stAt 24), [], []⟩, ⟨(("_law_plain" : Str), none), "_law_plain", "_law_plain", defArgs (stAt 25), defBody (stAt 25), defScope (stAt 25), [], []⟩, ⟨(("_law_words" : Str), none), "_law_words", "_law_words", defArgs (stAt 26), defBody (stAt 26), defScope (stAt 26), [], []⟩, ⟨(("_law_barred" : Str), none), "_law_barred", "_law_barred", defArgs (stAt 27), defBody (stAt 27), defScope (stAt 27), [], []⟩, ⟨(("_law_size" : Str), none), "_law_size", "_law_size", defArgs (stAt 28), defBody (stAt 28), defScope (stAt 28), [], []⟩, ⟨(("_law_end" : Str), none), "_law_end", "_law_end", defArgs (stAt 29), defBody (stAt 29), defScope (stAt 29), [], []⟩, ⟨(("_law_put" : Str), none), "_law_put", "_law_put", defArgs (stAt 30), defBody (stAt 30), defScope (stAt 30), [], []⟩, ⟨(("_law_label" : Str), none), "_law_label", "_law_label", defArgs (stAt 31), defBody (stAt 31), defScope (stAt 31), [], []⟩, ⟨(("_law_parts" : Str), none), "_law_parts", "_law_parts", defArgs (stAt 32), defBody (stAt 32), defScope (stAt 32), [], []⟩, ⟨(("_law_said" : Str), none), "_law_said", "_law_said", defArgs (stAt 33), defBody (stAt 33), defScope (stAt 33), [], []⟩, ⟨(("law" : Str), none), "law", "law", defArgs (stAt 34), defBody (stAt 34), defScope (stAt 34), [], []⟩]
def fa : List He.Fa := [.glo "opener", .glo "up_to", .glo "add_plain", .glo "end_top", .glo "end_label", .glo "take", .glo "parts_of", .glo "put", .glo "put_link", .glo "put_mark", .glo "put_parts", .glo "pieces_of", .glo "text_of", .glo "row_of", .glo "words_of", .glo "_law_cell_at", .glo "_law_signs", .glo "_law_alike", .glo "_law_row", .glo "_law_plain", .glo "_law_words", .glo "_law_barred", .glo "_law_size", .glo "_law_end", .glo "_law_put", .glo "_law_label", .glo "_law_parts", .glo "_law_said", .glo "law", .free "len", .free "isinstance", .free "int", .free "range", .free "str", .free "list", .free "tuple", .free "bool", .free "min", .str "MARKS" ⟨[42, 95, 126].toArray⟩, .int "DEEPEST_MARK" 12]
def loose : List Str := ([("MARKS" : Str), ("DEEPEST_MARK" : Str), ("opener" : Str), ("up_to" : Str), ("add_plain" : Str), ("end_top" : Str), ("end_label" : Str), ("take" : Str), ("parts_of" : Str), ("put" : Str), ("put_link" : Str), ("put_mark" : Str), ("put_parts" : Str), ("pieces_of" : Str), ("text_of" : Str), ("row_of" : Str), ("words_of" : Str), ("_law_cell_at" : Str), ("_law_signs" : Str), ("_law_alike" : Str), ("_law_row" : Str), ("_law_plain" : Str), ("_law_words" : Str), ("_law_barred" : Str), ("_law_size" : Str), ("_law_end" : Str), ("_law_put" : Str), ("_law_label" : Str), ("_law_parts" : Str), ("_law_said" : Str)] : List Str)
abbrev R : PySem.W.OpenRow := PySem.W.OpenLaw.row PySem.Challenge.rw_marktext_k05_nested_parts
abbrev hk : PySem.W.Hook := He.hookD 4 fa dn
def ob (s : PySem.W.SharedT) : He.AlD := He.obsDG 4 fa dn (HandSHeadRun.getT s)
theorem ob_eq (s : PySem.W.SharedT) : ob s = hk.obs s.abs := He.obsDG_eq (HandSHeadRun.getT_eq s)
theorem run (w : World) : HandSHeadRun.RunEq R (PySem.W.view R.prog [34]) hk ob 3000 loose w := by
  intro os
  kernel_rfl
theorem top_fn {K : PySem.W.Frag} {h : Heap} {mg : Str → Option Value} (X : K.In h) (G : h.Ns mainGlobals mg) (c : He.SaysD fa dn K) : ∀ (i : Nat) (d : FDef) (st : Stmt), tb.fns[i]? = some d → sts[i]? = some st → ∃ f fd, FunD K d.name d.name (defArgs st) (defBody st) (defScope st) [] [] f fd ∧ mg d.name = some (.ref f) ∧ Binds K fd (d.N.take d.np) []
    | 0, d, st, hd, hs => by
      cases hd
      cases hs
      obtain ⟨fd, F⟩ := c.def_ 0 rfl
      exact ⟨_, fd, F, He.glo_ok X G (c.fact 0 (f := .glo "opener") rfl), FunD.bindsN F fun _ _ _ _ _ _ us hl => match us, hl with | [_, _], _ => rfl⟩
    | 1, d, st, hd, hs => by
      cases hd
      cases hs
      obtain ⟨fd, F⟩ := c.def_ 1 rfl
      exact ⟨_, fd, F, He.glo_ok X G (c.fact 1 (f := .glo "up_to") rfl), FunD.bindsN F fun _ _ _ _ _ _ us hl => match us, hl with | [_, _, _], _ => rfl⟩
    | 2, d, st, hd, hs => by
      cases hd
      cases hs
      obtain ⟨fd, F⟩ := c.def_ 2 rfl
      exact ⟨_, fd, F, He.glo_ok X G (c.fact 2 (f := .glo "add_plain") rfl), FunD.bindsN F fun _ _ _ _ _ _ us hl => match us, hl with | [_, _], _ => rfl⟩
    | 3, d, st, hd, hs => by
      cases hd
      cases hs
      obtain ⟨fd, F⟩ := c.def_ 3 rfl
      exact ⟨_, fd, F, He.glo_ok X G (c.fact 3 (f := .glo "end_top") rfl), FunD.bindsN F fun _ _ _ _ _ _ us hl => match us, hl with | [_, _, _], _ => rfl⟩
    | 4, d, st, hd, hs => by
      cases hd
      cases hs
      obtain ⟨fd, F⟩ := c.def_ 4 rfl
      exact ⟨_, fd, F, He.glo_ok X G (c.fact 4 (f := .glo "end_label") rfl), FunD.bindsN F fun _ _ _ _ _ _ us hl => match us, hl with | [_, _, _], _ => rfl⟩
    | 5, d, st, hd, hs => by
      cases hd
      cases hs
      obtain ⟨fd, F⟩ := c.def_ 5 rfl
      exact ⟨_, fd, F, He.glo_ok X G (c.fact 5 (f := .glo "take") rfl), FunD.bindsN F fun _ _ _ _ _ _ us hl => match us, hl with | [_, _, _], _ => rfl⟩
    | 6, d, st, hd, hs => by
      cases hd
      cases hs
      obtain ⟨fd, F⟩ := c.def_ 6 rfl
      exact ⟨_, fd, F, He.glo_ok X G (c.fact 6 (f := .glo "parts_of") rfl), FunD.bindsN F fun _ _ _ _ _ _ us hl => match us, hl with | [_], _ => rfl⟩
    | 7, d, st, hd, hs => by
      cases hd
      cases hs
      obtain ⟨fd, F⟩ := c.def_ 7 rfl
      exact ⟨_, fd, F, He.glo_ok X G (c.fact 7 (f := .glo "put") rfl), FunD.bindsN F fun _ _ _ _ _ _ us hl => match us, hl with | [_, _, _], _ => rfl⟩
    | 8, d, st, hd, hs => by
      cases hd
      cases hs
      obtain ⟨fd, F⟩ := c.def_ 8 rfl
      exact ⟨_, fd, F, He.glo_ok X G (c.fact 8 (f := .glo "put_link") rfl), FunD.bindsN F fun _ _ _ _ _ _ us hl => match us, hl with | [_, _], _ => rfl⟩
    | 9, d, st, hd, hs => by
      cases hd
      cases hs
      obtain ⟨fd, F⟩ := c.def_ 9 rfl
      exact ⟨_, fd, F, He.glo_ok X G (c.fact 9 (f := .glo "put_mark") rfl), FunD.bindsN F fun _ _ _ _ _ _ us hl => match us, hl with | [_, _], _ => rfl⟩
    | 10, d, st, hd, hs => by
      cases hd
      cases hs
      obtain ⟨fd, F⟩ := c.def_ 10 rfl
      exact ⟨_, fd, F, He.glo_ok X G (c.fact 10 (f := .glo "put_parts") rfl), FunD.bindsN F fun _ _ _ _ _ _ us hl => match us, hl with | [_, _], _ => rfl⟩
    | 11, d, st, hd, hs => by
      cases hd
      cases hs
      obtain ⟨fd, F⟩ := c.def_ 11 rfl
      exact ⟨_, fd, F, He.glo_ok X G (c.fact 11 (f := .glo "pieces_of") rfl), FunD.bindsN F fun _ _ _ _ _ _ us hl => match us, hl with | [_, _], _ => rfl⟩
    | 12, d, st, hd, hs => by
      cases hd
      cases hs
      obtain ⟨fd, F⟩ := c.def_ 12 rfl
      exact ⟨_, fd, F, He.glo_ok X G (c.fact 12 (f := .glo "text_of") rfl), FunD.bindsN F fun _ _ _ _ _ _ us hl => match us, hl with | [_], _ => rfl⟩
    | 13, d, st, hd, hs => by
      cases hd
      cases hs
      obtain ⟨fd, F⟩ := c.def_ 13 rfl
      exact ⟨_, fd, F, He.glo_ok X G (c.fact 13 (f := .glo "row_of") rfl), FunD.bindsN F fun _ _ _ _ _ _ us hl => match us, hl with | [_], _ => rfl⟩
    | 14, d, st, hd, hs => by
      cases hd
      cases hs
      obtain ⟨fd, F⟩ := c.def_ 14 rfl
      exact ⟨_, fd, F, He.glo_ok X G (c.fact 14 (f := .glo "words_of") rfl), FunD.bindsN F fun _ _ _ _ _ _ us hl => match us, hl with | [_], _ => rfl⟩
    | 15, d, st, hd, hs => by
      cases hd
      cases hs
      obtain ⟨fd, F⟩ := c.def_ 15 rfl
      exact ⟨_, fd, F, He.glo_ok X G (c.fact 15 (f := .glo "_law_cell_at") rfl), FunD.bindsN F fun _ _ _ _ _ _ us hl => match us, hl with | [_, _], _ => rfl⟩
    | 16, d, st, hd, hs => by
      cases hd
      cases hs
      obtain ⟨fd, F⟩ := c.def_ 16 rfl
      exact ⟨_, fd, F, He.glo_ok X G (c.fact 16 (f := .glo "_law_signs") rfl), FunD.bindsN F fun _ _ _ _ _ _ us hl => match us, hl with | [], _ => rfl⟩
    | 17, d, st, hd, hs => by
      cases hd
      cases hs
      obtain ⟨fd, F⟩ := c.def_ 17 rfl
      exact ⟨_, fd, F, He.glo_ok X G (c.fact 17 (f := .glo "_law_alike") rfl), FunD.bindsN F fun _ _ _ _ _ _ us hl => match us, hl with | [_, _], _ => rfl⟩
    | 18, d, st, hd, hs => by
      cases hd
      cases hs
      obtain ⟨fd, F⟩ := c.def_ 18 rfl
      exact ⟨_, fd, F, He.glo_ok X G (c.fact 18 (f := .glo "_law_row") rfl), FunD.bindsN F fun _ _ _ _ _ _ us hl => match us, hl with | [_], _ => rfl⟩
    | 19, d, st, hd, hs => by
      cases hd
      cases hs
      obtain ⟨fd, F⟩ := c.def_ 19 rfl
      exact ⟨_, fd, F, He.glo_ok X G (c.fact 19 (f := .glo "_law_plain") rfl), FunD.bindsN F fun _ _ _ _ _ _ us hl => match us, hl with | [_, _, _, _, _], _ => rfl⟩
    | 20, d, st, hd, hs => by
      cases hd
      cases hs
      obtain ⟨fd, F⟩ := c.def_ 20 rfl
      exact ⟨_, fd, F, He.glo_ok X G (c.fact 20 (f := .glo "_law_words") rfl), FunD.bindsN F fun _ _ _ _ _ _ us hl => match us, hl with | [_, _, _], _ => rfl⟩
    | 21, d, st, hd, hs => by
      cases hd
      cases hs
      obtain ⟨fd, F⟩ := c.def_ 21 rfl
      exact ⟨_, fd, F, He.glo_ok X G (c.fact 21 (f := .glo "_law_barred") rfl), FunD.bindsN F fun _ _ _ _ _ _ us hl => match us, hl with | [_], _ => rfl⟩
    | 22, d, st, hd, hs => by
      cases hd
      cases hs
      obtain ⟨fd, F⟩ := c.def_ 22 rfl
      exact ⟨_, fd, F, He.glo_ok X G (c.fact 22 (f := .glo "_law_size") rfl), FunD.bindsN F fun _ _ _ _ _ _ us hl => match us, hl with | [_], _ => rfl⟩
    | 23, d, st, hd, hs => by
      cases hd
      cases hs
      obtain ⟨fd, F⟩ := c.def_ 23 rfl
      exact ⟨_, fd, F, He.glo_ok X G (c.fact 23 (f := .glo "_law_end") rfl), FunD.bindsN F fun _ _ _ _ _ _ us hl => match us, hl with | [_, _, _], _ => rfl⟩
    | 24, d, st, hd, hs => by
      cases hd
      cases hs
      obtain ⟨fd, F⟩ := c.def_ 24 rfl
      exact ⟨_, fd, F, He.glo_ok X G (c.fact 24 (f := .glo "_law_put") rfl), FunD.bindsN F fun _ _ _ _ _ _ us hl => match us, hl with | [_, _], _ => rfl⟩
    | 25, d, st, hd, hs => by
      cases hd
      cases hs
      obtain ⟨fd, F⟩ := c.def_ 25 rfl
      exact ⟨_, fd, F, He.glo_ok X G (c.fact 25 (f := .glo "_law_label") rfl), FunD.bindsN F fun _ _ _ _ _ _ us hl => match us, hl with | [_, _], _ => rfl⟩
    | 26, d, st, hd, hs => by
      cases hd
      cases hs
      obtain ⟨fd, F⟩ := c.def_ 26 rfl
      exact ⟨_, fd, F, He.glo_ok X G (c.fact 26 (f := .glo "_law_parts") rfl), FunD.bindsN F fun _ _ _ _ _ _ us hl => match us, hl with | [_, _], _ => rfl⟩
    | 27, d, st, hd, hs => by
      cases hd
      cases hs
      obtain ⟨fd, F⟩ := c.def_ 27 rfl
      exact ⟨_, fd, F, He.glo_ok X G (c.fact 27 (f := .glo "_law_said") rfl), FunD.bindsN F fun _ _ _ _ _ _ us hl => match us, hl with | [_], _ => rfl⟩
    | 28, d, st, hd, hs => by
      cases hd
      cases hs
      obtain ⟨fd, F⟩ := c.def_ 28 rfl
      exact ⟨_, fd, F, He.glo_ok X G (c.fact 28 (f := .glo "law") rfl), FunD.bindsN F fun _ _ _ _ _ _ us hl => match us, hl with | [_], _ => rfl⟩
    | n + 29, d, st, hd, hs => by cases hd
theorem top_gl {K : PySem.W.Frag} {h : Heap} {mg : Str → Option Value} (X : K.In h) (G : h.Ns mainGlobals mg) (c : He.SaysD fa dn K) : ∀ (i : Nat) (p : Str × V), tb.gls[i]? = some p → ∃ u, mg p.1 = some u ∧ RelV p.2 u
    | 0, p, hp => by
      cases hp
      obtain ⟨t, e⟩ := He.str_ok X G (c.fact 38 (f := .str "MARKS" ⟨[42, 95, 126].toArray⟩) rfl)
      exact ⟨_, e, t, rfl⟩
    | 1, p, hp => by
      cases hp
      obtain ⟨t, e⟩ := He.int_ok X G (c.fact 39 (f := .int "DEEPEST_MARK" 12) rfl)
      exact ⟨_, e, t, rfl⟩
    | n + 2, p, hp => by cases hp
def cvK (K : PySem.W.Frag) : Nat → Value := fun _ => .none
theorem top_ok {K : PySem.W.Frag} {h : Heap} {mg : Str → Option Value} (X : K.In h) (G : h.Ns mainGlobals mg) (c : He.SaysD fa dn K) : Top tb (cvK K) sts K mg where
  fn := top_fn X G c
  len := rfl
  gl := top_gl X G c
  bi := fun x hx => by
    unfold bnames at hx
    simp only [List.mem_cons, List.not_mem_nil, or_false] at hx
    rcases hx with rfl | rfl | rfl | rfl | rfl | rfl | rfl | rfl | rfl
    · exact He.free_ok X G (c.fact 29 (f := .free "len") rfl)
    · exact He.free_ok X G (c.fact 30 (f := .free "isinstance") rfl)
    · exact He.free_ok X G (c.fact 31 (f := .free "int") rfl)
    · exact He.free_ok X G (c.fact 32 (f := .free "range") rfl)
    · exact He.free_ok X G (c.fact 33 (f := .free "str") rfl)
    · exact He.free_ok X G (c.fact 34 (f := .free "list") rfl)
    · exact He.free_ok X G (c.fact 35 (f := .free "tuple") rfl)
    · exact He.free_ok X G (c.fact 36 (f := .free "bool") rfl)
    · exact He.free_ok X G (c.fact 37 (f := .free "min") rfl)
  ex := fun i x hx => match i, x, hx with
    | n + 0, x, hx => by cases hx
theorem facts {P : Program} {w : World} {K : PySem.W.Frag} {h : Heap} {mg : Str → Option Value} {f : Addr} (n : Nat) (X : K.In h) (G : h.Ns mainGlobals mg) (hfa : mg ("law" : Str) = some (.ref f)) (c : He.SaysD fa dn K) :
    ∃ fd : FuncData, (∀ (s : Shared) (v : Value), BindsTo s fd ⟨[v], []⟩ [("_law_script", v)]) ∧ ∀ base : Heap, K.In base → base.Ns mainGlobals mg → FnOk P w K mg base (L2.CX P w) n f fd ["_law_script"] (wpF K tb (cvK K) n 28) := by
  obtain ⟨fd, F⟩ := c.def_ 28 rfl
  have e := hfa.symm.trans (He.glo_ok X G (c.fact 28 (f := .glo "law") rfl))
  cases e
  have b := FunD.bindsA (ps := ["_law_script"]) F fun _ _ _ _ _ _ us hl => match us, hl with | [_], _ => rfl
  exact ⟨fd, fun s v => b s [v] rfl, fun base _ _ => (fns_ok (top_ok X G c) fit n 28 d_law (stAt 34) _ fd rfl rfl F).ok rfl⟩
end K05

set_option maxHeartbeats 0
namespace K05
open PySem PySem.Spec PyProof.Rows L2 Fw
def io : Nat → Bool := fun f => decide (7 ≤ f) && decide (f < 11)
def X : Exn := fun f => if f = 6 then some (4, partsG) else if f = 26 then some (5, lpG) else none
def cell (ns : List Int) (k : Int) : Int := ns.getD k.toNat 0
abbrev cd := callD tb io X 1000

abbrev sc (ns : List Int) : Dat := .frz (ns.map .int)
theorem c_cell (n : Nat) (ns : List Int) (k : Int) (hk : 0 ≤ k) : cd (n + 1) 15 [sc ns, .int k] = .ok (.int (cell ns k), []) := by
  show outD false (exDs tb io (cd n) 1000 false b_l_cell_at [some (sc ns, false), some (.int k, false)]) = _
  unfold b_l_cell_at cell
  simp (disch := first | omega | (simp only [List.length_cons, List.length_nil, List.length_drop, List.length_take, List.length_append, List.length_map, List.length_range]; omega))
  by_cases h : k < ns.length
  · have h2 : k.toNat < ns.length := by omega
    simp [h, h2, List.getD]
  · have h2 : ns.length ≤ k.toNat := by omega
    simp [h, h2, List.getD]

theorem PTb : PT tb io 0 0 1 := ⟨rfl, rfl, rfl, rfl, rfl, rfl, rfl, rfl, rfl, rfl, rfl⟩
theorem BTb : BT tb io 16 := ⟨rfl, rfl, rfl, rfl, rfl, rfl, rfl, rfl, rfl, rfl, rfl, rfl, rfl, rfl, rfl, rfl, rfl, rfl⟩
theorem STb : ST tb io X 7 := ⟨rfl, rfl, rfl, rfl, rfl, rfl, rfl, fun k => by
  by_cases h : 7 ≤ k
  · exact .inr h
  · left
    unfold io
    rw [decide_eq_true (by omega), Bool.true_and]
    by_cases h2 : k < 4
    · rw [decide_eq_true h2, decide_eq_true (by omega)]
    · rw [decide_eq_false h2, decide_eq_false (by omega)], fun k => by
  by_cases h : 7 ≤ k
  · exact .inr h
  · left
    unfold X
    rw [if_neg (by omega), if_neg (by omega)]⟩
theorem hX {K : PySem.W.Frag} {cv : Nat → Value} : ExtOk K tb cv io X := by
  intro f lv g h
  unfold X at h
  by_cases e : f = 6
  · rw [if_pos e] at h
    cases h
    subst e
    exact ⟨rfl, fun n hn => parts_pure (o := 0) PTb n hn⟩
  · rw [if_neg e] at h
    by_cases e2 : f = 26
    · rw [if_pos e2] at h
      cases h
      subst e2
      exact ⟨rfl, fun n hn => lparts_pure (s := 16) BTb n hn⟩
    · rw [if_neg e2] at h
      cases h
theorem c_partsOf (n : Nat) (row : List Nat) (hn : 4 ≤ n + 1) (h : row.length ≤ 8000000) : cd (n + 1) 6 [.str row] = .ok (.lst (partsP row), []) := by
  show Rs.chk (leq 4 (n + 1)) ((partsG [.str row]).bind fun d => .ok (d, [])) = _
  rw [chk_leq hn]
  show (Rs.chk (leq row.length 8000000) _).bind _ = _
  rw [chk_leq h]
  rfl
theorem c_lparts (n : Nat) (cells : List Int) (last : Int) (hn : 5 ≤ n + 1) (h : cells.length ≤ 1000) : cd (n + 1) 26 [.lst (cells.map .int), .int last] = .ok (.lst (lpD cells last), []) := by
  show Rs.chk (leq 5 (n + 1)) ((lpG [.lst (cells.map .int), .int last]).bind fun d => .ok (d, [])) = _
  rw [chk_leq hn, lpG_ok cells last h]
  rfl
theorem c_ali (n : Nat) (d : Dat) (m : Nat) (h : Gd0 n d) (hm : n + 1 ≤ m) : cd m 17 [d, d] = .ok (.bl true, []) := c_alike (o := 17) rfl rfl rfl n d h m hm
theorem plo_sg : ∀ (n : Nat) {mk : List Nat} {o : Bool} {ds : List Dat} {t : List Nat}, PLo n mk o ds t → Sg t := by
  have fl : ∀ {n : Nat} {mk : List Nat} {l : Bool} {a : Option Dat} {p : Dat} {tp : List Nat}, Fl n mk l a p tp → Sg tp := by
    intro n mk l a p tp h
    cases h with
    | txt w _ _ h0 h1 => exact h1
    | kept k _ _ h1 => exact Sg.cons.mpr ⟨by decide, h1⟩
    | code w b _ _ h1 => exact Sg.app.mpr ⟨Sg.cons.mpr ⟨by decide, h1⟩, by cases b <;> exact sg_dec (by decide)⟩
  have up : ∀ (n : Nat) (mk : List Nat), (∀ {l : Bool} {a : Option Dat} {p : Dat} {tp : List Nat}, POK n mk l a p tp → Sg tp) → ∀ {o : Bool} {ds : List Dat} {t : List Nat}, PLo n mk o ds t → Sg t := by
    intro n mk hp o ds t h
    induction h with
    | nil => exact fun c hc => by cases hc
    | snoc h hq ih => exact Sg.app.mpr ⟨ih, hp hq⟩
  intro n
  induction n with
  | zero => intro mk o ds t h; exact up 0 mk (fun h => fl h) h
  | succ n ih =>
    intro mk o ds t h
    refine up (n + 1) mk (fun {l a p tp} h => ?_) h
    rcases h with h | h
    · exact fl h
    · cases h with
      | span m b _ es u hm hb h => exact Sg.app.mpr ⟨Sg.app.mpr ⟨by rcases hm with rfl | rfl | rfl <;> exact sg_dec (by decide), ih h⟩, by cases b <;> exact sg_dec (by decide)⟩
      | linkN b _ es u hb h => exact Sg.app.mpr ⟨Sg.app.mpr ⟨sg_dec (by decide), ih h⟩, by cases b <;> exact sg_dec (by decide)⟩
      | linkT tg b _ es u hb h1 h2 h => exact Sg.app.mpr ⟨Sg.app.mpr ⟨sg_dec (by decide), ih h⟩, Sg.app.mpr ⟨Sg.app.mpr ⟨sg_dec (by decide), h1⟩, by cases b <;> exact sg_dec (by decide)⟩⟩
theorem c_law (n : Nat) (ns : List Int) : cd (n + 51) 28 [sc ns] = .ok (.bl true, []) := by
  have cc := c_cell (n + 49) ns 0 (by decide)
  obtain ⟨t, hp, hlt⟩ := lp_ok ((ns.drop 1).take 40) (cell ns 0 * 48271 % 2147483647)
  have h40 : ((ns.drop 1).take 40).length ≤ 40 := by rw [List.length_take]; omega
  have e26 := c_lparts (n + 49) ((ns.drop 1).take 40) (cell ns 0 * 48271 % 2147483647) (by omega) (by omega)
  generalize lpD ((ns.drop 1).take 40) (cell ns 0 * 48271 % 2147483647) = D at *
  have htl : t.length ≤ 4000 := by omega
  have e18 : cd (n + 50) 18 [.lst D] = .ok (.str t, []) := c_jrow (r := 18) rfl rfl rfl 12 hp (by omega) (n + 50) (by omega)
  have e6 : cd (n + 50) 6 [.str t] = .ok (.lst D, []) := by
    have := c_partsOf (n + 49) t (by omega) (by omega)
    rw [parts_back hp] at this
    exact this
  obtain ⟨q, hsh, htx, hq⟩ := pls_shows 12 hp
  have e13 : cd (n + 50) 13 [.lst D] = .ok (.str t, []) := by
    have := c_row (wf := 1000) STb hsh (n + 50) (by omega) (by omega) (by rw [htx]; omega)
    rw [htx] at this
    exact this
  have e17 : cd (n + 50) 17 [.lst D, .lst D] = .ok (.bl true, []) := c_ali 26 _ (n + 50) (pls_gd 12 hp (by omega)) (by omega)
  have e14 : cd (n + 50) 14 [.lst D] = .ok (.str (wL 12 D), []) := c_jwo (r := 14) rfl rfl rfl 12 hp (by omega) (n + 50) (by omega)
  have e27 : cd (n + 50) 27 [.lst D] = .ok (.str (wL 12 D), []) := c_jsd (r := 27) rfl rfl rfl 12 hp (by omega) (n + 50) (by omega)
  have hs : Sat (exDs tb io (cd (n + 50)) 1000 false b_law [some (sc ns, false), none, none, none, none]) (fun _ => False) (fun _ => False) (fun d => d = .bl true) := by
    generalize cd (n + 50) = G at *
    unfold b_law
    refine sat_cons (sat_asg (.lst D) (by simp) (ev_f2 rfl (x := .lst (((ns.drop 1).take 40).map .int)) ?_ (ev_b (ev_b (ev_f2 rfl (ev_v rfl) (ev_ci 0) cc) (ev_ci 48271) (bd_mul2 _ _ (by decide) (by decide))) (ev_ci _) (bd_mod _ _ (by decide))) e26) ?_)
    · rw [ev_sl, ev_v rfl, bind_ok, ev_ci, ev_ci]
      show Rs.ok (Dat.lst (cutL (ns.map Dat.int) (some 1) (some 41))) = _
      rw [cut_mid (by decide) (by decide), ← List.map_drop, ← List.map_take]
      rfl
    rw [unown_no (by simp [noOwn])]
    simp only [List.set_cons_succ, List.set_cons_zero, fr_call, Bool.false_and]
    refine sat_cons (sat_asgS t (by simp) (ev_f1 rfl (ev_v rfl) e18) ?_)
    simp only [List.set_cons_succ, List.set_cons_zero]
    refine sat_cons (sat_asg (.lst D) (by simp) (ev_f1 rfl (ev_v rfl) e6) ?_)
    rw [unown_no (by simp [noOwn])]
    simp only [List.set_cons_succ, List.set_cons_zero, fr_call, Bool.false_and]
    refine sat_cons (sat_ite false (ev_orF (ev_notB (ev_f2 rfl (ev_v rfl) (ev_v rfl) e17)) ((ev_cm (ev_f1 rfl (ev_v rfl) e13) (ev_v rfl) (cq_ns _ _)).trans (by simp))) (fun e => by cases e) (fun _ => sat_nil ?_))
    refine sat_cons (sat_asgS (wL 12 D) (by simp) (ev_f1 rfl (ev_v rfl) e14) ?_)
    simp only [List.set_cons_succ, List.set_cons_zero]
    refine sat_cons (sat_ret (.bl true) (ev_andT (ev_ie (ev_v rfl) (isi_str_str _)) (ev_andT ((ev_cm (ev_v rfl) (ev_f1 rfl (ev_v rfl) e27) (cq_s _ _)).trans (by simp)) (ev_f2 rfl (ev_v rfl) (ev_v rfl) e17))) rfl)
  obtain ⟨d, e, rfl⟩ := (hs.mono (fun _ h => h.elim) (fun _ h => h) (fun _ h => h)).out
  rw [show cd (n + 51) 28 [sc ns] = _ from call_gen (f := 28) (d := d_law) rfl rfl (n + 50) _ rfl]
  exact e
theorem law_wp (K : PySem.W.Frag) (ns : List Int) (hl : ns.length ≤ 63) (H : Hp) (a : Addr) (hS : SqL K H a (ns.map V.int)) : wpF K tb (cvK K) 100 28 [.ref a] H (fun v _ => v = .bl true) (fun _ _ _ => False) := wp_of hX rfl (c_law 49 ns) hS
end K05

open PySem PySem.W PySem.Calls PyProof.Rows
theorem PySem.Challenge.cw_marktext_k05_nested_parts_holds : PySem.Challenge.rw_marktext_k05_nested_parts.Holds := by
  w_on; o_law
  refine HandSHeadRun.head_any (r := OpenLaw.row PySem.Challenge.rw_marktext_k05_nested_parts) (q := view (OpenLaw.row PySem.Challenge.rw_marktext_k05_nested_parts).prog [34]) (H := K05.hk) (ob := K05.ob) (M := 3000) (loose := K05.loose) (d := HandSHeadRun.topDef (OpenLaw.row PySem.Challenge.rw_marktext_k05_nested_parts).prog 34) (kwd := []) K05.ob_eq
    (by kernel_rfl) (fun s => by kernel_rfl) K05.run (by kernel_rfl) (by kernel_rfl) (by kernel_rfl) (by rfl) (by first | assumption | decide +kernel) (by decide +kernel) ⟨rfl, rfl, rfl, rfl, rfl, by decide +kernel⟩ ?hw ?hc
  case hw => w_witness2
  case hc =>
    refine Fw.walk_w (l := PySem.Challenge.rw_marktext_k05_nested_parts) (n := 63) (k := 100) (x := "_law_script") rfl (by decide) (by kernel_rfl) ⟨rfl, by decide, by decide⟩ ?F
    intro w mg fa h Y G hmg0
    obtain ⟨K, KX, c⟩ := Y
    have hmg : mg ("law" : PySem.Str) = some (.ref fa) := by
      have e : (HandSHeadRun.topDef (OpenLaw.row PySem.Challenge.rw_marktext_k05_nested_parts).prog 34).name = ("law" : PySem.Str) := by kernel_rfl
      rw [← e]
      exact hmg0
    obtain ⟨fd, hb, hF⟩ := K05.facts (P := (PySem.Challenge.rw_marktext_k05_nested_parts).prog) (w := w) 100 KX G hmg c
    exact ⟨K, fd, _, KX, hb, fun H a ns hl hS => K05.law_wp K ns hl H a hS, hF⟩
