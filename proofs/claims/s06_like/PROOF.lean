import PyProof.Rows.All
import BrRecipe
import Wide.All
import OpenK.AllK
import Wide.FinOn
import PyProof.EqAt
import PyProof.EqKinds
import PyProof.TupleCall
import Open.SpecLaws
import KE.OsGo
import KE.GoesNew
import HandS.ForSpec
import HandS.Comp
import HandS.Dict
import HandS.Iter
import HandS.Walk
import PyProof.NeKinds
import KE.SortData
import HandS.ExcCtx
import HandS.Hot
import HandS.HotCalls
import HandS.SuiteRaise
import HandS.RaiseFrom
import HandS.ExcInit
import HandS.ExcInitHot
import HandS.Deep
import HandS.Defaults
import HandS.HeadHook1
import HandS.HeadHook2
import PySem.Challenge.RW_brewrecipes_s06_like
import HandS.Codes
import HandS.ExcField
import HandS.WordsExc
import HandS.ExcOwn
import HandS.HeadHook4
import HandS.HeadNt
import HandS.Head4
import HandS.HeadEnd
import HandS.Spec
import PyWqatdl
import HandS.Wide
set_option Elab.async false
set_option linter.all false
set_option maxRecDepth 100000
set_option maxHeartbeats 4000000
/-! Plain Lean: bytes, digits, words. -/
namespace Cl
open Br

theorem u8_le (a b : UInt8) : decide (a ≤ b) = decide (a.toNat ≤ b.toNat) := by
  rw [decide_eq_decide]
  exact UInt8.le_iff_toNat_le
theorem u8_eq {a b : UInt8} (h : a.toNat = b.toNat) : a = b := UInt8.toNat_inj.mp h
def isDig (c : UInt8) : Bool := decide (48 ≤ c.toNat) && decide (c.toNat ≤ 57)
def isLet (c : UInt8) : Bool := decide (97 ≤ c.toNat) && decide (c.toNat ≤ 122)
theorem nameOk_eq (b : Bytes) : nameOk b = (decide (1 ≤ b.length) && (decide (b.length ≤ 12) && b.all fun c => isDig c || isLet c)) := by
  unfold nameOk isDig isLet
  have e : (fun (c : UInt8) => (decide (97 ≤ c) && decide (c ≤ 122)) || (decide (48 ≤ c) && decide (c ≤ 57))) = fun c => (decide (48 ≤ c.toNat) && decide (c.toNat ≤ 57)) || (decide (97 ≤ c.toNat) && decide (c.toNat ≤ 122)) := by
    funext c
    rw [u8_le, u8_le, u8_le, u8_le, Bool.or_comm]
    rfl
  rw [e]

/-! ### numbers -/
def val (b : Bytes) : Nat := b.foldl (fun (n : Nat) (c : UInt8) => 10 * n + (c.toNat - 48)) 0
theorem val_snoc (b : Bytes) (c : UInt8) : val (b ++ [c]) = 10 * val b + (c.toNat - 48) := by
  unfold val
  rw [List.foldl_append]
  rfl
/-- the number that bytes are, as the program reads it -/
def numOf (b : Bytes) : Option Nat := if 1 ≤ b.length ∧ b.length ≤ 6 ∧ b.all isDig = true then (if b.head? = some 48 ∧ 1 < b.length then none else some (val b)) else none

theorem digit_u8 {d : Nat} (h : d < 10) : (UInt8.ofNat d.digitChar.toNat).toNat = 48 + d := by
  have : d = 0 ∨ d = 1 ∨ d = 2 ∨ d = 3 ∨ d = 4 ∨ d = 5 ∨ d = 6 ∨ d = 7 ∨ d = 8 ∨ d = 9 := by omega
  rcases this with rfl | rfl | rfl | rfl | rfl | rfl | rfl | rfl | rfl | rfl <;> decide
theorem decimal_small {n : Nat} (h : n < 10) : decimal n = [UInt8.ofNat n.digitChar.toNat] := by
  unfold decimal
  rw [Nat.toDigits_of_lt_base h]
  rfl
theorem decimal_big {n : Nat} (h : 10 ≤ n) : decimal n = decimal (n / 10) ++ [UInt8.ofNat (n % 10).digitChar.toNat] := by
  unfold decimal
  rw [Nat.toDigits_of_base_le (by decide) h, List.map_append]
  rfl
theorem val_decimal : ∀ n : Nat, val (decimal n) = n := by
  intro n
  induction n using Nat.strongRecOn with
  | ind n ih =>
    by_cases h : n < 10
    · rw [decimal_small h]
      show 10 * 0 + ((UInt8.ofNat n.digitChar.toNat).toNat - 48) = n
      rw [digit_u8 h]
      omega
    · rw [decimal_big (by omega), val_snoc, ih (n / 10) (by omega), digit_u8 (Nat.mod_lt _ (by decide))]
      omega
theorem digs_decimal : ∀ n : Nat, (decimal n).all isDig = true := by
  intro n
  induction n using Nat.strongRecOn with
  | ind n ih =>
    have one : ∀ d, d < 10 → isDig (UInt8.ofNat d.digitChar.toNat) = true := fun d hd => by
      unfold isDig
      rw [digit_u8 hd, Bool.and_eq_true, decide_eq_true_eq, decide_eq_true_eq]
      omega
    by_cases h : n < 10
    · rw [decimal_small h, List.all_cons, one n h]
      rfl
    · rw [decimal_big (by omega), List.all_append, ih (n / 10) (by omega), List.all_cons, one _ (Nat.mod_lt _ (by decide))]
      rfl
theorem decimal_ne (n : Nat) : decimal n ≠ [] := by
  unfold decimal
  intro h
  exact Nat.toDigits_ne_nil (List.map_eq_nil_iff.mp h)
theorem decimal_len {n k : Nat} (h : 0 < k) : (decimal n).length ≤ k ↔ n < 10 ^ k := by
  unfold decimal
  rw [List.length_map]
  exact Nat.length_toDigits_le_iff (by decide) h
/-- no nought ahead -/
theorem head_decimal : ∀ n : Nat, 1 ≤ n → (decimal n).head? ≠ some 48 := by
  intro n
  induction n using Nat.strongRecOn with
  | ind n ih =>
    intro h1
    by_cases h : n < 10
    · rw [decimal_small h]
      intro e
      have e2 : UInt8.ofNat n.digitChar.toNat = 48 := Option.some.inj e
      have e3 := congrArg UInt8.toNat e2
      rw [digit_u8 h] at e3
      have e4 : (48 : UInt8).toNat = 48 := rfl
      omega
    · rw [decimal_big (by omega)]
      have q := ih (n / 10) (by omega) (by omega)
      cases e : decimal (n / 10) with
      | nil => exact absurd e (decimal_ne _)
      | cons c r =>
        rw [e] at q
        exact q
theorem numOf_decimal {n : Nat} (h : n < 1000000) : numOf (decimal n) = some n := by
  unfold numOf
  have h1 : 1 ≤ (decimal n).length := by
    have := decimal_ne n
    cases e : decimal n with
    | nil => exact absurd e this
    | cons c r => simp
  have h2 : (decimal n).length ≤ 6 := (decimal_len (by decide)).mpr h
  rw [if_pos ⟨h1, h2, digs_decimal n⟩, val_decimal]
  rw [if_neg]
  rintro ⟨e, l⟩
  by_cases z : 1 ≤ n
  · exact head_decimal n z e
  · have : n = 0 := by omega
    rw [this] at l
    exact absurd l (by decide)
/-- digits with no nought ahead are the number's own -/
theorem decimal_val : ∀ (k : Nat) (b : Bytes), b.length = k → b ≠ [] → b.all isDig = true → (b.head? = some 48 → b.length ≤ 1) → decimal (val b) = b := by
  intro k
  induction k with
  | zero =>
    intro b hl hn
    exact absurd (List.length_eq_zero_iff.mp hl) hn
  | succ k ih =>
    intro b hl hn hd h0
    obtain ⟨b', c, rfl⟩ : ∃ b' c, b = b' ++ [c] := ⟨b.dropLast, b.getLast hn, (List.dropLast_concat_getLast hn).symm⟩
    rw [List.all_append, Bool.and_eq_true] at hd
    have hc : 48 ≤ c.toNat ∧ c.toNat ≤ 57 := by
      have := hd.2
      rw [List.all_cons, Bool.and_eq_true] at this
      have := this.1
      unfold isDig at this
      rwa [Bool.and_eq_true, decide_eq_true_eq, decide_eq_true_eq] at this
    have hl' : b'.length = k := by
      rw [List.length_append] at hl
      simp at hl
      omega
    have cd : ∀ d, d = c.toNat - 48 → UInt8.ofNat d.digitChar.toNat = c := fun d e => u8_eq (by rw [digit_u8 (by omega)]; omega)
    rw [val_snoc]
    by_cases hb : b' = []
    · subst hb
      show decimal (10 * 0 + (c.toNat - 48)) = [c]
      rw [decimal_small (by omega), cd _ (by omega)]
    · have h0' : b'.head? ≠ some 48 := by
        intro e
        have : (b' ++ [c]).head? = some 48 := by
          cases b' with
          | nil => exact absurd rfl hb
          | cons x r => exact e
        have := h0 this
        rw [List.length_append] at this
        simp at this
        exact hb this
      have e1 := ih b' hl' hb hd.1 (fun e => absurd e h0')
      have pos : 1 ≤ val b' := by
        rcases Nat.eq_zero_or_pos (val b') with z | z
        · rw [z] at e1
          rw [← e1] at h0'
          exact absurd rfl h0'
        · exact z
      rw [decimal_big (by omega), show (10 * val b' + (c.toNat - 48)) / 10 = val b' by omega, e1, cd _ (by omega)]
theorem numOf_some {b : Bytes} {n : Nat} (h : numOf b = some n) : decimal n = b ∧ n < 1000000 := by
  unfold numOf at h
  split at h
  · rename_i c
    obtain ⟨h1, h2, h3⟩ := c
    split at h
    · cases h
    · rename_i h4
      cases h
      have e : decimal (val b) = b := decimal_val _ b rfl (fun e => by rw [e] at h1; exact absurd h1 (by decide)) h3 (fun e => by
        rcases Nat.lt_or_ge 1 b.length with z | z
        · exact absurd ⟨e, z⟩ h4
        · exact z)
      refine ⟨e, ?_⟩
      have := (decimal_len (n := val b) (k := 6) (by decide)).mp (by rw [e]; exact h2)
      simpa using this
  · cases h
theorem numOf_iff {b : Bytes} {n : Nat} : numOf b = some n ↔ decimal n = b ∧ n < 1000000 :=
  ⟨numOf_some, fun ⟨e, l⟩ => by rw [← e]; exact numOf_decimal l⟩
theorem natIn_decimal {n : Nat} (h : n < 1000000) : natIn (decimal n) = n := by
  unfold natIn
  rw [if_pos]
  · exact val_decimal n
  · have := (decimal_len (n := n) (k := 6) (by decide)).mpr (by simpa using h)
    omega

/-! ### words -/
theorem cut_ne (c : UInt8) (b : Bytes) : cutAt c b ≠ [] := by
  cases b with
  | nil => simp [cutAt]
  | cons x r =>
    unfold cutAt
    split
    · simp
    · split <;> simp
/-- no sign c within -/
def free (c : UInt8) (b : Bytes) : Prop := ∀ x ∈ b, x ≠ c
theorem cut_free {c : UInt8} : ∀ {b : Bytes}, free c b → cutAt c b = [b]
  | [], _ => rfl
  | x :: r, h => by
    unfold cutAt
    rw [if_neg (h x List.mem_cons_self), cut_free (b := r) fun y hy => h y (List.mem_cons_of_mem _ hy)]
theorem cut_join {c : UInt8} : ∀ {w : Bytes} (r : Bytes), free c w → cutAt c (w ++ c :: r) = w :: cutAt c r
  | [], r, _ => by
    show cutAt c (c :: r) = _
    rw [cutAt, if_pos rfl]
  | x :: w, r, h => by
    show cutAt c (x :: (w ++ c :: r)) = _
    rw [cutAt, if_neg (h x List.mem_cons_self), cut_join r fun y hy => h y (List.mem_cons_of_mem _ hy)]
theorem cut_spaced : ∀ {ws : List Bytes}, ws ≠ [] → (∀ w ∈ ws, free 32 w) → cutAt 32 (spaced ws) = ws
  | [], h, _ => absurd rfl h
  | [w], _, h => cut_free (h w List.mem_cons_self)
  | w :: v :: r, _, h => by
    show cutAt 32 (w ++ 32 :: spaced (v :: r)) = _
    rw [cut_join _ (h w List.mem_cons_self), cut_spaced (by simp) fun x hx => h x (List.mem_cons_of_mem _ hx)]
theorem spaced_cut : ∀ b : Bytes, spaced (cutAt 32 b) = b
  | [] => rfl
  | x :: r => by
    have ih := spaced_cut r
    unfold cutAt
    split
    · rename_i e
      cases q : cutAt 32 r with
      | nil => exact absurd q (cut_ne _ _)
      | cons w l =>
        rw [q] at ih
        show [] ++ (32 :: spaced (w :: l)) = _
        rw [ih, e]
        rfl
    · cases q : cutAt 32 r with
      | nil => exact absurd q (cut_ne _ _)
      | cons w l =>
        rw [q] at ih
        cases l with
        | nil => exact congrArg (x :: ·) ih
        | cons v m => exact congrArg (x :: ·) ih
theorem cut_of_spaced {b : Bytes} {ws : List Bytes} (h : ws ≠ []) (hf : ∀ w ∈ ws, free 32 w) : spaced ws = b ↔ cutAt 32 b = ws :=
  ⟨fun e => by rw [← e]; exact cut_spaced h hf, fun e => by rw [← e]; exact spaced_cut b⟩
theorem free_of {p : UInt8 → Bool} {c : UInt8} {b : Bytes} (h : b.all p = true) (hp : p c = false) : free c b := fun x hx e => by
  have := List.all_eq_true.mp h x hx
  rw [e, hp] at this
  cases this
theorem free_name {n : Bytes} (h : nameOk n = true) : free 32 n := by
  rw [nameOk_eq, Bool.and_eq_true, Bool.and_eq_true] at h
  exact free_of h.2.2 (by decide)
theorem free_decimal (n : Nat) : free 32 (decimal n) := free_of (digs_decimal n) (by decide)
/-- one more byte behind -/
theorem cut_snoc {c : UInt8} (x : UInt8) : ∀ {b : Bytes} {ws : List Bytes} {w : Bytes}, cutAt c b = ws ++ [w] → cutAt c (b ++ [x]) = if x = c then ws ++ [w, []] else ws ++ [w ++ [x]]
  | [], ws, w, h => by
    have e : ws = [] ∧ w = [] := by
      cases ws with
      | nil =>
        have h2 : ([[]] : List Bytes) = [w] := h
        injection h2 with h3 _
        exact ⟨rfl, h3.symm⟩
      | cons v r =>
        have := congrArg List.length h
        simp [cutAt] at this
    rw [e.1, e.2]
    show cutAt c [x] = _
    unfold cutAt
    by_cases hx : x = c
    · rw [if_pos hx, if_pos hx]
      rfl
    · rw [if_neg hx, if_neg hx]
      rfl
  | y :: b, ws, w, h => by
    show cutAt c (y :: (b ++ [x])) = _
    obtain ⟨ws1, w1, e1⟩ : ∃ ws1 w1, cutAt c b = ws1 ++ [w1] := ⟨_, _, (List.dropLast_concat_getLast (cut_ne c b)).symm⟩
    have ih := cut_snoc x e1
    rw [cutAt] at h ⊢
    by_cases hy : y = c
    · rw [if_pos hy, e1] at h
      rw [if_pos hy, ih]
      have e2 : ws = [] :: ws1 ∧ w = w1 := by
        have h2 : ([] :: ws1) ++ [w1] = ws ++ [w] := h
        exact ⟨(List.append_inj_left' h2 rfl).symm, (List.singleton_inj.mp (List.append_inj_right' h2 rfl)).symm⟩
      rw [e2.1, e2.2]
      by_cases hx : x = c
      · simp only [if_pos hx]
        rfl
      · simp only [if_neg hx]
        rfl
    · rw [if_neg hy, e1] at h
      rw [if_neg hy, ih]
      cases ws1 with
      | nil =>
        have e2 : ws = [] ∧ w = y :: w1 := by
          have h2 : ([] : List Bytes) ++ [y :: w1] = ws ++ [w] := h
          exact ⟨(List.append_inj_left' h2 rfl).symm, (List.singleton_inj.mp (List.append_inj_right' h2 rfl)).symm⟩
        rw [e2.1, e2.2]
        by_cases hx : x = c
        · simp only [if_pos hx]
          rfl
        · simp only [if_neg hx]
          rfl
      | cons v r =>
        have e2 : ws = (y :: v) :: r ∧ w = w1 := by
          have h2 : ((y :: v) :: r) ++ [w1] = ws ++ [w] := h
          exact ⟨(List.append_inj_left' h2 rfl).symm, (List.singleton_inj.mp (List.append_inj_right' h2 rfl)).symm⟩
        rw [e2.1, e2.2]
        by_cases hx : x = c
        · simp only [if_pos hx]
          rfl
        · simp only [if_neg hx]
          rfl
theorem cut_len (c : UInt8) : ∀ b : Bytes, (cutAt c b).length ≤ b.length + 1
  | [] => Nat.le_refl _
  | x :: r => by
    have ih := cut_len c r
    unfold cutAt
    split
    · simp
      omega
    · split
      · simp
      · rename_i e
        rw [e] at ih
        simp at ih ⊢
        omega
theorem cut_small (c : UInt8) : ∀ (b : Bytes), ∀ w ∈ cutAt c b, w.length ≤ b.length
  | [], w, h => by
    rw [List.mem_singleton.mp h]
    exact Nat.le_refl _
  | x :: r, w, h => by
    have ih := cut_small c r
    unfold cutAt at h
    split at h
    · rcases List.mem_cons.mp h with e | h
      · rw [e]; exact Nat.zero_le _
      · exact Nat.le_succ_of_le (ih w h)
    · split at h
      · rw [List.mem_singleton.mp h]
        simp
      · rename_i v l e
        rcases List.mem_cons.mp h with e2 | h
        · rw [e2]
          exact Nat.succ_le_succ (ih v (by rw [e]; exact List.mem_cons_self))
        · exact Nat.le_succ_of_le (ih w (by rw [e]; exact List.mem_cons_of_mem _ h))
end Cl
set_option maxHeartbeats 4000000
/-! Plain Lean: a line's form, as the program looks at it, is the specification's. -/
namespace Cl
open Br

def WORDS : List Bytes := [ascii "recipe", ascii "malt", ascii "hop", ascii "add", ascii "yeast"]
def kindFrom : Nat → List Bytes → Bytes → Option Nat
  | _, [], _ => none
  | k, w :: ws, b => if b = w then some k else kindFrom (k + 1) ws b
def kindOf (b : Bytes) : Option Nat := kindFrom 0 WORDS b
def NAMED : List Bool := [true, true, true, true, false]
def BOUNDS : List (List (Nat × Nat)) := [[], [(1, 10000), (1, 850)], [(1, 10000), (1, 2500), (0, 120)], [(1, 100000)], [(1, 950)]]
def named (k : Nat) : Bool := NAMED.getD k false
def bnds (k : Nat) : List (Nat × Nat) := BOUNDS.getD k []
def allSome : List (Option Nat) → Option (List Nat)
  | [] => some []
  | none :: _ => none
  | some n :: r => (allSome r).map (n :: ·)
def inB : List Nat → List (Nat × Nat) → Bool
  | n :: ns, p :: ps => (decide (p.1 ≤ n) && decide (n ≤ p.2)) && inB ns ps
  | _, _ => true
/-- the numbers of words, within bounds -/
def numsOf (ws : List Bytes) (bs : List (Nat × Nat)) : Option (List Nat) := if ws.length = bs.length then (match allSome (ws.map numOf) with
  | none => none
  | some ns => if inB ns bs = true then some ns else none) else none
def mFormed (k : Nat) (ws : List Bytes) : Option (Bytes × List Nat) := if named k = true then (match ws with
  | [] => none
  | w :: r => if nameOk w = true then (numsOf r (bnds k)).map fun ns => (w, ns) else none) else (numsOf ws (bnds k)).map fun ns => ([], ns)
def mWords : List Bytes → Option (Nat × Bytes × List Nat)
  | [] => none
  | w :: r => match kindOf w with
    | none => none
    | some k => (mFormed k r).map fun x => (k, x.1, x.2)
def mLine (b : Bytes) : Option (Nat × Bytes × List Nat) := mWords (cutAt 32 b)

/-! ### what a line tells -/
def lname : Line → Bytes
  | .recipe n => n
  | .malt n _ _ => n
  | .hop n _ _ _ => n
  | .add n _ => n
  | .yeast _ => []
def lnums : Line → List Nat
  | .recipe _ => []
  | .malt _ p x => [p, x]
  | .hop _ p a t => [p, a, t]
  | .add _ g => [g]
  | .yeast u => [u]
def tri (x : Line) : Nat × Bytes × List Nat := (x.rank, lname x, lnums x)
def kw (k : Nat) : Bytes := WORDS.getD k []
def wordsOf (x : Line) : List Bytes := kw x.rank :: ((if named x.rank = true then [lname x] else []) ++ (lnums x).map decimal)
theorem text_words (x : Line) : x.text = spaced (wordsOf x) := by
  cases x <;> rfl
theorem rank_le (x : Line) : x.rank ≤ 4 := by
  cases x <;> (show _ ≤ 4; simp [Line.rank])
theorem ok_iff (x : Line) : x.ok = true ↔ (named x.rank = true → nameOk (lname x) = true) ∧ inB (lnums x) (bnds x.rank) = true := by
  cases x with
  | recipe n => simp [Line.ok, Line.rank, named, NAMED, bnds, BOUNDS, inB, lname, lnums]
  | malt n p x => simp [Line.ok, Line.rank, named, NAMED, bnds, BOUNDS, inB, lname, lnums, within]
  | hop n p a t => simp [Line.ok, Line.rank, named, NAMED, bnds, BOUNDS, inB, lname, lnums, within]
  | add n g => simp [Line.ok, Line.rank, named, NAMED, bnds, BOUNDS, inB, lname, lnums, within]
  | yeast u => simp [Line.ok, Line.rank, named, NAMED, bnds, BOUNDS, inB, lname, lnums, within]
theorem nums_len (x : Line) : (lnums x).length = (bnds x.rank).length := by
  cases x <;> rfl
/-- the bounds' greatest are below a million -/
theorem bnds_small : ∀ k, ∀ p ∈ bnds k, p.2 < 1000000 := by
  intro k
  match k with
  | 0 => decide
  | 1 => decide
  | 2 => decide
  | 3 => decide
  | 4 => decide
  | k + 5 => intro p hp; cases hp
theorem allSome_dec : ∀ {ns : List Nat}, (∀ n ∈ ns, n < 1000000) → allSome ((ns.map decimal).map numOf) = some ns
  | [], _ => rfl
  | n :: ns, h => by
    have ih := allSome_dec (ns := ns) fun m hm => h m (List.mem_cons_of_mem _ hm)
    show allSome (numOf (decimal n) :: (ns.map decimal).map numOf) = _
    rw [numOf_decimal (h n List.mem_cons_self), allSome, ih]
    rfl
theorem allSome_some : ∀ {ws : List Bytes} {ns : List Nat}, allSome (ws.map numOf) = some ns → ws = ns.map decimal ∧ ∀ n ∈ ns, n < 1000000
  | [], ns, h => by
    cases h
    exact ⟨rfl, fun _ h => by cases h⟩
  | w :: ws, ns, h => by
    cases e : numOf w with
    | none =>
      rw [List.map_cons, e] at h
      cases h
    | some n =>
      rw [List.map_cons, e] at h
      cases q : allSome (ws.map numOf) with
      | none =>
        rw [show allSome (some n :: ws.map numOf) = (allSome (ws.map numOf)).map (n :: ·) from rfl, q] at h
        cases h
      | some ms =>
        rw [show allSome (some n :: ws.map numOf) = (allSome (ws.map numOf)).map (n :: ·) from rfl, q] at h
        cases h
        obtain ⟨e1, e2⟩ := allSome_some q
        obtain ⟨e3, e4⟩ := numOf_some e
        refine ⟨by rw [List.map_cons, e3, ← e1], fun m hm => ?_⟩
        rcases List.mem_cons.mp hm with z | z
        · rw [z]; exact e4
        · exact e2 m z
theorem inB_small : ∀ {ns : List Nat} {bs : List (Nat × Nat)}, ns.length = bs.length → inB ns bs = true → (∀ p ∈ bs, p.2 < 1000000) → ∀ n ∈ ns, n < 1000000
  | [], _, _, _, _ => fun _ h => by cases h
  | n :: ns, [], h, _, _ => by cases h
  | n :: ns, p :: ps, h, hb, hs => fun m hm => by
    have hb2 : ((decide (p.1 ≤ n) && decide (n ≤ p.2)) && inB ns ps) = true := hb
    rw [Bool.and_eq_true, Bool.and_eq_true, decide_eq_true_eq, decide_eq_true_eq] at hb2
    rcases List.mem_cons.mp hm with z | z
    · rw [z]
      exact Nat.lt_of_le_of_lt hb2.1.2 (hs p List.mem_cons_self)
    · exact inB_small (by simpa using h) hb2.2 (fun q hq => hs q (List.mem_cons_of_mem _ hq)) m z
theorem numsOf_dec {ns : List Nat} {bs : List (Nat × Nat)} (hl : ns.length = bs.length) (hb : inB ns bs = true) (hs : ∀ p ∈ bs, p.2 < 1000000) : numsOf (ns.map decimal) bs = some ns := by
  unfold numsOf
  rw [if_pos (by rw [List.length_map]; exact hl), allSome_dec (inB_small hl hb hs)]
  show (if inB ns bs = true then some ns else none) = _
  rw [if_pos hb]
theorem numsOf_some {ws : List Bytes} {bs : List (Nat × Nat)} {ns : List Nat} (h : numsOf ws bs = some ns) : ws = ns.map decimal ∧ ns.length = bs.length ∧ inB ns bs = true := by
  unfold numsOf at h
  split at h
  · rename_i hl
    cases q : allSome (ws.map numOf) with
    | none =>
      rw [q] at h
      cases h
    | some ms =>
      rw [q] at h
      have h2 : (if inB ms bs = true then some ms else none) = some ns := h
      split at h2
      · rename_i hb
        cases h2
        obtain ⟨e1, _⟩ := allSome_some q
        exact ⟨e1, by rw [e1, List.length_map] at hl; exact hl, hb⟩
      · cases h2
  · cases h
theorem kind_kw {k : Nat} (h : k ≤ 4) : kindOf (kw k) = some k := by
  match k, h with
  | 0, _ => decide
  | 1, _ => decide
  | 2, _ => decide
  | 3, _ => decide
  | 4, _ => decide
theorem kind_some {w : Bytes} {k : Nat} (h : kindOf w = some k) : w = kw k ∧ k ≤ 4 := by
  unfold kindOf WORDS kindFrom at h
  split at h
  · rename_i e; cases h; exact ⟨e, by decide⟩
  unfold kindFrom at h
  split at h
  · rename_i e; cases h; exact ⟨e, by decide⟩
  unfold kindFrom at h
  split at h
  · rename_i e; cases h; exact ⟨e, by decide⟩
  unfold kindFrom at h
  split at h
  · rename_i e; cases h; exact ⟨e, by decide⟩
  unfold kindFrom at h
  split at h
  · rename_i e; cases h; exact ⟨e, by decide⟩
  cases h
theorem words_ok {x : Line} (h : x.ok = true) : mWords (wordsOf x) = some (tri x) := by
  obtain ⟨h1, h2⟩ := (ok_iff x).mp h
  show (match kindOf (kw x.rank) with
    | none => none
    | some k => (mFormed k ((if named x.rank = true then [lname x] else []) ++ (lnums x).map decimal)).map fun (y : Bytes × List Nat) => (k, y.1, y.2)) = _
  rw [kind_kw (rank_le x)]
  show (mFormed x.rank ((if named x.rank = true then [lname x] else []) ++ (lnums x).map decimal)).map (fun y => (x.rank, y.1, y.2)) = _
  unfold mFormed
  have e := numsOf_dec (nums_len x) h2 (bnds_small _)
  cases q : named x.rank with
  | true =>
    rw [if_pos rfl, if_pos rfl]
    show (if nameOk (lname x) = true then (numsOf ((lnums x).map decimal) (bnds x.rank)).map fun ns => (lname x, ns) else none).map _ = _
    rw [if_pos (h1 q), e]
    rfl
  | false =>
    rw [if_neg Bool.false_ne_true, if_neg Bool.false_ne_true]
    show ((numsOf ((lnums x).map decimal) (bnds x.rank)).map fun ns => (([] : Bytes), ns)).map _ = _
    rw [e]
    cases x with
    | yeast u => rfl
    | recipe n => cases q
    | malt n p x => cases q
    | hop n p a t => cases q
    | add n g => cases q
/-- a kind, a name, numbers: a line -/
theorem line_of {k : Nat} {n : Bytes} {ns : List Nat} (hk : k ≤ 4) (hl : ns.length = (bnds k).length) : ∃ x : Line, x.rank = k ∧ (named k = true → lname x = n) ∧ lnums x = ns := by
  match k, hk with
  | 0, _ =>
    match ns, hl with
    | [], _ => exact ⟨.recipe n, rfl, fun _ => rfl, rfl⟩
  | 1, _ =>
    match ns, hl with
    | [p, x], _ => exact ⟨.malt n p x, rfl, fun _ => rfl, rfl⟩
  | 2, _ =>
    match ns, hl with
    | [p, a, t], _ => exact ⟨.hop n p a t, rfl, fun _ => rfl, rfl⟩
  | 3, _ =>
    match ns, hl with
    | [g], _ => exact ⟨.add n g, rfl, fun _ => rfl, rfl⟩
  | 4, _ =>
    match ns, hl with
    | [u], _ => exact ⟨.yeast u, rfl, fun h => absurd h (by decide), rfl⟩
theorem words_some {ws : List Bytes} {t : Nat × Bytes × List Nat} (h : mWords ws = some t) : ∃ x : Line, x.ok = true ∧ ws = wordsOf x ∧ t = tri x := by
  cases ws with
  | nil => cases h
  | cons w r =>
    cases q : kindOf w with
    | none =>
      have h1 : (match kindOf w with
        | none => none
        | some k => (mFormed k r).map fun (y : Bytes × List Nat) => (k, y.1, y.2)) = some t := h
      rw [q] at h1
      cases h1
    | some k =>
      have h1 : (match kindOf w with
        | none => none
        | some k => (mFormed k r).map fun (y : Bytes × List Nat) => (k, y.1, y.2)) = some t := h
      rw [q] at h1
      obtain ⟨e1, hk⟩ := kind_some q
      have h2 : (mFormed k r).map (fun (y : Bytes × List Nat) => (k, y.1, y.2)) = some t := h1
      unfold mFormed at h2
      cases nm : named k with
      | true =>
        rw [nm, if_pos rfl] at h2
        cases r with
        | nil => cases h2
        | cons n r =>
          have h3 : (if nameOk n = true then (numsOf r (bnds k)).map fun ns => (n, ns) else none).map (fun x => (k, x.1, x.2)) = some t := h2
          cases o : nameOk n with
          | false =>
            rw [o, if_neg Bool.false_ne_true] at h3
            cases h3
          | true =>
            rw [o, if_pos rfl] at h3
            cases q2 : numsOf r (bnds k) with
            | none =>
              rw [q2] at h3
              cases h3
            | some ns =>
              rw [q2] at h3
              cases h3
              obtain ⟨e2, hl, hb⟩ := numsOf_some q2
              obtain ⟨x, x1, x2, x3⟩ := line_of (n := n) hk hl
              have x2' := x2 nm
              refine ⟨x, (ok_iff x).mpr ⟨fun _ => by rw [x2']; exact o, by rw [x3, x1]; exact hb⟩, ?_, ?_⟩
              · unfold wordsOf
                rw [x1, nm, if_pos rfl, x2', x3, e1, e2]
                rfl
              · unfold tri
                rw [x1, x2', x3]
      | false =>
        rw [nm, if_neg Bool.false_ne_true] at h2
        cases q2 : numsOf r (bnds k) with
        | none =>
          rw [q2] at h2
          cases h2
        | some ns =>
          rw [q2] at h2
          cases h2
          obtain ⟨e2, hl, hb⟩ := numsOf_some q2
          obtain ⟨x, x1, x2, x3⟩ := line_of (n := []) hk hl
          have hx : lname x = [] := by
            cases x with
            | yeast u => rfl
            | recipe n => rw [← x1] at nm; cases nm
            | malt n p x => rw [← x1] at nm; cases nm
            | hop n p a t => rw [← x1] at nm; cases nm
            | add n g => rw [← x1] at nm; cases nm
          refine ⟨x, (ok_iff x).mpr ⟨fun z => (by rw [x1, nm] at z; cases z), by rw [x3, x1]; exact hb⟩, ?_, ?_⟩
          · unfold wordsOf
            rw [x1, nm, if_neg Bool.false_ne_true, x3, e1, e2]
            rfl
          · unfold tri
            rw [x1, hx, x3]
theorem words_ne (x : Line) : wordsOf x ≠ [] := by
  unfold wordsOf
  simp
theorem words_free {x : Line} (h : x.ok = true) : ∀ w ∈ wordsOf x, free 32 w := by
  intro w hw
  unfold wordsOf at hw
  rcases List.mem_cons.mp hw with e | hw
  · rw [e]
    have hk := rank_le x
    generalize x.rank = k at hk
    match k, hk with
    | 0, _ => exact free_of (p := isLet) (by decide) (by decide)
    | 1, _ => exact free_of (p := isLet) (by decide) (by decide)
    | 2, _ => exact free_of (p := isLet) (by decide) (by decide)
    | 3, _ => exact free_of (p := isLet) (by decide) (by decide)
    | 4, _ => exact free_of (p := isLet) (by decide) (by decide)
  · rcases List.mem_append.mp hw with hw | hw
    · cases q : named x.rank with
      | true =>
        rw [q, if_pos rfl] at hw
        rw [List.mem_singleton.mp hw]
        exact free_name (((ok_iff x).mp h).1 q)
      | false =>
        rw [q, if_neg Bool.false_ne_true] at hw
        cases hw
    · obtain ⟨n, _, e⟩ := List.mem_map.mp hw
      rw [← e]
      exact free_decimal n
theorem maybe_words {x : Line} {b : Bytes} (h : x.ok = true) (e : cutAt 32 b = wordsOf x) : lineMaybe b = some x := by
  have hs := inB_small (nums_len x) ((ok_iff x).mp h).2 (bnds_small _)
  unfold lineMaybe
  rw [e]
  cases x with
  | recipe n => rfl
  | malt n p y =>
    have e1 := natIn_decimal (hs p (by simp [lnums]))
    have e2 := natIn_decimal (hs y (by simp [lnums]))
    show (if ascii "malt" = ascii "recipe" then _ else if ascii "malt" = ascii "malt" then some (Line.malt n (natIn (decimal p)) (natIn (decimal y))) else _) = _
    rw [if_neg (by decide), if_pos rfl, e1, e2]
  | hop n p a t =>
    have e1 := natIn_decimal (hs p (by simp [lnums]))
    have e2 := natIn_decimal (hs a (by simp [lnums]))
    have e3 := natIn_decimal (hs t (by simp [lnums]))
    show (if ascii "hop" = ascii "recipe" then _ else if ascii "hop" = ascii "malt" then _ else if ascii "hop" = ascii "hop" then some (Line.hop n (natIn (decimal p)) (natIn (decimal a)) (natIn (decimal t))) else _) = _
    rw [if_neg (by decide), if_neg (by decide), if_pos rfl, e1, e2, e3]
  | add n g =>
    have e1 := natIn_decimal (hs g (by simp [lnums]))
    show (if ascii "add" = ascii "recipe" then _ else if ascii "add" = ascii "malt" then _ else if ascii "add" = ascii "hop" then _ else if ascii "add" = ascii "add" then some (Line.add n (natIn (decimal g))) else _) = _
    rw [if_neg (by decide), if_neg (by decide), if_neg (by decide), if_pos rfl, e1]
  | yeast u =>
    have e1 := natIn_decimal (hs u (by simp [lnums]))
    show (if ascii "yeast" = ascii "recipe" then _ else if ascii "yeast" = ascii "malt" then _ else if ascii "yeast" = ascii "hop" then _ else if ascii "yeast" = ascii "add" then _ else if ascii "yeast" = ascii "yeast" then some (Line.yeast (natIn (decimal u))) else _) = _
    rw [if_neg (by decide), if_neg (by decide), if_neg (by decide), if_neg (by decide), if_pos rfl, e1]
theorem lineIn_iff {b : Bytes} {x : Line} : lineIn b = some x ↔ x.ok = true ∧ x.text = b := by
  constructor
  · intro h
    unfold lineIn at h
    cases q : lineMaybe b with
    | none =>
      rw [q] at h
      cases h
    | some y =>
      rw [q] at h
      have h2 : (if y.ok = true ∧ y.text = b then some y else none) = some x := h
      split at h2
      · rename_i c
        cases h2
        exact c
      · cases h2
  · rintro ⟨h1, h2⟩
    have e : cutAt 32 b = wordsOf x := (cut_of_spaced (words_ne x) (words_free h1)).mp (by rw [← text_words]; exact h2)
    unfold lineIn
    rw [maybe_words h1 e]
    show (if x.ok = true ∧ x.text = b then some x else none) = some x
    rw [if_pos ⟨h1, h2⟩]
/-- THE LAW of a line -/
theorem line_law (b : Bytes) : mLine b = (lineIn b).map tri := by
  cases q : lineIn b with
  | some x =>
    obtain ⟨h1, h2⟩ := lineIn_iff.mp q
    have e : cutAt 32 b = wordsOf x := (cut_of_spaced (words_ne x) (words_free h1)).mp (by rw [← text_words]; exact h2)
    unfold mLine
    rw [e, words_ok h1]
    rfl
  | none =>
    cases q2 : mLine b with
    | none => rfl
    | some t =>
      obtain ⟨x, h1, h2, _⟩ := words_some q2
      have e : lineIn b = some x := lineIn_iff.mpr ⟨h1, by rw [text_words, ← h2]; exact spaced_cut b⟩
      rw [q] at e
      cases e
end Cl
set_option maxHeartbeats 4000000
/-! Plain Lean: a text read, as the program does it, is the specification's. -/
namespace Cl
open Br

/-! ### where a line may stand -/
def lastOf (r : Recipe) : Int := match r.getLast? with
  | none => -1
  | some y => (y.rank : Int)
def canStand (k last : Int) : Bool := if k = 0 ∨ last < 1 then decide (k = last + 1) else decide (last < 4) && decide (last ≤ k)
theorem stands_law (r : Recipe) (l : Line) : stands r l = canStand (l.rank : Int) (lastOf r) := by
  unfold stands lastOf
  have hl := rank_le l
  cases e : r.getLast? with
  | none =>
    show (l.rank == 0) = canStand (l.rank : Int) (-1)
    generalize l.rank = k at hl
    have : k = 0 ∨ k = 1 ∨ k = 2 ∨ k = 3 ∨ k = 4 := by omega
    rcases this with rfl | rfl | rfl | rfl | rfl <;> decide
  | some y =>
    have hy := rank_le y
    show (match y.rank with
      | 0 => l.rank == 1
      | 4 => false
      | k => decide (k ≤ l.rank) && decide (1 ≤ l.rank)) = canStand (l.rank : Int) (y.rank : Int)
    generalize l.rank = k at hl
    generalize y.rank = j at hy
    have hk : k = 0 ∨ k = 1 ∨ k = 2 ∨ k = 3 ∨ k = 4 := by omega
    have hj : j = 0 ∨ j = 1 ∨ j = 2 ∨ j = 3 ∨ j = 4 := by omega
    rcases hk with rfl | rfl | rfl | rfl | rfl <;> rcases hj with rfl | rfl | rfl | rfl | rfl <;> decide
theorem last_snoc (r : Recipe) (x : Line) : lastOf (r ++ [x]) = (x.rank : Int) := by
  unfold lastOf
  rw [List.getLast?_concat]

/-! ### the things of a kind (0 malts, 1 hops, 2 adds) -/
def thOf (r : Recipe) (k : Nat) : List (Bytes × List Nat) := (r.filter fun x => x.rank == k + 1).map fun x => (lname x, lnums x)
theorem th_snoc (r : Recipe) (x : Line) (k : Nat) : thOf (r ++ [x]) k = thOf r k ++ (if x.rank = k + 1 then [(lname x, lnums x)] else []) := by
  unfold thOf
  rw [List.filter_append, List.map_append]
  congr 1
  by_cases h : x.rank = k + 1
  · rw [if_pos h, List.filter_cons_of_pos (by simp [h])]
    rfl
  · rw [if_neg h, List.filter_cons_of_neg (by simp [h])]
    rfl
theorem malts_snoc (r : Recipe) (x : Line) : malts (r ++ [x]) = malts r ++ (match x with | .malt n p y => [(n, p, y)] | _ => []) := by
  unfold malts
  rw [List.filterMap_append]
  cases x <;> rfl
theorem hops_snoc (r : Recipe) (x : Line) : hops (r ++ [x]) = hops r ++ (match x with | .hop n p a t => [(n, p, a, t)] | _ => []) := by
  unfold hops
  rw [List.filterMap_append]
  cases x <;> rfl
theorem adds_snoc (r : Recipe) (x : Line) : adds (r ++ [x]) = adds r ++ (match x with | .add n g => [(n, g)] | _ => []) := by
  unfold adds
  rw [List.filterMap_append]
  cases x <;> rfl
theorem snoc_ind {P : Recipe → Prop} (h0 : P []) (h1 : ∀ r x, P r → P (r ++ [x])) : ∀ r, P r := by
  intro r
  generalize e : r.length = n
  induction n generalizing r with
  | zero => rw [List.length_eq_zero_iff.mp e]; exact h0
  | succ n ih =>
    have hn : r ≠ [] := fun z => by rw [z] at e; cases e
    rw [← List.dropLast_concat_getLast hn]
    exact h1 _ _ (ih _ (by rw [List.length_dropLast, e]; rfl))
def tMalt (m : Name × Nat × Nat) : Bytes × List Nat := (m.1, [m.2.1, m.2.2])
def tHop (m : Name × Nat × Nat × Nat) : Bytes × List Nat := (m.1, [m.2.1, m.2.2.1, m.2.2.2])
def tAdd (m : Name × Nat) : Bytes × List Nat := (m.1, [m.2])
theorem th_malts : ∀ r, thOf r 0 = (malts r).map tMalt := snoc_ind rfl fun r x ih => by
  rw [th_snoc, malts_snoc, ih, List.map_append]
  congr 1
  cases x <;> rfl
theorem th_hops : ∀ r, thOf r 1 = (hops r).map tHop := snoc_ind rfl fun r x ih => by
  rw [th_snoc, hops_snoc, ih, List.map_append]
  congr 1
  cases x <;> rfl
theorem th_adds : ∀ r, thOf r 2 = (adds r).map tAdd := snoc_ind rfl fun r x ih => by
  rw [th_snoc, adds_snoc, ih, List.map_append]
  congr 1
  cases x <;> rfl

/-! ### why a line can't come -/
def third (l : List Nat) : Nat := l.getD 2 0
/-- as the program looks: among things of its kind -/
def clash (ts : List (Bytes × List Nat)) (k : Nat) (n : Bytes) (ns : List Nat) : Bool := if k ≠ 2 then ts.any (fun t => decide (t.1 = n)) else
  (match ts.getLast? with
    | none => false
    | some t => decide (third t.2 < third ns)) || ts.any fun t => decide (t.1 = n) && decide (third t.2 = third ns)
def mWrong (last : Int) (ts : List (Bytes × List Nat)) (k : Nat) (n : Bytes) (ns : List Nat) : Nat := if canStand (k : Int) last = false then 3 else
  if 1 ≤ k ∧ k ≤ 3 then (if clash ts k n ns = true then 4 else if ts.length = 16 then 2 else 0) else 0
theorem any_map_eq {α : Type} (l : List α) (f : α → Bytes × List Nat) (p : Bytes × List Nat → Bool) : (l.map f).any p = l.any fun x => p (f x) := List.any_map ..
theorem clash_law (r : Recipe) (x : Line) (h1 : 1 ≤ x.rank) (h3 : x.rank ≤ 3) : clash (thOf r (x.rank - 1)) x.rank (lname x) (lnums x) = clashes r x := by
  cases x with
  | recipe n => exact absurd h1 (by simp [Line.rank])
  | yeast u => exact absurd h3 (by simp [Line.rank])
  | malt n p y =>
    show clash (thOf r 0) 1 n [p, y] = (malts r).any fun m => m.1 == n
    unfold clash
    rw [if_pos (by decide), th_malts, any_map_eq]
    congr 1
    funext m
    show decide (m.1 = n) = (m.1 == n)
    exact (Bool.beq_eq_decide_eq _ _).symm
  | add n g =>
    show clash (thOf r 2) 3 n [g] = (adds r).any fun m => m.1 == n
    unfold clash
    rw [if_pos (by decide), th_adds, any_map_eq]
    congr 1
    funext m
    show decide (m.1 = n) = (m.1 == n)
    exact (Bool.beq_eq_decide_eq _ _).symm
  | hop n p a t =>
    show clash (thOf r 1) 2 n [p, a, t] = ((hops r).any (fun m => m.1 == n && m.2.2.2 == t) || match (hops r).getLast? with
      | some m => decide (m.2.2.2 < t)
      | none => false)
    unfold clash
    rw [if_neg (by decide), th_hops, any_map_eq, Bool.or_comm]
    congr 1
    · congr 1
      funext m
      show (decide (m.1 = n) && decide (m.2.2.2 = t)) = (m.1 == n && m.2.2.2 == t)
      rw [Bool.beq_eq_decide_eq, Bool.beq_eq_decide_eq]
    · rw [List.getLast?_map]
      cases (hops r).getLast? with
      | none => rfl
      | some m => rfl
theorem many_law (r : Recipe) (x : Line) (h1 : 1 ≤ x.rank) (h3 : x.rank ≤ 3) (h16 : (thOf r (x.rank - 1)).length ≤ 16) : tooMany r x = decide ((thOf r (x.rank - 1)).length = 16) := by
  cases x with
  | recipe n => exact absurd h1 (by simp [Line.rank])
  | yeast u => exact absurd h3 (by simp [Line.rank])
  | malt n p y =>
    show decide (16 ≤ (malts r).length) = decide ((thOf r 0).length = 16)
    have h16' : (thOf r 0).length ≤ 16 := h16
    rw [th_malts, List.length_map] at h16' ⊢
    rw [decide_eq_decide]
    omega
  | hop n p a t =>
    show decide (16 ≤ (hops r).length) = decide ((thOf r 1).length = 16)
    have h16' : (thOf r 1).length ≤ 16 := h16
    rw [th_hops, List.length_map] at h16' ⊢
    rw [decide_eq_decide]
    omega
  | add n g =>
    show decide (16 ≤ (adds r).length) = decide ((thOf r 2).length = 16)
    have h16' : (thOf r 2).length ≤ 16 := h16
    rw [th_adds, List.length_map] at h16' ⊢
    rw [decide_eq_decide]
    omega
theorem wrong_law (r : Recipe) (x : Line) (h16 : ∀ k, (thOf r k).length ≤ 16) : mWrong (lastOf r) (thOf r (x.rank - 1)) x.rank (lname x) (lnums x) = wrongOf r x := by
  unfold mWrong wrongOf
  rw [stands_law]
  by_cases hs : canStand (x.rank : Int) (lastOf r) = false
  · rw [if_pos hs, if_pos hs]
  · rw [if_neg hs, if_neg hs]
    by_cases hk : 1 ≤ x.rank ∧ x.rank ≤ 3
    · rw [if_pos hk, clash_law r x hk.1 hk.2, many_law r x hk.1 hk.2 (h16 _)]
      by_cases hc : clashes r x = true
      · rw [if_pos hc, if_pos hc]
      · rw [if_neg hc, if_neg hc]
        by_cases hm : (thOf r (x.rank - 1)).length = 16
        · rw [if_pos hm, if_pos (decide_eq_true hm)]
        · rw [if_neg hm, if_neg (by simp [hm])]
    · rw [if_neg hk]
      cases x with
      | recipe n => rfl
      | yeast u => rfl
      | malt n p y => exact absurd ⟨Nat.le_refl _, by simp [Line.rank]⟩ hk
      | hop n p a t => exact absurd ⟨by simp [Line.rank], by simp [Line.rank]⟩ hk
      | add n g => exact absurd ⟨by simp [Line.rank], by simp [Line.rank]⟩ hk

/-! ### the lines of a text -/
/-- lines, one after another; a fault's line and why -/
def runL : Nat → Recipe → List Bytes → Except (Nat × Nat) Recipe
  | _, r, [] => .ok r
  | k, r, b :: l => match lineIn b with
    | none => .error (k, 1)
    | some x => if wrongOf r x = 0 then runL (k + 1) (r ++ [x]) l else .error (k, wrongOf r x)
def isBare (t : Bytes) : Bool := !t.isEmpty && t.getLast? != some 10
theorem split_cut : ∀ t : Bytes, ∃ (init : List Bytes) (last : Bytes), cutAt 10 t = init ++ [last] ∧ ((last = [] ∧ splitLines t = init ∧ isBare t = false) ∨ (last ≠ [] ∧ splitLines t = init ++ [last] ∧ isBare t = true))
  | [] => ⟨[], [], rfl, .inl ⟨rfl, rfl, rfl⟩⟩
  | c :: r => by
    obtain ⟨init, last, e, h⟩ := split_cut r
    have bare : r ≠ [] → isBare (c :: r) = isBare r := fun hr => by
      unfold isBare
      cases r with
      | nil => exact absurd rfl hr
      | cons d q => rfl
    by_cases hc : c = 10
    · refine ⟨[] :: init, last, by rw [cutAt, if_pos hc, e]; rfl, ?_⟩
      have es : splitLines (c :: r) = [] :: splitLines r := by rw [splitLines, if_pos hc]
      have eb : isBare (c :: r) = isBare r := by
        cases r with
        | nil => rw [hc]; decide
        | cons d q => exact bare (by simp)
      rcases h with ⟨h1, h2, h3⟩ | ⟨h1, h2, h3⟩
      · exact .inl ⟨h1, by rw [es, h2], by rw [eb, h3]⟩
      · exact .inr ⟨h1, by rw [es, h2]; rfl, by rw [eb, h3]⟩
    · have ec : cutAt 10 (c :: r) = (match cutAt 10 r with
        | [] => [[c]]
        | w :: l => (c :: w) :: l) := by
        rw [cutAt, if_neg hc]
        rfl
      have es : splitLines (c :: r) = (match splitLines r with
        | [] => [[c]]
        | l :: m => (c :: l) :: m) := by
        rw [splitLines, if_neg hc]
        rfl
      rw [e] at ec
      cases init with
      | nil =>
        refine ⟨[], c :: last, ec, .inr ⟨by simp, ?_⟩⟩
        rcases h with ⟨h1, h2, h3⟩ | ⟨h1, h2, h3⟩
        · rw [h2] at es
          refine ⟨by rw [es, h1]; rfl, ?_⟩
          cases r with
          | nil =>
            unfold isBare
            simp [hc]
          | cons d q =>
            have e2 : splitLines (d :: q) = [] := h2
            rw [splitLines] at e2
            split at e2
            · cases e2
            · split at e2 <;> cases e2
        · rw [h2] at es
          refine ⟨es, ?_⟩
          cases r with
          | nil => cases h3
          | cons d q => rw [bare (by simp), h3]
      | cons w l =>
        refine ⟨(c :: w) :: l, last, ec, ?_⟩
        have hr : r ≠ [] := fun z => by
          rw [z] at e
          have := congrArg List.length e
          simp [cutAt] at this
        rcases h with ⟨h1, h2, h3⟩ | ⟨h1, h2, h3⟩
        · rw [h2] at es
          exact .inl ⟨h1, es, by rw [bare hr, h3]⟩
        · rw [h2] at es
          exact .inr ⟨h1, es, by rw [bare hr, h3]⟩
theorem from_plain : ∀ (l : List Bytes) (k : Nat) (r : Recipe), recipeFrom false k r l = match runL k r l with
    | .error e => .error e
    | .ok r' => if ends r' = true then .ok r' else .error (k + l.length, 3)
  | [], k, r => by
    show (if ends r = true then Except.ok r else Except.error (k, 3)) = _
    rfl
  | b :: l, k, r => by
    show (match (if (false && l.isEmpty) = true then none else lineIn b) with
      | none => Except.error (k, 1)
      | some x => if wrongOf r x = 0 then recipeFrom false (k + 1) (r ++ [x]) l else .error (k, wrongOf r x)) = _
    rw [Bool.false_and, if_neg Bool.false_ne_true]
    unfold runL
    cases lineIn b with
    | none => rfl
    | some x =>
      show (if wrongOf r x = 0 then recipeFrom false (k + 1) (r ++ [x]) l else .error (k, wrongOf r x)) = (match (if wrongOf r x = 0 then runL (k + 1) (r ++ [x]) l else .error (k, wrongOf r x)) with
        | .error e => .error e
        | .ok r' => if ends r' = true then .ok r' else .error (k + (l.length + 1), 3))
      by_cases h : wrongOf r x = 0
      · rw [if_pos h, if_pos h, from_plain l (k + 1) (r ++ [x])]
        rw [show k + 1 + l.length = k + (l.length + 1) by omega]
      · rw [if_neg h, if_neg h]
theorem from_bare : ∀ (l : List Bytes) (z : Bytes) (k : Nat) (r : Recipe), recipeFrom true k r (l ++ [z]) = match runL k r l with
    | .error e => .error e
    | .ok _ => .error (k + l.length, 1)
  | [], z, k, r => rfl
  | b :: l, z, k, r => by
    show (match (if (true && (l ++ [z]).isEmpty) = true then none else lineIn b) with
      | none => Except.error (k, 1)
      | some x => if wrongOf r x = 0 then recipeFrom true (k + 1) (r ++ [x]) (l ++ [z]) else .error (k, wrongOf r x)) = _
    rw [show (l ++ [z]).isEmpty = false by cases l <;> rfl, Bool.and_false, if_neg Bool.false_ne_true]
    unfold runL
    cases lineIn b with
    | none => rfl
    | some x =>
      show (if wrongOf r x = 0 then recipeFrom true (k + 1) (r ++ [x]) (l ++ [z]) else .error (k, wrongOf r x)) = (match (if wrongOf r x = 0 then runL (k + 1) (r ++ [x]) l else .error (k, wrongOf r x)) with
        | .error e => .error e
        | .ok _ => .error (k + (l.length + 1), 1))
      by_cases h : wrongOf r x = 0
      · rw [if_pos h, if_pos h, from_bare l z (k + 1) (r ++ [x])]
        rw [show k + 1 + l.length = k + (l.length + 1) by omega]
      · rw [if_neg h, if_neg h]
/-- what the program makes of lines and what stands behind the last line feed -/
def mRead (init : List Bytes) (last : Bytes) : Except (Nat × Nat) Recipe := match runL 0 [] init with
  | .error e => .error e
  | .ok r => if last ≠ [] then .error (init.length, 1) else if ends r = true then .ok r else .error (init.length, 3)
theorem read_law (t : Bytes) : ∃ (init : List Bytes) (last : Bytes), cutAt 10 t = init ++ [last] ∧ readRecipe t = mRead init last := by
  obtain ⟨init, last, e, h⟩ := split_cut t
  refine ⟨init, last, e, ?_⟩
  have e0 : readRecipe t = recipeFrom (isBare t) 0 [] (splitLines t) := rfl
  rw [e0]
  unfold mRead
  rcases h with ⟨h1, h2, h3⟩ | ⟨h1, h2, h3⟩
  · rw [h2, h3, from_plain]
    cases runL 0 [] init with
    | error e => rfl
    | ok r =>
      show (if ends r = true then Except.ok r else .error (0 + init.length, 3)) = (if last ≠ [] then Except.error (init.length, 1) else if ends r = true then .ok r else .error (init.length, 3))
      rw [if_neg (show ¬ (last ≠ []) from fun z => z h1), Nat.zero_add]
  · rw [h2, h3, from_bare]
    cases runL 0 [] init with
    | error e => rfl
    | ok r =>
      show Except.error (0 + init.length, 1) = (if last ≠ [] then Except.error (init.length, 1) else if ends r = true then .ok r else .error (init.length, 3))
      rw [if_pos h1, Nat.zero_add]

/-! ### a recipe that grew line by line -/
inductive Built : Recipe → Prop
  | nil : Built []
  | snoc {r : Recipe} {x : Line} (h : Built r) (ok : x.ok = true) (w : wrongOf r x = 0) : Built (r ++ [x])
theorem runL_built : ∀ {l : List Bytes} {k : Nat} {r r' : Recipe}, Built r → runL k r l = .ok r' → Built r'
  | [], _, _, _, b, h => by cases h; exact b
  | z :: l, k, r, r', b, h => by
    unfold runL at h
    cases q : lineIn z with
    | none =>
      rw [q] at h
      cases h
    | some x =>
      rw [q] at h
      have h2 : (if wrongOf r x = 0 then runL (k + 1) (r ++ [x]) l else .error (k, wrongOf r x)) = .ok r' := h
      by_cases hw : wrongOf r x = 0
      · rw [if_pos hw] at h2
        exact runL_built (.snoc b (lineIn_iff.mp q).1 hw) h2
      · rw [if_neg hw] at h2
        cases h2
theorem wrong_zero {r : Recipe} {x : Line} (h : wrongOf r x = 0) : stands r x = true ∧ clashes r x = false ∧ tooMany r x = false := by
  unfold wrongOf at h
  cases h1 : stands r x with
  | false => rw [h1, if_pos rfl] at h; cases h
  | true =>
    rw [h1, if_neg (by decide)] at h
    cases h2 : clashes r x with
    | true => rw [h2, if_pos rfl] at h; cases h
    | false =>
      rw [h2, if_neg (by decide)] at h
      cases h3 : tooMany r x with
      | true => rw [h3, if_pos rfl] at h; cases h
      | false => exact ⟨rfl, rfl, rfl⟩
theorem Built.few {r : Recipe} (b : Built r) : ∀ k, (thOf r k).length ≤ 16 := by
  induction b with
  | nil => intro k; exact Nat.zero_le _
  | @snoc r x b ok w ih =>
    intro k
    rw [th_snoc]
    by_cases h : x.rank = k + 1
    · rw [if_pos h, List.length_append]
      have hk := ih k
      by_cases h4 : x.rank ≤ 3
      · have m := many_law r x (by omega) h4 (ih _)
        rw [(wrong_zero w).2.2, show x.rank - 1 = k by omega] at m
        have := of_decide_eq_false m.symm
        simp
        omega
      · have e : thOf r k = [] := by
          have h5 := rank_le x
          have : k = 3 := by omega
          subst this
          have s := (wrong_zero w).1
          -- no yeast stands ahead of a yeast
          unfold thOf
          rw [List.map_eq_nil_iff, List.filter_eq_nil_iff]
          intro y hy e
          -- the last line is a yeast as soon as one is
          have yl : ∀ {q : Recipe}, Built q → (∃ y ∈ q, y.rank = 4) → lastOf q = 4 := by
            intro q bq
            induction bq with
            | nil => rintro ⟨y, hy, _⟩; cases hy
            | @snoc q z bq okz wz ihq =>
              rintro ⟨y, hy, ey⟩
              rw [last_snoc]
              rcases List.mem_append.mp hy with hy | hy
              · have l4 := ihq ⟨y, hy, ey⟩
                have sz := (wrong_zero wz).1
                rw [stands_law, l4] at sz
                exfalso
                have hz := rank_le z
                unfold canStand at sz
                split at sz
                · have := of_decide_eq_true sz
                  omega
                · rw [show decide ((4 : Int) < 4) = false by decide, Bool.false_and] at sz
                  cases sz
              · rw [List.mem_singleton.mp hy] at ey
                rw [ey]
                rfl
          have l4 := yl b ⟨y, hy, by simpa using e⟩
          rw [stands_law, l4] at s
          unfold canStand at s
          split at s
          · have := of_decide_eq_true s
            omega
          · rw [show decide ((4 : Int) < 4) = false by decide, Bool.false_and] at s
            cases s
        rw [e]
        simp
    · rw [if_neg h, List.append_nil]
      exact ih k
def yOpt (r : Recipe) : Option Nat := r.findSome? fun (l : Line) => match l with
  | .yeast u => some u
  | _ => none
theorem yeastOf_eq (r : Recipe) : yeastOf r = (yOpt r).getD 0 := rfl
theorem yOpt_snoc (r : Recipe) (x : Line) : yOpt (r ++ [x]) = (yOpt r).or (match x with | .yeast u => some u | _ => none) := by
  unfold yOpt
  rw [List.findSome?_append]
  cases x <;> rfl
theorem ends_snoc (r : Recipe) (x : Line) : ends (r ++ [x]) = (ends r || x.rank == 4) := by
  unfold ends
  rw [List.any_append]
  simp
theorem four_no {k : Nat} (h : canStand (k : Int) 4 = true) (hk : k ≤ 4) : False := by
  have : k = 0 ∨ k = 1 ∨ k = 2 ∨ k = 3 ∨ k = 4 := by omega
  rcases this with rfl | rfl | rfl | rfl | rfl <;> exact absurd h (by decide)
/-- the yeast: none as long as the last line is none -/
theorem Built.yeast {r : Recipe} (b : Built r) : (lastOf r = 4 → ∃ u, yOpt r = some u ∧ 1 ≤ u ∧ u ≤ 950 ∧ ends r = true) ∧ (lastOf r ≠ 4 → yOpt r = none ∧ ends r = false) := by
  induction b with
  | nil => exact ⟨fun h => absurd h (by decide), fun _ => ⟨rfl, rfl⟩⟩
  | @snoc r x b ok w ih =>
    have n4 : lastOf r ≠ 4 := fun e => by
      have s := (wrong_zero w).1
      rw [stands_law, e] at s
      exact four_no s (rank_le x)
    obtain ⟨h1, h2⟩ := ih.2 n4
    rw [last_snoc, yOpt_snoc, ends_snoc, h1, h2]
    cases x with
    | yeast u =>
      refine ⟨fun _ => ⟨u, rfl, ?_⟩, fun h => absurd rfl h⟩
      have o : within 1 950 u = true := ok
      unfold within at o
      rw [Bool.and_eq_true, decide_eq_true_eq, decide_eq_true_eq] at o
      exact ⟨o.1, o.2, rfl⟩
    | recipe n => exact ⟨fun h => absurd h (by simp [Line.rank]), fun _ => ⟨rfl, rfl⟩⟩
    | malt n p y => exact ⟨fun h => absurd h (by simp [Line.rank]), fun _ => ⟨rfl, rfl⟩⟩
    | hop n p a t => exact ⟨fun h => absurd h (by simp [Line.rank]), fun _ => ⟨rfl, rfl⟩⟩
    | add n g => exact ⟨fun h => absurd h (by simp [Line.rank]), fun _ => ⟨rfl, rfl⟩⟩
theorem Built.ends_iff {r : Recipe} (b : Built r) : ends r = (yOpt r).isSome := by
  by_cases h : lastOf r = 4
  · obtain ⟨u, h1, _, _, h2⟩ := b.yeast.1 h
    rw [h1, h2]
    rfl
  · obtain ⟨h1, h2⟩ := b.yeast.2 h
    rw [h1, h2]
    rfl
theorem Built.last {r : Recipe} (b : Built r) (e : ends r = true) : lastOf r = 4 := by
  by_cases h : lastOf r = 4
  · exact h
  · rw [(b.yeast.2 h).2] at e
    cases e
/-- malts stand as soon as a line behind the first one stands -/
theorem Built.malt {r : Recipe} (b : Built r) : 1 ≤ lastOf r → malts r ≠ [] := by
  induction b with
  | nil => intro h; exact absurd h (by decide)
  | @snoc r x b ok w ih =>
    intro h
    rw [last_snoc] at h
    rw [malts_snoc]
    by_cases h1 : 1 ≤ lastOf r
    · intro e
      exact ih h1 (List.append_eq_nil_iff.mp e).1
    · have s := (wrong_zero w).1
      rw [stands_law] at s
      unfold canStand at s
      rw [if_pos (.inr (by omega))] at s
      have s2 := of_decide_eq_true s
      cases x with
      | malt n p y => simp
      | recipe n => exact absurd h (by simp [Line.rank])
      | hop n p a t => exfalso; simp [Line.rank] at s2; omega
      | add n g => exfalso; simp [Line.rank] at s2; omega
      | yeast u => exfalso; simp [Line.rank] at s2; omega
/-- what each thing's numbers keep -/
theorem Built.th_ok {r : Recipe} (b : Built r) : ∀ x ∈ r, x.ok = true := by
  induction b with
  | nil => intro x h; cases h
  | @snoc r x b ok w ih =>
    intro y h
    rcases List.mem_append.mp h with h | h
    · exact ih y h
    · rw [List.mem_singleton.mp h]; exact ok
theorem Built.malt_ok {r : Recipe} (b : Built r) : ∀ m ∈ malts r, nameOk m.1 = true ∧ 1 ≤ m.2.1 ∧ m.2.1 ≤ 10000 ∧ 1 ≤ m.2.2 ∧ m.2.2 ≤ 850 := by
  intro m hm
  unfold malts at hm
  obtain ⟨x, hx, e⟩ := List.mem_filterMap.mp hm
  have ok := b.th_ok x hx
  cases x with
  | malt n p y =>
    cases e
    simp [Line.ok, within] at ok
    exact ⟨ok.1, ok.2.1.1, ok.2.1.2, ok.2.2.1, ok.2.2.2⟩
  | _ => cases e
theorem Built.hop_ok {r : Recipe} (b : Built r) : ∀ m ∈ hops r, nameOk m.1 = true ∧ 1 ≤ m.2.1 ∧ m.2.1 ≤ 10000 ∧ 1 ≤ m.2.2.1 ∧ m.2.2.1 ≤ 2500 ∧ m.2.2.2 ≤ 120 := by
  intro m hm
  unfold hops at hm
  obtain ⟨x, hx, e⟩ := List.mem_filterMap.mp hm
  have ok := b.th_ok x hx
  cases x with
  | hop n p a t =>
    cases e
    simp [Line.ok, within] at ok
    exact ⟨ok.1, ok.2.1.1, ok.2.1.2, ok.2.2.1.1, ok.2.2.1.2, ok.2.2.2⟩
  | _ => cases e
theorem Built.add_ok {r : Recipe} (b : Built r) : ∀ m ∈ adds r, nameOk m.1 = true ∧ 1 ≤ m.2 ∧ m.2 ≤ 100000 := by
  intro m hm
  unfold adds at hm
  obtain ⟨x, hx, e⟩ := List.mem_filterMap.mp hm
  have ok := b.th_ok x hx
  cases x with
  | add n g =>
    cases e
    simp [Line.ok, within] at ok
    exact ⟨ok.1, ok.2.1, ok.2.2⟩
  | _ => cases e
theorem nodup_snoc {α : Type} {l : List α} {x : α} (h : l.Nodup) (n : x ∉ l) : (l ++ [x]).Nodup := by
  rw [List.nodup_append]
  refine ⟨h, by simp, fun a ha b hb e => n ?_⟩
  rw [List.mem_singleton.mp hb] at e
  rw [← e]
  exact ha
theorem Built.nodup {r : Recipe} (b : Built r) : ((malts r).map (·.1)).Nodup ∧ ((hops r).map fun m => (m.1, m.2.2.2)).Nodup ∧ ((adds r).map (·.1)).Nodup := by
  induction b with
  | nil => exact ⟨.nil, .nil, .nil⟩
  | @snoc r x b ok w ih =>
    obtain ⟨h1, h2, h3⟩ := ih
    have cl := (wrong_zero w).2.1
    rw [malts_snoc, hops_snoc, adds_snoc]
    cases x with
    | recipe n => simpa using ⟨h1, h2, h3⟩
    | yeast u => simpa using ⟨h1, h2, h3⟩
    | malt n p y =>
      refine ⟨?_, by simpa using h2, by simpa using h3⟩
      rw [List.map_append]
      refine nodup_snoc h1 fun hm => ?_
      obtain ⟨m, hm, e⟩ := List.mem_map.mp hm
      have c2 : ((malts r).any fun m => m.1 == n) = false := cl
      rw [List.any_eq_false] at c2
      exact c2 m hm (by simpa using e)
    | add n g =>
      refine ⟨by simpa using h1, by simpa using h2, ?_⟩
      rw [List.map_append]
      refine nodup_snoc h3 fun hm => ?_
      obtain ⟨m, hm, e⟩ := List.mem_map.mp hm
      have c2 : ((adds r).any fun m => m.1 == n) = false := cl
      rw [List.any_eq_false] at c2
      exact c2 m hm (by simpa using e)
    | hop n p a t =>
      refine ⟨by simpa using h1, ?_, by simpa using h3⟩
      rw [List.map_append]
      refine nodup_snoc h2 fun hm => ?_
      obtain ⟨m, hm, e⟩ := List.mem_map.mp hm
      have c2 : ((hops r).any (fun m => m.1 == n && m.2.2.2 == t) || match (hops r).getLast? with
        | some m => decide (m.2.2.2 < t)
        | none => false) = false := cl
      have c3 := (Bool.or_eq_false_iff.mp c2).1
      rw [List.any_eq_false] at c3
      injection e with e1 e2
      exact c3 m hm (by simp at e1 e2 ⊢; exact ⟨e1, e2⟩)
end Cl
set_option maxHeartbeats 4000000
/-! Two walks that the layer lacks: enumerate(a tuple), zip(a list, a tuple). Both by one bridge: from the library's GoesN (pairs handed out) to a walk of the layer. -/
namespace Cl
open PySem PySem.Spec PyProof.Rows L2

/-- n new pairs of f i, g i, while what is walked stands (G) -/
def ItP (n : Nat) (G : Hp → Prop) (f g : Nat → Option V) : It where
  go := fun i H => i < n ∧ G H
  yld := fun i H v H2 => ∃ T x y, v = .ref T ∧ H T = none ∧ H2 = upd H T (.tup [x, y]) ∧ f i = some x ∧ g i = some y
  stop := fun i H => i = n ∧ G H
theorem walk_pairs {n : Nat} {G : Hp → Prop} {f g : Nat → Option V} : Walk (ItP n G f g) n G (YPair f g) where
  goes := fun _ _ lt st => ⟨lt, st⟩
  stops := fun _ st => ⟨rfl, st⟩
  yields := fun _ _ _ _ _ _ y => y

/-- a cell of an iterator is no list, no tuple that is read -/
theorem cell_neT {X : Cx} {pins : List (Addr × Obj)} {σ : L2.St} {H : Hp} {s : Shared} {c b : Addr} {ys : List V} (I : Inv X pins σ H s) (f : FpOk X pins H c) (q : SqT X.K H b ys) : b ≠ c := by
  rintro rfl
  rcases q with (q | ⟨o, q⟩) | ⟨o, its, n, q, _⟩
  · rw [f.1] at q
    cases q
  · rw [f.1] at q
    cases q
  · have inB := I.ok.mod.kin b o q
    rcases f.2.2.2.1 with z | z
    · exact I.ok.noex b o inB z
    · exact absurd (Nat.lt_of_lt_of_le (Heap.lt_size (I.ok.bs b o inB).1) z) (Nat.lt_irrefl _)
theorem cell_neL {X : Cx} {pins : List (Addr × Obj)} {σ : L2.St} {H : Hp} {s : Shared} {c b : Addr} {ys : List V} (I : Inv X pins σ H s) (f : FpOk X pins H c) (q : SqL X.K H b ys) : b ≠ c := by
  rintro rfl
  rcases q with (q | ⟨o, q⟩) | ⟨o, its, n, q, _⟩
  · rw [f.1] at q
    cases q
  · rw [f.1] at q
    cases q
  · have inB := I.ok.mod.kin b o q
    rcases f.2.2.2.1 with z | z
    · exact I.ok.noex b o inB z
    · exact absurd (Nat.lt_of_lt_of_le (Heap.lt_size (I.ok.bs b o inB).1) z) (Nat.lt_irrefl _)

/-- the bridge: at every state where what is walked stands, the library's walk over the cells wr, from tn to tn -/
theorem turn_pairs {P : Program} {w : World} {K : PySem.W.Frag} {elts : List Expr} {kk : Nat} {tpos : Pos} {n : Nat} {G : Hp → Prop} {f g : Nat → Option V} {fp wr : List Addr} {it : Addr} {tn : Nat → Heap → Prop}
    (mem : it ∈ fp) (sub : ∀ b ∈ wr, b ∈ fp) (obj : ∀ i h, tn i h → ∀ b ∈ fp, ∃ o, h.get? b = some o ∧ ∀ v, o.data ≠ .cell v)
    (keep : ∀ i h h2, tn i h → (∀ b ∈ fp, ∀ o, h.get? b = some o → h2.get? b = some o) → tn i h2)
    (self : ∀ (A : Around) (i : Nat) (s : Shared) (Q : Value → Shared → Prop) (E : Value → Shared → Prop), tn i s.heap → Q (.ref it) s → wpAny (model P w) A (pyIter (.ref it)) Q E s)
    (lib : ∀ (X : Cx), X.prog = P → X.w = w → X.K = K → X.calm = true → ∀ (pins : List (Addr × Obj)) (s : Shared) (σ : L2.St) (H : Hp) (i : Nat), Inv X pins σ H s → (∀ b ∈ fp, FpOk X pins H b) → tn i s.heap → G H →
      ∃ (fpw : List Addr) (Y : Nat → Heap → Value → Heap → Prop) (St : Nat → Heap → Prop), GoesN P w X.A (.Tuple elts kk tpos) it fpw wr n Y St ∧ St i s.heap ∧ (∀ h2, St (i + 1) h2 → tn (i + 1) h2) ∧
        ∀ v h2, i < n → Y i s.heap v h2 → ∃ T x y u1 u2, v = .ref T ∧ s.heap.objs.size ≤ T ∧ h2.IsTuple T #[u1, u2] ∧ f i = some x ∧ g i = some y ∧ RelV x u1 ∧ RelV y u2) :
    Turn P w K (.Tuple elts kk tpos) (ItP n G f g) fp it tn where
  mem := mem
  obj := obj
  keep := keep
  self := self
  item := fun X eP ew eK calm i pins s σ H E I cells st ⟨lt, stands⟩ => by
    obtain ⟨fpw, Y, St, go, st0, next, tells⟩ := lib X eP ew eK calm pins s σ H i I cells st stands
    refine go.goes i s (fun v s2 => ∃ x H2, Inv X pins σ H2 s2 ∧ RelV x v ∧ (ItP n G f g).yld i H x H2 ∧ tn (i + 1) s2.heap ∧ ∀ b ∈ fp, H2 b = none) E lt st0 (fun v h2 tk y st2 old _ => ?_)
    obtain ⟨T, x, z, u1, u2, rfl, new, isT, fx, gz, r1, r2⟩ := tells v h2 lt y
    have un : H T = none := I.hok.fresh new
    have obT : ObjOk X.prog X.w (upd H T (.tup [x, z])) h2 T (.tup [x, z]) := ⟨by show 2 ≤ sizeLine; decide, [u1, u2], .cons r1 (.cons r2 .nil), isT⟩
    refine ⟨.ref T, _, I.turnedNew (t' := tk) (ch := wr) (fun b o nb e => old b o nb e) (fun b mb => cells b (sub b mb)) new obT, rfl, ⟨T, x, z, rfl, un, rfl, fx, gz⟩, next h2 st2, fun b mb => ?_⟩
    obtain ⟨o, e, _⟩ := obj i s.heap st b mb
    rw [upd_ne (Nat.ne_of_lt (Nat.lt_of_lt_of_le (Heap.lt_size e) new))]
    exact (cells b mb).1
  done := fun X eP ew eK calm i pins s σ H E I cells st ⟨eq, stands⟩ => by
    obtain ⟨fpw, Y, St, go, st0, _, _⟩ := lib X eP ew eK calm pins s σ H i I cells st stands
    rw [eq] at st0
    exact go.stops s (fun s2 => Inv X pins σ H s2) E st0 fun h2 tk old _ => I.turnedL (t' := tk) (ch := wr) (fun b o nb e => old b o nb e) fun b mb => cells b (sub b mb)

/-! ### enumerate(t) -/
theorem enum_new {v : Value} {o : Obj} {Hh : Heap → Prop} (B : Begins v o Hh) :
    Meets (Builtin.«enumerate.__new__» ⟨[.type "enumerate", v], []⟩) (fun _ R s => Hh s.heap ∧
      R (.ok (.ret (.ref (s.heap.push o).objs.size))) { s with heap := (s.heap.push o).push { cls := .type "enumerate", data := .fields #[.none, .bool false, .ref s.heap.objs.size, rawInt 0, .none, .none] } }) :=
  .of_wp fun prog w A R s both => by
    obtain ⟨hp, gens, dr, tk, os⟩ := s
    obtain ⟨stands, ends⟩ := both
    have isS := sub_enumerate
    have begins : ∀ {A2 : Around} {E : Value → Shared → Prop} {Q : Value → Shared → Prop}, Q (.ref hp.objs.size) ⟨hp.push o, gens, dr, tk, os⟩ → wpAny (model prog w) A2 (pyIter v) Q E ⟨hp, gens, dr, tk, os⟩ :=
      fun q => B.iter prog w _ _ ⟨hp, gens, dr, tk, os⟩ _ stands q
    wp_walk using begins
    refine wpAny_stack_any fun st => wpAny_pure ?_
    split
    · rename_i c _ _ _ _ _
      cases (c == Value.type "enumerate")
      all_goals (wp_walk using begins; exact ⟨_, rfl, ends⟩)
    · wp_walk using begins
      exact ⟨_, rfl, ends⟩
theorem call_enum {prog : Program} {w : World} {A : Around} {E : Value → Shared → Prop} {s : Shared} {v : Value} {o : Obj} {Hh : Heap → Prop} {Q : Value → Shared → Prop} (B : Begins v o Hh) (stands : Hh s.heap)
    (go : ∀ h2, IsEnum h2 (s.heap.objs.size + 1) s.heap.objs.size 0 .none → h2.get? s.heap.objs.size = some o → (∀ b ob, s.heap.get? b = some ob → h2.get? b = some ob) → Q (.ref (s.heap.objs.size + 1)) { s with heap := h2 }) :
    wpAny (model prog w) A (call (.type "enumerate") [v]) Q E s := by
  have sz : (s.heap.push o).objs.size = s.heap.objs.size + 1 := Heap.size_push ..
  refine callType_new F.called_enumerate (by decide) (F.typeCall_enumerate_1 _) (F.newCall_enumerate_1 _) (fun obj => F.args_object_init_2 obj _) F.entry_enumerate_new (enum_new B) ⟨stands, ?_⟩
  show _ ∧ _
  rw [sz]
  have at2 : IsEnum ((s.heap.push o).push { cls := .type "enumerate", data := .fields #[.none, .bool false, .ref s.heap.objs.size, rawInt 0, .none, .none] }) (s.heap.objs.size + 1) s.heap.objs.size 0 .none := by
    have q := Heap.get?_push_size (s.heap.push o) (o := { cls := .type "enumerate", data := .fields #[.none, .bool false, .ref s.heap.objs.size, rawInt 0, .none, .none] }) rfl
    rw [sz] at q
    exact q
  exact ⟨⟨_, at2, rfl⟩, go _ at2 (Heap.get?_push_of_some _ (Heap.get?_push_size _ B.free)) fun b ob e => Heap.get?_push_of_some _ (Heap.get?_push_of_some _ e)⟩
theorem vals_at {xs : List V} {us : List Value} (r : Vals xs us) {i : Nat} {u : Value} (e : us.toArray[i]? = some u) : ∃ x, xs[i]? = some x ∧ RelV x u := by
  have e2 : us[i]? = some u := by simpa using e
  cases q : xs[i]? with
  | none =>
    have z := Vals.none_of r q
    rw [e2] at z
    cases z
  | some x =>
    obtain ⟨u2, e3, rel⟩ := Vals.get r q
    rw [e2] at e3
    cases e3
    exact ⟨x, rfl, rel⟩
def iEnumT (K : PySem.W.Frag) (ta : TA) : TI := fun σ H R => ta σ H fun vs H1 => ∃ a xs, vs = [.ref a] ∧ SqT K H1 a xs ∧ R (ItP xs.length (fun H => SqT K H a xs) (fun i => some (.int (i : Nat))) (fun i => xs[i]?)) H1
theorem pi_enumT {X : Cx} {e : Expr} {ta : TA} {p pos tpos : Pos} {elts : List Expr} {kk : Nat} (hg : Gl X "enumerate") (hm : X.mg "enumerate" = none) (ha : PA X [e] ta) (hs : starEach [e] X.env = [(false, eval e X.env)] := by rfl) :
    PI X (.Tuple elts kk tpos) (.Call (.Name "enumerate" p) [e] [] pos) (iEnumT X.K ta) := by
  refine ⟨fun pins s σ H R I rd => ?_⟩
  refine Call_ (ld_blt I hg hm boot_enumerate (PyProof.Rows.callWith_type1 (thn (ha.run pos pins s σ H _ I rd) fun us s1 ⟨vs, H1, I1, rel, a, xs, isA, tup, q⟩ => ?_) hs rfl))
  subst isA
  cases rel with
  | cons r rr =>
    cases rr
    cases r
    obtain ⟨its, rv, isT, _⟩ := I1.tuple tup
    refine call_enum (begins_tuple a its.toArray) isT fun h2 at2 at1 old => wpAny_pyIter_enum at2 ?_
    have J : Inv X pins σ H1 { s1 with heap := h2 } := I1.kept (t' := s1.toks) old
    have fresh : ∀ b, s1.heap.objs.size ≤ b → FpOk X pins H1 b := fun b le => I1.fpOk le (I1.hok.fresh le)
    refine ⟨s1.heap.objs.size + 1, [s1.heap.objs.size + 1, s1.heap.objs.size], (fun i h => (∃ old, IsEnum h (s1.heap.objs.size + 1) s1.heap.objs.size ((i : Nat) : Int) old) ∧ h.IsTupleIter s1.heap.objs.size a i), _, H1, rfl, J,
      turn_pairs (wr := [s1.heap.objs.size + 1, s1.heap.objs.size]) (by simp) (fun b mb => mb) (fun i h st b mb => ?_) (fun i h h3 st k => ?_) (fun A i s3 Q E st q3 => ?_) (fun Y eP ew eK calm pn s3 τ G i I3 cells st std => ?_), ⟨⟨.none, at2⟩, ⟨_, at1, rfl, rfl⟩⟩, fun b mb => ?_, q⟩
    · obtain ⟨⟨old1, e1⟩, ⟨o, e2, _, d2⟩⟩ := st
      rcases (by simpa using mb : b = s1.heap.objs.size + 1 ∨ b = s1.heap.objs.size) with z | z
      · exact ⟨_, z ▸ e1, fun v z => by cases z⟩
      · exact ⟨o, z ▸ e2, fun v z => by rw [d2] at z; cases z⟩
    · obtain ⟨⟨old1, e1⟩, e2⟩ := st
      exact ⟨⟨old1, k _ (by simp) _ e1⟩, e2.at fun o q => k _ (by simp) o q⟩
    · obtain ⟨⟨old1, e1⟩, _⟩ := st
      exact wpAny_pyIter_enum e1 q3
    · rw [← eP, ← ew]
      rw [← eK] at std
      obtain ⟨its3, rv3, isT3, _⟩ := I3.tuple std
      have ne : a ≠ s1.heap.objs.size := cell_neT I3 (cells _ (by simp)) std
      have ne2 : a ≠ s1.heap.objs.size + 1 := cell_neT I3 (cells _ (by simp)) std
      have len : its3.toArray.size = xs.length := by rw [List.size_toArray, ← rv3.length]
      have hh : Y.A.in1.handled = none := I3.ok.hd calm
      have W := GoesN.enumFrom (prog := Y.prog) (w := Y.w) (A := Y.A) (elts := elts) (x1 := kk) (pos := tpos) 0 (Draws.tuple (prog := Y.prog) (w := Y.w) (A := Y.A.in1) hh s1.heap.objs.size a ne its3.toArray) (s1.heap.objs.size + 1) (Nat.succ_ne_self _) (by
        intro z
        rcases (by simpa using z : s1.heap.objs.size + 1 = s1.heap.objs.size ∨ s1.heap.objs.size + 1 = a) with z | z
        · exact Nat.succ_ne_self _ z
        · exact ne2 z.symm) (by simp)
      rw [len] at W
      refine ⟨_, _, _, W, ⟨⟨st.1.choose, by rw [Int.zero_add]; exact st.1.choose_spec⟩, st.2, isT3⟩, fun h3 ⟨⟨old3, z1⟩, z2⟩ => ⟨⟨old3, by rw [Int.zero_add] at z1; exact z1⟩, z2.1⟩, fun v h3 lt y => ?_⟩
      obtain ⟨T, t, x, ev, new, at3, isP⟩ := y
      obtain ⟨x2, e2, r2⟩ := vals_at rv3 at3
      exact ⟨T, _, x2, _, _, ev, new, isP, rfl, e2, ⟨t, by rw [Int.zero_add]⟩, r2⟩
    · rcases (by simpa using mb : b = s1.heap.objs.size + 1 ∨ b = s1.heap.objs.size) with z | z
      · rw [z]
        exact fresh _ (Nat.le_add_right _ _)
      · rw [z]
        exact fresh _ (Nat.le_refl _)

/-! ### zip(l, t) -/
def iZipLT (K : PySem.W.Frag) (ta : TA) : TI := fun σ H R => ta σ H fun vs H1 => ∃ a b xs ys, vs = [.ref a, .ref b] ∧ SqL K H1 a xs ∧ SqT K H1 b ys ∧
  R (ItP (min xs.length ys.length) (fun H => SqL K H a xs ∧ SqT K H b ys) (fun i => xs[i]?) (fun i => ys[i]?)) H1
theorem pi_zipLT {X : Cx} {e e2 : Expr} {ta : TA} {p pos tpos : Pos} {elts : List Expr} {kk : Nat} (hg : Gl X "zip") (hm : X.mg "zip" = none) (ha : PA X [e, e2] ta)
    (hs : starEach [e, e2] X.env = (false, eval e X.env) :: starEach [e2] X.env := by rfl) (hpl : (backTo pos (starEach [e2] X.env)).any (·.1) = false := by rfl) :
    PI X (.Tuple elts kk tpos) (.Call (.Name "zip" p) [e, e2] [] pos) (iZipLT X.K ta) := by
  refine ⟨fun pins s σ H R I rd => ?_⟩
  refine Call_ (ld_blt I hg hm PyProof.Rows.boot_zip (PyProof.Rows.callWith_type1 (thn (ha.run pos pins s σ H _ I rd) fun us s1 ⟨vs, H1, I1, rel, a, b, xs, ys, isA, lst, tup, q⟩ => ?_) hs hpl))
  subst isA
  cases rel with
  | cons r rr =>
    cases rr with
    | cons r2 rr =>
      cases rr
      cases r
      cases r2
      obtain ⟨its1, rv1, isL, _⟩ := I1.list lst
      obtain ⟨its2, rv2, isT, _⟩ := I1.tuple tup
      generalize hN : s1.heap.objs.size = N
      refine zip_begins2 (begins_list a its1.toArray) (begins_tuple b its2.toArray) isL.isList isT fun h2 atZ atTI atTO at1 at2 _ old => ?_
      rw [hN] at atZ atTI atTO at1 at2 ⊢
      refine wpAny_pyIter_zip atZ ?_
      have J : Inv X pins σ H1 { s1 with heap := h2 } := I1.kept (t' := s1.toks) old
      have five : ∀ {c : Addr}, c ∈ [N + 4, N + 2, N + 3, N, N + 1] → c = N + 4 ∨ c = N + 2 ∨ c = N + 3 ∨ c = N ∨ c = N + 1 := fun m => by simpa using m
      have fresh : ∀ c, c ∈ [N + 4, N + 2, N + 3, N, N + 1] → FpOk X pins H1 c := fun c m => by
        have le : s1.heap.objs.size ≤ c := by
          rw [hN]
          rcases five m with z | z | z | z | z <;> rw [z] <;> first | exact Nat.le_add_right _ _ | exact Nat.le_refl _
        exact I1.fpOk le (I1.hok.fresh le)
      refine ⟨N + 4, [N + 4, N + 2, N + 3, N, N + 1], (fun i h => IsZip h (N + 4) (N + 2) (N + 3) .none ∧ IsTupOf2 h (N + 2) (.ref N) (.ref (N + 1)) ∧ (∃ a1 a2, IsTupOf2 h (N + 3) a1 a2) ∧ h.IsListIter N a i ∧ h.IsTupleIter (N + 1) b i), _, H1, rfl, J,
        turn_pairs (wr := [N + 4, N + 3, N, N + 1]) (by simp) (fun c m => ?_) (fun i h st c m => ?_) (fun i h h3 st k => ?_) (fun A i s3 Q E st q3 => ?_) (fun Y eP ew eK calm pn s3 τ G i I3 cells st std => ?_),
        ⟨atZ, atTI, ⟨_, _, atTO⟩, ⟨_, at1, rfl, rfl⟩, ⟨_, at2, rfl, rfl⟩⟩, fresh, q⟩
      · rcases (by simpa using m : c = N + 4 ∨ c = N + 3 ∨ c = N ∨ c = N + 1) with z | z | z | z <;> rw [z] <;> simp
      · obtain ⟨e1, e2, ⟨_, _, e3⟩, ⟨o4, e4, _, d4⟩, ⟨o5, e5, _, d5⟩⟩ := st
        rcases five m with z | z | z | z | z
        · exact ⟨_, z ▸ e1, fun v z => by cases z⟩
        · exact ⟨_, z ▸ e2, fun v z => by cases z⟩
        · exact ⟨_, z ▸ e3, fun v z => by cases z⟩
        · exact ⟨o4, z ▸ e4, fun v z => by rw [d4] at z; cases z⟩
        · exact ⟨o5, z ▸ e5, fun v z => by rw [d5] at z; cases z⟩
      · obtain ⟨e1, e2, ⟨a1, a2, e3⟩, e4, e5⟩ := st
        exact ⟨k _ (by simp) _ e1, k _ (by simp) _ e2, ⟨a1, a2, k _ (by simp) _ e3⟩, e4.at fun o z => k _ (by simp) o z, e5.at fun o z => k _ (by simp) o z⟩
      · exact wpAny_pyIter_zip st.1 q3
      · rw [← eP, ← ew]
        rw [← eK] at std
        obtain ⟨stdL, stdT⟩ := std
        obtain ⟨i1, rv3, isL3, _⟩ := I3.list stdL
        obtain ⟨i2, rv4, isT3, _⟩ := I3.tuple stdT
        have neL : ∀ c, c ∈ [N + 4, N + 2, N + 3, N, N + 1] → c ≠ a := fun c m => (cell_neL I3 (cells c m) stdL).symm
        have neT : ∀ c, c ∈ [N + 4, N + 2, N + 3, N, N + 1] → c ≠ b := fun c m => (cell_neT I3 (cells c m) stdT).symm
        have ne : ∀ {j k : Nat}, j ≠ k → (N + j : Addr) ≠ N + k := fun jk z => jk (Nat.add_left_cancel z)
        have ne0 : ∀ {j : Nat}, j ≠ 0 → (N + j : Addr) ≠ N := fun j0 z => j0 (Nat.add_left_cancel (show N + _ = N + 0 from z))
        have two : ∀ {c d e : Addr}, c ≠ d → c ≠ e → c ∉ [d, e] := fun n1 n2 m => by
          rcases List.mem_cons.mp m with z | z
          · exact n1 z
          · exact n2 (List.mem_singleton.mp z)
        have hh : Y.A.in1.handled = none := I3.ok.hd calm
        have S : ZipSep2 (N + 4) (N + 2) (N + 3) N (N + 1) [N, a] [N + 1, b] :=
          { TIz := ne (by decide), TOz := ne (by decide), TITO := ne (by decide), TIi1 := ne0 (by decide), mem1 := List.mem_cons_self, zf1 := two (ne0 (by decide)) (neL _ (by simp)), Tf1 := two (ne0 (by decide)) (neL _ (by simp)),
            TIi2 := ne (by decide), mem2 := List.mem_cons_self, zf2 := two (ne (by decide)) (neT _ (by simp)), Tf2 := two (ne (by decide)) (neT _ (by simp)), sep1_2 := two (ne0 (by decide)).symm (neT _ (by simp)), sep2_1 := two (ne0 (by decide)) (neL _ (by simp)) }
        have W := GoesN.zip2 (prog := Y.prog) (w := Y.w) (A := Y.A) (elts := elts) (x1 := kk) (pos := tpos) S (Draws.list (prog := Y.prog) (w := Y.w) (A := Y.A.in1) hh N a (neL _ (by simp)).symm i1.toArray) (Draws.tuple (prog := Y.prog) (w := Y.w) (A := Y.A.in1) hh (N + 1) b (neT _ (by simp)).symm i2.toArray)
        have len : min i1.toArray.size i2.toArray.size = min xs.length ys.length := by rw [List.size_toArray, List.size_toArray, ← rv3.length, ← rv4.length]
        rw [len] at W
        obtain ⟨e1, e2, e3, e4, e5⟩ := st
        refine ⟨_, _, _, W, ⟨e1, e2, e3, ⟨e4, isL3.isList⟩, ⟨e5, isT3⟩⟩, fun h3 z => ⟨z.1, z.2.1, z.2.2.1, z.2.2.2.1.1, z.2.2.2.2.1⟩, fun v h3 lt y => ?_⟩
        obtain ⟨T, x, z, ev, new, at3, at4, isP⟩ := y
        obtain ⟨x2, f2, r2⟩ := vals_at rv3 at3
        obtain ⟨z2, f3, r3⟩ := vals_at rv4 at4
        exact ⟨T, _, _, _, _, ev, new, isP, f2, f3, r2, r3⟩
end Cl
set_option maxHeartbeats 4000000
/-! Further rules that the layer lacks: a list == [] whatever it holds; sorted of a list of data; an own error with an __init__, raised where nothing is handled, its context told. -/
namespace Cl
open PySem PySem.Spec PyProof.Rows L2 HotX L2H

section
variable {X : Cx}
/-- xs == [], xs != []: a list of anything -/
def rEqNil (K : PySem.W.Frag) (neg : Bool) : R2 := fun x y H Q => ∃ a b xs, x = .ref a ∧ y = .ref b ∧ SqL K H a xs ∧ SqL K H b [] ∧ Q (.bl (if neg then !xs.isEmpty else xs.isEmpty)) H
theorem op_eqNil (hu : X.A.units + 64 < cLine) : OpR X (compareOp .Eq) (rEqNil X.K false) := by
  intro pins s σ H x y v u Q I rx ry rd
  obtain ⟨a, b, xs, rfl, rfl, la, lb, q⟩ := rd
  cases rx
  cases ry
  obtain ⟨ia, va, pa, _⟩ := I.list la
  obtain ⟨ib, vb, pb, _⟩ := I.list lb
  cases vb
  have hu0 : X.A.units < cLine := Nat.lt_of_le_of_lt (Nat.le_add_right _ _) hu
  cases va with
  | nil => exact SeqAt.eq_listAt (e := fun _ => true) pa.isList pb.isList rfl hu0 (fun j h => absurd h (Nat.not_lt_zero _)) ⟨.bl true, H, I, rfl, q⟩
  | cons r rr => exact SeqAt.eq_list_lengthsAt pa.isList pb.isList rfl hu0 ⟨.bl false, H, I, rfl, q⟩
theorem op_neNil (hu : X.A.units + 64 < cLine) : OpR X (compareOp .NotEq) (rEqNil X.K true) := by
  intro pins s σ H x y v u Q I rx ry rd
  obtain ⟨a, b, xs, rfl, rfl, la, lb, q⟩ := rd
  have hu0 : X.A.units < cLine := Nat.lt_of_le_of_lt (Nat.le_add_right _ _) hu
  cases xs with
  | nil => exact op_neD hu pins s σ H _ _ v u Q I rx ry ⟨.list [], .list [], .lst la .nil, .lst lb .nil, rfl, rfl, q⟩
  | cons x xs =>
    cases rx
    cases ry
    obtain ⟨ia, va, pa, _⟩ := I.list la
    obtain ⟨ib, vb, pb, _⟩ := I.list lb
    cases vb
    cases va with
    | cons r rr => exact SeqAt.RcNeAt.lists_lengths pa.isList pb.isList rfl hu0 X.prog X.w X.xe _ ⟨.bl true, H, I, rfl, q⟩

/-- sorted(xs), xs data of one kind: just the stable sort by the data's order -/
def rSortedD (K : PySem.W.Frag) : List V → Hp → VK → Prop := fun vs H Q => ∃ (a : Addr) (ts : List (V × PyData)), vs = [.ref a] ∧ SqL K H a (ts.map Prod.fst) ∧ (∀ t ∈ ts, Dp K H t.1 t.2) ∧ PySem.W.AllAlike (ts.map Prod.snd) ∧ PySem.W.Sortable (ts.map Prod.snd) ∧
  (∀ t ∈ ts, t.2.depth ≤ 60) ∧ ∀ p, H p = none → Q (.ref p) (upd H p (.lst ((ts.mergeSort (PySem.W.dataLe false Prod.snd)).map Prod.fst)))
theorem each_vals : ∀ {us : List Value} {ts : List (V × PyData)}, Vals (ts.map Prod.fst) us → PySem.W.EachIs (fun (u : Value) (t : V × PyData) => RelV t.1 u) us ts
  | [], [], _ => .nil
  | [], _ :: _, r => by cases r
  | _ :: _, [], r => by cases r
  | _ :: _, _ :: _, .cons r rr => .cons r (each_vals rr)
theorem vals_each : ∀ {us : List Value} {ts : List (V × PyData)}, PySem.W.EachIs (fun (u : Value) (t : V × PyData) => RelV t.1 u) us ts → Vals (ts.map Prod.fst) us
  | _, _, .nil => .nil
  | _, _, .cons r rr => .cons r (vals_each rr)
theorem each_reads {pins : List (Addr × Obj)} {σ : L2.St} {H : Hp} {s : Shared} (I : Inv X pins σ H s) : ∀ {us : List Value} {ts : List (V × PyData)}, (∀ t ∈ ts, Dp X.K H t.1 t.2) → Vals (ts.map Prod.fst) us →
    PySem.W.EachIs (fun (u : Value) (t : V × PyData) => ∃ as, Reads s.heap u t.2 as) us ts
  | [], [], _, _ => .nil
  | [], _ :: _, _, r => by cases r
  | _ :: _, [], _, r => by cases r
  | _ :: _, t :: _, d, .cons r rr => .cons (Dp.reads I t.2 t.1 _ (d t List.mem_cons_self) r) (each_reads I (fun z m => d z (List.mem_cons_of_mem _ m)) rr)
theorem cr_sortedD (hu : X.A.units + 64 < cLine) : CallR X (.builtin "sorted") (rSortedD X.K) := by
  intro pins s σ H vs us Q I r rd
  obtain ⟨a, ts, rfl, lst, data, like, able, flat, q⟩ := rd
  obtain ⟨its, rv, isL, len⟩ := I.list lst
  cases r with
  | cons r rr =>
    cases rr
    cases r
    have len2 : ts.length ≤ sizeLine := by rw [List.length_map] at len; exact len
    refine PySem.W.sorted_data (bs := ts) (enc := Prod.snd) isL.isList (each_vals rv) (each_reads I data rv) like able len2 (fun t m => by have := flat t m; omega) fun out lo eo => ?_
    obtain ⟨n, atN⟩ := PyProof.Rows.sortedAll_at s.heap its out.toArray
    have lo2 : ((ts.mergeSort (PySem.W.dataLe false Prod.snd)).map Prod.fst).length ≤ sizeLine := by rw [List.length_map, List.length_mergeSort]; exact len2
    exact ⟨.ref _, upd H (s.heap.objs.size + 1) (.lst ((ts.mergeSort (PySem.W.dataLe false Prod.snd)).map Prod.fst)), I.laid (t' := s.toks) (fun _ _ => PyProof.Rows.sortedAll_old) (Nat.le_succ _) ⟨lo2, out, n, vals_each eo, atN⟩, rfl, q _ (I.hok.fresh (Nat.le_succ _))⟩
end

/-! ### defs that let errors out whose context is told -/
section
variable {P : Program} {w : World} {K : PySem.W.Frag} {mg : Str → Option Value} {base : Heap}
theorem okN {x qual : Str} {st : Stmt} {f : Addr} {fd : FuncData} {N ps : List Str} {k : Nat} {sp : Sp} (F : Fun K x qual st f fd) (S : FnScope N ps (defScope st)) (len : ∀ vs H Q E, sp vs H Q E → vs.length = ps.length)
    (body : ∀ (cdv : Value) (A : Around) (outer : List Env) (s : Shared) (H : Hp) (vs : List V) (Q : VK) (E : XK), Room k (A.deeper (envOfC qual (defScope st) s.heap.objs.size f cdv)) → sp vs H Q E →
      ∃ t, PSs (cxOf (L2N.CX P w) P w K mg base N qual (defScope st) f cdv A outer s H E) (defBody st) t ∧ t { nx := fun _ H2 => Q .non H2, rt := Q } (start N vs) H) : FnOk P w K mg base (L2N.CX P w) (k + 1) f fd ps sp := by
  obtain ⟨oc, od, kV, doc, pm, an, cdv, ct, osl, rfl, lk, hcd⟩ := F.ex
  exact fn_of lk hcd S len fun A outer s H vs Q E hr q => body cdv A outer s H vs Q E hr q
/-- a def that is called while an error is handled -/
theorem okHot {CX : CXT} {x qual : Str} {st : Stmt} {f : Addr} {fd : FuncData} {N ps : List Str} {k : Nat} {sp : Sp} (F : Fun K x qual st f fd) (S : FnScope N ps (defScope st)) (len : ∀ vs H Q E, sp vs H Q E → vs.length = ps.length)
    (body : ∀ (cdv : Value) (A : Around) (outer : List Env) (s : Shared) (H : Hp) (vs : List V) (Q : VK) (E : XK) (p : Addr × Obj), Hot1 A p → RoomH k (A.deeper (envOfC qual (defScope st) s.heap.objs.size f cdv)) → sp vs H Q E →
      ∃ t, PSs (cxH CX P w K mg base N qual (defScope st) f cdv A outer s H E p) (defBody st) t ∧ t { nx := fun _ H2 => Q .non H2, rt := Q } (start N vs) H) : FnH P w K mg base CX (k + 1) f fd ps sp := by
  obtain ⟨oc, od, kV, doc, pm, an, cdv, ct, osl, rfl, lk, hcd⟩ := F.ex
  exact fn_ofH lk hcd S len fun A outer s H vs Q E p hot hr q => body cdv A outer s H vs Q E p hot hr q
end
/-- no exception leaves -/
theorem passNo {X : Cx} {E : XK} : Passes CX0 X E := fun _ _ _ _ _ _ _ z => z.elim

/-- C(e, ..) of an own error with an __init__, nothing being handled: its context is None -/
theorem pmkN_oex {X : Cx} {x : Str} {e : Expr} {es : List Expr} {ta : TA} {p pos : Pos} {C fI : Addr} {k : Nat} {fd : FuncData} {ps : List Str} {sp : Sp} (T : OexC X.K C) (iC : PySem.W.findIn X.K (.ref C) "__init__" = some (some (.ref fI))) (tI : PySem.W.typeIn X.K (.ref fI) = some (.type "function"))
    (F1 : FnOk X.prog X.w X.K X.mg X.base CX0 k fI fd ps sp) (hr : Room (k + 1) X.A) (hb : Binds X.K fd ps []) (hg : Gl X x) (hm : X.mg x = some (.ref C)) (ha : PA X (e :: es) ta)
    (hdb : (x == ("__debug__" : Str)) = false := by decide) (he : starEach (e :: es) X.env = (false, eval e X.env) :: starEach es X.env := by rfl) (hpl : (backTo pos (starEach es X.env)).any (·.1) = false := by rfl) :
    L2N.PMk X (.Call (.Name x p) (e :: es) [] pos) (tMkO C sp [] ta) := by
  intro pins s σ H Q I rd
  obtain ⟨nm, q, N, bs, bm, sn, sub, ab, col, dd, k0, k1, k2, k3, k5, hC, hbm⟩ := T.cls
  refine wpAny_Call_Name_kw (ld_glob I hg hm (PySem.W.callWith_K (h₀ := X.base) I.ok.mod.kin T.kC (thn (ha.run pos pins s σ H _ I rd) fun us s1 ⟨vs, H1, I1, rel, few, next⟩ => ⟨I1.kIn, ?_⟩) he hpl) hdb)
  show wpAny _ _ (call (.ref C) us) _ _ _
  obtain ⟨hp, gn, dr, tk, os⟩ := s1
  -- the new error stands at a
  obtain ⟨a, ea⟩ : ∃ a : Addr, a = hp.objs.size + 1 := ⟨_, rfl⟩
  have above : hp.objs.size ≤ a := by rw [ea]; exact Nat.le_succ _
  have free : H1 a = none := I1.hok.fresh above
  have wish := next a free
  rw [List.append_nil] at wish
  have old : ∀ b o, hp.get? b = some o → ((hp.push (PySem.W.kdv_tup us)).push (PySem.HandSPX.excO C hp.objs.size)).get? b = some o := fun b o z => Heap.get?_push_of_some _ (Heap.get?_push_of_some _ z)
  have atA : ((hp.push (PySem.W.kdv_tup us)).push (PySem.HandSPX.excO C hp.objs.size)).get? a = some (PySem.HandSPX.excO C hp.objs.size) := by rw [ea]; heap_get
  have I2 : Inv X pins σ (upd H1 a (exo a C none)) ⟨(hp.push (PySem.W.kdv_tup us)).push (PySem.HandSPX.excO C hp.objs.size), gn, dr, tk, os⟩ := I1.laid (t' := tk) old above (exo_ok atA)
  have rel2 : Vals (V.ref a :: vs) (Value.ref a :: us) := .cons rfl rel
  have lenA : (Value.ref a :: us ++ []).length = ps.length := by
    rw [List.append_nil, ← rel2.length]
    exact F1.len _ _ _ _ wish
  have bound := hb _ (Value.ref a :: us) I2.kIn lenA
  rw [List.append_nil] at bound
  have fewU : us.length ≤ sizeLine := by
    rw [← Paired.length rel, sizeLine_eq]
    omega
  have run := F1.run _ X.stack _ _ ⟨Value.ref a :: us, []⟩ _ _ _ (fun _ _ _ => False) (hr.make C us []) (I2.env0.make C us []) bound rel2 wish
  rw [ea] at run
  refine wpAny_call (PySem.HandSPX.call_own F.excBase_ValueError (fun Y => PySem.HandSPX.refsVE_contains Y bm hbm) (I1.kIn _ _ hC) (PySem.W.looks_findIn I1.kIn iC) (fun self => PySem.W.bind_fn I1.kIn self tI) fewU (codeAny_mono run fun r s2 left => ?_))
  rcases r with er | fl
  · exact False.elim left
  · cases fl with
    | ret u =>
      obtain ⟨v, H2, sameOs, bare2, un2, hok2, rv, ev, d, fs, eA, eD, freeD, ends⟩ := left
      subst ev
      obtain ⟨h2, g2, d2, t2, os2⟩ := s2
      rw [← ea] at un2 eA ends
      obtain ⟨t0, G, J, inG, offG, obj, unA⟩ := mk_end0 (d2 := d2) (t2 := t2) I1 above old un2 hok2 sameOs bare2 eA eD freeD
      refine ⟨rv, a, _, _, ⟨G, g2, d2, t2, os2⟩, _, .ref C, some d, by rw [ea], J, inG, offG, obj, ⟨rfl, rfl, fun vs z => ?_⟩, rfl, rfl, unA, rfl, bare2, raises_own T.exC T.tyC, ends⟩
      cases z
      rfl
    | next => exact False.elim left
    | brk => exact False.elim left
    | cont => exact False.elim left
end Cl
set_option maxHeartbeats 4000000
/-! A rule that the layer lacks: try: BODY / except X as n: SUITE, where the suite always raises (and nothing else leaves the body but what X names). -/
namespace Cl
open PySem PySem.Spec PyProof.Rows L2 HotX L2H

/-! ### frames whose one object has another map -/
theorem frames_but {old new base : Heap} {L : Addr} (same : ∀ b o, b ≠ L → old.get? b = some o → new.get? b = some o) (atL : ∃ o, new.get? L = some o ∧ ∀ vs, o.data ≠ .fields vs) :
    ∀ {l : List Env}, old.FunFrames base l → new.FunFrames base l
  | [], _ => trivial
  | _ :: _, ⟨kind, ⟨F, o, isF, noB, get, plain⟩, more⟩ => by
    refine ⟨kind, ?_, frames_but same atL more⟩
    by_cases e : F = L
    · obtain ⟨o2, get2, plain2⟩ := atL
      exact ⟨F, o2, isF, noB, e ▸ get2, plain2⟩
    · exact ⟨F, o, isF, noB, same _ _ e get, plain⟩

/-- an exception in the air is noted at the frame where it flies -/
theorem note_sky {M : Model} {A : Around} {W : Value → Shared → Prop} {env : Env} {out : List Env} {L a : Addr} {Z : Obj → Prop} {Q : Unit → Shared → Prop} {s : Shared} {B : Heap} (stZ : HandSPX.Steady Z) (frA : A.frames = some (env :: out)) (frE : env.frame = some L)
    (air : L2.Sky B (env :: out) a Z L s.heap) (go : ∀ h, HandSPX.HeldZ B (env :: out) a Z L h → s.heap.UpToSlots h → Q () { s with heap := h }) : wpAny M A (noteFrame (.ref a) env) Q W s := by
  rcases air with new | fly | held
  · obtain ⟨stays, noB, fun_, oe, vs, get, z, dat, tb⟩ := new
    exact HandSPX.look_newZ stZ frA fun_ frE get stays noB dat tb z go
  · exact HandSPX.looks_onZ stZ frA frE fly go
  · exact HandSPX.againZ frE held.2.2.2 (go s.heap held (Heap.UpToSlots.refl _))

section
variable {X : Cx} {pins : List (Addr × Obj)} {σ : L2.St} {H : Hp} {s : Shared}
/-- the state behind a local name that is gone: the frame's own object alone has changed -/
theorem Inv_gone {i : Nat} {n : Str} (I : Inv X pins σ H s) (nd : X.N.Nodup) (atI : X.N[i]? = some n) {m : Str → Option Value} {v : Option Value} {h2 : Heap} {t2 : Nat}
    (looks : ∀ (i : Nat) (x : Str) (v : V), X.N[i]? = some x → σ[i]? = some (some v) → Vis X.env.scope x → ∃ u, RelV v u ∧ Look X.env s.heap m x u)
    (map2 : h2.Ns X.env.locals (fun x => if x = n then v else m x)) (rest : ∀ b, b ≠ X.env.locals → h2.get? b = s.heap.get? b) :
    Inv X pins (σ.set i none) H { s with heap := h2, toks := t2 } := by
  have off : ∀ {b o}, X.s_0.heap.get? b = some o → b ≠ X.env.locals := fun q z => absurd (Nat.lt_of_lt_of_le (Heap.lt_size q) I.ok.above) (by rw [z]; exact Nat.lt_irrefl _)
  have cells : ∀ {c : Addr} {w : Option Value}, c ≠ X.env.locals → s.heap.IsCell c w → h2.IsCell c w := fun ne q => ⟨q.choose, (rest _ ne).trans q.choose_spec.1, q.choose_spec.2⟩
  exact
    { ok := I.ok, os := I.os, bare := I.bare, free := I.free, freeC := I.freeC, len := by rw [List.length_set]; exact I.len
      base :=
        { keep := fun b o get un nf nx => (rest b (off get)).trans (I.base.keep b o get un nf nx)
          slot := fun b o get un nf nx => (I.base.slot b o get un nf nx).imp fun sl q => (rest b (off get)).trans q
          free := I.base.free
          there := fun b o get nx => (I.base.there b o get nx).imp fun o2 q => (rest b (off get)).trans q
          tups := I.base.tups, frzs := I.base.frzs, tbls := I.base.tbls }
      cell := fun y c q => (I.cell y c q).imp fun w z => cells (I.cne y c q) z
      pin := fun p mem => ⟨(rest p.1 (I.pin p mem).2.2.1).trans (I.pin p mem).1, (I.pin p mem).2⟩
      hok := fun b ob q => (I.hok b ob q).stay (fun c w hc z => (rest c (by
          rintro rfl
          rcases hc with hc | hc
          · rw [← hc, I.free] at q
            cases q
          · rw [I.free] at hc
            cases hc)).trans z) (fun _ z => z) fun _ _ z => z
      loc := ⟨_, map2, fun j y w nj sj vy => by
        have ji : j ≠ i := fun e => by
          rw [e] at sj
          rcases Nat.lt_or_ge i σ.length with lt | ge
          · rw [List.getElem?_set_self lt] at sj
            cases sj
          · rw [List.getElem?_eq_none (by rw [List.length_set]; exact ge)] at sj
            cases sj
        rw [List.getElem?_set_ne (Ne.symm ji)] at sj
        obtain ⟨u, rel, look⟩ := looks j y w nj sj vy
        refine ⟨u, rel, look.imp (fun z => ⟨z.1, ?_⟩) fun z => ⟨z.1, z.2.choose, z.2.choose_spec.1, cells (I.cne y _ z.2.choose_spec.1) z.2.choose_spec.2⟩⟩
        have yn : y ≠ n := fun e => ji (L2.nodup_ix nd nj (e ▸ atI))
        exact (if_neg yn).trans z.2⟩ }
end

/-! ### the suite's context, its wish about exceptions free -/
abbrev suiteW (X : Cx) (a : Addr) (pn : List (Addr × Obj)) (xe : Value → Shared → Prop) : Cx := { X with A := X.A.mark (some (.ref a)), calm := false, pn := pn, xe := xe }
theorem suiteW_back {X : Cx} {pins pn2 : List (Addr × Obj)} {σ : L2.St} {H : Hp} {s : Shared} {a : Addr} {q : Addr × Obj} {xe : Value → Shared → Prop} (J : Inv (suiteW X a (q :: (X.pn ++ pins)) xe) pn2 σ H s) (ok : X.Ok) : Inv X pins σ H s :=
  (show Inv (X.suite a (q :: (X.pn ++ pins))) pn2 σ H s from Inv.wish J fun _ _ => False).unsuite ok

/-- an exception out of the suite: noted, the name goes, it flies on -/
theorem out_of_suite {X : Cx} {pins : List (Addr × Obj)} {Wout : WX} {n : Str} {i : Nat} {pos : Pos} {a : Addr} {q : Addr × Obj} {N xe : Value → Shared → Prop} (hst : X.stack = X.env :: X.outer) (frE : X.env.frame = some X.env.locals) (nd : X.N.Nodup) (atI : X.N[i]? = some n)
    (loc : X.env.kindOf n = some .local) (ok : X.Ok) (tk : L2.Takes X Wout) (on : ∀ e s', X.xe e s' → N e s')
    (hxe : xe = AsSuiteRaised (model X.prog X.w) (X.A.mark (some (.ref a))) X.env n pos N) : L2.Takes (suiteW X a (q :: (X.pn ++ pins)) xe) (fun cls d σ H => Wout cls d (σ.set i none) H) := by
  subst hxe
  intro u s x
  obtain ⟨b, B, g, pn2, σ, H, cls, d, rfl, Iw, ground, upS, air, nb, osE, ag, wish⟩ := x
  have I : Inv X pins σ H g := suiteW_back Iw ok
  have frA : X.A.frames = some (X.env :: X.outer) := by rw [ok.frames, hst]
  have inF : X.env.locals ∈ frs (X.env :: X.outer) := List.mem_filterMap.mpr ⟨X.env, List.mem_cons_self, frE⟩
  have ncl : (X.env.scope.kind == .class || (X.env.scope.kind == .module && X.env.locals != X.env.globals)) = false := by
    rw [ok.kind]
    rfl
  have air' : L2.Sky B (X.env :: X.outer) b (Zc cls d) X.env.locals s.heap := by
    rw [← hst]
    exact air
  have ground' : ∀ c o, g.heap.get? c = some o → c ∉ frs X.stack → B.get? c = some o := ground
  show wpAny (model X.prog X.w) (X.A.mark (some (.ref a))) (noteFrame (.ref b) X.env) _ _ _
  refine note_sky (A := X.A.mark (some (.ref a))) Zc.steady frA frE air' fun h1 held up1 => ?_
  have up : g.heap.UpToSlots h1 := upS.trans up1
  obtain ⟨stays1, noB, fun1, trace1⟩ := id held
  have noL : B.get? X.env.locals = none := (fun1.mem inF).1
  -- the heap without the exception's own objects
  let P : Addr → Bool := fun c => (g.heap.get? c).isSome || (B.get? c).isSome
  have PB : ∀ {c o}, B.get? c = some o → P c = true := fun e => by simp [P, e]
  have Pg : ∀ {c o}, g.heap.get? c = some o → P c = true := fun e => by simp [P, e]
  obtain ⟨G, yes, no⟩ := L2.restrict h1 P
  have J : Inv X pins σ H { s with heap := G } := I.landed (s' := { s with heap := G }) ground' (fun c o e => (yes c (PB e)).trans (stays1 c o e)) (fun c o e nf => (up c o e nf).imp fun sl z => (yes c (Pg e)).trans z) osE ag
  obtain ⟨m, mapG, looks⟩ := id J.loc
  have PL : P X.env.locals = true := by
    obtain ⟨_, ⟨o, _, _, e, _⟩, _⟩ := I.loc
    exact Pg e
  refine wpAny_nameGoes_keeps loc (mapG.at fun o e => (yes _ PL).symm.trans e) ncl fun h2 v map2 but => ?_
  obtain ⟨G2, yes2, no2⟩ := L2.restrict h2 P
  have same2 : ∀ c, c ≠ X.env.locals → G2.get? c = G.get? c := fun c ne => by
    cases p : P c with
    | true => rw [yes2 c p, yes c p]; exact but.2 c ne
    | false => rw [no2 c p, no c p]
  have J2 : Inv X pins (σ.set i none) H { s with heap := G2, toks := s.toks + 1 } := Inv_gone (s := { s with heap := G }) J nd atI looks (map2.at fun o e => (yes2 _ PL).trans e) same2
  -- it is still held
  have stay : ∀ c o, c ≠ X.env.locals → h1.get? c = some o → h2.get? c = some o := fun c o ne e => (but.2 c ne).trans e
  have rec_ : ∀ {c o vs}, h1.get? c = some o → o.data = .fields vs → c ≠ X.env.locals := fun {c o vs} e dat z => by
    obtain ⟨_, o2, e2, plain⟩ := fun1.mem inF
    rw [z] at e
    rw [e] at e2
    exact plain vs (Option.some.inj e2 ▸ dat)
  have stays2 : B.StaysIn h2 := fun c o e => stay c o (fun z => by rw [z, noL] at e; cases e) (stays1 c o e)
  have fun2 : h2.FunFrames B (X.env :: X.outer) := frames_but stay (by
    obtain ⟨o, _, _, e, dat, _⟩ := id map2
    exact ⟨o, e, fun vs z => by rw [dat] at z; cases z⟩) fun1
  have trace2 : HandSPX.TracedZ h2 B b (Zc cls d) (rawInt X.env.locals) := by
    obtain ⟨oe, vs, T, oT, ts, e1, z, d1, f1, nT, ne, e2, d2, f3⟩ := trace1
    exact ⟨oe, vs, T, oT, ts, stay _ _ (rec_ e1 d1) e1, z, d1, f1, nT, ne, stay _ _ (rec_ e2 d2) e2, d2, f3⟩
  obtain ⟨oe, vs, T, _, _, e1, _, d1, f1, _⟩ := id trace2
  have fly : ∀ (Q : Flow → Shared → Prop), wpAny (model X.prog X.w) (X.A.mark (some (.ref a))) (setFlight (.ref b) X.env.frame) (fun _ s4 => wpAny (model X.prog X.w) (X.A.mark (some (.ref a))) (throw (.ref b) : Sem Flow) Q N s4) N { s with heap := h2, toks := s.toks + 1 } := fun Q => by
    rw [frE]
    refine HandSPX.setFlight_anyZ (fr := some X.env.locals) stays2 fun2 trace2 fun h3 st3 fun3 tr3 up3 => wpAny_throw (on _ _ (tk _ _ ?_))
    refine ⟨b, B, { s with heap := G2, toks := s.toks + 1 }, pins, σ.set i none, H, cls, d, rfl, J2, fun c o e out => ?_, fun c o e plain => up3 c o ?_ plain, .inr (.inr ?_), nb, rfl, ag, wish⟩
    · have ne : c ≠ X.env.locals := fun z => out (by rw [hst, z]; exact inF)
      have eG : G.get? c = some o := (same2 c ne).symm.trans e
      cases qB : B.get? c with
      | some o2 => exact ((yes c (PB qB)).trans (stays1 c o2 qB)).symm.trans eG
      | none =>
        cases qg : g.heap.get? c with
        | some o2 => exact absurd ((ground' c o2 qg out).symm.trans qB) (by simp)
        | none =>
          have z := no c (by simp [P, qB, qg])
          rw [eG] at z
          cases z
    · cases p : P c with
      | true => exact (yes2 c p).symm.trans e
      | false =>
        have z : G2.get? c = none := no2 c p
        rw [show G2.get? c = some o from e] at z
        cases z
    · rw [hst]
      exact ⟨st3, noB, fun3, tr3⟩
  unfold PySem.passOn
  refine wpAny_bind (wpAny_field e1 d1 f1 ?_)
  rw [if_neg (by simp : ¬ (Value.ref T == Value.none) = true)]
  first
    | exact wpAny_bind (wpAny_pure (wpAny_bind (fly _)))
    | exact wpAny_bind (fly _)

/-- what the clause wishes of an exception of the body -/
def wAsR (K : PySem.W.Frag) (c : Value) (i : Nat) (ts : Addr → Value → Option Addr → TS) : WX := fun cls d σ H =>
  PySem.W.exmOne K cls c = some true ∧ ∀ a, H a = none → ts a cls d { nx := fun _ _ => False, rt := fun _ _ => False } (σ.set i (some (.ref a))) H

theorem sp_try {X : Cx} {pins : List (Addr × Obj)} {xe : Value → Shared → Prop} {D : Ends} {s : Shared} (ok : X.Ok) : ∀ {f : Flow}, SP (X.tr (X.pn ++ pins) xe) [] D f s → SP X pins D f s
  | .next, ⟨σ, H, J, q⟩ => ⟨σ, H, J.ofTry ok, q⟩
  | .brk, ⟨σ, H, J, q⟩ => ⟨σ, H, J.ofTry ok, q⟩
  | .cont, ⟨σ, H, J, q⟩ => ⟨σ, H, J.ofTry ok, q⟩
  | .ret _, ⟨v, σ, H, J, r, q⟩ => ⟨v, σ, H, J.ofTry ok, r, q⟩

theorem ps_try_asR {X : Cx} {x n : Str} {c : Value} {i : Nat} {body suite : List Stmt} {b0 : Stmt} {np pos p2 : Pos} {tb : WX → TS} {ts : Addr → Value → Option Addr → TS} {Wout : WX} (hst : X.stack = X.env :: X.outer) (frE : X.env.frame = some X.env.locals) (nd : X.N.Nodup) (atI : X.N[i]? = some n)
    (loc : X.env.kindOf n = some .local) (cl : Names X x c) (own : ∀ hd : Option Value, PassesOwnAt (model X.prog X.w) (X.A.mark hd) X.A X.env X.xe) (tk : L2.Takes X Wout)
    (hbody : ∀ (W : WX) (pn : List (Addr × Obj)) (xe : Value → Shared → Prop), L2N.Takes (X.tr pn xe) W → PassesOwn (model X.prog X.w) X.A X.env xe → PSs (X.tr pn xe) body (tb W))
    (hsuite : ∀ (a : Addr) (oe : Obj) (cls : Value) (d : Option Addr) (pn : List (Addr × Obj)) (xe : Value → Shared → Prop), L2N.Zn cls d oe → (∃ vs, oe.data = .fields vs) →
      L2.Takes (suiteW X a ((a, oe) :: pn) xe) (fun cls d σ H => Wout cls d (σ.set i none) H) → HotC (suiteW X a ((a, oe) :: pn) xe) → PSs (suiteW X a ((a, oe) :: pn) xe) (b0 :: suite) (ts a cls d)) :
    PS X (.Try body [.ExceptHandler (some (.Name x np)) (some n) (b0 :: suite) p2] [] [] pos) (fun D σ H => tb (wAsR X.K c i ts) D σ H) := by
  refine ⟨fun pins s σ H D I rd => ?_⟩
  have ok := I.ok
  have frA : X.A.frames = some (X.env :: X.outer) := by rw [ok.frames, hst]
  let xt : Value → Shared → Prop := fun e s1 => wpAny (model X.prog X.w) X.A (noteFrame e X.env) (fun _ s2 => wpAny (model X.prog X.w) X.A (setFlight e none) (fun _ s3 =>
    wpAny (model X.prog X.w) X.A (handleBy e X.env [.ExceptHandler (some (.Name x np)) (some n) (b0 :: suite) p2]) (SP X pins D) X.xe s3) X.xe s2) X.xe s1
  have catch_ : L2N.Takes (X.tr (X.pn ++ pins) xt) (wAsR X.K c i ts) := by
    intro u s1 air
    obtain ⟨a, B, g, pn2, τ, G, cls, d, rfl, It, ground, upS, sky, na, osE, ag, isX, wish⟩ := air
    have J := It.ofTry ok
    have sky2 : L2.Sky B (X.env :: X.outer) a (L2N.Zn cls d) X.env.locals s1.heap := hst ▸ sky
    refine L2N.Sky.land L2N.Zn.steady frA frE sky2 fun h1 fl up1 => ?_
    have J1 : Inv X pins τ G { s1 with heap := h1 } := J.landed ground fl.1 (upS.trans up1) osE ag
    have out : ∀ {b o vs}, h1.get? b = some o → o.data = .fields vs → b ∉ frs (X.env :: X.outer) := fun {b o vs} e dat mem => by
      obtain ⟨_, o2, e2, plain⟩ := fl.2.2.1.mem mem
      exact plain vs (Option.some.inj (e.symm.trans e2) ▸ dat)
    obtain ⟨oe, vs, e, z, dat⟩ := fl.there
    have o1 : a ≠ X.env.locals := fun q => out e dat (List.mem_filterMap.mpr ⟨X.env, List.mem_cons_self, by rw [frE, q]⟩)
    have o2 : a ∉ X.fs := fun q => by
      obtain ⟨env, mem, is⟩ := List.mem_filterMap.mp q
      exact out e dat (List.mem_filterMap.mpr ⟨env, List.mem_cons_of_mem _ mem, is⟩)
    have S1 := J1.suite e dat na o1 o2
    refine wpAny_handleBy_cons (codeAny_handlers_test ?_) (fun q => by cases q)
    have ty : PySem.W.Looks (model X.prog X.w) h1 (typeOf (.ref a)) cls := fun _ _ _ _ k q => wpAny_typeOf_ref (k _ _ e) (z.1 ▸ q)
    have nm : ∀ {Q E : Value → Shared → Prop}, Q c { s1 with heap := h1 } → wpAny (model X.prog X.w) (X.A.mark (some (.ref a))) (eval (.Name x np) X.env) Q E { s1 with heap := h1 } := fun {Q E} q => by
      rcases cl with ⟨gl, ndb, here | ⟨nohere, boot, nn⟩⟩
      · exact ld_glob (X := X.suite a ((a, oe) :: (X.pn ++ pins))) S1 gl here q ndb
      · exact ld_blt (X := X.suite a ((a, oe) :: (X.pn ++ pins))) S1 gl nohere boot q nn ndb
    refine nm ((PySem.W.exm_one (M := model X.prog X.w) J1.kIn ty isX).here ?_)
    refine codeAny_handlers_suite_as (HandSPX.lands_againZ fl fun h2 fl2 up2 => ?_)
    have J2 : Inv X pins τ G { s1 with heap := h2 } := J.landed ground fl2.1 ((upS.trans up1).trans up2) osE ag
    obtain ⟨oe2, vs2, get2, z2, dat2⟩ := fl2.there
    refine store_ok (X := X.suite a ((a, oe2) :: (X.pn ++ pins))) (v := .ref a) (J2.suite get2 dat2 na o1 o2) nd atI (.inl loc) rfl (fun s3 S3 => ?_) (.inr loc)
    have hot : ∀ xe, HotC (suiteW X a ((a, oe2) :: (X.pn ++ pins)) xe) := fun xe => ⟨(a, oe2), ⟨rfl, vs2, dat2, z2.2.2 vs2 dat2⟩, List.mem_cons_self⟩
    refine wpAny_mono ((hsuite a oe2 cls d (X.pn ++ pins) (AsSuiteRaised (model X.prog X.w) (X.A.mark (some (.ref a))) X.env n p2 _) z2 ⟨_, dat2⟩ (out_of_suite hst frE nd atI loc ok tk (own (some (.ref a))) rfl) (hot _)).run [] s3 _ G _ (S3.wish _) (wish a na))
      (fun f s4 done => ?_) (fun _ _ q => q)
    exfalso
    cases f with
    | next => exact done.choose_spec.choose_spec.2
    | brk => exact done.choose_spec.choose_spec.2
    | cont => exact done.choose_spec.choose_spec.2
    | ret u => exact done.choose_spec.choose_spec.choose_spec.2.2
  refine wpAny_Try_except (wpAny_mono ((hbody _ (X.pn ++ pins) xt catch_ PassesOwn.looking).run [] s σ H D (I.toTry _) rd) (fun f s1 q => ?_) fun _ _ q => q)
  have back := sp_try ok q
  cases f with
  | next => exact wpAny_execs_nil back
  | brk => exact back
  | cont => exact back
  | ret u => exact back
end Cl
set_option maxHeartbeats 4000000
/-! What stands in the heap; comprehensions whose elements are told one by one. -/
namespace Cl
open PySem PySem.Spec PyProof.Rows L2

/-! ### bytes, numbers as values -/
def byV (c : UInt8) : V := .int (c.toNat : Int)
def bV (b : Br.Bytes) : List V := b.map byV
def nV (n : Nat) : V := .int (n : Int)
def nsV (l : List Nat) : List V := l.map nV
theorem bV_len (b : Br.Bytes) : (bV b).length = b.length := List.length_map ..
theorem bV_at {b : Br.Bytes} {i : Nat} {v : V} (h : (bV b)[i]? = some v) : ∃ c, b[i]? = some c ∧ v = byV c := by
  unfold bV at h
  rw [List.getElem?_map] at h
  cases e : b[i]? with
  | none => rw [e] at h; cases h
  | some c => rw [e] at h; cases h; exact ⟨c, rfl, rfl⟩
theorem map_at {α β : Type} {f : α → β} {l : List α} {i : Nat} {v : β} (h : (l.map f)[i]? = some v) : ∃ c, l[i]? = some c ∧ v = f c := by
  rw [List.getElem?_map] at h
  cases e : l[i]? with
  | none => rw [e] at h; cases h
  | some c => rw [e] at h; cases h; exact ⟨c, rfl, rfl⟩
theorem take_snoc {α : Type} : ∀ {l : List α} {i : Nat} {x : α}, l[i]? = some x → l.take (i + 1) = l.take i ++ [x]
  | [], _, _, h => by simp at h
  | _ :: _, 0, _, h => by simp at h; simp [h]
  | a :: l, i + 1, x, h => by
    have e : l[i]? = some x := by simpa using h
    rw [List.take_succ_cons, take_snoc e, List.take_succ_cons]
    rfl

/-! ### heaps that keep what stood, but at M -/
def Keeps (M : Addr → Prop) (H H2 : Hp) : Prop := ∀ b o, ¬ M b → H b = some o → H2 b = some o
theorem Keeps.refl {M : Addr → Prop} (H : Hp) : Keeps M H H := fun _ _ _ h => h
theorem Keeps.trans {M : Addr → Prop} {H H1 H2 : Hp} (a : Keeps M H H1) (b : Keeps M H1 H2) : Keeps M H H2 := fun c o n h => b c o n (a c o n h)
theorem Keeps.of {M : Addr → Prop} {H H2 : Hp} (a : Same H H2) : Keeps M H H2 := fun b o _ h => a b o h
theorem Same.new {H : Hp} {p : Addr} {o : HO} (n : H p = none) : Same H (upd H p o) := fun b u h => by rw [upd_ne (ne_of_none h n)]; exact h
theorem Same.upd {H H2 : Hp} {p : Addr} {o : HO} (s : Same H H2) (n : H p = none) : Same H (upd H2 p o) := fun b u h => by rw [upd_ne (ne_of_none h n)]; exact s b u h
theorem Same.sqT {K : PySem.W.Frag} {H H2 : Hp} {a : Addr} {xs : List V} (e : Same H H2) (h : SqT K H a xs) : SqT K H2 a xs := by
  rcases h with (h | ⟨o, h⟩) | h
  · exact .inl (.inl (e _ _ h))
  · exact .inl (.inr ⟨o, e _ _ h⟩)
  · exact .inr h
/-- H without a -/
def off (H : Hp) (a : Addr) : Hp := fun b => if b = a then none else H b
theorem off_ne {H : Hp} {a b : Addr} (h : b ≠ a) : off H a b = H b := if_neg h
theorem off_at {H : Hp} {a b : Addr} {o : HO} (h : off H a b = some o) : H b = some o := by
  unfold off at h
  by_cases e : b = a
  · rw [if_pos e] at h; cases h
  · rwa [if_neg e] at h
theorem Same.off {H : Hp} {a : Addr} : Same (Cl.off H a) H := fun _ _ h => off_at h
theorem off_new {H : Hp} {a b : Addr} {o : HO} (h : H b = some o) (n : ∀ u, H a = some u → b ≠ a) : Cl.off H a b = some o := by
  by_cases e : b = a
  · subst e
    exact absurd rfl (n o h)
  · rw [off_ne e]; exact h
/-- all that stood, and D is elsewhere -/
theorem Same.off_of {H H2 : Hp} {D : Addr} (s : Same H H2) (n : H D = none) : Same H (Cl.off H2 D) := fun b o h => by
  rw [off_ne (ne_of_none h n)]
  exact s b o h

/-! ### a comprehension, its elements told one by one -/
/-- v is what stands for the i-th; it leans on the heap but for the list itself -/
theorem lc_res {J : It} {n : Nat} {G : Hp → Prop} {Y : Nat → Hp → V → Hp → Prop} (w : Walk J n G Y) {g : TG} {tt : TT} {te : TE} {vs : List Nat} {σ : L2.St} {H1 : Hp} {D : Addr} {Qd : Hp → Prop} (R : Nat → V → Hp → Prop) (new : H1 D = none) (few : n < sizeLine)
    (mono : ∀ i v H H2, R i v H → Same H H2 → R i v H2) (hG : ∀ H, Same H1 H → G H)
    (turn : ∀ i x H H2 (Nx : V → Hp → Prop) (Ex : Hp → Prop), i < n → Same H1 H → (∃ acc, H D = some (.lst acc)) → Y i H x H2 → (∀ y H3, Same H H3 → R i y (off H3 D) → Nx y H3) →
      g x (wipe σ vs) H2 fun σ2 H3 => wipe σ2 vs = wipe σ vs ∧ tt σ2 H3 fun b H4 => if b = true then te σ2 H4 Nx else Ex H4)
    (done : ∀ H ys, Same H1 H → H D = some (.lst ys) → ys.length = n → (∀ i v, ys[i]? = some v → R i v (off H D)) → Qd H) :
    ∃ W : Nat → Nat → Hp → Prop, (∃ m, W 0 m (upd H1 D (.lst []))) ∧ ∀ i m H, W i m H →
      (J.stop i H ∧ Qd H) ∨ (J.go i H ∧ ∃ Nx : Hp → Prop, (∀ H', Nx H' → ∃ m', m' < m ∧ W (i + 1) m' H') ∧ ∀ x H', J.yld i H x H' → g x (wipe σ vs) H' fun σ2 H2 => wipe σ2 vs = wipe σ vs ∧ tt σ2 H2 fun b H3 =>
        if b = true then te σ2 H3 fun y H4 => ∃ acc, H4 D = some (.lst acc) ∧ acc.length < sizeLine ∧ Nx (upd H4 D (.lst (acc ++ [y]))) else Nx H3) := by
  refine lc_it w (fun i H => ∃ ys, Same H1 H ∧ H D = some (.lst ys) ∧ ys.length = i ∧ ∀ j v, ys[j]? = some v → R j v (off H D)) ⟨[], Same.new new, upd_same, rfl, fun j v h => by simp at h⟩ (fun i H _ ⟨_, s, _⟩ => hG H s)
    (fun i x H H2 lt ⟨ys, s, atD, len, all⟩ y => ?_) (fun H ⟨ys, s, atD, len, all⟩ => done H ys s atD len all)
  refine turn i x H H2 _ _ lt s ⟨ys, atD⟩ y fun z H3 s3 r => ⟨ys, s3 D _ atD, by rw [len]; exact Nat.lt_trans lt few, ys ++ [z], ?_, upd_same, by rw [List.length_append, len]; rfl, fun j v h => ?_⟩
  · intro b o h
    rw [upd_ne (ne_of_none h new)]
    exact s3 b o (s b o h)
  · have same : Same (off H3 D) (off (upd H3 D (.lst (ys ++ [z]))) D) := fun b o h => by
      have ne : b ≠ D := fun e => by
        rw [e] at h
        unfold off at h
        rw [if_pos rfl] at h
        cases h
      rw [off_ne ne, upd_ne ne]
      exact off_at h
    rcases Nat.lt_or_ge j ys.length with lt2 | ge
    · rw [List.getElem?_append_left lt2] at h
      have st : Same (off H D) (off H3 D) := fun b o q => by
       have ne : b ≠ D := fun e => by
        rw [e] at q
        unfold off at q
        rw [if_pos rfl] at q
        cases q
       rw [off_ne ne]
       exact s3 b o (off_at q)
      exact mono j v (off H D) _ (all j v h) (Same.trans st same)
    · rw [List.getElem?_append_right ge] at h
      have e0 : j - ys.length = 0 := by
        have q := (List.getElem?_eq_some_iff.mp h).1
        simp at q
        omega
      rw [e0] at h
      have ez : z = v := by simpa using h
      have ej : j = i := by omega
      subst ez ej
      exact mono _ _ _ _ r same
/-- .. where each element is a value that hangs on no heap -/
theorem lc_fn {J : It} {n : Nat} {G : Hp → Prop} {Y : Nat → Hp → V → Hp → Prop} (w : Walk J n G Y) {g : TG} {tt : TT} {te : TE} {vs : List Nat} {σ : L2.St} {H1 : Hp} {D : Addr} {Qd : Hp → Prop} (f : Nat → V) (new : H1 D = none) (few : n < sizeLine)
    (hG : ∀ H, Same H1 H → G H)
    (turn : ∀ i x H H2 (Nx : V → Hp → Prop) (Ex : Hp → Prop), i < n → Same H1 H → Y i H x H2 → (∀ H3, Same H H3 → Nx (f i) H3) →
      g x (wipe σ vs) H2 fun σ2 H3 => wipe σ2 vs = wipe σ vs ∧ tt σ2 H3 fun b H4 => if b = true then te σ2 H4 Nx else Ex H4)
    (done : ∀ H, Same H1 H → H D = some (.lst ((List.range n).map f)) → Qd H) :
    ∃ W : Nat → Nat → Hp → Prop, (∃ m, W 0 m (upd H1 D (.lst []))) ∧ ∀ i m H, W i m H →
      (J.stop i H ∧ Qd H) ∨ (J.go i H ∧ ∃ Nx : Hp → Prop, (∀ H', Nx H' → ∃ m', m' < m ∧ W (i + 1) m' H') ∧ ∀ x H', J.yld i H x H' → g x (wipe σ vs) H' fun σ2 H2 => wipe σ2 vs = wipe σ vs ∧ tt σ2 H2 fun b H3 =>
        if b = true then te σ2 H3 fun y H4 => ∃ acc, H4 D = some (.lst acc) ∧ acc.length < sizeLine ∧ Nx (upd H4 D (.lst (acc ++ [y]))) else Nx H3) :=
  lc_res w (fun i v _ => v = f i) new few (fun _ _ _ _ h _ => h) hG (fun i x H H2 Nx Ex lt s _ y k => turn i x H H2 Nx Ex lt s y fun H3 s3 => k (f i) H3 s3 rfl) fun H ys s atD len all => done H s (by
    have e : ys = (List.range n).map f := by
      refine List.ext_getElem? fun j => ?_
      rw [List.getElem?_map]
      rcases Nat.lt_or_ge j n with lt | ge
      · rw [List.getElem?_range lt]
        cases q : ys[j]? with
        | none =>
          have := List.getElem?_eq_none_iff.mp q
          omega
        | some v => rw [all j v q]; rfl
      · rw [List.getElem?_eq_none (by omega), List.getElem?_eq_none (by rw [List.length_range]; omega)]
        rfl
    rw [← e]
    exact atD)
/-- a comprehension without an if -/
theorem tt_yes {σ : L2.St} {H : Hp} {te : TE} {Nx : V → Hp → Prop} {Ex : Hp → Prop} (h : te σ H Nx) : tYes σ H fun b H2 => if b = true then te σ H2 Nx else Ex H2 := by
  show if true = true then te σ H Nx else Ex H
  rw [if_pos rfl]
  exact h
theorem range_map_get {α β : Type} (l : List α) (f : α → β) (g : Nat → β) (h : ∀ i x, l[i]? = some x → g i = f x) : (List.range l.length).map g = l.map f := by
  refine List.ext_getElem? fun j => ?_
  rw [List.getElem?_map, List.getElem?_map]
  rcases Nat.lt_or_ge j l.length with lt | ge
  · rw [List.getElem?_range lt, List.getElem?_eq_getElem lt]
    exact congrArg some (h j _ (List.getElem?_eq_getElem lt))
  · rw [List.getElem?_eq_none (by rw [List.length_range]; exact ge), List.getElem?_eq_none ge]
    rfl

/-! ### tests: both ways, or the one that is known -/
theorem rdk {p : Bool} {A B : Prop} (h1 : p = true → A) (h0 : p = false → B) : ∃ k, V.bl p = .bl k ∧ if k = true then A else B := by
  refine ⟨p, rfl, ?_⟩
  cases p with
  | true => exact iteT (h1 rfl)
  | false => exact iteF (h0 rfl)
theorem rdo {p : Bool} {A B : Prop} (h1 : p = true → B) (h0 : p = false → A) : ∃ k, V.bl p = .bl k ∧ if (!k) = true then A else B := by
  refine ⟨p, rfl, ?_⟩
  cases p with
  | true => exact iteF (h1 rfl)
  | false => exact iteT (h0 rfl)
theorem ite2b {p : Bool} {A B : Prop} (h1 : p = true → A) (h0 : p = false → B) : if p = true then A else B := by
  cases p with
  | true => exact iteT (h1 rfl)
  | false => exact iteF (h0 rfl)
theorem iteN {p : Bool} {A B : Prop} (h1 : p = true → B) (h0 : p = false → A) : if (!p) = true then A else B := by
  cases p with
  | true => exact iteF (h1 rfl)
  | false => exact iteT (h0 rfl)
theorem itP {p : Bool} {A B : Prop} (e : p = true) (h : A) : if p = true then A else B := by
  rw [if_pos e]
  exact h
theorem itN {p : Bool} {A B : Prop} (e : p = false) (h : B) : if p = true then A else B := by
  rw [e, if_neg Bool.false_ne_true]
  exact h
theorem dT {p : Prop} [Decidable p] (h : decide p = true) : p := of_decide_eq_true h
theorem dF {p : Prop} [Decidable p] (h : decide p = false) : ¬ p := of_decide_eq_false h

/-! ### lists of lists of bytes -/
/-- pairwise -/
inductive All2 {α β : Type} (R : α → β → Prop) : List α → List β → Prop
  | nil : All2 R [] []
  | cons {a : α} {b : β} {as : List α} {bs : List β} : R a b → All2 R as bs → All2 R (a :: as) (b :: bs)
theorem All2.len {α β : Type} {R : α → β → Prop} : ∀ {as : List α} {bs : List β}, All2 R as bs → as.length = bs.length
  | _, _, .nil => rfl
  | _, _, .cons _ t => congrArg (· + 1) t.len
theorem All2.mono {α β : Type} {R S : α → β → Prop} (h : ∀ a b, R a b → S a b) : ∀ {as : List α} {bs : List β}, All2 R as bs → All2 S as bs
  | _, _, .nil => .nil
  | _, _, .cons r t => .cons (h _ _ r) (t.mono h)
theorem All2.monoM {α β : Type} {R S : α → β → Prop} : ∀ {as : List α} {bs : List β}, (∀ a ∈ as, ∀ b, R a b → S a b) → All2 R as bs → All2 S as bs
  | _, _, _, .nil => .nil
  | _, _, h, .cons r t => .cons (h _ List.mem_cons_self _ r) (t.monoM fun a m => h a (List.mem_cons_of_mem _ m))
theorem All2.app {α β : Type} {R : α → β → Prop} : ∀ {as cs : List α} {bs ds : List β}, All2 R as bs → All2 R cs ds → All2 R (as ++ cs) (bs ++ ds)
  | _, _, _, _, .nil, u => u
  | _, _, _, _, .cons r t, u => .cons r (t.app u)
theorem All2.at {α β : Type} {R : α → β → Prop} : ∀ {as : List α} {bs : List β} {i : Nat} {b : β}, All2 R as bs → bs[i]? = some b → ∃ a, as[i]? = some a ∧ R a b
  | _, _, _, _, .nil, h => by simp at h
  | _, _, 0, _, .cons r _, h => by simp at h; subst h; exact ⟨_, rfl, r⟩
  | _, _, i + 1, _, .cons _ t, h => by
    obtain ⟨a, h1, h2⟩ := t.at (i := i) (by simpa using h)
    exact ⟨a, by simpa using h1, h2⟩
theorem All2.atL {α β : Type} {R : α → β → Prop} : ∀ {as : List α} {bs : List β} {i : Nat} {a : α}, All2 R as bs → as[i]? = some a → ∃ b, bs[i]? = some b ∧ R a b
  | _, _, _, _, .nil, h => by simp at h
  | _, _, 0, _, .cons r _, h => by simp at h; subst h; exact ⟨_, rfl, r⟩
  | _, _, i + 1, _, .cons _ t, h => by
    obtain ⟨a, h1, h2⟩ := t.atL (i := i) (by simpa using h)
    exact ⟨a, by simpa using h1, h2⟩
theorem All2.drop {α β : Type} {R : α → β → Prop} : ∀ (n : Nat) {as : List α} {bs : List β}, All2 R as bs → All2 R (as.drop n) (bs.drop n)
  | 0, _, _, h => h
  | _ + 1, _, _, .nil => .nil
  | n + 1, _, _, .cons _ t => t.drop n
theorem All2.take {α β : Type} {R : α → β → Prop} : ∀ (n : Nat) {as : List α} {bs : List β}, All2 R as bs → All2 R (as.take n) (bs.take n)
  | 0, _, _, _ => .nil
  | _ + 1, _, _, .nil => .nil
  | n + 1, _, _, .cons r t => .cons r (t.take n)
/-- v stands for a list of bytes; for a list of such -/
def LB (H : Hp) (q : Addr) (b : Br.Bytes) : Prop := H q = some (.lst (bV b))
def LLB (H : Hp) (p : Addr) (ws : List Br.Bytes) : Prop := ∃ qs : List Addr, H p = some (.lst (qs.map V.ref)) ∧ All2 (LB H) qs ws
theorem LLB.same {H H2 : Hp} {p : Addr} {ws : List Br.Bytes} (h : LLB H p ws) (s : Same H H2) : LLB H2 p ws := by
  obtain ⟨qs, h1, h2⟩ := h
  exact ⟨qs, s _ _ h1, h2.mono fun _ _ q => s _ _ q⟩

/-! ### data for == and in -/
def bD (b : Br.Bytes) : List PyData := b.map fun c => .int (c.toNat : Int)
theorem dpAll_bytes {K : PySem.W.Frag} {H : Hp} : ∀ b : Br.Bytes, DpAll K H (bV b) (bD b)
  | [] => .nil
  | _ :: r => .cons (.int _) (dpAll_bytes r)
def nD (l : List Nat) : List PyData := l.map fun (n : Nat) => .int (n : Int)
theorem dpAll_nums {K : PySem.W.Frag} {H : Hp} : ∀ l : List Nat, DpAll K H (nsV l) (nD l)
  | [] => .nil
  | _ :: r => .cons (.int _) (dpAll_nums r)
theorem lay_bytes : ∀ b : Br.Bytes, PyData.canLayAll0 (bD b) = true
  | [] => by simp [bD, PyData.canLayAll0]
  | c :: r => by
    have ih := lay_bytes r
    unfold bD at ih ⊢
    simp [PyData.canLayAll0, PyData.canLay0, ih]
theorem depth_bytes : ∀ b : Br.Bytes, PyData.depthAll (bD b) = 0
  | [] => by simp [bD, PyData.depthAll]
  | c :: r => by
    have ih := depth_bytes r
    unfold bD at ih ⊢
    simp [PyData.depthAll, PyData.depth, ih]
theorem eqv_bytes : ∀ a b : Br.Bytes, PyData.eqvAll (bD a) (bD b) = decide (a = b)
  | [], [] => by simp [bD, PyData.eqvAll]
  | [], _ :: _ => by simp [bD, PyData.eqvAll]
  | _ :: _, [] => by simp [bD, PyData.eqvAll]
  | x :: a, y :: b => by
    have ih := eqv_bytes a b
    unfold bD at ih ⊢
    rw [List.map_cons, List.map_cons, PyData.eqvAll, ih]
    have e : PyData.eqv (.int (x.toNat : Int)) (.int (y.toNat : Int)) = decide (x = y) := by
      rw [PyData.eqv, Bool.beq_eq_decide_eq, decide_eq_decide]
      exact ⟨fun h => u8_eq (Int.ofNat.inj h), fun h => by rw [h]⟩
    rw [e, ← Bool.decide_and, decide_eq_decide, List.cons.injEq]
theorem lay_nums : ∀ l : List Nat, PyData.canLayAll0 (nD l) = true
  | [] => by simp [nD, PyData.canLayAll0]
  | c :: r => by
    have ih := lay_nums r
    unfold nD at ih ⊢
    simp [PyData.canLayAll0, PyData.canLay0, ih]
theorem depth_nums : ∀ l : List Nat, PyData.depthAll (nD l) = 0
  | [] => by simp [nD, PyData.depthAll]
  | c :: r => by
    have ih := depth_nums r
    unfold nD at ih ⊢
    simp [PyData.depthAll, PyData.depth, ih]
theorem eqv_nums : ∀ a b : List Nat, PyData.eqvAll (nD a) (nD b) = decide (a = b)
  | [], [] => by simp [nD, PyData.eqvAll]
  | [], _ :: _ => by simp [nD, PyData.eqvAll]
  | _ :: _, [] => by simp [nD, PyData.eqvAll]
  | x :: a, y :: b => by
    have ih := eqv_nums a b
    unfold nD at ih ⊢
    rw [List.map_cons, List.map_cons, PyData.eqvAll, ih]
    have e : PyData.eqv (.int (x : Int)) (.int (y : Int)) = decide (x = y) := by
      rw [PyData.eqv, Bool.beq_eq_decide_eq, decide_eq_decide]
      exact ⟨fun h => Int.ofNat.inj h, fun h => by rw [h]⟩
    rw [e, ← Bool.decide_and, decide_eq_decide, List.cons.injEq]
theorem shaped_list {ds : List PyData} (h1 : PyData.canLayAll0 ds = true) (h2 : PyData.depthAll ds ≤ 60) : SeqAt.shaped (.list ds) = true := by
  show (PyData.canLay0 (.list ds) && decide (PyData.depth (.list ds) ≤ 64)) = true
  rw [Bool.and_eq_true]
  exact ⟨by rw [PyData.canLay0]; exact h1, decide_eq_true (by rw [PyData.depth]; omega)⟩
theorem shaped_tuple {ds : List PyData} (h1 : PyData.canLayAll0 ds = true) (h2 : PyData.depthAll ds ≤ 60) : SeqAt.shaped (.tuple ds) = true := by
  show (PyData.canLay0 (.tuple ds) && decide (PyData.depth (.tuple ds) ≤ 64)) = true
  rw [Bool.and_eq_true]
  exact ⟨by rw [PyData.canLay0]; exact h1, decide_eq_true (by rw [PyData.depth]; omega)⟩
end Cl
set_option maxHeartbeats 4000000
/-! Names, calls, objects of this program. -/
namespace Cl
open PySem PySem.Spec PyProof.Rows L2
open He (ga ma)

section
variable {X : Cx} {pos : Pos} {x : Str}
/-- a module's whole number; its object -/
def Num (mg : Str → Option Value) (x : Str) (i : Int) : Prop := ∃ t, mg x = some (.int i t)
theorem pe_num {i : Int} (hg : Gl X x) (h : Num X.mg x i) (hd : (x == ("__debug__" : Str)) = false := by decide) : PE X (.Name x pos) (tC (.int i)) := by
  obtain ⟨t, h⟩ := h
  exact pe_glob hg h ⟨t, rfl⟩ hd
theorem pe_obj {a : Addr} (hg : Gl X x) (h : X.mg x = some (.ref a)) (hd : (x == ("__debug__" : Str)) = false := by decide) : PE X (.Name x pos) (tC (.ref a)) := pe_glob hg h rfl hd
end

/-! ### defs, methods, makers that are called -/
section
variable (P : Program) (w : World) (K : PySem.W.Frag) (mg : Str → Option Value) (base : Heap)
/-- the text's def at the module's name x -/
def DefAt (x : Str) (st : Stmt) : Prop := mg x = some (.ref (ga K x)) ∧ ∃ fd, Fun K x x st (ga K x) fd
structure Callee (CX : CXT) (k : Nat) (x : Str) (sp : Sp) : Prop where
  ex : ∃ fd ps, mg x = some (.ref (ga K x)) ∧ PySem.W.keepIn K (.ref (ga K x)) = true ∧ FnOk P w K mg base CX k (ga K x) fd ps sp ∧ Binds K fd ps []
structure Methd (CX : CXT) (k : Nat) (C m : Str) (sp : Sp) : Prop where
  ex : ∃ fd ps, Meth K (ga K C) m (ma K (ga K C) m) ∧ FnOk P w K mg base CX k (ma K (ga K C) m) fd ps sp ∧ Binds K fd ps []
structure Maker (CX : CXT) (k : Nat) (C : Str) (sp : Sp) : Prop where
  ex : ∃ fd ps, mg C = some (.ref (ga K C)) ∧ Mk K (ga K C) (ma K (ga K C) "__init__") ∧ FnOk P w K mg base CX k (ma K (ga K C) "__init__") fd ps sp ∧ Binds K fd ps []
end
section
variable {X : Cx} {CX : CXT} {j k : Nat} {x m C : Str} {sp : Sp} {E : XK} {e o : Expr} {es : List Expr} {ta : TE} {t : TA} {p pos apos : Pos}
def tCl (sp : Sp) (E : XK) (t : TA) : TE := fun σ H Q => t σ H fun vs H1 => sp vs H1 Q E
theorem pe_cl (c : Callee X.prog X.w X.K X.mg X.base CX k x sp) (hr : Room j X.A) (hk : k ≤ j) (hg : Gl X x) (hx : Passes CX X E) (ha : PA X (e :: es) t) (hdb : (x == ("__debug__" : Str)) = false := by decide)
    (he : starEach (e :: es) X.env = (false, eval e X.env) :: starEach es X.env := by rfl) (hpl : (backTo pos (starEach es X.env)).any (·.1) = false := by rfl) :
    PE X (.Call (.Name x p) (e :: es) [] pos) (tCl sp E t) := by
  obtain ⟨fd, ps, g, kp, F, b⟩ := c.ex
  have h : tCall sp [] E t = tCl sp E t := by
    funext σ H Q
    unfold tCall tCl
    congr 1
    funext vs H1
    rw [List.append_nil]
  rw [← h]
  exact pe_call F (hr.mono hk) hg g kp b .nil hx ha hdb he hpl
def tMt (C : Addr) (m : Str) (sp : Sp) (E : XK) (ta : TE) (t : TA) : TE := fun σ H Q => ta σ H fun x H1 => ∃ a dx fs, x = .ref a ∧ H1 a = some (.ins C dx fs) ∧ fs.lookup m = none ∧ t σ H1 fun vs H2 => sp (x :: vs) H2 Q E
theorem pe_mt {pl : Sem Bool} (he : PE X o ta) (c : Cls X.K (ga X.K C)) (M : Methd X.prog X.w X.K X.mg X.base CX k C m sp) (hr : Room j X.A) (hk : k ≤ j) (hx : Passes CX X E) (ha : PA X (e :: es) t)
    (hst : starEach (e :: es) X.env = (false, eval e X.env) :: starEach es X.env := by rfl) (hpl : (backTo pos (starEach es X.env)).any (·.1) = false := by rfl)
    (ht : eval (.Call (.Attribute o m apos) (e :: es) [] pos) X.env = (do
      let ov ← eval o X.env
      standAt apos.atName
      let (f, first) ← holding [ov] (getMethod ov m pl)
      callWith pos f first (backTo pos (starEach (e :: es) X.env)) (backToKw pos (keywordEach [] X.env))) := by rfl) :
    PE X (.Call (.Attribute o m apos) (e :: es) [] pos) (tMt (ga X.K C) m sp E ta t) := by
  obtain ⟨fd, ps, hm, F, b⟩ := M.ex
  have h : tMeth (ga X.K C) m sp [] E ta t = tMt (ga X.K C) m sp E ta t := by
    funext σ H Q
    unfold tMeth tMt
    congr 1
    funext x H1
    refine propext (exists_congr fun a => exists_congr fun dx => exists_congr fun fs => and_congr Iff.rfl (and_congr Iff.rfl (and_congr Iff.rfl ?_)))
    have q : (fun (vs : List V) (H2 : Hp) => sp (x :: (vs ++ [])) H2 Q E) = fun vs H2 => sp (x :: vs) H2 Q E := by
      funext vs H2
      rw [List.append_nil]
    rw [← q]
  rw [← h]
  exact pe_meth (pl := pl) he c hm F (hr.mono hk) b .nil hx ha hst hpl ht
def tMkI (C : Addr) (sp : Sp) (E : XK) (t : TA) : TE := fun σ H Q => t σ H fun vs H1 => ∀ x dx, H1 x = none → H1 dx = none → dx ≠ x → sp (.ref x :: vs) (upd (upd H1 dx (.own x)) x (.ins C dx [])) (fun v H2 => v = .non ∧ Q (.ref x) H2) E
theorem pe_mk (M : Maker X.prog X.w X.K X.mg X.base CX k C sp) (hr : Room (j + 1) X.A) (hk : k ≤ j) (hg : Gl X C) (hx : Passes CX X E) (ha : PA X (e :: es) t) (hdb : (C == ("__debug__" : Str)) = false := by decide)
    (he : starEach (e :: es) X.env = (false, eval e X.env) :: starEach es X.env := by rfl) (hpl : (backTo pos (starEach es X.env)).any (·.1) = false := by rfl) : PE X (.Call (.Name C p) (e :: es) [] pos) (tMkI (ga X.K C) sp E t) := by
  obtain ⟨fd, ps, g, mk, F, b⟩ := M.ex
  have h : tMake (ga X.K C) sp [] E t = tMkI (ga X.K C) sp E t := by
    funext σ H Q
    unfold tMake tMkI
    congr 1
    funext vs H1
    rw [List.append_nil]
  rw [← h]
  exact pe_make mk F (hr.mono (Nat.succ_le_succ hk)) hg g b .nil hx ha hdb he hpl
theorem pe_mk0 (M : Maker X.prog X.w X.K X.mg X.base CX k C sp) (hr : Room (j + 1) X.A) (hk : k ≤ j) (hg : Gl X C) (hx : Passes CX X E) (hdb : (C == ("__debug__" : Str)) = false := by decide) :
    PE X (.Call (.Name C p) [] [] pos) (tMkI (ga X.K C) sp E tNil) := by
  obtain ⟨fd, ps, g, mk, F, b⟩ := M.ex
  have h : tMake (ga X.K C) sp [] E tNil = tMkI (ga X.K C) sp E tNil := by
    funext σ H Q
    unfold tMake tMkI
    congr 1
    funext vs H1
    rw [List.append_nil]
  rw [← h]
  exact pe_make0 mk F (hr.mono (Nat.succ_le_succ hk)) hg g b .nil hx hdb
end

/-! ### objects -/
section
variable (K : PySem.W.Frag)
abbrev cThing : Addr := ga K "Thing"
abbrev cLine : Addr := ga K "Line"
abbrev cRecipe : Addr := ga K "Recipe"
abbrev cReader : Addr := ga K "Reader"
/-- a thing: its name (a tuple of bytes), its numbers (a list) -/
def ThingAt (H : Hp) (t : Addr) (x : Br.Bytes × List Nat) : Prop := ∃ dx na nu, H t = some (.ins (cThing K) dx [(("name" : Str), .ref na), (("numbers" : Str), .ref nu)]) ∧ H na = some (.tup (bV x.1)) ∧ H nu = some (.lst (nsV x.2))
/-- a list of things -/
def ThingsAt (H : Hp) (l : Addr) (ts : List (Br.Bytes × List Nat)) : Prop := ∃ qs : List Addr, H l = some (.lst (qs.map V.ref)) ∧ All2 (ThingAt K H) qs ts
/-- a line: its kind, its name, its numbers -/
def LineAt (H : Hp) (p : Addr) (x : Nat × Br.Bytes × List Nat) : Prop := ∃ dx na nu, H p = some (.ins (cLine K) dx [(("kind" : Str), .int (x.1 : Int)), (("name" : Str), .ref na), (("numbers" : Str), .ref nu)]) ∧ H na = some (.tup (bV x.2.1)) ∧ H nu = some (.lst (nsV x.2.2))
def yV : Option Nat → V
  | none => .non
  | some u => .int (u : Int)
/-- a recipe: malts, hops, adds, the yeast -/
structure RecAt (H : Hp) (a : Addr) (t0 t1 t2 : List (Br.Bytes × List Nat)) (y : Option Nat) (dx th l0 l1 l2 : Addr) : Prop where
  ob : H a = some (.ins (cRecipe K) dx [(("things" : Str), .ref th), (("yeast" : Str), yV y)])
  th : H th = some (.lst [.ref l0, .ref l1, .ref l2])
  m0 : ThingsAt K H l0 t0
  m1 : ThingsAt K H l1 t1
  m2 : ThingsAt K H l2 t2
end
section
variable {K : PySem.W.Frag} {H H2 : Hp}
theorem ThingAt.same {t : Addr} {x : Br.Bytes × List Nat} (s : Same H H2) (h : ThingAt K H t x) : ThingAt K H2 t x := by
  obtain ⟨dx, na, nu, h1, h2, h3⟩ := h
  exact ⟨dx, na, nu, s _ _ h1, s _ _ h2, s _ _ h3⟩
theorem ThingsAt.same {l : Addr} {ts : List (Br.Bytes × List Nat)} (s : Same H H2) (h : ThingsAt K H l ts) : ThingsAt K H2 l ts := by
  obtain ⟨qs, h1, h2⟩ := h
  exact ⟨qs, s _ _ h1, h2.mono fun _ _ q => q.same s⟩
theorem LineAt.same {p : Addr} {x : Nat × Br.Bytes × List Nat} (s : Same H H2) (h : LineAt K H p x) : LineAt K H2 p x := by
  obtain ⟨dx, na, nu, h1, h2, h3⟩ := h
  exact ⟨dx, na, nu, s _ _ h1, s _ _ h2, s _ _ h3⟩
theorem RecAt.same {a : Addr} {t0 t1 t2 : List (Br.Bytes × List Nat)} {y : Option Nat} {dx th l0 l1 l2 : Addr} (s : Same H H2) (h : RecAt K H a t0 t1 t2 y dx th l0 l1 l2) : RecAt K H2 a t0 t1 t2 y dx th l0 l1 l2 :=
  ⟨s _ _ h.ob, s _ _ h.th, h.m0.same s, h.m1.same s, h.m2.same s⟩
end
/-- what the top says of a class of plain objects -/
structure Kl (K : PySem.W.Frag) (mg : Str → Option Value) (C : Str) (fs : List Str) : Prop where
  g : mg C = some (.ref (ga K C))
  c : Cls K (ga K C)
  n : ∀ f ∈ fs, NoAttr K (ga K C) f
end Cl
set_option maxHeartbeats 4000000
namespace Cl
open PySem PySem.Spec PyProof.Rows L2
/-! the program's statements, by their places -/
abbrev prg : Program := PySem.Challenge.pw_brewrecipes_s06_like
def top (i : Nat) : Stmt := prg.main.body.getD i (.Pass ⟨0, 0, 0, 0⟩)
abbrev s_Fault_init : Stmt := inClass (top 21) 0
abbrev s_Thing_init : Stmt := inClass (top 22) 0
abbrev s_Recipe_init : Stmt := inClass (top 23) 0
abbrev s_codes : Stmt := top 24
abbrev s_is_figure : Stmt := top 25
abbrev s_is_name : Stmt := top 26
abbrev s_number_of : Stmt := top 27
abbrev s_parted : Stmt := top 28
abbrev s_Line_init : Stmt := inClass (top 29) 0
abbrev s_line_of : Stmt := top 30
abbrev s_formed : Stmt := top 31
abbrev s_Reader_init : Stmt := inClass (top 32) 0
abbrev s_Reader_can_stand : Stmt := inClass (top 32) 1
abbrev s_Reader_does_clash : Stmt := inClass (top 32) 2
abbrev s_Reader_why_not : Stmt := inClass (top 32) 3
abbrev s_Reader_take : Stmt := inClass (top 32) 4
abbrev s_Reader_read : Stmt := inClass (top 32) 5
abbrev s_recipe_of : Stmt := top 33
abbrev s_common_part : Stmt := top 35
abbrev s_lowest : Stmt := top 36
abbrev s_shares : Stmt := top 37
abbrev s_are_like : Stmt := top 38
abbrev s_Refused_init : Stmt := inClass (top 44) 0
abbrev s_want : Stmt := top 45
abbrev s_recipe_in : Stmt := top 46
abbrev s_like_told : Stmt := top 47
abbrev s_like : Stmt := top 48
end Cl
set_option maxHeartbeats 4000000
namespace Cl
open PySem PySem.Spec PyProof.Rows L2
open He (ga ma)
/-- what the reading part asks of the module's names -/
structure RT (K : PySem.W.Frag) (mg : Str → Option Value) : Prop where
  LINE_END : Num mg "LINE_END" 10
  BLANK : Num mg "BLANK" 32
  MOST_NAME : Num mg "MOST_NAME" 12
  MOST_OF_KIND : Num mg "MOST_OF_KIND" 16
  MOST_FIGURES : Num mg "MOST_FIGURES" 6
  NOT_FORMED : Num mg "NOT_FORMED" 1
  TOO_MUCH : Num mg "TOO_MUCH" 2
  CANT_STAND : Num mg "CANT_STAND" 3
  CLASHES : Num mg "CLASHES" 4
  RECIPE_LINE : Num mg "RECIPE_LINE" 0
  MALT_LINE : Num mg "MALT_LINE" 1
  HOP_LINE : Num mg "HOP_LINE" 2
  ADD_LINE : Num mg "ADD_LINE" 3
  YEAST_LINE : Num mg "YEAST_LINE" 4
  len : mg "len" = none
  all : mg "all" = none
  ord : mg "ord" = none
  tuple : mg "tuple" = none
  enumerate : mg "enumerate" = none
  zip : mg "zip" = none

section
variable {P : Program} {w : World} {K : PySem.W.Frag} {mg : Str → Option Value} {base : Heap}
/-! ### codes -/
def spCodes : Sp := fun vs H Q _ => ∃ z : Str, vs = [.str z] ∧ z.cps.size ≤ 1000 ∧ ∀ H2 p, Same H H2 → H2 p = some (.lst (z.cps.toList.map fun c => V.int (c : Nat))) → Q (.ref p) H2
theorem sc_codes : FnScope ["word", "sign"] ["word"] (defScope s_codes) := ⟨rfl, rfl, rfl, by decide +kernel, rfl, by decide +kernel, by decide +kernel⟩
theorem cl_codes (D : DefAt K mg "codes" s_codes) (T : RT K mg) : Callee P w K mg base CX0 1 "codes" spCodes := by
  obtain ⟨g, fd, F⟩ := D
  refine ⟨⟨fd, ["word"], g, F.kp, ?_, F.binds fun _ _ _ _ _ _ us hl => match us, hl with | [_], _ => rfl⟩⟩
  refine F.ok sc_codes (fun vs H Q E h => ?_) (fun cdv A outer s H vs Q E hr h => ?_)
  · obtain ⟨z, rfl, _⟩ := h
    rfl
  · refine ⟨_, pss_one (ps_ret (pe_lc (own := [("sign", 1)]) (g := gName 1) (tt := tYes) rfl sc_codes.nd (pi_str (pv 0)) (blkOk_by (N := ["word", "sign"]) (sc := defScope s_codes) (by decide +kernel))
      (fun _ _ _ _ _ => pg_name (i := 1) sc_codes.nd rfl (Or.inl rfl)) (fun _ _ _ _ _ => pts_nil) (fun _ _ _ _ _ => pe_callB call_ord (by rfl) T.ord (by decide +kernel) (pa_cons (pv 1) pa_nil)))), ?_⟩
    obtain ⟨z, rfl, few, q⟩ := h
    refine ⟨_, rfl, z, rfl, fun D hD => ?_⟩
    refine lc_fn walk_str (fun i => .int ((z.cps.getD i 0 : Nat) : Int)) hD (Nat.lt_of_le_of_lt few (by decide)) (fun _ _ => trivial) (fun i x H1 H2 Nx Ex lt _ y k => ?_) (fun H1 s1 at1 => ?_)
    · obtain ⟨rfl, c, hc, rfl⟩ := y
      refine ⟨rfl, tt_yes ⟨_, rfl, _, rfl, rfl, ?_⟩⟩
      have e : z.cps.getD i 0 = c := by simp [Array.getD_eq_getD_getElem?, hc]
      have k2 := k _ (Same.refl _)
      rw [e] at k2
      exact k2
    · refine q _ D s1 ?_
      rw [at1]
      congr 2
      rw [show z.cps.size = z.cps.toList.length by simp]
      refine range_map_get _ _ _ fun i x hx => ?_
      have e : z.cps.getD i 0 = x := by simp at hx; simp [Array.getD_eq_getD_getElem?, hx]
      rw [e]
/-! ### is_figure -/
def spFig : Sp := fun vs H Q _ => ∃ c : UInt8, vs = [byV c] ∧ Q (.bl (isDig c)) H
theorem sc_is_figure : FnScope ["octet"] ["octet"] (defScope s_is_figure) := ⟨rfl, rfl, rfl, by decide +kernel, rfl, by decide +kernel, by decide +kernel⟩
theorem cl_is_figure (D : DefAt K mg "is_figure" s_is_figure) : Callee P w K mg base CX0 1 "is_figure" spFig := by
  obtain ⟨g, fd, F⟩ := D
  refine ⟨⟨fd, ["octet"], g, F.kp, ?_, F.binds fun _ _ _ _ _ _ us hl => match us, hl with | [_], _ => rfl⟩⟩
  refine F.ok sc_is_figure (fun vs H Q E h => ?_) (fun cdv A outer s H vs Q E hr h => ?_)
  · obtain ⟨z, rfl, _⟩ := h
    rfl
  · refine ⟨_, pss_one (ps_ret (pe_chain op_le op_le pe_int (pv 0) pe_int)), ?_⟩
    obtain ⟨c, rfl, q⟩ := h
    unfold isDig at q
    refine ⟨_, rfl, _, _, rfl, rfl, rdk (fun h1 => ⟨_, _, rfl, rfl, ?_⟩) (fun h0 => ?_)⟩
    · have h1 := dT h1
      rw [decide_eq_true (show 48 ≤ c.toNat by omega), Bool.true_and] at q
      have e : decide ((c.toNat : Int) ≤ 57) = decide (c.toNat ≤ 57) := by rw [decide_eq_decide]; omega
      show Q (.bl (decide ((c.toNat : Int) ≤ 57))) H
      rw [e]
      exact q
    · have h0 := dF h0
      rw [decide_eq_false (show ¬ 48 ≤ c.toNat by omega), Bool.false_and] at q
      exact q
/-! ### is_name -/
def spName (K : PySem.W.Frag) : Sp := fun vs H Q _ => ∃ (a : Addr) (b : Br.Bytes), vs = [.ref a] ∧ SqL K H a (bV b) ∧ b.length ≤ 20000 ∧ ∀ H2, Same H H2 → Q (.bl (Br.nameOk b)) H2
theorem sc_is_name : FnScope ["octets", "octet"] ["octets"] (defScope s_is_name) := ⟨rfl, rfl, rfl, by decide +kernel, rfl, by decide +kernel, by decide +kernel⟩
theorem all_id {α : Type} (l : List α) (p : α → Bool) : (l.map p).all id = l.all p := by
  rw [List.all_map]
  rfl
theorem cl_is_name (D : DefAt K mg "is_name" s_is_name) (T : RT K mg) (cFig : Callee P w K mg base CX0 1 "is_figure" spFig) : Callee P w K mg base CX0 2 "is_name" (spName K) := by
  obtain ⟨g, fd, F⟩ := D
  refine ⟨⟨fd, ["octets"], g, F.kp, ?_, F.binds fun _ _ _ _ _ _ us hl => match us, hl with | [_], _ => rfl⟩⟩
  refine F.ok sc_is_name (fun vs H Q E h => ?_) (fun cdv A outer s H vs Q E hr h => ?_)
  · obtain ⟨a, b, rfl, _⟩ := h
    rfl
  · refine ⟨_, pss_cons (ps_if (pt_not (pt_chain op_le op_le pe_int (pe_callB call_len (by rfl) T.len boot_len (pa_cons (pv 0) pa_nil)) (pe_num rfl T.MOST_NAME))) (pss_one (ps_ret pe_bl)) pss_nil)
      (pss_one (ps_ret (pe_callB (cr_all rfl) (by rfl) T.all (by decide +kernel) (pa_cons (pe_lc (own := [("octet", 1)]) (g := gName 1) (tt := tYes) rfl sc_is_name.nd (pi_list (pv 0)) (blkOk_by (N := ["octets", "octet"]) (sc := defScope s_is_name) (by decide +kernel))
        (fun _ _ _ _ _ => pg_name (i := 1) sc_is_name.nd rfl (Or.inl rfl)) (fun _ _ _ _ _ => pts_nil)
        (fun _ _ _ _ _ => pe_or (pe_cl (E := E0) cFig hr (Nat.le_refl _) (by rfl) pass0 (pa_cons (pv 1) pa_nil)) (pe_one (pe_chain op_le op_le pe_int (pv 1) pe_int)))) pa_nil)))), ?_⟩
    obtain ⟨a, b, rfl, hs, few, q⟩ := h
    rw [nameOk_eq] at q
    have no : b.length < 1 ∨ 12 < b.length → Q (.bl false) H := fun h => by
      have q2 := q H (Same.refl H)
      rcases h with h | h
      · rw [decide_eq_false (show ¬ 1 ≤ b.length by omega), Bool.false_and] at q2
        exact q2
      · rw [decide_eq_false (show ¬ b.length ≤ 12 by omega), Bool.false_and, Bool.and_false] at q2
        exact q2
    refine ⟨_, rfl, _, (bV b).length, rfl, .inl ⟨_, hs, rfl⟩, _, _, rfl, rfl, ?_⟩
    rw [bV_len]
    refine rdk (fun h1 => ⟨_, _, rfl, rfl, ?_⟩) (fun h0 => ⟨_, rfl, iteT (no (.inl (by have := dF h0; omega)))⟩)
    refine rdo (fun h2 => ?_) (fun h0 => no (.inr (by have := dF h0; omega)))
    have h1 := dT h1
    have h2 := dT h2
    rw [decide_eq_true (show 1 ≤ b.length by omega), decide_eq_true (show b.length ≤ 12 by omega), Bool.true_and, Bool.true_and] at q
    refine ⟨_, rfl, a, rfl, ⟨_, hs⟩, fun D hD => ?_⟩
    refine lc_fn walk_list (fun i => .bl (isDig (b.getD i 0) || isLet (b.getD i 0))) hD (by rw [bV_len]; exact Nat.lt_of_le_of_lt few (by decide)) (fun H1 s1 => s1.seq hs) (fun i x H1 H2 Nx Ex lt _ y k => ?_) (fun H1 s1 at1 => ?_)
    · obtain ⟨rfl, hx⟩ := y
      obtain ⟨c, hc, rfl⟩ := bV_at hx
      have e : b.getD i 0 = c := by simp [List.getD_eq_getElem?_getD, hc]
      rw [e] at k
      have k2 := k _ (Same.refl _)
      refine ⟨rfl, tt_yes ⟨_, rfl, c, rfl, ?_⟩⟩
      refine rdk (fun h1 => ?_) (fun h1 => ?_)
      · rw [h1, Bool.true_or] at k2
        exact k2
      · rw [h1, Bool.false_or] at k2
        unfold isLet at k2
        refine ⟨_, rfl, _, _, rfl, rfl, rdk (fun h3 => ⟨_, _, rfl, rfl, ?_⟩) (fun h3 => ?_)⟩
        · have h3 := dT h3
          rw [decide_eq_true (show 97 ≤ c.toNat by omega), Bool.true_and] at k2
          have e : decide ((c.toNat : Int) ≤ 122) = decide (c.toNat ≤ 122) := by rw [decide_eq_decide]; omega
          show Nx (.bl (decide ((c.toNat : Int) ≤ 122))) _
          rw [e]
          exact k2
        · have h3 := dF h3
          rw [decide_eq_false (show ¬ 97 ≤ c.toNat by omega), Bool.false_and] at k2
          exact k2
    · rw [bV_len] at at1
      have e := range_map_get b (fun c => V.bl (isDig c || isLet c)) (fun i => V.bl (isDig (b.getD i 0) || isLet (b.getD i 0))) fun i x hx => by simp [List.getD_eq_getElem?_getD, hx]
      rw [e] at at1
      refine ⟨D, b.map fun c => isDig c || isLet c, rfl, SqL.of (by rw [at1, List.map_map]; rfl), ?_⟩
      rw [all_id]
      exact q H1 s1
/-! ### number_of -/
def spNum (K : PySem.W.Frag) : Sp := fun vs H Q _ => ∃ (a : Addr) (b : Br.Bytes), vs = [.ref a] ∧ SqL K H a (bV b) ∧ b.length ≤ 40000 ∧ ∀ H2, Same H H2 → Q (yV (numOf b)) H2
theorem sc_number_of : FnScope ["octets", "octet", "found"] ["octets"] (defScope s_number_of) := ⟨rfl, rfl, rfl, by decide +kernel, rfl, by decide +kernel, by decide +kernel⟩
theorem dig_at {b : Br.Bytes} (h : b.all isDig = true) {i : Nat} {c : UInt8} (e : b[i]? = some c) : 48 ≤ c.toNat ∧ c.toNat ≤ 57 := by
  have q := List.all_eq_true.mp h c (List.mem_of_getElem? e)
  unfold isDig at q
  rw [Bool.and_eq_true, decide_eq_true_eq, decide_eq_true_eq] at q
  exact q
theorem cl_number_of (D : DefAt K mg "number_of" s_number_of) (T : RT K mg) (cFig : Callee P w K mg base CX0 1 "is_figure" spFig) : Callee P w K mg base CX0 2 "number_of" (spNum K) := by
  obtain ⟨g, fd, F⟩ := D
  refine ⟨⟨fd, ["octets"], g, F.kp, ?_, F.binds fun _ _ _ _ _ _ us hl => match us, hl with | [_], _ => rfl⟩⟩
  refine F.ok sc_number_of (fun vs H Q E h => ?_) (fun cdv A outer s H vs Q E hr h => ?_)
  · obtain ⟨a, b, rfl, _⟩ := h
    rfl
  · refine ⟨_, pss_cons (ps_if (PW.pt (pw_or (pt_not (pt_chain op_le op_le pe_int (pe_callB call_len (by rfl) T.len boot_len (pa_cons (pv 0) pa_nil)) (pe_num rfl T.MOST_FIGURES)))
          (pw_or1 (pt_not (pt_val (pe_callB (cr_all rfl) (by rfl) T.all (by decide +kernel) (pa_cons (pe_lc (own := [("octet", 1)]) (g := gName 1) (tt := tYes) rfl sc_number_of.nd (pi_list (pv 0)) (blkOk_by (N := ["octets", "octet", "found"]) (sc := defScope s_number_of) (by decide +kernel))
            (fun _ _ _ _ _ => pg_name (i := 1) sc_number_of.nd rfl (Or.inl rfl)) (fun _ _ _ _ _ => pts_nil) (fun _ _ _ _ _ => pe_cl (E := E0) cFig hr (Nat.le_refl _) (by rfl) pass0 (pa_cons (pv 1) pa_nil))) pa_nil)))))))
          (pss_one (ps_ret pe_non)) pss_nil)
      (pss_cons (ps_if (PW.pt (pw_and (pt_cmpR op_eq (pe_ix ix_list (pv 0) pe_int (fun _ _ => rfl)) pe_int (nomark _)) (pw_and1 (pt_cmpR op_gt (pe_callB call_len (by rfl) T.len boot_len (pa_cons (pv 0) pa_nil)) pe_int (nomark _)))))
          (pss_one (ps_ret pe_non)) pss_nil)
      (pss_cons (ps_set (i := 2) sc_number_of.nd rfl (Or.inl rfl) pe_int)
      (pss_cons (ps_for PassesOwn.never rfl (pi_list (pv 0)) (pg_name (i := 1) sc_number_of.nd rfl (Or.inl rfl))
        (pss_one (ps_set (i := 2) sc_number_of.nd rfl (Or.inl rfl) (pe_op op_sub (pe_op op_add (pe_op op_mul pe_int (pv 2)) (pv 1)) pe_int))))
      (pss_one (ps_ret (pv 2)))))), ?_⟩
    obtain ⟨a, b, rfl, hs, few, q⟩ := h
    have no : ∀ H1, Same H H1 → numOf b = none → Q .non H1 := fun H1 s1 h => by
      have q2 := q H1 s1
      rw [h] at q2
      exact q2
    have n1 : ¬ (1 ≤ b.length ∧ b.length ≤ 6 ∧ b.all isDig = true) → numOf b = none := fun h => by
      unfold numOf
      rw [if_neg h]
    refine ⟨_, rfl, _, (bV b).length, rfl, .inl ⟨_, hs, rfl⟩, _, _, rfl, rfl, ?_⟩
    rw [bV_len]
    refine rdk (fun h1 => ⟨_, _, rfl, rfl, ?_⟩) (fun h0 => ⟨_, rfl, iteT (iteT (no H (Same.refl H) (n1 fun z => by have := dF h0; omega)))⟩)
    refine rdo (fun h2 => ?_) (fun h0 => iteT (no H (Same.refl H) (n1 fun z => by have := dF h0; omega)))
    have h1 := dT h1
    have h2 := dT h2
    refine ⟨_, rfl, a, rfl, ⟨_, hs⟩, fun D hD => ?_⟩
    refine lc_fn walk_list (fun i => .bl (isDig (b.getD i 0))) hD (by rw [bV_len]; exact Nat.lt_of_le_of_lt few (by decide)) (fun H1 s1 => s1.seq hs) (fun i x H1 H2 Nx Ex lt _ y k => ?_) (fun H1 s1 at1 => ?_)
    · obtain ⟨rfl, hx⟩ := y
      obtain ⟨c, hc, rfl⟩ := bV_at hx
      have e : b.getD i 0 = c := by simp [List.getD_eq_getElem?_getD, hc]
      rw [e] at k
      exact ⟨rfl, tt_yes ⟨_, rfl, c, rfl, k _ (Same.refl _)⟩⟩
    · rw [bV_len] at at1
      have e := range_map_get b (fun c => V.bl (isDig c)) (fun i => V.bl (isDig (b.getD i 0))) fun i x hx => by simp [List.getD_eq_getElem?_getD, hx]
      rw [e] at at1
      refine ⟨D, b.map fun c => isDig c, rfl, SqL.of (by rw [at1, List.map_map]; rfl), ?_⟩
      rw [all_id]
      refine rdo (fun h3 => ?_) (fun h3 => no H1 s1 (n1 fun z => by rw [show (b.all fun c => isDig c) = b.all isDig from rfl, z.2.2] at h3; cases h3))
      have h3 : b.all isDig = true := h3
      have hs1 : SqL K H1 a (bV b) := s1.seq hs
      obtain ⟨c0, r0, eb⟩ : ∃ c0 r0, b = c0 :: r0 := by
        cases b with
        | nil => exact absurd h1 (by decide)
        | cons c r => exact ⟨c, r, rfl⟩
      have a0 : (bV b)[0]? = some (byV c0) := by rw [eb]; rfl
      have go : (¬ (b.head? = some 48 ∧ 1 < b.length)) → numOf b = some (val b) := fun h => by
        unfold numOf
        rw [if_pos ⟨by omega, by omega, h3⟩, if_neg h]
      -- the loop
      have loop : ¬ (b.head? = some 48 ∧ 1 < b.length) → ∀ D2 : Ends, D2.rt = Q → tSeq (tAsg (tC (.int 0)) (gName 2)) (tSeq (tFor (iList K (tVar 0)) (gName 1) (tAsg (tOp (rI0 fun i j => .int (i - j)) (tOp (rI0 fun i j => .int (i + j)) (tOp (rI CMul fun i j => .int (i * j)) (tC (.int 10)) (tVar 2)) (tVar 1)) (tC (.int 48))) (gName 2))) (tRet (tVar 2))) D2 (start ["octets", "octet", "found"] [.ref a]) H1 := fun hz D2 eD => by
        refine ⟨_, rfl, a, rfl, ⟨_, hs1⟩, for_list (K := K) (a := a) (xs := bV b) (fun i σ H2 => H2 = H1 ∧ ∃ v : Option V, σ = [some (.ref a), v, some (.int ((val (b.take i) : Nat) : Int))]) ⟨rfl, none, rfl⟩ (fun i σ H2 _ ⟨e, _⟩ => by rw [e]; exact hs1) ?_ ?_⟩
        · rintro i x σ H2 hx ⟨rfl, v, rfl⟩
          obtain ⟨c, hc, rfl⟩ := bV_at hx
          have dg := dig_at h3 hc
          refine ⟨_, rfl, _, _, rfl, rfl, .inl ⟨by decide, by decide⟩, _, rfl, _, _, rfl, rfl, _, _, rfl, rfl, rfl, some (byV c), ?_⟩
          rw [take_snoc hc, val_snoc]
          have e2 : (10 : Int) * ((val (b.take i) : Nat) : Int) + (c.toNat : Int) - 48 = ((10 * val (b.take i) + (c.toNat - 48) : Nat) : Int) := by omega
          show [some (V.ref a), some (byV c), some (V.int ((10 : Int) * ((val (b.take i) : Nat) : Int) + (c.toNat : Int) - 48))] = _
          rw [e2]
        · rintro σ H2 ⟨rfl, v, rfl⟩
          rw [bV_len, List.take_length]
          refine ⟨_, rfl, ?_⟩
          rw [eD]
          have q2 := q H2 s1
          rw [go hz] at q2
          exact q2
      refine ⟨_, rfl, a, bV b, 0, byV c0, rfl, rfl, hs1, atI_nat a0, rfl, _, rfl, ?_⟩
      have e48 : decide (byV c0 = V.int 48) = decide (c0 = 48) := by
        rw [decide_eq_decide]
        constructor
        · intro z
          injection z with z
          exact u8_eq (by have : (48 : UInt8).toNat = 48 := rfl; omega)
        · intro z
          rw [z]
          rfl
      rw [e48]
      refine ite2b (fun h4 => ?_) (fun h4 => ?_)
      · refine ⟨_, rfl, _, (bV b).length, rfl, .inl ⟨_, hs1, rfl⟩, _, _, rfl, rfl, _, rfl, ?_⟩
        rw [bV_len]
        refine ite2b (fun h5 => ?_) (fun h5 => ?_)
        · refine no H1 s1 ?_
          unfold numOf
          rw [if_pos ⟨by omega, by omega, h3⟩, if_pos ⟨by rw [eb, dT h4]; rfl, by have := dT h5; omega⟩]
        · exact loop (fun z => dF h5 (by have := z.2; omega)) _ rfl
      · exact loop (fun z => dF h4 (by rw [eb] at z; exact Option.some.inj z.1)) _ rfl
end
end Cl
set_option maxHeartbeats 4000000
namespace Cl
open PySem PySem.Spec PyProof.Rows L2
open He (ga ma)
section
variable {P : Program} {w : World} {K : PySem.W.Frag} {mg : Str → Option Value} {base : Heap}
/-! ### parted -/
/-- .. all of it new since H -/
def LLBN (H H2 : Hp) (p : Addr) (ws : List Br.Bytes) : Prop := ∃ qs : List Addr, H2 p = some (.lst (qs.map V.ref)) ∧ All2 (LB H2) qs ws ∧ H p = none ∧ ∀ q ∈ qs, H q = none
def spParted (K : PySem.W.Frag) : Sp := fun vs H Q _ => ∃ (a : Addr) (b : Br.Bytes) (c : UInt8), vs = [.ref a, byV c] ∧ SqL K H a (bV b) ∧ b.length ≤ 40000 ∧ ∀ H2 p, Same H H2 → LLBN H H2 p (Br.cutAt c b) → Q (.ref p) H2
theorem sc_parted : FnScope ["octets", "sign", "found", "octet"] ["octets", "sign"] (defScope s_parted) := ⟨rfl, rfl, rfl, by decide +kernel, rfl, by decide +kernel, by decide +kernel⟩
theorem byV_inj {c d : UInt8} : byV c = byV d ↔ c = d := ⟨fun h => u8_eq (by injection h with h; exact Int.ofNat.inj h), fun h => by rw [h]⟩
/-- behind so many bytes: the rows so far, the last of them apart -/
structure PtInv (H H2 : Hp) (c : UInt8) (b : Br.Bytes) (p : Addr) (qs : List Addr) (l : Addr) (ws : List Br.Bytes) (wl : Br.Bytes) : Prop where
  same : Same H H2
  np : H p = none
  nl : H l = none
  nd : (qs ++ [l]).Nodup
  atP : H2 p = some (.lst ((qs ++ [l]).map V.ref))
  rows : All2 (LB H2) qs ws
  last : LB H2 l wl
  cut : Br.cutAt c b = ws ++ [wl]
  nq : ∀ q ∈ qs, H q = none
theorem PtInv.pl {H H2 : Hp} {c : UInt8} {b : Br.Bytes} {p : Addr} {qs : List Addr} {l : Addr} {ws : List Br.Bytes} {wl : Br.Bytes} (I : PtInv H H2 c b p qs l ws wl) : p ≠ l ∧ p ∉ qs := by
  have key : ∀ {q : Addr} {z : Br.Bytes}, LB H2 q z → p ≠ q := fun {q z} h e => by
    have h2 : H2 q = some (.lst (bV z)) := h
    rw [← e, I.atP] at h2
    injection h2 with h2
    injection h2 with h2
    cases z with
    | nil =>
      have := congrArg List.length h2
      simp [bV] at this
    | cons x r =>
      cases qs with
      | nil =>
        injection h2 with h3 _
        cases h3
      | cons y s =>
        injection h2 with h3 _
        cases h3
  refine ⟨key I.last, fun hm => ?_⟩
  obtain ⟨i, hi, e⟩ := List.mem_iff_getElem.mp hm
  obtain ⟨z, _, r⟩ := I.rows.atL (i := i) (a := p) (by rw [← e]; exact List.getElem?_eq_getElem hi)
  exact key r rfl
theorem cl_parted (D : DefAt K mg "parted" s_parted) : Callee P w K mg base CX0 1 "parted" (spParted K) := by
  obtain ⟨g, fd, F⟩ := D
  refine ⟨⟨fd, ["octets", "sign"], g, F.kp, ?_, F.binds fun _ _ _ _ _ _ us hl => match us, hl with | [_, _], _ => rfl⟩⟩
  refine F.ok sc_parted (fun vs H Q E h => ?_) (fun cdv A outer s H vs Q E hr h => ?_)
  · obtain ⟨a, b, c, rfl, _⟩ := h
    rfl
  · refine ⟨_, pss_cons (ps_set (i := 2) sc_parted.nd rfl (Or.inl rfl) (pe_lst (pa_cons (pe_lst pa_nil) pa_nil)))
      (pss_cons (ps_for PassesOwn.never rfl (pi_list (pv 0)) (pg_name (i := 3) sc_parted.nd rfl (Or.inl rfl))
        (pss_one (ps_if (pt_cmpR op_eq (pv 3) (pv 1) (nomark _))
          (pss_one (ps_expr (pe_bm PySem.F.plainAttrs_list PySem.F.slot_list_append PySem.F.type_list_append mt_append (pv 2) (pa_cons (pe_lst pa_nil) pa_nil))))
          (pss_one (ps_expr (pe_bm PySem.F.plainAttrs_list PySem.F.slot_list_append PySem.F.type_list_append mt_append (pe_ix ix_list (pv 2) (pe_un un_neg pe_int) (fun _ _ => rfl)) (pa_cons (pv 3) pa_nil)))))))
      (pss_one (ps_ret (pv 2)))), ?_⟩
    obtain ⟨a, b, c, rfl, hs, few, q⟩ := h
    refine ⟨by decide, fun l hl => ⟨by show 1 ≤ sizeLine; decide, fun p hp => ?_⟩⟩
    have hpH : H p = none := by
      by_cases e : p = l
      · rw [e]; exact hl
      · rw [upd_ne e] at hp; exact hp
    have hpl : p ≠ l := fun e => by rw [e, upd_same] at hp; cases hp
    have s0 : Same H (upd (upd H l (.lst [])) p (.lst [.ref l])) := Same.upd (Same.new hl) hpH
    refine ⟨_, rfl, a, rfl, ⟨_, s0.seq hs⟩, ?_⟩
    refine for_list (K := K) (a := a) (xs := bV b) (fun i σ H2 => ∃ (v : Option V) (qs : List Addr) (l : Addr) (ws : List Br.Bytes) (wl : Br.Bytes), σ = [some (.ref a), some (byV c), some (.ref p), v] ∧ PtInv H H2 c (b.take i) p qs l ws wl)
      ⟨none, [], l, [], [], rfl, ⟨s0, hpH, hl, by simp, upd_same, .nil, by show _ = _; rw [upd_ne (Ne.symm hpl), upd_same]; rfl, rfl, fun q hm => by cases hm⟩⟩ (fun i σ H2 _ ⟨_, _, _, _, _, _, I⟩ => I.same.seq hs) ?_ ?_
    · rintro i x σ H2 hx ⟨v, qs, l, ws, wl, rfl, I⟩
      obtain ⟨d, hd, rfl⟩ := bV_at hx
      have cs := cut_snoc (c := c) d I.cut
      have lenQ : (qs ++ [l]).length ≤ 40001 := by
        have e1 := I.rows.len
        have e2 := cut_len c (b.take i)
        rw [I.cut, List.length_append] at e2
        have e3 : (b.take i).length ≤ b.length := by rw [List.length_take]; omega
        rw [List.length_append]
        simp at e2 ⊢
        omega
      have lenW : wl.length ≤ 40000 := by
        have := cut_small c (b.take i) wl (by rw [I.cut]; simp)
        have e3 : (b.take i).length ≤ b.length := by rw [List.length_take]; omega
        omega
      obtain ⟨ppl, ppq⟩ := I.pl
      have lq : l ∉ qs := fun hm => by
        have := I.nd
        rw [List.nodup_append] at this
        exact this.2.2 l hm l (List.mem_singleton.mpr rfl) rfl
      refine ⟨_, rfl, _, rfl, rfl, _, rfl, ?_⟩
      refine ite2b (fun h1 => ?_) (fun h1 => ?_)
      · have h1 : d = c := byV_inj.mp (dT h1)
        rw [if_pos h1] at cs
        refine ⟨_, rfl, .inl ⟨rfl, _, SqL.of I.atP⟩, by decide, fun l2 hl2 => ?_⟩
        have l2p : l2 ≠ p := fun e => by rw [e, I.atP] at hl2; cases hl2
        have l2l : l2 ≠ l := fun e => by
          have := I.last
          unfold LB at this
          rw [e, this] at hl2
          cases hl2
        have l2q : l2 ∉ qs := fun hm => by
          obtain ⟨j, hj, e⟩ := List.mem_iff_getElem.mp hm
          obtain ⟨z, _, r⟩ := I.rows.atL (i := j) (a := l2) (by rw [← e]; exact List.getElem?_eq_getElem hj)
          have r2 : H2 l2 = some (.lst (bV z)) := r
          rw [hl2] at r2
          cases r2
        refine ⟨p, (qs ++ [l]).map V.ref, .ref l2, rfl, rfl, by rw [upd_ne (Ne.symm l2p)]; exact I.atP, by rw [List.length_map]; exact Nat.lt_of_le_of_lt lenQ (by decide), ?_⟩
        refine ⟨some (byV d), qs ++ [l], l2, ws ++ [wl], [], rfl, ?_⟩
        rw [take_snoc hd]
        refine ⟨Same.upd (Same.upd I.same (I.same.free hl2)) I.np, I.np, I.same.free hl2, nodup_snoc I.nd (fun hm => ?_), ?_, ?_, ?_, ?_, fun q hm => (List.mem_append.mp hm).elim (I.nq q) fun z => by rw [List.mem_singleton.mp z]; exact I.nl⟩
        · rcases List.mem_append.mp hm with z | z
          · exact l2q z
          · exact l2l (List.mem_singleton.mp z)
        · rw [upd_same, List.map_append (l₁ := qs ++ [l])]
          rfl
        · refine All2.app (I.rows.monoM fun q hm z r => ?_) (.cons ?_ .nil)
          · show _ = _
            rw [upd_ne (fun e => ppq (by rw [← e]; exact hm)), upd_ne (fun e => l2q (by rw [← e]; exact hm))]
            exact r
          · show _ = _
            rw [upd_ne (Ne.symm ppl), upd_ne (Ne.symm l2l)]
            exact I.last
        · show _ = _
          rw [upd_ne l2p, upd_same]
          rfl
        · rw [cs, List.append_assoc]
          rfl
      · have h1 : ¬ d = c := fun e => dF h1 (byV_inj.mpr e)
        rw [if_neg h1] at cs
        refine ⟨_, rfl, _, rfl, p, (qs ++ [l]).map V.ref, -1, .ref l, rfl, rfl, SqL.of I.atP, (by rw [List.map_append]; exact atI_last _ _), ?_⟩
        refine ⟨.inl ⟨rfl, bV wl, SqL.of I.last⟩, _, rfl, ?_⟩
        refine ⟨l, bV wl, byV d, rfl, rfl, I.last, by rw [bV_len]; exact Nat.lt_of_le_of_lt lenW (by decide), ?_⟩
        refine ⟨some (byV d), qs, l, ws, wl ++ [d], rfl, ?_⟩
        rw [take_snoc hd]
        refine ⟨Same.upd I.same I.nl, I.np, I.nl, I.nd, by rw [upd_ne ppl]; exact I.atP, I.rows.monoM fun q hm z r => ?_, ?_, cs, I.nq⟩
        · show _ = _
          rw [upd_ne (fun e => lq (by rw [← e]; exact hm))]
          exact r
        · show _ = _
          rw [upd_same]
          unfold bV
          rw [List.map_append]
          rfl
    · rintro σ H2 ⟨v, qs, l, ws, wl, rfl, I⟩
      rw [bV_len, List.take_length] at I
      refine ⟨_, rfl, q H2 p I.same ⟨qs ++ [l], I.atP, ?_, I.np, fun q hm => (List.mem_append.mp hm).elim (I.nq q) fun z => by rw [List.mem_singleton.mp z]; exact I.nl⟩⟩
      rw [I.cut]
      exact I.rows.app (.cons I.last .nil)
end
end Cl
set_option maxHeartbeats 4000000
namespace Cl
open PySem PySem.Spec PyProof.Rows L2
open He (ga ma)
/-- a method, a maker in the text -/
structure MethAt (K : PySem.W.Frag) (C m qual : Str) (st : Stmt) : Prop where
  h : Meth K (ga K C) m (ma K (ga K C) m)
  f : ∃ fd, Fun K m qual st (ma K (ga K C) m) fd
structure MakeAt (K : PySem.W.Frag) (mg : Str → Option Value) (C qual : Str) (st : Stmt) : Prop where
  g : mg C = some (.ref (ga K C))
  k : Mk K (ga K C) (ma K (ga K C) "__init__")
  f : ∃ fd, Fun K "__init__" qual st (ma K (ga K C) "__init__") fd
section
variable {P : Program} {w : World} {K : PySem.W.Frag} {mg : Str → Option Value} {base : Heap}
/-! ### Thing, Line -/
def spThingI (K : PySem.W.Frag) : Sp := fun vs H Q _ => ∃ x dx v1 v2, vs = [.ref x, v1, v2] ∧ H x = some (.ins (cThing K) dx []) ∧
  ∀ H2, H2 x = some (.ins (cThing K) dx [(("name" : Str), v1), (("numbers" : Str), v2)]) → (∀ b, b ≠ x → H2 b = H b) → Q .non H2
theorem sc_Thing_init : FnScope ["self", "name", "numbers"] ["self", "name", "numbers"] (defScope s_Thing_init) := ⟨rfl, rfl, rfl, by decide +kernel, rfl, by decide +kernel, by decide +kernel⟩
theorem mk_Thing (M : MakeAt K mg "Thing" "Thing.__init__" s_Thing_init) (C : Kl K mg "Thing" ["name", "numbers"]) : Maker P w K mg base CX0 1 "Thing" (spThingI K) := by
  obtain ⟨g, mk, fd, F⟩ := M
  refine ⟨⟨fd, ["self", "name", "numbers"], g, mk, ?_, F.binds fun _ _ _ _ _ _ us hl => match us, hl with | [_, _, _], _ => rfl⟩⟩
  refine F.ok sc_Thing_init (fun vs H Q E h => ?_) (fun cdv A outer s H vs Q E hr h => ?_)
  · obtain ⟨x, dx, v1, v2, rfl, _⟩ := h
    rfl
  · refine ⟨_, pss_cons (ps_fld (pv 0) (pv 1) (by rfl)) (pss_one (ps_fld (pv 0) (pv 2) (by rfl))), ?_⟩
    obtain ⟨x, dx, v1, v2, rfl, at0, q⟩ := h
    refine ⟨_, rfl, _, rfl, x, cThing K, dx, [], rfl, at0, C.c, C.n _ (by simp), by simp, ?_⟩
    refine ⟨_, rfl, _, rfl, x, cThing K, dx, [("name", v1)], rfl, upd_same, C.c, C.n _ (by simp), by simp, ?_⟩
    refine q _ ?_ fun b ne => ?_
    · rw [upd_same]
      rfl
    · rw [upd_ne ne, upd_ne ne]
def spLineI (K : PySem.W.Frag) : Sp := fun vs H Q _ => ∃ x dx v1 v2 v3, vs = [.ref x, v1, v2, v3] ∧ H x = some (.ins (cLine K) dx []) ∧
  ∀ H2, H2 x = some (.ins (cLine K) dx [(("kind" : Str), v1), (("name" : Str), v2), (("numbers" : Str), v3)]) → (∀ b, b ≠ x → H2 b = H b) → Q .non H2
theorem sc_Line_init : FnScope ["self", "kind", "name", "numbers"] ["self", "kind", "name", "numbers"] (defScope s_Line_init) := ⟨rfl, rfl, rfl, by decide +kernel, rfl, by decide +kernel, by decide +kernel⟩
theorem mk_Line (M : MakeAt K mg "Line" "Line.__init__" s_Line_init) (C : Kl K mg "Line" ["kind", "name", "numbers"]) : Maker P w K mg base CX0 1 "Line" (spLineI K) := by
  obtain ⟨g, mk, fd, F⟩ := M
  refine ⟨⟨fd, ["self", "kind", "name", "numbers"], g, mk, ?_, F.binds fun _ _ _ _ _ _ us hl => match us, hl with | [_, _, _, _], _ => rfl⟩⟩
  refine F.ok sc_Line_init (fun vs H Q E h => ?_) (fun cdv A outer s H vs Q E hr h => ?_)
  · obtain ⟨x, dx, v1, v2, v3, rfl, _⟩ := h
    rfl
  · refine ⟨_, pss_cons (ps_fld (pv 0) (pv 1) (by rfl)) (pss_cons (ps_fld (pv 0) (pv 2) (by rfl)) (pss_one (ps_fld (pv 0) (pv 3) (by rfl)))), ?_⟩
    obtain ⟨x, dx, v1, v2, v3, rfl, at0, q⟩ := h
    refine ⟨_, rfl, _, rfl, x, cLine K, dx, [], rfl, at0, C.c, C.n _ (by simp), by simp, ?_⟩
    refine ⟨_, rfl, _, rfl, x, cLine K, dx, [("kind", v1)], rfl, upd_same, C.c, C.n _ (by simp), by simp, ?_⟩
    refine ⟨_, rfl, _, rfl, x, cLine K, dx, [("kind", v1), ("name", v2)], rfl, upd_same, C.c, C.n _ (by simp), by simp, ?_⟩
    refine q _ ?_ fun b ne => ?_
    · rw [upd_same]
      rfl
    · rw [upd_ne ne, upd_ne ne, upd_ne ne]
/-! ### Recipe, Reader -/
def spRecipeI (K : PySem.W.Frag) : Sp := fun vs H Q _ => ∃ x dx, vs = [.ref x] ∧ H x = some (.ins (cRecipe K) dx []) ∧
  ∀ H2 th l0 l1 l2, H2 x = some (.ins (cRecipe K) dx [(("things" : Str), .ref th), (("yeast" : Str), .non)]) → H2 th = some (.lst [.ref l0, .ref l1, .ref l2]) → H2 l0 = some (.lst []) → H2 l1 = some (.lst []) → H2 l2 = some (.lst []) →
    (H th = none ∧ H l0 = none ∧ H l1 = none ∧ H l2 = none) → (l0 ≠ l1 ∧ l0 ≠ l2 ∧ l1 ≠ l2) → Keeps (· = x) H H2 → Q .non H2
theorem sc_Recipe_init : FnScope ["self"] ["self"] (defScope s_Recipe_init) := ⟨rfl, rfl, rfl, by decide +kernel, rfl, by decide +kernel, by decide +kernel⟩
theorem mk_Recipe (M : MakeAt K mg "Recipe" "Recipe.__init__" s_Recipe_init) (C : Kl K mg "Recipe" ["things", "yeast"]) : Maker P w K mg base CX0 1 "Recipe" (spRecipeI K) := by
  obtain ⟨g, mk, fd, F⟩ := M
  refine ⟨⟨fd, ["self"], g, mk, ?_, F.binds fun _ _ _ _ _ _ us hl => match us, hl with | [_], _ => rfl⟩⟩
  refine F.ok sc_Recipe_init (fun vs H Q E h => ?_) (fun cdv A outer s H vs Q E hr h => ?_)
  · obtain ⟨x, dx, rfl, _⟩ := h
    rfl
  · refine ⟨_, pss_cons (ps_fld (pv 0) (pe_lst (pa_cons (pe_lst pa_nil) (pa_cons (pe_lst pa_nil) (pa_cons (pe_lst pa_nil) pa_nil)))) (by rfl)) (pss_one (ps_fld (pv 0) pe_non (by rfl))), ?_⟩
    obtain ⟨x, dx, rfl, at0, q⟩ := h
    have none_ne : ∀ {H0 : Hp} {b l : Addr} {o : HO}, upd H0 l o b = none → b ≠ l ∧ H0 b = none := fun {H0 b l o} h => by
      have ne : b ≠ l := fun e => by rw [e, upd_same] at h; cases h
      rw [upd_ne ne] at h
      exact ⟨ne, h⟩
    refine ⟨by decide, fun l0 h0 => ⟨by decide, fun l1 h1 => ⟨by decide, fun l2 h2 => ⟨(by show 3 ≤ sizeLine; decide), fun th h3 => ?_⟩⟩⟩⟩
    obtain ⟨n10, h1⟩ := none_ne h1
    obtain ⟨n21, h2⟩ := none_ne h2
    obtain ⟨n20, h2⟩ := none_ne h2
    obtain ⟨n32, h3⟩ := none_ne h3
    obtain ⟨n31, h3⟩ := none_ne h3
    obtain ⟨n30, h3⟩ := none_ne h3
    have x0 := ne_of_none at0 h0
    have x1 := ne_of_none at0 h1
    have x2 := ne_of_none at0 h2
    have x3 := ne_of_none at0 h3
    refine ⟨_, rfl, x, cRecipe K, dx, [], rfl, ?_, C.c, C.n _ (by simp), by simp, ?_⟩
    · rw [upd_ne x3, upd_ne x2, upd_ne x1, upd_ne x0]
      exact at0
    refine ⟨_, rfl, x, cRecipe K, dx, [("things", .ref th)], rfl, upd_same, C.c, C.n _ (by simp), by simp, ?_⟩
    refine q _ th l0 l1 l2 ?_ ?_ ?_ ?_ ?_ ⟨h3, h0, h1, h2⟩ ⟨Ne.symm n10, Ne.symm n20, Ne.symm n21⟩ ?_
    · rw [upd_same]
      rfl
    · rw [upd_ne (Ne.symm x3), upd_ne (Ne.symm x3), upd_same]
    · rw [upd_ne (Ne.symm x0), upd_ne (Ne.symm x0), upd_ne (Ne.symm n30), upd_ne (Ne.symm n20), upd_ne (Ne.symm n10), upd_same]
    · rw [upd_ne (Ne.symm x1), upd_ne (Ne.symm x1), upd_ne (Ne.symm n31), upd_ne (Ne.symm n21), upd_same]
    · rw [upd_ne (Ne.symm x2), upd_ne (Ne.symm x2), upd_ne (Ne.symm n32), upd_same]
    · intro b o nb hb
      rw [upd_ne nb, upd_ne nb, upd_ne (ne_of_none hb h3), upd_ne (ne_of_none hb h2), upd_ne (ne_of_none hb h1), upd_ne (ne_of_none hb h0)]
      exact hb
/-- a reader: its recipe, the last kind -/
def ReadAt (K : PySem.W.Frag) (H : Hp) (a rc : Addr) (dr : Addr) (last : Int) : Prop := H a = some (.ins (cReader K) dr [(("recipe" : Str), .ref rc), (("last" : Str), .int last)])
def spReaderI (K : PySem.W.Frag) : Sp := fun vs H Q _ => ∃ x dx, vs = [.ref x] ∧ H x = some (.ins (cReader K) dx []) ∧
  ∀ H2 rc dr th l0 l1 l2, ReadAt K H2 x rc dx (-1) → RecAt K H2 rc [] [] [] none dr th l0 l1 l2 → (H rc = none ∧ H th = none ∧ H l0 = none ∧ H l1 = none ∧ H l2 = none) → (l0 ≠ l1 ∧ l0 ≠ l2 ∧ l1 ≠ l2) → Keeps (· = x) H H2 → Q .non H2
theorem sc_Reader_init : FnScope ["self"] ["self"] (defScope s_Reader_init) := ⟨rfl, rfl, rfl, by decide +kernel, rfl, by decide +kernel, by decide +kernel⟩
theorem mk_Reader (M : MakeAt K mg "Reader" "Reader.__init__" s_Reader_init) (C : Kl K mg "Reader" ["recipe", "last"]) (cRec : Maker P w K mg base CX0 1 "Recipe" (spRecipeI K)) : Maker P w K mg base CX0 3 "Reader" (spReaderI K) := by
  obtain ⟨g, mk, fd, F⟩ := M
  refine ⟨⟨fd, ["self"], g, mk, ?_, F.binds fun _ _ _ _ _ _ us hl => match us, hl with | [_], _ => rfl⟩⟩
  refine F.ok sc_Reader_init (fun vs H Q E h => ?_) (fun cdv A outer s H vs Q E hr h => ?_)
  · obtain ⟨x, dx, rfl, _⟩ := h
    rfl
  · refine ⟨_, pss_cons (ps_fld (pv 0) (pe_mk0 (E := E0) cRec hr (Nat.le_refl _) (by rfl) pass0) (by rfl)) (pss_one (ps_fld (pv 0) (pe_un un_neg pe_int) (by rfl))), ?_⟩
    obtain ⟨x, dx, rfl, at0, q⟩ := h
    refine fun rc dr hrc hdr ne => ⟨rc, dr, rfl, upd_same, fun H2 th l0 l1 l2 ob hth h0 h1 h2 nw ds kp => ⟨rfl, ?_⟩⟩
    have none_up : ∀ {b : Addr}, upd (upd H dr (.own rc)) rc (.ins (cRecipe K) dr []) b = none → H b = none := fun {b} h => by
      have n1 : b ≠ rc := fun e => by rw [e, upd_same] at h; cases h
      rw [upd_ne n1] at h
      have n2 : b ≠ dr := fun e => by rw [e, upd_same] at h; cases h
      rw [upd_ne n2] at h
      exact h
    have up_some : ∀ {b : Addr} {o : HO}, H b = some o → H2 b = some o := fun {b o} h => kp b o (ne_of_none h hrc) (by rw [upd_ne (ne_of_none h hrc), upd_ne (ne_of_none h hdr)]; exact h)
    have x2 := up_some at0
    have xc := ne_of_none at0 hrc
    have xh := ne_of_none at0 (none_up nw.1)
    have x0 := ne_of_none at0 (none_up nw.2.1)
    have x1 := ne_of_none at0 (none_up nw.2.2.1)
    have xx := ne_of_none at0 (none_up nw.2.2.2)
    refine ⟨_, rfl, x, cReader K, dx, [], rfl, x2, C.c, C.n _ (by simp), by simp, ?_⟩
    refine ⟨_, rfl, _, rfl, x, cReader K, dx, [("recipe", .ref rc)], rfl, upd_same, C.c, C.n _ (by simp), by simp, ?_⟩
    refine q _ rc dr th l0 l1 l2 ?_ ⟨?_, ?_, ⟨[], ?_, .nil⟩, ⟨[], ?_, .nil⟩, ⟨[], ?_, .nil⟩⟩ ⟨hrc, none_up nw.1, none_up nw.2.1, none_up nw.2.2.1, none_up nw.2.2.2⟩ ds ?_
    · show _ = _
      rw [upd_same]
      rfl
    · rw [upd_ne (Ne.symm xc), upd_ne (Ne.symm xc)]
      exact ob
    · rw [upd_ne (Ne.symm xh), upd_ne (Ne.symm xh)]
      exact hth
    · rw [upd_ne (Ne.symm x0), upd_ne (Ne.symm x0)]
      exact h0
    · rw [upd_ne (Ne.symm x1), upd_ne (Ne.symm x1)]
      exact h1
    · rw [upd_ne (Ne.symm xx), upd_ne (Ne.symm xx)]
      exact h2
    · intro b o nb hb
      rw [upd_ne nb, upd_ne nb]
      exact up_some hb
end
end Cl
set_option maxHeartbeats 4000000
namespace Cl
open PySem PySem.Spec PyProof.Rows L2
open He (ga ma)
/-- a tuple of the module -/
def KTup (K : PySem.W.Frag) (a : Addr) (xs : List V) : Prop := ∃ (o : Obj) (its : Array Value) (n : Nat), K.lookup a = some o ∧ o.cls = .type "tuple" ∧ o.data = .seq its n ∧ its.size ≤ sizeLine ∧ Vals xs its.toList
theorem KTup.sq {K : PySem.W.Frag} {a : Addr} {xs : List V} (h : KTup K a xs) (H : Hp) : SqT K H a xs := .inr h
def WSTR : List Str := ["recipe", "malt", "hop", "add", "yeast"]
def PairAt (K : PySem.W.Frag) (q : Addr) (b : Nat × Nat) : Prop := KTup K q [.int (b.1 : Int), .int (b.2 : Int)]
def PairsAt (K : PySem.W.Frag) (q : Addr) (bs : List (Nat × Nat)) : Prop := ∃ ps : List Addr, KTup K q (ps.map V.ref) ∧ All2 (PairAt K) ps bs
/-- the module's tables of lines -/
structure RTab (K : PySem.W.Frag) (mg : Str → Option Value) : Prop where
  words : mg "WORDS" = some (.ref (ga K "WORDS")) ∧ KTup K (ga K "WORDS") (WSTR.map V.str)
  named : mg "NAMED" = some (.ref (ga K "NAMED")) ∧ KTup K (ga K "NAMED") (NAMED.map V.bl)
  bounds : mg "BOUNDS" = some (.ref (ga K "BOUNDS")) ∧ ∃ qs : List Addr, KTup K (ga K "BOUNDS") (qs.map V.ref) ∧ All2 (PairsAt K) qs BOUNDS
/-- a line, or none -/
def LineV (K : PySem.W.Frag) (H : Hp) (v : V) : Option (Nat × Br.Bytes × List Nat) → Prop
  | none => v = .non
  | some x => ∃ p, v = .ref p ∧ LineAt K H p x
theorem LineV.same {K : PySem.W.Frag} {H H2 : Hp} {v : V} {o : Option (Nat × Br.Bytes × List Nat)} (s : Same H H2) (h : LineV K H v o) : LineV K H2 v o := by
  cases o with
  | none => exact h
  | some x =>
    obtain ⟨p, e, l⟩ := h
    exact ⟨p, e, l.same s⟩
/-! ### plain facts -/
theorem inV_none (l : List (Option Nat)) : inV .non (l.map yV) = l.any Option.isNone := by
  unfold inV
  rw [List.any_map]
  congr 1
  funext o
  cases o <;> rfl
theorem flat_y (l : List (Option Nat)) : (l.map yV).all flatV = true := by
  rw [List.all_map, List.all_eq_true]
  intro o _
  cases o <;> rfl
theorem any_none {l : List (Option Nat)} : l.any Option.isNone = true → allSome l = none := by
  induction l with
  | nil => intro h; cases h
  | cons o r ih =>
    intro h
    cases o with
    | none => rfl
    | some n =>
      have := ih (by simpa using h)
      show (allSome r).map _ = none
      rw [this]
      rfl
theorem no_none {l : List (Option Nat)} : l.any Option.isNone = false → ∃ ns, allSome l = some ns ∧ l = ns.map some := by
  induction l with
  | nil => intro _; exact ⟨[], rfl, rfl⟩
  | cons o r ih =>
    intro h
    cases o with
    | none => simp at h
    | some n =>
      obtain ⟨ns, e1, e2⟩ := ih (by simpa using h)
      exact ⟨n :: ns, by show (allSome r).map _ = _; rw [e1]; rfl, by rw [e2]; rfl⟩
theorem inB_zip : ∀ (ns : List Nat) (bs : List (Nat × Nat)), ns.length = bs.length → inB ns bs = (List.zipWith (fun n (p : Nat × Nat) => decide (p.1 ≤ n) && decide (n ≤ p.2)) ns bs).all id
  | [], [], _ => rfl
  | [], _ :: _, h => by cases h
  | _ :: _, [], h => by cases h
  | n :: ns, p :: ps, h => by
    rw [inB, inB_zip ns ps (by simpa using h), List.zipWith_cons_cons, List.all_cons]
    rfl
theorem cut_tail (x : V) (xs : List V) : cutV (x :: xs) (some 1) none = xs := by
  unfold cutV
  have e : HT.sIx (x :: xs).length 0 (some 1) = 1 := by
    rw [show (some (1 : Int)) = some ((1 : Nat) : Int) from rfl, HT.sIx_nat, List.length_cons]
    omega
  rw [e, HT.sIx_none, List.drop_one, List.tail_cons, List.length_cons, Nat.add_sub_cancel, List.take_length]
section
variable {P : Program} {w : World} {K : PySem.W.Frag} {mg : Str → Option Value} {base : Heap}
/-! ### formed -/
def spFormed (K : PySem.W.Frag) : Sp := fun vs H Q _ => ∃ (k : Nat) (p : Addr) (ws : List Br.Bytes), vs = [.int (k : Int), .ref p] ∧ k ≤ 4 ∧ LLB H p ws ∧ ws.length ≤ 20001 ∧ (∀ b ∈ ws, b.length ≤ 20000) ∧
  ∀ H2 v, Same H H2 → LineV K H2 v ((mFormed k ws).map fun x => (k, x.1, x.2)) → Q v H2
theorem sc_formed : FnScope ["kind", "words", "name", "numbers", "word", "number", "least", "most"] ["kind", "words"] (defScope s_formed) := ⟨rfl, rfl, rfl, by decide +kernel, rfl, by decide +kernel, by decide +kernel⟩
theorem LLB.sq {H : Hp} {p : Addr} {ws : List Br.Bytes} (h : LLB H p ws) (K : PySem.W.Frag) : ∃ qs : List Addr, SqL K H p (qs.map V.ref) ∧ All2 (LB H) qs ws := by
  obtain ⟨qs, h1, h2⟩ := h
  exact ⟨qs, SqL.of h1, h2⟩
theorem cl_formed (D : DefAt K mg "formed" s_formed) (T : RT K mg) (TB : RTab K mg) (cName : Callee P w K mg base CX0 2 "is_name" (spName K)) (cNum : Callee P w K mg base CX0 2 "number_of" (spNum K))
    (cLn : Maker P w K mg base CX0 1 "Line" (spLineI K)) : Callee P w K mg base CX0 3 "formed" (spFormed K) := by
  obtain ⟨g, fd, F⟩ := D
  refine ⟨⟨fd, ["kind", "words"], g, F.kp, ?_, F.binds fun _ _ _ _ _ _ us hl => match us, hl with | [_, _], _ => rfl⟩⟩
  refine F.ok sc_formed (fun vs H Q E h => ?_) (fun cdv A outer s H vs Q E hr h => ?_)
  · obtain ⟨k, p, ws, rfl, _⟩ := h
    rfl
  · refine ⟨_, pss_cons (ps_set (i := 2) sc_formed.nd rfl (Or.inl rfl) (pe_tup pa_nil))
      (C8.pss_cut (ps_if (pt_val (pe_ix ix_tup (pe_obj (by rfl) TB.named.1) (pv 0) (fun _ _ => rfl)))
        (pss_cons (ps_if (PW.pt (pw_or (pt_cmpR (op_eqNil hr.units) (pv 1) (pe_lst pa_nil) (nomark _)) (pw_or1 (pt_not (pt_val (pe_cl (E := E0) cName hr (by decide) (by rfl) pass0 (pa_cons (pe_ix ix_list (pv 1) pe_int (fun _ _ => rfl)) pa_nil)))))))
            (pss_one (ps_ret pe_non)) pss_nil)
        (pss_cons (ps_set (i := 2) sc_formed.nd rfl (Or.inl rfl) (pe_callTy call_tuple_of (by rfl) T.tuple (by decide +kernel) (pa_cons (pe_ix ix_list (pv 1) pe_int (fun _ _ => rfl)) pa_nil)))
        (pss_one (ps_set (i := 1) sc_formed.nd rfl (Or.inl rfl) (pe_slice sl_list (pv 1) (po_some pe_int) po_none))))) pss_nil)
      (pss_cons (ps_setLc (own := [("word", 4)]) (i := 3) (g := gName 4) (tt := tYes) rfl sc_formed.nd rfl rfl (by rfl) (pi_list (pv 1)) (blkOk_by (N := ["kind", "words", "name", "numbers", "word", "number", "least", "most"]) (sc := defScope s_formed) (by decide +kernel))
        (fun _ _ _ _ _ => pg_name (i := 4) sc_formed.nd rfl (Or.inl rfl)) (fun _ _ _ _ _ => pts_nil) (fun _ _ _ _ _ => pe_cl (E := E0) cNum hr (Nat.le_refl _) (by rfl) pass0 (pa_cons (pv 4) pa_nil)))
      (pss_cons (ps_if (PW.pt (pw_or (pt_cmpR op_ne (pe_callB call_len (by rfl) T.len boot_len (pa_cons (pv 3) pa_nil)) (pe_callB call_len (by rfl) T.len boot_len (pa_cons (pe_ix ix_tup (pe_obj (by rfl) TB.bounds.1) (pv 0) (fun _ _ => rfl)) pa_nil)) (nomark _))
          (pw_or1 (pt_cmpR op_in_seq pe_non (pv 3) (by rfl)))))
          (pss_one (ps_ret pe_non)) pss_nil)
      (pss_cons (ps_if (pt_not (pt_val (pe_callB (cr_all rfl) (by rfl) T.all (by decide +kernel) (pa_cons (pe_lc (own := [("number", 5), ("least", 6), ("most", 7)]) (g := gTup K 2 (gCons (gName 5) (gCons (gTup K 2 (gCons (gName 6) (gCons (gName 7) gNil))) gNil))) (tt := tYes) rfl sc_formed.nd
          (pi_zipLT (by rfl) T.zip (pa_cons (pv 3) (pa_cons (pe_ix ix_tup (pe_obj (by rfl) TB.bounds.1) (pv 0) (fun _ _ => rfl)) pa_nil)))
          (blkOk_by (N := ["kind", "words", "name", "numbers", "word", "number", "least", "most"]) (sc := defScope s_formed) (by decide +kernel))
          (fun _ _ _ _ _ => pg_tup rfl (pgs_cons (pg_name (i := 5) sc_formed.nd rfl (Or.inl rfl)) (pgs_cons (pg_tup rfl (pgs_cons (pg_name (i := 6) sc_formed.nd rfl (Or.inl rfl)) (pgs_cons (pg_name (i := 7) sc_formed.nd rfl (Or.inl rfl)) pgs_nil))) pgs_nil)))
          (fun _ _ _ _ _ => pts_nil) (fun _ _ _ _ _ => pe_chain op_le op_le (pv 6) (pv 5) (pv 7))) pa_nil)))) (pss_one (ps_ret pe_non)) pss_nil)
      (pss_one (ps_ret (pe_mk (E := E0) cLn hr (by decide) (by rfl) pass0 (pa_cons (pv 0) (pa_cons (pv 2) (pa_cons (pv 3) pa_nil)))))))))), ?_⟩
    obtain ⟨k, p, ws, rfl, hk, hw, few, small, q⟩ := h
    have no : ∀ H2, Same H H2 → mFormed k ws = none → Q .non H2 := fun H2 s2 e => q H2 .non s2 (by rw [e]; rfl)
    obtain ⟨qs, hp, hq⟩ := hw
    refine ⟨by show 0 ≤ sizeLine; decide, fun na hna => ?_⟩
    have s0 : Same H (upd H na (.tup [])) := Same.new hna
    refine ⟨fun σ H' => ∃ (nm : Br.Bytes) (ws2 : List Br.Bytes) (p2 na2 : Addr), σ = [some (.int (k : Int)), some (.ref p2), some (.ref na2), none, none, none, none, none] ∧ H' na2 = some (.tup (bV nm)) ∧ LLB H' p2 ws2 ∧ Same H H' ∧ ws2.length ≤ 20001 ∧ (∀ b ∈ ws2, b.length ≤ 20000) ∧
      mFormed k ws = (numsOf ws2 (bnds k)).map fun ns => (nm, ns), ?_, ?_⟩
    · have nk : (NAMED.map V.bl)[k]? = some (.bl (named k)) := by
        match k, hk with
        | 0, _ => rfl
        | 1, _ => rfl
        | 2, _ => rfl
        | 3, _ => rfl
        | 4, _ => rfl
      refine ⟨_, rfl, ga K "NAMED", NAMED.map V.bl, (k : Int), .bl (named k), rfl, rfl, TB.named.2.sq _, atI_nat nk, _, rfl, ?_⟩
      refine ite2b (fun hn => ?_) (fun hn => ?_)
      · refine ⟨_, rfl, by show 0 ≤ sizeLine; decide, fun e0 he0 => ?_⟩
        have s1 : Same H (upd (upd H na (.tup [])) e0 (.lst [])) := Same.upd s0 (by
          by_cases e : e0 = na
          · rw [e]; exact hna
          · rw [upd_ne e] at he0; exact he0)
        refine ⟨p, e0, qs.map V.ref, rfl, rfl, SqL.of (s1 _ _ hp), SqL.of upd_same, _, rfl, ?_⟩
        cases hq with
        | nil =>
          refine iteT (iteT (no _ s1 ?_))
          unfold mFormed
          rw [if_pos hn]
        | @cons q0 w0 qr wr r0 rr =>
          refine iteF ?_
          have r1 : LB (upd (upd H na (.tup [])) e0 (.lst [])) q0 w0 := s1 _ _ r0
          refine ⟨_, rfl, p, (q0 :: qr).map V.ref, 0, .ref q0, rfl, rfl, SqL.of (s1 _ _ hp), atI_nat (j := 0) rfl, q0, w0, rfl, SqL.of r1, small _ List.mem_cons_self, fun H2 s2 => ⟨_, rfl, ?_⟩⟩
          have s3 : Same H H2 := s1.trans s2
          refine iteN (fun hm => ?_) (fun hm => ?_)
          · refine ⟨_, rfl, p, (q0 :: qr).map V.ref, 0, .ref q0, rfl, rfl, SqL.of (s3 _ _ hp), atI_nat (j := 0) rfl, q0, bV w0, rfl, .inl ⟨SqL.of (s2 _ _ r1), fun n2 hn2 => ?_⟩⟩
            refine ⟨_, rfl, _, rfl, p, (q0 :: qr).map V.ref, rfl, SqL.of (by rw [upd_ne (ne_of_none (s3 _ _ hp) hn2)]; exact s3 _ _ hp), fun p2 hp2 => ?_⟩
            have n2p : p2 ≠ n2 := fun e => by rw [e, upd_same] at hp2; cases hp2
            have s4 : Same H (upd (upd H2 n2 (.tup (bV w0))) p2 (.lst (cutV ((q0 :: qr).map V.ref) (some 1) none))) := Same.upd (Same.upd s3 (by
              cases e : H n2 with
              | none => rfl
              | some o => rw [s3 _ _ e] at hn2; cases hn2)) (by
              cases e : H p2 with
              | none => rfl
              | some o =>
                rw [upd_ne n2p, s3 _ _ e] at hp2
                cases hp2)
            refine ⟨w0, wr, p2, n2, rfl, by rw [upd_ne (Ne.symm n2p), upd_same], ⟨qr, by rw [upd_same, List.map_cons, cut_tail], rr.mono fun _ _ z => s4 _ _ z⟩, s4, ?_, fun b hb => small b (List.mem_cons_of_mem _ hb), ?_⟩
            · rw [List.length_cons] at few
              omega
            · unfold mFormed
              rw [if_pos hn]
              show (if Br.nameOk w0 = true then _ else _) = _
              rw [if_pos hm]
          · refine no _ s3 ?_
            unfold mFormed
            rw [if_pos hn]
            show (if Br.nameOk w0 = true then _ else _) = _
            rw [if_neg (by rw [hm]; exact Bool.false_ne_true)]
      · refine ⟨[], ws, p, na, rfl, upd_same, ⟨qs, s0 _ _ hp, hq.mono fun _ _ z => s0 _ _ z⟩, s0, few, small, ?_⟩
        unfold mFormed
        rw [if_neg (by rw [hn]; exact Bool.false_ne_true)]
    · rintro σ H' ⟨nm, ws2, p2, na2, rfl, atN, ⟨q2, hp2, hq2⟩, sH, few2, small2, law⟩
      clear hp hq hna s0
      obtain ⟨bq, tb, ab⟩ := TB.bounds.2
      obtain ⟨bk, ebk, ps, tps, aps⟩ : ∃ bk, bq[k]? = some bk ∧ PairsAt K bk (bnds k) := by
        have hk5 : BOUNDS[k]? = some (bnds k) := by
          match k, hk with
          | 0, _ => rfl
          | 1, _ => rfl
          | 2, _ => rfl
          | 3, _ => rfl
          | 4, _ => rfl
        exact ab.at hk5
      have atB : atI (bq.map V.ref) (k : Int) = some (.ref bk) := atI_nat (by rw [List.getElem?_map, ebk]; rfl)
      have lenP : ps.length = (bnds k).length := aps.len
      have lenQ : q2.length = ws2.length := hq2.len
      refine ⟨_, rfl, p2, rfl, ⟨_, SqL.of hp2⟩, fun D hD => ?_⟩
      refine lc_fn walk_list (fun i => yV (numOf (ws2.getD i []))) hD (by rw [List.length_map, lenQ]; exact Nat.lt_of_le_of_lt few2 (by decide)) (fun H1 s1 => SqL.of (s1 _ _ hp2)) (fun i x H1 H2 Nx Ex lt s1 y kk => ?_) (fun H1 s1 at1 => ?_)
      · obtain ⟨rfl, hx⟩ := y
        obtain ⟨qa, hqa, rfl⟩ := map_at hx
        obtain ⟨wd, hwd, lb⟩ := hq2.atL hqa
        have e : ws2.getD i [] = wd := by simp [List.getD_eq_getElem?_getD, hwd]
        rw [e] at kk
        exact ⟨rfl, tt_yes ⟨_, rfl, qa, wd, rfl, SqL.of (s1 _ _ lb), Nat.le_trans (small2 wd (List.mem_of_getElem? hwd)) (by decide), kk⟩⟩
      · have at2 : H1 D = some (.lst ((ws2.map numOf).map yV)) := by
          rw [at1, List.length_map, lenQ]
          congr 2
          rw [List.map_map]
          exact range_map_get ws2 _ _ fun i x hx => by simp [List.getD_eq_getElem?_getD, hx]
        have sH1 : Same H H1 := sH.trans s1
        have lenN : ((ws2.map numOf).map yV).length = ws2.length := by rw [List.length_map, List.length_map]
        refine ⟨_, rfl, _, _, rfl, .inl ⟨_, SqL.of at2, rfl⟩, _, rfl, ga K "BOUNDS", bq.map V.ref, (k : Int), .ref bk, rfl, rfl, tb.sq _, atB, _, (ps.map V.ref).length, rfl, .inr ⟨_, tps.sq _, rfl⟩, rfl, _, rfl, ?_⟩
        have el : decide (V.int (((ws2.map numOf).map yV).length : Int) = V.int ((ps.map V.ref).length : Int)) = decide (ws2.length = (bnds k).length) := by
          rw [decide_eq_decide, lenN, List.length_map, lenP]
          constructor
          · intro z
            injection z with z
            exact Int.ofNat.inj z
          · intro z
            rw [z]
        rw [el]
        refine iteN (fun h1 => ?_) (fun h1 => ?_)
        rotate_left
        · refine iteT (no H1 sH1 ?_)
          rw [law]
          unfold numsOf
          rw [if_neg (dF h1)]
          rfl
        · have h1 := dT h1
          refine ⟨_, rfl, D, _, rfl, .inl (SqL.of at2), rfl, flat_y _, _, rfl, ?_⟩
          show if (inV .non ((ws2.map numOf).map yV)) = true then _ else _
          rw [inV_none]
          refine ite2b (fun h2 => ?_) (fun h2 => ?_)
          · refine no H1 sH1 ?_
            rw [law]
            unfold numsOf
            rw [if_pos h1, any_none h2]
            rfl
          · obtain ⟨ns, ea, en⟩ := no_none h2
            have lenNs : ns.length = ws2.length := by
              have := congrArg List.length en
              rw [List.length_map, List.length_map] at this
              exact this.symm
            have at3 : H1 D = some (.lst (nsV ns)) := by
              rw [at2, en, List.map_map]
              rfl
            have lenV2 : (nsV ns).length = ns.length := List.length_map ..
            have lenR : (ps.map V.ref).length = (bnds k).length := by rw [List.length_map, lenP]
            have lenM : min (nsV ns).length (ps.map V.ref).length = ns.length := by rw [lenV2, lenR]; omega
            have bnd5 : (bnds k).length ≤ 3 := by
              match k, hk with
              | 0, _ => decide
              | 1, _ => decide
              | 2, _ => decide
              | 3, _ => decide
              | 4, _ => decide
            refine ⟨_, rfl, _, rfl, ga K "BOUNDS", bq.map V.ref, (k : Int), .ref bk, rfl, rfl, tb.sq _, atB, D, bk, nsV ns, ps.map V.ref, rfl, SqL.of at3, tps.sq _, fun D2 hD2 => ?_⟩
            let gn : Nat → Bool := fun i => decide (((bnds k).getD i (0, 0)).1 ≤ ns.getD i 0) && decide (ns.getD i 0 ≤ ((bnds k).getD i (0, 0)).2)
            refine lc_fn walk_pairs (fun i => .bl (gn i)) hD2 (by rw [lenM]; exact Nat.lt_of_le_of_lt (show ns.length ≤ 3 by omega) (by decide)) (fun H2 s2 => ⟨SqL.of (s2 _ _ at3), tps.sq _⟩) (fun i x H2 H3 Nx Ex lt s2 y kk => ?_) (fun H2 s2 atD => ?_)
            · obtain ⟨Tp, x1, y1, rfl, hT, rfl, hx, hy⟩ := y
              obtain ⟨n, hn, rfl⟩ := map_at hx
              obtain ⟨pq, hpq, rfl⟩ := map_at hy
              obtain ⟨bd, hbd, tpq⟩ := aps.atL hpq
              have e1 : ns.getD i 0 = n := by simp [List.getD_eq_getElem?_getD, hn]
              have e2 : (bnds k).getD i (0, 0) = bd := by simp [List.getD_eq_getElem?_getD, hbd]
              have kk2 := kk (upd H2 Tp (.tup [.int (n : Int), .ref pq])) (Same.new hT)
              have kk2 : Nx (.bl (decide (bd.1 ≤ n) && decide (n ≤ bd.2))) (upd H2 Tp (.tup [.int (n : Int), .ref pq])) := by
                have eg : gn i = (decide (bd.1 ≤ n) && decide (n ≤ bd.2)) := by
                  show (decide (((bnds k).getD i (0, 0)).1 ≤ ns.getD i 0) && decide (ns.getD i 0 ≤ ((bnds k).getD i (0, 0)).2)) = _
                  rw [e1, e2]
                rw [eg] at kk2
                exact kk2
              refine ⟨Tp, [.int (n : Int), .ref pq], rfl, SqT.of upd_same, rfl, _, _, rfl, _, _, rfl, pq, _, rfl, tpq.sq _, rfl, _, _, rfl, _, _, rfl, rfl, rfl, rfl, ?_⟩
              refine tt_yes ⟨_, rfl, _, rfl, _, _, rfl, rfl, ?_⟩
              have d1 : decide ((bd.1 : Int) ≤ (n : Int)) = decide (bd.1 ≤ n) := by rw [decide_eq_decide]; omega
              have d2 : decide ((n : Int) ≤ (bd.2 : Int)) = decide (n ≤ bd.2) := by rw [decide_eq_decide]; omega
              show ∃ k, V.bl (decide ((bd.1 : Int) ≤ (n : Int))) = .bl k ∧ _
              rw [d1]
              refine rdk (fun h3 => ⟨_, rfl, _, _, rfl, rfl, ?_⟩) (fun h3 => ?_)
              · show Nx (.bl (decide ((n : Int) ≤ (bd.2 : Int)))) _
                rw [d2]
                rw [h3, Bool.true_and] at kk2
                exact kk2
              · rw [h3, Bool.false_and] at kk2
                exact kk2
            · rw [lenM] at atD
              have sH2 : Same H H2 := sH1.trans s2
              refine ⟨D2, (List.range ns.length).map gn, rfl, SqL.of (by rw [atD, List.map_map]; rfl), _, rfl, ?_⟩
              have eB : ((List.range ns.length).map gn).all id = inB ns (bnds k) := by
                rw [inB_zip ns (bnds k) (by omega)]
                congr 1
                refine List.ext_getElem? fun j => ?_
                rw [List.getElem?_map, List.getElem?_zipWith]
                rcases Nat.lt_or_ge j ns.length with lt | ge
                · have lt2 : j < (bnds k).length := by omega
                  rw [List.getElem?_range lt, List.getElem?_eq_getElem lt, List.getElem?_eq_getElem lt2]
                  show some (gn j) = _
                  show some (decide (((bnds k).getD j (0, 0)).1 ≤ ns.getD j 0) && decide (ns.getD j 0 ≤ ((bnds k).getD j (0, 0)).2)) = _
                  rw [List.getD_eq_getElem?_getD, List.getD_eq_getElem?_getD, List.getElem?_eq_getElem lt, List.getElem?_eq_getElem lt2]
                  rfl
                · rw [List.getElem?_eq_none (by rw [List.length_range]; exact ge), List.getElem?_eq_none ge]
                  rfl
              rw [eB]
              refine iteN (fun h3 => ?_) (fun h3 => ?_)
              · refine ⟨_, rfl, _, rfl, _, rfl, fun x dx hx hdx ne => ⟨x, dx, _, _, _, rfl, upd_same, fun H3 at4 ot => ⟨rfl, ?_⟩⟩⟩
                have s3 : Same H H3 := fun b o hb => by
                  have h2 : H2 b = some o := sH2 _ _ hb
                  rw [ot b (ne_of_none h2 hx), upd_ne (ne_of_none h2 hx), upd_ne (ne_of_none h2 hdx)]
                  exact h2
                have s4 : Same H2 H3 := fun b o h2 => by
                  rw [ot b (ne_of_none h2 hx), upd_ne (ne_of_none h2 hx), upd_ne (ne_of_none h2 hdx)]
                  exact h2
                refine q H3 _ s3 ?_
                rw [law]
                unfold numsOf
                rw [if_pos h1, ea]
                show LineV K H3 _ (((if inB ns (bnds k) = true then some ns else none).map _).map _)
                rw [if_pos h3]
                exact ⟨x, rfl, dx, na2, D, at4, s4 _ _ (s2 _ _ (s1 _ _ atN)), s4 _ _ (s2 _ _ at3)⟩
              · refine no H2 sH2 ?_
                rw [law]
                unfold numsOf
                rw [if_pos h1, ea]
                show (if inB ns (bnds k) = true then some ns else none).map _ = _
                rw [if_neg (by rw [h3]; exact Bool.false_ne_true)]
                rfl
end
end Cl
set_option maxHeartbeats 4000000
namespace Cl
open PySem PySem.Spec PyProof.Rows L2
open He (ga ma)
section
variable {P : Program} {w : World} {K : PySem.W.Frag} {mg : Str → Option Value} {base : Heap}
/-! ### line_of -/
theorem eqv_list (a b : List PyData) : PyData.eqv (.list a) (.list b) = PyData.eqvAll a b := by rw [PyData.eqv]
theorem eqv_tuple (a b : List PyData) : PyData.eqv (.tuple a) (.tuple b) = PyData.eqvAll a b := by rw [PyData.eqv]
theorem word_codes : ∀ i, i < 5 → ∃ z, (WSTR.map V.str)[i]? = some (.str z) ∧ z.cps.size ≤ 1000 ∧ (z.cps.toList.map fun c => V.int (c : Nat)) = bV (WORDS.getD i [])
  | 0, _ => ⟨"recipe", rfl, by decide, rfl⟩
  | 1, _ => ⟨"malt", rfl, by decide, rfl⟩
  | 2, _ => ⟨"hop", rfl, by decide, rfl⟩
  | 3, _ => ⟨"add", rfl, by decide, rfl⟩
  | 4, _ => ⟨"yeast", rfl, by decide, rfl⟩
  | n + 5, h => by omega
theorem kind_step {b : Br.Bytes} : ∀ i, i < 5 → kindFrom i (WORDS.drop i) b = if b = WORDS.getD i [] then some i else kindFrom (i + 1) (WORDS.drop (i + 1)) b
  | 0, _ => rfl
  | 1, _ => rfl
  | 2, _ => rfl
  | 3, _ => rfl
  | 4, _ => rfl
  | n + 5, h => by omega
def spLineOf (K : PySem.W.Frag) : Sp := fun vs H Q _ => ∃ (a : Addr) (b : Br.Bytes), vs = [.ref a] ∧ SqL K H a (bV b) ∧ b.length ≤ 20000 ∧ ∀ H2 v, Same H H2 → LineV K H2 v (mLine b) → Q v H2
theorem sc_line_of : FnScope ["octets", "words", "kind", "word"] ["octets"] (defScope s_line_of) := ⟨rfl, rfl, rfl, by decide +kernel, rfl, by decide +kernel, by decide +kernel⟩
theorem cl_line_of (D : DefAt K mg "line_of" s_line_of) (T : RT K mg) (TB : RTab K mg) (cParted : Callee P w K mg base CX0 1 "parted" (spParted K)) (cCodes : Callee P w K mg base CX0 1 "codes" spCodes)
    (cFormed : Callee P w K mg base CX0 3 "formed" (spFormed K)) : Callee P w K mg base CX0 4 "line_of" (spLineOf K) := by
  obtain ⟨g, fd, F⟩ := D
  refine ⟨⟨fd, ["octets"], g, F.kp, ?_, F.binds fun _ _ _ _ _ _ us hl => match us, hl with | [_], _ => rfl⟩⟩
  refine F.ok sc_line_of (fun vs H Q E h => ?_) (fun cdv A outer s H vs Q E hr h => ?_)
  · obtain ⟨a, b, rfl, _⟩ := h
    rfl
  · refine ⟨_, pss_cons (ps_set (i := 1) sc_line_of.nd rfl (Or.inl rfl) (pe_cl (E := E0) cParted hr (by decide) (by rfl) pass0 (pa_cons (pv 0) (pa_cons (pe_num (by rfl) T.BLANK) pa_nil))))
      (pss_cons (ps_for PassesOwn.never rfl (pi_enumT (by rfl) T.enumerate (pa_cons (pe_obj (by rfl) TB.words.1) pa_nil)) (pg_tup rfl (pgs_cons (pg_name (i := 2) sc_line_of.nd rfl (Or.inl rfl)) (pgs_cons (pg_name (i := 3) sc_line_of.nd rfl (Or.inl rfl)) pgs_nil)))
        (pss_one (ps_if (pt_cmpR (op_eqD hr.units) (pe_ix ix_list (pv 1) pe_int (fun _ _ => rfl)) (pe_cl (E := E0) cCodes hr (by decide) (by rfl) pass0 (pa_cons (pv 3) pa_nil)) (nomark _))
          (pss_one (ps_ret (pe_cl (E := E0) cFormed hr (Nat.le_refl _) (by rfl) pass0 (pa_cons (pv 2) (pa_cons (pe_slice sl_list (pv 1) (po_some pe_int) po_none) pa_nil))))) pss_nil)))
      (pss_one (ps_ret pe_non))), ?_⟩
    obtain ⟨a, b, rfl, hs, few, q⟩ := h
    refine ⟨_, rfl, a, b, 32, rfl, hs, by omega, fun H1 p s1 lp => ?_⟩
    obtain ⟨qs, hp, hq, _⟩ := lp
    obtain ⟨w0, wr, ec⟩ : ∃ w0 wr, Br.cutAt 32 b = w0 :: wr := by
      cases e : Br.cutAt 32 b with
      | nil => exact absurd e (cut_ne 32 b)
      | cons w0 wr => exact ⟨w0, wr, rfl⟩
    have cl := cut_len 32 b
    have cs := cut_small 32 b
    rw [ec] at hq cl cs
    cases hq with
    | @cons q0 _ qr _ r0 rr =>
    have em : mLine b = match kindOf w0 with
      | none => none
      | some k => (mFormed k wr).map fun x => (k, x.1, x.2) := by
      unfold mLine
      rw [ec]
      rfl
    refine ⟨ga K "WORDS", WSTR.map V.str, rfl, TB.words.2.sq _, ?_⟩
    refine for_it walk_pairs (fun i σ H2 => ∃ (v2 v3 : Option V), σ = [some (.ref a), some (.ref p), v2, v3] ∧ Same H1 H2 ∧ kindOf w0 = kindFrom i (WORDS.drop i) w0) ⟨none, none, rfl, Same.refl _, rfl⟩ (fun i σ H2 _ _ => TB.words.2.sq _) ?_ ?_
    · rintro i x σ H2 H3 hi ⟨v2, v3, rfl, s2, kd⟩ ⟨Tp, x1, y1, rfl, hT, rfl, hx, hy⟩
      have hi : i < 5 := hi
      obtain ⟨z, hz, few2, ez⟩ := word_codes i hi
      have hy : (WSTR.map V.str)[i]? = some y1 := hy
      rw [hz] at hy
      cases hy
      cases hx
      rw [kind_step i hi] at kd
      have s3 : Same H1 (upd H2 Tp (.tup [.int ((i : Nat) : Int), .str z])) := Same.upd s2 (by
        cases e : H1 Tp with
        | none => rfl
        | some o => rw [s2 _ _ e] at hT; cases hT)
      refine ⟨Tp, _, rfl, SqT.of upd_same, rfl, _, _, rfl, _, _, rfl, rfl, ?_⟩
      refine ⟨_, rfl, p, (q0 :: qr).map V.ref, 0, .ref q0, rfl, rfl, SqL.of (s3 _ _ hp), atI_nat (j := 0) rfl, _, rfl, z, rfl, few2, fun H4 c s4 hc => ?_⟩
      have s5 : Same H1 H4 := s3.trans s4
      rw [ez] at hc
      refine ⟨.list (bD w0), .list (bD (WORDS.getD i [])), .lst (SqL.of (s5 _ _ r0)) (dpAll_bytes _), .lst (SqL.of hc) (dpAll_bytes _), shaped_list (lay_bytes _) (by rw [depth_bytes]; omega), shaped_list (lay_bytes _) (by rw [depth_bytes]; omega), _, rfl, ?_⟩
      rw [eqv_list, eqv_bytes]
      refine ite2b (fun h1 => ?_) (fun h1 => ?_)
      · rw [if_pos (dT h1)] at kd
        refine ⟨_, rfl, _, rfl, _, rfl, p, (q0 :: qr).map V.ref, rfl, SqL.of (s5 _ _ hp), fun p2 hp2 => ?_⟩
        have s6 : Same H4 (upd H4 p2 (.lst (cutV ((q0 :: qr).map V.ref) (some 1) none))) := Same.new hp2
        have s7 : Same H1 (upd H4 p2 (.lst (cutV ((q0 :: qr).map V.ref) (some 1) none))) := s5.trans s6
        refine ⟨i, p2, wr, rfl, by omega, ⟨qr, by rw [upd_same, List.map_cons, cut_tail], rr.mono fun _ _ z => s7 _ _ z⟩, by rw [List.length_cons] at cl; omega, fun x hx => Nat.le_trans (cs x (List.mem_cons_of_mem _ hx)) few, fun H5 v s8 lv => ?_⟩
        refine q H5 v (s1.trans (s7.trans s8)) ?_
        rw [em, kd]
        exact lv
      · rw [if_neg (dF h1)] at kd
        exact ⟨_, _, rfl, s5, kd⟩
    · rintro σ H2 ⟨v2, v3, rfl, s2, kd⟩
      refine q H2 _ (s1.trans s2) ?_
      rw [em, kd]
      rfl
end
end Cl
set_option maxHeartbeats 4000000
namespace Cl
open PySem PySem.Spec PyProof.Rows L2
open He (ga ma)
/-- the classes of plain objects -/
structure KS (K : PySem.W.Frag) (mg : Str → Option Value) : Prop where
  th : Kl K mg "Thing" ["name", "numbers"]
  rc : Kl K mg "Recipe" ["things", "yeast"]
  ln : Kl K mg "Line" ["kind", "name", "numbers"]
  rd : Kl K mg "Reader" ["recipe", "last"]
def sel (j : Nat) (t0 t1 t2 : List (Br.Bytes × List Nat)) : List (Br.Bytes × List Nat) := [t0, t1, t2].getD j []
theorem RecAt.at {K : PySem.W.Frag} {H : Hp} {a : Addr} {t0 t1 t2 : List (Br.Bytes × List Nat)} {y : Option Nat} {dx th l0 l1 l2 : Addr} (R : RecAt K H a t0 t1 t2 y dx th l0 l1 l2) : ∀ j, j < 3 → ∃ l, [V.ref l0, V.ref l1, V.ref l2][j]? = some (.ref l) ∧ ThingsAt K H l (sel j t0 t1 t2)
  | 0, _ => ⟨l0, rfl, R.m0⟩
  | 1, _ => ⟨l1, rfl, R.m1⟩
  | 2, _ => ⟨l2, rfl, R.m2⟩
  | n + 3, h => by omega
/-! ### data of names -/
def nmD (b : Br.Bytes) : PyData := .tuple (bD b)
def kyD (p : Br.Bytes × Nat) : PyData := .tuple [nmD p.1, .int (p.2 : Int)]
theorem nm_eqv (a b : Br.Bytes) : PyData.eqv (nmD a) (nmD b) = decide (a = b) := by
  unfold nmD
  rw [eqv_tuple, eqv_bytes]
theorem ky_eqv (a b : Br.Bytes × Nat) : PyData.eqv (kyD a) (kyD b) = (decide (a.1 = b.1) && decide (a.2 = b.2)) := by
  unfold kyD
  rw [eqv_tuple, PyData.eqvAll, PyData.eqvAll, PyData.eqvAll, nm_eqv, Bool.and_true]
  congr 1
  rw [PyData.eqv, Bool.beq_eq_decide_eq, decide_eq_decide]
  exact ⟨fun h => Int.ofNat.inj h, fun h => by rw [h]⟩
theorem nm_lay (b : Br.Bytes) : PyData.canLay0 (nmD b) = true := by
  unfold nmD
  rw [PyData.canLay0]
  exact lay_bytes b
theorem nm_depth (b : Br.Bytes) : PyData.depth (nmD b) ≤ 1 := by
  unfold nmD
  rw [PyData.depth, depth_bytes]
  omega
theorem ky_lay (p : Br.Bytes × Nat) : PyData.canLay0 (kyD p) = true := by
  unfold kyD
  simp [PyData.canLay0, PyData.canLayAll0, nm_lay]
theorem ky_depth (p : Br.Bytes × Nat) : PyData.depth (kyD p) ≤ 2 := by
  have := nm_depth p.1
  unfold kyD
  simp [PyData.depth, PyData.depthAll]
  omega
theorem lays {α : Type} (f : α → PyData) (h : ∀ x, PyData.canLay0 (f x) = true) : ∀ l : List α, PyData.canLayAll0 (l.map f) = true
  | [] => by simp [PyData.canLayAll0]
  | x :: r => by
    have ih := lays f h r
    simp [PyData.canLayAll0, ih, h]
theorem depths {α : Type} (f : α → PyData) (n : Nat) (h : ∀ x, PyData.depth (f x) ≤ n) : ∀ l : List α, PyData.depthAll (l.map f) ≤ n
  | [] => by simp [PyData.depthAll]
  | x :: r => by
    have ih := depths f n h r
    have h0 := h x
    simp [PyData.depthAll]
    omega
theorem shapedL {α : Type} (f : α → PyData) (n : Nat) (hn : n ≤ 60) (hl : ∀ x, PyData.canLay0 (f x) = true) (hd : ∀ x, PyData.depth (f x) ≤ n) (l : List α) : SeqAt.shaped (.list (l.map f)) = true := shaped_list (lays f hl l) (Nat.le_trans (depths f n hd l) hn)
theorem shaped1 {d : PyData} {n : Nat} (hn : n ≤ 60) (h1 : PyData.canLay0 d = true) (h2 : PyData.depth d ≤ n) : SeqAt.shaped d = true := by
  show (PyData.canLay0 d && decide (PyData.depth d ≤ 64)) = true
  rw [h1, Bool.true_and]
  exact decide_eq_true (by omega)
theorem dpAll_of {K : PySem.W.Frag} {H : Hp} : ∀ {ys : List V} {ds : List PyData}, ys.length = ds.length → (∀ (i : Nat) v d, ys[i]? = some v → ds[i]? = some d → Dp K H v d) → DpAll K H ys ds
  | [], [], _, _ => .nil
  | [], _ :: _, h, _ => by cases h
  | _ :: _, [], h, _ => by cases h
  | v :: vs, d :: ds, h, a => .cons (a 0 v d rfl rfl) (dpAll_of (by simpa using h) fun i x y hx hy => a (i + 1) x y (by simpa using hx) (by simpa using hy))
theorem Dp.nm {K : PySem.W.Frag} {H : Hp} {a : Addr} {b : Br.Bytes} (h : H a = some (.tup (bV b))) : Dp K H (.ref a) (nmD b) := .tup (SqT.of h) (dpAll_bytes b)
section
variable {P : Program} {w : World} {K : PySem.W.Frag} {mg : Str → Option Value} {base : Heap}
/-! ### can_stand -/
def spCan (K : PySem.W.Frag) : Sp := fun vs H Q _ => ∃ (s rc dr ln : Addr) (last : Int) (x : Nat × Br.Bytes × List Nat), vs = [.ref s, .ref ln] ∧ ReadAt K H s rc dr last ∧ LineAt K H ln x ∧ Q (.bl (canStand (x.1 : Int) last)) H
theorem sc_can_stand : FnScope ["self", "line"] ["self", "line"] (defScope s_Reader_can_stand) := ⟨rfl, rfl, rfl, by decide +kernel, rfl, by decide +kernel, by decide +kernel⟩
theorem mt_can_stand (M : MethAt K "Reader" "can_stand" "Reader.can_stand" s_Reader_can_stand) (T : RT K mg) (C : KS K mg) : Methd P w K mg base CX0 1 "Reader" "can_stand" (spCan K) := by
  obtain ⟨g, fd, F⟩ := M
  refine ⟨⟨fd, ["self", "line"], g, ?_, F.binds fun _ _ _ _ _ _ us hl => match us, hl with | [_, _], _ => rfl⟩⟩
  refine F.ok sc_can_stand (fun vs H Q E h => ?_) (fun cdv A outer s H vs Q E hr h => ?_)
  · obtain ⟨s, rc, dr, ln, last, x, rfl, _⟩ := h
    rfl
  · refine ⟨_, pss_cons (ps_if (PW.pt (pw_or (pt_cmpR op_eq (pe_fld (pv 1) (by rfl)) (pe_num (by rfl) T.RECIPE_LINE) (nomark _)) (pw_or1 (pt_cmpR op_lt (pe_fld (pv 0) (by rfl)) (pe_num (by rfl) T.MALT_LINE) (nomark _)))))
        (pss_one (ps_ret (pe_cmpR op_eq (pe_fld (pv 1) (by rfl)) (pe_op op_add (pe_fld (pv 0) (by rfl)) pe_int) (nomark _)))) pss_nil)
      (pss_one (ps_ret (pe_and (pe_cmpR op_lt (pe_fld (pv 0) (by rfl)) (pe_num (by rfl) T.YEAST_LINE) (nomark _)) (pe_one (pe_cmpR op_ge (pe_fld (pv 1) (by rfl)) (pe_fld (pv 0) (by rfl)) (nomark _)))))), ?_⟩
    obtain ⟨s, rc, dr, ln, last, x, rfl, hs, hl, q⟩ := h
    obtain ⟨dl, na, nu, at1, at2, at3⟩ := hl
    have hs : H s = some (.ins (cReader K) dr [(("recipe" : Str), .ref rc), (("last" : Str), .int last)]) := hs
    have one : (x.1 : Int) = 0 ∨ last < 1 → ∃ k, V.bl (decide (V.int (x.1 : Int) = V.int (last + 1))) = .bl k ∧ True := fun _ => ⟨_, rfl, trivial⟩
    have e2 : decide (V.int (x.1 : Int) = V.int (last + 1)) = decide ((x.1 : Int) = last + 1) := by
      rw [decide_eq_decide]
      exact ⟨fun z => by injection z, fun z => by rw [z]⟩
    have ret1 : (x.1 : Int) = 0 ∨ last < 1 → Q (.bl (decide (V.int (x.1 : Int) = V.int (last + 1)))) H := fun h => by
      rw [e2]
      unfold canStand at q
      rw [if_pos h] at q
      exact q
    refine ⟨_, rfl, ln, cLine K, dl, _, _, rfl, at1, C.ln.c, C.ln.n _ (by simp), rfl, rfl, _, rfl, ?_⟩
    have e1 : decide (V.int (x.1 : Int) = V.int 0) = decide ((x.1 : Int) = 0) := by
      rw [decide_eq_decide]
      exact ⟨fun z => by injection z, fun z => by rw [z]⟩
    rw [e1]
    have go : (x.1 : Int) = 0 ∨ last < 1 → tRet (tOp rEq (tFld K (tVar 1) "kind") (tOp (rI0 fun i j => .int (i + j)) (tFld K (tVar 0) "last") (tC (.int 1)))) { nx := fun _ H' => Q .non H', rt := Q } (start ["self", "line"] [.ref s, .ref ln]) H := fun h =>
      ⟨_, rfl, ln, cLine K, dl, _, _, rfl, at1, C.ln.c, C.ln.n _ (by simp), rfl, _, rfl, s, cReader K, dr, _, _, rfl, hs, C.rd.c, C.rd.n _ (by simp), rfl, _, _, rfl, rfl, rfl, ret1 h⟩
    refine ite2b (fun h1 => go (.inl (dT h1))) (fun h1 => ?_)
    refine ⟨_, rfl, s, cReader K, dr, _, _, rfl, hs, C.rd.c, C.rd.n _ (by simp), rfl, _, _, rfl, rfl, _, rfl, ?_⟩
    refine ite2b (fun h2 => go (.inr (dT h2))) (fun h2 => ?_)
    have h1 := dF h1
    have h2 := dF h2
    unfold canStand at q
    rw [if_neg (fun z => z.elim h1 h2)] at q
    refine ⟨_, rfl, s, cReader K, dr, _, _, rfl, hs, C.rd.c, C.rd.n _ (by simp), rfl, _, _, rfl, rfl, rdk (fun h3 => ?_) (fun h3 => ?_)⟩
    · refine ⟨_, rfl, ln, cLine K, dl, _, _, rfl, at1, C.ln.c, C.ln.n _ (by simp), rfl, _, rfl, s, cReader K, dr, _, _, rfl, hs, C.rd.c, C.rd.n _ (by simp), rfl, _, _, rfl, rfl, ?_⟩
      rw [show decide (last < 4) = true from h3, Bool.true_and] at q
      exact q
    · rw [show decide (last < 4) = false from h3, Bool.false_and] at q
      exact q
end
end Cl
set_option maxHeartbeats 4000000
namespace Cl
open PySem PySem.Spec PyProof.Rows L2
open He (ga ma)
section
variable {P : Program} {w : World} {K : PySem.W.Frag} {mg : Str → Option Value} {base : Heap}
/-! ### does_clash -/
def lastOver (ts : List (Br.Bytes × List Nat)) (c : Nat) : Bool := match ts.getLast? with
  | none => false
  | some t => decide (third t.2 < c)
def Hopish (x : List Nat) : Prop := ∃ a b c, x = [a, b, c]
def spClash (K : PySem.W.Frag) : Sp := fun vs H Q _ => ∃ (s rc dr ln : Addr) (last : Int) (x : Nat × Br.Bytes × List Nat) (t0 t1 t2 : List (Br.Bytes × List Nat)) (y : Option Nat) (dx th l0 l1 l2 : Addr), vs = [.ref s, .ref ln] ∧ ReadAt K H s rc dr last ∧ LineAt K H ln x ∧
  RecAt K H rc t0 t1 t2 y dx th l0 l1 l2 ∧ 1 ≤ x.1 ∧ x.1 ≤ 3 ∧ (x.1 = 2 → Hopish x.2.2 ∧ ∀ t ∈ t1, Hopish t.2) ∧ (sel (x.1 - 1) t0 t1 t2).length ≤ 20000 ∧ ∀ H2, Same H H2 → Q (.bl (clash (sel (x.1 - 1) t0 t1 t2) x.1 x.2.1 x.2.2)) H2
theorem sc_does_clash : FnScope ["self", "line", "some", "minutes", "thing"] ["self", "line"] (defScope s_Reader_does_clash) := ⟨rfl, rfl, rfl, by decide +kernel, rfl, by decide +kernel, by decide +kernel⟩
theorem any_nm (ts : List (Br.Bytes × List Nat)) (n : Br.Bytes) : ((ts.map fun t => nmD t.1).any fun z => PyData.eqv z (nmD n)) = ts.any fun t => decide (t.1 = n) := by
  rw [List.any_map]
  congr 1
  funext t
  exact nm_eqv t.1 n
theorem any_ky (ts : List (Br.Bytes × List Nat)) (n : Br.Bytes) (m : Nat) : ((ts.map fun t => kyD (t.1, third t.2)).any fun z => PyData.eqv z (kyD (n, m))) = ts.any fun t => decide (t.1 = n) && decide (third t.2 = m) := by
  rw [List.any_map]
  congr 1
  funext t
  exact ky_eqv (t.1, third t.2) (n, m)
theorem mt_does_clash (M : MethAt K "Reader" "does_clash" "Reader.does_clash" s_Reader_does_clash) (T : RT K mg) (C : KS K mg) : Methd P w K mg base CX0 1 "Reader" "does_clash" (spClash K) := by
  obtain ⟨g, fd, F⟩ := M
  refine ⟨⟨fd, ["self", "line"], g, ?_, F.binds fun _ _ _ _ _ _ us hl => match us, hl with | [_, _], _ => rfl⟩⟩
  refine F.ok sc_does_clash (fun vs H Q E h => ?_) (fun cdv A outer s H vs Q E hr h => ?_)
  · obtain ⟨s, rc, dr, ln, last, x, t0, t1, t2, y, dx, th, l0, l1, l2, rfl, _⟩ := h
    rfl
  · have u65 : (A.deeper (envOfC "Reader.does_clash" (defScope s_Reader_does_clash) s.heap.objs.size (ma K (ga K "Reader") "does_clash") cdv)).units + 65 < PySem.cLine := by have := hr.un; omega
    refine ⟨_, pss_cons (ps_set (i := 2) sc_does_clash.nd rfl (Or.inl rfl) (pe_ix ix_list (pe_fld (pe_fld (pv 0) (by rfl)) (by rfl)) (pe_op op_sub (pe_fld (pv 1) (by rfl)) (pe_num (by rfl) T.MALT_LINE)) (fun _ _ => rfl)))
      (pss_cons (ps_if (pt_cmpR op_ne (pe_fld (pv 1) (by rfl)) (pe_num (by rfl) T.HOP_LINE) (nomark _))
        (pss_one (ps_ret (pe_cmpR (op_inD u65) (pe_fld (pv 1) (by rfl)) (pe_lc (own := [("thing", 4)]) (g := gName 4) (tt := tYes) (te := tFld K (tVar 4) "name") rfl sc_does_clash.nd (pi_list (pv 2)) (blkOk_by (N := ["self", "line", "some", "minutes", "thing"]) (sc := defScope s_Reader_does_clash) (by decide +kernel))
          (fun _ _ _ _ _ => pg_name (i := 4) sc_does_clash.nd rfl (Or.inl rfl)) (fun _ _ _ _ _ => pts_nil) (fun _ _ _ _ _ => pe_fld (pv 4) (by rfl))) (by rfl)))) pss_nil)
      (pss_cons (ps_set (i := 3) sc_does_clash.nd rfl (Or.inl rfl) (pe_ix ix_list (pe_fld (pv 1) (by rfl)) pe_int (fun _ _ => rfl)))
      (C8.pss_cut (ps_if (PW.pt (pw_and (pt_cmpR (op_neNil hr.units) (pv 2) (pe_lst pa_nil) (nomark _)) (pw_and1 (pt_cmpR op_gt (pv 3) (pe_ix ix_list (pe_fld (pe_ix ix_list (pv 2) (pe_un un_neg pe_int) (fun _ _ => rfl)) (by rfl)) pe_int (fun _ _ => rfl)) (nomark _)))))
        (pss_one (ps_ret pe_bl)) pss_nil)
      (pss_one (ps_ret (pe_cmpR (op_inD u65) (pe_tup (pa_cons (pe_fld (pv 1) (by rfl)) (pa_cons (pv 3) pa_nil))) (pe_lc (own := [("thing", 4)]) (g := gName 4) (tt := tYes) (te := tTup (tCons (tFld K (tVar 4) "name") (tCons (tOp (rIxL K) (tFld K (tVar 4) "numbers") (tC (.int 2))) tNil))) rfl sc_does_clash.nd (pi_list (pv 2)) (blkOk_by (N := ["self", "line", "some", "minutes", "thing"]) (sc := defScope s_Reader_does_clash) (by decide +kernel))
          (fun _ _ _ _ _ => pg_name (i := 4) sc_does_clash.nd rfl (Or.inl rfl)) (fun _ _ _ _ _ => pts_nil) (fun _ _ _ _ _ => pe_tup (pa_cons (pe_fld (pv 4) (by rfl)) (pa_cons (pe_ix ix_list (pe_fld (pv 4) (by rfl)) pe_int (fun _ _ => rfl)) pa_nil)))) (by rfl))))))), ?_⟩
    obtain ⟨s, rc, dr, ln, last, x, t0, t1, t2, y, dx, th, l0, l1, l2, rfl, hs, hl, R, k1, k3, hop, few, q⟩ := h
    obtain ⟨dl, na, nu, at1, at2, at3⟩ := hl
    have hs : H s = some (.ins (cReader K) dr [(("recipe" : Str), .ref rc), (("last" : Str), .int last)]) := hs
    obtain ⟨l, el, qs, hl, aq⟩ := R.at (x.1 - 1) (by omega)
    have lenQ : qs.length = (sel (x.1 - 1) t0 t1 t2).length := aq.len
    refine ⟨_, rfl, s, cReader K, dr, _, _, rfl, hs, C.rd.c, C.rd.n _ (by simp), rfl, rc, cRecipe K, dx, _, _, rfl, R.ob, C.rc.c, C.rc.n _ (by simp), rfl, _, rfl, ln, cLine K, dl, _, _, rfl, at1, C.ln.c, C.ln.n _ (by simp), rfl, _, _, rfl, rfl, ?_⟩
    refine ⟨th, _, ((x.1 - 1 : Nat) : Int), .ref l, rfl, ?_, SqL.of R.th, atI_nat el, ?_⟩
    · show V.int ((x.1 : Int) - 1) = V.int ((x.1 - 1 : Nat) : Int)
      congr 1
      omega
    refine ⟨_, rfl, ln, cLine K, dl, _, _, rfl, at1, C.ln.c, C.ln.n _ (by simp), rfl, rfl, _, rfl, ?_⟩
    have e2 : decide (V.int (x.1 : Int) = V.int 2) = decide (x.1 = 2) := by
      rw [decide_eq_decide]
      exact ⟨fun z => by injection z with z; omega, fun z => by rw [z]; rfl⟩
    rw [e2]
    have thing : ∀ (H1 : Hp) (i : Nat) (t : V), Same H H1 → (qs.map V.ref)[i]? = some t → ∃ (q0 d0 n0 u0 : Addr) (t0' : Br.Bytes × List Nat), t = V.ref q0 ∧ (sel (x.1 - 1) t0 t1 t2)[i]? = some t0' ∧ H1 q0 = some (.ins (cThing K) d0 [(("name" : Str), .ref n0), (("numbers" : Str), .ref u0)]) ∧ H1 n0 = some (.tup (bV t0'.1)) ∧ H1 u0 = some (.lst (nsV t0'.2)) := fun H1 i t s1 ht => by
      obtain ⟨q0, h0, rfl⟩ := map_at ht
      obtain ⟨t0', h1, d0, n0, u0, a1, a2, a3⟩ := aq.atL h0
      exact ⟨q0, d0, n0, u0, t0', rfl, h1, s1 _ _ a1, s1 _ _ a2, s1 _ _ a3⟩
    refine iteN (fun h1 => ?_) (fun h1 => ?_)
    · -- a hop
      have h1 := dT h1
      obtain ⟨⟨ca, cb, cc, ex⟩, hts⟩ := hop h1
      have es : sel (x.1 - 1) t0 t1 t2 = t1 := by rw [h1]; rfl
      rw [es] at aq lenQ few q thing
      have hc : (nsV x.2.2)[2]? = some (.int (cc : Int)) := by rw [ex]; rfl
      have thd : third x.2.2 = cc := by rw [ex]; rfl
      refine ⟨_, rfl, ln, cLine K, dl, _, _, rfl, at1, C.ln.c, C.ln.n _ (by simp), rfl, nu, nsV x.2.2, 2, .int (cc : Int), rfl, rfl, SqL.of at3, atI_nat (j := 2) hc, ?_⟩
      unfold clash at q
      rw [if_neg (fun z => z h1), thd] at q
      have q : ∀ H2, Same H H2 → Q (.bl (lastOver t1 cc || t1.any fun t => decide (t.1 = x.2.1) && decide (third t.2 = cc))) H2 := q
      refine ⟨fun σ H1 => σ = [some (.ref s), some (.ref ln), some (.ref l), some (.int (cc : Int)), none] ∧ Same H H1 ∧ lastOver t1 cc = false, ?_, ?_⟩
      · refine ⟨_, rfl, by show 0 ≤ sizeLine; decide, fun e0 he0 => ?_⟩
        have s1 : Same H (upd H e0 (.lst [])) := Same.new he0
        refine ⟨l, e0, qs.map V.ref, rfl, rfl, SqL.of (s1 _ _ hl), SqL.of upd_same, _, rfl, ?_⟩
        cases eg : t1.getLast? with
        | none =>
          have e1 : t1 = [] := List.getLast?_eq_none_iff.mp eg
          have e3 : qs = [] := List.eq_nil_of_length_eq_zero (by rw [lenQ, e1]; rfl)
          rw [e3]
          refine iteF ?_
          exact ⟨rfl, s1, by unfold lastOver; rw [eg]⟩
        | some t =>
          have e1 : t1[t1.length - 1]? = some t := by rw [← List.getLast?_eq_getElem?]; exact eg
          obtain ⟨ql, e3, d0, n0, u0, a1, a2, a3⟩ := aq.at e1
          have e4 : (qs.map V.ref).getLast? = some (.ref ql) := by
            rw [List.getLast?_map, List.getLast?_eq_getElem?, lenQ, e3]
            rfl
          obtain ⟨pre, e5⟩ := List.getLast?_eq_some_iff.mp e4
          obtain ⟨ta, tb, tc, e6⟩ := hts t (List.mem_of_getElem? e1)
          have hc2 : (nsV t.2)[2]? = some (.int (tc : Int)) := by rw [e6]; rfl
          have thd2 : third t.2 = tc := by rw [e6]; rfl
          have ne : (qs.map V.ref).isEmpty = false := by rw [e5]; cases pre <;> rfl
          show if (!(qs.map V.ref).isEmpty) = true then _ else _
          rw [ne]
          refine iteT ?_
          refine ⟨_, rfl, _, rfl, _, rfl, l, qs.map V.ref, -1, .ref ql, rfl, rfl, SqL.of (s1 _ _ hl), by rw [e5]; exact atI_last _ _, ql, cThing K, d0, _, _, rfl, s1 _ _ a1, C.th.c, C.th.n _ (by simp), rfl, u0, nsV t.2, 2, .int (tc : Int), rfl, rfl, SqL.of (s1 _ _ a3), atI_nat (j := 2) hc2, _, _, rfl, rfl, _, rfl, ?_⟩
          have e7 : decide ((tc : Int) < (cc : Int)) = decide (third t.2 < cc) := by rw [thd2, decide_eq_decide]; omega
          show if decide ((tc : Int) < (cc : Int)) = true then _ else _
          rw [e7]
          refine ite2b (fun h2 => ?_) (fun h2 => ?_)
          · have q2 := q _ s1
            unfold lastOver at q2
            rw [eg] at q2
            have q2 : Q (.bl (decide (third t.2 < cc) || t1.any fun t => decide (t.1 = x.2.1) && decide (third t.2 = cc))) _ := q2
            rw [h2, Bool.true_or] at q2
            exact q2
          · exact ⟨rfl, s1, by unfold lastOver; rw [eg]; exact h2⟩
      · rintro σ H1 ⟨rfl, s1, fst⟩
        rw [fst, Bool.false_or] at q
        refine ⟨_, rfl, ln, cLine K, dl, _, _, rfl, s1 _ _ at1, C.ln.c, C.ln.n _ (by simp), rfl, _, rfl, by show 2 ≤ sizeLine; decide, fun tp htp => ?_⟩
        have s2 : Same H (upd H1 tp (.tup [.ref na, .int (cc : Int)])) := Same.upd s1 (by
          cases e : H tp with
          | none => rfl
          | some o => rw [s1 _ _ e] at htp; cases htp)
        refine ⟨_, rfl, l, rfl, ⟨_, SqL.of (s2 _ _ hl)⟩, fun D hD => ?_⟩
        refine lc_res walk_list (fun i v H1 => ∃ (T a : Addr) (t : Br.Bytes × List Nat), t1[i]? = some t ∧ v = .ref T ∧ H1 T = some (.tup [.ref a, .int ((third t.2 : Nat) : Int)]) ∧ H1 a = some (.tup (bV t.1))) hD (by rw [List.length_map, lenQ]; exact Nat.lt_of_le_of_lt few (by decide))
          (fun i v H1 H2 ⟨T, a, t, e1, e2, e3, e4⟩ s => ⟨T, a, t, e1, e2, s _ _ e3, s _ _ e4⟩) (fun H1 s3 => SqL.of (s3 _ _ (s2 _ _ hl))) (fun i v H3 H4 Nx Ex lt s3 ⟨acc, atD⟩ y kk => ?_) (fun H3 ys s3 atD len all => ?_)
        · obtain ⟨rfl, hx⟩ := y
          obtain ⟨q0, d0, n0, u0, t, rfl, ht, a1, a2, a3⟩ := thing _ _ _ (s2.trans s3) hx
          obtain ⟨ta, tb, tc, e6⟩ := hts t (List.mem_of_getElem? ht)
          have hc2 : (nsV t.2)[2]? = some (.int (tc : Int)) := by rw [e6]; rfl
          have thd2 : third t.2 = tc := by rw [e6]; rfl
          refine ⟨rfl, tt_yes ⟨_, rfl, q0, cThing K, d0, _, _, rfl, a1, C.th.c, C.th.n _ (by simp), rfl, _, rfl, q0, cThing K, d0, _, _, rfl, a1, C.th.c, C.th.n _ (by simp), rfl, u0, nsV t.2, 2, .int (tc : Int), rfl, rfl, SqL.of a3, atI_nat (j := 2) hc2, by show 2 ≤ sizeLine; decide, fun T hT => ?_⟩⟩
          refine kk _ _ (Same.new hT) ⟨T, n0, t, ht, rfl, off_new (by rw [upd_same, thd2]) fun o ho e => ?_, off_new (by rw [upd_ne (ne_of_none a2 hT)]; exact a2) fun o ho e => ?_⟩
          · rw [e] at hT
            rw [hT] at atD
            cases atD
          · rw [e] at a2
            rw [atD] at a2
            cases a2
        · refine ⟨kyD (x.2.1, cc), t1.map fun t => kyD (t.1, third t.2), .tup (SqT.of (s3 _ _ upd_same)) (.cons (Dp.nm (s3 _ _ (s2 _ _ at2))) (.cons (.int _) .nil)), .lst (SqL.of atD) (dpAll_of (by rw [len, List.length_map, List.length_map, lenQ]) fun i v d hv hd => ?_), shaped1 (n := 2) (by decide) (ky_lay _) (ky_depth _),
            shapedL (fun t : Br.Bytes × List Nat => kyD (t.1, third t.2)) 2 (by decide) (fun t => ky_lay _) (fun t => ky_depth _) _, ?_⟩
          · obtain ⟨T, a, t, e1, rfl, e3, e4⟩ := all i v hv
            rw [List.getElem?_map, e1] at hd
            cases hd
            exact .tup (SqT.of (off_at e3)) (.cons (Dp.nm (off_at e4)) (.cons (.int _) .nil))
          · rw [any_ky]
            exact q H3 (s2.trans s3)
    · have h1 := dF h1
      refine ⟨_, rfl, ln, cLine K, dl, _, _, rfl, at1, C.ln.c, C.ln.n _ (by simp), rfl, _, rfl, l, rfl, ⟨_, SqL.of hl⟩, fun D hD => ?_⟩
      refine lc_res walk_list (fun i v H1 => ∃ (a : Addr) (t : Br.Bytes × List Nat), (sel (x.1 - 1) t0 t1 t2)[i]? = some t ∧ v = .ref a ∧ H1 a = some (.tup (bV t.1))) hD (by rw [List.length_map, lenQ]; exact Nat.lt_of_le_of_lt few (by decide)) (fun i v H1 H2 ⟨a, t, e1, e2, e3⟩ s => ⟨a, t, e1, e2, s _ _ e3⟩) (fun H1 s1 => SqL.of (s1 _ _ hl))
        (fun i v H1 H2 Nx Ex lt s1 ⟨acc, atD⟩ y kk => ?_) (fun H1 ys s1 atD len all => ?_)
      · obtain ⟨rfl, hx⟩ := y
        obtain ⟨q0, d0, n0, u0, t, rfl, ht, a1, a2, a3⟩ := thing _ _ _ s1 hx
        refine ⟨rfl, tt_yes ⟨_, rfl, q0, cThing K, d0, _, _, rfl, a1, C.th.c, C.th.n _ (by simp), rfl, kk _ _ (Same.refl _) ⟨n0, t, ht, rfl, off_new a2 fun o ho e => ?_⟩⟩⟩
        rw [e] at a2
        rw [atD] at a2
        cases a2
      · refine ⟨nmD x.2.1, (sel (x.1 - 1) t0 t1 t2).map fun t => nmD t.1, Dp.nm (s1 _ _ at2), .lst (SqL.of atD) (dpAll_of (by rw [len, List.length_map, List.length_map, lenQ]) fun i v d hv hd => ?_), shaped1 (n := 1) (by decide) (nm_lay _) (nm_depth _), shapedL (fun t : Br.Bytes × List Nat => nmD t.1) 1 (by decide) (fun t => nm_lay t.1) (fun t => nm_depth t.1) _, ?_⟩
        · obtain ⟨a, t, e1, rfl, e3⟩ := all i v hv
          rw [List.getElem?_map, e1] at hd
          cases hd
          exact Dp.nm (off_at e3)
        · rw [any_nm]
          have q2 := q H1 s1
          unfold clash at q2
          rw [if_pos h1] at q2
          exact q2
end
end Cl
set_option maxHeartbeats 4000000
namespace Cl
open PySem PySem.Spec PyProof.Rows L2
open He (ga ma)
/-- what may be written: the reader, its recipe, the recipe's three lists -/
def Mut (s rc l0 l1 l2 b : Addr) : Prop := b = s ∨ b = rc ∨ b = l0 ∨ b = l1 ∨ b = l2
/-- a reader in its heap -/
structure RdSt (K : PySem.W.Frag) (H : Hp) (s rc dr : Addr) (last : Int) (t0 t1 t2 : List (Br.Bytes × List Nat)) (y : Option Nat) (dx th l0 l1 l2 : Addr) : Prop where
  rd : ReadAt K H s rc dr last
  rc_ : RecAt K H rc t0 t1 t2 y dx th l0 l1 l2
  ne : ∀ t ∈ t0 ++ (t1 ++ t2), t.2 ≠ []
  d01 : l0 ≠ l1
  d02 : l0 ≠ l2
  d12 : l1 ≠ l2
  h0 : th ≠ l0
  h1 : th ≠ l1
  h2 : th ≠ l2
/-- a line that was read -/
structure WfL (x : Nat × Br.Bytes × List Nat) : Prop where
  k : x.1 ≤ 4
  n : 1 ≤ x.1 → x.1 ≤ 3 → x.2.2 ≠ []
  y : x.1 = 4 → ∃ u, x.2.2 = [u]
  h : x.1 = 2 → Hopish x.2.2
def grown (k : Nat) (t : List (Br.Bytes × List Nat)) (x : Nat × Br.Bytes × List Nat) : List (Br.Bytes × List Nat) := t ++ (if x.1 = k + 1 then [x.2] else [])
def yNow (y : Option Nat) (x : Nat × Br.Bytes × List Nat) : Option Nat := if x.1 = 4 then some (x.2.2.getD 0 0) else y
section
variable {K : PySem.W.Frag} {H H2 : Hp} {s rc dr : Addr} {last : Int} {t0 t1 t2 : List (Br.Bytes × List Nat)} {y : Option Nat} {dx th l0 l1 l2 : Addr}
theorem ref_list_ne {n : Nat} {r : List Nat} {qs : List Addr} : (HO.lst (nsV (n :: r)) : HO) ≠ .lst (qs.map V.ref) := fun e => by
  injection e with e
  cases qs with
  | nil => cases e
  | cons q qs =>
    injection e with e _
    cases e
/-- what is none of these five -/
theorem RdSt.not_mut (S : RdSt K H s rc dr last t0 t1 t2 y dx th l0 l1 l2) {b : Addr} {o : HO} (h : H b = some o) (n1 : ∀ C d u v, o ≠ .ins C d [(("recipe" : Str), u), (("last" : Str), v)]) (n2 : ∀ C d u v, o ≠ .ins C d [(("things" : Str), u), (("yeast" : Str), v)])
    (n3 : ∀ qs : List Addr, o ≠ .lst (qs.map V.ref)) : ¬ Mut s rc l0 l1 l2 b := fun m => by
  have key : ∀ {o2 : HO}, H b = some o2 → o = o2 := fun h2 => by rw [h] at h2; exact Option.some.inj h2
  rcases m with rfl | rfl | rfl | rfl | rfl
  · exact n1 _ _ _ _ (key S.rd)
  · exact n2 _ _ _ _ (key S.rc_.ob)
  · obtain ⟨qs, a, _⟩ := S.rc_.m0
    exact n3 _ (key a)
  · obtain ⟨qs, a, _⟩ := S.rc_.m1
    exact n3 _ (key a)
  · obtain ⟨qs, a, _⟩ := S.rc_.m2
    exact n3 _ (key a)
theorem RdSt.thing (S : RdSt K H s rc dr last t0 t1 t2 y dx th l0 l1 l2) (kp : Keeps (Mut s rc l0 l1 l2) H H2) {t : Addr} {x : Br.Bytes × List Nat} (ne : x.2 ≠ []) (h : ThingAt K H t x) : ThingAt K H2 t x := by
  obtain ⟨d, na, nu, a1, a2, a3⟩ := h
  refine ⟨d, na, nu, kp _ _ (S.not_mut a1 (fun _ _ _ _ e => ?_) (fun _ _ _ _ e => ?_) fun _ e => ?_) a1, kp _ _ (S.not_mut a2 (fun _ _ _ _ e => ?_) (fun _ _ _ _ e => ?_) fun _ e => ?_) a2, kp _ _ (S.not_mut a3 (fun _ _ _ _ e => ?_) (fun _ _ _ _ e => ?_) fun _ e => ?_) a3⟩
  · injection e with _ _ e; injection e with e _; injection e with e _; exact absurd e (by decide)
  · injection e with _ _ e; injection e with e _; injection e with e _; exact absurd e (by decide)
  · cases e
  · cases e
  · cases e
  · cases e
  · cases e
  · cases e
  · cases q : x.2 with
    | nil => exact ne q
    | cons n r =>
      rw [q] at e
      exact ref_list_ne e
theorem RdSt.things (S : RdSt K H s rc dr last t0 t1 t2 y dx th l0 l1 l2) (kp : Keeps (Mut s rc l0 l1 l2) H H2) {qs : List Addr} {ts : List (Br.Bytes × List Nat)} (ne : ∀ t ∈ ts, t.2 ≠ []) (h : All2 (ThingAt K H) qs ts) : All2 (ThingAt K H2) qs ts := by
  induction h with
  | nil => exact .nil
  | cons r _ ih => exact .cons (S.thing kp (ne _ List.mem_cons_self) r) (ih fun t m => ne t (List.mem_cons_of_mem _ m))
/-- the five told anew -/
theorem RdSt.up (S : RdSt K H s rc dr last t0 t1 t2 y dx th l0 l1 l2) (kp : Keeps (Mut s rc l0 l1 l2) H H2) {last' : Int} {t0' t1' t2' : List (Br.Bytes × List Nat)} {y' : Option Nat} (rd : ReadAt K H2 s rc dr last')
    (ob : H2 rc = some (.ins (cRecipe K) dx [(("things" : Str), .ref th), (("yeast" : Str), yV y')])) (g0 : ThingsAt K H2 l0 t0') (g1 : ThingsAt K H2 l1 t1') (g2 : ThingsAt K H2 l2 t2') (ne : ∀ t ∈ t0' ++ (t1' ++ t2'), t.2 ≠ []) : RdSt K H2 s rc dr last' t0' t1' t2' y' dx th l0 l1 l2 := by
  refine ⟨rd, ⟨ob, kp _ _ (fun m => ?_) S.rc_.th, g0, g1, g2⟩, ne, S.d01, S.d02, S.d12, S.h0, S.h1, S.h2⟩
  rcases m with e | e | e | e | e
  · have h2 := S.rd
    unfold ReadAt at h2
    rw [← e, S.rc_.th] at h2
    cases h2
  · have h2 := S.rc_.ob
    rw [← e, S.rc_.th] at h2
    cases h2
  · exact S.h0 e
  · exact S.h1 e
  · exact S.h2 e
theorem RdSt.ne0 (S : RdSt K H s rc dr last t0 t1 t2 y dx th l0 l1 l2) : ∀ t ∈ t0, t.2 ≠ [] := fun t m => S.ne t (List.mem_append_left _ m)
theorem RdSt.ne1 (S : RdSt K H s rc dr last t0 t1 t2 y dx th l0 l1 l2) : ∀ t ∈ t1, t.2 ≠ [] := fun t m => S.ne t (List.mem_append_right _ (List.mem_append_left _ m))
theorem RdSt.ne2 (S : RdSt K H s rc dr last t0 t1 t2 y dx th l0 l1 l2) : ∀ t ∈ t2, t.2 ≠ [] := fun t m => S.ne t (List.mem_append_right _ (List.mem_append_right _ m))
theorem RdSt.same (S : RdSt K H s rc dr last t0 t1 t2 y dx th l0 l1 l2) (e : Same H H2) : RdSt K H2 s rc dr last t0 t1 t2 y dx th l0 l1 l2 := ⟨e _ _ S.rd, S.rc_.same e, S.ne, S.d01, S.d02, S.d12, S.h0, S.h1, S.h2⟩
/-- the lists as they were -/
theorem RdSt.g0 (S : RdSt K H s rc dr last t0 t1 t2 y dx th l0 l1 l2) (kp : Keeps (Mut s rc l0 l1 l2) H H2) (e : ∀ o, H l0 = some o → H2 l0 = some o) : ThingsAt K H2 l0 t0 := by
  obtain ⟨qs, a, b⟩ := S.rc_.m0
  exact ⟨qs, e _ a, S.things kp S.ne0 b⟩
theorem RdSt.g1 (S : RdSt K H s rc dr last t0 t1 t2 y dx th l0 l1 l2) (kp : Keeps (Mut s rc l0 l1 l2) H H2) (e : ∀ o, H l1 = some o → H2 l1 = some o) : ThingsAt K H2 l1 t1 := by
  obtain ⟨qs, a, b⟩ := S.rc_.m1
  exact ⟨qs, e _ a, S.things kp S.ne1 b⟩
theorem RdSt.g2 (S : RdSt K H s rc dr last t0 t1 t2 y dx th l0 l1 l2) (kp : Keeps (Mut s rc l0 l1 l2) H H2) (e : ∀ o, H l2 = some o → H2 l2 = some o) : ThingsAt K H2 l2 t2 := by
  obtain ⟨qs, a, b⟩ := S.rc_.m2
  exact ⟨qs, e _ a, S.things kp S.ne2 b⟩
/-- the reader, the recipe, the lists are five -/
theorem RdSt.s_rc (S : RdSt K H s rc dr last t0 t1 t2 y dx th l0 l1 l2) : s ≠ rc := fun e => by
  have h2 : H s = _ := S.rd
  rw [e, S.rc_.ob] at h2
  injection h2 with h2; injection h2 with _ _ h2; injection h2 with h2 _; injection h2 with h2 _; exact absurd h2 (by decide)
theorem RdSt.list_ne (S : RdSt K H s rc dr last t0 t1 t2 y dx th l0 l1 l2) {l : Addr} {xs : List V} (h : H l = some (.lst xs)) : l ≠ s ∧ l ≠ rc := by
  refine ⟨fun e => ?_, fun e => ?_⟩
  · have h2 : H s = _ := S.rd
    rw [← e, h] at h2
    cases h2
  · have h2 := S.rc_.ob
    rw [← e, h] at h2
    cases h2
theorem RdSt.lists (S : RdSt K H s rc dr last t0 t1 t2 y dx th l0 l1 l2) : (∃ q0 : List Addr, H l0 = some (.lst (q0.map V.ref))) ∧ (∃ q1 : List Addr, H l1 = some (.lst (q1.map V.ref))) ∧ ∃ q2 : List Addr, H l2 = some (.lst (q2.map V.ref)) := by
  obtain ⟨q0, a0, _⟩ := S.rc_.m0
  obtain ⟨q1, a1, _⟩ := S.rc_.m1
  obtain ⟨q2, a2, _⟩ := S.rc_.m2
  exact ⟨⟨q0, a0⟩, ⟨q1, a1⟩, ⟨q2, a2⟩⟩
/-- one of the three grew -/
theorem RdSt.grow (S : RdSt K H s rc dr last t0 t1 t2 y dx th l0 l1 l2) {j : Nat} (hj : j < 3) {x : Nat × Br.Bytes × List Nat} (hx : x.1 = j + 1) (nx : x.2.2 ≠ []) {p l : Addr} {qs : List Addr} (el : [V.ref l0, V.ref l1, V.ref l2][j]? = some (.ref l)) (hl : H l = some (.lst (qs.map V.ref)))
    (hp : ThingAt K H p x.2) : RdSt K (upd H l (.lst (qs.map V.ref ++ [.ref p]))) s rc dr last (grown 0 t0 x) (grown 1 t1 x) (grown 2 t2 x) y dx th l0 l1 l2 ∧ Mut s rc l0 l1 l2 l := by
  obtain ⟨ls, lr⟩ := S.list_ne hl
  have ml : Mut s rc l0 l1 l2 l := by
    match j, hj with
    | 0, _ => cases el; exact .inr (.inr (.inl rfl))
    | 1, _ => cases el; exact .inr (.inr (.inr (.inl rfl)))
    | 2, _ => cases el; exact .inr (.inr (.inr (.inr rfl)))
  have kp : Keeps (Mut s rc l0 l1 l2) H (upd H l (.lst (qs.map V.ref ++ [.ref p]))) := fun b o n h => by
    rw [upd_ne (fun e => n (by rw [e]; exact ml))]
    exact h
  have other : ∀ b o, b ≠ l → H b = some o → upd H l (.lst (qs.map V.ref ++ [.ref p])) b = some o := fun b o n h => by rw [upd_ne n]; exact h
  have hp2 := S.thing kp nx hp
  have new : ∀ ts, (∀ t ∈ ts, t.2 ≠ []) → All2 (ThingAt K H) qs ts → ThingsAt K (upd H l (.lst (qs.map V.ref ++ [.ref p]))) l (ts ++ [x.2]) := fun ts ne a => ⟨qs ++ [p], by rw [upd_same, List.map_append]; rfl, (S.things kp ne a).app (.cons hp2 .nil)⟩
  have ne_g : ∀ k ts, (∀ t ∈ ts, t.2 ≠ []) → ∀ t ∈ grown k ts x, t.2 ≠ [] := fun k ts ne t m => by
    unfold grown at m
    rcases List.mem_append.mp m with m | m
    · exact ne t m
    · split at m
      · rw [List.mem_singleton.mp m]; exact nx
      · cases m
  have ne3 : ∀ t ∈ grown 0 t0 x ++ (grown 1 t1 x ++ grown 2 t2 x), t.2 ≠ [] := fun t m => by
    rcases List.mem_append.mp m with m | m
    · exact ne_g 0 t0 S.ne0 t m
    · rcases List.mem_append.mp m with m | m
      · exact ne_g 1 t1 S.ne1 t m
      · exact ne_g 2 t2 S.ne2 t m
  refine ⟨S.up kp (other _ _ (Ne.symm ls) S.rd) (other _ _ (Ne.symm lr) S.rc_.ob) ?_ ?_ ?_ ne3, ml⟩
  all_goals unfold grown
  · match j, hj with
    | 0, _ =>
      cases el
      obtain ⟨q2, a, b⟩ := S.rc_.m0
      have eq : qs.map V.ref = q2.map V.ref := by rw [hl] at a; injection a with a; injection a
      rw [if_pos hx, eq]
      refine ⟨q2 ++ [p], by rw [upd_same, List.map_append]; rfl, ?_⟩
      rw [eq] at kp hp2
      exact (S.things kp S.ne0 b).app (.cons hp2 .nil)
    | 1, _ => cases el; rw [if_neg (by omega), List.append_nil]; exact S.g0 kp fun o h => other _ _ S.d01 h
    | 2, _ => cases el; rw [if_neg (by omega), List.append_nil]; exact S.g0 kp fun o h => other _ _ S.d02 h
  · match j, hj with
    | 0, _ => cases el; rw [if_neg (by omega), List.append_nil]; exact S.g1 kp fun o h => other _ _ (Ne.symm S.d01) h
    | 1, _ =>
      cases el
      obtain ⟨q2, a, b⟩ := S.rc_.m1
      have eq : qs.map V.ref = q2.map V.ref := by rw [hl] at a; injection a with a; injection a
      rw [if_pos hx, eq]
      refine ⟨q2 ++ [p], by rw [upd_same, List.map_append]; rfl, ?_⟩
      rw [eq] at kp hp2
      exact (S.things kp S.ne1 b).app (.cons hp2 .nil)
    | 2, _ => cases el; rw [if_neg (by omega), List.append_nil]; exact S.g1 kp fun o h => other _ _ S.d12 h
  · match j, hj with
    | 0, _ => cases el; rw [if_neg (by omega), List.append_nil]; exact S.g2 kp fun o h => other _ _ (Ne.symm S.d02) h
    | 1, _ => cases el; rw [if_neg (by omega), List.append_nil]; exact S.g2 kp fun o h => other _ _ (Ne.symm S.d12) h
    | 2, _ =>
      cases el
      obtain ⟨q2, a, b⟩ := S.rc_.m2
      have eq : qs.map V.ref = q2.map V.ref := by rw [hl] at a; injection a with a; injection a
      rw [if_pos hx, eq]
      refine ⟨q2 ++ [p], by rw [upd_same, List.map_append]; rfl, ?_⟩
      rw [eq] at kp hp2
      exact (S.things kp S.ne2 b).app (.cons hp2 .nil)
end
end Cl
set_option maxHeartbeats 4000000
namespace Cl
open PySem PySem.Spec PyProof.Rows L2
open He (ga ma)
section
variable {P : Program} {w : World} {K : PySem.W.Frag} {mg : Str → Option Value} {base : Heap}
/-! ### why_not -/
def mWhy (last : Int) (t0 t1 t2 : List (Br.Bytes × List Nat)) : Option (Nat × Br.Bytes × List Nat) → Nat
  | none => 1
  | some x => mWrong last (sel (x.1 - 1) t0 t1 t2) x.1 x.2.1 x.2.2
def Few3 (t0 t1 t2 : List (Br.Bytes × List Nat)) : Prop := t0.length ≤ 16 ∧ t1.length ≤ 16 ∧ t2.length ≤ 16
theorem Few3.at {t0 t1 t2 : List (Br.Bytes × List Nat)} (h : Few3 t0 t1 t2) : ∀ j, j < 3 → (sel j t0 t1 t2).length ≤ 16
  | 0, _ => h.1
  | 1, _ => h.2.1
  | 2, _ => h.2.2
  | n + 3, h => by omega
def spWhy (K : PySem.W.Frag) : Sp := fun vs H Q _ => ∃ (s rc dr : Addr) (last : Int) (v : V) (o : Option (Nat × Br.Bytes × List Nat)) (t0 t1 t2 : List (Br.Bytes × List Nat)) (y : Option Nat) (dx th l0 l1 l2 : Addr), vs = [.ref s, v] ∧ ReadAt K H s rc dr last ∧ RecAt K H rc t0 t1 t2 y dx th l0 l1 l2 ∧ LineV K H v o ∧
  Few3 t0 t1 t2 ∧ (∀ x, o = some x → x.1 = 2 → Hopish x.2.2) ∧ (∀ t ∈ t1, Hopish t.2) ∧ ∀ H2, Same H H2 → Q (.int ((mWhy last t0 t1 t2 o : Nat) : Int)) H2
theorem sc_why_not : FnScope ["self", "line"] ["self", "line"] (defScope s_Reader_why_not) := ⟨rfl, rfl, rfl, by decide +kernel, rfl, by decide +kernel, by decide +kernel⟩
theorem mt_why_not (M : MethAt K "Reader" "why_not" "Reader.why_not" s_Reader_why_not) (T : RT K mg) (C : KS K mg) (mCan : Methd P w K mg base CX0 1 "Reader" "can_stand" (spCan K)) (mCl : Methd P w K mg base CX0 1 "Reader" "does_clash" (spClash K)) :
    Methd P w K mg base CX0 2 "Reader" "why_not" (spWhy K) := by
  obtain ⟨g, fd, F⟩ := M
  refine ⟨⟨fd, ["self", "line"], g, ?_, F.binds fun _ _ _ _ _ _ us hl => match us, hl with | [_, _], _ => rfl⟩⟩
  refine F.ok sc_why_not (fun vs H Q E h => ?_) (fun cdv A outer s H vs Q E hr h => ?_)
  · obtain ⟨s, rc, dr, last, v, o, t0, t1, t2, y, dx, th, l0, l1, l2, rfl, _⟩ := h
    rfl
  · refine ⟨_, pss_cons (ps_if (pt_cmp (pc_isN (pv 1))) (pss_one (ps_ret (pe_num (by rfl) T.NOT_FORMED))) pss_nil)
      (pss_cons (ps_if (pt_not (pt_val (pe_mt (E := E0) (pv 0) C.rd.c mCan hr (Nat.le_refl _) pass0 (pa_cons (pv 1) pa_nil)))) (pss_one (ps_ret (pe_num (by rfl) T.CANT_STAND))) pss_nil)
      (pss_cons (ps_if (pt_chain op_le op_le (pe_num (by rfl) T.MALT_LINE) (pe_fld (pv 1) (by rfl)) (pe_num (by rfl) T.ADD_LINE))
        (pss_cons (ps_if (pt_val (pe_mt (E := E0) (pv 0) C.rd.c mCl hr (Nat.le_refl _) pass0 (pa_cons (pv 1) pa_nil))) (pss_one (ps_ret (pe_num (by rfl) T.CLASHES))) pss_nil)
        (pss_one (ps_if (pt_cmpR op_eq (pe_callB call_len (by rfl) T.len boot_len (pa_cons (pe_ix ix_list (pe_fld (pe_fld (pv 0) (by rfl)) (by rfl)) (pe_op op_sub (pe_fld (pv 1) (by rfl)) (pe_num (by rfl) T.MALT_LINE)) (fun _ _ => rfl)) pa_nil)) (pe_num (by rfl) T.MOST_OF_KIND) (nomark _))
          (pss_one (ps_ret (pe_num (by rfl) T.TOO_MUCH))) pss_nil))) pss_nil)
      (pss_one (ps_ret pe_int)))), ?_⟩
    obtain ⟨s, rc, dr, last, v, o, t0, t1, t2, y, dx, th, l0, l1, l2, rfl, hs, R, lv, few, hx, ht, q⟩ := h
    cases o with
    | none =>
      have lv : v = .non := lv
      subst lv
      exact ⟨_, rfl, _, rfl, iteT (q H (Same.refl H))⟩
    | some x =>
      obtain ⟨ln, rfl, hl⟩ := lv
      have hl0 := hl
      obtain ⟨dl, na, nu, at1, at2, at3⟩ := hl
      have q : ∀ H2, Same H H2 → Q (.int ((mWrong last (sel (x.1 - 1) t0 t1 t2) x.1 x.2.1 x.2.2 : Nat) : Int)) H2 := q
      have hs0 : H s = some (.ins (cReader K) dr [(("recipe" : Str), .ref rc), (("last" : Str), .int last)]) := hs
      refine ⟨_, rfl, _, rfl, iteF ?_⟩
      refine ⟨_, rfl, s, dr, _, rfl, hs0, rfl, _, rfl, s, rc, dr, ln, last, x, rfl, hs, hl0, _, rfl, ?_⟩
      unfold mWrong at q
      refine iteN (fun h1 => ?_) (fun h1 => ?_)
      rotate_left
      · rw [if_pos h1] at q
        exact q H (Same.refl H)
      · rw [if_neg (by rw [h1]; exact Bool.noConfusion)] at q
        refine ⟨_, rfl, ln, cLine K, dl, _, _, rfl, at1, C.ln.c, C.ln.n _ (by simp), rfl, _, _, rfl, rfl, rdk (fun h2 => ⟨_, _, rfl, rfl, _, rfl, ?_⟩) (fun h2 => ⟨_, rfl, iteF ?_⟩)⟩
        · have h2 := dT h2
          refine ite2b (fun h3 => ?_) (fun h3 => ?_)
          · have h3 := dT h3
            have k1 : 1 ≤ x.1 := by omega
            have k3 : x.1 ≤ 3 := by omega
            rw [if_pos ⟨k1, k3⟩] at q
            have fewS := few.at (x.1 - 1) (by omega)
            refine ⟨_, rfl, s, dr, _, rfl, hs0, rfl, _, rfl, s, rc, dr, ln, last, x, t0, t1, t2, y, dx, th, l0, l1, l2, rfl, hs, hl0, R, k1, k3, fun e => ⟨hx x rfl e, ht⟩, Nat.le_trans fewS (by decide), fun H2 s2 => ⟨_, rfl, ?_⟩⟩
            refine ite2b (fun h4 => ?_) (fun h4 => ?_)
            · rw [if_pos h4] at q
              exact q H2 s2
            · rw [if_neg (by rw [h4]; exact Bool.false_ne_true)] at q
              have R2 := R.same s2
              obtain ⟨l, el, qs, hl, aq⟩ := R2.at (x.1 - 1) (by omega)
              have lenQ : qs.length = (sel (x.1 - 1) t0 t1 t2).length := aq.len
              refine ⟨_, rfl, s, cReader K, dr, _, _, rfl, s2 _ _ hs0, C.rd.c, C.rd.n _ (by simp), rfl, rc, cRecipe K, dx, _, _, rfl, R2.ob, C.rc.c, C.rc.n _ (by simp), rfl, _, rfl, ln, cLine K, dl, _, _, rfl, s2 _ _ at1, C.ln.c, C.ln.n _ (by simp), rfl, _, _, rfl, rfl, ?_⟩
              refine ⟨th, _, ((x.1 - 1 : Nat) : Int), .ref l, rfl, ?_, SqL.of R2.th, atI_nat el, ?_⟩
              · show V.int ((x.1 : Int) - 1) = V.int ((x.1 - 1 : Nat) : Int)
                congr 1
                omega
              refine ⟨_, (qs.map V.ref).length, rfl, .inl ⟨_, SqL.of hl, rfl⟩, rfl, _, rfl, ?_⟩
              have e5 : decide (V.int ((qs.map V.ref).length : Int) = V.int 16) = decide ((sel (x.1 - 1) t0 t1 t2).length = 16) := by
                rw [decide_eq_decide, List.length_map, lenQ]
                exact ⟨fun z => by injection z with z; omega, fun z => by rw [z]; rfl⟩
              rw [e5]
              refine ite2b (fun h5 => ?_) (fun h5 => ?_)
              · rw [if_pos (dT h5)] at q
                exact q H2 s2
              · rw [if_neg (dF h5)] at q
                exact q H2 s2
          · have h3 := dF h3
            rw [if_neg (fun z => by omega)] at q
            exact q H (Same.refl H)
        · have h2 := dF h2
          rw [if_neg (fun z => by omega)] at q
          exact q H (Same.refl H)
/-! ### take -/
theorem grown_no {k : Nat} {t : List (Br.Bytes × List Nat)} {x : Nat × Br.Bytes × List Nat} (h : x.1 ≠ k + 1) : grown k t x = t := by
  unfold grown
  rw [if_neg h, List.append_nil]
def spTake (K : PySem.W.Frag) : Sp := fun vs H Q _ => ∃ (s rc dr ln : Addr) (last : Int) (x : Nat × Br.Bytes × List Nat) (t0 t1 t2 : List (Br.Bytes × List Nat)) (y : Option Nat) (dx th l0 l1 l2 : Addr), vs = [.ref s, .ref ln] ∧ RdSt K H s rc dr last t0 t1 t2 y dx th l0 l1 l2 ∧ LineAt K H ln x ∧ WfL x ∧ Few3 t0 t1 t2 ∧
  ∀ H2, RdSt K H2 s rc dr (x.1 : Int) (grown 0 t0 x) (grown 1 t1 x) (grown 2 t2 x) (yNow y x) dx th l0 l1 l2 → Keeps (Mut s rc l0 l1 l2) H H2 → Q .non H2
theorem sc_take : FnScope ["self", "line"] ["self", "line"] (defScope s_Reader_take) := ⟨rfl, rfl, rfl, by decide +kernel, rfl, by decide +kernel, by decide +kernel⟩
theorem mt_take (M : MethAt K "Reader" "take" "Reader.take" s_Reader_take) (T : RT K mg) (C : KS K mg) (cTh : Maker P w K mg base CX0 1 "Thing" (spThingI K)) : Methd P w K mg base CX0 3 "Reader" "take" (spTake K) := by
  obtain ⟨g, fd, F⟩ := M
  refine ⟨⟨fd, ["self", "line"], g, ?_, F.binds fun _ _ _ _ _ _ us hl => match us, hl with | [_, _], _ => rfl⟩⟩
  refine F.ok sc_take (fun vs H Q E h => ?_) (fun cdv A outer s H vs Q E hr h => ?_)
  · obtain ⟨s, rc, dr, ln, last, x, t0, t1, t2, y, dx, th, l0, l1, l2, rfl, _⟩ := h
    rfl
  · refine ⟨_, pss_cons (ps_fld (pv 0) (pe_fld (pv 1) (by rfl)) (by rfl))
      (C8.pss_cut (ps_if (pt_chain op_le op_le (pe_num (by rfl) T.MALT_LINE) (pe_fld (pv 1) (by rfl)) (pe_num (by rfl) T.ADD_LINE))
        (pss_one (ps_expr (pe_bm PySem.F.plainAttrs_list PySem.F.slot_list_append PySem.F.type_list_append mt_append
          (pe_ix ix_list (pe_fld (pe_fld (pv 0) (by rfl)) (by rfl)) (pe_op op_sub (pe_fld (pv 1) (by rfl)) (pe_num (by rfl) T.MALT_LINE)) (fun _ _ => rfl))
          (pa_cons (pe_mk (E := E0) cTh hr (by decide) (by rfl) pass0 (pa_cons (pe_fld (pv 1) (by rfl)) (pa_cons (pe_fld (pv 1) (by rfl)) pa_nil))) pa_nil)))) pss_nil)
      (pss_one (ps_if (pt_cmpR op_eq (pe_fld (pv 1) (by rfl)) (pe_num (by rfl) T.YEAST_LINE) (nomark _)) (pss_one (ps_fld (pe_fld (pv 0) (by rfl)) (pe_ix ix_list (pe_fld (pv 1) (by rfl)) pe_int (fun _ _ => rfl)) (by rfl))) pss_nil))), ?_⟩
    obtain ⟨s, rc, dr, ln, last, x, t0, t1, t2, y, dx, th, l0, l1, l2, rfl, S, hl, W, few, q⟩ := h
    obtain ⟨dl, na, nu, at1, at2, at3⟩ := hl
    have hs0 : H s = some (.ins (cReader K) dr [(("recipe" : Str), .ref rc), (("last" : Str), .int last)]) := S.rd
    refine ⟨_, rfl, ln, cLine K, dl, _, _, rfl, at1, C.ln.c, C.ln.n _ (by simp), rfl, _, rfl, s, cReader K, dr, _, rfl, hs0, C.rd.c, C.rd.n _ (by simp), by simp, ?_⟩
    have lnS : ln ≠ s := fun e => by
      rw [e, hs0] at at1
      injection at1 with h2; injection h2 with _ _ h2; injection h2 with h2 _; injection h2 with h2 _; exact absurd h2 (by decide)
    have naS : na ≠ s := fun e => by rw [e, hs0] at at2; cases at2
    have nuS : nu ≠ s := fun e => by rw [e, hs0] at at3; cases at3
    have kp1 : Keeps (Mut s rc l0 l1 l2) H (upd H s (.ins (cReader K) dr [(("recipe" : Str), .ref rc), (("last" : Str), .int (x.1 : Int))])) := fun b o n h => by
      rw [upd_ne (fun e => n (.inl e))]
      exact h
    obtain ⟨⟨p0, a0⟩, ⟨p1, a1⟩, ⟨p2, a2⟩⟩ := S.lists
    have S1 : RdSt K (upd H s (.ins (cReader K) dr [(("recipe" : Str), .ref rc), (("last" : Str), .int (x.1 : Int))])) s rc dr (x.1 : Int) t0 t1 t2 y dx th l0 l1 l2 :=
      S.up kp1 upd_same (by rw [upd_ne (Ne.symm S.s_rc)]; exact S.rc_.ob) (S.g0 kp1 fun o h => by rw [upd_ne (S.list_ne a0).1]; exact h) (S.g1 kp1 fun o h => by rw [upd_ne (S.list_ne a1).1]; exact h) (S.g2 kp1 fun o h => by rw [upd_ne (S.list_ne a2).1]; exact h) S.ne
    have b1 : upd H s (.ins (cReader K) dr [(("recipe" : Str), .ref rc), (("last" : Str), .int (x.1 : Int))]) ln = _ := (upd_ne lnS).trans at1
    have b2 : upd H s (.ins (cReader K) dr [(("recipe" : Str), .ref rc), (("last" : Str), .int (x.1 : Int))]) na = _ := (upd_ne naS).trans at2
    have b3 : upd H s (.ins (cReader K) dr [(("recipe" : Str), .ref rc), (("last" : Str), .int (x.1 : Int))]) nu = _ := (upd_ne nuS).trans at3
    revert S1 kp1 b1 b2 b3
    show _ → _ → _ → _ → _ → C8.tCut _ _ _ _ (upd H s (.ins (cReader K) dr [(("recipe" : Str), .ref rc), (("last" : Str), .int (x.1 : Int))]))
    generalize upd H s (.ins (cReader K) dr [(("recipe" : Str), .ref rc), (("last" : Str), .int (x.1 : Int))]) = H1
    intro kp1 S1 b1 b2 b3
    refine ⟨fun σ H' => σ = [some (.ref s), some (.ref ln)] ∧ RdSt K H' s rc dr (x.1 : Int) (grown 0 t0 x) (grown 1 t1 x) (grown 2 t2 x) y dx th l0 l1 l2 ∧ Keeps (Mut s rc l0 l1 l2) H H' ∧
      ∃ (dl na nu : Addr), H' ln = some (.ins (cLine K) dl [(("kind" : Str), .int (x.1 : Int)), (("name" : Str), .ref na), (("numbers" : Str), .ref nu)]) ∧ (x.1 = 4 → H' nu = some (.lst (nsV x.2.2))), ?_, ?_⟩
    · have non : ¬ (1 ≤ x.1 ∧ x.1 ≤ 3) → RdSt K H1 s rc dr (x.1 : Int) (grown 0 t0 x) (grown 1 t1 x) (grown 2 t2 x) y dx th l0 l1 l2 := fun h => by
        rw [grown_no (by omega), grown_no (by omega), grown_no (by omega)]
        exact S1
      refine ⟨_, rfl, ln, cLine K, dl, _, _, rfl, b1, C.ln.c, C.ln.n _ (by simp), rfl, _, _, rfl, rfl, rdk (fun h2 => ⟨_, _, rfl, rfl, _, rfl, ?_⟩) (fun h2 => ⟨_, rfl, iteF ?_⟩)⟩
      · have h2 := dT h2
        refine ite2b (fun h3 => ?_) (fun h3 => ?_)
        · have h3 := dT h3
          have k1 : 1 ≤ x.1 := by omega
          have k3 : x.1 ≤ 3 := by omega
          obtain ⟨l, el, qs, hl, aq⟩ := S1.rc_.at (x.1 - 1) (by omega)
          have lenQ : qs.length = (sel (x.1 - 1) t0 t1 t2).length := aq.len
          have fewS := few.at (x.1 - 1) (by omega)
          refine ⟨_, rfl, s, cReader K, dr, _, _, rfl, S1.rd, C.rd.c, C.rd.n _ (by simp), rfl, rc, cRecipe K, dx, _, _, rfl, S1.rc_.ob, C.rc.c, C.rc.n _ (by simp), rfl, _, rfl, ln, cLine K, dl, _, _, rfl, b1, C.ln.c, C.ln.n _ (by simp), rfl, _, _, rfl, rfl, ?_⟩
          refine ⟨th, _, ((x.1 - 1 : Nat) : Int), .ref l, rfl, ?_, SqL.of S1.rc_.th, atI_nat el, ?_⟩
          · show V.int ((x.1 : Int) - 1) = V.int ((x.1 - 1 : Nat) : Int)
            congr 1
            omega
          refine ⟨.inl ⟨rfl, _, SqL.of hl⟩, _, rfl, ln, cLine K, dl, _, _, rfl, b1, C.ln.c, C.ln.n _ (by simp), rfl, _, rfl, ln, cLine K, dl, _, _, rfl, b1, C.ln.c, C.ln.n _ (by simp), rfl, fun p d hp hd ne => ⟨p, d, _, _, rfl, upd_same, fun H3 at4 ot => ⟨rfl, ?_⟩⟩⟩
          have s3 : Same H1 H3 := fun b o hb => by
            rw [ot b (ne_of_none hb hp), upd_ne (ne_of_none hb hp), upd_ne (ne_of_none hb hd)]
            exact hb
          obtain ⟨S4, ml⟩ := (S1.same s3).grow (j := x.1 - 1) (by omega) (x := x) (by omega) (W.n k1 k3) el (s3 _ _ hl) ⟨d, na, nu, at4, s3 _ _ b2, s3 _ _ b3⟩
          refine ⟨l, qs.map V.ref, .ref p, rfl, rfl, s3 _ _ hl, by rw [List.length_map, lenQ]; exact Nat.lt_of_le_of_lt fewS (by decide), rfl, S4, ?_, dl, na, nu, ?_, fun h4 => by omega⟩
          · refine (kp1.trans (Keeps.of s3)).trans fun b o n h => ?_
            rw [upd_ne (fun e => n (by rw [e]; exact ml))]
            exact h
          · rw [upd_ne (fun e => by rw [e, hl] at b1; cases b1)]
            exact s3 _ _ b1
        · have h3 := dF h3
          exact ⟨rfl, non (by omega), kp1, dl, na, nu, b1, fun _ => b3⟩
      · have h2 := dF h2
        exact ⟨rfl, non (by omega), kp1, dl, na, nu, b1, fun _ => b3⟩
    · rintro σ H2 ⟨rfl, S2, kp2, dl, na, nu, c1, c3⟩
      refine ⟨_, rfl, ln, cLine K, dl, _, _, rfl, c1, C.ln.c, C.ln.n _ (by simp), rfl, rfl, _, rfl, ?_⟩
      have e4 : decide (V.int (x.1 : Int) = V.int 4) = decide (x.1 = 4) := by
        rw [decide_eq_decide]
        exact ⟨fun z => by injection z with z; omega, fun z => by rw [z]; rfl⟩
      rw [e4]
      refine ite2b (fun h4 => ?_) (fun h4 => ?_)
      · have h4 := dT h4
        obtain ⟨u, eu⟩ := W.y h4
        have c3 := c3 h4
        have a0 : (nsV x.2.2)[0]? = some (.int (u : Int)) := by rw [eu]; rfl
        have ey : yNow y x = some u := by
          unfold yNow
          rw [if_pos h4, eu]
          rfl
        refine ⟨_, rfl, ln, cLine K, dl, _, _, rfl, c1, C.ln.c, C.ln.n _ (by simp), rfl, nu, _, ((0 : Nat) : Int), .int (u : Int), rfl, rfl, SqL.of c3, atI_nat a0, _, rfl, s, cReader K, dr, _, _, rfl, S2.rd, C.rd.c, C.rd.n _ (by simp), rfl, rc, cRecipe K, dx, _, rfl, S2.rc_.ob, C.rc.c, C.rc.n _ (by simp), by simp, ?_⟩
        have kp3 : Keeps (Mut s rc l0 l1 l2) H2 (upd H2 rc (.ins (cRecipe K) dx (putF "yeast" (.int (u : Int)) [(("things" : Str), .ref th), (("yeast" : Str), yV y)]))) := fun b o n h => by
          rw [upd_ne (fun e => n (.inr (.inl e)))]
          exact h
        obtain ⟨⟨p0, a0⟩, ⟨p1, a1⟩, ⟨p2, a2⟩⟩ := S2.lists
        refine q _ (S2.up kp3 (by show _ = _; rw [upd_ne S2.s_rc]; exact S2.rd) (by rw [upd_same, ey]; rfl) (S2.g0 kp3 fun o h => by rw [upd_ne (S2.list_ne a0).2]; exact h) (S2.g1 kp3 fun o h => by rw [upd_ne (S2.list_ne a1).2]; exact h) (S2.g2 kp3 fun o h => by rw [upd_ne (S2.list_ne a2).2]; exact h) S2.ne) (kp2.trans kp3)
      · have h4 := dF h4
        have ey : yNow y x = y := by
          unfold yNow
          rw [if_neg h4]
        refine q H2 ?_ kp2
        rw [ey]
        exact S2
end
end Cl
set_option maxHeartbeats 4000000
namespace Cl
open PySem PySem.Spec PyProof.Rows L2
open He (ga ma)
/-- an own error over ValueError in the text -/
structure ErrAt (K : PySem.W.Frag) (mg : Str → Option Value) (x qual : Str) (st : Stmt) (fs : List Str) : Prop where
  g : mg x = some (.ref (ga K x))
  oc : OexC K (ga K x)
  xf : XfC K (ga K x)
  iC : PySem.W.findIn K (.ref (ga K x)) "__init__" = some (some (.ref (ma K (ga K x) "__init__")))
  tI : PySem.W.typeIn K (.ref (ma K (ga K x) "__init__")) = some (.type "function")
  f : ∃ fd, Fun K "__init__" qual st (ma K (ga K x) "__init__") fd
  no : ∀ f ∈ fs, PySem.W.findIn K (.ref (ga K x)) f = some none
  mgv : mg "ValueError" = none
  ve : PySem.W.findCls K (.type "ValueError") (.type "type") "__init__" = some (.val (.builtin "ValueError.__init__"))
/-! ### plain facts of reading -/
theorem cut_init (v : V) (xs : List V) : cutV (xs ++ [v]) none (some (-1)) = xs := by
  unfold cutV
  rw [HT.sIx_none, List.drop_zero, Nat.sub_zero]
  have e : HT.sIx (xs ++ [v]).length (xs ++ [v]).length (some (-1)) = xs.length := by
    show (if (-1 : Int) < 0 then ((-1 : Int) + ((xs ++ [v]).length : Int)).toNat else min (-1 : Int).toNat (xs ++ [v]).length) = _
    rw [if_pos (by decide), List.length_append, List.length_singleton]
    omega
  rw [e, List.take_left']
  rfl
theorem run_step {l : List Br.Bytes} {i : Nat} {b : Br.Bytes} {r : Br.Recipe} (h : l[i]? = some b) : runL i r (l.drop i) = match Br.lineIn b with
    | none => .error (i, 1)
    | some x => if Br.wrongOf r x = 0 then runL (i + 1) (r ++ [x]) (l.drop (i + 1)) else .error (i, Br.wrongOf r x) := by
  obtain ⟨lt, e⟩ := List.getElem?_eq_some_iff.mp h
  rw [List.drop_eq_getElem_cons lt, e]
  rfl
theorem hops_th (r : Br.Recipe) : ∀ t ∈ thOf r 1, Hopish t.2 := fun t m => by
  rw [th_hops] at m
  obtain ⟨x, _, rfl⟩ := List.mem_map.mp m
  exact ⟨_, _, _, rfl⟩
theorem why_law {r : Br.Recipe} (b : Built r) (o : Option Br.Line) : mWhy (lastOf r) (thOf r 0) (thOf r 1) (thOf r 2) (o.map tri) = match o with
    | none => 1
    | some x => Br.wrongOf r x := by
  cases o with
  | none => rfl
  | some x =>
    show mWrong (lastOf r) (sel (x.rank - 1) (thOf r 0) (thOf r 1) (thOf r 2)) x.rank (lname x) (lnums x) = Br.wrongOf r x
    rw [← wrong_law r x b.few]
    cases x with
    | yeast u =>
      unfold mWrong
      have n : ¬ (1 ≤ (Br.Line.yeast u).rank ∧ (Br.Line.yeast u).rank ≤ 3) := by simp [Br.Line.rank]
      rw [if_neg n, if_neg n]
    | recipe n => rfl
    | malt n p y => rfl
    | hop n p a t => rfl
    | add n g => rfl
theorem wf_tri {x : Br.Line} : WfL (tri x) := by
  refine ⟨rank_le x, fun h1 h3 => ?_, fun h => ?_, fun h => ?_⟩
  · cases x with
    | recipe n => exact absurd h1 (by simp [tri, Br.Line.rank])
    | yeast u => exact absurd h3 (by simp [tri, Br.Line.rank])
    | malt n p y => intro z; cases z
    | hop n p a t => intro z; cases z
    | add n g => intro z; cases z
  · cases x with
    | yeast u => exact ⟨u, rfl⟩
    | recipe n => exact absurd h (by simp [tri, Br.Line.rank])
    | malt n p y => exact absurd h (by simp [tri, Br.Line.rank])
    | hop n p a t => exact absurd h (by simp [tri, Br.Line.rank])
    | add n g => exact absurd h (by simp [tri, Br.Line.rank])
  · cases x with
    | hop n p a t => exact ⟨_, _, _, rfl⟩
    | yeast u => exact absurd h (by simp [tri, Br.Line.rank])
    | recipe n => exact absurd h (by simp [tri, Br.Line.rank])
    | malt n p y => exact absurd h (by simp [tri, Br.Line.rank])
    | add n g => exact absurd h (by simp [tri, Br.Line.rank])
theorem grown_th (r : Br.Recipe) (x : Br.Line) (k : Nat) : grown k (thOf r k) (tri x) = thOf (r ++ [x]) k := by
  rw [th_snoc]
  rfl
theorem y_th {r : Br.Recipe} (b : Built r) {x : Br.Line} (w : Br.wrongOf r x = 0) : yNow (yOpt r) (tri x) = yOpt (r ++ [x]) := by
  rw [yOpt_snoc]
  unfold yNow
  cases x with
  | yeast u =>
    have n4 : lastOf r ≠ 4 := fun e => by
      have s := (wrong_zero w).1
      rw [stands_law, e] at s
      exact four_no s (rank_le _)
    rw [(b.yeast.2 n4).1]
    rfl
  | recipe n => rw [if_neg (by simp [tri, Br.Line.rank])]; simp
  | malt n p y => rw [if_neg (by simp [tri, Br.Line.rank])]; simp
  | hop n p a t => rw [if_neg (by simp [tri, Br.Line.rank])]; simp
  | add n g => rw [if_neg (by simp [tri, Br.Line.rank])]; simp
section
variable {P : Program} {w : World} {K : PySem.W.Frag} {mg : Str → Option Value} {base : Heap}
/-! ### Fault -/
abbrev cFault (K : PySem.W.Frag) : Addr := ga K "Fault"
def spFaultI (K : PySem.W.Frag) : Sp := fun vs H Q _ => ∃ a v1 v2, vs = [.ref a, v1, v2] ∧ H a = some (exo a (cFault K) none) ∧
  ∀ H2 d, H d = none → d ≠ a → H2 a = some (exo a (cFault K) (some d)) → H2 d = some (exd d [(("why" : Str), v2), (("line" : Str), v1)]) → (∀ b, b ≠ a → b ≠ d → H2 b = H b) → Q .non H2
theorem sc_Fault_init : FnScope ["self", "line", "why"] ["self", "line", "why"] (defScope s_Fault_init) := ⟨rfl, rfl, rfl, by decide +kernel, rfl, by decide +kernel, by decide +kernel⟩
theorem fn_Fault (Er : ErrAt K mg "Fault" "Fault.__init__" s_Fault_init ["line", "why"]) : ∃ fd, FnOk P w K mg base CX0 1 (ma K (cFault K) "__init__") fd ["self", "line", "why"] (spFaultI K) ∧ Binds K fd ["self", "line", "why"] [] := by
  obtain ⟨fd, F⟩ := Er.f
  refine ⟨fd, ?_, F.binds fun _ _ _ _ _ _ us hl => match us, hl with | [_, _, _], _ => rfl⟩
  refine F.ok sc_Fault_init (fun vs H Q E h => ?_) (fun cdv A outer s H vs Q E hr h => ?_)
  · obtain ⟨a, v1, v2, rfl, _⟩ := h
    rfl
  · refine ⟨_, pss_cons (ps_expr (pe_veinit (by rfl) Er.mgv Er.ve (pa_cons (pv 0) (pa_cons pe_str pa_nil)))) (pss_cons (ps_ost (pv 0) (pv 1)) (pss_one (ps_ost (pv 0) (pv 2)))), ?_⟩
    obtain ⟨a, v1, v2, rfl, at0, q⟩ := h
    refine ⟨_, rfl, a, cFault K, _, rfl, by decide, Er.oc, at0, ?_⟩
    refine ⟨_, rfl, _, rfl, a, cFault K, rfl, Er.oc, Er.no _ (by simp), .inl ⟨at0, fun d hd ne => ?_⟩⟩
    refine ⟨_, rfl, _, rfl, a, cFault K, rfl, Er.oc, Er.no _ (by simp), .inr ⟨d, _, upd_same, by rw [upd_ne ne, upd_same], by simp, ?_⟩⟩
    refine q _ d hd ne (by rw [upd_ne (Ne.symm ne), upd_same]) (by rw [upd_same]) fun b n1 n2 => by rw [upd_ne n2, upd_ne n1, upd_ne n2]
/-- a fault that flies: its line, why -/
def FaultV (K : PySem.W.Frag) (H : Hp) (cls : Value) (d : Option Addr) (e : Nat × Nat) : Prop := cls = .ref (cFault K) ∧ ∃ dd, d = some dd ∧ H dd = some (.xd [(("why" : Str), .int (e.2 : Int)), (("line" : Str), .int (e.1 : Int))])
theorem raise_fault {H : Hp} {a : Addr} (ha : H a = none) {v1 v2 : V} {Q : XK} (h : ∀ d H3, H3 d = some (.xd [(("why" : Str), v2), (("line" : Str), v1)]) → Same H H3 → Q (.ref (cFault K)) (some d) H3) :
    spFaultI K [.ref a, v1, v2] (upd H a (exo a (cFault K) none)) (fun v H2 => v = .non ∧ ∃ (d : Addr) (fs : List (Str × V)), H2 a = some (exo a (cFault K) (some d)) ∧ H2 d = some (exd d fs) ∧ H d = none ∧ Q (.ref (cFault K)) (some d) (upd (del H2 a) d (.xd fs))) (fun _ _ _ => False) := by
  refine ⟨a, v1, v2, rfl, upd_same, fun H2 d hd ne e1 e2 ot => ⟨rfl, d, _, e1, e2, ?_, ?_⟩⟩
  · rw [upd_ne ne] at hd
    exact hd
  · refine h d _ upd_same fun b o hb => ?_
    have nb : b ≠ a := ne_of_none hb ha
    have hd2 : H d = none := by rw [upd_ne ne] at hd; exact hd
    have nd : b ≠ d := ne_of_none hb hd2
    rw [upd_ne nd, del_ne nb, ot b nb nd, upd_ne nb]
    exact hb
/-! ### read -/
def spRead (K : PySem.W.Frag) : Sp := fun vs H Q E => ∃ (s a : Addr) (b : Br.Bytes) (rc dr dx th l0 l1 l2 : Addr), vs = [.ref s, .ref a] ∧ RdSt K H s rc dr (-1) [] [] [] none dx th l0 l1 l2 ∧ SqL K H a (bV b) ∧ b.length ≤ 20000 ∧
  (∀ H2 r, Br.readRecipe b = .ok r → Built r → RecAt K H2 rc (thOf r 0) (thOf r 1) (thOf r 2) (yOpt r) dx th l0 l1 l2 → Keeps (Mut s rc l0 l1 l2) H H2 → Q (.ref rc) H2) ∧
  ∀ cls d H2 e, Br.readRecipe b = .error e → FaultV K H2 cls d e → Keeps (Mut s rc l0 l1 l2) H H2 → E cls d H2
theorem sc_read : FnScope ["self", "octets", "lines", "number", "one", "line"] ["self", "octets"] (defScope s_Reader_read) := ⟨rfl, rfl, rfl, by decide +kernel, rfl, by decide +kernel, by decide +kernel⟩
theorem mt_read (M : MethAt K "Reader" "read" "Reader.read" s_Reader_read) (T : RT K mg) (C : KS K mg) (Er : ErrAt K mg "Fault" "Fault.__init__" s_Fault_init ["line", "why"]) (cParted : Callee P w K mg base CX0 1 "parted" (spParted K)) (cLine : Callee P w K mg base CX0 4 "line_of" (spLineOf K))
    (mWy : Methd P w K mg base CX0 2 "Reader" "why_not" (spWhy K)) (mTk : Methd P w K mg base CX0 3 "Reader" "take" (spTake K)) : Methd P w K mg base (L2N.CX P w) 5 "Reader" "read" (spRead K) := by
  obtain ⟨g, fd, F⟩ := M
  obtain ⟨fdF, FF, bF⟩ := fn_Fault (P := P) (w := w) (base := base) Er
  refine ⟨⟨fd, ["self", "octets"], g, ?_, F.binds fun _ _ _ _ _ _ us hl => match us, hl with | [_, _], _ => rfl⟩⟩
  refine okN F sc_read (fun vs H Q E h => ?_) (fun cdv A outer s H vs Q E hr h => ?_)
  · obtain ⟨s, a, b, rc, dr, dx, th, l0, l1, l2, rfl, _⟩ := h
    rfl
  · have tk : L2N.Takes (cxOf (L2N.CX P w) P w K mg base ["self", "octets", "lines", "number", "one", "line"] "Reader.read" (defScope s_Reader_read) (ma K (ga K "Reader") "read") cdv A outer s H E) (fun cls d _ H => E cls d H) := L2N.takes_of rfl rfl rfl rfl
    refine ⟨_, pss_cons (ps_set (i := 2) sc_read.nd rfl (Or.inl rfl) (pe_cl (E := E0) cParted hr (by decide) (by rfl) passNo (pa_cons (pv 1) (pa_cons (pe_num (by rfl) T.LINE_END) pa_nil))))
      (pss_cons (ps_for (L2.passes_of rfl) rfl (pi_enum (by rfl) T.enumerate (pa_cons (pe_slice sl_list (pv 2) po_none (po_some (pe_un un_neg pe_int))) pa_nil)) (pg_tup rfl (pgs_cons (pg_name (i := 3) sc_read.nd rfl (Or.inl rfl)) (pgs_cons (pg_name (i := 4) sc_read.nd rfl (Or.inl rfl)) pgs_nil)))
        (pss_cons (ps_set (i := 5) sc_read.nd rfl (Or.inl rfl) (pe_cl (E := E0) cLine hr (by decide) (by rfl) passNo (pa_cons (pv 4) pa_nil)))
        (pss_cons (ps_if (pt_cmpR op_gt (pe_mt (E := E0) (pv 0) C.rd.c mWy hr (by decide) passNo (pa_cons (pv 5) pa_nil)) pe_int (nomark _))
          (pss_one (L2N.ps_raise rfl tk (pmkN_oex Er.oc Er.iC Er.tI FF (hr.mono (by decide)) bF (by rfl) Er.g (pa_cons (pv 3) (pa_cons (pe_mt (E := E0) (pv 0) C.rd.c mWy hr (by decide) passNo (pa_cons (pv 5) pa_nil)) pa_nil))))) pss_nil)
        (pss_one (ps_expr (pe_mt (E := E0) (pv 0) C.rd.c mTk hr (by decide) passNo (pa_cons (pv 5) pa_nil)))))))
      (pss_cons (ps_if (pt_cmpR (op_neNil hr.units) (pe_ix ix_list (pv 2) (pe_un un_neg pe_int) (fun _ _ => rfl)) (pe_lst pa_nil) (nomark _))
        (pss_one (L2N.ps_raise rfl tk (pmkN_oex Er.oc Er.iC Er.tI FF (hr.mono (by decide)) bF (by rfl) Er.g (pa_cons (pe_op op_sub (pe_callB call_len (by rfl) T.len boot_len (pa_cons (pv 2) pa_nil)) pe_int) (pa_cons (pe_num (by rfl) T.NOT_FORMED) pa_nil))))) pss_nil)
      (pss_cons (ps_if (pt_cmp (pc_isN (pe_fld (pe_fld (pv 0) (by rfl)) (by rfl))))
        (pss_one (L2N.ps_raise rfl tk (pmkN_oex Er.oc Er.iC Er.tI FF (hr.mono (by decide)) bF (by rfl) Er.g (pa_cons (pe_op op_sub (pe_callB call_len (by rfl) T.len boot_len (pa_cons (pv 2) pa_nil)) pe_int) (pa_cons (pe_num (by rfl) T.CANT_STAND) pa_nil))))) pss_nil)
      (pss_one (ps_ret (pe_fld (pv 0) (by rfl))))))), ?_⟩
    obtain ⟨s, a, b, rc, dr, dx, th, l0, l1, l2, rfl, S, hs, few, q, qE⟩ := h
    obtain ⟨init, last, ec, law⟩ := read_law b
    have cl := cut_len 10 b
    have cs := cut_small 10 b
    rw [ec] at cl cs
    refine ⟨_, rfl, a, b, 10, rfl, hs, by omega, fun H1 p s1 lp => ?_⟩
    rw [ec] at lp
    obtain ⟨qs0, hp, hq0, np, nq⟩ := lp
    obtain ⟨qs, ql, eq⟩ : ∃ qs ql, qs0 = qs ++ [ql] := by
      rcases List.eq_nil_or_concat qs0 with e | ⟨qs, ql, e⟩
      · rw [e] at hq0
        have := hq0.len
        simp at this
      · exact ⟨qs, ql, by rw [e, List.concat_eq_append]⟩
    subst eq
    obtain ⟨hq, hl⟩ : All2 (LB H1) qs init ∧ LB H1 ql last := by
      have l0 := hq0.len
      simp at l0
      have t1 := hq0.take qs.length
      rw [List.take_left', l0, List.take_left'] at t1
      · have t2 := hq0.drop qs.length
        rw [List.drop_left', l0, List.drop_left'] at t2
        · cases t2 with
          | cons r _ => exact ⟨t1, r⟩
        · rfl
        · rfl
      · rfl
      · rfl
    have lenI : qs.length = init.length := hq.len
    have S1 := S.same s1
    -- a list of what was there when lines stood: none of the five
    have fresh : ∀ b0, H b0 = none → ¬ Mut s rc l0 l1 l2 b0 := fun b0 n m => by
      obtain ⟨⟨p0, a0⟩, ⟨p1, a1⟩, ⟨p2, a2⟩⟩ := S.lists
      rcases m with e | e | e | e | e
      · have h2 : H s = _ := S.rd
        rw [← e, n] at h2
        cases h2
      · have h2 := S.rc_.ob
        rw [← e, n] at h2
        cases h2
      · rw [← e, n] at a0; cases a0
      · rw [← e, n] at a1; cases a1
      · rw [← e, n] at a2; cases a2
    refine ⟨_, rfl, _, rfl, _, rfl, p, (qs ++ [ql]).map V.ref, rfl, SqL.of hp, fun p2 hp2 => ?_⟩
    have ei : cutV ((qs ++ [ql]).map V.ref) none (some (-1)) = qs.map V.ref := by rw [List.map_append]; exact cut_init _ _
    rw [ei]
    have s2 : Same H1 (upd H1 p2 (.lst (qs.map V.ref))) := Same.new hp2
    have np2 : H p2 = none := by
      cases e : H p2 with
      | none => rfl
      | some o => rw [s1 _ _ e] at hp2; cases hp2
    have hp2 : upd H1 p2 (.lst (qs.map V.ref)) p2 = some (.lst (qs.map V.ref)) := upd_same
    have hp := s2 _ _ hp
    have hq := hq.mono fun _ _ z => s2 _ _ z
    have hl := s2 _ _ hl
    have S2 := S1.same s2
    have s1 := s1.trans s2
    revert hp2 hp hq hl S2 s1
    generalize upd H1 p2 (.lst (qs.map V.ref)) = G
    intro hp2 hp hq hl S2 s1
    have keepP : ∀ {H3 : Hp} {b0 : Addr} {o : HO}, Keeps (Mut s rc l0 l1 l2) G H3 → H b0 = none → G b0 = some o → H3 b0 = some o := fun {H3 b0 o} kp n h => kp b0 o (fresh b0 n) h
    refine ⟨p2, qs.map V.ref, rfl, SqL.of hp2, ?_⟩
    refine for_it walk_enum (fun i σ H3 => ∃ (r : Br.Recipe) (v3 v4 v5 : Option V), σ = [some (.ref s), some (.ref a), some (.ref p), v3, v4, v5] ∧ RdSt K H3 s rc dr (lastOf r) (thOf r 0) (thOf r 1) (thOf r 2) (yOpt r) dx th l0 l1 l2 ∧ Keeps (Mut s rc l0 l1 l2) G H3 ∧ runL 0 [] init = runL i r (init.drop i) ∧ Built r)
      ⟨[], none, none, none, rfl, S2, Keeps.refl G, by rw [List.drop_zero], .nil⟩ (fun i σ H3 _ ⟨_, _, _, _, _, _, kp, _⟩ => SqL.of (keepP kp np2 hp2)) ?_ ?_
    · rintro i x σ H3 H4 hi ⟨r, v3, v4, v5, rfl, S3, kp, run, B⟩ ⟨Tp, x1, y1, rfl, hT, rfl, hx, hy⟩
      cases hx
      obtain ⟨q, hqi, rfl⟩ := map_at hy
      obtain ⟨bi, hbi, lb⟩ := hq.atL hqi
      rw [run_step hbi] at run
      have s4 : Same H3 (upd H3 Tp (.tup [.int ((i : Nat) : Int), .ref q])) := Same.new hT
      have lb3 : LB H3 q bi := keepP kp (nq q (List.mem_append_left _ (List.mem_of_getElem? hqi))) lb
      refine ⟨Tp, _, rfl, SqT.of upd_same, rfl, _, _, rfl, _, _, rfl, rfl, ?_⟩
      refine ⟨_, rfl, q, bi, rfl, SqL.of (s4 _ _ lb3), Nat.le_trans (cs bi (List.mem_append_left _ (List.mem_of_getElem? hbi))) few, fun H5 v s5 lv => ?_⟩
      have s35 : Same H3 H5 := s4.trans s5
      have S5 := S3.same s35
      have kp5 : Keeps (Mut s rc l0 l1 l2) G H5 := kp.trans (Keeps.of s35)
      rw [line_law] at lv
      have whyE : ∀ H6, Same H5 H6 → ReadAt K H6 s rc dr (lastOf r) ∧ RecAt K H6 rc (thOf r 0) (thOf r 1) (thOf r 2) (yOpt r) dx th l0 l1 l2 ∧ LineV K H6 v ((Br.lineIn bi).map tri) ∧ Few3 (thOf r 0) (thOf r 1) (thOf r 2) ∧ (∀ x, (Br.lineIn bi).map tri = some x → x.1 = 2 → Hopish x.2.2) ∧ ∀ t ∈ thOf r 1, Hopish t.2 := fun H6 s6 =>
        ⟨s6 _ _ S5.rd, S5.rc_.same s6, lv.same s6, ⟨B.few 0, B.few 1, B.few 2⟩, fun x e e2 => by
          cases q : Br.lineIn bi with
          | none => rw [q] at e; cases e
          | some z =>
            rw [q] at e
            cases e
            exact wf_tri.h e2, hops_th r⟩
      obtain ⟨w1, w2, w3, w4, w5, w6⟩ := whyE H5 (Same.refl H5)
      refine ⟨_, rfl, s, dr, _, rfl, S5.rd, rfl, _, rfl, s, rc, dr, lastOf r, v, (Br.lineIn bi).map tri, thOf r 0, thOf r 1, thOf r 2, yOpt r, dx, th, l0, l1, l2, rfl, w1, w2, w3, w4, w5, w6, ?_⟩
      clear w1 w2 w3 w4 w5 w6
      refine fun H6 s6 => ⟨_, _, rfl, rfl, _, rfl, ?_⟩
      rw [why_law B]
      have bad : ∀ c : Nat, ((match Br.lineIn bi with
          | none => 1
          | some x => Br.wrongOf r x : Nat)) = c → 0 < c → runL 0 [] init = .error (i, c) := fun c e h => by
        rw [run]
        cases q : Br.lineIn bi with
        | none =>
          rw [q] at e
          have e : 1 = c := e
          subst e
          rfl
        | some z =>
          rw [q] at e
          have e : Br.wrongOf r z = c := e
          show (if Br.wrongOf r z = 0 then _ else _) = _
          rw [if_neg (by omega), e]
      generalize ec2 : ((match Br.lineIn bi with
          | none => 1
          | some x => Br.wrongOf r x : Nat)) = c at bad
      refine ite2b (fun h1 => ?_) (fun h1 => ?_)
      · have h1 := dT h1
        have er := bad c rfl (by omega)
        obtain ⟨w1, w2, w3, w4, w5, w6⟩ := whyE H6 s6
        refine ⟨_, rfl, _, rfl, s, dr, _, rfl, s6 _ _ S5.rd, rfl, _, rfl, s, rc, dr, lastOf r, v, (Br.lineIn bi).map tri, thOf r 0, thOf r 1, thOf r 2, yOpt r, dx, th, l0, l1, l2, rfl, w1, w2, w3, w4, w5, w6, ?_⟩
        clear w1 w2 w3 w4 w5 w6
        refine fun H7 s7 => ⟨by simp, fun ax hax => ?_⟩
        rw [why_law B, ec2]
        refine raise_fault hax fun d H8 h8 s8 => qE _ _ H8 (i, c) ?_ ⟨rfl, d, rfl, h8⟩ ?_
        · rw [law]
          unfold mRead
          rw [er]
        · exact (Keeps.of s1).trans (kp5.trans (Keeps.of ((s6.trans s7).trans s8)))
      · have h1 := dF h1
        have c0 : c = 0 := by omega
        subst c0
        cases ql2 : Br.lineIn bi with
        | none => rw [ql2] at ec2; cases ec2
        | some x =>
          rw [ql2] at lv run ec2
          have ec2 : Br.wrongOf r x = 0 := ec2
          have run : runL 0 [] init = if Br.wrongOf r x = 0 then runL (i + 1) (r ++ [x]) (init.drop (i + 1)) else .error (i, Br.wrongOf r x) := run
          rw [if_pos ec2] at run
          obtain ⟨ln, rfl, la⟩ := lv
          have okx : x.ok = true := (lineIn_iff.mp ql2).1
          refine ⟨_, rfl, s, dr, _, rfl, s6 _ _ S5.rd, rfl, _, rfl, s, rc, dr, ln, lastOf r, tri x, thOf r 0, thOf r 1, thOf r 2, yOpt r, dx, th, l0, l1, l2, rfl, S5.same s6, la.same s6, wf_tri, ⟨B.few 0, B.few 1, B.few 2⟩, fun H7 S7 kp7 => ?_⟩
          refine ⟨r ++ [x], _, _, _, rfl, ?_, kp5.trans ((Keeps.of s6).trans kp7), run, .snoc B okx ec2⟩
          rw [grown_th, grown_th, grown_th, y_th B ec2] at S7
          rw [last_snoc]
          exact S7
    · rintro σ H3 ⟨r, v3, v4, v5, rfl, S3, kp, run, B⟩
      rw [List.length_map, lenI, List.drop_length] at run
      have run : runL 0 [] init = .ok r := run
      have hp3 := keepP kp np hp
      have hl3 : LB H3 ql last := keepP kp (nq ql (List.mem_append_right _ (List.mem_singleton.mpr rfl))) hl
      have lenP : (((qs ++ [ql]).map V.ref).length : Int) - 1 = (init.length : Int) := by
        rw [List.length_map, List.length_append, List.length_singleton, lenI]
        omega
      refine ⟨_, rfl, _, rfl, p, (qs ++ [ql]).map V.ref, -1, .ref ql, rfl, rfl, SqL.of hp3, by rw [List.map_append]; exact atI_last _ _, by show 0 ≤ sizeLine; decide, fun e0 he0 => ?_⟩
      have s5 : Same H3 (upd H3 e0 (.lst [])) := Same.new he0
      refine ⟨ql, e0, bV last, rfl, rfl, SqL.of (s5 _ _ hl3), SqL.of upd_same, _, rfl, ?_⟩
      have kp5 : Keeps (Mut s rc l0 l1 l2) H (upd H3 e0 (.lst [])) := (Keeps.of s1).trans (kp.trans (Keeps.of s5))
      have S5 := S3.same s5
      have hp5 := s5 _ _ hp3
      revert kp5 S5 hp5
      generalize upd H3 e0 (.lst []) = H5
      intro kp5 S5 hp5
      have flt : ∀ c : Nat, ∀ (ax : Addr), Br.readRecipe b = .error (init.length, c) → H5 ax = none → spFaultI K [.ref ax, .int ((((qs ++ [ql]).map V.ref).length : Int) - 1), .int (c : Int)] (upd H5 ax (exo ax (cFault K) none))
          (fun v H2 => v = .non ∧ ∃ (d : Addr) (fs : List (Str × V)), H2 ax = some (exo ax (cFault K) (some d)) ∧ H2 d = some (exd d fs) ∧ H5 d = none ∧ E (.ref (cFault K)) (some d) (upd (del H2 ax) d (.xd fs))) (fun _ _ _ => False) := fun c ax er hax => by
        rw [lenP]
        exact raise_fault hax fun d H8 h8 s8 => qE _ _ H8 (init.length, c) er ⟨rfl, d, rfl, h8⟩ (kp5.trans (Keeps.of s8))
      have eE : (bV last).isEmpty = decide (last = []) := by cases last <;> rfl
      show if (!(bV last).isEmpty) = true then _ else _
      rw [eE]
      refine iteN (fun h1 => ?_) (fun h1 => ?_)
      · have h1 := dT h1
        refine ⟨_, rfl, s, cReader K, dr, _, _, rfl, S5.rd, C.rd.c, C.rd.n _ (by simp), rfl, rc, cRecipe K, dx, _, _, rfl, S5.rc_.ob, C.rc.c, C.rc.n _ (by simp), rfl, _, rfl, ?_⟩
        have ey : decide (yV (yOpt r) = .non) = !(yOpt r).isSome := by cases yOpt r <;> rfl
        show if decide (yV (yOpt r) = .non) = true then _ else _
        rw [ey]
        refine iteN (fun h2 => ?_) (fun h2 => ?_)
        · refine ⟨_, rfl, s, cReader K, dr, _, _, rfl, S5.rd, C.rd.c, C.rd.n _ (by simp), rfl, ?_⟩
          refine q _ r ?_ B S5.rc_ kp5
          rw [law]
          unfold mRead
          rw [run]
          show (if last ≠ [] then _ else if Br.ends r = true then Except.ok r else _) = _
          rw [if_neg (by simp [h1]), if_pos (by rw [B.ends_iff]; exact h2)]
        · refine ⟨_, rfl, _, (((qs ++ [ql]).map V.ref).length : Nat), rfl, .inl ⟨_, SqL.of hp5, rfl⟩, _, _, rfl, rfl, by simp, fun ax hax => flt 3 ax ?_ hax⟩
          rw [law]
          unfold mRead
          rw [run]
          show (if last ≠ [] then _ else if Br.ends r = true then _ else _) = _
          rw [if_neg (by simp [h1]), if_neg (by rw [B.ends_iff, h2]; exact Bool.false_ne_true)]
      · have h1 := dF h1
        refine ⟨_, rfl, _, (((qs ++ [ql]).map V.ref).length : Nat), rfl, .inl ⟨_, SqL.of hp5, rfl⟩, _, _, rfl, rfl, by simp, fun ax hax => flt 1 ax ?_ hax⟩
        rw [law]
        unfold mRead
        rw [run]
        show (if last ≠ [] then _ else _) = _
        rw [if_pos h1]
end
end Cl
set_option maxHeartbeats 4000000
namespace Cl
open PySem PySem.Spec PyProof.Rows L2
open He (ga ma)
section
variable {P : Program} {w : World} {K : PySem.W.Frag} {mg : Str → Option Value} {base : Heap}
/-! ### recipe_of -/
/-- a recipe in the heap as r tells it -/
def RecV (K : PySem.W.Frag) (H : Hp) (rc : Addr) (r : Br.Recipe) : Prop := ∃ dx th l0 l1 l2, RecAt K H rc (thOf r 0) (thOf r 1) (thOf r 2) (yOpt r) dx th l0 l1 l2
theorem RecV.same {H H2 : Hp} {rc : Addr} {r : Br.Recipe} (s : Same H H2) (h : RecV K H rc r) : RecV K H2 rc r := by
  obtain ⟨dx, th, l0, l1, l2, R⟩ := h
  exact ⟨dx, th, l0, l1, l2, R.same s⟩
def spRecipeOf (K : PySem.W.Frag) : Sp := fun vs H Q E => ∃ (a : Addr) (b : Br.Bytes), vs = [.ref a] ∧ SqL K H a (bV b) ∧ b.length ≤ 20000 ∧
  (∀ H2 rc r, Br.readRecipe b = .ok r → Built r → RecV K H2 rc r → Same H H2 → Q (.ref rc) H2) ∧ ∀ cls d H2 e, Br.readRecipe b = .error e → FaultV K H2 cls d e → Same H H2 → E cls d H2
theorem sc_recipe_of : FnScope ["octets", "reader"] ["octets"] (defScope s_recipe_of) := ⟨rfl, rfl, rfl, by decide +kernel, rfl, by decide +kernel, by decide +kernel⟩
theorem cl_recipe_of (D : DefAt K mg "recipe_of" s_recipe_of) (C : KS K mg) (cRd : Maker P w K mg base CX0 3 "Reader" (spReaderI K)) (mRd : Methd P w K mg base (L2N.CX P w) 5 "Reader" "read" (spRead K)) : Callee P w K mg base (L2N.CX P w) 6 "recipe_of" (spRecipeOf K) := by
  obtain ⟨g, fd, F⟩ := D
  refine ⟨⟨fd, ["octets"], g, F.kp, ?_, F.binds fun _ _ _ _ _ _ us hl => match us, hl with | [_], _ => rfl⟩⟩
  refine okN F sc_recipe_of (fun vs H Q E h => ?_) (fun cdv A outer s H vs Q E hr h => ?_)
  · obtain ⟨a, b, rfl, _⟩ := h
    rfl
  · have tk : L2N.Takes (cxOf (L2N.CX P w) P w K mg base ["octets", "reader"] "recipe_of" (defScope s_recipe_of) (ga K "recipe_of") cdv A outer s H E) (fun cls d _ H => E cls d H) := L2N.takes_of rfl rfl rfl rfl
    refine ⟨_, pss_cons (ps_set (i := 1) sc_recipe_of.nd rfl (Or.inl rfl) (pe_mk0 (E := E0) cRd hr (by decide) (by rfl) passNo))
      (pss_one (ps_ret (pe_mt (E := E) (pv 1) C.rd.c mRd hr (Nat.le_refl _) (L2N.passes_call tk fun _ _ _ _ h => h) (pa_cons (pv 0) pa_nil)))), ?_⟩
    obtain ⟨a, b, rfl, hs, few, q, qE⟩ := h
    refine fun x dx hx hdx ne => ⟨x, dx, rfl, upd_same, fun H2 rc dr th l0 l1 l2 rd R nw ds kp => ⟨rfl, ?_⟩⟩
    have none_up : ∀ {b : Addr}, upd (upd H dx (.own x)) x (.ins (cReader K) dx []) b = none → H b = none := fun {b} h => by
      have n1 : b ≠ x := fun e => by rw [e, upd_same] at h; cases h
      rw [upd_ne n1] at h
      have n2 : b ≠ dx := fun e => by rw [e, upd_same] at h; cases h
      rw [upd_ne n2] at h
      exact h
    have s2 : Same H H2 := fun b o h => kp b o (ne_of_none h hx) (by rw [upd_ne (ne_of_none h hx), upd_ne (ne_of_none h hdx)]; exact h)
    obtain ⟨n0, n1, n2, n3, n4⟩ := nw
    have n0 := none_up n0
    have n2 := none_up n2
    have n3 := none_up n3
    have n4 := none_up n4
    have back : ∀ {H3 : Hp}, Keeps (Mut x rc l0 l1 l2) H2 H3 → Same H H3 := fun {H3} k b o h => by
      refine k b o (fun m => ?_) (s2 b o h)
      rcases m with e | e | e | e | e
      · rw [e, hx] at h; cases h
      · rw [e, n0] at h; cases h
      · rw [e, n2] at h; cases h
      · rw [e, n3] at h; cases h
      · rw [e, n4] at h; cases h
    have three : ∀ {l : Addr}, ThingsAt K H2 l [] → th ≠ l := fun {l} t e => by
      obtain ⟨qs, h1, h2⟩ := t
      cases h2
      have h3 := R.th
      rw [e, h1] at h3
      injection h3 with h3
      injection h3 with h3
      cases h3
    refine ⟨_, rfl, x, dx, _, rfl, rd, rfl, _, rfl, x, a, b, rc, dx, dr, th, l0, l1, l2, rfl, ⟨rd, R, (fun _ m => nomatch m), ds.1, ds.2.1, ds.2.2, three R.m0, three R.m1, three R.m2⟩, s2.seq hs, few, fun H3 r er B R3 k => ?_, fun cls d H3 e er fv k => ?_⟩
    · exact q H3 rc r er B ⟨_, _, _, _, _, R3⟩ (back k)
    · exact qE cls d H3 e er fv (back k)
/-! ### Refused, want -/
abbrev cRefused (K : PySem.W.Frag) : Addr := ga K "Refused"
def spRefusedI (K : PySem.W.Frag) : Sp := fun vs H Q _ => ∃ a v1, vs = [.ref a, v1] ∧ H a = some (exo a (cRefused K) none) ∧
  ∀ H2 d, H d = none → d ≠ a → H2 a = some (exo a (cRefused K) (some d)) → H2 d = some (exd d [(("numbers" : Str), v1)]) → (∀ b, b ≠ a → b ≠ d → H2 b = H b) → Q .non H2
theorem sc_Refused_init : FnScope ["self", "numbers"] ["self", "numbers"] (defScope s_Refused_init) := ⟨rfl, rfl, rfl, by decide +kernel, rfl, by decide +kernel, by decide +kernel⟩
abbrev RefAt (K : PySem.W.Frag) (mg : Str → Option Value) : Prop := ErrAt K mg "Refused" "Refused.__init__" s_Refused_init ["numbers"]
theorem fn_Refused (Er : RefAt K mg) : ∃ fd, FnOk P w K mg base CX0 1 (ma K (cRefused K) "__init__") fd ["self", "numbers"] (spRefusedI K) ∧ Binds K fd ["self", "numbers"] [] := by
  obtain ⟨fd, F⟩ := Er.f
  refine ⟨fd, ?_, F.binds fun _ _ _ _ _ _ us hl => match us, hl with | [_, _], _ => rfl⟩
  refine F.ok sc_Refused_init (fun vs H Q E h => ?_) (fun cdv A outer s H vs Q E hr h => ?_)
  · obtain ⟨a, v1, rfl, _⟩ := h
    rfl
  · refine ⟨_, pss_cons (ps_expr (pe_veinit (by rfl) Er.mgv Er.ve (pa_cons (pv 0) (pa_cons pe_str pa_nil)))) (pss_one (ps_ost (pv 0) (pv 1))), ?_⟩
    obtain ⟨a, v1, rfl, at0, q⟩ := h
    refine ⟨_, rfl, a, cRefused K, _, rfl, by decide, Er.oc, at0, ?_⟩
    refine ⟨_, rfl, _, rfl, a, cRefused K, rfl, Er.oc, Er.no _ (by simp), .inl ⟨at0, fun d hd ne => ?_⟩⟩
    exact q _ d hd ne (by rw [upd_same]) (by rw [upd_ne ne, upd_same]) fun b n1 n2 => by rw [upd_ne n1, upd_ne n2]
theorem fh_Refused (Er : RefAt K mg) : ∃ fd, L2H.FnH P w K mg base CX0 1 (ma K (cRefused K) "__init__") fd ["self", "numbers"] (spRefusedI K) ∧ Binds K fd ["self", "numbers"] [] := by
  obtain ⟨fd, F⟩ := Er.f
  refine ⟨fd, ?_, F.binds fun _ _ _ _ _ _ us hl => match us, hl with | [_, _], _ => rfl⟩
  refine okHot F sc_Refused_init (fun vs H Q E h => ?_) (fun cdv A outer s H vs Q E p hot hr h => ?_)
  · obtain ⟨a, v1, rfl, _⟩ := h
    rfl
  · refine ⟨_, pss_cons (ps_expr (pe_veinit (by rfl) Er.mgv Er.ve (pa_cons (pv 0) (pa_cons pe_str pa_nil)))) (pss_one (ps_ost (pv 0) (pv 1))), ?_⟩
    obtain ⟨a, v1, rfl, at0, q⟩ := h
    refine ⟨_, rfl, a, cRefused K, _, rfl, by decide, Er.oc, at0, ?_⟩
    refine ⟨_, rfl, _, rfl, a, cRefused K, rfl, Er.oc, Er.no _ (by simp), .inl ⟨at0, fun d hd ne => ?_⟩⟩
    exact q _ d hd ne (by rw [upd_same]) (by rw [upd_ne ne, upd_same]) fun b n1 n2 => by rw [upd_ne n1, upd_ne n2]
/-- a refusal that flies: its numbers -/
def RefV (K : PySem.W.Frag) (H : Hp) (cls : Value) (d : Option Addr) (ns : List Int) : Prop := cls = .ref (cRefused K) ∧ ∃ dd l, d = some dd ∧ H dd = some (.xd [(("numbers" : Str), .ref l)]) ∧ H l = some (.lst (ns.map V.int))
theorem raise_refused {H : Hp} {a : Addr} (ha : H a = none) {v1 : V} {Q : XK} (h : ∀ d H3, H3 d = some (.xd [(("numbers" : Str), v1)]) → Same H H3 → Q (.ref (cRefused K)) (some d) H3) :
    spRefusedI K [.ref a, v1] (upd H a (exo a (cRefused K) none)) (fun v H2 => v = .non ∧ ∃ (d : Addr) (fs : List (Str × V)), H2 a = some (exo a (cRefused K) (some d)) ∧ H2 d = some (exd d fs) ∧ H d = none ∧ Q (.ref (cRefused K)) (some d) (upd (del H2 a) d (.xd fs))) (fun _ _ _ => False) := by
  refine ⟨a, v1, rfl, upd_same, fun H2 d hd ne e1 e2 ot => ⟨rfl, d, _, e1, e2, ?_, ?_⟩⟩
  · rw [upd_ne ne] at hd
    exact hd
  · refine h d _ upd_same fun b o hb => ?_
    have nb : b ≠ a := ne_of_none hb ha
    have hd2 : H d = none := by rw [upd_ne ne] at hd; exact hd
    have nd : b ≠ d := ne_of_none hb hd2
    rw [upd_ne nd, del_ne nb, ot b nb nd, upd_ne nb]
    exact hb
def spWant (K : PySem.W.Frag) : Sp := fun vs H Q E => ∃ (good : Bool) (code : Int), vs = [.bl good, .int code] ∧ (good = true → Q .non H) ∧ (good = false → ∀ cls d H2, RefV K H2 cls d [code] → Same H H2 → E cls d H2)
theorem sc_want : FnScope ["good", "code"] ["good", "code"] (defScope s_want) := ⟨rfl, rfl, rfl, by decide +kernel, rfl, by decide +kernel, by decide +kernel⟩
theorem cl_want (D : DefAt K mg "want" s_want) (Er : RefAt K mg) : Callee P w K mg base (L2.CX P w) 3 "want" (spWant K) := by
  obtain ⟨g, fd, F⟩ := D
  obtain ⟨fdF, FF, bF⟩ := fn_Refused (P := P) (w := w) (base := base) Er
  refine ⟨⟨fd, ["good", "code"], g, F.kp, ?_, F.binds fun _ _ _ _ _ _ us hl => match us, hl with | [_, _], _ => rfl⟩⟩
  refine F.okX sc_want (fun vs H Q E h => ?_) (fun cdv A outer s H vs Q E hr h => ?_)
  · obtain ⟨a, b, rfl, _⟩ := h
    rfl
  · have tk : L2.Takes (cxOf (L2.CX P w) P w K mg base ["good", "code"] "want" (defScope s_want) (ga K "want") cdv A outer s H E) (fun cls d _ H => E cls d H) := L2.takes_of rfl rfl rfl rfl
    refine ⟨_, pss_one (ps_if (pt_not (pt_val (pv 0))) (pss_one (L2.ps_raise rfl tk (pmk_oex Er.oc Er.iC Er.tI FF hr bF .nil passNo (by rfl) Er.g (pa_cons (pe_lst (pa_cons (pv 1) pa_nil)) pa_nil)))) pss_nil), ?_⟩
    obtain ⟨good, code, rfl, q1, q0⟩ := h
    refine ⟨_, rfl, _, rfl, iteN (fun h1 => q1 h1) (fun h0 => ?_)⟩
    refine ⟨_, rfl, by show 1 ≤ sizeLine; decide, fun l hl => ⟨by simp, fun a ha => ?_⟩⟩
    exact raise_refused ha fun d H3 h3 s3 => q0 h0 _ _ H3 ⟨rfl, d, l, rfl, h3, s3 _ _ upd_same⟩ ((Same.new hl).trans s3)
end
end Cl
set_option maxHeartbeats 4000000
namespace Cl
open PySem PySem.Spec PyProof.Rows L2
open He (ga ma)
section
variable {X : Cx} {CX : CXT} {j k : Nat} {x : Str} {sp : Sp} {E : L2.St → XK} {e : Expr} {es : List Expr} {t : TA} {p pos : Pos}
theorem pe_clS (c : Callee X.prog X.w X.K X.mg X.base CX k x sp) (hr : Room j X.A) (hk : k ≤ j) (hg : Gl X x) (hx : ∀ σ, PassesAt CX X σ (E σ)) (ha : PA X (e :: es) t) (hdb : (x == ("__debug__" : Str)) = false := by decide)
    (he : starEach (e :: es) X.env = (false, eval e X.env) :: starEach es X.env := by rfl) (hpl : (backTo pos (starEach es X.env)).any (·.1) = false := by rfl) :
    PE X (.Call (.Name x p) (e :: es) [] pos) (tCallS sp E t) := by
  obtain ⟨fd, ps, g, kp, F, b⟩ := c.ex
  exact pe_callS F (hr.mono hk) hg g kp b hx ha hdb he hpl
end
/-- what the calls' module asks of its names -/
structure CT (K : PySem.W.Frag) (mg : Str → Option Value) : Prop where

  TOO_LONG : Num mg "TOO_LONG" (-2)
  FAULTY : Num mg "FAULTY" (-6)
  MOST_TEXT : Num mg "MOST_TEXT" 16384
  exmF : PySem.W.exmOne K (.ref (cFault K)) (.ref (cFault K)) = some true
  exmR : PySem.W.exmOne K (.ref (cRefused K)) (.ref (cRefused K)) = some true
/-- a text that is read: the recipe, or the numbers of the refusal -/
def inOf (more : Nat) (b : Br.Bytes) : Except (List Int) Br.Recipe := match Br.readRecipe b with
  | .error e => .error [-6, (e.1 : Int), ((e.2 + more : Nat) : Int)]
  | .ok r => .ok r
def toldOf (b : Br.Bytes) : Except (List Int) Br.Recipe := if b.length ≤ 16384 then inOf 0 b else .error [-2]
section
variable {P : Program} {w : World} {K : PySem.W.Frag} {mg : Str → Option Value} {base : Heap}
/-! ### recipe_in -/
def spRecipeIn (K : PySem.W.Frag) : Sp := fun vs H Q E => ∃ (a : Addr) (b : Br.Bytes) (more : Nat), vs = [.ref a, .int (more : Int)] ∧ SqL K H a (bV b) ∧ b.length ≤ 20000 ∧
  (∀ H2 rc r, inOf more b = .ok r → Built r → RecV K H2 rc r → Same H H2 → Q (.ref rc) H2) ∧ ∀ cls d H2 ns, inOf more b = .error ns → RefV K H2 cls d ns → Same H H2 → E cls d H2
theorem sc_recipe_in : FnScope ["text", "more", "found", "e"] ["text", "more"] (defScope s_recipe_in) := ⟨rfl, rfl, rfl, by decide +kernel, rfl, by decide +kernel, by decide +kernel⟩
theorem cl_recipe_in (D : DefAt K mg "recipe_in" s_recipe_in) (T : CT K mg) (ErF : ErrAt K mg "Fault" "Fault.__init__" s_Fault_init ["line", "why"]) (Er : RefAt K mg) (cRec : Callee P w K mg base (L2N.CX P w) 6 "recipe_of" (spRecipeOf K)) : Callee P w K mg base (L2.CX P w) 7 "recipe_in" (spRecipeIn K) := by
  obtain ⟨g, fd, F⟩ := D
  obtain ⟨fdF, FF, bF⟩ := fh_Refused (P := P) (w := w) (base := base) Er
  refine ⟨⟨fd, ["text", "more"], g, F.kp, ?_, F.binds fun _ _ _ _ _ _ us hl => match us, hl with | [_, _], _ => rfl⟩⟩
  refine F.okX sc_recipe_in (fun vs H Q E h => ?_) (fun cdv A outer s H vs Q E hr h => ?_)
  · obtain ⟨a, b, more, rfl, _⟩ := h
    rfl
  · have tk : L2.Takes (cxOf (L2.CX P w) P w K mg base ["text", "more", "found", "e"] "recipe_in" (defScope s_recipe_in) (ga K "recipe_in") cdv A outer s H E) (fun cls d _ H => E cls d H) := L2.takes_of rfl rfl rfl rfl
    refine ⟨_, pss_cons (ps_try_asR rfl rfl sc_recipe_in.nd (i := 3) rfl rfl ⟨by rfl, by decide, .inl ErF.g⟩ (L2H.passesAt_of rfl) tk
        (fun W pn xe tkW _ => pss_one (ps_set (i := 2) sc_recipe_in.nd rfl (Or.inl rfl) (pe_clS (E := WE W) cRec hr (Nat.le_refl _) (by rfl) (fun σ => L2N.passAt tkW σ) (pa_cons (pv 0) pa_nil))))
        (fun a oe cls d pn xe hz hf tkS hot => pss_one (L2H.ps_raiseHN hot tkS (L2H.pmk5_oexH Er.oc Er.iC Er.tI FF (L2H.roomH_mark (hr.mono (by decide)) _) hot bF passNo (by rfl) Er.g
          (pa_cons (pe_lst (pa_cons (pe_num (by rfl) T.FAULTY) (pa_cons (PE.nox (pe_xf ErF.xf (ErF.no "line" (by simp)) hz.zc hf (pv 3))) (pa_cons (pe_op op_add (PE.nox (pe_xf ErF.xf (ErF.no "why" (by simp)) hz.zc hf (pv 3))) (pv 1)) pa_nil)))) pa_nil)))))
      (pss_one (ps_ret (pv 2))), ?_⟩
    obtain ⟨a, b, more, rfl, hs, few, q, qE⟩ := h
    refine ⟨_, rfl, a, b, rfl, hs, few, fun H2 rc r er B R s2 => ?_, fun cls d H2 e er fv s2 => ?_⟩
    · refine ⟨_, rfl, q H2 rc r ?_ B R s2⟩
      unfold inOf
      rw [er]
    · obtain ⟨ec, dd, ed, hd⟩ := fv
      refine ⟨by rw [ec]; exact T.exmF, fun ax hax => ?_⟩
      refine ⟨_, rfl, rfl, ec, dd, _, _, ed, hd, rfl, _, rfl, rfl, ec, dd, _, _, ed, hd, rfl, _, rfl, _, _, rfl, rfl, by show 3 ≤ sizeLine; decide, fun l hl => ⟨by simp, fun a2 ha2 => ?_⟩⟩
      refine raise_refused ha2 fun d3 H3 h3 s3 => qE _ _ H3 [-6, (e.1 : Int), ((e.2 + more : Nat) : Int)] ?_ ⟨rfl, d3, l, rfl, h3, s3 _ _ upd_same⟩ (s2.trans ((Same.new hl).trans s3))
      unfold inOf
      rw [er]
end
end Cl
set_option maxHeartbeats 4000000
namespace Cl
open PySem PySem.Spec PyProof.Rows L2
open He (ga ma)
/-! ### facts of the written part, as Bools -/
def oexB (K : PySem.W.Frag) (C : Addr) : Bool := (match K.lookup C with
  | some ⟨.type t, _, .cls cd, sl⟩ => (match cd.mro, sl.toList with
    | .ref D :: bm, [_, _, _, _, some (.builtin n), _] => decide (t = "type") && (decide (D = C) && (decide (n = "ValueError.__new__") && (!cd.hasDel && (cd.hasDict && PySem.HandSPX.refsVE bm))))
    | _, _ => false)
  | _ => false) && (He.eqO (PySem.W.findIn K (.ref C) "__setattr__") (some (some (.builtin "object.__setattr__"))) &&
    (decide (PySem.W.subIn K (.ref C) (.type "BaseException") = some true) && (decide (PySem.W.typeIn K (.ref C) = some (.type "type")) && PySem.W.keepIn K (.ref C))))
theorem oexB_ok {K : PySem.W.Frag} {C : Addr} (h : oexB K C = true) : OexC K C := by
  obtain ⟨h1, h⟩ := He.ba h
  obtain ⟨h2, h⟩ := He.ba h
  obtain ⟨h3, h⟩ := He.ba h
  obtain ⟨h4, h5⟩ := He.ba h
  refine ⟨?_, He.eqO_ok h2, of_decide_eq_true h3, of_decide_eq_true h4, h5⟩
  split at h1
  · rename_i t dd cd sl ho
    split at h1
    · rename_i D bm k0 k1 k2 k3 n k5 hm hs
      obtain ⟨a1, h⟩ := He.ba h1
      obtain ⟨a2, h⟩ := He.ba h
      obtain ⟨a3, h⟩ := He.ba h
      obtain ⟨a4, h⟩ := He.ba h
      obtain ⟨a5, a6⟩ := He.ba h
      have a1 := of_decide_eq_true a1
      have a2 := of_decide_eq_true a2
      have a3 := of_decide_eq_true a3
      subst a1 a2 a3
      obtain ⟨nm, bs, mro, ns, qn, hd, sn, sub, ab, col, del⟩ := cd
      dsimp only at hm a4 a5
      subst hm a5
      have a4 : del = false := by cases del <;> first | rfl | cases a4
      subst a4
      have hsl : sl = #[k0, k1, k2, k3, some (.builtin "ValueError.__new__"), k5] := by
        obtain ⟨l⟩ := sl
        simp only at hs
        rw [hs]
      subst hsl
      exact ⟨nm, qn, ns, bs, bm, sn, sub, ab, col, dd, k0, k1, k2, k3, k5, ho, a6⟩
    · cases h1
  · cases h1
def veB (K : PySem.W.Frag) : Bool := match PySem.W.findCls K (.type "ValueError") (.type "type") "__init__" with
  | some (.val (.builtin n)) => decide (n = "ValueError.__init__")
  | _ => false
theorem veB_ok {K : PySem.W.Frag} (h : veB K = true) : PySem.W.findCls K (.type "ValueError") (.type "type") "__init__" = some (.val (.builtin "ValueError.__init__")) := by
  unfold veB at h
  split at h
  · rename_i n e
    rw [e, of_decide_eq_true h]
  · cases h
def errB (K : PySem.W.Frag) (x : Str) (fs : List Str) : Bool := oexB K (ga K x) && (xfB K (ga K x) && (He.eqO (PySem.W.findIn K (.ref (ga K x)) "__init__") (some (some (.ref (ma K (ga K x) "__init__")))) &&
  (decide (PySem.W.typeIn K (.ref (ma K (ga K x) "__init__")) = some (.type "function")) && ((fs.all fun f => He.eqO (PySem.W.findIn K (.ref (ga K x)) f) (some none)) && veB K))))
theorem errB_ok {K : PySem.W.Frag} {mg : Str → Option Value} {x qual : Str} {st : Stmt} {fs : List Str} (h : errB K x fs = true) (g : mg x = some (.ref (ga K x))) (mgv : mg "ValueError" = none) (f : ∃ fd, Fun K "__init__" qual st (ma K (ga K x) "__init__") fd) : ErrAt K mg x qual st fs := by
  obtain ⟨h1, h⟩ := He.ba h
  obtain ⟨h2, h⟩ := He.ba h
  obtain ⟨h3, h⟩ := He.ba h
  obtain ⟨h4, h⟩ := He.ba h
  obtain ⟨h5, h6⟩ := He.ba h
  exact ⟨g, oexB_ok h1, xfB_ok h2, He.eqO_ok h3, of_decide_eq_true h4, f, fun z m => He.eqO_ok (List.all_eq_true.mp h5 z m), mgv, veB_ok h6⟩
/-! ### tuples of the module -/
theorem KTup.of {K : PySem.W.Frag} {a : Addr} {xs : List V} (h : ∀ H, SqT K H a xs) : KTup K a xs := by
  rcases h (fun _ => none) with (h | ⟨o, h⟩) | h
  · cases h
  · cases h
  · exact h
def seqT (K : PySem.W.Frag) (a : Addr) : Option (List Value) := match K.lookup a with
  | some ⟨.type c, _, .seq its _, _⟩ => if c = "tuple" ∧ its.size ≤ sizeLine then some its.toList else none
  | _ => none
theorem seqT_ok {K : PySem.W.Frag} {a : Addr} {us : List Value} {xs : List V} (h : seqT K a = some us) (r : Vals xs us) : KTup K a xs := by
  unfold seqT at h
  split at h
  · rename_i c dd its n sl e
    split at h
    · rename_i q
      cases h
      exact ⟨_, its, n, e, by rw [q.1], rfl, q.2, r⟩
    · cases h
  · cases h
def refs2 {β : Type} (f : Addr → β → Bool) : List Value → List β → Bool
  | [], [] => true
  | .ref q :: us, b :: bs => f q b && refs2 f us bs
  | _, _ => false
theorem refs2_ok {β : Type} {f : Addr → β → Bool} : ∀ {us : List Value} {bs : List β}, refs2 f us bs = true → ∃ qs : List Addr, Vals (qs.map V.ref) us ∧ All2 (fun q b => f q b = true) qs bs
  | [], [], _ => ⟨[], .nil, .nil⟩
  | .ref q :: us, b :: bs, h => by
    obtain ⟨h1, h2⟩ := He.ba (show (f q b && refs2 f us bs) = true from h)
    obtain ⟨qs, r, a⟩ := refs2_ok h2
    exact ⟨q :: qs, .cons rfl r, .cons h1 a⟩
  | [], _ :: _, h => by cases h
  | .ref _ :: _, [], h => by cases h
  | .none :: _, bs, h => by cases bs <;> cases h
  | .bool _ :: _, bs, h => by cases bs <;> cases h
  | .int _ _ :: _, bs, h => by cases bs <;> cases h
  | .float _ _ :: _, bs, h => by cases bs <;> cases h
  | .str _ _ :: _, bs, h => by cases bs <;> cases h
  | .bytes _ _ :: _, bs, h => by cases bs <;> cases h
  | .type _ :: _, bs, h => by cases bs <;> cases h
  | .builtin _ :: _, bs, h => by cases bs <;> cases h
def pairB (K : PySem.W.Frag) (q : Addr) (b : Nat × Nat) : Bool := match seqT K q with
  | some [.int i _, .int j _] => decide (i = (b.1 : Int)) && decide (j = (b.2 : Int))
  | _ => false
theorem pairB_ok {K : PySem.W.Frag} {q : Addr} {b : Nat × Nat} (h : pairB K q b = true) : PairAt K q b := by
  unfold pairB at h
  split at h
  · rename_i i t j u e
    obtain ⟨h1, h2⟩ := He.ba h
    exact seqT_ok e (.cons ⟨t, by rw [of_decide_eq_true h1]⟩ (.cons ⟨u, by rw [of_decide_eq_true h2]⟩ .nil))
  · cases h
def pairsB (K : PySem.W.Frag) (q : Addr) (bs : List (Nat × Nat)) : Bool := match seqT K q with
  | some us => refs2 (pairB K) us bs
  | none => false
theorem pairsB_ok {K : PySem.W.Frag} {q : Addr} {bs : List (Nat × Nat)} (h : pairsB K q bs = true) : PairsAt K q bs := by
  unfold pairsB at h
  split at h
  · rename_i us e
    obtain ⟨ps, r, a⟩ := refs2_ok h
    exact ⟨ps, seqT_ok e r, a.mono fun _ _ z => pairB_ok z⟩
  · cases h
def tabB (K : PySem.W.Frag) : Bool := He.tupB K "WORDS" (WSTR.map He.Dv.str) && (He.tupB K "NAMED" (NAMED.map He.Dv.bl) && (match seqT K (ga K "BOUNDS") with
  | some us => refs2 (pairsB K) us BOUNDS
  | none => false))
theorem tabB_ok {K : PySem.W.Frag} {mg : Str → Option Value} (h : tabB K = true) (g1 : mg "WORDS" = some (.ref (ga K "WORDS"))) (g2 : mg "NAMED" = some (.ref (ga K "NAMED"))) (g3 : mg "BOUNDS" = some (.ref (ga K "BOUNDS"))) : RTab K mg := by
  obtain ⟨h1, h⟩ := He.ba h
  obtain ⟨h2, h3⟩ := He.ba h
  refine ⟨⟨g1, KTup.of fun H => ?_⟩, ⟨g2, KTup.of fun H => ?_⟩, g3, ?_⟩
  · have := He.tupB_ok h1 H
    rw [List.map_map] at this
    exact this
  · have := He.tupB_ok h2 H
    rw [List.map_map] at this
    exact this
  · split at h3
    · rename_i us e
      obtain ⟨qs, r, a⟩ := refs2_ok h3
      exact ⟨qs, seqT_ok e r, a.mono fun _ _ z => pairsB_ok z⟩
    · cases h3
/-! ### facts by names -/
section
variable {K : PySem.W.Frag} {h : Heap} {mg : Str → Option Value} {fa : List He.Fa} {fn : List He.DefD}
/-- what the head says -/
structure Says (fa : List He.Fa) (fn : List He.DefD) (K : PySem.W.Frag) (h : Heap) (mg : Str → Option Value) : Prop where
  x : K.In h
  g : h.Ns mainGlobals mg
  c : He.SaysD fa fn K
theorem Says.glo (S : Says fa fn K h mg) {x : Str} (m : He.Fa.glo x ∈ fa) : mg x = some (.ref (ga K x)) := He.glo_ok S.x S.g (S.c.facts m)
theorem Says.free (S : Says fa fn K h mg) {x : Str} (m : He.Fa.free x ∈ fa) : mg x = none := He.free_ok S.x S.g (S.c.facts m)
theorem Says.int (S : Says fa fn K h mg) {x : Str} {i : Int} (m : He.Fa.int x i ∈ fa) : Num mg x i := He.int_ok S.x S.g (S.c.facts m)
def dfn (x : Str) (st : Stmt) : He.DefD := ⟨(x, none), x, x, defArgs st, defBody st, defScope st, [], []⟩
def dme (C m q : Str) (st : Stmt) : He.DefD := ⟨(C, some m), m, q, defArgs st, defBody st, defScope st, [], []⟩
theorem Says.def_ (S : Says fa fn K h mg) {x : Str} {st : Stmt} (m : He.Fa.glo x ∈ fa) (d : dfn x st ∈ fn) : DefAt K mg x st := by
  obtain ⟨fd, F⟩ := S.c.defs d
  exact ⟨S.glo m, fd, He5.fun_of F⟩
theorem Says.fme (S : Says fa fn K h mg) {C m q : Str} {st : Stmt} (d : dme C m q st ∈ fn) : ∃ fd, Fun K m q st (ma K (ga K C) m) fd := by
  obtain ⟨fd, F⟩ := S.c.defs d
  exact ⟨fd, He5.fun_of F⟩
theorem Says.meth (S : Says fa fn K h mg) {C m q : Str} {st : Stmt} (f : He.Fa.meth C m ∈ fa) (d : dme C m q st ∈ fn) : MethAt K C m q st := ⟨He.meth_ok (S.c.facts f), S.fme d⟩
theorem Says.mkr (S : Says fa fn K h mg) {C q : Str} {st : Stmt} (g : He.Fa.glo C ∈ fa) (f : He.Fa.mkr C ∈ fa) (d : dme C "__init__" q st ∈ fn) : MakeAt K mg C q st := ⟨S.glo g, He.mkr_ok (S.c.facts f), S.fme d⟩
theorem Says.kl (S : Says fa fn K h mg) {C : Str} {fs : List Str} (g : He.Fa.glo C ∈ fa) (c : He.Fa.cls C ∈ fa) (n : ∀ f ∈ fs, He.Fa.noat C f ∈ fa) : Kl K mg C fs := ⟨S.glo g, He.cls_ok (S.c.facts c), fun f m => He.noat_ok (S.c.facts (n f m))⟩
end
/-! ### the end of a Spec row over a head by facts -/
/-- F gives the written part, the function object, the promise over every base -/
theorem walk_facts {r : PySem.W.OpenSpec} {k : Nat} {q : Program} {loose : List Str} {XP : (Str → Option Value) → Heap → Prop} {YP : World → Heap → Prop} {d : DefRec} {CX : World → CXT} {ps : List Str}
    (said : r.wellSaid = true) (nod : d.params.defaults = []) (lenA : r.args.length = ps.length) (room : Room k callerA)
    (F : ∀ (w : World) (mg : Str → Option Value) (f0 : Addr) (h : Heap), YP w h → h.Ns mainGlobals mg → mg d.name = some (.ref f0) →
      ∃ (K : PySem.W.Frag) (fd : FuncData) (sp : Sp), K.In h ∧ (∀ (s : Shared) (us : List Value), us.length = ps.length → BindsTo s fd ⟨us, []⟩ (ps.zip us)) ∧
        (∀ base : Heap, K.In base → base.Ns mainGlobals mg → FnOk r.prog w K mg base (CX w) k f0 fd ps sp) ∧
        ∀ (H : Hp) (xs : List V) (a : PySem.W.Codec.denoteAll r.args), OnlyF H → PySem.W.Codec.withinAll r.args a = true → PySem.W.Codec.app r.args r.asked a = true → DwAll K H xs (PySem.W.Codec.encAll r.args a) →
          sp xs H (fun v H2 => Dw K H2 v (r.ret.enc (PySem.W.Codec.app r.args r.f a))) fun _ _ _ => False)
    (noX : ∀ (w : World) (H : Hp) (s : Shared) (e : Value) (s2 : Shared), CX w [] H s (fun _ _ _ => False) e s2 → False) :
    PySem.W.WalkOS q loose XP YP r d [] (fun f vs => PySem.call f vs) := by
  intro w s0 s1 mg mb G Y fa o pm cd doc dV kV ho hd hcd hD hmg hg args vals as pre lay rd wl lo
  obtain ⟨a, e1, e2⟩ := PySem.W.os_pre_some pre
  obtain ⟨e3, win⟩ := PySem.W.Codec.encAll_of_decAll r.args args a e1
  subst e3
  obtain ⟨K, fd, sp, inK, bind, good, wish⟩ := F w mg fa _ Y G.T.g hmg
  have run := spec_call (R := []) (cl := PySem.classAt s0.heap) (d0 := r.ret.enc (PySem.W.Codec.app r.args r.f a)) inK G.T.g G.T.b G.T.builtins G.T.nolimit hg wl (pl_encAll _ _) (layable_weight lay) room good bind (by rw [encAll_len]; exact lenA)
    (fun H xs only st => wish H xs a only win e2 st) fun H e s2 => noX w H s1 e s2
  refine PySem.W.enter_call (codeAny_mono run fun res s2 ends => ?_)
  obtain ⟨u, as2, rfl, h1, h2, h3, h4⟩ := ends
  exact ⟨.inl ⟨u, _, as2, rfl, fun _ => rfl, h1, (PySem.W.OpenSpec.post_iff said win _ _).mpr rfl, fun z => Bool.noConfusion (show false = true from z)⟩, h2, h3, h4⟩
end Cl
set_option maxHeartbeats 0
namespace Cl
open PySem PySem.Spec PyProof.Rows L2
open He (ga ma)
/-! the head: facts by names, the run -/
theorem mem_at {α : Type} {l : List α} (i : Nat) {x : α} (h : l[i]? = some x) : x ∈ l := List.mem_of_getElem? h
def fa : List He.Fa := [.int "LINE_END" (10), .int "BLANK" (32), .int "MOST_NAME" (12), .int "MOST_OF_KIND" (16), .int "MOST_FIGURES" (6), .int "NOT_FORMED" (1), .int "TOO_MUCH" (2), .int "CANT_STAND" (3), .int "CLASHES" (4), .int "MALT" (0), .int "HOP" (1), .int "ADD" (2), .glo "WORDS", .int "RECIPE_LINE" (0), .int "MALT_LINE" (1), .int "HOP_LINE" (2), .int "ADD_LINE" (3), .int "YEAST_LINE" (4), .glo "NAMED", .glo "BOUNDS", .glo "Fault", .exm "Fault" "Fault" true, .glo "Thing", .cls "Thing", .noat "Thing" "name", .noat "Thing" "numbers", .mkr "Thing", .glo "Recipe", .cls "Recipe", .noat "Recipe" "things", .noat "Recipe" "yeast", .mkr "Recipe", .glo "codes", .glo "is_figure", .glo "is_name", .glo "number_of", .glo "parted", .glo "Line", .cls "Line", .noat "Line" "kind", .noat "Line" "name", .noat "Line" "numbers", .mkr "Line", .glo "line_of", .glo "formed", .glo "Reader", .cls "Reader", .noat "Reader" "recipe", .noat "Reader" "last", .meth "Reader" "can_stand", .meth "Reader" "does_clash", .meth "Reader" "why_not", .meth "Reader" "take", .meth "Reader" "read", .mkr "Reader", .glo "recipe_of", .glo "common_part", .glo "lowest", .glo "shares", .glo "are_like", .int "TOO_LONG" (-2), .int "FAULTY" (-6), .int "MOST_TEXT" (16384), .int "SECOND" (16), .glo "Refused", .exm "Refused" "Refused" true, .glo "want", .glo "recipe_in", .glo "like_told", .glo "like", .free "len", .free "all", .free "ord", .free "tuple", .free "enumerate", .free "zip", .free "ValueError", .free "int", .free "list", .free "sorted", .free "sum", .free "max", .free "min", .free "range", .free "abs", .free "any"]
def fn : List He.DefD := [dme "Fault" "__init__" "Fault.__init__" s_Fault_init, dme "Thing" "__init__" "Thing.__init__" s_Thing_init, dme "Recipe" "__init__" "Recipe.__init__" s_Recipe_init, dfn "codes" s_codes, dfn "is_figure" s_is_figure, dfn "is_name" s_is_name, dfn "number_of" s_number_of, dfn "parted" s_parted, dme "Line" "__init__" "Line.__init__" s_Line_init, dfn "line_of" s_line_of, dfn "formed" s_formed, dme "Reader" "__init__" "Reader.__init__" s_Reader_init, dme "Reader" "can_stand" "Reader.can_stand" s_Reader_can_stand, dme "Reader" "does_clash" "Reader.does_clash" s_Reader_does_clash, dme "Reader" "why_not" "Reader.why_not" s_Reader_why_not, dme "Reader" "take" "Reader.take" s_Reader_take, dme "Reader" "read" "Reader.read" s_Reader_read, dfn "recipe_of" s_recipe_of, dfn "common_part" s_common_part, dfn "lowest" s_lowest, dfn "shares" s_shares, dfn "are_like" s_are_like, dme "Refused" "__init__" "Refused.__init__" s_Refused_init, dfn "want" s_want, dfn "recipe_in" s_recipe_in, dfn "like_told" s_like_told, dfn "like" s_like]
def names0 : List Str := ["__name__", "LINE_END", "BLANK", "MOST_NAME", "MOST_OF_KIND", "MOST_FIGURES", "NOT_FORMED", "TOO_MUCH", "CANT_STAND", "CLASHES", "MALT", "HOP", "ADD", "WORDS", "RECIPE_LINE", "MALT_LINE", "HOP_LINE", "ADD_LINE", "YEAST_LINE", "NAMED", "BOUNDS", "Fault", "Thing", "Recipe", "codes", "is_figure", "is_name", "number_of", "parted", "Line"]
def names1 : List Str := ["line_of", "formed", "Reader", "recipe_of", "common_part", "lowest", "shares", "are_like", "TOO_LONG", "FAULTY", "MOST_TEXT", "SECOND", "Refused", "want", "recipe_in", "like_told"]
def names : List Str := names0 ++ names1
def exB (K : PySem.W.Frag) : Bool := errB K "Fault" ["line", "why"] && (errB K "Refused" ["numbers"] && tabB K)
abbrev hk : PySem.W.Hook := He.hookX 6 fa fn [] [] exB
def ob (s : PySem.W.SharedT) : He.AlX := He.obsX 6 fa fn [] [] exB (HandSHeadRun.getT s)
theorem ob_eq (s : PySem.W.SharedT) : ob s = hk.obs s.abs := He.obsX_eq (HandSHeadRun.getT_eq s)
abbrev rw0 : PySem.W.OpenSpec := PySem.Challenge.rw_brewrecipes_s06_like
abbrev place : Nat := 48
theorem run (w : World) : HandSHeadRun.RunEqS rw0 (PySem.W.view rw0.prog [place]) hk ob 4000 names w := by
  intro os
  kernel_rfl
section
variable {K : PySem.W.Frag} {h : Heap} {mg : Str → Option Value}
theorem s_rt (S : Says fa fn K h mg) : RT K mg := ⟨S.int (mem_at 0 rfl), S.int (mem_at 1 rfl), S.int (mem_at 2 rfl), S.int (mem_at 3 rfl), S.int (mem_at 4 rfl), S.int (mem_at 5 rfl), S.int (mem_at 6 rfl), S.int (mem_at 7 rfl), S.int (mem_at 8 rfl), S.int (mem_at 13 rfl), S.int (mem_at 14 rfl), S.int (mem_at 15 rfl), S.int (mem_at 16 rfl), S.int (mem_at 17 rfl), S.free (mem_at 70 rfl), S.free (mem_at 71 rfl), S.free (mem_at 72 rfl), S.free (mem_at 73 rfl), S.free (mem_at 74 rfl), S.free (mem_at 75 rfl)⟩
theorem s_rtab (S : Says fa fn K h mg) (e : tabB K = true) : RTab K mg := tabB_ok e (S.glo (mem_at 12 rfl)) (S.glo (mem_at 18 rfl)) (S.glo (mem_at 19 rfl))
theorem s_ks (S : Says fa fn K h mg) : KS K mg := ⟨S.kl (mem_at 22 rfl) (mem_at 23 rfl) (by simp only [List.forall_mem_cons]; exact ⟨(mem_at 24 rfl), (mem_at 25 rfl), fun _ z => nomatch z⟩), S.kl (mem_at 27 rfl) (mem_at 28 rfl) (by simp only [List.forall_mem_cons]; exact ⟨(mem_at 29 rfl), (mem_at 30 rfl), fun _ z => nomatch z⟩), S.kl (mem_at 37 rfl) (mem_at 38 rfl) (by simp only [List.forall_mem_cons]; exact ⟨(mem_at 39 rfl), (mem_at 40 rfl), (mem_at 41 rfl), fun _ z => nomatch z⟩), S.kl (mem_at 45 rfl) (mem_at 46 rfl) (by simp only [List.forall_mem_cons]; exact ⟨(mem_at 47 rfl), (mem_at 48 rfl), fun _ z => nomatch z⟩)⟩
theorem s_fault (S : Says fa fn K h mg) (e : errB K "Fault" ["line", "why"] = true) : ErrAt K mg "Fault" "Fault.__init__" s_Fault_init ["line", "why"] := errB_ok e (S.glo (mem_at 20 rfl)) (S.free (mem_at 76 rfl)) (S.fme (mem_at 0 rfl))
theorem s_refused (S : Says fa fn K h mg) (e : errB K "Refused" ["numbers"] = true) : RefAt K mg := errB_ok e (S.glo (mem_at 64 rfl)) (S.free (mem_at 76 rfl)) (S.fme (mem_at 22 rfl))
theorem s_ct (S : Says fa fn K h mg) : CT K mg := ⟨S.int (mem_at 60 rfl), S.int (mem_at 61 rfl), S.int (mem_at 62 rfl), He.exm_ok (S.c.facts (mem_at 21 rfl)), He.exm_ok (S.c.facts (mem_at 65 rfl))⟩
theorem n_LINE_END (S : Says fa fn K h mg) : Num mg "LINE_END" (10) := S.int (mem_at 0 rfl)
theorem n_BLANK (S : Says fa fn K h mg) : Num mg "BLANK" (32) := S.int (mem_at 1 rfl)
theorem n_MOST_NAME (S : Says fa fn K h mg) : Num mg "MOST_NAME" (12) := S.int (mem_at 2 rfl)
theorem n_MOST_OF_KIND (S : Says fa fn K h mg) : Num mg "MOST_OF_KIND" (16) := S.int (mem_at 3 rfl)
theorem n_MOST_FIGURES (S : Says fa fn K h mg) : Num mg "MOST_FIGURES" (6) := S.int (mem_at 4 rfl)
theorem n_NOT_FORMED (S : Says fa fn K h mg) : Num mg "NOT_FORMED" (1) := S.int (mem_at 5 rfl)
theorem n_TOO_MUCH (S : Says fa fn K h mg) : Num mg "TOO_MUCH" (2) := S.int (mem_at 6 rfl)
theorem n_CANT_STAND (S : Says fa fn K h mg) : Num mg "CANT_STAND" (3) := S.int (mem_at 7 rfl)
theorem n_CLASHES (S : Says fa fn K h mg) : Num mg "CLASHES" (4) := S.int (mem_at 8 rfl)
theorem n_MALT (S : Says fa fn K h mg) : Num mg "MALT" (0) := S.int (mem_at 9 rfl)
theorem n_HOP (S : Says fa fn K h mg) : Num mg "HOP" (1) := S.int (mem_at 10 rfl)
theorem n_ADD (S : Says fa fn K h mg) : Num mg "ADD" (2) := S.int (mem_at 11 rfl)
theorem n_RECIPE_LINE (S : Says fa fn K h mg) : Num mg "RECIPE_LINE" (0) := S.int (mem_at 13 rfl)
theorem n_MALT_LINE (S : Says fa fn K h mg) : Num mg "MALT_LINE" (1) := S.int (mem_at 14 rfl)
theorem n_HOP_LINE (S : Says fa fn K h mg) : Num mg "HOP_LINE" (2) := S.int (mem_at 15 rfl)
theorem n_ADD_LINE (S : Says fa fn K h mg) : Num mg "ADD_LINE" (3) := S.int (mem_at 16 rfl)
theorem n_YEAST_LINE (S : Says fa fn K h mg) : Num mg "YEAST_LINE" (4) := S.int (mem_at 17 rfl)
theorem n_TOO_LONG (S : Says fa fn K h mg) : Num mg "TOO_LONG" (-2) := S.int (mem_at 60 rfl)
theorem n_FAULTY (S : Says fa fn K h mg) : Num mg "FAULTY" (-6) := S.int (mem_at 61 rfl)
theorem n_MOST_TEXT (S : Says fa fn K h mg) : Num mg "MOST_TEXT" (16384) := S.int (mem_at 62 rfl)
theorem n_SECOND (S : Says fa fn K h mg) : Num mg "SECOND" (16) := S.int (mem_at 63 rfl)
theorem b_int (S : Says fa fn K h mg) : mg "int" = none := S.free (mem_at 77 rfl)
theorem b_list (S : Says fa fn K h mg) : mg "list" = none := S.free (mem_at 78 rfl)
theorem b_sorted (S : Says fa fn K h mg) : mg "sorted" = none := S.free (mem_at 79 rfl)
theorem b_sum (S : Says fa fn K h mg) : mg "sum" = none := S.free (mem_at 80 rfl)
theorem b_max (S : Says fa fn K h mg) : mg "max" = none := S.free (mem_at 81 rfl)
theorem b_min (S : Says fa fn K h mg) : mg "min" = none := S.free (mem_at 82 rfl)
theorem b_range (S : Says fa fn K h mg) : mg "range" = none := S.free (mem_at 83 rfl)
theorem b_zip (S : Says fa fn K h mg) : mg "zip" = none := S.free (mem_at 75 rfl)
theorem b_enumerate (S : Says fa fn K h mg) : mg "enumerate" = none := S.free (mem_at 74 rfl)
theorem b_len (S : Says fa fn K h mg) : mg "len" = none := S.free (mem_at 70 rfl)
theorem b_all (S : Says fa fn K h mg) : mg "all" = none := S.free (mem_at 71 rfl)
theorem d_codes (S : Says fa fn K h mg) : DefAt K mg "codes" s_codes := S.def_ (mem_at 32 rfl) (mem_at 3 rfl)
theorem d_is_figure (S : Says fa fn K h mg) : DefAt K mg "is_figure" s_is_figure := S.def_ (mem_at 33 rfl) (mem_at 4 rfl)
theorem d_is_name (S : Says fa fn K h mg) : DefAt K mg "is_name" s_is_name := S.def_ (mem_at 34 rfl) (mem_at 5 rfl)
theorem d_number_of (S : Says fa fn K h mg) : DefAt K mg "number_of" s_number_of := S.def_ (mem_at 35 rfl) (mem_at 6 rfl)
theorem d_parted (S : Says fa fn K h mg) : DefAt K mg "parted" s_parted := S.def_ (mem_at 36 rfl) (mem_at 7 rfl)
theorem d_line_of (S : Says fa fn K h mg) : DefAt K mg "line_of" s_line_of := S.def_ (mem_at 43 rfl) (mem_at 9 rfl)
theorem d_formed (S : Says fa fn K h mg) : DefAt K mg "formed" s_formed := S.def_ (mem_at 44 rfl) (mem_at 10 rfl)
theorem d_recipe_of (S : Says fa fn K h mg) : DefAt K mg "recipe_of" s_recipe_of := S.def_ (mem_at 55 rfl) (mem_at 17 rfl)
theorem d_common_part (S : Says fa fn K h mg) : DefAt K mg "common_part" s_common_part := S.def_ (mem_at 56 rfl) (mem_at 18 rfl)
theorem d_lowest (S : Says fa fn K h mg) : DefAt K mg "lowest" s_lowest := S.def_ (mem_at 57 rfl) (mem_at 19 rfl)
theorem d_shares (S : Says fa fn K h mg) : DefAt K mg "shares" s_shares := S.def_ (mem_at 58 rfl) (mem_at 20 rfl)
theorem d_are_like (S : Says fa fn K h mg) : DefAt K mg "are_like" s_are_like := S.def_ (mem_at 59 rfl) (mem_at 21 rfl)
theorem d_want (S : Says fa fn K h mg) : DefAt K mg "want" s_want := S.def_ (mem_at 66 rfl) (mem_at 23 rfl)
theorem d_recipe_in (S : Says fa fn K h mg) : DefAt K mg "recipe_in" s_recipe_in := S.def_ (mem_at 67 rfl) (mem_at 24 rfl)
theorem d_like_told (S : Says fa fn K h mg) : DefAt K mg "like_told" s_like_told := S.def_ (mem_at 68 rfl) (mem_at 25 rfl)
theorem d_like (S : Says fa fn K h mg) : DefAt K mg "like" s_like := S.def_ (mem_at 69 rfl) (mem_at 26 rfl)
theorem d_Thing (S : Says fa fn K h mg) : MakeAt K mg "Thing" "Thing.__init__" s_Thing_init := S.mkr (mem_at 22 rfl) (mem_at 26 rfl) (mem_at 1 rfl)
theorem d_Recipe (S : Says fa fn K h mg) : MakeAt K mg "Recipe" "Recipe.__init__" s_Recipe_init := S.mkr (mem_at 27 rfl) (mem_at 31 rfl) (mem_at 2 rfl)
theorem d_Line (S : Says fa fn K h mg) : MakeAt K mg "Line" "Line.__init__" s_Line_init := S.mkr (mem_at 37 rfl) (mem_at 42 rfl) (mem_at 8 rfl)
theorem d_Reader_can_stand (S : Says fa fn K h mg) : MethAt K "Reader" "can_stand" "Reader.can_stand" s_Reader_can_stand := S.meth (mem_at 49 rfl) (mem_at 12 rfl)
theorem d_Reader_does_clash (S : Says fa fn K h mg) : MethAt K "Reader" "does_clash" "Reader.does_clash" s_Reader_does_clash := S.meth (mem_at 50 rfl) (mem_at 13 rfl)
theorem d_Reader_why_not (S : Says fa fn K h mg) : MethAt K "Reader" "why_not" "Reader.why_not" s_Reader_why_not := S.meth (mem_at 51 rfl) (mem_at 14 rfl)
theorem d_Reader_take (S : Says fa fn K h mg) : MethAt K "Reader" "take" "Reader.take" s_Reader_take := S.meth (mem_at 52 rfl) (mem_at 15 rfl)
theorem d_Reader_read (S : Says fa fn K h mg) : MethAt K "Reader" "read" "Reader.read" s_Reader_read := S.meth (mem_at 53 rfl) (mem_at 16 rfl)
theorem d_Reader (S : Says fa fn K h mg) : MakeAt K mg "Reader" "Reader.__init__" s_Reader_init := S.mkr (mem_at 45 rfl) (mem_at 54 rfl) (mem_at 11 rfl)
end
end Cl
set_option maxHeartbeats 4000000
namespace Cl
open PySem PySem.Spec PyProof.Rows L2
open He (ga ma)
/-! ### the reading part, from the head -/
section
variable {P : Program} {w : World} {K : PySem.W.Frag} {mg : Str → Option Value} {base h : Heap}
structure Ex (K : PySem.W.Frag) : Prop where
  f : errB K "Fault" ["line", "why"] = true
  r : errB K "Refused" ["numbers"] = true
  t : tabB K = true
theorem ex_of (e : exB K = true) : Ex K := by
  obtain ⟨h1, h⟩ := He.ba e
  obtain ⟨h2, h3⟩ := He.ba h
  exact ⟨h1, h2, h3⟩
theorem c_want (S : Says fa fn K h mg) (e : Ex K) : Callee P w K mg base (L2.CX P w) 3 "want" (spWant K) := cl_want (d_want S) (s_refused S e.r)
theorem c_recipe_of (S : Says fa fn K h mg) (e : Ex K) : Callee P w K mg base (L2N.CX P w) 6 "recipe_of" (spRecipeOf K) := by
  have T := s_rt S
  have TB := s_rtab S e.t
  have C := s_ks S
  have EF := s_fault S e.f
  have fig : Callee P w K mg base CX0 1 "is_figure" spFig := cl_is_figure (d_is_figure S)
  have prt : Callee P w K mg base CX0 1 "parted" (spParted K) := cl_parted (d_parted S)
  have fmd := cl_formed (P := P) (w := w) (base := base) (d_formed S) T TB (cl_is_name (d_is_name S) T fig) (cl_number_of (d_number_of S) T fig) (mk_Line (d_Line S) C.ln)
  have ln := cl_line_of (d_line_of S) T TB prt (cl_codes (d_codes S) T) fmd
  have why := mt_why_not (P := P) (w := w) (base := base) (d_Reader_why_not S) T C (mt_can_stand (d_Reader_can_stand S) T C) (mt_does_clash (d_Reader_does_clash S) T C)
  have tk := mt_take (P := P) (w := w) (base := base) (d_Reader_take S) T C (mk_Thing (d_Thing S) C.th)
  exact cl_recipe_of (d_recipe_of S) C (mk_Reader (d_Reader S) C.rd (mk_Recipe (d_Recipe S) C.rc)) (mt_read (d_Reader_read S) T C EF prt ln why tk)
theorem c_recipe_in (S : Says fa fn K h mg) (e : Ex K) : Callee P w K mg base (L2.CX P w) 7 "recipe_in" (spRecipeIn K) := cl_recipe_in (d_recipe_in S) (s_ct S) (s_fault S e.f) (s_refused S e.r) (c_recipe_of S e)
end
end Cl
set_option maxHeartbeats 4000000
namespace Cl
open PySem PySem.Spec PyProof.Rows L2
open He (ga ma)
/-! ### what is due, as rows -/
def flatO : Except (List Int) (List Int) → List Int
  | .ok ns => ns
  | .error ns => ns
def rowOf (a : Wqatdl.Ans) : List Int := a.ret :: a.nums.map fun (n : Nat) => (n : Int)
theorem built_of {t : Br.Bytes} {r : Br.Recipe} (h : Br.readRecipe t = .ok r) : Built r := by
  obtain ⟨init, last, _, law⟩ := read_law t
  rw [law] at h
  unfold mRead at h
  cases q : runL 0 [] init with
  | error e => rw [q] at h; cases h
  | ok z =>
    rw [q] at h
    have h : (if last ≠ [] then .error (init.length, 1) else if Br.ends z = true then .ok z else .error (init.length, 3) : Except (Nat × Nat) Br.Recipe) = .ok r := h
    split at h
    · cases h
    · split at h
      · cases h
        exact runL_built .nil q
      · cases h
theorem told_row (t : Br.Bytes) (f : Br.Recipe → Wqatdl.Ans) (g : Br.Recipe → Except (List Int) (List Int)) (h : ∀ r, Built r → flatO (g r) = rowOf (f r)) : flatO ((toldOf t).bind g) = rowOf (Wqatdl.ofRecipe t f) := by
  unfold toldOf Wqatdl.ofRecipe Wqatdl.LONGEST inOf
  by_cases hl : t.length ≤ 16384
  · rw [if_pos hl, if_neg (by omega)]
    cases q : Br.readRecipe t with
    | error e => rfl
    | ok r => exact h r (built_of q)
  · rw [if_neg hl, if_pos (by omega)]
    rfl
/-- a text of whole numbers of 8 bits -/
theorem text_bytes : ∀ {ns : List Int}, (∀ z ∈ ns, 0 ≤ z ∧ z ≤ 255) → ns.map V.int = bV (WqatdlNeutral.bytes ns)
  | [], _ => rfl
  | z :: r, h => by
    have ih := text_bytes (ns := r) fun y m => h y (List.mem_cons_of_mem _ m)
    obtain ⟨h0, h1⟩ := h z List.mem_cons_self
    show V.int z :: r.map V.int = byV (UInt8.ofNat z.toNat) :: bV (WqatdlNeutral.bytes r)
    rw [ih]
    congr 1
    show V.int z = V.int ((UInt8.ofNat z.toNat).toNat : Int)
    have e : (UInt8.ofNat z.toNat).toNat = z.toNat := by
      rw [UInt8.toNat_ofNat']
      exact Nat.mod_eq_of_lt (by omega)
    rw [e]
    congr 1
    omega
open PySem.W (Codec) in
theorem in_text {ns : List Int} {m0 : Nat} (h : Codec.within (.list 0 m0 (.int (_root_.Int.ofNat 0) (_root_.Int.ofNat 255))) ns = true) : ∀ z ∈ ns, 0 ≤ z ∧ z ≤ 255 := fun z m => by
  have h1 : PySem.W.Codec.inList 0 m0 (PySem.W.Codec.inInt (_root_.Int.ofNat 0) (_root_.Int.ofNat 255)) ns = true := h
  unfold PySem.W.Codec.inList at h1
  rw [Bool.and_eq_true] at h1
  have h2 := List.all_eq_true.mp h1.2 z m
  unfold PySem.W.Codec.inInt at h2
  rw [Bool.and_eq_true, decide_eq_true_eq, decide_eq_true_eq] at h2
  exact h2
open PySem.W (Codec) in
/-- numbers that an answer is -/
theorem ans_dw {K : PySem.W.Frag} {H : Hp} {l : Addr} {ns : List Int} (h : H l = some (.lst (ns.map V.int))) : Dw K H (.ref l) (.list (ns.map PySem.W.WData.int)) := .lst (SqL.of h) (dw_ints ns)
theorem dw1 {K : PySem.W.Frag} {H : Hp} {xs : List V} {d : PySem.W.WData} (h : DwAll K H xs [d]) : ∃ x, xs = [x] ∧ Dw K H x d := by
  cases h with
  | cons h t => cases t; exact ⟨_, rfl, h⟩
theorem dw_cons {K : PySem.W.Frag} {H : Hp} {xs : List V} {d : PySem.W.WData} {ds : List PySem.W.WData} (h : DwAll K H xs (d :: ds)) : ∃ x r, xs = x :: r ∧ Dw K H x d ∧ DwAll K H r ds := by
  cases h with
  | cons h t => exact ⟨_, _, rfl, h, t⟩
theorem dw_list {K : PySem.W.Frag} {H : Hp} {x : V} {ns : List Int} (h : Dw K H x (.list (ns.map PySem.W.WData.int))) : ∃ p, x = .ref p ∧ SqL K H p (ns.map V.int) := by
  cases h with
  | lst s a =>
    rw [ints_dw _ _ a] at s
    exact ⟨_, rfl, s⟩
theorem dw_int {K : PySem.W.Frag} {H : Hp} {x : V} {i : Int} (h : Dw K H x (.int i)) : x = .int i := by
  cases h
  rfl
theorem fun_binds {K : PySem.W.Frag} {x qual : Str} {st : Stmt} {f : Addr} {fd : FuncData} {ps : List Str} (F : Fun K x qual st f fd)
    (h : ∀ (kV doc pm : Value) (an : Option Addr) (cdv ct : Value) (us : List Value), us.length = ps.length → bindArgs (PySem.W.fnOf x qual (defArgs st) (defBody st) (defScope st) .none kV doc pm an cdv ct) ⟨us, []⟩ = pure (ps.zip us)) (s : Shared) (us : List Value) (hl : us.length = ps.length) : BindsTo s fd ⟨us, []⟩ (ps.zip us) := by
  obtain ⟨oc, od, kV, doc, pm, an, cdv, ct, osl, rfl, _, _⟩ := F.ex
  exact .of_eq (h kV doc pm an cdv ct us hl)
end Cl
set_option maxHeartbeats 4000000
namespace Cl
open PySem PySem.Spec PyProof.Rows L2
open He (ga ma)
section
variable {P : Program} {w : World} {K : PySem.W.Frag} {mg : Str → Option Value} {base : Heap}
/-! ### a call that tells numbers, or is refused -/
def TellQ (K : PySem.W.Frag) (H : Hp) (o : Except (List Int) (List Int)) (Q : VK) (E : XK) : Prop := (∀ H2 l ns, o = .ok ns → H2 l = some (.lst (ns.map V.int)) → Same H H2 → Q (.ref l) H2) ∧ ∀ cls d H2 ns, o = .error ns → RefV K H2 cls d ns → Same H H2 → E cls d H2
def AnsQ (H : Hp) (o : Except (List Int) (List Int)) (Q : VK) : Prop := ∀ H2 l, H2 l = some (.lst ((flatO o).map V.int)) → Same H H2 → Q (.ref l) H2
/-- what the clause of a call makes of it -/
theorem tell_ans {K : PySem.W.Frag} {H : Hp} {o : Except (List Int) (List Int)} {Q : VK} {E : XK} (a : AnsQ H o Q) (e : ∀ cls d H2 ns, RefV K H2 cls d ns → Same H H2 → o = .error ns → E cls d H2) : TellQ K H o Q E :=
  ⟨fun H2 l ns eo hl s => a H2 l (by rw [eo]; exact hl) s, fun cls d H2 ns eo rv s => e cls d H2 ns rv s eo⟩
theorem no_takes {X : Cx} : L2.Takes X (fun _ _ _ _ => False) := fun _ _ ⟨_, _, _, _, _, _, _, _, _, _, _, _, _, _, _, _, z⟩ => z.elim
end
end Cl
set_option maxHeartbeats 4000000
namespace Cl
open PySem PySem.Spec PyProof.Rows L2
open He (ga ma)
/-! ### sorted data: equal iff permuted -/
theorem toks_inj {x y : PyData} (h : PySem.W.alike x y = true) (e : PySem.W.keyToks x = PySem.W.keyToks y) : PyData.eqv x y = true := by
  cases q : PyData.eqv x y with
  | true => rfl
  | false =>
    have h1 := (PySem.W.toks_eqv x y h).2 q [] [Sum.inl 0]
    rw [e] at h1
    have h2 := PySem.W.lex_pre (PySem.W.keyToks y) [] [Sum.inl 0]
    have h3 : PyProof.Rows.lexLt PyProof.Rows.itemOrd (PySem.W.keyToks y) (PySem.W.keyToks y) = false := PyProof.Rows.lex_irrefl _
    rw [h2, h3] at h1
    cases h1
section
variable {κ : Type} (f : κ → PyData)
def sortK (l : List κ) : List κ := l.mergeSort (PySem.W.dataLe false f)
theorem sort_perm_iff (alk : ∀ a b, PySem.W.alike (f a) (f b) = true) (inj : ∀ a b, PyData.eqv (f a) (f b) = true → a = b) (l m : List κ) : sortK f l = sortK f m ↔ l.Perm m := by
  have T := PySem.W.sortLe_total (PyProof.Rows.listOrd PyProof.Rows.itemOrd) false fun b => PySem.W.keyToks (f b)
  constructor
  · intro h
    have h1 : (sortK f l).Perm l := List.mergeSort_perm ..
    have h2 : (sortK f m).Perm m := List.mergeSort_perm ..
    rw [h] at h1
    exact h1.symm.trans h2
  · intro h
    have h1 : (sortK f l).Perm l := List.mergeSort_perm ..
    have h2 : (sortK f m).Perm m := List.mergeSort_perm ..
    refine List.Perm.eq_of_pairwise (le := fun a b => PySem.W.dataLe false f a b = true) (fun a b _ _ h1 h2 => ?_) (PySem.W.sort_pairwise T l) (PySem.W.sort_pairwise T m) (h1.trans (h.trans h2.symm))
    have h1 : (!PyProof.Rows.lexLt PyProof.Rows.itemOrd (PySem.W.keyToks (f b)) (PySem.W.keyToks (f a))) = true := h1
    have h2 : (!PyProof.Rows.lexLt PyProof.Rows.itemOrd (PySem.W.keyToks (f a)) (PySem.W.keyToks (f b))) = true := h2
    rw [Bool.not_eq_true'] at h1 h2
    exact inj a b (toks_inj (alk a b) ((PyProof.Rows.listOrd PyProof.Rows.itemOrd).total _ _ h2 h1))
end
end Cl
set_option maxHeartbeats 4000000
namespace Cl
open PySem PySem.Spec PyProof.Rows L2
open He (ga ma)
/-! ### fractions in lowest terms; lists without doubles -/
theorem low_eq {p q W U : Nat} (hW : 0 < W) (hU : 0 < U) : (p / Nat.gcd p W = q / Nat.gcd q U ∧ W / Nat.gcd p W = U / Nat.gcd q U) ↔ p * U = q * W := by
  have g1 : 0 < Nat.gcd p W := Nat.gcd_pos_of_pos_right p hW
  have g2 : 0 < Nat.gcd q U := Nat.gcd_pos_of_pos_right q hU
  have a1 : p / Nat.gcd p W * Nat.gcd p W = p := Nat.div_mul_cancel (Nat.gcd_dvd_left p W)
  have a2 : W / Nat.gcd p W * Nat.gcd p W = W := Nat.div_mul_cancel (Nat.gcd_dvd_right p W)
  have b1 : q / Nat.gcd q U * Nat.gcd q U = q := Nat.div_mul_cancel (Nat.gcd_dvd_left q U)
  have b2 : U / Nat.gcd q U * Nat.gcd q U = U := Nat.div_mul_cancel (Nat.gcd_dvd_right q U)
  have c1 : Nat.Coprime (p / Nat.gcd p W) (W / Nat.gcd p W) := Nat.coprime_div_gcd_div_gcd g1
  have c2 : Nat.Coprime (q / Nat.gcd q U) (U / Nat.gcd q U) := Nat.coprime_div_gcd_div_gcd g2
  revert a1 a2 b1 b2 c1 c2 g1 g2
  generalize Nat.gcd p W = g
  generalize Nat.gcd q U = k
  generalize p / g = x
  generalize W / g = y
  generalize q / k = z
  generalize U / k = t
  intro g1 g2 a1 a2 b1 b2 c1 c2
  subst a1 a2 b1 b2
  constructor
  · rintro ⟨rfl, rfl⟩
    rw [Nat.mul_mul_mul_comm, Nat.mul_mul_mul_comm x k, Nat.mul_comm g k]
  · intro h
    have h : x * t = z * y := by
      have e1 : x * g * (t * k) = x * t * (g * k) := Nat.mul_mul_mul_comm _ _ _ _
      have e2 : z * k * (y * g) = z * y * (g * k) := by rw [Nat.mul_mul_mul_comm, Nat.mul_comm k g]
      rw [e1, e2] at h
      exact Nat.eq_of_mul_eq_mul_right (Nat.mul_pos g1 g2) h
    have d1 : x ∣ z := c1.dvd_of_dvd_mul_right (by rw [← h]; exact Nat.dvd_mul_right x t)
    have d2 : z ∣ x := c2.dvd_of_dvd_mul_right (by rw [h]; exact Nat.dvd_mul_right z y)
    have exz : x = z := Nat.dvd_antisymm d1 d2
    subst exz
    refine ⟨rfl, ?_⟩
    have d3 : y ∣ t := c1.symm.dvd_of_dvd_mul_left (by rw [h]; exact Nat.dvd_mul_left y x)
    have d4 : t ∣ y := c2.symm.dvd_of_dvd_mul_left (by rw [← h]; exact Nat.dvd_mul_left t x)
    exact Nat.dvd_antisymm d3 d4
theorem perm_sub {α : Type} : ∀ {l m : List α}, l.Nodup → (∀ x ∈ l, x ∈ m) → l.length = m.length → l.Perm m
  | [], m, _, _, h => by
    have : m = [] := List.eq_nil_of_length_eq_zero h.symm
    rw [this]
  | x :: l, m, nd, sub, h => by
    rw [List.nodup_cons] at nd
    obtain ⟨a, b, rfl⟩ := List.append_of_mem (sub x List.mem_cons_self)
    have ih : l.Perm (a ++ b) := perm_sub nd.2 (fun y hy => by
      have := sub y (List.mem_cons_of_mem _ hy)
      rcases List.mem_append.mp this with z | z
      · exact List.mem_append_left _ z
      · rcases List.mem_cons.mp z with e | z
        · exact absurd (by rw [← e]; exact hy) nd.1
        · exact List.mem_append_right _ z) (by
      rw [List.length_append, List.length_cons, List.length_cons] at h
      rw [List.length_append]
      omega)
    exact (ih.cons x).trans List.perm_middle.symm
end Cl
set_option maxHeartbeats 4000000
namespace Cl
open PySem PySem.Spec PyProof.Rows L2
open He (ga ma)
/-! ### likeness: shares permuted -/
abbrev Key : Type := Br.Bytes × List Nat × List Nat
def low (p W : Nat) : List Nat := [p / Nat.gcd p W, W / Nat.gcd p W]
theorem low_iff {p q W U : Nat} (hW : 0 < W) (hU : 0 < U) : low p W = low q U ↔ p * U = q * W := by
  rw [← low_eq hW hU]
  unfold low
  simp
abbrev Row4 : Type := Br.Bytes × Nat × Nat × Nat
def key4 (rest : Row4 → List Nat) (W : Nat) (x : Row4) : Key := (x.1, rest x, low x.2.2.2 W)
def whole (A : List Row4) : Nat := (A.map fun x => x.2.2.2).sum
theorem whole_pos {A : List Row4} (pos : ∀ x ∈ A, 1 ≤ x.2.2.2) {x : Row4} (m : x ∈ A) : 0 < whole A := by
  cases A with
  | nil => cases m
  | cons y A =>
    have := pos y List.mem_cons_self
    unfold whole
    rw [List.map_cons, List.sum_cons]
    omega
theorem alike_perm {A B : List Row4} {rest : Row4 → List Nat} (hr : ∀ x ∈ A, ∀ y ∈ B, rest x = rest y ↔ (x.2.1 = y.2.1 ∧ x.2.2.1 = y.2.2.1)) (pA : ∀ x ∈ A, 1 ≤ x.2.2.2) (pB : ∀ x ∈ B, 1 ≤ x.2.2.2) (nd : (A.map (key4 rest (whole A))).Nodup) :
    (A.map (key4 rest (whole A))).Perm (B.map (key4 rest (whole B))) ↔ Br.alike A B = true := by
  have one : ∀ x ∈ A, ∀ y ∈ B, key4 rest (whole A) x = key4 rest (whole B) y ↔ (x.1 == y.1 && (x.2.1 == y.2.1 && (x.2.2.1 == y.2.2.1 && x.2.2.2 * whole B == y.2.2.2 * whole A))) = true := fun x hx y hy => by
    have l := low_iff (p := x.2.2.2) (q := y.2.2.2) (whole_pos pA hx) (whole_pos pB hy)
    unfold key4
    rw [Prod.mk.injEq, Prod.mk.injEq, hr x hx y hy, l, Bool.and_eq_true, Bool.and_eq_true, Bool.and_eq_true, beq_iff_eq, beq_iff_eq, beq_iff_eq, beq_iff_eq, and_assoc]
  have ea : Br.alike A B = (A.length == B.length && A.all fun x => B.any fun y => x.1 == y.1 && (x.2.1 == y.2.1 && (x.2.2.1 == y.2.2.1 && x.2.2.2 * whole B == y.2.2.2 * whole A))) := rfl
  rw [ea, Bool.and_eq_true, beq_iff_eq, List.all_eq_true]
  constructor
  · intro h
    have hl := h.length_eq
    rw [List.length_map, List.length_map] at hl
    refine ⟨hl, fun x hx => ?_⟩
    have hm := h.mem_iff.mp (List.mem_map.mpr ⟨x, hx, rfl⟩)
    obtain ⟨y, hy, e⟩ := List.mem_map.mp hm
    exact List.any_eq_true.mpr ⟨y, hy, (one x hx y hy).mp e.symm⟩
  · rintro ⟨hl, h⟩
    refine perm_sub nd (fun k hk => ?_) (by rw [List.length_map, List.length_map]; exact hl)
    obtain ⟨x, hx, rfl⟩ := List.mem_map.mp hk
    obtain ⟨y, hy, e⟩ := List.any_eq_true.mp (h x hx)
    exact List.mem_map.mpr ⟨y, hy, ((one x hx y hy).mpr e).symm⟩
/-! ### data of keys -/
def k3D (k : Key) : PyData := .tuple [nmD k.1, .list (nD k.2.1), .list (nD k.2.2)]
theorem nD_int (l : List Nat) : nD l = (l.map fun (n : Nat) => (n : Int)).map PyData.int := by
  unfold nD
  rw [List.map_map]
  rfl
theorem bD_int (b : Br.Bytes) : bD b = (b.map fun (c : UInt8) => (c.toNat : Int)).map PyData.int := by
  unfold bD
  rw [List.map_map]
  rfl
theorem alike_nD (a b : List Nat) : PySem.W.alikeAll (nD a) (nD b) = true := by
  rw [nD_int, nD_int]
  exact PySem.W.alike_ints _ _
theorem alike_nm (a b : Br.Bytes) : PySem.W.alike (nmD a) (nmD b) = true := by
  unfold nmD
  rw [PySem.W.alike, bD_int, bD_int]
  exact PySem.W.alike_ints _ _
theorem alike_k3 (a b : Key) : PySem.W.alike (k3D a) (k3D b) = true := by
  unfold k3D
  simp [PySem.W.alike, PySem.W.alikeAll, alike_nm, alike_nD]
theorem eqv_k3 (a b : Key) : PyData.eqv (k3D a) (k3D b) = decide (a = b) := by
  unfold k3D
  rw [eqv_tuple, PyData.eqvAll, PyData.eqvAll, PyData.eqvAll, PyData.eqvAll, nm_eqv, eqv_list, eqv_list, eqv_nums, eqv_nums, Bool.and_true, ← Bool.decide_and, ← Bool.decide_and, decide_eq_decide]
  obtain ⟨a1, a2, a3⟩ := a
  obtain ⟨b1, b2, b3⟩ := b
  simp
/-- adds: a name, its numbers -/
abbrev Key2 : Type := Br.Bytes × List Nat
def k2D (k : Key2) : PyData := .tuple [nmD k.1, .list (nD k.2)]
theorem alike_k2 (a b : Key2) : PySem.W.alike (k2D a) (k2D b) = true := by
  unfold k2D
  simp [PySem.W.alike, PySem.W.alikeAll, alike_nm, alike_nD]
theorem eqv_k2 (a b : Key2) : PyData.eqv (k2D a) (k2D b) = decide (a = b) := by
  unfold k2D
  rw [eqv_tuple, PyData.eqvAll, PyData.eqvAll, PyData.eqvAll, nm_eqv, eqv_list, eqv_nums, Bool.and_true, ← Bool.decide_and, decide_eq_decide]
  obtain ⟨a1, a2⟩ := a
  obtain ⟨b1, b2⟩ := b
  simp
theorem eqvAll_map {κ : Type} [DecidableEq κ] (f : κ → PyData) (h : ∀ a b, PyData.eqv (f a) (f b) = decide (a = b)) : ∀ l m : List κ, PyData.eqvAll (l.map f) (m.map f) = decide (l = m)
  | [], [] => by simp [PyData.eqvAll]
  | [], _ :: _ => by simp [PyData.eqvAll]
  | _ :: _, [] => by simp [PyData.eqvAll]
  | a :: l, b :: m => by
    rw [List.map_cons, List.map_cons, PyData.eqvAll, h, eqvAll_map f h l m, ← Bool.decide_and, decide_eq_decide, List.cons.injEq]
end Cl
set_option maxHeartbeats 4000000
namespace Cl
open PySem PySem.Spec PyProof.Rows L2
open He (ga ma)
/-! ### data that stay; sorted(list of data) by keys -/
mutual
theorem Dp.same {K : PySem.W.Frag} {H H2 : Hp} (s : Same H H2) : ∀ (d : PyData) (v : V), Dp K H v d → Dp K H2 v d
  | .none, _, h => by cases h; exact .non
  | .bool b, _, h => by cases h; exact .bl b
  | .int i, _, h => by cases h; exact .int i
  | .str x, _, h => by cases h; exact .str x
  | .list ds, _, h => by
    cases h with
    | lst a b => exact .lst (s.seq a) (Dp.sameAll s ds _ b)
  | .tuple ds, _, h => by
    cases h with
    | tup a b => exact .tup (Same.sqT s a) (Dp.sameAll s ds _ b)
  | .dict _, _, h => by cases h
theorem Dp.sameAll {K : PySem.W.Frag} {H H2 : Hp} (s : Same H H2) : ∀ (ds : List PyData) (vs : List V), DpAll K H vs ds → DpAll K H2 vs ds
  | [], _, h => by cases h; exact .nil
  | d :: ds, _, h => by
    cases h with
    | cons a b => exact .cons (Dp.same s d _ a) (Dp.sameAll s ds _ b)
end
section
variable {κ : Type} {f : κ → PyData} {K : PySem.W.Frag} {H : Hp}
theorem dpAll_map : ∀ {L : List (V × κ)}, (∀ x ∈ L, Dp K H x.1 (f x.2)) → DpAll K H (L.map Prod.fst) (L.map fun x => f x.2)
  | [], _ => .nil
  | x :: L, h => .cons (h x List.mem_cons_self) (dpAll_map fun y m => h y (List.mem_cons_of_mem _ m))
theorem sorted_dp {D : Addr} {ys : List V} {ks : List κ} {Q : VK} (alk : ∀ a b, PySem.W.alike (f a) (f b) = true) (tup : ∀ k, ∃ x r, f k = .tuple (x :: r)) (dep : ∀ k, (f k).depth ≤ 60) (len : ys.length = ks.length) (each : ∀ (i : Nat) v k, ys[i]? = some v → ks[i]? = some k → Dp K H v (f k)) (hD : H D = some (.lst ys))
    (q : ∀ H2 p, Same H H2 → Dp K H2 (.ref p) (.list ((sortK f ks).map f)) → Q (.ref p) H2) : rSortedD K [.ref D] H Q := by
  have d0 : ∀ x ∈ ys.zip ks, Dp K H x.1 (f x.2) := fun x m => by
    obtain ⟨i, hi, e⟩ := List.mem_iff_getElem.mp m
    have e : (ys.zip ks)[i]? = some x := by rw [List.getElem?_eq_getElem hi, e]
    obtain ⟨h1, h2⟩ := List.getElem?_zip_eq_some.mp e
    exact each i _ _ h1 h2
  have e1 : ((ys.zip ks).map fun x => (x.1, f x.2)).map Prod.fst = ys := by
    rw [List.map_map]
    exact List.map_fst_zip (Nat.le_of_eq len)
  have e2 : ((ys.zip ks).map Prod.snd) = ks := List.map_snd_zip (Nat.le_of_eq len.symm)
  have s1 : ((ys.zip ks).mergeSort (PySem.W.dataLe false fun x => f x.2)).map (fun x => (x.1, f x.2)) = ((ys.zip ks).map fun x => (x.1, f x.2)).mergeSort (PySem.W.dataLe false Prod.snd) :=
    List.map_mergeSort (r := PySem.W.dataLe false fun x : V × κ => f x.2) (s := PySem.W.dataLe false (Prod.snd : V × PyData → PyData)) (f := fun x : V × κ => (x.1, f x.2)) (l := ys.zip ks) fun a _ b _ => rfl
  have s2 : ((ys.zip ks).mergeSort (PySem.W.dataLe false fun x => f x.2)).map Prod.snd = sortK f ks := by
    have h := List.map_mergeSort (r := PySem.W.dataLe false fun x : V × κ => f x.2) (s := PySem.W.dataLe false f) (f := Prod.snd) (l := ys.zip ks) fun a _ b _ => rfl
    rw [e2] at h
    exact h
  refine ⟨D, (ys.zip ks).map fun x => (x.1, f x.2), rfl, SqL.of (by rw [e1]; exact hD), fun t m => ?_, ?_, .inl fun d m => ?_, fun t m => ?_, fun p hp => ?_⟩
  · obtain ⟨x, hx, rfl⟩ := List.mem_map.mp m
    exact d0 x hx
  · intro d m d2 m2
    rw [List.map_map] at m m2
    obtain ⟨x, _, rfl⟩ := List.mem_map.mp m
    obtain ⟨y, _, rfl⟩ := List.mem_map.mp m2
    exact alk _ _
  · rw [List.map_map] at m
    obtain ⟨x, _, rfl⟩ := List.mem_map.mp m
    exact tup _
  · obtain ⟨x, _, rfl⟩ := List.mem_map.mp m
    exact dep _
  · refine q _ p (Same.new hp) (.lst (SqL.of upd_same) (Dp.sameAll (Same.new hp) _ _ ?_))
    rw [← s1, ← s2, List.map_map, List.map_map]
    exact dpAll_map fun x m => d0 x (List.mem_mergeSort.mp m)
end
end Cl
set_option maxHeartbeats 4000000
namespace Cl
open PySem PySem.Spec PyProof.Rows L2
open He (ga ma)
section
variable {P : Program} {w : World} {K : PySem.W.Frag} {mg : Str → Option Value} {base : Heap}
/-! ### common_part, lowest -/
def spGcd : Sp := fun vs H Q _ => ∃ a b : Nat, vs = [.int (a : Int), .int (b : Int)] ∧ Q (.int ((Nat.gcd a b : Nat) : Int)) H
theorem sc_common_part : FnScope ["one", "other"] ["one", "other"] (defScope s_common_part) := ⟨rfl, rfl, rfl, by decide +kernel, rfl, by decide +kernel, by decide +kernel⟩
theorem cl_common_part (D : DefAt K mg "common_part" s_common_part) : Callee P w K mg base CX0 1 "common_part" spGcd := by
  obtain ⟨g, fd, F⟩ := D
  refine ⟨⟨fd, ["one", "other"], g, F.kp, ?_, F.binds fun _ _ _ _ _ _ us hl => match us, hl with | [_, _], _ => rfl⟩⟩
  refine F.ok sc_common_part (fun vs H Q E h => ?_) (fun cdv A outer s H vs Q E hr h => ?_)
  · obtain ⟨a, b, rfl, _⟩ := h
    rfl
  · refine ⟨_, pss_cons (ps_while PassesOwn.never (pt_cmpR op_gt (pv 1) pe_int (nomark _)) (pss_one (ps_par rfl sc_common_part.nd (i := 0) (j := 1) rfl rfl (by decide) rfl rfl (pa_cons (pv 1) (pa_cons (pe_op op_mod (pv 0) (pv 1)) pa_nil)) (by rfl)))) (pss_one (ps_ret (pv 0))), ?_⟩
    obtain ⟨a, b, rfl, q⟩ := h
    refine ⟨fun m σ H2 => ∃ x : Nat, σ = [some (.int (x : Int)), some (.int (m : Int))] ∧ Nat.gcd x m = Nat.gcd a b ∧ H2 = H, ⟨b, a, rfl, rfl, rfl⟩, ?_⟩
    rintro m σ H2 ⟨x, rfl, e, rfl⟩
    refine ⟨_, rfl, _, _, rfl, rfl, _, rfl, ?_⟩
    refine ite2b (fun h1 => ?_) (fun h1 => ?_)
    · have h1 := dT h1
      refine ⟨fun σ H3 => σ = [some (.int (m : Int)), some (.int ((x % m : Nat) : Int))] ∧ H3 = H2, ?_, ?_⟩
      · rintro σ H3 ⟨rfl, rfl⟩
        refine ⟨x % m, Nat.mod_lt _ (by omega), m, rfl, ?_, rfl⟩
        rw [← e, Nat.gcd_comm m, ← Nat.gcd_rec m x, Nat.gcd_comm]
      · refine ⟨_, rfl, _, rfl, _, rfl, _, _, rfl, rfl, h1, _, _, rfl, ?_, rfl⟩
        show [some (V.int (m : Int)), some (V.int ((x : Int) % (m : Int)))] = _
        rw [Int.natCast_emod]
    · have h1 := dF h1
      have m0 : m = 0 := by omega
      subst m0
      rw [Nat.gcd_zero_right] at e
      refine ⟨_, rfl, ?_⟩
      rw [e]
      exact q
def spLowest : Sp := fun vs H Q _ => ∃ a b : Nat, vs = [.int (a : Int), .int (b : Int)] ∧ 0 < b ∧ b < 2 ^ 60 ∧ ∀ H2 p, H p = none → Same H H2 → H2 p = some (.lst (nsV [a / Nat.gcd a b, b / Nat.gcd a b])) → Q (.ref p) H2
theorem sc_lowest : FnScope ["top", "bottom", "part"] ["top", "bottom"] (defScope s_lowest) := ⟨rfl, rfl, rfl, by decide +kernel, rfl, by decide +kernel, by decide +kernel⟩
theorem cl_lowest (D : DefAt K mg "lowest" s_lowest) (cG : Callee P w K mg base CX0 1 "common_part" spGcd) : Callee P w K mg base CX0 2 "lowest" spLowest := by
  obtain ⟨g, fd, F⟩ := D
  refine ⟨⟨fd, ["top", "bottom"], g, F.kp, ?_, F.binds fun _ _ _ _ _ _ us hl => match us, hl with | [_, _], _ => rfl⟩⟩
  refine F.ok sc_lowest (fun vs H Q E h => ?_) (fun cdv A outer s H vs Q E hr h => ?_)
  · obtain ⟨a, b, rfl, _⟩ := h
    rfl
  · refine ⟨_, pss_cons (ps_set (i := 2) sc_lowest.nd rfl (Or.inl rfl) (pe_cl (E := E0) cG hr (Nat.le_refl _) (by rfl) pass0 (pa_cons (pv 0) (pa_cons (pv 1) pa_nil))))
      (pss_one (ps_ret (pe_lst (pa_cons (pe_op op_fdivW (pv 0) (pv 2)) (pa_cons (pe_op op_fdivW (pv 1) (pv 2)) pa_nil))))), ?_⟩
    obtain ⟨a, b, rfl, b0, bb, q⟩ := h
    have gpos : 0 < Nat.gcd a b := Nat.gcd_pos_of_pos_right a b0
    have gle : Nat.gcd a b ≤ b := Nat.gcd_le_right a b0
    have cd : ∀ x : Int, CDivW x ((Nat.gcd a b : Nat) : Int) := fun x => by
      refine ⟨by omega, ?_⟩
      rw [Int.natAbs_natCast]
      have : (Nat.gcd a b).log2 < 60 := (Nat.log2_lt (by omega)).mpr (by omega)
      omega
    refine ⟨_, rfl, _, rfl, a, b, rfl, ?_⟩
    refine ⟨_, rfl, _, rfl, _, _, rfl, rfl, cd _, _, rfl, _, rfl, _, _, rfl, rfl, cd _, by show 2 ≤ sizeLine; decide, fun p hp => q _ p hp (Same.new hp) ?_⟩
    rw [upd_same]
    show some (HO.lst [V.int ((a : Int) / ((Nat.gcd a b : Nat) : Int)), V.int ((b : Int) / ((Nat.gcd a b : Nat) : Int))]) = _
    rw [← Int.natCast_ediv, ← Int.natCast_ediv]
    rfl
end
end Cl
set_option maxHeartbeats 4000000
namespace Cl
open PySem PySem.Spec PyProof.Rows L2
open He (ga ma)
/-! ### shares -/
def hd0 (t : Br.Bytes × List Nat) : Nat := t.2.getD 0 0
def wholeT (ts : List (Br.Bytes × List Nat)) : Nat := (ts.map hd0).sum
def keysOf (ts : List (Br.Bytes × List Nat)) : List Key := ts.map fun t => (t.1, t.2.drop 1, low (hd0 t) (wholeT ts))
/-- things with parts -/
def Parts (ts : List (Br.Bytes × List Nat)) : Prop := ts.length ≤ 16 ∧ ∀ t ∈ ts, ∃ n q, t.2 = n :: q ∧ 1 ≤ n ∧ n ≤ 10000
theorem whole_le : ∀ {ts : List (Br.Bytes × List Nat)}, (∀ t ∈ ts, ∃ n q, t.2 = n :: q ∧ 1 ≤ n ∧ n ≤ 10000) → ts.length ≤ wholeT ts ∧ wholeT ts ≤ 10000 * ts.length
  | [], _ => ⟨Nat.le_refl _, Nat.le_refl _⟩
  | t :: ts, h => by
    obtain ⟨h1, h2⟩ := whole_le (ts := ts) fun x m => h x (List.mem_cons_of_mem _ m)
    obtain ⟨n, q, e, h3, h4⟩ := h t List.mem_cons_self
    have e2 : wholeT (t :: ts) = n + wholeT ts := by
      unfold wholeT hd0
      rw [List.map_cons, List.sum_cons, e]
      rfl
    rw [e2, List.length_cons, Nat.mul_add]
    omega
def intsN6 (l : List Nat) : List Int := l.map fun (n : Nat) => (n : Int)
theorem nsV_int6 (l : List Nat) : nsV l = (intsN6 l).map V.int := by
  unfold nsV intsN6
  rw [List.map_map]
  rfl
theorem sum_int6 : ∀ l : List Nat, (intsN6 l).sum = ((l.sum : Nat) : Int)
  | [] => rfl
  | n :: r => by
    have ih := sum_int6 r
    unfold intsN6 at ih ⊢
    rw [List.map_cons, List.sum_cons, ih, List.sum_cons]
    omega
theorem cut_drop1 (m : List Nat) : cutV (nsV m) (some 1) none = nsV (m.drop 1) := by
  unfold cutV nsV
  have e : HT.sIx (m.map nV).length 0 (some 1) = min 1 m.length := by
    rw [show (some (1 : Int)) = some ((1 : Nat) : Int) from rfl, HT.sIx_nat, List.length_map]
  rw [HT.sIx_none, e, List.length_map, ← List.map_drop, ← List.map_take]
  congr 1
  cases m with
  | nil => rfl
  | cons x m =>
    rw [show min 1 (x :: m).length = 1 by rw [List.length_cons]; omega]
    refine List.take_of_length_le ?_
    rw [List.length_drop]
    exact Nat.le_refl _
theorem tup_k3 (k : Key) : ∃ x r, k3D k = .tuple (x :: r) := ⟨_, _, rfl⟩
theorem tup_k2 (k : Key2) : ∃ x r, k2D k = .tuple (x :: r) := ⟨_, _, rfl⟩
theorem nD_lay (l : List Nat) : PyData.canLayAll0 (nD l) = true := lays (fun (n : Nat) => PyData.int (n : Int)) (fun x => by simp [PyData.canLay0]) l
theorem nD_dep (l : List Nat) : PyData.depthAll (nD l) ≤ 0 := depths (fun (n : Nat) => PyData.int (n : Int)) 0 (fun x => by simp [PyData.depth]) l
theorem k3_lay (k : Key) : PyData.canLay0 (k3D k) = true := by
  unfold k3D
  simp [PyData.canLay0, PyData.canLayAll0, nm_lay, nD_lay]
theorem k2_lay (k : Key2) : PyData.canLay0 (k2D k) = true := by
  unfold k2D
  simp [PyData.canLay0, PyData.canLayAll0, nm_lay, nD_lay]
theorem k3_depth (k : Key) : PyData.depth (k3D k) ≤ 4 := by
  have h1 := nm_depth k.1
  have h2 := nD_dep k.2.1
  have h3 := nD_dep k.2.2
  unfold k3D
  simp [PyData.depth, PyData.depthAll]
  omega
theorem k2_depth (k : Key2) : PyData.depth (k2D k) ≤ 4 := by
  have h1 := nm_depth k.1
  have h2 := nD_dep k.2
  unfold k2D
  simp [PyData.depth, PyData.depthAll]
  omega
theorem Dp.nums {K : PySem.W.Frag} {H : Hp} {a : Addr} {l : List Nat} (h : H a = some (.lst (nsV l))) : Dp K H (.ref a) (.list (nD l)) := .lst (SqL.of h) (dpAll_nums l)
section
variable {P : Program} {w : World} {K : PySem.W.Frag} {mg : Str → Option Value} {base : Heap}
structure HT6 (mg : Str → Option Value) : Prop where
  sum : mg "sum" = none
  sorted : mg "sorted" = none
def spShares (K : PySem.W.Frag) : Sp := fun vs H Q _ => ∃ (l : Addr) (ts : List (Br.Bytes × List Nat)), vs = [.ref l] ∧ ThingsAt K H l ts ∧ Parts ts ∧ ∀ H2 p, Same H H2 → Dp K H2 (.ref p) (.list ((sortK k3D (keysOf ts)).map k3D)) → Q (.ref p) H2
theorem sc_shares : FnScope ["things", "whole", "thing"] ["things"] (defScope s_shares) := ⟨rfl, rfl, rfl, by decide +kernel, rfl, by decide +kernel, by decide +kernel⟩
theorem cl_shares (D : DefAt K mg "shares" s_shares) (T : HT6 mg) (C : KS K mg) (cL : Callee P w K mg base CX0 2 "lowest" spLowest) : Callee P w K mg base CX0 3 "shares" (spShares K) := by
  obtain ⟨g, fd, F⟩ := D
  refine ⟨⟨fd, ["things"], g, F.kp, ?_, F.binds fun _ _ _ _ _ _ us hl => match us, hl with | [_], _ => rfl⟩⟩
  refine F.ok sc_shares (fun vs H Q E h => ?_) (fun cdv A outer s H vs Q E hr h => ?_)
  · obtain ⟨l, ts, rfl, _⟩ := h
    rfl
  · refine ⟨_, pss_cons (ps_set (i := 1) sc_shares.nd rfl (Or.inr rfl) (pe_callB (cr_sum rfl) (by rfl) T.sum (by decide +kernel) (pa_cons (pe_lc (own := [("thing", 2)]) (g := gName 2) (tt := tYes) (te := tOp (rIxL K) (tFld K (tVar 2) "numbers") (tC (.int 0))) rfl sc_shares.nd
        (pi_list (pv 0)) (blkOk_by (N := ["things", "whole", "thing"]) (sc := defScope s_shares) (by decide +kernel))
        (fun _ _ _ _ _ => pg_name (i := 2) sc_shares.nd rfl (Or.inl rfl)) (fun _ _ _ _ _ => pts_nil) (fun _ _ _ _ _ => pe_ix ix_list (pe_fld (pv 2) (by rfl)) pe_int (fun _ _ => rfl))) pa_nil)))
      (pss_one (ps_ret (pe_callB (cr_sortedD hr.units) (by rfl) T.sorted (by decide +kernel) (pa_cons (pe_lc (own := [("thing", 2)]) (g := gName 2) (tt := tYes)
        (te := tTup (tCons (tFld K (tVar 2) "name") (tCons (tSl (rSlL K) (tFld K (tVar 2) "numbers") (tPart (tC (.int 1))) tNoPart) (tCons (tCl spLowest E0 (tCons (tOp (rIxL K) (tFld K (tVar 2) "numbers") (tC (.int 0))) (tCons (tVar 1) tNil))) tNil)))) rfl sc_shares.nd
        (pi_list (pv 0)) (blkOk_by (N := ["things", "whole", "thing"]) (sc := defScope s_shares) (by decide +kernel))
        (fun _ _ _ _ _ => pg_name (i := 2) sc_shares.nd rfl (Or.inl rfl)) (fun _ _ _ _ _ => pts_nil)
        (fun _ _ _ _ _ => pe_tup (pa_cons (pe_fld (pv 2) (by rfl)) (pa_cons (pe_slice sl_list (pe_fld (pv 2) (by rfl)) (po_some pe_int) po_none) (pa_cons (pe_cl (E := E0) cL hr (Nat.le_refl _) (by rfl) pass0 (pa_cons (pe_ix ix_list (pe_fld (pv 2) (by rfl)) pe_int (fun _ _ => rfl)) (pa_cons (pv 1) pa_nil))) pa_nil))))) pa_nil)))), ?_⟩
    obtain ⟨l, ts, rfl, ⟨qs, hl, aq⟩, ⟨few, prt⟩, q⟩ := h
    have lenQ : qs.length = ts.length := aq.len
    obtain ⟨wl, wu⟩ := whole_le prt
    have thing : ∀ (H1 : Hp) (i : Nat) (t : V), Same H H1 → (qs.map V.ref)[i]? = some t → ∃ (q0 d0 n0 u0 : Addr) (t0 : Br.Bytes × List Nat) (n : Nat) (r : List Nat), t = V.ref q0 ∧ ts[i]? = some t0 ∧ t0.2 = n :: r ∧ H1 q0 = some (.ins (cThing K) d0 [(("name" : Str), .ref n0), (("numbers" : Str), .ref u0)]) ∧ H1 n0 = some (.tup (bV t0.1)) ∧ H1 u0 = some (.lst (nsV t0.2)) := fun H1 i t s1 ht => by
      obtain ⟨q0, h0, rfl⟩ := map_at ht
      obtain ⟨t0, h1, d0, n0, u0, a1, a2, a3⟩ := aq.atL h0
      obtain ⟨n, r, e, _⟩ := prt t0 (List.mem_of_getElem? h1)
      exact ⟨q0, d0, n0, u0, t0, n, r, rfl, h1, e, s1 _ _ a1, s1 _ _ a2, s1 _ _ a3⟩
    -- the whole
    refine ⟨_, rfl, l, rfl, ⟨_, SqL.of hl⟩, fun Dl hD => ?_⟩
    refine lc_fn walk_list (fun i => nV ((ts.map hd0).getD i 0)) hD (by rw [List.length_map, lenQ]; exact Nat.lt_of_le_of_lt few (by decide)) (fun H1 s1 => SqL.of (s1 _ _ hl)) (fun i x H1 H2 Nx Ex lt s1 y kk => ?_) (fun H1 s1 at1 => ?_)
    · obtain ⟨rfl, hx⟩ := y
      obtain ⟨q0, d0, n0, u0, t0, n, r, rfl, ht, en, a1, a2, a3⟩ := thing _ _ _ s1 hx
      have e : (ts.map hd0).getD i 0 = n := by
        rw [List.getD_eq_getElem?_getD, List.getElem?_map, ht]
        show hd0 t0 = n
        unfold hd0
        rw [en]
        rfl
      have k2 := kk _ (Same.refl _)
      rw [e] at k2
      exact ⟨rfl, tt_yes ⟨_, rfl, q0, cThing K, d0, _, _, rfl, a1, C.th.c, C.th.n _ (by simp), rfl, u0, nsV t0.2, ((0 : Nat) : Int), nV n, rfl, rfl, SqL.of a3, atI_nat (by rw [en]; rfl), k2⟩⟩
    have lenM : (ts.map hd0).length = ts.length := List.length_map ..
    have at2 : H1 Dl = some (.lst (nsV (ts.map hd0))) := by
      rw [at1, List.length_map, lenQ, ← lenM]
      congr 2
      exact range_map_get _ _ _ fun i x hx => by simp [List.getD_eq_getElem?_getD, hx]
    refine ⟨Dl, intsN6 (ts.map hd0), rfl, SqL.of (by rw [← nsV_int6]; exact at2), ?_⟩
    rw [sum_int6]
    -- the keys
    refine ⟨_, rfl, l, rfl, ⟨_, SqL.of (s1 _ _ hl)⟩, fun Dk hDk => ?_⟩
    refine lc_res walk_list (fun i v Hx => ∃ (T na u lo : Addr) (t : Br.Bytes × List Nat), ts[i]? = some t ∧ v = .ref T ∧ Hx T = some (.tup [.ref na, .ref u, .ref lo]) ∧ Hx na = some (.tup (bV t.1)) ∧ Hx u = some (.lst (nsV (t.2.drop 1))) ∧ Hx lo = some (.lst (nsV (low (hd0 t) (wholeT ts))))) hDk
      (by rw [List.length_map, lenQ]; exact Nat.lt_of_le_of_lt few (by decide)) (fun i v H2 H3 ⟨T, na, u, lo, t, e1, e2, e3, e4, e5, e6⟩ s => ⟨T, na, u, lo, t, e1, e2, s _ _ e3, s _ _ e4, s _ _ e5, s _ _ e6⟩) (fun H2 s2 => SqL.of (s2 _ _ (s1 _ _ hl)))
      (fun i x H2 H3 Nx Ex lt s2 ⟨acc, atD⟩ y kk => ?_) (fun H2 ys s2 atD len all => ?_)
    · obtain ⟨rfl, hx⟩ := y
      obtain ⟨q0, d0, n0, u0, t0, n, r, rfl, ht, en, a1, a2, a3⟩ := thing _ _ _ (s1.trans s2) hx
      have eh : hd0 t0 = n := by
        unfold hd0
        rw [en]
        rfl
      have tl : 0 < ts.length := List.length_pos_iff.mpr fun e => by rw [e] at ht; simp at ht
      refine ⟨rfl, tt_yes ⟨_, rfl, q0, cThing K, d0, _, _, rfl, a1, C.th.c, C.th.n _ (by simp), rfl, _, rfl, q0, cThing K, d0, _, _, rfl, a1, C.th.c, C.th.n _ (by simp), rfl, 1, rfl, u0, nsV t0.2, rfl, SqL.of a3, fun u hu => ?_⟩⟩
      rw [cut_drop1]
      have s3 : Same H3 (upd H3 u (.lst (nsV (t0.2.drop 1)))) := Same.new hu
      refine ⟨_, rfl, q0, cThing K, d0, _, _, rfl, s3 _ _ a1, C.th.c, C.th.n _ (by simp), rfl, u0, nsV t0.2, ((0 : Nat) : Int), nV n, rfl, rfl, SqL.of (s3 _ _ a3), atI_nat (by rw [en]; rfl), _, rfl, n, wholeT ts, rfl, by omega, by omega, fun H5 lo nlo s5 hlo => ⟨by show 3 ≤ sizeLine; decide, fun Tk hT => ?_⟩⟩
      have s6 : Same H5 (upd H5 Tk (.tup [.ref n0, .ref u, .ref lo])) := Same.new hT
      have atD5 := s5 _ _ (s3 _ _ atD)
      have ne : ∀ {b : Addr} {o : HO}, H5 b = some o → (∀ c, o ≠ .lst c) → b ≠ Dk := fun {b o} h n e => by
        rw [e, atD5] at h
        injection h with h
        exact n _ h.symm
      have uD : u ≠ Dk := fun e => by rw [e, atD] at hu; cases hu
      have lD : lo ≠ Dk := fun e => by rw [e, s3 _ _ atD] at nlo; cases nlo
      refine kk _ _ (s3.trans (s5.trans s6)) ⟨Tk, n0, u, lo, t0, ht, rfl, ?_, ?_, ?_, ?_⟩
      · rw [off_ne (fun e => by rw [e, atD5] at hT; cases hT), upd_same]
      · rw [off_ne (fun e => by rw [e, atD] at a2; cases a2)]
        exact s6 _ _ (s5 _ _ (s3 _ _ a2))
      · rw [off_ne uD]
        exact s6 _ _ (s5 _ _ upd_same)
      · rw [off_ne lD]
        have h := s6 _ _ hlo
        rw [h, eh]
        rfl
    · have lenY : ys.length = (keysOf ts).length := by
        rw [len, List.length_map, lenQ]
        unfold keysOf
        rw [List.length_map]
      refine sorted_dp (f := k3D) alike_k3 tup_k3 (fun k => Nat.le_trans (k3_depth k) (by decide)) lenY (fun i v k hv hk => ?_) atD fun H3 p s3 dp => q H3 p (s1.trans (s2.trans s3)) dp
      obtain ⟨T, na, u, lo, t, e1, rfl, e3, e4, e5, e6⟩ := all i v hv
      unfold keysOf at hk
      rw [List.getElem?_map, e1] at hk
      cases hk
      exact .tup (SqT.of (off_at e3)) (.cons (Dp.nm (off_at e4)) (.cons (Dp.nums (off_at e5)) (.cons (Dp.nums (off_at e6)) .nil)))
end
end Cl
set_option maxHeartbeats 4000000
namespace Cl
open PySem PySem.Spec PyProof.Rows L2
open He (ga ma)
/-! ### are_like -/
theorem th_parts {r : Br.Recipe} (B : Built r) {j : Nat} (hj : j < 2) : Parts (thOf r j) := ⟨B.few j, fun t m => by
  match j, hj with
  | 0, _ =>
    rw [th_malts] at m
    obtain ⟨x, hx, rfl⟩ := List.mem_map.mp m
    have := B.malt_ok x hx
    exact ⟨_, _, rfl, this.2.1, this.2.2.1⟩
  | 1, _ =>
    rw [th_hops] at m
    obtain ⟨x, hx, rfl⟩ := List.mem_map.mp m
    have := B.hop_ok x hx
    exact ⟨_, _, rfl, this.2.1, this.2.2.1⟩⟩
theorem RecV.at6 {K : PySem.W.Frag} {H : Hp} {rc : Addr} {r : Br.Recipe} (h : RecV K H rc r) : ∃ dx th l0 l1 l2, H rc = some (.ins (cRecipe K) dx [(("things" : Str), .ref th), (("yeast" : Str), yV (yOpt r))]) ∧ H th = some (.lst [.ref l0, .ref l1, .ref l2]) ∧ ∀ j, j < 3 → ∃ l, [V.ref l0, V.ref l1, V.ref l2][j]? = some (.ref l) ∧ ThingsAt K H l (thOf r j) := by
  obtain ⟨dx, th, l0, l1, l2, R⟩ := h
  refine ⟨dx, th, l0, l1, l2, R.ob, R.th, fun j hj => ?_⟩
  obtain ⟨l, e, t⟩ := R.at j hj
  refine ⟨l, e, ?_⟩
  match j, hj with
  | 0, _ => exact t
  | 1, _ => exact t
  | 2, _ => exact t
theorem scal_y (a b : Option Nat) : scal (yV a) (yV b) = true := by
  cases a <;> cases b <;> rfl
theorem yV_inj (a b : Option Nat) : decide (yV a = yV b) = decide (a = b) := by
  rw [decide_eq_decide]
  refine ⟨fun h => ?_, fun h => by rw [h]⟩
  cases a with
  | none =>
    cases b with
    | none => rfl
    | some m => cases h
  | some n =>
    cases b with
    | none => cases h
    | some m =>
      injection h with h
      rw [Int.ofNat.inj h]
def likeT (r q : Br.Recipe) : Bool := decide (yOpt r = yOpt q) && ((decide (sortK k3D (keysOf (thOf r 0)) = sortK k3D (keysOf (thOf q 0))) && decide (sortK k3D (keysOf (thOf r 1)) = sortK k3D (keysOf (thOf q 1)))) && decide (sortK k2D (thOf r 2) = sortK k2D (thOf q 2)))
section
variable {P : Program} {w : World} {K : PySem.W.Frag} {mg : Str → Option Value} {base : Heap}
structure LK (mg : Str → Option Value) : Prop where
  MALT : Num mg "MALT" 0
  HOP : Num mg "HOP" 1
  ADD : Num mg "ADD" 2
  sorted : mg "sorted" = none
/-- names with numbers, told one by one, then sorted -/
theorem adds_turns {v0 v1 v2 v3 v4 : Option V} {H1 : Hp} {D l : Addr} {qs : List Addr} {ts : List (Br.Bytes × List Nat)} {Qd : Hp → Prop} (C : KS K mg) (hl : H1 l = some (.lst (qs.map V.ref))) (aq : All2 (ThingAt K H1) qs ts) (few : ts.length ≤ 16) (hD : H1 D = none)
    (done : ∀ H2, Same H1 H2 → (∀ Q : VK, (∀ H3 p, Same H2 H3 → Dp K H3 (.ref p) (.list ((sortK k2D ts).map k2D)) → Q (.ref p) H3) → rSortedD K [.ref D] H2 Q) → Qd H2) :
    ∃ W : Nat → Nat → Hp → Prop, (∃ m, W 0 m (upd H1 D (.lst []))) ∧ ∀ i m H, W i m H →
      ((Itl K l).stop i H ∧ Qd H) ∨ ((Itl K l).go i H ∧ ∃ Nx : Hp → Prop, (∀ H', Nx H' → ∃ m', m' < m ∧ W (i + 1) m' H') ∧ ∀ x H', (Itl K l).yld i H x H' → gName 4 x (wipe [v0, v1, v2, v3, v4] [4]) H' fun σ2 H2 => wipe σ2 [4] = wipe [v0, v1, v2, v3, v4] [4] ∧ tYes σ2 H2 fun b H3 =>
        if b = true then tTup (tCons (tFld K (tVar 4) "name") (tCons (tFld K (tVar 4) "numbers") tNil)) σ2 H3 fun y H4 => ∃ acc, H4 D = some (.lst acc) ∧ acc.length < sizeLine ∧ Nx (upd H4 D (.lst (acc ++ [y]))) else Nx H3) := by
  have lenQ : qs.length = ts.length := aq.len
  refine lc_res walk_list (fun i v Hx => ∃ (T na nu : Addr) (t : Br.Bytes × List Nat), ts[i]? = some t ∧ v = .ref T ∧ Hx T = some (.tup [.ref na, .ref nu]) ∧ Hx na = some (.tup (bV t.1)) ∧ Hx nu = some (.lst (nsV t.2))) hD
    (by rw [List.length_map, lenQ]; exact Nat.lt_of_le_of_lt few (by decide)) (fun i v H2 H3 ⟨T, na, nu, t, e1, e2, e3, e4, e5⟩ s => ⟨T, na, nu, t, e1, e2, s _ _ e3, s _ _ e4, s _ _ e5⟩) (fun H2 s2 => SqL.of (s2 _ _ hl))
    (fun i x H2 H3 Nx Ex lt s2 ⟨acc, atD⟩ y kk => ?_) (fun H2 ys s2 atD len all => ?_)
  · obtain ⟨rfl, hx⟩ := y
    obtain ⟨q0, h0, rfl⟩ := map_at hx
    obtain ⟨t, ht, d0, na, nu, b1, b2, b3⟩ := aq.atL h0
    have a1 := s2 _ _ b1
    have a2 := s2 _ _ b2
    have a3 := s2 _ _ b3
    refine ⟨rfl, tt_yes ⟨_, rfl, q0, cThing K, d0, _, _, rfl, a1, C.th.c, C.th.n _ (by simp), rfl, _, rfl, q0, cThing K, d0, _, _, rfl, a1, C.th.c, C.th.n _ (by simp), rfl, by show 2 ≤ sizeLine; decide, fun T hT => ?_⟩⟩
    have s6 : Same H3 (upd H3 T (.tup [.ref na, .ref nu])) := Same.new hT
    refine kk _ _ s6 ⟨T, na, nu, t, ht, rfl, ?_, ?_, ?_⟩
    · rw [off_ne (fun e => by rw [e, atD] at hT; cases hT), upd_same]
    · rw [off_ne (fun e => by rw [e, atD] at a2; cases a2)]
      exact s6 _ _ a2
    · rw [off_ne (fun e => by rw [e, hD] at b3; cases b3)]
      exact s6 _ _ a3
  · refine done H2 s2 fun Q q => ?_
    have lenY : ys.length = ts.length := by rw [len, List.length_map, lenQ]
    refine sorted_dp (f := k2D) alike_k2 tup_k2 (fun k => Nat.le_trans (k2_depth k) (by decide)) lenY (fun i v k hv hk => ?_) atD q
    obtain ⟨T, na, nu, t, e1, rfl, e3, e4, e5⟩ := all i v hv
    rw [e1] at hk
    cases hk
    exact .tup (SqT.of (off_at e3)) (.cons (Dp.nm (off_at e4)) (.cons (Dp.nums (off_at e5)) .nil))
def spAre (K : PySem.W.Frag) : Sp := fun vs H Q _ => ∃ (rc qc : Addr) (r q : Br.Recipe), vs = [.ref rc, .ref qc] ∧ Built r ∧ Built q ∧ RecV K H rc r ∧ RecV K H qc q ∧ ∀ H2, Same H H2 → Q (.bl (likeT r q)) H2
theorem sc_are_like : FnScope ["one", "other", "sort", "adds", "thing"] ["one", "other"] (defScope s_are_like) := ⟨rfl, rfl, rfl, by decide +kernel, rfl, by decide +kernel, by decide +kernel⟩
theorem cl_are_like (D : DefAt K mg "are_like" s_are_like) (T : LK mg) (C : KS K mg) (cS : Callee P w K mg base CX0 3 "shares" (spShares K)) : Callee P w K mg base CX0 4 "are_like" (spAre K) := by
  obtain ⟨g, fd, F⟩ := D
  refine ⟨⟨fd, ["one", "other"], g, F.kp, ?_, F.binds fun _ _ _ _ _ _ us hl => match us, hl with | [_, _], _ => rfl⟩⟩
  refine F.ok sc_are_like (fun vs H Q E h => ?_) (fun cdv A outer s H vs Q E hr h => ?_)
  · obtain ⟨rc, qc, r, q, rfl, _⟩ := h
    rfl
  · refine ⟨_, pss_cons (ps_if (pt_cmpR op_ne (pe_fld (pv 0) (by rfl)) (pe_fld (pv 1) (by rfl)) (nomark _)) (pss_one (ps_ret pe_bl)) pss_nil)
      (pss_cons (ps_for PassesOwn.never rfl (pi_list (pe_lst (pa_cons (pe_num (by rfl) T.MALT) (pa_cons (pe_num (by rfl) T.HOP) pa_nil)))) (pg_name (i := 2) sc_are_like.nd rfl (Or.inl rfl))
        (pss_one (ps_if (pt_cmpR (op_neD hr.units) (pe_cl (E := E0) cS hr (Nat.le_refl _) (by rfl) pass0 (pa_cons (pe_ix ix_list (pe_fld (pv 0) (by rfl)) (pv 2) (fun _ _ => rfl)) pa_nil)) (pe_cl (E := E0) cS hr (Nat.le_refl _) (by rfl) pass0 (pa_cons (pe_ix ix_list (pe_fld (pv 1) (by rfl)) (pv 2) (fun _ _ => rfl)) pa_nil)) (nomark _)) (pss_one (ps_ret pe_bl)) pss_nil)))
      (pss_cons (ps_set (i := 3) sc_are_like.nd rfl (Or.inl rfl) (pe_callB (cr_sortedD hr.units) (by rfl) T.sorted (by decide +kernel) (pa_cons (pe_lc (own := [("thing", 4)]) (g := gName 4) (tt := tYes) (te := tTup (tCons (tFld K (tVar 4) "name") (tCons (tFld K (tVar 4) "numbers") tNil))) rfl sc_are_like.nd
          (pi_list (pe_ix ix_list (pe_fld (pv 0) (by rfl)) (pe_num (by rfl) T.ADD) (fun _ _ => rfl))) (blkOk_by (N := ["one", "other", "sort", "adds", "thing"]) (sc := defScope s_are_like) (by decide +kernel))
          (fun _ _ _ _ _ => pg_name (i := 4) sc_are_like.nd rfl (Or.inl rfl)) (fun _ _ _ _ _ => pts_nil) (fun _ _ _ _ _ => pe_tup (pa_cons (pe_fld (pv 4) (by rfl)) (pa_cons (pe_fld (pv 4) (by rfl)) pa_nil)))) pa_nil)))
      (pss_one (ps_ret (pe_cmpR (op_eqD hr.units) (pv 3) (pe_callB (cr_sortedD hr.units) (by rfl) T.sorted (by decide +kernel) (pa_cons (pe_lc (own := [("thing", 4)]) (g := gName 4) (tt := tYes) (te := tTup (tCons (tFld K (tVar 4) "name") (tCons (tFld K (tVar 4) "numbers") tNil))) rfl sc_are_like.nd
          (pi_list (pe_ix ix_list (pe_fld (pv 1) (by rfl)) (pe_num (by rfl) T.ADD) (fun _ _ => rfl))) (blkOk_by (N := ["one", "other", "sort", "adds", "thing"]) (sc := defScope s_are_like) (by decide +kernel))
          (fun _ _ _ _ _ => pg_name (i := 4) sc_are_like.nd rfl (Or.inl rfl)) (fun _ _ _ _ _ => pts_nil) (fun _ _ _ _ _ => pe_tup (pa_cons (pe_fld (pv 4) (by rfl)) (pa_cons (pe_fld (pv 4) (by rfl)) pa_nil)))) pa_nil)) (nomark _)))))), ?_⟩
    obtain ⟨rc, qc, r, u, rfl, B, B2, R, R2, q⟩ := h
    obtain ⟨dx, th, l0, l1, l2, ob, hth, at1⟩ := R.at6
    obtain ⟨dx2, th2, k0, k1, k2, ob2, hth2, at2⟩ := R2.at6
    unfold likeT at q
    refine ⟨_, rfl, rc, cRecipe K, dx, _, _, rfl, ob, C.rc.c, C.rc.n _ (by simp), rfl, _, rfl, qc, cRecipe K, dx2, _, _, rfl, ob2, C.rc.c, C.rc.n _ (by simp), rfl, scal_y _ _, _, rfl, ?_⟩
    rw [yV_inj]
    refine iteN (fun h1 => ?_) (fun h1 => by
      have q2 := q H (Same.refl H)
      rw [h1, Bool.false_and] at q2
      exact q2)
    rw [h1, Bool.true_and] at q
    refine ⟨by show 2 ≤ sizeLine; decide, fun a0 ha0 => ?_⟩
    have s0 : Same H (upd H a0 (.lst [.int 0, .int 1])) := Same.new ha0
    have atA : upd H a0 (.lst [.int 0, .int 1]) a0 = some (.lst [.int 0, .int 1]) := upd_same
    revert s0 atA
    show _ → _ → ∃ a, _
    generalize upd H a0 (.lst [.int 0, .int 1]) = G
    intro s0 atA
    refine ⟨a0, rfl, ⟨_, SqL.of atA⟩, ?_⟩
    refine for_list (K := K) (a := a0) (xs := [.int 0, .int 1]) (fun j σ H3 => ∃ v2 : Option V, σ = [some (.ref rc), some (.ref qc), v2, none, none] ∧ Same G H3 ∧ ∀ i, i < j → sortK k3D (keysOf (thOf r i)) = sortK k3D (keysOf (thOf u i)))
      ⟨none, rfl, Same.refl G, fun i hi => absurd hi (Nat.not_lt_zero i)⟩ (fun j σ H3 _ ⟨_, _, s3, _⟩ => SqL.of (s3 _ _ atA)) ?_ ?_
    · rintro j x σ H3 hx ⟨v2, rfl, s3, eqs⟩
      obtain ⟨j2, rfl⟩ : j < 2 ∧ x = .int (j : Int) := by
        match j with
        | 0 => cases hx; exact ⟨by decide, rfl⟩
        | 1 => cases hx; exact ⟨by decide, rfl⟩
        | n + 2 => simp at hx
      have t3 := s0.trans s3
      obtain ⟨l, el, tl⟩ := at1 j (by omega)
      obtain ⟨m, em, tm⟩ := at2 j (by omega)
      refine ⟨_, rfl, rc, cRecipe K, dx, _, _, rfl, t3 _ _ ob, C.rc.c, C.rc.n _ (by simp), rfl, _, rfl, th, _, (j : Int), .ref l, rfl, rfl, SqL.of (t3 _ _ hth), atI_nat el, l, thOf r j, rfl, tl.same t3, th_parts B j2, fun H4 p4 s4 d4 => ?_⟩
      have t4 := t3.trans s4
      refine ⟨_, rfl, qc, cRecipe K, dx2, _, _, rfl, t4 _ _ ob2, C.rc.c, C.rc.n _ (by simp), rfl, _, rfl, th2, _, (j : Int), .ref m, rfl, rfl, SqL.of (t4 _ _ hth2), atI_nat em, m, thOf u j, rfl, tm.same t4, th_parts B2 j2, fun H5 p5 s5 d5 => ?_⟩
      refine ⟨_, _, Dp.same s5 _ _ d4, d5, shapedL k3D 4 (by decide) k3_lay k3_depth _, shapedL k3D 4 (by decide) k3_lay k3_depth _, _, rfl, ?_⟩
      rw [eqv_list, eqvAll_map k3D eqv_k3]
      refine iteN (fun h2 => ?_) (fun h2 => ?_)
      · have h2 := dT h2
        refine ⟨_, rfl, s3.trans (s4.trans s5), fun i hi => ?_⟩
        rcases Nat.lt_succ_iff_lt_or_eq.mp hi with z | z
        · exact eqs i z
        · rw [z]
          exact h2
      · have q2 := q H5 (t4.trans s5)
        have e : (decide (sortK k3D (keysOf (thOf r 0)) = sortK k3D (keysOf (thOf u 0))) && decide (sortK k3D (keysOf (thOf r 1)) = sortK k3D (keysOf (thOf u 1)))) = false := by
          match j, j2 with
          | 0, _ => rw [h2, Bool.false_and]
          | 1, _ => rw [h2, Bool.and_false]
        rw [e, Bool.false_and] at q2
        exact q2
    · rintro σ H3 ⟨v2, rfl, s3, eqs⟩
      have e : (decide (sortK k3D (keysOf (thOf r 0)) = sortK k3D (keysOf (thOf u 0))) && decide (sortK k3D (keysOf (thOf r 1)) = sortK k3D (keysOf (thOf u 1)))) = true := by
        rw [decide_eq_true (eqs 0 (by decide)), decide_eq_true (eqs 1 (by decide))]
        rfl
      rw [e, Bool.true_and] at q
      have t3 := s0.trans s3
      obtain ⟨l, el, tl⟩ := at1 2 (by omega)
      obtain ⟨m, em, tm⟩ := at2 2 (by omega)
      obtain ⟨qs, hl, aq⟩ := tl.same t3
      refine ⟨_, rfl, rc, cRecipe K, dx, _, _, rfl, t3 _ _ ob, C.rc.c, C.rc.n _ (by simp), rfl, th, _, ((2 : Nat) : Int), .ref l, rfl, rfl, SqL.of (t3 _ _ hth), atI_nat el, l, rfl, ⟨_, SqL.of hl⟩, fun D hD => ?_⟩
      refine adds_turns C hl aq (B.few 2) hD fun H4 s4 sd => ?_
      dsimp only [tNil]
      refine sd _ fun H5 p5 s5 d5 => ?_
      have t5 := t3.trans (s4.trans s5)
      obtain ⟨qs2, hm, aq2⟩ := tm.same t5
      refine ⟨_, rfl, _, rfl, qc, cRecipe K, dx2, _, _, rfl, t5 _ _ ob2, C.rc.c, C.rc.n _ (by simp), rfl, th2, _, ((2 : Nat) : Int), .ref m, rfl, rfl, SqL.of (t5 _ _ hth2), atI_nat em, m, rfl, ⟨_, SqL.of hm⟩, fun D2 hD2 => ?_⟩
      refine adds_turns C hm aq2 (B2.few 2) hD2 fun H6 s6 sd2 => ?_
      dsimp only [tNil]
      refine sd2 _ fun H7 p7 s7 d7 => ?_
      refine ⟨_, _, Dp.same (s6.trans s7) _ _ d5, d7, shapedL k2D 4 (by decide) k2_lay k2_depth _, shapedL k2D 4 (by decide) k2_lay k2_depth _, ?_⟩
      rw [eqv_list, eqvAll_map k2D eqv_k2]
      exact q H7 (t5.trans (s6.trans s7))
end
end Cl
set_option maxHeartbeats 4000000
namespace Cl
open PySem PySem.Spec PyProof.Rows L2
open He (ga ma)
/-! ### likeness: what the program computes is what is due -/
def rowsM (r : Br.Recipe) : List Row4 := (Br.malts r).map fun (m : Br.Name × Nat × Nat) => (m.1, m.2.2, 0, m.2.1)
def rowsH (r : Br.Recipe) : List Row4 := (Br.hops r).map fun (m : Br.Name × Nat × Nat × Nat) => (m.1, m.2.2.1, m.2.2.2, m.2.1)
def restM (x : Row4) : List Nat := [x.2.1]
def restH (x : Row4) : List Nat := [x.2.1, x.2.2.1]
theorem keys_m (r : Br.Recipe) : keysOf (thOf r 0) = (rowsM r).map (key4 restM (whole (rowsM r))) := by
  unfold keysOf wholeT rowsM whole
  rw [th_malts]
  simp only [List.map_map]
  rfl
theorem keys_h (r : Br.Recipe) : keysOf (thOf r 1) = (rowsH r).map (key4 restH (whole (rowsH r))) := by
  unfold keysOf wholeT rowsH whole
  rw [th_hops]
  simp only [List.map_map]
  rfl
theorem k3_inj (a b : Key) (h : PyData.eqv (k3D a) (k3D b) = true) : a = b := by
  rw [eqv_k3] at h
  exact of_decide_eq_true h
theorem k2_inj (a b : Key2) (h : PyData.eqv (k2D a) (k2D b) = true) : a = b := by
  rw [eqv_k2] at h
  exact of_decide_eq_true h
theorem nodup_of {α β : Type} (f : α → β) {l : List α} (h : (l.map f).Nodup) : l.Nodup := List.Pairwise.of_map f (fun a b n e => n (by rw [e])) h
theorem malts_like {r q : Br.Recipe} (B : Built r) (B2 : Built q) : decide (sortK k3D (keysOf (thOf r 0)) = sortK k3D (keysOf (thOf q 0))) = Br.alike (rowsM r) (rowsM q) := by
  have pos : ∀ {r : Br.Recipe}, Built r → ∀ x ∈ rowsM r, 1 ≤ x.2.2.2 := fun {r} B x m => by
    obtain ⟨y, hy, rfl⟩ := List.mem_map.mp m
    exact (B.malt_ok y hy).2.1
  have nd : ((rowsM r).map (key4 restM (whole (rowsM r)))).Nodup := by
    refine nodup_of (fun k : Key => k.1) ?_
    unfold rowsM
    rw [List.map_map, List.map_map]
    exact B.nodup.1
  rw [Bool.eq_iff_iff, decide_eq_true_eq, sort_perm_iff k3D alike_k3 k3_inj, keys_m, keys_m]
  refine alike_perm (fun x hx y hy => ?_) (pos B) (pos B2) nd
  obtain ⟨a, _, rfl⟩ := List.mem_map.mp hx
  obtain ⟨b, _, rfl⟩ := List.mem_map.mp hy
  unfold restM
  simp
theorem hops_like {r q : Br.Recipe} (B : Built r) (B2 : Built q) : decide (sortK k3D (keysOf (thOf r 1)) = sortK k3D (keysOf (thOf q 1))) = Br.alike (rowsH r) (rowsH q) := by
  have pos : ∀ {r : Br.Recipe}, Built r → ∀ x ∈ rowsH r, 1 ≤ x.2.2.2 := fun {r} B x m => by
    obtain ⟨y, hy, rfl⟩ := List.mem_map.mp m
    exact (B.hop_ok y hy).2.1
  have nd : ((rowsH r).map (key4 restH (whole (rowsH r)))).Nodup := by
    refine nodup_of (fun k : Key => (k.1, k.2.1.getD 1 0)) ?_
    unfold rowsH
    rw [List.map_map, List.map_map]
    exact B.nodup.2.1
  rw [Bool.eq_iff_iff, decide_eq_true_eq, sort_perm_iff k3D alike_k3 k3_inj, keys_h, keys_h]
  refine alike_perm (fun x hx y hy => ?_) (pos B) (pos B2) nd
  obtain ⟨a, _, rfl⟩ := List.mem_map.mp hx
  obtain ⟨b, _, rfl⟩ := List.mem_map.mp hy
  unfold restH
  simp
theorem tAdd_inj {a b : Br.Name × Nat} (h : tAdd a = tAdd b) : a = b := by
  obtain ⟨a1, a2⟩ := a
  obtain ⟨b1, b2⟩ := b
  unfold tAdd at h
  simp at h
  rw [h.1, h.2]
theorem adds_like {r q : Br.Recipe} (B : Built r) : decide (sortK k2D (thOf r 2) = sortK k2D (thOf q 2)) = ((Br.adds r).length == (Br.adds q).length && (Br.adds r).all fun (m : Br.Name × Nat) => (Br.adds q).contains m) := by
  rw [Bool.eq_iff_iff, decide_eq_true_eq, sort_perm_iff k2D alike_k2 k2_inj, th_adds, th_adds, Bool.and_eq_true, beq_iff_eq, List.all_eq_true]
  constructor
  · intro h
    have hl := h.length_eq
    rw [List.length_map, List.length_map] at hl
    refine ⟨hl, fun x hx => ?_⟩
    have hm := h.mem_iff.mp (List.mem_map.mpr ⟨x, hx, rfl⟩)
    obtain ⟨y, hy, e⟩ := List.mem_map.mp hm
    rw [← tAdd_inj e]
    exact List.contains_iff_mem.mpr hy
  · rintro ⟨hl, h⟩
    refine perm_sub ?_ (fun k hk => ?_) (by rw [List.length_map, List.length_map]; exact hl)
    · refine nodup_of (fun t : Br.Bytes × List Nat => t.1) ?_
      rw [List.map_map]
      exact B.nodup.2.2
    · obtain ⟨x, hx, rfl⟩ := List.mem_map.mp hk
      exact List.mem_map.mpr ⟨x, List.contains_iff_mem.mp (h x hx), rfl⟩
theorem yeast_like {r q : Br.Recipe} (B : Built r) (B2 : Built q) (e : Br.ends r = true) (e2 : Br.ends q = true) : decide (yOpt r = yOpt q) = (Br.yeastOf r == Br.yeastOf q) := by
  rw [B.ends_iff] at e
  rw [B2.ends_iff] at e2
  rw [yeastOf_eq, yeastOf_eq]
  obtain ⟨a, ha⟩ := Option.isSome_iff_exists.mp e
  obtain ⟨b, hb⟩ := Option.isSome_iff_exists.mp e2
  rw [ha, hb]
  show decide (some a = some b) = (a == b)
  rw [Bool.beq_eq_decide_eq, decide_eq_decide, Option.some.injEq]
theorem like_law {r q : Br.Recipe} (B : Built r) (B2 : Built q) (e : Br.ends r = true) (e2 : Br.ends q = true) : likeT r q = Br.like r q := by
  unfold likeT Br.like
  rw [malts_like B B2, hops_like B B2, adds_like B, yeast_like B B2 e e2, Bool.and_assoc (Br.alike (rowsM r) (rowsM q))]
  rfl
theorem ends_read {t : Br.Bytes} {r : Br.Recipe} (h : Br.readRecipe t = .ok r) : Br.ends r = true := by
  obtain ⟨init, last, _, law⟩ := read_law t
  rw [law] at h
  unfold mRead at h
  cases q : runL 0 [] init with
  | error e => rw [q] at h; cases h
  | ok z =>
    rw [q] at h
    have h : (if last ≠ [] then .error (init.length, 1) else if Br.ends z = true then .ok z else .error (init.length, 3) : Except (Nat × Nat) Br.Recipe) = .ok r := h
    split at h
    · cases h
    · split at h
      · cases h
        assumption
      · cases h
def likeO (t u : Br.Bytes) : Except (List Int) (List Int) := if t.length ≤ 16384 ∧ u.length ≤ 16384 then (inOf 0 t).bind fun r => (inOf 16 u).bind fun q => .ok [if likeT r q = true then 1 else 0] else .error [-2]
theorem like_row (t u : Br.Bytes) : flatO (likeO t u) = rowOf (Wqatdl.answer (.like t u)) := by
  have ea : Wqatdl.answer (.like t u) = if 16384 < t.length ∨ 16384 < u.length then Wqatdl.MUCH else match Br.readRecipe t, Br.readRecipe u with
    | .error e, _ => Wqatdl.faultAt e
    | .ok _, .error e => Wqatdl.faultAt (e.1, e.2 + 16)
    | .ok r, .ok q => Wqatdl.says (if Br.like r q = true then 1 else 0) := rfl
  rw [ea]
  unfold likeO
  by_cases h : t.length ≤ 16384 ∧ u.length ≤ 16384
  · rw [if_pos h, if_neg (by omega)]
    unfold inOf
    cases q1 : Br.readRecipe t with
    | error e => rfl
    | ok r =>
      cases q2 : Br.readRecipe u with
      | error e => rfl
      | ok z =>
        have l := like_law (built_of q1) (built_of q2) (ends_read q1) (ends_read q2)
        show [if likeT r z = true then (1 : Int) else 0] = [if Br.like r z = true then (1 : Int) else 0]
        rw [l]
  · rw [if_neg h, if_pos (by omega)]
    rfl
end Cl
set_option maxHeartbeats 4000000
namespace Cl
open PySem PySem.Spec PyProof.Rows L2
open He (ga ma)
section
variable {P : Program} {w : World} {K : PySem.W.Frag} {mg : Str → Option Value} {base : Heap}
/-! ### like -/
def spLikeT (K : PySem.W.Frag) : Sp := fun vs H Q E => ∃ (a b : Addr) (t u : Br.Bytes), vs = [.ref a, .ref b] ∧ SqL K H a (bV t) ∧ SqL K H b (bV u) ∧ TellQ K H (likeO t u) Q E
def spLikeQ (K : PySem.W.Frag) : Sp := fun vs H Q _ => ∃ (a b : Addr) (t u : Br.Bytes), vs = [.ref a, .ref b] ∧ SqL K H a (bV t) ∧ SqL K H b (bV u) ∧ AnsQ H (likeO t u) Q
theorem sc_like_told : FnScope ["text", "other", "one"] ["text", "other"] (defScope s_like_told) := ⟨rfl, rfl, rfl, by decide +kernel, rfl, by decide +kernel, by decide +kernel⟩
theorem cl_like_told (D : DefAt K mg "like_told" s_like_told) (T : RT K mg) (TC : CT K mg) (T2 : Num mg "SECOND" 16) (T3 : mg "int" = none) (cWant : Callee P w K mg base (L2.CX P w) 3 "want" (spWant K)) (cIn : Callee P w K mg base (L2.CX P w) 7 "recipe_in" (spRecipeIn K)) (cA : Callee P w K mg base CX0 4 "are_like" (spAre K)) : Callee P w K mg base (L2.CX P w) 8 "like_told" (spLikeT K) := by
  obtain ⟨g, fd, F⟩ := D
  refine ⟨⟨fd, ["text", "other"], g, F.kp, ?_, F.binds fun _ _ _ _ _ _ us hl => match us, hl with | [_, _], _ => rfl⟩⟩
  refine F.okX sc_like_told (fun vs H Q E h => ?_) (fun cdv A outer s H vs Q E hr h => ?_)
  · obtain ⟨a, b, t, u, rfl, _⟩ := h
    rfl
  · have tk : L2.Takes (cxOf (L2.CX P w) P w K mg base ["text", "other", "one"] "like_told" (defScope s_like_told) (ga K "like_told") cdv A outer s H E) (fun cls d _ H => E cls d H) := L2.takes_of rfl rfl rfl rfl
    refine ⟨_, pss_cons (ps_expr (pe_cl (E := E) cWant hr (by decide) (by rfl) (L2.passes_call tk fun _ _ _ _ h => h) (pa_cons (pe_and (pe_cmpR op_le (pe_callB call_len (by rfl) T.len boot_len (pa_cons (pv 0) pa_nil)) (pe_num (by rfl) TC.MOST_TEXT) (nomark _)) (pe_one (pe_cmpR op_le (pe_callB call_len (by rfl) T.len boot_len (pa_cons (pv 1) pa_nil)) (pe_num (by rfl) TC.MOST_TEXT) (nomark _)))) (pa_cons (pe_num (by rfl) TC.TOO_LONG) pa_nil))))
      (pss_cons (ps_set (i := 2) sc_like_told.nd rfl (Or.inl rfl) (pe_cl (E := E) cIn hr (Nat.le_refl _) (by rfl) (L2.passes_call tk fun _ _ _ _ h => h) (pa_cons (pv 0) (pa_cons pe_int pa_nil))))
      (pss_one (ps_ret (pe_lst (pa_cons (pe_callTy call_int1 (by rfl) T3 (by decide +kernel) (pa_cons (pe_cl (E := E0) cA hr (by decide) (by rfl) passNo (pa_cons (pv 2) (pa_cons (pe_cl (E := E) cIn hr (Nat.le_refl _) (by rfl) (L2.passes_call tk fun _ _ _ _ h => h) (pa_cons (pv 1) (pa_cons (pe_num (by rfl) T2) pa_nil))) pa_nil))) pa_nil)) pa_nil))))), ?_⟩
    obtain ⟨a, b, t, u, rfl, hs, hs2, q, qE⟩ := h
    have bad : ¬ (t.length ≤ 16384 ∧ u.length ≤ 16384) → ∀ cls dd H3, RefV K H3 cls dd [-2] → Same H H3 → E cls dd H3 := fun hn cls dd H3 rf s3 => qE cls dd H3 [-2] (by
      unfold likeO
      rw [if_neg hn]) rf s3
    refine ⟨_, rfl, _, (bV t).length, rfl, .inl ⟨_, hs, rfl⟩, _, _, rfl, rfl, rdk (fun a1 => ⟨_, rfl, _, (bV u).length, rfl, .inl ⟨_, hs2, rfl⟩, _, _, rfl, rfl, _, -2, rfl, fun a2 => ?_, fun a2 => bad ?_⟩) (fun a1 => ⟨false, -2, rfl, (fun z => by cases z), fun _ => bad ?_⟩)⟩
    · have a1 := dT a1
      have a2 := dT a2
      rw [bV_len] at a1 a2
      have ok : t.length ≤ 16384 ∧ u.length ≤ 16384 := ⟨by omega, by omega⟩
      have el : likeO t u = (inOf 0 t).bind fun r => (inOf 16 u).bind fun q => .ok [if likeT r q = true then 1 else 0] := by
        unfold likeO
        rw [if_pos ok]
      rw [el] at q qE
      refine ⟨_, rfl, a, t, 0, rfl, hs, by omega, fun H2 rc r eo B rv s2 => ?_, fun cls d H2 ns eo rv s2 => qE cls d H2 ns (by rw [eo]; rfl) rv s2⟩
      rw [eo] at q qE
      refine ⟨_, rfl, _, rfl, b, u, 16, rfl, s2.seq hs2, by omega, fun H3 qc z eo2 B2 rv2 s3 => ?_, fun cls d H3 ns eo2 rv2 s3 => qE cls d H3 ns (by rw [eo2]; rfl) rv2 (s2.trans s3)⟩
      refine ⟨rc, qc, r, z, rfl, B, B2, rv.same s3, rv2, fun H4 s4 => ?_⟩
      refine .inr ⟨_, rfl, by show 1 ≤ sizeLine; decide, fun l hl => ?_⟩
      refine q _ l [if likeT r z = true then 1 else 0] (by rw [eo2]; rfl) upd_same ?_
      exact s2.trans (s3.trans (s4.trans (Same.new hl)))
    · have a2 := dF a2
      rw [bV_len] at a2
      omega
    · have a1 := dF a1
      rw [bV_len] at a1
      omega
theorem sc_like : FnScope ["text", "other", "e"] ["text", "other"] (defScope s_like) := ⟨rfl, rfl, rfl, by decide +kernel, rfl, by decide +kernel, by decide +kernel⟩
theorem fn_like {fd : FuncData} (F : Fun K "like" "like" s_like (ga K "like") fd) (TC : CT K mg) (Er : RefAt K mg) (c : Callee P w K mg base (L2.CX P w) 8 "like_told" (spLikeT K)) : FnOk P w K mg base CX0 10 (ga K "like") fd ["text", "other"] (spLikeQ K) := by
  refine F.ok sc_like (fun vs H Q E h => ?_) (fun cdv A outer s H vs Q E hr h => ?_)
  · obtain ⟨a, b, t, u, rfl, _⟩ := h
    rfl
  · refine ⟨_, pss_one (ps_try_as rfl rfl sc_like.nd (i := 2) rfl rfl ⟨by rfl, by decide, .inl Er.g⟩ no_takes
        (fun W pn xe tkW _ => pss_one (ps_ret (pe_clS (E := WE W) c hr (by decide) (by rfl) (fun σ => L2.passAt tkW σ) (pa_cons (pv 0) (pa_cons (pv 1) pa_nil)))))
        (fun a oe cls d pn hz hf => pss_one (ps_ret (pe_xf Er.xf (Er.no "numbers" (by simp)) hz hf (pv 2))))), ?_⟩
    obtain ⟨a, b, t, u, rfl, hs, hs2, q⟩ := h
    refine ⟨_, rfl, _, rfl, a, b, t, u, rfl, hs, hs2, tell_ans q fun cls d H2 ns rv s2 eo => ?_⟩
    obtain ⟨ec, dd, l, ed, hd, hl⟩ := rv
    refine ⟨true, by rw [ec]; exact TC.exmR, fun _ ax hax => ?_, fun z => by cases z⟩
    exact ⟨_, rfl, rfl, ec, dd, _, _, ed, hd, rfl, q H2 l (by rw [eo]; exact hl) s2⟩
end
end Cl
set_option maxHeartbeats 4000000
namespace Cl
open PySem PySem.Spec PyProof.Rows L2
open He (ga ma)
section
variable {P : Program} {w : World} {K : PySem.W.Frag} {h base : Heap} {mg : Str → Option Value}
theorem c_are (S : Says fa fn K h mg) : Callee P w K mg base CX0 4 "are_like" (spAre K) := cl_are_like (d_are_like S) ⟨n_MALT S, n_HOP S, n_ADD S, b_sorted S⟩ (s_ks S) (cl_shares (d_shares S) ⟨b_sum S, b_sorted S⟩ (s_ks S) (cl_lowest (d_lowest S) (cl_common_part (d_common_part S))))
end
open PySem.W (Codec OpenSpec) in
theorem like_call {w : World} {mg : Str → Option Value} {f0 : Addr} {h : Heap} (Y : hk.says w h) (G : h.Ns mainGlobals mg) (hm : mg "like" = some (.ref f0)) :
    ∃ (K : PySem.W.Frag) (fd : FuncData) (sp : Sp), K.In h ∧ (∀ (s : Shared) (us : List Value), us.length = ["text", "other"].length → BindsTo s fd ⟨us, []⟩ ((["text", "other"] : List Str).zip us)) ∧
        (∀ base : Heap, K.In base → base.Ns mainGlobals mg → FnOk rw0.prog w K mg base CX0 10 f0 fd ["text", "other"] sp) ∧
        ∀ (H : Hp) (xs : List V) (a : Codec.denoteAll rw0.args), OnlyF H → Codec.withinAll rw0.args a = true → Codec.app rw0.args rw0.asked a = true → DwAll K H xs (Codec.encAll rw0.args a) →
          sp xs H (fun v H2 => Dw K H2 v (rw0.ret.enc (Codec.app rw0.args rw0.f a))) fun _ _ _ => False := by
  obtain ⟨K, hK, c⟩ := Y
  have S : Says fa fn K h mg := ⟨hK, G, c.t.d⟩
  have e := ex_of c.more
  obtain ⟨g, fd, F⟩ := d_like S
  rw [g] at hm
  cases hm
  refine ⟨K, fd, spLikeQ K, hK, fun s us hl => ?_, fun base _ _ => fn_like F (s_ct S) (s_refused S e.r) (cl_like_told (d_like_told S) (s_rt S) (s_ct S) (n_SECOND S) (b_int S) (c_want S e) (c_recipe_in S e) (c_are S)), fun H xs a _ win _ st => ?_⟩
  · exact fun_binds F (fun _ _ _ _ _ _ us hl => match us, hl with | [_, _], _ => rfl) s us hl
  · obtain ⟨ns, ms, u⟩ := a
    obtain ⟨x0, r0, rfl, d0, st⟩ := dw_cons (show DwAll K H xs [.list (ns.map PySem.W.WData.int), .list (ms.map PySem.W.WData.int)] from st)
    obtain ⟨x, rfl, dx⟩ := dw1 st
    obtain ⟨p0, rfl, sq0⟩ := dw_list d0
    obtain ⟨p, rfl, sq⟩ := dw_list dx
    have win : Codec.within (.list 0 40000 (.int (_root_.Int.ofNat 0) (_root_.Int.ofNat 255))) ns = true ∧ (Codec.within (.list 0 40000 (.int (_root_.Int.ofNat 0) (_root_.Int.ofNat 255))) ms && true) = true := Bool.and_eq_true_iff.mp win
    rw [text_bytes (in_text win.1)] at sq0
    rw [text_bytes (in_text (Bool.and_eq_true_iff.mp win.2).1)] at sq
    refine ⟨p0, p, WqatdlNeutral.bytes ns, WqatdlNeutral.bytes ms, rfl, sq0, sq, fun H2 l hl _ => ?_⟩
    rw [like_row] at hl
    exact ans_dw hl
end Cl

open PySem PySem.W PySem.Calls PyProof.Rows
theorem PySem.Challenge.cw_brewrecipes_s06_like_holds : PySem.Challenge.rw_brewrecipes_s06_like.Holds := by
  refine HandSHeadRun.head_spec (r := PySem.Challenge.rw_brewrecipes_s06_like) (q := view PySem.Challenge.rw_brewrecipes_s06_like.prog [Cl.place]) (H := Cl.hk) (ob := Cl.ob) (M := 4000) (loose := Cl.names) (d := HandSHeadRun.topDef PySem.Challenge.rw_brewrecipes_s06_like.prog Cl.place) (kwd := []) Cl.ob_eq
    (by kernel_rfl) (fun s => by kernel_rfl) Cl.run (by kernel_rfl) (by kernel_rfl) (by kernel_rfl) os_shapes (by decide +kernel) (by decide +kernel) ⟨rfl, rfl, rfl, rfl, rfl, by decide +kernel⟩ ?hw ?hc
  case hw => exact ⟨[.list [], .list []], by decide +kernel, by decide +kernel⟩
  case hc =>
    refine Cl.walk_facts (k := 10) (CX := fun _ => L2.CX0) (ps := ["text", "other"]) (by decide +kernel) (by kernel_rfl) rfl ⟨rfl, by decide, by decide⟩ (fun w mg f0 h Y G hm => ?_) (fun _ _ _ _ _ z => z)
    have hm : mg ("like" : PySem.Str) = some (.ref f0) := by
      have e : (HandSHeadRun.topDef PySem.Challenge.rw_brewrecipes_s06_like.prog Cl.place).name = ("like" : PySem.Str) := by kernel_rfl
      rw [← e]
      exact hm
    exact Cl.like_call Y G hm
