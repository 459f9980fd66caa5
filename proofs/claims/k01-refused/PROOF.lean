import PyProof.Rows.All
import Wide.All
import OpenK.AllK
import Wide.FinOn
import KE.KStateDown
import Lean
import HandS.More
import HandS.WordsExc
import HandS.Defaults
import HandS.Head0
import HandS.Head1
import HandS.Head2
import HandS.HeadEnd
import HandS.HeadHook1
import HandS.HeadHook2
import HandS.HeadWalk
import HandS.ForMost
import HandS.Deep
import HandS.Codes
import KE.DataMinMax
import KE.SortData
import KE.DataCmp
import HandS.Conv
import HandS.Style
import HandS.IsInst
import HandS.Exc
import HandS.HotCalls
import HandS.ExcCtx
import HandS.ExcInitHot
import KE.KLam
import KE.KDflt
import HandS.Lambda
import HandS.Nested
import KE.KExcIs
import HandS.ExcInit
import HandS.ExcIs
import HandS.ExcField
import KE.KNest
import KE.KNestM
import HandS.EndBits
import HandS.EndTab
import HandS.HeadHook3
import HandS.HeadHook4
import PySem.Challenge.RW_signsets_k01_sets_refused
set_option Elab.async false
set_option linter.all false
set_option maxRecDepth 100000
set_option maxHeartbeats 4000000
/-! Signsets: the plain mathematics of ranges (no program in sight). -/
namespace Sg
/-- whether a number is in some range -/
def has (R : List (Int × Int)) (n : Int) : Bool := R.any fun r => decide (r.1 ≤ n) && decide (n ≤ r.2)
/-- 0, 1, .. below n -/
def upTo (n : Nat) : List Int := (List.range n).map fun (k : Nat) => (k : Int)
def allIn (n : Nat) (R : List (Int × Int)) : List Int := (upTo n).filter (has R)
def toldStep (acc : List (Int × Int)) (n : Int) : List (Int × Int) :=
  match acc.getLast? with
  | some r => if r.2 = n - 1 then acc.dropLast ++ [(r.1, n)] else acc ++ [(n, n)]
  | none => [(n, n)]
def told (ns : List Int) : List (Int × Int) := ns.foldl toldStep []
/-- ranges that a size lets be -/
def Ok (size : Int) (R : List (Int × Int)) : Prop := R.length ≤ 40 ∧ ∀ r ∈ R, 0 ≤ r.1 ∧ r.1 ≤ r.2 ∧ r.2 < size

theorem mem_upTo {n : Nat} {k : Int} : k ∈ upTo n ↔ 0 ≤ k ∧ k < (n : Int) := by
  unfold upTo
  rw [List.mem_map]
  constructor
  · rintro ⟨a, h, rfl⟩
    have := List.mem_range.mp h
    omega
  · intro h
    exact ⟨k.toNat, List.mem_range.mpr (by omega), by omega⟩
theorem upTo_len (n : Nat) : (upTo n).length = n := by simp [upTo]
theorem upTo_get {n i : Nat} (h : i < n) : (upTo n)[i]? = some (i : Int) := by
  unfold upTo
  rw [List.getElem?_map, List.getElem?_range h]
  rfl
theorem rising_range (n : Nat) : (upTo n).Pairwise (· < ·) := by
  unfold upTo
  rw [List.pairwise_map]
  refine List.Pairwise.imp (fun {a b} h => ?_) List.pairwise_lt_range
  omega
theorem rising_filter {n : Nat} (p : Int → Bool) : ((upTo n).filter p).Pairwise (· < ·) := (rising_range n).filter p
theorem has_iff {R : List (Int × Int)} {n : Int} : has R n = true ↔ ∃ r ∈ R, r.1 ≤ n ∧ n ≤ r.2 := by
  unfold has
  rw [List.any_eq_true]
  constructor
  · rintro ⟨r, h, e⟩
    rw [Bool.and_eq_true] at e
    exact ⟨r, h, of_decide_eq_true e.1, of_decide_eq_true e.2⟩
  · rintro ⟨r, h, e1, e2⟩
    exact ⟨r, h, by rw [Bool.and_eq_true]; exact ⟨decide_eq_true e1, decide_eq_true e2⟩⟩
theorem has_append {A B : List (Int × Int)} {n : Int} : has (A ++ B) n = (has A n || has B n) := by
  unfold has
  rw [List.any_append]

/-- what told has made of the numbers so far -/
structure TI (acc : List (Int × Int)) (pre : List Int) : Prop where
  has : ∀ n, has acc n = true ↔ n ∈ pre
  sep : acc.Pairwise fun a b => a.2 + 1 < b.1
  le : ∀ r ∈ acc, r.1 ≤ r.2
theorem TI.lt {acc : List (Int × Int)} {pre : List Int} (t : TI acc pre) {n : Int} (h : ∀ m ∈ pre, m < n) {r : Int × Int} (hr : r ∈ acc) : r.2 < n :=
  h _ ((t.has r.2).mp (has_iff.mpr ⟨r, hr, t.le r hr, Int.le_refl _⟩))
theorem TI.step {acc : List (Int × Int)} {pre : List Int} (t : TI acc pre) {n : Int} (h : ∀ m ∈ pre, m < n) : TI (toldStep acc n) (pre ++ [n]) := by
  unfold toldStep
  cases e : acc.getLast? with
  | none =>
    have ea : acc = [] := List.getLast?_eq_none_iff.mp e
    subst ea
    refine ⟨fun m => ?_, by simp, by simp⟩
    have hp := t.has m
    rw [has_iff, List.mem_append, ← hp, has_iff]
    constructor
    · rintro ⟨r, hr, h1, h2⟩
      have : r = (n, n) := by simpa using hr
      subst this
      exact .inr (List.mem_singleton.mpr (by simp at h1 h2; omega))
    · rintro (⟨r, hr, _⟩ | q)
      · simp at hr
      · have := List.mem_singleton.mp q
        subst this
        exact ⟨(m, m), by simp, Int.le_refl _, Int.le_refl _⟩
  | some r =>
    obtain ⟨ini, ea⟩ : ∃ ini, acc = ini ++ [r] := ⟨acc.dropLast, by rw [List.getLast?_eq_some_iff] at e; obtain ⟨ys, rfl⟩ := e; simp⟩
    have hri : r ∈ acc := by rw [ea]; simp
    have hrl := t.lt h hri
    have hre := t.le r hri
    have sp := t.sep
    rw [ea, List.pairwise_append] at sp
    show TI (if r.2 = n - 1 then acc.dropLast ++ [(r.1, n)] else acc ++ [(n, n)]) (pre ++ [n])
    split
    · rename_i c
      have ed : acc.dropLast = ini := by rw [ea]; simp
      rw [ed]
      refine ⟨fun m => ?_, ?_, ?_⟩
      · have hp := t.has m
        rw [ea, has_append, Bool.or_eq_true] at hp
        rw [has_append, Bool.or_eq_true, List.mem_append, ← hp]
        have e1 : Sg.has [(r.1, n)] m = true ↔ r.1 ≤ m ∧ m ≤ n := by rw [has_iff]; simp
        have e2 : Sg.has [r] m = true ↔ r.1 ≤ m ∧ m ≤ r.2 := by rw [has_iff]; simp
        rw [e1, e2, List.mem_singleton]
        by_cases X : Sg.has ini m = true
        · simp [X]
        · simp only [X]
          simp
          omega
      · rw [List.pairwise_append]
        refine ⟨sp.1, by simp, fun a ha b hb => ?_⟩
        have : b = (r.1, n) := List.mem_singleton.mp hb
        subst this
        exact sp.2.2 a ha r (by simp)
      · intro q hq
        rcases List.mem_append.mp hq with k | k
        · exact t.le q (by rw [ea]; exact List.mem_append_left _ k)
        · have : q = (r.1, n) := List.mem_singleton.mp k
          subst this
          show r.1 ≤ n
          omega
    · rename_i c
      refine ⟨fun m => ?_, ?_, ?_⟩
      · have hp := t.has m
        rw [has_append, Bool.or_eq_true, List.mem_append, ← hp]
        have e1 : Sg.has [(n, n)] m = true ↔ n ≤ m ∧ m ≤ n := by rw [has_iff]; simp
        rw [e1, List.mem_singleton]
        by_cases X : Sg.has acc m = true
        · simp [X]
        · simp only [X]
          simp
          omega
      · rw [List.pairwise_append]
        refine ⟨t.sep, by simp, fun a ha b hb => ?_⟩
        have : b = (n, n) := List.mem_singleton.mp hb
        subst this
        show a.2 + 1 < n
        rw [ea] at ha
        rcases List.mem_append.mp ha with k | k
        · have := sp.2.2 a k r (by simp)
          omega
        · have : a = r := List.mem_singleton.mp k
          subst this
          omega
      · intro q hq
        rcases List.mem_append.mp hq with k | k
        · exact t.le q k
        · have : q = (n, n) := List.mem_singleton.mp k
          subst this
          exact Int.le_refl _
theorem TI.fold : ∀ (ns : List Int) (acc : List (Int × Int)) (pre : List Int), TI acc pre → (pre ++ ns).Pairwise (· < ·) → TI (ns.foldl toldStep acc) (pre ++ ns)
  | [], acc, pre, t, _ => by
    rw [List.append_nil]
    exact t
  | n :: r, acc, pre, t, h => by
    have e : pre ++ n :: r = (pre ++ [n]) ++ r := by simp
    rw [e] at h ⊢
    refine TI.fold r _ _ (t.step fun m hm => ?_) h
    have h1 := (List.pairwise_append.mp (List.pairwise_append.mp h).1).2.2
    exact h1 m hm n (by simp)
theorem told_ti {ns : List Int} (h : ns.Pairwise (· < ·)) : TI (told ns) ns := by
  have q := TI.fold ns [] [] ⟨by simp [has], by simp, by simp⟩ (by simpa using h)
  rw [List.nil_append] at q
  exact q
theorem told_has {ns : List Int} (h : ns.Pairwise (· < ·)) (n : Int) : has (told ns) n = decide (n ∈ ns) := by
  have := (told_ti h).has n
  cases e : has (told ns) n
  · exact (decide_eq_false fun q => by rw [this.mpr q] at e; cases e).symm
  · exact (decide_eq_true (this.mp e)).symm
theorem sep_len : ∀ (R : List (Int × Int)) (lo hi : Int), R.Pairwise (fun a b => a.2 + 1 < b.1) → (∀ r ∈ R, lo ≤ r.1 ∧ r.1 ≤ r.2 ∧ r.2 < hi) → R ≠ [] → 2 * (R.length : Int) ≤ hi - lo + 1
  | [], _, _, _, _, h => absurd rfl h
  | [r], lo, hi, _, h, _ => by
    have := h r (by simp)
    simp
    omega
  | r :: q :: R, lo, hi, hp, h, _ => by
    have h1 := h r (by simp)
    rw [List.pairwise_cons] at hp
    have ih := sep_len (q :: R) (r.1 + 2) hi hp.2 (fun z hz => by
      have a := hp.1 z hz
      have b := h z (List.mem_cons_of_mem _ hz)
      omega) (by simp)
    simp at ih ⊢
    omega
theorem told_ok {size : Int} {ns : List Int} (h : ns.Pairwise (· < ·)) (hs : size ≤ 64) (hm : ∀ n ∈ ns, 0 ≤ n ∧ n < size) : Ok size (told ns) := by
  have t := told_ti h
  have hv : ∀ r ∈ told ns, 0 ≤ r.1 ∧ r.1 ≤ r.2 ∧ r.2 < size := fun r hr => by
    have h1 := (t.has r.1).mp (has_iff.mpr ⟨r, hr, Int.le_refl _, t.le r hr⟩)
    have h2 := (t.has r.2).mp (has_iff.mpr ⟨r, hr, t.le r hr, Int.le_refl _⟩)
    exact ⟨(hm _ h1).1, t.le r hr, (hm _ h2).2⟩
  refine ⟨?_, hv⟩
  by_cases e : told ns = []
  · rw [e]
    exact Nat.zero_le _
  · have := sep_len (told ns) 0 size t.sep (fun r hr => by have := hv r hr; omega) e
    omega

/-- the ranges of all numbers below n of which p says yes -/
def TR (n : Nat) (p : Int → Bool) : List (Int × Int) := told ((upTo n).filter p)
theorem TR_congr {n : Nat} {p q : Int → Bool} (h : ∀ k : Int, 0 ≤ k → k < (n : Int) → p k = q k) : TR n p = TR n q := by
  unfold TR
  rw [List.filter_congr fun k hk => h k (mem_upTo.mp hk).1 (mem_upTo.mp hk).2]
theorem TR_has {n : Nat} {p : Int → Bool} {k : Int} (h0 : 0 ≤ k) (h1 : k < (n : Int)) : has (TR n p) k = p k := by
  unfold TR
  rw [told_has (rising_filter p)]
  cases e : p k
  · exact decide_eq_false fun q => by rw [(List.mem_filter.mp q).2] at e; cases e
  · exact decide_eq_true (List.mem_filter.mpr ⟨mem_upTo.mpr ⟨h0, h1⟩, e⟩)
theorem TR_ok {n : Nat} (hn : n ≤ 64) (p : Int → Bool) : Ok (n : Int) (TR n p) :=
  told_ok (rising_filter p) (by omega) fun k hk => by
    have := mem_upTo.mp (List.mem_filter.mp hk).1
    exact this
theorem TR_none (n : Nat) : TR n (fun _ => false) = [] := by
  unfold TR
  rw [List.filter_eq_nil_iff.mpr (by simp)]
  rfl
theorem told_snoc (ns : List Int) (n : Int) : told (ns ++ [n]) = toldStep (told ns) n := by
  unfold told
  rw [List.foldl_append]
  rfl
theorem upTo_succ (n : Nat) : upTo (n + 1) = upTo n ++ [(n : Int)] := by
  unfold upTo
  rw [List.range_succ, List.map_append]
  rfl
theorem told_upTo : ∀ n : Nat, told (upTo (n + 1)) = [(0, (n : Int))]
  | 0 => by decide
  | n + 1 => by
    rw [upTo_succ, told_snoc, told_upTo n]
    show (if (n : Int) = ((n + 1 : Nat) : Int) - 1 then [((0 : Int), ((n + 1 : Nat) : Int))] else _) = _
    rw [if_pos (by omega)]
theorem TR_all {n : Nat} (h : 0 < n) : TR n (fun _ => true) = [(0, (n : Int) - 1)] := by
  unfold TR
  rw [List.filter_eq_self.mpr (by simp)]
  obtain ⟨m, rfl⟩ : ∃ m, n = m + 1 := ⟨n - 1, by omega⟩
  rw [told_upTo]
  simp
theorem has_reverse (R : List (Int × Int)) (k : Int) : has R.reverse k = has R k := by
  unfold has
  rw [List.any_reverse]
theorem mem_allIn {n : Nat} {R : List (Int × Int)} (hk : Ok n R) {k : Int} : k ∈ allIn n R ↔ has R k = true := by
  unfold allIn
  rw [List.mem_filter, mem_upTo]
  constructor
  · exact fun z => z.2
  · intro z
    obtain ⟨r, hr', z1, z2⟩ := has_iff.mp z
    obtain ⟨k1, k2, k3⟩ := hk.2 r hr'
    exact ⟨⟨by omega, by omega⟩, z⟩
theorem allIn_len (n : Nat) (p : Int → Bool) : ((upTo n).filter p).length ≤ n := Nat.le_trans (List.length_filter_le _ _) (by rw [upTo_len]; exact Nat.le_refl _)
theorem told_len (ns : List Int) : (told ns).length ≤ ns.length := by
  have h : ∀ (ms : List Int) (acc : List (Int × Int)), (ms.foldl toldStep acc).length ≤ acc.length + ms.length := by
    intro ms
    induction ms with
    | nil => intro acc; exact Nat.le_refl _
    | cons m ms ih =>
      intro acc
      refine Nat.le_trans (ih _) ?_
      have : (toldStep acc m).length ≤ acc.length + 1 := by
        unfold toldStep
        split
        · split <;> simp
        · simp
      simp
      omega
  have := h ns []
  simpa [told] using this
end Sg
/-! Signsets: unlike ones as they come, classes (no program in sight). -/
namespace Sg
section
variable {α β : Type} [DecidableEq α] [DecidableEq β]
def addU (acc : List α) (x : α) : List α := if x ∈ acc then acc else acc ++ [x]
/-- unlike ones, as they come -/
def uniq (l : List α) : List α := l.foldl addU []
theorem addU_old {acc : List α} {x : α} (h : x ∈ acc) : addU acc x = acc := if_pos h
theorem addU_new {acc : List α} {x : α} (h : ¬ x ∈ acc) : addU acc x = acc ++ [x] := if_neg h
theorem mem_addU {acc : List α} {x y : α} : y ∈ addU acc x ↔ y ∈ acc ∨ y = x := by
  unfold addU
  split
  · rename_i h
    exact ⟨.inl, fun z => z.elim id fun e => e ▸ h⟩
  · rw [List.mem_append, List.mem_singleton]
theorem uniq_snoc (l : List α) (x : α) : uniq (l ++ [x]) = addU (uniq l) x := by
  unfold uniq
  rw [List.foldl_append]
  rfl
theorem foldU_pre : ∀ (l acc : List α), ∃ r, l.foldl addU acc = acc ++ r
  | [], acc => ⟨[], by simp⟩
  | x :: l, acc => by
    obtain ⟨r, h⟩ := foldU_pre l (addU acc x)
    rw [List.foldl_cons, h]
    unfold addU
    split
    · exact ⟨r, rfl⟩
    · exact ⟨x :: r, by simp⟩
theorem uniq_pre (a b : List α) : ∃ r, uniq (a ++ b) = uniq a ++ r := by
  unfold uniq
  rw [List.foldl_append]
  exact foldU_pre b _
theorem mem_foldU : ∀ (l acc : List α) (y : α), y ∈ l.foldl addU acc ↔ y ∈ acc ∨ y ∈ l
  | [], acc, y => by simp
  | x :: l, acc, y => by
    rw [List.foldl_cons, mem_foldU l, mem_addU, List.mem_cons, or_assoc]
theorem mem_uniq {l : List α} {y : α} : y ∈ uniq l ↔ y ∈ l := by
  unfold uniq
  rw [mem_foldU]
  simp
theorem nodup_foldU : ∀ (l acc : List α), acc.Nodup → (l.foldl addU acc).Nodup
  | [], acc, h => h
  | x :: l, acc, h => by
    rw [List.foldl_cons]
    refine nodup_foldU l _ ?_
    unfold addU
    split
    · exact h
    · rename_i c
      rw [List.nodup_append]
      refine ⟨h, by simp, fun a ha b hb e => ?_⟩
      rw [List.mem_singleton] at hb
      rw [e, hb] at ha
      exact c ha
theorem nodup_uniq (l : List α) : (uniq l).Nodup := nodup_foldU l [] List.nodup_nil
theorem foldU_map {f : α → β} (hf : ∀ a b, f a = f b → a = b) : ∀ (l acc : List α), (l.map f).foldl addU (acc.map f) = (l.foldl addU acc).map f
  | [], acc => rfl
  | x :: l, acc => by
    have e : addU (acc.map f) (f x) = (addU acc x).map f := by
      unfold addU
      have h : f x ∈ acc.map f ↔ x ∈ acc := by
        rw [List.mem_map]
        exact ⟨fun ⟨a, ha, e⟩ => hf _ _ e ▸ ha, fun h => ⟨x, h, rfl⟩⟩
      by_cases c : x ∈ acc
      · rw [if_pos c, if_pos (h.mpr c)]
      · rw [if_neg c, if_neg fun z => c (h.mp z), List.map_append]
        rfl
    rw [List.map_cons, List.foldl_cons, List.foldl_cons, e, foldU_map hf l]
theorem uniq_map {f : α → β} (hf : ∀ a b, f a = f b → a = b) (l : List α) : uniq (l.map f) = (uniq l).map f := foldU_map hf l []
theorem uniq_len (l : List α) : (uniq l).length ≤ l.length := by
  have h : ∀ (l acc : List α), (l.foldl addU acc).length ≤ acc.length + l.length := by
    intro l
    induction l with
    | nil => intro acc; exact Nat.le_refl _
    | cons x l ih =>
      intro acc
      refine Nat.le_trans (ih _) ?_
      have : (addU acc x).length ≤ acc.length + 1 := by
        unfold addU
        split <;> simp
      simp
      omega
  have := h l []
  simpa [uniq] using this
/-- the first place of x -/
def pl (x : α) : List α → Nat
  | [] => 0
  | y :: l => if y = x then 0 else pl x l + 1
theorem pl_get {x : α} : ∀ {l : List α}, x ∈ l → l[pl x l]? = some x
  | [], h => by simp at h
  | y :: l, h => by
    unfold pl
    split
    · rename_i e
      rw [e]
      rfl
    · rename_i e
      rcases List.mem_cons.mp h with z | z
      · exact absurd z.symm e
      · simpa using pl_get z
theorem pl_lt {x : α} {l : List α} (h : x ∈ l) : pl x l < l.length := (List.getElem?_eq_some_iff.mp (pl_get h)).1
theorem pl_ahead {x : α} : ∀ {l : List α} {m : Nat} {z : α}, m < pl x l → l[m]? = some z → z ≠ x
  | [], m, z, h, _ => by simp [pl] at h
  | y :: l, m, z, h, e => by
    unfold pl at h
    split at h
    · omega
    · rename_i c
      cases m with
      | zero =>
        simp at e
        rw [← e]
        exact c
      | succ m =>
        simp at e
        exact pl_ahead (Nat.lt_of_succ_lt_succ h) e
theorem pl_app {x : α} : ∀ {a b : List α}, x ∈ a → pl x (a ++ b) = pl x a
  | [], b, h => by simp at h
  | y :: a, b, h => by
    rw [List.cons_append]
    unfold pl
    split
    · rfl
    · rename_i e
      rcases List.mem_cons.mp h with z | z
      · exact absurd z.symm e
      · rw [pl_app z]
theorem pl_map {f : α → β} (hf : ∀ a b, f a = f b → a = b) (x : α) : ∀ l : List α, pl (f x) (l.map f) = pl x l
  | [] => rfl
  | y :: l => by
    rw [List.map_cons]
    unfold pl
    by_cases c : y = x
    · rw [if_pos c, if_pos (by rw [c])]
    · rw [if_neg c, if_neg fun z => c (hf _ _ z), pl_map hf x l]
theorem nodup_le : ∀ {a b : List α}, a.Nodup → (∀ x ∈ a, x ∈ b) → a.length ≤ b.length
  | [], b, _, _ => Nat.zero_le _
  | x :: a, b, hn, hs => by
    rw [List.nodup_cons] at hn
    have hx : x ∈ b := hs x (by simp)
    have ih := nodup_le (b := b.erase x) hn.2 fun y hy => (List.mem_erase_of_ne fun z => hn.1 (by rw [← z]; exact hy)).mpr (hs y (List.mem_cons_of_mem _ hy))
    rw [List.length_erase_of_mem hx] at ih
    have : 0 < b.length := List.length_pos_of_mem hx
    rw [List.length_cons]
    omega
end
/-- which of the sets have k -/
def kindOf (SS : List (List (Int × Int))) (k : Int) : List Bool := SS.map fun R => has R k
def kinds (n : Nat) (SS : List (List (Int × Int))) : List (List Bool) := uniq ((upTo n).map (kindOf SS))
def rowOf (n : Nat) (SS : List (List (Int × Int))) : List Int := (upTo n).map fun k => ((pl (kindOf SS k) (kinds n SS) : Nat) : Int)
def classOf (n : Nat) (SS : List (List (Int × Int))) (j : Nat) : List (Int × Int) := told ((upTo n).filter fun k => decide (((pl (kindOf SS k) (kinds n SS) : Nat) : Int) = (j : Int)))
def classesOf (n : Nat) (SS : List (List (Int × Int))) : List (List (Int × Int)) := (List.range (kinds n SS).length).map (classOf n SS)
def byC (n : Nat) (SS : List (List (Int × Int))) : List (List Int) := (List.range SS.length).map fun a => (upTo (kinds n SS).length).filter fun j => ((kinds n SS).getD j.toNat []).getD a false
theorem kinds_len (n : Nat) (SS : List (List (Int × Int))) : (kinds n SS).length ≤ n := Nat.le_trans (uniq_len _) (by rw [List.length_map, upTo_len]; exact Nat.le_refl _)
theorem mem_kinds {n : Nat} {SS : List (List (Int × Int))} {k : Int} (h0 : 0 ≤ k) (h1 : k < (n : Int)) : kindOf SS k ∈ kinds n SS := mem_uniq.mpr (List.mem_map.mpr ⟨k, mem_upTo.mpr ⟨h0, h1⟩, rfl⟩)
theorem kinds_mem {n : Nat} {SS : List (List (Int × Int))} {b : List Bool} (h : b ∈ kinds n SS) : ∃ k : Int, 0 ≤ k ∧ k < (n : Int) ∧ b = kindOf SS k := by
  obtain ⟨k, hk, rfl⟩ := List.mem_map.mp (mem_uniq.mp h)
  exact ⟨k, (mem_upTo.mp hk).1, (mem_upTo.mp hk).2, rfl⟩
theorem kinds_at {n : Nat} {SS : List (List (Int × Int))} {j : Nat} {b : List Bool} (h : (kinds n SS)[j]? = some b) : b.length = SS.length := by
  obtain ⟨k, _, _, rfl⟩ := kinds_mem (List.mem_of_getElem? h)
  unfold kindOf
  rw [List.length_map]
theorem rowOf_len (n : Nat) (SS : List (List (Int × Int))) : (rowOf n SS).length = n := by unfold rowOf; rw [List.length_map, upTo_len]
theorem rowOf_get {n i : Nat} (SS : List (List (Int × Int))) (h : i < n) : (rowOf n SS)[i]? = some ((pl (kindOf SS (i : Int)) (kinds n SS) : Nat) : Int) := by
  unfold rowOf
  rw [List.getElem?_map, upTo_get h]
  rfl
/-- with a set more no fewer classes -/
theorem kinds_more (n : Nat) (SS : List (List (Int × Int))) (R : List (Int × Int)) : (kinds n SS).length ≤ (kinds n (SS ++ [R])).length := by
  have e := nodup_le (a := kinds n SS) (b := (kinds n (SS ++ [R])).map List.dropLast) (nodup_uniq _) fun b hb => by
    obtain ⟨k, h0, h1, rfl⟩ := kinds_mem hb
    refine List.mem_map.mpr ⟨_, mem_kinds (SS := SS ++ [R]) h0 h1, ?_⟩
    unfold kindOf
    rw [List.map_append]
    simp
  rwa [List.length_map] at e
theorem kinds_one (n : Nat) (SS : List (List (Int × Int))) (o : Int) : (kinds n (SS ++ [[(o, o)]])).length ≤ (kinds n SS).length + 1 := by
  have ek : ∀ k, kindOf (SS ++ [[(o, o)]]) k = kindOf SS k ++ [decide (k = o)] := fun k => by
    unfold kindOf
    rw [List.map_append]
    congr 1
    show [has [(o, o)] k] = _
    congr 1
    cases e : has [(o, o)] k
    · refine (decide_eq_false fun z => ?_).symm
      rw [z, has_iff.mpr ⟨(o, o), by simp, Int.le_refl _, Int.le_refl _⟩] at e
      cases e
    · obtain ⟨r, hr, h1, h2⟩ := has_iff.mp e
      obtain rfl := List.mem_singleton.mp hr
      exact (decide_eq_true (by simp at h1 h2; omega)).symm
  have e := nodup_le (a := kinds n (SS ++ [[(o, o)]])) (b := (kinds n SS).map (fun b => b ++ [false]) ++ [kindOf SS o ++ [true]]) (nodup_uniq _) fun b hb => by
    obtain ⟨k, h0, h1, rfl⟩ := kinds_mem hb
    rw [ek, List.mem_append]
    by_cases c : k = o
    · rw [decide_eq_true c, c]
      exact .inr (by simp)
    · rw [decide_eq_false c]
      exact .inl (List.mem_map.mpr ⟨_, mem_kinds h0 h1, rfl⟩)
  rw [List.length_append, List.length_map] at e
  exact e
end Sg
/-! Signsets: tables of two steps (no program in sight). -/
namespace Sg
/-- how many stretches of w signs -/
def cnt (n w : Nat) : Nat := (n + w - 1) / w
theorem cnt_lt {n w i : Nat} (hw : 1 ≤ w) : i < cnt n w ↔ i * w < n := by
  unfold cnt
  rw [← Nat.succ_le_iff, Nat.le_div_iff_mul_le (by omega), Nat.succ_mul]
  omega
theorem cnt_le {n w : Nat} (hw : 1 ≤ w) : cnt n w ≤ n := by
  rcases Nat.lt_or_ge n (cnt n w) with h | h
  · have h1 := (cnt_lt hw).mp h
    have h2 : n * 1 ≤ n * w := Nat.mul_le_mul_left n hw
    omega
  · exact h
theorem cnt_pos {n w : Nat} (hw : 1 ≤ w) (hn : 1 ≤ n) : 0 < cnt n w := (cnt_lt hw).mpr (by omega)
theorem cnt_at {n w k : Nat} (hw : 1 ≤ w) (hk : k < n) : k / w < cnt n w := (cnt_lt hw).mpr (Nat.lt_of_le_of_lt (Nat.div_mul_le_self k w) hk)
def bitT (n : Nat) (R : List (Int × Int)) (k : Nat) : Bool := decide (k < n) && has R (k : Int)
def rowP (n : Nat) (R : List (Int × Int)) (f i : Nat) : List Bool := (List.range i).map fun j => bitT n R (f + j)
theorem rowP_len (n : Nat) (R : List (Int × Int)) (f i : Nat) : (rowP n R f i).length = i := by
  unfold rowP
  rw [List.length_map, List.length_range]
theorem rowP_succ (n : Nat) (R : List (Int × Int)) (f i : Nat) : rowP n R f (i + 1) = rowP n R f i ++ [bitT n R (f + i)] := by
  unfold rowP
  rw [List.range_succ, List.map_append]
  rfl
theorem rowP_get {n : Nat} {R : List (Int × Int)} {f i j : Nat} (h : j < i) : (rowP n R f i)[j]? = some (bitT n R (f + j)) := by
  unfold rowP
  rw [List.getElem?_map, List.getElem?_range h]
  rfl
/-- the rows of a set, stretch by stretch -/
def rowsR (n w : Nat) (R : List (Int × Int)) : List (List Bool) := (List.range (cnt n w)).map fun i => rowP n R (i * w) w
def rowsT (n w : Nat) (SS : List (List (Int × Int))) : List (List Bool) := uniq (SS.flatMap (rowsR n w))
def firstsT (n w : Nat) (SS : List (List (Int × Int))) : List (List Int) := SS.map fun R => (rowsR n w R).map fun r => ((pl r (rowsT n w SS) : Nat) : Int)
theorem rowsR_len (n w : Nat) (R : List (Int × Int)) : (rowsR n w R).length = cnt n w := by
  unfold rowsR
  rw [List.length_map, List.length_range]
theorem rowsR_get {n w i : Nat} {R : List (Int × Int)} (h : i < cnt n w) : (rowsR n w R)[i]? = some (rowP n R (i * w) w) := by
  unfold rowsR
  rw [List.getElem?_map, List.getElem?_range h]
  rfl
theorem rowsR_mem {n w : Nat} {R : List (Int × Int)} {r : List Bool} (h : r ∈ rowsR n w R) : r.length = w := by
  obtain ⟨i, _, rfl⟩ := List.mem_map.mp h
  exact rowP_len _ _ _ _
theorem rowsT_mem {n w : Nat} {SS : List (List (Int × Int))} {r : List Bool} (h : r ∈ rowsT n w SS) : r.length = w := by
  obtain ⟨R, _, hr⟩ := List.mem_flatMap.mp (mem_uniq.mp h)
  exact rowsR_mem hr
theorem flat_len (n w : Nat) : ∀ SS : List (List (Int × Int)), (SS.flatMap (rowsR n w)).length = SS.length * cnt n w
  | [] => by simp
  | R :: SS => by rw [List.flatMap_cons, List.length_append, rowsR_len, flat_len n w SS, List.length_cons, Nat.succ_mul]; omega
theorem rowsT_len (n w : Nat) (SS : List (List (Int × Int))) : (rowsT n w SS).length ≤ SS.length * cnt n w := Nat.le_trans (uniq_len _) (by rw [flat_len]; exact Nat.le_refl _)
/-- a row that a set has, in the whole list of rows -/
theorem mem_rowsT {n w : Nat} {SS : List (List (Int × Int))} {R : List (Int × Int)} (hR : R ∈ SS) {r : List Bool} (hr : r ∈ rowsR n w R) : r ∈ rowsT n w SS := mem_uniq.mpr (List.mem_flatMap.mpr ⟨R, hR, hr⟩)
theorem mul_mod (k w : Nat) : k / w * w + k % w = k := by
  rw [Nat.mul_comm]
  exact Nat.div_add_mod k w
/-- the look -/
theorem look_row {n w k : Nat} {R : List (Int × Int)} (hw : 1 ≤ w) (hk : k < n) : (rowP n R (k / w * w) w)[k % w]? = some (has R (k : Int)) := by
  rw [rowP_get (Nat.mod_lt _ hw), mul_mod]
  unfold bitT
  rw [decide_eq_true hk, Bool.true_and]
/-- rows so far, and what comes behind -/
theorem rows_pre {n w : Nat} (pre : List (List (Int × Int))) (R : List (Int × Int)) (post : List (List (Int × Int))) (j : Nat) :
    ∃ r, rowsT n w (pre ++ R :: post) = uniq (pre.flatMap (rowsR n w) ++ (rowsR n w R).take j) ++ r := by
  have e : (pre ++ R :: post).flatMap (rowsR n w) = (pre.flatMap (rowsR n w) ++ (rowsR n w R).take j) ++ ((rowsR n w R).drop j ++ post.flatMap (rowsR n w)) := by
    rw [List.flatMap_append, List.flatMap_cons]
    rw [List.append_assoc, ← List.append_assoc ((rowsR n w R).take j), List.take_append_drop]
  unfold rowsT
  rw [e]
  exact uniq_pre _ _
/-- the cells of a table -/
def cells (n w : Nat) (SS : List (List (Int × Int))) : Nat := SS.length * cnt n w + (rowsT n w SS).length * w
theorem cells_sub {n w : Nat} {SS SS' : List (List (Int × Int))} (h : ∀ R ∈ SS, R ∈ SS') : (rowsT n w SS).length ≤ (rowsT n w SS').length :=
  nodup_le (nodup_uniq _) fun r hr => by
    obtain ⟨R, hR, hr'⟩ := List.mem_flatMap.mp (mem_uniq.mp hr)
    exact mem_rowsT (h R hR) hr'
end Sg
/-! Signsets: data on the abstract heap, and rules of our own over the hand layer. -/
namespace Sg
open PySem PySem.Spec PyProof.Rows L2

/-! ### heaps -/
theorem same_new {H : Hp} {p : Addr} {o : HO} (h : H p = none) : Same H (upd H p o) := fun b u e => by
  rw [upd_ne (ne_of_none e h)]
  exact e
/-- all but d stays -/
def SameBut (d : Addr) (H H' : Hp) : Prop := ∀ b o, b ≠ d → H b = some o → H' b = some o
theorem SameBut.refl (d : Addr) (H : Hp) : SameBut d H H := fun _ _ _ h => h
theorem SameBut.trans {d : Addr} {H H1 H2 : Hp} (a : SameBut d H H1) (b : SameBut d H1 H2) : SameBut d H H2 := fun c o n h => b c o n (a c o n h)
theorem SameBut.of {d : Addr} {H H' : Hp} (h : Same H H') : SameBut d H H' := fun c o _ e => h c o e
theorem SameBut.upd {d : Addr} {H : Hp} {o : HO} : SameBut d H (upd H d o) := fun c u n e => by
  rw [upd_ne n]
  exact e
theorem SameBut.same {d : Addr} {G H H' : Hp} (e : SameBut d H H') (g : Same G H) (n : G d = none) : Same G H' := fun c o h => e c o (ne_of_none h n) (g c o h)
theorem same_upd {G H : Hp} {d : Addr} {o : HO} (g : Same G H) (n : G d = none) : Same G (upd H d o) := fun c u h => by
  rw [upd_ne (ne_of_none h n)]
  exact g c u h
/-- what is new in H' over H -/
def fr (H H' : Hp) : Hp := fun b => if (H b).isNone = true then H' b else none
/-- F without what stands at d -/
def del (F : Hp) (d : Addr) : Hp := fun b => if b = d then none else F b
theorem del_self {F : Hp} {d : Addr} : del F d d = none := by
  unfold del
  rw [if_pos rfl]
theorem del_ne {F : Hp} {d b : Addr} (h : b ≠ d) : del F d b = F b := by
  unfold del
  rw [if_neg h]
theorem fr_some {H H' : Hp} {b : Addr} {o : HO} (h : fr H H' b = some o) : H b = none ∧ H' b = some o := by
  unfold fr at h
  cases e : H b with
  | none =>
    rw [e] at h
    exact ⟨rfl, h⟩
  | some u =>
    rw [e] at h
    cases h
theorem fr_new {H H' : Hp} {b : Addr} (h : H b = none) : fr H H' b = H' b := by
  unfold fr
  rw [h]
  rfl
theorem fr_same {H H' : Hp} : Same (fr H H') H' := fun b o h => (fr_some h).2
theorem fr_mono {H0 H H1 H2 : Hp} (a : Same H0 H) (b : Same H1 H2) : Same (fr H H1) (fr H0 H2) := fun c o h => by
  obtain ⟨h1, h2⟩ := fr_some h
  rw [fr_new (a.free h1)]
  exact b c o h2
theorem del_same {F : Hp} {d : Addr} : Same (del F d) F := fun b o h => by
  unfold del at h
  split at h
  · cases h
  · exact h
theorem del_mono {F G : Hp} {d : Addr} (h : Same F G) : Same (del F d) (del G d) := fun b o e => by
  by_cases c : b = d
  · subst c
    rw [del_self] at e
    cases e
  · rw [del_ne c] at e ⊢
    exact h b o e

/-! ### data -/
theorem same_tup {K : PySem.W.Frag} {H H' : Hp} {a : Addr} {xs : List V} (e : Same H H') (h : SqT K H a xs) : SqT K H' a xs := by
  rcases h with (h | ⟨o, h⟩) | h
  · exact .inl (.inl (e _ _ h))
  · exact .inl (.inr ⟨o, e _ _ h⟩)
  · exact .inr h
mutual
theorem same_dp {K : PySem.W.Frag} {H H' : Hp} (e : Same H H') : ∀ {v : V} {d : PyData}, Dp K H v d → Dp K H' v d
  | _, _, .non => .non
  | _, _, .bl b => .bl b
  | _, _, .int i => .int i
  | _, _, .str x => .str x
  | _, _, .lst h a => .lst (e.seq h) (same_dpAll e a)
  | _, _, .tup h a => .tup (same_tup e h) (same_dpAll e a)
theorem same_dpAll {K : PySem.W.Frag} {H H' : Hp} (e : Same H H') : ∀ {vs : List V} {ds : List PyData}, DpAll K H vs ds → DpAll K H' vs ds
  | _, _, .nil => .nil
  | _, _, .cons h a => .cons (same_dp e h) (same_dpAll e a)
end
mutual
/-- data whose lists and tuples all stand in F, to be changed by whoever has them -/
inductive Dn (F : Hp) : V → PyData → Prop
  | non : Dn F .non .none
  | bl (b : Bool) : Dn F (.bl b) (.bool b)
  | int (i : Int) : Dn F (.int i) (.int i)
  | str (x : Str) : Dn F (.str x) (.str x)
  | lst {a : Addr} {xs : List V} {ds : List PyData} : F a = some (.lst xs) → DnAll F xs ds → Dn F (.ref a) (.list ds)
  | tup {a : Addr} {xs : List V} {ds : List PyData} : F a = some (.tup xs) → DnAll F xs ds → Dn F (.ref a) (.tuple ds)
inductive DnAll (F : Hp) : List V → List PyData → Prop
  | nil : DnAll F [] []
  | cons {v : V} {vs : List V} {d : PyData} {ds : List PyData} : Dn F v d → DnAll F vs ds → DnAll F (v :: vs) (d :: ds)
end
mutual
theorem Dn.mono {F G : Hp} (e : Same F G) : ∀ {v : V} {d : PyData}, Dn F v d → Dn G v d
  | _, _, .non => .non
  | _, _, .bl b => .bl b
  | _, _, .int i => .int i
  | _, _, .str x => .str x
  | _, _, .lst h a => .lst (e _ _ h) (DnAll.mono e a)
  | _, _, .tup h a => .tup (e _ _ h) (DnAll.mono e a)
theorem DnAll.mono {F G : Hp} (e : Same F G) : ∀ {vs : List V} {ds : List PyData}, DnAll F vs ds → DnAll G vs ds
  | _, _, .nil => .nil
  | _, _, .cons h a => .cons (Dn.mono e h) (DnAll.mono e a)
end
mutual
theorem Dn.dp {K : PySem.W.Frag} {F : Hp} : ∀ {v : V} {d : PyData}, Dn F v d → Dp K F v d
  | _, _, .non => .non
  | _, _, .bl b => .bl b
  | _, _, .int i => .int i
  | _, _, .str x => .str x
  | _, _, .lst h a => .lst (SqL.of h) (DnAll.dp a)
  | _, _, .tup h a => .tup (SqT.of h) (DnAll.dp a)
theorem DnAll.dp {K : PySem.W.Frag} {F : Hp} : ∀ {vs : List V} {ds : List PyData}, DnAll F vs ds → DpAll K F vs ds
  | _, _, .nil => .nil
  | _, _, .cons h a => .cons (Dn.dp h) (DnAll.dp a)
end
theorem DnAll.len {F : Hp} : ∀ {vs : List V} {ds : List PyData}, DnAll F vs ds → vs.length = ds.length
  | _, _, .nil => rfl
  | _, _, .cons _ a => congrArg (· + 1) (DnAll.len a)
theorem DnAll.app {F : Hp} : ∀ {vs us : List V} {ds es : List PyData}, DnAll F vs ds → DnAll F us es → DnAll F (vs ++ us) (ds ++ es)
  | _, _, _, _, .nil, b => b
  | _, _, _, _, .cons h a, b => .cons h (DnAll.app a b)
theorem DnAll.snoc {F : Hp} {vs : List V} {v : V} {ds : List PyData} {d : PyData} (a : DnAll F vs ds) (h : Dn F v d) : DnAll F (vs ++ [v]) (ds ++ [d]) := a.app (.cons h .nil)
theorem DnAll.get {F : Hp} : ∀ {vs : List V} {ds : List PyData} {i : Nat} {v : V}, DnAll F vs ds → vs[i]? = some v → ∃ d, ds[i]? = some d ∧ Dn F v d
  | _, _, i, v, .nil, h => by simp at h
  | _, _, 0, v, .cons h _, e => by
    simp at e
    subst e
    exact ⟨_, rfl, h⟩
  | _, _, i + 1, v, .cons _ a, e => by
    simp at e
    obtain ⟨d, h1, h2⟩ := DnAll.get a e
    exact ⟨d, by simpa using h1, h2⟩
theorem dpAll_len {K : PySem.W.Frag} {H : Hp} : ∀ {vs : List V} {ds : List PyData}, DpAll K H vs ds → vs.length = ds.length
  | _, _, .nil => rfl
  | _, _, .cons _ a => congrArg (· + 1) (dpAll_len a)
theorem dpAll_get {K : PySem.W.Frag} {H : Hp} : ∀ {vs : List V} {ds : List PyData} {i : Nat} {v : V}, DpAll K H vs ds → vs[i]? = some v → ∃ d, ds[i]? = some d ∧ Dp K H v d
  | _, _, i, v, .nil, h => by simp at h
  | _, _, 0, v, .cons h _, e => by
    simp at e
    subst e
    exact ⟨_, rfl, h⟩
  | _, _, i + 1, v, .cons _ a, e => by
    simp at e
    obtain ⟨d, h1, h2⟩ := dpAll_get a e
    exact ⟨d, by simpa using h1, h2⟩
theorem dpAll_app {K : PySem.W.Frag} {H : Hp} : ∀ {vs us : List V} {ds es : List PyData}, DpAll K H vs ds → DpAll K H us es → DpAll K H (vs ++ us) (ds ++ es)
  | _, _, _, _, .nil, b => b
  | _, _, _, _, .cons h a, b => .cons h (dpAll_app a b)
theorem dp_list {K : PySem.W.Frag} {H : Hp} {v : V} {ds : List PyData} (h : Dp K H v (.list ds)) : ∃ a xs, v = .ref a ∧ SqL K H a xs ∧ DpAll K H xs ds := by
  cases h with
  | lst h a => exact ⟨_, _, rfl, h, a⟩
theorem dp_tuple {K : PySem.W.Frag} {H : Hp} {v : V} {ds : List PyData} (h : Dp K H v (.tuple ds)) : ∃ a xs, v = .ref a ∧ SqT K H a xs ∧ DpAll K H xs ds := by
  cases h with
  | tup h a => exact ⟨_, _, rfl, h, a⟩
theorem dp_int {K : PySem.W.Frag} {H : Hp} {v : V} {i : Int} (h : Dp K H v (.int i)) : v = .int i := by
  cases h
  rfl
theorem dp_bool {K : PySem.W.Frag} {H : Hp} {v : V} {i : Bool} (h : Dp K H v (.bool i)) : v = .bl i := by
  cases h
  rfl
theorem dp_str {K : PySem.W.Frag} {H : Hp} {v : V} {i : Str} (h : Dp K H v (.str i)) : v = .str i := by
  cases h
  rfl
theorem dpAll_ints {K : PySem.W.Frag} {H : Hp} : ∀ {vs : List V} {ns : List Int}, DpAll K H vs (ns.map PyData.int) → vs = ns.map V.int
  | _, [], .nil => rfl
  | _, n :: ns, .cons h a => by
    rw [dp_int h, dpAll_ints a]
    rfl
theorem dnAll_ints {F : Hp} : ∀ ns : List Int, DnAll F (ns.map V.int) (ns.map PyData.int)
  | [] => .nil
  | n :: ns => .cons (.int n) (dnAll_ints ns)
theorem dpAll_ofInts {K : PySem.W.Frag} {H : Hp} (ns : List Int) : DpAll K H (ns.map V.int) (ns.map PyData.int) := (dnAll_ints ns).dp
/-- a pair of ints -/
def eP (r : Int × Int) : PyData := .tuple [.int r.1, .int r.2]
def eR (R : List (Int × Int)) : PyData := .list (R.map eP)
def eI (ns : List Int) : PyData := .list (ns.map PyData.int)
theorem dp_pair {K : PySem.W.Frag} {H : Hp} {v : V} {r : Int × Int} (h : Dp K H v (eP r)) : ∃ t, v = .ref t ∧ SqT K H t [.int r.1, .int r.2] := by
  obtain ⟨a, xs, rfl, hs, ha⟩ := dp_tuple h
  cases ha with
  | cons h1 h2 => cases h2 with
    | cons h3 h4 =>
      cases h4
      rw [dp_int h1, dp_int h3] at hs
      exact ⟨a, rfl, hs⟩
/-- v is new data d in H' over H -/
def NewV (H H' : Hp) (v : V) (d : PyData) : Prop := Dn (fr H H') v d
theorem NewV.dp {K : PySem.W.Frag} {H H' : Hp} {v : V} {d : PyData} (h : NewV H H' v d) : Dp K H' v d := same_dp fr_same (Dn.dp h)
theorem NewV.mono {H0 H H1 H2 : Hp} {v : V} {d : PyData} (h : NewV H H1 v d) (a : Same H0 H) (b : Same H1 H2) : NewV H0 H2 v d := Dn.mono (fr_mono a b) h
/-- at o stands a list that is being made, new over H0, of the data ds -/
def LB (H0 H : Hp) (o : Addr) (ds : List PyData) : Prop := H0 o = none ∧ ∃ xs, H o = some (.lst xs) ∧ DnAll (del (fr H0 H) o) xs ds
theorem LB.nil {H0 H : Hp} {o : Addr} (h : H0 o = none) : LB H0 (upd H o (.lst [])) o [] := ⟨h, [], upd_same, .nil⟩
theorem LB.same {H0 H H' : Hp} {o : Addr} {ds : List PyData} (h : LB H0 H o ds) (e : Same H H') : LB H0 H' o ds := by
  obtain ⟨h0, xs, h1, h2⟩ := h
  exact ⟨h0, xs, e _ _ h1, h2.mono (del_mono (fr_mono (Same.refl _) e))⟩
theorem LB.snoc {H0 H H4 : Hp} {o : Addr} {ds : List PyData} {y : V} {e : PyData} (h : LB H0 H o ds) (s0 : Same H0 H) (s : Same H H4) (n : NewV H H4 y e) :
    ∃ xs, H4 o = some (.lst xs) ∧ xs.length = ds.length ∧ LB H0 (upd H4 o (.lst (xs ++ [y]))) o (ds ++ [e]) := by
  obtain ⟨h0, xs, h1, h2⟩ := h
  have k : Same (fr H0 H4) (fr H0 H4) := Same.refl _
  have up : Same (del (fr H0 H4) o) (del (fr H0 (upd H4 o (.lst (xs ++ [y])))) o) := fun b u q => by
    by_cases c : b = o
    · subst c
      rw [del_self] at q
      cases q
    · rw [del_ne c] at q ⊢
      obtain ⟨q1, q2⟩ := fr_some q
      rw [fr_new q1, upd_ne c]
      exact q2
  refine ⟨xs, s _ _ h1, h2.len, h0, xs ++ [y], upd_same, DnAll.snoc (h2.mono ?_) (Dn.mono ?_ n)⟩
  · exact (del_mono (fr_mono (Same.refl _) s)).trans up
  · intro b u q
    obtain ⟨q1, q2⟩ := fr_some q
    have c : b ≠ o := fun z => by
      subst z
      rw [h1] at q1
      cases q1
    refine up b u ?_
    rw [del_ne c, fr_new (s0.free q1)]
    exact q2
theorem LB.newV {H0 H : Hp} {o : Addr} {ds : List PyData} (h : LB H0 H o ds) : NewV H0 H (.ref o) (.list ds) := by
  obtain ⟨h0, xs, h1, h2⟩ := h
  refine .lst (xs := xs) ?_ (h2.mono del_same)
  rw [fr_new h0]
  exact h1
theorem LB.at {H0 H : Hp} {o : Addr} {ds : List PyData} (h : LB H0 H o ds) : ∃ xs, H o = some (.lst xs) ∧ xs.length = ds.length := by
  obtain ⟨h0, xs, h1, h2⟩ := h
  exact ⟨xs, h1, h2.len⟩
/-- a new pair -/
theorem new_pair {H : Hp} {t : Addr} {i j : Int} (h : H t = none) : NewV H (upd H t (.tup [.int i, .int j])) (.ref t) (eP (i, j)) := by
  refine .tup (xs := [.int i, .int j]) ?_ (.cons (.int i) (.cons (.int j) .nil))
  rw [fr_new h]
  exact upd_same
theorem newV_ints {H H' : Hp} {p : Addr} {ns : List Int} (h : H p = none) (e : H' p = some (.lst (ns.map V.int))) : NewV H H' (.ref p) (eI ns) := by
  refine .lst (xs := ns.map V.int) ?_ (dnAll_ints ns)
  rw [fr_new h]
  exact e
theorem newV_list {H H' : Hp} {v : V} {ds : List PyData} (h : NewV H H' v (.list ds)) : ∃ p xs, v = .ref p ∧ H p = none ∧ H' p = some (.lst xs) ∧ DnAll (fr H H') xs ds := by
  cases h with
  | lst h a => exact ⟨_, _, rfl, (fr_some h).1, (fr_some h).2, a⟩

/-! ### comparing -/
theorem eqv_ints : ∀ (a b : List Int), PyData.eqvAll (a.map PyData.int) (b.map PyData.int) = decide (a = b)
  | [], [] => by simp [PyData.eqvAll]
  | [], _ :: _ => by simp [PyData.eqvAll]
  | _ :: _, [] => by simp [PyData.eqvAll]
  | x :: a, y :: b => by
    have ih := eqv_ints a b
    simp only [List.map_cons, PyData.eqvAll, PyData.eqv, ih]
    by_cases h : x = y <;> by_cases h2 : a = b <;> simp [h, h2]
theorem eqv_pairs : ∀ (a b : List (Int × Int)), PyData.eqvAll (a.map eP) (b.map eP) = decide (a = b)
  | [], [] => by simp [PyData.eqvAll]
  | [], _ :: _ => by simp [PyData.eqvAll]
  | _ :: _, [] => by simp [PyData.eqvAll]
  | (x, u) :: a, (y, w) :: b => by
    have ih := eqv_pairs a b
    simp only [List.map_cons, PyData.eqvAll, eP, PyData.eqv, ih]
    by_cases h : x = y <;> by_cases h1 : u = w <;> by_cases h2 : a = b <;> simp [h, h1, h2]
theorem eqv_eR (a b : List (Int × Int)) : PyData.eqv (eR a) (eR b) = decide (a = b) := by
  unfold eR
  rw [PyData.eqv, eqv_pairs]
theorem eqv_eI (a b : List Int) : PyData.eqv (eI a) (eI b) = decide (a = b) := by
  unfold eI
  rw [PyData.eqv, eqv_ints]
theorem can_all {ds : List PyData} : (∀ d ∈ ds, d.canLay0 = true) → PyData.canLayAll0 ds = true := by
  induction ds with
  | nil => intro _; simp [PyData.canLayAll0]
  | cons d ds ih =>
    intro h
    rw [PyData.canLayAll0, h d (by simp), ih fun e he => h e (List.mem_cons_of_mem _ he)]
    rfl
theorem depth_all {n : Nat} {ds : List PyData} : (∀ d ∈ ds, d.depth ≤ n) → PyData.depthAll ds ≤ n := by
  induction ds with
  | nil => intro _; simp [PyData.depthAll]
  | cons d ds ih =>
    intro h
    rw [PyData.depthAll]
    exact Nat.max_le.mpr ⟨h d (by simp), ih fun e he => h e (List.mem_cons_of_mem _ he)⟩
/-- data of at most so many storeys -/
def Sh (n : Nat) (d : PyData) : Prop := d.canLay0 = true ∧ d.depth ≤ n
theorem Sh.list {n : Nat} {ds : List PyData} (h : ∀ d ∈ ds, Sh n d) : Sh (n + 1) (.list ds) := by
  refine ⟨?_, ?_⟩
  · rw [PyData.canLay0]
    exact can_all fun d hd => (h d hd).1
  · rw [PyData.depth]
    exact Nat.succ_le_succ (depth_all fun d hd => (h d hd).2)
theorem Sh.tuple {n : Nat} {ds : List PyData} (h : ∀ d ∈ ds, Sh n d) : Sh (n + 1) (.tuple ds) := by
  refine ⟨?_, ?_⟩
  · rw [PyData.canLay0]
    exact can_all fun d hd => (h d hd).1
  · rw [PyData.depth]
    exact Nat.succ_le_succ (depth_all fun d hd => (h d hd).2)
theorem Sh.int {n : Nat} (i : Int) : Sh n (.int i) := ⟨by simp [PyData.canLay0], by simp [PyData.depth]⟩
theorem Sh.bool {n : Nat} (i : Bool) : Sh n (.bool i) := ⟨by simp [PyData.canLay0], by simp [PyData.depth]⟩
theorem Sh.eP {n : Nat} (r : Int × Int) : Sh (n + 1) (eP r) := Sh.tuple fun d hd => by
  simp at hd
  rcases hd with rfl | rfl <;> exact Sh.int _
theorem Sh.eR {n : Nat} (R : List (Int × Int)) : Sh (n + 2) (eR R) := Sh.list fun d hd => by
  obtain ⟨r, _, rfl⟩ := List.mem_map.mp hd
  exact Sh.eP r
theorem Sh.eI {n : Nat} (R : List Int) : Sh (n + 1) (eI R) := Sh.list fun d hd => by
  obtain ⟨r, _, rfl⟩ := List.mem_map.mp hd
  exact Sh.int r
theorem Sh.shaped {n : Nat} {d : PyData} (h : Sh n d) (hn : n ≤ 64 := by decide) : SeqAt.shaped d = true := by
  unfold SeqAt.shaped
  rw [h.1, decide_eq_true (Nat.le_trans h.2 hn)]
  rfl

/-! ### a < b < c < d, as a test -/
section
variable {X : Cx} {a b c d : Expr} {ta tb tc td : TE} {pos : Pos}
def tChain3 (r r' r2 : R2) (ta tb tc td : TE) : TT := fun σ H Q => ta σ H fun x H1 => tb σ H1 fun y H2 => r x y H2 fun z H3 => ∃ k, z = .bl k ∧
  (if k = true then tc σ H3 fun y' H4 => r' y y' H4 fun z' H5 => ∃ k', z' = .bl k' ∧ (if k' = true then td σ H5 fun w' H6 => r2 y' w' H6 fun z2 H7 => ∃ k2, z2 = .bl k2 ∧ Q k2 H7 else Q false H5) else Q false H3)
theorem pt_chain3 {op op' op2 : CmpOp} {r r' r2 : R2} (ho : OpR X (compareOp op) r) (ho' : OpR X (compareOp op') r') (ho2 : OpR X (compareOp op2) r2) (ha : PE X a ta) (hb : PE X b tb) (hc : PE X c tc) (hd : PE X d td)
    (hm : lastMarks [op, op', op2] [b, c, d] = false := by with_unfolding_all rfl) : PT X (.Compare a [op, op', op2] [b, c, d] pos) (tChain3 r r' r2 ta tb tc td) := by
  refine ⟨fun pins s σ H Q I h => ?_⟩
  refine isTrue_chain (thn (ha.run pins s σ H _ I h) fun v s1 ⟨x, H1, I1, r1, q1⟩ => test_link (thn (hb.run pins s1 σ H1 _ I1 q1) fun u s2 ⟨y, H2, I2, r2', q2⟩ =>
    thn (ho pins s2 σ H2 x y v u _ I2 r1 r2' q2) fun d1 s3 ⟨z, H3, I3, r3, k, e, q3⟩ => ?_)) hm
  subst e
  cases r3
  refine wpAny_truthy_bool ?_
  cases k with
  | false => exact ite_ff ⟨H3, I3, q3⟩
  | true =>
    refine ite_tt (test_link (thn (hc.run pins s3 σ H3 _ I3 q3) fun w' s4 ⟨z', H4, I4, r4, q4⟩ => thn (ho' pins s4 σ H4 y z' u w' _ I4 r2' r4 q4) fun d' s5 ⟨z2, H5, I5, r5, k2, e2, q5⟩ => ?_))
    subst e2
    cases r5
    refine wpAny_truthy_bool ?_
    cases k2 with
    | false => exact ite_ff ⟨H5, I5, q5⟩
    | true =>
      refine ite_tt (test_last (thn (hd.run pins s5 σ H5 _ I5 q5) fun w2 s6 ⟨z6, H6, I6, r6, q6⟩ => thn (ho2 pins s6 σ H6 z' z6 w' w2 _ I6 r4 r6 q6) fun d7 s7 ⟨z7, H7, I7, r7, k7, e7, q7⟩ => ?_))
      subst e7
      cases r7
      exact wpAny_truthy_bool ⟨H7, I7, q7⟩
end

/-! ### comprehensions that make new data -/
theorem sizeOk {n : Nat} (h : n ≤ 1000000) : n < sizeLine := Nat.lt_of_le_of_lt h (by decide)
theorem filterMap_succ {f : Nat → Option PyData} {n : Nat} {e : PyData} (h : f n = some e) : (List.range (n + 1)).filterMap f = (List.range n).filterMap f ++ [e] := by
  rw [List.range_succ, List.filterMap_append]
  simp [h]
theorem filterMap_succ0 {f : Nat → Option PyData} {n : Nat} (h : f n = none) : (List.range (n + 1)).filterMap f = (List.range n).filterMap f := by
  rw [List.range_succ, List.filterMap_append]
  simp [h]
theorem lcN_step {H1 H : Hp} {D : Addr} {f : Nat → Option PyData} {i n : Nat} (hn : n ≤ 1000000) (hi : i < n) (sm : Same H1 H) (lb : LB H1 H D ((List.range i).filterMap f)) :
    (∀ y H4 e, Same H H4 → f i = some e → NewV H H4 y e → ∃ acc, H4 D = some (.lst acc) ∧ acc.length < sizeLine ∧ (Same H1 (upd H4 D (.lst (acc ++ [y]))) ∧ LB H1 (upd H4 D (.lst (acc ++ [y]))) D ((List.range (i + 1)).filterMap f))) ∧
    (∀ H3, Same H H3 → f i = none → (Same H1 H3 ∧ LB H1 H3 D ((List.range (i + 1)).filterMap f))) := by
  refine ⟨fun y H4 e s fe nv => ?_, fun H3 s fe => ?_⟩
  · obtain ⟨xs, h1, h2, h3⟩ := lb.snoc sm s nv
    have hl : xs.length ≤ i := by
      rw [h2]
      exact Nat.le_trans (List.length_filterMap_le _ _) (by rw [List.length_range]; exact Nat.le_refl _)
    refine ⟨xs, h1, sizeOk (by omega), same_upd (sm.trans s) lb.1, ?_⟩
    rw [filterMap_succ fe]
    exact h3
  · refine ⟨sm.trans s, ?_⟩
    rw [filterMap_succ0 fe]
    exact lb.same s
theorem lcN_range {lo : Int} {n : Nat} {g : TG} {tt : TT} {te : TE} {vs : List Nat} {σ : L2.St} {H1 : Hp} {D : Addr} {Qd : Hp → Prop} (f : Nat → Option PyData) (hD : H1 D = none) (hn : n ≤ 1000000)
    (hs : ∀ (i : Nat) (H : Hp) (N1 : V → Hp → Prop) (N0 : Hp → Prop), i < n → Same H1 H → (∀ y H4 e, Same H H4 → f i = some e → NewV H H4 y e → N1 y H4) → (∀ H3, Same H H3 → f i = none → N0 H3) →
      g (.int (lo + i)) (wipe σ vs) H fun σ2 H2 => wipe σ2 vs = wipe σ vs ∧ tt σ2 H2 fun b H3 => if b = true then te σ2 H3 N1 else N0 H3)
    (hd : ∀ H, Same H1 H → LB H1 H D ((List.range n).filterMap f) → Qd H) :
    ∃ W : Nat → Nat → Hp → Prop, (∃ m, W 0 m (upd H1 D (.lst []))) ∧ ∀ i m H, W i m H →
      ((Itr lo n).stop i H ∧ Qd H) ∨ ((Itr lo n).go i H ∧ ∃ Nx : Hp → Prop, (∀ H', Nx H' → ∃ m', m' < m ∧ W (i + 1) m' H') ∧ ∀ x H', (Itr lo n).yld i H x H' → g x (wipe σ vs) H' fun σ2 H2 => wipe σ2 vs = wipe σ vs ∧ tt σ2 H2 fun b H3 =>
        if b = true then te σ2 H3 fun y H4 => ∃ acc, H4 D = some (.lst acc) ∧ acc.length < sizeLine ∧ Nx (upd H4 D (.lst (acc ++ [y]))) else Nx H3) :=
  lc_range (fun i H => Same H1 H ∧ LB H1 H D ((List.range i).filterMap f)) ⟨same_new hD, LB.nil hD⟩ (fun i H hi p => by
    obtain ⟨k1, k0⟩ := lcN_step hn hi p.1 p.2
    exact hs i H _ _ hi p.1 k1 k0) fun H p => hd H p.1 p.2
theorem lcN_list {K : PySem.W.Frag} {a : Addr} {xs : List V} {g : TG} {tt : TT} {te : TE} {vs : List Nat} {σ : L2.St} {H1 : Hp} {D : Addr} {Qd : Hp → Prop} (f : Nat → Option PyData) (hS : SqL K H1 a xs) (hD : H1 D = none) (hn : xs.length ≤ 1000000)
    (hs : ∀ (i : Nat) (x : V) (H : Hp) (N1 : V → Hp → Prop) (N0 : Hp → Prop), xs[i]? = some x → Same H1 H → (∀ y H4 e, Same H H4 → f i = some e → NewV H H4 y e → N1 y H4) → (∀ H3, Same H H3 → f i = none → N0 H3) →
      g x (wipe σ vs) H fun σ2 H2 => wipe σ2 vs = wipe σ vs ∧ tt σ2 H2 fun b H3 => if b = true then te σ2 H3 N1 else N0 H3)
    (hd : ∀ H, Same H1 H → LB H1 H D ((List.range xs.length).filterMap f) → Qd H) :
    ∃ W : Nat → Nat → Hp → Prop, (∃ m, W 0 m (upd H1 D (.lst []))) ∧ ∀ i m H, W i m H →
      ((Itl K a).stop i H ∧ Qd H) ∨ ((Itl K a).go i H ∧ ∃ Nx : Hp → Prop, (∀ H', Nx H' → ∃ m', m' < m ∧ W (i + 1) m' H') ∧ ∀ x H', (Itl K a).yld i H x H' → g x (wipe σ vs) H' fun σ2 H2 => wipe σ2 vs = wipe σ vs ∧ tt σ2 H2 fun b H3 =>
        if b = true then te σ2 H3 fun y H4 => ∃ acc, H4 D = some (.lst acc) ∧ acc.length < sizeLine ∧ Nx (upd H4 D (.lst (acc ++ [y]))) else Nx H3) :=
  lc_list (xs := xs) (fun i H => Same H1 H ∧ LB H1 H D ((List.range i).filterMap f)) ⟨same_new hD, LB.nil hD⟩ (fun i H _ p => p.1.seq hS) (fun i x H hx p => by
    obtain ⟨k1, k0⟩ := lcN_step (n := xs.length) hn (List.getElem?_eq_some_iff.mp hx).1 p.1 p.2
    exact hs i x H _ _ hx p.1 k1 k0) fun H p => hd H p.1 p.2
/-- .. that hands on items of what stood before -/
theorem lcO_list {K : PySem.W.Frag} {a : Addr} {xs : List V} {ds : List PyData} {g : TG} {tt : TT} {te : TE} {vs : List Nat} {σ : L2.St} {H1 : Hp} {D : Addr} {Qd : Hp → Prop} (p : PyData → Bool) (hS : SqL K H1 a xs) (hA : DpAll K H1 xs ds) (hD : H1 D = none) (hn : xs.length ≤ 1000000)
    (hs : ∀ (i : Nat) (x : V) (d : PyData) (H : Hp) (N1 : V → Hp → Prop) (N0 : Hp → Prop), ds[i]? = some d → Dp K H1 x d → Same H1 H → (∀ H4, Same H H4 → p d = true → N1 x H4) → (∀ H3, Same H H3 → p d = false → N0 H3) →
      g x (wipe σ vs) H fun σ2 H2 => wipe σ2 vs = wipe σ vs ∧ tt σ2 H2 fun b H3 => if b = true then te σ2 H3 N1 else N0 H3)
    (hd : ∀ H ys, Same H1 H → H D = some (.lst ys) → DpAll K H1 ys (ds.filter p) → Qd H) :
    ∃ W : Nat → Nat → Hp → Prop, (∃ m, W 0 m (upd H1 D (.lst []))) ∧ ∀ i m H, W i m H →
      ((Itl K a).stop i H ∧ Qd H) ∨ ((Itl K a).go i H ∧ ∃ Nx : Hp → Prop, (∀ H', Nx H' → ∃ m', m' < m ∧ W (i + 1) m' H') ∧ ∀ x H', (Itl K a).yld i H x H' → g x (wipe σ vs) H' fun σ2 H2 => wipe σ2 vs = wipe σ vs ∧ tt σ2 H2 fun b H3 =>
        if b = true then te σ2 H3 fun y H4 => ∃ acc, H4 D = some (.lst acc) ∧ acc.length < sizeLine ∧ Nx (upd H4 D (.lst (acc ++ [y]))) else Nx H3) := by
  refine lc_list (xs := xs) (fun i H => Same H1 H ∧ ∃ ys, H D = some (.lst ys) ∧ DpAll K H1 ys ((ds.take i).filter p)) ⟨same_new hD, [], upd_same, .nil⟩ (fun i H _ q => q.1.seq hS) (fun i x H hx q => ?_) fun H q => ?_
  · obtain ⟨sm, ys, hy, ha⟩ := q
    obtain ⟨d, hdi, hdx⟩ := dpAll_get hA hx
    have hi : i < xs.length := (List.getElem?_eq_some_iff.mp hx).1
    have hl : ys.length ≤ i := by
      rw [dpAll_len ha]
      exact Nat.le_trans (List.length_filter_le _ _) (by rw [List.length_take]; exact Nat.min_le_left _ _)
    refine hs i x d H _ _ hdi hdx sm (fun H4 s pd => ⟨ys, s _ _ hy, sizeOk (by omega), same_upd (sm.trans s) hD, ys ++ [x], upd_same, ?_⟩) (fun H3 s pd => ⟨sm.trans s, ys, s _ _ hy, ?_⟩)
    · rw [List.take_add_one, hdi, List.filter_append]
      simp only [Option.toList, List.filter, pd]
      exact dpAll_app ha (.cons hdx .nil)
    · rw [List.take_add_one, hdi, List.filter_append]
      simp only [Option.toList, List.filter, pd, List.append_nil]
      exact ha
  · obtain ⟨sm, ys, hy, ha⟩ := q
    rw [List.take_of_length_le (by rw [dpAll_len hA]; exact Nat.le_refl _)] at ha
    exact hd H ys sm hy ha
/-! ### lists that range makes -/
theorem range_ints {n : Nat} {p : Int → Bool} : (List.range n).filterMap (fun (i : Nat) => if p (i : Int) = true then some (PyData.int (i : Int)) else none) = (((List.range n).map fun (k : Nat) => (k : Int)).filter p).map PyData.int := by
  induction n with
  | zero => rfl
  | succ n ih =>
    rw [List.range_succ, List.filterMap_append, ih, List.map_append, List.filter_append, List.map_append]
    cases h : p (n : Int) <;> simp [h]
theorem list_ints {ns : List Int} {p : Int → Bool} : (List.range ns.length).filterMap (fun (i : Nat) => (ns[i]?).bind fun k => if p k = true then some (PyData.int k) else none) = (ns.filter p).map PyData.int := by
  have h : ∀ m, m ≤ ns.length → (List.range m).filterMap (fun (i : Nat) => (ns[i]?).bind fun k => if p k = true then some (PyData.int k) else none) = ((ns.take m).filter p).map PyData.int := by
    intro m
    induction m with
    | zero => intro _; rfl
    | succ m ih =>
      intro hm
      have hlt : m < ns.length := hm
      have g : ns[m]? = some ns[m] := List.getElem?_eq_getElem hlt
      rw [List.range_succ, List.filterMap_append, ih (Nat.le_of_succ_le hm), List.take_add_one, g, List.filter_append, List.map_append]
      congr 1
      rw [List.filterMap_cons, g]
      cases h : p ns[m] <;> simp [h]
  rw [h _ (Nat.le_refl _), List.take_length]
theorem lcN_range0 {n : Nat} {g : TG} {tt : TT} {te : TE} {vs : List Nat} {σ : L2.St} {H1 : Hp} {D : Addr} {Qd : Hp → Prop} (f : Nat → Option PyData) (hD : H1 D = none) (hn : n ≤ 1000000)
    (hs : ∀ (i : Nat) (H : Hp) (N1 : V → Hp → Prop) (N0 : Hp → Prop), i < n → Same H1 H → (∀ y H4 e, Same H H4 → f i = some e → NewV H H4 y e → N1 y H4) → (∀ H3, Same H H3 → f i = none → N0 H3) →
      g (.int (i : Int)) (wipe σ vs) H fun σ2 H2 => wipe σ2 vs = wipe σ vs ∧ tt σ2 H2 fun b H3 => if b = true then te σ2 H3 N1 else N0 H3)
    (hd : ∀ H, Same H1 H → LB H1 H D ((List.range n).filterMap f) → Qd H) :
    ∃ W : Nat → Nat → Hp → Prop, (∃ m, W 0 m (upd H1 D (.lst []))) ∧ ∀ i m H, W i m H →
      ((Itr 0 (n : Int).toNat).stop i H ∧ Qd H) ∨ ((Itr 0 (n : Int).toNat).go i H ∧ ∃ Nx : Hp → Prop, (∀ H', Nx H' → ∃ m', m' < m ∧ W (i + 1) m' H') ∧ ∀ x H', (Itr 0 (n : Int).toNat).yld i H x H' → g x (wipe σ vs) H' fun σ2 H2 => wipe σ2 vs = wipe σ vs ∧ tt σ2 H2 fun b H3 =>
        if b = true then te σ2 H3 fun y H4 => ∃ acc, H4 D = some (.lst acc) ∧ acc.length < sizeLine ∧ Nx (upd H4 D (.lst (acc ++ [y]))) else Nx H3) := by
  rw [Int.toNat_natCast]
  refine lcN_range (lo := 0) f hD hn (fun i H N1 N0 hi sm k1 k0 => ?_) hd
  rw [Int.zero_add]
  exact hs i H N1 N0 hi sm k1 k0
/-- whether a pair that stands as data has n -/
def inR (n : Int) : PyData → Bool
  | .tuple [.int a, .int b] => decide (a ≤ n) && decide (n ≤ b)
  | _ => false
theorem inR_eP (n : Int) (r : Int × Int) : inR n (eP r) = (decide (r.1 ≤ n) && decide (n ≤ r.2)) := rfl
theorem eqv_nil (ds : List PyData) : PyData.eqv (.list ds) (.list []) = ds.isEmpty := by
  rw [PyData.eqv]
  cases ds <;> simp [PyData.eqvAll]
theorem any_filter {p : PyData → Bool} : ∀ ds : List PyData, (!(ds.filter p).isEmpty) = ds.any p
  | [] => rfl
  | d :: ds => by
    rw [List.filter_cons, List.any_cons]
    cases h : p d
    · simp only [Bool.false_eq_true, if_false, Bool.false_or]
      exact any_filter ds
    · simp
theorem sh_filter {n : Nat} {p : PyData → Bool} {R : List (Int × Int)} : Sh (n + 2) (.list ((R.map eP).filter p)) := Sh.list fun d hd => by
  obtain ⟨r, _, rfl⟩ := List.mem_map.mp (List.mem_filter.mp hd).1
  exact Sh.eP r
theorem sh_nil {n : Nat} : Sh (n + 1) (.list []) := Sh.list fun d hd => by simp at hd
theorem get_map {α : Type} {f : α → PyData} {l : List α} {i : Nat} {d : PyData} (h : (l.map f)[i]? = some d) : ∃ r, l[i]? = some r ∧ d = f r := by
  rw [List.getElem?_map] at h
  cases e : l[i]? with
  | none =>
    rw [e] at h
    cases h
  | some r =>
    rw [e] at h
    exact ⟨r, rfl, (Option.some.inj h).symm⟩
/-! ### rules with the written part by name (within a comprehension the rules' own X.K would name what is bound there) -/
section
variable {X : Cx} {tg l : Expr} {tl : TE}
theorem ixL (K : PySem.W.Frag) (h : X.K = K := by rfl) : IxR X (rIxL K) := by subst h; exact ix_list
theorem ixT (K : PySem.W.Frag) (h : X.K = K := by rfl) : IxR X (rIxT K) := by subst h; exact ix_tup
def rLenQ (K : PySem.W.Frag) : List V → Hp → VK → Prop := fun xs H Q => ∃ p ys, xs = [.ref p] ∧ (SqL K H p ys ∨ SqT K H p ys) ∧ Q (.int ys.length) H
theorem lenQ (K : PySem.W.Frag) (h : X.K = K := by rfl) : CallR X (.builtin "len") (rLenQ K) := by subst h; exact call_len_seq
theorem inQ (K : PySem.W.Frag) (h : X.K = K := by rfl) : OpR X (compareOp .In) (rIn K false) := by subst h; exact op_in_seq
theorem notInQ (K : PySem.W.Frag) (h : X.K = K := by rfl) : OpR X (compareOp .NotIn) (rIn K true) := by subst h; exact op_notIn_seq
theorem eqD (K : PySem.W.Frag) (hu : X.A.units + 64 < cLine) (h : X.K = K := by rfl) : OpR X (compareOp .Eq) (rEqD K) := by subst h; exact op_eqD hu
theorem neD (K : PySem.W.Frag) (hu : X.A.units + 64 < cLine) (h : X.K = K := by rfl) : OpR X (compareOp .NotEq) (rNeD K) := by subst h; exact op_neD hu
theorem piL (K : PySem.W.Frag) (hl : PE X l tl) (h : X.K = K := by rfl) : PI X tg l (iList K tl) := by subst h; exact pi_list hl
theorem piT (K : PySem.W.Frag) (hl : PE X l tl) (h : X.K = K := by rfl) : PI X tg l (iTup K tl) := by subst h; exact pi_tup hl
theorem sumQ (K : PySem.W.Frag) (hc : X.calm = true) (h : X.K = K := by rfl) : CallR X (.builtin "sum") (rSum K) := by subst h; exact cr_sum hc
theorem allQ (K : PySem.W.Frag) (hc : X.calm = true) (h : X.K = K := by rfl) : CallR X (.builtin "all") (rAll K) := by subst h; exact cr_all hc
def rListOf (K : PySem.W.Frag) : List V → Hp → VK → Prop := fun xs H Q => ∃ p ys, xs = [.ref p] ∧ (SqL K H p ys ∨ SqT K H p ys) ∧ ∀ l, H l = none → Q (.ref l) (upd H l (.lst ys))
theorem listOf (K : PySem.W.Frag) (h : X.K = K := by rfl) : CallR X (.type "list") (rListOf K) := by subst h; exact call_list_of
def rTupOf (K : PySem.W.Frag) : List V → Hp → VK → Prop := fun xs H Q => ∃ p ys, xs = [.ref p] ∧ ((SqL K H p ys ∧ ∀ l, H l = none → Q (.ref l) (upd H l (.tup ys))) ∨ (SqT K H p ys ∧ Q (.ref p) H))
theorem tupOf (K : PySem.W.Frag) (h : X.K = K := by rfl) : CallR X (.type "tuple") (rTupOf K) := by subst h; exact call_tuple_of
theorem slL (K : PySem.W.Frag) (h : X.K = K := by rfl) : SlR X (rSlL K) := by subst h; exact sl_list
theorem mtIndex (K : PySem.W.Frag) (h : X.K = K := by rfl) : MtR X "list.index" (rIndex K) := by subst h; exact mt_index
theorem pgT (K : PySem.W.Frag) {es : List Expr} {k : Nat} {t : TGs} {n : Nat} {pos : Pos} (hc : X.calm = true) (hg : PGs X es t) (h : X.K = K := by rfl)
    (hn : (assignEach es X.env).length = n := by rfl) (hst : (assignEach es X.env).findIdx? (·.1) = none := by rfl) : PG X (.Tuple es k pos) (gTup K n t) := by subst h; exact pg_tup hc hg hn hst
theorem piEnum (K : PySem.W.Frag) {e : Expr} {ta : TA} {p pos tpos : Pos} {elts : List Expr} {kk : Nat} (hg : Gl X "enumerate") (hm : X.mg "enumerate" = none) (ha : PA X [e] ta) (h : X.K = K := by rfl) (hs : starEach [e] X.env = [(false, eval e X.env)] := by rfl) :
    PI X (.Tuple elts kk tpos) (.Call (.Name "enumerate" p) [e] [] pos) (iEnum K ta) := by subst h; exact pi_enum hg hm ha hs
end
theorem DnAll.unsnoc {F : Hp} : ∀ {vs : List V} {ds : List PyData} {d : PyData}, DnAll F vs (ds ++ [d]) → ∃ us x, vs = us ++ [x] ∧ DnAll F us ds ∧ Dn F x d
  | _, [], d, .cons h .nil => ⟨[], _, rfl, .nil, h⟩
  | _, e :: ds, d, .cons h a => by
    obtain ⟨us, x, rfl, h1, h2⟩ := DnAll.unsnoc a
    exact ⟨_ :: us, x, rfl, .cons h h1, h2⟩
theorem LB.last {H0 H : Hp} {o : Addr} {ds : List PyData} {d : PyData} (h : LB H0 H o (ds ++ [d])) : ∃ xi x, H o = some (.lst (xi ++ [x])) ∧ Dn (fr H0 H) x d := by
  obtain ⟨h0, xs, h1, h2⟩ := h
  obtain ⟨us, x, rfl, h3, h4⟩ := h2.unsnoc
  exact ⟨us, x, h1, Dn.mono del_same h4⟩
theorem LB.setLast {H0 H H4 : Hp} {o : Addr} {ds : List PyData} {d e : PyData} {y : V} {xi : List V} {x : V} (h : LB H0 H o (ds ++ [d])) (hx : H o = some (.lst (xi ++ [x]))) (s0 : Same H0 H) (s : Same H H4) (n : NewV H H4 y e) : LB H0 (upd H4 o (.lst (xi ++ [y]))) o (ds ++ [e]) := by
  obtain ⟨h0, xs, h1, h2⟩ := h
  obtain ⟨us, x', rfl, h3, h4⟩ := h2.unsnoc
  have e1 := HO.lst.inj (Option.some.inj (hx.symm.trans h1))
  obtain ⟨rfl, _⟩ : xi = us ∧ x = x' := by simpa using e1
  have lb : LB H0 (upd H o (.lst xi)) o ds := by
    refine ⟨h0, xi, upd_same, h3.mono fun b u q => ?_⟩
    by_cases c : b = o
    · subst c
      rw [del_self] at q
      cases q
    · rw [del_ne c] at q ⊢
      obtain ⟨q1, q2⟩ := fr_some q
      rw [fr_new q1, upd_ne c]
      exact q2
  have s4 : Same (upd H o (.lst xi)) (upd H4 o (.lst xi)) := fun b u q => by
    by_cases c : b = o
    · subst c
      rw [upd_same] at q ⊢
      exact q
    · rw [upd_ne c] at q ⊢
      exact s _ _ q
  have nv : NewV (upd H o (.lst xi)) (upd H4 o (.lst xi)) y e := by
    refine Dn.mono (fun b u q => ?_) n
    obtain ⟨q1, q2⟩ := fr_some q
    have c : b ≠ o := fun z => by
      subst z
      rw [hx] at q1
      cases q1
    rw [fr_new (by rw [upd_ne c]; exact q1), upd_ne c]
    exact q2
  obtain ⟨ys, k1, k2, k3⟩ := lb.snoc (same_upd s0 h0) s4 nv
  rw [upd_same] at k1
  obtain rfl := HO.lst.inj (Option.some.inj k1)
  rw [upd_upd] at k3
  exact k3
theorem ixN_last (n : Nat) : ixN (n + 1) (-1) = some n := by
  unfold ixN
  rw [if_neg (by omega), if_pos (by omega)]
  congr 1
  omega
theorem set_last (xs : List V) (x y : V) : (xs ++ [x]).set xs.length y = xs ++ [y] := by
  rw [List.set_append_right _ _ (Nat.le_refl _), Nat.sub_self]
  rfl
theorem len_snoc (xs : List V) (x : V) : (xs ++ [x]).length = xs.length + 1 := by simp
theorem map_get {α : Type} {f : α → V} {l : List α} {i : Nat} {d : V} (h : (l.map f)[i]? = some d) : ∃ r, l[i]? = some r ∧ d = f r := by
  rw [List.getElem?_map] at h
  cases e : l[i]? with
  | none =>
    rw [e] at h
    cases h
  | some r =>
    rw [e] at h
    exact ⟨r, rfl, (Option.some.inj h).symm⟩
/-! ### small words -/
theorem bT {p : Prop} [Decidable p] (h : p) : V.bl (decide p) = V.bl true := congrArg V.bl (decide_eq_true h)
theorem bF {p : Prop} [Decidable p] (h : ¬ p) : V.bl (decide p) = V.bl false := congrArg V.bl (decide_eq_false h)
theorem itT {c A B : Prop} [Decidable c] (hc : c) (h : A) : if c then A else B := by
  rw [if_pos hc]
  exact h
theorem itF {c A B : Prop} [Decidable c] (hc : ¬ c) (h : B) : if c then A else B := by
  rw [if_neg hc]
  exact h
theorem for_enum {K : PySem.W.Frag} {a : Addr} {xs : List V} {g : TG} {tb : TS} {D : Ends} {σ : L2.St} {H : Hp} (Pv : Nat → L2.St → Hp → Prop) (h0 : Pv 0 σ H) (hl : ∀ i σ H, i ≤ xs.length → Pv i σ H → SqL K H a xs)
    (hs : ∀ i x t σ H, xs[i]? = some x → H t = none → Pv i σ H → g (.ref t) σ (upd H t (.tup [.int (i : Nat), x])) fun σ2 H2 => tb { D with nx := Pv (i + 1), ct := Pv (i + 1), bk := D.nx } σ2 H2) (hd : ∀ σ H, Pv xs.length σ H → D.nx σ H) :
    ∃ W : Nat → Nat → L2.St → Hp → Prop, (∃ m, W 0 m σ H) ∧ ∀ i m σ H, W i m σ H →
      ((Ite K a).stop i H ∧ D.nx σ H) ∨ ((Ite K a).go i H ∧ ∃ N : L2.St → Hp → Prop, (∀ σ' H', N σ' H' → ∃ m', m' < m ∧ W (i + 1) m' σ' H') ∧ ∀ x H', (Ite K a).yld i H x H' → g x σ H' fun σ2 H2 => tb { D with nx := N, ct := N, bk := D.nx } σ2 H2) := by
  refine ⟨fun i m σ H => m = xs.length - i ∧ i ≤ xs.length ∧ Pv i σ H, ⟨xs.length, by simp, Nat.zero_le _, h0⟩, ?_⟩
  rintro i m σ H ⟨rfl, hi, p⟩
  have q := hl i σ H hi p
  by_cases hlt : i < xs.length
  · refine .inr ⟨⟨xs, xs[i], q, by simp [hlt]⟩, Pv (i + 1), fun σ' H' p' => ⟨xs.length - (i + 1), by omega, rfl, hlt, p'⟩, fun x H' y => ?_⟩
    obtain ⟨t, z, rfl, nt, rfl, fz⟩ := y
    exact hs i z t σ H (fz xs q) nt p
  · have e : i = xs.length := by omega
    subst e
    exact .inl ⟨⟨xs, q, Nat.le_refl _⟩, hd σ H p⟩
theorem pe_gI {X : Cx} {x : Str} {pos : Pos} {i : Int} (hg : Gl X x) (h : ∃ t, X.mg x = some (.int i t)) (hdb : (x == ("__debug__" : Str)) = false := by decide) : PE X (.Name x pos) (tC (.int i)) := by
  obtain ⟨t, h⟩ := h
  exact pe_glob hg h ⟨_, rfl⟩ hdb
theorem seq_join {t u : TS} {D : Ends} {σ : L2.St} {H : Hp} (J : L2.St → Hp → Prop) (hu : ∀ σ' H', J σ' H' → u D σ' H') (ht : ∀ N : L2.St → Hp → Prop, (∀ σ' H', J σ' H' → N σ' H') → t { D with nx := N } σ H) : tSeq t u D σ H := ht _ hu
theorem ixN_at {n j : Nat} (hj : j < n) : ixN n (j : Int) = some j := by
  unfold ixN
  rw [if_pos (by omega), if_pos (by omega)]
  rfl
theorem LB.ints {H0 H : Hp} {o : Addr} {ns : List Int} (h : LB H0 H o (ns.map PyData.int)) : H o = some (.lst (ns.map V.int)) := by
  obtain ⟨h0, xs, h1, h2⟩ := h
  have e := dpAll_ints (K := []) h2.dp
  rw [e] at h1
  exact h1
/-- the state of the dice -/
def DiceOk (D : List Int) : Prop := 2 ≤ D.length ∧ D.length ≤ 100 ∧ ∀ x ∈ D, 0 ≤ x
/-! ### expressions that change nothing: what they are worth -/
theorem NewV.but {dd : Addr} {o : HO} {H H1 H2 : Hp} {v : V} {d : PyData} (h : NewV H H1 v d) (hd : H dd = some o) (e : SameBut dd H1 H2) : NewV H H2 v d := Dn.mono (fun b u q => by
  obtain ⟨q1, q2⟩ := fr_some q
  rw [fr_new q1]
  refine e b u (fun z => ?_) q2
  subst z
  rw [hd] at q1
  cases q1) h
theorem dpAll_take {K : PySem.W.Frag} {H : Hp} : ∀ (n : Nat) {vs : List V} {ds : List PyData}, DpAll K H vs ds → DpAll K H (vs.take n) (ds.take n)
  | 0, _, _, _ => .nil
  | _ + 1, _, _, .nil => .nil
  | n + 1, _, _, .cons h a => .cons h (dpAll_take n a)
theorem dpAll_drop {K : PySem.W.Frag} {H : Hp} : ∀ (n : Nat) {vs : List V} {ds : List PyData}, DpAll K H vs ds → DpAll K H (vs.drop n) (ds.drop n)
  | 0, _, _, h => h
  | _ + 1, _, _, .nil => .nil
  | n + 1, _, _, .cons _ a => dpAll_drop n a
theorem dpAll_rev {K : PySem.W.Frag} {H : Hp} : ∀ {vs : List V} {ds : List PyData}, DpAll K H vs ds → DpAll K H vs.reverse ds.reverse
  | _, _, .nil => .nil
  | _, _, .cons h a => by
    rw [List.reverse_cons, List.reverse_cons]
    exact dpAll_app (dpAll_rev a) (.cons h .nil)
theorem cut_to (xs : List V) (k : Nat) : cutV xs none (some (k : Int)) = xs.take k := by
  unfold cutV
  rw [HT.sIx_none, HT.sIx_nat, List.drop_zero, Nat.sub_zero]
  by_cases h : k ≤ xs.length
  · rw [Nat.min_eq_left h]
  · rw [Nat.min_eq_right (by omega), List.take_of_length_le (Nat.le_refl _), List.take_of_length_le (by omega)]
theorem cut_from (xs : List V) (k : Nat) : cutV xs (some (k : Int)) none = xs.drop k := by
  unfold cutV
  rw [HT.sIx_none, HT.sIx_nat]
  by_cases h : k ≤ xs.length
  · rw [Nat.min_eq_left h]
    exact List.take_of_length_le (by rw [List.length_drop]; exact Nat.le_refl _)
  · rw [Nat.min_eq_right (by omega), List.drop_of_length_le (Nat.le_refl _), List.drop_of_length_le (by omega)]
    simp
/-- in every heap over G the expression gives the data d, and leaves what stands -/
def Ev (K : PySem.W.Frag) (G : Hp) (σ : L2.St) (t : TE) (d : PyData) : Prop := ∀ (H : Hp) (Q : VK), Same G H → (∀ H' v, Same H H' → Dp K H' v d → Q v H') → t σ H Q
def EvB (K : PySem.W.Frag) (G : Hp) (σ : L2.St) (t : TT) (b : Bool) : Prop := ∀ (H : Hp) (Q : Bool → Hp → Prop), Same G H → (∀ H', Same H H' → Q b H') → t σ H Q
section
variable {K : PySem.W.Frag} {G : Hp} {σ : L2.St} {ta tb tc : TE} {tA tB' : TT} {d e : PyData}
theorem Ev.var {i : Nat} {v : V} (h : σ[i]? = some (some v)) (hd : Dp K G v d) : Ev K G σ (tVar i) d := fun H _ s k => ⟨v, h, k H v (Same.refl _) (same_dp s hd)⟩
theorem Ev.int (i : Int) : Ev K G σ (tC (.int i)) (.int i) := fun H _ _ k => k H _ (Same.refl _) (.int i)
theorem Ev.mono {G' : Hp} {t : TE} (h : Ev K G σ t d) (s : Same G G') : Ev K G' σ t d := fun H Q s' k => h H Q (s.trans s') k
theorem Ev.nil : Ev K G σ (tLst tNil) (.list []) := fun H _ _ k => ⟨Nat.zero_le _, fun p np => k _ _ (same_new np) (.lst (SqL.of upd_same) .nil)⟩
theorem Ev.take (k : Nat) {ds : List PyData} (h : Ev K G σ ta (.list ds)) : Ev K G σ (tSl (rSlL K) ta tNoPart (tPart (tC (.int (k : Int))))) (.list (ds.take k)) := fun H Q s c => h H _ s fun H1 v s1 hv => by
  obtain ⟨a, xs, rfl, hS, hA⟩ := dp_list hv
  refine ⟨(k : Int), rfl, a, xs, rfl, hS, fun p np => ?_⟩
  rw [cut_to]
  exact c _ _ (s1.trans (same_new np)) (.lst (SqL.of upd_same) (same_dpAll (same_new np) (dpAll_take k hA)))
theorem Ev.rev {ds : List PyData} (h : Ev K G σ ta (.list ds)) : Ev K G σ (tRevL K ta) (.list ds.reverse) := fun H Q s c => h H _ s fun H1 v s1 hv => by
  obtain ⟨a, xs, rfl, hS, hA⟩ := dp_list hv
  exact ⟨a, xs, rfl, hS, fun p np => c _ _ (s1.trans (same_new np)) (.lst (SqL.of upd_same) (same_dpAll (same_new np) (dpAll_rev hA)))⟩
theorem EvB.ne {n m : Nat} (ha : Ev K G σ ta d) (hb : Ev K G σ tb e) (sd : Sh n d) (se : Sh m e) (hn : n ≤ 64 := by decide) (hm : m ≤ 64 := by decide) : EvB K G σ (tTest (tOp (rNeD K) ta tb)) (!PyData.eqv d e) := fun H Q s k =>
  ha H _ s fun H1 v1 s1 d1 => hb H1 _ (s.trans s1) fun H2 v2 s2 d2 => ⟨d, e, same_dp s2 d1, d2, sd.shaped hn, se.shaped hm, _, rfl, k H2 (s1.trans s2)⟩
theorem EvB.eq {n m : Nat} (ha : Ev K G σ ta d) (hb : Ev K G σ tb e) (sd : Sh n d) (se : Sh m e) (hn : n ≤ 64 := by decide) (hm : m ≤ 64 := by decide) : Ev K G σ (tOp (rEqD K) ta tb) (.bool (PyData.eqv d e)) := fun H Q s k =>
  ha H _ s fun H1 v1 s1 d1 => hb H1 _ (s.trans s1) fun H2 v2 s2 d2 => ⟨d, e, same_dp s2 d1, d2, sd.shaped hn, se.shaped hm, k H2 _ (s1.trans s2) (.bl _)⟩
theorem EvB.or {a b : Bool} (ha : EvB K G σ tA a) (hb : EvB K G σ tB' b) : EvB K G σ (tOr tA tB') (a || b) := fun H Q s k =>
  ha H _ s fun H1 s1 => by
    cases a
    · exact iteF (hb H1 _ (s.trans s1) fun H2 s2 => k H2 (s1.trans s2))
    · exact iteT (k H1 s1)
theorem EvB.and {a b : Bool} (ha : EvB K G σ tA a) (hb : EvB K G σ tB' b) : EvB K G σ (tAnd tA tB') (a && b) := fun H Q s k =>
  ha H _ s fun H1 s1 => by
    cases a
    · exact iteF (k H1 s1)
    · exact iteT (hb H1 _ (s.trans s1) fun H2 s2 => k H2 (s1.trans s2))
theorem EvB.not {a : Bool} (ha : EvB K G σ tA a) : EvB K G σ (tNot tA) (!a) := fun H _ s k => ha H _ s fun H1 s1 => k H1 s1
theorem EvB.val {a : Bool} {t : TE} (h : Ev K G σ t (.bool a)) : EvB K G σ (L2.tB t) a := fun H _ s k => h H _ s fun H1 v s1 hv => ⟨a, dp_bool hv, k H1 s1⟩
/-- an if whose test is false -/
theorem EvB.pass {t1 : TS} {D : Ends} {H : Hp} (h : EvB K G σ tA false) (s : Same G H) (k : ∀ H', Same H H' → D.nx σ H') : tIfS tA t1 tNext D σ H := h H _ s fun H' s' => iteF (k H' s')
end
theorem list_map {α : Type} (l : List α) (g : α → PyData) : (List.range l.length).filterMap (fun (i : Nat) => (l[i]?).bind fun k => some (g k)) = l.map g := by
  have h : ∀ m, m ≤ l.length → (List.range m).filterMap (fun (i : Nat) => (l[i]?).bind fun k => some (g k)) = (l.take m).map g := by
    intro m
    induction m with
    | zero => intro _; rfl
    | succ m ih =>
      intro hm
      have hlt : m < l.length := hm
      have e : l[m]? = some l[m] := List.getElem?_eq_getElem hlt
      rw [List.range_succ, List.filterMap_append, ih (Nat.le_of_succ_le hm), List.take_add_one, e, List.map_append]
      congr 1
      rw [List.filterMap_cons, e]
      rfl
  rw [h _ (Nat.le_refl _), List.take_length]
theorem yesT {σ : L2.St} {H : Hp} {A B : Hp → Prop} (h : A H) : tYes σ H fun b H3 => if b = true then A H3 else B H3 := by
  show if true = true then A H else B H
  rw [if_pos rfl]
  exact h
/-! ### defs -/
section
variable {P : Program} {w : World} {K : PySem.W.Frag} {mg : Str → Option Value} {base : Heap}
/-- a def of the program's top: what stands under its name -/
structure Df (K : PySem.W.Frag) (mg : Str → Option Value) (x : Str) (st : Stmt) (ps : List Str) : Prop where
  ex : ∃ (f : Addr) (fd : FuncData), Fun K x x st f fd ∧ mg x = some (.ref f) ∧ Binds K fd ps []
/-- a def that keeps a promise, called by its name -/
structure Cl (P : Program) (w : World) (K : PySem.W.Frag) (mg : Str → Option Value) (base : Heap) (k : Nat) (x : Str) (sp : Sp) : Prop where
  ex : ∃ (f : Addr) (fd : FuncData) (ps : List Str), FnOk P w K mg base CX0 k f fd ps sp ∧ mg x = some (.ref f) ∧ PySem.W.keepIn K (.ref f) = true ∧ Binds K fd ps []
theorem Df.cl {x : Str} {st : Stmt} {N ps : List Str} {k : Nat} {sp : Sp} (F : Df K mg x st ps) (S : FnScope N ps (defScope st)) (len : ∀ vs H Q E, sp vs H Q E → vs.length = ps.length)
    (hbody : ∀ (f : Addr) (cdv : Value) (A : Around) (outer : List Env) (s : Shared) (H : Hp) (vs : List V) (Q : VK) (E : XK), Room k (A.deeper (envOfC x (defScope st) s.heap.objs.size f cdv)) → sp vs H Q E →
      ∃ t, PSs (cxOf CX0 P w K mg base N x (defScope st) f cdv A outer s H E).nox (defBody st) t ∧ t { nx := fun _ H' => Q .non H', rt := Q } (start N vs) H) : Cl P w K mg base (k + 1) x sp := by
  obtain ⟨f, fd, F0, g, b⟩ := F.ex
  exact ⟨f, fd, ps, F0.ok S len (fun cdv A outer s H vs Q E hr h => hbody f cdv A outer s H vs Q E hr h), g, F0.kp, b⟩
theorem Cl.imp {x : Str} {k : Nat} {sp sp' : Sp} (c : Cl P w K mg base k x sp) (h : ∀ vs H Q E, sp' vs H Q E → sp vs H Q E) : Cl P w K mg base k x sp' := by
  obtain ⟨f, fd, ps, F, a, b, d⟩ := c.ex
  exact ⟨f, fd, ps, F.imp h, a, b, d⟩
end
section
variable {X : Cx} {k j : Nat} {x : Str} {sp : Sp} {p pos : Pos} {e : Expr} {es : List Expr} {t : TA}
theorem pe_k (c : Cl X.prog X.w X.K X.mg X.base k x sp) (hr : Room j X.A) (ha : PA X (e :: es) t) (hk : k ≤ j := by decide) (hg : Gl X x := by rfl)
    (hdb : (x == ("__debug__" : Str)) = false := by decide) (he : starEach (e :: es) X.env = (false, eval e X.env) :: starEach es X.env := by rfl) (hpl : (backTo pos (starEach es X.env)).any (·.1) = false := by rfl) :
    PE X (.Call (.Name x p) (e :: es) [] pos) (tCall sp [] E0 t) := by
  obtain ⟨f, fd, ps, F, hm, kp, b⟩ := c.ex
  exact pe_call F (hr.mono hk) hg hm kp b .nil pass0 ha hdb he hpl
end
end Sg
/-! Signsets: more about data: heaps without the dice, parts of what was told, membership. -/
namespace Sg
open PySem PySem.Spec PyProof.Rows L2

/-! ### rising lists -/
theorem rising_ext : ∀ {a b : List Int}, a.Pairwise (· < ·) → b.Pairwise (· < ·) → (∀ k, k ∈ a ↔ k ∈ b) → a = b
  | [], [], _, _, _ => rfl
  | [], y :: b, _, _, h => absurd ((h y).mpr (by simp)) (by simp)
  | x :: a, [], _, _, h => absurd ((h x).mp (by simp)) (by simp)
  | x :: a, y :: b, ha, hb, h => by
    rw [List.pairwise_cons] at ha hb
    have e : x = y := by
      rcases List.mem_cons.mp ((h x).mp (by simp)) with q | q
      · exact q
      · rcases List.mem_cons.mp ((h y).mpr (by simp)) with r | r
        · exact r.symm
        · have h1 := hb.1 x q
          have h2 := ha.1 y r
          omega
    subst e
    rw [rising_ext ha.2 hb.2 fun k => ⟨fun m => ?_, fun m => ?_⟩]
    · rcases List.mem_cons.mp ((h k).mp (List.mem_cons_of_mem _ m)) with q | q
      · have := ha.1 k m
        omega
      · exact q
    · rcases List.mem_cons.mp ((h k).mpr (List.mem_cons_of_mem _ m)) with q | q
      · have := hb.1 k m
        omega
      · exact q
theorem sep_two {R : List (Int × Int)} (h : R.Pairwise fun a b => a.2 + 1 < b.1) {r q : Int × Int} (hr : r ∈ R) (hq : q ∈ R) : r = q ∨ r.2 + 1 < q.1 ∨ q.2 + 1 < r.1 := by
  obtain ⟨i, hi, rfl⟩ := List.getElem_of_mem hr
  obtain ⟨j, hj, rfl⟩ := List.getElem_of_mem hq
  rw [List.pairwise_iff_getElem] at h
  rcases Nat.lt_trichotomy i j with c | c | c
  · exact .inr (.inl (h i j hi hj c))
  · subst c
    exact .inl rfl
  · exact .inr (.inr (h j i hj hi c))
theorem told_firsts {ns : List Int} (h : ns.Pairwise (· < ·)) : (told ns).map (·.1) = ns.filter fun k => !decide (k - 1 ∈ ns) := by
  have t := told_ti h
  refine rising_ext ?_ (h.filter _) fun k => ?_
  · rw [List.pairwise_map]
    refine List.Pairwise.imp_of_mem (fun {a b} ha hb c => ?_) t.sep
    have := t.le a ha
    omega
  · rw [List.mem_map, List.mem_filter, Bool.not_eq_true', decide_eq_false_iff_not, ← t.has k, ← t.has (k - 1), has_iff, has_iff]
    constructor
    · rintro ⟨r, hr, rfl⟩
      refine ⟨⟨r, hr, Int.le_refl _, t.le r hr⟩, ?_⟩
      rintro ⟨q, hq, h1, h2⟩
      rcases sep_two t.sep hr hq with e | e | e
      · rw [← e] at h1
        omega
      · have := t.le r hr
        omega
      · omega
    · rintro ⟨⟨r, hr, h1, h2⟩, h3⟩
      refine ⟨r, hr, ?_⟩
      by_cases c : r.1 = k
      · exact c
      · exact absurd ⟨r, hr, by omega, by omega⟩ h3
theorem told_lasts {ns : List Int} (h : ns.Pairwise (· < ·)) : (told ns).map (·.2) = ns.filter fun k => !decide (k + 1 ∈ ns) := by
  have t := told_ti h
  refine rising_ext ?_ (h.filter _) fun k => ?_
  · rw [List.pairwise_map]
    refine List.Pairwise.imp_of_mem (fun {a b} ha hb c => ?_) t.sep
    have := t.le b hb
    omega
  · rw [List.mem_map, List.mem_filter, Bool.not_eq_true', decide_eq_false_iff_not, ← t.has k, ← t.has (k + 1), has_iff, has_iff]
    constructor
    · rintro ⟨r, hr, rfl⟩
      refine ⟨⟨r, hr, t.le r hr, Int.le_refl _⟩, ?_⟩
      rintro ⟨q, hq, h1, h2⟩
      rcases sep_two t.sep hr hq with e | e | e
      · rw [← e] at h2
        omega
      · omega
      · have := t.le r hr
        omega
    · rintro ⟨⟨r, hr, h1, h2⟩, h3⟩
      refine ⟨r, hr, ?_⟩
      by_cases c : r.2 = k
      · exact c
      · exact absurd ⟨r, hr, by omega, by omega⟩ h3

/-! ### no list of fewer ranges has the same signs -/
theorem nodup_len : ∀ {a b : List Int}, a.Nodup → (∀ x ∈ a, x ∈ b) → a.length ≤ b.length
  | [], b, _, _ => Nat.zero_le _
  | x :: a, b, hn, hs => by
    rw [List.nodup_cons] at hn
    have hx : x ∈ b := hs x (by simp)
    have ih := nodup_len (b := b.erase x) hn.2 fun y hy => (List.mem_erase_of_ne fun z => hn.1 (by rw [← z]; exact hy)).mpr (hs y (List.mem_cons_of_mem _ hy))
    rw [List.length_erase_of_mem hx] at ih
    have : 0 < b.length := List.length_pos_of_mem hx
    rw [List.length_cons]
    omega
theorem told_first_mem {ns : List Int} (h : ns.Pairwise (· < ·)) {r : Int × Int} (hr : r ∈ told ns) : r.1 ∈ ns ∧ r.1 - 1 ∉ ns := by
  have m : r.1 ∈ (told ns).map (·.1) := List.mem_map.mpr ⟨r, hr, rfl⟩
  rw [told_firsts h, List.mem_filter, Bool.not_eq_true', decide_eq_false_iff_not] at m
  exact m
theorem told_fewest {ns : List Int} (h : ns.Pairwise (· < ·)) {O : List (Int × Int)} (hO : ∀ k, k ∈ ns ↔ has O k = true) : (told ns).length ≤ O.length := by
  have t := told_ti h
  have e := nodup_len (a := (told ns).map (·.1)) (b := O.map (·.1)) ?_ ?_
  · rw [List.length_map, List.length_map] at e
    exact e
  · rw [told_firsts h]
    exact (h.filter _).imp fun {a b} c => by omega
  · intro x hx
    obtain ⟨r, hr, rfl⟩ := List.mem_map.mp hx
    obtain ⟨m1, m2⟩ := told_first_mem h hr
    obtain ⟨o, ho, h1, h2⟩ := has_iff.mp ((hO _).mp m1)
    refine List.mem_map.mpr ⟨o, ho, ?_⟩
    by_cases c : o.1 = r.1
    · exact c
    · exact absurd ((hO _).mpr (has_iff.mpr ⟨o, ho, by omega, by omega⟩)) m2

/-! ### membership -/
theorem inV_ints (k : Int) : ∀ ns : List Int, inV (.int k) (ns.map V.int) = decide (k ∈ ns)
  | [] => rfl
  | n :: ns => by
    have ih := inV_ints k ns
    unfold inV at ih ⊢
    rw [List.map_cons, List.any_cons, ih]
    have e : eqV (.int n) (.int k) = decide (n = k) := by
      show (n == k) = _
      by_cases h : n = k <;> simp [h]
    rw [e]
    by_cases h : n = k
    · simp [h]
    · by_cases h2 : k ∈ ns
      · simp [h2]
      · simp [h, h2]
        exact fun z => h z.symm
theorem flat_ints (ns : List Int) : (ns.map V.int).all flatV = true := by
  rw [List.all_eq_true]
  intro x hx
  obtain ⟨n, _, rfl⟩ := List.mem_map.mp hx
  rfl
theorem dpAll_bools {K : PySem.W.Frag} {H : Hp} : ∀ {vs : List V} {bs : List Bool}, DpAll K H vs (bs.map PyData.bool) → vs = bs.map V.bl
  | _, [], .nil => rfl
  | _, n :: ns, .cons h a => by
    rw [dp_bool h, dpAll_bools a]
    rfl
theorem rIx_of {K : PySem.W.Frag} {H : Hp} {Q : VK} {a : Addr} {xs : List V} {i : Nat} {v : V} (hq : SqL K H a xs ∨ SqT K H a xs) (hi : xs[i]? = some v) (q : Q v H) : rIx K (.ref a) (.int (i : Int)) H Q := by
  rcases hq with h | h
  · exact .inl ⟨a, xs, i, v, rfl, rfl, h, atI_nat hi, q⟩
  · exact .inr (.inl ⟨a, xs, i, v, rfl, rfl, h, atI_nat hi, q⟩)

/-! ### heaps without one address -/
theorem sb_same {d : Addr} {H H' : Hp} (e : SameBut d H H') : Same (del H d) (del H' d) := fun b o h => by
  by_cases c : b = d
  · subst c
    rw [del_self] at h
    cases h
  · rw [del_ne c] at h ⊢
    exact e b o c h
theorem NewV.del {d : Addr} {o : HO} {H H' : Hp} {v : V} {e : PyData} (h : NewV H H' v e) (hd : H d = some o) : NewV (del H d) (Sg.del H' d) v e := Dn.mono (fun b u q => by
  obtain ⟨q1, q2⟩ := fr_some q
  have c : b ≠ d := fun z => by
    subst z
    rw [hd] at q1
    cases q1
  rw [fr_new (by rw [del_ne c]; exact q1), del_ne c]
  exact q2) h
theorem NewV.undel {d : Addr} {H H' : Hp} {v : V} {e : PyData} (h : NewV (Sg.del H d) (Sg.del H' d) v e) : NewV H H' v e := Dn.mono (fun b u q => by
  obtain ⟨q1, q2⟩ := fr_some q
  by_cases c : b = d
  · subst c
    rw [del_self] at q2
    cases q2
  · rw [del_ne c] at q1 q2
    rw [fr_new q1]
    exact q2) h
theorem del_upd {d o : Addr} {x : HO} {H : Hp} (n : o ≠ d) : del (upd H o x) d = upd (del H d) o x := by
  funext b
  by_cases c : b = d
  · subst c
    rw [del_self, upd_ne n.symm, del_self]
  · rw [del_ne c]
    by_cases c2 : b = o
    · subst c2
      rw [upd_same, upd_same]
    · rw [upd_ne c2, upd_ne c2, del_ne c]
theorem del_upd_self {d : Addr} {x : HO} {H : Hp} : del (upd H d x) d = del H d := by
  funext b
  by_cases c : b = d
  · subst c
    rw [del_self, del_self]
  · rw [del_ne c, del_ne c, upd_ne c]

theorem LB.mk {H0 H : Hp} {o : Addr} {xs : List V} {ds : List PyData} (s : Same H0 H) (no : H o = none) (ha : DnAll (fr H0 H) xs ds) : LB H0 (upd H o (.lst xs)) o ds := by
  refine ⟨s.free no, xs, upd_same, ha.mono fun b u q => ?_⟩
  obtain ⟨q1, q2⟩ := fr_some q
  have c : b ≠ o := ne_of_none q2 no
  rw [del_ne c, fr_new q1, upd_ne c]
  exact q2
theorem LB.push {H0 H : Hp} {o : Addr} {ds : List PyData} {y : V} {e : PyData} (h : LB H0 H o ds) (hy : Dn (del (fr H0 H) o) y e) : ∃ xs, H o = some (.lst xs) ∧ xs.length = ds.length ∧ LB H0 (upd H o (.lst (xs ++ [y]))) o (ds ++ [e]) := by
  obtain ⟨h0, xs, h1, h2⟩ := h
  have up : Same (del (fr H0 H) o) (del (fr H0 (upd H o (.lst (xs ++ [y])))) o) := fun b u q => by
    by_cases c : b = o
    · subst c
      rw [del_self] at q
      cases q
    · rw [del_ne c] at q ⊢
      obtain ⟨q1, q2⟩ := fr_some q
      rw [fr_new q1, upd_ne c]
      exact q2
  exact ⟨xs, h1, h2.len, h0, xs ++ [y], upd_same, DnAll.snoc (h2.mono up) (Dn.mono up hy)⟩
theorem dec_allIn {n : Nat} {R : List (Int × Int)} (hk : Ok n R) (k : Int) : decide (k ∈ allIn n R) = has R k := by
  cases e : has R k
  · exact decide_eq_false fun z => by rw [(mem_allIn hk).mp z] at e; cases e
  · exact decide_eq_true ((mem_allIn hk).mpr e)

/-! ### the parts of what was told -/
mutual
theorem Dn.func {F : Hp} : ∀ {d e : PyData} {v : V}, Dn F v d → Dn F v e → d = e
  | .none, _, _, .non, h => by cases h; rfl
  | .bool b, _, _, .bl _, h => by cases h; rfl
  | .int i, _, _, .int _, h => by cases h; rfl
  | .str x, _, _, .str _, h => by cases h; rfl
  | .list ds, _, _, .lst h a, h2 => by
    cases h2 with
    | lst h' a' =>
      rw [h] at h'
      cases h'
      rw [DnAll.func a a']
    | tup h' a' =>
      rw [h] at h'
      cases h'
  | .tuple ds, _, _, .tup h a, h2 => by
    cases h2 with
    | tup h' a' =>
      rw [h] at h'
      cases h'
      rw [DnAll.func a a']
    | lst h' a' =>
      rw [h] at h'
      cases h'
theorem DnAll.func {F : Hp} : ∀ {ds es : List PyData} {vs : List V}, DnAll F vs ds → DnAll F vs es → ds = es
  | [], _, _, .nil, h => by cases h; rfl
  | d :: ds, _, _, .cons h a, h2 => by
    cases h2 with
    | cons h' a' => rw [Dn.func h h', DnAll.func a a']
end
theorem part_ne {F : Hp} {f p : Addr} {ps xs : List V} {ds : List PyData} (hf : F f = some (.lst ps)) (ha : DnAll F ps ds) (hm : V.ref p ∈ ps) : p ≠ f := fun z => by
  subst z
  obtain ⟨i, hi⟩ := List.getElem?_of_mem hm
  obtain ⟨d, hd, hn⟩ := ha.get hi
  have e := Dn.func (.lst hf ha) hn
  have h1 := List.sizeOf_lt_of_mem (List.mem_of_getElem? hd)
  rw [← e] at h1
  simp at h1
  omega
/-- lists that are new over G, to be made longer -/
def Parts (G H : Hp) (ps : List V) (b : Nat) : Prop := ∀ v ∈ ps, ∃ p xs, v = .ref p ∧ G p = none ∧ H p = some (.lst xs) ∧ xs.length ≤ b
theorem Parts.same {G H H' : Hp} {ps : List V} {b : Nat} (h : Parts G H ps b) (s : Same H H') : Parts G H' ps b := fun v hv => by
  obtain ⟨p, xs, h1, h2, h3, h4⟩ := h v hv
  exact ⟨p, xs, h1, h2, s _ _ h3, h4⟩
theorem Parts.push {G H : Hp} {ps : List V} {b : Nat} {p : Addr} {xs : List V} {y : V} (h : Parts G H ps b) (hl : xs.length ≤ b) : Parts G (upd H p (.lst (xs ++ [y]))) ps (b + 1) := fun v hv => by
  obtain ⟨q, ys, h1, h2, h3, h4⟩ := h v hv
  by_cases c : q = p
  · subst c
    exact ⟨q, _, h1, h2, upd_same, by rw [List.length_append]; simp; omega⟩
  · exact ⟨q, ys, h1, h2, by rw [upd_ne c]; exact h3, by omega⟩
theorem Parts.of {G H : Hp} {ps : List V} {ds : List PyData} {b : Nat} (ha : DnAll (fr G H) ps ds) (hd : ∀ d ∈ ds, ∃ es, d = .list es ∧ es.length ≤ b) : Parts G H ps b := fun v hv => by
  obtain ⟨i, hi⟩ := List.getElem?_of_mem hv
  obtain ⟨d, hd', hn⟩ := ha.get hi
  obtain ⟨es, rfl, hl⟩ := hd d (List.mem_of_getElem? hd')
  cases hn with
  | lst h a =>
    obtain ⟨q1, q2⟩ := fr_some h
    exact ⟨_, _, rfl, q1, q2, by rw [a.len]; exact hl⟩
end Sg
/-! Signsets: isinstance over data; what _law_alike looks at. -/
namespace Sg
open PySem PySem.Spec PyProof.Rows L2
def tyN : PyData → String
  | .none => "NoneType"
  | .bool _ => "bool"
  | .int _ => "int"
  | .str _ => "str"
  | .list _ => "list"
  | .tuple _ => "tuple"
  | .dict _ => "dict"
def isN (n t : String) : Bool := t == n || (n == "int" && t == "bool")
/-- isinstance of data with a built-in class -/
def isT (n : String) (d : PyData) : Bool := isN n (tyN d)
theorem kitN : ∀ t ∈ ["NoneType", "bool", "int", "str", "list", "tuple"], ∀ n ∈ ["bool", "int", "str", "tuple", "list"], kitB t n = some (isN n t) := by decide +kernel
theorem dp_ty {K : PySem.W.Frag} {H : Hp} {v : V} {d : PyData} (h : Dp K H v d) : TyX K H v (.type (tyN d)) := by
  cases h with
  | non => exact .base .non
  | bl b => exact .base (.bl b)
  | int i => exact .base (.int i)
  | str x => exact .base (.str x)
  | lst h _ =>
    rcases h with (h | ⟨o, h⟩) | ⟨o, its, n, h, c, _⟩
    · exact .base (.lst h)
    · exact .base (.frz h)
    · exact .kList h c
  | tup h _ =>
    rcases h with (h | ⟨o, h⟩) | ⟨o, its, n, h, c, _⟩
    · exact .base (.tup h)
    · exact .fTuple h
    · exact .kTuple h c
def rIsD (K : PySem.W.Frag) : List V → Hp → VK → Prop := fun xs H Q => ∃ (x : V) (n : String) (d : PyData), xs = [x, .ty n] ∧ n ∈ ["bool", "int", "str", "tuple", "list"] ∧ Dp K H x d ∧ Q (.bl (isT n d)) H
theorem isD {X : Cx} (K : PySem.W.Frag) (h : X.K = K := by rfl) : CallR X (.builtin "isinstance") (rIsD K) := by
  subst h
  intro pins s σ H xs us Q I r h
  obtain ⟨x, n, d, rfl, hn, hd, q⟩ := h
  refine call_isi pins s σ H _ us Q I r ⟨x, .ty n, .type (tyN d), .type n, isT n d, rfl, .ty n, dp_ty hd, ?_, q⟩
  refine kit_ty (kitN _ ?_ n hn)
  cases d with
  | dict kvs => cases hd
  | none => simp [tyN]
  | bool b => simp [tyN]
  | int i => simp [tyN]
  | str x => simp [tyN]
  | list ds => simp [tyN]
  | tuple ds => simp [tyN]
theorem isT_bool {d : PyData} (h : isT "bool" d = true) : ∃ b, d = .bool b := by
  cases d <;> simp [isT, isN, tyN] at h
  exact ⟨_, rfl⟩
theorem isT_int {d : PyData} (h : isT "int" d = true) (h2 : ¬ isT "bool" d = true) : ∃ b, d = .int b := by
  cases d <;> simp [isT, isN, tyN] at h h2
  exact ⟨_, rfl⟩
theorem isT_str {d : PyData} (h : isT "str" d = true) : ∃ b, d = .str b := by
  cases d <;> simp [isT, isN, tyN] at h
  exact ⟨_, rfl⟩
theorem ixQ {X : Cx} (K : PySem.W.Frag) (h : X.K = K := by rfl) : IxR X (rIx K) := by subst h; exact ix_seq
/-- data of at most n storeys, its lists of at most 100,000 items -/
def Al : Nat → PyData → Prop
  | _, .none => True
  | _, .bool _ => True
  | _, .int _ => True
  | _, .str _ => True
  | n + 1, .list ds => ds.length ≤ 100000 ∧ ∀ d ∈ ds, Al n d
  | n + 1, .tuple ds => ds.length ≤ 100000 ∧ ∀ d ∈ ds, Al n d
  | _, _ => False
theorem Al.int {n : Nat} (i : Int) : Al n (.int i) := by cases n <;> trivial
theorem Al.bool {n : Nat} (i : Bool) : Al n (.bool i) := by cases n <;> trivial
theorem Al.str {n : Nat} (i : Str) : Al n (.str i) := by cases n <;> trivial
theorem Al.eP {n : Nat} (r : Int × Int) : Al (n + 1) (eP r) := ⟨by simp, fun d hd => by
  simp at hd
  rcases hd with rfl | rfl <;> exact Al.int _⟩
theorem Al.eI {n : Nat} {ns : List Int} (h : ns.length ≤ 100000) : Al (n + 1) (eI ns) := ⟨by rw [List.length_map]; exact h, fun d hd => by
  obtain ⟨r, _, rfl⟩ := List.mem_map.mp hd
  exact Al.int r⟩
theorem Al.eR {n : Nat} {R : List (Int × Int)} (h : R.length ≤ 100000) : Al (n + 2) (eR R) := ⟨by rw [List.length_map]; exact h, fun d hd => by
  obtain ⟨r, _, rfl⟩ := List.mem_map.mp hd
  exact Al.eP r⟩
end Sg
/-! Signsets: data of several sets, of kinds, of texts of 0 and 1; deep membership. -/
namespace Sg
open PySem PySem.Spec PyProof.Rows L2
/-- several sets; lists of ints; texts -/
def eRs (L : List (List (Int × Int))) : PyData := .list (L.map eR)
def eIs (L : List (List Int)) : PyData := .list (L.map eI)
def eB (b : List Bool) : PyData := .tuple (b.map PyData.bool)
def eBs (L : List (List Bool)) : PyData := .list (L.map eB)
def eT (L : List Str) : PyData := .list (L.map PyData.str)
theorem Sh.str {n : Nat} {i : Str} (h : PyData.strOk i = true) : Sh n (.str i) := ⟨by simp [PyData.canLay0, h], by simp [PyData.depth]⟩
theorem Sh.eB {n : Nat} (b : List Bool) : Sh (n + 1) (eB b) := Sh.tuple fun d hd => by
  obtain ⟨r, _, rfl⟩ := List.mem_map.mp hd
  exact Sh.bool r
theorem Sh.eBs {n : Nat} (L : List (List Bool)) : Sh (n + 2) (eBs L) := Sh.list fun d hd => by
  obtain ⟨r, _, rfl⟩ := List.mem_map.mp hd
  exact Sh.eB r
theorem Sh.eRs {n : Nat} (L : List (List (Int × Int))) : Sh (n + 3) (eRs L) := Sh.list fun d hd => by
  obtain ⟨r, _, rfl⟩ := List.mem_map.mp hd
  exact Sh.eR r
theorem Al.eIs {n : Nat} {L : List (List Int)} (h : L.length ≤ 100000) (h2 : ∀ l ∈ L, l.length ≤ 100000) : Al (n + 2) (eIs L) := ⟨by rw [List.length_map]; exact h, fun d hd => by
  obtain ⟨r, hr, rfl⟩ := List.mem_map.mp hd
  exact Al.eI (h2 r hr)⟩
theorem Al.eRs {n : Nat} {L : List (List (Int × Int))} (h : L.length ≤ 100000) (h2 : ∀ l ∈ L, l.length ≤ 100000) : Al (n + 3) (eRs L) := ⟨by rw [List.length_map]; exact h, fun d hd => by
  obtain ⟨r, hr, rfl⟩ := List.mem_map.mp hd
  exact Al.eR (h2 r hr)⟩
theorem eqv_bools : ∀ (a b : List Bool), PyData.eqvAll (a.map PyData.bool) (b.map PyData.bool) = decide (a = b)
  | [], [] => by simp [PyData.eqvAll]
  | [], _ :: _ => by simp [PyData.eqvAll]
  | _ :: _, [] => by simp [PyData.eqvAll]
  | x :: a, y :: b => by
    have ih := eqv_bools a b
    simp only [List.map_cons, PyData.eqvAll, PyData.eqv, ih]
    cases x <;> cases y <;> by_cases h2 : a = b <;> simp [h2]
theorem eqv_eB (a b : List Bool) : PyData.eqv (eB a) (eB b) = decide (a = b) := by
  unfold eB
  rw [PyData.eqv, eqv_bools]
theorem any_eB (b : List Bool) : ∀ L : List (List Bool), ((L.map eB).any fun z => PyData.eqv z (eB b)) = decide (b ∈ L)
  | [] => rfl
  | a :: L => by
    rw [List.map_cons, List.any_cons, any_eB b L, eqv_eB]
    by_cases h : a = b
    · simp [h]
    · by_cases h2 : b ∈ L
      · simp [h2]
      · simp [h, h2]
        exact fun z => h z.symm
theorem eqv_sets (a b : List (List (Int × Int))) : PyData.eqv (eRs a) (eRs a) = true := SeqAt.eqv_refl _ (Sh.eRs (n := 0) a).1
theorem dpAll_strs {K : PySem.W.Frag} {H : Hp} : ∀ {vs : List V} {bs : List Str}, DpAll K H vs (bs.map PyData.str) → vs = bs.map V.str
  | _, [], .nil => rfl
  | _, n :: ns, .cons h a => by
    rw [dp_str h, dpAll_strs a]
    rfl
theorem dnAll_strs {F : Hp} : ∀ ns : List Str, DnAll F (ns.map V.str) (ns.map PyData.str)
  | [] => .nil
  | n :: ns => .cons (.str n) (dnAll_strs ns)
theorem dnAll_bools {F : Hp} : ∀ ns : List Bool, DnAll F (ns.map V.bl) (ns.map PyData.bool)
  | [] => .nil
  | n :: ns => .cons (.bl n) (dnAll_bools ns)
theorem LB.strs {H0 H : Hp} {o : Addr} {ns : List Str} (h : LB H0 H o (ns.map PyData.str)) : H o = some (.lst (ns.map V.str)) := by
  obtain ⟨h0, xs, h1, h2⟩ := h
  have e := dpAll_strs (K := []) h2.dp
  rw [e] at h1
  exact h1
theorem LB.bools {H0 H : Hp} {o : Addr} {ns : List Bool} (h : LB H0 H o (ns.map PyData.bool)) : H o = some (.lst (ns.map V.bl)) := by
  obtain ⟨h0, xs, h1, h2⟩ := h
  have e := dpAll_bools (K := []) h2.dp
  rw [e] at h1
  exact h1
theorem flat_strs (ns : List Str) : (ns.map V.str).all flatV = true := by
  rw [List.all_eq_true]
  intro x hx
  obtain ⟨n, _, rfl⟩ := List.mem_map.mp hx
  rfl
theorem eqV_str (a b : Str) : eqV (.str a) (.str b) = decide (a = b) := by
  show (a == b) = _
  by_cases h : a = b <;> simp [h]
theorem inV_strs (k : Str) : ∀ ns : List Str, inV (.str k) (ns.map V.str) = decide (k ∈ ns)
  | [] => rfl
  | n :: ns => by
    have ih := inV_strs k ns
    unfold inV at ih ⊢
    rw [List.map_cons, List.any_cons, ih, eqV_str]
    by_cases h : n = k
    · simp [h]
    · by_cases h2 : k ∈ ns
      · simp [h2]
      · simp [h, h2]
        exact fun z => h z.symm
/-- the first place of a text in a list of texts -/
theorem rIndex_strs {K : PySem.W.Frag} {H : Hp} {Q : VK} {a : Addr} {ts : List Str} {x : Str} (hs : SqL K H a (ts.map V.str)) (hx : x ∈ ts) (q : Q (.int (pl x ts : Nat)) H) : rIndex K (.ref a) [.str x] H Q := by
  refine ⟨a, _, .str x, pl x ts, .str x, rfl, rfl, hs, rfl, flat_strs ts, ?_, by rw [eqV_str]; exact decide_eq_true rfl, fun m z' hm hz => ?_, q⟩
  · rw [List.getElem?_map, pl_get hx]
    rfl
  · obtain ⟨z, hz', rfl⟩ := map_get hz
    rw [eqV_str]
    exact decide_eq_false (pl_ahead hm hz')
/-- pairs of new data -/
theorem newV_pair {H H' : Hp} {v : V} {d e : PyData} (h : NewV H H' v (.tuple [d, e])) : ∃ p x y, v = .ref p ∧ H p = none ∧ H' p = some (.tup [x, y]) ∧ NewV H H' x d ∧ NewV H H' y e := by
  cases h with
  | tup h a =>
    cases a with
    | cons a1 a =>
      cases a with
      | cons a2 a =>
        cases a
        exact ⟨_, _, _, rfl, (fr_some h).1, (fr_some h).2, a1, a2⟩
section
variable {X : Cx}
theorem inDK (K : PySem.W.Frag) (hu : X.A.units + 65 < cLine) (h : X.K = K := by rfl) : OpR X (compareOp .In) (rInD K) := by subst h; exact op_inD hu
theorem notInDK (K : PySem.W.Frag) (hu : X.A.units + 65 < cLine) (h : X.K = K := by rfl) : OpR X (compareOp .NotIn) (rNotInD K) := by subst h; exact op_notInD hu
theorem indexDK (K : PySem.W.Frag) (hu : X.A.units + 65 < cLine) (h : X.K = K := by rfl) : MtR X "list.index" (rIndexD K) := by subst h; exact mt_indexD hu
end
theorem hu65 {k : Nat} {A : Around} (r : Room k A) : A.units + 65 < cLine := by have := r.un; omega
theorem upTo_pre {i n : Nat} (h : i ≤ n) : ∃ r, upTo n = upTo i ++ r := by
  obtain ⟨m, rfl⟩ : ∃ m, n = i + m := ⟨n - i, by omega⟩
  clear h
  induction m with
  | zero => exact ⟨[], by simp⟩
  | succ m ih =>
    obtain ⟨r, e⟩ := ih
    exact ⟨r ++ [((i + m : Nat) : Int)], by rw [← Nat.add_assoc, upTo_succ, e, List.append_assoc]⟩
theorem kinds_pre {i n : Nat} (SS : List (List (Int × Int))) (h : i ≤ n) : ∃ r, kinds n SS = uniq ((upTo i).map (kindOf SS)) ++ r := by
  obtain ⟨r, e⟩ := upTo_pre h
  unfold kinds
  rw [e, List.map_append]
  exact uniq_pre _ _
end Sg
namespace Sg
open PySem PySem.Spec PyProof.Rows L2
theorem list_fm {α : Type} (l : List α) (g : α → Option PyData) : (List.range l.length).filterMap (fun (i : Nat) => (l[i]?).bind g) = l.filterMap g := by
  have h : ∀ m, m ≤ l.length → (List.range m).filterMap (fun (i : Nat) => (l[i]?).bind g) = (l.take m).filterMap g := by
    intro m
    induction m with
    | zero => intro _; rfl
    | succ m ih =>
      intro hm
      have hlt : m < l.length := hm
      have e : l[m]? = some l[m] := List.getElem?_eq_getElem hlt
      rw [List.range_succ, List.filterMap_append, ih (Nat.le_of_succ_le hm), List.take_add_one, e, List.filterMap_append]
      congr 1
      rw [List.filterMap_cons, e, Option.bind_some]
      cases h : g l[m] <;> simp [h]
  rw [h _ (Nat.le_refl _), List.take_length]
end Sg
/-! Signsets: texts of 0 and 1; comprehensions whose items need not be new. -/
namespace Sg
open PySem PySem.Spec PyProof.Rows L2
def bitN (b : Bool) : Nat := if b then 49 else 48
theorem bitN_inj {a b : Bool} (h : bitN a = bitN b) : a = b := by
  cases a <;> cases b <;> first | rfl | (exact absurd h (by decide))
/-- a text of 0 and 1 -/
def kt (b : List Bool) : Str := SX.S (b.map bitN)
theorem kt_inj {a b : List Bool} (h : kt a = kt b) : a = b := by
  have e := SX.S_inj h
  clear h
  induction a generalizing b with
  | nil => cases b with
    | nil => rfl
    | cons y b => cases e
  | cons x a ih => cases b with
    | nil => cases e
    | cons y b =>
      rw [List.map_cons, List.map_cons] at e
      injection e with e1 e2
      rw [bitN_inj e1, ih e2]
theorem kt_len (b : List Bool) : (kt b).length = b.length := by
  unfold kt
  rw [SX.S_len, List.length_map]
theorem joinL_nil : ∀ l : List (List Nat), TL.joinL [] l = l.flatten
  | [] => rfl
  | [p] => by simp [TL.joinL]
  | p :: q :: r => by
    show p ++ ([] ++ TL.joinL [] (q :: r)) = _
    rw [joinL_nil (q :: r)]
    simp
theorem kt_join (b : List Bool) : Txt.join (Str.ofString "") (b.map fun x => SX.S [bitN x]) = kt b := by
  have e : (b.map fun x => SX.S [bitN x]) = (b.map fun x => [bitN x]).map SX.S := by rw [List.map_map]; rfl
  have e0 : Str.ofString "" = SX.S [] := by decide +kernel
  rw [e, e0, SX.join_S, joinL_nil]
  unfold kt
  congr 1
  clear e
  induction b with
  | nil => rfl
  | cons x b ih =>
    rw [List.map_cons, List.flatten_cons, ih]
    rfl
theorem kt_sum (b : List Bool) : ((b.map fun x => SX.S [bitN x]).map (·.length)).sum = b.length := by
  induction b with
  | nil => rfl
  | cons x b ih =>
    rw [List.map_cons, List.map_cons, List.sum_cons, ih, SX.S_len]
    simp
    omega
theorem kt_at {b : List Bool} {i : Nat} {x : Bool} (h : b[i]? = some x) : atI (kt b).cps.toList (i : Int) = some (bitN x) := by
  refine atI_nat ?_
  show (b.map bitN)[i]? = _
  rw [List.getElem?_map, h]
  rfl
theorem one_eq (x : Bool) : decide (V.str ⟨#[bitN x]⟩ = V.str (Str.ofString "1")) = x := by
  cases x <;> decide +kernel
/-- a comprehension over a list whose items need not be new -/
theorem lcD_list {K : PySem.W.Frag} {a : Addr} {xs : List V} {g : TG} {tt : TT} {te : TE} {vs : List Nat} {σ : L2.St} {H1 : Hp} {D : Addr} {Qd : Hp → Prop} (f : Nat → Option PyData) (hS : SqL K H1 a xs) (hD : H1 D = none) (hn : xs.length ≤ 1000000)
    (hs : ∀ (i : Nat) (x : V) (H : Hp) (N1 : V → Hp → Prop) (N0 : Hp → Prop), xs[i]? = some x → Same H1 H → (∃ acc, H D = some (.lst acc)) → (∀ y H4 e, Same H H4 → f i = some e → Dp K (del H4 D) y e → N1 y H4) → (∀ H3, Same H H3 → f i = none → N0 H3) →
      g x (wipe σ vs) H fun σ2 H2 => wipe σ2 vs = wipe σ vs ∧ tt σ2 H2 fun b H3 => if b = true then te σ2 H3 N1 else N0 H3)
    (hd : ∀ H ys, Same H1 H → H D = some (.lst ys) → DpAll K (del H D) ys ((List.range xs.length).filterMap f) → Qd H) :
    ∃ W : Nat → Nat → Hp → Prop, (∃ m, W 0 m (upd H1 D (.lst []))) ∧ ∀ i m H, W i m H →
      ((Itl K a).stop i H ∧ Qd H) ∨ ((Itl K a).go i H ∧ ∃ Nx : Hp → Prop, (∀ H', Nx H' → ∃ m', m' < m ∧ W (i + 1) m' H') ∧ ∀ x H', (Itl K a).yld i H x H' → g x (wipe σ vs) H' fun σ2 H2 => wipe σ2 vs = wipe σ vs ∧ tt σ2 H2 fun b H3 =>
        if b = true then te σ2 H3 fun y H4 => ∃ acc, H4 D = some (.lst acc) ∧ acc.length < sizeLine ∧ Nx (upd H4 D (.lst (acc ++ [y]))) else Nx H3) := by
  refine lc_list (xs := xs) (fun i H => Same H1 H ∧ ∃ ys, H D = some (.lst ys) ∧ DpAll K (del H D) ys ((List.range i).filterMap f)) ⟨same_new hD, [], upd_same, .nil⟩ (fun i H _ q => q.1.seq hS) (fun i x H hx q => ?_) fun H q => ?_
  · obtain ⟨sm, ys, hy, ha⟩ := q
    have hi : i < xs.length := (List.getElem?_eq_some_iff.mp hx).1
    have hl : ys.length ≤ i := by
      rw [dpAll_len ha]
      exact Nat.le_trans (List.length_filterMap_le _ _) (by rw [List.length_range]; exact Nat.le_refl _)
    refine hs i x H _ _ hx sm ⟨_, hy⟩ (fun y H4 e s fe dy => ⟨ys, s _ _ hy, sizeOk (by omega), same_upd (sm.trans s) hD, ys ++ [y], upd_same, ?_⟩) (fun H3 s fe => ⟨sm.trans s, ys, s _ _ hy, ?_⟩)
    · rw [filterMap_succ fe, del_upd_self]
      exact dpAll_app (same_dpAll (del_mono s) ha) (.cons dy .nil)
    · rw [filterMap_succ0 fe]
      exact same_dpAll (del_mono s) ha
  · obtain ⟨sm, ys, hy, ha⟩ := q
    exact hd H ys sm hy ha
section
variable {X : Cx} {T : String} {name : Str} {id : String} {r : V → List V → Hp → VK → Prop} {o e : Expr} {es : List Expr} {to te : TE} {t : TA} {apos cpos : Pos}
theorem pe_bmK (K : PySem.W.Frag) (pa : PlainAttrs T) (slot : Slot T name id) (hty : typeOf (.builtin id) = pure (.type "method_descriptor")) (hm : MtR X id r) (ho : PE X o to) (ha : PA X (e :: es) t) (h : X.K = K := by rfl)
    (hbase : attributeBase o name X.env (eval o X.env) = eval o X.env := by rfl)
    (hfew : ((backTo cpos (starEach (e :: es) X.env)).all (fun x => !x.1) && (backToKw cpos (keywordEach [] X.env)).all (fun x => x.1.isSome) && decide ((e :: es).length + ([] : List Keyword).length + (if ([] : List Keyword).isEmpty then 0 else 1) < 30)) = true := by rfl)
    (hline : (apos.endLine == cpos.line) = true := by rfl) (hs : starEach (e :: es) X.env = (false, eval e X.env) :: starEach es X.env := by rfl) (hplain : (backTo cpos (starEach es X.env)).any (·.1) = false := by rfl) :
    PE X (.Call (.Attribute o name apos) (e :: es) [] cpos) (tBM K T r to t) := by
  subst h
  exact pe_bm pa slot hty hm ho ha hbase hfew hline hs hplain
end
theorem same_del {G H : Hp} {d : Addr} (s : Same G H) (n : G d = none) : Same G (del H d) := fun b o e => by
  rw [del_ne (ne_of_none e n)]
  exact s _ _ e
end Sg
/-! Signsets: rules for tables: a sign many times, ranges by steps, stretches of a text. -/
namespace Sg
open PySem PySem.Spec PyProof.Rows L2
theorem fold_rep (c : Nat) : ∀ (k : Nat) (b : Array Nat), ((List.replicate k (#[c] : Array Nat)).foldl (· ++ ·) b).toList = b.toList ++ List.replicate k c
  | 0, b => by simp
  | k + 1, b => by
    rw [List.replicate_succ, List.foldl_cons, fold_rep c k, List.replicate_succ, Array.toList_append]
    simp
/-- a text of one sign, k times -/
def rRepS : R2 := fun x y H Q => ∃ c k : Nat, x = .str (SX.S [c]) ∧ y = .int (k : Int) ∧ 1 ≤ k ∧ k ≤ 1000 ∧ Q (.str (SX.S (List.replicate k c))) H
theorem op_rep_str {X : Cx} : OpR X (binaryOp .Mult) rRepS := by
  intro pins s σ H x y v u Q I rx ry h
  obtain ⟨c, k, rfl, rfl, h1, h2, q⟩ := h
  obtain ⟨t, rfl⟩ := rx
  obtain ⟨t', rfl⟩ := ry
  have hl : (SX.S [c]).length = 1 := SX.S_len [c]
  refine PySem.P.mul_str ?_ ?_ ?_ ?_
  · rw [decide_eq_false (show ¬ (k : Int) < -(2 ^ 63 : Int) by omega), decide_eq_false (show ¬ (k : Int) ≥ 2 ^ 63 by omega)]
    rfl
  · intro _ _
    rw [hl]
    have : (1 : Int) ≤ (2 ^ 63 - 1) / (k : Int) := Int.le_ediv_of_mul_le (by omega) (by omega)
    omega
  · intro _ _
    unfold Builtin.Str.tooLong
    rw [hl, Int.toNat_natCast, Nat.one_mul]
    exact decide_eq_false (by have := sizeOk (n := k) (by omega); omega)
  · rw [if_neg (by omega)]
    by_cases e : k = 1
    · subst e
      rw [if_pos (by simp)]
      exact ⟨.str _, H, I, ⟨_, rfl⟩, q⟩
    · rw [if_neg (by rw [hl]; simp; omega)]
      have ez : (⟨(List.replicate (k : Int).toNat (SX.S [c]).cps).foldl (· ++ ·) #[]⟩ : Str) = SX.S (List.replicate k c) := by
        refine TL.ext_tl ?_
        show ((List.replicate (k : Int).toNat (#[c] : Array Nat)).foldl (· ++ ·) #[]).toList = List.replicate k c
        rw [Int.toNat_natCast, fold_rep]
        rfl
      rw [ez]
      exact ⟨by rw [SX.S_len, List.length_replicate]; exact Nat.le_of_lt (sizeOk (by omega)), ⟨.str _, H, I.tok _, ⟨_, rfl⟩, q⟩⟩
theorem rgC_up {n w : Nat} (hw : 1 ≤ w) (hw2 : w ≤ 1000) (hn : n ≤ 1000) : RgC 0 (n : Int) (w : Int) (cnt n w) := by
  have e : Builtin.Range.rangeSize 0 (n : Int) (w : Int) = ((cnt n w : Nat) : Int) := by
    rw [rangeSize_pos (by omega) (by omega)]
    unfold cnt
    rw [Int.natCast_ediv]
    congr 1
    omega
  have hc := cnt_le (n := n) hw
  refine ⟨by omega, by omega, ?_, e⟩
  unfold Builtin.Range.small
  rw [e]
  simp only [Builtin.Range.rangeFitsLong, Bool.and_eq_true, Bool.or_eq_true, decide_eq_true_eq, beq_iff_eq]
  rw [if_pos (by omega)]
  simp only [Bool.and_eq_true, decide_eq_true_eq]
  omega
/-- a comprehension over a range by steps, of new data -/
theorem lcN_rangeC {lo c : Int} {n : Nat} {g : TG} {tt : TT} {te : TE} {vs : List Nat} {σ : L2.St} {H1 : Hp} {D : Addr} {Qd : Hp → Prop} (f : Nat → Option PyData) (hD : H1 D = none) (hn : n ≤ 1000000)
    (hs : ∀ (i : Nat) (H : Hp) (N1 : V → Hp → Prop) (N0 : Hp → Prop), i < n → Same H1 H → (∀ y H4 e, Same H H4 → f i = some e → NewV H H4 y e → N1 y H4) → (∀ H3, Same H H3 → f i = none → N0 H3) →
      g (.int (lo + (i : Nat) * c)) (wipe σ vs) H fun σ2 H2 => wipe σ2 vs = wipe σ vs ∧ tt σ2 H2 fun b H3 => if b = true then te σ2 H3 N1 else N0 H3)
    (hd : ∀ H, Same H1 H → LB H1 H D ((List.range n).filterMap f) → Qd H) :
    ∃ W : Nat → Nat → Hp → Prop, (∃ m, W 0 m (upd H1 D (.lst []))) ∧ ∀ i m H, W i m H →
      ((Itc lo c n).stop i H ∧ Qd H) ∨ ((Itc lo c n).go i H ∧ ∃ Nx : Hp → Prop, (∀ H', Nx H' → ∃ m', m' < m ∧ W (i + 1) m' H') ∧ ∀ x H', (Itc lo c n).yld i H x H' → g x (wipe σ vs) H' fun σ2 H2 => wipe σ2 vs = wipe σ vs ∧ tt σ2 H2 fun b H3 =>
        if b = true then te σ2 H3 fun y H4 => ∃ acc, H4 D = some (.lst acc) ∧ acc.length < sizeLine ∧ Nx (upd H4 D (.lst (acc ++ [y]))) else Nx H3) := by
  refine ⟨fun i m H => m = n - i ∧ i ≤ n ∧ (Same H1 H ∧ LB H1 H D ((List.range i).filterMap f)), ⟨n, by simp, Nat.zero_le _, same_new hD, LB.nil hD⟩, fun i m H hW => ?_⟩
  obtain ⟨rfl, hi, sm, lb⟩ := hW
  by_cases h : i < n
  · obtain ⟨k1, k0⟩ := lcN_step hn h sm lb
    refine .inr ⟨h, fun H' => Same H1 H' ∧ LB H1 H' D ((List.range (i + 1)).filterMap f), fun H' p => ⟨n - (i + 1), by omega, rfl, h, p⟩, fun x H' y => ?_⟩
    obtain ⟨rfl, rfl⟩ := y
    exact hs i _ _ _ h sm k1 k0
  · have e : i = n := by omega
    subst e
    exact .inl ⟨Nat.le_refl _, hd H sm lb⟩
/-! ### stretches -/
theorem kt_one (a : List Bool) : kt a ++ Str.ofString "1" = kt (a ++ [true]) := by
  have e : Str.ofString "1" = SX.S [49] := by decide +kernel
  unfold kt
  rw [e, SX.S_cat, List.map_append]
  rfl
theorem kt_zero (a : List Bool) : kt a ++ Str.ofString "0" = kt (a ++ [false]) := by
  have e : Str.ofString "0" = SX.S [48] := by decide +kernel
  unfold kt
  rw [e, SX.S_cat, List.map_append]
  rfl
theorem kt_rep (a : List Bool) (k : Nat) : kt a ++ SX.S (List.replicate k 48) = kt (a ++ List.replicate k false) := by
  unfold kt
  rw [SX.S_cat, List.map_append, List.map_replicate]
  rfl
theorem cutS_kt {b : List Bool} {f w : Nat} (h : f + w ≤ b.length) : cutS (kt b) (some (f : Int)) (some ((f : Int) + (w : Int))) = kt ((b.drop f).take w) := by
  have e : ((f : Int) + (w : Int)) = ((f + w : Nat) : Int) := by omega
  unfold cutS
  rw [e, HT.sIx_nat, HT.sIx_nat, kt_len, Nat.min_eq_left h, Nat.min_eq_left (show f ≤ b.length by omega)]
  show SX.S (((b.map bitN).drop f).take (f + w - f)) = SX.S (((b.drop f).take w).map bitN)
  rw [List.map_take, List.map_drop, show f + w - f = w by omega]
theorem stretch {n : Nat} {R : List (Int × Int)} {f w : Nat} (hf : f < n) : ((((List.range n).map fun (k : Nat) => has R (k : Int)) ++ List.replicate w false).drop f).take w = rowP n R f w := by
  refine List.ext_getElem? fun j => ?_
  by_cases hj : j < w
  · rw [rowP_get hj, List.getElem?_take_of_lt hj, List.getElem?_drop]
    unfold bitT
    by_cases h : f + j < n
    · rw [List.getElem?_append_left (by rw [List.length_map, List.length_range]; exact h), List.getElem?_map, List.getElem?_range h, decide_eq_true h]
      rfl
    · rw [List.getElem?_append_right (by rw [List.length_map, List.length_range]; omega), List.length_map, List.length_range, List.getElem?_replicate, if_pos (by omega), decide_eq_false h]
      rfl
  · rw [List.getElem?_eq_none (by rw [List.length_take]; omega), List.getElem?_eq_none (by rw [rowP_len]; omega)]
theorem mem_kt {r : List Bool} {L : List (List Bool)} : kt r ∈ L.map kt ↔ r ∈ L := by
  rw [List.mem_map]
  exact ⟨fun ⟨a, ha, e⟩ => kt_inj e ▸ ha, fun h => ⟨r, h, rfl⟩⟩
theorem dec_kt (r : List Bool) (L : List (List Bool)) : decide (kt r ∈ L.map kt) = decide (r ∈ L) := by
  by_cases h : r ∈ L
  · rw [decide_eq_true h, decide_eq_true (mem_kt.mpr h)]
  · rw [decide_eq_false h, decide_eq_false fun z => h (mem_kt.mp z)]
theorem sb_upd {d o : Addr} {G G' : Hp} {x : HO} (h : SameBut d G G') (n : G o = none) : SameBut d G (upd G' o x) := fun b u nb e => by
  rw [upd_ne (ne_of_none e n)]
  exact h b u nb e
theorem sb_upd_d {d : Addr} {G G' : Hp} {x : HO} (h : SameBut d G G') : SameBut d G (upd G' d x) := fun b u nb e => by
  rw [upd_ne nb]
  exact h b u nb e
/-- a table, as data -/
def eTab (n w : Nat) (SS : List (List (Int × Int))) : PyData := .tuple [eIs (firstsT n w SS), eT ((rowsT n w SS).map kt)]
theorem al_tab {n w : Nat} {SS : List (List (Int × Int))} (hw : 1 ≤ w) (hn : n ≤ 64) (hS : SS.length ≤ 1000) : Al 5 (eTab n w SS) := by
  have hc := cnt_le (n := n) hw
  have hm : SS.length * cnt n w ≤ 1000 * 64 := Nat.mul_le_mul hS (by omega)
  refine ⟨by show 2 ≤ 100000; decide, fun d hd => ?_⟩
  simp only [List.mem_cons, List.not_mem_nil, or_false] at hd
  rcases hd with rfl | rfl
  · refine Al.eIs (by unfold firstsT; rw [List.length_map]; omega) fun l hl => ?_
    obtain ⟨R, _, rfl⟩ := List.mem_map.mp hl
    rw [List.length_map, rowsR_len]
    omega
  · refine ⟨by rw [List.length_map, List.length_map]; exact Nat.le_trans (rowsT_len n w SS) (by omega), fun d hd => ?_⟩
    obtain ⟨r, _, rfl⟩ := List.mem_map.mp hd
    exact Al.str r
theorem cast_div (k w : Nat) : (k : Int) / (w : Int) = ((k / w : Nat) : Int) := (Int.natCast_ediv k w).symm
theorem cast_mod (k w : Nat) : (k : Int) % (w : Int) = ((k % w : Nat) : Int) := (Int.natCast_emod k w).symm
end Sg
/-! Signsets: the least of some data, and data compared. -/
namespace Sg
open PySem PySem.Spec PyProof.Rows L2
theorem vals_at : ∀ {xs : List V} {us : List Value} {i : Nat} {u : Value}, Vals xs us → us[i]? = some u → ∃ x, xs[i]? = some x ∧ RelV x u := fun {xs us i u} r h => by
  have hl := r.length
  have hi : i < xs.length := by
    have := (List.getElem?_eq_some_iff.mp h).1
    omega
  obtain ⟨u', h1, h2⟩ := r.get (List.getElem?_eq_getElem hi)
  rw [h] at h1
  obtain rfl := Option.some.inj h1
  exact ⟨_, List.getElem?_eq_getElem hi, h2⟩
/-- min(xs), items alike -/
def rMinD (K : PySem.W.Frag) : List V → Hp → VK → Prop := fun vs H Q => ∃ (a : Addr) (xs : List V) (x : PyData) (ds : List PyData), vs = [.ref a] ∧ SqL K H a xs ∧ DpAll K H xs (x :: ds) ∧ PySem.W.AlikeAll (x :: ds) ∧ PyData.canLayAll0 (x :: ds) = true ∧ PyData.depthAll (x :: ds) ≤ 60 ∧
  ∀ (i : Nat) (y : V), xs[i]? = some y → (x :: ds)[i]? = some (PySem.W.minD x ds) → Q y H
theorem minDK {X : Cx} (K : PySem.W.Frag) (hc : X.calm = true) (hu : X.A.units + 65 < cLine) (h : X.K = K := by rfl) : CallR X (.builtin "min") (rMinD K) := by
  subst h
  intro pins s σ H vs us Q I r h
  obtain ⟨a, xs, x, ds, rfl, hs, hA, hal, hcl, hdp, q⟩ := h
  obtain ⟨its, rv, hl, hz⟩ := I.list hs
  rw [Vals.ref1 r]
  obtain ⟨as, h4⟩ := Dp.readsAll I (x :: ds) _ its hA rv
  refine PySem.W.min_list_data (vs := its.toArray) (I.ok.hd hc) hl.isList h4 hal (by omega) fun i v h' tk bs hv hr hk => ?_
  have hv' : its[i]? = some v := by simpa using hv
  obtain ⟨y, hy, ry⟩ := vals_at rv hv'
  obtain ⟨d, hd, hdy⟩ := dpAll_get hA hy
  obtain ⟨bs', r'⟩ := Dp.reads I d y v hdy ry
  have hm : ∀ z ∈ (x :: ds), z.canLay0 = true := fun z hz => by
    have : ∀ (l : List PyData), PyData.canLayAll0 l = true → ∀ z ∈ l, z.canLay0 = true := by
      intro l
      induction l with
      | nil => intro _ z hz; simp at hz
      | cons w l ih =>
        intro h z hz
        rw [PyData.canLayAll0, Bool.and_eq_true] at h
        rcases List.mem_cons.mp hz with rfl | hz
        · exact h.1
        · exact ih h.2 z hz
    exact this _ hcl z hz
  have e1 := SeqAt.readOf_eq (hm d (List.mem_of_getElem? hd)) (Reads.keeps hk r')
  have hmin : PySem.W.minD x ds ∈ (x :: ds) := by
    have : ∀ (l : List PyData) (z : PyData), PySem.W.minD z l ∈ (z :: l) := by
      intro l
      induction l with
      | nil => intro z; exact List.mem_singleton.mpr rfl
      | cons w l ih =>
        intro z
        show PySem.W.minD (if PySem.W.dataLt w z then w else z) l ∈ _
        have := ih (if PySem.W.dataLt w z then w else z)
        rcases List.mem_cons.mp this with e | e
        · rw [e]
          split <;> simp
        · simp [e]
    exact this ds x
  have e2 := SeqAt.readOf_eq (hm _ hmin) hr
  rw [e1] at e2
  exact ⟨y, H, I.kept hk, ry, q i y hy (by rw [hd, e2])⟩
/-- d <= e, d < e, alike -/
def rLeD (K : PySem.W.Frag) : R2 := fun x y H Q => ∃ d e, Dp K H x d ∧ Dp K H y e ∧ PySem.W.alike d e = true ∧ d ≠ .none ∧ d.depth ≤ 60 ∧ Q (.bl (!PySem.W.dataLt e d)) H
def rLtD (K : PySem.W.Frag) : R2 := fun x y H Q => ∃ d e, Dp K H x d ∧ Dp K H y e ∧ PySem.W.alike d e = true ∧ d ≠ .none ∧ d.depth ≤ 60 ∧ Q (.bl (PySem.W.dataLt d e)) H
theorem leDK {X : Cx} (K : PySem.W.Frag) (hu : X.A.units + 65 < cLine) (h : X.K = K := by rfl) : OpR X (compareOp .LtE) (rLeD K) := by
  subst h
  intro pins s σ H x y v u Q I rx ry h
  obtain ⟨d, e, hd, he, ha, hn, hp, q⟩ := h
  obtain ⟨as, r1⟩ := Dp.reads I d x v hd rx
  obtain ⟨bs, r2⟩ := Dp.reads I e y u he ry
  exact PySem.W.le_data r1 r2 ha hn (by have := Nat.min_le_left d.depth e.depth; omega) ⟨.bl _, H, I, rfl, q⟩
theorem ltDK {X : Cx} (K : PySem.W.Frag) (hu : X.A.units + 65 < cLine) (h : X.K = K := by rfl) : OpR X (compareOp .Lt) (rLtD K) := by
  subst h
  intro pins s σ H x y v u Q I rx ry h
  obtain ⟨d, e, hd, he, ha, hn, hp, q⟩ := h
  obtain ⟨as, r1⟩ := Dp.reads I d x v hd rx
  obtain ⟨bs, r2⟩ := Dp.reads I e y u he ry
  exact PySem.W.lt_data r1 r2 ha hn (by have := Nat.min_le_left d.depth e.depth; omega) ⟨.bl _, H, I, rfl, q⟩
/-! ### the least of some pairs of ints -/
def ltP (a b : Int × Int) : Prop := a.1 < b.1 ∨ (a.1 = b.1 ∧ a.2 < b.2)
instance (a b : Int × Int) : Decidable (ltP a b) := by unfold ltP; exact inferInstance
def minP (x : Int × Int) (xs : List (Int × Int)) : Int × Int := xs.foldl (fun a y => if ltP y a then y else a) x
theorem minD_eP : ∀ (xs : List (Int × Int)) (x : Int × Int), PySem.W.minD (eP x) (xs.map eP) = eP (minP x xs)
  | [], x => rfl
  | y :: xs, x => by
    show PySem.W.minD (if PySem.W.dataLt (eP y) (eP x) then eP y else eP x) (xs.map eP) = eP (minP (if ltP y x then y else x) xs)
    have e : PySem.W.dataLt (eP y) (eP x) = decide (ltP y x) := by
      unfold eP
      rw [PySem.W.dataLt_ii]
      unfold ltP
      rfl
    rw [e]
    by_cases c : ltP y x
    · rw [if_pos (decide_eq_true c), if_pos c]
      exact minD_eP xs y
    · rw [if_neg (by simpa using c), if_neg c]
      exact minD_eP xs x
theorem minP_mem : ∀ (xs : List (Int × Int)) (x : Int × Int), minP x xs ∈ x :: xs
  | [], x => List.mem_singleton.mpr rfl
  | y :: xs, x => by
    show minP (if ltP y x then y else x) xs ∈ _
    rcases List.mem_cons.mp (minP_mem xs (if ltP y x then y else x)) with e | e
    · rw [e]
      split <;> simp
    · simp [e]
theorem minP_le : ∀ (xs : List (Int × Int)) (x : Int × Int), ∀ z ∈ x :: xs, (minP x xs).1 ≤ z.1
  | [], x, z, hz => by
    obtain rfl := List.mem_singleton.mp hz
    exact Int.le_refl _
  | y :: xs, x, z, hz => by
    show (minP (if ltP y x then y else x) xs).1 ≤ z.1
    have ih := minP_le xs (if ltP y x then y else x)
    have h0 := ih _ (List.mem_cons_self ..)
    have hx : (if ltP y x then y else x).1 ≤ x.1 ∧ (if ltP y x then y else x).1 ≤ y.1 := by
      by_cases c : ltP y x
      · rw [if_pos c]
        unfold ltP at c
        omega
      · rw [if_neg c]
        unfold ltP at c
        omega
    rcases List.mem_cons.mp hz with rfl | hz
    · omega
    · rcases List.mem_cons.mp hz with rfl | hz
      · omega
      · exact ih z (List.mem_cons_of_mem _ hz)
theorem alike_eP (l : List (Int × Int)) : PySem.W.AlikeAll (l.map eP) := by
  refine ⟨fun x hx y hy => ?_, fun x hx => ?_⟩
  · obtain ⟨a, _, rfl⟩ := List.mem_map.mp hx
    obtain ⟨b, _, rfl⟩ := List.mem_map.mp hy
    simp [eP, PySem.W.alike, PySem.W.alikeAll]
  · obtain ⟨a, _, rfl⟩ := List.mem_map.mp hx
    intro z
    cases z
theorem sh_pairs (l : List (Int × Int)) : PyData.canLayAll0 (l.map eP) = true ∧ PyData.depthAll (l.map eP) ≤ 60 := by
  refine ⟨can_all fun d hd => ?_, depth_all fun d hd => ?_⟩
  · obtain ⟨a, _, rfl⟩ := List.mem_map.mp hd
    exact (Sh.eP (n := 0) a).1
  · obtain ⟨a, _, rfl⟩ := List.mem_map.mp hd
    exact Nat.le_trans (Sh.eP (n := 0) a).2 (by decide)
/-- the list of pairs (cells, width) -/
def pairsT (n : Nat) (SS : List (List (Int × Int))) : List (Int × Int) := (List.range n).map fun i => (((cells n (i + 1) SS : Nat) : Int), ((i : Int) + 1))
theorem pairs_cons {n : Nat} (hn : 1 ≤ n) (SS : List (List (Int × Int))) : ∃ x xs, pairsT n SS = x :: xs := by
  cases h : pairsT n SS with
  | nil =>
    have : (pairsT n SS).length = n := by unfold pairsT; rw [List.length_map, List.length_range]
    rw [h] at this
    simp at this
    omega
  | cons x xs => exact ⟨x, xs, rfl⟩
def leastP (n : Nat) (SS : List (List (Int × Int))) : Int × Int := match pairsT n SS with
  | [] => (0, 0)
  | x :: xs => minP x xs
theorem leastP_mem {n : Nat} (hn : 1 ≤ n) (SS : List (List (Int × Int))) : ∃ w : Nat, 1 ≤ w ∧ w ≤ n ∧ leastP n SS = (((cells n w SS : Nat) : Int), (w : Int)) := by
  obtain ⟨x, xs, e⟩ := pairs_cons hn SS
  have hm : leastP n SS ∈ pairsT n SS := by
    unfold leastP
    rw [e]
    exact minP_mem xs x
  obtain ⟨i, hi, h⟩ := List.mem_map.mp hm
  refine ⟨i + 1, by omega, by have := List.mem_range.mp hi; omega, ?_⟩
  rw [← h]
  rfl
theorem leastP_le {n : Nat} (SS : List (List (Int × Int))) {w : Nat} (h1 : 1 ≤ w) (h2 : w ≤ n) : (leastP n SS).1 ≤ ((cells n w SS : Nat) : Int) := by
  obtain ⟨x, xs, e⟩ := pairs_cons (n := n) (by omega) SS
  have hm : (((cells n w SS : Nat) : Int), (w : Int)) ∈ pairsT n SS := by
    refine List.mem_map.mpr ⟨w - 1, List.mem_range.mpr (by omega), ?_⟩
    rw [show w - 1 + 1 = w by omega]
    congr 1
    omega
  unfold leastP
  rw [e] at hm ⊢
  exact minP_le xs x _ hm
/-- sums -/
theorem sum_const {α : Type} (l : List α) (f : α → Int) (c : Nat) (h : ∀ x ∈ l, f x = (c : Int)) : (l.map f).sum = ((l.length * c : Nat) : Int) := by
  induction l with
  | nil => simp
  | cons x l ih =>
    rw [List.map_cons, List.sum_cons, ih fun y hy => h y (List.mem_cons_of_mem _ hy), h x (by simp), List.length_cons, Nat.succ_mul]
    omega
theorem sum_firsts (n w : Nat) (SS : List (List (Int × Int))) : ((firstsT n w SS).map fun l => (l.length : Int)).sum = ((SS.length * cnt n w : Nat) : Int) := by
  rw [sum_const _ _ (cnt n w) fun l hl => ?_]
  · unfold firstsT
    rw [List.length_map]
  · obtain ⟨R, _, rfl⟩ := List.mem_map.mp hl
    rw [List.length_map, rowsR_len]
theorem sum_rows (n w : Nat) (SS : List (List (Int × Int))) : (((rowsT n w SS).map kt).map fun r => (r.length : Int)).sum = (((rowsT n w SS).length * w : Nat) : Int) := by
  rw [sum_const _ _ w fun r hr => ?_]
  · rw [List.length_map]
  · obtain ⟨b, hb, rfl⟩ := List.mem_map.mp hr
    rw [kt_len, rowsT_mem hb]
end Sg
/-! Signsets: list comprehensions over a base that has grown (objects that stand still for the while), and where an exception is handled. -/
namespace Sg
open PySem PySem.Spec PyProof.Rows L2
/-! ### walks, in contexts of which Z holds -/
structure TurnZ (Z : Cx → Prop) (P : Program) (w : World) (K : PySem.W.Frag) (tg : Expr) (J : It) (fp : List Addr) (it : Addr) (tn : Nat → Heap → Prop) : Prop where
  objs : ∀ k g, tn k g → ∀ b ∈ fp, ∃ o, g.get? b = some o ∧ ∀ v, o.data ≠ .cell v
  stays : ∀ k g g', tn k g → (∀ b ∈ fp, ∀ o, g.get? b = some o → g'.get? b = some o) → tn k g'
  one : ∀ (Y : Cx), Y.prog = P → Y.w = w → Y.K = K → Z Y → ∀ (k : Nat) (pl : List (Addr × Obj)) (z : Shared) (ρ : L2.St) (G : Hp) (E : Value → Shared → Prop),
    Inv Y pl ρ G z → (∀ b ∈ fp, FpOk Y pl G b) → tn k z.heap → J.go k G → wpAny (model P w) Y.A (pyNext (.ref it)) (fun r z1 => ∃ u, r = some u ∧
      wpAny (model P w) Y.A (letOwnedTupleGo tg (.ref it) u) (fun _ z2 => ∃ x G', Inv Y pl ρ G' z2 ∧ RelV x u ∧ J.yld k G x G' ∧ tn (k + 1) z2.heap ∧ ∀ b ∈ fp, G' b = none) E z1) E z
  none_ : ∀ (Y : Cx), Y.prog = P → Y.w = w → Y.K = K → Z Y → ∀ (k : Nat) (pl : List (Addr × Obj)) (z : Shared) (ρ : L2.St) (G : Hp) (E : Value → Shared → Prop),
    Inv Y pl ρ G z → (∀ b ∈ fp, FpOk Y pl G b) → tn k z.heap → J.stop k G → wpAny (model P w) Y.A (pyNext (.ref it)) (fun r z1 => r = none ∧ Inv Y pl ρ G z1) E z
  again : ∀ (A : Around) (k : Nat) (z : Shared) (Q E : Value → Shared → Prop), tn k z.heap → Q (.ref it) z → wpAny (model P w) A (pyIter (.ref it)) Q E z
def PIEZ (Z : Cx → Prop) (X : Cx) (pl : List (Addr × Obj)) (σ : L2.St) (tg : Expr) (R : It → Hp → Prop) (itv : Value) (s2 : Shared) : Prop :=
  ∃ (it : Addr) (fp : List Addr) (tn : Nat → Heap → Prop) (J : It) (H' : Hp), itv = .ref it ∧ Inv X pl σ H' s2 ∧ TurnZ Z X.prog X.w X.K tg J fp it tn ∧ tn 0 s2.heap ∧ (∀ b ∈ fp, FpOk X pl H' b) ∧ R J H'
structure PIZ (Z : Cx → Prop) (X : Cx) (tg iter : Expr) (wi : L2.TI) : Prop where
  walk : ∀ (pl : List (Addr × Obj)) (s : Shared) (σ : L2.St) (H : Hp) (R : It → Hp → Prop), Inv X pl σ H s → wi σ H R →
    wpAny (model X.prog X.w) X.A (eval iter X.env) (fun v s1 => wpAny (model X.prog X.w) X.A (pyIter v) (PIEZ Z X pl σ tg R) X.xe s1) X.xe s
abbrev Calm : Cx → Prop := fun Y => Y.calm = true
theorem piz_calm {X : Cx} {tg iter : Expr} {wi : L2.TI} (h : PI X tg iter wi) : PIZ Calm X tg iter wi := ⟨fun pl s σ H R I hw => thn (h.run pl s σ H R I hw) fun v s1 h1 => thn h1 fun itv s2 h2 => by
  obtain ⟨it, fp, tn, J, H', e, I', T, st, f, r⟩ := h2
  exact ⟨it, fp, tn, J, H', e, I', ⟨T.obj, T.keep, T.item, T.done, T.self⟩, st, f, r⟩⟩
theorem piz_hot {X : Cx} {tg iter : Expr} {wi : L2.TI} (h : L2H.PIH X tg iter wi) : PIZ L2H.HotC X tg iter wi := ⟨fun pl s σ H R I hw => thn (h.run pl s σ H R I hw) fun v s1 h1 => thn h1 fun itv s2 h2 => by
  obtain ⟨it, fp, tn, J, H', e, I', T, st, f, r⟩ := h2
  exact ⟨it, fp, tn, J, H', e, I', ⟨T.obj, T.keep, T.item, T.done, T.self⟩, st, f, r⟩⟩

/-! ### what is taken out of the abstract heap for a while -/
/-- G is H without some of its things told by a word of one's own -/
def Less (H G : Hp) : Prop := ∀ b, G b = H b ∨ (G b = none ∧ ∃ φ, H b = some (.ext φ))
theorem Less.refl (H : Hp) : Less H H := fun _ => .inl rfl
theorem Less.none {H G : Hp} (l : Less H G) {b : Addr} (h : H b = Option.none) : G b = Option.none := by
  rcases l b with e | ⟨e, _⟩
  · rw [e]
    exact h
  · exact e
theorem Less.up {H G : Hp} (l : Less H G) {b : Addr} {o : HO} (h : G b = some o) : H b = some o := by
  rcases l b with e | ⟨e, _⟩
  · rw [← e]
    exact h
  · rw [e] at h
    cases h
theorem Less.keep {H G : Hp} (l : Less H G) {b : Addr} {o : HO} (h : H b = some o) (ne : ∀ φ, o ≠ .ext φ) : G b = some o := by
  rcases l b with e | ⟨_, φ, e⟩
  · rw [e]
    exact h
  · rw [h] at e
    exact absurd (Option.some.inj e) (ne φ)
/-- whether it was taken out -/
def took (H G : Hp) (b : Addr) : Bool := (H b).isSome && (G b).isNone
theorem Less.took {H G : Hp} (l : Less H G) {b : Addr} (h : took H G b = true) : G b = Option.none ∧ ∃ φ, H b = some (.ext φ) := by
  unfold Sg.took at h
  simp only [Bool.and_eq_true, Option.isSome_iff_exists, Option.isNone_iff_eq_none] at h
  obtain ⟨⟨o, h1⟩, h2⟩ := h
  rcases l b with e | e
  · rw [h1, h2] at e
    cases e
  · exact e
theorem took_of {H G : Hp} {b : Addr} {o : HO} (h1 : H b = some o) (h2 : G b = none) : took H G b = true := by
  unfold Sg.took
  rw [h1, h2]
  rfl
/-- put back -/
def put (H G H5 : Hp) : Hp := fun b => if took H G b = true then H b else H5 b
theorem put_took {H G H5 : Hp} {b : Addr} (h : took H G b = true) : put H G H5 b = H b := by
  unfold put
  rw [if_pos h]
theorem put_else {H G H5 : Hp} {b : Addr} (h : took H G b = false) : put H G H5 b = H5 b := by
  unfold put
  rw [if_neg (by rw [h]; decide)]
theorem not_took {H G : Hp} {b : Addr} (h : H b = none) : took H G b = false := by
  unfold Sg.took
  rw [h]
  rfl
theorem put_refl (H H5 : Hp) : put H H H5 = H5 := by
  funext b
  refine put_else ?_
  unfold Sg.took
  cases H b <;> rfl

/-! ### the block's context, over a grown base -/
abbrev blkZ (X : Cx) (s : Shared) (H : Hp) (B : Heap) (scope : Scope) (ce : Env) (fp : List Addr) : Cx :=
  { X with base := B, s_0 := s, H_0 := H, env := ce, outer := X.stack, ex := fp, fn := fun x => scope.names.lookup x == some .cell, xe := fun _ _ => False }
theorem mod_grown {K : PySem.W.Frag} {mg : Str → Option Value} {g B : Heap} (m : Mod K mg g) (k : ∀ b o, g.get? b = some o → B.get? b = some o) : Mod K mg B :=
  ⟨m.kin.keeps k, m.glob.keeps k, let ⟨mb, h1, h2⟩ := m.blt; ⟨mb, h1.keeps k, h2⟩, m.nolimit.keeps k⟩
section
variable {X : Cx} {pl : List (Addr × Obj)} {σ τ : L2.St} {H G H5 : Hp} {s3 s4 s6 : Shared} {scope : Scope} {ce : Env} {fp : List Addr} {B : Heap}
/-- how the grown base lies to the state and the block -/
structure Grown (X : Cx) (H G : Hp) (s : Shared) (fp : List Addr) (B : Heap) : Prop where
  old : ∀ b o, X.base.get? b = some o → B.get? b = some o
  at_ : ∀ b o, B.get? b = some o → s.heap.get? b = some o ∧ G b = none ∧ b ∉ fp ∧ b ∉ frs X.stack
  size : B.objs.size ≤ s.heap.objs.size
  took : ∀ b o, took H G b = true → s.heap.get? b = some o → B.get? b = some o
theorem blk_in (I3 : Inv X pl σ H s3) (J : Inv (X.blk s3 H scope ce fp) [] τ H s4) (L : Less H G) (R : Grown X H G s3 fp B) (kp : ∀ b o, s3.heap.get? b = some o → s4.heap.get? b = some o) (hl : ce.locals = s3.heap.objs.size) :
    Inv (blkZ X s3 G B scope ce fp) [] τ G s4 := by
  refine ⟨⟨mod_grown I3.mod R.old, J.ok.kind, J.ok.glob, J.ok.blt, J.ok.above, J.ok.inj, J.ok.has, J.ok.cab, J.ok.hd, J.ok.frames, J.ok.stk, J.ok.exf, fun b o e => ⟨(R.at_ b o e).1, (R.at_ b o e).2.1⟩, R.size, fun b o e => (R.at_ b o e).2.2.1, J.ok.exfs,
      funFrames_none I3.stack fun b hb => ?_, fun b hb => L.none (I3.stkFree b hb)⟩,
    J.os, J.bare, Un.kept kp, J.loc, J.cell, L.none J.free, fun x c e => L.none (J.freeC x c e), fun p hp => ?_, fun b o e => ?_, J.len⟩
  · cases q : B.get? b with
    | none => rfl
    | some o => exact absurd hb (R.at_ b o q).2.2.2
  · have hp' : p ∈ X.pn := by
      have z : p ∈ X.pn ++ [] := hp
      rw [List.append_nil] at z
      exact z
    obtain ⟨a1, a2, a3, a4, a5⟩ := I3.pin p (List.mem_append_left _ hp')
    refine ⟨kp _ _ a1, L.none a2, ?_, fun z => ?_, a5⟩
    · show p.1 ≠ ce.locals
      rw [hl]
      exact Nat.ne_of_lt (Heap.lt_size a1)
    · rcases List.mem_cons.mp (I3.stkSub p.1 z) with y | y
      · exact a3 y
      · exact a4 y
  · refine (J.hok b o (L.up e)).stay (fun c v _ q => q) (fun c q => L.keep q fun φ z => by cases z) fun c xs q => L.keep q fun φ z => by cases z
theorem blk_out (I3 : Inv X pl σ H s3) (I6 : Inv (blkZ X s3 G B scope ce fp) [] τ H5 s6) (L : Less H G) (R : Grown X H G s3 fp B) (f3 : ∀ b ∈ fp, FpOk X pl H b) : Inv X pl σ (put H G H5) s6 := by
  have U := I6.base
  have free : ∀ b o, s3.heap.get? b = some o → H b = none → b ∉ fp → put H G H5 b = none := fun b o e n hb => by
    rw [put_else (not_took n)]
    exact U.free b o e (L.none n) hb
  have keepT : ∀ b u, H b = some u → (∀ φ, u ≠ .ext φ) → put H G H5 b = H5 b := fun b u e ne => put_else (by
    cases q : Sg.took H G b with
    | false => rfl
    | true =>
      obtain ⟨_, φ, z⟩ := L.took q
      rw [e] at z
      exact absurd (Option.some.inj z) (ne φ))
  refine I3.call' (ch := fp) I6.os ⟨fun b o e n hb hx => U.keep b o e (L.none n) hb hx, fun b o e n hb hx => U.slot b o e (L.none n) hb hx, fun b o e n hx => free b o e n hx, fun b o e hx => U.there b o e hx, fun b xs e => ?_, fun b o u e => ?_, fun b ps e => ?_⟩ (fun b o e => ?_) I6.bare
    fun b hb => ⟨(f3 b hb).2.2.2.1, (f3 b hb).2.1, (f3 b hb).2.2.2.2.1, (f3 b hb).2.2.2.2.2⟩
  · rw [keepT b _ e fun φ z => by cases z]
    exact U.tups b xs (L.keep e fun φ z => by cases z)
  · rw [keepT b _ e fun φ z => by cases z]
    exact U.frzs b o u (L.keep e fun φ z => by cases z)
  · obtain ⟨more, z⟩ := U.tbls b ps (L.keep e fun φ z => by cases z)
    exact ⟨more, by rw [keepT b _ e fun φ z => by cases z]; exact z⟩
  · cases q : Sg.took H G b with
    | true =>
      rw [put_took q] at e
      obtain ⟨_, φ, z⟩ := L.took q
      rw [z] at e
      cases e
      obtain ⟨h1, ⟨ob, h2⟩, h3⟩ := I3.hok b _ z
      have h4 : s6.heap.get? b = some ob := I6.bk b ob (R.took b ob q h2)
      exact ⟨h3 _ _ h1 fun o' e' => by rw [h2] at e'; cases e'; exact h4, ⟨ob, h4⟩, h3⟩
    | false =>
      rw [put_else q] at e
      have same : ∀ {c : Addr} {u : HO}, H5 c = some u → put H G H5 c = some u := fun {c u} h => by
        cases y : Sg.took H G c with
        | false =>
          rw [put_else y]
          exact h
        | true =>
          obtain ⟨y1, φ, y2⟩ := L.took y
          obtain ⟨_, ⟨oc, y3⟩, _⟩ := I3.hok c _ y2
          have nf : c ∉ fp := fun hc => by
            have z := (f3 c hc).1
            rw [y2] at z
            cases z
          have z := U.free c oc y3 y1 nf
          rw [h] at z
          cases z
      exact (I6.hok b o e).stay (fun c v _ q => q) (fun c q => same q) fun c xs q => same q
end

/-- the cells of the running def, as B has them -/
structure CellB (X : Cx) (σ : L2.St) (B : Heap) : Prop where
  all : ∀ x c, X.env.cells.lookup x = some c → ∃ v, B.IsCell c v
  inj : ∀ x y c, X.env.cells.lookup x = some c → X.env.cells.lookup y = some c → x = y
  val : ∀ (i : Nat) (x : Str) (v : V), X.N[i]? = some x → σ[i]? = some (some v) → X.env.scope.names.lookup x = some .cell → ∃ c u, X.env.cells.lookup x = some c ∧ RelV v u ∧ B.IsCell c (some u)
/-- what was taken out still holds of B -/
def TookB (H G : Hp) (B : Heap) : Prop := ∀ b φ, H b = some (.ext φ) → G b = none → φ B
section
variable {X : Cx} {pl : List (Addr × Obj)} {σ : L2.St} {H G : Hp} {s3 : Shared} {fp : List Addr}
def isCellOf (X : Cx) (b : Addr) : Bool := X.env.cells.any fun q => decide (X.env.cells.lookup q.1 = some b)
theorem isCellOf_iff {b : Addr} : isCellOf X b = true ↔ ∃ x, X.env.cells.lookup x = some b := by
  unfold isCellOf
  rw [List.any_eq_true]
  constructor
  · rintro ⟨q, _, h⟩
    exact ⟨q.1, of_decide_eq_true h⟩
  · rintro ⟨x, h⟩
    exact ⟨(x, b), PySem.mem_of_lookup h, decide_eq_true h⟩
/-- the base grows by what was taken out and by the def's cells -/
theorem grow (I : Inv X pl σ H s3) (hfn : ∀ x, X.fn x = true) (L : Less H G) (f3 : ∀ b ∈ fp, FpOk X pl H b) : ∃ B, Grown X H G s3 fp B ∧ CellB X σ B ∧ TookB H G B := by
  let p : Addr → Bool := fun b => (X.base.get? b).isSome || (took H G b || isCellOf X b)
  let l : List Addr := (List.range s3.heap.objs.size).filter fun b => !p b
  have m1 : ∀ b, p b = true → b ∉ l := fun b hb hm => by
    have z := (List.mem_filter.mp hm).2
    rw [hb] at z
    cases z
  have yes : ∀ b o, p b = true → s3.heap.get? b = some o → (PySem.W.hideAll s3.heap l).get? b = some o := fun b o hb e => PySem.W.hideAll_get l e (m1 b hb)
  have no : ∀ b o, (PySem.W.hideAll s3.heap l).get? b = some o → p b = true ∧ s3.heap.get? b = some o := fun b o e => by
    have e2 := PySem.W.of_hideAll l e
    refine ⟨?_, e2⟩
    cases q : p b with
    | true => rfl
    | false =>
      have hm : b ∈ l := List.mem_filter.mpr ⟨List.mem_range.mpr (Heap.lt_size e2), by rw [q]; rfl⟩
      rw [PySem.W.hideAll_none l hm] at e
      cases e
  have cellFree : ∀ x c, X.env.cells.lookup x = some c → c ∉ frs X.stack := fun x c e hm => by
    rcases List.mem_cons.mp (I.stkSub c hm) with z | z
    · exact I.cne x c e z
    · obtain ⟨_, o, ho, _⟩ := I.ok.funs.mem z
      exact absurd (Nat.lt_of_lt_of_le (Heap.lt_size ho) (I.ok.cab x c (hfn x) e)) (Nat.lt_irrefl _)
  have cellAt : ∀ x c v, X.env.cells.lookup x = some c → s3.heap.IsCell c v → (PySem.W.hideAll s3.heap l).IsCell c v := fun x c v e h => by
    obtain ⟨o, ho, hd⟩ := h
    refine ⟨o, yes c o ?_ ho, hd⟩
    show ((X.base.get? c).isSome || (took H G c || isCellOf X c)) = true
    rw [isCellOf_iff.mpr ⟨x, e⟩, Bool.or_true, Bool.or_true]
  refine ⟨PySem.W.hideAll s3.heap l, ⟨fun b o e => yes b o ?_ (I.bk b o e), fun b o e => ?_, Nat.le_of_eq (PySem.W.hideAll_size _ _), fun b o h e => yes b o ?_ e⟩, ⟨fun x c e => ?_, I.ok.inj, fun i x v h1 h2 h3 => ?_⟩, fun b φ h1 h2 => ?_⟩
  · show ((X.base.get? b).isSome || _) = true
    rw [e]
    rfl
  · obtain ⟨hp, e2⟩ := no b o e
    refine ⟨e2, ?_⟩
    have hp' : ((X.base.get? b).isSome || (took H G b || isCellOf X b)) = true := hp
    rcases Bool.or_eq_true_iff.mp hp' with z | z
    · obtain ⟨ob, z⟩ := Option.isSome_iff_exists.mp z
      obtain ⟨_, n⟩ := I.bs b ob z
      refine ⟨L.none n, fun hb => ?_, fun hb => ?_⟩
      · rcases (f3 b hb).2.2.2.1 with y | y
        · exact I.ok.noex b ob z y
        · exact absurd (Nat.lt_of_lt_of_le (Heap.lt_size z) (Nat.le_trans I.ok.bsz y)) (Nat.lt_irrefl _)
      · rw [(I.stack.mem hb).1] at z
        cases z
    · rcases Bool.or_eq_true_iff.mp z with z | z
      · obtain ⟨z1, φ, z2⟩ := L.took z
        refine ⟨z1, fun hb => ?_, fun hb => ?_⟩
        · rw [(f3 b hb).1] at z2
          cases z2
        · rw [I.stkFree b hb] at z2
          cases z2
      · obtain ⟨x, z⟩ := isCellOf_iff.mp z
        exact ⟨L.none (I.freeC x b z), fun hb => (f3 b hb).2.2.2.2.1 x b z rfl, cellFree x b z⟩
  · show ((X.base.get? b).isSome || (took H G b || isCellOf X b)) = true
    rw [h, Bool.true_or, Bool.or_true]
  · obtain ⟨v, h⟩ := I.cell x c e
    exact ⟨v, cellAt x c v e h⟩
  · obtain ⟨m, hn, hl⟩ := I.loc
    obtain ⟨u, r, q⟩ := hl i x v h1 h2 (.inr (.inl h3))
    rcases q with ⟨k, _⟩ | ⟨_, c, e, z⟩
    · have k : X.env.scope.names.lookup x = some .local := k
      rw [h3] at k
      cases k
    · exact ⟨c, u, e, r, cellAt x c _ e z⟩
  · obtain ⟨a1, ⟨o, a2⟩, a3⟩ := I.hok b _ h1
    exact a3 _ _ a1 fun o' e' => yes b o' (by
      show ((X.base.get? b).isSome || (took H G b || isCellOf X b)) = true
      rw [took_of h1 h2, Bool.true_or, Bool.or_true]) e'
end
end Sg
/-! Signsets: the comprehension rule over a grown base, calm or hot; all(..) of truth values where an exception is handled. -/
namespace Sg
open PySem PySem.Spec PyProof.Rows L2
/-- what a block promises: G: what the block sees; B: the grown base -/
def lcIn (X : Cx) (g : TG) (tt : Heap → TT) (te : Heap → TE) (vs : List Nat) (σ : L2.St) (Q : VK) (J : It) (H1 : Hp) : Prop :=
  ∃ G, Less H1 G ∧ ∀ B, CellB X σ B → TookB H1 G B → ∀ D, H1 D = none → ∃ W : Nat → Nat → Hp → Prop, (∃ m, W 0 m (upd G D (.lst []))) ∧ ∀ k m H, W k m H →
    (J.stop k H ∧ Q (.ref D) (put H1 G H)) ∨ (J.go k H ∧ ∃ Nx : Hp → Prop, (∀ H', Nx H' → ∃ m', m' < m ∧ W (k + 1) m' H') ∧
      ∀ x H', J.yld k H x H' → g x (wipe σ vs) H' fun σ2 H2 => wipe σ2 vs = wipe σ vs ∧ tt B σ2 H2 fun b H3 =>
        if b = true then te B σ2 H3 fun y H4 => ∃ acc, H4 D = some (.lst acc) ∧ acc.length < sizeLine ∧ Nx (upd H4 D (.lst (acc ++ [y]))) else Nx H3)
/-- [elt for target in iter if ..] -/
def tLcB (X : Cx) (wi : L2.TI) (g : TG) (tt : Heap → TT) (te : Heap → TE) (vs : List Nat) : TE := fun σ H Q => wi σ H fun J H1 => lcIn X g tt te vs σ Q J H1
theorem put_upd {H G H5 : Hp} {D : Addr} {o u : HO} (hD : H D = none) : put (upd H D o) (upd G D u) H5 = put H G H5 := by
  have tk : ∀ b, took (upd H D o) (upd G D u) b = took H G b := fun b => by
    by_cases e : b = D
    · subst e
      unfold took
      rw [upd_same, upd_same, hD]
      rfl
    · unfold took
      rw [upd_ne e, upd_ne e]
  funext b
  cases q : took H G b with
  | true =>
    have ne : b ≠ D := fun z => by
      rw [z, not_took hD] at q
      cases q
    rw [put_took q, put_took (by rw [tk]; exact q), upd_ne ne]
  | false => rw [put_else q, put_else (by rw [tk]; exact q)]
theorem less_upd {H G : Hp} {D : Addr} {o : HO} (L : Less H G) : Less (upd H D o) (upd G D o) := fun b => by
  by_cases e : b = D
  · subst e
    exact .inl (by rw [upd_same, upd_same])
  · rw [upd_ne e, upd_ne e]
    exact L b
theorem tookB_upd {H G : Hp} {D : Addr} {o : HO} {B : Heap} (hD : H D = none) (t : TookB (upd H D o) (upd G D o) B) : TookB H G B := fun b φ h1 h2 => by
  have ne : b ≠ D := ne_of_none h1 hD
  exact t b φ (by rw [upd_ne ne]; exact h1) (by rw [upd_ne ne]; exact h2)
section
variable {X : Cx}
theorem pe_lcz {Z : Cx → Prop} {elt tg iter : Expr} {ifs : List Expr} {scope : Scope} {own : List (Str × Nat)} {pos : Pos} {wi : L2.TI} {g : TG} {tt : Heap → TT} {te : Heap → TE}
    (hZ : ∀ s H B ce fp, Z (blkZ X s H B scope ce fp)) (hfn : ∀ x, X.fn x = true) (nd : X.N.Nodup) (hi : PIZ Z X tg iter wi) (ok : BlkOk X.N X.env.scope scope own)
    (hg : ∀ B s H C cl fp, PG (blkZ X s H B scope (compEnvC scope cl C X.env) fp) tg g)
    (ht : ∀ B s H C cl fp, PTs (blkZ X s H B scope (compEnvC scope cl C X.env) fp) ifs (tt B))
    (he : ∀ B s H C cl fp, PE (blkZ X s H B scope (compEnvC scope cl C X.env) fp) elt (te B)) (hs : ∀ x, foldedSetIterable iter X.env x = pure x := by intro _; rfl) :
    PE X (.ListComp elt [⟨tg, iter, ifs, 0⟩] scope pos) (tLcB X wi g tt te (own.map (·.2))) := by
  refine ⟨fun pl s σ H Q I h => ?_⟩
  have hfree : ∀ y ∈ scope.names, y.2 = .free → ∃ c, X.env.cells.lookup y.1 = some c := fun y hy e => (ok.free y hy e).elim (fun k => I.ok.has _ (.inl k)) fun k => I.ok.has _ (.inr k)
  rw [eval_ListComp]
  refine wpAny_comprehension_free (use := none) rfl hs (closure_ok hfree) ok.kind (fun y hy e => by rw [ok.uniq y hy, e]) ?_
  refine thn (hi.walk pl s σ H _ I h) fun xv s1 h1 => thn h1 fun itv s2 h2 => ?_
  obtain ⟨it, fp, tn, J, H2, e, I2, T, st2, f2, G, L, q⟩ := h2
  subst e
  refine wpAny_newObj_type (newEnv_comp ?_) (by show 0 ≤ sizeLine; decide)
  -- the new list
  obtain ⟨D, hD⟩ : ∃ D, D = s2.heap.objs.size := ⟨_, rfl⟩
  have nD : H2 D = none := I2.hok.fresh (Nat.le_of_eq hD.symm)
  obtain ⟨s3, hs3⟩ : ∃ s3 : Shared, s3 = { s2 with heap := s2.heap.push { cls := .type "list", data := .seq ([] : List Value).toArray } } := ⟨_, rfl⟩
  have e3 : s3.heap = s2.heap.push { cls := .type "list", data := .seq ([] : List Value).toArray } := by rw [hs3]
  have I3 : Inv X pl σ (upd H2 D (.lst [])) s3 := by
    rw [hs3, hD]
    exact I2.laid (t' := s2.toks) (fun b o z => Heap.get?_push_of_some _ z) (Nat.le_refl _) ⟨Nat.zero_le _, [], 0, .nil, Heap.get?_push_size _ rfl⟩
  have lt2 : ∀ b ∈ fp, b < s2.heap.objs.size := fun b hb => by
    obtain ⟨o, z, _⟩ := T.objs _ _ st2 b hb
    exact Heap.lt_size z
  have f3 : ∀ b ∈ fp, FpOk X pl (upd H2 D (.lst [])) b := fun b hb => by
    refine ⟨?_, (f2 b hb).2⟩
    rw [upd_ne (by rw [hD]; exact Nat.ne_of_lt (lt2 b hb))]
    exact (f2 b hb).1
  have lt3 : ∀ b ∈ fp, b < s3.heap.objs.size := fun b hb => by
    rw [e3, Heap.size_push]
    exact Nat.lt_succ_of_lt (lt2 b hb)
  have st3 : tn 0 s3.heap := T.stays _ _ _ st2 fun b _ o z => by
    rw [e3]
    exact Heap.get?_push_of_some _ z
  have L3 := less_upd (D := D) (o := .lst []) L
  obtain ⟨B, R, cb, tb⟩ := grow I3 hfn L3 f3
  obtain ⟨W, ⟨m0, w0⟩, turn⟩ := q B cb (tookB_upd nD tb) D nD
  have I4 := block_start I3 ok nd fun b hb => ⟨f3 b hb, lt3 b hb⟩
  obtain ⟨cl, hcl⟩ : ∃ cl, cl = cellsFrom (s3.heap.objs.size + 1) scope.names (cloFrom X.env.cells scope.names []) := ⟨_, rfl⟩
  obtain ⟨s4, hs4⟩ : ∃ s4 : Shared, s4 = { s3 with heap := pushCells (s3.heap.push { cls := .type "dict", data := .dict #[] }) scope.names } := ⟨_, rfl⟩
  have kp4 : ∀ b o, s3.heap.get? b = some o → s4.heap.get? b = some o := fun b o z => by
    rw [hs4]
    exact pushCells_keeps _ _ _ _ (Heap.get?_push_of_some _ z)
  have st4 : tn 0 s4.heap := T.stays _ _ _ st3 fun b _ o z => kp4 b o z
  rw [← hcl, ← hs4] at I4
  have I5 := blk_in I3 I4 L3 R kp4 rfl
  have goal : codeAny (model X.prog X.w) X.A (.compStart (.ListComp elt [⟨tg, iter, ifs, 0⟩] scope pos) 0 (.ref it) (.ref D) (compEnvC scope cl s3.heap.objs.size X.env))
      (compPost (model X.prog X.w) X.A X.xe none (EP X pl σ Q) (.ref D) s3.heap.objs.size) s4 := by
    have pg := hg B s3 (upd G D (.lst [])) s3.heap.objs.size cl fp
    have pt := ht B s3 (upd G D (.lst [])) s3.heap.objs.size cl fp
    have pe := he B s3 (upd G D (.lst [])) s3.heap.objs.size cl fp
    obtain ⟨Y, hY⟩ : ∃ Y, Y = blkZ X s3 (upd G D (.lst [])) B scope (compEnvC scope cl s3.heap.objs.size X.env) fp := ⟨_, rfl⟩
    have zY : Z Y := by
      rw [hY]
      exact hZ ..
    have n0 : ∀ b ∈ fp, upd G D (.lst []) b = none := fun b hb => L3.none (f3 b hb).1
    have fpY : ∀ {τ : L2.St} {G' : Hp} {z : Shared}, Inv Y [] τ G' z → (∀ b ∈ fp, G' b = none) → ∀ b ∈ fp, FpOk Y [] G' b := fun {τ G' z} I' hn b hb => by
      subst hY
      refine ⟨hn b hb, (I'.ok.exf b hb).1, I'.ok.exfs b hb, .inl hb, fun x c y => (I'.ok.exf b hb).2 x c y, fun p hp => ?_⟩
      have hp' : p ∈ X.pn ++ [] := hp
      rw [List.append_nil] at hp'
      exact (f3 b hb).2.2.2.2.2 p (List.mem_append_left _ hp')
    have pr : Y.prog = X.prog := by rw [hY]
    have pw : Y.w = X.w := by rw [hY]
    have pk : Y.K = X.K := by rw [hY]
    have pA : Y.A = X.A := by rw [hY]
    have loop : codeAny (model X.prog X.w) X.A (.compLoop (.ListComp elt [⟨tg, iter, ifs, 0⟩] scope pos) 0 (.ref it) (.ref D) (compEnvC scope cl s3.heap.objs.size X.env))
        (compPost (model X.prog X.w) X.A X.xe none (EP X pl σ Q) (.ref D) s3.heap.objs.size) s4 := by
      refine compLoop_any (fun n z => ∃ k G', Inv Y [] (wipe σ (own.map (·.2))) G' z ∧ tn k z.heap ∧ (∀ b ∈ fp, G' b = none) ∧ W k n G') ?_ m0 ⟨0, _, by rw [hY]; exact I5, st4, n0, w0⟩
      rintro n z5 ⟨k, G5, J5, t5, n5, w5⟩
      rcases turn k n G5 w5 with ⟨stop, qq⟩ | ⟨go, Nx, hNx, step⟩
      · have td := T.none_ Y pr pw pk zY k [] z5 _ G5 (fun _ _ => False) J5 (fpY J5 n5) t5 stop
        rw [pA] at td
        refine thnF td fun r z6 hz => ?_
        obtain ⟨hr, J6⟩ := hz
        subst hr
        subst hY
        have I7 := blk_out I3 J6 L3 R f3
        rw [put_upd nD] at I7
        obtain ⟨m, hn, _⟩ := J6.loc
        have nC : put H2 G G5 s3.heap.objs.size = none := by
          have a1 : took H2 G s3.heap.objs.size = false := not_took (I2.hok.fresh (by rw [e3, Heap.size_push]; exact Nat.le_succ _))
          rw [put_else a1]
          exact J6.free
        refine ⟨m, hn, fun h'' sb => ?_⟩
        obtain ⟨g0, g1, g2, g3, g4, g5⟩ := I3.fpOk (Nat.le_refl _) nC
        exact ⟨.ref D, _, I7.turned (t' := z6.toks) (fun b o hb y => (sb.2 b hb).trans y) g0 g1 g3 g4 g5, rfl, qq⟩
      · have ti := T.one Y pr pw pk zY k [] z5 _ G5 (fun _ _ => False) J5 (fpY J5 n5) t5 go
        rw [pA] at ti
        refine thnF ti fun r z6 hz => ?_
        obtain ⟨u, hr, h6⟩ := hz
        subst hr
        refine thnF h6 fun _ z7 hz7 => ?_
        obtain ⟨x, G7, J7, r7, y7, t7, n7⟩ := hz7
        have J7' := J7.pinned (fpY J7 n7) (T.objs _ _ t7)
        subst hY
        refine thnF (pg.run _ z7 _ G7 x u _ J7' r7 (step x G7 y7)) fun _ z8 hz8 => ?_
        obtain ⟨τ8, G8, J8, hw8, q8⟩ := hz8
        refine thnF (pt.run _ z8 τ8 G8 _ J8 q8) fun b z9 hz9 => ?_
        obtain ⟨G9, J9, q9⟩ := hz9
        have fin : ∀ {z' : Shared} {G' : Hp}, Inv (blkZ X s3 (upd G D (.lst [])) B scope (compEnvC scope cl s3.heap.objs.size X.env) fp) ([] ++ pinsAt fp z7.heap) τ8 G' z' → Nx G' →
            ∃ m, m < n ∧ ∃ k G', Inv (blkZ X s3 (upd G D (.lst [])) B scope (compEnvC scope cl s3.heap.objs.size X.env) fp) [] (wipe σ (own.map (·.2))) G' z' ∧ tn k z'.heap ∧ (∀ b ∈ fp, G' b = none) ∧ W k m G' := fun {z' G'} J' nx => by
          obtain ⟨m', hm, w'⟩ := hNx G' nx
          have pin' : ∀ b ∈ fp, ∀ o, z7.heap.get? b = some o → z'.heap.get? b = some o ∧ G' b = none := fun b hb o z =>
            let y := J'.pin (b, o) (List.mem_append_right _ (List.mem_append_right _ (mem_pinsAt hb z)))
            ⟨y.1, y.2.1⟩
          have hl : (wipe σ (own.map (·.2))).length = τ8.length := by rw [← hw8, wipe_length]
          refine ⟨m', hm, k + 1, G', (J'.unpinned (pins := [])).weak hl (fun j v z => ?_), T.stays _ _ _ t7 fun b hb o z => (pin' b hb o z).1, fun b hb => ?_, w'⟩
          · rw [← hw8] at z
            exact (wipe_some z).1
          · obtain ⟨o, z, _⟩ := T.objs _ _ t7 b hb
            exact (pin' b hb o z).2
        cases b with
        | false =>
          rw [if_neg Bool.false_ne_true] at q9 ⊢
          exact fin J9 q9
        | true =>
          rw [if_pos rfl] at q9 ⊢
          refine thnF (pe.run _ z9 τ8 G9 _ J9 q9) fun v z10 hz10 => ?_
          obtain ⟨yv, G10, J10, r10, acc, hD10, hz, nx⟩ := hz10
          exact app_ok (X := blkZ X s3 (upd G D (.lst [])) B scope (compEnvC scope cl s3.heap.objs.size X.env) fp) J10 hD10 hz r10 fun z11 J11 => fin J11 nx
    exact codeAny_compStart_list loop (T.again X.A 0 _ _ _ st4 loop)
  rw [hcl, hs4, hs3, hD] at goal
  exact goal
end
end Sg
/-! Signsets: lists walked, all(..), where an exception is handled. -/
namespace Sg
open PySem PySem.Spec PyProof.Rows L2
section
variable {prog : Program} {w : World} {A : Around} {E : Value → Shared → Prop} {s : Shared}
/-- a list's walk ends while x1 is handled -/
theorem list_end_hot {it l x1 : Addr} {i : Nat} {its : Array Value} {Q : Option Value → Shared → Prop} (hot : HotX.HotAt A x1 s.heap) (ne : x1 ≠ it) (hit : s.heap.IsListIter it l i) (hl : s.heap.IsList l its) (hx : its[i]? = none)
    (hQ : ∀ h', Heap.ExtBut it s.heap h' → Q none { s with heap := h' }) : wpAny (model prog w) A (pyNext (.ref it)) Q E s := by
  obtain ⟨o, ho, hc, hd⟩ := id hit
  obtain ⟨ol, hol, _, nl, hdl⟩ := hl
  obtain ⟨hh, o1, v1, h1, d1, c1⟩ := hot
  unfold pyNext
  refine wpAny_bind (wpAny_attempt (wpAny_callSpecial?_slot (name := Str.ofString "__next__") hit.typeIs slot_listiter_next (wpAny_call_entry slot_listiter_next hit.typeIs entry_listiter_next ?_ (args_listiter_next _))))
  show wpAny _ _ (field (.ref it) 0 >>= _) _ _ s
  refine wpAny_bind (wpAny_field ho hd (x := .ref l) rfl ?_)
  show wpAny _ _ (if (Value.ref l == Value.none) = true then _ else _) _ _ s
  rw [if_neg (by simp)]
  show wpAny _ _ (field (.ref it) 1 >>= _) _ _ s
  refine wpAny_bind (wpAny_field ho hd (x := .int i 0) rfl ?_)
  show wpAny _ _ (seqItems? (.ref l) >>= _) _ _ s
  refine wpAny_bind (wpAny_seqItems hol hdl ?_)
  simp only [Int.toNat_natCast, hx]
  refine wpAny_bind (wpAny_rule (wpAny_bind (wpAny_setField ho hd (by simp) ?_)))
  show wpAny _ _ (newExc (.type "StopIteration") [] >>= _) _ _ _
  refine wpAny_bind ?_
  simp only [newExc, newTuple]
  refine wpAny_bind (wpAny_newObj_type ?_ (by size_fits))
  refine wpAny_bind (m := firstArgMember _ _) (wpAny_of_eq (a := Value.none) (by first | rfl | (simp only [firstArgMember]; rfl)) ?_)
  refine wpAny_newObj_type ?_ (by size_fits)
  have g1 := Heap.get?_push_of_some (h := s.heap.update it (Obj.mapFields (·.setIfInBounds 0 Value.none))) { cls := .type "tuple", data := .seq ([] : List Value).toArray } ((Heap.get?_update_other _ _ (Ne.symm ne)).trans h1)
  refine HotX.raiseNew_hot ⟨hh, o1, v1, Heap.get?_push_of_some _ g1, d1, c1⟩ (Nat.ne_of_lt (Heap.lt_size g1)) (Heap.get?_push_size _ rfl) rfl (by first | (simp; done) | (simp; omega) | (simp only [Array.size_append]; simp; omega)) ?_
  refine wpAny_bind (wpAny_isInstance (T := "StopIteration") (b := true) ⟨_, Heap.get?_update_self _ (Heap.get?_push_size _ rfl) rfl, rfl⟩ isSubtype_stop ?_)
  refine wpAny_pure (hQ _ fun b ob nb e => ?_)
  have g2 := Heap.get?_push_of_some (h := s.heap.update it (Obj.mapFields (·.setIfInBounds 0 Value.none))) { cls := .type "tuple", data := .seq ([] : List Value).toArray } ((Heap.get?_update_other _ _ (Ne.symm nb)).trans e)
  rw [Heap.get?_update_other _ _ (Nat.ne_of_gt (Heap.lt_size g2))]
  exact Heap.get?_push_of_some _ g2
/-- a list that is walked while x1 is handled -/
theorem walks_hot {x1 : Addr} (hh : A.handled = some (.ref x1)) (I ax : Addr) (hne : ax ≠ I) (hx : x1 ≠ I) (items : Array Value) :
    Walks prog w A I [I, ax, x1] [I] items.size (fun i v => items[i]? = some v) (fun i h => (h.IsListIter I ax i ∧ h.IsList ax items) ∧ ∃ (o : Obj) (vs : Array Value), h.get? x1 = some o ∧ o.data = .fields vs ∧ vs[2]? = some .none) where
  sub := fun b hb => by simp at hb; simp [hb]
  frame := fun _ _ _ st hk => ⟨⟨st.1.1.at fun o e => hk I (by simp) o e, st.1.2.at fun o e => hk ax (by simp) o e⟩, let ⟨o, vs, a, b⟩ := st.2; ⟨o, vs, hk x1 (by simp) o a, b⟩⟩
  item := fun i s Q E hi st hQ => by
    obtain ⟨⟨st1, st2⟩, o, vs, a, b⟩ := st
    refine wpAny_pyNext_list_item st1 st2 (x := items[i]) (by simp [hi]) fun h' hit' hs' => ?_
    exact hQ _ h' s.toks (by simp [hi]) ⟨⟨hit', st2.extBut hs'.extBut hne⟩, o, vs, hs'.extBut x1 o hx a, b⟩ fun c oc hc e => hs'.extBut c oc (fun z => hc (by simp [z])) e
  done := fun s Q E st hQ => by
    obtain ⟨⟨st1, st2⟩, o, vs, a, b⟩ := st
    exact list_end_hot ⟨hh, o, vs, a, b⟩ hx st1 st2 (by simp) fun h' he => hQ h' s.toks fun c oc hc e => he c oc (fun z => hc (by simp [z])) e
  self := fun _ _ _ _ st hQ => wpAny_pyIter_listiter st.1.1 hQ
end
section
variable {X : Cx}
/-- all(xs), xs truth values, while an exception is handled -/
theorem all_hot (hot : L2H.HotC X) : CallR X (.builtin "all") (rAll X.K) := by
  intro pl s σ H vs us Q I r h
  obtain ⟨a, bs, rfl, hs, q⟩ := h
  obtain ⟨its, rv, hl, _⟩ := I.list hs
  rw [Vals.ref1 r]
  have hb := rv.bls
  obtain ⟨x1, hh, o1, v1, e1, d1, c1⟩ := hot.at I
  have ltx := Heap.lt_size e1
  refine call_all_walk (iter_any hl.isList fun s2 e2 st hne => ?_)
  subst e2
  refine ⟨_, _, _, _, _, _, _, rfl, walks_hot (A := X.A.in1) (x1 := x1) hh _ a hne (Nat.ne_of_lt ltx) its.toArray, ⟨st, o1, v1, Heap.get?_push_of_some _ e1, d1, c1⟩, truth_bools hb, fun h' tk hk => ?_⟩
  refine ⟨.bl _, H, I.kept fun b o eo => hk b o (fun hm => ?_) (Heap.get?_push_of_some _ eo), ?_, q⟩
  · rw [List.mem_singleton] at hm
    exact absurd (hm ▸ Heap.lt_size eo) (Nat.lt_irrefl _)
  · show Value.bool _ = Value.bool _
    rw [← L2.all_range, hb, List.size_toArray, List.length_map]
theorem allH (K : PySem.W.Frag) (hot : L2H.HotC X) (h : X.K = K := by rfl) : CallR X (.builtin "all") (rAll K) := by
  subst h
  exact all_hot hot
theorem turn_listH {P : Program} {w : World} {K : PySem.W.Frag} {tg : Expr} (a it : Addr) : TurnZ L2H.HotC P w K tg (Itl K a) [it] it (fun i h => h.IsListIter it a i) where
  objs := (turn_list (P := P) (w := w) (K := K) (tg := tg) a it).obj
  stays := (turn_list (P := P) (w := w) (K := K) (tg := tg) a it).keep
  one := by
    intro Y hP hw hK _ k pl z ρ G E I hf st hg
    subst hP hw hK
    obtain ⟨xs, x, hq, hx⟩ := hg
    obtain ⟨its, rv, p, hz⟩ := I.list hq
    obtain ⟨u, hu, ru⟩ := rv.get hx
    obtain ⟨f0, f1, f2, f3, f4, f5⟩ := hf it (by simp)
    refine wpAny_pyNext_list_item st p.isList (x := u) (by simpa using hu) fun h' st' sb => ?_
    have I1 : Inv Y pl ρ G { z with heap := h' } := I.turned (t' := z.toks) (fun b o hb e => (sb.2 b hb).trans e) f0 f1 f3 f4 f5
    obtain ⟨o, e, c, d⟩ := id st'
    exact ⟨u, rfl, go_of (s := { z with heap := h' }) e c d (by decide) ⟨x, G, I1, ru, ⟨rfl, fun ys hy => by rw [I.list_inj hy hq]; exact hx⟩, st', fun b hb => (hf b hb).1⟩⟩
  none_ := by
    intro Y hP hw hK hot k pl z ρ G E I hf st hg
    subst hP hw hK
    obtain ⟨xs, hq, hx⟩ := hg
    obtain ⟨its, rv, p, hz⟩ := I.list hq
    obtain ⟨f0, f1, f2, f3, f4, f5⟩ := hf it (by simp)
    have hl := rv.length
    obtain ⟨⟨x1, ox⟩, ⟨hh, v1, e1, c1⟩, hp⟩ := hot
    have hn : x1 ≠ it := f5 (x1, ox) (List.mem_append_left _ hp)
    have h1 := (I.pin (x1, ox) (List.mem_append_left _ hp)).1
    exact list_end_hot ⟨hh, ox, v1, h1, e1, c1⟩ hn st p.isList (by simp; omega) fun h' eb => ⟨rfl, I.turned (t' := z.toks) (fun b o hb e => eb b o hb e) f0 f1 f3 f4 f5⟩
  again := fun _ _ _ _ _ st h => wpAny_pyIter_listiter st h
theorem piLH (K : PySem.W.Frag) {tg l : Expr} {tl : TE} (hl : PE X l tl) (hK : X.K = K := by rfl) : PIZ L2H.HotC X tg l (iList K tl) := by
  subst hK
  refine ⟨fun pl s σ H R I h => ?_⟩
  refine thn (hl.run pl s σ H _ I h) fun v s1 hv => ?_
  obtain ⟨x, H1, I1, r1, a, e, ⟨xs, hq⟩, q⟩ := hv
  subst e
  cases r1
  obtain ⟨its, rv, p, hz⟩ := I1.list hq
  refine wpAny_pyIter_list p.isList ?_
  refine ⟨s1.heap.objs.size, [s1.heap.objs.size], _, _, H1, rfl, I1.kept (t' := s1.toks) fun b o e => Heap.get?_push_of_some _ e, turn_listH a _, ⟨_, Heap.get?_push_size _ rfl, rfl, rfl⟩, fun b hb => ?_, q⟩
  have e : b = s1.heap.objs.size := by simpa using hb
  subst e
  exact I1.fpOk (Nat.le_refl _) (I1.hok.fresh (Nat.le_refl _))
/-- the comprehension rule where an exception is handled, nothing taken out -/
theorem hot_blk (hot : L2H.HotC X) {scope : Scope} : ∀ s H B ce fp, L2H.HotC (blkZ X s H B scope ce fp) := fun _ _ _ _ _ => hot
def iMono (wi : L2.TI) : L2.TI := fun σ H R => ∃ R0 : It → Hp → Prop, wi σ H R0 ∧ ∀ J H1, R0 J H1 → R J H1
theorem piz_mono {Z : Cx → Prop} {tg iter : Expr} {wi : L2.TI} (h : PIZ Z X tg iter wi) : PIZ Z X tg iter (iMono wi) := ⟨fun pl s σ H R I hw => by
  obtain ⟨R0, h0, hR⟩ := hw
  refine thn (h.walk pl s σ H R0 I h0) fun v s1 h1 => thn h1 fun itv s2 h2 => ?_
  obtain ⟨it, fp, tn, J, H', e, I', T, st, f, r⟩ := h2
  exact ⟨it, fp, tn, J, H', e, I', T, st, f, hR _ _ r⟩⟩
theorem pe_lcH {elt tg iter : Expr} {ifs : List Expr} {scope : Scope} {own : List (Str × Nat)} {pos : Pos} {wi : L2.TI} {g : TG} {tt : TT} {te : TE} (hot : L2H.HotC X) (hfn : ∀ x, X.fn x = true) (nd : X.N.Nodup) (hi : PIZ L2H.HotC X tg iter wi) (ok : BlkOk X.N X.env.scope scope own)
    (hg : ∀ B s H C cl fp, PG (blkZ X s H B scope (compEnvC scope cl C X.env) fp) tg g) (ht : ∀ B s H C cl fp, PTs (blkZ X s H B scope (compEnvC scope cl C X.env) fp) ifs tt)
    (he : ∀ B s H C cl fp, PE (blkZ X s H B scope (compEnvC scope cl C X.env) fp) elt te) (hs : ∀ x, foldedSetIterable iter X.env x = pure x := by intro _; rfl) :
    PE X (.ListComp elt [⟨tg, iter, ifs, 0⟩] scope pos) (tLc wi g tt te (own.map (·.2))) := by
  refine ⟨fun pl s σ H Q I h => ?_⟩
  refine (pe_lcz (tt := fun _ => tt) (te := fun _ => te) (hot_blk hot) hfn nd (piz_mono hi) ok hg ht he hs).run pl s σ H Q I ⟨_, h, fun J H1 r => ⟨H1, Less.refl _, fun B _ _ D nD => ?_⟩⟩
  obtain ⟨W, w0, turn⟩ := r D nD
  refine ⟨W, w0, fun k m G hw => ?_⟩
  rw [put_refl]
  exact turn k m G hw
end
end Sg
/-! Signsets: defs called where an exception is handled, by their names. -/
namespace Sg
open PySem PySem.Spec PyProof.Rows L2
section
variable {P : Program} {w : World} {K : PySem.W.Frag} {mg : Str → Option Value} {base : Heap}
structure ClH (P : Program) (w : World) (K : PySem.W.Frag) (mg : Str → Option Value) (base : Heap) (k : Nat) (x : Str) (sp : Sp) : Prop where
  ex : ∃ (f : Addr) (fd : FuncData) (ps : List Str), L2H.FnH P w K mg base CX0 k f fd ps sp ∧ mg x = some (.ref f) ∧ PySem.W.keepIn K (.ref f) = true ∧ Binds K fd ps []
theorem Df.clH {x : Str} {st : Stmt} {N ps : List Str} {k : Nat} {sp : Sp} (F : Df K mg x st ps) (S : FnScope N ps (defScope st)) (len : ∀ vs H Q E, sp vs H Q E → vs.length = ps.length)
    (hbody : ∀ (f : Addr) (cdv : Value) (A : Around) (outer : List Env) (s : Shared) (H : Hp) (vs : List V) (Q : VK) (E : XK) (p : Addr × Obj), L2H.HotC (L2H.cxH CX0 P w K mg base N x (defScope st) f cdv A outer s H E p) →
      L2H.RoomH k (A.deeper (envOfC x (defScope st) s.heap.objs.size f cdv)) → sp vs H Q E →
      ∃ t, PSs (L2H.cxH CX0 P w K mg base N x (defScope st) f cdv A outer s H E p) (defBody st) t ∧ t { nx := fun _ H' => Q .non H', rt := Q } (start N vs) H) : ClH P w K mg base (k + 1) x sp := by
  obtain ⟨f, fd, F0, g, b⟩ := F.ex
  refine ⟨f, fd, ps, ?_, g, F0.kp, b⟩
  obtain ⟨oc, od, kV, doc, pm, an, cdv, ct, osl, rfl, lk, hcd⟩ := F0.ex
  exact L2H.fn_ofH lk hcd S len fun A outer s H vs Q E p hot hr hsp => hbody f cdv A outer s H vs Q E p ⟨p, hot, List.mem_singleton.mpr rfl⟩ hr hsp
end
section
variable {X : Cx} {k j : Nat} {x : Str} {sp : Sp} {p pos : Pos} {e : Expr} {es : List Expr} {t : TA}
theorem pe_kH (c : ClH X.prog X.w X.K X.mg X.base k x sp) (hr : L2H.RoomH j X.A) (hot : L2H.HotC X) (ha : PA X (e :: es) t) (hk : k ≤ j := by decide) (hg : Gl X x := by rfl)
    (hdb : (x == ("__debug__" : Str)) = false := by decide) (he : starEach (e :: es) X.env = (false, eval e X.env) :: starEach es X.env := by rfl) (hpl : (backTo pos (starEach es X.env)).any (·.1) = false := by rfl) :
    PE X (.Call (.Name x p) (e :: es) [] pos) (tCallS sp (fun _ => E0) t) := by
  obtain ⟨f, fd, ps, F, hm, kp, b⟩ := c.ex
  exact L2H.pe_callH F (hr.mono hk) hot hg hm kp b (fun σ pl H s e s' I z => z.elim) ha hdb he hpl
theorem pe_never {e : Expr} : PE X e (fun _ _ _ => False) := ⟨fun _ _ _ _ _ _ h => h.elim⟩
theorem takesN0 {X : Cx} : L2N.Takes X (fun _ _ _ _ => False) := fun _ _ x => by
  obtain ⟨_, _, _, _, _, _, _, _, _, _, _, _, _, _, _, _, z⟩ := x
  exact z.elim
theorem hot_suite {X : Cx} {a : Addr} {oe : Obj} {cls : Value} {d : Option Addr} {pn : List (Addr × Obj)} (hz : L2N.Zn cls d oe) (hf : ∃ vs, oe.data = .fields vs) : L2H.HotC (X.suite a ((a, oe) :: pn)) := by
  obtain ⟨vs, e⟩ := hf
  exact ⟨(a, oe), ⟨rfl, vs, e, hz.2.2 vs e⟩, List.mem_cons_self⟩
end
end Sg
/-! Signsets: lambdas as things that stand in the abstract heap. -/
namespace Sg
open PySem PySem.Spec PyProof.Rows L2
/-! ### a lambda that was made -/
/-- its words, the cells that it captured, its defaults, its code object -/
structure LF where
  qual : Str
  params : Arguments
  body : Expr
  scope : Scope
  cl : List (Str × Addr)
  dV : Value
  c : Addr
abbrev LF.fd (F : LF) (doc pm ctv : Value) : FuncData := PySem.W.kdv_fn "<lambda>" F.qual F.params (.expr F.body) F.scope F.cl F.dV doc pm (.ref F.c) ctv
def lamAt (f : Addr) (F : LF) (h : Heap) : Prop := ∃ doc pm ctv, h.get? f = some ({ cls := .type "function", data := .func (F.fd doc pm ctv) } : Obj)
def LamO (f : Addr) (F : LF) : HO := .ext (lamAt f F)
/-- a tuple of one whole number, as defaults are kept -/
def dflAt (t : Addr) (i : Int) (h : Heap) : Prop := ∃ k : Tok, h.get? t = some (PySem.W.kdv_tup [.int i k])
def DflO (t : Addr) (i : Int) : HO := .ext (dflAt t i)
/-- a cell of a def that is gone -/
def cellAt (c : Addr) (v : V) (h : Heap) : Prop := ∃ u, RelV v u ∧ h.IsCell c (some u)
def CellO (c : Addr) (v : V) : HO := .ext (cellAt c v)
theorem lamO_ok {P : Program} {w : World} {H : Hp} {h : Heap} {f : Addr} {F : LF} (x : lamAt f F h) : ObjOk P w H h f (LamO f F) := by
  obtain ⟨doc, pm, ctv, e⟩ := x
  exact ⟨⟨doc, pm, ctv, e⟩, ⟨_, e⟩, fun h1 h2 z st => by
    obtain ⟨a, b, c, z⟩ := z
    exact ⟨a, b, c, st _ z⟩⟩
theorem dflO_ok {P : Program} {w : World} {H : Hp} {h : Heap} {t : Addr} {i : Int} (x : dflAt t i h) : ObjOk P w H h t (DflO t i) := by
  obtain ⟨k, e⟩ := x
  exact ⟨⟨k, e⟩, ⟨_, e⟩, fun h1 h2 z st => by
    obtain ⟨a, z⟩ := z
    exact ⟨a, st _ z⟩⟩
theorem cellO_ok {P : Program} {w : World} {H : Hp} {h : Heap} {c : Addr} {v : V} (x : cellAt c v h) : ObjOk P w H h c (CellO c v) := by
  obtain ⟨u, r, o, e, d⟩ := x
  exact ⟨⟨u, r, o, e, d⟩, ⟨_, e⟩, fun h1 h2 z st => by
    obtain ⟨u, r, o, e, d⟩ := z
    exact ⟨u, r, o, st _ e, d⟩⟩
/-! ### making -/
section
variable {X : Cx} {pl : List (Addr × Obj)} {σ : L2.St} {H : Hp} {s : Shared}
theorem upd_gone {H : Hp} {a b : Addr} {o : HO} (e : upd H a o b = none) : H b = none := by
  by_cases z : b = a
  · rw [z, upd_same] at e
    cases e
  · rw [upd_ne z] at e
    exact e
theorem lam_tail {T : List (Addr × Str)} {c P : Addr} {params : Arguments} {body : Expr} {scope : Scope} {pos : Pos} {dV : Value} {E Q : Value → Shared → Prop} (I : Inv X pl σ H s) (TB : LamX.TabB X.base X.mg c P) (hcode : X.env.code = .ref c)
    (hm : (P, X.env.qual ++ "<lambda>") ∈ T) (hu : ∀ p ∈ T, p.1 = P → p.2 = X.env.qual ++ "<lambda>") (hT : LamX.Tabs T H) (hfree : ∀ y ∈ scope.names, y.2 = .free → ∃ c, X.env.cells.lookup y.1 = some c)
    (h : ∀ (f c' : Addr) (H1 : Hp) (s' : Shared), Inv X pl σ H1 s' → LamX.ExtN H H1 → (∀ b, H1 b = none → H b = none) → LamX.Tabs T H1 → H f = none →
      H1 f = some (LamO f ⟨X.env.qual ++ "<lambda>", params, body, scope, cloFrom X.env.cells scope.names [], dV, c'⟩) → H1 c' = some (LamX.CodeO c' (X.env.qual ++ "<lambda>")) → Q (.ref f) s') :
    wpAny (model X.prog X.w) X.A (makeTail "<lambda>" (X.env.qual ++ "<lambda>") params (.expr body) scope X.env dV .none none pos pos.line) Q E s := by
  obtain ⟨ps, hP, ht, ha⟩ := hT _ hm
  have bP : s.heap.BuiltinsAt X.mg P := TB.bm.keeps I.bk
  have hP' : s.heap.get? P = some { cls := .none, data := .fields ps } := I.hok P _ hP
  cases hc : codeAmong pos ps.toList with
  | none =>
    refine PySem.W.kdv_makeTail (mg := X.mg) (c := c) (P := P) (ps := ps) (closure_ok hfree) I.ok.glob (I.mod.glob.keeps I.bk) hcode (TB.code.keeps I.bk) hP' ht hc TB.gP bP fun c' ctv doc h' tk hx hge hlt hrec htb => ?_
    obtain ⟨c2, oc, vs, t, e2, hoc, hd, hv⟩ := hrec
    cases e2
    have nC : H c' = none := I.hok.fresh hge
    have I1 := LamX.inv_table (t' := tk) (more := #[rawInt pos.line, rawInt pos.col, .ref c']) (h' := h') I hP (fun b o hb e => hx b o hb e) htb hge ⟨oc, vs, t, hoc, hd, hv⟩
    have hE : LamX.ExtN H (upd (upd H P (.tbl (ps ++ #[rawInt pos.line, rawInt pos.col, .ref c']))) c' (LamX.CodeO c' (X.env.qual ++ "<lambda>"))) := fun b o e n => by
      rw [upd_ne (ne_of_none e nC), upd_ne (fun z => n ps (Option.some.inj (e.symm.trans (by rw [z]; exact hP))))]
      exact e
    have eL : (ps ++ #[rawInt pos.line, rawInt pos.col, .ref c']).toList = ps.toList ++ [rawInt pos.line, rawInt pos.col, .ref c'] := by simp
    have T1 : LamX.Tabs T (upd (upd H P (.tbl (ps ++ #[rawInt pos.line, rawInt pos.col, .ref c']))) c' (LamX.CodeO c' (X.env.qual ++ "<lambda>"))) := fun p hp => by
      by_cases hb : p.1 = P
      · rw [hu p hp hb, hb]
        refine ⟨_, by rw [upd_ne (ne_of_none hP nC), upd_same], by rw [eL]; exact PySem.TriplesOk_snoc _ _ _ _ ht, fun p' cv hcv => ?_⟩
        rw [eL] at hcv
        rcases LamX.among_app _ ht hcv with z | z
        · obtain ⟨c0, e1, e2⟩ := ha p' cv z
          exact ⟨c0, e1, hE _ _ e2 LamX.codeO_ne⟩
        · exact ⟨c', z, upd_same⟩
      · obtain ⟨ps', a1, a2, a3⟩ := hT p hp
        refine ⟨ps', by rw [upd_ne (ne_of_none a1 nC), upd_ne hb]; exact a1, a2, fun p' cv hcv => ?_⟩
        obtain ⟨c0, e1, e2⟩ := a3 p' cv hcv
        exact ⟨c0, e1, hE _ _ e2 LamX.codeO_ne⟩
    have nF := I1.hok.fresh (Nat.le_refl _)
    have I2 := I1.laid (t' := tk) (a := h'.objs.size) (o := LamO h'.objs.size ⟨X.env.qual ++ "<lambda>", params, body, scope, cloFrom X.env.cells scope.names [], dV, c'⟩)
      (h' := h'.push (PySem.W.kdv_obj "<lambda>" (X.env.qual ++ "<lambda>") params (.expr body) scope (cloFrom X.env.cells scope.names []) dV doc ((X.mg "__name__").getD .none) c' ctv)) (fun b u e => Heap.get?_push_of_some _ e) (Nat.le_refl _) (lamO_ok ⟨doc, _, ctv, Heap.get?_push_size _ rfl⟩)
    refine h h'.objs.size c' _ _ I2 (fun b o e n => ?_) (fun b e => upd_gone (upd_gone (upd_gone e))) (T1.ext fun b o e => ?_) (I.hok.fresh (Nat.le_trans hge (Nat.le_of_lt hlt))) upd_same ?_
    · have e1 := hE b o e n
      exact (upd_ne (ne_of_none e1 nF)).trans e1
    · exact (upd_ne (ne_of_none e nF)).trans e
    · exact (upd_ne (Nat.ne_of_lt hlt)).trans upd_same
  | some cv =>
    obtain ⟨c', e, hco⟩ := ha pos cv hc
    subst e
    refine PySem.W.kdv_makeTailHit (mg := X.mg) (c := c) (P := P) (ps := ps) (closure_ok hfree) I.ok.glob (I.mod.glob.keeps I.bk) hcode (TB.code.keeps I.bk) hP' ht hc bP fun ctv doc h' tk hx hsz => ?_
    have I1 : Inv X pl σ H { s with heap := h', toks := tk } := I.kept hx
    have nF : H h'.objs.size = none := I1.hok.fresh (Nat.le_refl _)
    have I2 := I1.laid (t' := tk) (a := h'.objs.size) (o := LamO h'.objs.size ⟨X.env.qual ++ "<lambda>", params, body, scope, cloFrom X.env.cells scope.names [], dV, c'⟩)
      (h' := h'.push (PySem.W.kdv_obj "<lambda>" (X.env.qual ++ "<lambda>") params (.expr body) scope (cloFrom X.env.cells scope.names []) dV doc ((X.mg "__name__").getD .none) c' ctv)) (fun b u e => Heap.get?_push_of_some _ e) (Nat.le_refl _) (lamO_ok ⟨doc, _, ctv, Heap.get?_push_size _ rfl⟩)
    refine h h'.objs.size c' _ _ I2 (fun b o e n => ?_) (fun b e => upd_gone e) (hT.ext fun b o e => ?_) nF upd_same ?_
    · exact (upd_ne (ne_of_none e nF)).trans e
    · exact (upd_ne (ne_of_none e nF)).trans e
    · exact (upd_ne (ne_of_none hco nF)).trans hco
end
/-- the reading of a lambda without defaults -/
def tLam (T : List (Addr × Str)) (F : Addr → LF) : TE := fun _ H Q => LamX.Tabs T H ∧ ∀ (f c' : Addr) (H1 : Hp), LamX.ExtN H H1 → (∀ b, H1 b = none → H b = none) → LamX.Tabs T H1 → H f = none → H1 f = some (LamO f (F c')) → H1 c' = some (LamX.CodeO c' (F c').qual) → Q (.ref f) H1
/-- .. with the default i, kept at t -/
def tLam1 (T : List (Addr × Str)) (i : Int) (F : Addr → Addr → LF) : TE := fun _ H Q => LamX.Tabs T H ∧ ∀ (f c' t : Addr) (H1 : Hp), LamX.ExtN H H1 → (∀ b, H1 b = none → H b = none) → LamX.Tabs T H1 → H f = none → H1 f = some (LamO f (F t c')) → H1 c' = some (LamX.CodeO c' (F t c').qual) →
  H1 t = some (DflO t i) → Q (.ref f) H1
section
variable {X : Cx} {T : List (Addr × Str)} {c P : Addr} {params : Arguments} {body : Expr} {scope : Scope} {pos : Pos}
theorem free_has (ok : X.Ok) (hfree : ∀ y ∈ scope.names, y.2 = .free → X.env.scope.names.lookup y.1 = some .cell ∨ X.env.scope.names.lookup y.1 = some .free) : ∀ y ∈ scope.names, y.2 = .free → ∃ c, X.env.cells.lookup y.1 = some c :=
  fun y hy e => (hfree y hy e).elim (fun z => ok.has _ (.inl z)) fun z => ok.has _ (.inr z)
theorem pe_lam (TB : LamX.TabB X.base X.mg c P) (hcode : X.env.code = .ref c) (hm : (P, X.env.qual ++ "<lambda>") ∈ T) (hu : ∀ p ∈ T, p.1 = P → p.2 = X.env.qual ++ "<lambda>")
    (hfree : ∀ y ∈ scope.names, y.2 = .free → X.env.scope.names.lookup y.1 = some .cell ∨ X.env.scope.names.lookup y.1 = some .free) (hdef : defaultsOf params X.env = ([], [])) :
    PE X (.Lambda params body scope pos) (tLam T fun c' => ⟨X.env.qual ++ "<lambda>", params, body, scope, cloFrom X.env.cells scope.names [], .none, c'⟩) := by
  refine ⟨fun pl s σ H Q I h => ?_⟩
  obtain ⟨hT, h⟩ := h
  refine PySem.W.kla_eval hdef ?_
  rw [makeFunction_eq]
  simp only [List.zip_nil_right, List.filterMap_nil, List.isEmpty_nil, if_true, pure_bind]
  exact lam_tail I TB hcode hm hu hT (free_has I.ok hfree) fun f c' H1 s' I1 eN nn T1 f0 f1 c1 => ⟨.ref f, H1, I1, rfl, h f c' H1 eN nn T1 f0 f1 c1⟩
theorem pe_lam1 {i : Int} {j : Nat} {dp : Pos} (TB : LamX.TabB X.base X.mg c P) (hcode : X.env.code = .ref c) (hm : (P, X.env.qual ++ "<lambda>") ∈ T) (hu : ∀ p ∈ T, p.1 = P → p.2 = X.env.qual ++ "<lambda>")
    (hfree : ∀ y ∈ scope.names, y.2 = .free → X.env.scope.names.lookup y.1 = some .cell ∨ X.env.scope.names.lookup y.1 = some .free) (hdef : defaultsOf params X.env = ([eval (.Constant (.int i) j dp) X.env], [])) :
    PE X (.Lambda params body scope pos) (tLam1 T i fun t c' => ⟨X.env.qual ++ "<lambda>", params, body, scope, cloFrom X.env.cells scope.names [], .ref t, c'⟩) := by
  refine ⟨fun pl s σ H Q I h => ?_⟩
  obtain ⟨hT, h⟩ := h
  rw [arm_eval_Lambda, hdef]
  show wpAny _ _ (do let dv ← evalAll [eval (.Constant (.int i) j dp) X.env]; let kdv ← holding dv (evalAllOpt []); makeFunction "<lambda>" (X.env.qual ++ "<lambda>") params (.expr body) scope X.env dv kdv [] pos pos.line) _ _ s
  refine wpAny_bind ?_
  show wpAny _ _ (eval (.Constant (.int i) j dp) X.env >>= fun v => _) _ _ s
  refine wpAny_bind (thn ((pe_int (X := X) (i := i) (j := j) (pos := dp)).run pl s σ H (fun v H1 => v = .int i ∧ H1 = H) I ⟨rfl, rfl⟩) fun u s1 hu1 => ?_)
  obtain ⟨v, H1, I1, r1, e1, e2⟩ := hu1
  subst e1
  rw [e2] at I1
  obtain ⟨tk, rfl⟩ := r1
  refine wpAny_bind (wpAny_holding (wpAny_pure ?_))
  refine wpAny_pure ?_
  refine wpAny_bind (wpAny_holding (wpAny_pure ?_))
  rw [makeFunction_eq]
  simp only [List.zip_nil_right, List.filterMap_nil, List.isEmpty_nil, List.isEmpty_cons, Bool.false_eq_true, if_false, if_true, pure_bind]
  refine wpAny_bind (wpAny_newTextTuple ?_)
  have nt : H s1.heap.objs.size = none := I1.hok.fresh (Nat.le_refl _)
  have I2 := I1.laid (t' := s1.toks) (a := s1.heap.objs.size) (o := DflO s1.heap.objs.size i) (h' := s1.heap.push (PySem.W.kdv_tup [.int i tk])) (fun b u e => Heap.get?_push_of_some _ e) (Nat.le_refl _) (dflO_ok ⟨tk, Heap.get?_push_size _ rfl⟩)
  have hT2 : LamX.Tabs T (upd H s1.heap.objs.size (DflO s1.heap.objs.size i)) := hT.ext fun b o e => (upd_ne (ne_of_none e nt)).trans e
  refine lam_tail I2 TB hcode hm hu hT2 (free_has I.ok hfree) fun f c' H1 s' I3 eN nn T1 f0 f1 c1 => ⟨.ref f, H1, I3, rfl, h f c' s1.heap.objs.size H1 (fun b o e n => eN b o ((upd_ne (ne_of_none e nt)).trans e) n) (fun b e => upd_gone (nn b e)) T1 (upd_gone f0) f1 c1 (eN _ _ upd_same fun ps z => ?_)⟩
  unfold DflO at z
  cases z
end
end Sg
/-! Signsets: lambdas called; defs whose cells outlive them. -/
namespace Sg
open PySem PySem.Spec PyProof.Rows L2
/-! ### what a lambda promises over the base B -/
structure Lm (P : Program) (w : World) (K : PySem.W.Frag) (mg : Str → Option Value) (B : Heap) (k : Nat) (f : Addr) (sp : Hp → VK → XK → Prop) : Prop where
  at_ : PySem.W.FnAt f B
  run : ∀ (A : Around) (outer : List Env) (s : Shared) (H : Hp) (Q : VK) (E : XK), Room k A → Env0 P w K mg B A outer s H → sp H Q E → codeAny (model P w) A (.call (.ref f) ⟨[], []⟩) (CR (L2N.CX P w) outer P w H s Q E) s
/-- its words for the context of its body -/
abbrev LF.nf (F : LF) : NdefX.NF := ⟨"<lambda>", F.qual, F.params, [], F.scope, F.cl, F.c⟩
section
variable {P : Program} {w : World} {K : PySem.W.Frag} {mg : Str → Option Value} {B : Heap} {k : Nat} {f : Addr} {F : LF} {N ps fr : List Str} {ws : List (Option V)} {vs : List V} {us : List Value} {sp : Hp → VK → XK → Prop}
theorem Lm.mono {j : Nat} (l : Lm P w K mg B j f sp) (h : j ≤ k) : Lm P w K mg B k f sp := ⟨l.at_, fun A outer s H Q E hr => l.run A outer s H Q E (hr.mono h)⟩
theorem Lm.imp {sp' : Hp → VK → XK → Prop} (l : Lm P w K mg B k f sp) (h : ∀ H Q E, sp' H Q E → sp H Q E) : Lm P w K mg B k f sp' := ⟨l.at_, fun A outer s H Q E hr e0 q => l.run A outer s H Q E hr e0 (h _ _ _ q)⟩
theorem lm_of (S : NdefX.NScope N ps fr F.scope) (hf : lamAt f F B) (hc : ∃ (oc : Obj) (vs : Array Value) (t : Tok), B.get? F.c = some oc ∧ oc.data = .fields vs ∧ vs[1]? = some (.str F.qual t)) (C : NdefX.CellsAt F.cl fr ws B fun _ => none)
    (hb : ∀ (doc pm ctv : Value) (s : Shared), (∀ b o, B.get? b = some o → s.heap.get? b = some o) → BindsTo s (F.fd doc pm ctv) ⟨[], []⟩ (ps.zip us)) (r : Vals vs us) (hl : vs.length = ps.length)
    (hbody : ∀ (A : Around) (outer : List Env) (s : Shared) (H : Hp) (Q : VK) (E : XK), Room k (A.deeper (NdefX.envF F.nf f s.heap.objs.size)) → sp H Q E →
      ∃ t, PE (NdefX.ncx (L2N.CX P w) P w K mg B N F.nf f A outer s H E) F.body t ∧ t (NdefX.startF N vs ws) H Q) : Lm P w K mg B (k + 1) f sp := by
  obtain ⟨doc, pm, ctv, ho⟩ := hf
  refine ⟨⟨_, _, _, _, ho⟩, fun A outer s H Q E hr e0 hsp => ?_⟩
  have up : ∀ b o, B.get? b = some o → s.heap.get? b = some o := fun b o e => (e0.bs b o e).1
  have lim : s.heap.NoLimit := e0.mod.nolimit.keeps up
  obtain ⟨oc, va, t0, c1, c2, c3⟩ := hc
  refine PySem.W.kla_callFunE hr.depth (up _ _ ho) rfl S.co S.gen rfl ⟨F.c, oc, va, t0, rfl, up _ _ c1, c2, c3⟩ (hb doc pm ctv s up _ _ _ _ ?_)
  refine wpAny_newFunctionEnv S.nocell (fun ⟨n, _⟩ hy => S.par n (List.of_mem_zip hy).1) (fun h1 hns hsb => ⟨lim.fresh _ hsb, ?_⟩) S.kind
  show codeAny _ _ (.expr F.body (NdefX.envF F.nf f s.heap.objs.size)) _ _
  have kp : ∀ b o, s.heap.get? b = some o → h1.get? b = some o := fun b o e => hsb.extBut b o (Nat.ne_of_lt (Heap.lt_size e)) (Heap.get?_push_of_some _ e)
  have cell : ∀ {c : Addr} {v : Option Value}, B.IsCell c v → s.heap.IsCell c v := fun {c v} ⟨o, h1, h2⟩ => ⟨o, up _ _ h1, h2⟩
  have C' : NdefX.CellsAt F.nf.cl fr ws s.heap H := by
    refine ⟨C.len, fun y c e => ?_, C.inj, fun i y e => ?_⟩
    · obtain ⟨_, v, z⟩ := C.all y c e
      obtain ⟨o, z1, _⟩ := id z
      exact ⟨(e0.bs c o z1).2, v, cell z⟩
    · obtain ⟨c, h1, h2⟩ := C.has i y e
      exact ⟨c, h1, fun v q => let ⟨u, a, b⟩ := h2 v q; ⟨u, a, cell b⟩⟩
  obtain ⟨t, ht, hq⟩ := hbody A outer s H Q E (hr.deeper _) hsp
  have I : Inv (NdefX.ncx (L2N.CX P w) P w K mg B N F.nf f A outer s H E) [] (NdefX.startF N vs ws) H { s with heap := h1, toks := s.toks + (ps.zip us).length } := NdefX.inv_startN S hr.hd e0 hl r C' hns kp
  refine PySem.W.kla_codeExpr (wpAny_mono (ht.run [] _ _ H Q I hq) (fun v s' hv => ?_) fun e s' he => he)
  obtain ⟨v', H', J, rv, q⟩ := hv
  exact ⟨v', H', J.os, J.bare, J.base, J.hok, rv, q⟩
end
/-- x(), x a name that holds a lambda of the base -/
def tCallF (P : Program) (w : World) (K : PySem.W.Frag) (mg : Str → Option Value) (B : Heap) (k i : Nat) (E : L2.St → XK) : TE := fun σ H Q => ∃ f sp, σ[i]? = some (some (.ref f)) ∧ Lm P w K mg B k f sp ∧ sp H Q (E σ)
theorem pe_callF {X : Cx} {k j i : Nat} {x : Str} {E : L2.St → XK} {p pos : Pos} (hr : Room j X.A) (hk : k ≤ j) (hx : ∀ σ, PassesAt (L2N.CX X.prog X.w) X σ (E σ)) (hN : X.N[i]? = some x) (hv : Vis X.env.scope x)
    (hd : (x == ("__debug__" : Str)) = false := by decide) (hcd : (x == ("__classdict__" : Str)) = false := by decide) : PE X (.Call (.Name x p) [] [] pos) (tCallF X.prog X.w X.K X.mg X.base k i E) := by
  refine ⟨fun pl s σ H Q I h => ?_⟩
  obtain ⟨f, sp, hs, L, q⟩ := h
  refine wpAny_Call_Name_kw (thn ((pe_var (pos := p) hN hv hd hcd).run pl s σ H (fun v H1 => v = .ref f ∧ H1 = H) I ⟨.ref f, hs, rfl, rfl⟩) fun u s1 hu => ?_)
  obtain ⟨v, H1, I1, r1, ev, eH⟩ := hu
  subst ev
  rw [eH] at I1
  obtain rfl : u = Value.ref f := r1
  obtain ⟨oc, od, fd, sl, ho⟩ := L.at_
  refine PySem.W.callWith_F0 (first := []) ⟨oc, od, fd, sl, I1.bk _ _ ho⟩ ?_
  show wpAny _ _ (call (.ref f) []) _ _ _
  refine wpAny_call (codeAny_mono (L.run X.A X.stack s1 H Q (E σ) (hr.mono hk) I1.env0 q) fun r s' hq => ?_)
  cases r with
  | error e => exact hx σ pl H s1 e s' I1 hq
  | ok fl =>
    cases fl with
    | ret u => exact I1.after hq
    | next => exact False.elim hq
    | brk => exact False.elim hq
    | cont => exact False.elim hq
/-! ### blocks that end by a return, the slots told -/
abbrev TRs := (V → L2.St → Hp → Prop) → L2.St → Hp → Prop
structure PSr (X : Cx) (ss : List Stmt) (t : TRs) : Prop where
  run : ∀ (pl : List (Addr × Obj)) (s : Shared) (σ : L2.St) (H : Hp) (R : V → L2.St → Hp → Prop), Inv X pl σ H s → t R σ H →
    wpAny (model X.prog X.w) X.A (execs ss X.env) (fun fl s' => ∃ u v τ G, fl = .ret u ∧ Inv X pl τ G s' ∧ RelV v u ∧ R v τ G) X.xe s
def rCons (t : TS) (u : TRs) : TRs := fun R σ H => t { nx := fun τ G => u R τ G, rt := fun _ _ => False } σ H
def rRet (t : TE) : TRs := fun R σ H => t σ H fun v G => R v σ G
section
variable {X : Cx}
theorem psr_cons {st : Stmt} {ss : List Stmt} {t : TS} {u : TRs} (h1 : PS X st t) (h2 : PSr X ss u) : PSr X (st :: ss) (rCons t u) := by
  refine ⟨fun pl s σ H R I h => ?_⟩
  refine wpAny_execs_cons (thn (h1.run pl s σ H _ I h) fun f s1 q => ?_)
  cases f with
  | next =>
    obtain ⟨τ, G, J, q⟩ := q
    exact h2.run pl s1 τ G R J q
  | ret v => exact False.elim (by obtain ⟨_, _, _, _, _, z⟩ := q; exact z)
  | brk => exact False.elim (by obtain ⟨_, _, _, z⟩ := q; exact z)
  | cont => exact False.elim (by obtain ⟨_, _, _, z⟩ := q; exact z)
theorem psr_ret {e : Expr} {t : TE} {pos : Pos} (he : PE X e t) : PSr X [.Return (some e) pos] (rRet t) := by
  refine ⟨fun pl s σ H R I h => ?_⟩
  refine wpAny_execs_cons (wpAny_Return_some (thn (he.run pl s σ H _ I h) fun v s1 hv => ?_))
  obtain ⟨x, G, J, r, q⟩ := hv
  exact ⟨v, x, σ, G, rfl, J, r, q⟩
end
/-! ### a def whose cells outlive it -/
/-- the cells of the slots js are told, from H on -/
def Out (X : Cx) (σ : L2.St) : List Nat → Hp → Hp → Prop
  | [], H, H' => H' = H
  | j :: js, H, H' => ∃ x c v, X.N[j]? = some x ∧ X.env.cells.lookup x = some c ∧ σ[j]? = some (some v) ∧ H c = none ∧ Out X σ js (upd H c (CellO c v)) H'
section
variable {X : Cx} {pl : List (Addr × Obj)} {σ : L2.St} {s : Shared}
theorem out_has (hfn : ∀ x, X.fn x = true) : ∀ (js : List Nat) {H0 H : Hp}, (∀ j ∈ js, ∃ x v, X.N[j]? = some x ∧ σ[j]? = some (some v) ∧ X.env.scope.names.lookup x = some .cell) → js.Nodup → X.N.Nodup →
    Inv X pl σ H0 s → Un X.fs X.ex X.H_0 H X.s_0.heap s.heap → HOk X.prog X.w H s.heap → (∀ j ∈ js, ∀ x c, X.N[j]? = some x → X.env.cells.lookup x = some c → H c = none) →
    ∃ H', Out X σ js H H' ∧ Un X.fs X.ex X.H_0 H' X.s_0.heap s.heap ∧ HOk X.prog X.w H' s.heap
  | [], H0, H, _, _, _, _, u, ok, _ => ⟨H, rfl, u, ok⟩
  | j :: js, H0, H, hj, nj, nN, I, u, ok, hn => by
    obtain ⟨x, v, h1, h2, h3⟩ := hj j List.mem_cons_self
    obtain ⟨m, hns, hl⟩ := id I.loc
    obtain ⟨uu, r, q⟩ := hl j x v h1 h2 (.inr (.inl h3))
    obtain ⟨c, e, z⟩ : ∃ c, X.env.cells.lookup x = some c ∧ s.heap.IsCell c (some uu) := by
      rcases q with ⟨k, _⟩ | ⟨_, c, e, z⟩
      · have k : X.env.scope.names.lookup x = some .local := k
        rw [h3] at k
        cases k
      · exact ⟨c, e, z⟩
    have nc := hn j List.mem_cons_self x c h1 e
    have ge : X.s_0.heap.objs.size ≤ c := I.ok.cab x c (hfn x) e
    have old : ∀ {b : Addr} {o : Obj}, X.s_0.heap.get? b = some o → b ≠ c := fun {b o} q => Nat.ne_of_lt (Nat.lt_of_lt_of_le (Heap.lt_size q) ge)
    have u2 : Un X.fs X.ex X.H_0 (upd H c (CellO c v)) X.s_0.heap s.heap := ⟨u.keep, u.slot, fun b o q n hx => by rw [upd_ne (old q)]; exact u.free b o q n hx, u.there,
      fun b xs q => by rw [upd_ne (ne_of_none (u.tups b xs q) nc)]; exact u.tups b xs q, fun b o w q => by rw [upd_ne (ne_of_none (u.frzs b o w q) nc)]; exact u.frzs b o w q, fun b ps q => by
        obtain ⟨more, y⟩ := u.tbls b ps q
        exact ⟨more, by rw [upd_ne (ne_of_none y nc)]; exact y⟩⟩
    have ok2 : HOk X.prog X.w (upd H c (CellO c v)) s.heap := fun b o q => by
      by_cases hb : b = c
      · subst hb
        rw [upd_same] at q
        cases q
        exact cellO_ok ⟨uu, r, z⟩
      · rw [upd_ne hb] at q
        exact (ok b o q).stay (fun _ _ _ y => y) (fun d y => by rw [upd_ne (ne_of_none y nc)]; exact y) fun d xs y => by rw [upd_ne (ne_of_none y nc)]; exact y
    obtain ⟨nj1, nj2⟩ := List.nodup_cons.mp nj
    obtain ⟨H', o1, o2, o3⟩ := out_has hfn js (H := upd H c (CellO c v)) (fun i hi => hj i (List.mem_cons_of_mem _ hi)) nj2 nN I u2 ok2 fun i hi y d hy hd => by
      have ne : d ≠ c := fun q => by
        rw [q] at hd
        have e3 := I.ok.inj y x c hd e
        rw [e3] at hy
        exact nj1 (by rw [nodup_ix nN h1 hy]; exact hi)
      rw [upd_ne ne]
      exact hn i (List.mem_cons_of_mem _ hi) y d hy hd
    exact ⟨H', ⟨x, c, v, h1, e, h2, nc, o1⟩, o2, o3⟩
end
section
variable {P : Program} {w : World} {K : PySem.W.Frag} {mg : Str → Option Value} {base : Heap}
theorem Df.clO {x : Str} {st : Stmt} {N ps : List Str} {k : Nat} {sp : Sp} {js : List Nat} (F : Df K mg x st ps) (S : FnScope N ps (defScope st)) (len : ∀ vs H Q E, sp vs H Q E → vs.length = ps.length) (nj : js.Nodup)
    (hbody : ∀ (f : Addr) (cdv : Value) (A : Around) (outer : List Env) (s : Shared) (H : Hp) (vs : List V) (Q : VK) (E : XK), (∃ (oc : Value) (od : Option Addr) (osl : Array (Option Value)) (kV doc pm ct : Value) (an : Option Addr),
        K.lookup f = some ⟨oc, od, .func (PySem.W.fnOf x x (defArgs st) (defBody st) (defScope st) .none kV doc pm an cdv ct), osl⟩) → PySem.W.codeIn K cdv x = true → mg x = some (.ref f) → Room k (A.deeper (envOfC x (defScope st) s.heap.objs.size f cdv)) → sp vs H Q E →
      ∃ t, PSr (cxOf CX0 P w K mg base N x (defScope st) f cdv A outer s H E).nox (defBody st) t ∧ t (fun v τ G => (∀ j ∈ js, ∃ y u, N[j]? = some y ∧ τ[j]? = some (some u) ∧ (defScope st).names.lookup y = some .cell) ∧
        ∀ G', Out (cxOf CX0 P w K mg base N x (defScope st) f cdv A outer s H E).nox τ js G G' → Q v G') (start N vs) H) : Cl P w K mg base (k + 1) x sp := by
  obtain ⟨f, fd, F0, g, b⟩ := F.ex
  refine ⟨f, fd, ps, ?_, g, F0.kp, b⟩
  obtain ⟨oc, od, kV, doc, pm, an, cdv, ct, osl, rfl, lk, hcd⟩ := F0.ex
  refine ⟨len, fun A outer s H args us vs Q E hr e0 hb r hsp => ?_⟩
  have hl := len _ _ _ _ hsp
  have KX : K.In s.heap := e0.mod.kin.keeps fun b o e => (e0.bs b o e).1
  have lim : s.heap.NoLimit := e0.mod.nolimit.keeps fun b o e => (e0.bs b o e).1
  have hkind : ∀ y ∈ ps.zip us, (defScope st).names.lookup y.1 = some .local ∨ ((defScope st).names.lookup y.1 = some .cell ∧ ((cellsFrom (s.heap.objs.size + 1) (defScope st).names []).lookup y.1).isSome = true) := fun ⟨n, v⟩ hy => by
    rcases S.par n (List.of_mem_zip hy).1 with q | q
    · exact .inl q
    · exact .inr ⟨q, PySem.W.cellsFrom_some _ _ _ (.inl q)⟩
  refine codeAny_call_function hr.depth (KX _ _ lk) rfl S.co S.gen rfl (PySem.W.codeRec_of KX hcd) (hb _ _ _ _ ?_)
  refine wpAny_newFunctionEnv_cells S.kind hkind fun env he s1 hin => ?_
  subst he
  refine ⟨lim.keeps hin.toInCall.keep, codeAny_func ?_⟩
  obtain ⟨t, ht, hq⟩ := hbody f cdv A outer s H vs Q E ⟨oc, od, osl, kV, doc, pm, ct, an, lk⟩ hcd g (hr.deeper _) hsp
  have I : Inv (cxOf CX0 P w K mg base N x (defScope st) f cdv A outer s H E) [] (start N vs) H s1 := inv_start S hr.hd e0 hl r hin
  refine wpAny_mono (ht.run [] s1 (start N vs) H _ (I.wish _) hq) (fun fl s' hs => ?_) fun e s' z => z.elim
  obtain ⟨u, v, τ, G, e, J, rv, hj, q⟩ := hs
  subst e
  obtain ⟨G', o1, o2, o3⟩ := out_has (fun _ => rfl) js hj nj S.nd J J.base J.hok fun j _ y c _ hc => J.freeC y c hc
  exact ⟨v, G', J.os, J.bare, o2, o3, rv, q G' o1⟩
end
end Sg
/-! Signsets: refusals: defs that raise, own error classes over one another, an own __init__ that says Base.__init__(self, x). -/
namespace Sg
open PySem PySem.Spec PyProof.Rows L2
section
variable {P : Program} {w : World} {K : PySem.W.Frag} {mg : Str → Option Value} {base : Heap}
/-- a def that may raise, called by its name -/
structure ClX (P : Program) (w : World) (K : PySem.W.Frag) (mg : Str → Option Value) (base : Heap) (k : Nat) (x : Str) (sp : Sp) : Prop where
  ex : ∃ (f : Addr) (fd : FuncData) (ps : List Str), FnOk P w K mg base (L2N.CX P w) k f fd ps sp ∧ mg x = some (.ref f) ∧ PySem.W.keepIn K (.ref f) = true ∧ Binds K fd ps []
theorem Df.clX {x : Str} {st : Stmt} {N ps : List Str} {k : Nat} {sp : Sp} (F : Df K mg x st ps) (S : FnScope N ps (defScope st)) (len : ∀ vs H Q E, sp vs H Q E → vs.length = ps.length)
    (hbody : ∀ (f : Addr) (cdv : Value) (A : Around) (outer : List Env) (s : Shared) (H : Hp) (vs : List V) (Q : VK) (E : XK), Room k (A.deeper (envOfC x (defScope st) s.heap.objs.size f cdv)) → sp vs H Q E →
      ∃ t, PSs (cxOf (L2N.CX P w) P w K mg base N x (defScope st) f cdv A outer s H E) (defBody st) t ∧ t { nx := fun _ H' => Q .non H', rt := Q } (start N vs) H) : ClX P w K mg base (k + 1) x sp := by
  obtain ⟨f, fd, F0, g, b⟩ := F.ex
  refine ⟨f, fd, ps, ?_, g, F0.kp, b⟩
  obtain ⟨oc, od, kV, doc, pm, an, cdv, ct, osl, rfl, lk, hcd⟩ := F0.ex
  exact fn_of lk hcd S len fun A outer s H vs Q E hr hsp => hbody f cdv A outer s H vs Q E hr hsp
theorem ClX.imp {x : Str} {k : Nat} {sp sp' : Sp} (c : ClX P w K mg base k x sp) (h : ∀ vs H Q E, sp' vs H Q E → sp vs H Q E) : ClX P w K mg base k x sp' := by
  obtain ⟨f, fd, ps, F, a, b, d⟩ := c.ex
  exact ⟨f, fd, ps, F.imp h, a, b, d⟩
end
section
variable {X : Cx} {k j : Nat} {x : Str} {sp : Sp} {E : XK} {p pos : Pos} {e : Expr} {es : List Expr} {t : TA}
theorem pe_kX (c : ClX X.prog X.w X.K X.mg X.base k x sp) (hr : Room j X.A) (tk : L2N.Takes X fun cls d _ H => E cls d H) (ha : PA X (e :: es) t) (hk : k ≤ j := by decide) (hg : Gl X x := by rfl)
    (hdb : (x == ("__debug__" : Str)) = false := by decide) (he : starEach (e :: es) X.env = (false, eval e X.env) :: starEach es X.env := by rfl) (hpl : (backTo pos (starEach es X.env)).any (·.1) = false := by rfl) :
    PE X (.Call (.Name x p) (e :: es) [] pos) (tCall sp [] E t) := by
  obtain ⟨f, fd, ps, F, hm, kp, b⟩ := c.ex
  exact pe_call F (hr.mono hk) hg hm kp b .nil (L2N.passes_call tk fun _ _ _ _ h => h) ha hdb he hpl
end
/-! ### Base.__init__(self, ..), Base an own class over ValueError without an __init__ of its own -/
structure BaseI (K : PySem.W.Frag) (CS : Addr) : Prop where
  rd : PySem.W.readsIn K CS (.type "type") = true
  fi : PySem.W.findCls K (.ref CS) (.type "type") "__init__" = some (.val (.builtin "ValueError.__init__"))
  sp : PySem.W.specialIn K (.ref CS) "__getattribute__" = some (some (.builtin "type.__getattribute__"))
section
variable {X : Cx} {e : Expr} {es : List Expr} {ta : TA} {p1 p2 pos : Pos} {x : Str} {CS : Addr}
theorem pe_baseI {pl : Sem Bool} (b : BaseI X.K CS) (hg : Gl X x) (hm : X.mg x = some (.ref CS)) (ha : PA X (e :: es) ta) (hdb : (x == ("__debug__" : Str)) = false := by decide)
    (hc : eval (.Call (.Attribute (.Name x p1) "__init__" p2) (e :: es) [] pos) X.env = (do
      let ov ← eval (.Name x p1) X.env
      standAt p2.atName
      let (f, first) ← holding [ov] (getMethod ov "__init__" pl)
      callWith pos f first (backTo pos (starEach (e :: es) X.env)) (backToKw pos (keywordEach [] X.env))) := by rfl)
    (he : starEach (e :: es) X.env = (false, eval e X.env) :: starEach es X.env := by rfl) (hpl : (backTo pos (starEach es X.env)).any (·.1) = false := by rfl) :
    PE X (.Call (.Attribute (.Name x p1) "__init__" p2) (e :: es) [] pos) (tVeI X.K ta) := by
  refine ⟨fun pl s σ H Q I h => ?_⟩
  refine PySem.W.methodCall_KW (ld_glob I hg hm ?_ hdb) hc
  refine PySem.W.method_cls I.kIn b.sp (PySem.W.cls_value I.kIn b.rd b.fi (by decide +kernel) ?_)
  show wpAny _ _ (callWith pos (Value.builtin "ValueError.__init__") [] (backTo pos (starEach (e :: es) X.env)) []) _ _ _
  refine PyProof.Rows.callWith_method1 (thn (ha.run pos pl _ σ H _ (I.tok _) h) fun us s1 hu => ?_) he hpl
  obtain ⟨vs, H1, I1, r1, a, C, ws, ev, hl, T, ea, q⟩ := hu
  subst ev
  cases r1 with
  | @cons _ u0 _ ur ra rw' =>
    obtain rfl : u0 = Value.ref a := ra
    have hlen : ur.length ≤ sizeLine := by
      rw [← Paired.length rw', sizeLine_eq]
      omega
    exact oinit_ok T I1 ea hlen fun s' J => ⟨.non, H1, J, rfl, q⟩
end
/-! ### C(e, ..), C with an __init__ of its own: an error whose context is None -/
section
variable {X : Cx} {e : Expr} {es : List Expr} {ta : TA} {p pos : Pos} {x : Str} {C fI : Addr} {k : Nat} {fd : FuncData} {ps : List Str} {sp : Sp}
theorem pmk_ini (T : OexC X.K C) (iC : PySem.W.findIn X.K (.ref C) "__init__" = some (some (.ref fI))) (tI : PySem.W.typeIn X.K (.ref fI) = some (.type "function")) (F1 : FnOk X.prog X.w X.K X.mg X.base CX0 k fI fd ps sp) (hr : Room (k + 1) X.A)
    (hb : Binds X.K fd ps []) (hg : Gl X x) (hm : X.mg x = some (.ref C)) (ha : PA X (e :: es) ta)
    (hdb : (x == ("__debug__" : Str)) = false := by decide) (he : starEach (e :: es) X.env = (false, eval e X.env) :: starEach es X.env := by rfl) (hpl : (backTo pos (starEach es X.env)).any (·.1) = false := by rfl) :
    L2N.PMk X (.Call (.Name x p) (e :: es) [] pos) (tMkO C sp [] ta) := by
  intro pl s σ H Q I h
  obtain ⟨nm, q, N, bs, bm, sn, sub, ab, col, dd, k0, k1, k2, k3, k5, hC, hbm⟩ := T.cls
  refine wpAny_Call_Name_kw (ld_glob I hg hm ?_ hdb)
  refine PySem.W.callWith_K (h₀ := X.base) I.ok.mod.kin T.kC (thn (ha.run pos pl s σ H _ I h) fun us s1 hu => ?_) he hpl
  obtain ⟨vs, H1, I1, r1, hz, q1⟩ := hu
  refine ⟨I1.kIn, ?_⟩
  show wpAny _ _ (call (.ref C) us) _ _ _
  obtain ⟨hp, g, dr, tk, os⟩ := s1
  have n1 : hp.objs.size ≤ hp.objs.size + 1 := Nat.le_succ _
  have hq := q1 (hp.objs.size + 1) (I1.hok.fresh n1)
  rw [List.append_nil] at hq
  have kk : ∀ b o, hp.get? b = some o → ((hp.push (PySem.W.kdv_tup us)).push (PySem.HandSPX.excO C hp.objs.size)).get? b = some o := fun b o z => Heap.get?_push_of_some _ (Heap.get?_push_of_some _ z)
  have at1 : ((hp.push (PySem.W.kdv_tup us)).push (PySem.HandSPX.excO C hp.objs.size)).get? (hp.objs.size + 1) = some (PySem.HandSPX.excO C hp.objs.size) := by heap_get
  have I2 := I1.laid (t' := tk) (a := hp.objs.size + 1) (o := exo (hp.objs.size + 1) C none) (h' := (hp.push (PySem.W.kdv_tup us)).push (PySem.HandSPX.excO C hp.objs.size)) kk n1 (exo_ok at1)
  have r2 : Vals (V.ref (hp.objs.size + 1) :: vs) (Value.ref (hp.objs.size + 1) :: us) := .cons rfl r1
  have hl : (Value.ref (hp.objs.size + 1) :: us ++ []).length = ps.length := by
    rw [List.append_nil, ← r2.length]
    exact F1.len _ _ _ _ hq
  have hus : us.length ≤ sizeLine := by
    rw [← Paired.length r1, sizeLine_eq]
    omega
  have b2 := hb _ (Value.ref (hp.objs.size + 1) :: us) I2.kIn hl
  rw [List.append_nil] at b2
  refine wpAny_call (PySem.HandSPX.call_own F.excBase_ValueError (fun Y => PySem.HandSPX.refsVE_contains Y bm hbm) (I1.kIn _ _ hC) (PySem.W.looks_findIn I1.kIn iC) (fun self => PySem.W.bind_fn I1.kIn self tI) hus
    (codeAny_mono (F1.run _ X.stack _ _ ⟨Value.ref (hp.objs.size + 1) :: us, []⟩ _ _ _ (fun _ _ _ => False) (hr.make C us []) (I2.env0.make C us []) b2 r2 hq) fun r s' hq' => ?_))
  cases r with
  | error er => exact False.elim hq'
  | ok fl =>
    cases fl with
    | ret u =>
      obtain ⟨v, H2, os2, bare2, un2, hok2, rv, ev, d, fs, ea, ed, hd1, q2⟩ := hq'
      subst ev
      obtain ⟨h2, g2, d2, t2, os'⟩ := s'
      obtain ⟨t0, G, J, kG, ge, hoe, na⟩ := mk_end0 (d2 := d2) (t2 := t2) I1 n1 kk un2 hok2 os2 bare2 ea ed hd1
      refine ⟨rv, ⟨hp.objs.size + 1, _, _, ⟨G, g2, d2, t2, os'⟩, _, .ref C, some d, rfl, J, kG, ge, hoe, ⟨rfl, rfl, fun va hv => ?_⟩, rfl, rfl, na, rfl, bare2, raises_own T.exC T.tyC, q2⟩⟩
      cases hv
      rfl
    | next => exact False.elim hq'
    | brk => exact False.elim hq'
    | cont => exact False.elim hq'
end
/-! ### isinstance(e, C), e the caught error -/
/-- the error a of the class cls, its dict d -/
def rIsX (K : PySem.W.Frag) (cls : Value) (d : Option Addr) (a : Addr) : List V → Hp → VK → Prop := fun xs H Q => ∃ (D : Addr) (c : V) (cv : Value) (b : Bool), cls = .ref D ∧ ExcC K D ∧ (∀ dd, d = some dd → ∃ fs, H dd = some (.xd fs)) ∧
  xs = [.ref a, c] ∧ (∀ u, RelV c u → u = cv) ∧ PySem.W.kitOne K (.ref D) cv = some b ∧ Q (.bl b) H
theorem isX {X : Cx} {a : Addr} {cls : Value} {d : Option Addr} {oe : Obj} {pn : List (Addr × Obj)} (hz : Zc cls d oe) (hf : ∃ vs, oe.data = .fields vs) : CallR (X.suite a ((a, oe) :: pn)) (.builtin "isinstance") (rIsX X.K cls d a) := by
  intro pl s σ H xs us Q I r h
  obtain ⟨D, c, cv, b, rfl, C, hd, rfl, hcv, e, q⟩ := h
  cases r with
  | cons rx rr =>
    cases rr with
    | cons rt rr =>
      cases rr
      cases rx
      have ec := hcv _ rt
      subst ec
      obtain ⟨hget, _⟩ := I.pin (a, oe) (List.mem_append_left _ List.mem_cons_self)
      obtain ⟨va, hv⟩ := hf
      obtain ⟨h1, h2⟩ := hz
      obtain ⟨cd, hcd, _⟩ := PySem.W.any_some C.hd
      obtain ⟨od, J⟩ : ∃ od, PySem.W.InstAt s.heap a oe D od := by
        cases d with
        | none => exact ⟨none, hget, h1, by unfold PySem.W.notCls; rw [hv] <;> rfl, by rw [h2]; trivial⟩
        | some dd =>
          obtain ⟨fs, hx⟩ := hd dd rfl
          obtain ⟨mA, ⟨o, es, ep, ho, _⟩, _⟩ := I.hok dd _ hx
          exact ⟨some o, hget, h1, by unfold PySem.W.notCls; rw [hv] <;> rfl, by rw [h2]; exact ho⟩
      exact PySem.W.kia_one (PySem.W.kitx_exc (by rw [hcd]; rfl) C.hg C.hk C.hs C.ha C.hn C.ht C.hm) I.kIn J e (fun z => nomatch z) fun tk => ⟨.bl b, H, I.kept (t' := tk) fun _ _ z => z, rfl, q⟩
end Sg
/-! Signsets: the head's facts with tables left out, error classes, the statics; the end with tables. -/
namespace Sg
open PySem PySem.Spec PyProof.Rows L2
/-! ### the hook -/
def asY (g : Addr → Option Obj) (n : Nat) : List Addr := He.asD g n ++ [cStatics]
def frY (g : Addr → Option Obj) (n : Nat) : PySem.W.Frag := He.frT g (asY g n)
structure SaysY (fa : List He.Fa) (fn : List He.DefD) (tf : List He.Defn) (ex : PySem.W.Frag → Bool) (h : Heap) (K : PySem.W.Frag) : Prop where
  d : He.SaysD fa fn K
  more : ex K = true
  hd : ∀ p ∈ tf, PySem.W.codeHdIn K (He.cT K p).1 (He.cT K p).2 = true
  out : ∀ p ∈ tf, K.lookup (He.cT K p).2 = none
  empty : ∀ p ∈ tf, h.get? (He.cT K p).2 = some { cls := .none, data := .fields #[] }
abbrev AlY : Type := He.AlD × Bool
def obsY (n : Nat) (fa : List He.Fa) (fn : List He.DefD) (tf : List He.Defn) (ex : PySem.W.Frag → Bool) (g : Addr → Option Obj) : AlY := (He.obsD fa fn (frY g n), ex (frY g n) && He.tabsB g tf (frY g n))
def valY (fn : List He.DefD) : AlY := (He.valD fn, true)
theorem saysY_of {n : Nat} {fa : List He.Fa} {fn : List He.DefD} {tf : List He.Defn} {ex : PySem.W.Frag → Bool} {h : Heap} (e : obsY n fa fn tf ex h.get? = valY fn) : SaysY fa fn tf ex h (frY h.get? n) := by
  have e1 : He.obsD fa fn (frY h.get? n) = He.valD fn := congrArg (fun z : AlY => z.1) e
  have e2 : (ex (frY h.get? n) && He.tabsB h.get? tf (frY h.get? n)) = true := congrArg (fun z : AlY => z.2) e
  obtain ⟨h1, h2⟩ := He.ba e2
  have key : ∀ p ∈ tf, PySem.W.codeHdIn (frY h.get? n) (He.cT (frY h.get? n) p).1 (He.cT (frY h.get? n) p).2 = true ∧ ∃ o, h.get? (He.cT (frY h.get? n) p).2 = some o ∧ He.emptyTab o = true := fun p hp => by
    obtain ⟨h3, h4⟩ := He.ba (List.all_eq_true.mp h2 p hp)
    refine ⟨h3, ?_⟩
    cases q : h.get? (He.cT (frY h.get? n) p).2 with
    | none =>
      rw [q] at h4
      cases h4
    | some o =>
      rw [q] at h4
      exact ⟨o, rfl, h4⟩
  refine ⟨e1, h1, fun p hp => (key p hp).1, fun p hp => ?_, fun p hp => ?_⟩
  · obtain ⟨_, o, q, z⟩ := key p hp
    exact He.frT_none q z
  · obtain ⟨_, o, q, z⟩ := key p hp
    rw [q, He.emptyTab_eq z]
def hookY (n : Nat) (fa : List He.Fa) (fn : List He.DefD) (tf : List He.Defn) (ex : PySem.W.Frag → Bool) : PySem.W.Hook where
  α := AlY
  obs := fun s => obsY n fa fn tf ex s.heap.get?
  val := fun _ => valY fn
  says := fun _ h => ∃ K : PySem.W.Frag, K.In h ∧ SaysY fa fn tf ex h K
  of := fun _ _ e => ⟨_, He.frT_in, saysY_of e⟩
  keeps := fun _ _ _ ⟨K, hK, c⟩ k => ⟨K, PySem.W.Frag.In.keeps hK k, ⟨c.d, c.more, c.hd, c.out, fun p hp => k _ _ (c.empty p hp)⟩⟩
theorem obsY_eq {n : Nat} {fa : List He.Fa} {fn : List He.DefD} {tf : List He.Defn} {ex : PySem.W.Frag → Bool} {g : Addr → Option Obj} {s : Shared} (h : ∀ a, g a = s.heap.get? a) : obsY n fa fn tf ex g = (hookY n fa fn tf ex).obs s := by
  have e : g = s.heap.get? := funext h
  rw [e] <;> rfl
/-! ### error classes -/
def oexB (K : PySem.W.Frag) (C : Addr) : Bool := match K.lookup C with
  | some ⟨.type "type", _, .cls cd, sl⟩ => (match cd.mro, sl.toList with
    | .ref C' :: bm, [_, _, _, _, some (.builtin n), _] => C' == C && n == "ValueError.__new__" && !cd.hasDel && cd.hasDict && PySem.HandSPX.refsVE bm
    | _, _ => false)
  | _ => false
theorem oexB_ok {K : PySem.W.Frag} {C : Addr} (q : oexB K C = true) :
    ∃ nm qn N bs bm sn sub ab col dd k0 k1 k2 k3 k5, K.lookup C = some (excClassObj nm qn C N bs bm true sn sub ab col dd k0 k1 k2 k3 k5 "ValueError.__new__") ∧ PySem.HandSPX.refsVE bm = true := by
  unfold oexB at q
  split at q
  · rename_i dd cd sl ho
    split at q
    · rename_i C' bm k0 k1 k2 k3 n k5 hm hs
      simp only [Bool.and_eq_true, beq_iff_eq, Bool.not_eq_true'] at q
      obtain ⟨⟨⟨⟨rfl, rfl⟩, hdel⟩, hdi⟩, hv⟩ := q
      obtain ⟨nm, bs, mro, ns, qn, hd, sn, sub, ab, col, del⟩ := cd
      dsimp only at hm hdel hdi
      subst hm hdel hdi
      have hsl : sl = #[k0, k1, k2, k3, some (.builtin "ValueError.__new__"), k5] := by
        obtain ⟨l⟩ := sl
        simp only at hs
        rw [hs]
      subst hsl
      exact ⟨nm, qn, ns, bs, bm, sn, sub, ab, col, dd, k0, k1, k2, k3, k5, ho, hv⟩
    · cases q
  · cases q
def eqB (a b : Option Bool) : Bool := decide (a = b)
/-- what isinstance and the fields ask of a class -/
def isB (K : PySem.W.Frag) (x : Str) : Bool := He.eqO (PySem.W.findIn K (.ref (He.ga K x)) "__getattribute__") (some (some (.builtin "BaseException.__getattribute__"))) && (He.eqO (PySem.W.findIn K (.ref (He.ga K x)) "__getattr__") (some none) &&
  (eqB (PySem.W.subIn K (.ref (He.ga K x)) (.type "BaseException")) (some true) && (PySem.W.hasDictIn K (He.ga K x) && (He.eqO (PySem.W.findIn K (.ref (He.ga K x)) "__class__") (some (some (.builtin "object.__class__"))) &&
  (He.eqO (PySem.W.specialIn K (.builtin "object.__class__") "__get__") (some (some (.builtin "getset_descriptor.__get__"))) && (eqB (PySem.W.takesIn K (.builtin "object.__class__")) (some true) && eqB (PySem.W.mroIn K (He.ga K x) (.type "object")) (some true)))))))
theorem isB_ok {K : PySem.W.Frag} {x : Str} (h : isB K x = true) : ExcC K (He.ga K x) ∧ XfC K (He.ga K x) := by
  obtain ⟨h1, h⟩ := He.ba h
  obtain ⟨h2, h⟩ := He.ba h
  obtain ⟨h3, h⟩ := He.ba h
  obtain ⟨h4, h⟩ := He.ba h
  obtain ⟨h5, h⟩ := He.ba h
  obtain ⟨h6, h⟩ := He.ba h
  obtain ⟨h7, h8⟩ := He.ba h
  exact ⟨⟨He.eqO_ok h1, He.eqO_ok h2, of_decide_eq_true h3, h4, He.eqO_ok h5, He.eqO_ok h6, of_decide_eq_true h7, of_decide_eq_true h8⟩, ⟨He.eqO_ok h1, He.eqO_ok h2, of_decide_eq_true h3, h4⟩⟩
/-- a class with an __init__ of its own, fields fs -/
def iniB (K : PySem.W.Frag) (x : Str) (fs : List Str) : Bool := oexB K (He.ga K x) && (He.eqO (PySem.W.findIn K (.ref (He.ga K x)) "__setattr__") (some (some (.builtin "object.__setattr__"))) && (eqB (PySem.W.subIn K (.ref (He.ga K x)) (.type "BaseException")) (some true) &&
  (decide (PySem.W.typeIn K (.ref (He.ga K x)) = some (.type "type")) && (PySem.W.keepIn K (.ref (He.ga K x)) && (He.eqO (PySem.W.findIn K (.ref (He.ga K x)) "__init__") (some (some (.ref (He.ma K (He.ga K x) "__init__")))) &&
  (decide (PySem.W.typeIn K (.ref (He.ma K (He.ga K x) "__init__")) = some (.type "function")) && fs.all fun f => He.eqO (PySem.W.findIn K (.ref (He.ga K x)) f) (some none)))))))
structure IniC (K : PySem.W.Frag) (C fI : Addr) (fs : List Str) : Prop where
  o : OexC K C
  i : PySem.W.findIn K (.ref C) "__init__" = some (some (.ref fI))
  t : PySem.W.typeIn K (.ref fI) = some (.type "function")
  f : ∀ f ∈ fs, PySem.W.findIn K (.ref C) f = some none
theorem iniB_ok {K : PySem.W.Frag} {x : Str} {fs : List Str} (h : iniB K x fs = true) : IniC K (He.ga K x) (He.ma K (He.ga K x) "__init__") fs := by
  obtain ⟨h1, h⟩ := He.ba h
  obtain ⟨h2, h⟩ := He.ba h
  obtain ⟨h3, h⟩ := He.ba h
  obtain ⟨h4, h⟩ := He.ba h
  obtain ⟨h5, h⟩ := He.ba h
  obtain ⟨h6, h⟩ := He.ba h
  obtain ⟨h7, h8⟩ := He.ba h
  exact ⟨⟨oexB_ok h1, He.eqO_ok h2, of_decide_eq_true h3, of_decide_eq_true h4, h5⟩, He.eqO_ok h6, of_decide_eq_true h7, fun f hf => He.eqO_ok (List.all_eq_true.mp h8 f hf)⟩
def isVal (o : Option PySem.W.CFound) (u : Value) : Bool := match o with
  | some (.val v) => decide (v = u)
  | _ => false
theorem isVal_ok {o : Option PySem.W.CFound} {u : Value} (h : isVal o u = true) : o = some (.val u) := by
  unfold isVal at h
  split at h
  · rw [of_decide_eq_true h]
  · cases h
def baseB (K : PySem.W.Frag) (x : Str) : Bool := PySem.W.readsIn K (He.ga K x) (.type "type") && (isVal (PySem.W.findCls K (.ref (He.ga K x)) (.type "type") "__init__") (.builtin "ValueError.__init__") &&
  He.eqO (PySem.W.specialIn K (.ref (He.ga K x)) "__getattribute__") (some (some (.builtin "type.__getattribute__"))))
theorem baseB_ok {K : PySem.W.Frag} {x : Str} (h : baseB K x = true) : BaseI K (He.ga K x) := by
  obtain ⟨h1, h⟩ := He.ba h
  obtain ⟨h2, h3⟩ := He.ba h
  exact ⟨h1, isVal_ok h2, He.eqO_ok h3⟩
def kitB (K : PySem.W.Frag) (x : Str) (c : Value) (b : Bool) : Bool := eqB (PySem.W.kitOne K (.ref (He.ga K x)) c) (some b)
end Sg
/-! Signsets: refusals in plain words; heaps with lambdas. -/
namespace Sg
open PySem PySem.Spec PyProof.Rows L2
/-- a refusal -/
inductive Kd where
  | size | number
  | set (num at_ : Int)
/-- it is thrown from the heap H on -/
def Thr (K : PySem.W.Frag) (kd : Kd) (H : Hp) (E : XK) : Prop := match kd with
  | .size => ∀ H', Same H H' → E (.ref (He.ga K "BadSize")) none H'
  | .number => ∀ H', Same H H' → E (.ref (He.ga K "BadNumber")) none H'
  | .set num i => ∀ H' d, Same H H' → H d = none → H' d = some (.xd [("at", .int i), ("number", .int num)]) → E (.ref (He.ga K "BadSet")) (some d) H'
theorem Thr.mono {K : PySem.W.Frag} {kd : Kd} {H H1 : Hp} {E : XK} (h : Thr K kd H E) (s : Same H H1) : Thr K kd H1 E := by
  cases kd with
  | size => exact fun H' s' => h H' (s.trans s')
  | number => exact fun H' s' => h H' (s.trans s')
  | set num i => exact fun H' d s' nd e => h H' d (s.trans s') (s.free nd) e
def Good (n : Int) (r : Int × Int) : Prop := 0 ≤ r.1 ∧ r.1 ≤ r.2 ∧ r.2 < n
instance (n : Int) (r : Int × Int) : Decidable (Good n r) := by unfold Good; infer_instance
def SizeOk (n : Int) : Prop := 1 ≤ n ∧ n ≤ 64
/-- the first range that cannot be is R's i-th -/
structure BadAt (n : Int) (R : List (Int × Int)) (i : Nat) : Prop where
  before : ∀ j r, j < i → R[j]? = some r → j < 40 ∧ Good n r
  here : ∃ r, R[i]? = some r ∧ (40 ≤ i ∨ ¬ Good n r)
def Bad1 (n : Int) (R : List (Int × Int)) (kd : Kd) : Prop := (¬ SizeOk n ∧ kd = .size) ∨ (SizeOk n ∧ ∃ i : Nat, BadAt n R i ∧ kd = .set 0 i)
def BadS (n : Int) (SS : List (List (Int × Int))) (kd : Kd) : Prop := (¬ SizeOk n ∧ kd = .size) ∨ (SizeOk n ∧ ∃ (k i : Nat) (R : List (Int × Int)), (∀ j R', j < k → SS[j]? = some R' → Ok n R') ∧ SS[k]? = some R ∧ BadAt n R i ∧ kd = .set k i)
/-! ### heaps in which only tables have changed -/
theorem extN_seq {K : PySem.W.Frag} {H H' : Hp} {a : Addr} {xs : List V} (e : LamX.ExtN H H') (h : SqL K H a xs) : SqL K H' a xs := by
  rcases h with (h | ⟨o, h⟩) | h
  · exact .inl (.inl (e _ _ h fun ps z => by cases z))
  · exact .inl (.inr ⟨o, e _ _ h fun ps z => by cases z⟩)
  · exact .inr h
theorem extN_tup {K : PySem.W.Frag} {H H' : Hp} {a : Addr} {xs : List V} (e : LamX.ExtN H H') (h : SqT K H a xs) : SqT K H' a xs := by
  rcases h with (h | ⟨o, h⟩) | h
  · exact .inl (.inl (e _ _ h fun ps z => by cases z))
  · exact .inl (.inr ⟨o, e _ _ h fun ps z => by cases z⟩)
  · exact .inr h
mutual
theorem extN_dp {K : PySem.W.Frag} {H H' : Hp} (e : LamX.ExtN H H') : ∀ {v : V} {d : PyData}, Dp K H v d → Dp K H' v d
  | _, _, .non => .non
  | _, _, .bl b => .bl b
  | _, _, .int i => .int i
  | _, _, .str x => .str x
  | _, _, .lst h a => .lst (extN_seq e h) (extN_dpAll e a)
  | _, _, .tup h a => .tup (extN_tup e h) (extN_dpAll e a)
theorem extN_dpAll {K : PySem.W.Frag} {H H' : Hp} (e : LamX.ExtN H H') : ∀ {vs : List V} {ds : List PyData}, DpAll K H vs ds → DpAll K H' vs ds
  | _, _, .nil => .nil
  | _, _, .cons h a => .cons (extN_dp e h) (extN_dpAll e a)
end
/-! ### a heap without the things told by a word -/
def bare (H : Hp) : Hp := fun b => match H b with
  | some (.ext _) => none
  | o => o
theorem bare_ext {H : Hp} {b : Addr} {φ : Heap → Prop} (h : H b = some (.ext φ)) : bare H b = none := by
  unfold bare
  rw [h]
theorem bare_of {H : Hp} {b : Addr} {o : HO} (h : H b = some o) (ne : ∀ φ, o ≠ .ext φ) : bare H b = some o := by
  unfold bare
  rw [h]
  cases o <;> first | rfl | exact absurd rfl (ne _)
theorem bare_none {H : Hp} {b : Addr} (h : H b = none) : bare H b = none := by
  unfold bare
  rw [h]
theorem less_bare (H : Hp) : Less H (bare H) := fun b => by
  cases h : H b with
  | none => exact .inl (bare_none h)
  | some o =>
    cases o with
    | ext φ => exact .inr ⟨bare_ext h, φ, rfl⟩
    | _ => exact .inl (bare_of h fun φ z => by cases z)
theorem took_bare {H : Hp} {B : Heap} (t : TookB H (bare H) B) : ∀ b φ, H b = some (.ext φ) → φ B := fun b φ h => t b φ h (bare_ext h)
theorem bare_seq {K : PySem.W.Frag} {H : Hp} {a : Addr} {xs : List V} (h : SqL K H a xs) : SqL K (bare H) a xs := by
  rcases h with (h | ⟨o, h⟩) | h
  · exact .inl (.inl (bare_of h fun φ z => by cases z))
  · exact .inl (.inr ⟨o, bare_of h fun φ z => by cases z⟩)
  · exact .inr h
theorem bare_tup {K : PySem.W.Frag} {H : Hp} {a : Addr} {xs : List V} (h : SqT K H a xs) : SqT K (bare H) a xs := by
  rcases h with (h | ⟨o, h⟩) | h
  · exact .inl (.inl (bare_of h fun φ z => by cases z))
  · exact .inl (.inr ⟨o, bare_of h fun φ z => by cases z⟩)
  · exact .inr h
mutual
theorem bare_dp {K : PySem.W.Frag} {H : Hp} : ∀ {v : V} {d : PyData}, Dp K H v d → Dp K (bare H) v d
  | _, _, .non => .non
  | _, _, .bl b => .bl b
  | _, _, .int i => .int i
  | _, _, .str x => .str x
  | _, _, .lst h a => .lst (bare_seq h) (bare_dpAll a)
  | _, _, .tup h a => .tup (bare_tup h) (bare_dpAll a)
theorem bare_dpAll {K : PySem.W.Frag} {H : Hp} : ∀ {vs : List V} {ds : List PyData}, DpAll K H vs ds → DpAll K (bare H) vs ds
  | _, _, .nil => .nil
  | _, _, .cons h a => .cons (bare_dp h) (bare_dpAll a)
end
/-- behind the block all stands as it stood, and what is new in it -/
theorem put_same {H H5 : Hp} (s : Same (bare H) H5) : Same H (put H (bare H) H5) := fun b o h => by
  by_cases c : ∃ φ, o = .ext φ
  · obtain ⟨φ, rfl⟩ := c
    rw [put_took (took_of h (bare_ext h))]
    exact h
  · have ne : ∀ φ, o ≠ .ext φ := fun φ z => c ⟨φ, z⟩
    have t : took H (bare H) b = false := by
      unfold took
      rw [h, bare_of h ne]
      rfl
    rw [put_else t]
    exact s b o (bare_of h ne)
theorem put_new {H H5 : Hp} {D : Addr} {o : HO} (hD : H D = none) (h : H5 D = some o) : put H (bare H) H5 D = some o := by
  rw [put_else (not_took hD)]
  exact h
/-! ### lambdas, by what the heap tells -/
def ExtB (H : Hp) (B : Heap) : Prop := ∀ b φ, H b = some (.ext φ) → φ B
theorem ExtB.mono {H H' : Hp} {B : Heap} (e : LamX.ExtN H H') (x : ExtB H' B) : ExtB H B := fun b φ h => x b φ (e b _ h fun ps z => by cases z)
/-- the lambda at f keeps sp over every base that has what H tells -/
def LmH (P : Program) (w : World) (K : PySem.W.Frag) (mg : Str → Option Value) (k : Nat) (H : Hp) (f : Addr) (sp : Hp → VK → XK → Prop) : Prop := ∀ B, ExtB H B → Lm P w K mg B k f sp
theorem LmH.mono {P : Program} {w : World} {K : PySem.W.Frag} {mg : Str → Option Value} {k : Nat} {H H' : Hp} {f : Addr} {sp : Hp → VK → XK → Prop} (l : LmH P w K mg k H f sp) (e : LamX.ExtN H H') : LmH P w K mg k H' f sp := fun B x => l B (x.mono e)
/-- the cells that a lambda captured, told in H: at c1 v1 .. -/
theorem out_ext {X : Cx} {σ : L2.St} : ∀ {js : List Nat} {H H' : Hp}, Out X σ js H H' → (∀ b o, H b = some o → H' b = some o) ∧ ∀ j ∈ js, ∃ x c v, X.N[j]? = some x ∧ X.env.cells.lookup x = some c ∧ σ[j]? = some (some v) ∧ H' c = some (CellO c v)
  | [], H, H', h => by
    have e : H' = H := h
    subst e
    exact ⟨fun _ _ h => h, fun j hj => by cases hj⟩
  | j :: js, H, H', h => by
    obtain ⟨x, c, v, h1, h2, h3, h4, h5⟩ := h
    obtain ⟨a, b⟩ := out_ext h5
    refine ⟨fun d o hd => a d o (by rw [upd_ne (ne_of_none hd h4)]; exact hd), fun i hi => ?_⟩
    rcases List.mem_cons.mp hi with e | hi
    · rw [e]
      exact ⟨x, c, v, h1, h2, h3, a c _ upd_same⟩
    · exact b i hi
theorem out_none {X : Cx} {σ : L2.St} : ∀ {js : List Nat} {H H' : Hp}, Out X σ js H H' → ∀ b, H' b = none → H b = none
  | [], H, H', h, b, e => by
    have e' : H' = H := h
    rw [← e']
    exact e
  | j :: js, H, H', h, b, e => by
    obtain ⟨x, c, v, h1, h2, h3, h4, h5⟩ := h
    exact upd_gone (out_none h5 b e)
end Sg
/-! Signsets: lambdas over two cells that are told; a def's code object. -/
namespace Sg
open PySem PySem.Spec PyProof.Rows L2
theorem bindsP {s : Shared} {fd : FuncData} {args : Args} {b : List (Str × Value)} (h : bindArgs fd args = pure b) : BindsTo s fd args b := fun M A Q E q => by
  rw [h]
  exact wpAny_pure q
theorem cells_two {cells : List (Str × Addr)} {names : List (Str × NameKind)} {a b : Str} {c0 c1 : Addr} {v0 v1 : V} {B : Heap} (h0 : cells.lookup a = some c0) (h1 : cells.lookup b = some c1) (ne : c0 ≠ c1) (k0 : cellAt c0 v0 B) (k1 : cellAt c1 v1 B)
    (hn : ∀ y ∈ names, y.2 = .free → y.1 ∈ [a, b]) (ha : (a, NameKind.free) ∈ names) (hb : (b, NameKind.free) ∈ names) : NdefX.CellsAt (cloFrom cells names []) [a, b] [some v0, some v1] B fun _ => none := by
  have hfree : ∀ y ∈ names, y.2 = .free → ∃ c, cells.lookup y.1 = some c := fun y hy e => by
    rcases List.mem_cons.mp (hn y hy e) with z | z
    · exact ⟨c0, by rw [z]; exact h0⟩
    · rw [List.mem_singleton.mp z]
      exact ⟨c1, h1⟩
  have which : ∀ y c, (cloFrom cells names []).lookup y = some c → (y = a ∧ c = c0) ∨ (y = b ∧ c = c1) := fun y c e => by
    have e1 := NdefX.clo_cm hfree e
    rcases cloFrom_mem (PySem.mem_of_lookup e) with z | ⟨z, _⟩
    · cases z
    · rcases List.mem_cons.mp (hn _ z rfl) with q | q
      · have q : y = a := q
        rw [q, h0] at e1
        exact .inl ⟨q, (Option.some.inj e1).symm⟩
      · have q : y = b := List.mem_singleton.mp q
        rw [q, h1] at e1
        exact .inr ⟨q, (Option.some.inj e1).symm⟩
  obtain ⟨u0, r0, i0⟩ := k0
  obtain ⟨u1, r1, i1⟩ := k1
  refine ⟨rfl, fun y c e => ⟨rfl, ?_⟩, fun x y c e1 e2 => ?_, fun i y e => ?_⟩
  · rcases which y c e with ⟨_, rfl⟩ | ⟨_, rfl⟩
    · exact ⟨_, i0⟩
    · exact ⟨_, i1⟩
  · rcases which x c e1 with ⟨rfl, rfl⟩ | ⟨rfl, rfl⟩ <;> rcases which y _ e2 with ⟨rfl, z⟩ | ⟨rfl, z⟩
    · rfl
    · exact absurd z ne
    · exact absurd z.symm ne
    · rfl
  · match i, e with
    | 0, e =>
      obtain rfl : a = y := Option.some.inj e
      exact ⟨c0, NdefX.clo_has hfree ha h0, fun v q => by cases q; exact ⟨u0, r0, i0⟩⟩
    | 1, e =>
      obtain rfl : b = y := Option.some.inj e
      exact ⟨c1, NdefX.clo_has hfree hb h1, fun v q => by cases q; exact ⟨u1, r1, i1⟩⟩
    | i + 2, e => cases e
section
variable {P : Program} {w : World} {K : PySem.W.Frag} {mg : Str → Option Value}
/-- a lambda without parameters over two cells that G tells -/
theorem lmH_two {k : Nat} {G : Hp} {f : Addr} {F : LF} {cells : List (Str × Addr)} {a b : Str} {c0 c1 : Addr} {v0 v1 : V} {sp : Hp → VK → XK → Prop} (hf : G f = some (LamO f F)) (hc : G F.c = some (LamX.CodeO F.c F.qual)) (hcl : F.cl = cloFrom cells F.scope.names [])
    (h0 : cells.lookup a = some c0) (h1 : cells.lookup b = some c1) (ne : c0 ≠ c1) (k0 : G c0 = some (CellO c0 v0)) (k1 : G c1 = some (CellO c1 v1)) (S : NdefX.NScope [a, b] [] [a, b] F.scope)
    (hb : ∀ doc pm ctv : Value, bindArgs (F.fd doc pm ctv) ⟨[], []⟩ = pure [])
    (hbody : ∀ (B : Heap) (A : Around) (outer : List Env) (s : Shared) (H : Hp) (Q : VK) (E : XK), Room k (A.deeper (NdefX.envF F.nf f s.heap.objs.size)) → sp H Q E →
      ∃ t, PE (NdefX.ncx (L2N.CX P w) P w K mg B [a, b] F.nf f A outer s H E) F.body t ∧ t (NdefX.startF [a, b] [] [some v0, some v1]) H Q) : LmH P w K mg (k + 1) G f sp := fun B x => by
  refine lm_of (us := []) (vs := []) S (x f _ hf) (x F.c _ hc) ?_ (fun doc pm ctv s _ => bindsP (hb doc pm ctv)) .nil rfl (hbody B)
  rw [hcl]
  exact cells_two h0 h1 ne (x c0 _ k0) (x c1 _ k1) S.free (PySem.mem_of_lookup (S.frk a (by simp))) (PySem.mem_of_lookup (S.frk b (by simp)))
end
/-- a def's code object is the one that its table was looked up by -/
theorem code_eq {K : PySem.W.Frag} {mg : Str → Option Value} {x : Str} {f : Addr} {cdv : Value} {fd : FuncData} {oc : Value} {od : Option Addr} {osl : Array (Option Value)} (hm : mg x = some (.ref f)) (hg : mg x = some (.ref (He.ga K x))) (lk : K.lookup f = some ⟨oc, od, .func fd, osl⟩)
    (hd : fd.code = cdv) (hc : PySem.W.codeIn K cdv x = true) : cdv = .ref (He.cT K (x, none)).1 := by
  obtain ⟨c, rfl⟩ := He.codeIn_ref hc
  have e : f = He.ga K x := by
    rw [hm] at hg
    exact Value.ref.inj (Option.some.inj hg)
  rw [e] at lk
  have z : He.codeOf K (x, none) = c := He.codeOf_eq (p := (x, none)) lk hd
  show Value.ref c = Value.ref (He.codeOf K (x, none))
  rw [z]
/-! ### heaps in which tables and the list at l have changed -/
def ExtL (l : Addr) (H H' : Hp) : Prop := ∀ b o, b ≠ l → H b = some o → (∀ ps, o ≠ .tbl ps) → H' b = some o
theorem ExtL.trans {l : Addr} {H H1 H2 : Hp} (a : ExtL l H H1) (b : ExtL l H1 H2) : ExtL l H H2 := fun c o n h t => b c o n (a c o n h t) t
theorem ExtL.of {l : Addr} {H H' : Hp} (e : LamX.ExtN H H') : ExtL l H H' := fun b o _ h t => e b o h t
theorem ExtL.upd {l : Addr} {H : Hp} {o : HO} : ExtL l H (upd H l o) := fun b u n h _ => by
  rw [upd_ne n]
  exact h
theorem tabs_upd {T : List (Addr × Str)} {H : Hp} {l : Addr} {xs ys : List V} (t : LamX.Tabs T H) (hl : H l = some (.lst xs)) : LamX.Tabs T (upd H l (.lst ys)) := fun p hp => by
  obtain ⟨ps, h1, h2, h3⟩ := t p hp
  refine ⟨ps, ?_, h2, fun pos cv hc => ?_⟩
  · rw [upd_ne (ne_of h1 hl fun z => by cases z)]
    exact h1
  · obtain ⟨c, e1, e2⟩ := h3 pos cv hc
    refine ⟨c, e1, ?_⟩
    rw [upd_ne (ne_of e2 hl fun z => by unfold LamX.CodeO at z; cases z)]
    exact e2
theorem lamO_ne {g : Addr} {F : LF} (ps : Array Value) : LamO g F ≠ .tbl ps := fun z => by
  unfold LamO at z
  cases z
theorem lamO_lst {g : Addr} {F : LF} (xs : List V) : LamO g F ≠ .lst xs := fun z => by
  unfold LamO at z
  cases z
theorem codeO_lst {g : Addr} {q : Str} (xs : List V) : LamX.CodeO g q ≠ .lst xs := fun z => by
  unfold LamX.CodeO at z
  cases z
end Sg
/-! Signsets: what stays from step to step in a law that keeps lambdas in lists. -/
namespace Sg
open PySem PySem.Spec PyProof.Rows L2
/-! ### things told by a word stay -/
def EK (H H' : Hp) : Prop := ∀ b φ, H b = some (.ext φ) → H' b = some (.ext φ)
theorem EK.refl (H : Hp) : EK H H := fun _ _ h => h
theorem EK.trans {H H1 H2 : Hp} (a : EK H H1) (b : EK H1 H2) : EK H H2 := fun c φ h => b c φ (a c φ h)
theorem EK.same {H H' : Hp} (s : Same H H') : EK H H' := fun b φ h => s b _ h
theorem EK.lam {H H' : Hp} (e : LamX.ExtN H H') : EK H H' := fun b φ h => e b _ h fun ps z => by cases z
theorem EK.upd {H : Hp} {l : Addr} {xs : List V} {o : HO} (hl : H l = some (.lst xs)) : EK H (upd H l o) := fun b φ h => (upd_ne (ne_of h hl fun z => by cases z)).trans h
theorem EK.but {H H' : Hp} {d : Addr} {xs : List V} (hd : H d = some (.lst xs)) (s : SameBut d H H') : EK H H' := fun b φ h => s b _ (ne_of h hd fun z => by cases z) h
theorem ExtB.ek {H H' : Hp} {B : Heap} (e : EK H H') (x : ExtB H' B) : ExtB H B := fun b φ h => x b φ (e b φ h)
theorem LmH.ek {P : Program} {w : World} {K : PySem.W.Frag} {mg : Str → Option Value} {k : Nat} {H H' : Hp} {f : Addr} {sp : Hp → VK → XK → Prop} (l : LmH P w K mg k H f sp) (e : EK H H') : LmH P w K mg k H' f sp := fun B x => l B (x.ek e)
/-! ### data alone -/
def Dat (G : Hp) : Prop := ∀ b o, G b = some o → (∀ ps, o ≠ .tbl ps) ∧ ∀ φ, o ≠ .ext φ
def dat (d : Addr) (H : Hp) : Hp := fun b => if b = d then none else match H b with
  | some (.tbl _) => none
  | some (.ext _) => none
  | o => o
theorem dat_self {d : Addr} {H : Hp} : dat d H d = none := by
  unfold dat
  rw [if_pos rfl]
theorem dat_up {d b : Addr} {H : Hp} {o : HO} (h : dat d H b = some o) : b ≠ d ∧ H b = some o ∧ (∀ ps, o ≠ .tbl ps) ∧ ∀ φ, o ≠ .ext φ := by
  unfold dat at h
  by_cases e : b = d
  · rw [if_pos e] at h
    cases h
  · rw [if_neg e] at h
    refine ⟨e, ?_⟩
    cases q : H b with
    | none =>
      rw [q] at h
      cases h
    | some u =>
      rw [q] at h
      cases u <;> first | (cases h; done) | (cases h; exact ⟨rfl, fun _ z => (by cases z), fun _ z => by cases z⟩)
theorem dat_of {d b : Addr} {H : Hp} {o : HO} (e : b ≠ d) (h : H b = some o) (nt : ∀ ps, o ≠ .tbl ps) (nx : ∀ φ, o ≠ .ext φ) : dat d H b = some o := by
  unfold dat
  rw [if_neg e, h]
  cases o <;> first | rfl | exact absurd rfl (nt _) | exact absurd rfl (nx _)
theorem dat_dat (d : Addr) (H : Hp) : Dat (dat d H) := fun b o h => (dat_up h).2.2
theorem dat_same (d : Addr) (H : Hp) : Same (dat d H) H := fun b o h => (dat_up h).2.1
theorem dat_big {d : Addr} {G H : Hp} (s : Same G H) (g : Dat G) (gd : G d = none) : Same G (dat d H) := fun b o h => dat_of (ne_of_none h gd) (s b o h) (g b o h).1 (g b o h).2
theorem dat_bare {G H : Hp} (s : Same G H) (g : Dat G) : Same G (bare H) := fun b o h => bare_of (s b o h) (g b o h).2
theorem dat_seq {K : PySem.W.Frag} {d : Addr} {H : Hp} {a : Addr} {xs : List V} (h : SqL K (del H d) a xs) : SqL K (dat d H) a xs := by
  have up : ∀ {o : HO}, del H d a = some o → a ≠ d ∧ H a = some o := fun {o} e => ⟨fun z => (by rw [z, del_self] at e; cases e), del_same _ _ e⟩
  rcases h with (h | ⟨o, h⟩) | h
  · exact .inl (.inl (dat_of (up h).1 (up h).2 (fun _ z => by cases z) fun _ z => by cases z))
  · exact .inl (.inr ⟨o, dat_of (up h).1 (up h).2 (fun _ z => by cases z) fun _ z => by cases z⟩)
  · exact .inr h
theorem dat_tup {K : PySem.W.Frag} {d : Addr} {H : Hp} {a : Addr} {xs : List V} (h : SqT K (del H d) a xs) : SqT K (dat d H) a xs := by
  have up : ∀ {o : HO}, del H d a = some o → a ≠ d ∧ H a = some o := fun {o} e => ⟨fun z => (by rw [z, del_self] at e; cases e), del_same _ _ e⟩
  rcases h with (h | ⟨o, h⟩) | h
  · exact .inl (.inl (dat_of (up h).1 (up h).2 (fun _ z => by cases z) fun _ z => by cases z))
  · exact .inl (.inr ⟨o, dat_of (up h).1 (up h).2 (fun _ z => by cases z) fun _ z => by cases z⟩)
  · exact .inr h
mutual
theorem dat_dp {K : PySem.W.Frag} {d : Addr} {H : Hp} : ∀ {v : V} {e : PyData}, Dp K (del H d) v e → Dp K (dat d H) v e
  | _, _, .non => .non
  | _, _, .bl b => .bl b
  | _, _, .int i => .int i
  | _, _, .str x => .str x
  | _, _, .lst h a => .lst (dat_seq h) (dat_dpAll a)
  | _, _, .tup h a => .tup (dat_tup h) (dat_dpAll a)
theorem dat_dpAll {K : PySem.W.Frag} {d : Addr} {H : Hp} : ∀ {vs : List V} {es : List PyData}, DpAll K (del H d) vs es → DpAll K (dat d H) vs es
  | _, _, .nil => .nil
  | _, _, .cons h a => .cons (dat_dp h) (dat_dpAll a)
end
/-! ### where the law stands: G data, d the dice -/
structure Sit (T : List (Addr × Str)) (d : Addr) (D : List Int) (G H : Hp) : Prop where
  sm : Same G H
  dt : Dat G
  gd : G d = none
  hd : H d = some (.lst (D.map V.int))
  ok : DiceOk D
  tb : LamX.Tabs T H
section
variable {T : List (Addr × Str)} {d : Addr} {D D' : List Int} {G H H' : Hp}
theorem tabs_but (t : LamX.Tabs T H) {xs : List V} (hd : H d = some (.lst xs)) (s : SameBut d H H') : LamX.Tabs T H' := fun p hp => by
  obtain ⟨ps, h1, h2, h3⟩ := t p hp
  refine ⟨ps, s _ _ (ne_of h1 hd fun z => by cases z) h1, h2, fun pos cv hc => ?_⟩
  obtain ⟨c, e1, e2⟩ := h3 pos cv hc
  exact ⟨c, e1, s _ _ (ne_of e2 hd fun z => by unfold LamX.CodeO at z; cases z) e2⟩
theorem Sit.same (S : Sit T d D G H) (s : Same H H') : Sit T d D G H' := ⟨S.sm.trans s, S.dt, S.gd, s _ _ S.hd, S.ok, S.tb.ext s⟩
theorem Sit.lam (S : Sit T d D G H) (e : LamX.ExtN H H') (t : LamX.Tabs T H') : Sit T d D G H' := ⟨fun b o h => e b o (S.sm b o h) (S.dt b o h).1, S.dt, S.gd, e _ _ S.hd fun ps z => (by cases z), S.ok, t⟩
theorem Sit.upd (S : Sit T d D G H) {l : Addr} {xs ys : List V} (gl : G l = none) (hl : H l = some (.lst xs)) (ne : d ≠ l) : Sit T d D G (upd H l (.lst ys)) :=
  ⟨fun b o h => (upd_ne (ne_of_none h gl)).trans (S.sm b o h), S.dt, S.gd, (upd_ne ne).trans S.hd, S.ok, tabs_upd S.tb hl⟩
theorem Sit.but (S : Sit T d D G H) (s : SameBut d H H') (hd : H' d = some (.lst (D'.map V.int))) (k : DiceOk D') : Sit T d D' G H' :=
  ⟨fun b o h => s b o (ne_of_none h S.gd) (S.sm b o h), S.dt, S.gd, hd, k, tabs_but S.tb S.hd s⟩
theorem Sit.dice (S : Sit T d D G H) (k : DiceOk D') : Sit T d D' G (L2.upd H d (.lst (D'.map V.int))) := S.but (fun b o n h => (upd_ne n).trans h) upd_same k
/-- what is new is frozen too -/
theorem Sit.again (S : Sit T d D G H) : Sit T d D (dat d H) H := ⟨dat_same d H, dat_dat d H, dat_self, S.hd, S.ok, S.tb⟩
theorem Sit.big (S : Sit T d D G H) : Same G (dat d H) := dat_big S.sm S.dt S.gd
theorem Sit.free (S : Sit T d D G H) {l : Addr} (nl : H l = none) : G l = none := S.sm.free nl
theorem Sit.dp {K : PySem.W.Frag} (S : Sit T d D G H) {v : V} {e : PyData} (h : Dp K G v e) : Dp K (del H d) v e := same_dp (fun b o q => (del_ne (ne_of_none q S.gd)).trans (S.sm b o q)) h
end
/-! ### the cells of the running def, in a grown base -/
structure CBs (X : Cx) (cs : List (Str × V)) (B : Heap) : Prop where
  all : ∀ x c, X.env.cells.lookup x = some c → ∃ v, B.IsCell c v
  inj : ∀ x y c, X.env.cells.lookup x = some c → X.env.cells.lookup y = some c → x = y
  val : ∀ p ∈ cs, ∃ c u, X.env.cells.lookup p.1 = some c ∧ RelV p.2 u ∧ B.IsCell c (some u)
theorem cbs_of {X : Cx} {σ : L2.St} {B : Heap} {cs : List (Str × V)} {js : List Nat} (cb : CellB X σ B) (h1 : js.map (fun j => X.N[j]?) = cs.map fun p => some p.1) (h2 : js.map (fun j => σ[j]?) = cs.map fun p => some (some p.2)) (h3 : cs.map (fun p => X.env.scope.names.lookup p.1) = cs.map fun _ => some .cell) : CBs X cs B := by
  refine ⟨cb.all, cb.inj, fun p hp => ?_⟩
  obtain ⟨i, hi⟩ := List.getElem?_of_mem hp
  have e1 := congrArg (fun l => l[i]?) h1
  have e2 := congrArg (fun l => l[i]?) h2
  have e3 := congrArg (fun l => l[i]?) h3
  simp only [List.getElem?_map, hi, Option.map_some] at e1 e2 e3
  cases q : js[i]? with
  | none =>
    rw [q] at e1
    cases e1
  | some j =>
    rw [q] at e1 e2
    exact cb.val j p.1 p.2 (Option.some.inj e1) (Option.some.inj e2) (Option.some.inj e3)
theorem cells_cs {X : Cx} {B : Heap} {cs : List (Str × V)} {names : List (Str × NameKind)} {fr : List Str} {ws : List V} {js : List Nat} (cb : CBs X cs B) (hz : js.map (fun j => cs[j]?) = (fr.zip ws).map some) (hl : ws.length = fr.length)
    (hn : ∀ y ∈ names, y.2 = .free → y.1 ∈ fr) (hf : ∀ y ∈ fr, (y, NameKind.free) ∈ names) : NdefX.CellsAt (cloFrom X.env.cells names []) fr (ws.map some) B fun _ => none := by
  have has : ∀ (i : Nat) (y : Str), fr[i]? = some y → ∃ v, ws[i]? = some v ∧ (y, v) ∈ cs := fun i y hy => by
    have lt : i < fr.length := (List.getElem?_eq_some_iff.mp hy).1
    have ew : ws[i]? = some ws[i] := List.getElem?_eq_getElem (by omega)
    refine ⟨ws[i], ew, ?_⟩
    have ez : (fr.zip ws)[i]? = some (y, ws[i]) := by
      rw [List.getElem?_zip_eq_some]
      exact ⟨hy, ew⟩
    have e := congrArg (fun l => l[i]?) hz
    simp only [List.getElem?_map, ez, Option.map_some] at e
    cases q : js[i]? with
    | none =>
      rw [q] at e
      cases e
    | some j =>
      rw [q] at e
      exact List.mem_of_getElem? (Option.some.inj e)
  have look : ∀ y ∈ fr, ∃ c u v, (y, v) ∈ cs ∧ X.env.cells.lookup y = some c ∧ RelV v u ∧ B.IsCell c (some u) := fun y hy => by
    obtain ⟨i, hi⟩ := List.getElem?_of_mem hy
    obtain ⟨v, _, hv⟩ := has i y hi
    obtain ⟨c, u, h1, h2, h3⟩ := cb.val _ hv
    exact ⟨c, u, v, hv, h1, h2, h3⟩
  have hfree : ∀ y ∈ names, y.2 = .free → ∃ c, X.env.cells.lookup y.1 = some c := fun y hy e => by
    obtain ⟨c, u, v, _, h, _⟩ := look _ (hn y hy e)
    exact ⟨c, h⟩
  refine ⟨by rw [List.length_map]; exact hl, fun y c e => ⟨rfl, cb.all y c (NdefX.clo_cm hfree e)⟩, fun x y c e1 e2 => cb.inj x y c (NdefX.clo_cm hfree e1) (NdefX.clo_cm hfree e2), fun i y hy => ?_⟩
  obtain ⟨v, hw, hv⟩ := has i y hy
  obtain ⟨c, u, h1, h2, h3⟩ := cb.val _ hv
  refine ⟨c, NdefX.clo_has hfree (hf y (List.mem_of_getElem? hy)) h1, fun v' q => ?_⟩
  rw [List.getElem?_map, hw] at q
  cases q
  exact ⟨u, h2, h3⟩
section
variable {P : Program} {w : World} {K : PySem.W.Frag} {mg : Str → Option Value}
/-- a lambda of the running def, no parameters -/
theorem lm_c0 {k : Nat} {G : Hp} {f : Addr} {F : LF} {X : Cx} {cs : List (Str × V)} {fr : List Str} {ws : List V} (js : List Nat) {B : Heap} {sp : Hp → VK → XK → Prop} (cb : CBs X cs B) (x : ExtB G B) (hf : G f = some (LamO f F)) (hc : G F.c = some (LamX.CodeO F.c F.qual)) (hcl : F.cl = cloFrom X.env.cells F.scope.names [])
    (hz : js.map (fun j => cs[j]?) = (fr.zip ws).map some) (hl : ws.length = fr.length) (S : NdefX.NScope fr [] fr F.scope) (hb : ∀ doc pm ctv : Value, bindArgs (F.fd doc pm ctv) ⟨[], []⟩ = pure [])
    (hbody : ∀ (A : Around) (outer : List Env) (s : Shared) (H : Hp) (Q : VK) (E : XK), Room k (A.deeper (NdefX.envF F.nf f s.heap.objs.size)) → sp H Q E →
      ∃ t, PE (NdefX.ncx (L2N.CX P w) P w K mg B fr F.nf f A outer s H E) F.body t ∧ t (NdefX.startF fr [] (ws.map some)) H Q) : Lm P w K mg B (k + 1) f sp := by
  refine lm_of (us := []) (vs := []) S (x f _ hf) (x F.c _ hc) ?_ (fun doc pm ctv s _ => bindsP (hb doc pm ctv)) .nil rfl hbody
  rw [hcl]
  exact cells_cs cb hz hl S.free fun y hy => PySem.mem_of_lookup (S.frk y hy)
/-- .. one parameter, its default a whole number -/
theorem lm_c1 {k : Nat} {G : Hp} {f t : Addr} {i : Int} {a : Str} {F : LF} {X : Cx} {cs : List (Str × V)} {fr : List Str} {ws : List V} (js : List Nat) {B : Heap} {sp : Hp → VK → XK → Prop} (cb : CBs X cs B) (x : ExtB G B) (hf : G f = some (LamO f F)) (hc : G F.c = some (LamX.CodeO F.c F.qual)) (ht : G t = some (DflO t i)) (hcl : F.cl = cloFrom X.env.cells F.scope.names [])
    (hz : js.map (fun j => cs[j]?) = (fr.zip ws).map some) (hl : ws.length = fr.length) (S : NdefX.NScope (a :: fr) [a] fr F.scope) (hd : F.dV = .ref t)
    (hb : ∀ doc pm ctv : Value, ∃ κ, bindArgs (F.fd doc pm ctv) ⟨[], []⟩ = seqItems? F.dV >>= κ ∧ ∀ tk : Tok, κ (some [Value.int i tk].toArray) = pure [(a, .int i tk)])
    (hbody : ∀ (A : Around) (outer : List Env) (s : Shared) (H : Hp) (Q : VK) (E : XK), Room k (A.deeper (NdefX.envF F.nf f s.heap.objs.size)) → sp H Q E →
      ∃ t, PE (NdefX.ncx (L2N.CX P w) P w K mg B (a :: fr) F.nf f A outer s H E) F.body t ∧ t (NdefX.startF (a :: fr) [.int i] (ws.map some)) H Q) : Lm P w K mg B (k + 1) f sp := by
  obtain ⟨tk, e⟩ := x t _ ht
  refine lm_of (us := [.int i tk]) (vs := [.int i]) S (x f _ hf) (x F.c _ hc) ?_ (fun doc pm ctv s up => ?_) (.cons ⟨tk, rfl⟩ .nil) rfl hbody
  · rw [hcl]
    exact cells_cs cb hz hl S.free fun y hy => PySem.mem_of_lookup (S.frk y hy)
  · obtain ⟨κ, h1, h2⟩ := hb doc pm ctv
    exact BindsTo.of_defaults (T := t) hd (up _ _ e) rfl h1 (h2 tk)
end
/-! ### [w for w in works if ..], none of which stays -/
theorem lc_none {X : Cx} {K : PySem.W.Frag} {tt : Heap → TT} {te : Heap → TE} {g : TG} {vs : List Nat} {σ : L2.St} {H1 : Hp} {l : Addr} {fs : List Addr} {Q : VK} (hl : SqL K H1 l (fs.map V.ref))
    (hf : ∀ B, CellB X σ B → ExtB H1 B → ∀ f ∈ fs, ∀ (H2 : Hp) (R : L2.St → Bool → Hp → Prop), Same (bare H1) H2 → (∀ σ2 H3, Same H2 H3 → R σ2 false H3) → g (.ref f) (wipe σ vs) H2 fun σ2 H3 => wipe σ2 vs = wipe σ vs ∧ tt B σ2 H3 (R σ2))
    (q : ∀ D H', H1 D = none → Same H1 H' → H' D = some (.lst []) → Q (.ref D) H') :
    lcIn X g tt te vs σ Q (Itl K l) H1 := by
  refine ⟨bare H1, less_bare H1, fun B cb tb D nD => ?_⟩
  have nb : bare H1 D = none := bare_none nD
  have x : ExtB H1 B := took_bare tb
  have s0 : Same (bare H1) (upd (bare H1) D (.lst [])) := same_new nb
  refine ⟨fun k m H => m = fs.length + 1 - k ∧ Same (upd (bare H1) D (.lst [])) H, ⟨_, rfl, Same.refl _⟩, fun k m H hw => ?_⟩
  obtain ⟨hm, sm⟩ := hw
  have hq : SqL K H l (fs.map V.ref) := (s0.trans sm).seq (bare_seq hl)
  by_cases c : k < fs.length
  · right
    have e : (fs.map V.ref)[k]? = some (.ref fs[k]) := by
      rw [List.getElem?_map, List.getElem?_eq_getElem c]
      rfl
    refine ⟨⟨_, _, hq, e⟩, fun H' => Same H H', fun H' s => ⟨fs.length + 1 - (k + 1), by omega, rfl, sm.trans s⟩, fun y H' hy => ?_⟩
    obtain ⟨rfl, hy⟩ := hy
    have e2 := hy _ hq
    rw [e] at e2
    cases e2
    exact hf B cb x fs[k] (List.getElem_mem c) H' (fun σ2 b H3 => if b = true then te B σ2 H3 fun y H4 => ∃ acc, H4 D = some (.lst acc) ∧ acc.length < sizeLine ∧ Same H' (upd H4 D (.lst (acc ++ [y]))) else Same H' H3) (s0.trans sm) fun σ2 H3 s3 => by
      rw [if_neg Bool.false_ne_true]
      exact s3
  · left
    refine ⟨⟨_, hq, by rw [List.length_map]; omega⟩, q D _ nD (put_same (s0.trans sm)) (put_new nD (sm _ _ upd_same))⟩
/-- the rest of a body, by what is known where it begins -/
theorem pss_pre {X : Cx} {ss : List Stmt} {Pre : TS} (h : ∀ k σ H, Pre k σ H → ∃ t, PSs X ss t ∧ t k σ H) : PSs X ss Pre := ⟨fun pl s σ H k I hp => by
  obtain ⟨t, ht, q⟩ := h k σ H hp
  exact ht.run pl s σ H k I q⟩
end Sg
namespace Sg
open PySem PySem.Spec PyProof.Rows L2
def topS (i : Nat) : Stmt := PySem.Challenge.pw_signsets_k01_sets_refused.main.body.getD i (.Pass ⟨0, 0, 0, 0⟩)
abbrev s_need_size : Stmt := topS 9
abbrev n_need_size : List Str := ["size"]
theorem sc_need_size : FnScope n_need_size ["size"] (defScope s_need_size) := ⟨rfl, rfl, rfl, by decide +kernel, rfl, by decide +kernel, by decide +kernel⟩
abbrev s_need_set : Stmt := topS 10
abbrev n_need_set : List Str := ["size", "ranges", "number", "at", "first", "last"]
theorem sc_need_set : FnScope n_need_set ["size", "ranges", "number"] (defScope s_need_set) := ⟨rfl, rfl, rfl, by decide +kernel, rfl, by decide +kernel, by decide +kernel⟩
abbrev s_need_number : Stmt := topS 11
abbrev n_need_number : List Str := ["size", "number"]
theorem sc_need_number : FnScope n_need_number ["size", "number"] (defScope s_need_number) := ⟨rfl, rfl, rfl, by decide +kernel, rfl, by decide +kernel, by decide +kernel⟩
abbrev s_has : Stmt := topS 12
abbrev n_has : List Str := ["ranges", "number", "pair"]
theorem sc_has : FnScope n_has ["ranges", "number"] (defScope s_has) := ⟨rfl, rfl, rfl, by decide +kernel, rfl, by decide +kernel, by decide +kernel⟩
abbrev s_all_in : Stmt := topS 13
abbrev n_all_in : List Str := ["size", "ranges", "number"]
theorem sc_all_in : FnScope n_all_in ["size", "ranges"] (defScope s_all_in) := ⟨rfl, rfl, rfl, by decide +kernel, rfl, by decide +kernel, by decide +kernel⟩
abbrev s_told : Stmt := topS 14
abbrev n_told : List Str := ["numbers", "found", "number"]
theorem sc_told : FnScope n_told ["numbers"] (defScope s_told) := ⟨rfl, rfl, rfl, by decide +kernel, rfl, by decide +kernel, by decide +kernel⟩
abbrev s_members : Stmt := topS 15
abbrev n_members : List Str := ["size", "ranges"]
theorem sc_members : FnScope n_members ["size", "ranges"] (defScope s_members) := ⟨rfl, rfl, rfl, by decide +kernel, rfl, by decide +kernel, by decide +kernel⟩
abbrev s_plain : Stmt := topS 16
abbrev n_plain : List Str := ["size", "ranges"]
theorem sc_plain : FnScope n_plain ["size", "ranges"] (defScope s_plain) := ⟨rfl, rfl, rfl, by decide +kernel, rfl, by decide +kernel, by decide +kernel⟩
abbrev s_need_two : Stmt := topS 17
abbrev n_need_two : List Str := ["size", "one", "other"]
theorem sc_need_two : FnScope n_need_two ["size", "one", "other"] (defScope s_need_two) := ⟨rfl, rfl, rfl, by decide +kernel, rfl, by decide +kernel, by decide +kernel⟩
abbrev s_joined : Stmt := topS 18
abbrev n_joined : List Str := ["size", "one", "other", "number"]
theorem sc_joined : FnScope n_joined ["size", "one", "other"] (defScope s_joined) := ⟨rfl, rfl, rfl, by decide +kernel, rfl, by decide +kernel, by decide +kernel⟩
abbrev s_common : Stmt := topS 19
abbrev n_common : List Str := ["size", "one", "other", "number"]
theorem sc_common : FnScope n_common ["size", "one", "other"] (defScope s_common) := ⟨rfl, rfl, rfl, by decide +kernel, rfl, by decide +kernel, by decide +kernel⟩
abbrev s_less : Stmt := topS 20
abbrev n_less : List Str := ["size", "one", "other", "number"]
theorem sc_less : FnScope n_less ["size", "one", "other"] (defScope s_less) := ⟨rfl, rfl, rfl, by decide +kernel, rfl, by decide +kernel, by decide +kernel⟩
abbrev s_others : Stmt := topS 21
abbrev n_others : List Str := ["size", "ranges", "number"]
theorem sc_others : FnScope n_others ["size", "ranges"] (defScope s_others) := ⟨rfl, rfl, rfl, by decide +kernel, rfl, by decide +kernel, by decide +kernel⟩
abbrev s_inside : Stmt := topS 22
abbrev n_inside : List Str := ["size", "ranges", "number", "some", "low", "high", "looks", "middle"]
theorem sc_inside : FnScope n_inside ["size", "ranges", "number"] (defScope s_inside) := ⟨rfl, rfl, rfl, by decide +kernel, rfl, by decide +kernel, by decide +kernel⟩
abbrev s_need_sets : Stmt := topS 24
abbrev n_need_sets : List Str := ["size", "sets", "number", "ranges"]
theorem sc_need_sets : FnScope n_need_sets ["size", "sets"] (defScope s_need_sets) := ⟨rfl, rfl, rfl, by decide +kernel, rfl, by decide +kernel, by decide +kernel⟩
abbrev s_row_of : Stmt := topS 25
abbrev n_row_of : List Str := ["size", "ranges", "first", "wide", "found", "number"]
theorem sc_row_of : FnScope n_row_of ["size", "ranges", "first", "wide"] (defScope s_row_of) := ⟨rfl, rfl, rfl, by decide +kernel, rfl, by decide +kernel, by decide +kernel⟩
abbrev s_made : Stmt := topS 26
abbrev n_made : List Str := ["size", "sets", "wide", "rows", "firsts", "ranges", "numbers", "first", "row"]
theorem sc_made : FnScope n_made ["size", "sets", "wide"] (defScope s_made) := ⟨rfl, rfl, rfl, by decide +kernel, rfl, by decide +kernel, by decide +kernel⟩
abbrev s_table : Stmt := topS 27
abbrev n_table : List Str := ["size", "sets", "wide"]
theorem sc_table : FnScope n_table ["size", "sets", "wide"] (defScope s_table) := ⟨rfl, rfl, rfl, by decide +kernel, rfl, by decide +kernel, by decide +kernel⟩
abbrev s_look : Stmt := topS 28
abbrev n_look : List Str := ["size", "told", "which", "number", "firsts", "rows", "wide"]
theorem sc_look : FnScope n_look ["size", "told", "which", "number"] (defScope s_look) := ⟨rfl, rfl, rfl, by decide +kernel, rfl, by decide +kernel, by decide +kernel⟩
abbrev s_room_of : Stmt := topS 29
abbrev n_room_of : List Str := ["told", "numbers", "row"]
theorem sc_room_of : FnScope n_room_of ["told"] (defScope s_room_of) := ⟨rfl, rfl, rfl, by decide +kernel, rfl, by decide +kernel, by decide +kernel⟩
abbrev s_least : Stmt := topS 30
abbrev n_least : List Str := ["size", "sets", "wide"]
theorem sc_least : FnScope n_least ["size", "sets"] (defScope s_least) := ⟨rfl, rfl, rfl, by decide +kernel, rfl, by decide +kernel, by decide +kernel⟩
abbrev s_kinds_of : Stmt := topS 32
abbrev n_kinds_of : List Str := ["size", "sets", "kinds", "found", "number", "kind", "ranges"]
theorem sc_kinds_of : FnScope n_kinds_of ["size", "sets"] (defScope s_kinds_of) := ⟨rfl, rfl, rfl, by decide +kernel, rfl, by decide +kernel, by decide +kernel⟩
abbrev s_classes : Stmt := topS 33
abbrev n_classes : List Str := ["size", "sets", "row", "kinds", "found", "number", "sign"]
theorem sc_classes : FnScope n_classes ["size", "sets"] (defScope s_classes) := ⟨rfl, rfl, rfl, by decide +kernel, rfl, by decide +kernel, by decide +kernel⟩
abbrev s_class_row : Stmt := topS 34
abbrev n_class_row : List Str := ["size", "sets"]
theorem sc_class_row : FnScope n_class_row ["size", "sets"] (defScope s_class_row) := ⟨rfl, rfl, rfl, by decide +kernel, rfl, by decide +kernel, by decide +kernel⟩
abbrev s_by_classes : Stmt := topS 35
abbrev n_by_classes : List Str := ["size", "sets", "kinds", "number", "at"]
theorem sc_by_classes : FnScope n_by_classes ["size", "sets"] (defScope s_by_classes) := ⟨rfl, rfl, rfl, by decide +kernel, rfl, by decide +kernel, by decide +kernel⟩
abbrev s_items_of : Stmt := topS 39
abbrev n_items_of : List Str := ["ranges", "found", "first", "last", "number"]
theorem sc_items_of : FnScope n_items_of ["ranges"] (defScope s_items_of) := ⟨rfl, rfl, rfl, by decide +kernel, rfl, by decide +kernel, by decide +kernel⟩
abbrev s_written : Stmt := topS 40
abbrev n_written : List Str := ["size", "ranges", "one", "other"]
theorem sc_written : FnScope n_written ["size", "ranges"] (defScope s_written) := ⟨rfl, rfl, rfl, by decide +kernel, rfl, by decide +kernel, by decide +kernel⟩
abbrev s_number_of : Stmt := topS 41
abbrev n_number_of : List Str := ["word", "size", "sign"]
theorem sc_number_of : FnScope n_number_of ["word", "size"] (defScope s_number_of) := ⟨rfl, rfl, rfl, by decide +kernel, rfl, by decide +kernel, by decide +kernel⟩
abbrev s_item_of : Stmt := topS 42
abbrev n_item_of : List Str := ["word", "size", "parts", "part"]
theorem sc_item_of : FnScope n_item_of ["word", "size"] (defScope s_item_of) := ⟨rfl, rfl, rfl, by decide +kernel, rfl, by decide +kernel, by decide +kernel⟩
abbrev s_read : Stmt := topS 43
abbrev n_read : List Str := ["size", "text", "rest", "found", "place", "word", "item"]
theorem sc_read : FnScope n_read ["size", "text"] (defScope s_read) := ⟨rfl, rfl, rfl, by decide +kernel, rfl, by decide +kernel, by decide +kernel⟩
abbrev s__law_dice : Stmt := topS 45
abbrev n__law_dice : List Str := ["_law_script", "_law_k", "_law_found", "_law_cell"]
theorem sc__law_dice : FnScope n__law_dice ["_law_script", "_law_k"] (defScope s__law_dice) := ⟨rfl, rfl, rfl, by decide +kernel, rfl, by decide +kernel, by decide +kernel⟩
abbrev s__law_off : Stmt := topS 46
abbrev n__law_off : List Str := ["_law_d", "_law_most", "_law_found"]
theorem sc__law_off : FnScope n__law_off ["_law_d", "_law_most"] (defScope s__law_off) := ⟨rfl, rfl, rfl, by decide +kernel, rfl, by decide +kernel, by decide +kernel⟩
abbrev s__law_alike : Stmt := topS 47
abbrev n__law_alike : List Str := ["_law_found", "_law_due", "_law_k"]
theorem sc__law_alike : FnScope n__law_alike ["_law_found", "_law_due"] (defScope s__law_alike) := ⟨rfl, rfl, rfl, by decide +kernel, rfl, by decide +kernel, by decide +kernel⟩
abbrev s__law_refused : Stmt := topS 48
abbrev n__law_refused : List Str := ["_law_work", "_law_word", "_law_value", "_law_e", "_law_kinds", "_law_words", "_law_one"]
theorem sc__law_refused : FnScope n__law_refused ["_law_work", "_law_word", "_law_value"] (defScope s__law_refused) := ⟨rfl, rfl, rfl, by decide +kernel, rfl, by decide +kernel, by decide +kernel⟩
abbrev s__law_size : Stmt := topS 49
abbrev n__law_size : List Str := ["_law_d"]
theorem sc__law_size : FnScope n__law_size ["_law_d"] (defScope s__law_size) := ⟨rfl, rfl, rfl, by decide +kernel, rfl, by decide +kernel, by decide +kernel⟩
abbrev s__law_set : Stmt := topS 50
abbrev n__law_set : List Str := ["_law_d", "_law_size_here", "_law_most", "_law_wide", "_law_found", "_law_turn", "_law_first"]
theorem sc__law_set : FnScope n__law_set ["_law_d", "_law_size_here", "_law_most"] (defScope s__law_set) := ⟨rfl, rfl, rfl, by decide +kernel, rfl, by decide +kernel, by decide +kernel⟩
abbrev s__law_bad : Stmt := topS 51
abbrev n__law_bad : List Str := ["_law_d", "_law_size_here", "_law_ranges", "_law_at", "_law_far", "_law_odd", "_law_bad_here"]
theorem sc__law_bad : FnScope n__law_bad ["_law_d", "_law_size_here", "_law_ranges"] (defScope s__law_bad) := ⟨rfl, rfl, rfl, by decide +kernel, rfl, by decide +kernel, by decide +kernel⟩
abbrev s__law_single : Stmt := topS 52
abbrev n__law_single : List Str := ["_law_size_here", "_law_ranges", "_law_works"]
theorem sc__law_single : FnScope n__law_single ["_law_size_here", "_law_ranges"] (defScope s__law_single) := ⟨rfl, rfl, rfl, by decide +kernel, rfl, by decide +kernel, by decide +kernel⟩
abbrev s__law_several : Stmt := topS 53
abbrev n__law_several : List Str := ["_law_size_here", "_law_sets", "_law_works"]
theorem sc__law_several : FnScope n__law_several ["_law_size_here", "_law_sets"] (defScope s__law_several) := ⟨rfl, rfl, rfl, by decide +kernel, rfl, by decide +kernel, by decide +kernel⟩
abbrev s_law : Stmt := topS 54
abbrev n_law : List Str := ["_law_script", "_law_d", "_law_size_here", "_law_ranges", "_law_bad_here", "_law_at", "_law_odd", "_law_works", "_law_work", "_law_which", "_law_sets", "_law_far", "_law_found"]
theorem sc_law : FnScope n_law ["_law_script"] (defScope s_law) := ⟨rfl, rfl, rfl, by decide +kernel, rfl, by decide +kernel, by decide +kernel⟩
def clsBody : Stmt → List Stmt
  | .ClassDef _ _ _ body _ _ _ _ _ _ _ => body
  | _ => []
abbrev s_BadSet_init : Stmt := (clsBody (topS 3)).getD 0 (.Pass ⟨0, 0, 0, 0⟩)
abbrev n_BadSet_init : List Str := ["self", "number", "at"]
theorem sc_BadSet_init : FnScope n_BadSet_init ["self", "number", "at"] (defScope s_BadSet_init) := ⟨rfl, rfl, rfl, by decide +kernel, rfl, by decide +kernel, by decide +kernel⟩
/-- the table of a def's code object; the name of its lambdas -/
def tbl3 (K : PySem.W.Frag) (x : Str) : Addr := (He.cT K (x, none)).2
def lamN (x : Str) : Str := x ++ ".<locals>." ++ "<lambda>"
def tabsK (K : PySem.W.Frag) : List (Addr × Str) := [(tbl3 K "law", lamN "law"), (tbl3 K "_law_single", lamN "_law_single"), (tbl3 K "_law_several", lamN "_law_several")]
structure TB3 (K : PySem.W.Frag) (mg : Str → Option Value) (base : Heap) : Prop where
  a : LamX.TabB base mg (He.cT K ("law", none)).1 (He.cT K ("law", none)).2
  b : LamX.TabB base mg (He.cT K ("_law_single", none)).1 (He.cT K ("_law_single", none)).2
  c : LamX.TabB base mg (He.cT K ("_law_several", none)).1 (He.cT K ("_law_several", none)).2
structure Tx (K : PySem.W.Frag) (mg : Str → Option Value) : Prop where
  d_need_size : Df K mg "need_size" s_need_size ["size"]
  d_need_set : Df K mg "need_set" s_need_set ["size", "ranges", "number"]
  d_need_number : Df K mg "need_number" s_need_number ["size", "number"]
  d_has : Df K mg "has" s_has ["ranges", "number"]
  d_all_in : Df K mg "all_in" s_all_in ["size", "ranges"]
  d_told : Df K mg "told" s_told ["numbers"]
  d_members : Df K mg "members" s_members ["size", "ranges"]
  d_plain : Df K mg "plain" s_plain ["size", "ranges"]
  d_need_two : Df K mg "need_two" s_need_two ["size", "one", "other"]
  d_joined : Df K mg "joined" s_joined ["size", "one", "other"]
  d_common : Df K mg "common" s_common ["size", "one", "other"]
  d_less : Df K mg "less" s_less ["size", "one", "other"]
  d_others : Df K mg "others" s_others ["size", "ranges"]
  d_inside : Df K mg "inside" s_inside ["size", "ranges", "number"]
  d_need_sets : Df K mg "need_sets" s_need_sets ["size", "sets"]
  d_row_of : Df K mg "row_of" s_row_of ["size", "ranges", "first", "wide"]
  d_made : Df K mg "made" s_made ["size", "sets", "wide"]
  d_table : Df K mg "table" s_table ["size", "sets", "wide"]
  d_look : Df K mg "look" s_look ["size", "told", "which", "number"]
  d_room_of : Df K mg "room_of" s_room_of ["told"]
  d_least : Df K mg "least" s_least ["size", "sets"]
  d_kinds_of : Df K mg "kinds_of" s_kinds_of ["size", "sets"]
  d_classes : Df K mg "classes" s_classes ["size", "sets"]
  d_class_row : Df K mg "class_row" s_class_row ["size", "sets"]
  d_by_classes : Df K mg "by_classes" s_by_classes ["size", "sets"]
  d_items_of : Df K mg "items_of" s_items_of ["ranges"]
  d_written : Df K mg "written" s_written ["size", "ranges"]
  d_number_of : Df K mg "number_of" s_number_of ["word", "size"]
  d_item_of : Df K mg "item_of" s_item_of ["word", "size"]
  d_read : Df K mg "read" s_read ["size", "text"]
  d__law_dice : Df K mg "_law_dice" s__law_dice ["_law_script", "_law_k"]
  d__law_off : Df K mg "_law_off" s__law_off ["_law_d", "_law_most"]
  d__law_alike : Df K mg "_law_alike" s__law_alike ["_law_found", "_law_due"]
  d__law_refused : Df K mg "_law_refused" s__law_refused ["_law_work", "_law_word", "_law_value"]
  d__law_size : Df K mg "_law_size" s__law_size ["_law_d"]
  d__law_set : Df K mg "_law_set" s__law_set ["_law_d", "_law_size_here", "_law_most"]
  d__law_bad : Df K mg "_law_bad" s__law_bad ["_law_d", "_law_size_here", "_law_ranges"]
  d__law_single : Df K mg "_law_single" s__law_single ["_law_size_here", "_law_ranges"]
  d__law_several : Df K mg "_law_several" s__law_several ["_law_size_here", "_law_sets"]
  c_MOST_SIZE : ∃ t, mg "MOST_SIZE" = some (.int 64 t)
  c_MOST_RANGES : ∃ t, mg "MOST_RANGES" = some (.int 40 t)
  c_FIGURES : ∃ t, mg "FIGURES" = some (.str (Str.ofString "0123456789") t)
  c_NOT : ∃ t, mg "NOT" = some (.str (Str.ofString "^") t)
  z_range : mg "range" = none
  z_enumerate : mg "enumerate" = none
  z_len : mg "len" = none
  z_min : mg "min" = none
  z_max : mg "max" = none
  z_abs : mg "abs" = none
  z_isinstance : mg "isinstance" = none
  z_bool : mg "bool" = none
  z_int : mg "int" = none
  z_str : mg "str" = none
  z_tuple : mg "tuple" = none
  z_list : mg "list" = none
  z_all : mg "all" = none
  z_sum : mg "sum" = none
  z_ValueError : mg "ValueError" = none
  g_SetError : mg "SetError" = some (.ref (He.ga K "SetError"))
  g_BadSize : mg "BadSize" = some (.ref (He.ga K "BadSize"))
  g_BadSet : mg "BadSet" = some (.ref (He.ga K "BadSet"))
  g_BadNumber : mg "BadNumber" = some (.ref (He.ga K "BadNumber"))
  g_BadText : mg "BadText" = some (.ref (He.ga K "BadText"))
  x_BadSize : PySem.W.excIn K (He.ga K "BadSize") He.veBase "ValueError.__new__" = true ∧ PySem.W.keepIn K (.ref (He.ga K "BadSize")) = true ∧ PySem.W.subIn K (.ref (He.ga K "BadSize")) (.type "BaseException") = some true ∧ PySem.W.typeIn K (.ref (He.ga K "BadSize")) = some (.type "type")
  x_BadNumber : PySem.W.excIn K (He.ga K "BadNumber") He.veBase "ValueError.__new__" = true ∧ PySem.W.keepIn K (.ref (He.ga K "BadNumber")) = true ∧ PySem.W.subIn K (.ref (He.ga K "BadNumber")) (.type "BaseException") = some true ∧ PySem.W.typeIn K (.ref (He.ga K "BadNumber")) = some (.type "type")
  m_BadSize : PySem.W.exmOne K (.ref (He.ga K "BadSize")) (.ref (He.ga K "SetError")) = some true
  e_BadSize : ExcC K (He.ga K "BadSize") ∧ XfC K (He.ga K "BadSize")
  v_BadSize : PySem.W.kitOne K (.ref (He.ga K "BadSize")) (.type "ValueError") = some true
  k_BadSize_BadSize : PySem.W.kitOne K (.ref (He.ga K "BadSize")) (.ref (He.ga K "BadSize")) = some true
  k_BadSize_BadSet : PySem.W.kitOne K (.ref (He.ga K "BadSize")) (.ref (He.ga K "BadSet")) = some false
  k_BadSize_BadNumber : PySem.W.kitOne K (.ref (He.ga K "BadSize")) (.ref (He.ga K "BadNumber")) = some false
  k_BadSize_BadText : PySem.W.kitOne K (.ref (He.ga K "BadSize")) (.ref (He.ga K "BadText")) = some false
  m_BadSet : PySem.W.exmOne K (.ref (He.ga K "BadSet")) (.ref (He.ga K "SetError")) = some true
  e_BadSet : ExcC K (He.ga K "BadSet") ∧ XfC K (He.ga K "BadSet")
  v_BadSet : PySem.W.kitOne K (.ref (He.ga K "BadSet")) (.type "ValueError") = some true
  k_BadSet_BadSize : PySem.W.kitOne K (.ref (He.ga K "BadSet")) (.ref (He.ga K "BadSize")) = some false
  k_BadSet_BadSet : PySem.W.kitOne K (.ref (He.ga K "BadSet")) (.ref (He.ga K "BadSet")) = some true
  k_BadSet_BadNumber : PySem.W.kitOne K (.ref (He.ga K "BadSet")) (.ref (He.ga K "BadNumber")) = some false
  k_BadSet_BadText : PySem.W.kitOne K (.ref (He.ga K "BadSet")) (.ref (He.ga K "BadText")) = some false
  m_BadNumber : PySem.W.exmOne K (.ref (He.ga K "BadNumber")) (.ref (He.ga K "SetError")) = some true
  e_BadNumber : ExcC K (He.ga K "BadNumber") ∧ XfC K (He.ga K "BadNumber")
  v_BadNumber : PySem.W.kitOne K (.ref (He.ga K "BadNumber")) (.type "ValueError") = some true
  k_BadNumber_BadSize : PySem.W.kitOne K (.ref (He.ga K "BadNumber")) (.ref (He.ga K "BadSize")) = some false
  k_BadNumber_BadSet : PySem.W.kitOne K (.ref (He.ga K "BadNumber")) (.ref (He.ga K "BadSet")) = some false
  k_BadNumber_BadNumber : PySem.W.kitOne K (.ref (He.ga K "BadNumber")) (.ref (He.ga K "BadNumber")) = some true
  k_BadNumber_BadText : PySem.W.kitOne K (.ref (He.ga K "BadNumber")) (.ref (He.ga K "BadText")) = some false
  q_law : mg "law" = some (.ref (He.ga K "law"))
  q__law_single : mg "_law_single" = some (.ref (He.ga K "_law_single"))
  q__law_several : mg "_law_several" = some (.ref (He.ga K "_law_several"))
  dis : tbl3 K "law" ≠ tbl3 K "_law_single" ∧ tbl3 K "law" ≠ tbl3 K "_law_several" ∧ tbl3 K "_law_single" ≠ tbl3 K "_law_several"
  ini : IniC K (He.ga K "BadSet") (He.ma K (He.ga K "BadSet") "__init__") ["number", "at"]
  bas : BaseI K (He.ga K "SetError")
  d_init : ∃ fd, Fun K "__init__" "BadSet.__init__" s_BadSet_init (He.ma K (He.ga K "BadSet") "__init__") fd ∧ Binds K fd ["self", "number", "at"] []
section
variable {P : Program} {w : World} {K : PySem.W.Frag} {mg : Str → Option Value} {base : Heap}
/-! ### the error of a set that cannot be -/
def spInit (K : PySem.W.Frag) : Sp := fun vs H Q _ => ∃ (a : Addr) (num i : Int), vs = [.ref a, .int num, .int i] ∧ H a = some (exo a (He.ga K "BadSet") none) ∧
  ∀ d, H d = none → d ≠ a → Q .non (upd (upd (upd H d (exd d [("number", .int num)])) a (exo a (He.ga K "BadSet") (some d))) d (exd d [("at", .int i), ("number", .int num)]))
theorem ok_init (T : Tx K mg) : ∃ fd, FnOk P w K mg base CX0 1 (He.ma K (He.ga K "BadSet") "__init__") fd ["self", "number", "at"] (spInit K) ∧ Binds K fd ["self", "number", "at"] [] := by
  obtain ⟨fd, F, b⟩ := T.d_init
  refine ⟨fd, F.ok sc_BadSet_init (fun vs H Q E h => ?_) (fun cdv A outer s H vs Q E hr h => ?_), b⟩
  · obtain ⟨a, num, i, rfl, _⟩ := h
    rfl
  obtain ⟨a, num, i, rfl, ha, q⟩ := h
  refine ⟨_, pss_cons (ps_expr (pe_baseI T.bas (by rfl) T.g_SetError (pa_cons (pv 0) (pa_cons (pv 2) pa_nil)))) (pss_cons (ps_ost (pv 0) (pv 1)) (pss_one (ps_ost (pv 0) (pv 2)))), ?_⟩
  refine ⟨_, rfl, _, rfl, a, He.ga K "BadSet", [.int i], rfl, by simp, T.ini.o, ha, ?_⟩
  refine ⟨_, rfl, _, rfl, a, He.ga K "BadSet", rfl, T.ini.o, T.ini.f "number" (by decide), .inl ⟨ha, fun d nd ne => ?_⟩⟩
  refine ⟨_, rfl, _, rfl, a, He.ga K "BadSet", rfl, T.ini.o, T.ini.f "at" (by decide), .inr ⟨d, [("number", .int num)], upd_same, by rw [upd_ne ne, upd_same], by simp, q d nd ne⟩⟩
theorem raise_set {X : Cx} {j : Nat} {e : Expr} {es : List Expr} {ta : TA} {p pos : Pos} (T : Tx X.K X.mg) (hr : Room j X.A) (ha : PA X (e :: es) ta) (hj : 2 ≤ j := by decide) (hg : Gl X "BadSet" := by rfl)
    (he : starEach (e :: es) X.env = (false, eval e X.env) :: starEach es X.env := by rfl) (hpl : (backTo pos (starEach es X.env)).any (·.1) = false := by rfl) :
    L2N.PMk X (.Call (.Name "BadSet" p) (e :: es) [] pos) (tMkO (He.ga X.K "BadSet") (spInit X.K) [] ta) := by
  obtain ⟨fd, F1, hb⟩ := ok_init (P := X.prog) (w := X.w) (base := X.base) T
  exact pmk_ini T.ini.o T.ini.i T.ini.t F1 (hr.mono hj) hb hg T.g_BadSet ha (by decide) he hpl
theorem raised_same {H H1 : Hp} {a d : Addr} {x y z u o : HO} (sm : Same H H1) (na : H1 a = none) (nd : H1 d = none) : Same H (upd (L2.del (upd (upd (upd (upd H1 a x) d y) a z) d u) a) d o) := fun b v h => by
  have h1 := sm b v h
  have ba : b ≠ a := ne_of_none h1 na
  have bd : b ≠ d := ne_of_none h1 nd
  rw [upd_ne bd, L2.del_ne ba, upd_ne bd, upd_ne ba, upd_ne bd, upd_ne ba]
  exact h1
/-- raise BadSet(num, i) from H1 on -/
theorem set_thrown {K : PySem.W.Frag} {H H1 : Hp} {num i : Int} {E : XK} (thr : Thr K (.set num i) H E) (sm : Same H H1) : ∀ a, H1 a = none → spInit K (.ref a :: ([.int num, .int i] ++ [])) (upd H1 a (exo a (He.ga K "BadSet") none))
    (fun v H2 => v = .non ∧ ∃ (d : Addr) (fs : List (Str × V)), H2 a = some (exo a (He.ga K "BadSet") (some d)) ∧ H2 d = some (exd d fs) ∧ H1 d = none ∧ E (.ref (He.ga K "BadSet")) (some d) (upd (L2.del H2 a) d (.xd fs))) (fun _ _ _ => False) := fun a na =>
  ⟨a, num, i, rfl, upd_same, fun d nd ne => ⟨rfl, d, [("at", .int i), ("number", .int num)], by rw [upd_ne (Ne.symm ne), upd_same], upd_same, upd_gone nd, thr _ d (raised_same sm na (upd_gone nd)) (sm.free (upd_gone nd)) upd_same⟩⟩
def spNeedSize (K : PySem.W.Frag) : Sp := fun vs H Q E => ∃ n : Int, vs = [.int n] ∧ ((SizeOk n ∧ Q .non H) ∨ (¬ SizeOk n ∧ Thr K .size H E))
theorem ok_need_size (T : Tx K mg) : ClX P w K mg base 1 "need_size" (spNeedSize K) := by
  refine T.d_need_size.clX sc_need_size (fun vs H Q E h => ?_) (fun f cdv A outer s H vs Q E hr h => ?_)
  · obtain ⟨n, rfl, _⟩ := h
    rfl
  obtain ⟨n, rfl, h⟩ := h
  refine ⟨_, (pss_one (ps_if (pt_not (pt_chain op_le op_le pe_int (pv 0) (pe_gI (by rfl) T.c_MOST_SIZE))) (pss_one (L2N.ps_raise (by rfl) (L2N.takes_of rfl rfl rfl rfl) (L2N.pmk_own PySem.F.excBase_ValueError T.x_BadSize.1 T.g_BadSize T.x_BadSize.2.1 (raises_own T.x_BadSize.2.2.1 T.x_BadSize.2.2.2) (by rfl)))) pss_nil)), ?_⟩
  by_cases h1 : 1 ≤ n
  · by_cases h2 : n ≤ 64
    · rcases h with ⟨_, q⟩ | ⟨z, _⟩
      · exact ⟨_, rfl, _, _, rfl, rfl, true, bT h1, iteT ⟨_, _, rfl, rfl, true, bT h2, iteF q⟩⟩
      · exact absurd ⟨h1, h2⟩ z
    · rcases h with ⟨z, _⟩ | ⟨_, t⟩
      · exact absurd z.2 h2
      · exact ⟨_, rfl, _, _, rfl, rfl, true, bT h1, iteT ⟨_, _, rfl, rfl, false, bF h2, iteT (t H (Same.refl _))⟩⟩
  · rcases h with ⟨z, _⟩ | ⟨_, t⟩
    · exact absurd z.1 h1
    · exact ⟨_, rfl, _, _, rfl, rfl, false, bF h1, iteF ⟨false, rfl, iteT (t H (Same.refl _))⟩⟩
def spNeedNumber (K : PySem.W.Frag) : Sp := fun vs H Q E => ∃ n k : Int, vs = [.int n, .int k] ∧ (((0 ≤ k ∧ k < n) ∧ Q .non H) ∨ (¬ (0 ≤ k ∧ k < n) ∧ Thr K .number H E))
theorem ok_need_number (T : Tx K mg) : ClX P w K mg base 1 "need_number" (spNeedNumber K) := by
  refine T.d_need_number.clX sc_need_number (fun vs H Q E h => ?_) (fun f cdv A outer s H vs Q E hr h => ?_)
  · obtain ⟨n, k, rfl, _⟩ := h
    rfl
  obtain ⟨n, k, rfl, h⟩ := h
  refine ⟨_, (pss_one (ps_if (pt_not (pt_chain op_le op_lt pe_int (pv 1) (pv 0))) (pss_one (L2N.ps_raise (by rfl) (L2N.takes_of rfl rfl rfl rfl) (L2N.pmk_own PySem.F.excBase_ValueError T.x_BadNumber.1 T.g_BadNumber T.x_BadNumber.2.1 (raises_own T.x_BadNumber.2.2.1 T.x_BadNumber.2.2.2) (by rfl)))) pss_nil)), ?_⟩
  by_cases h1 : 0 ≤ k
  · by_cases h2 : k < n
    · rcases h with ⟨_, q⟩ | ⟨z, _⟩
      · exact ⟨_, rfl, _, _, rfl, rfl, true, bT h1, iteT ⟨_, rfl, _, _, rfl, rfl, true, bT h2, iteF q⟩⟩
      · exact absurd ⟨h1, h2⟩ z
    · rcases h with ⟨z, _⟩ | ⟨_, t⟩
      · exact absurd z.2 h2
      · exact ⟨_, rfl, _, _, rfl, rfl, true, bT h1, iteT ⟨_, rfl, _, _, rfl, rfl, false, bF h2, iteT (t H (Same.refl _))⟩⟩
  · rcases h with ⟨z, _⟩ | ⟨_, t⟩
    · exact absurd z.1 h1
    · exact ⟨_, rfl, _, _, rfl, rfl, false, bF h1, iteF ⟨false, rfl, iteT (t H (Same.refl _))⟩⟩
def spNeedSet (K : PySem.W.Frag) : Sp := fun vs H Q E => ∃ (n : Int) (v : V) (R : List (Int × Int)) (num : Int), vs = [.int n, v, .int num] ∧ Dp K H v (eR R) ∧ ((Ok n R ∧ ∀ H', Same H H' → Q .non H') ∨ ∃ i : Nat, BadAt n R i ∧ Thr K (.set num i) H E)
theorem ok_need_set (T : Tx K mg) : ClX P w K mg base 3 "need_set" (spNeedSet K) := by
  refine T.d_need_set.clX sc_need_set (fun vs H Q E h => ?_) (fun f cdv A outer s H vs Q E hr h => ?_)
  · obtain ⟨n, v, R, num, rfl, _⟩ := h
    rfl
  obtain ⟨n, v, R, num, rfl, hD, h⟩ := h
  obtain ⟨a, xs, rfl, hS, hA⟩ := dp_list hD
  have hxl : xs.length = R.length := by rw [dpAll_len hA, List.length_map]
  refine ⟨_, (pss_one (ps_for (passes_of rfl) rfl (piEnum K (by rfl) T.z_enumerate (pa_cons (pv 1) pa_nil)) (pgT K (by rfl) (pgs_cons (pg_name (i := 3) sc_need_set.nd rfl (by first | exact Or.inl rfl | exact Or.inr rfl)) (pgs_cons (pgT K (by rfl) (pgs_cons (pg_name (i := 4) sc_need_set.nd rfl (by first | exact Or.inl rfl | exact Or.inr rfl)) (pgs_cons (pg_name (i := 5) sc_need_set.nd rfl (by first | exact Or.inl rfl | exact Or.inr rfl)) pgs_nil))) pgs_nil)))
      (pss_one (ps_if (PW.pt (pw_or (pt_cmpR op_ge (pv 3) (pe_gI (by rfl) T.c_MOST_RANGES) (nomark _)) (pw_or1 (pt_not (pt_chain3 op_le op_le op_lt pe_int (pv 4) (pv 5) (pv 0)))))) (pss_one (L2N.ps_raise (by rfl) (L2N.takes_of rfl rfl rfl rfl) (raise_set T hr (pa_cons (pv 2) (pa_cons (pv 3) pa_nil))))) pss_nil)))), ?_⟩
  -- all turns ahead of the first bad one pass
  refine ⟨_, rfl, a, xs, rfl, hS, for_enum (xs := xs) (fun i σ H1 => ∃ y3 y4 y5, σ = [some (.int n), some (.ref a), some (.int num), y3, y4, y5] ∧ Same H H1 ∧ (∀ b : Nat, BadAt n R b → i ≤ b)) ⟨none, none, none, rfl, Same.refl _, fun _ _ => Nat.zero_le _⟩ (fun i σ H1 _ p => ?_) (fun i x t σ H1 hx nt p => ?_) (fun σ H1 p => ?_)⟩
  · obtain ⟨_, _, _, _, sm, _⟩ := p
    exact sm.seq hS
  · obtain ⟨y3, y4, y5, rfl, sm, hb⟩ := p
    obtain ⟨d, hd, hx'⟩ := dpAll_get hA hx
    obtain ⟨r, hr', rfl⟩ := get_map hd
    obtain ⟨u, rfl, hT⟩ := dp_pair hx'
    have s2 : Same H (upd H1 t (.tup [.int (i : Nat), .ref u])) := sm.trans (same_new nt)
    have hi : i < R.length := (List.getElem?_eq_some_iff.mp hr').1
    refine ⟨t, _, rfl, SqT.of upd_same, rfl, _, _, rfl, _, _, rfl, u, _, rfl, same_tup s2 hT, rfl, _, _, rfl, _, _, rfl, rfl, rfl, ?_⟩
    -- good, or the bad one is here
    have here : (i < 40 ∧ Good n r) ∨ ((40 ≤ i ∨ ¬ Good n r) ∧ Thr K (.set num i) H E) := by
      by_cases g : i < 40 ∧ Good n r
      · exact .inl g
      · have bad : 40 ≤ i ∨ ¬ Good n r := by
          by_cases h40 : i < 40
          · exact .inr fun z => g ⟨h40, z⟩
          · exact .inl (by omega)
        refine .inr ⟨bad, ?_⟩
        rcases h with ⟨hk, _⟩ | ⟨b, hbad, thr⟩
        · rcases bad with z | z
          · have := hk.1
            omega
          · exact absurd (hk.2 r (List.mem_of_getElem? hr')) z
        · have h1 := hb b hbad
          have e : b = i := by
            rcases Nat.lt_or_ge i b with z | z
            · obtain ⟨z1, z2⟩ := hbad.before i r z hr'
              rcases bad with y | y
              · omega
              · exact absurd z2 y
            · omega
          rw [e] at thr
          exact thr
    rcases here with ⟨g1, k1, k2, k3⟩ | ⟨bad, thr⟩
    · refine ⟨_, rfl, _, _, rfl, rfl, false, bF (by omega), iteF ⟨_, rfl, _, _, rfl, rfl, true, bT k1, iteT ⟨_, rfl, _, _, rfl, rfl, true, bT k2, iteT ⟨_, rfl, _, _, rfl, rfl, true, bT k3, iteF ?_⟩⟩⟩⟩
      refine ⟨_, _, _, rfl, s2, fun b hbad => ?_⟩
      have h1 := hb b hbad
      rcases Nat.lt_or_ge i b with z | z
      · exact z
      · have e : b = i := by omega
        rw [e] at hbad
        obtain ⟨r2, e2, z2⟩ := hbad.here
        rw [hr'] at e2
        cases e2
        rcases z2 with y | y
        · omega
        · exact absurd ⟨k1, k2, k3⟩ y
    · have fin := set_thrown thr s2
      by_cases h40 : 40 ≤ i
      · exact ⟨_, rfl, _, _, rfl, rfl, true, bT (by omega), iteT ⟨_, rfl, _, rfl, by simp, fin⟩⟩
      · have ng : ¬ Good n r := bad.resolve_left h40
        refine ⟨_, rfl, _, _, rfl, rfl, false, bF (by omega), iteF ?_⟩
        by_cases k1 : 0 ≤ r.1
        · by_cases k2 : r.1 ≤ r.2
          · have k3 : ¬ r.2 < n := fun z => ng ⟨k1, k2, z⟩
            exact ⟨_, rfl, _, _, rfl, rfl, true, bT k1, iteT ⟨_, rfl, _, _, rfl, rfl, true, bT k2, iteT ⟨_, rfl, _, _, rfl, rfl, false, bF k3, iteT ⟨_, rfl, _, rfl, by simp, fin⟩⟩⟩⟩
          · exact ⟨_, rfl, _, _, rfl, rfl, true, bT k1, iteT ⟨_, rfl, _, _, rfl, rfl, false, bF k2, iteF (iteT ⟨_, rfl, _, rfl, by simp, fin⟩)⟩⟩
        · exact ⟨_, rfl, _, _, rfl, rfl, false, bF k1, iteF (iteT ⟨_, rfl, _, rfl, by simp, fin⟩)⟩
  · obtain ⟨y3, y4, y5, rfl, sm, hb⟩ := p
    rcases h with ⟨_, q⟩ | ⟨b, hbad, _⟩
    · exact q H1 sm
    · have h1 := hb b hbad
      obtain ⟨r, e, _⟩ := hbad.here
      have h2 : b < R.length := (List.getElem?_eq_some_iff.mp e).1
      omega
end
section
variable {P : Program} {w : World} {K : PySem.W.Frag} {mg : Str → Option Value} {base : Heap}
def spHas (K : PySem.W.Frag) : Sp := fun vs H Q _ => ∃ (v : V) (R : List (Int × Int)) (n : Int), vs = [v, .int n] ∧ Dp K H v (eR R) ∧ R.length ≤ 1000 ∧ ∀ H', Same H H' → Q (.bl (has R n)) H'
theorem ok_has (T : Tx K mg) : Cl P w K mg base 1 "has" (spHas K) := by
  refine T.d_has.cl sc_has (fun vs H Q E h => ?_) (fun f cdv A outer s H vs Q E hr h => ?_)
  · obtain ⟨v, R, n, rfl, _⟩ := h
    rfl
  obtain ⟨v, R, n, rfl, hD, hl, q⟩ := h
  obtain ⟨a, xs, rfl, hS, hA⟩ := dp_list hD
  have hxl : xs.length = R.length := by rw [dpAll_len hA, List.length_map]
  refine ⟨_, (pss_one (ps_ret (pe_cmpR (neD K hr.units) (pe_lc (own := [("pair", 2)]) (g := (gName 2)) (tt := _) (by rfl) sc_has.nd (piL K (pv 0)) (blkOk_by (own := [("pair", 2)]) (N := n_has) (sc := defScope s_has) (by decide +kernel)) (fun _ _ _ _ _ => (pg_name (i := 2) sc_has.nd rfl (by first | exact Or.inl rfl | exact Or.inr rfl))) (fun _ _ _ _ _ => (pts_one (pt_chain op_le op_le (pe_ix (ixT K) (pv 2) pe_int (fun _ _ => rfl)) (pv 1) (pe_ix (ixT K) (pv 2) pe_int (fun _ _ => rfl))))) (fun _ _ _ _ _ => (pv 2))) (pe_lst pa_nil) (nomark _)))), ?_⟩
  refine ⟨_, rfl, a, rfl, ⟨_, hS⟩, fun D hDn => lcO_list (K := K) (xs := xs) (ds := R.map eP) (inR n) hS hA hDn (by omega) (fun i x d H1 N1 N0 hd hx sm k1 k0 => ?_) (fun H1 ys sm hy ha => ?_)⟩
  · obtain ⟨r, hr', rfl⟩ := get_map hd
    obtain ⟨t, rfl, hT⟩ := dp_pair hx
    have hT1 := same_tup sm hT
    refine ⟨rfl, _, rfl, t, _, _, _, rfl, rfl, hT1, rfl, _, rfl, _, _, rfl, rfl, _, rfl, ite2 (fun c => ?_) (fun c => ?_)⟩
    · have c1 : r.1 ≤ n := of_decide_eq_true c
      refine ⟨_, rfl, t, _, _, _, rfl, rfl, hT1, rfl, _, _, rfl, rfl, _, rfl, ite2 (fun e => ?_) (fun e => ?_)⟩
      · have e1 : n ≤ r.2 := of_decide_eq_true e
        exact ⟨_, rfl, k1 H1 (Same.refl _) (by rw [inR_eP, decide_eq_true c1, decide_eq_true e1]; rfl)⟩
      · have e1 : ¬ n ≤ r.2 := fun z => e (decide_eq_true z)
        exact k0 H1 (Same.refl _) (by rw [inR_eP, decide_eq_false e1, Bool.and_false])
    · have c1 : ¬ r.1 ≤ n := fun z => c (decide_eq_true z)
      exact ⟨_, rfl, iteF (k0 H1 (Same.refl _) (by rw [inR_eP, decide_eq_false c1, Bool.false_and]))⟩
  · refine ⟨Nat.zero_le _, fun p hp => ⟨_, _, .lst (SqL.of (same_new hp _ _ hy)) (same_dpAll (sm.trans (same_new hp)) ha), .lst (SqL.of upd_same) .nil, (sh_filter (n := 0)).shaped, (sh_nil (n := 0)).shaped, ?_⟩⟩
    have e : (!PyData.eqv (.list ((R.map eP).filter (inR n))) (.list [])) = has R n := by
      rw [eqv_nil, any_filter, List.any_map]
      rfl
    rw [e]
    exact q _ (sm.trans (same_new hp))
def spAllIn (K : PySem.W.Frag) : Sp := fun vs H Q _ => ∃ (n : Nat) (v : V) (R : List (Int × Int)), vs = [.int n, v] ∧ Dp K H v (eR R) ∧ R.length ≤ 1000 ∧ n ≤ 1000 ∧ ∀ H' p, Same H H' → NewV H H' p (eI (allIn n R)) → Q p H'
theorem ok_all_in (T : Tx K mg) : Cl P w K mg base 2 "all_in" (spAllIn K) := by
  refine T.d_all_in.cl sc_all_in (fun vs H Q E h => ?_) (fun f cdv A outer s H vs Q E hr h => ?_)
  · obtain ⟨n, v, R, rfl, _⟩ := h
    rfl
  obtain ⟨n, v, R, rfl, hD, hl, hn, q⟩ := h
  refine ⟨_, (pss_one (ps_ret (pe_lc (own := [("number", 2)]) (g := (gName 2)) (tt := _) (by rfl) sc_all_in.nd (pi_range1 (by rfl) T.z_range (pa_cons (pv 0) pa_nil)) (blkOk_by (own := [("number", 2)]) (N := n_all_in) (sc := defScope s_all_in) (by decide +kernel)) (fun _ _ _ _ _ => (pg_name (i := 2) sc_all_in.nd rfl (by first | exact Or.inl rfl | exact Or.inr rfl))) (fun _ _ _ _ _ => (pts_one (pt_val (pe_k (ok_has T) hr (pa_cons (pv 1) (pa_cons (pv 2) pa_nil)))))) (fun _ _ _ _ _ => (pv 2))))), ?_⟩
  refine ⟨_, rfl, (n : Int), rfl, by omega, by omega, fun D hDn => lcN_range0 (fun i => if has R (i : Int) = true then some (.int (i : Int)) else none) hDn (by omega) (fun i H1 N1 N0 hi sm k1 k0 => ?_) (fun H1 sm lb => ?_)⟩
  · refine ⟨rfl, _, rfl, _, rfl, v, R, i, rfl, same_dp sm hD, hl, fun H2 s2 => ⟨_, rfl, ?_⟩⟩
    cases e : has R (i : Int) with
    | true => exact iteT ⟨_, rfl, k1 _ H2 _ s2 (by rw [e]; rfl) (.int _)⟩
    | false => exact iteF (k0 H2 s2 (by rw [e]; rfl))
  · rw [range_ints] at lb
    exact q H1 _ sm lb.newV
def spTold (K : PySem.W.Frag) : Sp := fun vs H Q _ => ∃ (v : V) (ns : List Int), vs = [v] ∧ Dp K H v (eI ns) ∧ ns.length ≤ 1000 ∧ ∀ H' p, Same H H' → NewV H H' p (eR (told ns)) → Q p H'
theorem ok_told (T : Tx K mg) : Cl P w K mg base 1 "told" (spTold K) := by
  refine T.d_told.cl sc_told (fun vs H Q E h => ?_) (fun f cdv A outer s H vs Q E hr h => ?_)
  · obtain ⟨v, ns, rfl, _⟩ := h
    rfl
  obtain ⟨v, ns, rfl, hD, hl, q⟩ := h
  obtain ⟨a, xs, rfl, hS, hA⟩ := dp_list hD
  obtain rfl := dpAll_ints hA
  refine ⟨_, (pss_cons (ps_set (i := 1) sc_told.nd rfl (by first | exact Or.inl rfl | exact Or.inr rfl) (pe_lst pa_nil))
      (pss_cons (ps_for PassesOwn.never rfl (piL K (pv 0)) (pg_name (i := 2) sc_told.nd rfl (by first | exact Or.inl rfl | exact Or.inr rfl))
      (pss_one (ps_if (PW.pt (pw_and (pt_cmpR (neD K hr.units) (pv 1) (pe_lst pa_nil) (nomark _)) (pw_and1 (pt_cmpR op_eq (pe_ix (ixT K) (pe_ix (ixL K) (pv 1) (pe_un un_neg pe_int) (fun _ _ => rfl)) pe_int (fun _ _ => rfl)) (pe_op op_sub (pv 2) pe_int) (nomark _))))) (pss_one (ps_asg (pe_tup (pa_cons (pe_ix (ixT K) (pe_ix (ixL K) (pv 1) (pe_un un_neg pe_int) (fun _ _ => rfl)) pe_int (fun _ _ => rfl)) (pa_cons (pv 2) pa_nil))) (pg_sub (pv 1) (pe_un un_neg pe_int) set_list))) (pss_one (ps_expr (pe_bm PySem.F.plainAttrs_list PySem.F.slot_list_append PySem.F.type_list_append mt_append (pv 1) (pa_cons (pe_tup (pa_cons (pv 2) (pa_cons (pv 2) pa_nil))) pa_nil)))))))
      (pss_one (ps_ret (pv 1))))), ?_⟩
  refine ⟨Nat.zero_le _, fun o no => ?_⟩
  refine ⟨_, rfl, a, rfl, ⟨_, (same_new no).seq hS⟩, for_list (xs := ns.map V.int) (fun i σ H1 => ∃ y2, σ = [some (.ref a), some (.ref o), y2] ∧ Same H H1 ∧ LB H H1 o ((told (ns.take i)).map eP)) ⟨none, rfl, same_new no, LB.nil no⟩ (fun i σ H1 _ p => ?_) (fun i x σ H1 hx p => ?_) (fun σ H1 p => ?_)⟩
  · obtain ⟨_, _, sm, _⟩ := p
    exact sm.seq hS
  · obtain ⟨y2, rfl, sm, lb⟩ := p
    obtain ⟨n, hn, rfl⟩ : ∃ n, ns[i]? = some n ∧ x = .int n := by
      rw [List.getElem?_map] at hx
      cases e : ns[i]? with
      | none => rw [e] at hx; cases hx
      | some n => rw [e] at hx; exact ⟨n, rfl, (Option.some.inj hx).symm⟩
    have hi : i < ns.length := (List.getElem?_eq_some_iff.mp hn).1
    have et : told (ns.take (i + 1)) = toldStep (told (ns.take i)) n := by
      rw [List.take_add_one, hn]
      exact told_snoc _ _
    have hlen : (told (ns.take i)).length ≤ i := Nat.le_trans (told_len _) (by rw [List.length_take]; exact Nat.min_le_left _ _)
    rw [et]
    obtain ⟨xs, ho, hxl⟩ := lb.at
    rw [List.length_map] at hxl
    have app : ∀ H2, Same H1 H2 → toldStep (told (ns.take i)) n = told (ns.take i) ++ [(n, n)] →
        ∀ D : Ends, (∀ σ' H', (∃ y2, σ' = [some (V.ref a), some (.ref o), y2] ∧ Same H H' ∧ LB H H' o ((toldStep (told (ns.take i)) n).map eP)) → D.nx σ' H') →
        (∃ v, [some (V.ref a), some (V.ref o), some (V.int n)][1]? = some (some v) ∧ tyV K "list" v H2 ∧ ∃ v1, [some (V.ref a), some (V.ref o), some (V.int n)][2]? = some (some v1) ∧ ∃ v2, [some (V.ref a), some (V.ref o), some (V.int n)][2]? = some (some v2) ∧ ([v1, v2] : List V).length ≤ sizeLine ∧ ∀ p, H2 p = none → rAppend v [.ref p] (upd H2 p (.tup [v1, v2])) fun _ H' => D.nx [some (.ref a), some (.ref o), some (.int n)] H') := fun H2 s2 e D k => by
      refine ⟨_, rfl, .inl ⟨rfl, _, SqL.of (s2 _ _ ho)⟩, _, rfl, _, rfl, by show 2 ≤ sizeLine; decide, fun p np => ?_⟩
      have s3 : Same H1 (upd H2 p (.tup [.int n, .int n])) := s2.trans (same_new np)
      obtain ⟨ys, h1, h2, h3⟩ := lb.snoc sm s3 ((new_pair np).mono s2 (Same.refl _))
      refine ⟨o, ys, _, rfl, rfl, h1, sizeOk (by rw [h2, List.length_map]; omega), k _ _ ⟨_, rfl, same_upd (sm.trans s3) lb.1, ?_⟩⟩
      rw [e, List.map_append]
      exact h3
    refine ⟨_, rfl, Nat.zero_le _, fun p np => ⟨.list ((told (ns.take i)).map eP), .list [], (lb.same (same_new np)).newV.dp, .lst (SqL.of upd_same) .nil, (Sh.eR (n := 0) _).shaped, (sh_nil (n := 0)).shaped, _, rfl, ?_⟩⟩
    rw [eqv_nil]
    have s1 : Same H1 (upd H1 p (.lst [])) := same_new np
    rcases List.eq_nil_or_concat (told (ns.take i)) with e | ⟨ini, r, e⟩
    · have e2 : toldStep (told (ns.take i)) n = told (ns.take i) ++ [(n, n)] := by rw [e]; rfl
      refine itF (by rw [e]; simp) (iteF ?_)
      exact app _ s1 e2 _ fun σ' H' h => h
    · rw [List.concat_eq_append] at e
      refine itT (by rw [e]; simp) ?_
      rw [e, List.map_append] at lb
      obtain ⟨xi, x, hoo, hd⟩ := lb.last
      obtain ⟨t, rfl, hT⟩ := dp_pair (K := K) (r := r) (NewV.dp hd)
      refine ⟨_, rfl, 1, rfl, o, _, -1, _, rfl, rfl, SqL.of (s1 _ _ hoo), atI_last _ _, t, _, 1, _, rfl, rfl, same_tup s1 hT, rfl, _, rfl, _, _, rfl, rfl, rfl, _, rfl, ite2 (fun c => ?_) (fun c => ?_)⟩
      · have c1 : r.2 = n - 1 := V.int.inj (of_decide_eq_true c)
        have e2 : toldStep (told (ns.take i)) n = ini ++ [(r.1, n)] := by
          unfold toldStep
          rw [e]
          simp [c1]
        refine ⟨_, rfl, 1, rfl, o, _, -1, _, rfl, rfl, SqL.of (s1 _ _ hoo), atI_last _ _, t, _, 0, _, rfl, rfl, same_tup s1 hT, rfl, _, rfl, by show 2 ≤ sizeLine; decide, fun p2 np2 => ?_⟩
        have s2 := s1.trans (same_new (o := .tup [.int r.1, .int n]) np2)
        refine ⟨_, rfl, 1, rfl, o, _, -1, _, rfl, rfl, s2 _ _ hoo, (by rw [len_snoc]; exact ixN_last _), ?_⟩
        rw [set_last, e2, List.map_append]
        exact ⟨_, rfl, same_upd (sm.trans s2) lb.1, lb.setLast hoo sm s2 ((new_pair np2).mono s1 (Same.refl _))⟩
      · have c1 : ¬ r.2 = n - 1 := fun z => c (decide_eq_true (congrArg V.int z))
        have e2 : toldStep (told (ns.take i)) n = told (ns.take i) ++ [(n, n)] := by
          unfold toldStep
          rw [e]
          simp [c1]
        exact app _ s1 e2 _ fun σ' H' h => h
  · obtain ⟨y2, rfl, sm, lb⟩ := p
    rw [List.length_map, List.take_length] at lb
    exact ⟨_, rfl, q H1 _ sm lb.newV⟩
end
section
variable {P : Program} {w : World} {K : PySem.W.Frag} {mg : Str → Option Value} {base : Heap}
/-- a single set that cannot be (or a size) -/
def OneX (K : PySem.W.Frag) (n : Int) (v : V) (H : Hp) (E : XK) : Prop := ∃ (R : List (Int × Int)) (kd : Kd), Dp K H v (eR R) ∧ Bad1 n R kd ∧ Thr K kd H E
theorem OneX.mono {K : PySem.W.Frag} {n : Int} {v : V} {H H1 : Hp} {E : XK} (h : OneX K n v H E) (s : Same H H1) : OneX K n v H1 E := by
  obtain ⟨R, kd, a, b, c⟩ := h
  exact ⟨R, kd, same_dp s a, b, c.mono s⟩
def spMembers (K : PySem.W.Frag) : Sp := fun vs H Q E => (∃ (n : Nat) (v : V) (R : List (Int × Int)), vs = [.int n, v] ∧ 1 ≤ n ∧ n ≤ 64 ∧ Dp K H v (eR R) ∧ Ok n R ∧ ∀ H' p, Same H H' → NewV H H' p (eI (allIn n R)) → Q p H') ∨
  ∃ (n : Int) (v : V), vs = [.int n, v] ∧ OneX K n v H E
theorem ok_members (T : Tx K mg) : ClX P w K mg base 4 "members" (spMembers K) := by
  refine T.d_members.clX sc_members (fun vs H Q E h => ?_) (fun f cdv A outer s H vs Q E hr h => ?_)
  · rcases h with ⟨n, v, R, rfl, _⟩ | ⟨n, v, rfl, _⟩ <;> rfl
  rcases h with ⟨n, v, R, rfl, h1, h2, hD, hk, q⟩ | ⟨n, v, rfl, R, kd, hD, hb, thr⟩
  · refine ⟨_, (pss_cons (ps_expr (pe_kX (E := E) (ok_need_size T) hr (L2N.takes_of rfl rfl rfl rfl) (pa_cons (pv 0) pa_nil)))
      (pss_cons (ps_expr (pe_kX (E := E) (ok_need_set T) hr (L2N.takes_of rfl rfl rfl rfl) (pa_cons (pv 0) (pa_cons (pv 1) (pa_cons pe_int pa_nil)))))
      (pss_one (ps_ret (pe_k (ok_all_in T) hr (pa_cons (pv 0) (pa_cons (pv 1) pa_nil))))))), ?_⟩
    refine ⟨_, rfl, (n : Int), rfl, .inl ⟨⟨by omega, by omega⟩, _, rfl, _, rfl, n, v, R, 0, rfl, hD, .inl ⟨hk, fun H1 s1 => ⟨_, rfl, _, rfl, n, v, R, rfl, same_dp s1 hD, Nat.le_trans hk.1 (by decide), by omega, fun H2 p s2 nv => ?_⟩⟩⟩⟩
    exact q H2 p (s1.trans s2) (nv.mono s1 (Same.refl _))
  · refine ⟨_, (pss_cons (ps_expr (pe_kX (E := E) (ok_need_size T) hr (L2N.takes_of rfl rfl rfl rfl) (pa_cons (pv 0) pa_nil)))
      (pss_cons (ps_expr (pe_kX (E := E) (ok_need_set T) hr (L2N.takes_of rfl rfl rfl rfl) (pa_cons (pv 0) (pa_cons (pv 1) (pa_cons pe_int pa_nil)))))
      (pss_one (ps_ret (pe_k (ok_all_in T) hr (pa_cons (pv 0) (pa_cons (pv 1) pa_nil))))))), ?_⟩
    rcases hb with ⟨ns, rfl⟩ | ⟨hs, i, hbad, rfl⟩
    · exact ⟨_, rfl, n, rfl, .inr ⟨ns, thr⟩⟩
    · exact ⟨_, rfl, n, rfl, .inl ⟨hs, _, rfl, _, rfl, n, v, R, 0, rfl, hD, .inr ⟨i, hbad, thr⟩⟩⟩
def spPlain (K : PySem.W.Frag) : Sp := fun vs H Q E => (∃ (n : Nat) (v : V) (R : List (Int × Int)), vs = [.int n, v] ∧ 1 ≤ n ∧ n ≤ 64 ∧ Dp K H v (eR R) ∧ Ok n R ∧ ∀ H' p, Same H H' → NewV H H' p (eR (TR n (has R))) → Q p H') ∨
  ∃ (n : Int) (v : V), vs = [.int n, v] ∧ OneX K n v H E
theorem ok_plain (T : Tx K mg) : ClX P w K mg base 5 "plain" (spPlain K) := by
  refine T.d_plain.clX sc_plain (fun vs H Q E h => ?_) (fun f cdv A outer s H vs Q E hr h => ?_)
  · rcases h with ⟨n, v, R, rfl, _⟩ | ⟨n, v, rfl, _⟩ <;> rfl
  rcases h with ⟨n, v, R, rfl, h1, h2, hD, hk, q⟩ | ⟨n, v, rfl, h⟩
  · refine ⟨_, (pss_one (ps_ret (pe_k (ok_told T) hr (pa_cons (pe_kX (E := E) (ok_members T) hr (L2N.takes_of rfl rfl rfl rfl) (pa_cons (pv 0) (pa_cons (pv 1) pa_nil))) pa_nil)))), ?_⟩
    refine ⟨_, rfl, _, rfl, .inl ⟨n, v, R, rfl, h1, h2, hD, hk, fun H1 p s1 nv => ⟨p, _, rfl, nv.dp, Nat.le_trans (allIn_len n _) (by omega), fun H2 p2 s2 nv2 => ?_⟩⟩⟩
    exact q H2 p2 (s1.trans s2) (nv2.mono s1 (Same.refl _))
  · exact ⟨_, (pss_one (ps_ret (pe_k (ok_told T) hr (pa_cons (pe_kX (E := E) (ok_members T) hr (L2N.takes_of rfl rfl rfl rfl) (pa_cons (pv 0) (pa_cons (pv 1) pa_nil))) pa_nil)))), ⟨_, rfl, _, rfl, .inr ⟨n, v, rfl, h⟩⟩⟩
/-- two sets, the first or the second of which cannot be (or a size) -/
def TwoX (K : PySem.W.Frag) (n : Int) (v u : V) (H : Hp) (E : XK) : Prop := OneX K n v H E ∨ (SizeOk n ∧ ∃ (R S : List (Int × Int)) (i : Nat), Dp K H v (eR R) ∧ Ok n R ∧ Dp K H u (eR S) ∧ BadAt n S i ∧ Thr K (.set 1 i) H E)
def spTwoX (K : PySem.W.Frag) : Sp := fun vs H _ E => ∃ (n : Int) (v u : V), vs = [.int n, v, u] ∧ TwoX K n v u H E
theorem ok_need_two (T : Tx K mg) : ClX P w K mg base 4 "need_two" (spTwoX K) := by
  refine T.d_need_two.clX sc_need_two (fun vs H Q E h => ?_) (fun f cdv A outer s H vs Q E hr h => ?_)
  · obtain ⟨n, v, u, rfl, _⟩ := h
    rfl
  obtain ⟨n, v, u, rfl, h⟩ := h
  refine ⟨_, (pss_cons (ps_expr (pe_kX (E := E) (ok_need_size T) hr (L2N.takes_of rfl rfl rfl rfl) (pa_cons (pv 0) pa_nil)))
      (pss_cons (ps_expr (pe_kX (E := E) (ok_need_set T) hr (L2N.takes_of rfl rfl rfl rfl) (pa_cons (pv 0) (pa_cons (pv 1) (pa_cons pe_int pa_nil)))))
      (pss_one (ps_expr (pe_kX (E := E) (ok_need_set T) hr (L2N.takes_of rfl rfl rfl rfl) (pa_cons (pv 0) (pa_cons (pv 2) (pa_cons pe_int pa_nil)))))))), ?_⟩
  rcases h with ⟨R, kd, hD, hb, thr⟩ | ⟨hs, R, S, i, hD, hk, hU, hbad, thr⟩
  · rcases hb with ⟨ns, rfl⟩ | ⟨hs, i, hbad, rfl⟩
    · exact ⟨_, rfl, n, rfl, .inr ⟨ns, thr⟩⟩
    · exact ⟨_, rfl, n, rfl, .inl ⟨hs, _, rfl, _, rfl, n, v, R, 0, rfl, hD, .inr ⟨i, hbad, thr⟩⟩⟩
  · exact ⟨_, rfl, n, rfl, .inl ⟨hs, _, rfl, _, rfl, n, v, R, 0, rfl, hD, .inl ⟨hk, fun H1 s1 => ⟨_, rfl, _, rfl, n, u, S, 1, rfl, same_dp s1 hU, .inr ⟨i, hbad, thr.mono s1⟩⟩⟩⟩⟩
theorem ok_joined (T : Tx K mg) : ClX P w K mg base 5 "joined" (spTwoX K) := by
  refine T.d_joined.clX sc_joined (fun vs H Q E h => ?_) (fun f cdv A outer s H vs Q E hr h => ?_)
  · obtain ⟨n, v, u, rfl, _⟩ := h
    rfl
  obtain ⟨n, v, u, rfl, h⟩ := h
  exact ⟨_, (pss_cons (ps_expr (pe_kX (E := E) (ok_need_two T) hr (L2N.takes_of rfl rfl rfl rfl) (pa_cons (pv 0) (pa_cons (pv 1) (pa_cons (pv 2) pa_nil)))))
      (pss_one (ps_ret (pe_k (ok_told T) hr (pa_cons (pe_lc (own := [("number", 3)]) (g := (gName 3)) (tt := _) (by rfl) sc_joined.nd (pi_range1 (by rfl) T.z_range (pa_cons (pv 0) pa_nil)) (blkOk_by (own := [("number", 3)]) (N := n_joined) (sc := defScope s_joined) (by decide +kernel)) (fun _ _ _ _ _ => (pg_name (i := 3) sc_joined.nd rfl (by first | exact Or.inl rfl | exact Or.inr rfl))) (fun _ _ _ _ _ => (pts_one (PW.pt (pw_or (pt_val (pe_k (ok_has T) hr (pa_cons (pv 1) (pa_cons (pv 3) pa_nil)))) (pw_or1 (pt_val (pe_k (ok_has T) hr (pa_cons (pv 2) (pa_cons (pv 3) pa_nil))))))))) (fun _ _ _ _ _ => (pv 3))) pa_nil))))), ⟨_, rfl, _, rfl, _, rfl, n, v, u, rfl, h⟩⟩
theorem ok_common (T : Tx K mg) : ClX P w K mg base 5 "common" (spTwoX K) := by
  refine T.d_common.clX sc_common (fun vs H Q E h => ?_) (fun f cdv A outer s H vs Q E hr h => ?_)
  · obtain ⟨n, v, u, rfl, _⟩ := h
    rfl
  obtain ⟨n, v, u, rfl, h⟩ := h
  exact ⟨_, (pss_cons (ps_expr (pe_kX (E := E) (ok_need_two T) hr (L2N.takes_of rfl rfl rfl rfl) (pa_cons (pv 0) (pa_cons (pv 1) (pa_cons (pv 2) pa_nil)))))
      (pss_one (ps_ret (pe_k (ok_told T) hr (pa_cons (pe_lc (own := [("number", 3)]) (g := (gName 3)) (tt := _) (by rfl) sc_common.nd (piL K (pe_k (ok_all_in T) hr (pa_cons (pv 0) (pa_cons (pv 1) pa_nil)))) (blkOk_by (own := [("number", 3)]) (N := n_common) (sc := defScope s_common) (by decide +kernel)) (fun _ _ _ _ _ => (pg_name (i := 3) sc_common.nd rfl (by first | exact Or.inl rfl | exact Or.inr rfl))) (fun _ _ _ _ _ => (pts_one (pt_val (pe_k (ok_has T) hr (pa_cons (pv 2) (pa_cons (pv 3) pa_nil)))))) (fun _ _ _ _ _ => (pv 3))) pa_nil))))), ⟨_, rfl, _, rfl, _, rfl, n, v, u, rfl, h⟩⟩
theorem ok_less (T : Tx K mg) : ClX P w K mg base 5 "less" (spTwoX K) := by
  refine T.d_less.clX sc_less (fun vs H Q E h => ?_) (fun f cdv A outer s H vs Q E hr h => ?_)
  · obtain ⟨n, v, u, rfl, _⟩ := h
    rfl
  obtain ⟨n, v, u, rfl, h⟩ := h
  exact ⟨_, (pss_cons (ps_expr (pe_kX (E := E) (ok_need_two T) hr (L2N.takes_of rfl rfl rfl rfl) (pa_cons (pv 0) (pa_cons (pv 1) (pa_cons (pv 2) pa_nil)))))
      (pss_one (ps_ret (pe_k (ok_told T) hr (pa_cons (pe_lc (own := [("number", 3)]) (g := (gName 3)) (tt := _) (by rfl) sc_less.nd (piL K (pe_k (ok_all_in T) hr (pa_cons (pv 0) (pa_cons (pv 1) pa_nil)))) (blkOk_by (own := [("number", 3)]) (N := n_less) (sc := defScope s_less) (by decide +kernel)) (fun _ _ _ _ _ => (pg_name (i := 3) sc_less.nd rfl (by first | exact Or.inl rfl | exact Or.inr rfl))) (fun _ _ _ _ _ => (pts_one (pt_not (pt_val (pe_k (ok_has T) hr (pa_cons (pv 2) (pa_cons (pv 3) pa_nil))))))) (fun _ _ _ _ _ => (pv 3))) pa_nil))))), ⟨_, rfl, _, rfl, _, rfl, n, v, u, rfl, h⟩⟩
def spOneX (K : PySem.W.Frag) : Sp := fun vs H _ E => ∃ (n : Int) (v : V), vs = [.int n, v] ∧ OneX K n v H E
theorem ok_others (T : Tx K mg) : ClX P w K mg base 5 "others" (spOneX K) := by
  refine T.d_others.clX sc_others (fun vs H Q E h => ?_) (fun f cdv A outer s H vs Q E hr h => ?_)
  · obtain ⟨n, v, rfl, _⟩ := h
    rfl
  obtain ⟨n, v, rfl, R, kd, hD, hb, thr⟩ := h
  refine ⟨_, (pss_cons (ps_expr (pe_kX (E := E) (ok_need_size T) hr (L2N.takes_of rfl rfl rfl rfl) (pa_cons (pv 0) pa_nil)))
      (pss_cons (ps_expr (pe_kX (E := E) (ok_need_set T) hr (L2N.takes_of rfl rfl rfl rfl) (pa_cons (pv 0) (pa_cons (pv 1) (pa_cons pe_int pa_nil)))))
      (pss_one (ps_ret (pe_k (ok_told T) hr (pa_cons (pe_lc (own := [("number", 2)]) (g := (gName 2)) (tt := _) (by rfl) sc_others.nd (pi_range1 (by rfl) T.z_range (pa_cons (pv 0) pa_nil)) (blkOk_by (own := [("number", 2)]) (N := n_others) (sc := defScope s_others) (by decide +kernel)) (fun _ _ _ _ _ => (pg_name (i := 2) sc_others.nd rfl (by first | exact Or.inl rfl | exact Or.inr rfl))) (fun _ _ _ _ _ => (pts_one (pt_not (pt_val (pe_k (ok_has T) hr (pa_cons (pv 1) (pa_cons (pv 2) pa_nil))))))) (fun _ _ _ _ _ => (pv 2))) pa_nil)))))), ?_⟩
  rcases hb with ⟨ns, rfl⟩ | ⟨hs, i, hbad, rfl⟩
  · exact ⟨_, rfl, n, rfl, .inr ⟨ns, thr⟩⟩
  · exact ⟨_, rfl, n, rfl, .inl ⟨hs, _, rfl, _, rfl, n, v, R, 0, rfl, hD, .inr ⟨i, hbad, thr⟩⟩⟩
def spInsideX (K : PySem.W.Frag) : Sp := fun vs H _ E => ∃ (n : Int) (v : V) (k : Int), vs = [.int n, v, .int k] ∧ (OneX K n v H E ∨ ∃ (m : Nat) (R : List (Int × Int)), n = (m : Int) ∧ 1 ≤ m ∧ m ≤ 64 ∧ Dp K H v (eR R) ∧ Ok m R ∧ ¬ (0 ≤ k ∧ k < n) ∧ Thr K .number H E)
theorem ok_inside (T : Tx K mg) : ClX P w K mg base 6 "inside" (spInsideX K) := by
  refine T.d_inside.clX sc_inside (fun vs H Q E h => ?_) (fun f cdv A outer s H vs Q E hr h => ?_)
  · obtain ⟨n, v, k, rfl, _⟩ := h
    rfl
  obtain ⟨n, v, k, rfl, h⟩ := h
  refine ⟨_, (pss_cons (ps_set (i := 3) sc_inside.nd rfl (by first | exact Or.inl rfl | exact Or.inr rfl) (pe_kX (E := E) (ok_plain T) hr (L2N.takes_of rfl rfl rfl rfl) (pa_cons (pv 0) (pa_cons (pv 1) pa_nil))))
      (pss_cons (ps_expr (pe_kX (E := E) (ok_need_number T) hr (L2N.takes_of rfl rfl rfl rfl) (pa_cons (pv 0) (pa_cons (pv 2) pa_nil))))
      (pss_cons (ps_set (i := 4) sc_inside.nd rfl (by first | exact Or.inl rfl | exact Or.inr rfl) pe_int)
      (pss_cons (ps_set (i := 5) sc_inside.nd rfl (by first | exact Or.inl rfl | exact Or.inr rfl) (pe_callB (lenQ K) (by rfl) T.z_len (by decide +kernel) (pa_cons (pv 3) pa_nil)))
      (pss_cons (ps_set (i := 6) sc_inside.nd rfl (by first | exact Or.inl rfl | exact Or.inr rfl) (pe_lst pa_nil))
      (pss_cons (ps_while (passes_of rfl) (pt_cmpR op_lt (pv 4) (pv 5) (nomark _))
      (pss_cons (ps_set (i := 7) sc_inside.nd rfl (by first | exact Or.inl rfl | exact Or.inr rfl) (pe_op op_fdiv (pe_op op_add (pv 4) (pv 5)) pe_int))
      (pss_cons (ps_expr (pe_bm PySem.F.plainAttrs_list PySem.F.slot_list_append PySem.F.type_list_append mt_append (pv 6) (pa_cons (pe_ix (ixL K) (pv 3) (pv 7) (fun _ _ => rfl)) pa_nil)))
      (pss_one (ps_if (pt_cmpR op_lt (pv 2) (pe_ix (ixT K) (pe_ix (ixL K) (pv 3) (pv 7) (fun _ _ => rfl)) pe_int (fun _ _ => rfl)) (nomark _)) (pss_one (ps_set (i := 5) sc_inside.nd rfl (by first | exact Or.inl rfl | exact Or.inr rfl) (pv 7))) (pss_one (ps_if (pt_cmpR op_gt (pv 2) (pe_ix (ixT K) (pe_ix (ixL K) (pv 3) (pv 7) (fun _ _ => rfl)) pe_int (fun _ _ => rfl)) (nomark _)) (pss_one (ps_set (i := 4) sc_inside.nd rfl (by first | exact Or.inl rfl | exact Or.inr rfl) (pe_op op_add (pv 7) pe_int))) (pss_one (ps_ret (pe_tup (pa_cons pe_bl (pa_cons (pv 6) pa_nil))))))))))))
      (pss_one (ps_ret (pe_tup (pa_cons pe_bl (pa_cons (pv 6) pa_nil))))))))))), ?_⟩
  rcases h with h | ⟨m, R, rfl, h1, h2, hD, hk, nk, thr⟩
  · exact ⟨_, rfl, _, rfl, .inr ⟨n, v, rfl, h⟩⟩
  · exact ⟨_, rfl, _, rfl, .inl ⟨m, v, R, rfl, h1, h2, hD, hk, fun H1 p s1 nv => ⟨_, rfl, _, rfl, _, k, rfl, .inr ⟨nk, thr.mono s1⟩⟩⟩⟩
end
section
variable {P : Program} {w : World} {K : PySem.W.Frag} {mg : Str → Option Value} {base : Heap}
/-- several sets, one of which cannot be (or a size) -/
def SevX (K : PySem.W.Frag) (n : Int) (v : V) (H : Hp) (E : XK) : Prop := ∃ (SS : List (List (Int × Int))) (kd : Kd), Dp K H v (eRs SS) ∧ BadS n SS kd ∧ Thr K kd H E
theorem SevX.mono {K : PySem.W.Frag} {n : Int} {v : V} {H H1 : Hp} {E : XK} (h : SevX K n v H E) (s : Same H H1) : SevX K n v H1 E := by
  obtain ⟨R, kd, a, b, c⟩ := h
  exact ⟨R, kd, same_dp s a, b, c.mono s⟩
def spNeedSets (K : PySem.W.Frag) : Sp := fun vs H Q E => (∃ (n : Int) (v : V) (SS : List (List (Int × Int))), vs = [.int n, v] ∧ SizeOk n ∧ Dp K H v (eRs SS) ∧ (∀ R ∈ SS, Ok n R) ∧ ∀ H', Same H H' → Q .non H') ∨ ∃ (n : Int) (v : V), vs = [.int n, v] ∧ SevX K n v H E
theorem ok_need_sets (T : Tx K mg) : ClX P w K mg base 4 "need_sets" (spNeedSets K) := by
  refine T.d_need_sets.clX sc_need_sets (fun vs H Q E h => ?_) (fun f cdv A outer s H vs Q E hr h => ?_)
  · rcases h with ⟨n, v, SS, rfl, _⟩ | ⟨n, v, rfl, _⟩ <;> rfl
  rcases h with ⟨n, v, SS, rfl, hs, hD, hk, q⟩ | ⟨n, v, rfl, SS, kd, hD, hb, thr⟩
  · obtain ⟨a, xs, rfl, hS, hA⟩ := dp_list hD
    refine ⟨_, (pss_cons (ps_expr (pe_kX (E := E) (ok_need_size T) hr (L2N.takes_of rfl rfl rfl rfl) (pa_cons (pv 0) pa_nil)))
      (pss_one (ps_for (passes_of rfl) rfl (piEnum K (by rfl) T.z_enumerate (pa_cons (pv 1) pa_nil)) (pgT K (by rfl) (pgs_cons (pg_name (i := 2) sc_need_sets.nd rfl (by first | exact Or.inl rfl | exact Or.inr rfl)) (pgs_cons (pg_name (i := 3) sc_need_sets.nd rfl (by first | exact Or.inl rfl | exact Or.inr rfl)) pgs_nil)))
      (pss_one (ps_expr (pe_kX (E := E) (ok_need_set T) hr (L2N.takes_of rfl rfl rfl rfl) (pa_cons (pv 0) (pa_cons (pv 3) (pa_cons (pv 2) pa_nil))))))))), ?_⟩
    refine ⟨_, rfl, n, rfl, .inl ⟨hs, ?_⟩⟩
    refine ⟨_, rfl, a, xs, rfl, hS, for_enum (xs := xs) (fun i σ H1 => ∃ y2 y3, σ = [some (.int n), some (.ref a), y2, y3] ∧ Same H H1) ⟨none, none, rfl, Same.refl _⟩ (fun i σ H1 _ p => ?_) (fun i x t σ H1 hx nt p => ?_) (fun σ H1 p => ?_)⟩
    · obtain ⟨_, _, _, sm⟩ := p
      exact sm.seq hS
    · obtain ⟨y2, y3, rfl, sm⟩ := p
      obtain ⟨d, hd, hx'⟩ := dpAll_get hA hx
      obtain ⟨R, hR, rfl⟩ := get_map hd
      have s2 : Same H (upd H1 t (.tup [.int (i : Nat), x])) := sm.trans (same_new nt)
      refine ⟨t, _, rfl, SqT.of upd_same, rfl, _, _, rfl, _, _, rfl, rfl, ?_⟩
      refine ⟨_, rfl, _, rfl, _, rfl, n, _, R, (i : Int), rfl, same_dp s2 hx', .inl ⟨hk R (List.mem_of_getElem? hR), fun H2 s3 => ?_⟩⟩
      exact ⟨_, _, rfl, s2.trans s3⟩
    · obtain ⟨y2, y3, rfl, sm⟩ := p
      exact q H1 sm
  · rcases hb with ⟨ns, rfl⟩ | ⟨hs, k, b, R, hbef, hk, hbad, rfl⟩
    · exact ⟨_, (pss_cons (ps_expr (pe_kX (E := E) (ok_need_size T) hr (L2N.takes_of rfl rfl rfl rfl) (pa_cons (pv 0) pa_nil)))
      (pss_one (ps_for (passes_of rfl) rfl (piEnum K (by rfl) T.z_enumerate (pa_cons (pv 1) pa_nil)) (pgT K (by rfl) (pgs_cons (pg_name (i := 2) sc_need_sets.nd rfl (by first | exact Or.inl rfl | exact Or.inr rfl)) (pgs_cons (pg_name (i := 3) sc_need_sets.nd rfl (by first | exact Or.inl rfl | exact Or.inr rfl)) pgs_nil)))
      (pss_one (ps_expr (pe_kX (E := E) (ok_need_set T) hr (L2N.takes_of rfl rfl rfl rfl) (pa_cons (pv 0) (pa_cons (pv 3) (pa_cons (pv 2) pa_nil))))))))), ⟨_, rfl, n, rfl, .inr ⟨ns, thr⟩⟩⟩
    obtain ⟨a, xs, rfl, hS, hA⟩ := dp_list hD
    have hxl : xs.length = SS.length := by rw [dpAll_len hA, List.length_map]
    have hkl : k < SS.length := (List.getElem?_eq_some_iff.mp hk).1
    refine ⟨_, (pss_cons (ps_expr (pe_kX (E := E) (ok_need_size T) hr (L2N.takes_of rfl rfl rfl rfl) (pa_cons (pv 0) pa_nil)))
      (pss_one (ps_for (passes_of rfl) rfl (piEnum K (by rfl) T.z_enumerate (pa_cons (pv 1) pa_nil)) (pgT K (by rfl) (pgs_cons (pg_name (i := 2) sc_need_sets.nd rfl (by first | exact Or.inl rfl | exact Or.inr rfl)) (pgs_cons (pg_name (i := 3) sc_need_sets.nd rfl (by first | exact Or.inl rfl | exact Or.inr rfl)) pgs_nil)))
      (pss_one (ps_expr (pe_kX (E := E) (ok_need_set T) hr (L2N.takes_of rfl rfl rfl rfl) (pa_cons (pv 0) (pa_cons (pv 3) (pa_cons (pv 2) pa_nil))))))))), ?_⟩
    refine ⟨_, rfl, n, rfl, .inl ⟨hs, ?_⟩⟩
    refine ⟨_, rfl, a, xs, rfl, hS, for_enum (xs := xs) (fun i σ H1 => ∃ y2 y3, σ = [some (.int n), some (.ref a), y2, y3] ∧ Same H H1 ∧ i ≤ k) ⟨none, none, rfl, Same.refl _, Nat.zero_le _⟩ (fun i σ H1 _ p => ?_) (fun i x t σ H1 hx nt p => ?_) (fun σ H1 p => ?_)⟩
    · obtain ⟨_, _, _, sm, _⟩ := p
      exact sm.seq hS
    · obtain ⟨y2, y3, rfl, sm, hi⟩ := p
      obtain ⟨d, hd, hx'⟩ := dpAll_get hA hx
      obtain ⟨S, hR, rfl⟩ := get_map hd
      have s2 : Same H (upd H1 t (.tup [.int (i : Nat), x])) := sm.trans (same_new nt)
      refine ⟨t, _, rfl, SqT.of upd_same, rfl, _, _, rfl, _, _, rfl, rfl, ?_⟩
      refine ⟨_, rfl, _, rfl, _, rfl, n, _, S, (i : Int), rfl, same_dp s2 hx', ?_⟩
      rcases Nat.lt_or_ge i k with z | z
      · exact .inl ⟨hbef i S z hR, fun H2 s3 => ⟨_, _, rfl, s2.trans s3, z⟩⟩
      · have e : i = k := by omega
        subst e
        rw [hk] at hR
        cases hR
        exact .inr ⟨b, hbad, thr.mono s2⟩
    · obtain ⟨y2, y3, rfl, sm, hi⟩ := p
      omega
def spRowOf (K : PySem.W.Frag) : Sp := fun vs H Q _ => ∃ (n : Nat) (v : V) (R : List (Int × Int)) (f wd : Nat), vs = [.int n, v, .int f, .int wd] ∧ Dp K H v (eR R) ∧ R.length ≤ 1000 ∧ f ≤ 1000 ∧ wd ≤ 1000 ∧ ∀ H', Same H H' → Q (.str (kt (rowP n R f wd))) H'
theorem ok_row_of (T : Tx K mg) : Cl P w K mg base 2 "row_of" (spRowOf K) := by
  refine T.d_row_of.cl sc_row_of (fun vs H Q E h => ?_) (fun f cdv A outer s H vs Q E hr h => ?_)
  · obtain ⟨n, v, R, f, wd, rfl, _⟩ := h
    rfl
  obtain ⟨n, v, R, f, wd, rfl, hD, hl, hf, hw, q⟩ := h
  refine ⟨_, (pss_cons (ps_set (i := 4) sc_row_of.nd rfl (by first | exact Or.inl rfl | exact Or.inr rfl) pe_str)
      (pss_cons (ps_for PassesOwn.never rfl (pi_range2 (by rfl) T.z_range (pa_cons (pv 2) (pa_cons (pe_op op_add (pv 2) (pv 3)) pa_nil))) (pg_name (i := 5) sc_row_of.nd rfl (by first | exact Or.inl rfl | exact Or.inr rfl))
      (pss_one (ps_set (i := 4) sc_row_of.nd rfl (by first | exact Or.inl rfl | exact Or.inr rfl) (pe_op op_add_str (pv 4) (pe_ifExp (PW.pt (pw_and (pt_cmpR op_lt (pv 5) (pv 0) (nomark _)) (pw_and1 (pt_val (pe_k (ok_has T) hr (pa_cons (pv 1) (pa_cons (pv 5) pa_nil))))))) pe_str pe_str)))))
      (pss_one (ps_ret (pv 4))))), ?_⟩
  refine ⟨_, rfl, _, rfl, _, rfl, _, _, rfl, rfl, _, _, rfl, ⟨by omega, by omega, by omega, by omega⟩, ?_⟩
  rw [show ((f : Int) + (wd : Int) - (f : Int)).toNat = wd by omega]
  refine for_range (lo := (f : Int)) (n := wd) (fun i σ H1 => ∃ y5 : Option V, σ = [some (.int n), some v, some (.int f), some (.int wd), some (.str (kt (rowP n R f i))), y5] ∧ Same H H1) ⟨none, by rw [show kt (rowP n R f 0) = Str.ofString "" by show kt [] = _; decide +kernel]; rfl, Same.refl _⟩ (fun i σ H1 hi p => ?_) (fun σ H1 p => ?_)
  · obtain ⟨y5, rfl, sm⟩ := p
    have e0 : (f : Int) + (i : Int) = ((f + i : Nat) : Int) := by omega
    rw [e0]
    have fin : ∀ (b : Bool) (H' : Hp), bitT n R (f + i) = b → Same H H' → ∀ z : Str, z = (if b then Str.ofString "1" else Str.ofString "0") → (∃ y5 : Option V, [some (V.int n), some v, some (.int f), some (.int wd), some (.str (kt (rowP n R f i) ++ z)), some (.int ((f + i : Nat) : Int))] = [some (V.int n), some v, some (.int f), some (.int wd), some (.str (kt (rowP n R f (i + 1)))), y5] ∧ Same H H') := fun b H' hb s' z hz => by
      refine ⟨some (.int ((f + i : Nat) : Int)), ?_, s'⟩
      rw [rowP_succ, hb, hz]
      cases b
      · rw [if_neg Bool.false_ne_true, kt_zero]
      · rw [if_pos rfl, kt_one]
    have sz : ∀ z : Str, z.length = 1 → (kt (rowP n R f i)).length + z.length ≤ sizeLine := fun z hz => by
      rw [kt_len, rowP_len, hz]
      exact Nat.le_of_lt (sizeOk (by omega))
    refine ⟨_, rfl, _, rfl, _, rfl, _, _, rfl, rfl, _, rfl, ite2 (fun c => ?_) (fun c => ?_)⟩
    · have c1 : f + i < n := by
        have z : ((f + i : Nat) : Int) < (n : Int) := of_decide_eq_true c
        omega
      refine ⟨_, rfl, _, rfl, v, R, _, rfl, same_dp sm hD, hl, fun H2 s2 => ⟨_, rfl, ?_⟩⟩
      have eb : bitT n R (f + i) = has R ((f + i : Nat) : Int) := by
        unfold bitT
        rw [decide_eq_true c1, Bool.true_and]
      cases e : has R ((f + i : Nat) : Int) with
      | true => exact iteT ⟨_, _, rfl, rfl, sz _ (by decide +kernel), fin true H2 (eb.trans e) (sm.trans s2) _ rfl⟩
      | false => exact iteF ⟨_, _, rfl, rfl, sz _ (by decide +kernel), fin false H2 (eb.trans e) (sm.trans s2) _ rfl⟩
    · have c1 : ¬ f + i < n := fun z => c (decide_eq_true (show ((f + i : Nat) : Int) < (n : Int) by omega))
      have eb : bitT n R (f + i) = false := by
        unfold bitT
        rw [decide_eq_false c1, Bool.false_and]
      exact iteF ⟨_, _, rfl, rfl, sz _ (by decide +kernel), fin false H1 eb sm _ rfl⟩
  · obtain ⟨y5, rfl, sm⟩ := p
    exact ⟨_, rfl, q H1 sm⟩
def spMade (K : PySem.W.Frag) : Sp := fun vs H Q _ => ∃ (n : Nat) (v : V) (SS : List (List (Int × Int))) (wd : Nat), vs = [.int n, v, .int wd] ∧ n ≤ 64 ∧ 1 ≤ wd ∧ wd ≤ 64 ∧ Dp K H v (eRs SS) ∧ SS.length ≤ 1000 ∧ (∀ R ∈ SS, R.length ≤ 1000) ∧ ∀ H' p, Same H H' → NewV H H' p (eTab n wd SS) → Q p H'
theorem ok_made (T : Tx K mg) : Cl P w K mg base 3 "made" (spMade K) := by
  refine T.d_made.cl sc_made (fun vs H Q E h => ?_) (fun f cdv A outer s H vs Q E hr h => ?_)
  · obtain ⟨n, v, SS, wd, rfl, _⟩ := h
    rfl
  obtain ⟨n, v, SS, wd, rfl, hn, hw1, hw2, hD, hl, hk, q⟩ := h
  obtain ⟨a, xs, rfl, hS, hA⟩ := dp_list hD
  have hxl : xs.length = SS.length := by rw [dpAll_len hA, List.length_map]
  have hc := cnt_le (n := n) hw1
  have hm : SS.length * cnt n wd ≤ 1000 * 64 := Nat.mul_le_mul hl (by omega)
  refine ⟨_, (pss_cons (ps_set (i := 3) sc_made.nd rfl (by first | exact Or.inl rfl | exact Or.inr rfl) (pe_lst pa_nil))
      (pss_cons (ps_set (i := 4) sc_made.nd rfl (by first | exact Or.inl rfl | exact Or.inr rfl) (pe_lst pa_nil))
      (pss_cons (ps_for PassesOwn.never rfl (piL K (pv 1)) (pg_name (i := 5) sc_made.nd rfl (by first | exact Or.inl rfl | exact Or.inr rfl))
      (pss_cons (ps_set (i := 6) sc_made.nd rfl (by first | exact Or.inl rfl | exact Or.inr rfl) (pe_lst pa_nil))
      (pss_cons (ps_for PassesOwn.never rfl (pi_range3 (by rfl) T.z_range (pa_cons pe_int (pa_cons (pv 0) (pa_cons (pv 2) pa_nil)))) (pg_name (i := 7) sc_made.nd rfl (by first | exact Or.inl rfl | exact Or.inr rfl))
      (pss_cons (ps_set (i := 8) sc_made.nd rfl (by first | exact Or.inl rfl | exact Or.inr rfl) (pe_k (ok_row_of T) hr (pa_cons (pv 0) (pa_cons (pv 5) (pa_cons (pv 7) (pa_cons (pv 2) pa_nil))))))
      (pss_cons (ps_if (pt_cmpR (notInQ K) (pv 8) (pv 3) (by rfl)) (pss_one (ps_expr (pe_bm PySem.F.plainAttrs_list PySem.F.slot_list_append PySem.F.type_list_append mt_append (pv 3) (pa_cons (pv 8) pa_nil)))) pss_nil)
      (pss_one (ps_expr (pe_bm PySem.F.plainAttrs_list PySem.F.slot_list_append PySem.F.type_list_append mt_append (pv 6) (pa_cons (pe_bm PySem.F.plainAttrs_list PySem.F.slot_list_index PySem.F.type_list_index (mtIndex K) (pv 3) (pa_cons (pv 8) pa_nil)) pa_nil)))))))
      (pss_one (ps_expr (pe_bm PySem.F.plainAttrs_list PySem.F.slot_list_append PySem.F.type_list_append mt_append (pv 4) (pa_cons (pv 6) pa_nil)))))))
      (pss_one (ps_ret (pe_tup (pa_cons (pv 4) (pa_cons (pv 3) pa_nil)))))))), ?_⟩
  refine ⟨Nat.zero_le _, fun o1 n1 => ⟨Nat.zero_le _, fun o2 n2 => ?_⟩⟩
  have n12 : o1 ≠ o2 := ne_of_none upd_same n2
  have n2H : H o2 = none := (same_new n1).free n2
  refine ⟨_, rfl, a, rfl, ⟨_, ((same_new n1).trans (same_new n2)).seq hS⟩, for_list (xs := xs) (fun i σ G => ∃ y5 y6 y7 y8 : Option V, σ = [some (.int n), some (.ref a), some (.int wd), some (.ref o1), some (.ref o2), y5, y6, y7, y8] ∧ Same H (del G o1) ∧ LB H (del G o1) o2 (((SS.take i).map fun R => (rowsR n wd R).map fun r => ((pl r (rowsT n wd SS) : Nat) : Int)).map eI) ∧ G o1 = some (.lst (((uniq ((SS.take i).flatMap (rowsR n wd))).map kt).map V.str))) ⟨none, none, none, none, rfl, ?_, ?_, ?_⟩ (fun i σ G _ p => ?_) (fun i x σ G hx p => ?_) (fun σ G p => ?_)⟩
  · rw [del_upd n12.symm, del_upd_self]
    refine same_upd (fun b o e => ?_) n2H
    rw [del_ne (ne_of_none e n1)]
    exact e
  · rw [del_upd n12.symm, del_upd_self]
    exact LB.nil n2H
  · rw [upd_ne n12]
    exact upd_same
  · obtain ⟨_, _, _, _, _, sm, _⟩ := p
    exact (sm.trans del_same).seq hS
  · obtain ⟨y5, y6, y7, y8, rfl, sm, lb, h1⟩ := p
    have sH : Same H G := sm.trans del_same
    obtain ⟨dd, hdd, hdx⟩ := dpAll_get hA hx
    obtain ⟨R, hR, rfl⟩ := get_map hdd
    have hi : i < SS.length := (List.getElem?_eq_some_iff.mp hR).1
    have hRm : R ∈ SS := List.mem_of_getElem? hR
    have eS : SS = SS.take i ++ R :: SS.drop (i + 1) := by
      rw [← List.getElem?_eq_some_iff.mp hR |>.2, List.getElem_cons_drop, List.take_append_drop]
    refine ⟨Nat.zero_le _, fun o3 n3 => ?_⟩
    have n31 : o3 ≠ o1 := (ne_of_none h1 n3).symm
    refine ⟨_, rfl, _, rfl, 0, (n : Int), (wd : Int), cnt n wd, rfl, rgC_up hw1 (by omega) (by omega), for_rangeC (lo := 0) (c := (wd : Int)) (n := cnt n wd) (fun j σ G' => ∃ y7 y8 : Option V, σ = [some (.int n), some (.ref a), some (.int wd), some (.ref o1), some (.ref o2), some x, some (.ref o3), y7, y8] ∧ SameBut o1 G G' ∧ G' o1 = some (.lst (((uniq ((SS.take i).flatMap (rowsR n wd) ++ (rowsR n wd R).take j)).map kt).map V.str)) ∧ G' o3 = some (.lst ((((rowsR n wd R).take j).map fun r => ((pl r (rowsT n wd SS) : Nat) : Int)).map V.int))) ⟨_, _, rfl, SameBut.of (same_new n3), ?_, upd_same⟩ (fun j σ G' hj p => ?_) (fun σ G' p => ?_)⟩
    · rw [upd_ne n31.symm, List.take_zero, List.append_nil]
      exact h1
    · obtain ⟨y7', y8', rfl, sb, g1, g3⟩ := p
      have e0 : (0 : Int) + (j : Nat) * (wd : Int) = ((j * wd : Nat) : Int) := by rw [Int.zero_add, Int.natCast_mul]
      rw [e0]
      have hjn := (cnt_lt hw1).mp hj
      have sHG' : Same H G' := fun b o e => sb b o (ne_of_none e n1) (sH b o e)
      refine ⟨_, rfl, _, rfl, _, rfl, _, rfl, n, x, R, j * wd, wd, rfl, same_dp sHG' hdx, hk R hRm, by omega, by omega, fun G2 s2 => ?_⟩
      have hrg : (rowsR n wd R)[j]? = some (rowP n R (j * wd) wd) := rowsR_get hj
      generalize rowP n R (j * wd) wd = r at hrg ⊢
      have en : uniq ((SS.take i).flatMap (rowsR n wd) ++ (rowsR n wd R).take (j + 1)) = addU (uniq ((SS.take i).flatMap (rowsR n wd) ++ (rowsR n wd R).take j)) r := by
        rw [List.take_add_one, hrg, ← List.append_assoc]
        exact uniq_snoc _ _
      have sb2 : SameBut o1 G G2 := sb.trans (SameBut.of s2)
      have g1' := s2 _ _ g1
      have g3' := s2 _ _ g3
      dsimp only [gName]
      refine seq_join (t := tIfS _ _ _) (fun σ' G3 => σ' = [some (.int n), some (.ref a), some (.int wd), some (.ref o1), some (.ref o2), some x, some (.ref o3), some (.int ((j * wd : Nat) : Int)), some (.str (kt r))] ∧ SameBut o1 G G3 ∧ G3 o1 = some (.lst (((uniq ((SS.take i).flatMap (rowsR n wd) ++ (rowsR n wd R).take (j + 1))).map kt).map V.str)) ∧ G3 o3 = some (.lst ((((rowsR n wd R).take j).map fun r => ((pl r (rowsT n wd SS) : Nat) : Int)).map V.int))) (fun σ' G3 hJ => ?_) (fun N hN => ?_)
      · obtain ⟨rfl, sb3, k1, k3⟩ := hJ
        have hmem : r ∈ uniq ((SS.take i).flatMap (rowsR n wd) ++ (rowsR n wd R).take (j + 1)) := by
          rw [en]
          exact mem_addU.mpr (.inr rfl)
        refine ⟨_, rfl, .inl ⟨rfl, _, SqL.of k3⟩, _, rfl, .inl ⟨rfl, _, SqL.of k1⟩, _, rfl, ?_⟩
        dsimp only [tNil]
        refine rIndex_strs (SqL.of k1) (mem_kt.mpr hmem) ?_
        refine ⟨o3, _, _, rfl, rfl, k3, sizeOk (by rw [List.length_map, List.length_map, List.length_take]; omega), ?_⟩
        refine ⟨_, _, rfl, sb_upd sb3 n3, ?_, ?_⟩
        · rw [upd_ne n31.symm]
          exact k1
        · obtain ⟨rr, er⟩ := rows_pre (n := n) (w := wd) (SS.take i) R (SS.drop (i + 1)) (j + 1)
          rw [← eS] at er
          have e1 : pl (kt r) ((uniq ((SS.take i).flatMap (rowsR n wd) ++ (rowsR n wd R).take (j + 1))).map kt) = pl r (rowsT n wd SS) := by
            rw [pl_map fun _ _ => kt_inj, er, pl_app hmem]
          rw [upd_same, e1, List.take_add_one, hrg, List.map_append, List.map_append]
          rfl
      · refine ⟨_, rfl, _, rfl, o1, _, rfl, .inl (SqL.of g1'), rfl, flat_strs _, _, rfl, ?_⟩
        rw [if_pos rfl, inV_strs, dec_kt]
        by_cases c : r ∈ uniq ((SS.take i).flatMap (rowsR n wd) ++ (rowsR n wd R).take j)
        · rw [decide_eq_true c]
          refine iteF (hN _ _ ⟨rfl, sb2, ?_, g3'⟩)
          rw [en, addU_old c]
          exact g1'
        · rw [decide_eq_false c]
          have hul := uniq_len ((SS.take i).flatMap (rowsR n wd) ++ (rowsR n wd R).take j)
          have hul2 : ((SS.take i).flatMap (rowsR n wd) ++ (rowsR n wd R).take j).length ≤ 1000 * 64 + 64 := by
            rw [List.length_append, flat_len, List.length_take, List.length_take]
            have : min i SS.length * cnt n wd ≤ SS.length * cnt n wd := Nat.mul_le_mul_right _ (Nat.min_le_right _ _)
            omega
          refine iteT ⟨_, rfl, .inl ⟨rfl, _, SqL.of g1'⟩, _, rfl, o1, _, _, rfl, rfl, g1', sizeOk (by rw [List.length_map, List.length_map]; omega), hN _ _ ⟨rfl, sb_upd_d sb2, ?_, ?_⟩⟩
          · rw [upd_same, en, addU_new c, List.map_append, List.map_append]
            rfl
          · rw [upd_ne n31]
            exact g3'
    · obtain ⟨y7', y8', rfl, sb, g1, g3⟩ := p
      have etk : (rowsR n wd R).take (cnt n wd) = rowsR n wd R := List.take_of_length_le (by rw [rowsR_len]; exact Nat.le_refl _)
      rw [etk] at g1 g3
      have sd : Same (del G o1) (del G' o1) := sb_same sb
      have nv : NewV (del G o1) (del G' o1) (.ref o3) (eI ((rowsR n wd R).map fun r => ((pl r (rowsT n wd SS) : Nat) : Int))) := newV_ints (by rw [del_ne n31]; exact n3) (by rw [del_ne n31]; exact g3)
      obtain ⟨ws, w1, w2, lb2⟩ := lb.snoc sm sd nv
      rw [del_ne n12.symm] at w1
      rw [List.length_map, List.length_map, List.length_take] at w2
      refine ⟨_, rfl, .inl ⟨rfl, _, SqL.of w1⟩, _, rfl, o2, ws, _, rfl, rfl, w1, sizeOk (by omega), _, _, _, _, rfl, ?_, ?_, ?_⟩
      · rw [del_upd n12.symm]
        exact same_upd (sm.trans sd) n2H
      · rw [del_upd n12.symm, List.take_add_one, hR, List.map_append, List.map_append]
        exact lb2
      · rw [upd_ne n12, List.take_add_one, hR, List.flatMap_append]
        have e2 : (some R).toList.flatMap (rowsR n wd) = rowsR n wd R := by simp
        rw [e2]
        exact g1
  · obtain ⟨y5, y6, y7, y8, rfl, sm, lb, h1⟩ := p
    rw [hxl, List.take_length] at lb h1
    refine ⟨_, rfl, _, rfl, by show 2 ≤ sizeLine; decide, fun tp ntp => ?_⟩
    have sF : Same G (upd G tp (.tup [.ref o2, .ref o1])) := same_new ntp
    have sG : Same H G := sm.trans del_same
    refine q _ _ (sG.trans sF) ?_
    refine .tup (xs := [.ref o2, .ref o1]) ?_ (.cons ?_ (.cons ?_ .nil))
    · rw [fr_new (sG.free ntp)]
      exact upd_same
    · exact lb.newV.mono (Same.refl _) (del_same.trans sF)
    · refine .lst (xs := _) ?_ (dnAll_strs _)
      rw [fr_new n1]
      exact sF _ _ h1
def TabX (K : PySem.W.Frag) (n : Int) (v : V) (wd : Int) (H : Hp) (E : XK) : Prop := SevX K n v H E ∨ (SizeOk n ∧ ∃ SS : List (List (Int × Int)), Dp K H v (eRs SS) ∧ (∀ R ∈ SS, Ok n R) ∧ ¬ (1 ≤ wd ∧ wd ≤ n) ∧ Thr K .number H E)
def spTable (K : PySem.W.Frag) : Sp := fun vs H Q E => (∃ (n : Nat) (v : V) (SS : List (List (Int × Int))) (wd : Nat), vs = [.int n, v, .int wd] ∧ 1 ≤ n ∧ n ≤ 64 ∧ 1 ≤ wd ∧ wd ≤ n ∧ Dp K H v (eRs SS) ∧ SS.length ≤ 1000 ∧ (∀ R ∈ SS, Ok n R) ∧ ∀ H' p, Same H H' → NewV H H' p (eTab n wd SS) → Q p H') ∨
  ∃ (n : Int) (v : V) (wd : Int), vs = [.int n, v, .int wd] ∧ TabX K n v wd H E
theorem ok_table (T : Tx K mg) : ClX P w K mg base 5 "table" (spTable K) := by
  refine T.d_table.clX sc_table (fun vs H Q E h => ?_) (fun f cdv A outer s H vs Q E hr h => ?_)
  · rcases h with ⟨n, v, SS, wd, rfl, _⟩ | ⟨n, v, wd, rfl, _⟩ <;> rfl
  rcases h with ⟨n, v, SS, wd, rfl, h1, h2, hw1, hw2, hD, hl, hk, q⟩ | ⟨n, v, wd, rfl, h⟩
  · refine ⟨_, (pss_cons (ps_expr (pe_kX (E := E) (ok_need_sets T) hr (L2N.takes_of rfl rfl rfl rfl) (pa_cons (pv 0) (pa_cons (pv 1) pa_nil))))
      (pss_cons (ps_if (pt_not (pt_chain op_le op_le pe_int (pv 2) (pv 0))) (pss_one (L2N.ps_raise (by rfl) (L2N.takes_of rfl rfl rfl rfl) (L2N.pmk_own PySem.F.excBase_ValueError T.x_BadNumber.1 T.g_BadNumber T.x_BadNumber.2.1 (raises_own T.x_BadNumber.2.2.1 T.x_BadNumber.2.2.2) (by rfl)))) pss_nil)
      (pss_one (ps_ret (pe_k (ok_made T) hr (pa_cons (pv 0) (pa_cons (pv 1) (pa_cons (pv 2) pa_nil)))))))), ?_⟩
    refine ⟨_, rfl, _, rfl, .inl ⟨(n : Int), v, SS, rfl, ⟨by omega, by omega⟩, hD, hk, fun H1 s1 => ?_⟩⟩
    refine ⟨_, rfl, _, _, rfl, rfl, true, bT (by omega), iteT ⟨_, rfl, _, _, rfl, rfl, true, bT (by omega), iteF ?_⟩⟩
    refine ⟨_, rfl, _, rfl, _, rfl, n, v, SS, wd, rfl, h2, hw1, by omega, same_dp s1 hD, hl, fun R hR => Nat.le_trans (hk R hR).1 (by decide), fun H2 p s2 nv => ?_⟩
    exact q H2 p (s1.trans s2) (nv.mono s1 (Same.refl _))
  · refine ⟨_, (pss_cons (ps_expr (pe_kX (E := E) (ok_need_sets T) hr (L2N.takes_of rfl rfl rfl rfl) (pa_cons (pv 0) (pa_cons (pv 1) pa_nil))))
      (pss_cons (ps_if (pt_not (pt_chain op_le op_le pe_int (pv 2) (pv 0))) (pss_one (L2N.ps_raise (by rfl) (L2N.takes_of rfl rfl rfl rfl) (L2N.pmk_own PySem.F.excBase_ValueError T.x_BadNumber.1 T.g_BadNumber T.x_BadNumber.2.1 (raises_own T.x_BadNumber.2.2.1 T.x_BadNumber.2.2.2) (by rfl)))) pss_nil)
      (pss_one (ps_ret (pe_k (ok_made T) hr (pa_cons (pv 0) (pa_cons (pv 1) (pa_cons (pv 2) pa_nil)))))))), ?_⟩
    rcases h with h | ⟨hs, SS, hD, hk, nw, thr⟩
    · exact ⟨_, rfl, _, rfl, .inr ⟨n, v, rfl, h⟩⟩
    · refine ⟨_, rfl, _, rfl, .inl ⟨n, v, SS, rfl, hs, hD, hk, fun H1 s1 => ?_⟩⟩
      by_cases h1 : 1 ≤ wd
      · have h2 : ¬ wd ≤ n := fun z => nw ⟨h1, z⟩
        exact ⟨_, rfl, _, _, rfl, rfl, true, bT h1, iteT ⟨_, rfl, _, _, rfl, rfl, false, bF h2, iteT (thr H1 s1)⟩⟩
      · exact ⟨_, rfl, _, _, rfl, rfl, false, bF h1, iteF ⟨false, rfl, iteT (thr H1 s1)⟩⟩
def spLookX (K : PySem.W.Frag) : Sp := fun vs H _ E => ∃ (n : Int) (v : V) (wh k : Int), vs = [.int n, v, .int wh, .int k] ∧ ((¬ SizeOk n ∧ Thr K .size H E) ∨
  (SizeOk n ∧ ∃ (t a : Addr) (xs : List V) (y : V), v = .ref t ∧ SqT K H t [.ref a, y] ∧ SqL K H a xs ∧ (¬ (0 ≤ wh ∧ wh < (xs.length : Int)) ∨ ¬ (0 ≤ k ∧ k < n)) ∧ Thr K .number H E))
theorem ok_look (T : Tx K mg) : ClX P w K mg base 2 "look" (spLookX K) := by
  refine T.d_look.clX sc_look (fun vs H Q E h => ?_) (fun f cdv A outer s H vs Q E hr h => ?_)
  · obtain ⟨n, v, wh, k, rfl, _⟩ := h
    rfl
  obtain ⟨n, v, wh, k, rfl, h⟩ := h
  refine ⟨_, (pss_cons (ps_expr (pe_kX (E := E) (ok_need_size T) hr (L2N.takes_of rfl rfl rfl rfl) (pa_cons (pv 0) pa_nil)))
      (pss_cons (ps_asg (pv 1) (pgT K (by rfl) (pgs_cons (pg_name (i := 4) sc_look.nd rfl (by first | exact Or.inl rfl | exact Or.inr rfl)) (pgs_cons (pg_name (i := 5) sc_look.nd rfl (by first | exact Or.inl rfl | exact Or.inr rfl)) pgs_nil))))
      (pss_cons (ps_if (pt_not (pt_chain op_le op_lt pe_int (pv 2) (pe_callB (lenQ K) (by rfl) T.z_len (by decide +kernel) (pa_cons (pv 4) pa_nil)))) (pss_one (L2N.ps_raise (by rfl) (L2N.takes_of rfl rfl rfl rfl) (L2N.pmk_own PySem.F.excBase_ValueError T.x_BadNumber.1 T.g_BadNumber T.x_BadNumber.2.1 (raises_own T.x_BadNumber.2.2.1 T.x_BadNumber.2.2.2) (by rfl)))) pss_nil)
      (pss_cons (ps_expr (pe_kX (E := E) (ok_need_number T) hr (L2N.takes_of rfl rfl rfl rfl) (pa_cons (pv 0) (pa_cons (pv 3) pa_nil))))
      (pss_cons (ps_set (i := 6) sc_look.nd rfl (by first | exact Or.inl rfl | exact Or.inr rfl) (pe_callB call_len_str (by rfl) T.z_len (by decide +kernel) (pa_cons (pe_ix (ixL K) (pv 5) pe_int (fun _ _ => rfl)) pa_nil)))
      (pss_one (ps_ret (pe_cmpR op_eq (pe_ix ix_str (pe_ix (ixL K) (pv 5) (pe_ix (ixL K) (pe_ix (ixL K) (pv 4) (pv 2) (fun _ _ => rfl)) (pe_op op_fdiv (pv 3) (pv 6)) (fun _ _ => rfl)) (fun _ _ => rfl)) (pe_op op_mod (pv 3) (pv 6)) (fun _ _ => rfl)) pe_str (nomark _))))))))), ?_⟩
  rcases h with ⟨ns, thr⟩ | ⟨hs, t, a, xs, y, rfl, hT, hS, hb, thr⟩
  · exact ⟨_, rfl, n, rfl, .inr ⟨ns, thr⟩⟩
  · refine ⟨_, rfl, n, rfl, .inl ⟨hs, ?_⟩⟩
    refine ⟨_, rfl, t, _, rfl, hT, rfl, _, _, rfl, _, _, rfl, rfl, ?_⟩
    by_cases h1 : 0 ≤ wh
    · by_cases h2 : wh < (xs.length : Int)
      · have nk : ¬ (0 ≤ k ∧ k < n) := hb.resolve_left fun z => z ⟨h1, h2⟩
        refine ⟨_, rfl, _, _, rfl, rfl, true, bT h1, iteT ⟨_, rfl, a, xs, rfl, .inl hS, _, _, rfl, rfl, true, bT h2, iteF ?_⟩⟩
        exact ⟨_, rfl, _, rfl, n, k, rfl, .inr ⟨nk, thr⟩⟩
      · exact ⟨_, rfl, _, _, rfl, rfl, true, bT h1, iteT ⟨_, rfl, a, xs, rfl, .inl hS, _, _, rfl, rfl, false, bF h2, iteT (thr H (Same.refl _))⟩⟩
    · exact ⟨_, rfl, _, _, rfl, rfl, false, bF h1, iteF ⟨false, rfl, iteT (thr H (Same.refl _))⟩⟩
end
section
variable {P : Program} {w : World} {K : PySem.W.Frag} {mg : Str → Option Value} {base : Heap}
def spRoom (K : PySem.W.Frag) : Sp := fun vs H Q _ => ∃ (v : V) (n wd : Nat) (SS : List (List (Int × Int))), vs = [v] ∧ Dp K H v (eTab n wd SS) ∧ SS.length ≤ 1000 ∧ n ≤ 64 ∧ 1 ≤ wd ∧ wd ≤ 64 ∧ ∀ H', Same H H' → Q (.int ((cells n wd SS : Nat) : Int)) H'
theorem ok_room_of (T : Tx K mg) : Cl P w K mg base 1 "room_of" (spRoom K) := by
  refine T.d_room_of.cl sc_room_of (fun vs H Q E h => ?_) (fun f cdv A outer s H vs Q E hr h => ?_)
  · obtain ⟨v, n, wd, SS, rfl, _⟩ := h
    rfl
  obtain ⟨v, n, wd, SS, rfl, hD, hl, hn, hw1, hw2, q⟩ := h
  have hc := cnt_le (n := n) hw1
  have hm : SS.length * cnt n wd ≤ 1000 * 64 := Nat.mul_le_mul hl (by omega)
  have hrl := rowsT_len n wd SS
  obtain ⟨t, ts, rfl, hT, hTA⟩ := dp_tuple hD
  cases hTA with
  | cons d1 hTA =>
  cases hTA with
  | cons d2 hTA =>
  cases hTA
  obtain ⟨a4, x4, rfl, hS4, hA4⟩ := dp_list d1
  obtain ⟨a5, x5, rfl, hS5, hA5⟩ := dp_list d2
  obtain rfl := dpAll_strs hA5
  have hfl : (firstsT n wd SS).length = SS.length := by unfold firstsT; rw [List.length_map]
  have x4l : x4.length = (firstsT n wd SS).length := by rw [dpAll_len hA4, List.length_map]
  refine ⟨_, (pss_one (ps_ret (pe_op op_add (pe_callB (sumQ K rfl) (by rfl) T.z_sum (by decide +kernel) (pa_cons (pe_lc (own := [("numbers", 1)]) (g := (gName 1)) (tt := tYes) (by rfl) sc_room_of.nd (piL K (pe_ix (ixT K) (pv 0) pe_int (fun _ _ => rfl))) (blkOk_by (own := [("numbers", 1)]) (N := n_room_of) (sc := defScope s_room_of) (by decide +kernel)) (fun _ _ _ _ _ => (pg_name (i := 1) sc_room_of.nd rfl (by first | exact Or.inl rfl | exact Or.inr rfl))) (fun _ _ _ _ _ => pts_nil) (fun _ _ _ _ _ => (pe_callB (lenQ K) (by rfl) T.z_len (by decide +kernel) (pa_cons (pv 1) pa_nil)))) pa_nil)) (pe_callB (sumQ K rfl) (by rfl) T.z_sum (by decide +kernel) (pa_cons (pe_lc (own := [("row", 2)]) (g := (gName 2)) (tt := tYes) (by rfl) sc_room_of.nd (piL K (pe_ix (ixT K) (pv 0) pe_int (fun _ _ => rfl))) (blkOk_by (own := [("row", 2)]) (N := n_room_of) (sc := defScope s_room_of) (by decide +kernel)) (fun _ _ _ _ _ => (pg_name (i := 2) sc_room_of.nd rfl (by first | exact Or.inl rfl | exact Or.inr rfl))) (fun _ _ _ _ _ => pts_nil) (fun _ _ _ _ _ => (pe_callB call_len_str (by rfl) T.z_len (by decide +kernel) (pa_cons (pv 2) pa_nil)))) pa_nil))))), ?_⟩
  refine ⟨_, rfl, t, _, 0, _, rfl, rfl, hT, rfl, a4, rfl, ⟨_, hS4⟩, fun D1 n1 => lcN_list (fun i => ((firstsT n wd SS)[i]?).bind fun l => some (.int (l.length : Int))) hS4 n1 (by omega) (fun i x G N1 N0 hx sm c1 c0 => ?_) (fun H1 s1 lb1 => ?_)⟩
  · obtain ⟨dd, hdd, hdx⟩ := dpAll_get hA4 hx
    obtain ⟨l, hl', rfl⟩ := get_map hdd
    obtain ⟨b, ys, rfl, hb, hy⟩ := dp_list hdx
    obtain rfl := dpAll_ints hy
    exact ⟨rfl, yesT ⟨_, rfl, b, _, rfl, .inl (sm.seq hb), c1 _ G _ (Same.refl _) (by rw [hl', Option.bind_some, List.length_map]) (.int _)⟩⟩
  rw [x4l, list_map] at lb1
  have e1 : ((firstsT n wd SS).map fun l => PyData.int (l.length : Int)) = ((firstsT n wd SS).map fun l => (l.length : Int)).map PyData.int := by rw [List.map_map]; rfl
  rw [e1] at lb1
  refine ⟨D1, _, rfl, SqL.of lb1.ints, ?_⟩
  refine ⟨_, rfl, t, _, 1, _, rfl, rfl, same_tup s1 hT, rfl, a5, rfl, ⟨_, s1.seq hS5⟩, fun D2 n2 => lcN_list (fun i => (((rowsT n wd SS).map kt)[i]?).bind fun r => some (.int (r.length : Int))) (s1.seq hS5) n2 (by rw [List.length_map, List.length_map]; omega) (fun i x G N1 N0 hx sm c1 c0 => ?_) (fun H2 s2 lb2 => ?_)⟩
  · obtain ⟨z, hz, rfl⟩ := map_get hx
    have hzl : z.length = wd := by
      obtain ⟨b, hb, rfl⟩ := List.mem_map.mp (List.mem_of_getElem? hz)
      rw [kt_len, rowsT_mem hb]
    exact ⟨rfl, yesT ⟨_, rfl, z, rfl, Nat.le_of_lt (sizeOk (by omega)), c1 _ G _ (Same.refl _) (by rw [hz]; rfl) (.int _)⟩⟩
  rw [List.length_map, list_map] at lb2
  have e2 : (((rowsT n wd SS).map kt).map fun r => PyData.int (r.length : Int)) = (((rowsT n wd SS).map kt).map fun r => (r.length : Int)).map PyData.int := by rw [List.map_map, List.map_map, List.map_map]; rfl
  rw [e2] at lb2
  refine ⟨D2, _, rfl, SqL.of lb2.ints, _, _, rfl, rfl, ?_⟩
  have e3 : ((firstsT n wd SS).map fun l => (l.length : Int)).sum + (((rowsT n wd SS).map kt).map fun r => (r.length : Int)).sum = ((cells n wd SS : Nat) : Int) := by
    rw [sum_firsts, sum_rows]
    unfold cells
    omega
  dsimp only
  rw [e3]
  exact q H2 (s1.trans s2)
def spSevX (K : PySem.W.Frag) : Sp := fun vs H _ E => ∃ (n : Int) (v : V), vs = [.int n, v] ∧ SevX K n v H E
theorem ok_least (T : Tx K mg) : ClX P w K mg base 5 "least" (spSevX K) := by
  refine T.d_least.clX sc_least (fun vs H Q E h => ?_) (fun f cdv A outer s H vs Q E hr h => ?_)
  · obtain ⟨n, v, rfl, _⟩ := h
    rfl
  obtain ⟨n, v, rfl, h⟩ := h
  exact ⟨_, (pss_cons (ps_expr (pe_kX (E := E) (ok_need_sets T) hr (L2N.takes_of rfl rfl rfl rfl) (pa_cons (pv 0) (pa_cons (pv 1) pa_nil))))
      (pss_one (ps_ret (pe_callB (minDK K (by rfl) (hu65 hr)) (by rfl) T.z_min (by decide +kernel) (pa_cons (pe_lc (own := [("wide", 2)]) (g := (gName 2)) (tt := tYes) (by rfl) sc_least.nd (pi_range2 (by rfl) T.z_range (pa_cons pe_int (pa_cons (pe_op op_add (pv 0) pe_int) pa_nil))) (blkOk_by (own := [("wide", 2)]) (N := n_least) (sc := defScope s_least) (by decide +kernel)) (fun _ _ _ _ _ => (pg_name (i := 2) sc_least.nd rfl (by first | exact Or.inl rfl | exact Or.inr rfl))) (fun _ _ _ _ _ => pts_nil) (fun _ _ _ _ _ => (pe_tup (pa_cons (pe_k (ok_room_of T) hr (pa_cons (pe_k (ok_made T) hr (pa_cons (pv 0) (pa_cons (pv 1) (pa_cons (pv 2) pa_nil)))) pa_nil)) (pa_cons (pv 2) pa_nil))))) pa_nil))))), ⟨_, rfl, _, rfl, .inr ⟨n, v, rfl, h⟩⟩⟩
end
section
variable {P : Program} {w : World} {K : PySem.W.Frag} {mg : Str → Option Value} {base : Heap}
def spKinds (K : PySem.W.Frag) : Sp := fun vs H Q _ => ∃ (n : Nat) (v : V) (SS : List (List (Int × Int))), vs = [.int n, v] ∧ n ≤ 64 ∧ Dp K H v (eRs SS) ∧ SS.length ≤ 1000 ∧ (∀ R ∈ SS, R.length ≤ 1000) ∧ ∀ H' p, Same H H' → NewV H H' p (.tuple [eI (rowOf n SS), eBs (kinds n SS)]) → Q p H'
theorem ok_kinds_of (T : Tx K mg) : Cl P w K mg base 2 "kinds_of" (spKinds K) := by
  refine T.d_kinds_of.cl sc_kinds_of (fun vs H Q E h => ?_) (fun f cdv A outer s H vs Q E hr h => ?_)
  · obtain ⟨n, v, SS, rfl, _⟩ := h
    rfl
  obtain ⟨n, v, SS, rfl, hn, hD, hl, hk, q⟩ := h
  obtain ⟨a, xs, rfl, hS, hA⟩ := dp_list hD
  have hxl : xs.length = SS.length := by rw [dpAll_len hA, List.length_map]
  refine ⟨_, (pss_cons (ps_set (i := 2) sc_kinds_of.nd rfl (by first | exact Or.inl rfl | exact Or.inr rfl) (pe_lst pa_nil))
      (pss_cons (ps_set (i := 3) sc_kinds_of.nd rfl (by first | exact Or.inl rfl | exact Or.inr rfl) (pe_lst pa_nil))
      (pss_cons (ps_for PassesOwn.never rfl (pi_range1 (by rfl) T.z_range (pa_cons (pv 0) pa_nil)) (pg_name (i := 4) sc_kinds_of.nd rfl (by first | exact Or.inl rfl | exact Or.inr rfl))
      (pss_cons (ps_set (i := 5) sc_kinds_of.nd rfl (by first | exact Or.inl rfl | exact Or.inr rfl) (pe_callTy (tupOf K) (by rfl) T.z_tuple (by decide +kernel) (pa_cons (pe_lc (own := [("ranges", 6)]) (g := (gName 6)) (tt := tYes) (by rfl) sc_kinds_of.nd (piL K (pv 1)) (blkOk_by (own := [("ranges", 6)]) (N := n_kinds_of) (sc := defScope s_kinds_of) (by decide +kernel)) (fun _ _ _ _ _ => (pg_name (i := 6) sc_kinds_of.nd rfl (by first | exact Or.inl rfl | exact Or.inr rfl))) (fun _ _ _ _ _ => pts_nil) (fun _ _ _ _ _ => (pe_k (ok_has T) hr (pa_cons (pv 6) (pa_cons (pv 4) pa_nil))))) pa_nil)))
      (pss_cons (ps_if (pt_cmpR (notInDK K (hu65 hr)) (pv 5) (pv 2) (by rfl)) (pss_one (ps_expr (pe_bm PySem.F.plainAttrs_list PySem.F.slot_list_append PySem.F.type_list_append mt_append (pv 2) (pa_cons (pv 5) pa_nil)))) pss_nil)
      (pss_one (ps_expr (pe_bm PySem.F.plainAttrs_list PySem.F.slot_list_append PySem.F.type_list_append mt_append (pv 3) (pa_cons (pe_bm PySem.F.plainAttrs_list PySem.F.slot_list_index PySem.F.type_list_index (indexDK K (hu65 hr)) (pv 2) (pa_cons (pv 5) pa_nil)) pa_nil)))))))
      (pss_one (ps_ret (pe_tup (pa_cons (pv 3) (pa_cons (pv 2) pa_nil)))))))), ?_⟩
  refine ⟨Nat.zero_le _, fun o1 n1 => ⟨Nat.zero_le _, fun o2 n2 => ?_⟩⟩
  have n12 : o1 ≠ o2 := ne_of_none upd_same n2
  have n2H : H o2 = none := (same_new n1).free n2
  refine ⟨_, rfl, (n : Int), rfl, by omega, by omega, ?_⟩
  rw [Int.toNat_natCast]
  refine for_range (lo := 0) (n := n) (fun i σ H1 => ∃ y4 y5 y6 : Option V, σ = [some (.int n), some (.ref a), some (.ref o1), some (.ref o2), y4, y5, y6] ∧ Same H (del H1 o2) ∧ LB H (del H1 o2) o1 ((uniq ((upTo i).map (kindOf SS))).map eB) ∧ H1 o2 = some (.lst (((upTo i).map fun k => ((pl (kindOf SS k) (kinds n SS) : Nat) : Int)).map V.int))) ?_ (fun i σ H1 hi p => ?_) (fun σ H1 p => ?_)
  · refine ⟨none, none, none, rfl, ?_, ?_, upd_same⟩
    · rw [del_upd_self, del_upd n12]
      refine same_upd (fun b o e => ?_) n1
      rw [del_ne (ne_of_none e n2H)]
      exact e
    · rw [del_upd_self, del_upd n12]
      exact LB.nil n1
  · obtain ⟨y4, y5, y6, rfl, sm, lb, h2⟩ := p
    rw [Int.zero_add]
    have sH : Same H H1 := sm.trans del_same
    have hS1 := sH.seq hS
    -- kind
    refine ⟨_, rfl, a, rfl, ⟨_, hS1⟩, fun D nD => lcN_list (fun j => (SS[j]?).bind fun R => some (.bool (has R (i : Int)))) hS1 nD (by omega) (fun j x H2 N1 N0 hx s2 k1 k0 => ?_) (fun H2 s2 lb2 => ?_)⟩
    · obtain ⟨d, hd, hx'⟩ := dpAll_get hA hx
      obtain ⟨R, hR, rfl⟩ := get_map hd
      refine ⟨rfl, yesT ⟨_, rfl, _, rfl, _, R, (i : Int), rfl, same_dp (sH.trans s2) hx', hk R (List.mem_of_getElem? hR), fun H3 s3 => ?_⟩⟩
      exact k1 _ H3 _ s3 (by rw [hR]; rfl) (.bl _)
    have ek : (List.range xs.length).filterMap (fun j => (SS[j]?).bind fun R => some (PyData.bool (has R (i : Int)))) = (kindOf SS (i : Int)).map PyData.bool := by
      rw [hxl]
      unfold kindOf
      rw [List.map_map]
      exact list_map SS fun R => PyData.bool (has R (i : Int))
    rw [ek] at lb2
    have hD2 := lb2.bools
    refine ⟨D, _, rfl, .inl ⟨SqL.of hD2, fun t nt => ?_⟩⟩
    have s3 : Same H1 (upd H2 t (.tup ((kindOf SS (i : Int)).map V.bl))) := s2.trans (same_new nt)
    have nvt : NewV H1 (upd H2 t (.tup ((kindOf SS (i : Int)).map V.bl))) (.ref t) (eB (kindOf SS (i : Int))) := by
      refine .tup (xs := (kindOf SS (i : Int)).map V.bl) ?_ (dnAll_bools _)
      rw [fr_new (s2.free nt)]
      exact upd_same
    generalize upd H2 t (.tup ((kindOf SS (i : Int)).map V.bl)) = H3 at s3 nvt
    generalize hb : kindOf SS (i : Int) = b at *
    have h23 : H3 o2 = some (.lst (((upTo i).map fun k => ((pl (kindOf SS k) (kinds n SS) : Nat) : Int)).map V.int)) := s3 _ _ h2
    have sd : Same (del H1 o2) (del H3 o2) := del_mono s3
    have lb3 := lb.same sd
    have nvd := nvt.del h2
    have hul := uniq_len ((upTo i).map (kindOf SS))
    rw [List.length_map, upTo_len] at hul
    have en : uniq ((upTo (i + 1)).map (kindOf SS)) = addU (uniq ((upTo i).map (kindOf SS))) b := by
      rw [upTo_succ, List.map_append, ← hb]
      exact uniq_snoc _ _
    -- new or not
    dsimp only [gName]
    refine seq_join (t := tIfS _ _ _) (fun σ' H' => σ' = [some (.int n), some (.ref a), some (.ref o1), some (.ref o2), some (.int (i : Int)), some (.ref t), y6] ∧ Same H (del H' o2) ∧ LB H (del H' o2) o1 ((uniq ((upTo (i + 1)).map (kindOf SS))).map eB) ∧ H' o2 = some (.lst (((upTo i).map fun k => ((pl (kindOf SS k) (kinds n SS) : Nat) : Int)).map V.int)) ∧ Dp K H' (.ref t) (eB b)) (fun σ' H' hJ => ?_) (fun N hN => ?_)
    · obtain ⟨rfl, sm', lb', h2', ht'⟩ := hJ
      have hlist : Dp K H' (.ref o1) (eBs (uniq ((upTo (i + 1)).map (kindOf SS)))) := same_dp del_same lb'.newV.dp
      have hmem : b ∈ uniq ((upTo (i + 1)).map (kindOf SS)) := by
        rw [en]
        exact mem_addU.mpr (.inr rfl)
      obtain ⟨zs, hz1, hz2⟩ := lb'.at
      rw [del_ne n12] at hz1
      refine ⟨_, rfl, .inl ⟨rfl, _, SqL.of h2'⟩, _, rfl, .inl ⟨rfl, _, SqL.of hz1⟩, _, rfl, o1, .ref t, eB b, _, pl b (uniq ((upTo (i + 1)).map (kindOf SS))), eB b, rfl, rfl, hlist, ht', (Sh.eBs (n := 0) _).shaped, (Sh.eB (n := 0) _).shaped, ?_, by rw [eqv_eB]; exact decide_eq_true rfl, fun m z hm hz => ?_, ?_⟩
      · rw [List.getElem?_map, pl_get hmem]
        rfl
      · obtain ⟨c, hc, rfl⟩ := get_map hz
        rw [eqv_eB]
        exact decide_eq_false (pl_ahead hm hc)
      refine ⟨o2, _, _, rfl, rfl, h2', sizeOk (by rw [List.length_map, List.length_map, upTo_len]; omega), ?_⟩
      refine ⟨_, _, _, rfl, ?_, ?_, ?_⟩
      · rw [del_upd_self]
        exact sm'
      · rw [del_upd_self]
        exact lb'
      · obtain ⟨r, er⟩ := kinds_pre SS (show i + 1 ≤ n from hi)
        have e1 : pl b (uniq ((upTo (i + 1)).map (kindOf SS))) = pl (kindOf SS (i : Int)) (kinds n SS) := by rw [hb, er, pl_app hmem]
        rw [upd_same, e1, upTo_succ, List.map_append, List.map_append]
        rfl
    · refine ⟨_, rfl, _, rfl, eB b, _, same_dp (Same.refl _) nvt.dp, same_dp del_same lb3.newV.dp, (Sh.eB (n := 0) _).shaped, (Sh.eBs (n := 0) _).shaped, _, rfl, ?_⟩
      rw [any_eB]
      by_cases c : b ∈ uniq ((upTo i).map (kindOf SS))
      · rw [decide_eq_true c]
        refine iteF (hN _ _ ⟨rfl, sm.trans sd, ?_, h23, nvt.dp⟩)
        rw [en, addU_old c]
        exact lb3
      · rw [decide_eq_false c]
        obtain ⟨zs, hz1, hz2, lb4⟩ := lb.snoc sm sd nvd
        rw [del_ne n12] at hz1
        refine iteT ⟨_, rfl, .inl ⟨rfl, _, SqL.of hz1⟩, _, rfl, o1, zs, _, rfl, rfl, hz1, sizeOk (by rw [hz2, List.length_map]; omega), hN _ _ ⟨rfl, ?_, ?_, ?_, ?_⟩⟩
        · rw [del_upd n12]
          exact same_upd (sm.trans sd) lb.1
        · rw [del_upd n12, en, addU_new c, List.map_append]
          exact lb4
        · rw [upd_ne n12.symm]
          exact h23
        · have ht := nvt
          cases ht with
          | tup h5 h6 =>
            obtain ⟨q1, q2⟩ := fr_some h5
            have c2 : t ≠ o1 := fun z => by
              subst z
              rw [q2] at hz1
              cases hz1
            refine .tup (SqT.of (by rw [upd_ne c2]; exact q2)) ?_
            have e := dpAll_bools (K := K) (DnAll.dp h6)
            rw [e]
            exact (dnAll_bools (F := fun _ => none) _).dp |> same_dpAll fun _ _ z => by cases z
  · obtain ⟨y4, y5, y6, rfl, sm, lb, h2⟩ := p
    refine ⟨_, rfl, _, rfl, by show 2 ≤ sizeLine; decide, fun tp ntp => ?_⟩
    have sF : Same H1 (upd H1 tp (.tup [.ref o2, .ref o1])) := same_new ntp
    refine q _ _ ((sm.trans del_same).trans sF) ?_
    refine .tup (xs := [.ref o2, .ref o1]) ?_ (.cons ?_ (.cons ?_ .nil))
    · rw [fr_new ((sm.trans del_same).free ntp)]
      exact upd_same
    · refine .lst (xs := _) ?_ (dnAll_ints _)
      rw [fr_new n2H]
      exact sF _ _ h2
    · exact lb.newV.mono (Same.refl _) (del_same.trans sF)
def spClasses (K : PySem.W.Frag) : Sp := fun vs H Q E => (∃ (n : Nat) (v : V) (SS : List (List (Int × Int))), vs = [.int n, v] ∧ 1 ≤ n ∧ n ≤ 64 ∧ Dp K H v (eRs SS) ∧ SS.length ≤ 1000 ∧ (∀ R ∈ SS, Ok n R) ∧ ∀ H' p, Same H H' → NewV H H' p (eRs (classesOf n SS)) → Q p H') ∨ ∃ (n : Int) (v : V), vs = [.int n, v] ∧ SevX K n v H E
theorem ok_classes (T : Tx K mg) : ClX P w K mg base 5 "classes" (spClasses K) := by
  refine T.d_classes.clX sc_classes (fun vs H Q E h => ?_) (fun f cdv A outer s H vs Q E hr h => ?_)
  · rcases h with ⟨n, v, SS, rfl, _⟩ | ⟨n, v, rfl, _⟩ <;> rfl
  rcases h with ⟨n, v, SS, rfl, h1, h2, hD, hl, hk, q⟩ | ⟨n, v, rfl, h⟩
  rotate_left
  · exact ⟨_, (pss_cons (ps_expr (pe_kX (E := E) (ok_need_sets T) hr (L2N.takes_of rfl rfl rfl rfl) (pa_cons (pv 0) (pa_cons (pv 1) pa_nil))))
      (pss_cons (ps_asg (pe_k (ok_kinds_of T) hr (pa_cons (pv 0) (pa_cons (pv 1) pa_nil))) (pgT K (by rfl) (pgs_cons (pg_name (i := 2) sc_classes.nd rfl (by first | exact Or.inl rfl | exact Or.inr rfl)) (pgs_cons (pg_name (i := 3) sc_classes.nd rfl (by first | exact Or.inl rfl | exact Or.inr rfl)) pgs_nil))))
      (pss_cons (ps_set (i := 4) sc_classes.nd rfl (by first | exact Or.inl rfl | exact Or.inr rfl) (pe_lst pa_nil))
      (pss_cons (ps_for (passes_of rfl) rfl (pi_range1 (by rfl) T.z_range (pa_cons (pe_callB (lenQ K) (by rfl) T.z_len (by decide +kernel) (pa_cons (pv 3) pa_nil)) pa_nil)) (pg_name (i := 5) sc_classes.nd rfl (by first | exact Or.inl rfl | exact Or.inr rfl))
      (pss_one (ps_expr (pe_bm PySem.F.plainAttrs_list PySem.F.slot_list_append PySem.F.type_list_append mt_append (pv 4) (pa_cons (pe_k (ok_told T) hr (pa_cons (pe_lc (own := [("sign", 6)]) (g := (gName 6)) (tt := _) (by rfl) sc_classes.nd (pi_range1 (by rfl) T.z_range (pa_cons (pv 0) pa_nil)) (blkOk_by (own := [("sign", 6)]) (N := n_classes) (sc := defScope s_classes) (by decide +kernel)) (fun _ _ _ _ _ => (pg_name (i := 6) sc_classes.nd rfl (by first | exact Or.inl rfl | exact Or.inr rfl))) (fun _ _ _ _ _ => (pts_one (pt_cmpR op_eq (pe_ix (ixL K) (pv 2) (pv 6) (fun _ _ => rfl)) (pv 5) (nomark _)))) (fun _ _ _ _ _ => (pv 6))) pa_nil)) pa_nil)))))
      (pss_one (ps_ret (pv 4))))))), ⟨_, rfl, _, rfl, .inr ⟨n, v, rfl, h⟩⟩⟩
  refine ⟨_, (pss_cons (ps_expr (pe_kX (E := E) (ok_need_sets T) hr (L2N.takes_of rfl rfl rfl rfl) (pa_cons (pv 0) (pa_cons (pv 1) pa_nil))))
      (pss_cons (ps_asg (pe_k (ok_kinds_of T) hr (pa_cons (pv 0) (pa_cons (pv 1) pa_nil))) (pgT K (by rfl) (pgs_cons (pg_name (i := 2) sc_classes.nd rfl (by first | exact Or.inl rfl | exact Or.inr rfl)) (pgs_cons (pg_name (i := 3) sc_classes.nd rfl (by first | exact Or.inl rfl | exact Or.inr rfl)) pgs_nil))))
      (pss_cons (ps_set (i := 4) sc_classes.nd rfl (by first | exact Or.inl rfl | exact Or.inr rfl) (pe_lst pa_nil))
      (pss_cons (ps_for (passes_of rfl) rfl (pi_range1 (by rfl) T.z_range (pa_cons (pe_callB (lenQ K) (by rfl) T.z_len (by decide +kernel) (pa_cons (pv 3) pa_nil)) pa_nil)) (pg_name (i := 5) sc_classes.nd rfl (by first | exact Or.inl rfl | exact Or.inr rfl))
      (pss_one (ps_expr (pe_bm PySem.F.plainAttrs_list PySem.F.slot_list_append PySem.F.type_list_append mt_append (pv 4) (pa_cons (pe_k (ok_told T) hr (pa_cons (pe_lc (own := [("sign", 6)]) (g := (gName 6)) (tt := _) (by rfl) sc_classes.nd (pi_range1 (by rfl) T.z_range (pa_cons (pv 0) pa_nil)) (blkOk_by (own := [("sign", 6)]) (N := n_classes) (sc := defScope s_classes) (by decide +kernel)) (fun _ _ _ _ _ => (pg_name (i := 6) sc_classes.nd rfl (by first | exact Or.inl rfl | exact Or.inr rfl))) (fun _ _ _ _ _ => (pts_one (pt_cmpR op_eq (pe_ix (ixL K) (pv 2) (pv 6) (fun _ _ => rfl)) (pv 5) (nomark _)))) (fun _ _ _ _ _ => (pv 6))) pa_nil)) pa_nil)))))
      (pss_one (ps_ret (pv 4))))))), ?_⟩
  refine ⟨_, rfl, _, rfl, .inl ⟨(n : Int), v, SS, rfl, ⟨by omega, by omega⟩, hD, hk, fun H1 s1 => ?_⟩⟩
  refine ⟨_, rfl, _, rfl, n, v, SS, rfl, h2, same_dp s1 hD, hl, fun R hR => Nat.le_trans (hk R hR).1 (by decide), fun H2 p s2 nv => ?_⟩
  obtain ⟨t, x, y, rfl, ft, ht, nx, ny⟩ := newV_pair nv
  refine ⟨t, _, rfl, SqT.of ht, rfl, _, _, rfl, _, _, rfl, rfl, ?_⟩
  obtain ⟨a3, x3, rfl, f3, h3, d3⟩ := newV_list nx
  obtain rfl := dpAll_ints (K := K) d3.dp
  obtain ⟨a4, x4, rfl, f4, h4, d4⟩ := newV_list ny
  have x4l : x4.length = (kinds n SS).length := by rw [d4.len, List.length_map]
  have kl := kinds_len n SS
  refine ⟨Nat.zero_le _, fun o no => ?_⟩
  have s3 : Same H2 (upd H2 o (.lst [])) := same_new no
  have s03 := s1.trans (s2.trans s3)
  have lb0 : LB H2 (upd H2 o (.lst [])) o [] := LB.nil no
  generalize upd H2 o (.lst []) = H3 at s3 s03 lb0
  refine ⟨_, rfl, a4, x4, rfl, .inl (SqL.of (s3 _ _ h4)), _, rfl, by omega, by omega, ?_⟩
  rw [Int.toNat_natCast]
  refine for_range (lo := 0) (n := x4.length) (fun i σ G => ∃ y5 y6 : Option V, σ = [some (.int n), some v, some (.ref a3), some (.ref a4), some (.ref o), y5, y6] ∧ Same H2 G ∧ LB H2 G o (((List.range i).map (classOf n SS)).map eR)) ⟨none, none, rfl, s3, lb0⟩ (fun i σ G hi p => ?_) (fun σ G p => ?_)
  · obtain ⟨y5, y6, rfl, sm, lb⟩ := p
    rw [Int.zero_add]
    obtain ⟨zs, hz, _⟩ := lb.at
    have h3G := sm _ _ h3
    refine ⟨_, rfl, .inl ⟨rfl, _, SqL.of hz⟩, _, rfl, (n : Int), rfl, by omega, by omega, fun D nD => lcN_range0 (fun j => if decide (((pl (kindOf SS (j : Int)) (kinds n SS) : Nat) : Int) = (i : Int)) = true then some (.int (j : Int)) else none) nD (by omega) (fun j G2 N1 N0 hj s2' k1 k0 => ?_) (fun G2 s2' lb2 => ?_)⟩
    · have g : ((rowOf n SS).map V.int)[j]? = some (.int ((pl (kindOf SS (j : Int)) (kinds n SS) : Nat) : Int)) := by rw [List.getElem?_map, rowOf_get SS hj]; rfl
      refine ⟨rfl, _, rfl, _, rfl, a3, _, _, _, rfl, rfl, SqL.of (s2' _ _ h3G), atI_nat g, _, rfl, rfl, _, rfl, ite2 (fun c => ?_) (fun c => ?_)⟩
      · have c1 := V.int.inj (of_decide_eq_true c)
        exact ⟨_, rfl, k1 _ G2 _ (Same.refl _) (by rw [if_pos (decide_eq_true c1)]) (.int _)⟩
      · exact k0 G2 (Same.refl _) (by rw [if_neg fun z => c (decide_eq_true (congrArg V.int (of_decide_eq_true z)))])
    rw [range_ints (p := fun k => decide (((pl (kindOf SS k) (kinds n SS) : Nat) : Int) = (i : Int)))] at lb2
    refine ⟨_, _, rfl, lb2.newV.dp, Nat.le_trans (allIn_len n _) (by omega), fun G3 p3 s3' nv3 => ?_⟩
    have s13 := s2'.trans s3'
    obtain ⟨ys, z1, z2, lb3⟩ := lb.snoc sm s13 (nv3.mono s2' (Same.refl _))
    rw [List.length_map, List.length_map, List.length_range] at z2
    refine ⟨o, ys, _, rfl, rfl, z1, sizeOk (by omega), _, _, rfl, same_upd (sm.trans s13) lb.1, ?_⟩
    rw [List.range_succ, List.map_append, List.map_append]
    exact lb3
  · obtain ⟨y5, y6, rfl, sm, lb⟩ := p
    rw [x4l] at lb
    exact ⟨_, rfl, q G _ ((s1.trans s2).trans sm) (lb.newV.mono (s1.trans s2) (Same.refl _))⟩
theorem ok_class_row (T : Tx K mg) : ClX P w K mg base 5 "class_row" (spSevX K) := by
  refine T.d_class_row.clX sc_class_row (fun vs H Q E h => ?_) (fun f cdv A outer s H vs Q E hr h => ?_)
  · obtain ⟨n, v, rfl, _⟩ := h
    rfl
  obtain ⟨n, v, rfl, h⟩ := h
  exact ⟨_, (pss_cons (ps_expr (pe_kX (E := E) (ok_need_sets T) hr (L2N.takes_of rfl rfl rfl rfl) (pa_cons (pv 0) (pa_cons (pv 1) pa_nil))))
      (pss_one (ps_ret (pe_ix (ixT K) (pe_k (ok_kinds_of T) hr (pa_cons (pv 0) (pa_cons (pv 1) pa_nil))) pe_int (fun _ _ => rfl))))), ⟨_, rfl, _, rfl, .inr ⟨n, v, rfl, h⟩⟩⟩
theorem ok_by_classes (T : Tx K mg) : ClX P w K mg base 5 "by_classes" (spSevX K) := by
  refine T.d_by_classes.clX sc_by_classes (fun vs H Q E h => ?_) (fun f cdv A outer s H vs Q E hr h => ?_)
  · obtain ⟨n, v, rfl, _⟩ := h
    rfl
  obtain ⟨n, v, rfl, h⟩ := h
  exact ⟨_, (pss_cons (ps_expr (pe_kX (E := E) (ok_need_sets T) hr (L2N.takes_of rfl rfl rfl rfl) (pa_cons (pv 0) (pa_cons (pv 1) pa_nil))))
      (pss_cons (ps_set (i := 2) sc_by_classes.nd rfl (by first | exact Or.inl rfl | exact Or.inr rfl) (pe_ix (ixT K) (pe_k (ok_kinds_of T) hr (pa_cons (pv 0) (pa_cons (pv 1) pa_nil))) pe_int (fun _ _ => rfl)))
      (pss_one (ps_ret (pe_lc (own := [("at", 4)]) (g := (gName 4)) (tt := tYes) (by rfl) sc_by_classes.nd (pi_range1 (by rfl) T.z_range (pa_cons (pe_callB (lenQ K) (by rfl) T.z_len (by decide +kernel) (pa_cons (pv 1) pa_nil)) pa_nil)) (blkOk_by (own := [("at", 4)]) (N := n_by_classes) (sc := defScope s_by_classes) (by decide +kernel)) (fun _ _ _ _ _ => (pg_name (i := 4) sc_by_classes.nd rfl (by first | exact Or.inl rfl | exact Or.inr rfl))) (fun _ _ _ _ _ => pts_nil) (fun _ _ _ _ _ => (pe_lc (own := [("number", 3)]) (g := (gName 3)) (tt := _) (by rfl) sc_by_classes.nd (pi_range1 (by rfl) T.z_range (pa_cons (pe_callB (lenQ K) (by rfl) T.z_len (by decide +kernel) (pa_cons (pv 2) pa_nil)) pa_nil)) (blkOk_by (own := [("number", 3)]) (N := n_by_classes) (by kernel_rfl)) (fun _ _ _ _ _ => (pg_name (i := 3) sc_by_classes.nd rfl (by first | exact Or.inl rfl | exact Or.inr rfl))) (fun _ _ _ _ _ => (pts_one (pt_val (pe_ix (ixT K) (pe_ix (ixL K) (pv 2) (pv 3) (fun _ _ => rfl)) (pv 4) (fun _ _ => rfl))))) (fun _ _ _ _ _ => (pv 3))))))))), ⟨_, rfl, _, rfl, .inr ⟨n, v, rfl, h⟩⟩⟩
end
section
variable {P : Program} {w : World} {K : PySem.W.Frag} {mg : Str → Option Value} {base : Heap}
theorem pe_gS {X : Cx} {x z : Str} {pos : Pos} (hg : Gl X x) (h : ∃ t, X.mg x = some (.str z t)) (hdb : (x == ("__debug__" : Str)) = false := by decide) : PE X (.Name x pos) (tC (.str z)) := by
  obtain ⟨t, h⟩ := h
  exact pe_glob hg h ⟨_, rfl⟩ hdb
/-- defs that are never reached here -/
theorem Df.never {x : Str} {st : Stmt} {ps : List Str} (F : Df K mg x st ps) : Cl P w K mg base 0 x (fun _ _ _ _ => False) := by
  obtain ⟨f, fd, F, g, b⟩ := F.ex
  exact ⟨f, fd, _, ⟨fun vs H Q E h => h.elim, fun A outer s H args us vs Q E _ _ _ _ h => h.elim⟩, g, F.kp, b⟩
theorem ok_items_of (T : Tx K mg) : Cl P w K mg base 0 "items_of" (fun _ _ _ _ => False) := T.d_items_of.never
theorem ok_item_of (T : Tx K mg) : Cl P w K mg base 0 "item_of" (fun _ _ _ _ => False) := T.d_item_of.never
theorem ok_written (T : Tx K mg) : ClX P w K mg base 7 "written" (spOneX K) := by
  refine T.d_written.clX sc_written (fun vs H Q E h => ?_) (fun f cdv A outer s H vs Q E hr h => ?_)
  · obtain ⟨n, v, rfl, _⟩ := h
    rfl
  obtain ⟨n, v, rfl, R, kd, hD, hb, thr⟩ := h
  refine ⟨_, (pss_cons (ps_expr (pe_kX (E := E) (ok_need_size T) hr (L2N.takes_of rfl rfl rfl rfl) (pa_cons (pv 0) pa_nil)))
      (pss_cons (ps_expr (pe_kX (E := E) (ok_need_set T) hr (L2N.takes_of rfl rfl rfl rfl) (pa_cons (pv 0) (pa_cons (pv 1) (pa_cons pe_int pa_nil)))))
      (pss_cons (ps_set (i := 2) sc_written.nd rfl (by first | exact Or.inl rfl | exact Or.inr rfl) (pe_join pe_str (pe_k (ok_items_of T) hr (pa_cons (pe_k (ok_told T) hr (pa_cons (pe_k (ok_all_in T) hr (pa_cons (pv 0) (pa_cons (pv 1) pa_nil))) pa_nil)) pa_nil))))
      (pss_cons (ps_set (i := 3) sc_written.nd rfl (by first | exact Or.inl rfl | exact Or.inr rfl) (pe_op op_add_str (pe_gS (by rfl) T.c_NOT) (pe_join pe_str (pe_k (ok_items_of T) hr (pa_cons (pe_kX (E := E) (ok_others T) hr (L2N.takes_of rfl rfl rfl rfl) (pa_cons (pv 0) (pa_cons (pv 1) pa_nil))) pa_nil)))))
      (pss_one (ps_ret (pe_ifExp (pt_cmpR (leDK K (hu65 hr)) (pe_tup (pa_cons (pe_callB call_len_str (by rfl) T.z_len (by decide +kernel) (pa_cons (pv 2) pa_nil)) (pa_cons (pv 2) pa_nil))) (pe_tup (pa_cons (pe_callB call_len_str (by rfl) T.z_len (by decide +kernel) (pa_cons (pv 3) pa_nil)) (pa_cons (pv 3) pa_nil))) (nomark _)) (pv 2) (pv 3)))))))), ?_⟩
  rcases hb with ⟨ns, rfl⟩ | ⟨hs, i, hbad, rfl⟩
  · exact ⟨_, rfl, n, rfl, .inr ⟨ns, thr⟩⟩
  · exact ⟨_, rfl, n, rfl, .inl ⟨hs, _, rfl, _, rfl, n, v, R, 0, rfl, hD, .inr ⟨i, hbad, thr⟩⟩⟩
def spReadX (K : PySem.W.Frag) : Sp := fun vs H _ E => ∃ (n : Int) (z : Str), vs = [.int n, .str z] ∧ ¬ SizeOk n ∧ Thr K .size H E
theorem ok_read (T : Tx K mg) : ClX P w K mg base 7 "read" (spReadX K) := by
  refine T.d_read.clX sc_read (fun vs H Q E h => ?_) (fun f cdv A outer s H vs Q E hr h => ?_)
  · obtain ⟨n, z, rfl, _⟩ := h
    rfl
  obtain ⟨n, z, rfl, ns, thr⟩ := h
  exact ⟨_, (pss_cons (ps_expr (pe_kX (E := E) (ok_need_size T) hr (L2N.takes_of rfl rfl rfl rfl) (pa_cons (pv 0) pa_nil)))
      (pss_cons (ps_set (i := 2) sc_read.nd rfl (by first | exact Or.inl rfl | exact Or.inr rfl) (pe_ifExp (pt_cmpR op_eq (pe_slice sl_str (pv 1) po_none (po_some pe_int)) (pe_gS (by rfl) T.c_NOT) (nomark _)) (pe_slice sl_str (pv 1) (po_some pe_int) po_none) (pv 1)))
      (pss_cons (ps_set (i := 3) sc_read.nd rfl (by first | exact Or.inl rfl | exact Or.inr rfl) (pe_lst pa_nil))
      (pss_cons (ps_for (passes_of rfl) rfl (piEnum K (by rfl) T.z_enumerate (pa_cons (pe_ifExp (pt_cmpR op_ne (pv 2) pe_str (nomark _)) (pe_split (pv 2) pe_str) (pe_lst pa_nil)) pa_nil)) (pgT K (by rfl) (pgs_cons (pg_name (i := 4) sc_read.nd rfl (by first | exact Or.inl rfl | exact Or.inr rfl)) (pgs_cons (pg_name (i := 5) sc_read.nd rfl (by first | exact Or.inl rfl | exact Or.inr rfl)) pgs_nil)))
      (pss_cons (ps_set (i := 6) sc_read.nd rfl (by first | exact Or.inl rfl | exact Or.inr rfl) (pe_k (ok_item_of T) hr (pa_cons (pv 5) (pa_cons (pv 0) pa_nil))))
      (pss_cons (ps_if (PW.pt (pw_or (pt_cmpR op_isN (pv 6) pe_non (nomark _)) (pw_or1 (PW.pt (pw_and (pt_cmpR (neD K hr.units) (pv 3) (pe_lst pa_nil) (nomark _)) (pw_and1 (pt_cmpR op_le (pe_ix (ixT K) (pv 6) pe_int (fun _ _ => rfl)) (pe_ix (ixT K) (pe_ix (ixL K) (pv 3) (pe_un un_neg pe_int) (fun _ _ => rfl)) pe_int (fun _ _ => rfl)) (nomark _)))))))) (pss_one ps_never) pss_nil)
      (pss_one (ps_expr (pe_bm PySem.F.plainAttrs_list PySem.F.slot_list_append PySem.F.type_list_append mt_append (pv 3) (pa_cons (pv 6) pa_nil)))))))
      (pss_cons (ps_if (pt_cmpR op_eq (pe_slice sl_str (pv 1) po_none (po_some pe_int)) (pe_gS (by rfl) T.c_NOT) (nomark _)) (pss_one (ps_ret (pe_kX (E := E) (ok_others T) hr (L2N.takes_of rfl rfl rfl rfl) (pa_cons (pv 0) (pa_cons (pv 3) pa_nil))))) pss_nil)
      (pss_one (ps_ret (pe_k (ok_told T) hr (pa_cons (pe_k (ok_all_in T) hr (pa_cons (pv 0) (pa_cons (pv 3) pa_nil))) pa_nil))))))))), ⟨_, rfl, n, rfl, .inr ⟨ns, thr⟩⟩⟩
end
section
variable {P : Program} {w : World} {K : PySem.W.Frag} {mg : Str → Option Value} {base : Heap}
def spDice (K : PySem.W.Frag) : Sp := fun vs H Q _ => ∃ (a : Addr) (ns : List Int) (k : Int), vs = [.ref a, .int k] ∧ SqL K H a (ns.map V.int) ∧ ns.length ≤ 63 ∧ 0 ≤ k ∧ ∀ H' p D, Same H H' → H p = none → H' p = some (.lst (D.map V.int)) → DiceOk D → Q (.ref p) H'
theorem ok__law_dice (T : Tx K mg) : Cl P w K mg base 1 "_law_dice" (spDice K) := by
  refine T.d__law_dice.cl sc__law_dice (fun vs H Q E h => ?_) (fun f cdv A outer s H vs Q E hr h => ?_)
  · obtain ⟨a, ns, k, rfl, _⟩ := h
    rfl
  obtain ⟨a, ns, k, rfl, hS, h63, h0, q⟩ := h
  refine ⟨_, (pss_cons (ps_set (i := 2) sc__law_dice.nd rfl (by first | exact Or.inl rfl | exact Or.inr rfl) (pv 1))
      (pss_cons (ps_for PassesOwn.never rfl (piL K (pv 0)) (pg_name (i := 3) sc__law_dice.nd rfl (by first | exact Or.inl rfl | exact Or.inr rfl))
      (pss_one (ps_set (i := 2) sc__law_dice.nd rfl (by first | exact Or.inl rfl | exact Or.inr rfl) (pe_op op_mod (pe_op op_add (pe_op op_mul (pv 2) pe_int) (pe_callB call_abs (by rfl) T.z_abs (by decide +kernel) (pa_cons (pv 3) pa_nil))) pe_int))))
      (pss_one (ps_ret (pe_op op_cat (pe_lst (pa_cons (pv 2) (pa_cons pe_int pa_nil))) (pe_lc (own := [("_law_cell", 3)]) (g := (gName 3)) (tt := _) (by rfl) sc__law_dice.nd (piL K (pv 0)) (blkOk_by (own := [("_law_cell", 3)]) (N := n__law_dice) (sc := defScope s__law_dice) (by decide +kernel)) (fun _ _ _ _ _ => (pg_name (i := 3) sc__law_dice.nd rfl (by first | exact Or.inl rfl | exact Or.inr rfl))) (fun _ _ _ _ _ => (pts_one (pt_cmpR op_ge (pv 3) (pe_op op_pow pe_int pe_int) (nomark _)))) (fun _ _ _ _ _ => (pv 3)))))))), ?_⟩
  refine ⟨_, rfl, _, rfl, a, rfl, ⟨_, hS⟩, for_list (xs := ns.map V.int) (fun i σ H1 => ∃ f y3, σ = [some (.ref a), some (.int k), some (.int f), y3] ∧ 0 ≤ f ∧ H1 = H) ⟨k, none, rfl, h0, rfl⟩ (fun i σ H1 _ p => ?_) (fun i x σ H1 hx p => ?_) (fun σ H1 p => ?_)⟩
  · obtain ⟨_, _, _, _, rfl⟩ := p
    exact hS
  · obtain ⟨g, y3, rfl, hg, rfl⟩ := p
    obtain ⟨c, hc, rfl⟩ := map_get hx
    refine ⟨_, rfl, _, _, rfl, rfl, .inr ⟨by decide, by decide⟩, _, rfl, _, rfl, _, _, rfl, rfl, _, _, rfl, rfl, (by show (0 : Int) < 2147483647; decide), ?_⟩
    exact ⟨_, _, rfl, Int.emod_nonneg _ (by decide), rfl⟩
  · obtain ⟨g, y3, rfl, hg, rfl⟩ := p
    refine ⟨_, rfl, by show 2 ≤ sizeLine; decide, fun p np => ?_⟩
    have s1 : Same H1 (upd H1 p (.lst [.int g, .int 0])) := same_new np
    refine ⟨_, rfl, a, rfl, ⟨_, s1.seq hS⟩, fun D hD => lcN_list (fun i => (ns[i]?).bind fun k => if decide ((10 : Int) ^ (18 : Int).toNat ≤ k) = true then some (.int k) else none) (s1.seq hS) hD (by rw [List.length_map]; omega) (fun i x H3 N1 N0 hx s3 k1 k0 => ?_) (fun H3 s3 lb => ?_)⟩
    · obtain ⟨c, hc, rfl⟩ := map_get hx
      refine ⟨rfl, _, rfl, _, _, rfl, rfl, ⟨by decide, by decide, by decide⟩, _, _, rfl, rfl, _, rfl, ite2 (fun e => ?_) (fun e => ?_)⟩
      · exact ⟨_, rfl, k1 _ H3 _ (Same.refl _) (by rw [hc, Option.bind_some, if_pos e]) (.int _)⟩
      · exact k0 H3 (Same.refl _) (by rw [hc, Option.bind_some, if_neg e])
    · rw [List.length_map, list_ints (p := fun k => decide ((10 : Int) ^ (18 : Int).toNat ≤ k))] at lb
      have hl := List.length_filter_le (fun k => decide ((10 : Int) ^ (18 : Int).toNat ≤ k)) ns
      refine ⟨p, D, _, _, rfl, rfl, s3 _ _ upd_same, lb.ints, ?_, fun r nr => ?_⟩
      · rw [List.length_map]
        exact Nat.le_of_lt (sizeOk (by simp only [List.length_cons, List.length_nil]; omega))
      · refine q _ r (g :: 0 :: ns.filter fun k => decide ((10 : Int) ^ (18 : Int).toNat ≤ k)) (s1.trans (s3.trans (same_new nr))) (s1.free (s3.free nr)) upd_same ⟨by simp, by rw [List.length_cons, List.length_cons]; omega, fun x hx => ?_⟩
        rcases List.mem_cons.mp hx with e | hx
        · rw [e]
          exact hg
        · rcases List.mem_cons.mp hx with e | hx
          · rw [e]
            exact Int.le_refl _
          · have := of_decide_eq_true (List.mem_filter.mp hx).2
            exact Int.le_trans (by decide) this
def spOff : Sp := fun vs H Q _ => ∃ (d : Addr) (m : Int) (D : List Int), vs = [.ref d, .int m] ∧ 0 < m ∧ m < 1073741824 ∧ H d = some (.lst (D.map V.int)) ∧ DiceOk D ∧ ∀ r D', 0 ≤ r → r < m → DiceOk D' → Q (.int r) (upd H d (.lst (D'.map V.int)))
theorem ok__law_off (T : Tx K mg) : Cl P w K mg base 1 "_law_off" spOff := by
  refine T.d__law_off.cl sc__law_off (fun vs H Q E h => ?_) (fun f cdv A outer s H vs Q E hr h => ?_)
  · obtain ⟨d, m, D, rfl, _⟩ := h
    rfl
  obtain ⟨d, m, D, rfl, hm, hm2, hH, hk, q⟩ := h
  refine ⟨_, (pss_cons (ps_if (PW.pt (pw_and (pt_cmpR op_eq (pe_ix (ixL K) (pv 0) pe_int (fun _ _ => rfl)) pe_int (nomark _)) (pw_and1 (pt_cmpR op_gt (pe_callB (lenQ K) (by rfl) T.z_len (by decide +kernel) (pa_cons (pv 0) pa_nil)) pe_int (nomark _))))) (pss_one (ps_asg (pe_bm PySem.F.plainAttrs_list PySem.F.slot_list_pop PySem.F.type_list_pop mt_popAt (pv 0) (pa_cons pe_int pa_nil)) (pg_sub (pv 0) pe_int set_list))) pss_nil)
      (pss_cons (ps_if (pt_cmpR op_gt (pe_ix (ixL K) (pv 0) pe_int (fun _ _ => rfl)) pe_int (nomark _)) (pss_cons (ps_set (i := 2) sc__law_off.nd rfl (by first | exact Or.inl rfl | exact Or.inr rfl) (pe_op op_mod (pe_ix (ixL K) (pv 0) pe_int (fun _ _ => rfl)) (pv 1)))
      (pss_cons (ps_asg (pe_op op_fdiv (pe_ix (ixL K) (pv 0) pe_int (fun _ _ => rfl)) (pv 1)) (pg_sub (pv 0) pe_int set_list))
      (pss_one (ps_ret (pv 2))))) pss_nil)
      (pss_cons (ps_asg (pe_op op_mod (pe_op op_add (pe_op op_mul (pe_ix (ixL K) (pv 0) pe_int (fun _ _ => rfl)) pe_int) pe_int) pe_int) (pg_sub (pv 0) pe_int set_list))
      (pss_one (ps_ret (pe_op op_mod (pe_op op_fdiv (pe_ix (ixL K) (pv 0) pe_int (fun _ _ => rfl)) pe_int) (pv 1))))))), ?_⟩
  refine seq_join (fun σ' H' => ∃ x0 x1 r, σ' = [some (.ref d), some (.int m), none] ∧ H' d = some (.lst ((x0 :: x1 :: r : List Int).map V.int)) ∧ DiceOk (x0 :: x1 :: r) ∧ ∀ o, upd H' d o = upd H d o) (fun σ' H' hJ => ?_) (fun N hN => ?_)
  · obtain ⟨x0, x1, r, rfl, h1, ⟨k1, k2, k3⟩, hu⟩ := hJ
    have n0 : 0 ≤ x0 := k3 x0 (by simp)
    have n1 : 0 ≤ x1 := k3 x1 (by simp)
    have ix0 : atI ((x0 :: x1 :: r : List Int).map V.int) 0 = some (.int x0) := atI_nat (j := 0) rfl
    have ix1 : atI ((x0 :: x1 :: r : List Int).map V.int) 1 = some (.int x1) := atI_nat (j := 1) rfl
    have jx0 : ixN ((x0 :: x1 :: r : List Int).map V.int).length 0 = some 0 := ixN_at (j := 0) (by simp)
    have jx1 : ixN ((x0 :: x1 :: r : List Int).map V.int).length 1 = some 1 := ixN_at (j := 1) (by simp)
    refine ⟨_, rfl, d, _, 1, _, rfl, rfl, SqL.of h1, ix1, _, _, rfl, rfl, _, rfl, ite2 (fun c => ?_) (fun c => ?_)⟩
    · refine ⟨_, rfl, d, _, 1, _, rfl, rfl, SqL.of h1, ix1, _, rfl, _, _, rfl, rfl, hm, ?_⟩
      refine ⟨_, rfl, d, _, 1, _, rfl, rfl, SqL.of h1, ix1, _, rfl, _, _, rfl, rfl, ⟨hm, hm2⟩, _, rfl, d, _, 1, 1, rfl, rfl, h1, jx1, ?_⟩
      refine ⟨_, rfl, ?_⟩
      rw [hu]
      refine q (x1 % m) (x0 :: (x1 / m) :: r) (Int.emod_nonneg _ (by omega)) (Int.emod_lt_of_pos _ hm) ⟨by simp, by simpa using k2, fun x hx => ?_⟩
      rcases List.mem_cons.mp hx with e | hx
      · rw [e]
        exact n0
      · rcases List.mem_cons.mp hx with e | hx
        · rw [e]
          exact Int.ediv_nonneg n1 (by omega)
        · exact k3 x (by simp [hx])
    · refine ⟨_, rfl, d, _, 0, _, rfl, rfl, SqL.of h1, ix0, _, _, rfl, rfl, .inr ⟨by decide, by decide⟩, _, _, rfl, rfl, _, _, rfl, rfl, (by show (0 : Int) < 2147483647; decide), _, rfl, d, _, 0, 0, rfl, rfl, h1, jx0, ?_⟩
      refine ⟨_, rfl, d, (((x0 * 48271 + 11) % 2147483647 :: x1 :: r : List Int).map V.int), 0, _, rfl, rfl, SqL.of upd_same, atI_nat (j := 0) rfl, _, _, rfl, rfl, ⟨by decide, by decide⟩, _, rfl, _, _, rfl, rfl, hm, ?_⟩
      rw [hu]
      refine q _ ((x0 * 48271 + 11) % 2147483647 :: x1 :: r) (Int.emod_nonneg _ (by omega)) (Int.emod_lt_of_pos _ hm) ⟨by simp, by simpa using k2, fun x hx => ?_⟩
      rcases List.mem_cons.mp hx with e | hx
      · rw [e]
        exact Int.emod_nonneg _ (by decide)
      · exact k3 x (List.mem_cons_of_mem _ hx)
  · obtain ⟨k1, k2, k3⟩ := hk
    match D, hH, k1, k2, k3 with
    | x0 :: x1 :: r, hH, k1, k2, k3 =>
      have ix1 : atI ((x0 :: x1 :: r : List Int).map V.int) 1 = some (.int x1) := atI_nat (j := 1) rfl
      refine ⟨_, rfl, d, _, 1, _, rfl, rfl, SqL.of hH, ix1, rfl, _, rfl, ite2 (fun c => ?_) (fun c => ?_)⟩
      · refine ⟨_, rfl, d, _, rfl, .inl (SqL.of hH), _, _, rfl, rfl, _, rfl, ite2 (fun e => ?_) (fun e => ?_)⟩
        · have e1 : (2 : Int) < (((x0 :: x1 :: r : List Int).map V.int).length : Nat) := of_decide_eq_true e
          match r, hH, k1, k2, k3, e1 with
          | [], _, _, _, _, e1 => exact absurd e1 (by simp)
          | x2 :: r, hH, k1, k2, k3, e1 =>
            have jx2 : ixN ((x0 :: x1 :: x2 :: r : List Int).map V.int).length 2 = some 2 := ixN_at (j := 2) (by simp)
            refine ⟨_, rfl, .inl ⟨rfl, _, SqL.of hH⟩, d, _, 2, 2, .int x2, rfl, rfl, hH, by decide, by decide, (ixN_seq jx2).1, rfl, _, rfl, d, ((x0 :: x1 :: r : List Int).map V.int), 1, 1, rfl, rfl, upd_same, ixN_at (j := 1) (by simp), ?_⟩
            refine hN _ _ ⟨x0, x2, r, rfl, upd_same, ⟨by simp, by simp at k2 ⊢; omega, fun x hx => k3 x ?_⟩, fun o => by rw [upd_upd, upd_upd]⟩
            rcases List.mem_cons.mp hx with e | hx
            · simp [e]
            · rcases List.mem_cons.mp hx with e | hx
              · simp [e]
              · simp [hx]
        · exact hN _ _ ⟨x0, x1, r, rfl, hH, ⟨k1, k2, k3⟩, fun o => rfl⟩
      · exact iteF (hN _ _ ⟨x0, x1, r, rfl, hH, ⟨k1, k2, k3⟩, fun o => rfl⟩)
def spSize : Sp := fun vs H Q _ => ∃ (d : Addr) (D : List Int), vs = [.ref d] ∧ H d = some (.lst (D.map V.int)) ∧ DiceOk D ∧ ∀ (n : Nat) H' D', 1 ≤ n → n ≤ 64 → SameBut d H H' → H' d = some (.lst (D'.map V.int)) → DiceOk D' → Q (.int n) H'
theorem ok__law_size (T : Tx K mg) : Cl P w K mg base 2 "_law_size" spSize := by
  refine T.d__law_size.cl sc__law_size (fun vs H Q E h => ?_) (fun f cdv A outer s H vs Q E hr h => ?_)
  · obtain ⟨d, D, rfl, _⟩ := h
    rfl
  obtain ⟨d, D, rfl, hH, hk, q⟩ := h
  refine ⟨_, (pss_one (ps_ret (pe_ix (ixL K) (pe_lst (pa_cons pe_int (pa_cons pe_int (pa_cons pe_int (pa_cons (pe_op op_add pe_int (pe_k (ok__law_off T) hr (pa_cons (pv 0) (pa_cons pe_int pa_nil)))) pa_nil))))) (pe_k (ok__law_off T) hr (pa_cons (pv 0) (pa_cons pe_int pa_nil))) (fun _ _ => rfl)))), ?_⟩
  refine ⟨_, rfl, d, 64, D, rfl, by decide, by decide, hH, hk, fun r D1 r0 r1 k1 => ⟨_, _, rfl, rfl, by show 4 ≤ sizeLine; decide, fun p np => ?_⟩⟩
  have npd : d ≠ p := ne_of_none upd_same np
  refine ⟨_, rfl, d, 4, D1, rfl, by decide, by decide, by rw [upd_ne npd]; exact upd_same, k1, fun r2 D2 r20 r21 k2 => ?_⟩
  have hp : upd (upd (upd H d (.lst (D1.map V.int))) p (.lst [.int 8, .int 20, .int 64, .int (1 + r)])) d (.lst (D2.map V.int)) p = some (.lst [.int 8, .int 20, .int 64, .int (1 + r)]) := by
    rw [upd_ne npd.symm]
    exact upd_same
  have sb : SameBut d H (upd (upd (upd H d (.lst (D1.map V.int))) p (.lst [.int 8, .int 20, .int 64, .int (1 + r)])) d (.lst (D2.map V.int))) := (SameBut.upd.trans (SameBut.of (same_new np))).trans SameBut.upd
  have fin : ∀ n : Nat, 1 ≤ n → n ≤ 64 → Q (.int n) (upd (upd (upd H d (.lst (D1.map V.int))) p (.lst [.int 8, .int 20, .int 64, .int (1 + r)])) d (.lst (D2.map V.int))) := fun n a b => q n _ D2 a b sb upd_same k2
  have c : r2 = 0 ∨ r2 = 1 ∨ r2 = 2 ∨ r2 = 3 := by omega
  rcases c with rfl | rfl | rfl | rfl
  · exact ⟨p, _, 0, .int 8, rfl, rfl, SqL.of hp, rfl, fin 8 (by decide) (by decide)⟩
  · exact ⟨p, _, 1, .int 20, rfl, rfl, SqL.of hp, rfl, fin 20 (by decide) (by decide)⟩
  · exact ⟨p, _, 2, .int 64, rfl, rfl, SqL.of hp, rfl, fin 64 (by decide) (by decide)⟩
  · have e : (1 : Int) + r = ((1 + r).toNat : Nat) := by omega
    refine ⟨p, _, 3, .int (1 + r), rfl, rfl, SqL.of hp, rfl, ?_⟩
    have g := fin (1 + r).toNat (by omega) (by omega)
    rw [← e] at g
    exact g
def spSet : Sp := fun vs H Q _ => ∃ (d : Addr) (D : List Int) (n m : Nat), vs = [.ref d, .int n, .int m] ∧ 1 ≤ n ∧ n ≤ 64 ∧ m ≤ 40 ∧ H d = some (.lst (D.map V.int)) ∧ DiceOk D ∧
  ∀ H' D' v R, SameBut d H H' → H' d = some (.lst (D'.map V.int)) → DiceOk D' → NewV H H' v (eR R) → Ok n R → R.length ≤ m → Q v H'
theorem ok__law_set (T : Tx K mg) : Cl P w K mg base 2 "_law_set" spSet := by
  refine T.d__law_set.cl sc__law_set (fun vs H Q E h => ?_) (fun f cdv A outer s H vs Q E hr h => ?_)
  · obtain ⟨d, D, n, m, rfl, _⟩ := h
    rfl
  obtain ⟨d, D, n, m, rfl, hn1, hn, hm, hH, hk, q⟩ := h
  refine ⟨_, (pss_cons (ps_set (i := 3) sc__law_set.nd rfl (by first | exact Or.inl rfl | exact Or.inr rfl) (pe_ix (ixL K) (pe_lst (pa_cons pe_int (pa_cons pe_int (pa_cons (pv 1) pa_nil)))) (pe_k (ok__law_off T) hr (pa_cons (pv 0) (pa_cons pe_int pa_nil))) (fun _ _ => rfl)))
      (pss_cons (ps_set (i := 4) sc__law_set.nd rfl (by first | exact Or.inl rfl | exact Or.inr rfl) (pe_lst pa_nil))
      (pss_cons (ps_for PassesOwn.never rfl (pi_range1 (by rfl) T.z_range (pa_cons (pe_k (ok__law_off T) hr (pa_cons (pv 0) (pa_cons (pe_op op_add (pv 2) pe_int) pa_nil))) pa_nil)) (pg_name (i := 5) sc__law_set.nd rfl (by first | exact Or.inl rfl | exact Or.inr rfl))
      (pss_cons (ps_set (i := 6) sc__law_set.nd rfl (by first | exact Or.inl rfl | exact Or.inr rfl) (pe_k (ok__law_off T) hr (pa_cons (pv 0) (pa_cons (pv 1) pa_nil))))
      (pss_one (ps_expr (pe_bm PySem.F.plainAttrs_list PySem.F.slot_list_append PySem.F.type_list_append mt_append (pv 4) (pa_cons (pe_tup (pa_cons (pv 6) (pa_cons (pe_callB (call_min2 rfl) (by rfl) T.z_min (by decide +kernel) (pa_cons (pe_op op_sub (pv 1) pe_int) (pa_cons (pe_op op_add (pv 6) (pe_k (ok__law_off T) hr (pa_cons (pv 0) (pa_cons (pv 3) pa_nil)))) pa_nil))) pa_nil))) pa_nil))))))
      (pss_one (ps_ret (pv 4)))))), ?_⟩
  -- the widths
  refine ⟨_, rfl, by show 3 ≤ sizeLine; decide, fun p np => ?_⟩
  have npd : d ≠ p := ne_of_none hH np
  refine ⟨_, rfl, d, 3, D, rfl, by decide, by decide, by rw [upd_ne npd]; exact hH, hk, fun r D1 r0 r1 k1 => ?_⟩
  have hp : upd (upd H p (.lst [.int 1, .int 3, .int n])) d (.lst (D1.map V.int)) p = some (.lst [.int 1, .int 3, .int n]) := by
    rw [upd_ne npd.symm]
    exact upd_same
  obtain ⟨wd, hw, w1, w2⟩ : ∃ wd : Int, atI [V.int 1, .int 3, .int n] r = some (.int wd) ∧ 0 < wd ∧ wd ≤ 64 := by
    have c : r = 0 ∨ r = 1 ∨ r = 2 := by omega
    rcases c with rfl | rfl | rfl
    · exact ⟨1, rfl, by decide, by decide⟩
    · exact ⟨3, rfl, by decide, by decide⟩
    · exact ⟨n, rfl, by omega, by omega⟩
  refine ⟨p, _, r, _, rfl, rfl, SqL.of hp, hw, ?_⟩
  have sb1 : SameBut d H (upd (upd H p (.lst [.int 1, .int 3, .int n])) d (.lst (D1.map V.int))) := (SameBut.of (same_new np)).trans SameBut.upd
  generalize hH1 : upd (upd H p (.lst [.int 1, .int 3, .int n])) d (.lst (D1.map V.int)) = H1 at sb1
  have hd1 : H1 d = some (.lst (D1.map V.int)) := by rw [← hH1]; exact upd_same
  -- found = []
  refine ⟨Nat.zero_le _, fun o no => ?_⟩
  have ndo : d ≠ o := ne_of_none hd1 no
  have no' : H o = none := by
    cases e : H o with
    | none => rfl
    | some u =>
      have := sb1 o u ndo.symm e
      rw [no] at this
      cases this
  -- the turns
  refine ⟨_, rfl, _, rfl, _, _, rfl, rfl, d, (m : Int) + 1, D1, rfl, by omega, by omega, by rw [upd_ne ndo]; exact hd1, k1, fun t D2 t0 t1 k2 => ?_⟩
  refine ⟨t, rfl, by omega, by omega, for_range (lo := 0) (n := t.toNat) (fun i σ H2 => ∃ (y5 y6 : Option V) (D3 : List Int) (R : List (Int × Int)), σ = [some (.ref d), some (.int n), some (.int m), some (.int wd), some (.ref o), y5, y6] ∧ SameBut d H H2 ∧ H2 d = some (.lst (D3.map V.int)) ∧ DiceOk D3 ∧ LB (del H d) (del H2 d) o (R.map eP) ∧ R.length = i ∧ (∀ r ∈ R, 0 ≤ r.1 ∧ r.1 ≤ r.2 ∧ r.2 < (n : Int))) ?_ (fun i σ H2 hi p => ?_) (fun σ H2 p => ?_)⟩
  · refine ⟨none, none, D2, [], rfl, (sb1.trans (SameBut.of (same_new no))).trans SameBut.upd, upd_same, k2, ⟨?_, [], ?_, .nil⟩, rfl, fun r hr => by simp at hr⟩
    · rw [del_ne ndo.symm]
      exact no'
    · rw [del_ne ndo.symm, upd_ne ndo.symm]
      exact upd_same
  · obtain ⟨y5, y6, D3, R, rfl, sb, hd, k3, lb, hRl, hR⟩ := p
    -- first
    refine ⟨_, rfl, _, rfl, d, (n : Int), D3, rfl, by omega, by omega, hd, k3, fun fi D4 f0 f1 k4 => ?_⟩
    have tyo : ∀ H3 : Hp, (∀ b o', b ≠ d → H2 b = some o' → H3 b = some o') → ∃ xs, H3 o = some (.lst xs) ∧ xs.length = R.length := fun H3 e => by
      obtain ⟨xs, h1, h2⟩ := lb.at
      rw [List.length_map] at h2
      rw [del_ne ndo.symm] at h1
      exact ⟨xs, e _ _ ndo.symm h1, h2⟩
    obtain ⟨xs4, ho4, hx4⟩ := tyo (upd H2 d (.lst (D4.map V.int))) fun b u nb e => by
      rw [upd_ne nb]
      exact e
    refine ⟨_, rfl, .inl ⟨rfl, _, SqL.of ho4⟩, _, rfl, _, rfl, _, _, rfl, rfl, _, rfl, _, rfl, _, rfl, d, wd, D4, rfl, w1, by omega, upd_same, k4, fun wi D5 u0 u1 k5 => ?_⟩
    refine ⟨_, _, rfl, rfl, _, _, rfl, by show 2 ≤ sizeLine; decide, fun tp ntp => ?_⟩
    rw [upd_upd] at ntp ⊢
    have ntd : d ≠ tp := ne_of_none upd_same ntp
    -- the new pair: (fi, la)
    generalize hla : (if fi + wi < (n : Int) - 1 then fi + wi else (n : Int) - 1) = la
    have l1 : fi ≤ la := by rw [← hla]; split <;> omega
    have l2 : la < n := by rw [← hla]; split <;> omega
    have sX : Same (del H2 d) (del (upd (upd H2 d (.lst (D5.map V.int))) tp (.tup [.int fi, .int la])) d) := fun b u e => by
      by_cases c : b = d
      · subst c
        rw [del_self] at e
        cases e
      · rw [del_ne c] at e ⊢
        have ct : b ≠ tp := fun z => by
          subst z
          rw [upd_ne c, e] at ntp
          cases ntp
        rw [upd_ne ct, upd_ne c]
        exact e
    have nvX : NewV (del H2 d) (del (upd (upd H2 d (.lst (D5.map V.int))) tp (.tup [.int fi, .int la])) d) (.ref tp) (eP (fi, la)) := by
      refine .tup (xs := [.int fi, .int la]) ?_ (.cons (.int _) (.cons (.int _) .nil))
      rw [fr_new (by rw [del_ne ntd.symm]; rw [upd_ne ntd.symm] at ntp; exact ntp), del_ne ntd.symm]
      exact upd_same
    have s0 : Same (del H d) (del H2 d) := fun b u e => by
      by_cases c : b = d
      · subst c
        rw [del_self] at e
        cases e
      · rw [del_ne c] at e ⊢
        exact sb b u c e
    obtain ⟨ys, z1, z2, z3⟩ := lb.snoc s0 sX nvX
    rw [del_ne ndo.symm] at z1
    refine ⟨o, ys, _, rfl, rfl, z1, sizeOk (by rw [z2, List.length_map]; omega), ?_⟩
    have nto : tp ≠ o := fun z => by
      subst z
      rw [upd_ne ntd.symm] at ntp
      obtain ⟨xs, h1, _⟩ := lb.at
      rw [del_ne ntd.symm, ntp] at h1
      cases h1
    refine ⟨_, _, D5, R ++ [(fi, la)], rfl, fun b u nb e => ?_, ?_, k5, ?_, by simp [hRl], fun r hr => ?_⟩
    · have nbo : b ≠ o := ne_of_none e no'
      have e2 := sb b u nb e
      have nbt : b ≠ tp := fun z => by
        subst z
        rw [upd_ne nb, e2] at ntp
        cases ntp
      rw [upd_ne nbo, upd_ne nbt, upd_ne nb]
      exact e2
    · rw [upd_ne ndo, upd_ne ntd]
      exact upd_same
    · rw [List.map_append]
      have e : del (upd (upd (upd H2 d (.lst (D5.map V.int))) tp (.tup [.int fi, .int la])) o (.lst (ys ++ [.ref tp]))) d = upd (del (upd (upd H2 d (.lst (D5.map V.int))) tp (.tup [.int fi, .int la])) d) o (.lst (ys ++ [.ref tp])) := by
        funext b
        by_cases c : b = d
        · subst c
          rw [del_self, upd_ne ndo, del_self]
        · rw [del_ne c]
          by_cases c2 : b = o
          · subst c2
            rw [upd_same, upd_same]
          · rw [upd_ne c2, upd_ne c2, del_ne c]
      rw [e]
      exact z3
    · rcases List.mem_append.mp hr with h | h
      · exact hR r h
      · obtain rfl := List.mem_singleton.mp h
        exact ⟨f0, l1, l2⟩
  · obtain ⟨y5, y6, D3, R, rfl, sb, hd, k3, lb, hRl, hR⟩ := p
    refine ⟨_, rfl, q H2 D3 _ R sb hd k3 ?_ ⟨by omega, hR⟩ (by omega)⟩
    have nv := lb.newV
    refine Dn.mono (fun b u e => ?_) nv
    obtain ⟨e1, e2⟩ := fr_some e
    by_cases c : b = d
    · subst c
      rw [del_self] at e2
      cases e2
    · rw [del_ne c] at e1 e2
      rw [fr_new e1]
      exact e2
end
section
variable {P : Program} {w : World} {K : PySem.W.Frag} {mg : Str → Option Value} {base : Heap}
/-- the same data twice, of fewer than n storeys: it is told True -/
def spAlike (K : PySem.W.Frag) : Nat → Sp
  | 0 => fun _ _ _ _ => False
  | n + 1 => fun vs H Q _ => ∃ (v u : V) (d : PyData), vs = [v, u] ∧ Dp K H v d ∧ Dp K H u d ∧ Al n d ∧ ∀ H', Same H H' → Q (.bl true) H'
theorem ok_alike_n (T : Tx K mg) : ∀ (n : Nat) (base : Heap), ClH P w K mg base n "_law_alike" (spAlike K n)
  | 0, base => by
    obtain ⟨f, fd, F, g, b⟩ := T.d__law_alike.ex
    exact ⟨f, fd, _, ⟨fun vs H Q E h => h.elim, fun A outer s H args us vs Q E p _ _ _ _ _ _ h => h.elim⟩, g, F.kp, b⟩
  | n + 1, base => by
    have ih := fun b => ok_alike_n T n b
    refine T.d__law_alike.clH sc__law_alike (fun vs H Q E h => ?_) (fun f cdv A outer s H vs Q E p hot hr h => ?_)
    · obtain ⟨v, u, d, rfl, _⟩ := h
      rfl
    obtain ⟨v, u, d, rfl, hv, hu, al, q⟩ := h
    refine ⟨_, (pss_cons (ps_if (pt_cmpR op_isN (pv 1) pe_non (nomark _)) (pss_one (ps_ret (pe_cmpR op_isN (pv 0) pe_non (nomark _)))) pss_nil)
      (pss_cons (ps_if (pt_val (pe_callB (isD K) (by rfl) T.z_isinstance (by decide +kernel) (pa_cons (pv 1) (pa_cons (pe_bltn (v := .ty "bool") (by rfl) T.z_bool (by decide +kernel) rfl) pa_nil)))) (pss_one (ps_ret (pe_and (pe_callB (isD K) (by rfl) T.z_isinstance (by decide +kernel) (pa_cons (pv 0) (pa_cons (pe_bltn (v := .ty "bool") (by rfl) T.z_bool (by decide +kernel) rfl) pa_nil))) (pe_one (pe_cmpR op_eq (pv 0) (pv 1) (nomark _)))))) pss_nil)
      (pss_cons (ps_if (pt_val (pe_callB (isD K) (by rfl) T.z_isinstance (by decide +kernel) (pa_cons (pv 1) (pa_cons (pe_bltn (v := .ty "int") (by rfl) T.z_int (by decide +kernel) rfl) pa_nil)))) (pss_one (ps_ret (pe_and (pe_callB (isD K) (by rfl) T.z_isinstance (by decide +kernel) (pa_cons (pv 0) (pa_cons (pe_bltn (v := .ty "int") (by rfl) T.z_int (by decide +kernel) rfl) pa_nil))) (pe_and (pe_not (pe_callB (isD K) (by rfl) T.z_isinstance (by decide +kernel) (pa_cons (pv 0) (pa_cons (pe_bltn (v := .ty "bool") (by rfl) T.z_bool (by decide +kernel) rfl) pa_nil)))) (pe_one (pe_cmpR op_eq (pv 0) (pv 1) (nomark _))))))) pss_nil)
      (pss_cons (ps_if (pt_val (pe_callB (isD K) (by rfl) T.z_isinstance (by decide +kernel) (pa_cons (pv 1) (pa_cons (pe_bltn (v := .ty "str") (by rfl) T.z_str (by decide +kernel) rfl) pa_nil)))) (pss_one (ps_ret (pe_and (pe_callB (isD K) (by rfl) T.z_isinstance (by decide +kernel) (pa_cons (pv 0) (pa_cons (pe_bltn (v := .ty "str") (by rfl) T.z_str (by decide +kernel) rfl) pa_nil))) (pe_one (pe_cmpR op_eq (pv 0) (pv 1) (nomark _)))))) pss_nil)
      (pss_cons (ps_if (PW.pt (pw_or (pt_cmpR op_ne (pe_callB (isD K) (by rfl) T.z_isinstance (by decide +kernel) (pa_cons (pv 1) (pa_cons (pe_bltn (v := .ty "tuple") (by rfl) T.z_tuple (by decide +kernel) rfl) pa_nil))) (pe_callB (isD K) (by rfl) T.z_isinstance (by decide +kernel) (pa_cons (pv 0) (pa_cons (pe_bltn (v := .ty "tuple") (by rfl) T.z_tuple (by decide +kernel) rfl) pa_nil))) (nomark _)) (pw_or1 (pt_cmpR op_ne (pe_callB (isD K) (by rfl) T.z_isinstance (by decide +kernel) (pa_cons (pv 1) (pa_cons (pe_bltn (v := .ty "list") (by rfl) T.z_list (by decide +kernel) rfl) pa_nil))) (pe_callB (isD K) (by rfl) T.z_isinstance (by decide +kernel) (pa_cons (pv 0) (pa_cons (pe_bltn (v := .ty "list") (by rfl) T.z_list (by decide +kernel) rfl) pa_nil))) (nomark _))))) (pss_one (ps_ret pe_bl)) pss_nil)
      (pss_cons (ps_if (pt_cmpR op_ne (pe_callB (lenQ K) (by rfl) T.z_len (by decide +kernel) (pa_cons (pv 0) pa_nil)) (pe_callB (lenQ K) (by rfl) T.z_len (by decide +kernel) (pa_cons (pv 1) pa_nil)) (nomark _)) (pss_one (ps_ret pe_bl)) pss_nil)
      (pss_one (ps_ret (pe_callB (allH K hot) (by rfl) T.z_all (by decide +kernel) (pa_cons (pe_lcH (own := [("_law_k", 2)]) (g := (gName 2)) (tt := tYes) hot (fun _ => rfl) sc__law_alike.nd (piz_hot (L2H.pi_range1H (by rfl) T.z_range (pa_cons (pe_callB (lenQ K) (by rfl) T.z_len (by decide +kernel) (pa_cons (pv 1) pa_nil)) pa_nil))) (blkOk_by (own := [("_law_k", 2)]) (N := n__law_alike) (sc := defScope s__law_alike) (by decide +kernel)) (fun _ _ _ _ _ _ => (pg_name (i := 2) sc__law_alike.nd rfl (by first | exact Or.inl rfl | exact Or.inr rfl))) (fun _ _ _ _ _ _ => pts_nil) (fun _ _ _ _ _ _ => (pe_kH (ih _) hr hot (pa_cons (pe_ix (ixQ K) (pv 0) (pv 2) (fun _ _ => rfl)) (pa_cons (pe_ix (ixQ K) (pv 1) (pv 2) (fun _ _ => rfl)) pa_nil)) (Nat.le_refl _)))) pa_nil)))))))))), ?_⟩
    have mB : "bool" ∈ ["bool", "int", "str", "tuple", "list"] := by decide
    have mI : "int" ∈ ["bool", "int", "str", "tuple", "list"] := by decide
    have mS : "str" ∈ ["bool", "int", "str", "tuple", "list"] := by decide
    have mT : "tuple" ∈ ["bool", "int", "str", "tuple", "list"] := by decide
    have mL : "list" ∈ ["bool", "int", "str", "tuple", "list"] := by decide
    refine ⟨_, rfl, rfl, _, rfl, ite2 (fun c => ?_) (fun c => ?_)⟩
    · have c1 : u = .non := of_decide_eq_true c
      subst c1
      cases hu
      cases hv
      exact ⟨_, rfl, rfl, q H (Same.refl _)⟩
    have nd : tyN d ≠ "NoneType" := fun z => c (by
      cases hu <;> first | rfl | (simp [tyN] at z))
    clear c
    refine ⟨_, rfl, _, "bool", d, rfl, mB, hu, _, rfl, ite2 (fun c => ?_) (fun c => ?_)⟩
    · refine ⟨_, rfl, _, "bool", d, rfl, mB, hv, _, rfl, itT c ⟨_, rfl, _, rfl, ?_⟩⟩
      obtain ⟨b, rfl⟩ := isT_bool c
      cases hu
      cases hv
      exact ⟨rfl, by rw [decide_eq_true rfl]; exact q H (Same.refl _)⟩
    refine ⟨_, rfl, _, "int", d, rfl, mI, hu, _, rfl, ite2 (fun c2 => ?_) (fun c2 => ?_)⟩
    · refine ⟨_, rfl, _, "int", d, rfl, mI, hv, _, rfl, itT c2 ⟨_, rfl, _, "bool", d, rfl, mB, hv, _, rfl, _, rfl, itT (by rw [Bool.not_eq_true', ← Bool.not_eq_true]; exact c) ⟨_, rfl, _, rfl, ?_⟩⟩⟩
      obtain ⟨b, rfl⟩ := isT_int c2 c
      cases hu
      cases hv
      exact ⟨rfl, by rw [decide_eq_true rfl]; exact q H (Same.refl _)⟩
    refine ⟨_, rfl, _, "str", d, rfl, mS, hu, _, rfl, ite2 (fun c3 => ?_) (fun c3 => ?_)⟩
    · refine ⟨_, rfl, _, "str", d, rfl, mS, hv, _, rfl, itT c3 ⟨_, rfl, _, rfl, ?_⟩⟩
      obtain ⟨b, rfl⟩ := isT_str c3
      cases hu
      cases hv
      exact ⟨rfl, by rw [decide_eq_true rfl]; exact q H (Same.refl _)⟩
    refine ⟨_, rfl, _, "tuple", d, rfl, mT, hu, _, rfl, _, "tuple", d, rfl, mT, hv, rfl, _, rfl, itF (by simp) ?_⟩
    refine ⟨_, rfl, _, "list", d, rfl, mL, hu, _, rfl, _, "list", d, rfl, mL, hv, rfl, _, rfl, itF (by simp) ?_⟩
    obtain ⟨a, b, xs, ys, ds, rfl, rfl, hx, hy, ax, ay, m, rfl, hlen, hal⟩ : ∃ (a b : Addr) (xs ys : List V) (ds : List PyData), v = .ref a ∧ u = .ref b ∧ (SqL K H a xs ∨ SqT K H a xs) ∧ (SqL K H b ys ∨ SqT K H b ys) ∧ DpAll K H xs ds ∧ DpAll K H ys ds ∧ ∃ m, n = m + 1 ∧ ds.length ≤ 100000 ∧ ∀ d ∈ ds, Al m d := by
      cases hu with
      | non => exact absurd rfl nd
      | bl b => exact absurd rfl c
      | int i => exact absurd rfl c2
      | str x => exact absurd rfl c3
      | lst h a =>
        cases hv with
        | lst h' a' =>
          cases n with
          | zero => exact al.elim
          | succ m => exact ⟨_, _, _, _, _, rfl, rfl, .inl h', .inl h, a', a, m, rfl, al.1, al.2⟩
      | tup h a =>
        cases hv with
        | tup h' a' =>
          cases n with
          | zero => exact al.elim
          | succ m => exact ⟨_, _, _, _, _, rfl, rfl, .inr h', .inr h, a', a, m, rfl, al.1, al.2⟩
    have lx := dpAll_len ax
    have ly := dpAll_len ay
    refine ⟨_, rfl, a, xs, rfl, hx, _, rfl, b, ys, rfl, hy, rfl, _, rfl, itF (by rw [lx, ly]; simp) ?_⟩
    refine ⟨_, rfl, b, ys, rfl, hy, (ys.length : Int), rfl, by omega, by omega, fun D hD => lcN_range0 (n := ys.length) (fun _ => some (.bool true)) hD (by omega) (fun i H1 N1 N0 hi sm k1 k0 => ?_) (fun H1 sm lb => ?_)⟩
    · have gx : xs[i]? = some xs[i] := List.getElem?_eq_getElem (by omega)
      have gy : ys[i]? = some ys[i] := List.getElem?_eq_getElem hi
      obtain ⟨d1, e1, p1⟩ := dpAll_get ax gx
      obtain ⟨d2, e2, p2⟩ := dpAll_get ay gy
      rw [e1] at e2
      obtain rfl := Option.some.inj e2
      have hx1 : SqL K H1 a xs ∨ SqT K H1 a xs := hx.imp sm.seq (same_tup sm)
      have hy1 : SqL K H1 b ys ∨ SqT K H1 b ys := hy.imp sm.seq (same_tup sm)
      refine ⟨rfl, yesT ⟨_, rfl, _, rfl, rIx_of hx1 gx ⟨_, rfl, _, rfl, rIx_of hy1 gy ?_⟩⟩⟩
      exact ⟨_, _, d1, rfl, same_dp sm p1, same_dp sm p2, hal d1 (List.mem_of_getElem? e1), fun H2 s2 => k1 _ H2 _ s2 rfl (.bl true)⟩
    · have e : (List.range ys.length).filterMap (fun _ => some (PyData.bool true)) = (List.replicate ys.length true).map PyData.bool := by
        rw [List.filterMap_eq_map', List.map_const', List.length_range, List.map_replicate]
      rw [e] at lb
      obtain ⟨_, zs, h1, h2⟩ := lb
      have e2 := dpAll_bools (K := K) h2.dp
      subst e2
      refine ⟨D, _, rfl, SqL.of h1, ?_⟩
      have e3 : (List.replicate ys.length true).all id = true := by simp
      rw [e3]
      exact q H1 sm
theorem ok__law_alike (T : Tx K mg) : ClH P w K mg base 6 "_law_alike" (spAlike K 6) := ok_alike_n T 6 _
end
section
variable {P : Program} {w : World} {K : PySem.W.Frag} {mg : Str → Option Value} {base : Heap}
/-! ### whether some work is refused -/
def Thrown (K : PySem.W.Frag) (kd : Kd) (H : Hp) : XK := fun cls d H' => Same H H' ∧ match kd with
  | .size => cls = .ref (He.ga K "BadSize") ∧ d = none
  | .number => cls = .ref (He.ga K "BadNumber") ∧ d = none
  | .set num i => cls = .ref (He.ga K "BadSet") ∧ ∃ dd, d = some dd ∧ H' dd = some (.xd [("at", .int i), ("number", .int num)])
theorem thr_of {K : PySem.W.Frag} {kd : Kd} {H : Hp} {E : XK} (h : ∀ cls d H', Thrown K kd H cls d H' → E cls d H') : Thr K kd H E := by
  cases kd with
  | size => exact fun H' s => h _ _ _ ⟨s, rfl, rfl⟩
  | number => exact fun H' s => h _ _ _ ⟨s, rfl, rfl⟩
  | set num i => exact fun H' d s _ e => h _ _ _ ⟨s, rfl, d, rfl, e⟩
/-- the word and the value that are asked -/
def Asked (K : PySem.W.Frag) (kd : Kd) (H : Hp) (word : Str) (v : V) : Prop := match kd with
  | .size => word = "size"
  | .number => word = "number"
  | .set num i => word = "set" ∧ Dp K H v (.tuple [.int num, .int i])
/-- the lambda at f throws kd from H on -/
def Fails (P : Program) (w : World) (K : PySem.W.Frag) (mg : Str → Option Value) (B : Heap) (f : Addr) (kd : Kd) (H : Hp) : Prop := ∃ sp, Lm P w K mg B 9 f sp ∧ ∀ Q E, Thr K kd H E → sp H Q E
def spRefused (P : Program) (w : World) (K : PySem.W.Frag) (mg : Str → Option Value) (B : Heap) : Sp := fun vs H Q _ => ∃ (f : Addr) (word : Str) (v : V) (kd : Kd), vs = [.ref f, .str word, v] ∧ Fails P w K mg B f kd H ∧ Asked K kd H word v ∧ ∀ H', Same H H' → Q (.bl true) H'
def wds : List Str := ["size", "set", "number", "text"]
theorem wordsOf {K : PySem.W.Frag} {mg : Str → Option Value} (T : Tx K mg) {kd : Kd} {H H' : Hp} {word : Str} {v : V} {cls : Value} {d : Option Addr} (ht : Thrown K kd H cls d H') (ha : Asked K kd H word v) :
    ∃ C, cls = .ref C ∧ ExcC K C ∧ PySem.W.exmOne K (.ref C) (.ref (He.ga K "SetError")) = some true ∧ PySem.W.kitOne K (.ref C) (.type "ValueError") = some true ∧ PySem.W.kitOne K (.ref C) (.ref (He.ga K "BadSize")) = some (decide (V.str word = V.str "size")) ∧
      PySem.W.kitOne K (.ref C) (.ref (He.ga K "BadSet")) = some (decide (V.str word = V.str "set")) ∧ PySem.W.kitOne K (.ref C) (.ref (He.ga K "BadNumber")) = some (decide (V.str word = V.str "number")) ∧
      PySem.W.kitOne K (.ref C) (.ref (He.ga K "BadText")) = some (decide (V.str word = V.str "text")) ∧ (∀ dd, d = some dd → ∃ fs, H' dd = some (.xd fs)) ∧ word ≠ "text" := by
  obtain ⟨_, ht⟩ := ht
  cases kd with
  | size =>
    obtain ⟨rfl, rfl⟩ := ht
    obtain rfl : word = "size" := ha
    exact ⟨_, rfl, T.e_BadSize.1, T.m_BadSize, T.v_BadSize, T.k_BadSize_BadSize, T.k_BadSize_BadSet, T.k_BadSize_BadNumber, T.k_BadSize_BadText, fun dd e => (nomatch e), by decide⟩
  | number =>
    obtain ⟨rfl, rfl⟩ := ht
    obtain rfl : word = "number" := ha
    exact ⟨_, rfl, T.e_BadNumber.1, T.m_BadNumber, T.v_BadNumber, T.k_BadNumber_BadSize, T.k_BadNumber_BadSet, T.k_BadNumber_BadNumber, T.k_BadNumber_BadText, fun dd e => (nomatch e), by decide⟩
  | set num i =>
    obtain ⟨rfl, dd, rfl, hx⟩ := ht
    obtain ⟨rfl, _⟩ : word = "set" ∧ _ := ha
    exact ⟨_, rfl, T.e_BadSet.1, T.m_BadSet, T.v_BadSet, T.k_BadSet_BadSize, T.k_BadSet_BadSet, T.k_BadSet_BadNumber, T.k_BadSet_BadText, fun d2 e => ⟨_, by cases e; exact hx⟩, by decide⟩
theorem words_map (word : Str) : (List.range wds.length).filterMap (fun (j : Nat) => (wds[j]?).bind fun z => some (PyData.bool (decide (V.str word = V.str z)))) = wds.map fun z => PyData.bool (decide (V.str word = V.str z)) := list_map wds _
theorem pe_callG {X : Cx} (P : Program) (w : World) (K : PySem.W.Frag) (mg : Str → Option Value) (B : Heap) {k j i : Nat} {x : Str} {W : WX} {p pos : Pos} (hr : Room j X.A) (hk : k ≤ j) (tk : L2N.Takes X W) (hN : X.N[i]? = some x) (hv : Vis X.env.scope x) (h1 : X.prog = P := by rfl) (h2 : X.w = w := by rfl) (h3 : X.K = K := by rfl) (h4 : X.mg = mg := by rfl) (h5 : X.base = B := by rfl)
    (hd : (x == ("__debug__" : Str)) = false := by decide) (hcd : (x == ("__classdict__" : Str)) = false := by decide) : PE X (.Call (.Name x p) [] [] pos) (tCallF P w K mg B k i (WE W)) := by
  subst h1 h2 h3 h4 h5
  exact pe_callF hr hk (fun σ => L2N.passAt tk σ) hN hv hd hcd
theorem ok__law_refused (T : Tx K mg) : Cl P w K mg base 11 "_law_refused" (spRefused P w K mg base) := by
  refine T.d__law_refused.cl sc__law_refused (fun vs H Q E h => ?_) (fun f cdv A outer s H vs Q E hr h => ?_)
  · obtain ⟨f, word, v, kd, rfl, _⟩ := h
    rfl
  obtain ⟨fw, word, v, kd, rfl, ⟨sp, L, hsp⟩, hask, q⟩ := h
  apply Exists.intro
  apply And.intro
  · apply pss_cons
    · apply L2N.ps_try_as (i := 3) (c := .ref (He.ga K "SetError")) rfl rfl sc__law_refused.nd rfl rfl (by exact ⟨rfl, by decide, .inl T.g_SetError⟩) takesN0
      · intro W pn xe tk _
        exact pss_one (ps_expr (pe_callG P w K mg base (k := 9) (i := 0) hr (by decide) tk rfl (.inl rfl)))
      · intro a oe cls d pn hz hf
        have ix : CallR (((cxOf CX0 P w K mg base n__law_refused "_law_refused" (defScope s__law_refused) f cdv A outer s H E).nox).suite a ((a, oe) :: pn)) (.builtin "isinstance") (rIsX K cls d a) := isX hz.zc hf
        have hot : L2H.HotC (((cxOf CX0 P w K mg base n__law_refused "_law_refused" (defScope s__law_refused) f cdv A outer s H E).nox).suite a ((a, oe) :: pn)) := hot_suite hz hf
        exact pss_cons (ps_set (i := 4) sc__law_refused.nd rfl (by first | exact Or.inl rfl | exact Or.inr rfl) (pe_lst (pa_cons (pe_callB ix (by rfl) T.z_isinstance (by decide +kernel) (pa_cons (pv 3) (pa_cons (pe_glob (v := .ref (He.ga K "BadSize")) (by rfl) T.g_BadSize rfl) pa_nil)))
              (pa_cons (pe_callB ix (by rfl) T.z_isinstance (by decide +kernel) (pa_cons (pv 3) (pa_cons (pe_glob (v := .ref (He.ga K "BadSet")) (by rfl) T.g_BadSet rfl) pa_nil)))
              (pa_cons (pe_callB ix (by rfl) T.z_isinstance (by decide +kernel) (pa_cons (pv 3) (pa_cons (pe_glob (v := .ref (He.ga K "BadNumber")) (by rfl) T.g_BadNumber rfl) pa_nil)))
              (pa_cons (pe_callB ix (by rfl) T.z_isinstance (by decide +kernel) (pa_cons (pv 3) (pa_cons (pe_glob (v := .ref (He.ga K "BadText")) (by rfl) T.g_BadText rfl) pa_nil))) pa_nil))))))
            (pss_cons (ps_set (i := 5) sc__law_refused.nd rfl (by first | exact Or.inl rfl | exact Or.inr rfl) (pe_lst (pa_cons pe_str (pa_cons pe_str (pa_cons pe_str (pa_cons pe_str pa_nil))))))
            (pss_cons (ps_if (PW.pt (pw_or (pt_not (pt_val (pe_callB ix (by rfl) T.z_isinstance (by decide +kernel) (pa_cons (pv 3) (pa_cons (pe_bltn (v := .ty "ValueError") (by rfl) T.z_ValueError (by decide +kernel) rfl) pa_nil)))))
                (pw_or1 (pt_cmpR (neD K hr.units) (pv 4) (pe_lcH (own := [("_law_one", 6)]) (g := gName 6) (tt := tYes) hot (fun _ => rfl) sc__law_refused.nd (piLH K (pv 5))
                  (blkOk_by (own := [("_law_one", 6)]) (N := n__law_refused) (sc := defScope s__law_refused) (by decide +kernel)) (fun _ _ _ _ _ _ => pg_name (i := 6) sc__law_refused.nd rfl (by first | exact Or.inl rfl | exact Or.inr rfl)) (fun _ _ _ _ _ _ => pts_nil)
                  (fun _ _ _ _ _ _ => pe_cmpR op_eq (pv 1) (pv 6) (nomark _))) (nomark _))))) (pss_one (ps_ret pe_bl)) pss_nil)
            (pss_cons (ps_if (pt_cmpR op_eq (pv 1) pe_str (nomark _)) (pss_one (ps_ret (pe_kH (ok__law_alike T) (L2H.roomH_mark hr _) hot (pa_cons (pe_tup (pa_cons (pe_xf (X := (cxOf CX0 P w K mg base n__law_refused "_law_refused" (defScope s__law_refused) f cdv A outer s H E).nox) (a := a) (pn := pn) (C := He.ga K "BadSet") T.e_BadSet.2 (T.ini.f "number" (by decide)) hz.zc hf (pv 3))
                (pa_cons (pe_xf (X := (cxOf CX0 P w K mg base n__law_refused "_law_refused" (defScope s__law_refused) f cdv A outer s H E).nox) (a := a) (pn := pn) (C := He.ga K "BadSet") T.e_BadSet.2 (T.ini.f "at" (by decide)) hz.zc hf (pv 3)) pa_nil))) (pa_cons (pv 2) pa_nil))))) pss_nil)
            (pss_one (ps_ret (pe_or (pe_cmpR op_ne (pv 1) pe_str (nomark _)) (pe_one pe_never)))))))
    · exact pss_one (ps_ret pe_bl)
  refine ⟨fw, sp, rfl, L, hsp _ _ (thr_of fun cls d H' ht => ?_)⟩
  have s0 : Same H H' := ht.1
  obtain ⟨C, rfl, hE, hm, kv, k1, k2, k3, k4, hdd, nt⟩ := wordsOf T ht hask
  refine ⟨true, hm, fun _ a na => ?_, fun z => nomatch z⟩
  refine ⟨_, rfl, C, _, .ref (He.ga K "BadSize"), _, rfl, hE, hdd, rfl, fun u r => r, k1, _, rfl, C, _, .ref (He.ga K "BadSet"), _, rfl, hE, hdd, rfl, fun u r => r, k2, _, rfl, C, _, .ref (He.ga K "BadNumber"), _, rfl, hE, hdd, rfl, fun u r => r, k3,
    _, rfl, C, _, .ref (He.ga K "BadText"), _, rfl, hE, hdd, rfl, fun u r => r, k4, by show 4 ≤ sizeLine; decide, fun l1 n1 => ?_⟩
  have s1 : Same H' (upd H' l1 (.lst (wds.map fun z => V.bl (decide (V.str word = V.str z))))) := same_new n1
  have e1 : upd H' l1 (.lst (wds.map fun z => V.bl (decide (V.str word = V.str z)))) l1 = some (.lst (wds.map fun z => V.bl (decide (V.str word = V.str z)))) := upd_same
  show tSeq _ _ _ _ (upd H' l1 (.lst (wds.map fun z => V.bl (decide (V.str word = V.str z)))))
  generalize upd H' l1 (.lst (wds.map fun z => V.bl (decide (V.str word = V.str z)))) = G1 at s1 e1
  refine ⟨by show 4 ≤ sizeLine; decide, fun l2 n2 => ?_⟩
  have s2 : Same G1 (upd G1 l2 (.lst (wds.map V.str))) := same_new n2
  have e2 : upd G1 l2 (.lst (wds.map V.str)) l2 = some (.lst (wds.map V.str)) := upd_same
  show tSeq _ _ _ _ (upd G1 l2 (.lst (wds.map V.str)))
  have e1' := s2 _ _ e1
  generalize upd G1 l2 (.lst (wds.map V.str)) = G2 at s2 e2 e1'
  have s02 : Same H' G2 := s1.trans s2
  have hd2 : ∀ dd, d = some dd → ∃ fs, G2 dd = some (.xd fs) := fun dd e => let ⟨fs, h⟩ := hdd dd e; ⟨fs, s02 _ _ h⟩
  refine ⟨_, rfl, C, _, .type "ValueError", true, rfl, hE, hd2, rfl, fun u r => r, kv, true, rfl, iteF ?_⟩
  refine ⟨_, rfl, _, rfl, l2, rfl, ⟨_, SqL.of e2⟩, fun D nD => lcN_list (xs := wds.map V.str) (fun (j : Nat) => (wds[j]?).bind fun z => some (PyData.bool (decide (V.str word = V.str z)))) (SqL.of e2) nD (by decide) (fun j x G N1 N0 hx sm c1 c0 => ?_) (fun G sm lb => ?_)⟩
  · obtain ⟨z, hz, rfl⟩ := map_get hx
    exact ⟨rfl, yesT ⟨_, rfl, _, rfl, rfl, c1 _ G _ (Same.refl _) (by rw [hz]; rfl) (.bl _)⟩⟩
  have lb2 : LB G2 G D ((List.range wds.length).filterMap fun (j : Nat) => (wds[j]?).bind fun z => some (PyData.bool (decide (V.str word = V.str z)))) := lb
  rw [words_map] at lb2
  have dK : Dp K G (.ref l1) (.list (wds.map fun z => PyData.bool (decide (V.str word = V.str z)))) := .lst (SqL.of (sm _ _ e1')) (.cons (.bl _) (.cons (.bl _) (.cons (.bl _) (.cons (.bl _) .nil))))
  have shp : Sh 2 (.list (wds.map fun z => PyData.bool (decide (V.str word = V.str z)))) := Sh.list fun d hd => by
    obtain ⟨z, _, rfl⟩ := List.mem_map.mp hd
    exact Sh.bool _
  refine ⟨_, _, dK, lb2.newV.dp, shp.shaped, shp.shaped, _, rfl, itF (by
    rw [SeqAt.eqv_refl]
    · simp
    · exact shp.1) ?_⟩
  have s0G : Same H G := s0.trans (s02.trans sm)
  refine ⟨_, rfl, rfl, _, rfl, ite2 (fun c => ?_) (fun c => ?_)⟩
  · have ew : word = "set" := V.str.inj (of_decide_eq_true c)
    cases kd with
    | size =>
      exact absurd (show word = "size" from hask) (by rw [ew]; decide)
    | number => exact absurd (show word = "number" from hask) (by rw [ew]; decide)
    | set num i =>
      obtain ⟨_, hv⟩ : word = "set" ∧ Dp K H v (.tuple [.int num, .int i]) := hask
      obtain ⟨_, eC, dd, rfl, hx⟩ := ht
      cases eC
      have hxG := (s02.trans sm) _ _ hx
      refine ⟨_, rfl, rfl, rfl, dd, _, _, rfl, hxG, rfl, _, rfl, rfl, rfl, dd, _, _, rfl, hxG, rfl, by show 2 ≤ sizeLine; decide, fun t nt => ?_⟩
      refine ⟨_, rfl, _, _, .tuple [.int num, .int i], rfl, .tup (SqT.of upd_same) (.cons (.int _) (.cons (.int _) .nil)), same_dp (s0G.trans (same_new nt)) hv, ?_, fun H2 s2 => q H2 (s0G.trans ((same_new nt).trans s2))⟩
      refine ⟨by simp, fun d hd => ?_⟩
      simp at hd
      rcases hd with rfl | rfl <;> trivial
  · refine ⟨_, rfl, rfl, _, rfl, itT ?_ (q G s0G)⟩
    rw [Bool.not_eq_true', decide_eq_false_iff_not]
    exact fun z => nt (V.str.inj z)
end
section
variable {P : Program} {w : World} {K : PySem.W.Frag} {mg : Str → Option Value} {base : Heap}
/-- what _law_single hands out: lambdas that are refused -/
def sp_law_single (P : Program) (w : World) (K : PySem.W.Frag) (mg : Str → Option Value) : Sp := fun vs H Q _ => ∃ (n : Int) (v : V), vs = [.int n, v] ∧ LamX.Tabs (tabsK K) H ∧ ∀ (H' : Hp) (p : Addr) (fs : List Addr), LamX.ExtN H H' → LamX.Tabs (tabsK K) H' → H p = none → H' p = some (.lst (fs.map V.ref)) → fs.length ≤ 8 →
  (∀ f ∈ fs, LmH P w K mg 9 H' f (fun H _ E => OneX K n v H E)) → Q (.ref p) H'
theorem ok__law_single (T : Tx K mg) (B3 : TB3 K mg base) : Cl P w K mg base 2 "_law_single" (sp_law_single P w K mg) := by
  refine T.d__law_single.clO (js := [0, 1]) sc__law_single (fun vs H Q E h => ?_) (by decide) (fun f cdv A outer s H vs Q E lk hcd hmf hr h => ?_)
  · obtain ⟨n, v, rfl, _⟩ := h
    rfl
  obtain ⟨n, v, rfl, hT, q⟩ := h
  have hcode : cdv = .ref (He.cT K ("_law_single", none)).1 := by
    obtain ⟨oc, od, osl, kV, doc, pm, ct, an, lk⟩ := lk
    exact code_eq hmf T.q__law_single lk rfl hcd
  have hm : (tbl3 K "_law_single", lamN "_law_single") ∈ tabsK K := .tail _ (.head _)
  have hu : ∀ p ∈ tabsK K, p.1 = tbl3 K "_law_single" → p.2 = lamN "_law_single" := fun p hp e => by
    obtain ⟨d1, d2, d3⟩ := T.dis
    rcases List.mem_cons.mp hp with z | hp
    · rw [z] at e
      exact absurd e d1
    rcases List.mem_cons.mp hp with z | hp
    · rw [z] at e ⊢
    · have z := List.mem_singleton.mp hp
      rw [z] at e ⊢
      exact absurd e.symm d3
  let Y : Cx := (cxOf CX0 P w K mg base n__law_single "_law_single" (defScope s__law_single) f cdv A outer s H E).nox
  -- what is known of a lambda before the def's cells are told
  let DL : Addr → Hp → Addr → Prop := fun l G g => ∀ (G' : Hp) (c0 c1 : Addr), ExtL l G G' → Y.env.cells.lookup ("_law_size_here" : Str) = some c0 → Y.env.cells.lookup ("_law_ranges" : Str) = some c1 → c0 ≠ c1 → G' c0 = some (CellO c0 (.int n)) → G' c1 = some (CellO c1 v) → LmH P w K mg 9 G' g (fun H _ E => OneX K n v H E)
  have dlm : ∀ {l : Addr} {G G' : Hp} {fs : List Addr}, (∀ g ∈ fs, DL l G g) → ExtL l G G' → ∀ g ∈ fs, DL l G' g := fun h e g hg G2 c0 c1 e2 => h g hg G2 c0 c1 (e.trans e2)
  refine ⟨_, (psr_cons (ps_set (i := 2) sc__law_single.nd rfl (by first | exact Or.inl rfl | exact Or.inr rfl) (pe_lst (pa_cons (pe_lam (T := tabsK K) B3.b (by exact hcode) (by exact hm) (by exact hu) (NdefX.ndef_free (sc := defScope s__law_single) (fr := ["_law_size_here", "_law_ranges"]) (by decide +kernel)) rfl) pa_nil)))
      (psr_cons (ps_expr (pe_bm PySem.F.plainAttrs_list PySem.F.slot_list_append PySem.F.type_list_append mt_append (pv 2) (pa_cons (pe_lam (T := tabsK K) B3.b (by exact hcode) (by exact hm) (by exact hu) (NdefX.ndef_free (sc := defScope s__law_single) (fr := ["_law_size_here", "_law_ranges"]) (by decide +kernel)) rfl) pa_nil)))
      (psr_cons (ps_expr (pe_bm PySem.F.plainAttrs_list PySem.F.slot_list_append PySem.F.type_list_append mt_append (pv 2) (pa_cons (pe_lam (T := tabsK K) B3.b (by exact hcode) (by exact hm) (by exact hu) (NdefX.ndef_free (sc := defScope s__law_single) (fr := ["_law_size_here", "_law_ranges"]) (by decide +kernel)) rfl) pa_nil)))
      (psr_cons (ps_expr (pe_bm PySem.F.plainAttrs_list PySem.F.slot_list_append PySem.F.type_list_append mt_append (pv 2) (pa_cons (pe_lam (T := tabsK K) B3.b (by exact hcode) (by exact hm) (by exact hu) (NdefX.ndef_free (sc := defScope s__law_single) (fr := ["_law_size_here", "_law_ranges"]) (by decide +kernel)) rfl) pa_nil)))
      (psr_cons (ps_expr (pe_bm PySem.F.plainAttrs_list PySem.F.slot_list_append PySem.F.type_list_append mt_append (pv 2) (pa_cons (pe_lam (T := tabsK K) B3.b (by exact hcode) (by exact hm) (by exact hu) (NdefX.ndef_free (sc := defScope s__law_single) (fr := ["_law_size_here", "_law_ranges"]) (by decide +kernel)) rfl) pa_nil)))
      (psr_cons (ps_expr (pe_bm PySem.F.plainAttrs_list PySem.F.slot_list_append PySem.F.type_list_append mt_append (pv 2) (pa_cons (pe_lam (T := tabsK K) B3.b (by exact hcode) (by exact hm) (by exact hu) (NdefX.ndef_free (sc := defScope s__law_single) (fr := ["_law_size_here", "_law_ranges"]) (by decide +kernel)) rfl) pa_nil)))
      (psr_cons (ps_expr (pe_bm PySem.F.plainAttrs_list PySem.F.slot_list_append PySem.F.type_list_append mt_append (pv 2) (pa_cons (pe_lam (T := tabsK K) B3.b (by exact hcode) (by exact hm) (by exact hu) (NdefX.ndef_free (sc := defScope s__law_single) (fr := ["_law_size_here", "_law_ranges"]) (by decide +kernel)) rfl) pa_nil)))
      (psr_cons (ps_expr (pe_bm PySem.F.plainAttrs_list PySem.F.slot_list_append PySem.F.type_list_append mt_append (pv 2) (pa_cons (pe_lam (T := tabsK K) B3.b (by exact hcode) (by exact hm) (by exact hu) (NdefX.ndef_free (sc := defScope s__law_single) (fr := ["_law_size_here", "_law_ranges"]) (by decide +kernel)) rfl) pa_nil)))
      (psr_ret (pv 2)))))))))), ?_⟩
  refine ⟨hT, fun f1 c1 H1 e1 m1 T1 nf1 lf1 cf1 => ⟨by show 1 ≤ sizeLine; decide, fun l nl => ?_⟩⟩
  have hl : H l = none := m1 l nl
  have fl1 : f1 ≠ l := ne_of_none lf1 nl
  have cl1 : c1 ≠ l := ne_of_none cf1 nl
  have T1g : LamX.Tabs (tabsK K) (upd H1 l (.lst ([f1].map V.ref))) := T1.ext (same_new nl)
  have X1 : ExtL l H (upd H1 l (.lst ([f1].map V.ref))) := (ExtL.of e1).trans ExtL.upd
  have L1 : (upd H1 l (.lst ([f1].map V.ref))) l = some (.lst ([f1].map V.ref)) := upd_same
  have D1 : DL l (upd H1 l (.lst ([f1].map V.ref))) f1 := fun G' a0 a1 e h0 h1 ne k0 k1 => lmH_two (e _ _ fl1 ((upd_ne fl1).trans lf1) lamO_ne) (e _ _ cl1 ((upd_ne cl1).trans cf1) LamX.codeO_ne) rfl h0 h1 ne k0 k1 (NdefX.nscope_by (by kernel_rfl)) (fun _ _ _ => rfl) (fun B A outer s H Q E hr h =>
    ⟨_, pe_kX (E := E) (ok_members T) hr (L2N.takes_of rfl rfl rfl rfl) (pa_cons (pv 0) (pa_cons (pv 1) pa_nil)), ⟨_, rfl, _, rfl, .inr ⟨n, v, rfl, h⟩⟩⟩)
  have A1 : ∀ g ∈ [f1], DL l (upd H1 l (.lst ([f1].map V.ref))) g := fun g hg => by
    rw [List.mem_singleton.mp hg]
    exact D1
  change (rCons _ _) _ _ (upd H1 l (.lst ([f1].map V.ref)))
  generalize upd H1 l (.lst ([f1].map V.ref)) = G1 at T1g X1 L1 A1
  refine ⟨_, rfl, .inl ⟨rfl, _, SqL.of L1⟩, T1g, fun f2 c2 H2 e2 m2 T2 nf2 lf2 cf2 => ?_⟩
  have M2 : H2 l = some (.lst ([f1].map V.ref)) := e2 _ _ L1 (fun ps z => by cases z)
  refine ⟨l, _, _, rfl, rfl, M2, by show 1 < sizeLine; decide, ?_⟩
  have fl2 : f2 ≠ l := ne_of lf2 M2 (lamO_lst _)
  have cl2 : c2 ≠ l := ne_of cf2 M2 (codeO_lst _)
  have T2g : LamX.Tabs (tabsK K) (upd H2 l (.lst ([f1, f2].map V.ref))) := tabs_upd T2 M2
  have X2 : ExtL l H (upd H2 l (.lst ([f1, f2].map V.ref))) := X1.trans ((ExtL.of e2).trans ExtL.upd)
  have L2 : (upd H2 l (.lst ([f1, f2].map V.ref))) l = some (.lst ([f1, f2].map V.ref)) := upd_same
  have D2 : DL l (upd H2 l (.lst ([f1, f2].map V.ref))) f2 := fun G' a0 a1 e h0 h1 ne k0 k1 => lmH_two (e _ _ fl2 ((upd_ne fl2).trans lf2) lamO_ne) (e _ _ cl2 ((upd_ne cl2).trans cf2) LamX.codeO_ne) rfl h0 h1 ne k0 k1 (NdefX.nscope_by (by kernel_rfl)) (fun _ _ _ => rfl) (fun B A outer s H Q E hr h =>
    ⟨_, pe_kX (E := E) (ok_plain T) hr (L2N.takes_of rfl rfl rfl rfl) (pa_cons (pv 0) (pa_cons (pv 1) pa_nil)), ⟨_, rfl, _, rfl, .inr ⟨n, v, rfl, h⟩⟩⟩)
  have A2 : ∀ g ∈ [f1, f2], DL l (upd H2 l (.lst ([f1, f2].map V.ref))) g := fun g hg => by
    rcases List.mem_append.mp (show g ∈ [f1] ++ [f2] from hg) with z | z
    · exact dlm A1 ((ExtL.of e2).trans ExtL.upd) g z
    · rw [List.mem_singleton.mp z]
      exact D2
  change (rCons _ _) _ _ (upd H2 l (.lst ([f1, f2].map V.ref)))
  generalize upd H2 l (.lst ([f1, f2].map V.ref)) = G2 at T2g X2 L2 A2
  refine ⟨_, rfl, .inl ⟨rfl, _, SqL.of L2⟩, T2g, fun f3 c3 H3 e3 m3 T3 nf3 lf3 cf3 => ?_⟩
  have M3 : H3 l = some (.lst ([f1, f2].map V.ref)) := e3 _ _ L2 (fun ps z => by cases z)
  refine ⟨l, _, _, rfl, rfl, M3, by show 2 < sizeLine; decide, ?_⟩
  have fl3 : f3 ≠ l := ne_of lf3 M3 (lamO_lst _)
  have cl3 : c3 ≠ l := ne_of cf3 M3 (codeO_lst _)
  have T3g : LamX.Tabs (tabsK K) (upd H3 l (.lst ([f1, f2, f3].map V.ref))) := tabs_upd T3 M3
  have X3 : ExtL l H (upd H3 l (.lst ([f1, f2, f3].map V.ref))) := X2.trans ((ExtL.of e3).trans ExtL.upd)
  have L3 : (upd H3 l (.lst ([f1, f2, f3].map V.ref))) l = some (.lst ([f1, f2, f3].map V.ref)) := upd_same
  have D3 : DL l (upd H3 l (.lst ([f1, f2, f3].map V.ref))) f3 := fun G' a0 a1 e h0 h1 ne k0 k1 => lmH_two (e _ _ fl3 ((upd_ne fl3).trans lf3) lamO_ne) (e _ _ cl3 ((upd_ne cl3).trans cf3) LamX.codeO_ne) rfl h0 h1 ne k0 k1 (NdefX.nscope_by (by kernel_rfl)) (fun _ _ _ => rfl) (fun B A outer s H Q E hr h =>
    ⟨_, pe_kX (E := E) (ok_others T) hr (L2N.takes_of rfl rfl rfl rfl) (pa_cons (pv 0) (pa_cons (pv 1) pa_nil)), ⟨_, rfl, _, rfl, n, v, rfl, h⟩⟩)
  have A3 : ∀ g ∈ [f1, f2, f3], DL l (upd H3 l (.lst ([f1, f2, f3].map V.ref))) g := fun g hg => by
    rcases List.mem_append.mp (show g ∈ [f1, f2] ++ [f3] from hg) with z | z
    · exact dlm A2 ((ExtL.of e3).trans ExtL.upd) g z
    · rw [List.mem_singleton.mp z]
      exact D3
  change (rCons _ _) _ _ (upd H3 l (.lst ([f1, f2, f3].map V.ref)))
  generalize upd H3 l (.lst ([f1, f2, f3].map V.ref)) = G3 at T3g X3 L3 A3
  refine ⟨_, rfl, .inl ⟨rfl, _, SqL.of L3⟩, T3g, fun f4 c4 H4 e4 m4 T4 nf4 lf4 cf4 => ?_⟩
  have M4 : H4 l = some (.lst ([f1, f2, f3].map V.ref)) := e4 _ _ L3 (fun ps z => by cases z)
  refine ⟨l, _, _, rfl, rfl, M4, by show 3 < sizeLine; decide, ?_⟩
  have fl4 : f4 ≠ l := ne_of lf4 M4 (lamO_lst _)
  have cl4 : c4 ≠ l := ne_of cf4 M4 (codeO_lst _)
  have T4g : LamX.Tabs (tabsK K) (upd H4 l (.lst ([f1, f2, f3, f4].map V.ref))) := tabs_upd T4 M4
  have X4 : ExtL l H (upd H4 l (.lst ([f1, f2, f3, f4].map V.ref))) := X3.trans ((ExtL.of e4).trans ExtL.upd)
  have L4 : (upd H4 l (.lst ([f1, f2, f3, f4].map V.ref))) l = some (.lst ([f1, f2, f3, f4].map V.ref)) := upd_same
  have D4 : DL l (upd H4 l (.lst ([f1, f2, f3, f4].map V.ref))) f4 := fun G' a0 a1 e h0 h1 ne k0 k1 => lmH_two (e _ _ fl4 ((upd_ne fl4).trans lf4) lamO_ne) (e _ _ cl4 ((upd_ne cl4).trans cf4) LamX.codeO_ne) rfl h0 h1 ne k0 k1 (NdefX.nscope_by (by kernel_rfl)) (fun _ _ _ => rfl) (fun B A outer s H Q E hr h =>
    ⟨_, pe_kX (E := E) (ok_inside T) hr (L2N.takes_of rfl rfl rfl rfl) (pa_cons (pv 0) (pa_cons (pv 1) (pa_cons pe_int pa_nil))), ⟨_, rfl, _, rfl, n, v, 99, rfl, .inl h⟩⟩)
  have A4 : ∀ g ∈ [f1, f2, f3, f4], DL l (upd H4 l (.lst ([f1, f2, f3, f4].map V.ref))) g := fun g hg => by
    rcases List.mem_append.mp (show g ∈ [f1, f2, f3] ++ [f4] from hg) with z | z
    · exact dlm A3 ((ExtL.of e4).trans ExtL.upd) g z
    · rw [List.mem_singleton.mp z]
      exact D4
  change (rCons _ _) _ _ (upd H4 l (.lst ([f1, f2, f3, f4].map V.ref)))
  generalize upd H4 l (.lst ([f1, f2, f3, f4].map V.ref)) = G4 at T4g X4 L4 A4
  refine ⟨_, rfl, .inl ⟨rfl, _, SqL.of L4⟩, T4g, fun f5 c5 H5 e5 m5 T5 nf5 lf5 cf5 => ?_⟩
  have M5 : H5 l = some (.lst ([f1, f2, f3, f4].map V.ref)) := e5 _ _ L4 (fun ps z => by cases z)
  refine ⟨l, _, _, rfl, rfl, M5, by show 4 < sizeLine; decide, ?_⟩
  have fl5 : f5 ≠ l := ne_of lf5 M5 (lamO_lst _)
  have cl5 : c5 ≠ l := ne_of cf5 M5 (codeO_lst _)
  have T5g : LamX.Tabs (tabsK K) (upd H5 l (.lst ([f1, f2, f3, f4, f5].map V.ref))) := tabs_upd T5 M5
  have X5 : ExtL l H (upd H5 l (.lst ([f1, f2, f3, f4, f5].map V.ref))) := X4.trans ((ExtL.of e5).trans ExtL.upd)
  have L5 : (upd H5 l (.lst ([f1, f2, f3, f4, f5].map V.ref))) l = some (.lst ([f1, f2, f3, f4, f5].map V.ref)) := upd_same
  have D5 : DL l (upd H5 l (.lst ([f1, f2, f3, f4, f5].map V.ref))) f5 := fun G' a0 a1 e h0 h1 ne k0 k1 => lmH_two (e _ _ fl5 ((upd_ne fl5).trans lf5) lamO_ne) (e _ _ cl5 ((upd_ne cl5).trans cf5) LamX.codeO_ne) rfl h0 h1 ne k0 k1 (NdefX.nscope_by (by kernel_rfl)) (fun _ _ _ => rfl) (fun B A outer s H Q E hr h =>
    ⟨_, pe_kX (E := E) (ok_written T) hr (L2N.takes_of rfl rfl rfl rfl) (pa_cons (pv 0) (pa_cons (pv 1) pa_nil)), ⟨_, rfl, _, rfl, n, v, rfl, h⟩⟩)
  have A5 : ∀ g ∈ [f1, f2, f3, f4, f5], DL l (upd H5 l (.lst ([f1, f2, f3, f4, f5].map V.ref))) g := fun g hg => by
    rcases List.mem_append.mp (show g ∈ [f1, f2, f3, f4] ++ [f5] from hg) with z | z
    · exact dlm A4 ((ExtL.of e5).trans ExtL.upd) g z
    · rw [List.mem_singleton.mp z]
      exact D5
  change (rCons _ _) _ _ (upd H5 l (.lst ([f1, f2, f3, f4, f5].map V.ref)))
  generalize upd H5 l (.lst ([f1, f2, f3, f4, f5].map V.ref)) = G5 at T5g X5 L5 A5
  refine ⟨_, rfl, .inl ⟨rfl, _, SqL.of L5⟩, T5g, fun f6 c6 H6 e6 m6 T6 nf6 lf6 cf6 => ?_⟩
  have M6 : H6 l = some (.lst ([f1, f2, f3, f4, f5].map V.ref)) := e6 _ _ L5 (fun ps z => by cases z)
  refine ⟨l, _, _, rfl, rfl, M6, by show 5 < sizeLine; decide, ?_⟩
  have fl6 : f6 ≠ l := ne_of lf6 M6 (lamO_lst _)
  have cl6 : c6 ≠ l := ne_of cf6 M6 (codeO_lst _)
  have T6g : LamX.Tabs (tabsK K) (upd H6 l (.lst ([f1, f2, f3, f4, f5, f6].map V.ref))) := tabs_upd T6 M6
  have X6 : ExtL l H (upd H6 l (.lst ([f1, f2, f3, f4, f5, f6].map V.ref))) := X5.trans ((ExtL.of e6).trans ExtL.upd)
  have L6 : (upd H6 l (.lst ([f1, f2, f3, f4, f5, f6].map V.ref))) l = some (.lst ([f1, f2, f3, f4, f5, f6].map V.ref)) := upd_same
  have D6 : DL l (upd H6 l (.lst ([f1, f2, f3, f4, f5, f6].map V.ref))) f6 := fun G' a0 a1 e h0 h1 ne k0 k1 => lmH_two (e _ _ fl6 ((upd_ne fl6).trans lf6) lamO_ne) (e _ _ cl6 ((upd_ne cl6).trans cf6) LamX.codeO_ne) rfl h0 h1 ne k0 k1 (NdefX.nscope_by (by kernel_rfl)) (fun _ _ _ => rfl) (fun B A outer s H Q E hr h =>
    ⟨_, pe_kX (E := E) (ok_joined T) hr (L2N.takes_of rfl rfl rfl rfl) (pa_cons (pv 0) (pa_cons (pv 1) (pa_cons (pe_lst (pa_cons (pe_tup (pa_cons pe_int (pa_cons pe_int pa_nil))) pa_nil)) pa_nil))), ⟨_, rfl, _, rfl, by show 2 ≤ sizeLine; decide, fun t nt => ⟨by show 1 ≤ sizeLine; decide, fun l nl => ⟨n, v, .ref l, rfl, .inl (h.mono ((same_new nt).trans (same_new nl)))⟩⟩⟩⟩)
  have A6 : ∀ g ∈ [f1, f2, f3, f4, f5, f6], DL l (upd H6 l (.lst ([f1, f2, f3, f4, f5, f6].map V.ref))) g := fun g hg => by
    rcases List.mem_append.mp (show g ∈ [f1, f2, f3, f4, f5] ++ [f6] from hg) with z | z
    · exact dlm A5 ((ExtL.of e6).trans ExtL.upd) g z
    · rw [List.mem_singleton.mp z]
      exact D6
  change (rCons _ _) _ _ (upd H6 l (.lst ([f1, f2, f3, f4, f5, f6].map V.ref)))
  generalize upd H6 l (.lst ([f1, f2, f3, f4, f5, f6].map V.ref)) = G6 at T6g X6 L6 A6
  refine ⟨_, rfl, .inl ⟨rfl, _, SqL.of L6⟩, T6g, fun f7 c7 H7 e7 m7 T7 nf7 lf7 cf7 => ?_⟩
  have M7 : H7 l = some (.lst ([f1, f2, f3, f4, f5, f6].map V.ref)) := e7 _ _ L6 (fun ps z => by cases z)
  refine ⟨l, _, _, rfl, rfl, M7, by show 6 < sizeLine; decide, ?_⟩
  have fl7 : f7 ≠ l := ne_of lf7 M7 (lamO_lst _)
  have cl7 : c7 ≠ l := ne_of cf7 M7 (codeO_lst _)
  have T7g : LamX.Tabs (tabsK K) (upd H7 l (.lst ([f1, f2, f3, f4, f5, f6, f7].map V.ref))) := tabs_upd T7 M7
  have X7 : ExtL l H (upd H7 l (.lst ([f1, f2, f3, f4, f5, f6, f7].map V.ref))) := X6.trans ((ExtL.of e7).trans ExtL.upd)
  have L7 : (upd H7 l (.lst ([f1, f2, f3, f4, f5, f6, f7].map V.ref))) l = some (.lst ([f1, f2, f3, f4, f5, f6, f7].map V.ref)) := upd_same
  have D7 : DL l (upd H7 l (.lst ([f1, f2, f3, f4, f5, f6, f7].map V.ref))) f7 := fun G' a0 a1 e h0 h1 ne k0 k1 => lmH_two (e _ _ fl7 ((upd_ne fl7).trans lf7) lamO_ne) (e _ _ cl7 ((upd_ne cl7).trans cf7) LamX.codeO_ne) rfl h0 h1 ne k0 k1 (NdefX.nscope_by (by kernel_rfl)) (fun _ _ _ => rfl) (fun B A outer s H Q E hr h =>
    ⟨_, pe_kX (E := E) (ok_common T) hr (L2N.takes_of rfl rfl rfl rfl) (pa_cons (pv 0) (pa_cons (pv 1) (pa_cons (pe_lst (pa_cons (pe_tup (pa_cons pe_int (pa_cons pe_int pa_nil))) pa_nil)) pa_nil))), ⟨_, rfl, _, rfl, by show 2 ≤ sizeLine; decide, fun t nt => ⟨by show 1 ≤ sizeLine; decide, fun l nl => ⟨n, v, .ref l, rfl, .inl (h.mono ((same_new nt).trans (same_new nl)))⟩⟩⟩⟩)
  have A7 : ∀ g ∈ [f1, f2, f3, f4, f5, f6, f7], DL l (upd H7 l (.lst ([f1, f2, f3, f4, f5, f6, f7].map V.ref))) g := fun g hg => by
    rcases List.mem_append.mp (show g ∈ [f1, f2, f3, f4, f5, f6] ++ [f7] from hg) with z | z
    · exact dlm A6 ((ExtL.of e7).trans ExtL.upd) g z
    · rw [List.mem_singleton.mp z]
      exact D7
  change (rCons _ _) _ _ (upd H7 l (.lst ([f1, f2, f3, f4, f5, f6, f7].map V.ref)))
  generalize upd H7 l (.lst ([f1, f2, f3, f4, f5, f6, f7].map V.ref)) = G7 at T7g X7 L7 A7
  refine ⟨_, rfl, .inl ⟨rfl, _, SqL.of L7⟩, T7g, fun f8 c8 H8 e8 m8 T8 nf8 lf8 cf8 => ?_⟩
  have M8 : H8 l = some (.lst ([f1, f2, f3, f4, f5, f6, f7].map V.ref)) := e8 _ _ L7 (fun ps z => by cases z)
  refine ⟨l, _, _, rfl, rfl, M8, by show 7 < sizeLine; decide, ?_⟩
  have fl8 : f8 ≠ l := ne_of lf8 M8 (lamO_lst _)
  have cl8 : c8 ≠ l := ne_of cf8 M8 (codeO_lst _)
  have T8g : LamX.Tabs (tabsK K) (upd H8 l (.lst ([f1, f2, f3, f4, f5, f6, f7, f8].map V.ref))) := tabs_upd T8 M8
  have X8 : ExtL l H (upd H8 l (.lst ([f1, f2, f3, f4, f5, f6, f7, f8].map V.ref))) := X7.trans ((ExtL.of e8).trans ExtL.upd)
  have L8 : (upd H8 l (.lst ([f1, f2, f3, f4, f5, f6, f7, f8].map V.ref))) l = some (.lst ([f1, f2, f3, f4, f5, f6, f7, f8].map V.ref)) := upd_same
  have D8 : DL l (upd H8 l (.lst ([f1, f2, f3, f4, f5, f6, f7, f8].map V.ref))) f8 := fun G' a0 a1 e h0 h1 ne k0 k1 => lmH_two (e _ _ fl8 ((upd_ne fl8).trans lf8) lamO_ne) (e _ _ cl8 ((upd_ne cl8).trans cf8) LamX.codeO_ne) rfl h0 h1 ne k0 k1 (NdefX.nscope_by (by kernel_rfl)) (fun _ _ _ => rfl) (fun B A outer s H Q E hr h =>
    ⟨_, pe_kX (E := E) (ok_less T) hr (L2N.takes_of rfl rfl rfl rfl) (pa_cons (pv 0) (pa_cons (pv 1) (pa_cons (pe_lst (pa_cons (pe_tup (pa_cons pe_int (pa_cons pe_int pa_nil))) pa_nil)) pa_nil))), ⟨_, rfl, _, rfl, by show 2 ≤ sizeLine; decide, fun t nt => ⟨by show 1 ≤ sizeLine; decide, fun l nl => ⟨n, v, .ref l, rfl, .inl (h.mono ((same_new nt).trans (same_new nl)))⟩⟩⟩⟩)
  have A8 : ∀ g ∈ [f1, f2, f3, f4, f5, f6, f7, f8], DL l (upd H8 l (.lst ([f1, f2, f3, f4, f5, f6, f7, f8].map V.ref))) g := fun g hg => by
    rcases List.mem_append.mp (show g ∈ [f1, f2, f3, f4, f5, f6, f7] ++ [f8] from hg) with z | z
    · exact dlm A7 ((ExtL.of e8).trans ExtL.upd) g z
    · rw [List.mem_singleton.mp z]
      exact D8
  obtain ⟨G8, hG⟩ : ∃ G, upd H8 l (.lst ([f1, f2, f3, f4, f5, f6, f7, f8].map V.ref)) = G := ⟨_, rfl⟩
  rw [hG] at T8g X8 L8 A8
  refine ⟨_, rfl, fun j hj => ?_, fun G' ho => ?_⟩
  · rcases List.mem_cons.mp hj with rfl | hj
    · exact ⟨_, _, rfl, rfl, rfl⟩
    · rw [List.mem_singleton.mp hj]
      exact ⟨_, _, rfl, rfl, rfl⟩
  replace ho : Out Y [some (.int n), some v, some (.ref l)] [0, 1] G8 G' := by
    rw [← hG]
    exact ho
  obtain ⟨x0, c0, w0, hx0, hc0, hv0, hn0, x1, c1, w1, hx1, hc1, hv1, hn1, rfl⟩ := ho
  cases hx0
  cases hx1
  cases hv0
  cases hv1
  have ne : c1 ≠ c0 := fun z => by
    rw [z, upd_same] at hn1
    cases hn1
  have hn1' : G8 c1 = none := by
    rw [upd_ne ne] at hn1
    exact hn1
  have sm : Same G8 (upd (upd G8 c0 (CellO c0 (.int n))) c1 (CellO c1 v)) := (same_new hn0).trans (same_new hn1)
  refine q _ l [f1, f2, f3, f4, f5, f6, f7, f8] (fun b o hb t => sm _ _ (X8 b o (ne_of_none hb hl) hb t)) (T8g.ext sm) hl (sm _ _ L8) (by simp) fun g hg => A8 g hg _ c0 c1 (fun b o _ hb _ => sm _ _ hb) hc0 hc1 (Ne.symm ne) (by rw [upd_ne (Ne.symm ne)]; exact upd_same) upd_same
end
section
variable {P : Program} {w : World} {K : PySem.W.Frag} {mg : Str → Option Value} {base : Heap}
/-- what _law_several hands out: lambdas that are refused -/
def sp_law_several (P : Program) (w : World) (K : PySem.W.Frag) (mg : Str → Option Value) : Sp := fun vs H Q _ => ∃ (n : Int) (v : V), vs = [.int n, v] ∧ LamX.Tabs (tabsK K) H ∧ ∀ (H' : Hp) (p : Addr) (fs : List Addr), LamX.ExtN H H' → LamX.Tabs (tabsK K) H' → H p = none → H' p = some (.lst (fs.map V.ref)) → fs.length ≤ 8 →
  (∀ f ∈ fs, LmH P w K mg 9 H' f (fun H _ E => SevX K n v H E)) → Q (.ref p) H'
theorem ok__law_several (T : Tx K mg) (B3 : TB3 K mg base) : Cl P w K mg base 2 "_law_several" (sp_law_several P w K mg) := by
  refine T.d__law_several.clO (js := [0, 1]) sc__law_several (fun vs H Q E h => ?_) (by decide) (fun f cdv A outer s H vs Q E lk hcd hmf hr h => ?_)
  · obtain ⟨n, v, rfl, _⟩ := h
    rfl
  obtain ⟨n, v, rfl, hT, q⟩ := h
  have hcode : cdv = .ref (He.cT K ("_law_several", none)).1 := by
    obtain ⟨oc, od, osl, kV, doc, pm, ct, an, lk⟩ := lk
    exact code_eq hmf T.q__law_several lk rfl hcd
  have hm : (tbl3 K "_law_several", lamN "_law_several") ∈ tabsK K := .tail _ (.tail _ (.head _))
  have hu : ∀ p ∈ tabsK K, p.1 = tbl3 K "_law_several" → p.2 = lamN "_law_several" := fun p hp e => by
    obtain ⟨d1, d2, d3⟩ := T.dis
    rcases List.mem_cons.mp hp with z | hp
    · rw [z] at e
      exact absurd e d2
    rcases List.mem_cons.mp hp with z | hp
    · rw [z] at e ⊢
      exact absurd e d3
    · have z := List.mem_singleton.mp hp
      rw [z] at e ⊢
  let Y : Cx := (cxOf CX0 P w K mg base n__law_several "_law_several" (defScope s__law_several) f cdv A outer s H E).nox
  -- what is known of a lambda before the def's cells are told
  let DL : Addr → Hp → Addr → Prop := fun l G g => ∀ (G' : Hp) (c0 c1 : Addr), ExtL l G G' → Y.env.cells.lookup ("_law_size_here" : Str) = some c0 → Y.env.cells.lookup ("_law_sets" : Str) = some c1 → c0 ≠ c1 → G' c0 = some (CellO c0 (.int n)) → G' c1 = some (CellO c1 v) → LmH P w K mg 9 G' g (fun H _ E => SevX K n v H E)
  have dlm : ∀ {l : Addr} {G G' : Hp} {fs : List Addr}, (∀ g ∈ fs, DL l G g) → ExtL l G G' → ∀ g ∈ fs, DL l G' g := fun h e g hg G2 c0 c1 e2 => h g hg G2 c0 c1 (e.trans e2)
  refine ⟨_, (psr_cons (ps_set (i := 2) sc__law_several.nd rfl (by first | exact Or.inl rfl | exact Or.inr rfl) (pe_lst (pa_cons (pe_lam (T := tabsK K) B3.c (by exact hcode) (by exact hm) (by exact hu) (NdefX.ndef_free (sc := defScope s__law_several) (fr := ["_law_size_here", "_law_sets"]) (by decide +kernel)) rfl) pa_nil)))
      (psr_cons (ps_expr (pe_bm PySem.F.plainAttrs_list PySem.F.slot_list_append PySem.F.type_list_append mt_append (pv 2) (pa_cons (pe_lam (T := tabsK K) B3.c (by exact hcode) (by exact hm) (by exact hu) (NdefX.ndef_free (sc := defScope s__law_several) (fr := ["_law_size_here", "_law_sets"]) (by decide +kernel)) rfl) pa_nil)))
      (psr_cons (ps_expr (pe_bm PySem.F.plainAttrs_list PySem.F.slot_list_append PySem.F.type_list_append mt_append (pv 2) (pa_cons (pe_lam (T := tabsK K) B3.c (by exact hcode) (by exact hm) (by exact hu) (NdefX.ndef_free (sc := defScope s__law_several) (fr := ["_law_size_here", "_law_sets"]) (by decide +kernel)) rfl) pa_nil)))
      (psr_cons (ps_expr (pe_bm PySem.F.plainAttrs_list PySem.F.slot_list_append PySem.F.type_list_append mt_append (pv 2) (pa_cons (pe_lam (T := tabsK K) B3.c (by exact hcode) (by exact hm) (by exact hu) (NdefX.ndef_free (sc := defScope s__law_several) (fr := ["_law_size_here", "_law_sets"]) (by decide +kernel)) rfl) pa_nil)))
      (psr_cons (ps_expr (pe_bm PySem.F.plainAttrs_list PySem.F.slot_list_append PySem.F.type_list_append mt_append (pv 2) (pa_cons (pe_lam (T := tabsK K) B3.c (by exact hcode) (by exact hm) (by exact hu) (NdefX.ndef_free (sc := defScope s__law_several) (fr := ["_law_size_here", "_law_sets"]) (by decide +kernel)) rfl) pa_nil)))
      (psr_ret (pv 2))))))), ?_⟩
  refine ⟨hT, fun f1 c1 H1 e1 m1 T1 nf1 lf1 cf1 => ⟨by show 1 ≤ sizeLine; decide, fun l nl => ?_⟩⟩
  have hl : H l = none := m1 l nl
  have fl1 : f1 ≠ l := ne_of_none lf1 nl
  have cl1 : c1 ≠ l := ne_of_none cf1 nl
  have T1g : LamX.Tabs (tabsK K) (upd H1 l (.lst ([f1].map V.ref))) := T1.ext (same_new nl)
  have X1 : ExtL l H (upd H1 l (.lst ([f1].map V.ref))) := (ExtL.of e1).trans ExtL.upd
  have L1 : (upd H1 l (.lst ([f1].map V.ref))) l = some (.lst ([f1].map V.ref)) := upd_same
  have D1 : DL l (upd H1 l (.lst ([f1].map V.ref))) f1 := fun G' a0 a1 e h0 h1 ne k0 k1 => lmH_two (e _ _ fl1 ((upd_ne fl1).trans lf1) lamO_ne) (e _ _ cl1 ((upd_ne cl1).trans cf1) LamX.codeO_ne) rfl h0 h1 ne k0 k1 (NdefX.nscope_by (by kernel_rfl)) (fun _ _ _ => rfl) (fun B A outer s H Q E hr h =>
    ⟨_, pe_kX (E := E) (ok_classes T) hr (L2N.takes_of rfl rfl rfl rfl) (pa_cons (pv 0) (pa_cons (pv 1) pa_nil)), ⟨_, rfl, _, rfl, .inr ⟨n, v, rfl, h⟩⟩⟩)
  have A1 : ∀ g ∈ [f1], DL l (upd H1 l (.lst ([f1].map V.ref))) g := fun g hg => by
    rw [List.mem_singleton.mp hg]
    exact D1
  change (rCons _ _) _ _ (upd H1 l (.lst ([f1].map V.ref)))
  generalize upd H1 l (.lst ([f1].map V.ref)) = G1 at T1g X1 L1 A1
  refine ⟨_, rfl, .inl ⟨rfl, _, SqL.of L1⟩, T1g, fun f2 c2 H2 e2 m2 T2 nf2 lf2 cf2 => ?_⟩
  have M2 : H2 l = some (.lst ([f1].map V.ref)) := e2 _ _ L1 (fun ps z => by cases z)
  refine ⟨l, _, _, rfl, rfl, M2, by show 1 < sizeLine; decide, ?_⟩
  have fl2 : f2 ≠ l := ne_of lf2 M2 (lamO_lst _)
  have cl2 : c2 ≠ l := ne_of cf2 M2 (codeO_lst _)
  have T2g : LamX.Tabs (tabsK K) (upd H2 l (.lst ([f1, f2].map V.ref))) := tabs_upd T2 M2
  have X2 : ExtL l H (upd H2 l (.lst ([f1, f2].map V.ref))) := X1.trans ((ExtL.of e2).trans ExtL.upd)
  have L2 : (upd H2 l (.lst ([f1, f2].map V.ref))) l = some (.lst ([f1, f2].map V.ref)) := upd_same
  have D2 : DL l (upd H2 l (.lst ([f1, f2].map V.ref))) f2 := fun G' a0 a1 e h0 h1 ne k0 k1 => lmH_two (e _ _ fl2 ((upd_ne fl2).trans lf2) lamO_ne) (e _ _ cl2 ((upd_ne cl2).trans cf2) LamX.codeO_ne) rfl h0 h1 ne k0 k1 (NdefX.nscope_by (by kernel_rfl)) (fun _ _ _ => rfl) (fun B A outer s H Q E hr h =>
    ⟨_, pe_kX (E := E) (ok_class_row T) hr (L2N.takes_of rfl rfl rfl rfl) (pa_cons (pv 0) (pa_cons (pv 1) pa_nil)), ⟨_, rfl, _, rfl, n, v, rfl, h⟩⟩)
  have A2 : ∀ g ∈ [f1, f2], DL l (upd H2 l (.lst ([f1, f2].map V.ref))) g := fun g hg => by
    rcases List.mem_append.mp (show g ∈ [f1] ++ [f2] from hg) with z | z
    · exact dlm A1 ((ExtL.of e2).trans ExtL.upd) g z
    · rw [List.mem_singleton.mp z]
      exact D2
  change (rCons _ _) _ _ (upd H2 l (.lst ([f1, f2].map V.ref)))
  generalize upd H2 l (.lst ([f1, f2].map V.ref)) = G2 at T2g X2 L2 A2
  refine ⟨_, rfl, .inl ⟨rfl, _, SqL.of L2⟩, T2g, fun f3 c3 H3 e3 m3 T3 nf3 lf3 cf3 => ?_⟩
  have M3 : H3 l = some (.lst ([f1, f2].map V.ref)) := e3 _ _ L2 (fun ps z => by cases z)
  refine ⟨l, _, _, rfl, rfl, M3, by show 2 < sizeLine; decide, ?_⟩
  have fl3 : f3 ≠ l := ne_of lf3 M3 (lamO_lst _)
  have cl3 : c3 ≠ l := ne_of cf3 M3 (codeO_lst _)
  have T3g : LamX.Tabs (tabsK K) (upd H3 l (.lst ([f1, f2, f3].map V.ref))) := tabs_upd T3 M3
  have X3 : ExtL l H (upd H3 l (.lst ([f1, f2, f3].map V.ref))) := X2.trans ((ExtL.of e3).trans ExtL.upd)
  have L3 : (upd H3 l (.lst ([f1, f2, f3].map V.ref))) l = some (.lst ([f1, f2, f3].map V.ref)) := upd_same
  have D3 : DL l (upd H3 l (.lst ([f1, f2, f3].map V.ref))) f3 := fun G' a0 a1 e h0 h1 ne k0 k1 => lmH_two (e _ _ fl3 ((upd_ne fl3).trans lf3) lamO_ne) (e _ _ cl3 ((upd_ne cl3).trans cf3) LamX.codeO_ne) rfl h0 h1 ne k0 k1 (NdefX.nscope_by (by kernel_rfl)) (fun _ _ _ => rfl) (fun B A outer s H Q E hr h =>
    ⟨_, pe_kX (E := E) (ok_by_classes T) hr (L2N.takes_of rfl rfl rfl rfl) (pa_cons (pv 0) (pa_cons (pv 1) pa_nil)), ⟨_, rfl, _, rfl, n, v, rfl, h⟩⟩)
  have A3 : ∀ g ∈ [f1, f2, f3], DL l (upd H3 l (.lst ([f1, f2, f3].map V.ref))) g := fun g hg => by
    rcases List.mem_append.mp (show g ∈ [f1, f2] ++ [f3] from hg) with z | z
    · exact dlm A2 ((ExtL.of e3).trans ExtL.upd) g z
    · rw [List.mem_singleton.mp z]
      exact D3
  change (rCons _ _) _ _ (upd H3 l (.lst ([f1, f2, f3].map V.ref)))
  generalize upd H3 l (.lst ([f1, f2, f3].map V.ref)) = G3 at T3g X3 L3 A3
  refine ⟨_, rfl, .inl ⟨rfl, _, SqL.of L3⟩, T3g, fun f4 c4 H4 e4 m4 T4 nf4 lf4 cf4 => ?_⟩
  have M4 : H4 l = some (.lst ([f1, f2, f3].map V.ref)) := e4 _ _ L3 (fun ps z => by cases z)
  refine ⟨l, _, _, rfl, rfl, M4, by show 3 < sizeLine; decide, ?_⟩
  have fl4 : f4 ≠ l := ne_of lf4 M4 (lamO_lst _)
  have cl4 : c4 ≠ l := ne_of cf4 M4 (codeO_lst _)
  have T4g : LamX.Tabs (tabsK K) (upd H4 l (.lst ([f1, f2, f3, f4].map V.ref))) := tabs_upd T4 M4
  have X4 : ExtL l H (upd H4 l (.lst ([f1, f2, f3, f4].map V.ref))) := X3.trans ((ExtL.of e4).trans ExtL.upd)
  have L4 : (upd H4 l (.lst ([f1, f2, f3, f4].map V.ref))) l = some (.lst ([f1, f2, f3, f4].map V.ref)) := upd_same
  have D4 : DL l (upd H4 l (.lst ([f1, f2, f3, f4].map V.ref))) f4 := fun G' a0 a1 e h0 h1 ne k0 k1 => lmH_two (e _ _ fl4 ((upd_ne fl4).trans lf4) lamO_ne) (e _ _ cl4 ((upd_ne cl4).trans cf4) LamX.codeO_ne) rfl h0 h1 ne k0 k1 (NdefX.nscope_by (by kernel_rfl)) (fun _ _ _ => rfl) (fun B A outer s H Q E hr h =>
    ⟨_, pe_kX (E := E) (ok_table T) hr (L2N.takes_of rfl rfl rfl rfl) (pa_cons (pv 0) (pa_cons (pv 1) (pa_cons pe_int pa_nil))), ⟨_, rfl, _, rfl, .inr ⟨n, v, 0, rfl, .inl h⟩⟩⟩)
  have A4 : ∀ g ∈ [f1, f2, f3, f4], DL l (upd H4 l (.lst ([f1, f2, f3, f4].map V.ref))) g := fun g hg => by
    rcases List.mem_append.mp (show g ∈ [f1, f2, f3] ++ [f4] from hg) with z | z
    · exact dlm A3 ((ExtL.of e4).trans ExtL.upd) g z
    · rw [List.mem_singleton.mp z]
      exact D4
  change (rCons _ _) _ _ (upd H4 l (.lst ([f1, f2, f3, f4].map V.ref)))
  generalize upd H4 l (.lst ([f1, f2, f3, f4].map V.ref)) = G4 at T4g X4 L4 A4
  refine ⟨_, rfl, .inl ⟨rfl, _, SqL.of L4⟩, T4g, fun f5 c5 H5 e5 m5 T5 nf5 lf5 cf5 => ?_⟩
  have M5 : H5 l = some (.lst ([f1, f2, f3, f4].map V.ref)) := e5 _ _ L4 (fun ps z => by cases z)
  refine ⟨l, _, _, rfl, rfl, M5, by show 4 < sizeLine; decide, ?_⟩
  have fl5 : f5 ≠ l := ne_of lf5 M5 (lamO_lst _)
  have cl5 : c5 ≠ l := ne_of cf5 M5 (codeO_lst _)
  have T5g : LamX.Tabs (tabsK K) (upd H5 l (.lst ([f1, f2, f3, f4, f5].map V.ref))) := tabs_upd T5 M5
  have X5 : ExtL l H (upd H5 l (.lst ([f1, f2, f3, f4, f5].map V.ref))) := X4.trans ((ExtL.of e5).trans ExtL.upd)
  have L5 : (upd H5 l (.lst ([f1, f2, f3, f4, f5].map V.ref))) l = some (.lst ([f1, f2, f3, f4, f5].map V.ref)) := upd_same
  have D5 : DL l (upd H5 l (.lst ([f1, f2, f3, f4, f5].map V.ref))) f5 := fun G' a0 a1 e h0 h1 ne k0 k1 => lmH_two (e _ _ fl5 ((upd_ne fl5).trans lf5) lamO_ne) (e _ _ cl5 ((upd_ne cl5).trans cf5) LamX.codeO_ne) rfl h0 h1 ne k0 k1 (NdefX.nscope_by (by kernel_rfl)) (fun _ _ _ => rfl) (fun B A outer s H Q E hr h =>
    ⟨_, pe_kX (E := E) (ok_least T) hr (L2N.takes_of rfl rfl rfl rfl) (pa_cons (pv 0) (pa_cons (pv 1) pa_nil)), ⟨_, rfl, _, rfl, n, v, rfl, h⟩⟩)
  have A5 : ∀ g ∈ [f1, f2, f3, f4, f5], DL l (upd H5 l (.lst ([f1, f2, f3, f4, f5].map V.ref))) g := fun g hg => by
    rcases List.mem_append.mp (show g ∈ [f1, f2, f3, f4] ++ [f5] from hg) with z | z
    · exact dlm A4 ((ExtL.of e5).trans ExtL.upd) g z
    · rw [List.mem_singleton.mp z]
      exact D5
  obtain ⟨G5, hG⟩ : ∃ G, upd H5 l (.lst ([f1, f2, f3, f4, f5].map V.ref)) = G := ⟨_, rfl⟩
  rw [hG] at T5g X5 L5 A5
  refine ⟨_, rfl, fun j hj => ?_, fun G' ho => ?_⟩
  · rcases List.mem_cons.mp hj with rfl | hj
    · exact ⟨_, _, rfl, rfl, rfl⟩
    · rw [List.mem_singleton.mp hj]
      exact ⟨_, _, rfl, rfl, rfl⟩
  replace ho : Out Y [some (.int n), some v, some (.ref l)] [0, 1] G5 G' := by
    rw [← hG]
    exact ho
  obtain ⟨x0, c0, w0, hx0, hc0, hv0, hn0, x1, c1, w1, hx1, hc1, hv1, hn1, rfl⟩ := ho
  cases hx0
  cases hx1
  cases hv0
  cases hv1
  have ne : c1 ≠ c0 := fun z => by
    rw [z, upd_same] at hn1
    cases hn1
  have hn1' : G5 c1 = none := by
    rw [upd_ne ne] at hn1
    exact hn1
  have sm : Same G5 (upd (upd G5 c0 (CellO c0 (.int n))) c1 (CellO c1 v)) := (same_new hn0).trans (same_new hn1)
  refine q _ l [f1, f2, f3, f4, f5] (fun b o hb t => sm _ _ (X5 b o (ne_of_none hb hl) hb t)) (T5g.ext sm) hl (sm _ _ L5) (by simp) fun g hg => A5 g hg _ c0 c1 (fun b o _ hb _ => sm _ _ hb) hc0 hc1 (Ne.symm ne) (by rw [upd_ne (Ne.symm ne)]; exact upd_same) upd_same
end
section
variable {P : Program} {w : World} {K : PySem.W.Frag} {mg : Str → Option Value} {base : Heap}
/-! ### a set that cannot be (under way) -/
theorem badAt_ins {n : Int} {R S : List (Int × Int)} {r : Int × Int} {i : Nat} (hk : Ok n R) (hi : i ≤ R.length) (hl : R.length ≤ 39) (hr : ¬ Good n r) : BadAt n (R.take i ++ [r] ++ R.drop i ++ S) i := by
  have ht : (R.take i).length = i := by rw [List.length_take]; omega
  refine ⟨fun j q hj hq => ?_, r, ?_, .inr hr⟩
  · rw [List.append_assoc, List.append_assoc, List.getElem?_append_left (by omega)] at hq
    exact ⟨by omega, hk.2 q (List.mem_of_mem_take (List.mem_of_getElem? hq))⟩
  · rw [List.append_assoc, List.append_assoc, List.getElem?_append_right (by omega), ht, Nat.sub_self]
    rfl
theorem badAt_many {n : Int} {m : Nat} (hn : 1 ≤ n) (hm : 41 ≤ m) : BadAt n (List.replicate m (0, 0)) 40 := by
  refine ⟨fun j q hj hq => ?_, (0, 0), ?_, .inl (Nat.le_refl _)⟩
  · rw [List.getElem?_replicate] at hq
    split at hq
    · cases hq
      exact ⟨hj, by show (0 : Int) ≤ 0; decide, by show (0 : Int) ≤ 0; decide, by show (0 : Int) < n; omega⟩
    · cases hq
  · rw [List.getElem?_replicate, if_pos (by omega)]
def spBad (K : PySem.W.Frag) : Sp := fun vs H Q _ => ∃ (d : Addr) (D : List Int) (n : Nat) (v : V) (R : List (Int × Int)), vs = [.ref d, .int n, v] ∧ 1 ≤ n ∧ n ≤ 64 ∧ H d = some (.lst (D.map V.int)) ∧ DiceOk D ∧ Dp K (del H d) v (eR R) ∧ R.length ≤ 39 ∧ Ok n R ∧
  ∀ (H' : Hp) (D' : List Int) (t : Addr) (b : V) (i : Nat) (S : List (Int × Int)), SameBut d H H' → H' d = some (.lst (D'.map V.int)) → DiceOk D' → H' t = some (.tup [b, .int i]) → Dp K (del H' d) b (eR S) → BadAt n S i → Q (.ref t) H'
theorem dpAll_rep {K : PySem.W.Frag} {H : Hp} {v : V} {e : PyData} (h : Dp K H v e) : ∀ k : Nat, DpAll K H (List.replicate k [v]).flatten (List.replicate k e)
  | 0 => .nil
  | k + 1 => by
    rw [List.replicate_succ, List.replicate_succ, List.flatten_cons]
    exact .cons h (dpAll_rep h k)
theorem sd_new {d p : Addr} {H : Hp} {o : HO} (np : H p = none) : Same (del H d) (del (upd H p o) d) := del_mono (same_new np)
theorem sd_off {d : Addr} {H : Hp} {o : HO} : Same (del H d) (del (upd H d o) d) := by
  rw [del_upd_self]
  exact Same.refl _
theorem del_at {d p : Addr} {H : Hp} {o u : HO} (hd : H d = some u) (np : H p = none) : del (upd H p o) d p = some o := by
  rw [del_ne (ne_of_none hd np).symm]
  exact upd_same
theorem pair_dp {K : PySem.W.Frag} {H : Hp} {t : Addr} {i j : Int} (h : H t = some (.tup [.int i, .int j])) : Dp K H (.ref t) (eP (i, j)) := .tup (SqT.of h) (.cons (.int _) (.cons (.int _) .nil))
theorem ok__law_bad (T : Tx K mg) : Cl P w K mg base 2 "_law_bad" (spBad K) := by
  refine T.d__law_bad.cl sc__law_bad (fun vs H Q E h => ?_) (fun f cdv A outer s H vs Q E hr h => ?_)
  · obtain ⟨d, D, n, v, R, rfl, _⟩ := h
    rfl
  obtain ⟨d, D, n, v, R, rfl, hn1, hn2, hd, hk, hv, hl, hR, q⟩ := h
  obtain ⟨a, xs, rfl, hS, hA⟩ := dp_list hv
  have hxl : xs.length = R.length := by rw [dpAll_len hA, List.length_map]
  refine ⟨_, (pss_cons (ps_set (i := 3) sc__law_bad.nd rfl (by first | exact Or.inl rfl | exact Or.inr rfl) (pe_k (ok__law_off T) hr (pa_cons (pv 0) (pa_cons (pe_op op_add (pe_callB (lenQ K) (by rfl) T.z_len (by decide +kernel) (pa_cons (pv 2) pa_nil)) pe_int) pa_nil))))
      (pss_cons (ps_set (i := 4) sc__law_bad.nd rfl (by first | exact Or.inl rfl | exact Or.inr rfl) (pe_callB (call_max2 rfl) (by rfl) T.z_max (by decide +kernel) (pa_cons pe_int (pa_cons (pe_op op_sub (pe_k (ok__law_off T) hr (pa_cons (pv 0) (pa_cons (pe_op op_pow pe_int pe_int) pa_nil))) pe_int) pa_nil))))
      (pss_cons (ps_set (i := 5) sc__law_bad.nd rfl (by first | exact Or.inl rfl | exact Or.inr rfl) (pe_ix (ixL K) (pe_lst (pa_cons (pe_tup (pa_cons (pe_un un_neg pe_int) (pa_cons pe_int pa_nil))) (pa_cons (pe_tup (pa_cons pe_int (pa_cons (pv 1) pa_nil))) (pa_cons (pe_tup (pa_cons (pv 1) (pa_cons (pv 1) pa_nil))) (pa_cons (pe_tup (pa_cons (pe_op op_sub (pv 1) pe_int) (pa_cons (pe_op op_sub (pe_op op_sub (pv 1) pe_int) (pv 4)) pa_nil))) (pa_cons (pe_tup (pa_cons (pe_op op_sub (pe_un un_neg pe_int) (pv 4)) (pa_cons pe_int pa_nil))) (pa_cons (pe_tup (pa_cons pe_int (pa_cons (pe_op op_add (pv 1) (pv 4)) pa_nil))) pa_nil))))))) (pe_k (ok__law_off T) hr (pa_cons (pv 0) (pa_cons pe_int pa_nil))) (fun _ _ => rfl)))
      (pss_cons (ps_set (i := 6) sc__law_bad.nd rfl (by first | exact Or.inl rfl | exact Or.inr rfl) (pe_op op_cat (pe_op op_cat (pe_op op_cat (pe_slice (slL K) (pv 2) po_none (po_some (pv 3))) (pe_lst (pa_cons (pv 5) pa_nil))) (pe_slice (slL K) (pv 2) (po_some (pv 3)) po_none)) (pe_op op_rep (pe_lst (pa_cons (pe_tup (pa_cons pe_int (pa_cons pe_int pa_nil))) pa_nil)) (pe_k (ok__law_off T) hr (pa_cons (pv 0) (pa_cons pe_int pa_nil))))))
      (pss_cons (ps_if (pt_cmpR op_eq (pe_k (ok__law_off T) hr (pa_cons (pv 0) (pa_cons pe_int pa_nil))) pe_int (nomark _)) (pss_one (ps_ret (pe_tup (pa_cons (pe_op op_rep (pe_lst (pa_cons (pe_tup (pa_cons pe_int (pa_cons pe_int pa_nil))) pa_nil)) (pe_op op_add pe_int (pe_k (ok__law_off T) hr (pa_cons (pv 0) (pa_cons pe_int pa_nil))))) (pa_cons pe_int pa_nil))))) pss_nil)
      (pss_one (ps_ret (pe_tup (pa_cons (pv 6) (pa_cons (pv 3) pa_nil)))))))))), ?_⟩
  -- where
  refine ⟨_, rfl, _, rfl, a, xs, rfl, .inl (del_same.seq hS), _, _, rfl, rfl, d, (xs.length : Int) + 1, D, rfl, by omega, by omega, hd, hk, fun r D1 r0 r1 k1 => ?_⟩
  obtain ⟨i, rfl⟩ : ∃ i : Nat, r = (i : Int) := ⟨r.toNat, by omega⟩
  have hi : i ≤ R.length := by omega
  have g1 : Same (del H d) (del (upd H d (.lst (D1.map V.int))) d) := sd_off
  have b1 : SameBut d H (upd H d (.lst (D1.map V.int))) := SameBut.upd
  have d1 : upd H d (.lst (D1.map V.int)) d = some (.lst (D1.map V.int)) := upd_same
  generalize upd H d (.lst (D1.map V.int)) = H1 at g1 b1 d1
  -- how far
  refine ⟨_, rfl, _, _, rfl, rfl, ⟨by decide, by decide, by decide⟩, d, (1000000 : Int), D1, rfl, by decide, by decide, d1, k1, fun r2 D2 r20 r21 k2 => ?_⟩
  refine ⟨_, _, rfl, rfl, _, _, rfl, ?_⟩
  generalize hfar : (if r2 - 500000 > 0 then r2 - 500000 else 0) = far
  have far0 : 0 ≤ far := by rw [← hfar]; split <;> omega
  replace g1 := g1.trans (sd_off (o := .lst (D2.map V.int)))
  replace b1 := b1.trans (SameBut.upd (o := .lst (D2.map V.int)))
  have d2 : upd H1 d (.lst (D2.map V.int)) d = some (.lst (D2.map V.int)) := upd_same
  generalize upd H1 d (.lst (D2.map V.int)) = H2 at g1 b1 d2
  -- the odd one
  have tup : ∀ {Hc : Hp} {x y : Int}, Same (del H d) (del Hc d) → SameBut d H Hc → Hc d = some (.lst (D2.map V.int)) → ∀ t, Hc t = none → Same (del Hc d) (del (upd Hc t (.tup [.int x, .int y])) d) ∧ Same (del H d) (del (upd Hc t (.tup [.int x, .int y])) d) ∧ SameBut d H (upd Hc t (.tup [.int x, .int y])) ∧ upd Hc t (.tup [.int x, .int y]) d = some (.lst (D2.map V.int)) ∧ del (upd Hc t (.tup [.int x, .int y])) d t = some (.tup [.int x, .int y]) :=
    fun {Hc x y} g b hc t nt => ⟨sd_new nt, g.trans (sd_new nt), b.trans (SameBut.of (same_new nt)), same_new nt _ _ hc, del_at hc nt⟩
  refine ⟨_, rfl, by show 2 ≤ sizeLine; decide, fun t1 nt1 => ?_⟩
  obtain ⟨u1, ga1, ba1, da1, ea1⟩ := tup (x := -1) (y := 0) g1 b1 d2 t1 nt1
  generalize upd H2 t1 (.tup [.int (-1), .int (0)]) = G1 at u1 ga1 ba1 da1 ea1
  refine ⟨_, rfl, by show 2 ≤ sizeLine; decide, fun t2 nt2 => ?_⟩
  obtain ⟨u2, ga2, ba2, da2, ea2⟩ := tup (x := 0) (y := n) ga1 ba1 da1 t2 nt2
  replace ea1 := u2 _ _ ea1
  generalize upd G1 t2 (.tup [.int (0), .int (n)]) = G2 at u2 ga2 ba2 da2 ea1 ea2
  refine ⟨_, rfl, _, rfl, by show 2 ≤ sizeLine; decide, fun t3 nt3 => ?_⟩
  obtain ⟨u3, ga3, ba3, da3, ea3⟩ := tup (x := n) (y := n) ga2 ba2 da2 t3 nt3
  replace ea1 := u3 _ _ ea1
  replace ea2 := u3 _ _ ea2
  generalize upd G2 t3 (.tup [.int (n), .int (n)]) = G3 at u3 ga3 ba3 da3 ea1 ea2 ea3
  refine ⟨_, rfl, _, _, rfl, rfl, _, rfl, _, _, rfl, rfl, _, rfl, _, _, rfl, rfl, by show 2 ≤ sizeLine; decide, fun t4 nt4 => ?_⟩
  obtain ⟨u4, ga4, ba4, da4, ea4⟩ := tup (x := (n : Int) - 1) (y := (n : Int) - 2 - far) ga3 ba3 da3 t4 nt4
  replace ea1 := u4 _ _ ea1
  replace ea2 := u4 _ _ ea2
  replace ea3 := u4 _ _ ea3
  generalize upd G3 t4 (.tup [.int ((n : Int) - 1), .int ((n : Int) - 2 - far)]) = G4 at u4 ga4 ba4 da4 ea1 ea2 ea3 ea4
  refine ⟨_, rfl, _, rfl, _, _, rfl, rfl, by show 2 ≤ sizeLine; decide, fun t5 nt5 => ?_⟩
  obtain ⟨u5, ga5, ba5, da5, ea5⟩ := tup (x := -1 - far) (y := 0) ga4 ba4 da4 t5 nt5
  replace ea1 := u5 _ _ ea1
  replace ea2 := u5 _ _ ea2
  replace ea3 := u5 _ _ ea3
  replace ea4 := u5 _ _ ea4
  generalize upd G4 t5 (.tup [.int (-1 - far), .int (0)]) = G5 at u5 ga5 ba5 da5 ea1 ea2 ea3 ea4 ea5
  refine ⟨_, rfl, _, rfl, _, _, rfl, rfl, by show 2 ≤ sizeLine; decide, fun t6 nt6 => ?_⟩
  obtain ⟨u6, ga6, ba6, da6, ea6⟩ := tup (x := 0) (y := (n : Int) + far) ga5 ba5 da5 t6 nt6
  replace ea1 := u6 _ _ ea1
  replace ea2 := u6 _ _ ea2
  replace ea3 := u6 _ _ ea3
  replace ea4 := u6 _ _ ea4
  replace ea5 := u6 _ _ ea5
  generalize upd G5 t6 (.tup [.int (0), .int ((n : Int) + far)]) = G6 at u6 ga6 ba6 da6 ea1 ea2 ea3 ea4 ea5 ea6
  refine ⟨by show 6 ≤ sizeLine; decide, fun l nl => ?_⟩
  have ndl : d ≠ l := ne_of_none da6 nl
  refine ⟨_, rfl, d, 6, D2, rfl, by decide, by decide, same_new nl _ _ da6, k2, fun r3 D3 r30 r31 k3 => ?_⟩
  have hl3 : upd (upd G6 l (.lst [.ref t1, .ref t2, .ref t3, .ref t4, .ref t5, .ref t6])) d (.lst (D3.map V.int)) l = some (.lst [.ref t1, .ref t2, .ref t3, .ref t4, .ref t5, .ref t6]) := by
    rw [upd_ne ndl.symm]
    exact upd_same
  obtain ⟨t, od, ht, hto, hod⟩ : ∃ (t : Addr) (od : Int × Int), atI [V.ref t1, .ref t2, .ref t3, .ref t4, .ref t5, .ref t6] r3 = some (.ref t) ∧ del G6 d t = some (.tup [.int od.1, .int od.2]) ∧ ¬ Good n od := by
    have c : r3 = 0 ∨ r3 = 1 ∨ r3 = 2 ∨ r3 = 3 ∨ r3 = 4 ∨ r3 = 5 := by omega
    rcases c with rfl | rfl | rfl | rfl | rfl | rfl
    · exact ⟨t1, (-1, 0), rfl, ea1, fun z => by have := z.1; simp at this⟩
    · exact ⟨t2, (0, n), rfl, ea2, fun z => by have := z.2.2; simp at this⟩
    · exact ⟨t3, (n, n), rfl, ea3, fun z => by have := z.2.2; simp at this⟩
    · exact ⟨t4, ((n : Int) - 1, (n : Int) - 2 - far), rfl, ea4, fun z => by have := z.2.1; simp only at this; omega⟩
    · exact ⟨t5, (-1 - far, 0), rfl, ea5, fun z => by have := z.1; simp only at this; omega⟩
    · exact ⟨t6, (0, (n : Int) + far), rfl, ea6, fun z => by have := z.2.2; simp only at this; omega⟩
  have u7 : Same (del G6 d) (del (upd (upd G6 l (.lst [.ref t1, .ref t2, .ref t3, .ref t4, .ref t5, .ref t6])) d (.lst (D3.map V.int))) d) := (sd_new nl).trans sd_off
  have b7 := (ba6.trans (SameBut.of (same_new (o := .lst [.ref t1, .ref t2, .ref t3, .ref t4, .ref t5, .ref t6]) nl))).trans (SameBut.upd (o := .lst (D3.map V.int)))
  have d7 : upd (upd G6 l (.lst [.ref t1, .ref t2, .ref t3, .ref t4, .ref t5, .ref t6])) d (.lst (D3.map V.int)) d = some (.lst (D3.map V.int)) := upd_same
  refine ⟨l, _, r3, _, rfl, rfl, SqL.of hl3, ht, ?_⟩
  replace ea1 := u7 _ _ hto
  replace ga1 := ga6.trans u7
  generalize upd (upd G6 l (.lst [.ref t1, .ref t2, .ref t3, .ref t4, .ref t5, .ref t6])) d (.lst (D3.map V.int)) = H3 at b7 d7 ea1 ga1 hl3 u7
  -- the bad set: the ranges up to i, the odd one, those behind, others
  have hS3 : SqL K H3 a xs := del_same.seq (ga1.seq hS)
  have hA3 : DpAll K (del H3 d) xs (R.map eP) := same_dpAll ga1 hA
  refine ⟨_, rfl, _, rfl, (i : Int), rfl, a, xs, rfl, hS3, fun c1 nc1 => ?_⟩
  rw [cut_to]
  refine ⟨_, rfl, by show 1 ≤ sizeLine; decide, fun c2 nc2 => ?_⟩
  refine ⟨c1, c2, _, _, rfl, rfl, same_new nc2 _ _ upd_same, upd_same, Nat.le_of_lt (sizeOk (by rw [List.length_take]; show min i xs.length + 1 ≤ _; omega)), fun c3 nc3 => ?_⟩
  have v1 : Same H3 (upd (upd (upd H3 c1 (.lst (xs.take i))) c2 (.lst [.ref t])) c3 (.lst (xs.take i ++ [.ref t]))) := (same_new nc1).trans ((same_new nc2).trans (same_new nc3))
  have ec3 : upd (upd (upd H3 c1 (.lst (xs.take i))) c2 (.lst [.ref t])) c3 (.lst (xs.take i ++ [.ref t])) c3 = some (.lst (xs.take i ++ [.ref t])) := upd_same
  generalize upd (upd (upd H3 c1 (.lst (xs.take i))) c2 (.lst [.ref t])) c3 (.lst (xs.take i ++ [.ref t])) = G7 at v1 ec3
  refine ⟨_, rfl, _, rfl, (i : Int), rfl, a, xs, rfl, v1.seq hS3, fun c4 nc4 => ?_⟩
  rw [cut_from]
  refine ⟨c3, c4, _, _, rfl, rfl, same_new nc4 _ _ ec3, upd_same, Nat.le_of_lt (sizeOk (by rw [List.length_append, List.length_take, List.length_drop]; show min i xs.length + 1 + (xs.length - i) ≤ _; omega)), fun c5 nc5 => ?_⟩
  have n5 : d ≠ c5 := ne_of_none (same_new nc4 _ _ (v1 _ _ d7)) nc5
  have v2 : Same H3 (upd (upd G7 c4 (.lst (xs.drop i))) c5 (.lst (xs.take i ++ [.ref t] ++ xs.drop i))) := v1.trans ((same_new nc4).trans (same_new nc5))
  have ec5 : upd (upd G7 c4 (.lst (xs.drop i))) c5 (.lst (xs.take i ++ [.ref t] ++ xs.drop i)) c5 = some (.lst (xs.take i ++ [.ref t] ++ xs.drop i)) := upd_same
  generalize upd (upd G7 c4 (.lst (xs.drop i))) c5 (.lst (xs.take i ++ [.ref t] ++ xs.drop i)) = G8 at v2 ec5
  refine ⟨by show 2 ≤ sizeLine; decide, fun p1 np1 => ⟨by show 1 ≤ sizeLine; decide, fun p2 np2 => ?_⟩⟩
  have v3 : Same G8 (upd (upd G8 p1 (.tup [.int 0, .int 99])) p2 (.lst [.ref p1])) := (same_new np1).trans (same_new np2)
  have ep1 : upd (upd G8 p1 (.tup [.int 0, .int 99])) p2 (.lst [.ref p1]) p1 = some (.tup [.int 0, .int 99]) := same_new np2 _ _ upd_same
  have ep2 : upd (upd G8 p1 (.tup [.int 0, .int 99])) p2 (.lst [.ref p1]) p2 = some (.lst [.ref p1]) := upd_same
  have n1 : d ≠ p1 := ne_of_none (v2 _ _ d7) np1
  have n2 : d ≠ p2 := ne_of_none (same_new np1 _ _ (v2 _ _ d7)) np2
  generalize upd (upd G8 p1 (.tup [.int 0, .int 99])) p2 (.lst [.ref p1]) = G9 at v3 ep1 ep2
  refine ⟨_, rfl, d, 2, D3, rfl, by decide, by decide, v3 _ _ (v2 _ _ d7), k3, fun r4 D4 r40 r41 k4 => ?_⟩
  have w1 : Same (del H3 d) (del (upd G9 d (.lst (D4.map V.int))) d) := (del_mono (v2.trans v3)).trans sd_off
  have b8 : SameBut d H (upd G9 d (.lst (D4.map V.int))) := (b7.trans (SameBut.of (v2.trans v3))).trans SameBut.upd
  have d8 : upd G9 d (.lst (D4.map V.int)) d = some (.lst (D4.map V.int)) := upd_same
  have f1 : del (upd G9 d (.lst (D4.map V.int))) d p1 = some (.tup [.int 0, .int 99]) := by
    rw [del_upd_self, del_ne n1.symm]
    exact ep1
  have f2 : upd G9 d (.lst (D4.map V.int)) p2 = some (.lst [.ref p1]) := by
    rw [upd_ne n2.symm]
    exact ep2
  have f5 : upd G9 d (.lst (D4.map V.int)) c5 = some (.lst (xs.take i ++ [.ref t] ++ xs.drop i)) := by
    rw [upd_ne n5.symm]
    exact v3 _ _ ec5
  generalize upd G9 d (.lst (D4.map V.int)) = H4 at w1 b8 d8 f1 f2 f5
  refine ⟨p2, r4, _, rfl, rfl, f2, by omega, by omega, Nat.le_of_lt (sizeOk (by show 1 * r4.toNat ≤ _; omega)), fun p3 np3 => ?_⟩
  have hrl : (List.replicate r4.toNat [V.ref p1]).flatten.length = r4.toNat := by rw [List.length_flatten]; simp
  refine ⟨c5, p3, _, _, rfl, rfl, same_new np3 _ _ f5, upd_same, Nat.le_of_lt (sizeOk (by rw [List.length_append, List.length_append, List.length_take, List.length_drop, hrl]; show min i xs.length + 1 + (xs.length - i) + r4.toNat ≤ _; omega)), fun p4 np4 => ?_⟩
  have f3 := same_new (o := .lst (List.replicate r4.toNat [V.ref p1]).flatten) np3
  have hB : DpAll K (del H4 d) (xs.take i ++ [.ref t] ++ xs.drop i ++ (List.replicate r4.toNat [V.ref p1]).flatten) ((R.take i ++ [od] ++ R.drop i ++ List.replicate r4.toNat (0, 99)).map eP) := by
    rw [List.map_append, List.map_append, List.map_append, List.map_take, List.map_drop, List.map_replicate]
    exact dpAll_app (dpAll_app (dpAll_app (dpAll_take i (same_dpAll w1 hA3)) (.cons (pair_dp (w1 _ _ ea1)) .nil)) (dpAll_drop i (same_dpAll w1 hA3))) (dpAll_rep (pair_dp f1) _)
  obtain ⟨Y, hY⟩ : ∃ Y, Y = xs.take i ++ [.ref t] ++ xs.drop i ++ (List.replicate r4.toNat [V.ref p1]).flatten := ⟨_, rfl⟩
  rw [← hY] at hB ⊢
  have w2 : Same H4 (upd (upd H4 p3 (.lst (List.replicate r4.toNat [V.ref p1]).flatten)) p4 (.lst Y)) := f3.trans (same_new np4)
  have f4 : del (upd (upd H4 p3 (.lst (List.replicate r4.toNat [V.ref p1]).flatten)) p4 (.lst Y)) d p4 = some (.lst Y) := del_at (f3 _ _ d8) np4
  generalize upd (upd H4 p3 (.lst (List.replicate r4.toNat [V.ref p1]).flatten)) p4 (.lst Y) = H5 at w2 f4
  have hB5 : Dp K (del H5 d) (.ref p4) (eR (R.take i ++ [od] ++ R.drop i ++ List.replicate r4.toNat (0, 99))) := .lst (SqL.of f4) (same_dpAll (del_mono w2) hB)
  have b9 := b8.trans (SameBut.of w2)
  have d9 := w2 _ _ d8
  refine ⟨_, rfl, d, 4, D4, rfl, by decide, by decide, d9, k4, fun r5 D5 r50 r51 k5 => ?_⟩
  have b10 := b9.trans (SameBut.upd (o := .lst (D5.map V.int)))
  have d10 : upd H5 d (.lst (D5.map V.int)) d = some (.lst (D5.map V.int)) := upd_same
  have hB6 : Dp K (del (upd H5 d (.lst (D5.map V.int))) d) (.ref p4) (eR (R.take i ++ [od] ++ R.drop i ++ List.replicate r4.toNat (0, 99))) := same_dp sd_off hB5
  generalize upd H5 d (.lst (D5.map V.int)) = H6 at b10 d10 hB6
  refine ⟨rfl, _, rfl, ite2 (fun c => ?_) (fun c => ?_)⟩
  · refine ⟨by show 2 ≤ sizeLine; decide, fun p5 np5 => ⟨by show 1 ≤ sizeLine; decide, fun p6 np6 => ?_⟩⟩
    have x1 : Same H6 (upd (upd H6 p5 (.tup [.int 0, .int 0])) p6 (.lst [.ref p5])) := (same_new np5).trans (same_new np6)
    have x2 : upd (upd H6 p5 (.tup [.int 0, .int 0])) p6 (.lst [.ref p5]) p5 = some (.tup [.int 0, .int 0]) := same_new np6 _ _ upd_same
    have x3 : upd (upd H6 p5 (.tup [.int 0, .int 0])) p6 (.lst [.ref p5]) p6 = some (.lst [.ref p5]) := upd_same
    have m1 : d ≠ p5 := ne_of_none d10 np5
    have m2 : d ≠ p6 := ne_of_none (same_new np5 _ _ d10) np6
    generalize upd (upd H6 p5 (.tup [.int 0, .int 0])) p6 (.lst [.ref p5]) = H7 at x1 x2 x3
    refine ⟨_, rfl, d, 3, D5, rfl, by decide, by decide, x1 _ _ d10, k5, fun r6 D6 r60 r61 k6 => ?_⟩
    have b11 := (b10.trans (SameBut.of x1)).trans (SameBut.upd (o := .lst (D6.map V.int)))
    have d11 : upd H7 d (.lst (D6.map V.int)) d = some (.lst (D6.map V.int)) := upd_same
    have y1 : del (upd H7 d (.lst (D6.map V.int))) d p5 = some (.tup [.int 0, .int 0]) := by
      rw [del_upd_self, del_ne m1.symm]
      exact x2
    have y2 : upd H7 d (.lst (D6.map V.int)) p6 = some (.lst [.ref p5]) := by
      rw [upd_ne m2.symm]
      exact x3
    generalize upd H7 d (.lst (D6.map V.int)) = H8 at b11 d11 y1 y2
    refine ⟨_, _, rfl, rfl, p6, 41 + r6, _, rfl, rfl, y2, by omega, by omega, Nat.le_of_lt (sizeOk (by show 1 * (41 + r6).toNat ≤ _; omega)), fun p7 np7 => ⟨by show 2 ≤ sizeLine; decide, fun p8 np8 => ?_⟩⟩
    have z1 := (same_new (o := .lst (List.replicate (41 + r6).toNat [V.ref p5]).flatten) np7).trans (same_new (o := .tup [.ref p7, .int 40]) np8)
    refine q _ D6 p8 (.ref p7) 40 (List.replicate (41 + r6).toNat (0, 0)) (b11.trans (SameBut.of z1)) (z1 _ _ d11) k6 upd_same (.lst (xs := (List.replicate (41 + r6).toNat [V.ref p5]).flatten) (SqL.of ?_) ?_) (badAt_many (by omega) (by omega))
    · exact del_mono (same_new np8) _ _ (del_at d11 np7)
    · rw [List.map_replicate]
      exact same_dpAll (del_mono z1) (dpAll_rep (pair_dp y1) _)
  · refine ⟨_, rfl, _, rfl, by show 2 ≤ sizeLine; decide, fun p5 np5 => ?_⟩
    exact q _ D5 p5 (.ref p4) i _ (b10.trans (SameBut.of (same_new np5))) (same_new np5 _ _ d10) k5 upd_same (same_dp (sd_new np5) hB6) (badAt_ins hR hi hl hod)
end
section
variable {P : Program} {w : World} {K : PySem.W.Frag} {mg : Str → Option Value} {base : Heap}
/-! ### the law: what is known between its steps -/
theorem takes00 {X : Cx} : L2N.Takes X fun cls d _ H => E0 cls d H := takesN0
def LawPre (K : PySem.W.Frag) : TS := fun k σ H => ∃ (d : Addr) (D : List Int) (n : Nat) (vr vb : V) (R S : List (Int × Int)) (i : Nat) (G : Hp) (s0 s6 s7 s8 s9 s10 s11 s12 : Option V), σ = [s0, some (.ref d), some (.int n), some vr, some vb, some (.int i), s6, s7, s8, s9, s10, s11, s12] ∧
  1 ≤ n ∧ n ≤ 64 ∧ Ok n R ∧ BadAt n S i ∧ Dp K G vr (eR R) ∧ Dp K G vb (eR S) ∧ Sit (tabsK K) d D G H ∧ ∀ H', k.rt (.bl true) H'
abbrev lawX (P : Program) (w : World) (K : PySem.W.Frag) (mg : Str → Option Value) (base : Heap) (f : Addr) (cdv : Value) (A : Around) (outer : List Env) (s : Shared) (H : Hp) (E : XK) : Cx := (cxOf CX0 P w K mg base n_law "law" (defScope s_law) f cdv A outer s H E).nox
theorem law_hu {K : PySem.W.Frag} {mg : Str → Option Value} (T : Tx K mg) : ∀ p ∈ tabsK K, p.1 = tbl3 K "law" → p.2 = lamN "law" := fun p hp e => by
  obtain ⟨d1, d2, d3⟩ := T.dis
  rcases List.mem_cons.mp hp with z | hp
  · rw [z]
  rcases List.mem_cons.mp hp with z | hp
  · rw [z] at e
    exact absurd e.symm d1
  · have z := List.mem_singleton.mp hp
    rw [z] at e
    exact absurd e.symm d2
theorem law_hm {K : PySem.W.Frag} : (tbl3 K "law", lamN "law") ∈ tabsK K := .head _
/-- a work that is refused, by what stands in H -/
def Wk (P : Program) (w : World) (K : PySem.W.Frag) (mg : Str → Option Value) (X : Cx) (cs : List (Str × V)) (G : Hp) (kd : Kd) (H : Hp) (g : Addr) : Prop := ∀ B, CBs X cs B → ExtB H B → ∀ H2, Same G H2 → Fails P w K mg B g kd H2
theorem Wk.ek {X : Cx} {cs : List (Str × V)} {G H H' : Hp} {kd : Kd} {g : Addr} (h : Wk P w K mg X cs G kd H g) (e : EK H H') : Wk P w K mg X cs G kd H' g := fun B cb x => h B cb (x.ek e)
theorem wk_all {X : Cx} {cs : List (Str × V)} {G H H' : Hp} {kd : Kd} {fs : List Addr} (h : ∀ g ∈ fs, Wk P w K mg X cs G kd H g) (e : EK H H') : ∀ g ∈ fs, Wk P w K mg X cs G kd H' g := fun g hg => (h g hg).ek e
theorem wk_app {X : Cx} {cs : List (Str × V)} {G H : Hp} {kd : Kd} {fs gs : List Addr} (h : ∀ g ∈ fs, Wk P w K mg X cs G kd H g) (h2 : ∀ g ∈ gs, Wk P w K mg X cs G kd H g) : ∀ g ∈ fs ++ gs, Wk P w K mg X cs G kd H g := fun g hg => (List.mem_append.mp hg).elim (h g) (h2 g)
theorem wk_one {X : Cx} {cs : List (Str × V)} {G H : Hp} {kd : Kd} {f : Addr} (h : Wk P w K mg X cs G kd H f) : ∀ g ∈ [f], Wk P w K mg X cs G kd H g := fun g hg => by
  rw [List.mem_singleton.mp hg]
  exact h
theorem wk_single {X : Cx} {cs : List (Str × V)} {G H : Hp} {kd : Kd} {g : Addr} {n : Int} {v : V} {R : List (Int × Int)} (h : LmH P w K mg 9 H g (fun H _ E => OneX K n v H E)) (hD : Dp K G v (eR R)) (hb : Bad1 n R kd) : Wk P w K mg X cs G kd H g := fun B _ x H2 s => ⟨_, h B x, fun Q E thr => ⟨R, kd, same_dp s hD, hb, thr⟩⟩
theorem wk_several {X : Cx} {cs : List (Str × V)} {G H : Hp} {kd : Kd} {g : Addr} {n : Int} {v : V} {SS : List (List (Int × Int))} (h : LmH P w K mg 9 H g (fun H _ E => SevX K n v H E)) (hD : Dp K G v (eRs SS)) (hb : BadS n SS kd) : Wk P w K mg X cs G kd H g := fun B _ x H2 s => ⟨_, h B x, fun Q E thr => ⟨SS, kd, same_dp s hD, hb, thr⟩⟩
theorem none_left {K : PySem.W.Frag} {H' : Hp} {D : Addr} {Q : Bool → Hp → Prop} (hD : H' D = some (.lst [])) (q : ∀ H2, Same H' H2 → Q false H2) : ([] : List V).length ≤ sizeLine ∧ ∀ p, H' p = none → rNeD K (.ref D) (.ref p) (upd H' p (.lst [])) fun x H2 => ∃ k, x = .bl k ∧ Q k H2 := by
  refine ⟨Nat.zero_le _, fun p np => ?_⟩
  have sh0 : Sh 1 (.list []) := sh_nil
  refine ⟨.list [], .list [], .lst (SqL.of (same_new np _ _ hD)) .nil, .lst (SqL.of upd_same) .nil, sh0.shaped, sh0.shaped, _, rfl, ?_⟩
  rw [SeqAt.eqv_refl _ sh0.1]
  exact q _ (same_new np)
end
section
variable {P : Program} {w : World} {K : PySem.W.Frag} {mg : Str → Option Value} {base : Heap}
theorem tr_none (n : Nat) : TR n (has []) = [] := by
  have e : (upTo n).filter (has []) = [] := List.filter_eq_nil_iff.mpr fun k _ => by
    unfold has
    simp
  unfold TR
  rw [e]
  rfl
theorem classes_none : ∀ n : Fin 65, 1 ≤ n.1 → classesOf n.1 [] = [[(0, (n.1 : Int) - 1)]] := by decide +kernel
theorem law_f (T : Tx K mg) {f : Addr} {cdv : Value} {A : Around} {outer : List Env} {s : Shared} {H0 : Hp} {E : XK} (hr : Room 11 (A.deeper (envOfC "law" (defScope s_law) s.heap.objs.size f cdv))) : PSs (lawX P w K mg base f cdv A outer s H0 E) ((defBody s_law).drop 22) (LawPre K) := pss_pre fun k σ H h => by
  obtain ⟨d, D, n, vr, vb, R, S, i, G, s0, s6, s7, s8, s9, s10, s11, s12, rfl, hn1, hn2, hR, hB, hvr, hvb, St, q⟩ := h
  refine ⟨_, (pss_one (ps_ret (pe_and (pe_cmpR (eqD K hr.units) (pe_kX (E := E0) (ok_plain T) hr takes00 (pa_cons (pv 2) (pa_cons (pe_lst pa_nil) pa_nil))) (pe_lst pa_nil) (nomark _)) (pe_one (pe_cmpR (eqD K hr.units) (pe_kX (E := E0) (ok_classes T) hr takes00 (pa_cons (pv 2) (pa_cons (pe_lst pa_nil) pa_nil))) (pe_lst (pa_cons (pe_lst (pa_cons (pe_tup (pa_cons pe_int (pa_cons (pe_op op_sub (pv 2) pe_int) pa_nil))) pa_nil)) pa_nil)) (nomark _)))))), ?_⟩
  have ok0 : Ok (n : Int) [] := ⟨Nat.zero_le _, fun r hr => by cases hr⟩
  refine ⟨_, rfl, Nat.zero_le _, fun l1 n1 => .inl ⟨n, .ref l1, [], rfl, hn1, hn2, .lst (SqL.of upd_same) .nil, ok0, fun H1 p1 e1 v1 => ⟨Nat.zero_le _, fun l2 n2 => ?_⟩⟩⟩
  rw [tr_none] at v1
  have sh0 : Sh 1 (.list []) := sh_nil
  refine ⟨eR [], .list [], same_dp (same_new n2) v1.dp, .lst (SqL.of upd_same) .nil, sh0.shaped, sh0.shaped, _, rfl, itT ?_ ?_⟩
  · exact SeqAt.eqv_refl _ sh0.1
  refine ⟨_, rfl, Nat.zero_le _, fun l3 n3 => .inl ⟨n, .ref l3, [], rfl, hn1, hn2, .lst (SqL.of upd_same) .nil, Nat.zero_le _, fun R hR => (by cases hR), fun H2 p2 e2 v2 => ?_⟩⟩
  rw [classes_none ⟨n, by omega⟩ hn1] at v2
  refine ⟨_, rfl, _, _, rfl, rfl, by show 2 ≤ sizeLine; decide, fun l4 n4 => ⟨by show 1 ≤ sizeLine; decide, fun l5 n5 => ⟨by show 1 ≤ sizeLine; decide, fun l6 n6 => ?_⟩⟩⟩
  have z5 := same_new (o := .lst [.ref l4]) n5
  have z6 := same_new (o := .lst [.ref l5]) n6
  have shp := Sh.eRs (n := 0) [[((0 : Int), (n : Int) - 1)]]
  have dp : Dp K (upd (upd (upd H2 l4 (.tup [.int 0, .int ((n : Int) - 1)])) l5 (.lst [.ref l4])) l6 (.lst [.ref l5])) (.ref l6) (eRs [[((0 : Int), (n : Int) - 1)]]) := .lst (SqL.of upd_same) (.cons (.lst (SqL.of (z6 _ _ upd_same)) (.cons (pair_dp ((z5.trans z6) _ _ upd_same)) .nil)) .nil)
  refine ⟨_, _, same_dp ((same_new n4).trans (z5.trans z6)) v2.dp, dp, shp.shaped, shp.shaped, ?_⟩
  rw [SeqAt.eqv_refl _ shp.1]
  exact q _
end
section
variable {P : Program} {w : World} {K : PySem.W.Frag} {mg : Str → Option Value} {base : Heap}
theorem law_e (T : Tx K mg) (B3 : TB3 K mg base) {f : Addr} {cdv : Value} {A : Around} {outer : List Env} {s : Shared} {H0 : Hp} {E : XK} (hcode : cdv = .ref (He.cT K ("law", none)).1) (hr : Room 11 (A.deeper (envOfC "law" (defScope s_law) s.heap.objs.size f cdv)))
    (tail : PSs (lawX P w K mg base f cdv A outer s H0 E) ((defBody s_law).drop 22) (LawPre K)) : PSs (lawX P w K mg base f cdv A outer s H0 E) ((defBody s_law).drop 15) (LawPre K) := pss_pre fun k σ H h => by
  obtain ⟨d, D, n, vr, vb, R, S, i, G, s0, s6, s7, s8, s9, s10, s11, s12, rfl, hn1, hn2, hR, hB, hvr, hvb, St, q⟩ := h
  have sz : SizeOk n := ⟨by omega, by omega⟩
  have hm := law_hm (K := K)
  have hu := law_hu T
  let X := lawX P w K mg base f cdv A outer s H0 E
  refine ⟨_, (pss_cons (ps_set (i := 11) sc_law.nd rfl (by first | exact Or.inl rfl | exact Or.inr rfl) (pe_ix (ixL K) (pe_lst (pa_cons (pe_un un_neg pe_int) (pa_cons (pv 2) (pa_cons (pe_op op_add (pv 2) (pe_op op_pow pe_int pe_int)) pa_nil)))) (pe_k (ok__law_off T) hr (pa_cons (pv 1) (pa_cons pe_int pa_nil))) (fun _ _ => rfl)))
      (pss_cons (ps_set (i := 12) sc_law.nd rfl (by first | exact Or.inl rfl | exact Or.inr rfl) (pe_kX (E := E0) (ok_table T) hr takes00 (pa_cons (pv 2) (pa_cons (pe_lst (pa_cons (pv 3) pa_nil)) (pa_cons pe_int pa_nil)))))
      (pss_cons (ps_set (i := 7) sc_law.nd rfl (by first | exact Or.inl rfl | exact Or.inr rfl) (pe_lst (pa_cons (pe_lam (T := tabsK K) B3.a (by exact hcode) (by exact hm) (by exact hu) (NdefX.ndef_free (sc := defScope s_law) (fr := ["_law_size_here", "_law_ranges", "_law_far"]) (by decide +kernel)) rfl) (pa_cons (pe_lam1 (T := tabsK K) B3.a (by exact hcode) (by exact hm) (by exact hu) (NdefX.ndef_free (sc := defScope s_law) (fr := ["_law_size_here", "_law_found", "_law_far"]) (by decide +kernel)) rfl) pa_nil))))
      (pss_cons (ps_expr (pe_bm PySem.F.plainAttrs_list PySem.F.slot_list_append PySem.F.type_list_append mt_append (pv 7) (pa_cons (pe_lam1 (T := tabsK K) B3.a (by exact hcode) (by exact hm) (by exact hu) (NdefX.ndef_free (sc := defScope s_law) (fr := ["_law_size_here", "_law_found"]) (by decide +kernel)) rfl) pa_nil)))
      (pss_cons (ps_set (i := 7) sc_law.nd rfl (by first | exact Or.inl rfl | exact Or.inr rfl) (pe_op op_cat (pv 7) (pe_lst (pa_cons (pe_lam1 (T := tabsK K) B3.a (by exact hcode) (by exact hm) (by exact hu) (NdefX.ndef_free (sc := defScope s_law) (fr := ["_law_size_here", "_law_found"]) (by decide +kernel)) rfl) (pa_cons (pe_lam1 (T := tabsK K) B3.a (by exact hcode) (by exact hm) (by exact hu) (NdefX.ndef_free (sc := defScope s_law) (fr := ["_law_size_here", "_law_ranges"]) (by decide +kernel)) rfl) pa_nil)))))
      (pss_cons (ps_expr (pe_bm PySem.F.plainAttrs_list PySem.F.slot_list_append PySem.F.type_list_append mt_append (pv 7) (pa_cons (pe_lam1 (T := tabsK K) B3.a (by exact hcode) (by exact hm) (by exact hu) (NdefX.ndef_free (sc := defScope s_law) (fr := ["_law_size_here"]) (by decide +kernel)) rfl) pa_nil)))
      (pss_cons (ps_if (pt_cmpR (neD K hr.units) (pe_lcz (Z := Calm) (own := [("_law_work", 8)]) (g := gName 8) (fun _ _ _ _ _ => rfl) (fun _ => rfl) sc_law.nd (piz_calm (piL K (pv 7))) (blkOk_by (own := [("_law_work", 8)]) (N := n_law) (sc := defScope s_law) (by decide +kernel)) (fun _ _ _ _ _ _ => pg_name (i := 8) sc_law.nd rfl (by first | exact Or.inl rfl | exact Or.inr rfl)) (fun B _ _ _ _ _ => pts_one (pt_not (pt_val (pe_k (k := 11) (sp := spRefused P w K mg B) (ok__law_refused (P := P) (w := w) (base := B) T) hr (pa_cons (pv 8) (pa_cons pe_str (pa_cons pe_int pa_nil))))))) (fun _ _ _ _ _ _ => pv 8)) (pe_lst pa_nil) (nomark _)) (pss_one (ps_ret pe_bl)) pss_nil)
      tail))))))), ?_⟩
  -- a number that cannot be
  refine ⟨_, rfl, _, rfl, _, rfl, _, _, rfl, rfl, ⟨by decide, by decide, by decide⟩, _, _, rfl, rfl, by show 3 ≤ sizeLine; decide, fun l1 n1 => ?_⟩
  have m1 : l1 ≠ d := (ne_of_none St.hd n1).symm
  have St1 := St.same (same_new (o := .lst [.int (-1), .int n, .int ((n : Int) + (10 : Int) ^ Int.toNat 6)]) n1)
  have L1 : upd H l1 (.lst [.int (-1), .int n, .int ((n : Int) + (10 : Int) ^ Int.toNat 6)]) l1 = some (.lst [.int (-1), .int n, .int ((n : Int) + (10 : Int) ^ Int.toNat 6)]) := upd_same
  generalize upd H l1 (.lst [.int (-1), .int n, .int ((n : Int) + (10 : Int) ^ Int.toNat 6)]) = H1 at St1 L1
  refine ⟨_, rfl, d, 3, D, rfl, by decide, by decide, St1.hd, St1.ok, fun r D1 r0 r1 k1 => ?_⟩
  have St2 := St1.dice (D' := D1) k1
  replace L1 := (upd_ne (o := .lst (D1.map V.int)) m1).trans L1
  generalize upd H1 d (.lst (D1.map V.int)) = H2 at St2 L1
  obtain ⟨far, hfar, nfar⟩ : ∃ far : Int, atI [V.int (-1), .int n, .int ((n : Int) + (10 : Int) ^ Int.toNat 6)] r = some (.int far) ∧ ¬ (0 ≤ far ∧ far < (n : Int)) := by
    have c : r = 0 ∨ r = 1 ∨ r = 2 := by omega
    rcases c with rfl | rfl | rfl
    · exact ⟨-1, rfl, by omega⟩
    · exact ⟨n, rfl, by omega⟩
    · have e : (10 : Int) ^ Int.toNat 6 = 1000000 := by decide
      exact ⟨(n : Int) + (10 : Int) ^ Int.toNat 6, rfl, by omega⟩
  refine ⟨l1, _, r, _, rfl, rfl, SqL.of L1, hfar, ?_⟩
  -- a table of one set
  refine ⟨_, rfl, _, rfl, by show 1 ≤ sizeLine; decide, fun p3 n3 => ?_⟩
  have m3 : p3 ≠ d := (ne_of_none St2.hd n3).symm
  have St3 := St2.same (same_new (o := .lst [vr]) n3)
  have L3 : upd H2 p3 (.lst [vr]) p3 = some (.lst [vr]) := upd_same
  generalize upd H2 p3 (.lst [vr]) = H3 at St3 L3
  refine .inl ⟨n, .ref p3, [R], 1, rfl, hn1, hn2, Nat.le_refl _, hn1, .lst (xs := [vr]) (SqL.of L3) (.cons (same_dp St3.sm hvr) .nil), by show 1 ≤ 1000; decide, fun Z hZ => by rw [List.mem_singleton.mp hZ]; exact hR, fun H4 v4 s4 nv4 => ?_⟩
  obtain ⟨t5, x5, y5, rfl, ft5, ht5, nx5, ny5⟩ := newV_pair nv4
  obtain ⟨a5, z5, rfl, fa5, ha5, da5⟩ := newV_list nx5
  have hx5 : z5.length = 1 := by rw [da5.len, List.length_map]; rfl
  have St4 := St3.same s4
  have mt : t5 ≠ d := (ne_of_none St3.hd ft5).symm
  have ma : a5 ≠ d := (ne_of_none St3.hd fa5).symm
  have hT : SqT K (dat d H4) t5 [.ref a5, y5] := SqT.of (dat_of mt ht5 (fun _ z => by cases z) fun _ z => by cases z)
  have hS : SqL K (dat d H4) a5 z5 := SqL.of (dat_of ma ha5 (fun _ z => by cases z) fun _ z => by cases z)
  have hvr5 := same_dp St4.big hvr
  have hvb5 := same_dp St4.big hvb
  have St5 := St4.again
  change tSeq _ _ _ _ H4
  generalize dat d H4 = G5 at St5 hT hS hvr5 hvb5
  let cs : List (Str × V) := [("_law_size_here", .int n), ("_law_ranges", vr), ("_law_far", .int far), ("_law_found", .ref t5)]
  refine ⟨St5.tb, fun f6 c6 H6 e6 m6 T6 nf6 lf6 cf6 => ⟨T6, fun f7 c7 t7 H7 e7 m7 T7 nf7 lf7 cf7 tf7 => ⟨by show 2 ≤ sizeLine; decide, fun l nl => ?_⟩⟩⟩
  have W6 : Wk P w K mg X cs G5 .number H6 f6 := fun B cb x Hb sb => ⟨fun H Q E => spInsideX K [.int n, vr, .int far] H Q E, lm_c0 (k := 8) (fr := ["_law_size_here", "_law_ranges", "_law_far"]) (ws := [.int n, vr, .int far]) [0, 1, 2] cb x lf6 cf6 rfl rfl rfl (NdefX.nscope_by (by kernel_rfl)) (fun _ _ _ => rfl) (fun A outer s H Q E hr h =>
    ⟨_, pe_kX (E := E) (ok_inside T) hr (L2N.takes_of rfl rfl rfl rfl) (pa_cons (pv 0) (pa_cons (pv 1) (pa_cons (pv 2) pa_nil))), ⟨_, rfl, _, rfl, _, rfl, h⟩⟩), fun Q E thr => ⟨n, vr, far, rfl, .inr ⟨n, R, rfl, hn1, hn2, same_dp sb hvr5, hR, nfar, thr⟩⟩⟩
  have W7 : Wk P w K mg X cs G5 .number H7 f7 := fun B cb x Hb sb => ⟨fun H Q E => spLookX K [.int n, .ref t5, .int 0, .int far] H Q E, lm_c1 (k := 8) (a := "_law_a") (fr := ["_law_size_here", "_law_found", "_law_far"]) (ws := [.int n, .ref t5, .int far]) [0, 3, 2] cb x lf7 cf7 tf7 rfl rfl rfl (NdefX.nscope_by (by kernel_rfl)) rfl (fun _ _ _ => ⟨_, rfl, fun _ => rfl⟩) (fun A outer s H Q E hr h =>
    ⟨_, pe_kX (E := E) (ok_look T) hr (L2N.takes_of rfl rfl rfl rfl) (pa_cons (pv 1) (pa_cons (pv 2) (pa_cons pe_int (pa_cons (pv 3) pa_nil)))), ⟨_, rfl, _, rfl, _, rfl, h⟩⟩), fun Q E thr => ⟨n, .ref t5, 0, far, rfl, .inr ⟨sz, t5, a5, _, y5, rfl, same_tup sb hT, sb.seq hS, .inr nfar, thr⟩⟩⟩
  have St7 := ((St5.lam e6 T6).lam e7 T7)
  have gl : G5 l = none := St7.free nl
  have dl : d ≠ l := ne_of_none St7.hd nl
  have St8 : Sit (tabsK K) d D1 G5 (upd H7 l (.lst ([f6, f7].map V.ref))) := St7.same (same_new nl)
  have A8 : ∀ g ∈ [f6, f7], Wk P w K mg X cs G5 .number (upd H7 l (.lst ([f6, f7].map V.ref))) g := wk_app (fs := [f6]) (gs := [f7]) (wk_one (W6.ek ((EK.lam e7).trans (EK.same (same_new nl))))) (wk_one (W7.ek (EK.same (same_new nl))))
  have L8 : upd H7 l (.lst ([f6, f7].map V.ref)) l = some (.lst ([f6, f7].map V.ref)) := upd_same
  change tSeq _ _ _ _ (upd H7 l (.lst ([f6, f7].map V.ref)))
  generalize upd H7 l (.lst ([f6, f7].map V.ref)) = H8 at St8 A8 L8
  refine ⟨_, rfl, .inl ⟨rfl, _, SqL.of L8⟩, St8.tb, fun f8 c8 t8 H9 e8 m8 T8 nf8 lf8 cf8 tf8 => ?_⟩
  have W8 : Wk P w K mg X cs G5 .number H9 f8 := fun B cb x Hb sb => ⟨fun H Q E => spLookX K [.int n, .ref t5, .int 1, .int 0] H Q E, lm_c1 (k := 8) (a := "_law_b") (fr := ["_law_size_here", "_law_found"]) (ws := [.int n, .ref t5]) [0, 3] cb x lf8 cf8 tf8 rfl rfl rfl (NdefX.nscope_by (by kernel_rfl)) rfl (fun _ _ _ => ⟨_, rfl, fun _ => rfl⟩) (fun A outer s H Q E hr h =>
    ⟨_, pe_kX (E := E) (ok_look T) hr (L2N.takes_of rfl rfl rfl rfl) (pa_cons (pv 1) (pa_cons (pv 2) (pa_cons pe_int (pa_cons pe_int pa_nil)))), ⟨_, rfl, _, rfl, h⟩⟩), fun Q E thr => ⟨n, .ref t5, 1, 0, rfl, .inr ⟨sz, t5, a5, _, y5, rfl, same_tup sb hT, sb.seq hS, .inl (by rw [hx5]; decide), thr⟩⟩⟩
  have M8 : H9 l = some (.lst ([f6, f7].map V.ref)) := e8 _ _ L8 (fun ps z => by cases z)
  have St9 := St8.lam e8 T8
  refine ⟨l, _, _, rfl, rfl, M8, by show 2 < sizeLine; decide, ?_⟩
  have St10 : Sit (tabsK K) d D1 G5 (upd H9 l (.lst ([f6, f7, f8].map V.ref))) := St9.upd gl M8 dl
  have A10 : ∀ g ∈ [f6, f7, f8], Wk P w K mg X cs G5 .number (upd H9 l (.lst ([f6, f7, f8].map V.ref))) g := wk_app (fs := [f6, f7]) (gs := [f8]) (wk_all A8 ((EK.lam e8).trans (EK.upd M8))) (wk_one (W8.ek (EK.upd M8)))
  have L10 : upd H9 l (.lst ([f6, f7, f8].map V.ref)) l = some (.lst ([f6, f7, f8].map V.ref)) := upd_same
  change tSeq _ _ _ _ (upd H9 l (.lst ([f6, f7, f8].map V.ref)))
  generalize upd H9 l (.lst ([f6, f7, f8].map V.ref)) = HA at St10 A10 L10
  refine ⟨_, rfl, St10.tb, fun f10 c10 t10 H10 e10 m10 T10 nf10 lf10 cf10 tf10 => ⟨T10, fun f11 c11 t11 H11 e11 m11 T11 nf11 lf11 cf11 tf11 => ⟨by show 2 ≤ sizeLine; decide, fun p12 n12 => ?_⟩⟩⟩
  have W10 : Wk P w K mg X cs G5 .number H10 f10 := fun B cb x Hb sb => ⟨fun H Q E => spLookX K [.int n, .ref t5, .int (-1), .int 0] H Q E, lm_c1 (k := 8) (a := "_law_c") (fr := ["_law_size_here", "_law_found"]) (ws := [.int n, .ref t5]) [0, 3] cb x lf10 cf10 tf10 rfl rfl rfl (NdefX.nscope_by (by kernel_rfl)) rfl (fun _ _ _ => ⟨_, rfl, fun _ => rfl⟩) (fun A outer s H Q E hr h =>
    ⟨_, pe_kX (E := E) (ok_look T) hr (L2N.takes_of rfl rfl rfl rfl) (pa_cons (pv 1) (pa_cons (pv 2) (pa_cons (pe_un un_neg pe_int) (pa_cons pe_int pa_nil)))), ⟨_, rfl, _, rfl, _, rfl, h⟩⟩), fun Q E thr => ⟨n, .ref t5, (-1), 0, rfl, .inr ⟨sz, t5, a5, _, y5, rfl, same_tup sb hT, sb.seq hS, .inl (by omega), thr⟩⟩⟩
  have W11 : Wk P w K mg X cs G5 .number H11 f11 := fun B cb x Hb sb => ⟨fun H Q E => Dp K H vr (eR R) ∧ Thr K .number H E, lm_c1 (k := 8) (a := "_law_e") (fr := ["_law_size_here", "_law_ranges"]) (ws := [.int n, vr]) [0, 1] cb x lf11 cf11 tf11 rfl rfl rfl (NdefX.nscope_by (by kernel_rfl)) rfl (fun _ _ _ => ⟨_, rfl, fun _ => rfl⟩) (fun A outer s H Q E hr h =>
    ⟨_, pe_kX (E := E) (ok_table T) hr (L2N.takes_of rfl rfl rfl rfl) (pa_cons (pv 1) (pa_cons (pe_lst (pa_cons (pv 2) pa_nil)) (pa_cons (pe_op op_add (pv 1) pe_int) pa_nil))), ⟨_, rfl, _, rfl, by show 1 ≤ sizeLine; decide, fun p np => ⟨_, rfl, _, _, rfl, rfl, .inr ⟨n, .ref p, (n : Int) + 1, rfl, .inr ⟨sz, [R], .lst (xs := [vr]) (SqL.of upd_same) (.cons (same_dp (same_new np) h.1) .nil), fun Z hZ => by rw [List.mem_singleton.mp hZ]; exact hR, by omega, h.2.mono (same_new np)⟩⟩⟩⟩⟩), fun Q E thr => ⟨same_dp sb hvr5, thr⟩⟩
  have St11 := ((St10.lam e10 T10).lam e11 T11)
  have M11 : H11 l = some (.lst ([f6, f7, f8].map V.ref)) := e11 _ _ (e10 _ _ L10 (fun ps z => by cases z)) (fun ps z => by cases z)
  have s12 := same_new (o := .lst ([f10, f11].map V.ref)) n12
  have St12 := St11.same s12
  have A12 : ∀ g ∈ [f6, f7, f8, f10, f11], Wk P w K mg X cs G5 .number (upd H11 p12 (.lst ([f10, f11].map V.ref))) g := wk_app (fs := [f6, f7, f8]) (gs := [f10, f11]) (wk_all A10 ((EK.lam e10).trans ((EK.lam e11).trans (EK.same s12)))) (wk_app (fs := [f10]) (gs := [f11]) (wk_one (W10.ek ((EK.lam e11).trans (EK.same s12)))) (wk_one (W11.ek (EK.same s12))))
  have L12 : upd H11 p12 (.lst ([f10, f11].map V.ref)) p12 = some (.lst ([f10, f11].map V.ref)) := upd_same
  replace M11 := s12 _ _ M11
  refine ⟨l, p12, _, _, rfl, rfl, M11, L12, by show 3 + 2 ≤ sizeLine; decide, fun l2 n13 => ?_⟩
  have s13 : Same (upd H11 p12 (.lst ([f10, f11].map V.ref))) (upd (upd H11 p12 (.lst ([f10, f11].map V.ref))) l2 (.lst ([f6, f7, f8, f10, f11].map V.ref))) := same_new n13
  have gl2 : G5 l2 = none := St12.free n13
  have dl2 : d ≠ l2 := ne_of_none St12.hd n13
  have St13 := St12.same s13
  have A13 := wk_all A12 (EK.same s13)
  have L13 : upd (upd H11 p12 (.lst ([f10, f11].map V.ref))) l2 (.lst ([f6, f7, f8, f10, f11].map V.ref)) l2 = some (.lst ([f6, f7, f8, f10, f11].map V.ref)) := upd_same
  change tSeq _ _ _ _ (upd (upd H11 p12 (.lst ([f10, f11].map V.ref))) l2 (.lst ([f6, f7, f8, f10, f11].map V.ref)))
  generalize upd (upd H11 p12 (.lst ([f10, f11].map V.ref))) l2 (.lst ([f6, f7, f8, f10, f11].map V.ref)) = H13 at St13 A13 L13
  refine ⟨_, rfl, .inl ⟨rfl, _, SqL.of L13⟩, St13.tb, fun f14 c14 t14 H14 e14 m14 T14 nf14 lf14 cf14 tf14 => ?_⟩
  have W14 : Wk P w K mg X cs G5 .number H14 f14 := fun B cb x Hb sb => ⟨fun H Q E => Thr K .number H E, lm_c1 (k := 8) (a := "_law_f") (fr := ["_law_size_here"]) (ws := [.int n]) [0] cb x lf14 cf14 tf14 rfl rfl rfl (NdefX.nscope_by (by kernel_rfl)) rfl (fun _ _ _ => ⟨_, rfl, fun _ => rfl⟩) (fun A outer s H Q E hr h =>
    ⟨_, pe_kX (E := E) (ok_table T) hr (L2N.takes_of rfl rfl rfl rfl) (pa_cons (pv 1) (pa_cons (pe_lst pa_nil) (pa_cons pe_int pa_nil))), ⟨_, rfl, Nat.zero_le _, fun p np => .inr ⟨n, .ref p, 0, rfl, .inr ⟨sz, [], .lst (SqL.of upd_same) .nil, fun Z hZ => (by cases hZ), by omega, h.mono (same_new np)⟩⟩⟩⟩), fun Q E thr => thr⟩
  have M14 : H14 l2 = some (.lst ([f6, f7, f8, f10, f11].map V.ref)) := e14 _ _ L13 (fun ps z => by cases z)
  have St14 := St13.lam e14 T14
  refine ⟨l2, _, _, rfl, rfl, M14, by show 5 < sizeLine; decide, ?_⟩
  have St15 : Sit (tabsK K) d D1 G5 (upd H14 l2 (.lst ([f6, f7, f8, f10, f11, f14].map V.ref))) := St14.upd gl2 M14 dl2
  have A15 : ∀ g ∈ [f6, f7, f8, f10, f11, f14], Wk P w K mg X cs G5 .number (upd H14 l2 (.lst ([f6, f7, f8, f10, f11, f14].map V.ref))) g := wk_app (fs := [f6, f7, f8, f10, f11]) (gs := [f14]) (wk_all A13 ((EK.lam e14).trans (EK.upd M14))) (wk_one (W14.ek (EK.upd M14)))
  have L15 : upd H14 l2 (.lst ([f6, f7, f8, f10, f11, f14].map V.ref)) l2 = some (.lst ([f6, f7, f8, f10, f11, f14].map V.ref)) := upd_same
  change tSeq _ _ _ _ (upd H14 l2 (.lst ([f6, f7, f8, f10, f11, f14].map V.ref)))
  generalize upd H14 l2 (.lst ([f6, f7, f8, f10, f11, f14].map V.ref)) = H15 at St15 A15 L15
  refine ⟨_, rfl, l2, rfl, ⟨_, SqL.of L15⟩, ?_⟩
  refine lc_none (SqL.of L15) ?_ ?_
  · intro B cb x g hg H6 Z s6 hZ
    exact ⟨rfl, _, rfl, g, "number", .int 0, .number, rfl, A15 g hg B (cbs_of (js := [2, 3, 11, 12]) cb rfl rfl (by kernel_rfl)) x _ ((dat_bare St15.sm St15.dt).trans s6), rfl, fun H3 s4 => ⟨true, rfl, hZ _ _ s4⟩⟩
  · intro z H' nz s' hz
    refine none_left hz fun H2 s2 => ?_
    exact ⟨d, D1, n, vr, vb, R, S, i, G5, _, _, _, _, _, _, _, _, rfl, hn1, hn2, hR, hB, hvr5, hvb5, St15.same (s'.trans s2), q⟩
end
section
variable {P : Program} {w : World} {K : PySem.W.Frag} {mg : Str → Option Value} {base : Heap}
theorem badS_of {n : Int} {R S : List (Int × Int)} {wh i m : Nat} {Z : List (Int × Int)} (sz : SizeOk n) (hR : Ok n R) (hB : BadAt n S i) : BadS n (List.replicate wh R ++ [S] ++ List.replicate m Z) (.set wh i) := by
  refine .inr ⟨sz, wh, i, S, fun j R' hj hg => ?_, ?_, hB, rfl⟩
  · rw [List.append_assoc, List.getElem?_append_left (by rw [List.length_replicate]; exact hj), List.getElem?_replicate, if_pos hj] at hg
    cases hg
    exact hR
  · rw [List.append_assoc, List.getElem?_append_right (by rw [List.length_replicate]; exact Nat.le_refl _), List.length_replicate, Nat.sub_self]
    rfl
theorem law_d (T : Tx K mg) (B3 : TB3 K mg base) {f : Addr} {cdv : Value} {A : Around} {outer : List Env} {s : Shared} {H0 : Hp} {E : XK} (hr : Room 11 (A.deeper (envOfC "law" (defScope s_law) s.heap.objs.size f cdv)))
    (tail : PSs (lawX P w K mg base f cdv A outer s H0 E) ((defBody s_law).drop 15) (LawPre K)) : PSs (lawX P w K mg base f cdv A outer s H0 E) ((defBody s_law).drop 12) (LawPre K) := pss_pre fun k σ H h => by
  obtain ⟨d, D, n, vr, vb, R, S, i, G, s0, s6, s7, s8, s9, s10, s11, s12, rfl, hn1, hn2, hR, hB, hvr, hvb, St, q⟩ := h
  have sz : SizeOk n := ⟨by omega, by omega⟩
  refine ⟨_, (pss_cons (ps_set (i := 9) sc_law.nd rfl (by first | exact Or.inl rfl | exact Or.inr rfl) (pe_k (ok__law_off T) hr (pa_cons (pv 1) (pa_cons pe_int pa_nil))))
      (pss_cons (ps_set (i := 10) sc_law.nd rfl (by first | exact Or.inl rfl | exact Or.inr rfl) (pe_op op_cat (pe_op op_cat (pe_op op_rep (pe_lst (pa_cons (pv 3) pa_nil)) (pv 9)) (pe_lst (pa_cons (pv 4) pa_nil))) (pe_op op_rep (pe_lst (pa_cons (pe_lst (pa_cons (pe_tup (pa_cons pe_int (pa_cons pe_int pa_nil))) pa_nil)) pa_nil)) (pe_k (ok__law_off T) hr (pa_cons (pv 1) (pa_cons pe_int pa_nil))))))
      (pss_cons (ps_if (pt_cmpR (neD K hr.units) (pe_lcz (Z := Calm) (own := [("_law_work", 8)]) (g := gName 8) (fun _ _ _ _ _ => rfl) (fun _ => rfl) sc_law.nd (piz_calm (piL K (pe_k (ok__law_several T B3) hr (pa_cons (pv 2) (pa_cons (pv 10) pa_nil))))) (blkOk_by (own := [("_law_work", 8)]) (N := n_law) (sc := defScope s_law) (by decide +kernel)) (fun _ _ _ _ _ _ => pg_name (i := 8) sc_law.nd rfl (by first | exact Or.inl rfl | exact Or.inr rfl)) (fun B _ _ _ _ _ => pts_one (pt_not (pt_val (pe_k (k := 11) (sp := spRefused P w K mg B) (ok__law_refused (P := P) (w := w) (base := B) T) hr (pa_cons (pv 8) (pa_cons pe_str (pa_cons (pe_tup (pa_cons (pv 9) (pa_cons (pv 5) pa_nil))) pa_nil))))))) (fun _ _ _ _ _ _ => pv 8)) (pe_lst pa_nil) (nomark _)) (pss_one (ps_ret pe_bl)) pss_nil)
      tail))), ?_⟩
  refine ⟨_, rfl, d, 5, D, rfl, by decide, by decide, St.hd, St.ok, fun r D1 r0 r1 k1 => ?_⟩
  obtain ⟨wh, rfl⟩ := Int.eq_ofNat_of_zero_le r0
  have St1 := St.dice (D' := D1) k1
  change tSeq _ _ _ _ (upd H d (.lst (D1.map V.int)))
  generalize upd H d (.lst (D1.map V.int)) = H1 at St1
  -- the sets
  refine ⟨_, rfl, by show 1 ≤ sizeLine; decide, fun p1 n1 => ?_⟩
  have St2 := St1.same (same_new (o := .lst [vr]) n1)
  have L1 : upd H1 p1 (.lst [vr]) p1 = some (.lst [vr]) := upd_same
  generalize upd H1 p1 (.lst [vr]) = H2 at St2 L1
  refine ⟨_, rfl, p1, _, _, rfl, rfl, L1, by omega, by omega, Nat.le_of_lt (sizeOk (by show 1 * (wh : Int).toNat ≤ _; omega)), fun p2 n2 => ?_⟩
  have q2 : DpAll K G (List.replicate (wh : Int).toNat [vr]).flatten (List.replicate (wh : Int).toNat (eR R)) := dpAll_rep hvr _
  have x2 : (List.replicate (wh : Int).toNat [vr]).flatten.length = wh := by
    rw [Int.toNat_natCast]
    simp
  have St3 := St2.same (same_new (o := .lst (List.replicate (wh : Int).toNat [vr]).flatten) n2)
  have L2 : upd H2 p2 (.lst (List.replicate (wh : Int).toNat [vr]).flatten) p2 = some (.lst (List.replicate (wh : Int).toNat [vr]).flatten) := upd_same
  generalize upd H2 p2 (.lst (List.replicate (wh : Int).toNat [vr]).flatten) = H3 at St3 L2
  generalize (List.replicate (wh : Int).toNat [vr]).flatten = X2 at q2 x2 L2
  rw [Int.toNat_natCast] at q2
  refine ⟨_, rfl, by show 1 ≤ sizeLine; decide, fun p3 n3 => ?_⟩
  have St4 := St3.same (same_new (o := .lst [vb]) n3)
  have L3 : upd H3 p3 (.lst [vb]) p3 = some (.lst [vb]) := upd_same
  replace L2 := same_new (o := .lst [vb]) n3 _ _ L2
  generalize upd H3 p3 (.lst [vb]) = H4 at St4 L2 L3
  refine ⟨p2, p3, _, _, rfl, rfl, L2, L3, Nat.le_of_lt (sizeOk (by show X2.length + 1 ≤ _; omega)), fun p4 n4 => ?_⟩
  have m4 : p4 ≠ d := (ne_of_none St4.hd n4).symm
  have St5 := St4.same (same_new (o := .lst (X2 ++ [vb])) n4)
  have L4 : upd H4 p4 (.lst (X2 ++ [vb])) p4 = some (.lst (X2 ++ [vb])) := upd_same
  generalize upd H4 p4 (.lst (X2 ++ [vb])) = H5 at St5 L4
  refine ⟨by show 2 ≤ sizeLine; decide, fun t5 n5 => ?_⟩
  have m5 : t5 ≠ d := (ne_of_none St5.hd n5).symm
  have St6 := St5.same (same_new (o := .tup [.int 9, .int 0]) n5)
  have L5 : upd H5 t5 (.tup [.int 9, .int 0]) t5 = some (.tup [.int 9, .int 0]) := upd_same
  replace L4 := same_new (o := .tup [.int 9, .int 0]) n5 _ _ L4
  generalize upd H5 t5 (.tup [.int 9, .int 0]) = H6 at St6 L4 L5
  refine ⟨by show 1 ≤ sizeLine; decide, fun p6 n6 => ?_⟩
  have m6 : p6 ≠ d := (ne_of_none St6.hd n6).symm
  have St7 := St6.same (same_new (o := .lst [.ref t5]) n6)
  have L6 : upd H6 p6 (.lst [.ref t5]) p6 = some (.lst [.ref t5]) := upd_same
  replace L4 := same_new (o := .lst [.ref t5]) n6 _ _ L4
  replace L5 := same_new (o := .lst [.ref t5]) n6 _ _ L5
  generalize upd H6 p6 (.lst [.ref t5]) = H7 at St7 L4 L5 L6
  refine ⟨by show 1 ≤ sizeLine; decide, fun p7 n7 => ?_⟩
  have m7 : p7 ≠ d := (ne_of_none St7.hd n7).symm
  have St8 := St7.same (same_new (o := .lst [.ref p6]) n7)
  have L7 : upd H7 p7 (.lst [.ref p6]) p7 = some (.lst [.ref p6]) := upd_same
  replace L4 := same_new (o := .lst [.ref p6]) n7 _ _ L4
  replace L5 := same_new (o := .lst [.ref p6]) n7 _ _ L5
  replace L6 := same_new (o := .lst [.ref p6]) n7 _ _ L6
  generalize upd H7 p7 (.lst [.ref p6]) = H8 at St8 L4 L5 L6 L7
  -- frozen, before the dice is thrown
  have g8 := St8.big
  have St9 := St8.again
  have h6 : Dp K (dat d H8) (.ref p6) (eR [(9, 0)]) := dat_dp (.lst (xs := [.ref t5]) (SqL.of ((del_ne m6).trans L6)) (.cons (pair_dp ((del_ne m5).trans L5)) .nil))
  have q2' := same_dpAll g8 q2
  have hvr8 := same_dp g8 hvr
  have hvb8 := same_dp g8 hvb
  generalize dat d H8 = G8 at g8 St9 h6 q2' hvr8 hvb8
  refine ⟨_, rfl, d, 2, D1, rfl, by decide, by decide, St8.hd, St8.ok, fun r2 D2 r20 r21 k2 => ?_⟩
  have St10 := St9.dice (D' := D2) k2
  replace L4 := (upd_ne (o := .lst (D2.map V.int)) m4).trans L4
  replace L7 := (upd_ne (o := .lst (D2.map V.int)) m7).trans L7
  generalize upd H8 d (.lst (D2.map V.int)) = H9 at St10 L4 L7
  refine ⟨p7, r2, _, rfl, rfl, L7, by omega, by omega, Nat.le_of_lt (sizeOk (by show 1 * r2.toNat ≤ _; omega)), fun p8 n8 => ?_⟩
  have q8 : DpAll K G8 (List.replicate r2.toNat [V.ref p6]).flatten (List.replicate r2.toNat (eR [(9, 0)])) := dpAll_rep h6 _
  have x8 : (List.replicate r2.toNat [V.ref p6]).flatten.length = r2.toNat := by simp
  have St11 := St10.same (same_new (o := .lst (List.replicate r2.toNat [V.ref p6]).flatten) n8)
  have L8 : upd H9 p8 (.lst (List.replicate r2.toNat [V.ref p6]).flatten) p8 = some (.lst (List.replicate r2.toNat [V.ref p6]).flatten) := upd_same
  replace L4 := same_new (o := .lst (List.replicate r2.toNat [V.ref p6]).flatten) n8 _ _ L4
  generalize upd H9 p8 (.lst (List.replicate r2.toNat [V.ref p6]).flatten) = H10 at St11 L4 L8
  generalize (List.replicate r2.toNat [V.ref p6]).flatten = X8 at q8 x8 L8
  refine ⟨p4, p8, _, _, rfl, rfl, L4, L8, Nat.le_of_lt (sizeOk (by show (X2 ++ [vb]).length + X8.length ≤ _; rw [List.length_append, x2, x8]; show wh + 1 + r2.toNat ≤ _; omega)), fun p9 n9 => ?_⟩
  have m9 : p9 ≠ d := (ne_of_none St11.hd n9).symm
  have St12 := St11.same (same_new (o := .lst (X2 ++ [vb] ++ X8)) n9)
  have L9 : upd H10 p9 (.lst (X2 ++ [vb] ++ X8)) p9 = some (.lst (X2 ++ [vb] ++ X8)) := upd_same
  change tSeq _ _ _ _ (upd H10 p9 (.lst (X2 ++ [vb] ++ X8)))
  generalize upd H10 p9 (.lst (X2 ++ [vb] ++ X8)) = H11 at St12 L9
  have g11 := St12.big
  have St13 := St12.again
  have hSS : Dp K (dat d H11) (.ref p9) (eRs (List.replicate wh R ++ [S] ++ List.replicate r2.toNat [(9, 0)])) := by
    refine .lst (xs := X2 ++ [vb] ++ X8) (SqL.of (dat_of m9 L9 (fun _ z => by cases z) fun _ z => by cases z)) ?_
    rw [List.map_append, List.map_append, List.map_replicate, List.map_replicate]
    exact dpAll_app (dpAll_app (same_dpAll g11 q2') (.cons (same_dp g11 hvb8) .nil)) (same_dpAll g11 q8)
  have hvr11 := same_dp g11 hvr8
  have hvb11 := same_dp g11 hvb8
  generalize dat d H11 = G11 at g11 St13 hSS hvr11 hvb11
  refine ⟨_, rfl, _, rfl, n, .ref p9, rfl, St13.tb, fun H1 p fs e1 T1 np hp hlen hLm => ⟨p, rfl, ⟨_, SqL.of hp⟩, ?_⟩⟩
  refine lc_none (SqL.of hp) ?_ ?_
  · intro B cb x g hg H2 Z s2 hZ
    have St14 := St13.lam e1 T1
    refine ⟨rfl, _, rfl, _, rfl, _, rfl, by show 2 ≤ sizeLine; decide, fun t nt => ?_⟩
    have s3 : Same G11 (upd H2 t (.tup [.int wh, .int i])) := (dat_bare St14.sm St14.dt).trans (s2.trans (same_new nt))
    exact ⟨g, "set", .ref t, .set wh i, rfl, wk_several (X := lawX P w K mg base f cdv A outer s H0 E) (cs := []) (hLm g hg) hSS (badS_of sz hR hB) B ⟨cb.all, cb.inj, fun p hp => by cases hp⟩ x _ s3, ⟨rfl, pair_dp upd_same⟩, fun H3 s4 => ⟨true, rfl, hZ _ _ ((same_new nt).trans s4)⟩⟩
  · intro z H' nz s' hz
    refine none_left hz fun H2 s2 => ?_
    exact ⟨d, D2, n, vr, vb, R, S, i, G11, _, _, _, _, _, _, _, _, rfl, hn1, hn2, hR, hB, hvr11, hvb11, (St13.lam e1 T1).same (s'.trans s2), q⟩
end
section
variable {P : Program} {w : World} {K : PySem.W.Frag} {mg : Str → Option Value} {base : Heap}
theorem law_c (T : Tx K mg) (B3 : TB3 K mg base) {f : Addr} {cdv : Value} {A : Around} {outer : List Env} {s : Shared} {H0 : Hp} {E : XK} (hcode : cdv = .ref (He.cT K ("law", none)).1) (hr : Room 11 (A.deeper (envOfC "law" (defScope s_law) s.heap.objs.size f cdv)))
    (tail : PSs (lawX P w K mg base f cdv A outer s H0 E) ((defBody s_law).drop 12) (LawPre K)) : PSs (lawX P w K mg base f cdv A outer s H0 E) ((defBody s_law).drop 9) (LawPre K) := pss_pre fun k σ H h => by
  obtain ⟨d, D, n, vr, vb, R, S, i, G, s0, s6, s7, s8, s9, s10, s11, s12, rfl, hn1, hn2, hR, hB, hvr, hvb, St, q⟩ := h
  have sz : SizeOk n := ⟨by omega, by omega⟩
  have hm := law_hm (K := K)
  have hu := law_hu T
  let X := lawX P w K mg base f cdv A outer s H0 E
  let cs : List (Str × V) := [("_law_size_here", .int n), ("_law_ranges", vr), ("_law_bad_here", vb)]
  refine ⟨_, (pss_cons (ps_set (i := 7) sc_law.nd rfl (by first | exact Or.inl rfl | exact Or.inr rfl) (pe_lst (pa_cons (pe_lam (T := tabsK K) B3.a (by exact hcode) (by exact hm) (by exact hu) (NdefX.ndef_free (sc := defScope s_law) (fr := ["_law_size_here", "_law_ranges", "_law_bad_here"]) (by decide +kernel)) rfl) (pa_cons (pe_lam1 (T := tabsK K) B3.a (by exact hcode) (by exact hm) (by exact hu) (NdefX.ndef_free (sc := defScope s_law) (fr := ["_law_size_here", "_law_ranges", "_law_bad_here"]) (by decide +kernel)) rfl) pa_nil))))
      (pss_cons (ps_expr (pe_bm PySem.F.plainAttrs_list PySem.F.slot_list_append PySem.F.type_list_append mt_append (pv 7) (pa_cons (pe_lam1 (T := tabsK K) B3.a (by exact hcode) (by exact hm) (by exact hu) (NdefX.ndef_free (sc := defScope s_law) (fr := ["_law_size_here", "_law_ranges", "_law_bad_here"]) (by decide +kernel)) rfl) pa_nil)))
      (pss_cons (ps_if (pt_cmpR (neD K hr.units) (pe_lcz (Z := Calm) (own := [("_law_work", 8)]) (g := gName 8) (fun _ _ _ _ _ => rfl) (fun _ => rfl) sc_law.nd (piz_calm (piL K (pv 7))) (blkOk_by (own := [("_law_work", 8)]) (N := n_law) (sc := defScope s_law) (by decide +kernel)) (fun _ _ _ _ _ _ => pg_name (i := 8) sc_law.nd rfl (by first | exact Or.inl rfl | exact Or.inr rfl)) (fun B _ _ _ _ _ => pts_one (pt_not (pt_val (pe_k (k := 11) (sp := spRefused P w K mg B) (ok__law_refused (P := P) (w := w) (base := B) T) hr (pa_cons (pv 8) (pa_cons pe_str (pa_cons (pe_tup (pa_cons pe_int (pa_cons (pv 5) pa_nil))) pa_nil))))))) (fun _ _ _ _ _ _ => pv 8)) (pe_lst pa_nil) (nomark _)) (pss_one (ps_ret pe_bl)) pss_nil)
      tail))), ?_⟩
  refine ⟨St.tb, fun f1 c1 H1 e1 m1 T1 nf1 lf1 cf1 => ⟨T1, fun f2 c2 t2 H2 e2 m2 T2 nf2 lf2 cf2 tf2 => ⟨by show 2 ≤ sizeLine; decide, fun l nl => ?_⟩⟩⟩
  have W1 : Wk P w K mg X cs G (.set 1 i) H1 f1 := fun B cb x Hb sb => ⟨fun H _ E => TwoX K n vr vb H E, lm_c0 (k := 8) (fr := ["_law_size_here", "_law_ranges", "_law_bad_here"]) (ws := [.int n, vr, vb]) [0, 1, 2] cb x lf1 cf1 rfl rfl rfl (NdefX.nscope_by (by kernel_rfl)) (fun _ _ _ => rfl) (fun A outer s H Q E hr h =>
    ⟨_, pe_kX (E := E) (ok_joined T) hr (L2N.takes_of rfl rfl rfl rfl) (pa_cons (pv 0) (pa_cons (pv 1) (pa_cons (pv 2) pa_nil))), ⟨_, rfl, _, rfl, _, rfl, n, vr, vb, rfl, h⟩⟩), fun Q E thr => .inr ⟨sz, R, S, i, same_dp sb hvr, hR, same_dp sb hvb, hB, thr⟩⟩
  have W2 : Wk P w K mg X cs G (.set 1 i) H2 f2 := fun B cb x Hb sb => ⟨fun H _ E => TwoX K n vr vb H E, lm_c1 (k := 8) (a := "_law_a") (fr := ["_law_size_here", "_law_ranges", "_law_bad_here"]) (ws := [.int n, vr, vb]) [0, 1, 2] cb x lf2 cf2 tf2 rfl rfl rfl (NdefX.nscope_by (by kernel_rfl)) rfl (fun _ _ _ => ⟨_, rfl, fun _ => rfl⟩) (fun A outer s H Q E hr h =>
    ⟨_, pe_kX (E := E) (ok_common T) hr (L2N.takes_of rfl rfl rfl rfl) (pa_cons (pv 1) (pa_cons (pv 2) (pa_cons (pv 3) pa_nil))), ⟨_, rfl, _, rfl, _, rfl, n, vr, vb, rfl, h⟩⟩), fun Q E thr => .inr ⟨sz, R, S, i, same_dp sb hvr, hR, same_dp sb hvb, hB, thr⟩⟩
  have St2 := ((St.lam e1 T1).lam e2 T2)
  have gl : G l = none := St2.free nl
  have dl : d ≠ l := ne_of_none St2.hd nl
  have St3 : Sit (tabsK K) d D G (upd H2 l (.lst ([f1, f2].map V.ref))) := St2.same (same_new nl)
  have A3 : ∀ g ∈ [f1, f2], Wk P w K mg X cs G (.set 1 i) (upd H2 l (.lst ([f1, f2].map V.ref))) g := wk_app (fs := [f1]) (gs := [f2]) (wk_one (W1.ek ((EK.lam e2).trans (EK.same (same_new nl))))) (wk_one (W2.ek (EK.same (same_new nl))))
  have L3 : upd H2 l (.lst ([f1, f2].map V.ref)) l = some (.lst ([f1, f2].map V.ref)) := upd_same
  change tSeq _ _ _ _ (upd H2 l (.lst ([f1, f2].map V.ref)))
  generalize upd H2 l (.lst ([f1, f2].map V.ref)) = H3 at St3 A3 L3
  refine ⟨_, rfl, .inl ⟨rfl, _, SqL.of L3⟩, St3.tb, fun f4 c4 t4 H4 e4 m4 T4 nf4 lf4 cf4 tf4 => ?_⟩
  have W4 : Wk P w K mg X cs G (.set 1 i) H4 f4 := fun B cb x Hb sb => ⟨fun H _ E => TwoX K n vr vb H E, lm_c1 (k := 8) (a := "_law_b") (fr := ["_law_size_here", "_law_ranges", "_law_bad_here"]) (ws := [.int n, vr, vb]) [0, 1, 2] cb x lf4 cf4 tf4 rfl rfl rfl (NdefX.nscope_by (by kernel_rfl)) rfl (fun _ _ _ => ⟨_, rfl, fun _ => rfl⟩) (fun A outer s H Q E hr h =>
    ⟨_, pe_kX (E := E) (ok_less T) hr (L2N.takes_of rfl rfl rfl rfl) (pa_cons (pv 1) (pa_cons (pv 2) (pa_cons (pv 3) pa_nil))), ⟨_, rfl, _, rfl, _, rfl, n, vr, vb, rfl, h⟩⟩), fun Q E thr => .inr ⟨sz, R, S, i, same_dp sb hvr, hR, same_dp sb hvb, hB, thr⟩⟩
  have M4 : H4 l = some (.lst ([f1, f2].map V.ref)) := e4 _ _ L3 (fun ps z => by cases z)
  have St4 := St3.lam e4 T4
  refine ⟨l, _, _, rfl, rfl, M4, by show 2 < sizeLine; decide, ?_⟩
  have St5 : Sit (tabsK K) d D G (upd H4 l (.lst ([f1, f2, f4].map V.ref))) := St4.upd gl M4 dl
  have A5 : ∀ g ∈ [f1, f2, f4], Wk P w K mg X cs G (.set 1 i) (upd H4 l (.lst ([f1, f2, f4].map V.ref))) g := wk_app (fs := [f1, f2]) (gs := [f4]) (wk_all A3 ((EK.lam e4).trans (EK.upd M4))) (wk_one (W4.ek (EK.upd M4)))
  have L5 : upd H4 l (.lst ([f1, f2, f4].map V.ref)) l = some (.lst ([f1, f2, f4].map V.ref)) := upd_same
  change tSeq _ _ _ _ (upd H4 l (.lst ([f1, f2, f4].map V.ref)))
  generalize upd H4 l (.lst ([f1, f2, f4].map V.ref)) = H5 at St5 A5 L5
  refine ⟨_, rfl, l, rfl, ⟨_, SqL.of L5⟩, ?_⟩
  refine lc_none (SqL.of L5) ?_ ?_
  · intro B cb x g hg H6 Z s6 hZ
    refine ⟨rfl, _, rfl, _, rfl, by show 2 ≤ sizeLine; decide, fun t nt => ?_⟩
    have s7 : Same G (upd H6 t (.tup [.int 1, .int i])) := (dat_bare St5.sm St5.dt).trans (s6.trans (same_new nt))
    exact ⟨g, "set", .ref t, .set 1 i, rfl, A5 g hg B (cbs_of (js := [2, 3, 4]) cb rfl rfl (by kernel_rfl)) x _ s7, ⟨rfl, pair_dp upd_same⟩, fun H3 s4 => ⟨true, rfl, hZ _ _ ((same_new nt).trans s4)⟩⟩
  · intro z H' nz s' hz
    refine none_left hz fun H2 s2 => ?_
    exact ⟨d, D, n, vr, vb, R, S, i, G, _, _, _, _, _, _, _, _, rfl, hn1, hn2, hR, hB, hvr, hvb, St5.same (s'.trans s2), q⟩
end
section
variable {P : Program} {w : World} {K : PySem.W.Frag} {mg : Str → Option Value} {base : Heap}
theorem law_b (T : Tx K mg) (B3 : TB3 K mg base) {f : Addr} {cdv : Value} {A : Around} {outer : List Env} {s : Shared} {H0 : Hp} {E : XK} (hr : Room 11 (A.deeper (envOfC "law" (defScope s_law) s.heap.objs.size f cdv))) (tail : PSs (lawX P w K mg base f cdv A outer s H0 E) ((defBody s_law).drop 9) (LawPre K)) :
    PSs (lawX P w K mg base f cdv A outer s H0 E) ((defBody s_law).drop 8) (LawPre K) := pss_pre fun k σ H h => by
  obtain ⟨d, D, n, vr, vb, R, S, i, G, s0, s6, s7, s8, s9, s10, s11, s12, rfl, hn1, hn2, hR, hB, hvr, hvb, St, q⟩ := h
  have sz : SizeOk n := ⟨by omega, by omega⟩
  refine ⟨_, (pss_cons (ps_if (pt_cmpR (neD K hr.units) (pe_lcz (Z := Calm) (own := [("_law_work", 8)]) (g := gName 8) (fun _ _ _ _ _ => rfl) (fun _ => rfl) sc_law.nd (piz_calm (piL K (pe_k (ok__law_single T B3) hr (pa_cons (pv 2) (pa_cons (pv 4) pa_nil))))) (blkOk_by (own := [("_law_work", 8)]) (N := n_law) (sc := defScope s_law) (by decide +kernel)) (fun _ _ _ _ _ _ => pg_name (i := 8) sc_law.nd rfl (by first | exact Or.inl rfl | exact Or.inr rfl)) (fun B _ _ _ _ _ => pts_one (pt_not (pt_val (pe_k (k := 11) (sp := spRefused P w K mg B) (ok__law_refused (P := P) (w := w) (base := B) T) hr (pa_cons (pv 8) (pa_cons pe_str (pa_cons (pe_tup (pa_cons pe_int (pa_cons (pv 5) pa_nil))) pa_nil))))))) (fun _ _ _ _ _ _ => pv 8)) (pe_lst pa_nil) (nomark _)) (pss_one (ps_ret pe_bl)) pss_nil)
      tail), ?_⟩
  refine ⟨_, rfl, _, rfl, n, vb, rfl, St.tb, fun H1 p fs e1 T1 np hp hlen hLm => ⟨p, rfl, ⟨_, SqL.of hp⟩, ?_⟩⟩
  refine lc_none (SqL.of hp) ?_ ?_
  · intro B cb x g hg H2 Z s2 hZ
    have St1 := St.lam e1 T1
    refine ⟨rfl, _, rfl, _, rfl, by show 2 ≤ sizeLine; decide, fun t nt => ?_⟩
    have s3 : Same G (upd H2 t (.tup [.int 0, .int i])) := (dat_bare St1.sm St1.dt).trans (s2.trans (same_new nt))
    exact ⟨g, "set", .ref t, .set 0 i, rfl, wk_single (X := lawX P w K mg base f cdv A outer s H0 E) (cs := []) (hLm g hg) hvb (.inr ⟨sz, i, hB, rfl⟩) B ⟨cb.all, cb.inj, fun p hp => by cases hp⟩ x _ s3, ⟨rfl, pair_dp upd_same⟩, fun H3 s4 => ⟨true, rfl, hZ _ _ ((same_new nt).trans s4)⟩⟩
  · intro z H' nz s' hz
    refine none_left hz fun H2 s2 => ?_
    exact ⟨d, D, n, vr, vb, R, S, i, G, _, _, _, _, _, _, _, _, rfl, hn1, hn2, hR, hB, hvr, hvb, (St.lam e1 T1).same (s'.trans s2), q⟩
end
section
variable {P : Program} {w : World} {K : PySem.W.Frag} {mg : Str → Option Value} {base : Heap}
theorem seq_set1 {t : TE} {i : Nat} {u : TS} {D : Ends} {σ : L2.St} {H : Hp} (J : VK) (h1 : ∀ v H', J v H' → u D (σ.set i (some v)) H') (h2 : ∀ Q' : VK, (∀ v H', J v H' → Q' v H') → t σ H Q') : tSeq (tAsg t (gName i)) u D σ H :=
  h2 (fun v H' => u D (σ.set i (some v)) H') h1
def spLaw (K : PySem.W.Frag) : Sp := fun vs H Q _ => ∃ (a : Addr) (ns : List Int), vs = [.ref a] ∧ SqL K H a (ns.map V.int) ∧ ns.length ≤ 63 ∧ LamX.Tabs (tabsK K) H ∧ ∀ H', Q (.bl true) H'
set_option maxHeartbeats 8000000 in
theorem ok_law (T : Tx K mg) (B3 : TB3 K mg base) {f : Addr} {fd : FuncData} (F : Fun K "law" "law" s_law f fd) (hmf : mg "law" = some (.ref f)) : FnOk P w K mg base CX0 12 f fd ["_law_script"] (spLaw K) := by
  obtain ⟨oc, od, kV, doc, pm, an, cdv, ct, osl, rfl, lk, hcd⟩ := F.ex
  have hcode : cdv = .ref (He.cT K ("law", none)).1 := code_eq hmf T.q_law lk rfl hcd
  refine fn_of lk hcd sc_law (fun vs H Q E h => ?_) fun A outer s H0 vs Q E hr hsp => ?_
  · obtain ⟨a, ns, rfl, _⟩ := h
    rfl
  obtain ⟨a, ns, rfl, hS, h63, hT, q⟩ := hsp
  have tail : PSs (lawX P w K mg base f cdv A outer s H0 E) ((defBody s_law).drop 8) (LawPre K) := law_b T B3 hr (law_c T B3 hcode hr (law_d T B3 hr (law_e T B3 hcode hr (law_f T hr))))
  have hm := law_hm (K := K)
  have hu := law_hu T
  let X := lawX P w K mg base f cdv A outer s H0 E
  suffices key : ∃ t, PSs (lawX P w K mg base f cdv A outer s H0 E) (defBody s_law) t ∧ t { nx := fun _ H' => Q .non H', rt := Q } (start n_law [.ref a]) H0 by
    obtain ⟨t, h1, h2⟩ := key
    exact ⟨t, h1.nox, h2⟩
  refine ⟨_, (pss_cons (ps_set (i := 1) sc_law.nd rfl (by first | exact Or.inl rfl | exact Or.inr rfl) (pe_k (ok__law_dice T) hr (pa_cons (pv 0) (pa_cons pe_int pa_nil))))
      (pss_cons (ps_set (i := 2) sc_law.nd rfl (by first | exact Or.inl rfl | exact Or.inr rfl) (pe_ifExp (pt_cmpR op_gt (pe_k (ok__law_off T) hr (pa_cons (pv 1) (pa_cons pe_int pa_nil))) pe_int (nomark _)) (pe_k (ok__law_size T) hr (pa_cons (pv 1) pa_nil)) (pe_op op_add pe_int (pe_k (ok__law_off T) hr (pa_cons (pv 1) (pa_cons pe_int pa_nil))))))
      (pss_cons (ps_set (i := 3) sc_law.nd rfl (by first | exact Or.inl rfl | exact Or.inr rfl) (pe_k (ok__law_set T) hr (pa_cons (pv 1) (pa_cons (pv 2) (pa_cons pe_int pa_nil)))))
      (pss_cons (ps_asg (pe_k (ok__law_bad T) hr (pa_cons (pv 1) (pa_cons (pv 2) (pa_cons (pv 3) pa_nil)))) (pgT K (by rfl) (pgs_cons (pg_name (i := 4) sc_law.nd rfl (by first | exact Or.inl rfl | exact Or.inr rfl)) (pgs_cons (pg_name (i := 5) sc_law.nd rfl (by first | exact Or.inl rfl | exact Or.inr rfl)) pgs_nil))))
      (pss_cons (ps_set (i := 6) sc_law.nd rfl (by first | exact Or.inl rfl | exact Or.inr rfl) (pe_ix (ixL K) (pe_lst (pa_cons pe_int (pa_cons pe_int (pa_cons (pe_un un_neg pe_int) (pa_cons (pe_op op_add pe_int (pe_k (ok__law_off T) hr (pa_cons (pv 1) (pa_cons (pe_op op_pow pe_int pe_int) pa_nil)))) pa_nil))))) (pe_k (ok__law_off T) hr (pa_cons (pv 1) (pa_cons pe_int pa_nil))) (fun _ _ => rfl)))
      (pss_cons (ps_set (i := 7) sc_law.nd rfl (by first | exact Or.inl rfl | exact Or.inr rfl) (pe_op op_cat (pe_op op_cat (pe_k (ok__law_single T B3) hr (pa_cons (pv 6) (pa_cons (pv 4) pa_nil))) (pe_k (ok__law_several T B3) hr (pa_cons (pv 6) (pa_cons (pe_lst (pa_cons (pv 4) pa_nil)) pa_nil)))) (pe_lst (pa_cons (pe_lam (T := tabsK K) B3.a (by exact hcode) (by exact hm) (by exact hu) (NdefX.ndef_free (sc := defScope s_law) (fr := ["_law_odd"]) (by decide +kernel)) rfl) pa_nil))))
      (pss_cons (ps_expr (pe_bm PySem.F.plainAttrs_list PySem.F.slot_list_append PySem.F.type_list_append mt_append (pv 7) (pa_cons (pe_lam1 (T := tabsK K) B3.a (by exact hcode) (by exact hm) (by exact hu) (NdefX.ndef_free (sc := defScope s_law) (fr := ["_law_odd"]) (by decide +kernel)) rfl) pa_nil)))
      (pss_cons (ps_if (pt_cmpR (neD K hr.units) (pe_lcz (Z := Calm) (own := [("_law_work", 8)]) (g := gName 8) (fun _ _ _ _ _ => rfl) (fun _ => rfl) sc_law.nd (piz_calm (piL K (pv 7))) (blkOk_by (own := [("_law_work", 8)]) (N := n_law) (sc := defScope s_law) (by decide +kernel)) (fun _ _ _ _ _ _ => pg_name (i := 8) sc_law.nd rfl (by first | exact Or.inl rfl | exact Or.inr rfl)) (fun B _ _ _ _ _ => pts_one (pt_not (pt_val (pe_k (k := 11) (sp := spRefused P w K mg B) (ok__law_refused (P := P) (w := w) (base := B) T) hr (pa_cons (pv 8) (pa_cons pe_str (pa_cons pe_int pa_nil))))))) (fun _ _ _ _ _ _ => pv 8)) (pe_lst pa_nil) (nomark _)) (pss_one (ps_ret pe_bl)) pss_nil)
      tail)))))))), ?_⟩
  refine ⟨_, rfl, a, ns, 0, rfl, hS, h63, Int.le_refl 0, fun H1 d D s1 nd hd k1 => ?_⟩
  have St1 : Sit (tabsK K) d D (dat d H1) H1 := ⟨dat_same d H1, dat_dat d H1, dat_self, hd, k1, hT.ext s1⟩
  generalize dat d H1 = G1 at St1
  -- the size
  dsimp only [gName]
  refine seq_set1 (t := tIf _ _ _) (i := 2) (fun v H' => ∃ (n : Nat) (D' : List Int), v = .int n ∧ 1 ≤ n ∧ n ≤ 64 ∧ Sit (tabsK K) d D' G1 H') (fun v H2 hJ => ?_) (fun Q' hQ' => ?_)
  rotate_left
  · refine ⟨_, rfl, d, 5, D, rfl, by decide, by decide, St1.hd, St1.ok, fun r D2 r0 r1 k2 => ?_⟩
    have St2 := St1.dice (D' := D2) k2
    generalize upd H1 d (.lst (D2.map V.int)) = H2 at St2
    refine ⟨_, _, rfl, rfl, _, rfl, ite2 (fun c => ?_) (fun c => ?_)⟩
    · refine ⟨_, rfl, d, D2, rfl, St2.hd, St2.ok, fun n H3 D3 hn1 hn2 sb3 hd3 k3 => hQ' _ _ ⟨n, D3, rfl, hn1, hn2, St2.but sb3 hd3 k3⟩⟩
    · refine ⟨_, rfl, d, 2, D2, rfl, by decide, by decide, St2.hd, St2.ok, fun r2 D3 r20 r21 k3 => ⟨_, _, rfl, rfl, hQ' _ _ ⟨(1 + r2).toNat, D3, ?_, by omega, by omega, St2.dice k3⟩⟩⟩
      exact congrArg V.int (by omega)
  obtain ⟨n, D2, rfl, hn1, hn2, St2⟩ := hJ
  -- the ranges, the set that cannot be
  refine ⟨_, rfl, _, rfl, d, D2, n, 39, rfl, hn1, hn2, by decide, St2.hd, St2.ok, fun H3 D3 vr R sb3 hd3 k3 nv3 hR hl3 => ?_⟩
  have St3 := St2.but sb3 hd3 k3
  have hvr3 : Dp K (del H3 d) vr (eR R) := (nv3.del St2.hd).dp
  refine ⟨_, rfl, _, rfl, _, rfl, d, D3, n, vr, R, rfl, hn1, hn2, hd3, k3, hvr3, hl3, hR, fun H4 D4 t4 vb i S sb4 hd4 k4 ht4 hvb4 hB => ?_⟩
  have St4 := St3.but sb4 hd4 k4
  have hvr4 : Dp K (dat d H4) vr (eR R) := dat_dp (same_dp (sb_same sb4) hvr3)
  have hvb4' : Dp K (dat d H4) vb (eR S) := dat_dp hvb4
  have St5 := St4.again
  generalize dat d H4 = G4 at St5 hvr4 hvb4'
  refine ⟨t4, _, rfl, SqT.of ht4, rfl, _, _, rfl, _, _, rfl, rfl, ?_⟩
  -- a size that cannot be
  refine ⟨_, rfl, _, rfl, _, _, rfl, rfl, ⟨by decide, by decide, by decide⟩, d, (1000000 : Int), D4, rfl, by decide, by decide, St5.hd, St5.ok, fun r5 D5 r50 r51 k5 => ?_⟩
  have St6 := St5.dice (D' := D5) k5
  generalize upd H4 d (.lst (D5.map V.int)) = H5 at St6
  refine ⟨_, _, rfl, rfl, by show 4 ≤ sizeLine; decide, fun l6 n6 => ?_⟩
  have m6 : l6 ≠ d := (ne_of_none St6.hd n6).symm
  have St7 := St6.same (same_new (o := .lst [.int 0, .int 65, .int (-1), .int (65 + r5)]) n6)
  have L6 : upd H5 l6 (.lst [.int 0, .int 65, .int (-1), .int (65 + r5)]) l6 = some (.lst [.int 0, .int 65, .int (-1), .int (65 + r5)]) := upd_same
  generalize upd H5 l6 (.lst [.int 0, .int 65, .int (-1), .int (65 + r5)]) = H6 at St7 L6
  refine ⟨_, rfl, d, 4, D5, rfl, by decide, by decide, St7.hd, St7.ok, fun r7 D7 r70 r71 k7 => ?_⟩
  have St8 := St7.dice (D' := D7) k7
  replace L6 := (upd_ne (o := .lst (D7.map V.int)) m6).trans L6
  generalize upd H6 d (.lst (D7.map V.int)) = H7 at St8 L6
  obtain ⟨odd, hodd, nodd⟩ : ∃ odd : Int, atI [V.int 0, .int 65, .int (-1), .int (65 + r5)] r7 = some (.int odd) ∧ ¬ SizeOk odd := by
    have c : r7 = 0 ∨ r7 = 1 ∨ r7 = 2 ∨ r7 = 3 := by omega
    rcases c with rfl | rfl | rfl | rfl
    · exact ⟨0, rfl, fun z => by have := z.1; omega⟩
    · exact ⟨65, rfl, fun z => by have := z.2; omega⟩
    · exact ⟨-1, rfl, fun z => by have := z.1; omega⟩
    · exact ⟨65 + r5, rfl, fun z => by have := z.2; omega⟩
  refine ⟨l6, _, r7, _, rfl, rfl, SqL.of L6, hodd, ?_⟩
  -- the works
  refine ⟨_, rfl, _, rfl, odd, vb, rfl, St8.tb, fun H8 p8 fs8 e8 T8 n8 h8 z8 F8 => ?_⟩
  have St9 := St8.lam e8 T8
  refine ⟨_, rfl, _, rfl, by show 1 ≤ sizeLine; decide, fun p9 n9 => ?_⟩
  have m9 : p9 ≠ d := (ne_of_none St9.hd n9).symm
  have s9 := same_new (o := .lst [vb]) n9
  have St10 := St9.same s9
  have L9 : upd H8 p9 (.lst [vb]) p9 = some (.lst [vb]) := upd_same
  have L8 := s9 _ _ h8
  have k9 : EK H8 (upd H8 p9 (.lst [vb])) := EK.same s9
  generalize upd H8 p9 (.lst [vb]) = H9 at s9 St10 L9 L8 k9
  refine ⟨odd, .ref p9, rfl, St10.tb, fun H10 p10 fs10 e10 T10 n10 h10 z10 F10 => ?_⟩
  have St11 := St10.lam e10 T10
  have M8 : H10 p8 = some (.lst (fs8.map V.ref)) := e10 _ _ L8 (fun ps z => by cases z)
  have M9 : H10 p9 = some (.lst [vb]) := e10 _ _ L9 (fun ps z => by cases z)
  have g11 := St11.big
  have St12 := St11.again
  have hvr12 := same_dp g11 hvr4
  have hvb12 := same_dp g11 hvb4'
  have h9 : Dp K (dat d H10) (.ref p9) (eRs [S]) := .lst (xs := [vb]) (SqL.of (dat_of m9 M9 (fun _ z => by cases z) fun _ z => by cases z)) (.cons hvb12 .nil)
  generalize dat d H10 = G10 at g11 St12 hvr12 hvb12 h9
  let cs : List (Str × V) := [("_law_odd", .int odd)]
  have A8 : ∀ g ∈ fs8, Wk P w K mg X cs G10 .size H10 g := fun g hg => wk_single ((F8 g hg).ek (k9.trans (EK.lam e10))) hvb12 (.inl ⟨nodd, rfl⟩)
  have A10 : ∀ g ∈ fs10, Wk P w K mg X cs G10 .size H10 g := fun g hg => wk_several (F10 g hg) h9 (.inl ⟨nodd, rfl⟩)
  have len8 : (fs8.map V.ref).length ≤ 8 := by rw [List.length_map]; exact z8
  have len10 : (fs10.map V.ref).length ≤ 8 := by rw [List.length_map]; exact z10
  refine ⟨p8, p10, _, _, rfl, rfl, M8, h10, Nat.le_of_lt (sizeOk (by show (fs8.map V.ref).length + (fs10.map V.ref).length ≤ _; omega)), fun p11 n11 => ?_⟩
  have s11 := same_new (o := .lst (fs8.map V.ref ++ fs10.map V.ref)) n11
  have St13 := St12.same s11
  have A11 := wk_all (wk_app A8 A10) (EK.same s11)
  have L11 : upd H10 p11 (.lst (fs8.map V.ref ++ fs10.map V.ref)) p11 = some (.lst (fs8.map V.ref ++ fs10.map V.ref)) := upd_same
  generalize upd H10 p11 (.lst (fs8.map V.ref ++ fs10.map V.ref)) = H11 at s11 St13 A11 L11
  have len11 : (fs8.map V.ref ++ fs10.map V.ref).length ≤ 16 := by rw [List.length_append]; omega
  refine ⟨St13.tb, fun f12 c12 H12 e12 m12 T12 nf12 lf12 cf12 => ⟨by show 1 ≤ sizeLine; decide, fun p13 n13 => ?_⟩⟩
  have W12 : Wk P w K mg X cs G10 .size H12 f12 := fun B cb x Hb sb => ⟨fun H Q E => Thr K .size H E, lm_c0 (k := 8) (fr := ["_law_odd"]) (ws := [.int odd]) [0] cb x lf12 cf12 rfl rfl rfl (NdefX.nscope_by (by kernel_rfl)) (fun _ _ _ => rfl) (fun A outer s H Q E hr h =>
    ⟨_, pe_kX (E := E) (ok_read T) hr (L2N.takes_of rfl rfl rfl rfl) (pa_cons (pv 0) (pa_cons pe_str pa_nil)), ⟨_, rfl, odd, _, rfl, nodd, h⟩⟩), fun Q E thr => thr⟩
  have St14 := St13.lam e12 T12
  have M11 : H12 p11 = some (.lst (fs8.map V.ref ++ fs10.map V.ref)) := e12 _ _ L11 (fun ps z => by cases z)
  have s13 := same_new (o := .lst [.ref f12]) n13
  have St15 := St14.same s13
  have A13 := wk_app (wk_all A11 ((EK.lam e12).trans (EK.same s13))) (wk_one (W12.ek (EK.same s13)))
  have L13 : upd H12 p13 (.lst [.ref f12]) p13 = some (.lst [.ref f12]) := upd_same
  replace M11 := s13 _ _ M11
  generalize upd H12 p13 (.lst [.ref f12]) = H13 at s13 St15 A13 L13 M11
  refine ⟨p11, p13, _, _, rfl, rfl, M11, L13, Nat.le_of_lt (sizeOk (by show (fs8.map V.ref ++ fs10.map V.ref).length + 1 ≤ _; omega)), fun l n14 => ?_⟩
  have gl : G10 l = none := St15.free n14
  have dl : d ≠ l := ne_of_none St15.hd n14
  have s14 := same_new (o := .lst (fs8.map V.ref ++ fs10.map V.ref ++ [.ref f12])) n14
  have St16 := St15.same s14
  have A14 := wk_all A13 (EK.same s14)
  have L14 : upd H13 l (.lst (fs8.map V.ref ++ fs10.map V.ref ++ [.ref f12])) l = some (.lst (fs8.map V.ref ++ fs10.map V.ref ++ [.ref f12])) := upd_same
  change tSeq _ _ _ _ (upd H13 l (.lst (fs8.map V.ref ++ fs10.map V.ref ++ [.ref f12])))
  generalize upd H13 l (.lst (fs8.map V.ref ++ fs10.map V.ref ++ [.ref f12])) = H14 at s14 St16 A14 L14
  refine ⟨_, rfl, .inl ⟨rfl, _, SqL.of L14⟩, St16.tb, fun f15 c15 t15 H15 e15 m15 T15 nf15 lf15 cf15 tf15 => ?_⟩
  have W15 : Wk P w K mg X cs G10 .size H15 f15 := fun B cb x Hb sb => ⟨fun H Q E => Thr K .size H E, lm_c1 (k := 8) (a := "_law_a") (fr := ["_law_odd"]) (ws := [.int odd]) [0] cb x lf15 cf15 tf15 rfl rfl rfl (NdefX.nscope_by (by kernel_rfl)) rfl (fun _ _ _ => ⟨_, rfl, fun _ => rfl⟩) (fun A outer s H Q E hr h =>
    ⟨_, pe_kX (E := E) (ok_look T) hr (L2N.takes_of rfl rfl rfl rfl) (pa_cons (pv 1) (pa_cons (pe_tup (pa_cons (pe_lst pa_nil) (pa_cons (pe_lst pa_nil) pa_nil))) (pa_cons pe_int (pa_cons pe_int pa_nil)))), ⟨_, rfl, Nat.zero_le _, fun q1 nq1 => ⟨Nat.zero_le _, fun q2 nq2 => ⟨by show 2 ≤ sizeLine; decide, fun q3 nq3 => ⟨odd, .ref q3, 0, 0, rfl, .inl ⟨nodd, h.mono ((same_new nq1).trans ((same_new nq2).trans (same_new nq3)))⟩⟩⟩⟩⟩⟩), fun Q E thr => thr⟩
  have M15 : H15 l = some (.lst (fs8.map V.ref ++ fs10.map V.ref ++ [.ref f12])) := e15 _ _ L14 (fun ps z => by cases z)
  have St17 := St16.lam e15 T15
  refine ⟨l, _, _, rfl, rfl, M15, sizeOk (by rw [List.length_append]; show (fs8.map V.ref ++ fs10.map V.ref).length + 1 ≤ _; omega), ?_⟩
  have St18 : Sit (tabsK K) d D7 G10 (upd H15 l (.lst (fs8.map V.ref ++ fs10.map V.ref ++ [.ref f12] ++ [.ref f15]))) := St17.upd gl M15 dl
  have A18 : ∀ g ∈ fs8 ++ fs10 ++ [f12] ++ [f15], Wk P w K mg X cs G10 .size (upd H15 l (.lst (fs8.map V.ref ++ fs10.map V.ref ++ [.ref f12] ++ [.ref f15]))) g := wk_app (wk_all A14 ((EK.lam e15).trans (EK.upd M15))) (wk_one (W15.ek (EK.upd M15)))
  have L18 : upd H15 l (.lst (fs8.map V.ref ++ fs10.map V.ref ++ [.ref f12] ++ [.ref f15])) l = some (.lst ((fs8 ++ fs10 ++ [f12] ++ [f15]).map V.ref)) := by
    rw [upd_same, List.map_append, List.map_append, List.map_append]
    rfl
  change tSeq _ _ _ _ (upd H15 l (.lst (fs8.map V.ref ++ fs10.map V.ref ++ [.ref f12] ++ [.ref f15])))
  generalize upd H15 l (.lst (fs8.map V.ref ++ fs10.map V.ref ++ [.ref f12] ++ [.ref f15])) = H18 at St18 A18 L18
  refine ⟨_, rfl, l, rfl, ⟨_, SqL.of L18⟩, ?_⟩
  refine lc_none (SqL.of L18) ?_ ?_
  · intro B cb x g hg H6 Z s6 hZ
    exact ⟨rfl, _, rfl, g, "size", .int 0, .size, rfl, A18 g hg B (cbs_of (js := [6]) cb rfl rfl (by kernel_rfl)) x _ ((dat_bare St18.sm St18.dt).trans s6), rfl, fun H3 s4 => ⟨true, rfl, hZ _ _ s4⟩⟩
  · intro z H' nz s' hz
    refine none_left hz fun H2 s2 => ?_
    exact ⟨d, D7, n, vr, vb, R, S, i, G10, _, _, _, _, _, _, _, _, rfl, hn1, hn2, hR, hB, hvr12, hvb12, St18.same (s'.trans s2), q⟩
end
/-! ### what the top has left, by names -/
def dd_need_size : He.DefD := ⟨("need_size", none), "need_size", "need_size", defArgs s_need_size, defBody s_need_size, defScope s_need_size, [], []⟩
def dd_need_set : He.DefD := ⟨("need_set", none), "need_set", "need_set", defArgs s_need_set, defBody s_need_set, defScope s_need_set, [], []⟩
def dd_need_number : He.DefD := ⟨("need_number", none), "need_number", "need_number", defArgs s_need_number, defBody s_need_number, defScope s_need_number, [], []⟩
def dd_has : He.DefD := ⟨("has", none), "has", "has", defArgs s_has, defBody s_has, defScope s_has, [], []⟩
def dd_all_in : He.DefD := ⟨("all_in", none), "all_in", "all_in", defArgs s_all_in, defBody s_all_in, defScope s_all_in, [], []⟩
def dd_told : He.DefD := ⟨("told", none), "told", "told", defArgs s_told, defBody s_told, defScope s_told, [], []⟩
def dd_members : He.DefD := ⟨("members", none), "members", "members", defArgs s_members, defBody s_members, defScope s_members, [], []⟩
def dd_plain : He.DefD := ⟨("plain", none), "plain", "plain", defArgs s_plain, defBody s_plain, defScope s_plain, [], []⟩
def dd_need_two : He.DefD := ⟨("need_two", none), "need_two", "need_two", defArgs s_need_two, defBody s_need_two, defScope s_need_two, [], []⟩
def dd_joined : He.DefD := ⟨("joined", none), "joined", "joined", defArgs s_joined, defBody s_joined, defScope s_joined, [], []⟩
def dd_common : He.DefD := ⟨("common", none), "common", "common", defArgs s_common, defBody s_common, defScope s_common, [], []⟩
def dd_less : He.DefD := ⟨("less", none), "less", "less", defArgs s_less, defBody s_less, defScope s_less, [], []⟩
def dd_others : He.DefD := ⟨("others", none), "others", "others", defArgs s_others, defBody s_others, defScope s_others, [], []⟩
def dd_inside : He.DefD := ⟨("inside", none), "inside", "inside", defArgs s_inside, defBody s_inside, defScope s_inside, [], []⟩
def dd_need_sets : He.DefD := ⟨("need_sets", none), "need_sets", "need_sets", defArgs s_need_sets, defBody s_need_sets, defScope s_need_sets, [], []⟩
def dd_row_of : He.DefD := ⟨("row_of", none), "row_of", "row_of", defArgs s_row_of, defBody s_row_of, defScope s_row_of, [], []⟩
def dd_made : He.DefD := ⟨("made", none), "made", "made", defArgs s_made, defBody s_made, defScope s_made, [], []⟩
def dd_table : He.DefD := ⟨("table", none), "table", "table", defArgs s_table, defBody s_table, defScope s_table, [], []⟩
def dd_look : He.DefD := ⟨("look", none), "look", "look", defArgs s_look, defBody s_look, defScope s_look, [], []⟩
def dd_room_of : He.DefD := ⟨("room_of", none), "room_of", "room_of", defArgs s_room_of, defBody s_room_of, defScope s_room_of, [], []⟩
def dd_least : He.DefD := ⟨("least", none), "least", "least", defArgs s_least, defBody s_least, defScope s_least, [], []⟩
def dd_kinds_of : He.DefD := ⟨("kinds_of", none), "kinds_of", "kinds_of", defArgs s_kinds_of, defBody s_kinds_of, defScope s_kinds_of, [], []⟩
def dd_classes : He.DefD := ⟨("classes", none), "classes", "classes", defArgs s_classes, defBody s_classes, defScope s_classes, [], []⟩
def dd_class_row : He.DefD := ⟨("class_row", none), "class_row", "class_row", defArgs s_class_row, defBody s_class_row, defScope s_class_row, [], []⟩
def dd_by_classes : He.DefD := ⟨("by_classes", none), "by_classes", "by_classes", defArgs s_by_classes, defBody s_by_classes, defScope s_by_classes, [], []⟩
def dd_items_of : He.DefD := ⟨("items_of", none), "items_of", "items_of", defArgs s_items_of, defBody s_items_of, defScope s_items_of, [], []⟩
def dd_written : He.DefD := ⟨("written", none), "written", "written", defArgs s_written, defBody s_written, defScope s_written, [], []⟩
def dd_number_of : He.DefD := ⟨("number_of", none), "number_of", "number_of", defArgs s_number_of, defBody s_number_of, defScope s_number_of, [], []⟩
def dd_item_of : He.DefD := ⟨("item_of", none), "item_of", "item_of", defArgs s_item_of, defBody s_item_of, defScope s_item_of, [], []⟩
def dd_read : He.DefD := ⟨("read", none), "read", "read", defArgs s_read, defBody s_read, defScope s_read, [], []⟩
def dd__law_dice : He.DefD := ⟨("_law_dice", none), "_law_dice", "_law_dice", defArgs s__law_dice, defBody s__law_dice, defScope s__law_dice, [], []⟩
def dd__law_off : He.DefD := ⟨("_law_off", none), "_law_off", "_law_off", defArgs s__law_off, defBody s__law_off, defScope s__law_off, [], []⟩
def dd__law_alike : He.DefD := ⟨("_law_alike", none), "_law_alike", "_law_alike", defArgs s__law_alike, defBody s__law_alike, defScope s__law_alike, [], []⟩
def dd__law_refused : He.DefD := ⟨("_law_refused", none), "_law_refused", "_law_refused", defArgs s__law_refused, defBody s__law_refused, defScope s__law_refused, [], []⟩
def dd__law_size : He.DefD := ⟨("_law_size", none), "_law_size", "_law_size", defArgs s__law_size, defBody s__law_size, defScope s__law_size, [], []⟩
def dd__law_set : He.DefD := ⟨("_law_set", none), "_law_set", "_law_set", defArgs s__law_set, defBody s__law_set, defScope s__law_set, [], []⟩
def dd__law_bad : He.DefD := ⟨("_law_bad", none), "_law_bad", "_law_bad", defArgs s__law_bad, defBody s__law_bad, defScope s__law_bad, [], []⟩
def dd__law_single : He.DefD := ⟨("_law_single", none), "_law_single", "_law_single", defArgs s__law_single, defBody s__law_single, defScope s__law_single, [], []⟩
def dd__law_several : He.DefD := ⟨("_law_several", none), "_law_several", "_law_several", defArgs s__law_several, defBody s__law_several, defScope s__law_several, [], []⟩
def dd_law : He.DefD := ⟨("law", none), "law", "law", defArgs s_law, defBody s_law, defScope s_law, [], []⟩
def dd_init : He.DefD := ⟨("BadSet", some "__init__"), "__init__", "BadSet.__init__", defArgs s_BadSet_init, defBody s_BadSet_init, defScope s_BadSet_init, [], []⟩
def hfn : List He.DefD := [dd_need_size, dd_need_set, dd_need_number, dd_has, dd_all_in, dd_told, dd_members, dd_plain, dd_need_two, dd_joined, dd_common, dd_less, dd_others, dd_inside, dd_need_sets, dd_row_of, dd_made, dd_table, dd_look, dd_room_of, dd_least, dd_kinds_of, dd_classes, dd_class_row, dd_by_classes, dd_items_of, dd_written, dd_number_of, dd_item_of, dd_read, dd__law_dice, dd__law_off, dd__law_alike, dd__law_refused, dd__law_size, dd__law_set, dd__law_bad, dd__law_single, dd__law_several, dd_law, dd_init]
def hfa : List He.Fa := [.glo "need_size", .glo "need_set", .glo "need_number", .glo "has", .glo "all_in", .glo "told", .glo "members", .glo "plain", .glo "need_two", .glo "joined", .glo "common", .glo "less", .glo "others", .glo "inside", .glo "need_sets", .glo "row_of", .glo "made", .glo "table", .glo "look", .glo "room_of", .glo "least", .glo "kinds_of", .glo "classes", .glo "class_row", .glo "by_classes", .glo "items_of", .glo "written", .glo "number_of", .glo "item_of", .glo "read", .glo "_law_dice", .glo "_law_off", .glo "_law_alike", .glo "_law_refused", .glo "_law_size", .glo "_law_set", .glo "_law_bad", .glo "_law_single", .glo "_law_several", .glo "law", .int "MOST_SIZE" 64, .int "MOST_RANGES" 40, .str "FIGURES" "0123456789", .str "NOT" "^", .free "range", .free "enumerate", .free "len", .free "min", .free "max", .free "abs", .free "isinstance", .free "bool", .free "int", .free "str", .free "tuple", .free "list", .free "all", .free "sum", .free "ValueError", .glo "SetError", .glo "BadSize", .glo "BadSet", .glo "BadNumber", .glo "BadText", .exc "BadSize", .exc "BadNumber", .exm "BadSize" "SetError" true, .exm "BadSet" "SetError" true, .exm "BadNumber" "SetError" true]
def htf : List He.Defn := [("law", none), ("_law_single", none), ("_law_several", none)]
def hex (K : PySem.W.Frag) : Bool := isB K "BadSize" && (kitB K "BadSize" (.type "ValueError") true && (kitB K "BadSize" (.ref (He.ga K "BadSize")) true && (kitB K "BadSize" (.ref (He.ga K "BadSet")) false && (kitB K "BadSize" (.ref (He.ga K "BadNumber")) false && (kitB K "BadSize" (.ref (He.ga K "BadText")) false && (isB K "BadSet" && (kitB K "BadSet" (.type "ValueError") true && (kitB K "BadSet" (.ref (He.ga K "BadSize")) false && (kitB K "BadSet" (.ref (He.ga K "BadSet")) true && (kitB K "BadSet" (.ref (He.ga K "BadNumber")) false && (kitB K "BadSet" (.ref (He.ga K "BadText")) false && (isB K "BadNumber" && (kitB K "BadNumber" (.type "ValueError") true && (kitB K "BadNumber" (.ref (He.ga K "BadSize")) false && (kitB K "BadNumber" (.ref (He.ga K "BadSet")) false && (kitB K "BadNumber" (.ref (He.ga K "BadNumber")) true && (kitB K "BadNumber" (.ref (He.ga K "BadText")) false && (iniB K "BadSet" ["number", "at"] && (baseB K "SetError" && (!decide (tbl3 K "law" = tbl3 K "_law_single") && (!decide (tbl3 K "law" = tbl3 K "_law_several") && (!decide (tbl3 K "_law_single" = tbl3 K "_law_several")))))))))))))))))))))))
abbrev hR : PySem.W.OpenRow := PySem.W.OpenLaw.row PySem.Challenge.rw_signsets_k01_sets_refused
abbrev hhk : PySem.W.Hook := hookY 4 hfa hfn htf hex
def hob (s : PySem.W.SharedT) : AlY := obsY 4 hfa hfn htf hex (HandSHeadRun.getT s)
theorem hob_eq (s : PySem.W.SharedT) : hob s = hhk.obs s.abs := obsY_eq (HandSHeadRun.getT_eq s)
def hn0 : List Str := ["SetError", "BadSize", "BadSet", "BadNumber", "BadText", "MOST_SIZE", "MOST_RANGES", "need_size", "need_set", "need_number", "has", "all_in", "told", "members", "plain", "need_two", "joined", "common", "less", "others", "inside", "need_sets", "row_of", "made", "table", "look", "room_of", "least", "kinds_of", "classes"]
def hn1 : List Str := ["class_row", "by_classes", "FIGURES", "NOT", "items_of", "written", "number_of", "item_of", "read", "_law_dice", "_law_off", "_law_alike", "_law_refused", "_law_size", "_law_set", "_law_bad", "_law_single", "_law_several"]
def hnames : List Str := hn0 ++ hn1
set_option maxHeartbeats 0 in
theorem hrun (w : World) : HandSHeadRun.RunEq hR (PySem.W.view hR.prog [54]) hhk hob 8000 hnames w := by
  intro os
  kernel_rfl
theorem fun_of {K : PySem.W.Frag} {x qual : Str} {st : Stmt} {f : Addr} {fd : FuncData} {kws : List (Str × V)} (F : FunD K x qual (defArgs st) (defBody st) (defScope st) [] kws f fd) : Fun K x qual st f fd := by
  obtain ⟨oc, od, dV, kV, doc, pm, an, cdv, ct, osl, rfl, lk, hcd, hD, hK⟩ := F.ex
  rcases hD with ⟨_, rfl⟩ | ⟨e, _⟩
  · exact ⟨⟨oc, od, kV, doc, pm, an, cdv, ct, osl, rfl, lk, hcd⟩, F.kp⟩
  · exact absurd rfl e
theorem ndec {p : Prop} [Decidable p] (h : (!decide p) = true) : ¬ p := by simpa using h
theorem hex_ok {K : PySem.W.Frag} (h : hex K = true) : (isB K "BadSize") = true ∧ (kitB K "BadSize" (.type "ValueError") true) = true ∧ (kitB K "BadSize" (.ref (He.ga K "BadSize")) true) = true ∧ (kitB K "BadSize" (.ref (He.ga K "BadSet")) false) = true ∧ (kitB K "BadSize" (.ref (He.ga K "BadNumber")) false) = true ∧ (kitB K "BadSize" (.ref (He.ga K "BadText")) false) = true ∧ (isB K "BadSet") = true ∧ (kitB K "BadSet" (.type "ValueError") true) = true ∧ (kitB K "BadSet" (.ref (He.ga K "BadSize")) false) = true ∧ (kitB K "BadSet" (.ref (He.ga K "BadSet")) true) = true ∧ (kitB K "BadSet" (.ref (He.ga K "BadNumber")) false) = true ∧ (kitB K "BadSet" (.ref (He.ga K "BadText")) false) = true ∧ (isB K "BadNumber") = true ∧ (kitB K "BadNumber" (.type "ValueError") true) = true ∧ (kitB K "BadNumber" (.ref (He.ga K "BadSize")) false) = true ∧ (kitB K "BadNumber" (.ref (He.ga K "BadSet")) false) = true ∧ (kitB K "BadNumber" (.ref (He.ga K "BadNumber")) true) = true ∧ (kitB K "BadNumber" (.ref (He.ga K "BadText")) false) = true ∧ (iniB K "BadSet" ["number", "at"]) = true ∧ (baseB K "SetError") = true ∧ (!decide (tbl3 K "law" = tbl3 K "_law_single")) = true ∧ (!decide (tbl3 K "law" = tbl3 K "_law_several")) = true ∧ (!decide (tbl3 K "_law_single" = tbl3 K "_law_several")) = true := by
  unfold hex at h
  obtain ⟨h0, h⟩ := He.ba h
  obtain ⟨h1, h⟩ := He.ba h
  obtain ⟨h2, h⟩ := He.ba h
  obtain ⟨h3, h⟩ := He.ba h
  obtain ⟨h4, h⟩ := He.ba h
  obtain ⟨h5, h⟩ := He.ba h
  obtain ⟨h6, h⟩ := He.ba h
  obtain ⟨h7, h⟩ := He.ba h
  obtain ⟨h8, h⟩ := He.ba h
  obtain ⟨h9, h⟩ := He.ba h
  obtain ⟨h10, h⟩ := He.ba h
  obtain ⟨h11, h⟩ := He.ba h
  obtain ⟨h12, h⟩ := He.ba h
  obtain ⟨h13, h⟩ := He.ba h
  obtain ⟨h14, h⟩ := He.ba h
  obtain ⟨h15, h⟩ := He.ba h
  obtain ⟨h16, h⟩ := He.ba h
  obtain ⟨h17, h⟩ := He.ba h
  obtain ⟨h18, h⟩ := He.ba h
  obtain ⟨h19, h⟩ := He.ba h
  obtain ⟨h20, h⟩ := He.ba h
  obtain ⟨h21, h⟩ := He.ba h
  exact ⟨h0, h1, h2, h3, h4, h5, h6, h7, h8, h9, h10, h11, h12, h13, h14, h15, h16, h17, h18, h19, h20, h21, h⟩
section
variable {K : PySem.W.Frag} {h : Heap} {mg : Str → Option Value}
theorem hd_need_size (X : K.In h) (G : h.Ns mainGlobals mg) (c : He.SaysD hfa hfn K) : Df K mg "need_size" s_need_size ["size"] := by
  obtain ⟨fd, F⟩ := c.def_ 0 (d := dd_need_size) rfl
  exact ⟨_, fd, fun_of F, He.glo_ok X G (c.fact 0 (f := .glo "need_size") rfl), F.bindsN fun _ _ _ _ _ _ us hl => match us, hl with | [_], _ => rfl⟩
theorem hd_need_set (X : K.In h) (G : h.Ns mainGlobals mg) (c : He.SaysD hfa hfn K) : Df K mg "need_set" s_need_set ["size", "ranges", "number"] := by
  obtain ⟨fd, F⟩ := c.def_ 1 (d := dd_need_set) rfl
  exact ⟨_, fd, fun_of F, He.glo_ok X G (c.fact 1 (f := .glo "need_set") rfl), F.bindsN fun _ _ _ _ _ _ us hl => match us, hl with | [_, _, _], _ => rfl⟩
theorem hd_need_number (X : K.In h) (G : h.Ns mainGlobals mg) (c : He.SaysD hfa hfn K) : Df K mg "need_number" s_need_number ["size", "number"] := by
  obtain ⟨fd, F⟩ := c.def_ 2 (d := dd_need_number) rfl
  exact ⟨_, fd, fun_of F, He.glo_ok X G (c.fact 2 (f := .glo "need_number") rfl), F.bindsN fun _ _ _ _ _ _ us hl => match us, hl with | [_, _], _ => rfl⟩
theorem hd_has (X : K.In h) (G : h.Ns mainGlobals mg) (c : He.SaysD hfa hfn K) : Df K mg "has" s_has ["ranges", "number"] := by
  obtain ⟨fd, F⟩ := c.def_ 3 (d := dd_has) rfl
  exact ⟨_, fd, fun_of F, He.glo_ok X G (c.fact 3 (f := .glo "has") rfl), F.bindsN fun _ _ _ _ _ _ us hl => match us, hl with | [_, _], _ => rfl⟩
theorem hd_all_in (X : K.In h) (G : h.Ns mainGlobals mg) (c : He.SaysD hfa hfn K) : Df K mg "all_in" s_all_in ["size", "ranges"] := by
  obtain ⟨fd, F⟩ := c.def_ 4 (d := dd_all_in) rfl
  exact ⟨_, fd, fun_of F, He.glo_ok X G (c.fact 4 (f := .glo "all_in") rfl), F.bindsN fun _ _ _ _ _ _ us hl => match us, hl with | [_, _], _ => rfl⟩
theorem hd_told (X : K.In h) (G : h.Ns mainGlobals mg) (c : He.SaysD hfa hfn K) : Df K mg "told" s_told ["numbers"] := by
  obtain ⟨fd, F⟩ := c.def_ 5 (d := dd_told) rfl
  exact ⟨_, fd, fun_of F, He.glo_ok X G (c.fact 5 (f := .glo "told") rfl), F.bindsN fun _ _ _ _ _ _ us hl => match us, hl with | [_], _ => rfl⟩
theorem hd_members (X : K.In h) (G : h.Ns mainGlobals mg) (c : He.SaysD hfa hfn K) : Df K mg "members" s_members ["size", "ranges"] := by
  obtain ⟨fd, F⟩ := c.def_ 6 (d := dd_members) rfl
  exact ⟨_, fd, fun_of F, He.glo_ok X G (c.fact 6 (f := .glo "members") rfl), F.bindsN fun _ _ _ _ _ _ us hl => match us, hl with | [_, _], _ => rfl⟩
theorem hd_plain (X : K.In h) (G : h.Ns mainGlobals mg) (c : He.SaysD hfa hfn K) : Df K mg "plain" s_plain ["size", "ranges"] := by
  obtain ⟨fd, F⟩ := c.def_ 7 (d := dd_plain) rfl
  exact ⟨_, fd, fun_of F, He.glo_ok X G (c.fact 7 (f := .glo "plain") rfl), F.bindsN fun _ _ _ _ _ _ us hl => match us, hl with | [_, _], _ => rfl⟩
theorem hd_need_two (X : K.In h) (G : h.Ns mainGlobals mg) (c : He.SaysD hfa hfn K) : Df K mg "need_two" s_need_two ["size", "one", "other"] := by
  obtain ⟨fd, F⟩ := c.def_ 8 (d := dd_need_two) rfl
  exact ⟨_, fd, fun_of F, He.glo_ok X G (c.fact 8 (f := .glo "need_two") rfl), F.bindsN fun _ _ _ _ _ _ us hl => match us, hl with | [_, _, _], _ => rfl⟩
theorem hd_joined (X : K.In h) (G : h.Ns mainGlobals mg) (c : He.SaysD hfa hfn K) : Df K mg "joined" s_joined ["size", "one", "other"] := by
  obtain ⟨fd, F⟩ := c.def_ 9 (d := dd_joined) rfl
  exact ⟨_, fd, fun_of F, He.glo_ok X G (c.fact 9 (f := .glo "joined") rfl), F.bindsN fun _ _ _ _ _ _ us hl => match us, hl with | [_, _, _], _ => rfl⟩
theorem hd_common (X : K.In h) (G : h.Ns mainGlobals mg) (c : He.SaysD hfa hfn K) : Df K mg "common" s_common ["size", "one", "other"] := by
  obtain ⟨fd, F⟩ := c.def_ 10 (d := dd_common) rfl
  exact ⟨_, fd, fun_of F, He.glo_ok X G (c.fact 10 (f := .glo "common") rfl), F.bindsN fun _ _ _ _ _ _ us hl => match us, hl with | [_, _, _], _ => rfl⟩
theorem hd_less (X : K.In h) (G : h.Ns mainGlobals mg) (c : He.SaysD hfa hfn K) : Df K mg "less" s_less ["size", "one", "other"] := by
  obtain ⟨fd, F⟩ := c.def_ 11 (d := dd_less) rfl
  exact ⟨_, fd, fun_of F, He.glo_ok X G (c.fact 11 (f := .glo "less") rfl), F.bindsN fun _ _ _ _ _ _ us hl => match us, hl with | [_, _, _], _ => rfl⟩
theorem hd_others (X : K.In h) (G : h.Ns mainGlobals mg) (c : He.SaysD hfa hfn K) : Df K mg "others" s_others ["size", "ranges"] := by
  obtain ⟨fd, F⟩ := c.def_ 12 (d := dd_others) rfl
  exact ⟨_, fd, fun_of F, He.glo_ok X G (c.fact 12 (f := .glo "others") rfl), F.bindsN fun _ _ _ _ _ _ us hl => match us, hl with | [_, _], _ => rfl⟩
theorem hd_inside (X : K.In h) (G : h.Ns mainGlobals mg) (c : He.SaysD hfa hfn K) : Df K mg "inside" s_inside ["size", "ranges", "number"] := by
  obtain ⟨fd, F⟩ := c.def_ 13 (d := dd_inside) rfl
  exact ⟨_, fd, fun_of F, He.glo_ok X G (c.fact 13 (f := .glo "inside") rfl), F.bindsN fun _ _ _ _ _ _ us hl => match us, hl with | [_, _, _], _ => rfl⟩
theorem hd_need_sets (X : K.In h) (G : h.Ns mainGlobals mg) (c : He.SaysD hfa hfn K) : Df K mg "need_sets" s_need_sets ["size", "sets"] := by
  obtain ⟨fd, F⟩ := c.def_ 14 (d := dd_need_sets) rfl
  exact ⟨_, fd, fun_of F, He.glo_ok X G (c.fact 14 (f := .glo "need_sets") rfl), F.bindsN fun _ _ _ _ _ _ us hl => match us, hl with | [_, _], _ => rfl⟩
theorem hd_row_of (X : K.In h) (G : h.Ns mainGlobals mg) (c : He.SaysD hfa hfn K) : Df K mg "row_of" s_row_of ["size", "ranges", "first", "wide"] := by
  obtain ⟨fd, F⟩ := c.def_ 15 (d := dd_row_of) rfl
  exact ⟨_, fd, fun_of F, He.glo_ok X G (c.fact 15 (f := .glo "row_of") rfl), F.bindsN fun _ _ _ _ _ _ us hl => match us, hl with | [_, _, _, _], _ => rfl⟩
theorem hd_made (X : K.In h) (G : h.Ns mainGlobals mg) (c : He.SaysD hfa hfn K) : Df K mg "made" s_made ["size", "sets", "wide"] := by
  obtain ⟨fd, F⟩ := c.def_ 16 (d := dd_made) rfl
  exact ⟨_, fd, fun_of F, He.glo_ok X G (c.fact 16 (f := .glo "made") rfl), F.bindsN fun _ _ _ _ _ _ us hl => match us, hl with | [_, _, _], _ => rfl⟩
theorem hd_table (X : K.In h) (G : h.Ns mainGlobals mg) (c : He.SaysD hfa hfn K) : Df K mg "table" s_table ["size", "sets", "wide"] := by
  obtain ⟨fd, F⟩ := c.def_ 17 (d := dd_table) rfl
  exact ⟨_, fd, fun_of F, He.glo_ok X G (c.fact 17 (f := .glo "table") rfl), F.bindsN fun _ _ _ _ _ _ us hl => match us, hl with | [_, _, _], _ => rfl⟩
theorem hd_look (X : K.In h) (G : h.Ns mainGlobals mg) (c : He.SaysD hfa hfn K) : Df K mg "look" s_look ["size", "told", "which", "number"] := by
  obtain ⟨fd, F⟩ := c.def_ 18 (d := dd_look) rfl
  exact ⟨_, fd, fun_of F, He.glo_ok X G (c.fact 18 (f := .glo "look") rfl), F.bindsN fun _ _ _ _ _ _ us hl => match us, hl with | [_, _, _, _], _ => rfl⟩
theorem hd_room_of (X : K.In h) (G : h.Ns mainGlobals mg) (c : He.SaysD hfa hfn K) : Df K mg "room_of" s_room_of ["told"] := by
  obtain ⟨fd, F⟩ := c.def_ 19 (d := dd_room_of) rfl
  exact ⟨_, fd, fun_of F, He.glo_ok X G (c.fact 19 (f := .glo "room_of") rfl), F.bindsN fun _ _ _ _ _ _ us hl => match us, hl with | [_], _ => rfl⟩
theorem hd_least (X : K.In h) (G : h.Ns mainGlobals mg) (c : He.SaysD hfa hfn K) : Df K mg "least" s_least ["size", "sets"] := by
  obtain ⟨fd, F⟩ := c.def_ 20 (d := dd_least) rfl
  exact ⟨_, fd, fun_of F, He.glo_ok X G (c.fact 20 (f := .glo "least") rfl), F.bindsN fun _ _ _ _ _ _ us hl => match us, hl with | [_, _], _ => rfl⟩
theorem hd_kinds_of (X : K.In h) (G : h.Ns mainGlobals mg) (c : He.SaysD hfa hfn K) : Df K mg "kinds_of" s_kinds_of ["size", "sets"] := by
  obtain ⟨fd, F⟩ := c.def_ 21 (d := dd_kinds_of) rfl
  exact ⟨_, fd, fun_of F, He.glo_ok X G (c.fact 21 (f := .glo "kinds_of") rfl), F.bindsN fun _ _ _ _ _ _ us hl => match us, hl with | [_, _], _ => rfl⟩
theorem hd_classes (X : K.In h) (G : h.Ns mainGlobals mg) (c : He.SaysD hfa hfn K) : Df K mg "classes" s_classes ["size", "sets"] := by
  obtain ⟨fd, F⟩ := c.def_ 22 (d := dd_classes) rfl
  exact ⟨_, fd, fun_of F, He.glo_ok X G (c.fact 22 (f := .glo "classes") rfl), F.bindsN fun _ _ _ _ _ _ us hl => match us, hl with | [_, _], _ => rfl⟩
theorem hd_class_row (X : K.In h) (G : h.Ns mainGlobals mg) (c : He.SaysD hfa hfn K) : Df K mg "class_row" s_class_row ["size", "sets"] := by
  obtain ⟨fd, F⟩ := c.def_ 23 (d := dd_class_row) rfl
  exact ⟨_, fd, fun_of F, He.glo_ok X G (c.fact 23 (f := .glo "class_row") rfl), F.bindsN fun _ _ _ _ _ _ us hl => match us, hl with | [_, _], _ => rfl⟩
theorem hd_by_classes (X : K.In h) (G : h.Ns mainGlobals mg) (c : He.SaysD hfa hfn K) : Df K mg "by_classes" s_by_classes ["size", "sets"] := by
  obtain ⟨fd, F⟩ := c.def_ 24 (d := dd_by_classes) rfl
  exact ⟨_, fd, fun_of F, He.glo_ok X G (c.fact 24 (f := .glo "by_classes") rfl), F.bindsN fun _ _ _ _ _ _ us hl => match us, hl with | [_, _], _ => rfl⟩
theorem hd_items_of (X : K.In h) (G : h.Ns mainGlobals mg) (c : He.SaysD hfa hfn K) : Df K mg "items_of" s_items_of ["ranges"] := by
  obtain ⟨fd, F⟩ := c.def_ 25 (d := dd_items_of) rfl
  exact ⟨_, fd, fun_of F, He.glo_ok X G (c.fact 25 (f := .glo "items_of") rfl), F.bindsN fun _ _ _ _ _ _ us hl => match us, hl with | [_], _ => rfl⟩
theorem hd_written (X : K.In h) (G : h.Ns mainGlobals mg) (c : He.SaysD hfa hfn K) : Df K mg "written" s_written ["size", "ranges"] := by
  obtain ⟨fd, F⟩ := c.def_ 26 (d := dd_written) rfl
  exact ⟨_, fd, fun_of F, He.glo_ok X G (c.fact 26 (f := .glo "written") rfl), F.bindsN fun _ _ _ _ _ _ us hl => match us, hl with | [_, _], _ => rfl⟩
theorem hd_number_of (X : K.In h) (G : h.Ns mainGlobals mg) (c : He.SaysD hfa hfn K) : Df K mg "number_of" s_number_of ["word", "size"] := by
  obtain ⟨fd, F⟩ := c.def_ 27 (d := dd_number_of) rfl
  exact ⟨_, fd, fun_of F, He.glo_ok X G (c.fact 27 (f := .glo "number_of") rfl), F.bindsN fun _ _ _ _ _ _ us hl => match us, hl with | [_, _], _ => rfl⟩
theorem hd_item_of (X : K.In h) (G : h.Ns mainGlobals mg) (c : He.SaysD hfa hfn K) : Df K mg "item_of" s_item_of ["word", "size"] := by
  obtain ⟨fd, F⟩ := c.def_ 28 (d := dd_item_of) rfl
  exact ⟨_, fd, fun_of F, He.glo_ok X G (c.fact 28 (f := .glo "item_of") rfl), F.bindsN fun _ _ _ _ _ _ us hl => match us, hl with | [_, _], _ => rfl⟩
theorem hd_read (X : K.In h) (G : h.Ns mainGlobals mg) (c : He.SaysD hfa hfn K) : Df K mg "read" s_read ["size", "text"] := by
  obtain ⟨fd, F⟩ := c.def_ 29 (d := dd_read) rfl
  exact ⟨_, fd, fun_of F, He.glo_ok X G (c.fact 29 (f := .glo "read") rfl), F.bindsN fun _ _ _ _ _ _ us hl => match us, hl with | [_, _], _ => rfl⟩
theorem hd__law_dice (X : K.In h) (G : h.Ns mainGlobals mg) (c : He.SaysD hfa hfn K) : Df K mg "_law_dice" s__law_dice ["_law_script", "_law_k"] := by
  obtain ⟨fd, F⟩ := c.def_ 30 (d := dd__law_dice) rfl
  exact ⟨_, fd, fun_of F, He.glo_ok X G (c.fact 30 (f := .glo "_law_dice") rfl), F.bindsN fun _ _ _ _ _ _ us hl => match us, hl with | [_, _], _ => rfl⟩
theorem hd__law_off (X : K.In h) (G : h.Ns mainGlobals mg) (c : He.SaysD hfa hfn K) : Df K mg "_law_off" s__law_off ["_law_d", "_law_most"] := by
  obtain ⟨fd, F⟩ := c.def_ 31 (d := dd__law_off) rfl
  exact ⟨_, fd, fun_of F, He.glo_ok X G (c.fact 31 (f := .glo "_law_off") rfl), F.bindsN fun _ _ _ _ _ _ us hl => match us, hl with | [_, _], _ => rfl⟩
theorem hd__law_alike (X : K.In h) (G : h.Ns mainGlobals mg) (c : He.SaysD hfa hfn K) : Df K mg "_law_alike" s__law_alike ["_law_found", "_law_due"] := by
  obtain ⟨fd, F⟩ := c.def_ 32 (d := dd__law_alike) rfl
  exact ⟨_, fd, fun_of F, He.glo_ok X G (c.fact 32 (f := .glo "_law_alike") rfl), F.bindsN fun _ _ _ _ _ _ us hl => match us, hl with | [_, _], _ => rfl⟩
theorem hd__law_refused (X : K.In h) (G : h.Ns mainGlobals mg) (c : He.SaysD hfa hfn K) : Df K mg "_law_refused" s__law_refused ["_law_work", "_law_word", "_law_value"] := by
  obtain ⟨fd, F⟩ := c.def_ 33 (d := dd__law_refused) rfl
  exact ⟨_, fd, fun_of F, He.glo_ok X G (c.fact 33 (f := .glo "_law_refused") rfl), F.bindsN fun _ _ _ _ _ _ us hl => match us, hl with | [_, _, _], _ => rfl⟩
theorem hd__law_size (X : K.In h) (G : h.Ns mainGlobals mg) (c : He.SaysD hfa hfn K) : Df K mg "_law_size" s__law_size ["_law_d"] := by
  obtain ⟨fd, F⟩ := c.def_ 34 (d := dd__law_size) rfl
  exact ⟨_, fd, fun_of F, He.glo_ok X G (c.fact 34 (f := .glo "_law_size") rfl), F.bindsN fun _ _ _ _ _ _ us hl => match us, hl with | [_], _ => rfl⟩
theorem hd__law_set (X : K.In h) (G : h.Ns mainGlobals mg) (c : He.SaysD hfa hfn K) : Df K mg "_law_set" s__law_set ["_law_d", "_law_size_here", "_law_most"] := by
  obtain ⟨fd, F⟩ := c.def_ 35 (d := dd__law_set) rfl
  exact ⟨_, fd, fun_of F, He.glo_ok X G (c.fact 35 (f := .glo "_law_set") rfl), F.bindsN fun _ _ _ _ _ _ us hl => match us, hl with | [_, _, _], _ => rfl⟩
theorem hd__law_bad (X : K.In h) (G : h.Ns mainGlobals mg) (c : He.SaysD hfa hfn K) : Df K mg "_law_bad" s__law_bad ["_law_d", "_law_size_here", "_law_ranges"] := by
  obtain ⟨fd, F⟩ := c.def_ 36 (d := dd__law_bad) rfl
  exact ⟨_, fd, fun_of F, He.glo_ok X G (c.fact 36 (f := .glo "_law_bad") rfl), F.bindsN fun _ _ _ _ _ _ us hl => match us, hl with | [_, _, _], _ => rfl⟩
theorem hd__law_single (X : K.In h) (G : h.Ns mainGlobals mg) (c : He.SaysD hfa hfn K) : Df K mg "_law_single" s__law_single ["_law_size_here", "_law_ranges"] := by
  obtain ⟨fd, F⟩ := c.def_ 37 (d := dd__law_single) rfl
  exact ⟨_, fd, fun_of F, He.glo_ok X G (c.fact 37 (f := .glo "_law_single") rfl), F.bindsN fun _ _ _ _ _ _ us hl => match us, hl with | [_, _], _ => rfl⟩
theorem hd__law_several (X : K.In h) (G : h.Ns mainGlobals mg) (c : He.SaysD hfa hfn K) : Df K mg "_law_several" s__law_several ["_law_size_here", "_law_sets"] := by
  obtain ⟨fd, F⟩ := c.def_ 38 (d := dd__law_several) rfl
  exact ⟨_, fd, fun_of F, He.glo_ok X G (c.fact 38 (f := .glo "_law_several") rfl), F.bindsN fun _ _ _ _ _ _ us hl => match us, hl with | [_, _], _ => rfl⟩
theorem hd_law (X : K.In h) (G : h.Ns mainGlobals mg) (c : He.SaysD hfa hfn K) : Df K mg "law" s_law ["_law_script"] := by
  obtain ⟨fd, F⟩ := c.def_ 39 (d := dd_law) rfl
  exact ⟨_, fd, fun_of F, He.glo_ok X G (c.fact 39 (f := .glo "law") rfl), F.bindsN fun _ _ _ _ _ _ us hl => match us, hl with | [_], _ => rfl⟩
theorem hd_init (c : He.SaysD hfa hfn K) : ∃ fd, Fun K "__init__" "BadSet.__init__" s_BadSet_init (He.ma K (He.ga K "BadSet") "__init__") fd ∧ Binds K fd ["self", "number", "at"] [] := by
  obtain ⟨fd, F⟩ := c.def_ 40 (d := dd_init) rfl
  exact ⟨fd, fun_of F, F.bindsN fun _ _ _ _ _ _ us hl => match us, hl with | [_, _, _], _ => rfl⟩
theorem hd_tx (X : K.In h) (G : h.Ns mainGlobals mg) (c : SaysY hfa hfn htf hex h K) : Tx K mg := by
  obtain ⟨b0, b1, b2, b3, b4, b5, b6, b7, b8, b9, b10, b11, b12, b13, b14, b15, b16, b17, b18, b19, b20, b21, b22⟩ := hex_ok c.more
  exact ⟨hd_need_size X G c.d,
    hd_need_set X G c.d,
    hd_need_number X G c.d,
    hd_has X G c.d,
    hd_all_in X G c.d,
    hd_told X G c.d,
    hd_members X G c.d,
    hd_plain X G c.d,
    hd_need_two X G c.d,
    hd_joined X G c.d,
    hd_common X G c.d,
    hd_less X G c.d,
    hd_others X G c.d,
    hd_inside X G c.d,
    hd_need_sets X G c.d,
    hd_row_of X G c.d,
    hd_made X G c.d,
    hd_table X G c.d,
    hd_look X G c.d,
    hd_room_of X G c.d,
    hd_least X G c.d,
    hd_kinds_of X G c.d,
    hd_classes X G c.d,
    hd_class_row X G c.d,
    hd_by_classes X G c.d,
    hd_items_of X G c.d,
    hd_written X G c.d,
    hd_number_of X G c.d,
    hd_item_of X G c.d,
    hd_read X G c.d,
    hd__law_dice X G c.d,
    hd__law_off X G c.d,
    hd__law_alike X G c.d,
    hd__law_refused X G c.d,
    hd__law_size X G c.d,
    hd__law_set X G c.d,
    hd__law_bad X G c.d,
    hd__law_single X G c.d,
    hd__law_several X G c.d,
    He.int_ok X G (c.d.fact 40 (f := .int "MOST_SIZE" 64) rfl),
    He.int_ok X G (c.d.fact 41 (f := .int "MOST_RANGES" 40) rfl),
    He.str_ok X G (c.d.fact 42 (f := .str "FIGURES" "0123456789") rfl),
    He.str_ok X G (c.d.fact 43 (f := .str "NOT" "^") rfl),
    He.free_ok X G (c.d.fact 44 (f := .free "range") rfl),
    He.free_ok X G (c.d.fact 45 (f := .free "enumerate") rfl),
    He.free_ok X G (c.d.fact 46 (f := .free "len") rfl),
    He.free_ok X G (c.d.fact 47 (f := .free "min") rfl),
    He.free_ok X G (c.d.fact 48 (f := .free "max") rfl),
    He.free_ok X G (c.d.fact 49 (f := .free "abs") rfl),
    He.free_ok X G (c.d.fact 50 (f := .free "isinstance") rfl),
    He.free_ok X G (c.d.fact 51 (f := .free "bool") rfl),
    He.free_ok X G (c.d.fact 52 (f := .free "int") rfl),
    He.free_ok X G (c.d.fact 53 (f := .free "str") rfl),
    He.free_ok X G (c.d.fact 54 (f := .free "tuple") rfl),
    He.free_ok X G (c.d.fact 55 (f := .free "list") rfl),
    He.free_ok X G (c.d.fact 56 (f := .free "all") rfl),
    He.free_ok X G (c.d.fact 57 (f := .free "sum") rfl),
    He.free_ok X G (c.d.fact 58 (f := .free "ValueError") rfl),
    He.glo_ok X G (c.d.fact 59 (f := .glo "SetError") rfl),
    He.glo_ok X G (c.d.fact 60 (f := .glo "BadSize") rfl),
    He.glo_ok X G (c.d.fact 61 (f := .glo "BadSet") rfl),
    He.glo_ok X G (c.d.fact 62 (f := .glo "BadNumber") rfl),
    He.glo_ok X G (c.d.fact 63 (f := .glo "BadText") rfl),
    He.exc_ok (c.d.fact 64 (f := .exc "BadSize") rfl),
    He.exc_ok (c.d.fact 65 (f := .exc "BadNumber") rfl),
    He.exm_ok (c.d.fact 66 (f := .exm "BadSize" "SetError" true) rfl),
    isB_ok b0,
    of_decide_eq_true b1,
    of_decide_eq_true b2,
    of_decide_eq_true b3,
    of_decide_eq_true b4,
    of_decide_eq_true b5,
    He.exm_ok (c.d.fact 67 (f := .exm "BadSet" "SetError" true) rfl),
    isB_ok b6,
    of_decide_eq_true b7,
    of_decide_eq_true b8,
    of_decide_eq_true b9,
    of_decide_eq_true b10,
    of_decide_eq_true b11,
    He.exm_ok (c.d.fact 68 (f := .exm "BadNumber" "SetError" true) rfl),
    isB_ok b12,
    of_decide_eq_true b13,
    of_decide_eq_true b14,
    of_decide_eq_true b15,
    of_decide_eq_true b16,
    of_decide_eq_true b17,
    He.glo_ok X G (c.d.fact 39 (f := .glo "law") rfl),
    He.glo_ok X G (c.d.fact 37 (f := .glo "_law_single") rfl),
    He.glo_ok X G (c.d.fact 38 (f := .glo "_law_several") rfl),
    ⟨ndec b20, ndec b21, ndec b22⟩,
    iniB_ok b18,
    baseB_ok b19,
    hd_init c.d⟩
end
def hcs (K : PySem.W.Frag) : List (Addr × Addr) := htf.map (He.cT K)
theorem hfacts {P : Program} {w : World} {K : PySem.W.Frag} {h : Heap} {mg : Str → Option Value} {f : Addr} (X : K.In h) (G : h.Ns mainGlobals mg) (hfa0 : mg ("law" : Str) = some (.ref f)) (c : SaysY hfa hfn htf hex h K) :
    ∃ fd : FuncData, (∀ (s : Shared) (v : Value), BindsTo s fd ⟨[v], []⟩ [("_law_script", v)]) ∧ ∀ base : Heap, K.In base → base.Ns mainGlobals mg → (∀ p ∈ hcs K, LamX.TabB base mg p.1 p.2) → FnOk P w K mg base CX0 12 f fd ["_law_script"] (spLaw K) := by
  obtain ⟨fd, F⟩ := c.d.def_ 39 (d := dd_law) rfl
  have e := hfa0.symm.trans (He.glo_ok X G (c.d.fact 39 (f := .glo "law") rfl))
  cases e
  have b := FunD.bindsA (ps := ["_law_script"]) F fun _ _ _ _ _ _ us hl => match us, hl with | [_], _ => rfl
  exact ⟨fd, fun s v => b s [v] rfl, fun base _ _ hT => ok_law (hd_tx X G c) ⟨hT _ (.head _), hT _ (.tail _ (.head _)), hT _ (.tail _ (.tail _ (.head _)))⟩ (fun_of F) hfa0⟩
theorem hlaw {P : PySem.W.OpenLaw} {w : World} {K : PySem.W.Frag} {h : Heap} {mg : Str → Option Value} {f : Addr} (X : K.In h) (G : h.Ns mainGlobals mg) (hfa0 : mg ("law" : Str) = some (.ref f)) (c : SaysY hfa hfn htf hex h K) : LamX.LawAtS P w K CX0 12 63 "_law_script" mg f h := by
  obtain ⟨fd, hb, hF⟩ := hfacts (P := P.prog) (w := w) X G hfa0 c
  refine ⟨fd, hcs K, spLaw K, fun p hp => ?_, fun p hp => ?_, fun p hp => ?_, hb, fun H a ns hl _ hT hS => ⟨a, ns, rfl, hS, hl, fun p hp => ?_, fun _ => rfl⟩, hF⟩
  · obtain ⟨z, hz, rfl⟩ := List.mem_map.mp hp
    exact c.empty z hz
  · obtain ⟨z, hz, rfl⟩ := List.mem_map.mp hp
    exact c.out z hz
  · obtain ⟨z, hz, rfl⟩ := List.mem_map.mp hp
    exact PySem.W.codeHd_of_K X (c.hd z hz)
  · rcases List.mem_cons.mp hp with z | hp
    · rw [z]
      exact .nil (hT _ (.head _))
    rcases List.mem_cons.mp hp with z | hp
    · rw [z]
      exact .nil (hT _ (.tail _ (.head _)))
    · rw [List.mem_singleton.mp hp]
      exact .nil (hT _ (.tail _ (.tail _ (.head _))))
end Sg
open PySem PySem.W PySem.Calls PyProof.Rows
set_option maxHeartbeats 0 in
theorem PySem.Challenge.cw_signsets_k01_sets_refused_holds : PySem.Challenge.rw_signsets_k01_sets_refused.Holds := by
  w_on; o_law
  refine HandSHeadRun.head_any (r := OpenLaw.row PySem.Challenge.rw_signsets_k01_sets_refused) (q := view (OpenLaw.row PySem.Challenge.rw_signsets_k01_sets_refused).prog [54]) (H := Sg.hhk) (ob := Sg.hob) (M := 8000) (loose := Sg.hnames) (d := HandSHeadRun.topDef (OpenLaw.row PySem.Challenge.rw_signsets_k01_sets_refused).prog 54) (kwd := []) Sg.hob_eq
    (by kernel_rfl) (fun s => by kernel_rfl) Sg.hrun (by kernel_rfl) (by kernel_rfl) (by kernel_rfl) (by rfl) (by first | assumption | decide +kernel) (by decide +kernel) ⟨rfl, rfl, rfl, rfl, rfl, by decide +kernel⟩ ?hw ?hc
  case hw => w_witness2
  case hc =>
    refine LamX.walk_ofTsE (l := PySem.Challenge.rw_signsets_k01_sets_refused) (n := 63) (k := 12) (x := "_law_script") (CX := fun _ => L2.CX0) rfl (by decide) (by kernel_rfl) ⟨rfl, by decide, by decide⟩ ?F (fun _ _ _ _ _ z => z)
    intro w mg fa h Y G hmg0
    obtain ⟨K, KX, c⟩ := Y
    have hmg : mg ("law" : PySem.Str) = some (.ref fa) := by
      have e : (HandSHeadRun.topDef (OpenLaw.row PySem.Challenge.rw_signsets_k01_sets_refused).prog 54).name = ("law" : PySem.Str) := by kernel_rfl
      rw [← e]
      exact hmg0
    exact ⟨K, KX, Sg.hlaw KX G hmg c⟩
