import PyProof.Rows.All
import Wide.All
import OpenK.AllK
import Wide.FinOn
import KE.KStateDown
import Lean
import HandS.More
import HandS.WordsExc
import HandS.Defaults
import HandS.Head0
import HandS.Head1
import HandS.Head2
import HandS.HeadEnd
import HandS.HeadHook1
import HandS.HeadHook2
import HandS.ForMost
import HandS.Deep
import HandS.Codes
import KE.DataMinMax
import KE.SortData
import KE.DataCmp
import HandS.Conv
import HandS.Style
import HandS.IsInst
import HandS.SetFor
import HandS.Strs
import HandS.SortInts
import PySem.Challenge.RW_signsets_k09_whole_the_fewest_cells
set_option Elab.async false
set_option linter.all false
set_option maxRecDepth 100000
set_option maxHeartbeats 4000000
/-! Signsets: the plain mathematics of ranges (no program in sight). -/
namespace Sg
/-- whether a number is in some range -/
def has (R : List (Int × Int)) (n : Int) : Bool := R.any fun r => decide (r.1 ≤ n) && decide (n ≤ r.2)
/-- 0, 1, .. below n -/
def upTo (n : Nat) : List Int := (List.range n).map fun (k : Nat) => (k : Int)
def allIn (n : Nat) (R : List (Int × Int)) : List Int := (upTo n).filter (has R)
def toldStep (acc : List (Int × Int)) (n : Int) : List (Int × Int) :=
  match acc.getLast? with
  | some r => if r.2 = n - 1 then acc.dropLast ++ [(r.1, n)] else acc ++ [(n, n)]
  | none => [(n, n)]
def told (ns : List Int) : List (Int × Int) := ns.foldl toldStep []
/-- ranges that a size lets be -/
def Ok (size : Int) (R : List (Int × Int)) : Prop := R.length ≤ 40 ∧ ∀ r ∈ R, 0 ≤ r.1 ∧ r.1 ≤ r.2 ∧ r.2 < size

theorem mem_upTo {n : Nat} {k : Int} : k ∈ upTo n ↔ 0 ≤ k ∧ k < (n : Int) := by
  unfold upTo
  rw [List.mem_map]
  constructor
  · rintro ⟨a, h, rfl⟩
    have := List.mem_range.mp h
    omega
  · intro h
    exact ⟨k.toNat, List.mem_range.mpr (by omega), by omega⟩
theorem upTo_len (n : Nat) : (upTo n).length = n := by simp [upTo]
theorem upTo_get {n i : Nat} (h : i < n) : (upTo n)[i]? = some (i : Int) := by
  unfold upTo
  rw [List.getElem?_map, List.getElem?_range h]
  rfl
theorem rising_range (n : Nat) : (upTo n).Pairwise (· < ·) := by
  unfold upTo
  rw [List.pairwise_map]
  refine List.Pairwise.imp (fun {a b} h => ?_) List.pairwise_lt_range
  omega
theorem rising_filter {n : Nat} (p : Int → Bool) : ((upTo n).filter p).Pairwise (· < ·) := (rising_range n).filter p
theorem has_iff {R : List (Int × Int)} {n : Int} : has R n = true ↔ ∃ r ∈ R, r.1 ≤ n ∧ n ≤ r.2 := by
  unfold has
  rw [List.any_eq_true]
  constructor
  · rintro ⟨r, h, e⟩
    rw [Bool.and_eq_true] at e
    exact ⟨r, h, of_decide_eq_true e.1, of_decide_eq_true e.2⟩
  · rintro ⟨r, h, e1, e2⟩
    exact ⟨r, h, by rw [Bool.and_eq_true]; exact ⟨decide_eq_true e1, decide_eq_true e2⟩⟩
theorem has_append {A B : List (Int × Int)} {n : Int} : has (A ++ B) n = (has A n || has B n) := by
  unfold has
  rw [List.any_append]

/-- what told has made of the numbers so far -/
structure TI (acc : List (Int × Int)) (pre : List Int) : Prop where
  has : ∀ n, has acc n = true ↔ n ∈ pre
  sep : acc.Pairwise fun a b => a.2 + 1 < b.1
  le : ∀ r ∈ acc, r.1 ≤ r.2
theorem TI.lt {acc : List (Int × Int)} {pre : List Int} (t : TI acc pre) {n : Int} (h : ∀ m ∈ pre, m < n) {r : Int × Int} (hr : r ∈ acc) : r.2 < n :=
  h _ ((t.has r.2).mp (has_iff.mpr ⟨r, hr, t.le r hr, Int.le_refl _⟩))
theorem TI.step {acc : List (Int × Int)} {pre : List Int} (t : TI acc pre) {n : Int} (h : ∀ m ∈ pre, m < n) : TI (toldStep acc n) (pre ++ [n]) := by
  unfold toldStep
  cases e : acc.getLast? with
  | none =>
    have ea : acc = [] := List.getLast?_eq_none_iff.mp e
    subst ea
    refine ⟨fun m => ?_, by simp, by simp⟩
    have hp := t.has m
    rw [has_iff, List.mem_append, ← hp, has_iff]
    constructor
    · rintro ⟨r, hr, h1, h2⟩
      have : r = (n, n) := by simpa using hr
      subst this
      exact .inr (List.mem_singleton.mpr (by simp at h1 h2; omega))
    · rintro (⟨r, hr, _⟩ | q)
      · simp at hr
      · have := List.mem_singleton.mp q
        subst this
        exact ⟨(m, m), by simp, Int.le_refl _, Int.le_refl _⟩
  | some r =>
    obtain ⟨ini, ea⟩ : ∃ ini, acc = ini ++ [r] := ⟨acc.dropLast, by rw [List.getLast?_eq_some_iff] at e; obtain ⟨ys, rfl⟩ := e; simp⟩
    have hri : r ∈ acc := by rw [ea]; simp
    have hrl := t.lt h hri
    have hre := t.le r hri
    have sp := t.sep
    rw [ea, List.pairwise_append] at sp
    show TI (if r.2 = n - 1 then acc.dropLast ++ [(r.1, n)] else acc ++ [(n, n)]) (pre ++ [n])
    split
    · rename_i c
      have ed : acc.dropLast = ini := by rw [ea]; simp
      rw [ed]
      refine ⟨fun m => ?_, ?_, ?_⟩
      · have hp := t.has m
        rw [ea, has_append, Bool.or_eq_true] at hp
        rw [has_append, Bool.or_eq_true, List.mem_append, ← hp]
        have e1 : Sg.has [(r.1, n)] m = true ↔ r.1 ≤ m ∧ m ≤ n := by rw [has_iff]; simp
        have e2 : Sg.has [r] m = true ↔ r.1 ≤ m ∧ m ≤ r.2 := by rw [has_iff]; simp
        rw [e1, e2, List.mem_singleton]
        by_cases X : Sg.has ini m = true
        · simp [X]
        · simp only [X]
          simp
          omega
      · rw [List.pairwise_append]
        refine ⟨sp.1, by simp, fun a ha b hb => ?_⟩
        have : b = (r.1, n) := List.mem_singleton.mp hb
        subst this
        exact sp.2.2 a ha r (by simp)
      · intro q hq
        rcases List.mem_append.mp hq with k | k
        · exact t.le q (by rw [ea]; exact List.mem_append_left _ k)
        · have : q = (r.1, n) := List.mem_singleton.mp k
          subst this
          show r.1 ≤ n
          omega
    · rename_i c
      refine ⟨fun m => ?_, ?_, ?_⟩
      · have hp := t.has m
        rw [has_append, Bool.or_eq_true, List.mem_append, ← hp]
        have e1 : Sg.has [(n, n)] m = true ↔ n ≤ m ∧ m ≤ n := by rw [has_iff]; simp
        rw [e1, List.mem_singleton]
        by_cases X : Sg.has acc m = true
        · simp [X]
        · simp only [X]
          simp
          omega
      · rw [List.pairwise_append]
        refine ⟨t.sep, by simp, fun a ha b hb => ?_⟩
        have : b = (n, n) := List.mem_singleton.mp hb
        subst this
        show a.2 + 1 < n
        rw [ea] at ha
        rcases List.mem_append.mp ha with k | k
        · have := sp.2.2 a k r (by simp)
          omega
        · have : a = r := List.mem_singleton.mp k
          subst this
          omega
      · intro q hq
        rcases List.mem_append.mp hq with k | k
        · exact t.le q k
        · have : q = (n, n) := List.mem_singleton.mp k
          subst this
          exact Int.le_refl _
theorem TI.fold : ∀ (ns : List Int) (acc : List (Int × Int)) (pre : List Int), TI acc pre → (pre ++ ns).Pairwise (· < ·) → TI (ns.foldl toldStep acc) (pre ++ ns)
  | [], acc, pre, t, _ => by
    rw [List.append_nil]
    exact t
  | n :: r, acc, pre, t, h => by
    have e : pre ++ n :: r = (pre ++ [n]) ++ r := by simp
    rw [e] at h ⊢
    refine TI.fold r _ _ (t.step fun m hm => ?_) h
    have h1 := (List.pairwise_append.mp (List.pairwise_append.mp h).1).2.2
    exact h1 m hm n (by simp)
theorem told_ti {ns : List Int} (h : ns.Pairwise (· < ·)) : TI (told ns) ns := by
  have q := TI.fold ns [] [] ⟨by simp [has], by simp, by simp⟩ (by simpa using h)
  rw [List.nil_append] at q
  exact q
theorem told_has {ns : List Int} (h : ns.Pairwise (· < ·)) (n : Int) : has (told ns) n = decide (n ∈ ns) := by
  have := (told_ti h).has n
  cases e : has (told ns) n
  · exact (decide_eq_false fun q => by rw [this.mpr q] at e; cases e).symm
  · exact (decide_eq_true (this.mp e)).symm
theorem sep_len : ∀ (R : List (Int × Int)) (lo hi : Int), R.Pairwise (fun a b => a.2 + 1 < b.1) → (∀ r ∈ R, lo ≤ r.1 ∧ r.1 ≤ r.2 ∧ r.2 < hi) → R ≠ [] → 2 * (R.length : Int) ≤ hi - lo + 1
  | [], _, _, _, _, h => absurd rfl h
  | [r], lo, hi, _, h, _ => by
    have := h r (by simp)
    simp
    omega
  | r :: q :: R, lo, hi, hp, h, _ => by
    have h1 := h r (by simp)
    rw [List.pairwise_cons] at hp
    have ih := sep_len (q :: R) (r.1 + 2) hi hp.2 (fun z hz => by
      have a := hp.1 z hz
      have b := h z (List.mem_cons_of_mem _ hz)
      omega) (by simp)
    simp at ih ⊢
    omega
theorem told_ok {size : Int} {ns : List Int} (h : ns.Pairwise (· < ·)) (hs : size ≤ 64) (hm : ∀ n ∈ ns, 0 ≤ n ∧ n < size) : Ok size (told ns) := by
  have t := told_ti h
  have hv : ∀ r ∈ told ns, 0 ≤ r.1 ∧ r.1 ≤ r.2 ∧ r.2 < size := fun r hr => by
    have h1 := (t.has r.1).mp (has_iff.mpr ⟨r, hr, Int.le_refl _, t.le r hr⟩)
    have h2 := (t.has r.2).mp (has_iff.mpr ⟨r, hr, t.le r hr, Int.le_refl _⟩)
    exact ⟨(hm _ h1).1, t.le r hr, (hm _ h2).2⟩
  refine ⟨?_, hv⟩
  by_cases e : told ns = []
  · rw [e]
    exact Nat.zero_le _
  · have := sep_len (told ns) 0 size t.sep (fun r hr => by have := hv r hr; omega) e
    omega

/-- the ranges of all numbers below n of which p says yes -/
def TR (n : Nat) (p : Int → Bool) : List (Int × Int) := told ((upTo n).filter p)
theorem TR_congr {n : Nat} {p q : Int → Bool} (h : ∀ k : Int, 0 ≤ k → k < (n : Int) → p k = q k) : TR n p = TR n q := by
  unfold TR
  rw [List.filter_congr fun k hk => h k (mem_upTo.mp hk).1 (mem_upTo.mp hk).2]
theorem TR_has {n : Nat} {p : Int → Bool} {k : Int} (h0 : 0 ≤ k) (h1 : k < (n : Int)) : has (TR n p) k = p k := by
  unfold TR
  rw [told_has (rising_filter p)]
  cases e : p k
  · exact decide_eq_false fun q => by rw [(List.mem_filter.mp q).2] at e; cases e
  · exact decide_eq_true (List.mem_filter.mpr ⟨mem_upTo.mpr ⟨h0, h1⟩, e⟩)
theorem TR_ok {n : Nat} (hn : n ≤ 64) (p : Int → Bool) : Ok (n : Int) (TR n p) :=
  told_ok (rising_filter p) (by omega) fun k hk => by
    have := mem_upTo.mp (List.mem_filter.mp hk).1
    exact this
theorem TR_none (n : Nat) : TR n (fun _ => false) = [] := by
  unfold TR
  rw [List.filter_eq_nil_iff.mpr (by simp)]
  rfl
theorem told_snoc (ns : List Int) (n : Int) : told (ns ++ [n]) = toldStep (told ns) n := by
  unfold told
  rw [List.foldl_append]
  rfl
theorem upTo_succ (n : Nat) : upTo (n + 1) = upTo n ++ [(n : Int)] := by
  unfold upTo
  rw [List.range_succ, List.map_append]
  rfl
theorem told_upTo : ∀ n : Nat, told (upTo (n + 1)) = [(0, (n : Int))]
  | 0 => by decide
  | n + 1 => by
    rw [upTo_succ, told_snoc, told_upTo n]
    show (if (n : Int) = ((n + 1 : Nat) : Int) - 1 then [((0 : Int), ((n + 1 : Nat) : Int))] else _) = _
    rw [if_pos (by omega)]
theorem TR_all {n : Nat} (h : 0 < n) : TR n (fun _ => true) = [(0, (n : Int) - 1)] := by
  unfold TR
  rw [List.filter_eq_self.mpr (by simp)]
  obtain ⟨m, rfl⟩ : ∃ m, n = m + 1 := ⟨n - 1, by omega⟩
  rw [told_upTo]
  simp
theorem has_reverse (R : List (Int × Int)) (k : Int) : has R.reverse k = has R k := by
  unfold has
  rw [List.any_reverse]
theorem mem_allIn {n : Nat} {R : List (Int × Int)} (hk : Ok n R) {k : Int} : k ∈ allIn n R ↔ has R k = true := by
  unfold allIn
  rw [List.mem_filter, mem_upTo]
  constructor
  · exact fun z => z.2
  · intro z
    obtain ⟨r, hr', z1, z2⟩ := has_iff.mp z
    obtain ⟨k1, k2, k3⟩ := hk.2 r hr'
    exact ⟨⟨by omega, by omega⟩, z⟩
theorem allIn_len (n : Nat) (p : Int → Bool) : ((upTo n).filter p).length ≤ n := Nat.le_trans (List.length_filter_le _ _) (by rw [upTo_len]; exact Nat.le_refl _)
theorem told_len (ns : List Int) : (told ns).length ≤ ns.length := by
  have h : ∀ (ms : List Int) (acc : List (Int × Int)), (ms.foldl toldStep acc).length ≤ acc.length + ms.length := by
    intro ms
    induction ms with
    | nil => intro acc; exact Nat.le_refl _
    | cons m ms ih =>
      intro acc
      refine Nat.le_trans (ih _) ?_
      have : (toldStep acc m).length ≤ acc.length + 1 := by
        unfold toldStep
        split
        · split <;> simp
        · simp
      simp
      omega
  have := h ns []
  simpa [told] using this
end Sg
/-! Signsets: unlike ones as they come, classes (no program in sight). -/
namespace Sg
section
variable {α β : Type} [DecidableEq α] [DecidableEq β]
def addU (acc : List α) (x : α) : List α := if x ∈ acc then acc else acc ++ [x]
/-- unlike ones, as they come -/
def uniq (l : List α) : List α := l.foldl addU []
theorem addU_old {acc : List α} {x : α} (h : x ∈ acc) : addU acc x = acc := if_pos h
theorem addU_new {acc : List α} {x : α} (h : ¬ x ∈ acc) : addU acc x = acc ++ [x] := if_neg h
theorem mem_addU {acc : List α} {x y : α} : y ∈ addU acc x ↔ y ∈ acc ∨ y = x := by
  unfold addU
  split
  · rename_i h
    exact ⟨.inl, fun z => z.elim id fun e => e ▸ h⟩
  · rw [List.mem_append, List.mem_singleton]
theorem uniq_snoc (l : List α) (x : α) : uniq (l ++ [x]) = addU (uniq l) x := by
  unfold uniq
  rw [List.foldl_append]
  rfl
theorem foldU_pre : ∀ (l acc : List α), ∃ r, l.foldl addU acc = acc ++ r
  | [], acc => ⟨[], by simp⟩
  | x :: l, acc => by
    obtain ⟨r, h⟩ := foldU_pre l (addU acc x)
    rw [List.foldl_cons, h]
    unfold addU
    split
    · exact ⟨r, rfl⟩
    · exact ⟨x :: r, by simp⟩
theorem uniq_pre (a b : List α) : ∃ r, uniq (a ++ b) = uniq a ++ r := by
  unfold uniq
  rw [List.foldl_append]
  exact foldU_pre b _
theorem mem_foldU : ∀ (l acc : List α) (y : α), y ∈ l.foldl addU acc ↔ y ∈ acc ∨ y ∈ l
  | [], acc, y => by simp
  | x :: l, acc, y => by
    rw [List.foldl_cons, mem_foldU l, mem_addU, List.mem_cons, or_assoc]
theorem mem_uniq {l : List α} {y : α} : y ∈ uniq l ↔ y ∈ l := by
  unfold uniq
  rw [mem_foldU]
  simp
theorem nodup_foldU : ∀ (l acc : List α), acc.Nodup → (l.foldl addU acc).Nodup
  | [], acc, h => h
  | x :: l, acc, h => by
    rw [List.foldl_cons]
    refine nodup_foldU l _ ?_
    unfold addU
    split
    · exact h
    · rename_i c
      rw [List.nodup_append]
      refine ⟨h, by simp, fun a ha b hb e => ?_⟩
      rw [List.mem_singleton] at hb
      rw [e, hb] at ha
      exact c ha
theorem nodup_uniq (l : List α) : (uniq l).Nodup := nodup_foldU l [] List.nodup_nil
theorem foldU_map {f : α → β} (hf : ∀ a b, f a = f b → a = b) : ∀ (l acc : List α), (l.map f).foldl addU (acc.map f) = (l.foldl addU acc).map f
  | [], acc => rfl
  | x :: l, acc => by
    have e : addU (acc.map f) (f x) = (addU acc x).map f := by
      unfold addU
      have h : f x ∈ acc.map f ↔ x ∈ acc := by
        rw [List.mem_map]
        exact ⟨fun ⟨a, ha, e⟩ => hf _ _ e ▸ ha, fun h => ⟨x, h, rfl⟩⟩
      by_cases c : x ∈ acc
      · rw [if_pos c, if_pos (h.mpr c)]
      · rw [if_neg c, if_neg fun z => c (h.mp z), List.map_append]
        rfl
    rw [List.map_cons, List.foldl_cons, List.foldl_cons, e, foldU_map hf l]
theorem uniq_map {f : α → β} (hf : ∀ a b, f a = f b → a = b) (l : List α) : uniq (l.map f) = (uniq l).map f := foldU_map hf l []
theorem uniq_len (l : List α) : (uniq l).length ≤ l.length := by
  have h : ∀ (l acc : List α), (l.foldl addU acc).length ≤ acc.length + l.length := by
    intro l
    induction l with
    | nil => intro acc; exact Nat.le_refl _
    | cons x l ih =>
      intro acc
      refine Nat.le_trans (ih _) ?_
      have : (addU acc x).length ≤ acc.length + 1 := by
        unfold addU
        split <;> simp
      simp
      omega
  have := h l []
  simpa [uniq] using this
/-- the first place of x -/
def pl (x : α) : List α → Nat
  | [] => 0
  | y :: l => if y = x then 0 else pl x l + 1
theorem pl_get {x : α} : ∀ {l : List α}, x ∈ l → l[pl x l]? = some x
  | [], h => by simp at h
  | y :: l, h => by
    unfold pl
    split
    · rename_i e
      rw [e]
      rfl
    · rename_i e
      rcases List.mem_cons.mp h with z | z
      · exact absurd z.symm e
      · simpa using pl_get z
theorem pl_lt {x : α} {l : List α} (h : x ∈ l) : pl x l < l.length := (List.getElem?_eq_some_iff.mp (pl_get h)).1
theorem pl_ahead {x : α} : ∀ {l : List α} {m : Nat} {z : α}, m < pl x l → l[m]? = some z → z ≠ x
  | [], m, z, h, _ => by simp [pl] at h
  | y :: l, m, z, h, e => by
    unfold pl at h
    split at h
    · omega
    · rename_i c
      cases m with
      | zero =>
        simp at e
        rw [← e]
        exact c
      | succ m =>
        simp at e
        exact pl_ahead (Nat.lt_of_succ_lt_succ h) e
theorem pl_app {x : α} : ∀ {a b : List α}, x ∈ a → pl x (a ++ b) = pl x a
  | [], b, h => by simp at h
  | y :: a, b, h => by
    rw [List.cons_append]
    unfold pl
    split
    · rfl
    · rename_i e
      rcases List.mem_cons.mp h with z | z
      · exact absurd z.symm e
      · rw [pl_app z]
theorem pl_map {f : α → β} (hf : ∀ a b, f a = f b → a = b) (x : α) : ∀ l : List α, pl (f x) (l.map f) = pl x l
  | [] => rfl
  | y :: l => by
    rw [List.map_cons]
    unfold pl
    by_cases c : y = x
    · rw [if_pos c, if_pos (by rw [c])]
    · rw [if_neg c, if_neg fun z => c (hf _ _ z), pl_map hf x l]
theorem nodup_le : ∀ {a b : List α}, a.Nodup → (∀ x ∈ a, x ∈ b) → a.length ≤ b.length
  | [], b, _, _ => Nat.zero_le _
  | x :: a, b, hn, hs => by
    rw [List.nodup_cons] at hn
    have hx : x ∈ b := hs x (by simp)
    have ih := nodup_le (b := b.erase x) hn.2 fun y hy => (List.mem_erase_of_ne fun z => hn.1 (by rw [← z]; exact hy)).mpr (hs y (List.mem_cons_of_mem _ hy))
    rw [List.length_erase_of_mem hx] at ih
    have : 0 < b.length := List.length_pos_of_mem hx
    rw [List.length_cons]
    omega
end
/-- which of the sets have k -/
def kindOf (SS : List (List (Int × Int))) (k : Int) : List Bool := SS.map fun R => has R k
def kinds (n : Nat) (SS : List (List (Int × Int))) : List (List Bool) := uniq ((upTo n).map (kindOf SS))
def rowOf (n : Nat) (SS : List (List (Int × Int))) : List Int := (upTo n).map fun k => ((pl (kindOf SS k) (kinds n SS) : Nat) : Int)
def classOf (n : Nat) (SS : List (List (Int × Int))) (j : Nat) : List (Int × Int) := told ((upTo n).filter fun k => decide (((pl (kindOf SS k) (kinds n SS) : Nat) : Int) = (j : Int)))
def classesOf (n : Nat) (SS : List (List (Int × Int))) : List (List (Int × Int)) := (List.range (kinds n SS).length).map (classOf n SS)
def byC (n : Nat) (SS : List (List (Int × Int))) : List (List Int) := (List.range SS.length).map fun a => (upTo (kinds n SS).length).filter fun j => ((kinds n SS).getD j.toNat []).getD a false
theorem kinds_len (n : Nat) (SS : List (List (Int × Int))) : (kinds n SS).length ≤ n := Nat.le_trans (uniq_len _) (by rw [List.length_map, upTo_len]; exact Nat.le_refl _)
theorem mem_kinds {n : Nat} {SS : List (List (Int × Int))} {k : Int} (h0 : 0 ≤ k) (h1 : k < (n : Int)) : kindOf SS k ∈ kinds n SS := mem_uniq.mpr (List.mem_map.mpr ⟨k, mem_upTo.mpr ⟨h0, h1⟩, rfl⟩)
theorem kinds_mem {n : Nat} {SS : List (List (Int × Int))} {b : List Bool} (h : b ∈ kinds n SS) : ∃ k : Int, 0 ≤ k ∧ k < (n : Int) ∧ b = kindOf SS k := by
  obtain ⟨k, hk, rfl⟩ := List.mem_map.mp (mem_uniq.mp h)
  exact ⟨k, (mem_upTo.mp hk).1, (mem_upTo.mp hk).2, rfl⟩
theorem kinds_at {n : Nat} {SS : List (List (Int × Int))} {j : Nat} {b : List Bool} (h : (kinds n SS)[j]? = some b) : b.length = SS.length := by
  obtain ⟨k, _, _, rfl⟩ := kinds_mem (List.mem_of_getElem? h)
  unfold kindOf
  rw [List.length_map]
theorem rowOf_len (n : Nat) (SS : List (List (Int × Int))) : (rowOf n SS).length = n := by unfold rowOf; rw [List.length_map, upTo_len]
theorem rowOf_get {n i : Nat} (SS : List (List (Int × Int))) (h : i < n) : (rowOf n SS)[i]? = some ((pl (kindOf SS (i : Int)) (kinds n SS) : Nat) : Int) := by
  unfold rowOf
  rw [List.getElem?_map, upTo_get h]
  rfl
/-- with a set more no fewer classes -/
theorem kinds_more (n : Nat) (SS : List (List (Int × Int))) (R : List (Int × Int)) : (kinds n SS).length ≤ (kinds n (SS ++ [R])).length := by
  have e := nodup_le (a := kinds n SS) (b := (kinds n (SS ++ [R])).map List.dropLast) (nodup_uniq _) fun b hb => by
    obtain ⟨k, h0, h1, rfl⟩ := kinds_mem hb
    refine List.mem_map.mpr ⟨_, mem_kinds (SS := SS ++ [R]) h0 h1, ?_⟩
    unfold kindOf
    rw [List.map_append]
    simp
  rwa [List.length_map] at e
theorem kinds_one (n : Nat) (SS : List (List (Int × Int))) (o : Int) : (kinds n (SS ++ [[(o, o)]])).length ≤ (kinds n SS).length + 1 := by
  have ek : ∀ k, kindOf (SS ++ [[(o, o)]]) k = kindOf SS k ++ [decide (k = o)] := fun k => by
    unfold kindOf
    rw [List.map_append]
    congr 1
    show [has [(o, o)] k] = _
    congr 1
    cases e : has [(o, o)] k
    · refine (decide_eq_false fun z => ?_).symm
      rw [z, has_iff.mpr ⟨(o, o), by simp, Int.le_refl _, Int.le_refl _⟩] at e
      cases e
    · obtain ⟨r, hr, h1, h2⟩ := has_iff.mp e
      obtain rfl := List.mem_singleton.mp hr
      exact (decide_eq_true (by simp at h1 h2; omega)).symm
  have e := nodup_le (a := kinds n (SS ++ [[(o, o)]])) (b := (kinds n SS).map (fun b => b ++ [false]) ++ [kindOf SS o ++ [true]]) (nodup_uniq _) fun b hb => by
    obtain ⟨k, h0, h1, rfl⟩ := kinds_mem hb
    rw [ek, List.mem_append]
    by_cases c : k = o
    · rw [decide_eq_true c, c]
      exact .inr (by simp)
    · rw [decide_eq_false c]
      exact .inl (List.mem_map.mpr ⟨_, mem_kinds h0 h1, rfl⟩)
  rw [List.length_append, List.length_map] at e
  exact e
end Sg
/-! Signsets: tables of two steps (no program in sight). -/
namespace Sg
/-- how many stretches of w signs -/
def cnt (n w : Nat) : Nat := (n + w - 1) / w
theorem cnt_lt {n w i : Nat} (hw : 1 ≤ w) : i < cnt n w ↔ i * w < n := by
  unfold cnt
  rw [← Nat.succ_le_iff, Nat.le_div_iff_mul_le (by omega), Nat.succ_mul]
  omega
theorem cnt_le {n w : Nat} (hw : 1 ≤ w) : cnt n w ≤ n := by
  rcases Nat.lt_or_ge n (cnt n w) with h | h
  · have h1 := (cnt_lt hw).mp h
    have h2 : n * 1 ≤ n * w := Nat.mul_le_mul_left n hw
    omega
  · exact h
theorem cnt_pos {n w : Nat} (hw : 1 ≤ w) (hn : 1 ≤ n) : 0 < cnt n w := (cnt_lt hw).mpr (by omega)
theorem cnt_at {n w k : Nat} (hw : 1 ≤ w) (hk : k < n) : k / w < cnt n w := (cnt_lt hw).mpr (Nat.lt_of_le_of_lt (Nat.div_mul_le_self k w) hk)
def bitT (n : Nat) (R : List (Int × Int)) (k : Nat) : Bool := decide (k < n) && has R (k : Int)
def rowP (n : Nat) (R : List (Int × Int)) (f i : Nat) : List Bool := (List.range i).map fun j => bitT n R (f + j)
theorem rowP_len (n : Nat) (R : List (Int × Int)) (f i : Nat) : (rowP n R f i).length = i := by
  unfold rowP
  rw [List.length_map, List.length_range]
theorem rowP_succ (n : Nat) (R : List (Int × Int)) (f i : Nat) : rowP n R f (i + 1) = rowP n R f i ++ [bitT n R (f + i)] := by
  unfold rowP
  rw [List.range_succ, List.map_append]
  rfl
theorem rowP_get {n : Nat} {R : List (Int × Int)} {f i j : Nat} (h : j < i) : (rowP n R f i)[j]? = some (bitT n R (f + j)) := by
  unfold rowP
  rw [List.getElem?_map, List.getElem?_range h]
  rfl
/-- the rows of a set, stretch by stretch -/
def rowsR (n w : Nat) (R : List (Int × Int)) : List (List Bool) := (List.range (cnt n w)).map fun i => rowP n R (i * w) w
def rowsT (n w : Nat) (SS : List (List (Int × Int))) : List (List Bool) := uniq (SS.flatMap (rowsR n w))
def firstsT (n w : Nat) (SS : List (List (Int × Int))) : List (List Int) := SS.map fun R => (rowsR n w R).map fun r => ((pl r (rowsT n w SS) : Nat) : Int)
theorem rowsR_len (n w : Nat) (R : List (Int × Int)) : (rowsR n w R).length = cnt n w := by
  unfold rowsR
  rw [List.length_map, List.length_range]
theorem rowsR_get {n w i : Nat} {R : List (Int × Int)} (h : i < cnt n w) : (rowsR n w R)[i]? = some (rowP n R (i * w) w) := by
  unfold rowsR
  rw [List.getElem?_map, List.getElem?_range h]
  rfl
theorem rowsR_mem {n w : Nat} {R : List (Int × Int)} {r : List Bool} (h : r ∈ rowsR n w R) : r.length = w := by
  obtain ⟨i, _, rfl⟩ := List.mem_map.mp h
  exact rowP_len _ _ _ _
theorem rowsT_mem {n w : Nat} {SS : List (List (Int × Int))} {r : List Bool} (h : r ∈ rowsT n w SS) : r.length = w := by
  obtain ⟨R, _, hr⟩ := List.mem_flatMap.mp (mem_uniq.mp h)
  exact rowsR_mem hr
theorem flat_len (n w : Nat) : ∀ SS : List (List (Int × Int)), (SS.flatMap (rowsR n w)).length = SS.length * cnt n w
  | [] => by simp
  | R :: SS => by rw [List.flatMap_cons, List.length_append, rowsR_len, flat_len n w SS, List.length_cons, Nat.succ_mul]; omega
theorem rowsT_len (n w : Nat) (SS : List (List (Int × Int))) : (rowsT n w SS).length ≤ SS.length * cnt n w := Nat.le_trans (uniq_len _) (by rw [flat_len]; exact Nat.le_refl _)
/-- a row that a set has, in the whole list of rows -/
theorem mem_rowsT {n w : Nat} {SS : List (List (Int × Int))} {R : List (Int × Int)} (hR : R ∈ SS) {r : List Bool} (hr : r ∈ rowsR n w R) : r ∈ rowsT n w SS := mem_uniq.mpr (List.mem_flatMap.mpr ⟨R, hR, hr⟩)
theorem mul_mod (k w : Nat) : k / w * w + k % w = k := by
  rw [Nat.mul_comm]
  exact Nat.div_add_mod k w
/-- the look -/
theorem look_row {n w k : Nat} {R : List (Int × Int)} (hw : 1 ≤ w) (hk : k < n) : (rowP n R (k / w * w) w)[k % w]? = some (has R (k : Int)) := by
  rw [rowP_get (Nat.mod_lt _ hw), mul_mod]
  unfold bitT
  rw [decide_eq_true hk, Bool.true_and]
/-- rows so far, and what comes behind -/
theorem rows_pre {n w : Nat} (pre : List (List (Int × Int))) (R : List (Int × Int)) (post : List (List (Int × Int))) (j : Nat) :
    ∃ r, rowsT n w (pre ++ R :: post) = uniq (pre.flatMap (rowsR n w) ++ (rowsR n w R).take j) ++ r := by
  have e : (pre ++ R :: post).flatMap (rowsR n w) = (pre.flatMap (rowsR n w) ++ (rowsR n w R).take j) ++ ((rowsR n w R).drop j ++ post.flatMap (rowsR n w)) := by
    rw [List.flatMap_append, List.flatMap_cons]
    rw [List.append_assoc, ← List.append_assoc ((rowsR n w R).take j), List.take_append_drop]
  unfold rowsT
  rw [e]
  exact uniq_pre _ _
/-- the cells of a table -/
def cells (n w : Nat) (SS : List (List (Int × Int))) : Nat := SS.length * cnt n w + (rowsT n w SS).length * w
theorem cells_sub {n w : Nat} {SS SS' : List (List (Int × Int))} (h : ∀ R ∈ SS, R ∈ SS') : (rowsT n w SS).length ≤ (rowsT n w SS').length :=
  nodup_le (nodup_uniq _) fun r hr => by
    obtain ⟨R, hR, hr'⟩ := List.mem_flatMap.mp (mem_uniq.mp hr)
    exact mem_rowsT (h R hR) hr'
end Sg
/-! Signsets: data on the abstract heap, and rules of our own over the hand layer. -/
namespace Sg
open PySem PySem.Spec PyProof.Rows L2

/-! ### heaps -/
theorem same_new {H : Hp} {p : Addr} {o : HO} (h : H p = none) : Same H (upd H p o) := fun b u e => by
  rw [upd_ne (ne_of_none e h)]
  exact e
/-- all but d stays -/
def SameBut (d : Addr) (H H' : Hp) : Prop := ∀ b o, b ≠ d → H b = some o → H' b = some o
theorem SameBut.refl (d : Addr) (H : Hp) : SameBut d H H := fun _ _ _ h => h
theorem SameBut.trans {d : Addr} {H H1 H2 : Hp} (a : SameBut d H H1) (b : SameBut d H1 H2) : SameBut d H H2 := fun c o n h => b c o n (a c o n h)
theorem SameBut.of {d : Addr} {H H' : Hp} (h : Same H H') : SameBut d H H' := fun c o _ e => h c o e
theorem SameBut.upd {d : Addr} {H : Hp} {o : HO} : SameBut d H (upd H d o) := fun c u n e => by
  rw [upd_ne n]
  exact e
theorem SameBut.same {d : Addr} {G H H' : Hp} (e : SameBut d H H') (g : Same G H) (n : G d = none) : Same G H' := fun c o h => e c o (ne_of_none h n) (g c o h)
theorem same_upd {G H : Hp} {d : Addr} {o : HO} (g : Same G H) (n : G d = none) : Same G (upd H d o) := fun c u h => by
  rw [upd_ne (ne_of_none h n)]
  exact g c u h
/-- what is new in H' over H -/
def fr (H H' : Hp) : Hp := fun b => if (H b).isNone = true then H' b else none
/-- F without what stands at d -/
def del (F : Hp) (d : Addr) : Hp := fun b => if b = d then none else F b
theorem del_self {F : Hp} {d : Addr} : del F d d = none := by
  unfold del
  rw [if_pos rfl]
theorem del_ne {F : Hp} {d b : Addr} (h : b ≠ d) : del F d b = F b := by
  unfold del
  rw [if_neg h]
theorem fr_some {H H' : Hp} {b : Addr} {o : HO} (h : fr H H' b = some o) : H b = none ∧ H' b = some o := by
  unfold fr at h
  cases e : H b with
  | none =>
    rw [e] at h
    exact ⟨rfl, h⟩
  | some u =>
    rw [e] at h
    cases h
theorem fr_new {H H' : Hp} {b : Addr} (h : H b = none) : fr H H' b = H' b := by
  unfold fr
  rw [h]
  rfl
theorem fr_same {H H' : Hp} : Same (fr H H') H' := fun b o h => (fr_some h).2
theorem fr_mono {H0 H H1 H2 : Hp} (a : Same H0 H) (b : Same H1 H2) : Same (fr H H1) (fr H0 H2) := fun c o h => by
  obtain ⟨h1, h2⟩ := fr_some h
  rw [fr_new (a.free h1)]
  exact b c o h2
theorem del_same {F : Hp} {d : Addr} : Same (del F d) F := fun b o h => by
  unfold del at h
  split at h
  · cases h
  · exact h
theorem del_mono {F G : Hp} {d : Addr} (h : Same F G) : Same (del F d) (del G d) := fun b o e => by
  by_cases c : b = d
  · subst c
    rw [del_self] at e
    cases e
  · rw [del_ne c] at e ⊢
    exact h b o e

/-! ### data -/
theorem same_tup {K : PySem.W.Frag} {H H' : Hp} {a : Addr} {xs : List V} (e : Same H H') (h : SqT K H a xs) : SqT K H' a xs := by
  rcases h with (h | ⟨o, h⟩) | h
  · exact .inl (.inl (e _ _ h))
  · exact .inl (.inr ⟨o, e _ _ h⟩)
  · exact .inr h
mutual
theorem same_dp {K : PySem.W.Frag} {H H' : Hp} (e : Same H H') : ∀ {v : V} {d : PyData}, Dp K H v d → Dp K H' v d
  | _, _, .non => .non
  | _, _, .bl b => .bl b
  | _, _, .int i => .int i
  | _, _, .str x => .str x
  | _, _, .lst h a => .lst (e.seq h) (same_dpAll e a)
  | _, _, .tup h a => .tup (same_tup e h) (same_dpAll e a)
theorem same_dpAll {K : PySem.W.Frag} {H H' : Hp} (e : Same H H') : ∀ {vs : List V} {ds : List PyData}, DpAll K H vs ds → DpAll K H' vs ds
  | _, _, .nil => .nil
  | _, _, .cons h a => .cons (same_dp e h) (same_dpAll e a)
end
mutual
/-- data whose lists and tuples all stand in F, to be changed by whoever has them -/
inductive Dn (F : Hp) : V → PyData → Prop
  | non : Dn F .non .none
  | bl (b : Bool) : Dn F (.bl b) (.bool b)
  | int (i : Int) : Dn F (.int i) (.int i)
  | str (x : Str) : Dn F (.str x) (.str x)
  | lst {a : Addr} {xs : List V} {ds : List PyData} : F a = some (.lst xs) → DnAll F xs ds → Dn F (.ref a) (.list ds)
  | tup {a : Addr} {xs : List V} {ds : List PyData} : F a = some (.tup xs) → DnAll F xs ds → Dn F (.ref a) (.tuple ds)
inductive DnAll (F : Hp) : List V → List PyData → Prop
  | nil : DnAll F [] []
  | cons {v : V} {vs : List V} {d : PyData} {ds : List PyData} : Dn F v d → DnAll F vs ds → DnAll F (v :: vs) (d :: ds)
end
mutual
theorem Dn.mono {F G : Hp} (e : Same F G) : ∀ {v : V} {d : PyData}, Dn F v d → Dn G v d
  | _, _, .non => .non
  | _, _, .bl b => .bl b
  | _, _, .int i => .int i
  | _, _, .str x => .str x
  | _, _, .lst h a => .lst (e _ _ h) (DnAll.mono e a)
  | _, _, .tup h a => .tup (e _ _ h) (DnAll.mono e a)
theorem DnAll.mono {F G : Hp} (e : Same F G) : ∀ {vs : List V} {ds : List PyData}, DnAll F vs ds → DnAll G vs ds
  | _, _, .nil => .nil
  | _, _, .cons h a => .cons (Dn.mono e h) (DnAll.mono e a)
end
mutual
theorem Dn.dp {K : PySem.W.Frag} {F : Hp} : ∀ {v : V} {d : PyData}, Dn F v d → Dp K F v d
  | _, _, .non => .non
  | _, _, .bl b => .bl b
  | _, _, .int i => .int i
  | _, _, .str x => .str x
  | _, _, .lst h a => .lst (SqL.of h) (DnAll.dp a)
  | _, _, .tup h a => .tup (SqT.of h) (DnAll.dp a)
theorem DnAll.dp {K : PySem.W.Frag} {F : Hp} : ∀ {vs : List V} {ds : List PyData}, DnAll F vs ds → DpAll K F vs ds
  | _, _, .nil => .nil
  | _, _, .cons h a => .cons (Dn.dp h) (DnAll.dp a)
end
theorem DnAll.len {F : Hp} : ∀ {vs : List V} {ds : List PyData}, DnAll F vs ds → vs.length = ds.length
  | _, _, .nil => rfl
  | _, _, .cons _ a => congrArg (· + 1) (DnAll.len a)
theorem DnAll.app {F : Hp} : ∀ {vs us : List V} {ds es : List PyData}, DnAll F vs ds → DnAll F us es → DnAll F (vs ++ us) (ds ++ es)
  | _, _, _, _, .nil, b => b
  | _, _, _, _, .cons h a, b => .cons h (DnAll.app a b)
theorem DnAll.snoc {F : Hp} {vs : List V} {v : V} {ds : List PyData} {d : PyData} (a : DnAll F vs ds) (h : Dn F v d) : DnAll F (vs ++ [v]) (ds ++ [d]) := a.app (.cons h .nil)
theorem DnAll.get {F : Hp} : ∀ {vs : List V} {ds : List PyData} {i : Nat} {v : V}, DnAll F vs ds → vs[i]? = some v → ∃ d, ds[i]? = some d ∧ Dn F v d
  | _, _, i, v, .nil, h => by simp at h
  | _, _, 0, v, .cons h _, e => by
    simp at e
    subst e
    exact ⟨_, rfl, h⟩
  | _, _, i + 1, v, .cons _ a, e => by
    simp at e
    obtain ⟨d, h1, h2⟩ := DnAll.get a e
    exact ⟨d, by simpa using h1, h2⟩
theorem dpAll_len {K : PySem.W.Frag} {H : Hp} : ∀ {vs : List V} {ds : List PyData}, DpAll K H vs ds → vs.length = ds.length
  | _, _, .nil => rfl
  | _, _, .cons _ a => congrArg (· + 1) (dpAll_len a)
theorem dpAll_get {K : PySem.W.Frag} {H : Hp} : ∀ {vs : List V} {ds : List PyData} {i : Nat} {v : V}, DpAll K H vs ds → vs[i]? = some v → ∃ d, ds[i]? = some d ∧ Dp K H v d
  | _, _, i, v, .nil, h => by simp at h
  | _, _, 0, v, .cons h _, e => by
    simp at e
    subst e
    exact ⟨_, rfl, h⟩
  | _, _, i + 1, v, .cons _ a, e => by
    simp at e
    obtain ⟨d, h1, h2⟩ := dpAll_get a e
    exact ⟨d, by simpa using h1, h2⟩
theorem dpAll_app {K : PySem.W.Frag} {H : Hp} : ∀ {vs us : List V} {ds es : List PyData}, DpAll K H vs ds → DpAll K H us es → DpAll K H (vs ++ us) (ds ++ es)
  | _, _, _, _, .nil, b => b
  | _, _, _, _, .cons h a, b => .cons h (dpAll_app a b)
theorem dp_list {K : PySem.W.Frag} {H : Hp} {v : V} {ds : List PyData} (h : Dp K H v (.list ds)) : ∃ a xs, v = .ref a ∧ SqL K H a xs ∧ DpAll K H xs ds := by
  cases h with
  | lst h a => exact ⟨_, _, rfl, h, a⟩
theorem dp_tuple {K : PySem.W.Frag} {H : Hp} {v : V} {ds : List PyData} (h : Dp K H v (.tuple ds)) : ∃ a xs, v = .ref a ∧ SqT K H a xs ∧ DpAll K H xs ds := by
  cases h with
  | tup h a => exact ⟨_, _, rfl, h, a⟩
theorem dp_int {K : PySem.W.Frag} {H : Hp} {v : V} {i : Int} (h : Dp K H v (.int i)) : v = .int i := by
  cases h
  rfl
theorem dp_bool {K : PySem.W.Frag} {H : Hp} {v : V} {i : Bool} (h : Dp K H v (.bool i)) : v = .bl i := by
  cases h
  rfl
theorem dp_str {K : PySem.W.Frag} {H : Hp} {v : V} {i : Str} (h : Dp K H v (.str i)) : v = .str i := by
  cases h
  rfl
theorem dpAll_ints {K : PySem.W.Frag} {H : Hp} : ∀ {vs : List V} {ns : List Int}, DpAll K H vs (ns.map PyData.int) → vs = ns.map V.int
  | _, [], .nil => rfl
  | _, n :: ns, .cons h a => by
    rw [dp_int h, dpAll_ints a]
    rfl
theorem dnAll_ints {F : Hp} : ∀ ns : List Int, DnAll F (ns.map V.int) (ns.map PyData.int)
  | [] => .nil
  | n :: ns => .cons (.int n) (dnAll_ints ns)
theorem dpAll_ofInts {K : PySem.W.Frag} {H : Hp} (ns : List Int) : DpAll K H (ns.map V.int) (ns.map PyData.int) := (dnAll_ints ns).dp
/-- a pair of ints -/
def eP (r : Int × Int) : PyData := .tuple [.int r.1, .int r.2]
def eR (R : List (Int × Int)) : PyData := .list (R.map eP)
def eI (ns : List Int) : PyData := .list (ns.map PyData.int)
theorem dp_pair {K : PySem.W.Frag} {H : Hp} {v : V} {r : Int × Int} (h : Dp K H v (eP r)) : ∃ t, v = .ref t ∧ SqT K H t [.int r.1, .int r.2] := by
  obtain ⟨a, xs, rfl, hs, ha⟩ := dp_tuple h
  cases ha with
  | cons h1 h2 => cases h2 with
    | cons h3 h4 =>
      cases h4
      rw [dp_int h1, dp_int h3] at hs
      exact ⟨a, rfl, hs⟩
/-- v is new data d in H' over H -/
def NewV (H H' : Hp) (v : V) (d : PyData) : Prop := Dn (fr H H') v d
theorem NewV.dp {K : PySem.W.Frag} {H H' : Hp} {v : V} {d : PyData} (h : NewV H H' v d) : Dp K H' v d := same_dp fr_same (Dn.dp h)
theorem NewV.mono {H0 H H1 H2 : Hp} {v : V} {d : PyData} (h : NewV H H1 v d) (a : Same H0 H) (b : Same H1 H2) : NewV H0 H2 v d := Dn.mono (fr_mono a b) h
/-- at o stands a list that is being made, new over H0, of the data ds -/
def LB (H0 H : Hp) (o : Addr) (ds : List PyData) : Prop := H0 o = none ∧ ∃ xs, H o = some (.lst xs) ∧ DnAll (del (fr H0 H) o) xs ds
theorem LB.nil {H0 H : Hp} {o : Addr} (h : H0 o = none) : LB H0 (upd H o (.lst [])) o [] := ⟨h, [], upd_same, .nil⟩
theorem LB.same {H0 H H' : Hp} {o : Addr} {ds : List PyData} (h : LB H0 H o ds) (e : Same H H') : LB H0 H' o ds := by
  obtain ⟨h0, xs, h1, h2⟩ := h
  exact ⟨h0, xs, e _ _ h1, h2.mono (del_mono (fr_mono (Same.refl _) e))⟩
theorem LB.snoc {H0 H H4 : Hp} {o : Addr} {ds : List PyData} {y : V} {e : PyData} (h : LB H0 H o ds) (s0 : Same H0 H) (s : Same H H4) (n : NewV H H4 y e) :
    ∃ xs, H4 o = some (.lst xs) ∧ xs.length = ds.length ∧ LB H0 (upd H4 o (.lst (xs ++ [y]))) o (ds ++ [e]) := by
  obtain ⟨h0, xs, h1, h2⟩ := h
  have k : Same (fr H0 H4) (fr H0 H4) := Same.refl _
  have up : Same (del (fr H0 H4) o) (del (fr H0 (upd H4 o (.lst (xs ++ [y])))) o) := fun b u q => by
    by_cases c : b = o
    · subst c
      rw [del_self] at q
      cases q
    · rw [del_ne c] at q ⊢
      obtain ⟨q1, q2⟩ := fr_some q
      rw [fr_new q1, upd_ne c]
      exact q2
  refine ⟨xs, s _ _ h1, h2.len, h0, xs ++ [y], upd_same, DnAll.snoc (h2.mono ?_) (Dn.mono ?_ n)⟩
  · exact (del_mono (fr_mono (Same.refl _) s)).trans up
  · intro b u q
    obtain ⟨q1, q2⟩ := fr_some q
    have c : b ≠ o := fun z => by
      subst z
      rw [h1] at q1
      cases q1
    refine up b u ?_
    rw [del_ne c, fr_new (s0.free q1)]
    exact q2
theorem LB.newV {H0 H : Hp} {o : Addr} {ds : List PyData} (h : LB H0 H o ds) : NewV H0 H (.ref o) (.list ds) := by
  obtain ⟨h0, xs, h1, h2⟩ := h
  refine .lst (xs := xs) ?_ (h2.mono del_same)
  rw [fr_new h0]
  exact h1
theorem LB.at {H0 H : Hp} {o : Addr} {ds : List PyData} (h : LB H0 H o ds) : ∃ xs, H o = some (.lst xs) ∧ xs.length = ds.length := by
  obtain ⟨h0, xs, h1, h2⟩ := h
  exact ⟨xs, h1, h2.len⟩
/-- a new pair -/
theorem new_pair {H : Hp} {t : Addr} {i j : Int} (h : H t = none) : NewV H (upd H t (.tup [.int i, .int j])) (.ref t) (eP (i, j)) := by
  refine .tup (xs := [.int i, .int j]) ?_ (.cons (.int i) (.cons (.int j) .nil))
  rw [fr_new h]
  exact upd_same
theorem newV_ints {H H' : Hp} {p : Addr} {ns : List Int} (h : H p = none) (e : H' p = some (.lst (ns.map V.int))) : NewV H H' (.ref p) (eI ns) := by
  refine .lst (xs := ns.map V.int) ?_ (dnAll_ints ns)
  rw [fr_new h]
  exact e
theorem newV_list {H H' : Hp} {v : V} {ds : List PyData} (h : NewV H H' v (.list ds)) : ∃ p xs, v = .ref p ∧ H p = none ∧ H' p = some (.lst xs) ∧ DnAll (fr H H') xs ds := by
  cases h with
  | lst h a => exact ⟨_, _, rfl, (fr_some h).1, (fr_some h).2, a⟩

/-! ### comparing -/
theorem eqv_ints : ∀ (a b : List Int), PyData.eqvAll (a.map PyData.int) (b.map PyData.int) = decide (a = b)
  | [], [] => by simp [PyData.eqvAll]
  | [], _ :: _ => by simp [PyData.eqvAll]
  | _ :: _, [] => by simp [PyData.eqvAll]
  | x :: a, y :: b => by
    have ih := eqv_ints a b
    simp only [List.map_cons, PyData.eqvAll, PyData.eqv, ih]
    by_cases h : x = y <;> by_cases h2 : a = b <;> simp [h, h2]
theorem eqv_pairs : ∀ (a b : List (Int × Int)), PyData.eqvAll (a.map eP) (b.map eP) = decide (a = b)
  | [], [] => by simp [PyData.eqvAll]
  | [], _ :: _ => by simp [PyData.eqvAll]
  | _ :: _, [] => by simp [PyData.eqvAll]
  | (x, u) :: a, (y, w) :: b => by
    have ih := eqv_pairs a b
    simp only [List.map_cons, PyData.eqvAll, eP, PyData.eqv, ih]
    by_cases h : x = y <;> by_cases h1 : u = w <;> by_cases h2 : a = b <;> simp [h, h1, h2]
theorem eqv_eR (a b : List (Int × Int)) : PyData.eqv (eR a) (eR b) = decide (a = b) := by
  unfold eR
  rw [PyData.eqv, eqv_pairs]
theorem eqv_eI (a b : List Int) : PyData.eqv (eI a) (eI b) = decide (a = b) := by
  unfold eI
  rw [PyData.eqv, eqv_ints]
theorem can_all {ds : List PyData} : (∀ d ∈ ds, d.canLay0 = true) → PyData.canLayAll0 ds = true := by
  induction ds with
  | nil => intro _; simp [PyData.canLayAll0]
  | cons d ds ih =>
    intro h
    rw [PyData.canLayAll0, h d (by simp), ih fun e he => h e (List.mem_cons_of_mem _ he)]
    rfl
theorem depth_all {n : Nat} {ds : List PyData} : (∀ d ∈ ds, d.depth ≤ n) → PyData.depthAll ds ≤ n := by
  induction ds with
  | nil => intro _; simp [PyData.depthAll]
  | cons d ds ih =>
    intro h
    rw [PyData.depthAll]
    exact Nat.max_le.mpr ⟨h d (by simp), ih fun e he => h e (List.mem_cons_of_mem _ he)⟩
/-- data of at most so many storeys -/
def Sh (n : Nat) (d : PyData) : Prop := d.canLay0 = true ∧ d.depth ≤ n
theorem Sh.list {n : Nat} {ds : List PyData} (h : ∀ d ∈ ds, Sh n d) : Sh (n + 1) (.list ds) := by
  refine ⟨?_, ?_⟩
  · rw [PyData.canLay0]
    exact can_all fun d hd => (h d hd).1
  · rw [PyData.depth]
    exact Nat.succ_le_succ (depth_all fun d hd => (h d hd).2)
theorem Sh.tuple {n : Nat} {ds : List PyData} (h : ∀ d ∈ ds, Sh n d) : Sh (n + 1) (.tuple ds) := by
  refine ⟨?_, ?_⟩
  · rw [PyData.canLay0]
    exact can_all fun d hd => (h d hd).1
  · rw [PyData.depth]
    exact Nat.succ_le_succ (depth_all fun d hd => (h d hd).2)
theorem Sh.int {n : Nat} (i : Int) : Sh n (.int i) := ⟨by simp [PyData.canLay0], by simp [PyData.depth]⟩
theorem Sh.bool {n : Nat} (i : Bool) : Sh n (.bool i) := ⟨by simp [PyData.canLay0], by simp [PyData.depth]⟩
theorem Sh.eP {n : Nat} (r : Int × Int) : Sh (n + 1) (eP r) := Sh.tuple fun d hd => by
  simp at hd
  rcases hd with rfl | rfl <;> exact Sh.int _
theorem Sh.eR {n : Nat} (R : List (Int × Int)) : Sh (n + 2) (eR R) := Sh.list fun d hd => by
  obtain ⟨r, _, rfl⟩ := List.mem_map.mp hd
  exact Sh.eP r
theorem Sh.eI {n : Nat} (R : List Int) : Sh (n + 1) (eI R) := Sh.list fun d hd => by
  obtain ⟨r, _, rfl⟩ := List.mem_map.mp hd
  exact Sh.int r
theorem Sh.shaped {n : Nat} {d : PyData} (h : Sh n d) (hn : n ≤ 64 := by decide) : SeqAt.shaped d = true := by
  unfold SeqAt.shaped
  rw [h.1, decide_eq_true (Nat.le_trans h.2 hn)]
  rfl

/-! ### a < b < c < d, as a test -/
section
variable {X : Cx} {a b c d : Expr} {ta tb tc td : TE} {pos : Pos}
def tChain3 (r r' r2 : R2) (ta tb tc td : TE) : TT := fun σ H Q => ta σ H fun x H1 => tb σ H1 fun y H2 => r x y H2 fun z H3 => ∃ k, z = .bl k ∧
  (if k = true then tc σ H3 fun y' H4 => r' y y' H4 fun z' H5 => ∃ k', z' = .bl k' ∧ (if k' = true then td σ H5 fun w' H6 => r2 y' w' H6 fun z2 H7 => ∃ k2, z2 = .bl k2 ∧ Q k2 H7 else Q false H5) else Q false H3)
theorem pt_chain3 {op op' op2 : CmpOp} {r r' r2 : R2} (ho : OpR X (compareOp op) r) (ho' : OpR X (compareOp op') r') (ho2 : OpR X (compareOp op2) r2) (ha : PE X a ta) (hb : PE X b tb) (hc : PE X c tc) (hd : PE X d td)
    (hm : lastMarks [op, op', op2] [b, c, d] = false := by with_unfolding_all rfl) : PT X (.Compare a [op, op', op2] [b, c, d] pos) (tChain3 r r' r2 ta tb tc td) := by
  refine ⟨fun pins s σ H Q I h => ?_⟩
  refine isTrue_chain (thn (ha.run pins s σ H _ I h) fun v s1 ⟨x, H1, I1, r1, q1⟩ => test_link (thn (hb.run pins s1 σ H1 _ I1 q1) fun u s2 ⟨y, H2, I2, r2', q2⟩ =>
    thn (ho pins s2 σ H2 x y v u _ I2 r1 r2' q2) fun d1 s3 ⟨z, H3, I3, r3, k, e, q3⟩ => ?_)) hm
  subst e
  cases r3
  refine wpAny_truthy_bool ?_
  cases k with
  | false => exact ite_ff ⟨H3, I3, q3⟩
  | true =>
    refine ite_tt (test_link (thn (hc.run pins s3 σ H3 _ I3 q3) fun w' s4 ⟨z', H4, I4, r4, q4⟩ => thn (ho' pins s4 σ H4 y z' u w' _ I4 r2' r4 q4) fun d' s5 ⟨z2, H5, I5, r5, k2, e2, q5⟩ => ?_))
    subst e2
    cases r5
    refine wpAny_truthy_bool ?_
    cases k2 with
    | false => exact ite_ff ⟨H5, I5, q5⟩
    | true =>
      refine ite_tt (test_last (thn (hd.run pins s5 σ H5 _ I5 q5) fun w2 s6 ⟨z6, H6, I6, r6, q6⟩ => thn (ho2 pins s6 σ H6 z' z6 w' w2 _ I6 r4 r6 q6) fun d7 s7 ⟨z7, H7, I7, r7, k7, e7, q7⟩ => ?_))
      subst e7
      cases r7
      exact wpAny_truthy_bool ⟨H7, I7, q7⟩
end

/-! ### comprehensions that make new data -/
theorem sizeOk {n : Nat} (h : n ≤ 1000000) : n < sizeLine := Nat.lt_of_le_of_lt h (by decide)
theorem filterMap_succ {f : Nat → Option PyData} {n : Nat} {e : PyData} (h : f n = some e) : (List.range (n + 1)).filterMap f = (List.range n).filterMap f ++ [e] := by
  rw [List.range_succ, List.filterMap_append]
  simp [h]
theorem filterMap_succ0 {f : Nat → Option PyData} {n : Nat} (h : f n = none) : (List.range (n + 1)).filterMap f = (List.range n).filterMap f := by
  rw [List.range_succ, List.filterMap_append]
  simp [h]
theorem lcN_step {H1 H : Hp} {D : Addr} {f : Nat → Option PyData} {i n : Nat} (hn : n ≤ 1000000) (hi : i < n) (sm : Same H1 H) (lb : LB H1 H D ((List.range i).filterMap f)) :
    (∀ y H4 e, Same H H4 → f i = some e → NewV H H4 y e → ∃ acc, H4 D = some (.lst acc) ∧ acc.length < sizeLine ∧ (Same H1 (upd H4 D (.lst (acc ++ [y]))) ∧ LB H1 (upd H4 D (.lst (acc ++ [y]))) D ((List.range (i + 1)).filterMap f))) ∧
    (∀ H3, Same H H3 → f i = none → (Same H1 H3 ∧ LB H1 H3 D ((List.range (i + 1)).filterMap f))) := by
  refine ⟨fun y H4 e s fe nv => ?_, fun H3 s fe => ?_⟩
  · obtain ⟨xs, h1, h2, h3⟩ := lb.snoc sm s nv
    have hl : xs.length ≤ i := by
      rw [h2]
      exact Nat.le_trans (List.length_filterMap_le _ _) (by rw [List.length_range]; exact Nat.le_refl _)
    refine ⟨xs, h1, sizeOk (by omega), same_upd (sm.trans s) lb.1, ?_⟩
    rw [filterMap_succ fe]
    exact h3
  · refine ⟨sm.trans s, ?_⟩
    rw [filterMap_succ0 fe]
    exact lb.same s
theorem lcN_range {lo : Int} {n : Nat} {g : TG} {tt : TT} {te : TE} {vs : List Nat} {σ : L2.St} {H1 : Hp} {D : Addr} {Qd : Hp → Prop} (f : Nat → Option PyData) (hD : H1 D = none) (hn : n ≤ 1000000)
    (hs : ∀ (i : Nat) (H : Hp) (N1 : V → Hp → Prop) (N0 : Hp → Prop), i < n → Same H1 H → (∀ y H4 e, Same H H4 → f i = some e → NewV H H4 y e → N1 y H4) → (∀ H3, Same H H3 → f i = none → N0 H3) →
      g (.int (lo + i)) (wipe σ vs) H fun σ2 H2 => wipe σ2 vs = wipe σ vs ∧ tt σ2 H2 fun b H3 => if b = true then te σ2 H3 N1 else N0 H3)
    (hd : ∀ H, Same H1 H → LB H1 H D ((List.range n).filterMap f) → Qd H) :
    ∃ W : Nat → Nat → Hp → Prop, (∃ m, W 0 m (upd H1 D (.lst []))) ∧ ∀ i m H, W i m H →
      ((Itr lo n).stop i H ∧ Qd H) ∨ ((Itr lo n).go i H ∧ ∃ Nx : Hp → Prop, (∀ H', Nx H' → ∃ m', m' < m ∧ W (i + 1) m' H') ∧ ∀ x H', (Itr lo n).yld i H x H' → g x (wipe σ vs) H' fun σ2 H2 => wipe σ2 vs = wipe σ vs ∧ tt σ2 H2 fun b H3 =>
        if b = true then te σ2 H3 fun y H4 => ∃ acc, H4 D = some (.lst acc) ∧ acc.length < sizeLine ∧ Nx (upd H4 D (.lst (acc ++ [y]))) else Nx H3) :=
  lc_range (fun i H => Same H1 H ∧ LB H1 H D ((List.range i).filterMap f)) ⟨same_new hD, LB.nil hD⟩ (fun i H hi p => by
    obtain ⟨k1, k0⟩ := lcN_step hn hi p.1 p.2
    exact hs i H _ _ hi p.1 k1 k0) fun H p => hd H p.1 p.2
theorem lcN_list {K : PySem.W.Frag} {a : Addr} {xs : List V} {g : TG} {tt : TT} {te : TE} {vs : List Nat} {σ : L2.St} {H1 : Hp} {D : Addr} {Qd : Hp → Prop} (f : Nat → Option PyData) (hS : SqL K H1 a xs) (hD : H1 D = none) (hn : xs.length ≤ 1000000)
    (hs : ∀ (i : Nat) (x : V) (H : Hp) (N1 : V → Hp → Prop) (N0 : Hp → Prop), xs[i]? = some x → Same H1 H → (∀ y H4 e, Same H H4 → f i = some e → NewV H H4 y e → N1 y H4) → (∀ H3, Same H H3 → f i = none → N0 H3) →
      g x (wipe σ vs) H fun σ2 H2 => wipe σ2 vs = wipe σ vs ∧ tt σ2 H2 fun b H3 => if b = true then te σ2 H3 N1 else N0 H3)
    (hd : ∀ H, Same H1 H → LB H1 H D ((List.range xs.length).filterMap f) → Qd H) :
    ∃ W : Nat → Nat → Hp → Prop, (∃ m, W 0 m (upd H1 D (.lst []))) ∧ ∀ i m H, W i m H →
      ((Itl K a).stop i H ∧ Qd H) ∨ ((Itl K a).go i H ∧ ∃ Nx : Hp → Prop, (∀ H', Nx H' → ∃ m', m' < m ∧ W (i + 1) m' H') ∧ ∀ x H', (Itl K a).yld i H x H' → g x (wipe σ vs) H' fun σ2 H2 => wipe σ2 vs = wipe σ vs ∧ tt σ2 H2 fun b H3 =>
        if b = true then te σ2 H3 fun y H4 => ∃ acc, H4 D = some (.lst acc) ∧ acc.length < sizeLine ∧ Nx (upd H4 D (.lst (acc ++ [y]))) else Nx H3) :=
  lc_list (xs := xs) (fun i H => Same H1 H ∧ LB H1 H D ((List.range i).filterMap f)) ⟨same_new hD, LB.nil hD⟩ (fun i H _ p => p.1.seq hS) (fun i x H hx p => by
    obtain ⟨k1, k0⟩ := lcN_step (n := xs.length) hn (List.getElem?_eq_some_iff.mp hx).1 p.1 p.2
    exact hs i x H _ _ hx p.1 k1 k0) fun H p => hd H p.1 p.2
/-- .. that hands on items of what stood before -/
theorem lcO_list {K : PySem.W.Frag} {a : Addr} {xs : List V} {ds : List PyData} {g : TG} {tt : TT} {te : TE} {vs : List Nat} {σ : L2.St} {H1 : Hp} {D : Addr} {Qd : Hp → Prop} (p : PyData → Bool) (hS : SqL K H1 a xs) (hA : DpAll K H1 xs ds) (hD : H1 D = none) (hn : xs.length ≤ 1000000)
    (hs : ∀ (i : Nat) (x : V) (d : PyData) (H : Hp) (N1 : V → Hp → Prop) (N0 : Hp → Prop), ds[i]? = some d → Dp K H1 x d → Same H1 H → (∀ H4, Same H H4 → p d = true → N1 x H4) → (∀ H3, Same H H3 → p d = false → N0 H3) →
      g x (wipe σ vs) H fun σ2 H2 => wipe σ2 vs = wipe σ vs ∧ tt σ2 H2 fun b H3 => if b = true then te σ2 H3 N1 else N0 H3)
    (hd : ∀ H ys, Same H1 H → H D = some (.lst ys) → DpAll K H1 ys (ds.filter p) → Qd H) :
    ∃ W : Nat → Nat → Hp → Prop, (∃ m, W 0 m (upd H1 D (.lst []))) ∧ ∀ i m H, W i m H →
      ((Itl K a).stop i H ∧ Qd H) ∨ ((Itl K a).go i H ∧ ∃ Nx : Hp → Prop, (∀ H', Nx H' → ∃ m', m' < m ∧ W (i + 1) m' H') ∧ ∀ x H', (Itl K a).yld i H x H' → g x (wipe σ vs) H' fun σ2 H2 => wipe σ2 vs = wipe σ vs ∧ tt σ2 H2 fun b H3 =>
        if b = true then te σ2 H3 fun y H4 => ∃ acc, H4 D = some (.lst acc) ∧ acc.length < sizeLine ∧ Nx (upd H4 D (.lst (acc ++ [y]))) else Nx H3) := by
  refine lc_list (xs := xs) (fun i H => Same H1 H ∧ ∃ ys, H D = some (.lst ys) ∧ DpAll K H1 ys ((ds.take i).filter p)) ⟨same_new hD, [], upd_same, .nil⟩ (fun i H _ q => q.1.seq hS) (fun i x H hx q => ?_) fun H q => ?_
  · obtain ⟨sm, ys, hy, ha⟩ := q
    obtain ⟨d, hdi, hdx⟩ := dpAll_get hA hx
    have hi : i < xs.length := (List.getElem?_eq_some_iff.mp hx).1
    have hl : ys.length ≤ i := by
      rw [dpAll_len ha]
      exact Nat.le_trans (List.length_filter_le _ _) (by rw [List.length_take]; exact Nat.min_le_left _ _)
    refine hs i x d H _ _ hdi hdx sm (fun H4 s pd => ⟨ys, s _ _ hy, sizeOk (by omega), same_upd (sm.trans s) hD, ys ++ [x], upd_same, ?_⟩) (fun H3 s pd => ⟨sm.trans s, ys, s _ _ hy, ?_⟩)
    · rw [List.take_add_one, hdi, List.filter_append]
      simp only [Option.toList, List.filter, pd]
      exact dpAll_app ha (.cons hdx .nil)
    · rw [List.take_add_one, hdi, List.filter_append]
      simp only [Option.toList, List.filter, pd, List.append_nil]
      exact ha
  · obtain ⟨sm, ys, hy, ha⟩ := q
    rw [List.take_of_length_le (by rw [dpAll_len hA]; exact Nat.le_refl _)] at ha
    exact hd H ys sm hy ha
/-! ### lists that range makes -/
theorem range_ints {n : Nat} {p : Int → Bool} : (List.range n).filterMap (fun (i : Nat) => if p (i : Int) = true then some (PyData.int (i : Int)) else none) = (((List.range n).map fun (k : Nat) => (k : Int)).filter p).map PyData.int := by
  induction n with
  | zero => rfl
  | succ n ih =>
    rw [List.range_succ, List.filterMap_append, ih, List.map_append, List.filter_append, List.map_append]
    cases h : p (n : Int) <;> simp [h]
theorem list_ints {ns : List Int} {p : Int → Bool} : (List.range ns.length).filterMap (fun (i : Nat) => (ns[i]?).bind fun k => if p k = true then some (PyData.int k) else none) = (ns.filter p).map PyData.int := by
  have h : ∀ m, m ≤ ns.length → (List.range m).filterMap (fun (i : Nat) => (ns[i]?).bind fun k => if p k = true then some (PyData.int k) else none) = ((ns.take m).filter p).map PyData.int := by
    intro m
    induction m with
    | zero => intro _; rfl
    | succ m ih =>
      intro hm
      have hlt : m < ns.length := hm
      have g : ns[m]? = some ns[m] := List.getElem?_eq_getElem hlt
      rw [List.range_succ, List.filterMap_append, ih (Nat.le_of_succ_le hm), List.take_add_one, g, List.filter_append, List.map_append]
      congr 1
      rw [List.filterMap_cons, g]
      cases h : p ns[m] <;> simp [h]
  rw [h _ (Nat.le_refl _), List.take_length]
theorem lcN_range0 {n : Nat} {g : TG} {tt : TT} {te : TE} {vs : List Nat} {σ : L2.St} {H1 : Hp} {D : Addr} {Qd : Hp → Prop} (f : Nat → Option PyData) (hD : H1 D = none) (hn : n ≤ 1000000)
    (hs : ∀ (i : Nat) (H : Hp) (N1 : V → Hp → Prop) (N0 : Hp → Prop), i < n → Same H1 H → (∀ y H4 e, Same H H4 → f i = some e → NewV H H4 y e → N1 y H4) → (∀ H3, Same H H3 → f i = none → N0 H3) →
      g (.int (i : Int)) (wipe σ vs) H fun σ2 H2 => wipe σ2 vs = wipe σ vs ∧ tt σ2 H2 fun b H3 => if b = true then te σ2 H3 N1 else N0 H3)
    (hd : ∀ H, Same H1 H → LB H1 H D ((List.range n).filterMap f) → Qd H) :
    ∃ W : Nat → Nat → Hp → Prop, (∃ m, W 0 m (upd H1 D (.lst []))) ∧ ∀ i m H, W i m H →
      ((Itr 0 (n : Int).toNat).stop i H ∧ Qd H) ∨ ((Itr 0 (n : Int).toNat).go i H ∧ ∃ Nx : Hp → Prop, (∀ H', Nx H' → ∃ m', m' < m ∧ W (i + 1) m' H') ∧ ∀ x H', (Itr 0 (n : Int).toNat).yld i H x H' → g x (wipe σ vs) H' fun σ2 H2 => wipe σ2 vs = wipe σ vs ∧ tt σ2 H2 fun b H3 =>
        if b = true then te σ2 H3 fun y H4 => ∃ acc, H4 D = some (.lst acc) ∧ acc.length < sizeLine ∧ Nx (upd H4 D (.lst (acc ++ [y]))) else Nx H3) := by
  rw [Int.toNat_natCast]
  refine lcN_range (lo := 0) f hD hn (fun i H N1 N0 hi sm k1 k0 => ?_) hd
  rw [Int.zero_add]
  exact hs i H N1 N0 hi sm k1 k0
/-- whether a pair that stands as data has n -/
def inR (n : Int) : PyData → Bool
  | .tuple [.int a, .int b] => decide (a ≤ n) && decide (n ≤ b)
  | _ => false
theorem inR_eP (n : Int) (r : Int × Int) : inR n (eP r) = (decide (r.1 ≤ n) && decide (n ≤ r.2)) := rfl
theorem eqv_nil (ds : List PyData) : PyData.eqv (.list ds) (.list []) = ds.isEmpty := by
  rw [PyData.eqv]
  cases ds <;> simp [PyData.eqvAll]
theorem any_filter {p : PyData → Bool} : ∀ ds : List PyData, (!(ds.filter p).isEmpty) = ds.any p
  | [] => rfl
  | d :: ds => by
    rw [List.filter_cons, List.any_cons]
    cases h : p d
    · simp only [Bool.false_eq_true, if_false, Bool.false_or]
      exact any_filter ds
    · simp
theorem sh_filter {n : Nat} {p : PyData → Bool} {R : List (Int × Int)} : Sh (n + 2) (.list ((R.map eP).filter p)) := Sh.list fun d hd => by
  obtain ⟨r, _, rfl⟩ := List.mem_map.mp (List.mem_filter.mp hd).1
  exact Sh.eP r
theorem sh_nil {n : Nat} : Sh (n + 1) (.list []) := Sh.list fun d hd => by simp at hd
theorem get_map {α : Type} {f : α → PyData} {l : List α} {i : Nat} {d : PyData} (h : (l.map f)[i]? = some d) : ∃ r, l[i]? = some r ∧ d = f r := by
  rw [List.getElem?_map] at h
  cases e : l[i]? with
  | none =>
    rw [e] at h
    cases h
  | some r =>
    rw [e] at h
    exact ⟨r, rfl, (Option.some.inj h).symm⟩
/-! ### rules with the written part by name (within a comprehension the rules' own X.K would name what is bound there) -/
section
variable {X : Cx} {tg l : Expr} {tl : TE}
theorem ixL (K : PySem.W.Frag) (h : X.K = K := by rfl) : IxR X (rIxL K) := by subst h; exact ix_list
theorem ixT (K : PySem.W.Frag) (h : X.K = K := by rfl) : IxR X (rIxT K) := by subst h; exact ix_tup
def rLenQ (K : PySem.W.Frag) : List V → Hp → VK → Prop := fun xs H Q => ∃ p ys, xs = [.ref p] ∧ (SqL K H p ys ∨ SqT K H p ys) ∧ Q (.int ys.length) H
theorem lenQ (K : PySem.W.Frag) (h : X.K = K := by rfl) : CallR X (.builtin "len") (rLenQ K) := by subst h; exact call_len_seq
theorem inQ (K : PySem.W.Frag) (h : X.K = K := by rfl) : OpR X (compareOp .In) (rIn K false) := by subst h; exact op_in_seq
theorem notInQ (K : PySem.W.Frag) (h : X.K = K := by rfl) : OpR X (compareOp .NotIn) (rIn K true) := by subst h; exact op_notIn_seq
theorem eqD (K : PySem.W.Frag) (hu : X.A.units + 64 < cLine) (h : X.K = K := by rfl) : OpR X (compareOp .Eq) (rEqD K) := by subst h; exact op_eqD hu
theorem neD (K : PySem.W.Frag) (hu : X.A.units + 64 < cLine) (h : X.K = K := by rfl) : OpR X (compareOp .NotEq) (rNeD K) := by subst h; exact op_neD hu
theorem piL (K : PySem.W.Frag) (hl : PE X l tl) (h : X.K = K := by rfl) : PI X tg l (iList K tl) := by subst h; exact pi_list hl
theorem piT (K : PySem.W.Frag) (hl : PE X l tl) (h : X.K = K := by rfl) : PI X tg l (iTup K tl) := by subst h; exact pi_tup hl
theorem sumQ (K : PySem.W.Frag) (hc : X.calm = true) (h : X.K = K := by rfl) : CallR X (.builtin "sum") (rSum K) := by subst h; exact cr_sum hc
theorem allQ (K : PySem.W.Frag) (hc : X.calm = true) (h : X.K = K := by rfl) : CallR X (.builtin "all") (rAll K) := by subst h; exact cr_all hc
def rListOf (K : PySem.W.Frag) : List V → Hp → VK → Prop := fun xs H Q => ∃ p ys, xs = [.ref p] ∧ (SqL K H p ys ∨ SqT K H p ys) ∧ ∀ l, H l = none → Q (.ref l) (upd H l (.lst ys))
theorem listOf (K : PySem.W.Frag) (h : X.K = K := by rfl) : CallR X (.type "list") (rListOf K) := by subst h; exact call_list_of
def rTupOf (K : PySem.W.Frag) : List V → Hp → VK → Prop := fun xs H Q => ∃ p ys, xs = [.ref p] ∧ ((SqL K H p ys ∧ ∀ l, H l = none → Q (.ref l) (upd H l (.tup ys))) ∨ (SqT K H p ys ∧ Q (.ref p) H))
theorem tupOf (K : PySem.W.Frag) (h : X.K = K := by rfl) : CallR X (.type "tuple") (rTupOf K) := by subst h; exact call_tuple_of
theorem slL (K : PySem.W.Frag) (h : X.K = K := by rfl) : SlR X (rSlL K) := by subst h; exact sl_list
theorem mtIndex (K : PySem.W.Frag) (h : X.K = K := by rfl) : MtR X "list.index" (rIndex K) := by subst h; exact mt_index
theorem pgT (K : PySem.W.Frag) {es : List Expr} {k : Nat} {t : TGs} {n : Nat} {pos : Pos} (hc : X.calm = true) (hg : PGs X es t) (h : X.K = K := by rfl)
    (hn : (assignEach es X.env).length = n := by rfl) (hst : (assignEach es X.env).findIdx? (·.1) = none := by rfl) : PG X (.Tuple es k pos) (gTup K n t) := by subst h; exact pg_tup hc hg hn hst
theorem piEnum (K : PySem.W.Frag) {e : Expr} {ta : TA} {p pos tpos : Pos} {elts : List Expr} {kk : Nat} (hg : Gl X "enumerate") (hm : X.mg "enumerate" = none) (ha : PA X [e] ta) (h : X.K = K := by rfl) (hs : starEach [e] X.env = [(false, eval e X.env)] := by rfl) :
    PI X (.Tuple elts kk tpos) (.Call (.Name "enumerate" p) [e] [] pos) (iEnum K ta) := by subst h; exact pi_enum hg hm ha hs
end
theorem DnAll.unsnoc {F : Hp} : ∀ {vs : List V} {ds : List PyData} {d : PyData}, DnAll F vs (ds ++ [d]) → ∃ us x, vs = us ++ [x] ∧ DnAll F us ds ∧ Dn F x d
  | _, [], d, .cons h .nil => ⟨[], _, rfl, .nil, h⟩
  | _, e :: ds, d, .cons h a => by
    obtain ⟨us, x, rfl, h1, h2⟩ := DnAll.unsnoc a
    exact ⟨_ :: us, x, rfl, .cons h h1, h2⟩
theorem LB.last {H0 H : Hp} {o : Addr} {ds : List PyData} {d : PyData} (h : LB H0 H o (ds ++ [d])) : ∃ xi x, H o = some (.lst (xi ++ [x])) ∧ Dn (fr H0 H) x d := by
  obtain ⟨h0, xs, h1, h2⟩ := h
  obtain ⟨us, x, rfl, h3, h4⟩ := h2.unsnoc
  exact ⟨us, x, h1, Dn.mono del_same h4⟩
theorem LB.setLast {H0 H H4 : Hp} {o : Addr} {ds : List PyData} {d e : PyData} {y : V} {xi : List V} {x : V} (h : LB H0 H o (ds ++ [d])) (hx : H o = some (.lst (xi ++ [x]))) (s0 : Same H0 H) (s : Same H H4) (n : NewV H H4 y e) : LB H0 (upd H4 o (.lst (xi ++ [y]))) o (ds ++ [e]) := by
  obtain ⟨h0, xs, h1, h2⟩ := h
  obtain ⟨us, x', rfl, h3, h4⟩ := h2.unsnoc
  have e1 := HO.lst.inj (Option.some.inj (hx.symm.trans h1))
  obtain ⟨rfl, _⟩ : xi = us ∧ x = x' := by simpa using e1
  have lb : LB H0 (upd H o (.lst xi)) o ds := by
    refine ⟨h0, xi, upd_same, h3.mono fun b u q => ?_⟩
    by_cases c : b = o
    · subst c
      rw [del_self] at q
      cases q
    · rw [del_ne c] at q ⊢
      obtain ⟨q1, q2⟩ := fr_some q
      rw [fr_new q1, upd_ne c]
      exact q2
  have s4 : Same (upd H o (.lst xi)) (upd H4 o (.lst xi)) := fun b u q => by
    by_cases c : b = o
    · subst c
      rw [upd_same] at q ⊢
      exact q
    · rw [upd_ne c] at q ⊢
      exact s _ _ q
  have nv : NewV (upd H o (.lst xi)) (upd H4 o (.lst xi)) y e := by
    refine Dn.mono (fun b u q => ?_) n
    obtain ⟨q1, q2⟩ := fr_some q
    have c : b ≠ o := fun z => by
      subst z
      rw [hx] at q1
      cases q1
    rw [fr_new (by rw [upd_ne c]; exact q1), upd_ne c]
    exact q2
  obtain ⟨ys, k1, k2, k3⟩ := lb.snoc (same_upd s0 h0) s4 nv
  rw [upd_same] at k1
  obtain rfl := HO.lst.inj (Option.some.inj k1)
  rw [upd_upd] at k3
  exact k3
theorem ixN_last (n : Nat) : ixN (n + 1) (-1) = some n := by
  unfold ixN
  rw [if_neg (by omega), if_pos (by omega)]
  congr 1
  omega
theorem set_last (xs : List V) (x y : V) : (xs ++ [x]).set xs.length y = xs ++ [y] := by
  rw [List.set_append_right _ _ (Nat.le_refl _), Nat.sub_self]
  rfl
theorem len_snoc (xs : List V) (x : V) : (xs ++ [x]).length = xs.length + 1 := by simp
theorem map_get {α : Type} {f : α → V} {l : List α} {i : Nat} {d : V} (h : (l.map f)[i]? = some d) : ∃ r, l[i]? = some r ∧ d = f r := by
  rw [List.getElem?_map] at h
  cases e : l[i]? with
  | none =>
    rw [e] at h
    cases h
  | some r =>
    rw [e] at h
    exact ⟨r, rfl, (Option.some.inj h).symm⟩
/-! ### small words -/
theorem bT {p : Prop} [Decidable p] (h : p) : V.bl (decide p) = V.bl true := congrArg V.bl (decide_eq_true h)
theorem bF {p : Prop} [Decidable p] (h : ¬ p) : V.bl (decide p) = V.bl false := congrArg V.bl (decide_eq_false h)
theorem itT {c A B : Prop} [Decidable c] (hc : c) (h : A) : if c then A else B := by
  rw [if_pos hc]
  exact h
theorem itF {c A B : Prop} [Decidable c] (hc : ¬ c) (h : B) : if c then A else B := by
  rw [if_neg hc]
  exact h
theorem for_enum {K : PySem.W.Frag} {a : Addr} {xs : List V} {g : TG} {tb : TS} {D : Ends} {σ : L2.St} {H : Hp} (Pv : Nat → L2.St → Hp → Prop) (h0 : Pv 0 σ H) (hl : ∀ i σ H, i ≤ xs.length → Pv i σ H → SqL K H a xs)
    (hs : ∀ i x t σ H, xs[i]? = some x → H t = none → Pv i σ H → g (.ref t) σ (upd H t (.tup [.int (i : Nat), x])) fun σ2 H2 => tb { D with nx := Pv (i + 1), ct := Pv (i + 1), bk := D.nx } σ2 H2) (hd : ∀ σ H, Pv xs.length σ H → D.nx σ H) :
    ∃ W : Nat → Nat → L2.St → Hp → Prop, (∃ m, W 0 m σ H) ∧ ∀ i m σ H, W i m σ H →
      ((Ite K a).stop i H ∧ D.nx σ H) ∨ ((Ite K a).go i H ∧ ∃ N : L2.St → Hp → Prop, (∀ σ' H', N σ' H' → ∃ m', m' < m ∧ W (i + 1) m' σ' H') ∧ ∀ x H', (Ite K a).yld i H x H' → g x σ H' fun σ2 H2 => tb { D with nx := N, ct := N, bk := D.nx } σ2 H2) := by
  refine ⟨fun i m σ H => m = xs.length - i ∧ i ≤ xs.length ∧ Pv i σ H, ⟨xs.length, by simp, Nat.zero_le _, h0⟩, ?_⟩
  rintro i m σ H ⟨rfl, hi, p⟩
  have q := hl i σ H hi p
  by_cases hlt : i < xs.length
  · refine .inr ⟨⟨xs, xs[i], q, by simp [hlt]⟩, Pv (i + 1), fun σ' H' p' => ⟨xs.length - (i + 1), by omega, rfl, hlt, p'⟩, fun x H' y => ?_⟩
    obtain ⟨t, z, rfl, nt, rfl, fz⟩ := y
    exact hs i z t σ H (fz xs q) nt p
  · have e : i = xs.length := by omega
    subst e
    exact .inl ⟨⟨xs, q, Nat.le_refl _⟩, hd σ H p⟩
theorem pe_gI {X : Cx} {x : Str} {pos : Pos} {i : Int} (hg : Gl X x) (h : ∃ t, X.mg x = some (.int i t)) (hdb : (x == ("__debug__" : Str)) = false := by decide) : PE X (.Name x pos) (tC (.int i)) := by
  obtain ⟨t, h⟩ := h
  exact pe_glob hg h ⟨_, rfl⟩ hdb
theorem seq_join {t u : TS} {D : Ends} {σ : L2.St} {H : Hp} (J : L2.St → Hp → Prop) (hu : ∀ σ' H', J σ' H' → u D σ' H') (ht : ∀ N : L2.St → Hp → Prop, (∀ σ' H', J σ' H' → N σ' H') → t { D with nx := N } σ H) : tSeq t u D σ H := ht _ hu
theorem ixN_at {n j : Nat} (hj : j < n) : ixN n (j : Int) = some j := by
  unfold ixN
  rw [if_pos (by omega), if_pos (by omega)]
  rfl
theorem LB.ints {H0 H : Hp} {o : Addr} {ns : List Int} (h : LB H0 H o (ns.map PyData.int)) : H o = some (.lst (ns.map V.int)) := by
  obtain ⟨h0, xs, h1, h2⟩ := h
  have e := dpAll_ints (K := []) h2.dp
  rw [e] at h1
  exact h1
/-- the state of the dice -/
def DiceOk (D : List Int) : Prop := 2 ≤ D.length ∧ D.length ≤ 100 ∧ ∀ x ∈ D, 0 ≤ x
/-! ### expressions that change nothing: what they are worth -/
theorem NewV.but {dd : Addr} {o : HO} {H H1 H2 : Hp} {v : V} {d : PyData} (h : NewV H H1 v d) (hd : H dd = some o) (e : SameBut dd H1 H2) : NewV H H2 v d := Dn.mono (fun b u q => by
  obtain ⟨q1, q2⟩ := fr_some q
  rw [fr_new q1]
  refine e b u (fun z => ?_) q2
  subst z
  rw [hd] at q1
  cases q1) h
theorem dpAll_take {K : PySem.W.Frag} {H : Hp} : ∀ (n : Nat) {vs : List V} {ds : List PyData}, DpAll K H vs ds → DpAll K H (vs.take n) (ds.take n)
  | 0, _, _, _ => .nil
  | _ + 1, _, _, .nil => .nil
  | n + 1, _, _, .cons h a => .cons h (dpAll_take n a)
theorem dpAll_drop {K : PySem.W.Frag} {H : Hp} : ∀ (n : Nat) {vs : List V} {ds : List PyData}, DpAll K H vs ds → DpAll K H (vs.drop n) (ds.drop n)
  | 0, _, _, h => h
  | _ + 1, _, _, .nil => .nil
  | n + 1, _, _, .cons _ a => dpAll_drop n a
theorem dpAll_rev {K : PySem.W.Frag} {H : Hp} : ∀ {vs : List V} {ds : List PyData}, DpAll K H vs ds → DpAll K H vs.reverse ds.reverse
  | _, _, .nil => .nil
  | _, _, .cons h a => by
    rw [List.reverse_cons, List.reverse_cons]
    exact dpAll_app (dpAll_rev a) (.cons h .nil)
theorem cut_to (xs : List V) (k : Nat) : cutV xs none (some (k : Int)) = xs.take k := by
  unfold cutV
  rw [HT.sIx_none, HT.sIx_nat, List.drop_zero, Nat.sub_zero]
  by_cases h : k ≤ xs.length
  · rw [Nat.min_eq_left h]
  · rw [Nat.min_eq_right (by omega), List.take_of_length_le (Nat.le_refl _), List.take_of_length_le (by omega)]
theorem cut_from (xs : List V) (k : Nat) : cutV xs (some (k : Int)) none = xs.drop k := by
  unfold cutV
  rw [HT.sIx_none, HT.sIx_nat]
  by_cases h : k ≤ xs.length
  · rw [Nat.min_eq_left h]
    exact List.take_of_length_le (by rw [List.length_drop]; exact Nat.le_refl _)
  · rw [Nat.min_eq_right (by omega), List.drop_of_length_le (Nat.le_refl _), List.drop_of_length_le (by omega)]
    simp
/-- in every heap over G the expression gives the data d, and leaves what stands -/
def Ev (K : PySem.W.Frag) (G : Hp) (σ : L2.St) (t : TE) (d : PyData) : Prop := ∀ (H : Hp) (Q : VK), Same G H → (∀ H' v, Same H H' → Dp K H' v d → Q v H') → t σ H Q
def EvB (K : PySem.W.Frag) (G : Hp) (σ : L2.St) (t : TT) (b : Bool) : Prop := ∀ (H : Hp) (Q : Bool → Hp → Prop), Same G H → (∀ H', Same H H' → Q b H') → t σ H Q
section
variable {K : PySem.W.Frag} {G : Hp} {σ : L2.St} {ta tb tc : TE} {tA tB' : TT} {d e : PyData}
theorem Ev.var {i : Nat} {v : V} (h : σ[i]? = some (some v)) (hd : Dp K G v d) : Ev K G σ (tVar i) d := fun H _ s k => ⟨v, h, k H v (Same.refl _) (same_dp s hd)⟩
theorem Ev.int (i : Int) : Ev K G σ (tC (.int i)) (.int i) := fun H _ _ k => k H _ (Same.refl _) (.int i)
theorem Ev.mono {G' : Hp} {t : TE} (h : Ev K G σ t d) (s : Same G G') : Ev K G' σ t d := fun H Q s' k => h H Q (s.trans s') k
theorem Ev.nil : Ev K G σ (tLst tNil) (.list []) := fun H _ _ k => ⟨Nat.zero_le _, fun p np => k _ _ (same_new np) (.lst (SqL.of upd_same) .nil)⟩
theorem Ev.take (k : Nat) {ds : List PyData} (h : Ev K G σ ta (.list ds)) : Ev K G σ (tSl (rSlL K) ta tNoPart (tPart (tC (.int (k : Int))))) (.list (ds.take k)) := fun H Q s c => h H _ s fun H1 v s1 hv => by
  obtain ⟨a, xs, rfl, hS, hA⟩ := dp_list hv
  refine ⟨(k : Int), rfl, a, xs, rfl, hS, fun p np => ?_⟩
  rw [cut_to]
  exact c _ _ (s1.trans (same_new np)) (.lst (SqL.of upd_same) (same_dpAll (same_new np) (dpAll_take k hA)))
theorem Ev.rev {ds : List PyData} (h : Ev K G σ ta (.list ds)) : Ev K G σ (tRevL K ta) (.list ds.reverse) := fun H Q s c => h H _ s fun H1 v s1 hv => by
  obtain ⟨a, xs, rfl, hS, hA⟩ := dp_list hv
  exact ⟨a, xs, rfl, hS, fun p np => c _ _ (s1.trans (same_new np)) (.lst (SqL.of upd_same) (same_dpAll (same_new np) (dpAll_rev hA)))⟩
theorem EvB.ne {n m : Nat} (ha : Ev K G σ ta d) (hb : Ev K G σ tb e) (sd : Sh n d) (se : Sh m e) (hn : n ≤ 64 := by decide) (hm : m ≤ 64 := by decide) : EvB K G σ (tTest (tOp (rNeD K) ta tb)) (!PyData.eqv d e) := fun H Q s k =>
  ha H _ s fun H1 v1 s1 d1 => hb H1 _ (s.trans s1) fun H2 v2 s2 d2 => ⟨d, e, same_dp s2 d1, d2, sd.shaped hn, se.shaped hm, _, rfl, k H2 (s1.trans s2)⟩
theorem EvB.eq {n m : Nat} (ha : Ev K G σ ta d) (hb : Ev K G σ tb e) (sd : Sh n d) (se : Sh m e) (hn : n ≤ 64 := by decide) (hm : m ≤ 64 := by decide) : Ev K G σ (tOp (rEqD K) ta tb) (.bool (PyData.eqv d e)) := fun H Q s k =>
  ha H _ s fun H1 v1 s1 d1 => hb H1 _ (s.trans s1) fun H2 v2 s2 d2 => ⟨d, e, same_dp s2 d1, d2, sd.shaped hn, se.shaped hm, k H2 _ (s1.trans s2) (.bl _)⟩
theorem EvB.or {a b : Bool} (ha : EvB K G σ tA a) (hb : EvB K G σ tB' b) : EvB K G σ (tOr tA tB') (a || b) := fun H Q s k =>
  ha H _ s fun H1 s1 => by
    cases a
    · exact iteF (hb H1 _ (s.trans s1) fun H2 s2 => k H2 (s1.trans s2))
    · exact iteT (k H1 s1)
theorem EvB.and {a b : Bool} (ha : EvB K G σ tA a) (hb : EvB K G σ tB' b) : EvB K G σ (tAnd tA tB') (a && b) := fun H Q s k =>
  ha H _ s fun H1 s1 => by
    cases a
    · exact iteF (k H1 s1)
    · exact iteT (hb H1 _ (s.trans s1) fun H2 s2 => k H2 (s1.trans s2))
theorem EvB.not {a : Bool} (ha : EvB K G σ tA a) : EvB K G σ (tNot tA) (!a) := fun H _ s k => ha H _ s fun H1 s1 => k H1 s1
theorem EvB.val {a : Bool} {t : TE} (h : Ev K G σ t (.bool a)) : EvB K G σ (L2.tB t) a := fun H _ s k => h H _ s fun H1 v s1 hv => ⟨a, dp_bool hv, k H1 s1⟩
/-- an if whose test is false -/
theorem EvB.pass {t1 : TS} {D : Ends} {H : Hp} (h : EvB K G σ tA false) (s : Same G H) (k : ∀ H', Same H H' → D.nx σ H') : tIfS tA t1 tNext D σ H := h H _ s fun H' s' => iteF (k H' s')
end
theorem list_map {α : Type} (l : List α) (g : α → PyData) : (List.range l.length).filterMap (fun (i : Nat) => (l[i]?).bind fun k => some (g k)) = l.map g := by
  have h : ∀ m, m ≤ l.length → (List.range m).filterMap (fun (i : Nat) => (l[i]?).bind fun k => some (g k)) = (l.take m).map g := by
    intro m
    induction m with
    | zero => intro _; rfl
    | succ m ih =>
      intro hm
      have hlt : m < l.length := hm
      have e : l[m]? = some l[m] := List.getElem?_eq_getElem hlt
      rw [List.range_succ, List.filterMap_append, ih (Nat.le_of_succ_le hm), List.take_add_one, e, List.map_append]
      congr 1
      rw [List.filterMap_cons, e]
      rfl
  rw [h _ (Nat.le_refl _), List.take_length]
theorem yesT {σ : L2.St} {H : Hp} {A B : Hp → Prop} (h : A H) : tYes σ H fun b H3 => if b = true then A H3 else B H3 := by
  show if true = true then A H else B H
  rw [if_pos rfl]
  exact h
/-! ### defs -/
section
variable {P : Program} {w : World} {K : PySem.W.Frag} {mg : Str → Option Value} {base : Heap}
/-- a def of the program's top: what stands under its name -/
structure Df (K : PySem.W.Frag) (mg : Str → Option Value) (x : Str) (st : Stmt) (ps : List Str) : Prop where
  ex : ∃ (f : Addr) (fd : FuncData), Fun K x x st f fd ∧ mg x = some (.ref f) ∧ Binds K fd ps []
/-- a def that keeps a promise, called by its name -/
structure Cl (P : Program) (w : World) (K : PySem.W.Frag) (mg : Str → Option Value) (base : Heap) (k : Nat) (x : Str) (sp : Sp) : Prop where
  ex : ∃ (f : Addr) (fd : FuncData) (ps : List Str), FnOk P w K mg base CX0 k f fd ps sp ∧ mg x = some (.ref f) ∧ PySem.W.keepIn K (.ref f) = true ∧ Binds K fd ps []
theorem Df.cl {x : Str} {st : Stmt} {N ps : List Str} {k : Nat} {sp : Sp} (F : Df K mg x st ps) (S : FnScope N ps (defScope st)) (len : ∀ vs H Q E, sp vs H Q E → vs.length = ps.length)
    (hbody : ∀ (f : Addr) (cdv : Value) (A : Around) (outer : List Env) (s : Shared) (H : Hp) (vs : List V) (Q : VK) (E : XK), Room k (A.deeper (envOfC x (defScope st) s.heap.objs.size f cdv)) → sp vs H Q E →
      ∃ t, PSs (cxOf CX0 P w K mg base N x (defScope st) f cdv A outer s H E).nox (defBody st) t ∧ t { nx := fun _ H' => Q .non H', rt := Q } (start N vs) H) : Cl P w K mg base (k + 1) x sp := by
  obtain ⟨f, fd, F0, g, b⟩ := F.ex
  exact ⟨f, fd, ps, F0.ok S len (fun cdv A outer s H vs Q E hr h => hbody f cdv A outer s H vs Q E hr h), g, F0.kp, b⟩
theorem Cl.imp {x : Str} {k : Nat} {sp sp' : Sp} (c : Cl P w K mg base k x sp) (h : ∀ vs H Q E, sp' vs H Q E → sp vs H Q E) : Cl P w K mg base k x sp' := by
  obtain ⟨f, fd, ps, F, a, b, d⟩ := c.ex
  exact ⟨f, fd, ps, F.imp h, a, b, d⟩
end
section
variable {X : Cx} {k j : Nat} {x : Str} {sp : Sp} {p pos : Pos} {e : Expr} {es : List Expr} {t : TA}
theorem pe_k (c : Cl X.prog X.w X.K X.mg X.base k x sp) (hr : Room j X.A) (ha : PA X (e :: es) t) (hk : k ≤ j := by decide) (hg : Gl X x := by rfl)
    (hdb : (x == ("__debug__" : Str)) = false := by decide) (he : starEach (e :: es) X.env = (false, eval e X.env) :: starEach es X.env := by rfl) (hpl : (backTo pos (starEach es X.env)).any (·.1) = false := by rfl) :
    PE X (.Call (.Name x p) (e :: es) [] pos) (tCall sp [] E0 t) := by
  obtain ⟨f, fd, ps, F, hm, kp, b⟩ := c.ex
  exact pe_call F (hr.mono hk) hg hm kp b .nil pass0 ha hdb he hpl
end
end Sg
/-! Signsets: more about data: heaps without the dice, parts of what was told, membership. -/
namespace Sg
open PySem PySem.Spec PyProof.Rows L2

/-! ### rising lists -/
theorem rising_ext : ∀ {a b : List Int}, a.Pairwise (· < ·) → b.Pairwise (· < ·) → (∀ k, k ∈ a ↔ k ∈ b) → a = b
  | [], [], _, _, _ => rfl
  | [], y :: b, _, _, h => absurd ((h y).mpr (by simp)) (by simp)
  | x :: a, [], _, _, h => absurd ((h x).mp (by simp)) (by simp)
  | x :: a, y :: b, ha, hb, h => by
    rw [List.pairwise_cons] at ha hb
    have e : x = y := by
      rcases List.mem_cons.mp ((h x).mp (by simp)) with q | q
      · exact q
      · rcases List.mem_cons.mp ((h y).mpr (by simp)) with r | r
        · exact r.symm
        · have h1 := hb.1 x q
          have h2 := ha.1 y r
          omega
    subst e
    rw [rising_ext ha.2 hb.2 fun k => ⟨fun m => ?_, fun m => ?_⟩]
    · rcases List.mem_cons.mp ((h k).mp (List.mem_cons_of_mem _ m)) with q | q
      · have := ha.1 k m
        omega
      · exact q
    · rcases List.mem_cons.mp ((h k).mpr (List.mem_cons_of_mem _ m)) with q | q
      · have := hb.1 k m
        omega
      · exact q
theorem sep_two {R : List (Int × Int)} (h : R.Pairwise fun a b => a.2 + 1 < b.1) {r q : Int × Int} (hr : r ∈ R) (hq : q ∈ R) : r = q ∨ r.2 + 1 < q.1 ∨ q.2 + 1 < r.1 := by
  obtain ⟨i, hi, rfl⟩ := List.getElem_of_mem hr
  obtain ⟨j, hj, rfl⟩ := List.getElem_of_mem hq
  rw [List.pairwise_iff_getElem] at h
  rcases Nat.lt_trichotomy i j with c | c | c
  · exact .inr (.inl (h i j hi hj c))
  · subst c
    exact .inl rfl
  · exact .inr (.inr (h j i hj hi c))
theorem told_firsts {ns : List Int} (h : ns.Pairwise (· < ·)) : (told ns).map (·.1) = ns.filter fun k => !decide (k - 1 ∈ ns) := by
  have t := told_ti h
  refine rising_ext ?_ (h.filter _) fun k => ?_
  · rw [List.pairwise_map]
    refine List.Pairwise.imp_of_mem (fun {a b} ha hb c => ?_) t.sep
    have := t.le a ha
    omega
  · rw [List.mem_map, List.mem_filter, Bool.not_eq_true', decide_eq_false_iff_not, ← t.has k, ← t.has (k - 1), has_iff, has_iff]
    constructor
    · rintro ⟨r, hr, rfl⟩
      refine ⟨⟨r, hr, Int.le_refl _, t.le r hr⟩, ?_⟩
      rintro ⟨q, hq, h1, h2⟩
      rcases sep_two t.sep hr hq with e | e | e
      · rw [← e] at h1
        omega
      · have := t.le r hr
        omega
      · omega
    · rintro ⟨⟨r, hr, h1, h2⟩, h3⟩
      refine ⟨r, hr, ?_⟩
      by_cases c : r.1 = k
      · exact c
      · exact absurd ⟨r, hr, by omega, by omega⟩ h3
theorem told_lasts {ns : List Int} (h : ns.Pairwise (· < ·)) : (told ns).map (·.2) = ns.filter fun k => !decide (k + 1 ∈ ns) := by
  have t := told_ti h
  refine rising_ext ?_ (h.filter _) fun k => ?_
  · rw [List.pairwise_map]
    refine List.Pairwise.imp_of_mem (fun {a b} ha hb c => ?_) t.sep
    have := t.le b hb
    omega
  · rw [List.mem_map, List.mem_filter, Bool.not_eq_true', decide_eq_false_iff_not, ← t.has k, ← t.has (k + 1), has_iff, has_iff]
    constructor
    · rintro ⟨r, hr, rfl⟩
      refine ⟨⟨r, hr, t.le r hr, Int.le_refl _⟩, ?_⟩
      rintro ⟨q, hq, h1, h2⟩
      rcases sep_two t.sep hr hq with e | e | e
      · rw [← e] at h2
        omega
      · omega
      · have := t.le r hr
        omega
    · rintro ⟨⟨r, hr, h1, h2⟩, h3⟩
      refine ⟨r, hr, ?_⟩
      by_cases c : r.2 = k
      · exact c
      · exact absurd ⟨r, hr, by omega, by omega⟩ h3

/-! ### no list of fewer ranges has the same signs -/
theorem nodup_len : ∀ {a b : List Int}, a.Nodup → (∀ x ∈ a, x ∈ b) → a.length ≤ b.length
  | [], b, _, _ => Nat.zero_le _
  | x :: a, b, hn, hs => by
    rw [List.nodup_cons] at hn
    have hx : x ∈ b := hs x (by simp)
    have ih := nodup_len (b := b.erase x) hn.2 fun y hy => (List.mem_erase_of_ne fun z => hn.1 (by rw [← z]; exact hy)).mpr (hs y (List.mem_cons_of_mem _ hy))
    rw [List.length_erase_of_mem hx] at ih
    have : 0 < b.length := List.length_pos_of_mem hx
    rw [List.length_cons]
    omega
theorem told_first_mem {ns : List Int} (h : ns.Pairwise (· < ·)) {r : Int × Int} (hr : r ∈ told ns) : r.1 ∈ ns ∧ r.1 - 1 ∉ ns := by
  have m : r.1 ∈ (told ns).map (·.1) := List.mem_map.mpr ⟨r, hr, rfl⟩
  rw [told_firsts h, List.mem_filter, Bool.not_eq_true', decide_eq_false_iff_not] at m
  exact m
theorem told_fewest {ns : List Int} (h : ns.Pairwise (· < ·)) {O : List (Int × Int)} (hO : ∀ k, k ∈ ns ↔ has O k = true) : (told ns).length ≤ O.length := by
  have t := told_ti h
  have e := nodup_len (a := (told ns).map (·.1)) (b := O.map (·.1)) ?_ ?_
  · rw [List.length_map, List.length_map] at e
    exact e
  · rw [told_firsts h]
    exact (h.filter _).imp fun {a b} c => by omega
  · intro x hx
    obtain ⟨r, hr, rfl⟩ := List.mem_map.mp hx
    obtain ⟨m1, m2⟩ := told_first_mem h hr
    obtain ⟨o, ho, h1, h2⟩ := has_iff.mp ((hO _).mp m1)
    refine List.mem_map.mpr ⟨o, ho, ?_⟩
    by_cases c : o.1 = r.1
    · exact c
    · exact absurd ((hO _).mpr (has_iff.mpr ⟨o, ho, by omega, by omega⟩)) m2

/-! ### membership -/
theorem inV_ints (k : Int) : ∀ ns : List Int, inV (.int k) (ns.map V.int) = decide (k ∈ ns)
  | [] => rfl
  | n :: ns => by
    have ih := inV_ints k ns
    unfold inV at ih ⊢
    rw [List.map_cons, List.any_cons, ih]
    have e : eqV (.int n) (.int k) = decide (n = k) := by
      show (n == k) = _
      by_cases h : n = k <;> simp [h]
    rw [e]
    by_cases h : n = k
    · simp [h]
    · by_cases h2 : k ∈ ns
      · simp [h2]
      · simp [h, h2]
        exact fun z => h z.symm
theorem flat_ints (ns : List Int) : (ns.map V.int).all flatV = true := by
  rw [List.all_eq_true]
  intro x hx
  obtain ⟨n, _, rfl⟩ := List.mem_map.mp hx
  rfl
theorem dpAll_bools {K : PySem.W.Frag} {H : Hp} : ∀ {vs : List V} {bs : List Bool}, DpAll K H vs (bs.map PyData.bool) → vs = bs.map V.bl
  | _, [], .nil => rfl
  | _, n :: ns, .cons h a => by
    rw [dp_bool h, dpAll_bools a]
    rfl
theorem rIx_of {K : PySem.W.Frag} {H : Hp} {Q : VK} {a : Addr} {xs : List V} {i : Nat} {v : V} (hq : SqL K H a xs ∨ SqT K H a xs) (hi : xs[i]? = some v) (q : Q v H) : rIx K (.ref a) (.int (i : Int)) H Q := by
  rcases hq with h | h
  · exact .inl ⟨a, xs, i, v, rfl, rfl, h, atI_nat hi, q⟩
  · exact .inr (.inl ⟨a, xs, i, v, rfl, rfl, h, atI_nat hi, q⟩)

/-! ### heaps without one address -/
theorem sb_same {d : Addr} {H H' : Hp} (e : SameBut d H H') : Same (del H d) (del H' d) := fun b o h => by
  by_cases c : b = d
  · subst c
    rw [del_self] at h
    cases h
  · rw [del_ne c] at h ⊢
    exact e b o c h
theorem NewV.del {d : Addr} {o : HO} {H H' : Hp} {v : V} {e : PyData} (h : NewV H H' v e) (hd : H d = some o) : NewV (del H d) (Sg.del H' d) v e := Dn.mono (fun b u q => by
  obtain ⟨q1, q2⟩ := fr_some q
  have c : b ≠ d := fun z => by
    subst z
    rw [hd] at q1
    cases q1
  rw [fr_new (by rw [del_ne c]; exact q1), del_ne c]
  exact q2) h
theorem NewV.undel {d : Addr} {H H' : Hp} {v : V} {e : PyData} (h : NewV (Sg.del H d) (Sg.del H' d) v e) : NewV H H' v e := Dn.mono (fun b u q => by
  obtain ⟨q1, q2⟩ := fr_some q
  by_cases c : b = d
  · subst c
    rw [del_self] at q2
    cases q2
  · rw [del_ne c] at q1 q2
    rw [fr_new q1]
    exact q2) h
theorem del_upd {d o : Addr} {x : HO} {H : Hp} (n : o ≠ d) : del (upd H o x) d = upd (del H d) o x := by
  funext b
  by_cases c : b = d
  · subst c
    rw [del_self, upd_ne n.symm, del_self]
  · rw [del_ne c]
    by_cases c2 : b = o
    · subst c2
      rw [upd_same, upd_same]
    · rw [upd_ne c2, upd_ne c2, del_ne c]
theorem del_upd_self {d : Addr} {x : HO} {H : Hp} : del (upd H d x) d = del H d := by
  funext b
  by_cases c : b = d
  · subst c
    rw [del_self, del_self]
  · rw [del_ne c, del_ne c, upd_ne c]

theorem LB.mk {H0 H : Hp} {o : Addr} {xs : List V} {ds : List PyData} (s : Same H0 H) (no : H o = none) (ha : DnAll (fr H0 H) xs ds) : LB H0 (upd H o (.lst xs)) o ds := by
  refine ⟨s.free no, xs, upd_same, ha.mono fun b u q => ?_⟩
  obtain ⟨q1, q2⟩ := fr_some q
  have c : b ≠ o := ne_of_none q2 no
  rw [del_ne c, fr_new q1, upd_ne c]
  exact q2
theorem LB.push {H0 H : Hp} {o : Addr} {ds : List PyData} {y : V} {e : PyData} (h : LB H0 H o ds) (hy : Dn (del (fr H0 H) o) y e) : ∃ xs, H o = some (.lst xs) ∧ xs.length = ds.length ∧ LB H0 (upd H o (.lst (xs ++ [y]))) o (ds ++ [e]) := by
  obtain ⟨h0, xs, h1, h2⟩ := h
  have up : Same (del (fr H0 H) o) (del (fr H0 (upd H o (.lst (xs ++ [y])))) o) := fun b u q => by
    by_cases c : b = o
    · subst c
      rw [del_self] at q
      cases q
    · rw [del_ne c] at q ⊢
      obtain ⟨q1, q2⟩ := fr_some q
      rw [fr_new q1, upd_ne c]
      exact q2
  exact ⟨xs, h1, h2.len, h0, xs ++ [y], upd_same, DnAll.snoc (h2.mono up) (Dn.mono up hy)⟩
theorem dec_allIn {n : Nat} {R : List (Int × Int)} (hk : Ok n R) (k : Int) : decide (k ∈ allIn n R) = has R k := by
  cases e : has R k
  · exact decide_eq_false fun z => by rw [(mem_allIn hk).mp z] at e; cases e
  · exact decide_eq_true ((mem_allIn hk).mpr e)

/-! ### the parts of what was told -/
mutual
theorem Dn.func {F : Hp} : ∀ {d e : PyData} {v : V}, Dn F v d → Dn F v e → d = e
  | .none, _, _, .non, h => by cases h; rfl
  | .bool b, _, _, .bl _, h => by cases h; rfl
  | .int i, _, _, .int _, h => by cases h; rfl
  | .str x, _, _, .str _, h => by cases h; rfl
  | .list ds, _, _, .lst h a, h2 => by
    cases h2 with
    | lst h' a' =>
      rw [h] at h'
      cases h'
      rw [DnAll.func a a']
    | tup h' a' =>
      rw [h] at h'
      cases h'
  | .tuple ds, _, _, .tup h a, h2 => by
    cases h2 with
    | tup h' a' =>
      rw [h] at h'
      cases h'
      rw [DnAll.func a a']
    | lst h' a' =>
      rw [h] at h'
      cases h'
theorem DnAll.func {F : Hp} : ∀ {ds es : List PyData} {vs : List V}, DnAll F vs ds → DnAll F vs es → ds = es
  | [], _, _, .nil, h => by cases h; rfl
  | d :: ds, _, _, .cons h a, h2 => by
    cases h2 with
    | cons h' a' => rw [Dn.func h h', DnAll.func a a']
end
theorem part_ne {F : Hp} {f p : Addr} {ps xs : List V} {ds : List PyData} (hf : F f = some (.lst ps)) (ha : DnAll F ps ds) (hm : V.ref p ∈ ps) : p ≠ f := fun z => by
  subst z
  obtain ⟨i, hi⟩ := List.getElem?_of_mem hm
  obtain ⟨d, hd, hn⟩ := ha.get hi
  have e := Dn.func (.lst hf ha) hn
  have h1 := List.sizeOf_lt_of_mem (List.mem_of_getElem? hd)
  rw [← e] at h1
  simp at h1
  omega
/-- lists that are new over G, to be made longer -/
def Parts (G H : Hp) (ps : List V) (b : Nat) : Prop := ∀ v ∈ ps, ∃ p xs, v = .ref p ∧ G p = none ∧ H p = some (.lst xs) ∧ xs.length ≤ b
theorem Parts.same {G H H' : Hp} {ps : List V} {b : Nat} (h : Parts G H ps b) (s : Same H H') : Parts G H' ps b := fun v hv => by
  obtain ⟨p, xs, h1, h2, h3, h4⟩ := h v hv
  exact ⟨p, xs, h1, h2, s _ _ h3, h4⟩
theorem Parts.push {G H : Hp} {ps : List V} {b : Nat} {p : Addr} {xs : List V} {y : V} (h : Parts G H ps b) (hl : xs.length ≤ b) : Parts G (upd H p (.lst (xs ++ [y]))) ps (b + 1) := fun v hv => by
  obtain ⟨q, ys, h1, h2, h3, h4⟩ := h v hv
  by_cases c : q = p
  · subst c
    exact ⟨q, _, h1, h2, upd_same, by rw [List.length_append]; simp; omega⟩
  · exact ⟨q, ys, h1, h2, by rw [upd_ne c]; exact h3, by omega⟩
theorem Parts.of {G H : Hp} {ps : List V} {ds : List PyData} {b : Nat} (ha : DnAll (fr G H) ps ds) (hd : ∀ d ∈ ds, ∃ es, d = .list es ∧ es.length ≤ b) : Parts G H ps b := fun v hv => by
  obtain ⟨i, hi⟩ := List.getElem?_of_mem hv
  obtain ⟨d, hd', hn⟩ := ha.get hi
  obtain ⟨es, rfl, hl⟩ := hd d (List.mem_of_getElem? hd')
  cases hn with
  | lst h a =>
    obtain ⟨q1, q2⟩ := fr_some h
    exact ⟨_, _, rfl, q1, q2, by rw [a.len]; exact hl⟩
end Sg
/-! Signsets: isinstance over data; what _law_alike looks at. -/
namespace Sg
open PySem PySem.Spec PyProof.Rows L2
def tyN : PyData → String
  | .none => "NoneType"
  | .bool _ => "bool"
  | .int _ => "int"
  | .str _ => "str"
  | .list _ => "list"
  | .tuple _ => "tuple"
  | .dict _ => "dict"
def isN (n t : String) : Bool := t == n || (n == "int" && t == "bool")
/-- isinstance of data with a built-in class -/
def isT (n : String) (d : PyData) : Bool := isN n (tyN d)
theorem kitN : ∀ t ∈ ["NoneType", "bool", "int", "str", "list", "tuple"], ∀ n ∈ ["bool", "int", "str", "tuple", "list"], kitB t n = some (isN n t) := by decide +kernel
theorem dp_ty {K : PySem.W.Frag} {H : Hp} {v : V} {d : PyData} (h : Dp K H v d) : TyX K H v (.type (tyN d)) := by
  cases h with
  | non => exact .base .non
  | bl b => exact .base (.bl b)
  | int i => exact .base (.int i)
  | str x => exact .base (.str x)
  | lst h _ =>
    rcases h with (h | ⟨o, h⟩) | ⟨o, its, n, h, c, _⟩
    · exact .base (.lst h)
    · exact .base (.frz h)
    · exact .kList h c
  | tup h _ =>
    rcases h with (h | ⟨o, h⟩) | ⟨o, its, n, h, c, _⟩
    · exact .base (.tup h)
    · exact .fTuple h
    · exact .kTuple h c
def rIsD (K : PySem.W.Frag) : List V → Hp → VK → Prop := fun xs H Q => ∃ (x : V) (n : String) (d : PyData), xs = [x, .ty n] ∧ n ∈ ["bool", "int", "str", "tuple", "list"] ∧ Dp K H x d ∧ Q (.bl (isT n d)) H
theorem isD {X : Cx} (K : PySem.W.Frag) (h : X.K = K := by rfl) : CallR X (.builtin "isinstance") (rIsD K) := by
  subst h
  intro pins s σ H xs us Q I r h
  obtain ⟨x, n, d, rfl, hn, hd, q⟩ := h
  refine call_isi pins s σ H _ us Q I r ⟨x, .ty n, .type (tyN d), .type n, isT n d, rfl, .ty n, dp_ty hd, ?_, q⟩
  refine kit_ty (kitN _ ?_ n hn)
  cases d with
  | dict kvs => cases hd
  | none => simp [tyN]
  | bool b => simp [tyN]
  | int i => simp [tyN]
  | str x => simp [tyN]
  | list ds => simp [tyN]
  | tuple ds => simp [tyN]
theorem isT_bool {d : PyData} (h : isT "bool" d = true) : ∃ b, d = .bool b := by
  cases d <;> simp [isT, isN, tyN] at h
  exact ⟨_, rfl⟩
theorem isT_int {d : PyData} (h : isT "int" d = true) (h2 : ¬ isT "bool" d = true) : ∃ b, d = .int b := by
  cases d <;> simp [isT, isN, tyN] at h h2
  exact ⟨_, rfl⟩
theorem isT_str {d : PyData} (h : isT "str" d = true) : ∃ b, d = .str b := by
  cases d <;> simp [isT, isN, tyN] at h
  exact ⟨_, rfl⟩
theorem ixQ {X : Cx} (K : PySem.W.Frag) (h : X.K = K := by rfl) : IxR X (rIx K) := by subst h; exact ix_seq
/-- data of at most n storeys, its lists of at most 100,000 items -/
def Al : Nat → PyData → Prop
  | _, .none => True
  | _, .bool _ => True
  | _, .int _ => True
  | _, .str _ => True
  | n + 1, .list ds => ds.length ≤ 100000 ∧ ∀ d ∈ ds, Al n d
  | n + 1, .tuple ds => ds.length ≤ 100000 ∧ ∀ d ∈ ds, Al n d
  | _, _ => False
theorem Al.int {n : Nat} (i : Int) : Al n (.int i) := by cases n <;> trivial
theorem Al.bool {n : Nat} (i : Bool) : Al n (.bool i) := by cases n <;> trivial
theorem Al.str {n : Nat} (i : Str) : Al n (.str i) := by cases n <;> trivial
theorem Al.eP {n : Nat} (r : Int × Int) : Al (n + 1) (eP r) := ⟨by simp, fun d hd => by
  simp at hd
  rcases hd with rfl | rfl <;> exact Al.int _⟩
theorem Al.eI {n : Nat} {ns : List Int} (h : ns.length ≤ 100000) : Al (n + 1) (eI ns) := ⟨by rw [List.length_map]; exact h, fun d hd => by
  obtain ⟨r, _, rfl⟩ := List.mem_map.mp hd
  exact Al.int r⟩
theorem Al.eR {n : Nat} {R : List (Int × Int)} (h : R.length ≤ 100000) : Al (n + 2) (eR R) := ⟨by rw [List.length_map]; exact h, fun d hd => by
  obtain ⟨r, _, rfl⟩ := List.mem_map.mp hd
  exact Al.eP r⟩
end Sg
/-! Signsets: set(xs) of a list of ints, sorted(s) of such a set of any size: rules of our own. -/
namespace Sg
open PySem PySem.Spec PyProof.Rows L2
section
variable {P : Program} {w : World} {A : Around} {E : Value → Shared → Prop} {s : Shared}
abbrev newSet (w : World) : Obj := { cls := .type "set", dict := none, data := .set #[] 0 (.fresh 0 0 (!w.params.followText "set-order")) }
/-- set(l), l a list of ints -/
theorem setOf_list {l : Addr} {items : Array Value} (ns : List Int) {Q : Value → Shared → Prop} (hh : A.handled = none) (hl : s.heap.IsList l items) (hit : IntsAre items.toList ns) (hb : ns.length + 1 < scanBound)
    (h : ∀ (h' : Heap) (tk c : Nat), SetR w h' s.heap.objs.size (fun j => decide (j ∈ ns)) c → c ≤ ns.length → (∀ b o, s.heap.get? b = some o → h'.get? b = some o) → Q (.ref s.heap.objs.size) { s with heap := h', toks := tk }) :
    wpAny (model P w) A (call (.type "set") [.ref l]) Q E s := by
  have hisz : items.size = ns.length := by
    have q := IntsAre.length hit
    rw [Array.length_toList] at q
    exact q
  obtain ⟨c, tl, hmro⟩ := PySem.F.called_set.mro
  have hmade := PySem.F.called_set.made
  have hsub := PySem.F.called_set.sub
  refine wpAny_call (codeAny_of_tree ?_)
  show wpAny _ _ (callAny (.type "set") _) _ _ _
  refine wpAny_pure ⟨Code.quiet_builtin _ (by decide +kernel), codeAny_builtin PySem.F.entry_type_call ?_⟩
  rw [Around.under_plain (weight_type_call_type "set" [.ref l] []) rfl]
  have h1 := PySem.F.called_set.notType
  have h2 := PySem.F.called_set.canCreate
  have hct := PySem.F.typeCall_set_1 (.ref l)
  repeat (any_goals (first | assumption | wp_step))
  refine codeAny_mono (code_set_led1 (.ref l) (E := E) (Q₁ := fun obj s₁ => obj = .ref s.heap.objs.size ∧ s₁ = { s with heap := s.heap.push (newSet w) }) ⟨rfl, rfl⟩) fun r s₁ hr => ?_
  cases r with
  | error e => exact hr
  | ok fl =>
    cases fl with
    | ret obj =>
      obtain ⟨rfl, rfl⟩ := hr
      have hS : (s.heap.push (newSet w)).get? s.heap.objs.size = some (newSet w) := Heap.get?_push_size _ rfl
      have hT : Shared.TypeIs { s with heap := s.heap.push (newSet w) } (.ref s.heap.objs.size) "set" := ⟨_, hS, rfl⟩
      have hli := PySem.F.called_set.init.lookup
      have hbi := PySem.F.called_set.init.bind (.ref s.heap.objs.size)
      repeat (any_goals (first | assumption | wp_step))
      refine codeAny_mono (codeAny_call_builtin (R := wants (fun r s₂ => r = .none ∧ ∃ h' tk c, s₂ = { s with heap := h', toks := tk } ∧ SetR w h' s.heap.objs.size (fun j => decide (j ∈ ns)) c ∧ c ≤ ns.length ∧
          (∀ b o, s.heap.get? b = some o → h'.get? b = some o)) E) PySem.F.called_set.init.plain PySem.F.entry_set_init (check_set_init_1 hT ?_)) fun r₂ s₂ hr₂ => ?_
      · obtain ⟨ol, hol, hcl, nl, hdl⟩ := hl
        obtain ⟨ocls, odict, odata, oslots⟩ := ol
        simp only at hcl hdl
        subst hcl; subst hdl
        have hol' : (s.heap.push (newSet w)).get? l = some { cls := .type "list", dict := odict, data := .seq items nl, slots := oslots } := Heap.get?_push_of_some _ hol
        have hsls := PySem.F.sub_list_set
        have hslf := PySem.F.sub_list_frozenset
        have hne : (Value.type "list" == Value.type "dict") = false := by decide
        have hl1 : (s.heap.push (newSet w)).IsList l items := ⟨_, hol', rfl, nl, rfl⟩
        unfold Builtin.«set.__init__» noKeywords Builtin.Frozenset.updateFrom
        generalize hPI : pyIter = PI
        wp_walk
        subst hPI
        refine wpAny_pyIter_list hl1 ?_
        refine wpAny_bind (wpAny_runValue ?_)
        have hlS : l < s.heap.objs.size := Heap.lt_size hol
        have hh3 : A.in1.in1.in1.handled = none := by simp [hh]
        have hz : (s.heap.push (newSet w)).objs.size = s.heap.objs.size + 1 := Heap.size_push ..
        have hneI : l ≠ (s.heap.push (newSet w)).objs.size := by
          rw [hz]
          exact Nat.ne_of_lt (Nat.lt_succ_of_lt hlS)
        have hSf : s.heap.objs.size ∉ [(s.heap.push (newSet w)).objs.size, l] := by
          rw [hz]
          intro m
          rcases List.mem_cons.mp m with e | m
          · exact absurd e (Nat.ne_of_lt (Nat.lt_succ_self _))
          · exact absurd (List.mem_singleton.mp m) (Nat.ne_of_gt hlS)
        have hval : ∀ (i : Nat) (v : Value), items[i]? = some v → ∃ k t, ns[i]? = some k ∧ v = .int k t := fun i v hv => by
          have hi : i < ns.length := by rw [← hisz]; exact (Array.getElem?_eq_some_iff.mp hv).1
          obtain ⟨t, e⟩ := PyProof.Rows.IntsAre.int_at hit i v (by rw [Array.getElem?_toList]; exact hv)
          refine ⟨ns[i], t, List.getElem?_eq_getElem hi, ?_⟩
          rw [e, List.getD_eq_getElem?_getD, List.getElem?_eq_getElem hi] <;> rfl
        refine set_update_ints ((Walks.list hh3 _ l hneI items).toS) s.heap.objs.size hSf ns hisz hb hval (items.size - 0) 0 _ (by omega) (Nat.zero_le _)
          ⟨⟨_, Heap.get?_push_size _ rfl, rfl, rfl⟩, (hl1.push _)⟩ ?hS0 ?hR
        case hS0 => exact ⟨0, Nat.le_refl 0, setR_new_at (Heap.get?_push_of_some _ hS)⟩
        case hR =>
          intro s' c' hm hc' hS'
          obtain ⟨h', g2, d', tk', os'⟩ := s'
          have eg : g2 = s.gens := hm.gens
          have ed : d' = s.drawn := hm.drawn
          have eo : os' = s.os := hm.os
          subst eg; subst ed; subst eo
          show wpAny _ _ _ _ _ _
          refine wpAny_pure ?_
          show wpAny _ _ (ret Value.none) _ _ _
          rw [hisz] at hc'
          refine wpAny_pure ⟨rfl, h', tk', c', rfl, hS', hc', fun b o e => ?_⟩
          have hb0 : b < s.heap.objs.size := Heap.lt_size e
          refine hm.heap b o (fun m => ?_) (Heap.get?_push_of_some _ (Heap.get?_push_of_some _ e))
          rcases List.mem_cons.mp m with z | m
          · exact absurd z (Nat.ne_of_lt hb0)
          · have z := List.mem_singleton.mp m
            rw [hz] at z
            exact absurd z (Nat.ne_of_lt (Nat.lt_succ_of_lt hb0))
      · cases r₂ with
        | error e => exact hr₂
        | ok fl₂ =>
          cases fl₂ with
          | ret r =>
            obtain ⟨rfl, h', tk, c', rfl, hS', hc', hk'⟩ := hr₂
            repeat (any_goals (first | assumption | wp_step))
            exact h _ _ _ hS' hc' hk'
          | _ => exact hr₂.elim
    | _ => exact hr.elim
/-- sorted(a), a a set of ints of any size -/
theorem sorted_any {a : Addr} {S : Int → Bool} {n : Nat} {Q : Value → Shared → Prop} (R : SetR w s.heap a S n) (hh : A.handled = none)
    (hQ : ∀ s' p (out : List Value) (c : Nat) (ns : List Int), (∀ b o, s.heap.get? b = some o → s'.heap.get? b = some o) → s'.gens = s.gens → s'.os = s.os → s.heap.objs.size ≤ p →
      s'.heap.get? p = some (seqObj "list" out.toArray c) → IntsAre out ns → ns.Pairwise (· < ·) → (∀ k, k ∈ ns ↔ S k = true) → ns.length = n → Q (.ref p) s') :
    wpAny (model P w) A (call (.builtin "sorted") [.ref a]) Q E s := by
  obtain ⟨o, es, ep, t, ho, hex, hd, g, nd, hm, hb, hf, hn, hr, hl⟩ := R
  refine Calls.call_function_entry kind_sorted plain_sorted entry_sorted (args_sorted1 _) ?_
  unfold Builtin.«sorted»
  refine wpAny_bind (m := checkCount "sorted" 1 1 _) (wpAny_pure ?_)
  refine wpAny_bind (collect_set (A := A.in1) hh ⟨o, ho, hex.1, hd⟩ hf hb hr hl fun s1 vs k1 hz g1 o1 pm => ?_)
  have hvl : vs.length = n := by rw [pm.length_eq, List.length_map, Array.length_toList]; exact hn
  have hI : IntsAre vs (vs.map Builtin.Re.reRawOf) := ints_of vs fun v hv => by
    obtain ⟨e, he, q⟩ := List.mem_map.mp (pm.mem_iff.mp hv)
    obtain ⟨k, tk, h1, _⟩ := g e he
    exact ⟨k, tk, by rw [← q]; exact h1⟩
  have pk : (vs.map Builtin.Re.reRawOf).Perm (es.toList.map keyOf) := by
    have q := pm.map Builtin.Re.reRawOf
    rw [List.map_map] at q
    exact q
  have hzz : vs.length ≤ sizeLine := by
    rw [hvl, ← hn]
    exact Nat.le_trans (Nat.le_of_lt hb) (by decide)
  refine wpAny_bind (wpAny_newList ?_ hzz)
  have hoL : (s1.heap.push (seqObj "list" vs.toArray 0)).get? s1.heap.objs.size = some (seqObj "list" vs.toArray 0) := Heap.get?_push_size _ rfl
  refine wpAny_bind (wpAny_holding (wpAny_call_entry slot_list_sort ⟨_, hoL, rfl⟩ entry_list_sort (SrtO.list_sort_ord SrtO.swo_int hoL hzz (fun h2 => SrtO.ints_sortable hI h2) fun out a1 a2 => ⟨_, rfl, ?_⟩) (args_list_sort _)))
  obtain ⟨b1, b2, b3⟩ := SrtO.ints_out hI a1 a2
  obtain ⟨c, hc⟩ := sortedHeap_at (vs := vs) (out := out.toArray) hoL
  have pn : (out.map SrtO.iv).Perm (es.toList.map keyOf) := b2.trans pk
  refine wpAny_pure ⟨_, rfl, hQ _ s1.heap.objs.size out c _ (fun b u e => ?_) g1 o1 hz hc b1 (lt_of_le_nodup _ b3 (pn.nodup_iff.mpr nd)) (fun k => by rw [pn.mem_iff, ← hm k]) ?_⟩
  · have q := k1 b u e
    have hlt := Heap.lt_size q
    show (sortedHeap (s1.heap.push (seqObj "list" vs.toArray 0)) s1.heap.objs.size vs out.toArray).get? b = some u
    rw [sortedHeap_old (Nat.ne_of_lt hlt) (by rw [size_push']; exact Nat.lt_succ_of_lt hlt)]
    exact Heap.get?_push_of_some _ q
  · rw [pn.length_eq, List.length_map, Array.length_toList]; exact hn
end
section
variable {X : Cx}
def rSetI (K : PySem.W.Frag) (w : World) : List V → Hp → VK → Prop := fun vs H Q => ∃ (a : Addr) (ns : List Int), vs = [.ref a] ∧ SqL K H a (ns.map V.int) ∧ ns.length + 1 < scanBound ∧ ∀ p c, H p = none → c ≤ ns.length → Q (.ref p) (upd H p (SetO w p (fun j => decide (j ∈ ns)) c))
theorem setI (K : PySem.W.Frag) (w : World) (hc : X.calm = true) (h : X.K = K := by rfl) (h2 : X.w = w := by rfl) : CallR X (.type "set") (rSetI K w) := by
  subst h h2
  intro pins s σ H vs us Q I r h
  obtain ⟨a, ns, rfl, hs, hb, q⟩ := h
  obtain ⟨its, rv, hl, hz⟩ := I.list hs
  rw [Vals.ref1 r]
  have hi := ints_of_vals rv
  refine setOf_list (items := its.toArray) ns (I.ok.hd hc) hl.isList hi hb fun h' tk c hS hcl hk => ?_
  have hn : H s.heap.objs.size = none := I.hok.fresh (Nat.le_refl _)
  exact ⟨.ref _, upd H s.heap.objs.size (SetO X.w s.heap.objs.size (fun j => decide (j ∈ ns)) c), I.laid (t' := tk) hk (Nat.le_refl _) (setO_new hS), rfl, q _ c hn hcl⟩
def rSortedA (w : World) : List V → Hp → VK → Prop := fun vs H Q => ∃ (a : Addr) (S : Int → Bool) (n : Nat), vs = [V.ref a] ∧ H a = some (SetO w a S n) ∧ n ≤ 1000000 ∧
  ∀ (ns : List Int) (p : Addr), ns.Pairwise (· < ·) → (∀ k : Int, k ∈ ns ↔ S k = true) → ns.length = n → H p = none → Q (.ref p) (upd H p (.lst (ns.map V.int)))
theorem sortedA (w : World) (hc : X.calm = true) (h2 : X.w = w := by rfl) : CallR X (.builtin "sorted") (rSortedA w) := by
  subst h2
  intro pins s σ H vs us Q I r h
  obtain ⟨a, S, n, rfl, ha, h64, q⟩ := h
  have R := setO_get I ha
  rw [Vals.ref1 r]
  refine sorted_any R (I.ok.hd hc) fun s' p out c ns k g o hp hg hi hs hm hl => ?_
  have hlen : (ns.map V.int).length ≤ sizeLine := by
    rw [List.length_map, hl]
    exact Nat.le_of_lt (sizeOk h64)
  have hn : H p = none := I.hok.fresh hp
  have J : Inv X pins σ (upd H p (.lst (ns.map V.int))) { s with heap := s'.heap, gens := s'.gens, drawn := s'.drawn, toks := s'.toks } :=
    I.call (ch := []) (Un.laid k hp hn) (I.hok.laid k hp ⟨hlen, out, c, vals_of_ints hi, hg⟩) (by rw [g]; exact I.bare) (fun _ z => nomatch z)
  have e : s' = { s with heap := s'.heap, gens := s'.gens, drawn := s'.drawn, toks := s'.toks } := by
    cases s'
    cases s
    cases o
    rfl
  rw [e]
  exact ⟨.ref p, _, J, rfl, q ns p hs hm hl hn⟩
end
end Sg
/-! Signsets: data of several sets, of kinds, of texts of 0 and 1; deep membership. -/
namespace Sg
open PySem PySem.Spec PyProof.Rows L2
/-- several sets; lists of ints; texts -/
def eRs (L : List (List (Int × Int))) : PyData := .list (L.map eR)
def eIs (L : List (List Int)) : PyData := .list (L.map eI)
def eB (b : List Bool) : PyData := .tuple (b.map PyData.bool)
def eBs (L : List (List Bool)) : PyData := .list (L.map eB)
def eT (L : List Str) : PyData := .list (L.map PyData.str)
theorem Sh.str {n : Nat} {i : Str} (h : PyData.strOk i = true) : Sh n (.str i) := ⟨by simp [PyData.canLay0, h], by simp [PyData.depth]⟩
theorem Sh.eB {n : Nat} (b : List Bool) : Sh (n + 1) (eB b) := Sh.tuple fun d hd => by
  obtain ⟨r, _, rfl⟩ := List.mem_map.mp hd
  exact Sh.bool r
theorem Sh.eBs {n : Nat} (L : List (List Bool)) : Sh (n + 2) (eBs L) := Sh.list fun d hd => by
  obtain ⟨r, _, rfl⟩ := List.mem_map.mp hd
  exact Sh.eB r
theorem Sh.eRs {n : Nat} (L : List (List (Int × Int))) : Sh (n + 3) (eRs L) := Sh.list fun d hd => by
  obtain ⟨r, _, rfl⟩ := List.mem_map.mp hd
  exact Sh.eR r
theorem Al.eIs {n : Nat} {L : List (List Int)} (h : L.length ≤ 100000) (h2 : ∀ l ∈ L, l.length ≤ 100000) : Al (n + 2) (eIs L) := ⟨by rw [List.length_map]; exact h, fun d hd => by
  obtain ⟨r, hr, rfl⟩ := List.mem_map.mp hd
  exact Al.eI (h2 r hr)⟩
theorem Al.eRs {n : Nat} {L : List (List (Int × Int))} (h : L.length ≤ 100000) (h2 : ∀ l ∈ L, l.length ≤ 100000) : Al (n + 3) (eRs L) := ⟨by rw [List.length_map]; exact h, fun d hd => by
  obtain ⟨r, hr, rfl⟩ := List.mem_map.mp hd
  exact Al.eR (h2 r hr)⟩
theorem eqv_bools : ∀ (a b : List Bool), PyData.eqvAll (a.map PyData.bool) (b.map PyData.bool) = decide (a = b)
  | [], [] => by simp [PyData.eqvAll]
  | [], _ :: _ => by simp [PyData.eqvAll]
  | _ :: _, [] => by simp [PyData.eqvAll]
  | x :: a, y :: b => by
    have ih := eqv_bools a b
    simp only [List.map_cons, PyData.eqvAll, PyData.eqv, ih]
    cases x <;> cases y <;> by_cases h2 : a = b <;> simp [h2]
theorem eqv_eB (a b : List Bool) : PyData.eqv (eB a) (eB b) = decide (a = b) := by
  unfold eB
  rw [PyData.eqv, eqv_bools]
theorem any_eB (b : List Bool) : ∀ L : List (List Bool), ((L.map eB).any fun z => PyData.eqv z (eB b)) = decide (b ∈ L)
  | [] => rfl
  | a :: L => by
    rw [List.map_cons, List.any_cons, any_eB b L, eqv_eB]
    by_cases h : a = b
    · simp [h]
    · by_cases h2 : b ∈ L
      · simp [h2]
      · simp [h, h2]
        exact fun z => h z.symm
theorem eqv_sets (a b : List (List (Int × Int))) : PyData.eqv (eRs a) (eRs a) = true := SeqAt.eqv_refl _ (Sh.eRs (n := 0) a).1
theorem dpAll_strs {K : PySem.W.Frag} {H : Hp} : ∀ {vs : List V} {bs : List Str}, DpAll K H vs (bs.map PyData.str) → vs = bs.map V.str
  | _, [], .nil => rfl
  | _, n :: ns, .cons h a => by
    rw [dp_str h, dpAll_strs a]
    rfl
theorem dnAll_strs {F : Hp} : ∀ ns : List Str, DnAll F (ns.map V.str) (ns.map PyData.str)
  | [] => .nil
  | n :: ns => .cons (.str n) (dnAll_strs ns)
theorem dnAll_bools {F : Hp} : ∀ ns : List Bool, DnAll F (ns.map V.bl) (ns.map PyData.bool)
  | [] => .nil
  | n :: ns => .cons (.bl n) (dnAll_bools ns)
theorem LB.strs {H0 H : Hp} {o : Addr} {ns : List Str} (h : LB H0 H o (ns.map PyData.str)) : H o = some (.lst (ns.map V.str)) := by
  obtain ⟨h0, xs, h1, h2⟩ := h
  have e := dpAll_strs (K := []) h2.dp
  rw [e] at h1
  exact h1
theorem LB.bools {H0 H : Hp} {o : Addr} {ns : List Bool} (h : LB H0 H o (ns.map PyData.bool)) : H o = some (.lst (ns.map V.bl)) := by
  obtain ⟨h0, xs, h1, h2⟩ := h
  have e := dpAll_bools (K := []) h2.dp
  rw [e] at h1
  exact h1
theorem flat_strs (ns : List Str) : (ns.map V.str).all flatV = true := by
  rw [List.all_eq_true]
  intro x hx
  obtain ⟨n, _, rfl⟩ := List.mem_map.mp hx
  rfl
theorem eqV_str (a b : Str) : eqV (.str a) (.str b) = decide (a = b) := by
  show (a == b) = _
  by_cases h : a = b <;> simp [h]
theorem inV_strs (k : Str) : ∀ ns : List Str, inV (.str k) (ns.map V.str) = decide (k ∈ ns)
  | [] => rfl
  | n :: ns => by
    have ih := inV_strs k ns
    unfold inV at ih ⊢
    rw [List.map_cons, List.any_cons, ih, eqV_str]
    by_cases h : n = k
    · simp [h]
    · by_cases h2 : k ∈ ns
      · simp [h2]
      · simp [h, h2]
        exact fun z => h z.symm
/-- the first place of a text in a list of texts -/
theorem rIndex_strs {K : PySem.W.Frag} {H : Hp} {Q : VK} {a : Addr} {ts : List Str} {x : Str} (hs : SqL K H a (ts.map V.str)) (hx : x ∈ ts) (q : Q (.int (pl x ts : Nat)) H) : rIndex K (.ref a) [.str x] H Q := by
  refine ⟨a, _, .str x, pl x ts, .str x, rfl, rfl, hs, rfl, flat_strs ts, ?_, by rw [eqV_str]; exact decide_eq_true rfl, fun m z' hm hz => ?_, q⟩
  · rw [List.getElem?_map, pl_get hx]
    rfl
  · obtain ⟨z, hz', rfl⟩ := map_get hz
    rw [eqV_str]
    exact decide_eq_false (pl_ahead hm hz')
/-- pairs of new data -/
theorem newV_pair {H H' : Hp} {v : V} {d e : PyData} (h : NewV H H' v (.tuple [d, e])) : ∃ p x y, v = .ref p ∧ H p = none ∧ H' p = some (.tup [x, y]) ∧ NewV H H' x d ∧ NewV H H' y e := by
  cases h with
  | tup h a =>
    cases a with
    | cons a1 a =>
      cases a with
      | cons a2 a =>
        cases a
        exact ⟨_, _, _, rfl, (fr_some h).1, (fr_some h).2, a1, a2⟩
section
variable {X : Cx}
theorem inDK (K : PySem.W.Frag) (hu : X.A.units + 65 < cLine) (h : X.K = K := by rfl) : OpR X (compareOp .In) (rInD K) := by subst h; exact op_inD hu
theorem notInDK (K : PySem.W.Frag) (hu : X.A.units + 65 < cLine) (h : X.K = K := by rfl) : OpR X (compareOp .NotIn) (rNotInD K) := by subst h; exact op_notInD hu
theorem indexDK (K : PySem.W.Frag) (hu : X.A.units + 65 < cLine) (h : X.K = K := by rfl) : MtR X "list.index" (rIndexD K) := by subst h; exact mt_indexD hu
end
theorem hu65 {k : Nat} {A : Around} (r : Room k A) : A.units + 65 < cLine := by have := r.un; omega
theorem upTo_pre {i n : Nat} (h : i ≤ n) : ∃ r, upTo n = upTo i ++ r := by
  obtain ⟨m, rfl⟩ : ∃ m, n = i + m := ⟨n - i, by omega⟩
  clear h
  induction m with
  | zero => exact ⟨[], by simp⟩
  | succ m ih =>
    obtain ⟨r, e⟩ := ih
    exact ⟨r ++ [((i + m : Nat) : Int)], by rw [← Nat.add_assoc, upTo_succ, e, List.append_assoc]⟩
theorem kinds_pre {i n : Nat} (SS : List (List (Int × Int))) (h : i ≤ n) : ∃ r, kinds n SS = uniq ((upTo i).map (kindOf SS)) ++ r := by
  obtain ⟨r, e⟩ := upTo_pre h
  unfold kinds
  rw [e, List.map_append]
  exact uniq_pre _ _
end Sg
namespace Sg
open PySem PySem.Spec PyProof.Rows L2
theorem list_fm {α : Type} (l : List α) (g : α → Option PyData) : (List.range l.length).filterMap (fun (i : Nat) => (l[i]?).bind g) = l.filterMap g := by
  have h : ∀ m, m ≤ l.length → (List.range m).filterMap (fun (i : Nat) => (l[i]?).bind g) = (l.take m).filterMap g := by
    intro m
    induction m with
    | zero => intro _; rfl
    | succ m ih =>
      intro hm
      have hlt : m < l.length := hm
      have e : l[m]? = some l[m] := List.getElem?_eq_getElem hlt
      rw [List.range_succ, List.filterMap_append, ih (Nat.le_of_succ_le hm), List.take_add_one, e, List.filterMap_append]
      congr 1
      rw [List.filterMap_cons, e, Option.bind_some]
      cases h : g l[m] <;> simp [h]
  rw [h _ (Nat.le_refl _), List.take_length]
end Sg
/-! Signsets: texts of 0 and 1; comprehensions whose items need not be new. -/
namespace Sg
open PySem PySem.Spec PyProof.Rows L2
def bitN (b : Bool) : Nat := if b then 49 else 48
theorem bitN_inj {a b : Bool} (h : bitN a = bitN b) : a = b := by
  cases a <;> cases b <;> first | rfl | (exact absurd h (by decide))
/-- a text of 0 and 1 -/
def kt (b : List Bool) : Str := SX.S (b.map bitN)
theorem kt_inj {a b : List Bool} (h : kt a = kt b) : a = b := by
  have e := SX.S_inj h
  clear h
  induction a generalizing b with
  | nil => cases b with
    | nil => rfl
    | cons y b => cases e
  | cons x a ih => cases b with
    | nil => cases e
    | cons y b =>
      rw [List.map_cons, List.map_cons] at e
      injection e with e1 e2
      rw [bitN_inj e1, ih e2]
theorem kt_len (b : List Bool) : (kt b).length = b.length := by
  unfold kt
  rw [SX.S_len, List.length_map]
theorem joinL_nil : ∀ l : List (List Nat), TL.joinL [] l = l.flatten
  | [] => rfl
  | [p] => by simp [TL.joinL]
  | p :: q :: r => by
    show p ++ ([] ++ TL.joinL [] (q :: r)) = _
    rw [joinL_nil (q :: r)]
    simp
theorem kt_join (b : List Bool) : Txt.join (Str.ofString "") (b.map fun x => SX.S [bitN x]) = kt b := by
  have e : (b.map fun x => SX.S [bitN x]) = (b.map fun x => [bitN x]).map SX.S := by rw [List.map_map]; rfl
  have e0 : Str.ofString "" = SX.S [] := by decide +kernel
  rw [e, e0, SX.join_S, joinL_nil]
  unfold kt
  congr 1
  clear e
  induction b with
  | nil => rfl
  | cons x b ih =>
    rw [List.map_cons, List.flatten_cons, ih]
    rfl
theorem kt_sum (b : List Bool) : ((b.map fun x => SX.S [bitN x]).map (·.length)).sum = b.length := by
  induction b with
  | nil => rfl
  | cons x b ih =>
    rw [List.map_cons, List.map_cons, List.sum_cons, ih, SX.S_len]
    simp
    omega
theorem kt_at {b : List Bool} {i : Nat} {x : Bool} (h : b[i]? = some x) : atI (kt b).cps.toList (i : Int) = some (bitN x) := by
  refine atI_nat ?_
  show (b.map bitN)[i]? = _
  rw [List.getElem?_map, h]
  rfl
theorem one_eq (x : Bool) : decide (V.str ⟨#[bitN x]⟩ = V.str (Str.ofString "1")) = x := by
  cases x <;> decide +kernel
/-- a comprehension over a list whose items need not be new -/
theorem lcD_list {K : PySem.W.Frag} {a : Addr} {xs : List V} {g : TG} {tt : TT} {te : TE} {vs : List Nat} {σ : L2.St} {H1 : Hp} {D : Addr} {Qd : Hp → Prop} (f : Nat → Option PyData) (hS : SqL K H1 a xs) (hD : H1 D = none) (hn : xs.length ≤ 1000000)
    (hs : ∀ (i : Nat) (x : V) (H : Hp) (N1 : V → Hp → Prop) (N0 : Hp → Prop), xs[i]? = some x → Same H1 H → (∃ acc, H D = some (.lst acc)) → (∀ y H4 e, Same H H4 → f i = some e → Dp K (del H4 D) y e → N1 y H4) → (∀ H3, Same H H3 → f i = none → N0 H3) →
      g x (wipe σ vs) H fun σ2 H2 => wipe σ2 vs = wipe σ vs ∧ tt σ2 H2 fun b H3 => if b = true then te σ2 H3 N1 else N0 H3)
    (hd : ∀ H ys, Same H1 H → H D = some (.lst ys) → DpAll K (del H D) ys ((List.range xs.length).filterMap f) → Qd H) :
    ∃ W : Nat → Nat → Hp → Prop, (∃ m, W 0 m (upd H1 D (.lst []))) ∧ ∀ i m H, W i m H →
      ((Itl K a).stop i H ∧ Qd H) ∨ ((Itl K a).go i H ∧ ∃ Nx : Hp → Prop, (∀ H', Nx H' → ∃ m', m' < m ∧ W (i + 1) m' H') ∧ ∀ x H', (Itl K a).yld i H x H' → g x (wipe σ vs) H' fun σ2 H2 => wipe σ2 vs = wipe σ vs ∧ tt σ2 H2 fun b H3 =>
        if b = true then te σ2 H3 fun y H4 => ∃ acc, H4 D = some (.lst acc) ∧ acc.length < sizeLine ∧ Nx (upd H4 D (.lst (acc ++ [y]))) else Nx H3) := by
  refine lc_list (xs := xs) (fun i H => Same H1 H ∧ ∃ ys, H D = some (.lst ys) ∧ DpAll K (del H D) ys ((List.range i).filterMap f)) ⟨same_new hD, [], upd_same, .nil⟩ (fun i H _ q => q.1.seq hS) (fun i x H hx q => ?_) fun H q => ?_
  · obtain ⟨sm, ys, hy, ha⟩ := q
    have hi : i < xs.length := (List.getElem?_eq_some_iff.mp hx).1
    have hl : ys.length ≤ i := by
      rw [dpAll_len ha]
      exact Nat.le_trans (List.length_filterMap_le _ _) (by rw [List.length_range]; exact Nat.le_refl _)
    refine hs i x H _ _ hx sm ⟨_, hy⟩ (fun y H4 e s fe dy => ⟨ys, s _ _ hy, sizeOk (by omega), same_upd (sm.trans s) hD, ys ++ [y], upd_same, ?_⟩) (fun H3 s fe => ⟨sm.trans s, ys, s _ _ hy, ?_⟩)
    · rw [filterMap_succ fe, del_upd_self]
      exact dpAll_app (same_dpAll (del_mono s) ha) (.cons dy .nil)
    · rw [filterMap_succ0 fe]
      exact same_dpAll (del_mono s) ha
  · obtain ⟨sm, ys, hy, ha⟩ := q
    exact hd H ys sm hy ha
section
variable {X : Cx} {T : String} {name : Str} {id : String} {r : V → List V → Hp → VK → Prop} {o e : Expr} {es : List Expr} {to te : TE} {t : TA} {apos cpos : Pos}
theorem pe_bmK (K : PySem.W.Frag) (pa : PlainAttrs T) (slot : Slot T name id) (hty : typeOf (.builtin id) = pure (.type "method_descriptor")) (hm : MtR X id r) (ho : PE X o to) (ha : PA X (e :: es) t) (h : X.K = K := by rfl)
    (hbase : attributeBase o name X.env (eval o X.env) = eval o X.env := by rfl)
    (hfew : ((backTo cpos (starEach (e :: es) X.env)).all (fun x => !x.1) && (backToKw cpos (keywordEach [] X.env)).all (fun x => x.1.isSome) && decide ((e :: es).length + ([] : List Keyword).length + (if ([] : List Keyword).isEmpty then 0 else 1) < 30)) = true := by rfl)
    (hline : (apos.endLine == cpos.line) = true := by rfl) (hs : starEach (e :: es) X.env = (false, eval e X.env) :: starEach es X.env := by rfl) (hplain : (backTo cpos (starEach es X.env)).any (·.1) = false := by rfl) :
    PE X (.Call (.Attribute o name apos) (e :: es) [] cpos) (tBM K T r to t) := by
  subst h
  exact pe_bm pa slot hty hm ho ha hbase hfew hline hs hplain
end
theorem same_del {G H : Hp} {d : Addr} (s : Same G H) (n : G d = none) : Same G (del H d) := fun b o e => by
  rw [del_ne (ne_of_none e n)]
  exact s _ _ e
end Sg
/-! Signsets: rules for tables: a sign many times, ranges by steps, stretches of a text. -/
namespace Sg
open PySem PySem.Spec PyProof.Rows L2
theorem fold_rep (c : Nat) : ∀ (k : Nat) (b : Array Nat), ((List.replicate k (#[c] : Array Nat)).foldl (· ++ ·) b).toList = b.toList ++ List.replicate k c
  | 0, b => by simp
  | k + 1, b => by
    rw [List.replicate_succ, List.foldl_cons, fold_rep c k, List.replicate_succ, Array.toList_append]
    simp
/-- a text of one sign, k times -/
def rRepS : R2 := fun x y H Q => ∃ c k : Nat, x = .str (SX.S [c]) ∧ y = .int (k : Int) ∧ 1 ≤ k ∧ k ≤ 1000 ∧ Q (.str (SX.S (List.replicate k c))) H
theorem op_rep_str {X : Cx} : OpR X (binaryOp .Mult) rRepS := by
  intro pins s σ H x y v u Q I rx ry h
  obtain ⟨c, k, rfl, rfl, h1, h2, q⟩ := h
  obtain ⟨t, rfl⟩ := rx
  obtain ⟨t', rfl⟩ := ry
  have hl : (SX.S [c]).length = 1 := SX.S_len [c]
  refine PySem.P.mul_str ?_ ?_ ?_ ?_
  · rw [decide_eq_false (show ¬ (k : Int) < -(2 ^ 63 : Int) by omega), decide_eq_false (show ¬ (k : Int) ≥ 2 ^ 63 by omega)]
    rfl
  · intro _ _
    rw [hl]
    have : (1 : Int) ≤ (2 ^ 63 - 1) / (k : Int) := Int.le_ediv_of_mul_le (by omega) (by omega)
    omega
  · intro _ _
    unfold Builtin.Str.tooLong
    rw [hl, Int.toNat_natCast, Nat.one_mul]
    exact decide_eq_false (by have := sizeOk (n := k) (by omega); omega)
  · rw [if_neg (by omega)]
    by_cases e : k = 1
    · subst e
      rw [if_pos (by simp)]
      exact ⟨.str _, H, I, ⟨_, rfl⟩, q⟩
    · rw [if_neg (by rw [hl]; simp; omega)]
      have ez : (⟨(List.replicate (k : Int).toNat (SX.S [c]).cps).foldl (· ++ ·) #[]⟩ : Str) = SX.S (List.replicate k c) := by
        refine TL.ext_tl ?_
        show ((List.replicate (k : Int).toNat (#[c] : Array Nat)).foldl (· ++ ·) #[]).toList = List.replicate k c
        rw [Int.toNat_natCast, fold_rep]
        rfl
      rw [ez]
      exact ⟨by rw [SX.S_len, List.length_replicate]; exact Nat.le_of_lt (sizeOk (by omega)), ⟨.str _, H, I.tok _, ⟨_, rfl⟩, q⟩⟩
theorem rgC_up {n w : Nat} (hw : 1 ≤ w) (hw2 : w ≤ 1000) (hn : n ≤ 1000) : RgC 0 (n : Int) (w : Int) (cnt n w) := by
  have e : Builtin.Range.rangeSize 0 (n : Int) (w : Int) = ((cnt n w : Nat) : Int) := by
    rw [rangeSize_pos (by omega) (by omega)]
    unfold cnt
    rw [Int.natCast_ediv]
    congr 1
    omega
  have hc := cnt_le (n := n) hw
  refine ⟨by omega, by omega, ?_, e⟩
  unfold Builtin.Range.small
  rw [e]
  simp only [Builtin.Range.rangeFitsLong, Bool.and_eq_true, Bool.or_eq_true, decide_eq_true_eq, beq_iff_eq]
  rw [if_pos (by omega)]
  simp only [Bool.and_eq_true, decide_eq_true_eq]
  omega
/-- a comprehension over a range by steps, of new data -/
theorem lcN_rangeC {lo c : Int} {n : Nat} {g : TG} {tt : TT} {te : TE} {vs : List Nat} {σ : L2.St} {H1 : Hp} {D : Addr} {Qd : Hp → Prop} (f : Nat → Option PyData) (hD : H1 D = none) (hn : n ≤ 1000000)
    (hs : ∀ (i : Nat) (H : Hp) (N1 : V → Hp → Prop) (N0 : Hp → Prop), i < n → Same H1 H → (∀ y H4 e, Same H H4 → f i = some e → NewV H H4 y e → N1 y H4) → (∀ H3, Same H H3 → f i = none → N0 H3) →
      g (.int (lo + (i : Nat) * c)) (wipe σ vs) H fun σ2 H2 => wipe σ2 vs = wipe σ vs ∧ tt σ2 H2 fun b H3 => if b = true then te σ2 H3 N1 else N0 H3)
    (hd : ∀ H, Same H1 H → LB H1 H D ((List.range n).filterMap f) → Qd H) :
    ∃ W : Nat → Nat → Hp → Prop, (∃ m, W 0 m (upd H1 D (.lst []))) ∧ ∀ i m H, W i m H →
      ((Itc lo c n).stop i H ∧ Qd H) ∨ ((Itc lo c n).go i H ∧ ∃ Nx : Hp → Prop, (∀ H', Nx H' → ∃ m', m' < m ∧ W (i + 1) m' H') ∧ ∀ x H', (Itc lo c n).yld i H x H' → g x (wipe σ vs) H' fun σ2 H2 => wipe σ2 vs = wipe σ vs ∧ tt σ2 H2 fun b H3 =>
        if b = true then te σ2 H3 fun y H4 => ∃ acc, H4 D = some (.lst acc) ∧ acc.length < sizeLine ∧ Nx (upd H4 D (.lst (acc ++ [y]))) else Nx H3) := by
  refine ⟨fun i m H => m = n - i ∧ i ≤ n ∧ (Same H1 H ∧ LB H1 H D ((List.range i).filterMap f)), ⟨n, by simp, Nat.zero_le _, same_new hD, LB.nil hD⟩, fun i m H hW => ?_⟩
  obtain ⟨rfl, hi, sm, lb⟩ := hW
  by_cases h : i < n
  · obtain ⟨k1, k0⟩ := lcN_step hn h sm lb
    refine .inr ⟨h, fun H' => Same H1 H' ∧ LB H1 H' D ((List.range (i + 1)).filterMap f), fun H' p => ⟨n - (i + 1), by omega, rfl, h, p⟩, fun x H' y => ?_⟩
    obtain ⟨rfl, rfl⟩ := y
    exact hs i _ _ _ h sm k1 k0
  · have e : i = n := by omega
    subst e
    exact .inl ⟨Nat.le_refl _, hd H sm lb⟩
/-! ### stretches -/
theorem kt_one (a : List Bool) : kt a ++ Str.ofString "1" = kt (a ++ [true]) := by
  have e : Str.ofString "1" = SX.S [49] := by decide +kernel
  unfold kt
  rw [e, SX.S_cat, List.map_append]
  rfl
theorem kt_zero (a : List Bool) : kt a ++ Str.ofString "0" = kt (a ++ [false]) := by
  have e : Str.ofString "0" = SX.S [48] := by decide +kernel
  unfold kt
  rw [e, SX.S_cat, List.map_append]
  rfl
theorem kt_rep (a : List Bool) (k : Nat) : kt a ++ SX.S (List.replicate k 48) = kt (a ++ List.replicate k false) := by
  unfold kt
  rw [SX.S_cat, List.map_append, List.map_replicate]
  rfl
theorem cutS_kt {b : List Bool} {f w : Nat} (h : f + w ≤ b.length) : cutS (kt b) (some (f : Int)) (some ((f : Int) + (w : Int))) = kt ((b.drop f).take w) := by
  have e : ((f : Int) + (w : Int)) = ((f + w : Nat) : Int) := by omega
  unfold cutS
  rw [e, HT.sIx_nat, HT.sIx_nat, kt_len, Nat.min_eq_left h, Nat.min_eq_left (show f ≤ b.length by omega)]
  show SX.S (((b.map bitN).drop f).take (f + w - f)) = SX.S (((b.drop f).take w).map bitN)
  rw [List.map_take, List.map_drop, show f + w - f = w by omega]
theorem stretch {n : Nat} {R : List (Int × Int)} {f w : Nat} (hf : f < n) : ((((List.range n).map fun (k : Nat) => has R (k : Int)) ++ List.replicate w false).drop f).take w = rowP n R f w := by
  refine List.ext_getElem? fun j => ?_
  by_cases hj : j < w
  · rw [rowP_get hj, List.getElem?_take_of_lt hj, List.getElem?_drop]
    unfold bitT
    by_cases h : f + j < n
    · rw [List.getElem?_append_left (by rw [List.length_map, List.length_range]; exact h), List.getElem?_map, List.getElem?_range h, decide_eq_true h]
      rfl
    · rw [List.getElem?_append_right (by rw [List.length_map, List.length_range]; omega), List.length_map, List.length_range, List.getElem?_replicate, if_pos (by omega), decide_eq_false h]
      rfl
  · rw [List.getElem?_eq_none (by rw [List.length_take]; omega), List.getElem?_eq_none (by rw [rowP_len]; omega)]
theorem mem_kt {r : List Bool} {L : List (List Bool)} : kt r ∈ L.map kt ↔ r ∈ L := by
  rw [List.mem_map]
  exact ⟨fun ⟨a, ha, e⟩ => kt_inj e ▸ ha, fun h => ⟨r, h, rfl⟩⟩
theorem dec_kt (r : List Bool) (L : List (List Bool)) : decide (kt r ∈ L.map kt) = decide (r ∈ L) := by
  by_cases h : r ∈ L
  · rw [decide_eq_true h, decide_eq_true (mem_kt.mpr h)]
  · rw [decide_eq_false h, decide_eq_false fun z => h (mem_kt.mp z)]
theorem sb_upd {d o : Addr} {G G' : Hp} {x : HO} (h : SameBut d G G') (n : G o = none) : SameBut d G (upd G' o x) := fun b u nb e => by
  rw [upd_ne (ne_of_none e n)]
  exact h b u nb e
theorem sb_upd_d {d : Addr} {G G' : Hp} {x : HO} (h : SameBut d G G') : SameBut d G (upd G' d x) := fun b u nb e => by
  rw [upd_ne nb]
  exact h b u nb e
/-- a table, as data -/
def eTab (n w : Nat) (SS : List (List (Int × Int))) : PyData := .tuple [eIs (firstsT n w SS), eT ((rowsT n w SS).map kt)]
theorem al_tab {n w : Nat} {SS : List (List (Int × Int))} (hw : 1 ≤ w) (hn : n ≤ 64) (hS : SS.length ≤ 1000) : Al 5 (eTab n w SS) := by
  have hc := cnt_le (n := n) hw
  have hm : SS.length * cnt n w ≤ 1000 * 64 := Nat.mul_le_mul hS (by omega)
  refine ⟨by show 2 ≤ 100000; decide, fun d hd => ?_⟩
  simp only [List.mem_cons, List.not_mem_nil, or_false] at hd
  rcases hd with rfl | rfl
  · refine Al.eIs (by unfold firstsT; rw [List.length_map]; omega) fun l hl => ?_
    obtain ⟨R, _, rfl⟩ := List.mem_map.mp hl
    rw [List.length_map, rowsR_len]
    omega
  · refine ⟨by rw [List.length_map, List.length_map]; exact Nat.le_trans (rowsT_len n w SS) (by omega), fun d hd => ?_⟩
    obtain ⟨r, _, rfl⟩ := List.mem_map.mp hd
    exact Al.str r
theorem cast_div (k w : Nat) : (k : Int) / (w : Int) = ((k / w : Nat) : Int) := (Int.natCast_ediv k w).symm
theorem cast_mod (k w : Nat) : (k : Int) % (w : Int) = ((k % w : Nat) : Int) := (Int.natCast_emod k w).symm
end Sg
/-! Signsets: the least of some data, and data compared. -/
namespace Sg
open PySem PySem.Spec PyProof.Rows L2
theorem vals_at : ∀ {xs : List V} {us : List Value} {i : Nat} {u : Value}, Vals xs us → us[i]? = some u → ∃ x, xs[i]? = some x ∧ RelV x u := fun {xs us i u} r h => by
  have hl := r.length
  have hi : i < xs.length := by
    have := (List.getElem?_eq_some_iff.mp h).1
    omega
  obtain ⟨u', h1, h2⟩ := r.get (List.getElem?_eq_getElem hi)
  rw [h] at h1
  obtain rfl := Option.some.inj h1
  exact ⟨_, List.getElem?_eq_getElem hi, h2⟩
/-- min(xs), items alike -/
def rMinD (K : PySem.W.Frag) : List V → Hp → VK → Prop := fun vs H Q => ∃ (a : Addr) (xs : List V) (x : PyData) (ds : List PyData), vs = [.ref a] ∧ SqL K H a xs ∧ DpAll K H xs (x :: ds) ∧ PySem.W.AlikeAll (x :: ds) ∧ PyData.canLayAll0 (x :: ds) = true ∧ PyData.depthAll (x :: ds) ≤ 60 ∧
  ∀ (i : Nat) (y : V), xs[i]? = some y → (x :: ds)[i]? = some (PySem.W.minD x ds) → Q y H
theorem minDK {X : Cx} (K : PySem.W.Frag) (hc : X.calm = true) (hu : X.A.units + 65 < cLine) (h : X.K = K := by rfl) : CallR X (.builtin "min") (rMinD K) := by
  subst h
  intro pins s σ H vs us Q I r h
  obtain ⟨a, xs, x, ds, rfl, hs, hA, hal, hcl, hdp, q⟩ := h
  obtain ⟨its, rv, hl, hz⟩ := I.list hs
  rw [Vals.ref1 r]
  obtain ⟨as, h4⟩ := Dp.readsAll I (x :: ds) _ its hA rv
  refine PySem.W.min_list_data (vs := its.toArray) (I.ok.hd hc) hl.isList h4 hal (by omega) fun i v h' tk bs hv hr hk => ?_
  have hv' : its[i]? = some v := by simpa using hv
  obtain ⟨y, hy, ry⟩ := vals_at rv hv'
  obtain ⟨d, hd, hdy⟩ := dpAll_get hA hy
  obtain ⟨bs', r'⟩ := Dp.reads I d y v hdy ry
  have hm : ∀ z ∈ (x :: ds), z.canLay0 = true := fun z hz => by
    have : ∀ (l : List PyData), PyData.canLayAll0 l = true → ∀ z ∈ l, z.canLay0 = true := by
      intro l
      induction l with
      | nil => intro _ z hz; simp at hz
      | cons w l ih =>
        intro h z hz
        rw [PyData.canLayAll0, Bool.and_eq_true] at h
        rcases List.mem_cons.mp hz with rfl | hz
        · exact h.1
        · exact ih h.2 z hz
    exact this _ hcl z hz
  have e1 := SeqAt.readOf_eq (hm d (List.mem_of_getElem? hd)) (Reads.keeps hk r')
  have hmin : PySem.W.minD x ds ∈ (x :: ds) := by
    have : ∀ (l : List PyData) (z : PyData), PySem.W.minD z l ∈ (z :: l) := by
      intro l
      induction l with
      | nil => intro z; exact List.mem_singleton.mpr rfl
      | cons w l ih =>
        intro z
        show PySem.W.minD (if PySem.W.dataLt w z then w else z) l ∈ _
        have := ih (if PySem.W.dataLt w z then w else z)
        rcases List.mem_cons.mp this with e | e
        · rw [e]
          split <;> simp
        · simp [e]
    exact this ds x
  have e2 := SeqAt.readOf_eq (hm _ hmin) hr
  rw [e1] at e2
  exact ⟨y, H, I.kept hk, ry, q i y hy (by rw [hd, e2])⟩
/-- d <= e, d < e, alike -/
def rLeD (K : PySem.W.Frag) : R2 := fun x y H Q => ∃ d e, Dp K H x d ∧ Dp K H y e ∧ PySem.W.alike d e = true ∧ d ≠ .none ∧ d.depth ≤ 60 ∧ Q (.bl (!PySem.W.dataLt e d)) H
def rLtD (K : PySem.W.Frag) : R2 := fun x y H Q => ∃ d e, Dp K H x d ∧ Dp K H y e ∧ PySem.W.alike d e = true ∧ d ≠ .none ∧ d.depth ≤ 60 ∧ Q (.bl (PySem.W.dataLt d e)) H
theorem leDK {X : Cx} (K : PySem.W.Frag) (hu : X.A.units + 65 < cLine) (h : X.K = K := by rfl) : OpR X (compareOp .LtE) (rLeD K) := by
  subst h
  intro pins s σ H x y v u Q I rx ry h
  obtain ⟨d, e, hd, he, ha, hn, hp, q⟩ := h
  obtain ⟨as, r1⟩ := Dp.reads I d x v hd rx
  obtain ⟨bs, r2⟩ := Dp.reads I e y u he ry
  exact PySem.W.le_data r1 r2 ha hn (by have := Nat.min_le_left d.depth e.depth; omega) ⟨.bl _, H, I, rfl, q⟩
theorem ltDK {X : Cx} (K : PySem.W.Frag) (hu : X.A.units + 65 < cLine) (h : X.K = K := by rfl) : OpR X (compareOp .Lt) (rLtD K) := by
  subst h
  intro pins s σ H x y v u Q I rx ry h
  obtain ⟨d, e, hd, he, ha, hn, hp, q⟩ := h
  obtain ⟨as, r1⟩ := Dp.reads I d x v hd rx
  obtain ⟨bs, r2⟩ := Dp.reads I e y u he ry
  exact PySem.W.lt_data r1 r2 ha hn (by have := Nat.min_le_left d.depth e.depth; omega) ⟨.bl _, H, I, rfl, q⟩
/-! ### the least of some pairs of ints -/
def ltP (a b : Int × Int) : Prop := a.1 < b.1 ∨ (a.1 = b.1 ∧ a.2 < b.2)
instance (a b : Int × Int) : Decidable (ltP a b) := by unfold ltP; exact inferInstance
def minP (x : Int × Int) (xs : List (Int × Int)) : Int × Int := xs.foldl (fun a y => if ltP y a then y else a) x
theorem minD_eP : ∀ (xs : List (Int × Int)) (x : Int × Int), PySem.W.minD (eP x) (xs.map eP) = eP (minP x xs)
  | [], x => rfl
  | y :: xs, x => by
    show PySem.W.minD (if PySem.W.dataLt (eP y) (eP x) then eP y else eP x) (xs.map eP) = eP (minP (if ltP y x then y else x) xs)
    have e : PySem.W.dataLt (eP y) (eP x) = decide (ltP y x) := by
      unfold eP
      rw [PySem.W.dataLt_ii]
      unfold ltP
      rfl
    rw [e]
    by_cases c : ltP y x
    · rw [if_pos (decide_eq_true c), if_pos c]
      exact minD_eP xs y
    · rw [if_neg (by simpa using c), if_neg c]
      exact minD_eP xs x
theorem minP_mem : ∀ (xs : List (Int × Int)) (x : Int × Int), minP x xs ∈ x :: xs
  | [], x => List.mem_singleton.mpr rfl
  | y :: xs, x => by
    show minP (if ltP y x then y else x) xs ∈ _
    rcases List.mem_cons.mp (minP_mem xs (if ltP y x then y else x)) with e | e
    · rw [e]
      split <;> simp
    · simp [e]
theorem minP_le : ∀ (xs : List (Int × Int)) (x : Int × Int), ∀ z ∈ x :: xs, (minP x xs).1 ≤ z.1
  | [], x, z, hz => by
    obtain rfl := List.mem_singleton.mp hz
    exact Int.le_refl _
  | y :: xs, x, z, hz => by
    show (minP (if ltP y x then y else x) xs).1 ≤ z.1
    have ih := minP_le xs (if ltP y x then y else x)
    have h0 := ih _ (List.mem_cons_self ..)
    have hx : (if ltP y x then y else x).1 ≤ x.1 ∧ (if ltP y x then y else x).1 ≤ y.1 := by
      by_cases c : ltP y x
      · rw [if_pos c]
        unfold ltP at c
        omega
      · rw [if_neg c]
        unfold ltP at c
        omega
    rcases List.mem_cons.mp hz with rfl | hz
    · omega
    · rcases List.mem_cons.mp hz with rfl | hz
      · omega
      · exact ih z (List.mem_cons_of_mem _ hz)
theorem alike_eP (l : List (Int × Int)) : PySem.W.AlikeAll (l.map eP) := by
  refine ⟨fun x hx y hy => ?_, fun x hx => ?_⟩
  · obtain ⟨a, _, rfl⟩ := List.mem_map.mp hx
    obtain ⟨b, _, rfl⟩ := List.mem_map.mp hy
    simp [eP, PySem.W.alike, PySem.W.alikeAll]
  · obtain ⟨a, _, rfl⟩ := List.mem_map.mp hx
    intro z
    cases z
theorem sh_pairs (l : List (Int × Int)) : PyData.canLayAll0 (l.map eP) = true ∧ PyData.depthAll (l.map eP) ≤ 60 := by
  refine ⟨can_all fun d hd => ?_, depth_all fun d hd => ?_⟩
  · obtain ⟨a, _, rfl⟩ := List.mem_map.mp hd
    exact (Sh.eP (n := 0) a).1
  · obtain ⟨a, _, rfl⟩ := List.mem_map.mp hd
    exact Nat.le_trans (Sh.eP (n := 0) a).2 (by decide)
/-- the list of pairs (cells, width) -/
def pairsT (n : Nat) (SS : List (List (Int × Int))) : List (Int × Int) := (List.range n).map fun i => (((cells n (i + 1) SS : Nat) : Int), ((i : Int) + 1))
theorem pairs_cons {n : Nat} (hn : 1 ≤ n) (SS : List (List (Int × Int))) : ∃ x xs, pairsT n SS = x :: xs := by
  cases h : pairsT n SS with
  | nil =>
    have : (pairsT n SS).length = n := by unfold pairsT; rw [List.length_map, List.length_range]
    rw [h] at this
    simp at this
    omega
  | cons x xs => exact ⟨x, xs, rfl⟩
def leastP (n : Nat) (SS : List (List (Int × Int))) : Int × Int := match pairsT n SS with
  | [] => (0, 0)
  | x :: xs => minP x xs
theorem leastP_mem {n : Nat} (hn : 1 ≤ n) (SS : List (List (Int × Int))) : ∃ w : Nat, 1 ≤ w ∧ w ≤ n ∧ leastP n SS = (((cells n w SS : Nat) : Int), (w : Int)) := by
  obtain ⟨x, xs, e⟩ := pairs_cons hn SS
  have hm : leastP n SS ∈ pairsT n SS := by
    unfold leastP
    rw [e]
    exact minP_mem xs x
  obtain ⟨i, hi, h⟩ := List.mem_map.mp hm
  refine ⟨i + 1, by omega, by have := List.mem_range.mp hi; omega, ?_⟩
  rw [← h]
  rfl
theorem leastP_le {n : Nat} (SS : List (List (Int × Int))) {w : Nat} (h1 : 1 ≤ w) (h2 : w ≤ n) : (leastP n SS).1 ≤ ((cells n w SS : Nat) : Int) := by
  obtain ⟨x, xs, e⟩ := pairs_cons (n := n) (by omega) SS
  have hm : (((cells n w SS : Nat) : Int), (w : Int)) ∈ pairsT n SS := by
    refine List.mem_map.mpr ⟨w - 1, List.mem_range.mpr (by omega), ?_⟩
    rw [show w - 1 + 1 = w by omega]
    congr 1
    omega
  unfold leastP
  rw [e] at hm ⊢
  exact minP_le xs x _ hm
/-- sums -/
theorem sum_const {α : Type} (l : List α) (f : α → Int) (c : Nat) (h : ∀ x ∈ l, f x = (c : Int)) : (l.map f).sum = ((l.length * c : Nat) : Int) := by
  induction l with
  | nil => simp
  | cons x l ih =>
    rw [List.map_cons, List.sum_cons, ih fun y hy => h y (List.mem_cons_of_mem _ hy), h x (by simp), List.length_cons, Nat.succ_mul]
    omega
theorem sum_firsts (n w : Nat) (SS : List (List (Int × Int))) : ((firstsT n w SS).map fun l => (l.length : Int)).sum = ((SS.length * cnt n w : Nat) : Int) := by
  rw [sum_const _ _ (cnt n w) fun l hl => ?_]
  · unfold firstsT
    rw [List.length_map]
  · obtain ⟨R, _, rfl⟩ := List.mem_map.mp hl
    rw [List.length_map, rowsR_len]
theorem sum_rows (n w : Nat) (SS : List (List (Int × Int))) : (((rowsT n w SS).map kt).map fun r => (r.length : Int)).sum = (((rowsT n w SS).length * w : Nat) : Int) := by
  rw [sum_const _ _ w fun r hr => ?_]
  · rw [List.length_map]
  · obtain ⟨b, hb, rfl⟩ := List.mem_map.mp hr
    rw [kt_len, rowsT_mem hb]
end Sg
namespace Sg
open PySem PySem.Spec PyProof.Rows L2
def topS (i : Nat) : Stmt := PySem.Challenge.pw_signsets_k09_whole_the_fewest_cells.main.body.getD i (.Pass ⟨0, 0, 0, 0⟩)
abbrev s_need_size : Stmt := topS 8
abbrev n_need_size : List Str := ["size"]
theorem sc_need_size : FnScope n_need_size ["size"] (defScope s_need_size) := ⟨rfl, rfl, rfl, by decide +kernel, rfl, by decide +kernel, by decide +kernel⟩
abbrev s_need_set : Stmt := topS 9
abbrev n_need_set : List Str := ["size", "ranges", "number", "at", "first", "last"]
theorem sc_need_set : FnScope n_need_set ["size", "ranges", "number"] (defScope s_need_set) := ⟨rfl, rfl, rfl, by decide +kernel, rfl, by decide +kernel, by decide +kernel⟩
abbrev s_has : Stmt := topS 10
abbrev n_has : List Str := ["ranges", "number", "pair"]
theorem sc_has : FnScope n_has ["ranges", "number"] (defScope s_has) := ⟨rfl, rfl, rfl, by decide +kernel, rfl, by decide +kernel, by decide +kernel⟩
abbrev s_need_sets : Stmt := topS 12
abbrev n_need_sets : List Str := ["size", "sets", "number", "ranges"]
theorem sc_need_sets : FnScope n_need_sets ["size", "sets"] (defScope s_need_sets) := ⟨rfl, rfl, rfl, by decide +kernel, rfl, by decide +kernel, by decide +kernel⟩
abbrev s_row_of : Stmt := topS 13
abbrev n_row_of : List Str := ["size", "ranges", "first", "wide", "found", "number"]
theorem sc_row_of : FnScope n_row_of ["size", "ranges", "first", "wide"] (defScope s_row_of) := ⟨rfl, rfl, rfl, by decide +kernel, rfl, by decide +kernel, by decide +kernel⟩
abbrev s_made : Stmt := topS 14
abbrev n_made : List Str := ["size", "sets", "wide", "rows", "firsts", "ranges", "numbers", "first", "row"]
theorem sc_made : FnScope n_made ["size", "sets", "wide"] (defScope s_made) := ⟨rfl, rfl, rfl, by decide +kernel, rfl, by decide +kernel, by decide +kernel⟩
abbrev s_table : Stmt := topS 15
abbrev n_table : List Str := ["size", "sets", "wide"]
theorem sc_table : FnScope n_table ["size", "sets", "wide"] (defScope s_table) := ⟨rfl, rfl, rfl, by decide +kernel, rfl, by decide +kernel, by decide +kernel⟩
abbrev s_room_of : Stmt := topS 16
abbrev n_room_of : List Str := ["told", "numbers", "row"]
theorem sc_room_of : FnScope n_room_of ["told"] (defScope s_room_of) := ⟨rfl, rfl, rfl, by decide +kernel, rfl, by decide +kernel, by decide +kernel⟩
abbrev s_least : Stmt := topS 17
abbrev n_least : List Str := ["size", "sets", "wide"]
theorem sc_least : FnScope n_least ["size", "sets"] (defScope s_least) := ⟨rfl, rfl, rfl, by decide +kernel, rfl, by decide +kernel, by decide +kernel⟩
abbrev s__law_dice : Stmt := topS 19
abbrev n__law_dice : List Str := ["_law_script", "_law_k", "_law_found", "_law_cell"]
theorem sc__law_dice : FnScope n__law_dice ["_law_script", "_law_k"] (defScope s__law_dice) := ⟨rfl, rfl, rfl, by decide +kernel, rfl, by decide +kernel, by decide +kernel⟩
abbrev s__law_off : Stmt := topS 20
abbrev n__law_off : List Str := ["_law_d", "_law_most", "_law_found"]
theorem sc__law_off : FnScope n__law_off ["_law_d", "_law_most"] (defScope s__law_off) := ⟨rfl, rfl, rfl, by decide +kernel, rfl, by decide +kernel, by decide +kernel⟩
abbrev s__law_alike : Stmt := topS 21
abbrev n__law_alike : List Str := ["_law_found", "_law_due", "_law_k"]
theorem sc__law_alike : FnScope n__law_alike ["_law_found", "_law_due"] (defScope s__law_alike) := ⟨rfl, rfl, rfl, by decide +kernel, rfl, by decide +kernel, by decide +kernel⟩
abbrev s__law_size : Stmt := topS 22
abbrev n__law_size : List Str := ["_law_d"]
theorem sc__law_size : FnScope n__law_size ["_law_d"] (defScope s__law_size) := ⟨rfl, rfl, rfl, by decide +kernel, rfl, by decide +kernel, by decide +kernel⟩
abbrev s__law_set : Stmt := topS 23
abbrev n__law_set : List Str := ["_law_d", "_law_size_here", "_law_most", "_law_wide", "_law_found", "_law_turn", "_law_first"]
theorem sc__law_set : FnScope n__law_set ["_law_d", "_law_size_here", "_law_most"] (defScope s__law_set) := ⟨rfl, rfl, rfl, by decide +kernel, rfl, by decide +kernel, by decide +kernel⟩
abbrev s__law_members : Stmt := topS 24
abbrev n__law_members : List Str := ["_law_size_here", "_law_ranges", "_law_found", "_law_first", "_law_last"]
theorem sc__law_members : FnScope n__law_members ["_law_size_here", "_law_ranges"] (defScope s__law_members) := ⟨rfl, rfl, rfl, by decide +kernel, rfl, by decide +kernel, by decide +kernel⟩
abbrev s__law_sets : Stmt := topS 25
abbrev n__law_sets : List Str := ["_law_d", "_law_size_here", "_law_found", "_law_turn", "_law_ranges", "_law_by", "_law_first", "_law_last"]
theorem sc__law_sets : FnScope n__law_sets ["_law_d", "_law_size_here"] (defScope s__law_sets) := ⟨rfl, rfl, rfl, by decide +kernel, rfl, by decide +kernel, by decide +kernel⟩
abbrev s__law_table : Stmt := topS 26
abbrev n__law_table : List Str := ["_law_size_here", "_law_sets_here", "_law_wide", "_law_rows", "_law_firsts", "_law_ranges", "_law_numbers", "_law_signs", "_law_number", "_law_stretches", "_law_first", "_law_stretch"]
theorem sc__law_table : FnScope n__law_table ["_law_size_here", "_law_sets_here", "_law_wide"] (defScope s__law_table) := ⟨rfl, rfl, rfl, by decide +kernel, rfl, by decide +kernel, by decide +kernel⟩
abbrev s__law_cells : Stmt := topS 27
abbrev n__law_cells : List Str := ["_law_cells_of", "_law_numbers", "_law_row"]
theorem sc__law_cells : FnScope n__law_cells ["_law_cells_of"] (defScope s__law_cells) := ⟨rfl, rfl, rfl, by decide +kernel, rfl, by decide +kernel, by decide +kernel⟩
abbrev s_law : Stmt := topS 28
abbrev n_law : List Str := ["_law_script", "_law_d", "_law_size_here", "_law_sets_here", "_law_cells_here", "_law_wide", "_law_rows", "_law_one", "_law_more"]
theorem sc_law : FnScope n_law ["_law_script"] (defScope s_law) := ⟨rfl, rfl, rfl, by decide +kernel, rfl, by decide +kernel, by decide +kernel⟩
structure Tx (K : PySem.W.Frag) (mg : Str → Option Value) : Prop where
  d_need_size : Df K mg "need_size" s_need_size ["size"]
  d_need_set : Df K mg "need_set" s_need_set ["size", "ranges", "number"]
  d_has : Df K mg "has" s_has ["ranges", "number"]
  d_need_sets : Df K mg "need_sets" s_need_sets ["size", "sets"]
  d_row_of : Df K mg "row_of" s_row_of ["size", "ranges", "first", "wide"]
  d_made : Df K mg "made" s_made ["size", "sets", "wide"]
  d_table : Df K mg "table" s_table ["size", "sets", "wide"]
  d_room_of : Df K mg "room_of" s_room_of ["told"]
  d_least : Df K mg "least" s_least ["size", "sets"]
  d__law_dice : Df K mg "_law_dice" s__law_dice ["_law_script", "_law_k"]
  d__law_off : Df K mg "_law_off" s__law_off ["_law_d", "_law_most"]
  d__law_alike : Df K mg "_law_alike" s__law_alike ["_law_found", "_law_due"]
  d__law_size : Df K mg "_law_size" s__law_size ["_law_d"]
  d__law_set : Df K mg "_law_set" s__law_set ["_law_d", "_law_size_here", "_law_most"]
  d__law_members : Df K mg "_law_members" s__law_members ["_law_size_here", "_law_ranges"]
  d__law_sets : Df K mg "_law_sets" s__law_sets ["_law_d", "_law_size_here"]
  d__law_table : Df K mg "_law_table" s__law_table ["_law_size_here", "_law_sets_here", "_law_wide"]
  d__law_cells : Df K mg "_law_cells" s__law_cells ["_law_cells_of"]
  c_MOST_SIZE : ∃ t, mg "MOST_SIZE" = some (.int 64 t)
  c_MOST_RANGES : ∃ t, mg "MOST_RANGES" = some (.int 40 t)
  z_range : mg "range" = none
  z_enumerate : mg "enumerate" = none
  z_len : mg "len" = none
  z_min : mg "min" = none
  z_abs : mg "abs" = none
  z_isinstance : mg "isinstance" = none
  z_bool : mg "bool" = none
  z_int : mg "int" = none
  z_str : mg "str" = none
  z_tuple : mg "tuple" = none
  z_list : mg "list" = none
  z_all : mg "all" = none
  z_sorted : mg "sorted" = none
  z_set : mg "set" = none
  z_sum : mg "sum" = none
section
variable {P : Program} {w : World} {K : PySem.W.Frag} {mg : Str → Option Value} {base : Heap}
def spNeedSize : Sp := fun vs H Q _ => ∃ n : Int, vs = [.int n] ∧ 1 ≤ n ∧ n ≤ 64 ∧ Q .non H
theorem ok_need_size (T : Tx K mg) : Cl P w K mg base 1 "need_size" spNeedSize := by
  refine T.d_need_size.cl sc_need_size (fun vs H Q E h => ?_) (fun f cdv A outer s H vs Q E hr h => ?_)
  · obtain ⟨n, rfl, _⟩ := h
    rfl
  obtain ⟨n, rfl, h1, h2, q⟩ := h
  refine ⟨_, (pss_one (ps_if (pt_not (pt_chain op_le op_le pe_int (pv 0) (pe_gI (by rfl) T.c_MOST_SIZE))) (pss_one ps_never) pss_nil)), ?_⟩
  refine ⟨_, rfl, _, _, rfl, rfl, true, bT h1, iteT ⟨_, _, rfl, rfl, true, bT h2, iteF ?_⟩⟩
  exact q
def spNeedSet (K : PySem.W.Frag) : Sp := fun vs H Q _ => ∃ (n : Int) (v : V) (R : List (Int × Int)) (num : Int), vs = [.int n, v, .int num] ∧ Dp K H v (eR R) ∧ Ok n R ∧ ∀ H', Same H H' → Q .non H'
theorem ok_need_set (T : Tx K mg) : Cl P w K mg base 1 "need_set" (spNeedSet K) := by
  refine T.d_need_set.cl sc_need_set (fun vs H Q E h => ?_) (fun f cdv A outer s H vs Q E hr h => ?_)
  · obtain ⟨n, v, R, num, rfl, _⟩ := h
    rfl
  obtain ⟨n, v, R, num, rfl, hD, hk, q⟩ := h
  obtain ⟨a, xs, rfl, hS, hA⟩ := dp_list hD
  have hxl : xs.length = R.length := by rw [dpAll_len hA, List.length_map]
  refine ⟨_, (pss_one (ps_for PassesOwn.never rfl (piEnum K (by rfl) T.z_enumerate (pa_cons (pv 1) pa_nil)) (pgT K (by rfl) (pgs_cons (pg_name (i := 3) sc_need_set.nd rfl (by first | exact Or.inl rfl | exact Or.inr rfl)) (pgs_cons (pgT K (by rfl) (pgs_cons (pg_name (i := 4) sc_need_set.nd rfl (by first | exact Or.inl rfl | exact Or.inr rfl)) (pgs_cons (pg_name (i := 5) sc_need_set.nd rfl (by first | exact Or.inl rfl | exact Or.inr rfl)) pgs_nil))) pgs_nil)))
      (pss_one (ps_if (PW.pt (pw_or (pt_cmpR op_ge (pv 3) (pe_gI (by rfl) T.c_MOST_RANGES) (nomark _)) (pw_or1 (pt_not (pt_chain3 op_le op_le op_lt pe_int (pv 4) (pv 5) (pv 0)))))) (pss_one ps_never) pss_nil)))), ?_⟩
  refine ⟨_, rfl, a, xs, rfl, hS, for_enum (xs := xs) (fun i σ H1 => ∃ y3 y4 y5, σ = [some (.int n), some (.ref a), some (.int num), y3, y4, y5] ∧ Same H H1) ⟨none, none, none, rfl, Same.refl _⟩ (fun i σ H1 _ p => ?_) (fun i x t σ H1 hx nt p => ?_) (fun σ H1 p => ?_)⟩
  · obtain ⟨_, _, _, _, sm⟩ := p
    exact sm.seq hS
  · obtain ⟨y3, y4, y5, rfl, sm⟩ := p
    obtain ⟨d, hd, hx'⟩ := dpAll_get hA hx
    obtain ⟨r, hr', rfl⟩ := get_map hd
    obtain ⟨u, rfl, hT⟩ := dp_pair hx'
    have s2 : Same H (upd H1 t (.tup [.int (i : Nat), .ref u])) := sm.trans (same_new nt)
    have hm : r ∈ R := List.mem_of_getElem? hr'
    obtain ⟨k1, k2, k3⟩ := hk.2 r hm
    have hi : i < R.length := (List.getElem?_eq_some_iff.mp hr').1
    have h40 := hk.1
    refine ⟨t, _, rfl, SqT.of upd_same, rfl, _, _, rfl, _, _, rfl, u, _, rfl, same_tup s2 hT, rfl, _, _, rfl, _, _, rfl, rfl, rfl, ?_⟩
    refine ⟨_, rfl, _, _, rfl, rfl, false, bF (by omega), iteF ⟨_, rfl, _, _, rfl, rfl, true, bT k1, iteT ⟨_, rfl, _, _, rfl, rfl, true, bT k2, iteT ⟨_, rfl, _, _, rfl, rfl, true, bT k3, iteF ?_⟩⟩⟩⟩
    exact ⟨_, _, _, rfl, s2⟩
  · obtain ⟨y3, y4, y5, rfl, sm⟩ := p
    exact q H1 sm
def spHas (K : PySem.W.Frag) : Sp := fun vs H Q _ => ∃ (v : V) (R : List (Int × Int)) (n : Int), vs = [v, .int n] ∧ Dp K H v (eR R) ∧ R.length ≤ 1000 ∧ ∀ H', Same H H' → Q (.bl (has R n)) H'
theorem ok_has (T : Tx K mg) : Cl P w K mg base 1 "has" (spHas K) := by
  refine T.d_has.cl sc_has (fun vs H Q E h => ?_) (fun f cdv A outer s H vs Q E hr h => ?_)
  · obtain ⟨v, R, n, rfl, _⟩ := h
    rfl
  obtain ⟨v, R, n, rfl, hD, hl, q⟩ := h
  obtain ⟨a, xs, rfl, hS, hA⟩ := dp_list hD
  have hxl : xs.length = R.length := by rw [dpAll_len hA, List.length_map]
  refine ⟨_, (pss_one (ps_ret (pe_cmpR (neD K hr.units) (pe_lc (own := [("pair", 2)]) (g := (gName 2)) (tt := _) (by rfl) sc_has.nd (piL K (pv 0)) (blkOk_by (own := [("pair", 2)]) (N := n_has) (sc := defScope s_has) (by decide +kernel)) (fun _ _ _ _ _ => (pg_name (i := 2) sc_has.nd rfl (by first | exact Or.inl rfl | exact Or.inr rfl))) (fun _ _ _ _ _ => (pts_one (pt_chain op_le op_le (pe_ix (ixT K) (pv 2) pe_int (fun _ _ => rfl)) (pv 1) (pe_ix (ixT K) (pv 2) pe_int (fun _ _ => rfl))))) (fun _ _ _ _ _ => (pv 2))) (pe_lst pa_nil) (nomark _)))), ?_⟩
  refine ⟨_, rfl, a, rfl, ⟨_, hS⟩, fun D hDn => lcO_list (K := K) (xs := xs) (ds := R.map eP) (inR n) hS hA hDn (by omega) (fun i x d H1 N1 N0 hd hx sm k1 k0 => ?_) (fun H1 ys sm hy ha => ?_)⟩
  · obtain ⟨r, hr', rfl⟩ := get_map hd
    obtain ⟨t, rfl, hT⟩ := dp_pair hx
    have hT1 := same_tup sm hT
    refine ⟨rfl, _, rfl, t, _, _, _, rfl, rfl, hT1, rfl, _, rfl, _, _, rfl, rfl, _, rfl, ite2 (fun c => ?_) (fun c => ?_)⟩
    · have c1 : r.1 ≤ n := of_decide_eq_true c
      refine ⟨_, rfl, t, _, _, _, rfl, rfl, hT1, rfl, _, _, rfl, rfl, _, rfl, ite2 (fun e => ?_) (fun e => ?_)⟩
      · have e1 : n ≤ r.2 := of_decide_eq_true e
        exact ⟨_, rfl, k1 H1 (Same.refl _) (by rw [inR_eP, decide_eq_true c1, decide_eq_true e1]; rfl)⟩
      · have e1 : ¬ n ≤ r.2 := fun z => e (decide_eq_true z)
        exact k0 H1 (Same.refl _) (by rw [inR_eP, decide_eq_false e1, Bool.and_false])
    · have c1 : ¬ r.1 ≤ n := fun z => c (decide_eq_true z)
      exact ⟨_, rfl, iteF (k0 H1 (Same.refl _) (by rw [inR_eP, decide_eq_false c1, Bool.false_and]))⟩
  · refine ⟨Nat.zero_le _, fun p hp => ⟨_, _, .lst (SqL.of (same_new hp _ _ hy)) (same_dpAll (sm.trans (same_new hp)) ha), .lst (SqL.of upd_same) .nil, (sh_filter (n := 0)).shaped, (sh_nil (n := 0)).shaped, ?_⟩⟩
    have e : (!PyData.eqv (.list ((R.map eP).filter (inR n))) (.list [])) = has R n := by
      rw [eqv_nil, any_filter, List.any_map]
      rfl
    rw [e]
    exact q _ (sm.trans (same_new hp))
end
section
variable {P : Program} {w : World} {K : PySem.W.Frag} {mg : Str → Option Value} {base : Heap}
def spNeedSets (K : PySem.W.Frag) : Sp := fun vs H Q _ => ∃ (n : Int) (v : V) (SS : List (List (Int × Int))), vs = [.int n, v] ∧ 1 ≤ n ∧ n ≤ 64 ∧ Dp K H v (eRs SS) ∧ (∀ R ∈ SS, Ok n R) ∧ ∀ H', Same H H' → Q .non H'
theorem ok_need_sets (T : Tx K mg) : Cl P w K mg base 2 "need_sets" (spNeedSets K) := by
  refine T.d_need_sets.cl sc_need_sets (fun vs H Q E h => ?_) (fun f cdv A outer s H vs Q E hr h => ?_)
  · obtain ⟨n, v, SS, rfl, _⟩ := h
    rfl
  obtain ⟨n, v, SS, rfl, h1, h2, hD, hk, q⟩ := h
  obtain ⟨a, xs, rfl, hS, hA⟩ := dp_list hD
  refine ⟨_, (pss_cons (ps_expr (pe_k (ok_need_size T) hr (pa_cons (pv 0) pa_nil)))
      (pss_one (ps_for PassesOwn.never rfl (piEnum K (by rfl) T.z_enumerate (pa_cons (pv 1) pa_nil)) (pgT K (by rfl) (pgs_cons (pg_name (i := 2) sc_need_sets.nd rfl (by first | exact Or.inl rfl | exact Or.inr rfl)) (pgs_cons (pg_name (i := 3) sc_need_sets.nd rfl (by first | exact Or.inl rfl | exact Or.inr rfl)) pgs_nil)))
      (pss_one (ps_expr (pe_k (ok_need_set T) hr (pa_cons (pv 0) (pa_cons (pv 3) (pa_cons (pv 2) pa_nil))))))))), ?_⟩
  refine ⟨_, rfl, n, rfl, h1, h2, ?_⟩
  refine ⟨_, rfl, a, xs, rfl, hS, for_enum (xs := xs) (fun i σ H1 => ∃ y2 y3, σ = [some (.int n), some (.ref a), y2, y3] ∧ Same H H1) ⟨none, none, rfl, Same.refl _⟩ (fun i σ H1 _ p => ?_) (fun i x t σ H1 hx nt p => ?_) (fun σ H1 p => ?_)⟩
  · obtain ⟨_, _, _, sm⟩ := p
    exact sm.seq hS
  · obtain ⟨y2, y3, rfl, sm⟩ := p
    obtain ⟨d, hd, hx'⟩ := dpAll_get hA hx
    obtain ⟨R, hR, rfl⟩ := get_map hd
    have s2 : Same H (upd H1 t (.tup [.int (i : Nat), x])) := sm.trans (same_new nt)
    refine ⟨t, _, rfl, SqT.of upd_same, rfl, _, _, rfl, _, _, rfl, rfl, ?_⟩
    refine ⟨_, rfl, _, rfl, _, rfl, n, _, R, (i : Int), rfl, same_dp s2 hx', hk R (List.mem_of_getElem? hR), fun H2 s3 => ?_⟩
    exact ⟨_, _, rfl, s2.trans s3⟩
  · obtain ⟨y2, y3, rfl, sm⟩ := p
    exact q H1 sm
def spRowOf (K : PySem.W.Frag) : Sp := fun vs H Q _ => ∃ (n : Nat) (v : V) (R : List (Int × Int)) (f wd : Nat), vs = [.int n, v, .int f, .int wd] ∧ Dp K H v (eR R) ∧ R.length ≤ 1000 ∧ f ≤ 1000 ∧ wd ≤ 1000 ∧ ∀ H', Same H H' → Q (.str (kt (rowP n R f wd))) H'
theorem ok_row_of (T : Tx K mg) : Cl P w K mg base 2 "row_of" (spRowOf K) := by
  refine T.d_row_of.cl sc_row_of (fun vs H Q E h => ?_) (fun f cdv A outer s H vs Q E hr h => ?_)
  · obtain ⟨n, v, R, f, wd, rfl, _⟩ := h
    rfl
  obtain ⟨n, v, R, f, wd, rfl, hD, hl, hf, hw, q⟩ := h
  refine ⟨_, (pss_cons (ps_set (i := 4) sc_row_of.nd rfl (by first | exact Or.inl rfl | exact Or.inr rfl) pe_str)
      (pss_cons (ps_for PassesOwn.never rfl (pi_range2 (by rfl) T.z_range (pa_cons (pv 2) (pa_cons (pe_op op_add (pv 2) (pv 3)) pa_nil))) (pg_name (i := 5) sc_row_of.nd rfl (by first | exact Or.inl rfl | exact Or.inr rfl))
      (pss_one (ps_set (i := 4) sc_row_of.nd rfl (by first | exact Or.inl rfl | exact Or.inr rfl) (pe_op op_add_str (pv 4) (pe_ifExp (PW.pt (pw_and (pt_cmpR op_lt (pv 5) (pv 0) (nomark _)) (pw_and1 (pt_val (pe_k (ok_has T) hr (pa_cons (pv 1) (pa_cons (pv 5) pa_nil))))))) pe_str pe_str)))))
      (pss_one (ps_ret (pv 4))))), ?_⟩
  refine ⟨_, rfl, _, rfl, _, rfl, _, _, rfl, rfl, _, _, rfl, ⟨by omega, by omega, by omega, by omega⟩, ?_⟩
  rw [show ((f : Int) + (wd : Int) - (f : Int)).toNat = wd by omega]
  refine for_range (lo := (f : Int)) (n := wd) (fun i σ H1 => ∃ y5 : Option V, σ = [some (.int n), some v, some (.int f), some (.int wd), some (.str (kt (rowP n R f i))), y5] ∧ Same H H1) ⟨none, by rw [show kt (rowP n R f 0) = Str.ofString "" by show kt [] = _; decide +kernel]; rfl, Same.refl _⟩ (fun i σ H1 hi p => ?_) (fun σ H1 p => ?_)
  · obtain ⟨y5, rfl, sm⟩ := p
    have e0 : (f : Int) + (i : Int) = ((f + i : Nat) : Int) := by omega
    rw [e0]
    have fin : ∀ (b : Bool) (H' : Hp), bitT n R (f + i) = b → Same H H' → ∀ z : Str, z = (if b then Str.ofString "1" else Str.ofString "0") → (∃ y5 : Option V, [some (V.int n), some v, some (.int f), some (.int wd), some (.str (kt (rowP n R f i) ++ z)), some (.int ((f + i : Nat) : Int))] = [some (V.int n), some v, some (.int f), some (.int wd), some (.str (kt (rowP n R f (i + 1)))), y5] ∧ Same H H') := fun b H' hb s' z hz => by
      refine ⟨some (.int ((f + i : Nat) : Int)), ?_, s'⟩
      rw [rowP_succ, hb, hz]
      cases b
      · rw [if_neg Bool.false_ne_true, kt_zero]
      · rw [if_pos rfl, kt_one]
    have sz : ∀ z : Str, z.length = 1 → (kt (rowP n R f i)).length + z.length ≤ sizeLine := fun z hz => by
      rw [kt_len, rowP_len, hz]
      exact Nat.le_of_lt (sizeOk (by omega))
    refine ⟨_, rfl, _, rfl, _, rfl, _, _, rfl, rfl, _, rfl, ite2 (fun c => ?_) (fun c => ?_)⟩
    · have c1 : f + i < n := by
        have z : ((f + i : Nat) : Int) < (n : Int) := of_decide_eq_true c
        omega
      refine ⟨_, rfl, _, rfl, v, R, _, rfl, same_dp sm hD, hl, fun H2 s2 => ⟨_, rfl, ?_⟩⟩
      have eb : bitT n R (f + i) = has R ((f + i : Nat) : Int) := by
        unfold bitT
        rw [decide_eq_true c1, Bool.true_and]
      cases e : has R ((f + i : Nat) : Int) with
      | true => exact iteT ⟨_, _, rfl, rfl, sz _ (by decide +kernel), fin true H2 (eb.trans e) (sm.trans s2) _ rfl⟩
      | false => exact iteF ⟨_, _, rfl, rfl, sz _ (by decide +kernel), fin false H2 (eb.trans e) (sm.trans s2) _ rfl⟩
    · have c1 : ¬ f + i < n := fun z => c (decide_eq_true (show ((f + i : Nat) : Int) < (n : Int) by omega))
      have eb : bitT n R (f + i) = false := by
        unfold bitT
        rw [decide_eq_false c1, Bool.false_and]
      exact iteF ⟨_, _, rfl, rfl, sz _ (by decide +kernel), fin false H1 eb sm _ rfl⟩
  · obtain ⟨y5, rfl, sm⟩ := p
    exact ⟨_, rfl, q H1 sm⟩
end
section
variable {P : Program} {w : World} {K : PySem.W.Frag} {mg : Str → Option Value} {base : Heap}
def spMade (K : PySem.W.Frag) : Sp := fun vs H Q _ => ∃ (n : Nat) (v : V) (SS : List (List (Int × Int))) (wd : Nat), vs = [.int n, v, .int wd] ∧ n ≤ 64 ∧ 1 ≤ wd ∧ wd ≤ 64 ∧ Dp K H v (eRs SS) ∧ SS.length ≤ 1000 ∧ (∀ R ∈ SS, R.length ≤ 1000) ∧ ∀ H' p, Same H H' → NewV H H' p (eTab n wd SS) → Q p H'
theorem ok_made (T : Tx K mg) : Cl P w K mg base 3 "made" (spMade K) := by
  refine T.d_made.cl sc_made (fun vs H Q E h => ?_) (fun f cdv A outer s H vs Q E hr h => ?_)
  · obtain ⟨n, v, SS, wd, rfl, _⟩ := h
    rfl
  obtain ⟨n, v, SS, wd, rfl, hn, hw1, hw2, hD, hl, hk, q⟩ := h
  obtain ⟨a, xs, rfl, hS, hA⟩ := dp_list hD
  have hxl : xs.length = SS.length := by rw [dpAll_len hA, List.length_map]
  have hc := cnt_le (n := n) hw1
  have hm : SS.length * cnt n wd ≤ 1000 * 64 := Nat.mul_le_mul hl (by omega)
  refine ⟨_, (pss_cons (ps_set (i := 3) sc_made.nd rfl (by first | exact Or.inl rfl | exact Or.inr rfl) (pe_lst pa_nil))
      (pss_cons (ps_set (i := 4) sc_made.nd rfl (by first | exact Or.inl rfl | exact Or.inr rfl) (pe_lst pa_nil))
      (pss_cons (ps_for PassesOwn.never rfl (piL K (pv 1)) (pg_name (i := 5) sc_made.nd rfl (by first | exact Or.inl rfl | exact Or.inr rfl))
      (pss_cons (ps_set (i := 6) sc_made.nd rfl (by first | exact Or.inl rfl | exact Or.inr rfl) (pe_lst pa_nil))
      (pss_cons (ps_for PassesOwn.never rfl (pi_range3 (by rfl) T.z_range (pa_cons pe_int (pa_cons (pv 0) (pa_cons (pv 2) pa_nil)))) (pg_name (i := 7) sc_made.nd rfl (by first | exact Or.inl rfl | exact Or.inr rfl))
      (pss_cons (ps_set (i := 8) sc_made.nd rfl (by first | exact Or.inl rfl | exact Or.inr rfl) (pe_k (ok_row_of T) hr (pa_cons (pv 0) (pa_cons (pv 5) (pa_cons (pv 7) (pa_cons (pv 2) pa_nil))))))
      (pss_cons (ps_if (pt_cmpR (notInQ K) (pv 8) (pv 3) (by rfl)) (pss_one (ps_expr (pe_bm PySem.F.plainAttrs_list PySem.F.slot_list_append PySem.F.type_list_append mt_append (pv 3) (pa_cons (pv 8) pa_nil)))) pss_nil)
      (pss_one (ps_expr (pe_bm PySem.F.plainAttrs_list PySem.F.slot_list_append PySem.F.type_list_append mt_append (pv 6) (pa_cons (pe_bm PySem.F.plainAttrs_list PySem.F.slot_list_index PySem.F.type_list_index (mtIndex K) (pv 3) (pa_cons (pv 8) pa_nil)) pa_nil)))))))
      (pss_one (ps_expr (pe_bm PySem.F.plainAttrs_list PySem.F.slot_list_append PySem.F.type_list_append mt_append (pv 4) (pa_cons (pv 6) pa_nil)))))))
      (pss_one (ps_ret (pe_tup (pa_cons (pv 4) (pa_cons (pv 3) pa_nil)))))))), ?_⟩
  refine ⟨Nat.zero_le _, fun o1 n1 => ⟨Nat.zero_le _, fun o2 n2 => ?_⟩⟩
  have n12 : o1 ≠ o2 := ne_of_none upd_same n2
  have n2H : H o2 = none := (same_new n1).free n2
  refine ⟨_, rfl, a, rfl, ⟨_, ((same_new n1).trans (same_new n2)).seq hS⟩, for_list (xs := xs) (fun i σ G => ∃ y5 y6 y7 y8 : Option V, σ = [some (.int n), some (.ref a), some (.int wd), some (.ref o1), some (.ref o2), y5, y6, y7, y8] ∧ Same H (del G o1) ∧ LB H (del G o1) o2 (((SS.take i).map fun R => (rowsR n wd R).map fun r => ((pl r (rowsT n wd SS) : Nat) : Int)).map eI) ∧ G o1 = some (.lst (((uniq ((SS.take i).flatMap (rowsR n wd))).map kt).map V.str))) ⟨none, none, none, none, rfl, ?_, ?_, ?_⟩ (fun i σ G _ p => ?_) (fun i x σ G hx p => ?_) (fun σ G p => ?_)⟩
  · rw [del_upd n12.symm, del_upd_self]
    refine same_upd (fun b o e => ?_) n2H
    rw [del_ne (ne_of_none e n1)]
    exact e
  · rw [del_upd n12.symm, del_upd_self]
    exact LB.nil n2H
  · rw [upd_ne n12]
    exact upd_same
  · obtain ⟨_, _, _, _, _, sm, _⟩ := p
    exact (sm.trans del_same).seq hS
  · obtain ⟨y5, y6, y7, y8, rfl, sm, lb, h1⟩ := p
    have sH : Same H G := sm.trans del_same
    obtain ⟨dd, hdd, hdx⟩ := dpAll_get hA hx
    obtain ⟨R, hR, rfl⟩ := get_map hdd
    have hi : i < SS.length := (List.getElem?_eq_some_iff.mp hR).1
    have hRm : R ∈ SS := List.mem_of_getElem? hR
    have eS : SS = SS.take i ++ R :: SS.drop (i + 1) := by
      rw [← List.getElem?_eq_some_iff.mp hR |>.2, List.getElem_cons_drop, List.take_append_drop]
    refine ⟨Nat.zero_le _, fun o3 n3 => ?_⟩
    have n31 : o3 ≠ o1 := (ne_of_none h1 n3).symm
    refine ⟨_, rfl, _, rfl, 0, (n : Int), (wd : Int), cnt n wd, rfl, rgC_up hw1 (by omega) (by omega), for_rangeC (lo := 0) (c := (wd : Int)) (n := cnt n wd) (fun j σ G' => ∃ y7 y8 : Option V, σ = [some (.int n), some (.ref a), some (.int wd), some (.ref o1), some (.ref o2), some x, some (.ref o3), y7, y8] ∧ SameBut o1 G G' ∧ G' o1 = some (.lst (((uniq ((SS.take i).flatMap (rowsR n wd) ++ (rowsR n wd R).take j)).map kt).map V.str)) ∧ G' o3 = some (.lst ((((rowsR n wd R).take j).map fun r => ((pl r (rowsT n wd SS) : Nat) : Int)).map V.int))) ⟨_, _, rfl, SameBut.of (same_new n3), ?_, upd_same⟩ (fun j σ G' hj p => ?_) (fun σ G' p => ?_)⟩
    · rw [upd_ne n31.symm, List.take_zero, List.append_nil]
      exact h1
    · obtain ⟨y7', y8', rfl, sb, g1, g3⟩ := p
      have e0 : (0 : Int) + (j : Nat) * (wd : Int) = ((j * wd : Nat) : Int) := by rw [Int.zero_add, Int.natCast_mul]
      rw [e0]
      have hjn := (cnt_lt hw1).mp hj
      have sHG' : Same H G' := fun b o e => sb b o (ne_of_none e n1) (sH b o e)
      refine ⟨_, rfl, _, rfl, _, rfl, _, rfl, n, x, R, j * wd, wd, rfl, same_dp sHG' hdx, hk R hRm, by omega, by omega, fun G2 s2 => ?_⟩
      have hrg : (rowsR n wd R)[j]? = some (rowP n R (j * wd) wd) := rowsR_get hj
      generalize rowP n R (j * wd) wd = r at hrg ⊢
      have en : uniq ((SS.take i).flatMap (rowsR n wd) ++ (rowsR n wd R).take (j + 1)) = addU (uniq ((SS.take i).flatMap (rowsR n wd) ++ (rowsR n wd R).take j)) r := by
        rw [List.take_add_one, hrg, ← List.append_assoc]
        exact uniq_snoc _ _
      have sb2 : SameBut o1 G G2 := sb.trans (SameBut.of s2)
      have g1' := s2 _ _ g1
      have g3' := s2 _ _ g3
      dsimp only [gName]
      refine seq_join (t := tIfS _ _ _) (fun σ' G3 => σ' = [some (.int n), some (.ref a), some (.int wd), some (.ref o1), some (.ref o2), some x, some (.ref o3), some (.int ((j * wd : Nat) : Int)), some (.str (kt r))] ∧ SameBut o1 G G3 ∧ G3 o1 = some (.lst (((uniq ((SS.take i).flatMap (rowsR n wd) ++ (rowsR n wd R).take (j + 1))).map kt).map V.str)) ∧ G3 o3 = some (.lst ((((rowsR n wd R).take j).map fun r => ((pl r (rowsT n wd SS) : Nat) : Int)).map V.int))) (fun σ' G3 hJ => ?_) (fun N hN => ?_)
      · obtain ⟨rfl, sb3, k1, k3⟩ := hJ
        have hmem : r ∈ uniq ((SS.take i).flatMap (rowsR n wd) ++ (rowsR n wd R).take (j + 1)) := by
          rw [en]
          exact mem_addU.mpr (.inr rfl)
        refine ⟨_, rfl, .inl ⟨rfl, _, SqL.of k3⟩, _, rfl, .inl ⟨rfl, _, SqL.of k1⟩, _, rfl, ?_⟩
        dsimp only [tNil]
        refine rIndex_strs (SqL.of k1) (mem_kt.mpr hmem) ?_
        refine ⟨o3, _, _, rfl, rfl, k3, sizeOk (by rw [List.length_map, List.length_map, List.length_take]; omega), ?_⟩
        refine ⟨_, _, rfl, sb_upd sb3 n3, ?_, ?_⟩
        · rw [upd_ne n31.symm]
          exact k1
        · obtain ⟨rr, er⟩ := rows_pre (n := n) (w := wd) (SS.take i) R (SS.drop (i + 1)) (j + 1)
          rw [← eS] at er
          have e1 : pl (kt r) ((uniq ((SS.take i).flatMap (rowsR n wd) ++ (rowsR n wd R).take (j + 1))).map kt) = pl r (rowsT n wd SS) := by
            rw [pl_map fun _ _ => kt_inj, er, pl_app hmem]
          rw [upd_same, e1, List.take_add_one, hrg, List.map_append, List.map_append]
          rfl
      · refine ⟨_, rfl, _, rfl, o1, _, rfl, .inl (SqL.of g1'), rfl, flat_strs _, _, rfl, ?_⟩
        rw [if_pos rfl, inV_strs, dec_kt]
        by_cases c : r ∈ uniq ((SS.take i).flatMap (rowsR n wd) ++ (rowsR n wd R).take j)
        · rw [decide_eq_true c]
          refine iteF (hN _ _ ⟨rfl, sb2, ?_, g3'⟩)
          rw [en, addU_old c]
          exact g1'
        · rw [decide_eq_false c]
          have hul := uniq_len ((SS.take i).flatMap (rowsR n wd) ++ (rowsR n wd R).take j)
          have hul2 : ((SS.take i).flatMap (rowsR n wd) ++ (rowsR n wd R).take j).length ≤ 1000 * 64 + 64 := by
            rw [List.length_append, flat_len, List.length_take, List.length_take]
            have : min i SS.length * cnt n wd ≤ SS.length * cnt n wd := Nat.mul_le_mul_right _ (Nat.min_le_right _ _)
            omega
          refine iteT ⟨_, rfl, .inl ⟨rfl, _, SqL.of g1'⟩, _, rfl, o1, _, _, rfl, rfl, g1', sizeOk (by rw [List.length_map, List.length_map]; omega), hN _ _ ⟨rfl, sb_upd_d sb2, ?_, ?_⟩⟩
          · rw [upd_same, en, addU_new c, List.map_append, List.map_append]
            rfl
          · rw [upd_ne n31]
            exact g3'
    · obtain ⟨y7', y8', rfl, sb, g1, g3⟩ := p
      have etk : (rowsR n wd R).take (cnt n wd) = rowsR n wd R := List.take_of_length_le (by rw [rowsR_len]; exact Nat.le_refl _)
      rw [etk] at g1 g3
      have sd : Same (del G o1) (del G' o1) := sb_same sb
      have nv : NewV (del G o1) (del G' o1) (.ref o3) (eI ((rowsR n wd R).map fun r => ((pl r (rowsT n wd SS) : Nat) : Int))) := newV_ints (by rw [del_ne n31]; exact n3) (by rw [del_ne n31]; exact g3)
      obtain ⟨ws, w1, w2, lb2⟩ := lb.snoc sm sd nv
      rw [del_ne n12.symm] at w1
      rw [List.length_map, List.length_map, List.length_take] at w2
      refine ⟨_, rfl, .inl ⟨rfl, _, SqL.of w1⟩, _, rfl, o2, ws, _, rfl, rfl, w1, sizeOk (by omega), _, _, _, _, rfl, ?_, ?_, ?_⟩
      · rw [del_upd n12.symm]
        exact same_upd (sm.trans sd) n2H
      · rw [del_upd n12.symm, List.take_add_one, hR, List.map_append, List.map_append]
        exact lb2
      · rw [upd_ne n12, List.take_add_one, hR, List.flatMap_append]
        have e2 : (some R).toList.flatMap (rowsR n wd) = rowsR n wd R := by simp
        rw [e2]
        exact g1
  · obtain ⟨y5, y6, y7, y8, rfl, sm, lb, h1⟩ := p
    rw [hxl, List.take_length] at lb h1
    refine ⟨_, rfl, _, rfl, by show 2 ≤ sizeLine; decide, fun tp ntp => ?_⟩
    have sF : Same G (upd G tp (.tup [.ref o2, .ref o1])) := same_new ntp
    have sG : Same H G := sm.trans del_same
    refine q _ _ (sG.trans sF) ?_
    refine .tup (xs := [.ref o2, .ref o1]) ?_ (.cons ?_ (.cons ?_ .nil))
    · rw [fr_new (sG.free ntp)]
      exact upd_same
    · exact lb.newV.mono (Same.refl _) (del_same.trans sF)
    · refine .lst (xs := _) ?_ (dnAll_strs _)
      rw [fr_new n1]
      exact sF _ _ h1
def spTable (K : PySem.W.Frag) : Sp := fun vs H Q _ => ∃ (n : Nat) (v : V) (SS : List (List (Int × Int))) (wd : Nat), vs = [.int n, v, .int wd] ∧ 1 ≤ n ∧ n ≤ 64 ∧ 1 ≤ wd ∧ wd ≤ n ∧ Dp K H v (eRs SS) ∧ SS.length ≤ 1000 ∧ (∀ R ∈ SS, Ok n R) ∧ ∀ H' p, Same H H' → NewV H H' p (eTab n wd SS) → Q p H'
theorem ok_table (T : Tx K mg) : Cl P w K mg base 4 "table" (spTable K) := by
  refine T.d_table.cl sc_table (fun vs H Q E h => ?_) (fun f cdv A outer s H vs Q E hr h => ?_)
  · obtain ⟨n, v, SS, wd, rfl, _⟩ := h
    rfl
  obtain ⟨n, v, SS, wd, rfl, h1, h2, hw1, hw2, hD, hl, hk, q⟩ := h
  refine ⟨_, (pss_cons (ps_expr (pe_k (ok_need_sets T) hr (pa_cons (pv 0) (pa_cons (pv 1) pa_nil))))
      (pss_cons (ps_if (pt_not (pt_chain op_le op_le pe_int (pv 2) (pv 0))) (pss_one ps_never) pss_nil)
      (pss_one (ps_ret (pe_k (ok_made T) hr (pa_cons (pv 0) (pa_cons (pv 1) (pa_cons (pv 2) pa_nil)))))))), ?_⟩
  refine ⟨_, rfl, _, rfl, (n : Int), v, SS, rfl, by omega, by omega, hD, hk, fun H1 s1 => ?_⟩
  refine ⟨_, rfl, _, _, rfl, rfl, true, bT (by omega), iteT ⟨_, rfl, _, _, rfl, rfl, true, bT (by omega), iteF ?_⟩⟩
  refine ⟨_, rfl, _, rfl, _, rfl, n, v, SS, wd, rfl, h2, hw1, by omega, same_dp s1 hD, hl, fun R hR => Nat.le_trans (hk R hR).1 (by decide), fun H2 p s2 nv => ?_⟩
  exact q H2 p (s1.trans s2) (nv.mono s1 (Same.refl _))
def spRoom (K : PySem.W.Frag) : Sp := fun vs H Q _ => ∃ (v : V) (n wd : Nat) (SS : List (List (Int × Int))), vs = [v] ∧ Dp K H v (eTab n wd SS) ∧ SS.length ≤ 1000 ∧ n ≤ 64 ∧ 1 ≤ wd ∧ wd ≤ 64 ∧ ∀ H', Same H H' → Q (.int ((cells n wd SS : Nat) : Int)) H'
theorem ok_room_of (T : Tx K mg) : Cl P w K mg base 1 "room_of" (spRoom K) := by
  refine T.d_room_of.cl sc_room_of (fun vs H Q E h => ?_) (fun f cdv A outer s H vs Q E hr h => ?_)
  · obtain ⟨v, n, wd, SS, rfl, _⟩ := h
    rfl
  obtain ⟨v, n, wd, SS, rfl, hD, hl, hn, hw1, hw2, q⟩ := h
  have hc := cnt_le (n := n) hw1
  have hm : SS.length * cnt n wd ≤ 1000 * 64 := Nat.mul_le_mul hl (by omega)
  have hrl := rowsT_len n wd SS
  obtain ⟨t, ts, rfl, hT, hTA⟩ := dp_tuple hD
  cases hTA with
  | cons d1 hTA =>
  cases hTA with
  | cons d2 hTA =>
  cases hTA
  obtain ⟨a4, x4, rfl, hS4, hA4⟩ := dp_list d1
  obtain ⟨a5, x5, rfl, hS5, hA5⟩ := dp_list d2
  obtain rfl := dpAll_strs hA5
  have hfl : (firstsT n wd SS).length = SS.length := by unfold firstsT; rw [List.length_map]
  have x4l : x4.length = (firstsT n wd SS).length := by rw [dpAll_len hA4, List.length_map]
  refine ⟨_, (pss_one (ps_ret (pe_op op_add (pe_callB (sumQ K rfl) (by rfl) T.z_sum (by decide +kernel) (pa_cons (pe_lc (own := [("numbers", 1)]) (g := (gName 1)) (tt := tYes) (by rfl) sc_room_of.nd (piL K (pe_ix (ixT K) (pv 0) pe_int (fun _ _ => rfl))) (blkOk_by (own := [("numbers", 1)]) (N := n_room_of) (sc := defScope s_room_of) (by decide +kernel)) (fun _ _ _ _ _ => (pg_name (i := 1) sc_room_of.nd rfl (by first | exact Or.inl rfl | exact Or.inr rfl))) (fun _ _ _ _ _ => pts_nil) (fun _ _ _ _ _ => (pe_callB (lenQ K) (by rfl) T.z_len (by decide +kernel) (pa_cons (pv 1) pa_nil)))) pa_nil)) (pe_callB (sumQ K rfl) (by rfl) T.z_sum (by decide +kernel) (pa_cons (pe_lc (own := [("row", 2)]) (g := (gName 2)) (tt := tYes) (by rfl) sc_room_of.nd (piL K (pe_ix (ixT K) (pv 0) pe_int (fun _ _ => rfl))) (blkOk_by (own := [("row", 2)]) (N := n_room_of) (sc := defScope s_room_of) (by decide +kernel)) (fun _ _ _ _ _ => (pg_name (i := 2) sc_room_of.nd rfl (by first | exact Or.inl rfl | exact Or.inr rfl))) (fun _ _ _ _ _ => pts_nil) (fun _ _ _ _ _ => (pe_callB call_len_str (by rfl) T.z_len (by decide +kernel) (pa_cons (pv 2) pa_nil)))) pa_nil))))), ?_⟩
  refine ⟨_, rfl, t, _, 0, _, rfl, rfl, hT, rfl, a4, rfl, ⟨_, hS4⟩, fun D1 n1 => lcN_list (fun i => ((firstsT n wd SS)[i]?).bind fun l => some (.int (l.length : Int))) hS4 n1 (by omega) (fun i x G N1 N0 hx sm c1 c0 => ?_) (fun H1 s1 lb1 => ?_)⟩
  · obtain ⟨dd, hdd, hdx⟩ := dpAll_get hA4 hx
    obtain ⟨l, hl', rfl⟩ := get_map hdd
    obtain ⟨b, ys, rfl, hb, hy⟩ := dp_list hdx
    obtain rfl := dpAll_ints hy
    exact ⟨rfl, yesT ⟨_, rfl, b, _, rfl, .inl (sm.seq hb), c1 _ G _ (Same.refl _) (by rw [hl', Option.bind_some, List.length_map]) (.int _)⟩⟩
  rw [x4l, list_map] at lb1
  have e1 : ((firstsT n wd SS).map fun l => PyData.int (l.length : Int)) = ((firstsT n wd SS).map fun l => (l.length : Int)).map PyData.int := by rw [List.map_map]; rfl
  rw [e1] at lb1
  refine ⟨D1, _, rfl, SqL.of lb1.ints, ?_⟩
  refine ⟨_, rfl, t, _, 1, _, rfl, rfl, same_tup s1 hT, rfl, a5, rfl, ⟨_, s1.seq hS5⟩, fun D2 n2 => lcN_list (fun i => (((rowsT n wd SS).map kt)[i]?).bind fun r => some (.int (r.length : Int))) (s1.seq hS5) n2 (by rw [List.length_map, List.length_map]; omega) (fun i x G N1 N0 hx sm c1 c0 => ?_) (fun H2 s2 lb2 => ?_)⟩
  · obtain ⟨z, hz, rfl⟩ := map_get hx
    have hzl : z.length = wd := by
      obtain ⟨b, hb, rfl⟩ := List.mem_map.mp (List.mem_of_getElem? hz)
      rw [kt_len, rowsT_mem hb]
    exact ⟨rfl, yesT ⟨_, rfl, z, rfl, Nat.le_of_lt (sizeOk (by omega)), c1 _ G _ (Same.refl _) (by rw [hz]; rfl) (.int _)⟩⟩
  rw [List.length_map, list_map] at lb2
  have e2 : (((rowsT n wd SS).map kt).map fun r => PyData.int (r.length : Int)) = (((rowsT n wd SS).map kt).map fun r => (r.length : Int)).map PyData.int := by rw [List.map_map, List.map_map, List.map_map]; rfl
  rw [e2] at lb2
  refine ⟨D2, _, rfl, SqL.of lb2.ints, _, _, rfl, rfl, ?_⟩
  have e3 : ((firstsT n wd SS).map fun l => (l.length : Int)).sum + (((rowsT n wd SS).map kt).map fun r => (r.length : Int)).sum = ((cells n wd SS : Nat) : Int) := by
    rw [sum_firsts, sum_rows]
    unfold cells
    omega
  dsimp only
  rw [e3]
  exact q H2 (s1.trans s2)
def spLeast (K : PySem.W.Frag) : Sp := fun vs H Q _ => ∃ (n : Nat) (v : V) (SS : List (List (Int × Int))), vs = [.int n, v] ∧ 1 ≤ n ∧ n ≤ 64 ∧ Dp K H v (eRs SS) ∧ SS.length ≤ 1000 ∧ (∀ R ∈ SS, Ok n R) ∧ ∀ H' p, Same H H' → NewV H H' p (eP (leastP n SS)) → Q p H'
theorem ok_least (T : Tx K mg) : Cl P w K mg base 4 "least" (spLeast K) := by
  refine T.d_least.cl sc_least (fun vs H Q E h => ?_) (fun f cdv A outer s H vs Q E hr h => ?_)
  · obtain ⟨n, v, SS, rfl, _⟩ := h
    rfl
  obtain ⟨n, v, SS, rfl, h1, h2, hD, hl, hk, q⟩ := h
  refine ⟨_, (pss_cons (ps_expr (pe_k (ok_need_sets T) hr (pa_cons (pv 0) (pa_cons (pv 1) pa_nil))))
      (pss_one (ps_ret (pe_callB (minDK K (by rfl) (hu65 hr)) (by rfl) T.z_min (by decide +kernel) (pa_cons (pe_lc (own := [("wide", 2)]) (g := (gName 2)) (tt := tYes) (by rfl) sc_least.nd (pi_range2 (by rfl) T.z_range (pa_cons pe_int (pa_cons (pe_op op_add (pv 0) pe_int) pa_nil))) (blkOk_by (own := [("wide", 2)]) (N := n_least) (sc := defScope s_least) (by decide +kernel)) (fun _ _ _ _ _ => (pg_name (i := 2) sc_least.nd rfl (by first | exact Or.inl rfl | exact Or.inr rfl))) (fun _ _ _ _ _ => pts_nil) (fun _ _ _ _ _ => (pe_tup (pa_cons (pe_k (ok_room_of T) hr (pa_cons (pe_k (ok_made T) hr (pa_cons (pv 0) (pa_cons (pv 1) (pa_cons (pv 2) pa_nil)))) pa_nil)) (pa_cons (pv 2) pa_nil))))) pa_nil))))), ?_⟩
  refine ⟨_, rfl, _, rfl, (n : Int), v, SS, rfl, by omega, by omega, hD, hk, fun H1 s1 => ?_⟩
  refine ⟨_, rfl, _, _, rfl, rfl, _, _, rfl, ⟨by omega, by omega, by omega, by omega⟩, fun D nD => ?_⟩
  rw [show ((n : Int) + 1 - 1).toNat = n by omega]
  refine lcN_range (lo := 1) (n := n) (fun i => some (eP (((cells n (i + 1) SS : Nat) : Int), ((i : Int) + 1)))) nD (by omega) (fun i G N1 N0 hi sm c1 c0 => ?_) (fun H2 s2 lb => ?_)
  · have e0 : (1 : Int) + (i : Int) = ((i + 1 : Nat) : Int) := by omega
    rw [e0]
    refine ⟨rfl, yesT ⟨_, rfl, _, rfl, _, rfl, n, v, SS, i + 1, rfl, h2, by omega, by omega, same_dp (s1.trans sm) hD, hl, fun R hR => Nat.le_trans (hk R hR).1 (by decide), fun G2 p s2 nv => ?_⟩⟩
    refine ⟨p, n, i + 1, SS, rfl, nv.dp, hl, h2, by omega, by omega, fun G3 s3 => ⟨_, rfl, by show 2 ≤ sizeLine; decide, fun t nt => ?_⟩⟩
    refine c1 _ _ _ (s2.trans (s3.trans (same_new nt))) rfl ?_
    exact (new_pair nt).mono (s2.trans s3) (Same.refl _)
  have ep : (List.range n).filterMap (fun (i : Nat) => some (eP (((cells n (i + 1) SS : Nat) : Int), ((i : Int) + 1)))) = (pairsT n SS).map eP := by
    unfold pairsT
    rw [List.filterMap_eq_map', List.map_map]
    rfl
  rw [ep] at lb
  obtain ⟨x, xs, ex⟩ := pairs_cons h1 SS
  obtain ⟨hsc, hsd⟩ := sh_pairs (pairsT n SS)
  have hal := alike_eP (pairsT n SS)
  obtain ⟨_, zs, hz, hzA⟩ := lb
  have elp : leastP n SS = minP x xs := by unfold leastP; rw [ex]
  rw [ex, List.map_cons] at hsc hsd hal hzA
  refine ⟨D, zs, eP x, xs.map eP, rfl, SqL.of hz, same_dpAll (del_same.trans fr_same) hzA.dp, hal, hsc, hsd, fun i y hy hi => ?_⟩
  rw [minD_eP] at hi
  obtain ⟨d', hd', hn'⟩ := hzA.get hy
  rw [hi] at hd'
  obtain rfl := Option.some.inj hd'
  rw [elp] at q
  exact q H2 y (s1.trans s2) (NewV.mono (Dn.mono del_same hn') s1 (Same.refl _))
end
section
variable {P : Program} {w : World} {K : PySem.W.Frag} {mg : Str → Option Value} {base : Heap}
def spDice (K : PySem.W.Frag) : Sp := fun vs H Q _ => ∃ (a : Addr) (ns : List Int) (k : Int), vs = [.ref a, .int k] ∧ SqL K H a (ns.map V.int) ∧ ns.length ≤ 63 ∧ 0 ≤ k ∧ ∀ H' p D, Same H H' → H p = none → H' p = some (.lst (D.map V.int)) → DiceOk D → Q (.ref p) H'
theorem ok__law_dice (T : Tx K mg) : Cl P w K mg base 1 "_law_dice" (spDice K) := by
  refine T.d__law_dice.cl sc__law_dice (fun vs H Q E h => ?_) (fun f cdv A outer s H vs Q E hr h => ?_)
  · obtain ⟨a, ns, k, rfl, _⟩ := h
    rfl
  obtain ⟨a, ns, k, rfl, hS, h63, h0, q⟩ := h
  refine ⟨_, (pss_cons (ps_set (i := 2) sc__law_dice.nd rfl (by first | exact Or.inl rfl | exact Or.inr rfl) (pv 1))
      (pss_cons (ps_for PassesOwn.never rfl (piL K (pv 0)) (pg_name (i := 3) sc__law_dice.nd rfl (by first | exact Or.inl rfl | exact Or.inr rfl))
      (pss_one (ps_set (i := 2) sc__law_dice.nd rfl (by first | exact Or.inl rfl | exact Or.inr rfl) (pe_op op_mod (pe_op op_add (pe_op op_mul (pv 2) pe_int) (pe_callB call_abs (by rfl) T.z_abs (by decide +kernel) (pa_cons (pv 3) pa_nil))) pe_int))))
      (pss_one (ps_ret (pe_op op_cat (pe_lst (pa_cons (pv 2) (pa_cons pe_int pa_nil))) (pe_lc (own := [("_law_cell", 3)]) (g := (gName 3)) (tt := _) (by rfl) sc__law_dice.nd (piL K (pv 0)) (blkOk_by (own := [("_law_cell", 3)]) (N := n__law_dice) (sc := defScope s__law_dice) (by decide +kernel)) (fun _ _ _ _ _ => (pg_name (i := 3) sc__law_dice.nd rfl (by first | exact Or.inl rfl | exact Or.inr rfl))) (fun _ _ _ _ _ => (pts_one (pt_cmpR op_ge (pv 3) (pe_op op_pow pe_int pe_int) (nomark _)))) (fun _ _ _ _ _ => (pv 3)))))))), ?_⟩
  refine ⟨_, rfl, _, rfl, a, rfl, ⟨_, hS⟩, for_list (xs := ns.map V.int) (fun i σ H1 => ∃ f y3, σ = [some (.ref a), some (.int k), some (.int f), y3] ∧ 0 ≤ f ∧ H1 = H) ⟨k, none, rfl, h0, rfl⟩ (fun i σ H1 _ p => ?_) (fun i x σ H1 hx p => ?_) (fun σ H1 p => ?_)⟩
  · obtain ⟨_, _, _, _, rfl⟩ := p
    exact hS
  · obtain ⟨g, y3, rfl, hg, rfl⟩ := p
    obtain ⟨c, hc, rfl⟩ := map_get hx
    refine ⟨_, rfl, _, _, rfl, rfl, .inr ⟨by decide, by decide⟩, _, rfl, _, rfl, _, _, rfl, rfl, _, _, rfl, rfl, (by show (0 : Int) < 2147483647; decide), ?_⟩
    exact ⟨_, _, rfl, Int.emod_nonneg _ (by decide), rfl⟩
  · obtain ⟨g, y3, rfl, hg, rfl⟩ := p
    refine ⟨_, rfl, by show 2 ≤ sizeLine; decide, fun p np => ?_⟩
    have s1 : Same H1 (upd H1 p (.lst [.int g, .int 0])) := same_new np
    refine ⟨_, rfl, a, rfl, ⟨_, s1.seq hS⟩, fun D hD => lcN_list (fun i => (ns[i]?).bind fun k => if decide ((10 : Int) ^ (18 : Int).toNat ≤ k) = true then some (.int k) else none) (s1.seq hS) hD (by rw [List.length_map]; omega) (fun i x H3 N1 N0 hx s3 k1 k0 => ?_) (fun H3 s3 lb => ?_)⟩
    · obtain ⟨c, hc, rfl⟩ := map_get hx
      refine ⟨rfl, _, rfl, _, _, rfl, rfl, ⟨by decide, by decide, by decide⟩, _, _, rfl, rfl, _, rfl, ite2 (fun e => ?_) (fun e => ?_)⟩
      · exact ⟨_, rfl, k1 _ H3 _ (Same.refl _) (by rw [hc, Option.bind_some, if_pos e]) (.int _)⟩
      · exact k0 H3 (Same.refl _) (by rw [hc, Option.bind_some, if_neg e])
    · rw [List.length_map, list_ints (p := fun k => decide ((10 : Int) ^ (18 : Int).toNat ≤ k))] at lb
      have hl := List.length_filter_le (fun k => decide ((10 : Int) ^ (18 : Int).toNat ≤ k)) ns
      refine ⟨p, D, _, _, rfl, rfl, s3 _ _ upd_same, lb.ints, ?_, fun r nr => ?_⟩
      · rw [List.length_map]
        exact Nat.le_of_lt (sizeOk (by simp only [List.length_cons, List.length_nil]; omega))
      · refine q _ r (g :: 0 :: ns.filter fun k => decide ((10 : Int) ^ (18 : Int).toNat ≤ k)) (s1.trans (s3.trans (same_new nr))) (s1.free (s3.free nr)) upd_same ⟨by simp, by rw [List.length_cons, List.length_cons]; omega, fun x hx => ?_⟩
        rcases List.mem_cons.mp hx with e | hx
        · rw [e]
          exact hg
        · rcases List.mem_cons.mp hx with e | hx
          · rw [e]
            exact Int.le_refl _
          · have := of_decide_eq_true (List.mem_filter.mp hx).2
            exact Int.le_trans (by decide) this
def spOff : Sp := fun vs H Q _ => ∃ (d : Addr) (m : Int) (D : List Int), vs = [.ref d, .int m] ∧ 0 < m ∧ m < 1073741824 ∧ H d = some (.lst (D.map V.int)) ∧ DiceOk D ∧ ∀ r D', 0 ≤ r → r < m → DiceOk D' → Q (.int r) (upd H d (.lst (D'.map V.int)))
theorem ok__law_off (T : Tx K mg) : Cl P w K mg base 1 "_law_off" spOff := by
  refine T.d__law_off.cl sc__law_off (fun vs H Q E h => ?_) (fun f cdv A outer s H vs Q E hr h => ?_)
  · obtain ⟨d, m, D, rfl, _⟩ := h
    rfl
  obtain ⟨d, m, D, rfl, hm, hm2, hH, hk, q⟩ := h
  refine ⟨_, (pss_cons (ps_if (PW.pt (pw_and (pt_cmpR op_eq (pe_ix (ixL K) (pv 0) pe_int (fun _ _ => rfl)) pe_int (nomark _)) (pw_and1 (pt_cmpR op_gt (pe_callB (lenQ K) (by rfl) T.z_len (by decide +kernel) (pa_cons (pv 0) pa_nil)) pe_int (nomark _))))) (pss_one (ps_asg (pe_bm PySem.F.plainAttrs_list PySem.F.slot_list_pop PySem.F.type_list_pop mt_popAt (pv 0) (pa_cons pe_int pa_nil)) (pg_sub (pv 0) pe_int set_list))) pss_nil)
      (pss_cons (ps_if (pt_cmpR op_gt (pe_ix (ixL K) (pv 0) pe_int (fun _ _ => rfl)) pe_int (nomark _)) (pss_cons (ps_set (i := 2) sc__law_off.nd rfl (by first | exact Or.inl rfl | exact Or.inr rfl) (pe_op op_mod (pe_ix (ixL K) (pv 0) pe_int (fun _ _ => rfl)) (pv 1)))
      (pss_cons (ps_asg (pe_op op_fdiv (pe_ix (ixL K) (pv 0) pe_int (fun _ _ => rfl)) (pv 1)) (pg_sub (pv 0) pe_int set_list))
      (pss_one (ps_ret (pv 2))))) pss_nil)
      (pss_cons (ps_asg (pe_op op_mod (pe_op op_add (pe_op op_mul (pe_ix (ixL K) (pv 0) pe_int (fun _ _ => rfl)) pe_int) pe_int) pe_int) (pg_sub (pv 0) pe_int set_list))
      (pss_one (ps_ret (pe_op op_mod (pe_op op_fdiv (pe_ix (ixL K) (pv 0) pe_int (fun _ _ => rfl)) pe_int) (pv 1))))))), ?_⟩
  refine seq_join (fun σ' H' => ∃ x0 x1 r, σ' = [some (.ref d), some (.int m), none] ∧ H' d = some (.lst ((x0 :: x1 :: r : List Int).map V.int)) ∧ DiceOk (x0 :: x1 :: r) ∧ ∀ o, upd H' d o = upd H d o) (fun σ' H' hJ => ?_) (fun N hN => ?_)
  · obtain ⟨x0, x1, r, rfl, h1, ⟨k1, k2, k3⟩, hu⟩ := hJ
    have n0 : 0 ≤ x0 := k3 x0 (by simp)
    have n1 : 0 ≤ x1 := k3 x1 (by simp)
    have ix0 : atI ((x0 :: x1 :: r : List Int).map V.int) 0 = some (.int x0) := atI_nat (j := 0) rfl
    have ix1 : atI ((x0 :: x1 :: r : List Int).map V.int) 1 = some (.int x1) := atI_nat (j := 1) rfl
    have jx0 : ixN ((x0 :: x1 :: r : List Int).map V.int).length 0 = some 0 := ixN_at (j := 0) (by simp)
    have jx1 : ixN ((x0 :: x1 :: r : List Int).map V.int).length 1 = some 1 := ixN_at (j := 1) (by simp)
    refine ⟨_, rfl, d, _, 1, _, rfl, rfl, SqL.of h1, ix1, _, _, rfl, rfl, _, rfl, ite2 (fun c => ?_) (fun c => ?_)⟩
    · refine ⟨_, rfl, d, _, 1, _, rfl, rfl, SqL.of h1, ix1, _, rfl, _, _, rfl, rfl, hm, ?_⟩
      refine ⟨_, rfl, d, _, 1, _, rfl, rfl, SqL.of h1, ix1, _, rfl, _, _, rfl, rfl, ⟨hm, hm2⟩, _, rfl, d, _, 1, 1, rfl, rfl, h1, jx1, ?_⟩
      refine ⟨_, rfl, ?_⟩
      rw [hu]
      refine q (x1 % m) (x0 :: (x1 / m) :: r) (Int.emod_nonneg _ (by omega)) (Int.emod_lt_of_pos _ hm) ⟨by simp, by simpa using k2, fun x hx => ?_⟩
      rcases List.mem_cons.mp hx with e | hx
      · rw [e]
        exact n0
      · rcases List.mem_cons.mp hx with e | hx
        · rw [e]
          exact Int.ediv_nonneg n1 (by omega)
        · exact k3 x (by simp [hx])
    · refine ⟨_, rfl, d, _, 0, _, rfl, rfl, SqL.of h1, ix0, _, _, rfl, rfl, .inr ⟨by decide, by decide⟩, _, _, rfl, rfl, _, _, rfl, rfl, (by show (0 : Int) < 2147483647; decide), _, rfl, d, _, 0, 0, rfl, rfl, h1, jx0, ?_⟩
      refine ⟨_, rfl, d, (((x0 * 48271 + 11) % 2147483647 :: x1 :: r : List Int).map V.int), 0, _, rfl, rfl, SqL.of upd_same, atI_nat (j := 0) rfl, _, _, rfl, rfl, ⟨by decide, by decide⟩, _, rfl, _, _, rfl, rfl, hm, ?_⟩
      rw [hu]
      refine q _ ((x0 * 48271 + 11) % 2147483647 :: x1 :: r) (Int.emod_nonneg _ (by omega)) (Int.emod_lt_of_pos _ hm) ⟨by simp, by simpa using k2, fun x hx => ?_⟩
      rcases List.mem_cons.mp hx with e | hx
      · rw [e]
        exact Int.emod_nonneg _ (by decide)
      · exact k3 x (List.mem_cons_of_mem _ hx)
  · obtain ⟨k1, k2, k3⟩ := hk
    match D, hH, k1, k2, k3 with
    | x0 :: x1 :: r, hH, k1, k2, k3 =>
      have ix1 : atI ((x0 :: x1 :: r : List Int).map V.int) 1 = some (.int x1) := atI_nat (j := 1) rfl
      refine ⟨_, rfl, d, _, 1, _, rfl, rfl, SqL.of hH, ix1, rfl, _, rfl, ite2 (fun c => ?_) (fun c => ?_)⟩
      · refine ⟨_, rfl, d, _, rfl, .inl (SqL.of hH), _, _, rfl, rfl, _, rfl, ite2 (fun e => ?_) (fun e => ?_)⟩
        · have e1 : (2 : Int) < (((x0 :: x1 :: r : List Int).map V.int).length : Nat) := of_decide_eq_true e
          match r, hH, k1, k2, k3, e1 with
          | [], _, _, _, _, e1 => exact absurd e1 (by simp)
          | x2 :: r, hH, k1, k2, k3, e1 =>
            have jx2 : ixN ((x0 :: x1 :: x2 :: r : List Int).map V.int).length 2 = some 2 := ixN_at (j := 2) (by simp)
            refine ⟨_, rfl, .inl ⟨rfl, _, SqL.of hH⟩, d, _, 2, 2, .int x2, rfl, rfl, hH, by decide, by decide, (ixN_seq jx2).1, rfl, _, rfl, d, ((x0 :: x1 :: r : List Int).map V.int), 1, 1, rfl, rfl, upd_same, ixN_at (j := 1) (by simp), ?_⟩
            refine hN _ _ ⟨x0, x2, r, rfl, upd_same, ⟨by simp, by simp at k2 ⊢; omega, fun x hx => k3 x ?_⟩, fun o => by rw [upd_upd, upd_upd]⟩
            rcases List.mem_cons.mp hx with e | hx
            · simp [e]
            · rcases List.mem_cons.mp hx with e | hx
              · simp [e]
              · simp [hx]
        · exact hN _ _ ⟨x0, x1, r, rfl, hH, ⟨k1, k2, k3⟩, fun o => rfl⟩
      · exact iteF (hN _ _ ⟨x0, x1, r, rfl, hH, ⟨k1, k2, k3⟩, fun o => rfl⟩)
def spSize : Sp := fun vs H Q _ => ∃ (d : Addr) (D : List Int), vs = [.ref d] ∧ H d = some (.lst (D.map V.int)) ∧ DiceOk D ∧ ∀ (n : Nat) H' D', 1 ≤ n → n ≤ 64 → SameBut d H H' → H' d = some (.lst (D'.map V.int)) → DiceOk D' → Q (.int n) H'
theorem ok__law_size (T : Tx K mg) : Cl P w K mg base 2 "_law_size" spSize := by
  refine T.d__law_size.cl sc__law_size (fun vs H Q E h => ?_) (fun f cdv A outer s H vs Q E hr h => ?_)
  · obtain ⟨d, D, rfl, _⟩ := h
    rfl
  obtain ⟨d, D, rfl, hH, hk, q⟩ := h
  refine ⟨_, (pss_one (ps_ret (pe_ix (ixL K) (pe_lst (pa_cons pe_int (pa_cons pe_int (pa_cons pe_int (pa_cons (pe_op op_add pe_int (pe_k (ok__law_off T) hr (pa_cons (pv 0) (pa_cons pe_int pa_nil)))) pa_nil))))) (pe_k (ok__law_off T) hr (pa_cons (pv 0) (pa_cons pe_int pa_nil))) (fun _ _ => rfl)))), ?_⟩
  refine ⟨_, rfl, d, 64, D, rfl, by decide, by decide, hH, hk, fun r D1 r0 r1 k1 => ⟨_, _, rfl, rfl, by show 4 ≤ sizeLine; decide, fun p np => ?_⟩⟩
  have npd : d ≠ p := ne_of_none upd_same np
  refine ⟨_, rfl, d, 4, D1, rfl, by decide, by decide, by rw [upd_ne npd]; exact upd_same, k1, fun r2 D2 r20 r21 k2 => ?_⟩
  have hp : upd (upd (upd H d (.lst (D1.map V.int))) p (.lst [.int 8, .int 20, .int 64, .int (1 + r)])) d (.lst (D2.map V.int)) p = some (.lst [.int 8, .int 20, .int 64, .int (1 + r)]) := by
    rw [upd_ne npd.symm]
    exact upd_same
  have sb : SameBut d H (upd (upd (upd H d (.lst (D1.map V.int))) p (.lst [.int 8, .int 20, .int 64, .int (1 + r)])) d (.lst (D2.map V.int))) := (SameBut.upd.trans (SameBut.of (same_new np))).trans SameBut.upd
  have fin : ∀ n : Nat, 1 ≤ n → n ≤ 64 → Q (.int n) (upd (upd (upd H d (.lst (D1.map V.int))) p (.lst [.int 8, .int 20, .int 64, .int (1 + r)])) d (.lst (D2.map V.int))) := fun n a b => q n _ D2 a b sb upd_same k2
  have c : r2 = 0 ∨ r2 = 1 ∨ r2 = 2 ∨ r2 = 3 := by omega
  rcases c with rfl | rfl | rfl | rfl
  · exact ⟨p, _, 0, .int 8, rfl, rfl, SqL.of hp, rfl, fin 8 (by decide) (by decide)⟩
  · exact ⟨p, _, 1, .int 20, rfl, rfl, SqL.of hp, rfl, fin 20 (by decide) (by decide)⟩
  · exact ⟨p, _, 2, .int 64, rfl, rfl, SqL.of hp, rfl, fin 64 (by decide) (by decide)⟩
  · have e : (1 : Int) + r = ((1 + r).toNat : Nat) := by omega
    refine ⟨p, _, 3, .int (1 + r), rfl, rfl, SqL.of hp, rfl, ?_⟩
    have g := fin (1 + r).toNat (by omega) (by omega)
    rw [← e] at g
    exact g
def spSet : Sp := fun vs H Q _ => ∃ (d : Addr) (D : List Int) (n m : Nat), vs = [.ref d, .int n, .int m] ∧ 1 ≤ n ∧ n ≤ 64 ∧ m ≤ 40 ∧ H d = some (.lst (D.map V.int)) ∧ DiceOk D ∧
  ∀ H' D' v R, SameBut d H H' → H' d = some (.lst (D'.map V.int)) → DiceOk D' → NewV H H' v (eR R) → Ok n R → R.length ≤ m → Q v H'
theorem ok__law_set (T : Tx K mg) : Cl P w K mg base 2 "_law_set" spSet := by
  refine T.d__law_set.cl sc__law_set (fun vs H Q E h => ?_) (fun f cdv A outer s H vs Q E hr h => ?_)
  · obtain ⟨d, D, n, m, rfl, _⟩ := h
    rfl
  obtain ⟨d, D, n, m, rfl, hn1, hn, hm, hH, hk, q⟩ := h
  refine ⟨_, (pss_cons (ps_set (i := 3) sc__law_set.nd rfl (by first | exact Or.inl rfl | exact Or.inr rfl) (pe_ix (ixL K) (pe_lst (pa_cons pe_int (pa_cons pe_int (pa_cons (pv 1) pa_nil)))) (pe_k (ok__law_off T) hr (pa_cons (pv 0) (pa_cons pe_int pa_nil))) (fun _ _ => rfl)))
      (pss_cons (ps_set (i := 4) sc__law_set.nd rfl (by first | exact Or.inl rfl | exact Or.inr rfl) (pe_lst pa_nil))
      (pss_cons (ps_for PassesOwn.never rfl (pi_range1 (by rfl) T.z_range (pa_cons (pe_k (ok__law_off T) hr (pa_cons (pv 0) (pa_cons (pe_op op_add (pv 2) pe_int) pa_nil))) pa_nil)) (pg_name (i := 5) sc__law_set.nd rfl (by first | exact Or.inl rfl | exact Or.inr rfl))
      (pss_cons (ps_set (i := 6) sc__law_set.nd rfl (by first | exact Or.inl rfl | exact Or.inr rfl) (pe_k (ok__law_off T) hr (pa_cons (pv 0) (pa_cons (pv 1) pa_nil))))
      (pss_one (ps_expr (pe_bm PySem.F.plainAttrs_list PySem.F.slot_list_append PySem.F.type_list_append mt_append (pv 4) (pa_cons (pe_tup (pa_cons (pv 6) (pa_cons (pe_callB (call_min2 rfl) (by rfl) T.z_min (by decide +kernel) (pa_cons (pe_op op_sub (pv 1) pe_int) (pa_cons (pe_op op_add (pv 6) (pe_k (ok__law_off T) hr (pa_cons (pv 0) (pa_cons (pv 3) pa_nil)))) pa_nil))) pa_nil))) pa_nil))))))
      (pss_one (ps_ret (pv 4)))))), ?_⟩
  -- the widths
  refine ⟨_, rfl, by show 3 ≤ sizeLine; decide, fun p np => ?_⟩
  have npd : d ≠ p := ne_of_none hH np
  refine ⟨_, rfl, d, 3, D, rfl, by decide, by decide, by rw [upd_ne npd]; exact hH, hk, fun r D1 r0 r1 k1 => ?_⟩
  have hp : upd (upd H p (.lst [.int 1, .int 3, .int n])) d (.lst (D1.map V.int)) p = some (.lst [.int 1, .int 3, .int n]) := by
    rw [upd_ne npd.symm]
    exact upd_same
  obtain ⟨wd, hw, w1, w2⟩ : ∃ wd : Int, atI [V.int 1, .int 3, .int n] r = some (.int wd) ∧ 0 < wd ∧ wd ≤ 64 := by
    have c : r = 0 ∨ r = 1 ∨ r = 2 := by omega
    rcases c with rfl | rfl | rfl
    · exact ⟨1, rfl, by decide, by decide⟩
    · exact ⟨3, rfl, by decide, by decide⟩
    · exact ⟨n, rfl, by omega, by omega⟩
  refine ⟨p, _, r, _, rfl, rfl, SqL.of hp, hw, ?_⟩
  have sb1 : SameBut d H (upd (upd H p (.lst [.int 1, .int 3, .int n])) d (.lst (D1.map V.int))) := (SameBut.of (same_new np)).trans SameBut.upd
  generalize hH1 : upd (upd H p (.lst [.int 1, .int 3, .int n])) d (.lst (D1.map V.int)) = H1 at sb1
  have hd1 : H1 d = some (.lst (D1.map V.int)) := by rw [← hH1]; exact upd_same
  -- found = []
  refine ⟨Nat.zero_le _, fun o no => ?_⟩
  have ndo : d ≠ o := ne_of_none hd1 no
  have no' : H o = none := by
    cases e : H o with
    | none => rfl
    | some u =>
      have := sb1 o u ndo.symm e
      rw [no] at this
      cases this
  -- the turns
  refine ⟨_, rfl, _, rfl, _, _, rfl, rfl, d, (m : Int) + 1, D1, rfl, by omega, by omega, by rw [upd_ne ndo]; exact hd1, k1, fun t D2 t0 t1 k2 => ?_⟩
  refine ⟨t, rfl, by omega, by omega, for_range (lo := 0) (n := t.toNat) (fun i σ H2 => ∃ (y5 y6 : Option V) (D3 : List Int) (R : List (Int × Int)), σ = [some (.ref d), some (.int n), some (.int m), some (.int wd), some (.ref o), y5, y6] ∧ SameBut d H H2 ∧ H2 d = some (.lst (D3.map V.int)) ∧ DiceOk D3 ∧ LB (del H d) (del H2 d) o (R.map eP) ∧ R.length = i ∧ (∀ r ∈ R, 0 ≤ r.1 ∧ r.1 ≤ r.2 ∧ r.2 < (n : Int))) ?_ (fun i σ H2 hi p => ?_) (fun σ H2 p => ?_)⟩
  · refine ⟨none, none, D2, [], rfl, (sb1.trans (SameBut.of (same_new no))).trans SameBut.upd, upd_same, k2, ⟨?_, [], ?_, .nil⟩, rfl, fun r hr => by simp at hr⟩
    · rw [del_ne ndo.symm]
      exact no'
    · rw [del_ne ndo.symm, upd_ne ndo.symm]
      exact upd_same
  · obtain ⟨y5, y6, D3, R, rfl, sb, hd, k3, lb, hRl, hR⟩ := p
    -- first
    refine ⟨_, rfl, _, rfl, d, (n : Int), D3, rfl, by omega, by omega, hd, k3, fun fi D4 f0 f1 k4 => ?_⟩
    have tyo : ∀ H3 : Hp, (∀ b o', b ≠ d → H2 b = some o' → H3 b = some o') → ∃ xs, H3 o = some (.lst xs) ∧ xs.length = R.length := fun H3 e => by
      obtain ⟨xs, h1, h2⟩ := lb.at
      rw [List.length_map] at h2
      rw [del_ne ndo.symm] at h1
      exact ⟨xs, e _ _ ndo.symm h1, h2⟩
    obtain ⟨xs4, ho4, hx4⟩ := tyo (upd H2 d (.lst (D4.map V.int))) fun b u nb e => by
      rw [upd_ne nb]
      exact e
    refine ⟨_, rfl, .inl ⟨rfl, _, SqL.of ho4⟩, _, rfl, _, rfl, _, _, rfl, rfl, _, rfl, _, rfl, _, rfl, d, wd, D4, rfl, w1, by omega, upd_same, k4, fun wi D5 u0 u1 k5 => ?_⟩
    refine ⟨_, _, rfl, rfl, _, _, rfl, by show 2 ≤ sizeLine; decide, fun tp ntp => ?_⟩
    rw [upd_upd] at ntp ⊢
    have ntd : d ≠ tp := ne_of_none upd_same ntp
    -- the new pair: (fi, la)
    generalize hla : (if fi + wi < (n : Int) - 1 then fi + wi else (n : Int) - 1) = la
    have l1 : fi ≤ la := by rw [← hla]; split <;> omega
    have l2 : la < n := by rw [← hla]; split <;> omega
    have sX : Same (del H2 d) (del (upd (upd H2 d (.lst (D5.map V.int))) tp (.tup [.int fi, .int la])) d) := fun b u e => by
      by_cases c : b = d
      · subst c
        rw [del_self] at e
        cases e
      · rw [del_ne c] at e ⊢
        have ct : b ≠ tp := fun z => by
          subst z
          rw [upd_ne c, e] at ntp
          cases ntp
        rw [upd_ne ct, upd_ne c]
        exact e
    have nvX : NewV (del H2 d) (del (upd (upd H2 d (.lst (D5.map V.int))) tp (.tup [.int fi, .int la])) d) (.ref tp) (eP (fi, la)) := by
      refine .tup (xs := [.int fi, .int la]) ?_ (.cons (.int _) (.cons (.int _) .nil))
      rw [fr_new (by rw [del_ne ntd.symm]; rw [upd_ne ntd.symm] at ntp; exact ntp), del_ne ntd.symm]
      exact upd_same
    have s0 : Same (del H d) (del H2 d) := fun b u e => by
      by_cases c : b = d
      · subst c
        rw [del_self] at e
        cases e
      · rw [del_ne c] at e ⊢
        exact sb b u c e
    obtain ⟨ys, z1, z2, z3⟩ := lb.snoc s0 sX nvX
    rw [del_ne ndo.symm] at z1
    refine ⟨o, ys, _, rfl, rfl, z1, sizeOk (by rw [z2, List.length_map]; omega), ?_⟩
    have nto : tp ≠ o := fun z => by
      subst z
      rw [upd_ne ntd.symm] at ntp
      obtain ⟨xs, h1, _⟩ := lb.at
      rw [del_ne ntd.symm, ntp] at h1
      cases h1
    refine ⟨_, _, D5, R ++ [(fi, la)], rfl, fun b u nb e => ?_, ?_, k5, ?_, by simp [hRl], fun r hr => ?_⟩
    · have nbo : b ≠ o := ne_of_none e no'
      have e2 := sb b u nb e
      have nbt : b ≠ tp := fun z => by
        subst z
        rw [upd_ne nb, e2] at ntp
        cases ntp
      rw [upd_ne nbo, upd_ne nbt, upd_ne nb]
      exact e2
    · rw [upd_ne ndo, upd_ne ntd]
      exact upd_same
    · rw [List.map_append]
      have e : del (upd (upd (upd H2 d (.lst (D5.map V.int))) tp (.tup [.int fi, .int la])) o (.lst (ys ++ [.ref tp]))) d = upd (del (upd (upd H2 d (.lst (D5.map V.int))) tp (.tup [.int fi, .int la])) d) o (.lst (ys ++ [.ref tp])) := by
        funext b
        by_cases c : b = d
        · subst c
          rw [del_self, upd_ne ndo, del_self]
        · rw [del_ne c]
          by_cases c2 : b = o
          · subst c2
            rw [upd_same, upd_same]
          · rw [upd_ne c2, upd_ne c2, del_ne c]
      rw [e]
      exact z3
    · rcases List.mem_append.mp hr with h | h
      · exact hR r h
      · obtain rfl := List.mem_singleton.mp h
        exact ⟨f0, l1, l2⟩
  · obtain ⟨y5, y6, D3, R, rfl, sb, hd, k3, lb, hRl, hR⟩ := p
    refine ⟨_, rfl, q H2 D3 _ R sb hd k3 ?_ ⟨by omega, hR⟩ (by omega)⟩
    have nv := lb.newV
    refine Dn.mono (fun b u e => ?_) nv
    obtain ⟨e1, e2⟩ := fr_some e
    by_cases c : b = d
    · subst c
      rw [del_self] at e2
      cases e2
    · rw [del_ne c] at e1 e2
      rw [fr_new e1]
      exact e2
end
section
variable {P : Program} {w : World} {K : PySem.W.Frag} {mg : Str → Option Value} {base : Heap}
/-- the same data twice, of fewer than n storeys: it is told True -/
def spAlike (K : PySem.W.Frag) : Nat → Sp
  | 0 => fun _ _ _ _ => False
  | n + 1 => fun vs H Q _ => ∃ (v u : V) (d : PyData), vs = [v, u] ∧ Dp K H v d ∧ Dp K H u d ∧ Al n d ∧ ∀ H', Same H H' → Q (.bl true) H'
theorem ok_alike_n (T : Tx K mg) : ∀ n : Nat, Cl P w K mg base n "_law_alike" (spAlike K n)
  | 0 => by
    obtain ⟨f, fd, F, g, b⟩ := T.d__law_alike.ex
    exact ⟨f, fd, _, ⟨fun vs H Q E h => h.elim, fun A outer s H args us vs Q E _ _ _ _ h => h.elim⟩, g, F.kp, b⟩
  | n + 1 => by
    have ih := ok_alike_n T n
    refine T.d__law_alike.cl sc__law_alike (fun vs H Q E h => ?_) (fun f cdv A outer s H vs Q E hr h => ?_)
    · obtain ⟨v, u, d, rfl, _⟩ := h
      rfl
    obtain ⟨v, u, d, rfl, hv, hu, al, q⟩ := h
    refine ⟨_, (pss_cons (ps_if (pt_cmpR op_isN (pv 1) pe_non (nomark _)) (pss_one (ps_ret (pe_cmpR op_isN (pv 0) pe_non (nomark _)))) pss_nil)
      (pss_cons (ps_if (pt_val (pe_callB (isD K) (by rfl) T.z_isinstance (by decide +kernel) (pa_cons (pv 1) (pa_cons (pe_bltn (v := .ty "bool") (by rfl) T.z_bool (by decide +kernel) rfl) pa_nil)))) (pss_one (ps_ret (pe_and (pe_callB (isD K) (by rfl) T.z_isinstance (by decide +kernel) (pa_cons (pv 0) (pa_cons (pe_bltn (v := .ty "bool") (by rfl) T.z_bool (by decide +kernel) rfl) pa_nil))) (pe_one (pe_cmpR op_eq (pv 0) (pv 1) (nomark _)))))) pss_nil)
      (pss_cons (ps_if (pt_val (pe_callB (isD K) (by rfl) T.z_isinstance (by decide +kernel) (pa_cons (pv 1) (pa_cons (pe_bltn (v := .ty "int") (by rfl) T.z_int (by decide +kernel) rfl) pa_nil)))) (pss_one (ps_ret (pe_and (pe_callB (isD K) (by rfl) T.z_isinstance (by decide +kernel) (pa_cons (pv 0) (pa_cons (pe_bltn (v := .ty "int") (by rfl) T.z_int (by decide +kernel) rfl) pa_nil))) (pe_and (pe_not (pe_callB (isD K) (by rfl) T.z_isinstance (by decide +kernel) (pa_cons (pv 0) (pa_cons (pe_bltn (v := .ty "bool") (by rfl) T.z_bool (by decide +kernel) rfl) pa_nil)))) (pe_one (pe_cmpR op_eq (pv 0) (pv 1) (nomark _))))))) pss_nil)
      (pss_cons (ps_if (pt_val (pe_callB (isD K) (by rfl) T.z_isinstance (by decide +kernel) (pa_cons (pv 1) (pa_cons (pe_bltn (v := .ty "str") (by rfl) T.z_str (by decide +kernel) rfl) pa_nil)))) (pss_one (ps_ret (pe_and (pe_callB (isD K) (by rfl) T.z_isinstance (by decide +kernel) (pa_cons (pv 0) (pa_cons (pe_bltn (v := .ty "str") (by rfl) T.z_str (by decide +kernel) rfl) pa_nil))) (pe_one (pe_cmpR op_eq (pv 0) (pv 1) (nomark _)))))) pss_nil)
      (pss_cons (ps_if (PW.pt (pw_or (pt_cmpR op_ne (pe_callB (isD K) (by rfl) T.z_isinstance (by decide +kernel) (pa_cons (pv 1) (pa_cons (pe_bltn (v := .ty "tuple") (by rfl) T.z_tuple (by decide +kernel) rfl) pa_nil))) (pe_callB (isD K) (by rfl) T.z_isinstance (by decide +kernel) (pa_cons (pv 0) (pa_cons (pe_bltn (v := .ty "tuple") (by rfl) T.z_tuple (by decide +kernel) rfl) pa_nil))) (nomark _)) (pw_or1 (pt_cmpR op_ne (pe_callB (isD K) (by rfl) T.z_isinstance (by decide +kernel) (pa_cons (pv 1) (pa_cons (pe_bltn (v := .ty "list") (by rfl) T.z_list (by decide +kernel) rfl) pa_nil))) (pe_callB (isD K) (by rfl) T.z_isinstance (by decide +kernel) (pa_cons (pv 0) (pa_cons (pe_bltn (v := .ty "list") (by rfl) T.z_list (by decide +kernel) rfl) pa_nil))) (nomark _))))) (pss_one (ps_ret pe_bl)) pss_nil)
      (pss_cons (ps_if (pt_cmpR op_ne (pe_callB (lenQ K) (by rfl) T.z_len (by decide +kernel) (pa_cons (pv 0) pa_nil)) (pe_callB (lenQ K) (by rfl) T.z_len (by decide +kernel) (pa_cons (pv 1) pa_nil)) (nomark _)) (pss_one (ps_ret pe_bl)) pss_nil)
      (pss_one (ps_ret (pe_callB (allQ K rfl) (by rfl) T.z_all (by decide +kernel) (pa_cons (pe_lc (own := [("_law_k", 2)]) (g := (gName 2)) (tt := tYes) (by rfl) sc__law_alike.nd (pi_range1 (by rfl) T.z_range (pa_cons (pe_callB (lenQ K) (by rfl) T.z_len (by decide +kernel) (pa_cons (pv 1) pa_nil)) pa_nil)) (blkOk_by (own := [("_law_k", 2)]) (N := n__law_alike) (sc := defScope s__law_alike) (by decide +kernel)) (fun _ _ _ _ _ => (pg_name (i := 2) sc__law_alike.nd rfl (by first | exact Or.inl rfl | exact Or.inr rfl))) (fun _ _ _ _ _ => pts_nil) (fun _ _ _ _ _ => (pe_k ih hr (pa_cons (pe_ix (ixQ K) (pv 0) (pv 2) (fun _ _ => rfl)) (pa_cons (pe_ix (ixQ K) (pv 1) (pv 2) (fun _ _ => rfl)) pa_nil)) (Nat.le_refl _)))) pa_nil)))))))))), ?_⟩
    have mB : "bool" ∈ ["bool", "int", "str", "tuple", "list"] := by decide
    have mI : "int" ∈ ["bool", "int", "str", "tuple", "list"] := by decide
    have mS : "str" ∈ ["bool", "int", "str", "tuple", "list"] := by decide
    have mT : "tuple" ∈ ["bool", "int", "str", "tuple", "list"] := by decide
    have mL : "list" ∈ ["bool", "int", "str", "tuple", "list"] := by decide
    refine ⟨_, rfl, rfl, _, rfl, ite2 (fun c => ?_) (fun c => ?_)⟩
    · have c1 : u = .non := of_decide_eq_true c
      subst c1
      cases hu
      cases hv
      exact ⟨_, rfl, rfl, q H (Same.refl _)⟩
    have nd : tyN d ≠ "NoneType" := fun z => c (by
      cases hu <;> first | rfl | (simp [tyN] at z))
    clear c
    refine ⟨_, rfl, _, "bool", d, rfl, mB, hu, _, rfl, ite2 (fun c => ?_) (fun c => ?_)⟩
    · refine ⟨_, rfl, _, "bool", d, rfl, mB, hv, _, rfl, itT c ⟨_, rfl, _, rfl, ?_⟩⟩
      obtain ⟨b, rfl⟩ := isT_bool c
      cases hu
      cases hv
      exact ⟨rfl, by rw [decide_eq_true rfl]; exact q H (Same.refl _)⟩
    refine ⟨_, rfl, _, "int", d, rfl, mI, hu, _, rfl, ite2 (fun c2 => ?_) (fun c2 => ?_)⟩
    · refine ⟨_, rfl, _, "int", d, rfl, mI, hv, _, rfl, itT c2 ⟨_, rfl, _, "bool", d, rfl, mB, hv, _, rfl, _, rfl, itT (by rw [Bool.not_eq_true', ← Bool.not_eq_true]; exact c) ⟨_, rfl, _, rfl, ?_⟩⟩⟩
      obtain ⟨b, rfl⟩ := isT_int c2 c
      cases hu
      cases hv
      exact ⟨rfl, by rw [decide_eq_true rfl]; exact q H (Same.refl _)⟩
    refine ⟨_, rfl, _, "str", d, rfl, mS, hu, _, rfl, ite2 (fun c3 => ?_) (fun c3 => ?_)⟩
    · refine ⟨_, rfl, _, "str", d, rfl, mS, hv, _, rfl, itT c3 ⟨_, rfl, _, rfl, ?_⟩⟩
      obtain ⟨b, rfl⟩ := isT_str c3
      cases hu
      cases hv
      exact ⟨rfl, by rw [decide_eq_true rfl]; exact q H (Same.refl _)⟩
    refine ⟨_, rfl, _, "tuple", d, rfl, mT, hu, _, rfl, _, "tuple", d, rfl, mT, hv, rfl, _, rfl, itF (by simp) ?_⟩
    refine ⟨_, rfl, _, "list", d, rfl, mL, hu, _, rfl, _, "list", d, rfl, mL, hv, rfl, _, rfl, itF (by simp) ?_⟩
    obtain ⟨a, b, xs, ys, ds, rfl, rfl, hx, hy, ax, ay, m, rfl, hlen, hal⟩ : ∃ (a b : Addr) (xs ys : List V) (ds : List PyData), v = .ref a ∧ u = .ref b ∧ (SqL K H a xs ∨ SqT K H a xs) ∧ (SqL K H b ys ∨ SqT K H b ys) ∧ DpAll K H xs ds ∧ DpAll K H ys ds ∧ ∃ m, n = m + 1 ∧ ds.length ≤ 100000 ∧ ∀ d ∈ ds, Al m d := by
      cases hu with
      | non => exact absurd rfl nd
      | bl b => exact absurd rfl c
      | int i => exact absurd rfl c2
      | str x => exact absurd rfl c3
      | lst h a =>
        cases hv with
        | lst h' a' =>
          cases n with
          | zero => exact al.elim
          | succ m => exact ⟨_, _, _, _, _, rfl, rfl, .inl h', .inl h, a', a, m, rfl, al.1, al.2⟩
      | tup h a =>
        cases hv with
        | tup h' a' =>
          cases n with
          | zero => exact al.elim
          | succ m => exact ⟨_, _, _, _, _, rfl, rfl, .inr h', .inr h, a', a, m, rfl, al.1, al.2⟩
    have lx := dpAll_len ax
    have ly := dpAll_len ay
    refine ⟨_, rfl, a, xs, rfl, hx, _, rfl, b, ys, rfl, hy, rfl, _, rfl, itF (by rw [lx, ly]; simp) ?_⟩
    refine ⟨_, rfl, b, ys, rfl, hy, (ys.length : Int), rfl, by omega, by omega, fun D hD => lcN_range0 (n := ys.length) (fun _ => some (.bool true)) hD (by omega) (fun i H1 N1 N0 hi sm k1 k0 => ?_) (fun H1 sm lb => ?_)⟩
    · have gx : xs[i]? = some xs[i] := List.getElem?_eq_getElem (by omega)
      have gy : ys[i]? = some ys[i] := List.getElem?_eq_getElem hi
      obtain ⟨d1, e1, p1⟩ := dpAll_get ax gx
      obtain ⟨d2, e2, p2⟩ := dpAll_get ay gy
      rw [e1] at e2
      obtain rfl := Option.some.inj e2
      have hx1 : SqL K H1 a xs ∨ SqT K H1 a xs := hx.imp sm.seq (same_tup sm)
      have hy1 : SqL K H1 b ys ∨ SqT K H1 b ys := hy.imp sm.seq (same_tup sm)
      refine ⟨rfl, yesT ⟨_, rfl, _, rfl, rIx_of hx1 gx ⟨_, rfl, _, rfl, rIx_of hy1 gy ?_⟩⟩⟩
      exact ⟨_, _, d1, rfl, same_dp sm p1, same_dp sm p2, hal d1 (List.mem_of_getElem? e1), fun H2 s2 => k1 _ H2 _ s2 rfl (.bl true)⟩
    · have e : (List.range ys.length).filterMap (fun _ => some (PyData.bool true)) = (List.replicate ys.length true).map PyData.bool := by
        rw [List.filterMap_eq_map', List.map_const', List.length_range, List.map_replicate]
      rw [e] at lb
      obtain ⟨_, zs, h1, h2⟩ := lb
      have e2 := dpAll_bools (K := K) h2.dp
      subst e2
      refine ⟨D, _, rfl, SqL.of h1, ?_⟩
      have e3 : (List.replicate ys.length true).all id = true := by simp
      rw [e3]
      exact q H1 sm
theorem ok__law_alike (T : Tx K mg) : Cl P w K mg base 6 "_law_alike" (spAlike K 6) := ok_alike_n T 6
end
section
variable {P : Program} {w : World} {K : PySem.W.Frag} {mg : Str → Option Value} {base : Heap}
def spMembers (K : PySem.W.Frag) : Sp := fun vs H Q _ => ∃ (n : Nat) (v : V) (R : List (Int × Int)), vs = [.int n, v] ∧ 1 ≤ n ∧ n ≤ 64 ∧ Dp K H v (eR R) ∧ Ok n R ∧ ∀ H' p, Same H H' → NewV H H' p (eI (allIn n R)) → Q p H'
theorem rg_map (a b : Int) : rgV a b = ((List.range (b - a).toNat).map fun (i : Nat) => a + (i : Int)).map V.int := by
  unfold rgV
  rw [List.map_map]
  rfl
theorem ok__law_members (T : Tx K mg) : Cl P w K mg base 1 "_law_members" (spMembers K) := by
  refine T.d__law_members.cl sc__law_members (fun vs H Q E h => ?_) (fun f cdv A outer s H vs Q E hr h => ?_)
  · obtain ⟨n, v, R, rfl, _⟩ := h
    rfl
  obtain ⟨n, v, R, rfl, h1, h2, hD, hk, q⟩ := h
  obtain ⟨a, xs, rfl, hS, hA⟩ := dp_list hD
  have hxl : xs.length = R.length := by rw [dpAll_len hA, List.length_map]
  have h40 := hk.1
  refine ⟨_, (pss_cons (ps_set (i := 2) sc__law_members.nd rfl (by first | exact Or.inl rfl | exact Or.inr rfl) (pe_lst pa_nil))
      (pss_cons (ps_for PassesOwn.never rfl (piL K (pv 1)) (pgT K (by rfl) (pgs_cons (pg_name (i := 3) sc__law_members.nd rfl (by first | exact Or.inl rfl | exact Or.inr rfl)) (pgs_cons (pg_name (i := 4) sc__law_members.nd rfl (by first | exact Or.inl rfl | exact Or.inr rfl)) pgs_nil)))
      (pss_one (ps_set (i := 2) sc__law_members.nd rfl (by first | exact Or.inl rfl | exact Or.inr rfl) (pe_op op_cat (pv 2) (pe_listRg (by rfl) (by rfl) T.z_list (prg_2 (by rfl) T.z_range (pv 3) (pe_op op_add (pv 4) pe_int)))))))
      (pss_one (ps_ret (pe_callB (sortedA w (by rfl)) (by rfl) T.z_sorted (by decide +kernel) (pa_cons (pe_callTy (setI K w (by rfl)) (by rfl) T.z_set (by decide +kernel) (pa_cons (pv 2) pa_nil)) pa_nil)))))), ?_⟩
  refine ⟨Nat.zero_le _, fun o no => ?_⟩
  refine ⟨_, rfl, a, rfl, ⟨_, (same_new no).seq hS⟩, for_list (xs := xs) (fun i σ H1 => ∃ (o : Addr) (ms : List Int) (y3 y4 : Option V), σ = [some (.int n), some (.ref a), some (.ref o), y3, y4] ∧ Same H H1 ∧ H1 o = some (.lst (ms.map V.int)) ∧ ms.length ≤ 64 * i ∧ ∀ k, k ∈ ms ↔ has (R.take i) k = true)
    ⟨o, [], none, none, rfl, same_new no, upd_same, by simp, by simp [has]⟩ (fun i σ H1 _ p => ?_) (fun i x σ H1 hx p => ?_) (fun σ H1 p => ?_)⟩
  · obtain ⟨_, _, _, _, _, sm, _⟩ := p
    exact sm.seq hS
  · obtain ⟨o, ms, y3, y4, rfl, sm, ho, hl, hm⟩ := p
    obtain ⟨d, hd, hx'⟩ := dpAll_get hA hx
    obtain ⟨r, hr', rfl⟩ := get_map hd
    obtain ⟨t, rfl, hT⟩ := dp_pair hx'
    obtain ⟨k1, k2, k3⟩ := hk.2 r (List.mem_of_getElem? hr')
    have hi : i < R.length := (List.getElem?_eq_some_iff.mp hr').1
    refine ⟨t, _, rfl, same_tup sm hT, rfl, _, _, rfl, _, _, rfl, rfl, ?_⟩
    refine ⟨_, rfl, _, rfl, _, rfl, _, _, rfl, rfl, r.1, r.2 + 1, rfl, rfl, RgOk.of_le k1 (by omega) (by omega) (by omega), fun g ng => ?_⟩
    have s2 := sm.trans (same_new (o := .lst (rgV r.1 (r.2 + 1))) ng)
    have hlen : (rgV r.1 (r.2 + 1)).length ≤ 64 := by
      rw [rgV_length]
      omega
    refine ⟨o, g, _, _, rfl, rfl, same_new ng _ _ ho, upd_same, Nat.le_of_lt (sizeOk (by rw [List.length_map]; omega)), fun p np => ?_⟩
    refine ⟨p, ms ++ (List.range (r.2 + 1 - r.1).toNat).map fun (i : Nat) => r.1 + (i : Int), _, _, rfl, s2.trans (same_new np), ?_, ?_, fun k => ?_⟩
    · rw [upd_same, List.map_append, rg_map]
    · rw [List.length_append, List.length_map, List.length_range]
      omega
    · rw [List.mem_append, hm k, List.take_add_one, hr', has_append, Bool.or_eq_true]
      have e : has (some r).toList k = true ↔ r.1 ≤ k ∧ k ≤ r.2 := by rw [has_iff]; simp
      rw [e, List.mem_map]
      constructor
      · rintro (z | ⟨j, hj, rfl⟩)
        · exact .inl z
        · have := List.mem_range.mp hj
          exact .inr ⟨by omega, by omega⟩
      · rintro (z | ⟨z1, z2⟩)
        · exact .inl z
        · exact .inr ⟨(k - r.1).toNat, List.mem_range.mpr (by omega), by omega⟩
  · obtain ⟨o, ms, y3, y4, rfl, sm, ho, hl, hm⟩ := p
    rw [hxl, List.take_length] at hm
    refine ⟨_, rfl, o, ms, rfl, SqL.of ho, by unfold scanBound; omega, fun g c ng hc => ?_⟩
    refine ⟨g, _, c, rfl, upd_same, by omega, fun ns p hp hmem hcl np => ?_⟩
    have e : ns = allIn n R := by
      refine rising_ext hp (rising_filter _) fun k => ?_
      rw [hmem k, decide_eq_true_iff, hm k, mem_allIn hk]
    subst e
    exact q _ _ (sm.trans ((same_new ng).trans (same_new np))) (newV_ints (sm.free (same_new ng |>.free np)) upd_same)
end
section
variable {P : Program} {w : World} {K : PySem.W.Frag} {mg : Str → Option Value} {base : Heap}
def spSets : Sp := fun vs H Q _ => ∃ (d : Addr) (D : List Int) (n : Nat), vs = [.ref d, .int n] ∧ 1 ≤ n ∧ n ≤ 64 ∧ H d = some (.lst (D.map V.int)) ∧ DiceOk D ∧
  ∀ H' D' v SS, SameBut d H H' → H' d = some (.lst (D'.map V.int)) → DiceOk D' → NewV H H' v (eRs SS) → SS.length ≤ 6 → (∀ R ∈ SS, Ok n R) → (∀ R ∈ SS, R.length ≤ 20) → Q v H'
theorem ok__law_sets (T : Tx K mg) : Cl P w K mg base 3 "_law_sets" spSets := by
  refine T.d__law_sets.cl sc__law_sets (fun vs H Q E h => ?_) (fun f cdv A outer s H vs Q E hr h => ?_)
  · obtain ⟨d, D, n, rfl, _⟩ := h
    rfl
  obtain ⟨d, D, n, rfl, hn1, hn, hH, hk, q⟩ := h
  refine ⟨_, (pss_cons (ps_set (i := 2) sc__law_sets.nd rfl (by first | exact Or.inl rfl | exact Or.inr rfl) (pe_lst pa_nil))
      (pss_cons (ps_for PassesOwn.never rfl (pi_range1 (by rfl) T.z_range (pa_cons (pe_k (ok__law_off T) hr (pa_cons (pv 0) (pa_cons pe_int pa_nil))) pa_nil)) (pg_name (i := 3) sc__law_sets.nd rfl (by first | exact Or.inl rfl | exact Or.inr rfl))
      (pss_cons (ps_set (i := 4) sc__law_sets.nd rfl (by first | exact Or.inl rfl | exact Or.inr rfl) (pe_k (ok__law_set T) hr (pa_cons (pv 0) (pa_cons (pv 1) (pa_cons pe_int pa_nil)))))
      (pss_cons (ps_if (PW.pt (pw_and (pt_cmpR (neD K hr.units) (pv 2) (pe_lst pa_nil) (nomark _)) (pw_and1 (pt_cmpR op_eq (pe_k (ok__law_off T) hr (pa_cons (pv 0) (pa_cons pe_int pa_nil))) pe_int (nomark _))))) (pss_cons (ps_set (i := 5) sc__law_sets.nd rfl (by first | exact Or.inl rfl | exact Or.inr rfl) (pe_op op_mul (pe_k (ok__law_off T) hr (pa_cons (pv 0) (pa_cons (pv 1) pa_nil))) (pe_k (ok__law_off T) hr (pa_cons (pv 0) (pa_cons pe_int pa_nil)))))
      (pss_one (ps_setLc (i := 4) (own := [("_law_first", 6), ("_law_last", 7)]) (g := (gTup K 2 (gCons (gName 6) (gCons (gName 7) gNil)))) (tt := _) (by rfl) sc__law_sets.nd rfl rfl (sw_true rfl rfl rfl (by decide +kernel)) (piL K (pe_ix (ixL K) (pv 2) (pe_un un_neg pe_int) (fun _ _ => rfl))) (blkOk_by (own := [("_law_first", 6), ("_law_last", 7)]) (N := n__law_sets) (sc := defScope s__law_sets) (by decide +kernel)) (fun _ _ _ _ _ => (pgT K (by rfl) (pgs_cons (pg_name (i := 6) sc__law_sets.nd rfl (by first | exact Or.inl rfl | exact Or.inr rfl)) (pgs_cons (pg_name (i := 7) sc__law_sets.nd rfl (by first | exact Or.inl rfl | exact Or.inr rfl)) pgs_nil)))) (fun _ _ _ _ _ => (pts_one (pt_cmpR op_lt (pe_op op_add (pv 7) (pv 5)) (pv 1) (nomark _)))) (fun _ _ _ _ _ => (pe_tup (pa_cons (pe_op op_add (pv 6) (pv 5)) (pa_cons (pe_op op_add (pv 7) (pv 5)) pa_nil))))))) pss_nil)
      (pss_one (ps_expr (pe_bm PySem.F.plainAttrs_list PySem.F.slot_list_append PySem.F.type_list_append mt_append (pv 2) (pa_cons (pv 4) pa_nil)))))))
      (pss_one (ps_ret (pv 2))))), ?_⟩
  refine ⟨Nat.zero_le _, fun o no => ?_⟩
  have ndo : d ≠ o := ne_of_none hH no
  refine ⟨_, rfl, d, 7, D, rfl, by decide, by decide, by rw [upd_ne ndo]; exact hH, hk, fun t D2 t0 t1 k2 => ?_⟩
  refine ⟨t, rfl, by omega, by omega, for_range (lo := 0) (n := t.toNat) (fun i σ H2 => ∃ (y3 y4 y5 y6 y7 : Option V) (D3 : List Int) (SS : List (List (Int × Int))), σ = [some (.ref d), some (.int n), some (.ref o), y3, y4, y5, y6, y7] ∧ H2 d = some (.lst (D3.map V.int)) ∧ DiceOk D3 ∧ Same (del H d) (del H2 d) ∧ LB (del H d) (del H2 d) o (SS.map eR) ∧ SS.length = i ∧ (∀ R ∈ SS, Ok n R) ∧ (∀ R ∈ SS, R.length ≤ 20)) ?_ (fun i σ H2 hi p => ?_) (fun σ H2 p => ?_)⟩
  · refine ⟨none, none, none, none, none, D2, [], rfl, upd_same, k2, ?_, ?_, rfl, fun R hR => by simp at hR, fun R hR => by simp at hR⟩
    · rw [del_upd_self, del_upd ndo.symm]
      exact same_new (by rw [del_ne ndo.symm]; exact no)
    · rw [del_upd_self, del_upd ndo.symm]
      exact LB.nil (by rw [del_ne ndo.symm]; exact no)
  · obtain ⟨y3, y4, y5, y6, y7, D3, SS, rfl, hd, k3, sm, lb, hl, hok, h20⟩ := p
    refine ⟨_, rfl, _, rfl, d, D3, n, 20, rfl, hn1, hn, by decide, hd, k3, fun H3 D4 v R sb3 hd3 k4 nv3 oR lR => ?_⟩
    have sd3 : Same (del H2 d) (del H3 d) := sb_same sb3
    have nvd3 := nv3.del hd
    have lb3 := lb.same sd3
    -- what is put in
    dsimp only [gName]
    refine seq_join (t := tIfS _ _ _) (fun σ' H' => ∃ (y5 y6 y7 : Option V) (D5 : List Int) (v' : V) (R' : List (Int × Int)), σ' = [some (.ref d), some (.int n), some (.ref o), some (.int (0 + (i : Int))), some v', y5, y6, y7] ∧ H' d = some (.lst (D5.map V.int)) ∧ DiceOk D5 ∧ Same (del H2 d) (del H' d) ∧ NewV (del H2 d) (del H' d) v' (eR R') ∧ Ok n R' ∧ R'.length ≤ 20) (fun σ' H' hJ => ?_) (fun N hN => ?_)
    · obtain ⟨z5, z6, z7, D5, v', R', rfl, hd', k5, s', nv', oR', lR'⟩ := hJ
      obtain ⟨ys, w1, w2, lb'⟩ := lb.snoc sm s' nv'
      rw [del_ne ndo.symm] at w1
      rw [List.length_map] at w2
      refine ⟨_, rfl, .inl ⟨rfl, _, SqL.of w1⟩, _, rfl, o, ys, _, rfl, rfl, w1, sizeOk (by omega), ?_⟩
      refine ⟨_, _, _, _, _, D5, SS ++ [R'], rfl, by rw [upd_ne ndo]; exact hd', k5, ?_, ?_, by simp [hl], fun z hz => ?_, fun z hz => ?_⟩
      · rw [del_upd ndo.symm]
        exact same_upd (sm.trans s') lb.1
      · rw [del_upd ndo.symm, List.map_append]
        exact lb'
      · rcases List.mem_append.mp hz with h | h
        · exact hok z h
        · obtain rfl := List.mem_singleton.mp h
          exact oR'
      · rcases List.mem_append.mp hz with h | h
        · exact h20 z h
        · obtain rfl := List.mem_singleton.mp h
          exact lR'
    · have hpl : ∀ G : Hp, Same H3 G → Dp K G (.ref o) (.list (SS.map eR)) := fun G s => same_dp (del_same.trans s) lb3.newV.dp
      refine ⟨_, rfl, Nat.zero_le _, fun p np => ⟨.list (SS.map eR), .list [], hpl _ (same_new np), .lst (SqL.of upd_same) .nil, (Sh.eRs (n := 0) SS).shaped, (sh_nil (n := 0)).shaped, _, rfl, ?_⟩⟩
      rw [eqv_nil]
      have s4 : Same H3 (upd H3 p (.lst [])) := same_new np
      have hd4 := s4 _ _ hd3
      generalize upd H3 p (.lst []) = H4 at s4 hd4
      have sd4 := sd3.trans (del_mono (d := d) s4)
      have nvd4 := nvd3.mono (Same.refl _) (del_mono (d := d) s4)
      rcases List.eq_nil_or_concat SS with e | ⟨ini, R0, e⟩
      · exact itF (by rw [e]; simp) (iteF (hN _ _ ⟨_, _, _, D4, v, R, rfl, hd4, k4, sd4, nvd4, oR, lR⟩))
      · rw [List.concat_eq_append] at e
        refine itT (by rw [e]; simp) ?_
        refine ⟨_, rfl, d, 2, D4, rfl, by decide, by decide, hd4, k4, fun r D5 r0 r1 k5 => ?_⟩
        have hd5 : upd H4 d (.lst (D5.map V.int)) d = some (.lst (D5.map V.int)) := upd_same
        have sd5 : Same (del H2 d) (del (upd H4 d (.lst (D5.map V.int))) d) := by rw [del_upd_self]; exact sd4
        have nvd5 : NewV (del H2 d) (del (upd H4 d (.lst (D5.map V.int))) d) v (eR R) := by rw [del_upd_self]; exact nvd4
        generalize upd H4 d (.lst (D5.map V.int)) = H5 at hd5 sd5 nvd5
        refine ⟨rfl, _, rfl, ite2 (fun c => ?_) (fun c => ?_)⟩
        · -- moved
          refine ⟨_, rfl, _, rfl, d, (n : Int), D5, rfl, by omega, by omega, hd5, k5, fun b1 D6 b10 b11 k6 => ?_⟩
          refine ⟨_, rfl, d, 2, D6, rfl, by decide, by decide, upd_same, k6, fun b2 D7 b20 b21 k7 => ?_⟩
          refine ⟨_, _, rfl, rfl, .inl ⟨by omega, by omega⟩, ?_⟩
          rw [upd_upd]
          have hd6 : upd H5 d (.lst (D7.map V.int)) d = some (.lst (D7.map V.int)) := upd_same
          have sd6 : Same (del H2 d) (del (upd H5 d (.lst (D7.map V.int))) d) := by rw [del_upd_self]; exact sd5
          generalize upd H5 d (.lst (D7.map V.int)) = H6 at hd6 sd6
          have by0 : 0 ≤ b1 * b2 := Int.mul_nonneg b10 b20
          dsimp only
          generalize b1 * b2 = bb at by0
          have lb6 := lb.same sd6
          rw [e, List.map_append] at lb6
          obtain ⟨xi, x, hoo, hdn⟩ := lb6.last
          rw [del_ne ndo.symm] at hoo
          obtain ⟨a0, x0, rfl, hS0, hA0⟩ := dp_list (K := K) (ds := R0.map eP) (same_dp del_same (NewV.dp hdn))
          have hx0 : x0.length = R0.length := by rw [dpAll_len hA0, List.length_map]
          have oR0 : Ok n R0 := hok R0 (by rw [e]; simp)
          have lR0 : R0.length ≤ 20 := h20 R0 (by rw [e]; simp)
          refine ⟨_, rfl, 1, rfl, o, _, -1, _, rfl, rfl, SqL.of hoo, atI_last _ _, a0, rfl, ⟨_, hS0⟩, fun L nL => lcN_list (fun i => (R0[i]?).bind fun r => if decide (r.2 + bb < (n : Int)) = true then some (eP (r.1 + bb, r.2 + bb)) else none) hS0 nL (by omega) (fun j x H7 N1 N0 hx s7 c1 c0 => ?_) (fun H7 s7 lb7 => ?_)⟩
          · obtain ⟨dd, hdd, hdx⟩ := dpAll_get hA0 hx
            obtain ⟨r', hr', rfl⟩ := get_map hdd
            obtain ⟨t', rfl, hT⟩ := dp_pair hdx
            refine ⟨t', _, rfl, same_tup s7 hT, rfl, _, _, rfl, _, _, rfl, rfl, rfl, _, rfl, _, rfl, _, _, rfl, rfl, _, rfl, _, _, rfl, rfl, _, rfl, ite2 (fun z => ?_) (fun z => ?_)⟩
            · refine ⟨_, rfl, _, rfl, _, _, rfl, rfl, _, rfl, _, rfl, _, _, rfl, rfl, by show 2 ≤ sizeLine; decide, fun u nu => ?_⟩
              exact c1 _ _ _ (same_new nu) (by rw [hr', Option.bind_some, if_pos z]) (new_pair nu)
            · exact c0 H7 (Same.refl _) (by rw [hr', Option.bind_some, if_neg z])
          · have ef : (List.range x0.length).filterMap (fun (i : Nat) => (R0[i]?).bind fun r => if decide (r.2 + bb < (n : Int)) = true then some (eP (r.1 + bb, r.2 + bb)) else none) = (R0.filterMap fun r => if decide (r.2 + bb < (n : Int)) = true then some (r.1 + bb, r.2 + bb) else none).map eP := by
              rw [hx0, list_fm, List.map_filterMap]
              congr 1
              funext r
              split <;> rfl
            rw [ef] at lb7
            have s7d : Same (del H6 d) (del H7 d) := del_mono s7
            refine hN _ _ ⟨_, _, _, D7, .ref L, _, rfl, s7 _ _ hd6, k7, sd6.trans s7d, ((lb7.newV).del hd6).mono sd6 (Same.refl _), ⟨?_, fun z hz => ?_⟩, Nat.le_trans (List.length_filterMap_le _ _) lR0⟩
            · exact Nat.le_trans (List.length_filterMap_le _ _) oR0.1
            · obtain ⟨r', hr', ez⟩ := List.mem_filterMap.mp hz
              obtain ⟨q1, q2, q3⟩ := oR0.2 r' hr'
              split at ez
              · rename_i c9
                have c9' := of_decide_eq_true c9
                obtain rfl := Option.some.inj ez
                exact ⟨by show 0 ≤ r'.1 + bb; omega, by show r'.1 + bb ≤ r'.2 + bb; omega, c9'⟩
              · cases ez
        · exact hN _ _ ⟨_, _, _, D5, v, R, rfl, hd5, k5, sd5, nvd5, oR, lR⟩
  · obtain ⟨y3, y4, y5, y6, y7, D3, SS, rfl, hd, k3, sm, lb, hl, hok, h20⟩ := p
    refine ⟨_, rfl, q H2 D3 _ SS (fun b u nb e => ?_) hd k3 lb.newV.undel (by omega) hok h20⟩
    have := sm b u (by rw [del_ne nb]; exact e)
    rw [del_ne nb] at this
    exact this
end
section
variable {P : Program} {w : World} {K : PySem.W.Frag} {mg : Str → Option Value} {base : Heap}
def spLTable (K : PySem.W.Frag) : Sp := fun vs H Q _ => ∃ (n : Nat) (v : V) (SS : List (List (Int × Int))) (wd : Nat), vs = [.int n, v, .int wd] ∧ 1 ≤ n ∧ n ≤ 64 ∧ 1 ≤ wd ∧ wd ≤ n ∧ Dp K H v (eRs SS) ∧ SS.length ≤ 1000 ∧ (∀ R ∈ SS, Ok n R) ∧ ∀ H' p, Same H H' → NewV H H' p (eTab n wd SS) → Q p H'
theorem ok__law_table (T : Tx K mg) : Cl P w K mg base 2 "_law_table" (spLTable K) := by
  refine T.d__law_table.cl sc__law_table (fun vs H Q E h => ?_) (fun f cdv A outer s H vs Q E hr h => ?_)
  · obtain ⟨n, v, SS, wd, rfl, _⟩ := h
    rfl
  obtain ⟨n, v, SS, wd, rfl, hn1, hn, hw1, hw2, hD, hl, hk, q⟩ := h
  obtain ⟨a, xs, rfl, hS, hA⟩ := dp_list hD
  have hxl : xs.length = SS.length := by rw [dpAll_len hA, List.length_map]
  have hc := cnt_le (n := n) hw1
  have hm : SS.length * cnt n wd ≤ 1000 * 64 := Nat.mul_le_mul hl (by omega)
  refine ⟨_, (pss_cons (ps_set (i := 3) sc__law_table.nd rfl (by first | exact Or.inl rfl | exact Or.inr rfl) (pe_lst pa_nil))
      (pss_cons (ps_set (i := 4) sc__law_table.nd rfl (by first | exact Or.inl rfl | exact Or.inr rfl) (pe_lst pa_nil))
      (pss_cons (ps_for PassesOwn.never rfl (piL K (pv 1)) (pg_name (i := 5) sc__law_table.nd rfl (by first | exact Or.inl rfl | exact Or.inr rfl))
      (pss_cons (ps_set (i := 6) sc__law_table.nd rfl (by first | exact Or.inl rfl | exact Or.inr rfl) (pe_k (ok__law_members T) hr (pa_cons (pv 0) (pa_cons (pv 5) pa_nil))))
      (pss_cons (ps_set (i := 7) sc__law_table.nd rfl (by first | exact Or.inl rfl | exact Or.inr rfl) (pe_op op_add_str (pe_join pe_str (pe_lc (own := [("_law_number", 8)]) (g := (gName 8)) (tt := tYes) (by rfl) sc__law_table.nd (pi_range1 (by rfl) T.z_range (pa_cons (pv 0) pa_nil)) (blkOk_by (own := [("_law_number", 8)]) (N := n__law_table) (sc := defScope s__law_table) (by decide +kernel)) (fun _ _ _ _ _ => (pg_name (i := 8) sc__law_table.nd rfl (by first | exact Or.inl rfl | exact Or.inr rfl))) (fun _ _ _ _ _ => pts_nil) (fun _ _ _ _ _ => (pe_ix ix_str pe_str (pe_callTy call_int1 (by rfl) T.z_int (by decide +kernel) (pa_cons (pe_cmpR (inQ K) (pv 8) (pv 6) (by rfl)) pa_nil)) (fun _ _ => rfl))))) (pe_op op_rep_str pe_str (pv 2))))
      (pss_cons (ps_setLc (i := 9) (own := [("_law_first", 10)]) (g := (gName 10)) (tt := tYes) (by rfl) sc__law_table.nd rfl rfl (sw_true rfl rfl rfl (by decide +kernel)) (pi_range3 (by rfl) T.z_range (pa_cons pe_int (pa_cons (pv 0) (pa_cons (pv 2) pa_nil)))) (blkOk_by (own := [("_law_first", 10)]) (N := n__law_table) (sc := defScope s__law_table) (by decide +kernel)) (fun _ _ _ _ _ => (pg_name (i := 10) sc__law_table.nd rfl (by first | exact Or.inl rfl | exact Or.inr rfl))) (fun _ _ _ _ _ => pts_nil) (fun _ _ _ _ _ => (pe_slice sl_str (pv 7) (po_some (pv 10)) (po_some (pe_op op_add (pv 10) (pv 2))))))
      (pss_cons (ps_for PassesOwn.never rfl (piL K (pv 9)) (pg_name (i := 11) sc__law_table.nd rfl (by first | exact Or.inl rfl | exact Or.inr rfl))
      (pss_one (ps_if (pt_cmpR (notInQ K) (pv 11) (pv 3) (by rfl)) (pss_one (ps_expr (pe_bm PySem.F.plainAttrs_list PySem.F.slot_list_append PySem.F.type_list_append mt_append (pv 3) (pa_cons (pv 11) pa_nil)))) pss_nil)))
      (pss_one (ps_expr (pe_bm PySem.F.plainAttrs_list PySem.F.slot_list_append PySem.F.type_list_append mt_append (pv 4) (pa_cons (pe_lc (own := [("_law_stretch", 11)]) (g := (gName 11)) (tt := tYes) (by rfl) sc__law_table.nd (piL K (pv 9)) (blkOk_by (own := [("_law_stretch", 11)]) (N := n__law_table) (sc := defScope s__law_table) (by decide +kernel)) (fun _ _ _ _ _ => (pg_name (i := 11) sc__law_table.nd rfl (by first | exact Or.inl rfl | exact Or.inr rfl))) (fun _ _ _ _ _ => pts_nil) (fun _ _ _ _ _ => (pe_bmK K PySem.F.plainAttrs_list PySem.F.slot_list_index PySem.F.type_list_index (mtIndex K) (pv 3) (pa_cons (pv 11) pa_nil)))) pa_nil)))))))))
      (pss_one (ps_ret (pe_tup (pa_cons (pv 4) (pa_cons (pv 3) pa_nil)))))))), ?_⟩
  refine ⟨Nat.zero_le _, fun o1 n1 => ⟨Nat.zero_le _, fun o2 n2 => ?_⟩⟩
  have n12 : o1 ≠ o2 := ne_of_none upd_same n2
  have n2H : H o2 = none := (same_new n1).free n2
  refine ⟨_, rfl, a, rfl, ⟨_, ((same_new n1).trans (same_new n2)).seq hS⟩, for_list (xs := xs) (fun i σ G => ∃ y5 y6 y7 y9 y11 : Option V, σ = [some (.int n), some (.ref a), some (.int wd), some (.ref o1), some (.ref o2), y5, y6, y7, none, y9, none, y11] ∧ Same H (del G o1) ∧ LB H (del G o1) o2 (((SS.take i).map fun R => (rowsR n wd R).map fun r => ((pl r (rowsT n wd SS) : Nat) : Int)).map eI) ∧ G o1 = some (.lst (((uniq ((SS.take i).flatMap (rowsR n wd))).map kt).map V.str))) ⟨none, none, none, none, none, rfl, ?_, ?_, ?_⟩ (fun i σ G _ p => ?_) (fun i x σ G hx p => ?_) (fun σ G p => ?_)⟩
  · rw [del_upd n12.symm, del_upd_self]
    refine same_upd (fun b o e => ?_) n2H
    rw [del_ne (ne_of_none e n1)]
    exact e
  · rw [del_upd n12.symm, del_upd_self]
    exact LB.nil n2H
  · rw [upd_ne n12]
    exact upd_same
  · obtain ⟨_, _, _, _, _, _, sm, _⟩ := p
    exact (sm.trans del_same).seq hS
  · obtain ⟨y5, y6, y7, y9, y11, rfl, sm, lb, h1⟩ := p
    have sH : Same H G := sm.trans del_same
    obtain ⟨dd, hdd, hdx⟩ := dpAll_get hA hx
    obtain ⟨R, hR, rfl⟩ := get_map hdd
    have hi : i < SS.length := (List.getElem?_eq_some_iff.mp hR).1
    have hRm : R ∈ SS := List.mem_of_getElem? hR
    have oR := hk R hRm
    have eS : SS = SS.take i ++ R :: SS.drop (i + 1) := by
      rw [← List.getElem?_eq_some_iff.mp hR |>.2, List.getElem_cons_drop, List.take_append_drop]
    -- numbers
    refine ⟨_, rfl, _, rfl, n, x, R, rfl, hn1, hn, same_dp sH hdx, oR, fun Ga pa sa na => ?_⟩
    obtain ⟨a6, x6, rfl, f6, h6, d6⟩ := newV_list na
    obtain rfl := dpAll_ints (K := K) d6.dp
    -- signs
    refine ⟨⟨_, rfl⟩, _, rfl, (n : Int), rfl, by omega, by omega, fun L nL => lcN_range0 (fun j => some (.str (SX.S [bitN (has R (j : Int))]))) nL (by omega) (fun j G2 N1 N0 hj s2 c1 c0 => ?_) (fun Gb sb lbb => ?_)⟩
    · refine ⟨rfl, yesT ⟨_, rfl, _, rfl, a6, _, rfl, .inl (SqL.of (s2 _ _ h6)), rfl, flat_ints _, .inr ⟨_, rfl, ?_⟩⟩⟩
      rw [if_neg Bool.false_ne_true, inV_ints, dec_allIn oR]
      cases e : has R (j : Int) with
      | true => exact ⟨_, 1, 49, rfl, rfl, by decide +kernel, by decide +kernel, c1 _ G2 _ (Same.refl _) (by rw [e]; rfl) (.str _)⟩
      | false => exact ⟨_, 0, 48, rfl, rfl, by decide +kernel, by decide +kernel, c1 _ G2 _ (Same.refl _) (by rw [e]; rfl) (.str _)⟩
    have ek : (List.range n).filterMap (fun (j : Nat) => some (PyData.str (SX.S [bitN (has R (j : Int))]))) = (((List.range n).map fun (j : Nat) => has R (j : Int)).map fun x => SX.S [bitN x]).map PyData.str := by
      rw [List.filterMap_eq_map', List.map_map, List.map_map]
      rfl
    rw [ek] at lbb
    have hL := lbb.strs
    generalize hbits : ((List.range n).map fun (j : Nat) => has R (j : Int)) = bits at hL
    have hbl : bits.length = n := by rw [← hbits, List.length_map, List.length_range]
    refine ⟨_, L, _, rfl, rfl, .inl (SqL.of hL), ?_, ?_⟩
    · rw [kt_sum, List.length_map, show (Str.ofString "").length = 0 by decide +kernel]
      omega
    rw [kt_join]
    refine ⟨_, rfl, 48, wd, congrArg V.str (by decide +kernel), rfl, hw1, by omega, ?_⟩
    refine ⟨_, _, rfl, rfl, ?_, ?_⟩
    · rw [kt_len, SX.S_len, List.length_replicate]
      exact Nat.le_of_lt (sizeOk (by omega))
    rw [kt_rep]
    have hfl : (bits ++ List.replicate wd false).length = n + wd := by rw [List.length_append, List.length_replicate, hbl]
    -- stretches
    refine ⟨_, rfl, _, rfl, 0, (n : Int), (wd : Int), cnt n wd, rfl, rgC_up hw1 (by omega) (by omega), fun D9 n9 => lcN_rangeC (lo := 0) (c := (wd : Int)) (n := cnt n wd) (fun j => some (.str (kt (rowP n R (j * wd) wd)))) n9 (by omega) (fun j G2 N1 N0 hj s2 c1 c0 => ?_) (fun Gc sc lbc => ?_)⟩
    · have e0 : (0 : Int) + (j : Nat) * (wd : Int) = ((j * wd : Nat) : Int) := by rw [Int.zero_add, Int.natCast_mul]
      rw [e0]
      have hjn := (cnt_lt hw1).mp hj
      refine ⟨rfl, yesT ⟨_, rfl, _, rfl, _, rfl, _, rfl, _, rfl, _, _, rfl, rfl, _, rfl, _, rfl, Nat.le_of_lt (sizeOk (by rw [kt_len, hfl]; omega)), ?_⟩⟩
      rw [cutS_kt (by rw [hfl]; omega), ← hbits, stretch hjn]
      exact c1 _ G2 _ (Same.refl _) rfl (.str _)
    have ek2 : (List.range (cnt n wd)).filterMap (fun j => some (PyData.str (kt (rowP n R (j * wd) wd)))) = ((rowsR n wd R).map kt).map PyData.str := by
      unfold rowsR
      rw [List.filterMap_eq_map', List.map_map, List.map_map]
      rfl
    rw [ek2] at lbc
    have h9 := lbc.strs
    have sac := sa.trans (sb.trans sc)
    have h1c := sac _ _ h1
    have nD9 : G D9 = none := (sa.trans sb).free n9
    have n91 : D9 ≠ o1 := ne_of_none h1 nD9 |>.symm
    clear hL lbb hbits ek hfl hbl
    -- unlike ones
    refine ⟨_, rfl, D9, rfl, ⟨_, SqL.of h9⟩, for_list (xs := ((rowsR n wd R).map kt).map V.str) (fun j σ G' => ∃ y11 : Option V, σ = [some (.int n), some (.ref a), some (.int wd), some (.ref o1), some (.ref o2), some x, some (.ref a6), some (.str (kt (bits ++ List.replicate wd false))), none, some (.ref D9), none, y11] ∧ SameBut o1 Gc G' ∧ G' o1 = some (.lst (((uniq ((SS.take i).flatMap (rowsR n wd) ++ (rowsR n wd R).take j)).map kt).map V.str))) ⟨_, rfl, SameBut.refl _ _, ?_⟩ (fun j σ G' _ p => ?_) (fun j z σ G' hz p => ?_) (fun σ G' p => ?_)⟩
    · rw [List.take_zero, List.append_nil]
      exact h1c
    · obtain ⟨_, _, sb', _⟩ := p
      exact SqL.of (sb' _ _ n91 h9)
    · obtain ⟨y11', rfl, sb', g1⟩ := p
      obtain ⟨z', hz', rfl⟩ := map_get hz
      have hzz : ∃ r, (rowsR n wd R)[j]? = some r ∧ z' = kt r := by
        rw [List.getElem?_map] at hz'
        cases e : (rowsR n wd R)[j]? with
        | none => rw [e] at hz'; cases hz'
        | some r => rw [e] at hz'; exact ⟨r, rfl, (Option.some.inj hz').symm⟩
      obtain ⟨r, hrg, rfl⟩ := hzz
      have en : uniq ((SS.take i).flatMap (rowsR n wd) ++ (rowsR n wd R).take (j + 1)) = addU (uniq ((SS.take i).flatMap (rowsR n wd) ++ (rowsR n wd R).take j)) r := by
        rw [List.take_add_one, hrg, ← List.append_assoc]
        exact uniq_snoc _ _
      refine ⟨_, rfl, _, rfl, o1, _, rfl, .inl (SqL.of g1), rfl, flat_strs _, _, rfl, ?_⟩
      rw [if_pos rfl, inV_strs, dec_kt]
      by_cases c : r ∈ uniq ((SS.take i).flatMap (rowsR n wd) ++ (rowsR n wd R).take j)
      · rw [decide_eq_true c]
        refine iteF ⟨_, rfl, sb', ?_⟩
        rw [en, addU_old c]
        exact g1
      · rw [decide_eq_false c]
        have hul := uniq_len ((SS.take i).flatMap (rowsR n wd) ++ (rowsR n wd R).take j)
        have hul2 : ((SS.take i).flatMap (rowsR n wd) ++ (rowsR n wd R).take j).length ≤ 1000 * 64 + 64 := by
          rw [List.length_append, flat_len, List.length_take, List.length_take, rowsR_len]
          have : min i SS.length * cnt n wd ≤ SS.length * cnt n wd := Nat.mul_le_mul_right _ (Nat.min_le_right _ _)
          omega
        refine iteT ⟨_, rfl, .inl ⟨rfl, _, SqL.of g1⟩, _, rfl, o1, _, _, rfl, rfl, g1, sizeOk (by rw [List.length_map, List.length_map]; omega), _, rfl, sb_upd_d sb', ?_⟩
        rw [upd_same, en, addU_new c, List.map_append, List.map_append]
        rfl
    obtain ⟨y11', rfl, sb', g1⟩ := p
    rw [List.length_map, List.length_map, List.take_length] at g1
    have h9' := sb' _ _ n91 h9
    have sbG : SameBut o1 G G' := (SameBut.of sac).trans sb'
    -- their numbers
    obtain ⟨zs, hzs, _⟩ := (lb.same (sb_same sbG)).at
    rw [del_ne n12.symm] at hzs
    refine ⟨_, rfl, .inl ⟨rfl, _, SqL.of hzs⟩, _, rfl, D9, rfl, ⟨_, SqL.of h9'⟩, fun L2 nL2 => lcN_list (fun j => ((rowsR n wd R)[j]?).bind fun r => some (.int ((pl r (rowsT n wd SS) : Nat) : Int))) (SqL.of h9') nL2 (by rw [List.length_map, List.length_map, rowsR_len]; omega) (fun j z G2 N1 N0 hz s2 c1 c0 => ?_) (fun Gd sd lbd => ?_)⟩
    · obtain ⟨z', hz', rfl⟩ := map_get hz
      have hzz : ∃ r, (rowsR n wd R)[j]? = some r ∧ z' = kt r := by
        rw [List.getElem?_map] at hz'
        cases e : (rowsR n wd R)[j]? with
        | none => rw [e] at hz'; cases hz'
        | some r => rw [e] at hz'; exact ⟨r, rfl, (Option.some.inj hz').symm⟩
      obtain ⟨r, hrg, rfl⟩ := hzz
      have hmem : r ∈ uniq ((SS.take i).flatMap (rowsR n wd) ++ rowsR n wd R) := mem_uniq.mpr (List.mem_append_right _ (List.mem_of_getElem? hrg))
      have g1' := s2 _ _ g1
      obtain ⟨rr, er⟩ := rows_pre (n := n) (w := wd) (SS.take i) R (SS.drop (i + 1)) (rowsR n wd R).length
      rw [← eS, List.take_length] at er
      have e1 : pl (kt r) ((uniq ((SS.take i).flatMap (rowsR n wd) ++ rowsR n wd R)).map kt) = pl r (rowsT n wd SS) := by
        rw [pl_map fun _ _ => kt_inj, er, pl_app hmem]
      refine ⟨rfl, yesT ⟨_, rfl, .inl ⟨rfl, _, SqL.of g1'⟩, _, rfl, ?_⟩⟩
      dsimp only [tNil]
      refine rIndex_strs (SqL.of g1') (mem_kt.mpr hmem) ?_
      rw [e1]
      exact c1 _ G2 _ (Same.refl _) (by rw [hrg]; rfl) (.int _)
    have ek3 : (List.range (((rowsR n wd R).map kt).map V.str).length).filterMap (fun j => ((rowsR n wd R)[j]?).bind fun r => some (PyData.int ((pl r (rowsT n wd SS) : Nat) : Int))) = ((rowsR n wd R).map fun r => ((pl r (rowsT n wd SS) : Nat) : Int)).map PyData.int := by
      rw [List.length_map, List.length_map, list_map (rowsR n wd R) fun r => PyData.int ((pl r (rowsT n wd SS) : Nat) : Int), List.map_map]
      rfl
    rw [ek3] at lbd
    have g1d := sd _ _ g1
    have sbd : SameBut o1 G Gd := sbG.trans (SameBut.of sd)
    have sdd : Same (del G o1) (del Gd o1) := sb_same sbd
    have nv : NewV (del G o1) (del Gd o1) (.ref L2) (eI ((rowsR n wd R).map fun r => ((pl r (rowsT n wd SS) : Nat) : Int))) := (lbd.newV.del g1).mono (sb_same sbG) (Same.refl _)
    obtain ⟨ws, w1, w2, lb2⟩ := lb.snoc sm sdd nv
    rw [del_ne n12.symm] at w1
    rw [List.length_map, List.length_map, List.length_take] at w2
    refine ⟨o2, ws, _, rfl, rfl, w1, sizeOk (by omega), _, _, _, _, _, rfl, ?_, ?_, ?_⟩
    · rw [del_upd n12.symm]
      exact same_upd (sm.trans sdd) n2H
    · rw [del_upd n12.symm, List.take_add_one, hR, List.map_append, List.map_append]
      exact lb2
    · rw [upd_ne n12, List.take_add_one, hR, List.flatMap_append]
      have e2 : (some R).toList.flatMap (rowsR n wd) = rowsR n wd R := by simp
      rw [e2]
      exact g1d
  · obtain ⟨y5, y6, y7, y9, y11, rfl, sm, lb, h1⟩ := p
    rw [hxl, List.take_length] at lb h1
    refine ⟨_, rfl, _, rfl, by show 2 ≤ sizeLine; decide, fun tp ntp => ?_⟩
    have sF : Same G (upd G tp (.tup [.ref o2, .ref o1])) := same_new ntp
    have sG : Same H G := sm.trans del_same
    refine q _ _ (sG.trans sF) ?_
    refine .tup (xs := [.ref o2, .ref o1]) ?_ (.cons ?_ (.cons ?_ .nil))
    · rw [fr_new (sG.free ntp)]
      exact upd_same
    · exact lb.newV.mono (Same.refl _) (del_same.trans sF)
    · refine .lst (xs := _) ?_ (dnAll_strs _)
      rw [fr_new n1]
      exact sF _ _ h1
theorem ok__law_cells (T : Tx K mg) : Cl P w K mg base 1 "_law_cells" (spRoom K) := by
  refine T.d__law_cells.cl sc__law_cells (fun vs H Q E h => ?_) (fun f cdv A outer s H vs Q E hr h => ?_)
  · obtain ⟨v, n, wd, SS, rfl, _⟩ := h
    rfl
  obtain ⟨v, n, wd, SS, rfl, hD, hl, hn, hw1, hw2, q⟩ := h
  have hc := cnt_le (n := n) hw1
  have hm : SS.length * cnt n wd ≤ 1000 * 64 := Nat.mul_le_mul hl (by omega)
  have hrl := rowsT_len n wd SS
  obtain ⟨t, ts, rfl, hT, hTA⟩ := dp_tuple hD
  cases hTA with
  | cons d1 hTA =>
  cases hTA with
  | cons d2 hTA =>
  cases hTA
  obtain ⟨a4, x4, rfl, hS4, hA4⟩ := dp_list d1
  obtain ⟨a5, x5, rfl, hS5, hA5⟩ := dp_list d2
  obtain rfl := dpAll_strs hA5
  have hfl : (firstsT n wd SS).length = SS.length := by unfold firstsT; rw [List.length_map]
  have x4l : x4.length = (firstsT n wd SS).length := by rw [dpAll_len hA4, List.length_map]
  refine ⟨_, (pss_one (ps_ret (pe_callB (sumQ K rfl) (by rfl) T.z_sum (by decide +kernel) (pa_cons (pe_op op_cat (pe_lc (own := [("_law_numbers", 1)]) (g := (gName 1)) (tt := tYes) (by rfl) sc__law_cells.nd (piL K (pe_ix (ixT K) (pv 0) pe_int (fun _ _ => rfl))) (blkOk_by (own := [("_law_numbers", 1)]) (N := n__law_cells) (sc := defScope s__law_cells) (by decide +kernel)) (fun _ _ _ _ _ => (pg_name (i := 1) sc__law_cells.nd rfl (by first | exact Or.inl rfl | exact Or.inr rfl))) (fun _ _ _ _ _ => pts_nil) (fun _ _ _ _ _ => (pe_callB (lenQ K) (by rfl) T.z_len (by decide +kernel) (pa_cons (pv 1) pa_nil)))) (pe_lc (own := [("_law_row", 2)]) (g := (gName 2)) (tt := tYes) (by rfl) sc__law_cells.nd (piL K (pe_ix (ixT K) (pv 0) pe_int (fun _ _ => rfl))) (blkOk_by (own := [("_law_row", 2)]) (N := n__law_cells) (sc := defScope s__law_cells) (by decide +kernel)) (fun _ _ _ _ _ => (pg_name (i := 2) sc__law_cells.nd rfl (by first | exact Or.inl rfl | exact Or.inr rfl))) (fun _ _ _ _ _ => pts_nil) (fun _ _ _ _ _ => (pe_callB call_len_str (by rfl) T.z_len (by decide +kernel) (pa_cons (pv 2) pa_nil))))) pa_nil)))), ?_⟩
  refine ⟨_, rfl, t, _, 0, _, rfl, rfl, hT, rfl, a4, rfl, ⟨_, hS4⟩, fun D1 n1 => lcN_list (fun i => ((firstsT n wd SS)[i]?).bind fun l => some (.int (l.length : Int))) hS4 n1 (by omega) (fun i x G N1 N0 hx sm c1 c0 => ?_) (fun H1 s1 lb1 => ?_)⟩
  · obtain ⟨dd, hdd, hdx⟩ := dpAll_get hA4 hx
    obtain ⟨l, hl', rfl⟩ := get_map hdd
    obtain ⟨b, ys, rfl, hb, hy⟩ := dp_list hdx
    obtain rfl := dpAll_ints hy
    exact ⟨rfl, yesT ⟨_, rfl, b, _, rfl, .inl (sm.seq hb), c1 _ G _ (Same.refl _) (by rw [hl', Option.bind_some, List.length_map]) (.int _)⟩⟩
  rw [x4l, list_map] at lb1
  have e1 : ((firstsT n wd SS).map fun l => PyData.int (l.length : Int)) = ((firstsT n wd SS).map fun l => (l.length : Int)).map PyData.int := by rw [List.map_map]; rfl
  rw [e1] at lb1
  refine ⟨_, rfl, t, _, 1, _, rfl, rfl, same_tup s1 hT, rfl, a5, rfl, ⟨_, s1.seq hS5⟩, fun D2 n2 => lcN_list (fun i => (((rowsT n wd SS).map kt)[i]?).bind fun r => some (.int (r.length : Int))) (s1.seq hS5) n2 (by rw [List.length_map, List.length_map]; omega) (fun i x G N1 N0 hx sm c1 c0 => ?_) (fun H2 s2 lb2 => ?_)⟩
  · obtain ⟨z, hz, rfl⟩ := map_get hx
    have hzl : z.length = wd := by
      obtain ⟨b, hb, rfl⟩ := List.mem_map.mp (List.mem_of_getElem? hz)
      rw [kt_len, rowsT_mem hb]
    exact ⟨rfl, yesT ⟨_, rfl, z, rfl, Nat.le_of_lt (sizeOk (by omega)), c1 _ G _ (Same.refl _) (by rw [hz]; rfl) (.int _)⟩⟩
  rw [List.length_map, list_map] at lb2
  have e2 : (((rowsT n wd SS).map kt).map fun r => PyData.int (r.length : Int)) = (((rowsT n wd SS).map kt).map fun r => (r.length : Int)).map PyData.int := by rw [List.map_map, List.map_map, List.map_map]; rfl
  rw [e2] at lb2
  refine ⟨D1, D2, _, _, rfl, rfl, s2 _ _ lb1.ints, lb2.ints, Nat.le_of_lt (sizeOk (by simp only [List.length_map]; omega)), fun p np => ?_⟩
  refine ⟨p, ((firstsT n wd SS).map fun l => (l.length : Int)) ++ (((rowsT n wd SS).map kt).map fun r => (r.length : Int)), rfl, SqL.of (by rw [upd_same, List.map_append]), ?_⟩
  have e3 : (((firstsT n wd SS).map fun l => (l.length : Int)) ++ (((rowsT n wd SS).map kt).map fun r => (r.length : Int))).sum = ((cells n wd SS : Nat) : Int) := by
    rw [List.sum_append, sum_firsts, sum_rows]
    unfold cells
    omega
  rw [e3]
  exact q _ (s1.trans (s2.trans (same_new np)))
end
section
variable {P : Program} {w : World} {K : PySem.W.Frag} {mg : Str → Option Value} {base : Heap}
def spLaw (K : PySem.W.Frag) : Sp := fun vs H Q _ => ∃ (a : Addr) (ns : List Int), vs = [.ref a] ∧ SqL K H a (ns.map V.int) ∧ ns.length ≤ 63 ∧ ∀ H', Q (.bl true) H'
theorem cells_more {n w : Nat} {SS : List (List (Int × Int))} {R : List (Int × Int)} (hR : R ∈ SS) : cells n w ((SS ++ [R]).take 6) ≤ cells n w SS + cnt n w := by
  unfold cells
  have h1 : ((SS ++ [R]).take 6).length ≤ SS.length + 1 := by rw [List.length_take]; simp; omega
  have h2 : ((SS ++ [R]).take 6).length * cnt n w ≤ (SS.length + 1) * cnt n w := Nat.mul_le_mul_right _ h1
  have h3 : (rowsT n w ((SS ++ [R]).take 6)).length ≤ (rowsT n w SS).length := cells_sub fun S hS => by
    rcases List.mem_append.mp (List.mem_of_mem_take hS) with h | h
    · exact h
    · rw [List.mem_singleton.mp h]
      exact hR
  have h4 := Nat.mul_le_mul_right w h3
  rw [Nat.succ_mul] at h2
  omega
theorem cells_fewer (n w : Nat) (SS : List (List (Int × Int))) : cells n w (SS.drop 1) ≤ cells n w SS := by
  unfold cells
  have h2 : (SS.drop 1).length * cnt n w ≤ SS.length * cnt n w := Nat.mul_le_mul_right _ (by rw [List.length_drop]; omega)
  have h3 : (rowsT n w (SS.drop 1)).length ≤ (rowsT n w SS).length := cells_sub fun S hS => List.mem_of_mem_drop hS
  have h4 := Nat.mul_le_mul_right w h3
  omega
set_option maxHeartbeats 8000000 in
theorem ok_law (T : Tx K mg) {f : Addr} {fd : FuncData} (F : Fun K "law" "law" s_law f fd) : FnOk P w K mg base CX0 8 f fd ["_law_script"] (spLaw K) := by
  refine F.ok sc_law (fun vs H Q E h => ?_) (fun cdv A outer s H vs Q E hr h => ?_)
  · obtain ⟨a, ns, rfl, _⟩ := h
    rfl
  obtain ⟨a, ns, rfl, hS, h63, q⟩ := h
  refine ⟨_, (pss_cons (ps_set (i := 1) sc_law.nd rfl (by first | exact Or.inl rfl | exact Or.inr rfl) (pe_k (ok__law_dice T) hr (pa_cons (pv 0) (pa_cons pe_int pa_nil))))
      (pss_cons (ps_set (i := 2) sc_law.nd rfl (by first | exact Or.inl rfl | exact Or.inr rfl) (pe_k (ok__law_size T) hr (pa_cons (pv 1) pa_nil)))
      (pss_cons (ps_set (i := 3) sc_law.nd rfl (by first | exact Or.inl rfl | exact Or.inr rfl) (pe_k (ok__law_sets T) hr (pa_cons (pv 1) (pa_cons (pv 2) pa_nil))))
      (pss_cons (ps_asg (pe_k (ok_least T) hr (pa_cons (pv 2) (pa_cons (pv 3) pa_nil))) (pgT K (by rfl) (pgs_cons (pg_name (i := 4) sc_law.nd rfl (by first | exact Or.inl rfl | exact Or.inr rfl)) (pgs_cons (pg_name (i := 5) sc_law.nd rfl (by first | exact Or.inl rfl | exact Or.inr rfl)) pgs_nil))))
      (pss_cons (ps_if (pt_not (pt_val (pe_k (ok__law_alike T) hr (pa_cons (pv 4) (pa_cons (pe_k (ok__law_cells T) hr (pa_cons (pe_k (ok_table T) hr (pa_cons (pv 2) (pa_cons (pv 3) (pa_cons (pv 5) pa_nil)))) pa_nil)) pa_nil))))) (pss_one (ps_ret pe_bl)) pss_nil)
      (pss_cons (ps_setLc (i := 6) (own := [("_law_one", 7)]) (g := (gName 7)) (tt := tYes) (by rfl) sc_law.nd rfl rfl (sw_true rfl rfl rfl (by decide +kernel)) (pi_range2 (by rfl) T.z_range (pa_cons pe_int (pa_cons (pe_op op_add (pv 2) pe_int) pa_nil))) (blkOk_by (own := [("_law_one", 7)]) (N := n_law) (sc := defScope s_law) (by decide +kernel)) (fun _ _ _ _ _ => (pg_name (i := 7) sc_law.nd rfl (by first | exact Or.inl rfl | exact Or.inr rfl))) (fun _ _ _ _ _ => pts_nil) (fun _ _ _ _ _ => (pe_tup (pa_cons (pe_k (ok__law_cells T) hr (pa_cons (pe_k (ok__law_table T) hr (pa_cons (pv 2) (pa_cons (pv 3) (pa_cons (pv 7) pa_nil)))) pa_nil)) (pa_cons (pv 7) pa_nil)))))
      (pss_cons (ps_if (pt_not (pt_val (pe_k (ok__law_alike T) hr (pa_cons (pe_tup (pa_cons (pv 4) (pa_cons (pv 5) pa_nil))) (pa_cons (pe_callB (minDK K (by rfl) (hu65 hr)) (by rfl) T.z_min (by decide +kernel) (pa_cons (pv 6) pa_nil)) pa_nil))))) (pss_one (ps_ret pe_bl)) pss_nil)
      (pss_cons (ps_if (pt_cmpR (neD K hr.units) (pv 3) (pe_lst pa_nil) (nomark _)) (pss_cons (ps_set (i := 8) sc_law.nd rfl (by first | exact Or.inl rfl | exact Or.inr rfl) (pe_slice (slL K) (pe_op op_cat (pv 3) (pe_slice (slL K) (pv 3) po_none (po_some pe_int))) po_none (po_some pe_int)))
      (pss_one (ps_if (PW.pt (pw_or (pt_cmpR op_gt (pe_ix (ixT K) (pe_k (ok_least T) hr (pa_cons (pv 2) (pa_cons (pv 8) pa_nil))) pe_int (fun _ _ => rfl)) (pe_op op_add (pv 4) (pe_op op_fdiv (pe_op op_sub (pe_op op_add (pv 2) (pv 5)) pe_int) (pv 5))) (nomark _)) (pw_or1 (pt_cmpR op_gt (pe_ix (ixT K) (pe_k (ok_least T) hr (pa_cons (pv 2) (pa_cons (pe_slice (slL K) (pv 3) (po_some pe_int) po_none) pa_nil))) pe_int (fun _ _ => rfl)) (pv 4) (nomark _))))) (pss_one (ps_ret pe_bl)) pss_nil))) pss_nil)
      (pss_one (ps_ret (pe_cmpR (eqD K hr.units) (pe_k (ok_least T) hr (pa_cons (pv 2) (pa_cons (pv 3) pa_nil))) (pe_tup (pa_cons (pv 4) (pa_cons (pv 5) pa_nil))) (nomark _)))))))))))), ?_⟩
  refine ⟨_, rfl, a, ns, 0, rfl, hS, h63, Int.le_refl 0, fun H1 d D s1 nd hd k1 => ?_⟩
  refine ⟨_, rfl, d, D, rfl, hd, k1, fun n H2 D2 hn1 hn2 sb2 hd2 k2 => ?_⟩
  refine ⟨_, rfl, _, rfl, d, D2, n, rfl, hn1, hn2, hd2, k2, fun H3 D3 v3 SS sb3 hd3 k3 nv3 lS oS l20 => ?_⟩
  obtain ⟨a3, x3, e3, f3, h3, d3⟩ := newV_list nv3
  subst e3
  have dA3 : DpAll K H3 x3 (SS.map eR) := same_dpAll fr_same d3.dp
  have x3l : x3.length = SS.length := by rw [d3.len, List.length_map]
  have l1000 : SS.length ≤ 1000 := by omega
  have p3 : Dp K H3 (.ref a3) (eRs SS) := nv3.dp
  -- least
  refine ⟨_, rfl, _, rfl, n, _, SS, rfl, hn1, hn2, p3, l1000, oS, fun H4 v4 s4 nv4 => ?_⟩
  obtain ⟨wd, hw1, hw2, elp⟩ := leastP_mem hn1 SS
  have hle : ∀ SS' : List (List (Int × Int)), (leastP n SS').1 ≤ ((cells n wd SS' : Nat) : Int) := fun SS' => leastP_le SS' hw1 hw2
  obtain ⟨t4, rfl, hT4⟩ := dp_pair (K := K) nv4.dp
  rw [elp] at hT4
  refine ⟨t4, _, rfl, hT4, rfl, _, _, rfl, _, _, rfl, rfl, ?_⟩
  dsimp only
  have p34 := same_dp s4 p3
  -- by table and own counting
  refine ⟨_, rfl, _, rfl, _, rfl, _, rfl, n, _, SS, wd, rfl, hn1, hn2, hw1, hw2, p34, l1000, oS, fun H5 v5 s5 nv5 => ?_⟩
  refine ⟨v5, n, wd, SS, rfl, nv5.dp, l1000, hn2, hw1, by omega, fun H6 s6 => ?_⟩
  refine ⟨_, _, .int ((cells n wd SS : Nat) : Int), rfl, .int _, .int _, Al.int _, fun H7 s7 => ⟨_, rfl, iteF ?_⟩⟩
  have s37 := s4.trans (s5.trans (s6.trans s7))
  -- all tables
  refine ⟨_, rfl, _, _, rfl, rfl, _, _, rfl, ⟨by omega, by omega, by omega, by omega⟩, fun a6 n6 => ?_⟩
  rw [show ((n : Int) + 1 - 1).toNat = n by omega]
  refine lcN_range (lo := 1) (n := n) (fun i => some (eP (((cells n (i + 1) SS : Nat) : Int), ((i : Int) + 1)))) n6 (by omega) (fun i G N1 N0 hi sm c1 c0 => ?_) (fun H8 s8 lb => ?_)
  · have e0 : (1 : Int) + (i : Int) = ((i + 1 : Nat) : Int) := by omega
    rw [e0]
    refine ⟨rfl, yesT ⟨_, rfl, _, rfl, _, rfl, n, _, SS, i + 1, rfl, hn1, hn2, by omega, by omega, same_dp (s37.trans sm) p3, l1000, oS, fun G2 p s2 nv => ?_⟩⟩
    refine ⟨p, n, i + 1, SS, rfl, nv.dp, l1000, hn2, by omega, by omega, fun G3 s3 => ⟨_, rfl, by show 2 ≤ sizeLine; decide, fun t nt => ?_⟩⟩
    refine c1 _ _ _ (s2.trans (s3.trans (same_new nt))) rfl ?_
    exact (new_pair nt).mono (s2.trans s3) (Same.refl _)
  have ep : (List.range n).filterMap (fun (i : Nat) => some (eP (((cells n (i + 1) SS : Nat) : Int), ((i : Int) + 1)))) = (pairsT n SS).map eP := by
    unfold pairsT
    rw [List.filterMap_eq_map', List.map_map]
    rfl
  rw [ep] at lb
  obtain ⟨x, xs, ex⟩ := pairs_cons hn1 SS
  obtain ⟨hsc, hsd⟩ := sh_pairs (pairsT n SS)
  have hal := alike_eP (pairsT n SS)
  obtain ⟨_, zs, hz, hzA⟩ := lb
  have elq : minP x xs = (((cells n wd SS : Nat) : Int), (wd : Int)) := by rw [← elp]; unfold leastP; rw [ex]
  rw [ex, List.map_cons] at hsc hsd hal hzA
  refine ⟨_, rfl, _, rfl, by show 2 ≤ sizeLine; decide, fun t9 n9 => ?_⟩
  have s9 : Same H8 (upd H8 t9 (.tup [.int ((cells n wd SS : Nat) : Int), .int wd])) := same_new n9
  have h9 : upd H8 t9 (.tup [.int ((cells n wd SS : Nat) : Int), .int wd]) t9 = some (.tup [.int ((cells n wd SS : Nat) : Int), .int wd]) := upd_same
  generalize upd H8 t9 (.tup [.int ((cells n wd SS : Nat) : Int), .int wd]) = H9 at s9 h9
  have hz9 : DpAll K H9 zs (eP x :: xs.map eP) := same_dpAll s9 (same_dpAll (del_same.trans fr_same) hzA.dp)
  refine ⟨_, rfl, a6, zs, eP x, xs.map eP, rfl, SqL.of (s9 _ _ hz), hz9, hal, hsc, hsd, fun i y hy hi => ?_⟩
  rw [minD_eP, elq] at hi
  obtain ⟨d', hd', hn'⟩ := dpAll_get hz9 hy
  rw [hi] at hd'
  obtain rfl := Option.some.inj hd'
  refine ⟨_, _, _, rfl, .tup (SqT.of h9) (.cons (.int _) (.cons (.int _) .nil)), hn', Al.eP (n := 4) (((cells n wd SS : Nat) : Int), (wd : Int)), fun H10 s10 => ⟨_, rfl, iteF ?_⟩⟩
  have s310 := s37.trans (s8.trans (s9.trans s10))
  -- more sets, fewer sets
  dsimp only [tNext]
  refine seq_join (t := tIfS _ _ _) (fun σ' H' => (∃ y8 : Option V, σ' = [some (.ref a), some (.ref d), some (.int n), some (.ref a3), some (.int ((cells n wd SS : Nat) : Int)), some (.int wd), some (.ref a6), none, y8]) ∧ Same H3 H') (fun σ' H' hJ => ?_) (fun N hN => ?_)
  · obtain ⟨⟨y8, rfl⟩, sJ⟩ := hJ
    refine ⟨_, rfl, _, rfl, n, _, SS, rfl, hn1, hn2, same_dp sJ p3, l1000, oS, fun H11 v11 s11 nv11 => ?_⟩
    refine ⟨_, rfl, _, rfl, by show 2 ≤ sizeLine; decide, fun t12 n12 => ⟨eP (leastP n SS), eP (leastP n SS), same_dp (same_new n12) nv11.dp, ?_, (Sh.eP (n := 0) _).shaped, (Sh.eP (n := 0) _).shaped, ?_⟩⟩
    · rw [elp]
      exact .tup (SqT.of upd_same) (.cons (.int _) (.cons (.int _) .nil))
    · rw [SeqAt.eqv_refl _ (Sh.eP (n := 0) _).1]
      exact q _
  have hpl : ∀ G : Hp, Same H3 G → Dp K G (.ref a3) (.list (SS.map eR)) := fun G s => same_dp s p3
  refine ⟨_, rfl, Nat.zero_le _, fun p np => ⟨.list (SS.map eR), .list [], hpl _ (s310.trans (same_new np)), .lst (SqL.of upd_same) .nil, (Sh.eRs (n := 0) SS).shaped, (sh_nil (n := 0)).shaped, _, rfl, ?_⟩⟩
  rw [eqv_nil]
  have s311 := s310.trans (same_new (o := .lst []) np)
  generalize upd H10 p (.lst []) = H11 at s311
  cases SS with
  | nil => exact itF (by simp) (hN _ _ ⟨⟨_, rfl⟩, s311⟩)
  | cons R SR =>
    refine itT (by simp) ?_
    have h311 := s311 _ _ h3
    have dA11 : DpAll K H11 x3 ((R :: SR).map eR) := same_dpAll s311 dA3
    have ec1 : cutV x3 none (some (1 : Int)) = x3.take 1 := cut_to x3 1
    refine ⟨_, rfl, _, rfl, 1, rfl, a3, x3, rfl, SqL.of h311, fun g1 ng1 => ?_⟩
    rw [ec1]
    refine ⟨a3, g1, x3, _, rfl, rfl, same_new ng1 _ _ h311, upd_same, Nat.le_of_lt (sizeOk (by rw [List.length_take]; omega)), fun g2 ng2 => ?_⟩
    refine ⟨6, rfl, g2, _, rfl, SqL.of upd_same, fun g3 ng3 => ?_⟩
    have ec6 : cutV (x3 ++ x3.take 1) none (some (6 : Int)) = (x3 ++ x3.take 1).take 6 := cut_to _ 6
    rw [ec6]
    have u1 := (same_new (o := .lst (x3.take 1)) ng1).trans ((same_new (o := .lst (x3 ++ x3.take 1)) ng2).trans (same_new (o := .lst ((x3 ++ x3.take 1).take 6)) ng3))
    have dM : DpAll K H11 ((x3 ++ x3.take 1).take 6) (((R :: SR) ++ [R]).take 6 |>.map eR) := by
      rw [List.map_take, List.map_append]
      refine dpAll_take 6 (dpAll_app dA11 ?_)
      exact dpAll_take 1 dA11
    have hg3 : upd (upd (upd H11 g1 (.lst (x3.take 1))) g2 (.lst (x3 ++ x3.take 1))) g3 (.lst ((x3 ++ x3.take 1).take 6)) g3 = some (.lst ((x3 ++ x3.take 1).take 6)) := upd_same
    generalize upd (upd (upd H11 g1 (.lst (x3.take 1))) g2 (.lst (x3 ++ x3.take 1))) g3 (.lst ((x3 ++ x3.take 1).take 6)) = H12 at u1 hg3
    have oM : ∀ S ∈ (((R :: SR) ++ [R]).take 6), Ok n S := fun S hS => by
      rcases List.mem_append.mp (List.mem_of_mem_take hS) with h | h
      · exact oS S h
      · rw [List.mem_singleton.mp h]
        exact oS R (by simp)
    refine ⟨_, rfl, _, rfl, n, _, ((R :: SR) ++ [R]).take 6, rfl, hn1, hn2, .lst (SqL.of hg3) (same_dpAll u1 dM), by rw [List.length_take]; omega, oM, fun H13 v13 s13 nv13 => ?_⟩
    obtain ⟨t13, rfl, hT13⟩ := dp_pair (K := K) nv13.dp
    have hc1 := cells_more (n := n) (w := wd) (SS := R :: SR) (R := R) (by simp)
    have hl1 := hle (((R :: SR) ++ [R]).take 6)
    refine ⟨t13, _, 0, _, rfl, rfl, hT13, rfl, _, rfl, _, rfl, _, rfl, _, _, rfl, rfl, _, _, rfl, rfl, _, rfl, _, _, rfl, rfl, ⟨by omega, by omega⟩, _, _, rfl, rfl, _, _, rfl, rfl, false, bF ?_, iteF ?_⟩
    · have e1 : ((n : Int) + (wd : Int) - 1) / (wd : Int) = ((cnt n wd : Nat) : Int) := by
        unfold cnt
        rw [← cast_div]
        congr 1
        omega
      rw [e1]
      omega
    have ec2 : cutV x3 (some (1 : Int)) none = x3.drop 1 := cut_from x3 1
    have t13' := u1.trans s13
    refine ⟨_, rfl, _, rfl, 1, rfl, a3, x3, rfl, SqL.of (t13' _ _ h311), fun g4 ng4 => ?_⟩
    rw [ec2]
    have dF : DpAll K H11 (x3.drop 1) (((R :: SR).drop 1).map eR) := by
      rw [List.map_drop]
      exact dpAll_drop 1 dA11
    refine ⟨n, _, (R :: SR).drop 1, rfl, hn1, hn2, .lst (SqL.of upd_same) (same_dpAll (t13'.trans (same_new ng4)) dF), by rw [List.length_drop]; omega, fun S hS => oS S (List.mem_of_mem_drop hS), fun H14 v14 s14 nv14 => ?_⟩
    obtain ⟨t14, rfl, hT14⟩ := dp_pair (K := K) nv14.dp
    have hc2 := cells_fewer n wd (R :: SR)
    have hl2 := hle ((R :: SR).drop 1)
    refine ⟨t14, _, 0, _, rfl, rfl, hT14, rfl, _, rfl, _, _, rfl, rfl, false, bF (by omega), iteF (hN _ _ ⟨⟨_, rfl⟩, s311.trans (t13'.trans ((same_new ng4).trans s14))⟩)⟩
end
/-! ### what the top has left, by names -/
def dd_need_size : He.DefD := ⟨("need_size", none), "need_size", "need_size", defArgs s_need_size, defBody s_need_size, defScope s_need_size, [], []⟩
def dd_need_set : He.DefD := ⟨("need_set", none), "need_set", "need_set", defArgs s_need_set, defBody s_need_set, defScope s_need_set, [], []⟩
def dd_has : He.DefD := ⟨("has", none), "has", "has", defArgs s_has, defBody s_has, defScope s_has, [], []⟩
def dd_need_sets : He.DefD := ⟨("need_sets", none), "need_sets", "need_sets", defArgs s_need_sets, defBody s_need_sets, defScope s_need_sets, [], []⟩
def dd_row_of : He.DefD := ⟨("row_of", none), "row_of", "row_of", defArgs s_row_of, defBody s_row_of, defScope s_row_of, [], []⟩
def dd_made : He.DefD := ⟨("made", none), "made", "made", defArgs s_made, defBody s_made, defScope s_made, [], []⟩
def dd_table : He.DefD := ⟨("table", none), "table", "table", defArgs s_table, defBody s_table, defScope s_table, [], []⟩
def dd_room_of : He.DefD := ⟨("room_of", none), "room_of", "room_of", defArgs s_room_of, defBody s_room_of, defScope s_room_of, [], []⟩
def dd_least : He.DefD := ⟨("least", none), "least", "least", defArgs s_least, defBody s_least, defScope s_least, [], []⟩
def dd__law_dice : He.DefD := ⟨("_law_dice", none), "_law_dice", "_law_dice", defArgs s__law_dice, defBody s__law_dice, defScope s__law_dice, [], []⟩
def dd__law_off : He.DefD := ⟨("_law_off", none), "_law_off", "_law_off", defArgs s__law_off, defBody s__law_off, defScope s__law_off, [], []⟩
def dd__law_alike : He.DefD := ⟨("_law_alike", none), "_law_alike", "_law_alike", defArgs s__law_alike, defBody s__law_alike, defScope s__law_alike, [], []⟩
def dd__law_size : He.DefD := ⟨("_law_size", none), "_law_size", "_law_size", defArgs s__law_size, defBody s__law_size, defScope s__law_size, [], []⟩
def dd__law_set : He.DefD := ⟨("_law_set", none), "_law_set", "_law_set", defArgs s__law_set, defBody s__law_set, defScope s__law_set, [], []⟩
def dd__law_members : He.DefD := ⟨("_law_members", none), "_law_members", "_law_members", defArgs s__law_members, defBody s__law_members, defScope s__law_members, [], []⟩
def dd__law_sets : He.DefD := ⟨("_law_sets", none), "_law_sets", "_law_sets", defArgs s__law_sets, defBody s__law_sets, defScope s__law_sets, [], []⟩
def dd__law_table : He.DefD := ⟨("_law_table", none), "_law_table", "_law_table", defArgs s__law_table, defBody s__law_table, defScope s__law_table, [], []⟩
def dd__law_cells : He.DefD := ⟨("_law_cells", none), "_law_cells", "_law_cells", defArgs s__law_cells, defBody s__law_cells, defScope s__law_cells, [], []⟩
def dd_law : He.DefD := ⟨("law", none), "law", "law", defArgs s_law, defBody s_law, defScope s_law, [], []⟩
def hfn : List He.DefD := [dd_need_size, dd_need_set, dd_has, dd_need_sets, dd_row_of, dd_made, dd_table, dd_room_of, dd_least, dd__law_dice, dd__law_off, dd__law_alike, dd__law_size, dd__law_set, dd__law_members, dd__law_sets, dd__law_table, dd__law_cells, dd_law]
def hfa : List He.Fa := [.glo "need_size", .glo "need_set", .glo "has", .glo "need_sets", .glo "row_of", .glo "made", .glo "table", .glo "room_of", .glo "least", .glo "_law_dice", .glo "_law_off", .glo "_law_alike", .glo "_law_size", .glo "_law_set", .glo "_law_members", .glo "_law_sets", .glo "_law_table", .glo "_law_cells", .glo "law", .int "MOST_SIZE" 64, .int "MOST_RANGES" 40, .free "range", .free "enumerate", .free "len", .free "min", .free "abs", .free "isinstance", .free "bool", .free "int", .free "str", .free "tuple", .free "list", .free "all", .free "sorted", .free "set", .free "sum"]
abbrev hR : PySem.W.OpenRow := PySem.W.OpenLaw.row PySem.Challenge.rw_signsets_k09_whole_the_fewest_cells
abbrev hhk : PySem.W.Hook := He.hookD 4 hfa hfn
def hob (s : PySem.W.SharedT) : He.AlD := He.obsDG 4 hfa hfn (HandSHeadRun.getT s)
theorem hob_eq (s : PySem.W.SharedT) : hob s = hhk.obs s.abs := He.obsDG_eq (HandSHeadRun.getT_eq s)
def hn0 : List Str := ["SetError", "BadSize", "BadSet", "BadNumber", "MOST_SIZE", "MOST_RANGES", "need_size", "need_set", "has", "need_sets", "row_of", "made", "table", "room_of", "least", "_law_dice", "_law_off", "_law_alike", "_law_size", "_law_set", "_law_members", "_law_sets", "_law_table", "_law_cells"]
def hnames : List Str := hn0
set_option maxHeartbeats 0 in
theorem hrun (w : World) : HandSHeadRun.RunEq hR (PySem.W.view hR.prog [28]) hhk hob 2000 hnames w := by
  intro os
  kernel_rfl
theorem fun_of {K : PySem.W.Frag} {x qual : Str} {st : Stmt} {f : Addr} {fd : FuncData} {kws : List (Str × V)} (F : FunD K x qual (defArgs st) (defBody st) (defScope st) [] kws f fd) : Fun K x qual st f fd := by
  obtain ⟨oc, od, dV, kV, doc, pm, an, cdv, ct, osl, rfl, lk, hcd, hD, hK⟩ := F.ex
  rcases hD with ⟨_, rfl⟩ | ⟨e, _⟩
  · exact ⟨⟨oc, od, kV, doc, pm, an, cdv, ct, osl, rfl, lk, hcd⟩, F.kp⟩
  · exact absurd rfl e
section
variable {K : PySem.W.Frag} {h : Heap} {mg : Str → Option Value}
theorem hd_need_size (X : K.In h) (G : h.Ns mainGlobals mg) (c : He.SaysD hfa hfn K) : Df K mg "need_size" s_need_size ["size"] := by
  obtain ⟨fd, F⟩ := c.def_ 0 (d := dd_need_size) rfl
  exact ⟨_, fd, fun_of F, He.glo_ok X G (c.fact 0 (f := .glo "need_size") rfl), F.bindsN fun _ _ _ _ _ _ us hl => match us, hl with | [_], _ => rfl⟩
theorem hd_need_set (X : K.In h) (G : h.Ns mainGlobals mg) (c : He.SaysD hfa hfn K) : Df K mg "need_set" s_need_set ["size", "ranges", "number"] := by
  obtain ⟨fd, F⟩ := c.def_ 1 (d := dd_need_set) rfl
  exact ⟨_, fd, fun_of F, He.glo_ok X G (c.fact 1 (f := .glo "need_set") rfl), F.bindsN fun _ _ _ _ _ _ us hl => match us, hl with | [_, _, _], _ => rfl⟩
theorem hd_has (X : K.In h) (G : h.Ns mainGlobals mg) (c : He.SaysD hfa hfn K) : Df K mg "has" s_has ["ranges", "number"] := by
  obtain ⟨fd, F⟩ := c.def_ 2 (d := dd_has) rfl
  exact ⟨_, fd, fun_of F, He.glo_ok X G (c.fact 2 (f := .glo "has") rfl), F.bindsN fun _ _ _ _ _ _ us hl => match us, hl with | [_, _], _ => rfl⟩
theorem hd_need_sets (X : K.In h) (G : h.Ns mainGlobals mg) (c : He.SaysD hfa hfn K) : Df K mg "need_sets" s_need_sets ["size", "sets"] := by
  obtain ⟨fd, F⟩ := c.def_ 3 (d := dd_need_sets) rfl
  exact ⟨_, fd, fun_of F, He.glo_ok X G (c.fact 3 (f := .glo "need_sets") rfl), F.bindsN fun _ _ _ _ _ _ us hl => match us, hl with | [_, _], _ => rfl⟩
theorem hd_row_of (X : K.In h) (G : h.Ns mainGlobals mg) (c : He.SaysD hfa hfn K) : Df K mg "row_of" s_row_of ["size", "ranges", "first", "wide"] := by
  obtain ⟨fd, F⟩ := c.def_ 4 (d := dd_row_of) rfl
  exact ⟨_, fd, fun_of F, He.glo_ok X G (c.fact 4 (f := .glo "row_of") rfl), F.bindsN fun _ _ _ _ _ _ us hl => match us, hl with | [_, _, _, _], _ => rfl⟩
theorem hd_made (X : K.In h) (G : h.Ns mainGlobals mg) (c : He.SaysD hfa hfn K) : Df K mg "made" s_made ["size", "sets", "wide"] := by
  obtain ⟨fd, F⟩ := c.def_ 5 (d := dd_made) rfl
  exact ⟨_, fd, fun_of F, He.glo_ok X G (c.fact 5 (f := .glo "made") rfl), F.bindsN fun _ _ _ _ _ _ us hl => match us, hl with | [_, _, _], _ => rfl⟩
theorem hd_table (X : K.In h) (G : h.Ns mainGlobals mg) (c : He.SaysD hfa hfn K) : Df K mg "table" s_table ["size", "sets", "wide"] := by
  obtain ⟨fd, F⟩ := c.def_ 6 (d := dd_table) rfl
  exact ⟨_, fd, fun_of F, He.glo_ok X G (c.fact 6 (f := .glo "table") rfl), F.bindsN fun _ _ _ _ _ _ us hl => match us, hl with | [_, _, _], _ => rfl⟩
theorem hd_room_of (X : K.In h) (G : h.Ns mainGlobals mg) (c : He.SaysD hfa hfn K) : Df K mg "room_of" s_room_of ["told"] := by
  obtain ⟨fd, F⟩ := c.def_ 7 (d := dd_room_of) rfl
  exact ⟨_, fd, fun_of F, He.glo_ok X G (c.fact 7 (f := .glo "room_of") rfl), F.bindsN fun _ _ _ _ _ _ us hl => match us, hl with | [_], _ => rfl⟩
theorem hd_least (X : K.In h) (G : h.Ns mainGlobals mg) (c : He.SaysD hfa hfn K) : Df K mg "least" s_least ["size", "sets"] := by
  obtain ⟨fd, F⟩ := c.def_ 8 (d := dd_least) rfl
  exact ⟨_, fd, fun_of F, He.glo_ok X G (c.fact 8 (f := .glo "least") rfl), F.bindsN fun _ _ _ _ _ _ us hl => match us, hl with | [_, _], _ => rfl⟩
theorem hd__law_dice (X : K.In h) (G : h.Ns mainGlobals mg) (c : He.SaysD hfa hfn K) : Df K mg "_law_dice" s__law_dice ["_law_script", "_law_k"] := by
  obtain ⟨fd, F⟩ := c.def_ 9 (d := dd__law_dice) rfl
  exact ⟨_, fd, fun_of F, He.glo_ok X G (c.fact 9 (f := .glo "_law_dice") rfl), F.bindsN fun _ _ _ _ _ _ us hl => match us, hl with | [_, _], _ => rfl⟩
theorem hd__law_off (X : K.In h) (G : h.Ns mainGlobals mg) (c : He.SaysD hfa hfn K) : Df K mg "_law_off" s__law_off ["_law_d", "_law_most"] := by
  obtain ⟨fd, F⟩ := c.def_ 10 (d := dd__law_off) rfl
  exact ⟨_, fd, fun_of F, He.glo_ok X G (c.fact 10 (f := .glo "_law_off") rfl), F.bindsN fun _ _ _ _ _ _ us hl => match us, hl with | [_, _], _ => rfl⟩
theorem hd__law_alike (X : K.In h) (G : h.Ns mainGlobals mg) (c : He.SaysD hfa hfn K) : Df K mg "_law_alike" s__law_alike ["_law_found", "_law_due"] := by
  obtain ⟨fd, F⟩ := c.def_ 11 (d := dd__law_alike) rfl
  exact ⟨_, fd, fun_of F, He.glo_ok X G (c.fact 11 (f := .glo "_law_alike") rfl), F.bindsN fun _ _ _ _ _ _ us hl => match us, hl with | [_, _], _ => rfl⟩
theorem hd__law_size (X : K.In h) (G : h.Ns mainGlobals mg) (c : He.SaysD hfa hfn K) : Df K mg "_law_size" s__law_size ["_law_d"] := by
  obtain ⟨fd, F⟩ := c.def_ 12 (d := dd__law_size) rfl
  exact ⟨_, fd, fun_of F, He.glo_ok X G (c.fact 12 (f := .glo "_law_size") rfl), F.bindsN fun _ _ _ _ _ _ us hl => match us, hl with | [_], _ => rfl⟩
theorem hd__law_set (X : K.In h) (G : h.Ns mainGlobals mg) (c : He.SaysD hfa hfn K) : Df K mg "_law_set" s__law_set ["_law_d", "_law_size_here", "_law_most"] := by
  obtain ⟨fd, F⟩ := c.def_ 13 (d := dd__law_set) rfl
  exact ⟨_, fd, fun_of F, He.glo_ok X G (c.fact 13 (f := .glo "_law_set") rfl), F.bindsN fun _ _ _ _ _ _ us hl => match us, hl with | [_, _, _], _ => rfl⟩
theorem hd__law_members (X : K.In h) (G : h.Ns mainGlobals mg) (c : He.SaysD hfa hfn K) : Df K mg "_law_members" s__law_members ["_law_size_here", "_law_ranges"] := by
  obtain ⟨fd, F⟩ := c.def_ 14 (d := dd__law_members) rfl
  exact ⟨_, fd, fun_of F, He.glo_ok X G (c.fact 14 (f := .glo "_law_members") rfl), F.bindsN fun _ _ _ _ _ _ us hl => match us, hl with | [_, _], _ => rfl⟩
theorem hd__law_sets (X : K.In h) (G : h.Ns mainGlobals mg) (c : He.SaysD hfa hfn K) : Df K mg "_law_sets" s__law_sets ["_law_d", "_law_size_here"] := by
  obtain ⟨fd, F⟩ := c.def_ 15 (d := dd__law_sets) rfl
  exact ⟨_, fd, fun_of F, He.glo_ok X G (c.fact 15 (f := .glo "_law_sets") rfl), F.bindsN fun _ _ _ _ _ _ us hl => match us, hl with | [_, _], _ => rfl⟩
theorem hd__law_table (X : K.In h) (G : h.Ns mainGlobals mg) (c : He.SaysD hfa hfn K) : Df K mg "_law_table" s__law_table ["_law_size_here", "_law_sets_here", "_law_wide"] := by
  obtain ⟨fd, F⟩ := c.def_ 16 (d := dd__law_table) rfl
  exact ⟨_, fd, fun_of F, He.glo_ok X G (c.fact 16 (f := .glo "_law_table") rfl), F.bindsN fun _ _ _ _ _ _ us hl => match us, hl with | [_, _, _], _ => rfl⟩
theorem hd__law_cells (X : K.In h) (G : h.Ns mainGlobals mg) (c : He.SaysD hfa hfn K) : Df K mg "_law_cells" s__law_cells ["_law_cells_of"] := by
  obtain ⟨fd, F⟩ := c.def_ 17 (d := dd__law_cells) rfl
  exact ⟨_, fd, fun_of F, He.glo_ok X G (c.fact 17 (f := .glo "_law_cells") rfl), F.bindsN fun _ _ _ _ _ _ us hl => match us, hl with | [_], _ => rfl⟩
theorem hd_law (X : K.In h) (G : h.Ns mainGlobals mg) (c : He.SaysD hfa hfn K) : Df K mg "law" s_law ["_law_script"] := by
  obtain ⟨fd, F⟩ := c.def_ 18 (d := dd_law) rfl
  exact ⟨_, fd, fun_of F, He.glo_ok X G (c.fact 18 (f := .glo "law") rfl), F.bindsN fun _ _ _ _ _ _ us hl => match us, hl with | [_], _ => rfl⟩
theorem hd_tx (X : K.In h) (G : h.Ns mainGlobals mg) (c : He.SaysD hfa hfn K) : Tx K mg := ⟨hd_need_size X G c, hd_need_set X G c, hd_has X G c, hd_need_sets X G c, hd_row_of X G c, hd_made X G c, hd_table X G c, hd_room_of X G c, hd_least X G c, hd__law_dice X G c, hd__law_off X G c, hd__law_alike X G c, hd__law_size X G c, hd__law_set X G c, hd__law_members X G c, hd__law_sets X G c, hd__law_table X G c, hd__law_cells X G c, He.int_ok X G (c.fact 19 (f := .int "MOST_SIZE" 64) rfl), He.int_ok X G (c.fact 20 (f := .int "MOST_RANGES" 40) rfl), He.free_ok X G (c.fact 21 (f := .free "range") rfl), He.free_ok X G (c.fact 22 (f := .free "enumerate") rfl), He.free_ok X G (c.fact 23 (f := .free "len") rfl), He.free_ok X G (c.fact 24 (f := .free "min") rfl), He.free_ok X G (c.fact 25 (f := .free "abs") rfl), He.free_ok X G (c.fact 26 (f := .free "isinstance") rfl), He.free_ok X G (c.fact 27 (f := .free "bool") rfl), He.free_ok X G (c.fact 28 (f := .free "int") rfl), He.free_ok X G (c.fact 29 (f := .free "str") rfl), He.free_ok X G (c.fact 30 (f := .free "tuple") rfl), He.free_ok X G (c.fact 31 (f := .free "list") rfl), He.free_ok X G (c.fact 32 (f := .free "all") rfl), He.free_ok X G (c.fact 33 (f := .free "sorted") rfl), He.free_ok X G (c.fact 34 (f := .free "set") rfl), He.free_ok X G (c.fact 35 (f := .free "sum") rfl)⟩
end
theorem hfacts {P : Program} {w : World} {K : PySem.W.Frag} {h : Heap} {mg : Str → Option Value} {f : Addr} (X : K.In h) (G : h.Ns mainGlobals mg) (hfa0 : mg ("law" : Str) = some (.ref f)) (c : He.SaysD hfa hfn K) :
    ∃ fd : FuncData, (∀ (s : Shared) (v : Value), BindsTo s fd ⟨[v], []⟩ [("_law_script", v)]) ∧ ∀ base : Heap, K.In base → base.Ns mainGlobals mg → FnOk P w K mg base CX0 8 f fd ["_law_script"] (spLaw K) := by
  obtain ⟨fd, F⟩ := c.def_ 18 (d := dd_law) rfl
  have e := hfa0.symm.trans (He.glo_ok X G (c.fact 18 (f := .glo "law") rfl))
  cases e
  have b := FunD.bindsA (ps := ["_law_script"]) F fun _ _ _ _ _ _ us hl => match us, hl with | [_], _ => rfl
  exact ⟨fd, fun s v => b s [v] rfl, fun base _ _ => ok_law (hd_tx X G c) (fun_of F)⟩
end Sg
open PySem PySem.W PySem.Calls PyProof.Rows
set_option maxHeartbeats 0 in
theorem PySem.Challenge.cw_signsets_k09_whole_the_fewest_cells_holds : PySem.Challenge.rw_signsets_k09_whole_the_fewest_cells.Holds := by
  w_on; o_law
  refine HandSHeadRun.head_any (r := OpenLaw.row PySem.Challenge.rw_signsets_k09_whole_the_fewest_cells) (q := view (OpenLaw.row PySem.Challenge.rw_signsets_k09_whole_the_fewest_cells).prog [28]) (H := Sg.hhk) (ob := Sg.hob) (M := 2000) (loose := Sg.hnames) (d := HandSHeadRun.topDef (OpenLaw.row PySem.Challenge.rw_signsets_k09_whole_the_fewest_cells).prog 28) (kwd := []) Sg.hob_eq
    (by kernel_rfl) (fun s => by kernel_rfl) Sg.hrun (by kernel_rfl) (by kernel_rfl) (by kernel_rfl) (by rfl) (by first | assumption | decide +kernel) (by decide +kernel) ⟨rfl, rfl, rfl, rfl, rfl, by decide +kernel⟩ ?hw ?hc
  case hw => w_witness2
  case hc =>
    refine L2.walk_ofE (l := PySem.Challenge.rw_signsets_k09_whole_the_fewest_cells) (n := 63) (k := 8) (x := "_law_script") (CX := L2.CX0) rfl (by decide) (by kernel_rfl) ⟨rfl, by decide, by decide⟩ ?F (fun _ _ _ _ z => z)
    intro w mg fa h Y G hmg0
    obtain ⟨K, KX, c⟩ := Y
    have hmg : mg ("law" : PySem.Str) = some (.ref fa) := by
      have e : (HandSHeadRun.topDef (OpenLaw.row PySem.Challenge.rw_signsets_k09_whole_the_fewest_cells).prog 28).name = ("law" : PySem.Str) := by kernel_rfl
      rw [← e]
      exact hmg0
    obtain ⟨fd, hb, hF⟩ := Sg.hfacts (P := (PySem.Challenge.rw_signsets_k09_whole_the_fewest_cells).prog) (w := w) KX G hmg c
    exact ⟨K, fd, Sg.spLaw K, KX, hb, fun H a ns hl _ hS => ⟨a, ns, rfl, hS, hl, fun _ => rfl⟩, hF⟩
