import PyProof.Rows.All
import Wide.All
import OpenK.AllK
import Wide.FinOn
import KE.KStateDown
import Lean
import HandS.More
import HandS.WordsExc
import HandS.Defaults
import HandS.Head0
import HandS.Head1
import HandS.Head2
import HandS.HeadEnd
import HandS.HeadHook1
import HandS.HeadHook2
import HandS.ForMost
import HandS.Deep
import HandS.Codes
import KE.DataMinMax
import KE.SortData
import KE.DataCmp
import HandS.Conv
import HandS.Style
import HandS.IsInst
import HandS.SetFor
import HandS.Strs
import HandS.SortInts
import PySem.Challenge.RW_signsets_k06_whole_the_shortest_text
set_option Elab.async false
set_option linter.all false
set_option maxRecDepth 100000
set_option maxHeartbeats 4000000
/-! Signsets: the plain mathematics of ranges (no program in sight). -/
namespace Sg
/-- whether a number is in some range -/
def has (R : List (Int × Int)) (n : Int) : Bool := R.any fun r => decide (r.1 ≤ n) && decide (n ≤ r.2)
/-- 0, 1, .. below n -/
def upTo (n : Nat) : List Int := (List.range n).map fun (k : Nat) => (k : Int)
def allIn (n : Nat) (R : List (Int × Int)) : List Int := (upTo n).filter (has R)
def toldStep (acc : List (Int × Int)) (n : Int) : List (Int × Int) :=
  match acc.getLast? with
  | some r => if r.2 = n - 1 then acc.dropLast ++ [(r.1, n)] else acc ++ [(n, n)]
  | none => [(n, n)]
def told (ns : List Int) : List (Int × Int) := ns.foldl toldStep []
/-- ranges that a size lets be -/
def Ok (size : Int) (R : List (Int × Int)) : Prop := R.length ≤ 40 ∧ ∀ r ∈ R, 0 ≤ r.1 ∧ r.1 ≤ r.2 ∧ r.2 < size

theorem mem_upTo {n : Nat} {k : Int} : k ∈ upTo n ↔ 0 ≤ k ∧ k < (n : Int) := by
  unfold upTo
  rw [List.mem_map]
  constructor
  · rintro ⟨a, h, rfl⟩
    have := List.mem_range.mp h
    omega
  · intro h
    exact ⟨k.toNat, List.mem_range.mpr (by omega), by omega⟩
theorem upTo_len (n : Nat) : (upTo n).length = n := by simp [upTo]
theorem upTo_get {n i : Nat} (h : i < n) : (upTo n)[i]? = some (i : Int) := by
  unfold upTo
  rw [List.getElem?_map, List.getElem?_range h]
  rfl
theorem rising_range (n : Nat) : (upTo n).Pairwise (· < ·) := by
  unfold upTo
  rw [List.pairwise_map]
  refine List.Pairwise.imp (fun {a b} h => ?_) List.pairwise_lt_range
  omega
theorem rising_filter {n : Nat} (p : Int → Bool) : ((upTo n).filter p).Pairwise (· < ·) := (rising_range n).filter p
theorem has_iff {R : List (Int × Int)} {n : Int} : has R n = true ↔ ∃ r ∈ R, r.1 ≤ n ∧ n ≤ r.2 := by
  unfold has
  rw [List.any_eq_true]
  constructor
  · rintro ⟨r, h, e⟩
    rw [Bool.and_eq_true] at e
    exact ⟨r, h, of_decide_eq_true e.1, of_decide_eq_true e.2⟩
  · rintro ⟨r, h, e1, e2⟩
    exact ⟨r, h, by rw [Bool.and_eq_true]; exact ⟨decide_eq_true e1, decide_eq_true e2⟩⟩
theorem has_append {A B : List (Int × Int)} {n : Int} : has (A ++ B) n = (has A n || has B n) := by
  unfold has
  rw [List.any_append]

/-- what told has made of the numbers so far -/
structure TI (acc : List (Int × Int)) (pre : List Int) : Prop where
  has : ∀ n, has acc n = true ↔ n ∈ pre
  sep : acc.Pairwise fun a b => a.2 + 1 < b.1
  le : ∀ r ∈ acc, r.1 ≤ r.2
theorem TI.lt {acc : List (Int × Int)} {pre : List Int} (t : TI acc pre) {n : Int} (h : ∀ m ∈ pre, m < n) {r : Int × Int} (hr : r ∈ acc) : r.2 < n :=
  h _ ((t.has r.2).mp (has_iff.mpr ⟨r, hr, t.le r hr, Int.le_refl _⟩))
theorem TI.step {acc : List (Int × Int)} {pre : List Int} (t : TI acc pre) {n : Int} (h : ∀ m ∈ pre, m < n) : TI (toldStep acc n) (pre ++ [n]) := by
  unfold toldStep
  cases e : acc.getLast? with
  | none =>
    have ea : acc = [] := List.getLast?_eq_none_iff.mp e
    subst ea
    refine ⟨fun m => ?_, by simp, by simp⟩
    have hp := t.has m
    rw [has_iff, List.mem_append, ← hp, has_iff]
    constructor
    · rintro ⟨r, hr, h1, h2⟩
      have : r = (n, n) := by simpa using hr
      subst this
      exact .inr (List.mem_singleton.mpr (by simp at h1 h2; omega))
    · rintro (⟨r, hr, _⟩ | q)
      · simp at hr
      · have := List.mem_singleton.mp q
        subst this
        exact ⟨(m, m), by simp, Int.le_refl _, Int.le_refl _⟩
  | some r =>
    obtain ⟨ini, ea⟩ : ∃ ini, acc = ini ++ [r] := ⟨acc.dropLast, by rw [List.getLast?_eq_some_iff] at e; obtain ⟨ys, rfl⟩ := e; simp⟩
    have hri : r ∈ acc := by rw [ea]; simp
    have hrl := t.lt h hri
    have hre := t.le r hri
    have sp := t.sep
    rw [ea, List.pairwise_append] at sp
    show TI (if r.2 = n - 1 then acc.dropLast ++ [(r.1, n)] else acc ++ [(n, n)]) (pre ++ [n])
    split
    · rename_i c
      have ed : acc.dropLast = ini := by rw [ea]; simp
      rw [ed]
      refine ⟨fun m => ?_, ?_, ?_⟩
      · have hp := t.has m
        rw [ea, has_append, Bool.or_eq_true] at hp
        rw [has_append, Bool.or_eq_true, List.mem_append, ← hp]
        have e1 : Sg.has [(r.1, n)] m = true ↔ r.1 ≤ m ∧ m ≤ n := by rw [has_iff]; simp
        have e2 : Sg.has [r] m = true ↔ r.1 ≤ m ∧ m ≤ r.2 := by rw [has_iff]; simp
        rw [e1, e2, List.mem_singleton]
        by_cases X : Sg.has ini m = true
        · simp [X]
        · simp only [X]
          simp
          omega
      · rw [List.pairwise_append]
        refine ⟨sp.1, by simp, fun a ha b hb => ?_⟩
        have : b = (r.1, n) := List.mem_singleton.mp hb
        subst this
        exact sp.2.2 a ha r (by simp)
      · intro q hq
        rcases List.mem_append.mp hq with k | k
        · exact t.le q (by rw [ea]; exact List.mem_append_left _ k)
        · have : q = (r.1, n) := List.mem_singleton.mp k
          subst this
          show r.1 ≤ n
          omega
    · rename_i c
      refine ⟨fun m => ?_, ?_, ?_⟩
      · have hp := t.has m
        rw [has_append, Bool.or_eq_true, List.mem_append, ← hp]
        have e1 : Sg.has [(n, n)] m = true ↔ n ≤ m ∧ m ≤ n := by rw [has_iff]; simp
        rw [e1, List.mem_singleton]
        by_cases X : Sg.has acc m = true
        · simp [X]
        · simp only [X]
          simp
          omega
      · rw [List.pairwise_append]
        refine ⟨t.sep, by simp, fun a ha b hb => ?_⟩
        have : b = (n, n) := List.mem_singleton.mp hb
        subst this
        show a.2 + 1 < n
        rw [ea] at ha
        rcases List.mem_append.mp ha with k | k
        · have := sp.2.2 a k r (by simp)
          omega
        · have : a = r := List.mem_singleton.mp k
          subst this
          omega
      · intro q hq
        rcases List.mem_append.mp hq with k | k
        · exact t.le q k
        · have : q = (n, n) := List.mem_singleton.mp k
          subst this
          exact Int.le_refl _
theorem TI.fold : ∀ (ns : List Int) (acc : List (Int × Int)) (pre : List Int), TI acc pre → (pre ++ ns).Pairwise (· < ·) → TI (ns.foldl toldStep acc) (pre ++ ns)
  | [], acc, pre, t, _ => by
    rw [List.append_nil]
    exact t
  | n :: r, acc, pre, t, h => by
    have e : pre ++ n :: r = (pre ++ [n]) ++ r := by simp
    rw [e] at h ⊢
    refine TI.fold r _ _ (t.step fun m hm => ?_) h
    have h1 := (List.pairwise_append.mp (List.pairwise_append.mp h).1).2.2
    exact h1 m hm n (by simp)
theorem told_ti {ns : List Int} (h : ns.Pairwise (· < ·)) : TI (told ns) ns := by
  have q := TI.fold ns [] [] ⟨by simp [has], by simp, by simp⟩ (by simpa using h)
  rw [List.nil_append] at q
  exact q
theorem told_has {ns : List Int} (h : ns.Pairwise (· < ·)) (n : Int) : has (told ns) n = decide (n ∈ ns) := by
  have := (told_ti h).has n
  cases e : has (told ns) n
  · exact (decide_eq_false fun q => by rw [this.mpr q] at e; cases e).symm
  · exact (decide_eq_true (this.mp e)).symm
theorem sep_len : ∀ (R : List (Int × Int)) (lo hi : Int), R.Pairwise (fun a b => a.2 + 1 < b.1) → (∀ r ∈ R, lo ≤ r.1 ∧ r.1 ≤ r.2 ∧ r.2 < hi) → R ≠ [] → 2 * (R.length : Int) ≤ hi - lo + 1
  | [], _, _, _, _, h => absurd rfl h
  | [r], lo, hi, _, h, _ => by
    have := h r (by simp)
    simp
    omega
  | r :: q :: R, lo, hi, hp, h, _ => by
    have h1 := h r (by simp)
    rw [List.pairwise_cons] at hp
    have ih := sep_len (q :: R) (r.1 + 2) hi hp.2 (fun z hz => by
      have a := hp.1 z hz
      have b := h z (List.mem_cons_of_mem _ hz)
      omega) (by simp)
    simp at ih ⊢
    omega
theorem told_ok {size : Int} {ns : List Int} (h : ns.Pairwise (· < ·)) (hs : size ≤ 64) (hm : ∀ n ∈ ns, 0 ≤ n ∧ n < size) : Ok size (told ns) := by
  have t := told_ti h
  have hv : ∀ r ∈ told ns, 0 ≤ r.1 ∧ r.1 ≤ r.2 ∧ r.2 < size := fun r hr => by
    have h1 := (t.has r.1).mp (has_iff.mpr ⟨r, hr, Int.le_refl _, t.le r hr⟩)
    have h2 := (t.has r.2).mp (has_iff.mpr ⟨r, hr, t.le r hr, Int.le_refl _⟩)
    exact ⟨(hm _ h1).1, t.le r hr, (hm _ h2).2⟩
  refine ⟨?_, hv⟩
  by_cases e : told ns = []
  · rw [e]
    exact Nat.zero_le _
  · have := sep_len (told ns) 0 size t.sep (fun r hr => by have := hv r hr; omega) e
    omega

/-- the ranges of all numbers below n of which p says yes -/
def TR (n : Nat) (p : Int → Bool) : List (Int × Int) := told ((upTo n).filter p)
theorem TR_congr {n : Nat} {p q : Int → Bool} (h : ∀ k : Int, 0 ≤ k → k < (n : Int) → p k = q k) : TR n p = TR n q := by
  unfold TR
  rw [List.filter_congr fun k hk => h k (mem_upTo.mp hk).1 (mem_upTo.mp hk).2]
theorem TR_has {n : Nat} {p : Int → Bool} {k : Int} (h0 : 0 ≤ k) (h1 : k < (n : Int)) : has (TR n p) k = p k := by
  unfold TR
  rw [told_has (rising_filter p)]
  cases e : p k
  · exact decide_eq_false fun q => by rw [(List.mem_filter.mp q).2] at e; cases e
  · exact decide_eq_true (List.mem_filter.mpr ⟨mem_upTo.mpr ⟨h0, h1⟩, e⟩)
theorem TR_ok {n : Nat} (hn : n ≤ 64) (p : Int → Bool) : Ok (n : Int) (TR n p) :=
  told_ok (rising_filter p) (by omega) fun k hk => by
    have := mem_upTo.mp (List.mem_filter.mp hk).1
    exact this
theorem TR_none (n : Nat) : TR n (fun _ => false) = [] := by
  unfold TR
  rw [List.filter_eq_nil_iff.mpr (by simp)]
  rfl
theorem told_snoc (ns : List Int) (n : Int) : told (ns ++ [n]) = toldStep (told ns) n := by
  unfold told
  rw [List.foldl_append]
  rfl
theorem upTo_succ (n : Nat) : upTo (n + 1) = upTo n ++ [(n : Int)] := by
  unfold upTo
  rw [List.range_succ, List.map_append]
  rfl
theorem told_upTo : ∀ n : Nat, told (upTo (n + 1)) = [(0, (n : Int))]
  | 0 => by decide
  | n + 1 => by
    rw [upTo_succ, told_snoc, told_upTo n]
    show (if (n : Int) = ((n + 1 : Nat) : Int) - 1 then [((0 : Int), ((n + 1 : Nat) : Int))] else _) = _
    rw [if_pos (by omega)]
theorem TR_all {n : Nat} (h : 0 < n) : TR n (fun _ => true) = [(0, (n : Int) - 1)] := by
  unfold TR
  rw [List.filter_eq_self.mpr (by simp)]
  obtain ⟨m, rfl⟩ : ∃ m, n = m + 1 := ⟨n - 1, by omega⟩
  rw [told_upTo]
  simp
theorem has_reverse (R : List (Int × Int)) (k : Int) : has R.reverse k = has R k := by
  unfold has
  rw [List.any_reverse]
theorem mem_allIn {n : Nat} {R : List (Int × Int)} (hk : Ok n R) {k : Int} : k ∈ allIn n R ↔ has R k = true := by
  unfold allIn
  rw [List.mem_filter, mem_upTo]
  constructor
  · exact fun z => z.2
  · intro z
    obtain ⟨r, hr', z1, z2⟩ := has_iff.mp z
    obtain ⟨k1, k2, k3⟩ := hk.2 r hr'
    exact ⟨⟨by omega, by omega⟩, z⟩
theorem allIn_len (n : Nat) (p : Int → Bool) : ((upTo n).filter p).length ≤ n := Nat.le_trans (List.length_filter_le _ _) (by rw [upTo_len]; exact Nat.le_refl _)
theorem told_len (ns : List Int) : (told ns).length ≤ ns.length := by
  have h : ∀ (ms : List Int) (acc : List (Int × Int)), (ms.foldl toldStep acc).length ≤ acc.length + ms.length := by
    intro ms
    induction ms with
    | nil => intro acc; exact Nat.le_refl _
    | cons m ms ih =>
      intro acc
      refine Nat.le_trans (ih _) ?_
      have : (toldStep acc m).length ≤ acc.length + 1 := by
        unfold toldStep
        split
        · split <;> simp
        · simp
      simp
      omega
  have := h ns []
  simpa [told] using this
end Sg
/-! Signsets: unlike ones as they come, classes (no program in sight). -/
namespace Sg
section
variable {α β : Type} [DecidableEq α] [DecidableEq β]
def addU (acc : List α) (x : α) : List α := if x ∈ acc then acc else acc ++ [x]
/-- unlike ones, as they come -/
def uniq (l : List α) : List α := l.foldl addU []
theorem addU_old {acc : List α} {x : α} (h : x ∈ acc) : addU acc x = acc := if_pos h
theorem addU_new {acc : List α} {x : α} (h : ¬ x ∈ acc) : addU acc x = acc ++ [x] := if_neg h
theorem mem_addU {acc : List α} {x y : α} : y ∈ addU acc x ↔ y ∈ acc ∨ y = x := by
  unfold addU
  split
  · rename_i h
    exact ⟨.inl, fun z => z.elim id fun e => e ▸ h⟩
  · rw [List.mem_append, List.mem_singleton]
theorem uniq_snoc (l : List α) (x : α) : uniq (l ++ [x]) = addU (uniq l) x := by
  unfold uniq
  rw [List.foldl_append]
  rfl
theorem foldU_pre : ∀ (l acc : List α), ∃ r, l.foldl addU acc = acc ++ r
  | [], acc => ⟨[], by simp⟩
  | x :: l, acc => by
    obtain ⟨r, h⟩ := foldU_pre l (addU acc x)
    rw [List.foldl_cons, h]
    unfold addU
    split
    · exact ⟨r, rfl⟩
    · exact ⟨x :: r, by simp⟩
theorem uniq_pre (a b : List α) : ∃ r, uniq (a ++ b) = uniq a ++ r := by
  unfold uniq
  rw [List.foldl_append]
  exact foldU_pre b _
theorem mem_foldU : ∀ (l acc : List α) (y : α), y ∈ l.foldl addU acc ↔ y ∈ acc ∨ y ∈ l
  | [], acc, y => by simp
  | x :: l, acc, y => by
    rw [List.foldl_cons, mem_foldU l, mem_addU, List.mem_cons, or_assoc]
theorem mem_uniq {l : List α} {y : α} : y ∈ uniq l ↔ y ∈ l := by
  unfold uniq
  rw [mem_foldU]
  simp
theorem nodup_foldU : ∀ (l acc : List α), acc.Nodup → (l.foldl addU acc).Nodup
  | [], acc, h => h
  | x :: l, acc, h => by
    rw [List.foldl_cons]
    refine nodup_foldU l _ ?_
    unfold addU
    split
    · exact h
    · rename_i c
      rw [List.nodup_append]
      refine ⟨h, by simp, fun a ha b hb e => ?_⟩
      rw [List.mem_singleton] at hb
      rw [e, hb] at ha
      exact c ha
theorem nodup_uniq (l : List α) : (uniq l).Nodup := nodup_foldU l [] List.nodup_nil
theorem foldU_map {f : α → β} (hf : ∀ a b, f a = f b → a = b) : ∀ (l acc : List α), (l.map f).foldl addU (acc.map f) = (l.foldl addU acc).map f
  | [], acc => rfl
  | x :: l, acc => by
    have e : addU (acc.map f) (f x) = (addU acc x).map f := by
      unfold addU
      have h : f x ∈ acc.map f ↔ x ∈ acc := by
        rw [List.mem_map]
        exact ⟨fun ⟨a, ha, e⟩ => hf _ _ e ▸ ha, fun h => ⟨x, h, rfl⟩⟩
      by_cases c : x ∈ acc
      · rw [if_pos c, if_pos (h.mpr c)]
      · rw [if_neg c, if_neg fun z => c (h.mp z), List.map_append]
        rfl
    rw [List.map_cons, List.foldl_cons, List.foldl_cons, e, foldU_map hf l]
theorem uniq_map {f : α → β} (hf : ∀ a b, f a = f b → a = b) (l : List α) : uniq (l.map f) = (uniq l).map f := foldU_map hf l []
theorem uniq_len (l : List α) : (uniq l).length ≤ l.length := by
  have h : ∀ (l acc : List α), (l.foldl addU acc).length ≤ acc.length + l.length := by
    intro l
    induction l with
    | nil => intro acc; exact Nat.le_refl _
    | cons x l ih =>
      intro acc
      refine Nat.le_trans (ih _) ?_
      have : (addU acc x).length ≤ acc.length + 1 := by
        unfold addU
        split <;> simp
      simp
      omega
  have := h l []
  simpa [uniq] using this
/-- the first place of x -/
def pl (x : α) : List α → Nat
  | [] => 0
  | y :: l => if y = x then 0 else pl x l + 1
theorem pl_get {x : α} : ∀ {l : List α}, x ∈ l → l[pl x l]? = some x
  | [], h => by simp at h
  | y :: l, h => by
    unfold pl
    split
    · rename_i e
      rw [e]
      rfl
    · rename_i e
      rcases List.mem_cons.mp h with z | z
      · exact absurd z.symm e
      · simpa using pl_get z
theorem pl_lt {x : α} {l : List α} (h : x ∈ l) : pl x l < l.length := (List.getElem?_eq_some_iff.mp (pl_get h)).1
theorem pl_ahead {x : α} : ∀ {l : List α} {m : Nat} {z : α}, m < pl x l → l[m]? = some z → z ≠ x
  | [], m, z, h, _ => by simp [pl] at h
  | y :: l, m, z, h, e => by
    unfold pl at h
    split at h
    · omega
    · rename_i c
      cases m with
      | zero =>
        simp at e
        rw [← e]
        exact c
      | succ m =>
        simp at e
        exact pl_ahead (Nat.lt_of_succ_lt_succ h) e
theorem pl_app {x : α} : ∀ {a b : List α}, x ∈ a → pl x (a ++ b) = pl x a
  | [], b, h => by simp at h
  | y :: a, b, h => by
    rw [List.cons_append]
    unfold pl
    split
    · rfl
    · rename_i e
      rcases List.mem_cons.mp h with z | z
      · exact absurd z.symm e
      · rw [pl_app z]
theorem pl_map {f : α → β} (hf : ∀ a b, f a = f b → a = b) (x : α) : ∀ l : List α, pl (f x) (l.map f) = pl x l
  | [] => rfl
  | y :: l => by
    rw [List.map_cons]
    unfold pl
    by_cases c : y = x
    · rw [if_pos c, if_pos (by rw [c])]
    · rw [if_neg c, if_neg fun z => c (hf _ _ z), pl_map hf x l]
theorem nodup_le : ∀ {a b : List α}, a.Nodup → (∀ x ∈ a, x ∈ b) → a.length ≤ b.length
  | [], b, _, _ => Nat.zero_le _
  | x :: a, b, hn, hs => by
    rw [List.nodup_cons] at hn
    have hx : x ∈ b := hs x (by simp)
    have ih := nodup_le (b := b.erase x) hn.2 fun y hy => (List.mem_erase_of_ne fun z => hn.1 (by rw [← z]; exact hy)).mpr (hs y (List.mem_cons_of_mem _ hy))
    rw [List.length_erase_of_mem hx] at ih
    have : 0 < b.length := List.length_pos_of_mem hx
    rw [List.length_cons]
    omega
end
/-- which of the sets have k -/
def kindOf (SS : List (List (Int × Int))) (k : Int) : List Bool := SS.map fun R => has R k
def kinds (n : Nat) (SS : List (List (Int × Int))) : List (List Bool) := uniq ((upTo n).map (kindOf SS))
def rowOf (n : Nat) (SS : List (List (Int × Int))) : List Int := (upTo n).map fun k => ((pl (kindOf SS k) (kinds n SS) : Nat) : Int)
def classOf (n : Nat) (SS : List (List (Int × Int))) (j : Nat) : List (Int × Int) := told ((upTo n).filter fun k => decide (((pl (kindOf SS k) (kinds n SS) : Nat) : Int) = (j : Int)))
def classesOf (n : Nat) (SS : List (List (Int × Int))) : List (List (Int × Int)) := (List.range (kinds n SS).length).map (classOf n SS)
def byC (n : Nat) (SS : List (List (Int × Int))) : List (List Int) := (List.range SS.length).map fun a => (upTo (kinds n SS).length).filter fun j => ((kinds n SS).getD j.toNat []).getD a false
theorem kinds_len (n : Nat) (SS : List (List (Int × Int))) : (kinds n SS).length ≤ n := Nat.le_trans (uniq_len _) (by rw [List.length_map, upTo_len]; exact Nat.le_refl _)
theorem mem_kinds {n : Nat} {SS : List (List (Int × Int))} {k : Int} (h0 : 0 ≤ k) (h1 : k < (n : Int)) : kindOf SS k ∈ kinds n SS := mem_uniq.mpr (List.mem_map.mpr ⟨k, mem_upTo.mpr ⟨h0, h1⟩, rfl⟩)
theorem kinds_mem {n : Nat} {SS : List (List (Int × Int))} {b : List Bool} (h : b ∈ kinds n SS) : ∃ k : Int, 0 ≤ k ∧ k < (n : Int) ∧ b = kindOf SS k := by
  obtain ⟨k, hk, rfl⟩ := List.mem_map.mp (mem_uniq.mp h)
  exact ⟨k, (mem_upTo.mp hk).1, (mem_upTo.mp hk).2, rfl⟩
theorem kinds_at {n : Nat} {SS : List (List (Int × Int))} {j : Nat} {b : List Bool} (h : (kinds n SS)[j]? = some b) : b.length = SS.length := by
  obtain ⟨k, _, _, rfl⟩ := kinds_mem (List.mem_of_getElem? h)
  unfold kindOf
  rw [List.length_map]
theorem rowOf_len (n : Nat) (SS : List (List (Int × Int))) : (rowOf n SS).length = n := by unfold rowOf; rw [List.length_map, upTo_len]
theorem rowOf_get {n i : Nat} (SS : List (List (Int × Int))) (h : i < n) : (rowOf n SS)[i]? = some ((pl (kindOf SS (i : Int)) (kinds n SS) : Nat) : Int) := by
  unfold rowOf
  rw [List.getElem?_map, upTo_get h]
  rfl
/-- with a set more no fewer classes -/
theorem kinds_more (n : Nat) (SS : List (List (Int × Int))) (R : List (Int × Int)) : (kinds n SS).length ≤ (kinds n (SS ++ [R])).length := by
  have e := nodup_le (a := kinds n SS) (b := (kinds n (SS ++ [R])).map List.dropLast) (nodup_uniq _) fun b hb => by
    obtain ⟨k, h0, h1, rfl⟩ := kinds_mem hb
    refine List.mem_map.mpr ⟨_, mem_kinds (SS := SS ++ [R]) h0 h1, ?_⟩
    unfold kindOf
    rw [List.map_append]
    simp
  rwa [List.length_map] at e
theorem kinds_one (n : Nat) (SS : List (List (Int × Int))) (o : Int) : (kinds n (SS ++ [[(o, o)]])).length ≤ (kinds n SS).length + 1 := by
  have ek : ∀ k, kindOf (SS ++ [[(o, o)]]) k = kindOf SS k ++ [decide (k = o)] := fun k => by
    unfold kindOf
    rw [List.map_append]
    congr 1
    show [has [(o, o)] k] = _
    congr 1
    cases e : has [(o, o)] k
    · refine (decide_eq_false fun z => ?_).symm
      rw [z, has_iff.mpr ⟨(o, o), by simp, Int.le_refl _, Int.le_refl _⟩] at e
      cases e
    · obtain ⟨r, hr, h1, h2⟩ := has_iff.mp e
      obtain rfl := List.mem_singleton.mp hr
      exact (decide_eq_true (by simp at h1 h2; omega)).symm
  have e := nodup_le (a := kinds n (SS ++ [[(o, o)]])) (b := (kinds n SS).map (fun b => b ++ [false]) ++ [kindOf SS o ++ [true]]) (nodup_uniq _) fun b hb => by
    obtain ⟨k, h0, h1, rfl⟩ := kinds_mem hb
    rw [ek, List.mem_append]
    by_cases c : k = o
    · rw [decide_eq_true c, c]
      exact .inr (by simp)
    · rw [decide_eq_false c]
      exact .inl (List.mem_map.mpr ⟨_, mem_kinds h0 h1, rfl⟩)
  rw [List.length_append, List.length_map] at e
  exact e
end Sg
/-! Signsets: tables of two steps (no program in sight). -/
namespace Sg
/-- how many stretches of w signs -/
def cnt (n w : Nat) : Nat := (n + w - 1) / w
theorem cnt_lt {n w i : Nat} (hw : 1 ≤ w) : i < cnt n w ↔ i * w < n := by
  unfold cnt
  rw [← Nat.succ_le_iff, Nat.le_div_iff_mul_le (by omega), Nat.succ_mul]
  omega
theorem cnt_le {n w : Nat} (hw : 1 ≤ w) : cnt n w ≤ n := by
  rcases Nat.lt_or_ge n (cnt n w) with h | h
  · have h1 := (cnt_lt hw).mp h
    have h2 : n * 1 ≤ n * w := Nat.mul_le_mul_left n hw
    omega
  · exact h
theorem cnt_pos {n w : Nat} (hw : 1 ≤ w) (hn : 1 ≤ n) : 0 < cnt n w := (cnt_lt hw).mpr (by omega)
theorem cnt_at {n w k : Nat} (hw : 1 ≤ w) (hk : k < n) : k / w < cnt n w := (cnt_lt hw).mpr (Nat.lt_of_le_of_lt (Nat.div_mul_le_self k w) hk)
def bitT (n : Nat) (R : List (Int × Int)) (k : Nat) : Bool := decide (k < n) && has R (k : Int)
def rowP (n : Nat) (R : List (Int × Int)) (f i : Nat) : List Bool := (List.range i).map fun j => bitT n R (f + j)
theorem rowP_len (n : Nat) (R : List (Int × Int)) (f i : Nat) : (rowP n R f i).length = i := by
  unfold rowP
  rw [List.length_map, List.length_range]
theorem rowP_succ (n : Nat) (R : List (Int × Int)) (f i : Nat) : rowP n R f (i + 1) = rowP n R f i ++ [bitT n R (f + i)] := by
  unfold rowP
  rw [List.range_succ, List.map_append]
  rfl
theorem rowP_get {n : Nat} {R : List (Int × Int)} {f i j : Nat} (h : j < i) : (rowP n R f i)[j]? = some (bitT n R (f + j)) := by
  unfold rowP
  rw [List.getElem?_map, List.getElem?_range h]
  rfl
/-- the rows of a set, stretch by stretch -/
def rowsR (n w : Nat) (R : List (Int × Int)) : List (List Bool) := (List.range (cnt n w)).map fun i => rowP n R (i * w) w
def rowsT (n w : Nat) (SS : List (List (Int × Int))) : List (List Bool) := uniq (SS.flatMap (rowsR n w))
def firstsT (n w : Nat) (SS : List (List (Int × Int))) : List (List Int) := SS.map fun R => (rowsR n w R).map fun r => ((pl r (rowsT n w SS) : Nat) : Int)
theorem rowsR_len (n w : Nat) (R : List (Int × Int)) : (rowsR n w R).length = cnt n w := by
  unfold rowsR
  rw [List.length_map, List.length_range]
theorem rowsR_get {n w i : Nat} {R : List (Int × Int)} (h : i < cnt n w) : (rowsR n w R)[i]? = some (rowP n R (i * w) w) := by
  unfold rowsR
  rw [List.getElem?_map, List.getElem?_range h]
  rfl
theorem rowsR_mem {n w : Nat} {R : List (Int × Int)} {r : List Bool} (h : r ∈ rowsR n w R) : r.length = w := by
  obtain ⟨i, _, rfl⟩ := List.mem_map.mp h
  exact rowP_len _ _ _ _
theorem rowsT_mem {n w : Nat} {SS : List (List (Int × Int))} {r : List Bool} (h : r ∈ rowsT n w SS) : r.length = w := by
  obtain ⟨R, _, hr⟩ := List.mem_flatMap.mp (mem_uniq.mp h)
  exact rowsR_mem hr
theorem flat_len (n w : Nat) : ∀ SS : List (List (Int × Int)), (SS.flatMap (rowsR n w)).length = SS.length * cnt n w
  | [] => by simp
  | R :: SS => by rw [List.flatMap_cons, List.length_append, rowsR_len, flat_len n w SS, List.length_cons, Nat.succ_mul]; omega
theorem rowsT_len (n w : Nat) (SS : List (List (Int × Int))) : (rowsT n w SS).length ≤ SS.length * cnt n w := Nat.le_trans (uniq_len _) (by rw [flat_len]; exact Nat.le_refl _)
/-- a row that a set has, in the whole list of rows -/
theorem mem_rowsT {n w : Nat} {SS : List (List (Int × Int))} {R : List (Int × Int)} (hR : R ∈ SS) {r : List Bool} (hr : r ∈ rowsR n w R) : r ∈ rowsT n w SS := mem_uniq.mpr (List.mem_flatMap.mpr ⟨R, hR, hr⟩)
theorem mul_mod (k w : Nat) : k / w * w + k % w = k := by
  rw [Nat.mul_comm]
  exact Nat.div_add_mod k w
/-- the look -/
theorem look_row {n w k : Nat} {R : List (Int × Int)} (hw : 1 ≤ w) (hk : k < n) : (rowP n R (k / w * w) w)[k % w]? = some (has R (k : Int)) := by
  rw [rowP_get (Nat.mod_lt _ hw), mul_mod]
  unfold bitT
  rw [decide_eq_true hk, Bool.true_and]
/-- rows so far, and what comes behind -/
theorem rows_pre {n w : Nat} (pre : List (List (Int × Int))) (R : List (Int × Int)) (post : List (List (Int × Int))) (j : Nat) :
    ∃ r, rowsT n w (pre ++ R :: post) = uniq (pre.flatMap (rowsR n w) ++ (rowsR n w R).take j) ++ r := by
  have e : (pre ++ R :: post).flatMap (rowsR n w) = (pre.flatMap (rowsR n w) ++ (rowsR n w R).take j) ++ ((rowsR n w R).drop j ++ post.flatMap (rowsR n w)) := by
    rw [List.flatMap_append, List.flatMap_cons]
    rw [List.append_assoc, ← List.append_assoc ((rowsR n w R).take j), List.take_append_drop]
  unfold rowsT
  rw [e]
  exact uniq_pre _ _
/-- the cells of a table -/
def cells (n w : Nat) (SS : List (List (Int × Int))) : Nat := SS.length * cnt n w + (rowsT n w SS).length * w
theorem cells_sub {n w : Nat} {SS SS' : List (List (Int × Int))} (h : ∀ R ∈ SS, R ∈ SS') : (rowsT n w SS).length ≤ (rowsT n w SS').length :=
  nodup_le (nodup_uniq _) fun r hr => by
    obtain ⟨R, hR, hr'⟩ := List.mem_flatMap.mp (mem_uniq.mp hr)
    exact mem_rowsT (h R hR) hr'
end Sg
/-! Signsets: data on the abstract heap, and rules of our own over the hand layer. -/
namespace Sg
open PySem PySem.Spec PyProof.Rows L2

/-! ### heaps -/
theorem same_new {H : Hp} {p : Addr} {o : HO} (h : H p = none) : Same H (upd H p o) := fun b u e => by
  rw [upd_ne (ne_of_none e h)]
  exact e
/-- all but d stays -/
def SameBut (d : Addr) (H H' : Hp) : Prop := ∀ b o, b ≠ d → H b = some o → H' b = some o
theorem SameBut.refl (d : Addr) (H : Hp) : SameBut d H H := fun _ _ _ h => h
theorem SameBut.trans {d : Addr} {H H1 H2 : Hp} (a : SameBut d H H1) (b : SameBut d H1 H2) : SameBut d H H2 := fun c o n h => b c o n (a c o n h)
theorem SameBut.of {d : Addr} {H H' : Hp} (h : Same H H') : SameBut d H H' := fun c o _ e => h c o e
theorem SameBut.upd {d : Addr} {H : Hp} {o : HO} : SameBut d H (upd H d o) := fun c u n e => by
  rw [upd_ne n]
  exact e
theorem SameBut.same {d : Addr} {G H H' : Hp} (e : SameBut d H H') (g : Same G H) (n : G d = none) : Same G H' := fun c o h => e c o (ne_of_none h n) (g c o h)
theorem same_upd {G H : Hp} {d : Addr} {o : HO} (g : Same G H) (n : G d = none) : Same G (upd H d o) := fun c u h => by
  rw [upd_ne (ne_of_none h n)]
  exact g c u h
/-- what is new in H' over H -/
def fr (H H' : Hp) : Hp := fun b => if (H b).isNone = true then H' b else none
/-- F without what stands at d -/
def del (F : Hp) (d : Addr) : Hp := fun b => if b = d then none else F b
theorem del_self {F : Hp} {d : Addr} : del F d d = none := by
  unfold del
  rw [if_pos rfl]
theorem del_ne {F : Hp} {d b : Addr} (h : b ≠ d) : del F d b = F b := by
  unfold del
  rw [if_neg h]
theorem fr_some {H H' : Hp} {b : Addr} {o : HO} (h : fr H H' b = some o) : H b = none ∧ H' b = some o := by
  unfold fr at h
  cases e : H b with
  | none =>
    rw [e] at h
    exact ⟨rfl, h⟩
  | some u =>
    rw [e] at h
    cases h
theorem fr_new {H H' : Hp} {b : Addr} (h : H b = none) : fr H H' b = H' b := by
  unfold fr
  rw [h]
  rfl
theorem fr_same {H H' : Hp} : Same (fr H H') H' := fun b o h => (fr_some h).2
theorem fr_mono {H0 H H1 H2 : Hp} (a : Same H0 H) (b : Same H1 H2) : Same (fr H H1) (fr H0 H2) := fun c o h => by
  obtain ⟨h1, h2⟩ := fr_some h
  rw [fr_new (a.free h1)]
  exact b c o h2
theorem del_same {F : Hp} {d : Addr} : Same (del F d) F := fun b o h => by
  unfold del at h
  split at h
  · cases h
  · exact h
theorem del_mono {F G : Hp} {d : Addr} (h : Same F G) : Same (del F d) (del G d) := fun b o e => by
  by_cases c : b = d
  · subst c
    rw [del_self] at e
    cases e
  · rw [del_ne c] at e ⊢
    exact h b o e

/-! ### data -/
theorem same_tup {K : PySem.W.Frag} {H H' : Hp} {a : Addr} {xs : List V} (e : Same H H') (h : SqT K H a xs) : SqT K H' a xs := by
  rcases h with (h | ⟨o, h⟩) | h
  · exact .inl (.inl (e _ _ h))
  · exact .inl (.inr ⟨o, e _ _ h⟩)
  · exact .inr h
mutual
theorem same_dp {K : PySem.W.Frag} {H H' : Hp} (e : Same H H') : ∀ {v : V} {d : PyData}, Dp K H v d → Dp K H' v d
  | _, _, .non => .non
  | _, _, .bl b => .bl b
  | _, _, .int i => .int i
  | _, _, .str x => .str x
  | _, _, .lst h a => .lst (e.seq h) (same_dpAll e a)
  | _, _, .tup h a => .tup (same_tup e h) (same_dpAll e a)
theorem same_dpAll {K : PySem.W.Frag} {H H' : Hp} (e : Same H H') : ∀ {vs : List V} {ds : List PyData}, DpAll K H vs ds → DpAll K H' vs ds
  | _, _, .nil => .nil
  | _, _, .cons h a => .cons (same_dp e h) (same_dpAll e a)
end
mutual
/-- data whose lists and tuples all stand in F, to be changed by whoever has them -/
inductive Dn (F : Hp) : V → PyData → Prop
  | non : Dn F .non .none
  | bl (b : Bool) : Dn F (.bl b) (.bool b)
  | int (i : Int) : Dn F (.int i) (.int i)
  | str (x : Str) : Dn F (.str x) (.str x)
  | lst {a : Addr} {xs : List V} {ds : List PyData} : F a = some (.lst xs) → DnAll F xs ds → Dn F (.ref a) (.list ds)
  | tup {a : Addr} {xs : List V} {ds : List PyData} : F a = some (.tup xs) → DnAll F xs ds → Dn F (.ref a) (.tuple ds)
inductive DnAll (F : Hp) : List V → List PyData → Prop
  | nil : DnAll F [] []
  | cons {v : V} {vs : List V} {d : PyData} {ds : List PyData} : Dn F v d → DnAll F vs ds → DnAll F (v :: vs) (d :: ds)
end
mutual
theorem Dn.mono {F G : Hp} (e : Same F G) : ∀ {v : V} {d : PyData}, Dn F v d → Dn G v d
  | _, _, .non => .non
  | _, _, .bl b => .bl b
  | _, _, .int i => .int i
  | _, _, .str x => .str x
  | _, _, .lst h a => .lst (e _ _ h) (DnAll.mono e a)
  | _, _, .tup h a => .tup (e _ _ h) (DnAll.mono e a)
theorem DnAll.mono {F G : Hp} (e : Same F G) : ∀ {vs : List V} {ds : List PyData}, DnAll F vs ds → DnAll G vs ds
  | _, _, .nil => .nil
  | _, _, .cons h a => .cons (Dn.mono e h) (DnAll.mono e a)
end
mutual
theorem Dn.dp {K : PySem.W.Frag} {F : Hp} : ∀ {v : V} {d : PyData}, Dn F v d → Dp K F v d
  | _, _, .non => .non
  | _, _, .bl b => .bl b
  | _, _, .int i => .int i
  | _, _, .str x => .str x
  | _, _, .lst h a => .lst (SqL.of h) (DnAll.dp a)
  | _, _, .tup h a => .tup (SqT.of h) (DnAll.dp a)
theorem DnAll.dp {K : PySem.W.Frag} {F : Hp} : ∀ {vs : List V} {ds : List PyData}, DnAll F vs ds → DpAll K F vs ds
  | _, _, .nil => .nil
  | _, _, .cons h a => .cons (Dn.dp h) (DnAll.dp a)
end
theorem DnAll.len {F : Hp} : ∀ {vs : List V} {ds : List PyData}, DnAll F vs ds → vs.length = ds.length
  | _, _, .nil => rfl
  | _, _, .cons _ a => congrArg (· + 1) (DnAll.len a)
theorem DnAll.app {F : Hp} : ∀ {vs us : List V} {ds es : List PyData}, DnAll F vs ds → DnAll F us es → DnAll F (vs ++ us) (ds ++ es)
  | _, _, _, _, .nil, b => b
  | _, _, _, _, .cons h a, b => .cons h (DnAll.app a b)
theorem DnAll.snoc {F : Hp} {vs : List V} {v : V} {ds : List PyData} {d : PyData} (a : DnAll F vs ds) (h : Dn F v d) : DnAll F (vs ++ [v]) (ds ++ [d]) := a.app (.cons h .nil)
theorem DnAll.get {F : Hp} : ∀ {vs : List V} {ds : List PyData} {i : Nat} {v : V}, DnAll F vs ds → vs[i]? = some v → ∃ d, ds[i]? = some d ∧ Dn F v d
  | _, _, i, v, .nil, h => by simp at h
  | _, _, 0, v, .cons h _, e => by
    simp at e
    subst e
    exact ⟨_, rfl, h⟩
  | _, _, i + 1, v, .cons _ a, e => by
    simp at e
    obtain ⟨d, h1, h2⟩ := DnAll.get a e
    exact ⟨d, by simpa using h1, h2⟩
theorem dpAll_len {K : PySem.W.Frag} {H : Hp} : ∀ {vs : List V} {ds : List PyData}, DpAll K H vs ds → vs.length = ds.length
  | _, _, .nil => rfl
  | _, _, .cons _ a => congrArg (· + 1) (dpAll_len a)
theorem dpAll_get {K : PySem.W.Frag} {H : Hp} : ∀ {vs : List V} {ds : List PyData} {i : Nat} {v : V}, DpAll K H vs ds → vs[i]? = some v → ∃ d, ds[i]? = some d ∧ Dp K H v d
  | _, _, i, v, .nil, h => by simp at h
  | _, _, 0, v, .cons h _, e => by
    simp at e
    subst e
    exact ⟨_, rfl, h⟩
  | _, _, i + 1, v, .cons _ a, e => by
    simp at e
    obtain ⟨d, h1, h2⟩ := dpAll_get a e
    exact ⟨d, by simpa using h1, h2⟩
theorem dpAll_app {K : PySem.W.Frag} {H : Hp} : ∀ {vs us : List V} {ds es : List PyData}, DpAll K H vs ds → DpAll K H us es → DpAll K H (vs ++ us) (ds ++ es)
  | _, _, _, _, .nil, b => b
  | _, _, _, _, .cons h a, b => .cons h (dpAll_app a b)
theorem dp_list {K : PySem.W.Frag} {H : Hp} {v : V} {ds : List PyData} (h : Dp K H v (.list ds)) : ∃ a xs, v = .ref a ∧ SqL K H a xs ∧ DpAll K H xs ds := by
  cases h with
  | lst h a => exact ⟨_, _, rfl, h, a⟩
theorem dp_tuple {K : PySem.W.Frag} {H : Hp} {v : V} {ds : List PyData} (h : Dp K H v (.tuple ds)) : ∃ a xs, v = .ref a ∧ SqT K H a xs ∧ DpAll K H xs ds := by
  cases h with
  | tup h a => exact ⟨_, _, rfl, h, a⟩
theorem dp_int {K : PySem.W.Frag} {H : Hp} {v : V} {i : Int} (h : Dp K H v (.int i)) : v = .int i := by
  cases h
  rfl
theorem dp_bool {K : PySem.W.Frag} {H : Hp} {v : V} {i : Bool} (h : Dp K H v (.bool i)) : v = .bl i := by
  cases h
  rfl
theorem dp_str {K : PySem.W.Frag} {H : Hp} {v : V} {i : Str} (h : Dp K H v (.str i)) : v = .str i := by
  cases h
  rfl
theorem dpAll_ints {K : PySem.W.Frag} {H : Hp} : ∀ {vs : List V} {ns : List Int}, DpAll K H vs (ns.map PyData.int) → vs = ns.map V.int
  | _, [], .nil => rfl
  | _, n :: ns, .cons h a => by
    rw [dp_int h, dpAll_ints a]
    rfl
theorem dnAll_ints {F : Hp} : ∀ ns : List Int, DnAll F (ns.map V.int) (ns.map PyData.int)
  | [] => .nil
  | n :: ns => .cons (.int n) (dnAll_ints ns)
theorem dpAll_ofInts {K : PySem.W.Frag} {H : Hp} (ns : List Int) : DpAll K H (ns.map V.int) (ns.map PyData.int) := (dnAll_ints ns).dp
/-- a pair of ints -/
def eP (r : Int × Int) : PyData := .tuple [.int r.1, .int r.2]
def eR (R : List (Int × Int)) : PyData := .list (R.map eP)
def eI (ns : List Int) : PyData := .list (ns.map PyData.int)
theorem dp_pair {K : PySem.W.Frag} {H : Hp} {v : V} {r : Int × Int} (h : Dp K H v (eP r)) : ∃ t, v = .ref t ∧ SqT K H t [.int r.1, .int r.2] := by
  obtain ⟨a, xs, rfl, hs, ha⟩ := dp_tuple h
  cases ha with
  | cons h1 h2 => cases h2 with
    | cons h3 h4 =>
      cases h4
      rw [dp_int h1, dp_int h3] at hs
      exact ⟨a, rfl, hs⟩
/-- v is new data d in H' over H -/
def NewV (H H' : Hp) (v : V) (d : PyData) : Prop := Dn (fr H H') v d
theorem NewV.dp {K : PySem.W.Frag} {H H' : Hp} {v : V} {d : PyData} (h : NewV H H' v d) : Dp K H' v d := same_dp fr_same (Dn.dp h)
theorem NewV.mono {H0 H H1 H2 : Hp} {v : V} {d : PyData} (h : NewV H H1 v d) (a : Same H0 H) (b : Same H1 H2) : NewV H0 H2 v d := Dn.mono (fr_mono a b) h
/-- at o stands a list that is being made, new over H0, of the data ds -/
def LB (H0 H : Hp) (o : Addr) (ds : List PyData) : Prop := H0 o = none ∧ ∃ xs, H o = some (.lst xs) ∧ DnAll (del (fr H0 H) o) xs ds
theorem LB.nil {H0 H : Hp} {o : Addr} (h : H0 o = none) : LB H0 (upd H o (.lst [])) o [] := ⟨h, [], upd_same, .nil⟩
theorem LB.same {H0 H H' : Hp} {o : Addr} {ds : List PyData} (h : LB H0 H o ds) (e : Same H H') : LB H0 H' o ds := by
  obtain ⟨h0, xs, h1, h2⟩ := h
  exact ⟨h0, xs, e _ _ h1, h2.mono (del_mono (fr_mono (Same.refl _) e))⟩
theorem LB.snoc {H0 H H4 : Hp} {o : Addr} {ds : List PyData} {y : V} {e : PyData} (h : LB H0 H o ds) (s0 : Same H0 H) (s : Same H H4) (n : NewV H H4 y e) :
    ∃ xs, H4 o = some (.lst xs) ∧ xs.length = ds.length ∧ LB H0 (upd H4 o (.lst (xs ++ [y]))) o (ds ++ [e]) := by
  obtain ⟨h0, xs, h1, h2⟩ := h
  have k : Same (fr H0 H4) (fr H0 H4) := Same.refl _
  have up : Same (del (fr H0 H4) o) (del (fr H0 (upd H4 o (.lst (xs ++ [y])))) o) := fun b u q => by
    by_cases c : b = o
    · subst c
      rw [del_self] at q
      cases q
    · rw [del_ne c] at q ⊢
      obtain ⟨q1, q2⟩ := fr_some q
      rw [fr_new q1, upd_ne c]
      exact q2
  refine ⟨xs, s _ _ h1, h2.len, h0, xs ++ [y], upd_same, DnAll.snoc (h2.mono ?_) (Dn.mono ?_ n)⟩
  · exact (del_mono (fr_mono (Same.refl _) s)).trans up
  · intro b u q
    obtain ⟨q1, q2⟩ := fr_some q
    have c : b ≠ o := fun z => by
      subst z
      rw [h1] at q1
      cases q1
    refine up b u ?_
    rw [del_ne c, fr_new (s0.free q1)]
    exact q2
theorem LB.newV {H0 H : Hp} {o : Addr} {ds : List PyData} (h : LB H0 H o ds) : NewV H0 H (.ref o) (.list ds) := by
  obtain ⟨h0, xs, h1, h2⟩ := h
  refine .lst (xs := xs) ?_ (h2.mono del_same)
  rw [fr_new h0]
  exact h1
theorem LB.at {H0 H : Hp} {o : Addr} {ds : List PyData} (h : LB H0 H o ds) : ∃ xs, H o = some (.lst xs) ∧ xs.length = ds.length := by
  obtain ⟨h0, xs, h1, h2⟩ := h
  exact ⟨xs, h1, h2.len⟩
/-- a new pair -/
theorem new_pair {H : Hp} {t : Addr} {i j : Int} (h : H t = none) : NewV H (upd H t (.tup [.int i, .int j])) (.ref t) (eP (i, j)) := by
  refine .tup (xs := [.int i, .int j]) ?_ (.cons (.int i) (.cons (.int j) .nil))
  rw [fr_new h]
  exact upd_same
theorem newV_ints {H H' : Hp} {p : Addr} {ns : List Int} (h : H p = none) (e : H' p = some (.lst (ns.map V.int))) : NewV H H' (.ref p) (eI ns) := by
  refine .lst (xs := ns.map V.int) ?_ (dnAll_ints ns)
  rw [fr_new h]
  exact e
theorem newV_list {H H' : Hp} {v : V} {ds : List PyData} (h : NewV H H' v (.list ds)) : ∃ p xs, v = .ref p ∧ H p = none ∧ H' p = some (.lst xs) ∧ DnAll (fr H H') xs ds := by
  cases h with
  | lst h a => exact ⟨_, _, rfl, (fr_some h).1, (fr_some h).2, a⟩

/-! ### comparing -/
theorem eqv_ints : ∀ (a b : List Int), PyData.eqvAll (a.map PyData.int) (b.map PyData.int) = decide (a = b)
  | [], [] => by simp [PyData.eqvAll]
  | [], _ :: _ => by simp [PyData.eqvAll]
  | _ :: _, [] => by simp [PyData.eqvAll]
  | x :: a, y :: b => by
    have ih := eqv_ints a b
    simp only [List.map_cons, PyData.eqvAll, PyData.eqv, ih]
    by_cases h : x = y <;> by_cases h2 : a = b <;> simp [h, h2]
theorem eqv_pairs : ∀ (a b : List (Int × Int)), PyData.eqvAll (a.map eP) (b.map eP) = decide (a = b)
  | [], [] => by simp [PyData.eqvAll]
  | [], _ :: _ => by simp [PyData.eqvAll]
  | _ :: _, [] => by simp [PyData.eqvAll]
  | (x, u) :: a, (y, w) :: b => by
    have ih := eqv_pairs a b
    simp only [List.map_cons, PyData.eqvAll, eP, PyData.eqv, ih]
    by_cases h : x = y <;> by_cases h1 : u = w <;> by_cases h2 : a = b <;> simp [h, h1, h2]
theorem eqv_eR (a b : List (Int × Int)) : PyData.eqv (eR a) (eR b) = decide (a = b) := by
  unfold eR
  rw [PyData.eqv, eqv_pairs]
theorem eqv_eI (a b : List Int) : PyData.eqv (eI a) (eI b) = decide (a = b) := by
  unfold eI
  rw [PyData.eqv, eqv_ints]
theorem can_all {ds : List PyData} : (∀ d ∈ ds, d.canLay0 = true) → PyData.canLayAll0 ds = true := by
  induction ds with
  | nil => intro _; simp [PyData.canLayAll0]
  | cons d ds ih =>
    intro h
    rw [PyData.canLayAll0, h d (by simp), ih fun e he => h e (List.mem_cons_of_mem _ he)]
    rfl
theorem depth_all {n : Nat} {ds : List PyData} : (∀ d ∈ ds, d.depth ≤ n) → PyData.depthAll ds ≤ n := by
  induction ds with
  | nil => intro _; simp [PyData.depthAll]
  | cons d ds ih =>
    intro h
    rw [PyData.depthAll]
    exact Nat.max_le.mpr ⟨h d (by simp), ih fun e he => h e (List.mem_cons_of_mem _ he)⟩
/-- data of at most so many storeys -/
def Sh (n : Nat) (d : PyData) : Prop := d.canLay0 = true ∧ d.depth ≤ n
theorem Sh.list {n : Nat} {ds : List PyData} (h : ∀ d ∈ ds, Sh n d) : Sh (n + 1) (.list ds) := by
  refine ⟨?_, ?_⟩
  · rw [PyData.canLay0]
    exact can_all fun d hd => (h d hd).1
  · rw [PyData.depth]
    exact Nat.succ_le_succ (depth_all fun d hd => (h d hd).2)
theorem Sh.tuple {n : Nat} {ds : List PyData} (h : ∀ d ∈ ds, Sh n d) : Sh (n + 1) (.tuple ds) := by
  refine ⟨?_, ?_⟩
  · rw [PyData.canLay0]
    exact can_all fun d hd => (h d hd).1
  · rw [PyData.depth]
    exact Nat.succ_le_succ (depth_all fun d hd => (h d hd).2)
theorem Sh.int {n : Nat} (i : Int) : Sh n (.int i) := ⟨by simp [PyData.canLay0], by simp [PyData.depth]⟩
theorem Sh.bool {n : Nat} (i : Bool) : Sh n (.bool i) := ⟨by simp [PyData.canLay0], by simp [PyData.depth]⟩
theorem Sh.eP {n : Nat} (r : Int × Int) : Sh (n + 1) (eP r) := Sh.tuple fun d hd => by
  simp at hd
  rcases hd with rfl | rfl <;> exact Sh.int _
theorem Sh.eR {n : Nat} (R : List (Int × Int)) : Sh (n + 2) (eR R) := Sh.list fun d hd => by
  obtain ⟨r, _, rfl⟩ := List.mem_map.mp hd
  exact Sh.eP r
theorem Sh.eI {n : Nat} (R : List Int) : Sh (n + 1) (eI R) := Sh.list fun d hd => by
  obtain ⟨r, _, rfl⟩ := List.mem_map.mp hd
  exact Sh.int r
theorem Sh.shaped {n : Nat} {d : PyData} (h : Sh n d) (hn : n ≤ 64 := by decide) : SeqAt.shaped d = true := by
  unfold SeqAt.shaped
  rw [h.1, decide_eq_true (Nat.le_trans h.2 hn)]
  rfl

/-! ### a < b < c < d, as a test -/
section
variable {X : Cx} {a b c d : Expr} {ta tb tc td : TE} {pos : Pos}
def tChain3 (r r' r2 : R2) (ta tb tc td : TE) : TT := fun σ H Q => ta σ H fun x H1 => tb σ H1 fun y H2 => r x y H2 fun z H3 => ∃ k, z = .bl k ∧
  (if k = true then tc σ H3 fun y' H4 => r' y y' H4 fun z' H5 => ∃ k', z' = .bl k' ∧ (if k' = true then td σ H5 fun w' H6 => r2 y' w' H6 fun z2 H7 => ∃ k2, z2 = .bl k2 ∧ Q k2 H7 else Q false H5) else Q false H3)
theorem pt_chain3 {op op' op2 : CmpOp} {r r' r2 : R2} (ho : OpR X (compareOp op) r) (ho' : OpR X (compareOp op') r') (ho2 : OpR X (compareOp op2) r2) (ha : PE X a ta) (hb : PE X b tb) (hc : PE X c tc) (hd : PE X d td)
    (hm : lastMarks [op, op', op2] [b, c, d] = false := by with_unfolding_all rfl) : PT X (.Compare a [op, op', op2] [b, c, d] pos) (tChain3 r r' r2 ta tb tc td) := by
  refine ⟨fun pins s σ H Q I h => ?_⟩
  refine isTrue_chain (thn (ha.run pins s σ H _ I h) fun v s1 ⟨x, H1, I1, r1, q1⟩ => test_link (thn (hb.run pins s1 σ H1 _ I1 q1) fun u s2 ⟨y, H2, I2, r2', q2⟩ =>
    thn (ho pins s2 σ H2 x y v u _ I2 r1 r2' q2) fun d1 s3 ⟨z, H3, I3, r3, k, e, q3⟩ => ?_)) hm
  subst e
  cases r3
  refine wpAny_truthy_bool ?_
  cases k with
  | false => exact ite_ff ⟨H3, I3, q3⟩
  | true =>
    refine ite_tt (test_link (thn (hc.run pins s3 σ H3 _ I3 q3) fun w' s4 ⟨z', H4, I4, r4, q4⟩ => thn (ho' pins s4 σ H4 y z' u w' _ I4 r2' r4 q4) fun d' s5 ⟨z2, H5, I5, r5, k2, e2, q5⟩ => ?_))
    subst e2
    cases r5
    refine wpAny_truthy_bool ?_
    cases k2 with
    | false => exact ite_ff ⟨H5, I5, q5⟩
    | true =>
      refine ite_tt (test_last (thn (hd.run pins s5 σ H5 _ I5 q5) fun w2 s6 ⟨z6, H6, I6, r6, q6⟩ => thn (ho2 pins s6 σ H6 z' z6 w' w2 _ I6 r4 r6 q6) fun d7 s7 ⟨z7, H7, I7, r7, k7, e7, q7⟩ => ?_))
      subst e7
      cases r7
      exact wpAny_truthy_bool ⟨H7, I7, q7⟩
end

/-! ### comprehensions that make new data -/
theorem sizeOk {n : Nat} (h : n ≤ 1000000) : n < sizeLine := Nat.lt_of_le_of_lt h (by decide)
theorem filterMap_succ {f : Nat → Option PyData} {n : Nat} {e : PyData} (h : f n = some e) : (List.range (n + 1)).filterMap f = (List.range n).filterMap f ++ [e] := by
  rw [List.range_succ, List.filterMap_append]
  simp [h]
theorem filterMap_succ0 {f : Nat → Option PyData} {n : Nat} (h : f n = none) : (List.range (n + 1)).filterMap f = (List.range n).filterMap f := by
  rw [List.range_succ, List.filterMap_append]
  simp [h]
theorem lcN_step {H1 H : Hp} {D : Addr} {f : Nat → Option PyData} {i n : Nat} (hn : n ≤ 1000000) (hi : i < n) (sm : Same H1 H) (lb : LB H1 H D ((List.range i).filterMap f)) :
    (∀ y H4 e, Same H H4 → f i = some e → NewV H H4 y e → ∃ acc, H4 D = some (.lst acc) ∧ acc.length < sizeLine ∧ (Same H1 (upd H4 D (.lst (acc ++ [y]))) ∧ LB H1 (upd H4 D (.lst (acc ++ [y]))) D ((List.range (i + 1)).filterMap f))) ∧
    (∀ H3, Same H H3 → f i = none → (Same H1 H3 ∧ LB H1 H3 D ((List.range (i + 1)).filterMap f))) := by
  refine ⟨fun y H4 e s fe nv => ?_, fun H3 s fe => ?_⟩
  · obtain ⟨xs, h1, h2, h3⟩ := lb.snoc sm s nv
    have hl : xs.length ≤ i := by
      rw [h2]
      exact Nat.le_trans (List.length_filterMap_le _ _) (by rw [List.length_range]; exact Nat.le_refl _)
    refine ⟨xs, h1, sizeOk (by omega), same_upd (sm.trans s) lb.1, ?_⟩
    rw [filterMap_succ fe]
    exact h3
  · refine ⟨sm.trans s, ?_⟩
    rw [filterMap_succ0 fe]
    exact lb.same s
theorem lcN_range {lo : Int} {n : Nat} {g : TG} {tt : TT} {te : TE} {vs : List Nat} {σ : L2.St} {H1 : Hp} {D : Addr} {Qd : Hp → Prop} (f : Nat → Option PyData) (hD : H1 D = none) (hn : n ≤ 1000000)
    (hs : ∀ (i : Nat) (H : Hp) (N1 : V → Hp → Prop) (N0 : Hp → Prop), i < n → Same H1 H → (∀ y H4 e, Same H H4 → f i = some e → NewV H H4 y e → N1 y H4) → (∀ H3, Same H H3 → f i = none → N0 H3) →
      g (.int (lo + i)) (wipe σ vs) H fun σ2 H2 => wipe σ2 vs = wipe σ vs ∧ tt σ2 H2 fun b H3 => if b = true then te σ2 H3 N1 else N0 H3)
    (hd : ∀ H, Same H1 H → LB H1 H D ((List.range n).filterMap f) → Qd H) :
    ∃ W : Nat → Nat → Hp → Prop, (∃ m, W 0 m (upd H1 D (.lst []))) ∧ ∀ i m H, W i m H →
      ((Itr lo n).stop i H ∧ Qd H) ∨ ((Itr lo n).go i H ∧ ∃ Nx : Hp → Prop, (∀ H', Nx H' → ∃ m', m' < m ∧ W (i + 1) m' H') ∧ ∀ x H', (Itr lo n).yld i H x H' → g x (wipe σ vs) H' fun σ2 H2 => wipe σ2 vs = wipe σ vs ∧ tt σ2 H2 fun b H3 =>
        if b = true then te σ2 H3 fun y H4 => ∃ acc, H4 D = some (.lst acc) ∧ acc.length < sizeLine ∧ Nx (upd H4 D (.lst (acc ++ [y]))) else Nx H3) :=
  lc_range (fun i H => Same H1 H ∧ LB H1 H D ((List.range i).filterMap f)) ⟨same_new hD, LB.nil hD⟩ (fun i H hi p => by
    obtain ⟨k1, k0⟩ := lcN_step hn hi p.1 p.2
    exact hs i H _ _ hi p.1 k1 k0) fun H p => hd H p.1 p.2
theorem lcN_list {K : PySem.W.Frag} {a : Addr} {xs : List V} {g : TG} {tt : TT} {te : TE} {vs : List Nat} {σ : L2.St} {H1 : Hp} {D : Addr} {Qd : Hp → Prop} (f : Nat → Option PyData) (hS : SqL K H1 a xs) (hD : H1 D = none) (hn : xs.length ≤ 1000000)
    (hs : ∀ (i : Nat) (x : V) (H : Hp) (N1 : V → Hp → Prop) (N0 : Hp → Prop), xs[i]? = some x → Same H1 H → (∀ y H4 e, Same H H4 → f i = some e → NewV H H4 y e → N1 y H4) → (∀ H3, Same H H3 → f i = none → N0 H3) →
      g x (wipe σ vs) H fun σ2 H2 => wipe σ2 vs = wipe σ vs ∧ tt σ2 H2 fun b H3 => if b = true then te σ2 H3 N1 else N0 H3)
    (hd : ∀ H, Same H1 H → LB H1 H D ((List.range xs.length).filterMap f) → Qd H) :
    ∃ W : Nat → Nat → Hp → Prop, (∃ m, W 0 m (upd H1 D (.lst []))) ∧ ∀ i m H, W i m H →
      ((Itl K a).stop i H ∧ Qd H) ∨ ((Itl K a).go i H ∧ ∃ Nx : Hp → Prop, (∀ H', Nx H' → ∃ m', m' < m ∧ W (i + 1) m' H') ∧ ∀ x H', (Itl K a).yld i H x H' → g x (wipe σ vs) H' fun σ2 H2 => wipe σ2 vs = wipe σ vs ∧ tt σ2 H2 fun b H3 =>
        if b = true then te σ2 H3 fun y H4 => ∃ acc, H4 D = some (.lst acc) ∧ acc.length < sizeLine ∧ Nx (upd H4 D (.lst (acc ++ [y]))) else Nx H3) :=
  lc_list (xs := xs) (fun i H => Same H1 H ∧ LB H1 H D ((List.range i).filterMap f)) ⟨same_new hD, LB.nil hD⟩ (fun i H _ p => p.1.seq hS) (fun i x H hx p => by
    obtain ⟨k1, k0⟩ := lcN_step (n := xs.length) hn (List.getElem?_eq_some_iff.mp hx).1 p.1 p.2
    exact hs i x H _ _ hx p.1 k1 k0) fun H p => hd H p.1 p.2
/-- .. that hands on items of what stood before -/
theorem lcO_list {K : PySem.W.Frag} {a : Addr} {xs : List V} {ds : List PyData} {g : TG} {tt : TT} {te : TE} {vs : List Nat} {σ : L2.St} {H1 : Hp} {D : Addr} {Qd : Hp → Prop} (p : PyData → Bool) (hS : SqL K H1 a xs) (hA : DpAll K H1 xs ds) (hD : H1 D = none) (hn : xs.length ≤ 1000000)
    (hs : ∀ (i : Nat) (x : V) (d : PyData) (H : Hp) (N1 : V → Hp → Prop) (N0 : Hp → Prop), ds[i]? = some d → Dp K H1 x d → Same H1 H → (∀ H4, Same H H4 → p d = true → N1 x H4) → (∀ H3, Same H H3 → p d = false → N0 H3) →
      g x (wipe σ vs) H fun σ2 H2 => wipe σ2 vs = wipe σ vs ∧ tt σ2 H2 fun b H3 => if b = true then te σ2 H3 N1 else N0 H3)
    (hd : ∀ H ys, Same H1 H → H D = some (.lst ys) → DpAll K H1 ys (ds.filter p) → Qd H) :
    ∃ W : Nat → Nat → Hp → Prop, (∃ m, W 0 m (upd H1 D (.lst []))) ∧ ∀ i m H, W i m H →
      ((Itl K a).stop i H ∧ Qd H) ∨ ((Itl K a).go i H ∧ ∃ Nx : Hp → Prop, (∀ H', Nx H' → ∃ m', m' < m ∧ W (i + 1) m' H') ∧ ∀ x H', (Itl K a).yld i H x H' → g x (wipe σ vs) H' fun σ2 H2 => wipe σ2 vs = wipe σ vs ∧ tt σ2 H2 fun b H3 =>
        if b = true then te σ2 H3 fun y H4 => ∃ acc, H4 D = some (.lst acc) ∧ acc.length < sizeLine ∧ Nx (upd H4 D (.lst (acc ++ [y]))) else Nx H3) := by
  refine lc_list (xs := xs) (fun i H => Same H1 H ∧ ∃ ys, H D = some (.lst ys) ∧ DpAll K H1 ys ((ds.take i).filter p)) ⟨same_new hD, [], upd_same, .nil⟩ (fun i H _ q => q.1.seq hS) (fun i x H hx q => ?_) fun H q => ?_
  · obtain ⟨sm, ys, hy, ha⟩ := q
    obtain ⟨d, hdi, hdx⟩ := dpAll_get hA hx
    have hi : i < xs.length := (List.getElem?_eq_some_iff.mp hx).1
    have hl : ys.length ≤ i := by
      rw [dpAll_len ha]
      exact Nat.le_trans (List.length_filter_le _ _) (by rw [List.length_take]; exact Nat.min_le_left _ _)
    refine hs i x d H _ _ hdi hdx sm (fun H4 s pd => ⟨ys, s _ _ hy, sizeOk (by omega), same_upd (sm.trans s) hD, ys ++ [x], upd_same, ?_⟩) (fun H3 s pd => ⟨sm.trans s, ys, s _ _ hy, ?_⟩)
    · rw [List.take_add_one, hdi, List.filter_append]
      simp only [Option.toList, List.filter, pd]
      exact dpAll_app ha (.cons hdx .nil)
    · rw [List.take_add_one, hdi, List.filter_append]
      simp only [Option.toList, List.filter, pd, List.append_nil]
      exact ha
  · obtain ⟨sm, ys, hy, ha⟩ := q
    rw [List.take_of_length_le (by rw [dpAll_len hA]; exact Nat.le_refl _)] at ha
    exact hd H ys sm hy ha
/-! ### lists that range makes -/
theorem range_ints {n : Nat} {p : Int → Bool} : (List.range n).filterMap (fun (i : Nat) => if p (i : Int) = true then some (PyData.int (i : Int)) else none) = (((List.range n).map fun (k : Nat) => (k : Int)).filter p).map PyData.int := by
  induction n with
  | zero => rfl
  | succ n ih =>
    rw [List.range_succ, List.filterMap_append, ih, List.map_append, List.filter_append, List.map_append]
    cases h : p (n : Int) <;> simp [h]
theorem list_ints {ns : List Int} {p : Int → Bool} : (List.range ns.length).filterMap (fun (i : Nat) => (ns[i]?).bind fun k => if p k = true then some (PyData.int k) else none) = (ns.filter p).map PyData.int := by
  have h : ∀ m, m ≤ ns.length → (List.range m).filterMap (fun (i : Nat) => (ns[i]?).bind fun k => if p k = true then some (PyData.int k) else none) = ((ns.take m).filter p).map PyData.int := by
    intro m
    induction m with
    | zero => intro _; rfl
    | succ m ih =>
      intro hm
      have hlt : m < ns.length := hm
      have g : ns[m]? = some ns[m] := List.getElem?_eq_getElem hlt
      rw [List.range_succ, List.filterMap_append, ih (Nat.le_of_succ_le hm), List.take_add_one, g, List.filter_append, List.map_append]
      congr 1
      rw [List.filterMap_cons, g]
      cases h : p ns[m] <;> simp [h]
  rw [h _ (Nat.le_refl _), List.take_length]
theorem lcN_range0 {n : Nat} {g : TG} {tt : TT} {te : TE} {vs : List Nat} {σ : L2.St} {H1 : Hp} {D : Addr} {Qd : Hp → Prop} (f : Nat → Option PyData) (hD : H1 D = none) (hn : n ≤ 1000000)
    (hs : ∀ (i : Nat) (H : Hp) (N1 : V → Hp → Prop) (N0 : Hp → Prop), i < n → Same H1 H → (∀ y H4 e, Same H H4 → f i = some e → NewV H H4 y e → N1 y H4) → (∀ H3, Same H H3 → f i = none → N0 H3) →
      g (.int (i : Int)) (wipe σ vs) H fun σ2 H2 => wipe σ2 vs = wipe σ vs ∧ tt σ2 H2 fun b H3 => if b = true then te σ2 H3 N1 else N0 H3)
    (hd : ∀ H, Same H1 H → LB H1 H D ((List.range n).filterMap f) → Qd H) :
    ∃ W : Nat → Nat → Hp → Prop, (∃ m, W 0 m (upd H1 D (.lst []))) ∧ ∀ i m H, W i m H →
      ((Itr 0 (n : Int).toNat).stop i H ∧ Qd H) ∨ ((Itr 0 (n : Int).toNat).go i H ∧ ∃ Nx : Hp → Prop, (∀ H', Nx H' → ∃ m', m' < m ∧ W (i + 1) m' H') ∧ ∀ x H', (Itr 0 (n : Int).toNat).yld i H x H' → g x (wipe σ vs) H' fun σ2 H2 => wipe σ2 vs = wipe σ vs ∧ tt σ2 H2 fun b H3 =>
        if b = true then te σ2 H3 fun y H4 => ∃ acc, H4 D = some (.lst acc) ∧ acc.length < sizeLine ∧ Nx (upd H4 D (.lst (acc ++ [y]))) else Nx H3) := by
  rw [Int.toNat_natCast]
  refine lcN_range (lo := 0) f hD hn (fun i H N1 N0 hi sm k1 k0 => ?_) hd
  rw [Int.zero_add]
  exact hs i H N1 N0 hi sm k1 k0
/-- whether a pair that stands as data has n -/
def inR (n : Int) : PyData → Bool
  | .tuple [.int a, .int b] => decide (a ≤ n) && decide (n ≤ b)
  | _ => false
theorem inR_eP (n : Int) (r : Int × Int) : inR n (eP r) = (decide (r.1 ≤ n) && decide (n ≤ r.2)) := rfl
theorem eqv_nil (ds : List PyData) : PyData.eqv (.list ds) (.list []) = ds.isEmpty := by
  rw [PyData.eqv]
  cases ds <;> simp [PyData.eqvAll]
theorem any_filter {p : PyData → Bool} : ∀ ds : List PyData, (!(ds.filter p).isEmpty) = ds.any p
  | [] => rfl
  | d :: ds => by
    rw [List.filter_cons, List.any_cons]
    cases h : p d
    · simp only [Bool.false_eq_true, if_false, Bool.false_or]
      exact any_filter ds
    · simp
theorem sh_filter {n : Nat} {p : PyData → Bool} {R : List (Int × Int)} : Sh (n + 2) (.list ((R.map eP).filter p)) := Sh.list fun d hd => by
  obtain ⟨r, _, rfl⟩ := List.mem_map.mp (List.mem_filter.mp hd).1
  exact Sh.eP r
theorem sh_nil {n : Nat} : Sh (n + 1) (.list []) := Sh.list fun d hd => by simp at hd
theorem get_map {α : Type} {f : α → PyData} {l : List α} {i : Nat} {d : PyData} (h : (l.map f)[i]? = some d) : ∃ r, l[i]? = some r ∧ d = f r := by
  rw [List.getElem?_map] at h
  cases e : l[i]? with
  | none =>
    rw [e] at h
    cases h
  | some r =>
    rw [e] at h
    exact ⟨r, rfl, (Option.some.inj h).symm⟩
/-! ### rules with the written part by name (within a comprehension the rules' own X.K would name what is bound there) -/
section
variable {X : Cx} {tg l : Expr} {tl : TE}
theorem ixL (K : PySem.W.Frag) (h : X.K = K := by rfl) : IxR X (rIxL K) := by subst h; exact ix_list
theorem ixT (K : PySem.W.Frag) (h : X.K = K := by rfl) : IxR X (rIxT K) := by subst h; exact ix_tup
def rLenQ (K : PySem.W.Frag) : List V → Hp → VK → Prop := fun xs H Q => ∃ p ys, xs = [.ref p] ∧ (SqL K H p ys ∨ SqT K H p ys) ∧ Q (.int ys.length) H
theorem lenQ (K : PySem.W.Frag) (h : X.K = K := by rfl) : CallR X (.builtin "len") (rLenQ K) := by subst h; exact call_len_seq
theorem inQ (K : PySem.W.Frag) (h : X.K = K := by rfl) : OpR X (compareOp .In) (rIn K false) := by subst h; exact op_in_seq
theorem notInQ (K : PySem.W.Frag) (h : X.K = K := by rfl) : OpR X (compareOp .NotIn) (rIn K true) := by subst h; exact op_notIn_seq
theorem eqD (K : PySem.W.Frag) (hu : X.A.units + 64 < cLine) (h : X.K = K := by rfl) : OpR X (compareOp .Eq) (rEqD K) := by subst h; exact op_eqD hu
theorem neD (K : PySem.W.Frag) (hu : X.A.units + 64 < cLine) (h : X.K = K := by rfl) : OpR X (compareOp .NotEq) (rNeD K) := by subst h; exact op_neD hu
theorem piL (K : PySem.W.Frag) (hl : PE X l tl) (h : X.K = K := by rfl) : PI X tg l (iList K tl) := by subst h; exact pi_list hl
theorem piT (K : PySem.W.Frag) (hl : PE X l tl) (h : X.K = K := by rfl) : PI X tg l (iTup K tl) := by subst h; exact pi_tup hl
theorem sumQ (K : PySem.W.Frag) (hc : X.calm = true) (h : X.K = K := by rfl) : CallR X (.builtin "sum") (rSum K) := by subst h; exact cr_sum hc
theorem allQ (K : PySem.W.Frag) (hc : X.calm = true) (h : X.K = K := by rfl) : CallR X (.builtin "all") (rAll K) := by subst h; exact cr_all hc
def rListOf (K : PySem.W.Frag) : List V → Hp → VK → Prop := fun xs H Q => ∃ p ys, xs = [.ref p] ∧ (SqL K H p ys ∨ SqT K H p ys) ∧ ∀ l, H l = none → Q (.ref l) (upd H l (.lst ys))
theorem listOf (K : PySem.W.Frag) (h : X.K = K := by rfl) : CallR X (.type "list") (rListOf K) := by subst h; exact call_list_of
def rTupOf (K : PySem.W.Frag) : List V → Hp → VK → Prop := fun xs H Q => ∃ p ys, xs = [.ref p] ∧ ((SqL K H p ys ∧ ∀ l, H l = none → Q (.ref l) (upd H l (.tup ys))) ∨ (SqT K H p ys ∧ Q (.ref p) H))
theorem tupOf (K : PySem.W.Frag) (h : X.K = K := by rfl) : CallR X (.type "tuple") (rTupOf K) := by subst h; exact call_tuple_of
theorem slL (K : PySem.W.Frag) (h : X.K = K := by rfl) : SlR X (rSlL K) := by subst h; exact sl_list
theorem mtIndex (K : PySem.W.Frag) (h : X.K = K := by rfl) : MtR X "list.index" (rIndex K) := by subst h; exact mt_index
theorem pgT (K : PySem.W.Frag) {es : List Expr} {k : Nat} {t : TGs} {n : Nat} {pos : Pos} (hc : X.calm = true) (hg : PGs X es t) (h : X.K = K := by rfl)
    (hn : (assignEach es X.env).length = n := by rfl) (hst : (assignEach es X.env).findIdx? (·.1) = none := by rfl) : PG X (.Tuple es k pos) (gTup K n t) := by subst h; exact pg_tup hc hg hn hst
theorem piEnum (K : PySem.W.Frag) {e : Expr} {ta : TA} {p pos tpos : Pos} {elts : List Expr} {kk : Nat} (hg : Gl X "enumerate") (hm : X.mg "enumerate" = none) (ha : PA X [e] ta) (h : X.K = K := by rfl) (hs : starEach [e] X.env = [(false, eval e X.env)] := by rfl) :
    PI X (.Tuple elts kk tpos) (.Call (.Name "enumerate" p) [e] [] pos) (iEnum K ta) := by subst h; exact pi_enum hg hm ha hs
end
theorem DnAll.unsnoc {F : Hp} : ∀ {vs : List V} {ds : List PyData} {d : PyData}, DnAll F vs (ds ++ [d]) → ∃ us x, vs = us ++ [x] ∧ DnAll F us ds ∧ Dn F x d
  | _, [], d, .cons h .nil => ⟨[], _, rfl, .nil, h⟩
  | _, e :: ds, d, .cons h a => by
    obtain ⟨us, x, rfl, h1, h2⟩ := DnAll.unsnoc a
    exact ⟨_ :: us, x, rfl, .cons h h1, h2⟩
theorem LB.last {H0 H : Hp} {o : Addr} {ds : List PyData} {d : PyData} (h : LB H0 H o (ds ++ [d])) : ∃ xi x, H o = some (.lst (xi ++ [x])) ∧ Dn (fr H0 H) x d := by
  obtain ⟨h0, xs, h1, h2⟩ := h
  obtain ⟨us, x, rfl, h3, h4⟩ := h2.unsnoc
  exact ⟨us, x, h1, Dn.mono del_same h4⟩
theorem LB.setLast {H0 H H4 : Hp} {o : Addr} {ds : List PyData} {d e : PyData} {y : V} {xi : List V} {x : V} (h : LB H0 H o (ds ++ [d])) (hx : H o = some (.lst (xi ++ [x]))) (s0 : Same H0 H) (s : Same H H4) (n : NewV H H4 y e) : LB H0 (upd H4 o (.lst (xi ++ [y]))) o (ds ++ [e]) := by
  obtain ⟨h0, xs, h1, h2⟩ := h
  obtain ⟨us, x', rfl, h3, h4⟩ := h2.unsnoc
  have e1 := HO.lst.inj (Option.some.inj (hx.symm.trans h1))
  obtain ⟨rfl, _⟩ : xi = us ∧ x = x' := by simpa using e1
  have lb : LB H0 (upd H o (.lst xi)) o ds := by
    refine ⟨h0, xi, upd_same, h3.mono fun b u q => ?_⟩
    by_cases c : b = o
    · subst c
      rw [del_self] at q
      cases q
    · rw [del_ne c] at q ⊢
      obtain ⟨q1, q2⟩ := fr_some q
      rw [fr_new q1, upd_ne c]
      exact q2
  have s4 : Same (upd H o (.lst xi)) (upd H4 o (.lst xi)) := fun b u q => by
    by_cases c : b = o
    · subst c
      rw [upd_same] at q ⊢
      exact q
    · rw [upd_ne c] at q ⊢
      exact s _ _ q
  have nv : NewV (upd H o (.lst xi)) (upd H4 o (.lst xi)) y e := by
    refine Dn.mono (fun b u q => ?_) n
    obtain ⟨q1, q2⟩ := fr_some q
    have c : b ≠ o := fun z => by
      subst z
      rw [hx] at q1
      cases q1
    rw [fr_new (by rw [upd_ne c]; exact q1), upd_ne c]
    exact q2
  obtain ⟨ys, k1, k2, k3⟩ := lb.snoc (same_upd s0 h0) s4 nv
  rw [upd_same] at k1
  obtain rfl := HO.lst.inj (Option.some.inj k1)
  rw [upd_upd] at k3
  exact k3
theorem ixN_last (n : Nat) : ixN (n + 1) (-1) = some n := by
  unfold ixN
  rw [if_neg (by omega), if_pos (by omega)]
  congr 1
  omega
theorem set_last (xs : List V) (x y : V) : (xs ++ [x]).set xs.length y = xs ++ [y] := by
  rw [List.set_append_right _ _ (Nat.le_refl _), Nat.sub_self]
  rfl
theorem len_snoc (xs : List V) (x : V) : (xs ++ [x]).length = xs.length + 1 := by simp
theorem map_get {α : Type} {f : α → V} {l : List α} {i : Nat} {d : V} (h : (l.map f)[i]? = some d) : ∃ r, l[i]? = some r ∧ d = f r := by
  rw [List.getElem?_map] at h
  cases e : l[i]? with
  | none =>
    rw [e] at h
    cases h
  | some r =>
    rw [e] at h
    exact ⟨r, rfl, (Option.some.inj h).symm⟩
/-! ### small words -/
theorem bT {p : Prop} [Decidable p] (h : p) : V.bl (decide p) = V.bl true := congrArg V.bl (decide_eq_true h)
theorem bF {p : Prop} [Decidable p] (h : ¬ p) : V.bl (decide p) = V.bl false := congrArg V.bl (decide_eq_false h)
theorem itT {c A B : Prop} [Decidable c] (hc : c) (h : A) : if c then A else B := by
  rw [if_pos hc]
  exact h
theorem itF {c A B : Prop} [Decidable c] (hc : ¬ c) (h : B) : if c then A else B := by
  rw [if_neg hc]
  exact h
theorem for_enum {K : PySem.W.Frag} {a : Addr} {xs : List V} {g : TG} {tb : TS} {D : Ends} {σ : L2.St} {H : Hp} (Pv : Nat → L2.St → Hp → Prop) (h0 : Pv 0 σ H) (hl : ∀ i σ H, i ≤ xs.length → Pv i σ H → SqL K H a xs)
    (hs : ∀ i x t σ H, xs[i]? = some x → H t = none → Pv i σ H → g (.ref t) σ (upd H t (.tup [.int (i : Nat), x])) fun σ2 H2 => tb { D with nx := Pv (i + 1), ct := Pv (i + 1), bk := D.nx } σ2 H2) (hd : ∀ σ H, Pv xs.length σ H → D.nx σ H) :
    ∃ W : Nat → Nat → L2.St → Hp → Prop, (∃ m, W 0 m σ H) ∧ ∀ i m σ H, W i m σ H →
      ((Ite K a).stop i H ∧ D.nx σ H) ∨ ((Ite K a).go i H ∧ ∃ N : L2.St → Hp → Prop, (∀ σ' H', N σ' H' → ∃ m', m' < m ∧ W (i + 1) m' σ' H') ∧ ∀ x H', (Ite K a).yld i H x H' → g x σ H' fun σ2 H2 => tb { D with nx := N, ct := N, bk := D.nx } σ2 H2) := by
  refine ⟨fun i m σ H => m = xs.length - i ∧ i ≤ xs.length ∧ Pv i σ H, ⟨xs.length, by simp, Nat.zero_le _, h0⟩, ?_⟩
  rintro i m σ H ⟨rfl, hi, p⟩
  have q := hl i σ H hi p
  by_cases hlt : i < xs.length
  · refine .inr ⟨⟨xs, xs[i], q, by simp [hlt]⟩, Pv (i + 1), fun σ' H' p' => ⟨xs.length - (i + 1), by omega, rfl, hlt, p'⟩, fun x H' y => ?_⟩
    obtain ⟨t, z, rfl, nt, rfl, fz⟩ := y
    exact hs i z t σ H (fz xs q) nt p
  · have e : i = xs.length := by omega
    subst e
    exact .inl ⟨⟨xs, q, Nat.le_refl _⟩, hd σ H p⟩
theorem pe_gI {X : Cx} {x : Str} {pos : Pos} {i : Int} (hg : Gl X x) (h : ∃ t, X.mg x = some (.int i t)) (hdb : (x == ("__debug__" : Str)) = false := by decide) : PE X (.Name x pos) (tC (.int i)) := by
  obtain ⟨t, h⟩ := h
  exact pe_glob hg h ⟨_, rfl⟩ hdb
theorem seq_join {t u : TS} {D : Ends} {σ : L2.St} {H : Hp} (J : L2.St → Hp → Prop) (hu : ∀ σ' H', J σ' H' → u D σ' H') (ht : ∀ N : L2.St → Hp → Prop, (∀ σ' H', J σ' H' → N σ' H') → t { D with nx := N } σ H) : tSeq t u D σ H := ht _ hu
theorem ixN_at {n j : Nat} (hj : j < n) : ixN n (j : Int) = some j := by
  unfold ixN
  rw [if_pos (by omega), if_pos (by omega)]
  rfl
theorem LB.ints {H0 H : Hp} {o : Addr} {ns : List Int} (h : LB H0 H o (ns.map PyData.int)) : H o = some (.lst (ns.map V.int)) := by
  obtain ⟨h0, xs, h1, h2⟩ := h
  have e := dpAll_ints (K := []) h2.dp
  rw [e] at h1
  exact h1
/-- the state of the dice -/
def DiceOk (D : List Int) : Prop := 2 ≤ D.length ∧ D.length ≤ 100 ∧ ∀ x ∈ D, 0 ≤ x
/-! ### expressions that change nothing: what they are worth -/
theorem NewV.but {dd : Addr} {o : HO} {H H1 H2 : Hp} {v : V} {d : PyData} (h : NewV H H1 v d) (hd : H dd = some o) (e : SameBut dd H1 H2) : NewV H H2 v d := Dn.mono (fun b u q => by
  obtain ⟨q1, q2⟩ := fr_some q
  rw [fr_new q1]
  refine e b u (fun z => ?_) q2
  subst z
  rw [hd] at q1
  cases q1) h
theorem dpAll_take {K : PySem.W.Frag} {H : Hp} : ∀ (n : Nat) {vs : List V} {ds : List PyData}, DpAll K H vs ds → DpAll K H (vs.take n) (ds.take n)
  | 0, _, _, _ => .nil
  | _ + 1, _, _, .nil => .nil
  | n + 1, _, _, .cons h a => .cons h (dpAll_take n a)
theorem dpAll_drop {K : PySem.W.Frag} {H : Hp} : ∀ (n : Nat) {vs : List V} {ds : List PyData}, DpAll K H vs ds → DpAll K H (vs.drop n) (ds.drop n)
  | 0, _, _, h => h
  | _ + 1, _, _, .nil => .nil
  | n + 1, _, _, .cons _ a => dpAll_drop n a
theorem dpAll_rev {K : PySem.W.Frag} {H : Hp} : ∀ {vs : List V} {ds : List PyData}, DpAll K H vs ds → DpAll K H vs.reverse ds.reverse
  | _, _, .nil => .nil
  | _, _, .cons h a => by
    rw [List.reverse_cons, List.reverse_cons]
    exact dpAll_app (dpAll_rev a) (.cons h .nil)
theorem cut_to (xs : List V) (k : Nat) : cutV xs none (some (k : Int)) = xs.take k := by
  unfold cutV
  rw [HT.sIx_none, HT.sIx_nat, List.drop_zero, Nat.sub_zero]
  by_cases h : k ≤ xs.length
  · rw [Nat.min_eq_left h]
  · rw [Nat.min_eq_right (by omega), List.take_of_length_le (Nat.le_refl _), List.take_of_length_le (by omega)]
theorem cut_from (xs : List V) (k : Nat) : cutV xs (some (k : Int)) none = xs.drop k := by
  unfold cutV
  rw [HT.sIx_none, HT.sIx_nat]
  by_cases h : k ≤ xs.length
  · rw [Nat.min_eq_left h]
    exact List.take_of_length_le (by rw [List.length_drop]; exact Nat.le_refl _)
  · rw [Nat.min_eq_right (by omega), List.drop_of_length_le (Nat.le_refl _), List.drop_of_length_le (by omega)]
    simp
/-- in every heap over G the expression gives the data d, and leaves what stands -/
def Ev (K : PySem.W.Frag) (G : Hp) (σ : L2.St) (t : TE) (d : PyData) : Prop := ∀ (H : Hp) (Q : VK), Same G H → (∀ H' v, Same H H' → Dp K H' v d → Q v H') → t σ H Q
def EvB (K : PySem.W.Frag) (G : Hp) (σ : L2.St) (t : TT) (b : Bool) : Prop := ∀ (H : Hp) (Q : Bool → Hp → Prop), Same G H → (∀ H', Same H H' → Q b H') → t σ H Q
section
variable {K : PySem.W.Frag} {G : Hp} {σ : L2.St} {ta tb tc : TE} {tA tB' : TT} {d e : PyData}
theorem Ev.var {i : Nat} {v : V} (h : σ[i]? = some (some v)) (hd : Dp K G v d) : Ev K G σ (tVar i) d := fun H _ s k => ⟨v, h, k H v (Same.refl _) (same_dp s hd)⟩
theorem Ev.int (i : Int) : Ev K G σ (tC (.int i)) (.int i) := fun H _ _ k => k H _ (Same.refl _) (.int i)
theorem Ev.mono {G' : Hp} {t : TE} (h : Ev K G σ t d) (s : Same G G') : Ev K G' σ t d := fun H Q s' k => h H Q (s.trans s') k
theorem Ev.nil : Ev K G σ (tLst tNil) (.list []) := fun H _ _ k => ⟨Nat.zero_le _, fun p np => k _ _ (same_new np) (.lst (SqL.of upd_same) .nil)⟩
theorem Ev.take (k : Nat) {ds : List PyData} (h : Ev K G σ ta (.list ds)) : Ev K G σ (tSl (rSlL K) ta tNoPart (tPart (tC (.int (k : Int))))) (.list (ds.take k)) := fun H Q s c => h H _ s fun H1 v s1 hv => by
  obtain ⟨a, xs, rfl, hS, hA⟩ := dp_list hv
  refine ⟨(k : Int), rfl, a, xs, rfl, hS, fun p np => ?_⟩
  rw [cut_to]
  exact c _ _ (s1.trans (same_new np)) (.lst (SqL.of upd_same) (same_dpAll (same_new np) (dpAll_take k hA)))
theorem Ev.rev {ds : List PyData} (h : Ev K G σ ta (.list ds)) : Ev K G σ (tRevL K ta) (.list ds.reverse) := fun H Q s c => h H _ s fun H1 v s1 hv => by
  obtain ⟨a, xs, rfl, hS, hA⟩ := dp_list hv
  exact ⟨a, xs, rfl, hS, fun p np => c _ _ (s1.trans (same_new np)) (.lst (SqL.of upd_same) (same_dpAll (same_new np) (dpAll_rev hA)))⟩
theorem EvB.ne {n m : Nat} (ha : Ev K G σ ta d) (hb : Ev K G σ tb e) (sd : Sh n d) (se : Sh m e) (hn : n ≤ 64 := by decide) (hm : m ≤ 64 := by decide) : EvB K G σ (tTest (tOp (rNeD K) ta tb)) (!PyData.eqv d e) := fun H Q s k =>
  ha H _ s fun H1 v1 s1 d1 => hb H1 _ (s.trans s1) fun H2 v2 s2 d2 => ⟨d, e, same_dp s2 d1, d2, sd.shaped hn, se.shaped hm, _, rfl, k H2 (s1.trans s2)⟩
theorem EvB.eq {n m : Nat} (ha : Ev K G σ ta d) (hb : Ev K G σ tb e) (sd : Sh n d) (se : Sh m e) (hn : n ≤ 64 := by decide) (hm : m ≤ 64 := by decide) : Ev K G σ (tOp (rEqD K) ta tb) (.bool (PyData.eqv d e)) := fun H Q s k =>
  ha H _ s fun H1 v1 s1 d1 => hb H1 _ (s.trans s1) fun H2 v2 s2 d2 => ⟨d, e, same_dp s2 d1, d2, sd.shaped hn, se.shaped hm, k H2 _ (s1.trans s2) (.bl _)⟩
theorem EvB.or {a b : Bool} (ha : EvB K G σ tA a) (hb : EvB K G σ tB' b) : EvB K G σ (tOr tA tB') (a || b) := fun H Q s k =>
  ha H _ s fun H1 s1 => by
    cases a
    · exact iteF (hb H1 _ (s.trans s1) fun H2 s2 => k H2 (s1.trans s2))
    · exact iteT (k H1 s1)
theorem EvB.and {a b : Bool} (ha : EvB K G σ tA a) (hb : EvB K G σ tB' b) : EvB K G σ (tAnd tA tB') (a && b) := fun H Q s k =>
  ha H _ s fun H1 s1 => by
    cases a
    · exact iteF (k H1 s1)
    · exact iteT (hb H1 _ (s.trans s1) fun H2 s2 => k H2 (s1.trans s2))
theorem EvB.not {a : Bool} (ha : EvB K G σ tA a) : EvB K G σ (tNot tA) (!a) := fun H _ s k => ha H _ s fun H1 s1 => k H1 s1
theorem EvB.val {a : Bool} {t : TE} (h : Ev K G σ t (.bool a)) : EvB K G σ (L2.tB t) a := fun H _ s k => h H _ s fun H1 v s1 hv => ⟨a, dp_bool hv, k H1 s1⟩
/-- an if whose test is false -/
theorem EvB.pass {t1 : TS} {D : Ends} {H : Hp} (h : EvB K G σ tA false) (s : Same G H) (k : ∀ H', Same H H' → D.nx σ H') : tIfS tA t1 tNext D σ H := h H _ s fun H' s' => iteF (k H' s')
end
theorem list_map {α : Type} (l : List α) (g : α → PyData) : (List.range l.length).filterMap (fun (i : Nat) => (l[i]?).bind fun k => some (g k)) = l.map g := by
  have h : ∀ m, m ≤ l.length → (List.range m).filterMap (fun (i : Nat) => (l[i]?).bind fun k => some (g k)) = (l.take m).map g := by
    intro m
    induction m with
    | zero => intro _; rfl
    | succ m ih =>
      intro hm
      have hlt : m < l.length := hm
      have e : l[m]? = some l[m] := List.getElem?_eq_getElem hlt
      rw [List.range_succ, List.filterMap_append, ih (Nat.le_of_succ_le hm), List.take_add_one, e, List.map_append]
      congr 1
      rw [List.filterMap_cons, e]
      rfl
  rw [h _ (Nat.le_refl _), List.take_length]
theorem yesT {σ : L2.St} {H : Hp} {A B : Hp → Prop} (h : A H) : tYes σ H fun b H3 => if b = true then A H3 else B H3 := by
  show if true = true then A H else B H
  rw [if_pos rfl]
  exact h
/-! ### defs -/
section
variable {P : Program} {w : World} {K : PySem.W.Frag} {mg : Str → Option Value} {base : Heap}
/-- a def of the program's top: what stands under its name -/
structure Df (K : PySem.W.Frag) (mg : Str → Option Value) (x : Str) (st : Stmt) (ps : List Str) : Prop where
  ex : ∃ (f : Addr) (fd : FuncData), Fun K x x st f fd ∧ mg x = some (.ref f) ∧ Binds K fd ps []
/-- a def that keeps a promise, called by its name -/
structure Cl (P : Program) (w : World) (K : PySem.W.Frag) (mg : Str → Option Value) (base : Heap) (k : Nat) (x : Str) (sp : Sp) : Prop where
  ex : ∃ (f : Addr) (fd : FuncData) (ps : List Str), FnOk P w K mg base CX0 k f fd ps sp ∧ mg x = some (.ref f) ∧ PySem.W.keepIn K (.ref f) = true ∧ Binds K fd ps []
theorem Df.cl {x : Str} {st : Stmt} {N ps : List Str} {k : Nat} {sp : Sp} (F : Df K mg x st ps) (S : FnScope N ps (defScope st)) (len : ∀ vs H Q E, sp vs H Q E → vs.length = ps.length)
    (hbody : ∀ (f : Addr) (cdv : Value) (A : Around) (outer : List Env) (s : Shared) (H : Hp) (vs : List V) (Q : VK) (E : XK), Room k (A.deeper (envOfC x (defScope st) s.heap.objs.size f cdv)) → sp vs H Q E →
      ∃ t, PSs (cxOf CX0 P w K mg base N x (defScope st) f cdv A outer s H E).nox (defBody st) t ∧ t { nx := fun _ H' => Q .non H', rt := Q } (start N vs) H) : Cl P w K mg base (k + 1) x sp := by
  obtain ⟨f, fd, F0, g, b⟩ := F.ex
  exact ⟨f, fd, ps, F0.ok S len (fun cdv A outer s H vs Q E hr h => hbody f cdv A outer s H vs Q E hr h), g, F0.kp, b⟩
theorem Cl.imp {x : Str} {k : Nat} {sp sp' : Sp} (c : Cl P w K mg base k x sp) (h : ∀ vs H Q E, sp' vs H Q E → sp vs H Q E) : Cl P w K mg base k x sp' := by
  obtain ⟨f, fd, ps, F, a, b, d⟩ := c.ex
  exact ⟨f, fd, ps, F.imp h, a, b, d⟩
end
section
variable {X : Cx} {k j : Nat} {x : Str} {sp : Sp} {p pos : Pos} {e : Expr} {es : List Expr} {t : TA}
theorem pe_k (c : Cl X.prog X.w X.K X.mg X.base k x sp) (hr : Room j X.A) (ha : PA X (e :: es) t) (hk : k ≤ j := by decide) (hg : Gl X x := by rfl)
    (hdb : (x == ("__debug__" : Str)) = false := by decide) (he : starEach (e :: es) X.env = (false, eval e X.env) :: starEach es X.env := by rfl) (hpl : (backTo pos (starEach es X.env)).any (·.1) = false := by rfl) :
    PE X (.Call (.Name x p) (e :: es) [] pos) (tCall sp [] E0 t) := by
  obtain ⟨f, fd, ps, F, hm, kp, b⟩ := c.ex
  exact pe_call F (hr.mono hk) hg hm kp b .nil pass0 ha hdb he hpl
end
end Sg
/-! Signsets: more about data: heaps without the dice, parts of what was told, membership. -/
namespace Sg
open PySem PySem.Spec PyProof.Rows L2

/-! ### rising lists -/
theorem rising_ext : ∀ {a b : List Int}, a.Pairwise (· < ·) → b.Pairwise (· < ·) → (∀ k, k ∈ a ↔ k ∈ b) → a = b
  | [], [], _, _, _ => rfl
  | [], y :: b, _, _, h => absurd ((h y).mpr (by simp)) (by simp)
  | x :: a, [], _, _, h => absurd ((h x).mp (by simp)) (by simp)
  | x :: a, y :: b, ha, hb, h => by
    rw [List.pairwise_cons] at ha hb
    have e : x = y := by
      rcases List.mem_cons.mp ((h x).mp (by simp)) with q | q
      · exact q
      · rcases List.mem_cons.mp ((h y).mpr (by simp)) with r | r
        · exact r.symm
        · have h1 := hb.1 x q
          have h2 := ha.1 y r
          omega
    subst e
    rw [rising_ext ha.2 hb.2 fun k => ⟨fun m => ?_, fun m => ?_⟩]
    · rcases List.mem_cons.mp ((h k).mp (List.mem_cons_of_mem _ m)) with q | q
      · have := ha.1 k m
        omega
      · exact q
    · rcases List.mem_cons.mp ((h k).mpr (List.mem_cons_of_mem _ m)) with q | q
      · have := hb.1 k m
        omega
      · exact q
theorem sep_two {R : List (Int × Int)} (h : R.Pairwise fun a b => a.2 + 1 < b.1) {r q : Int × Int} (hr : r ∈ R) (hq : q ∈ R) : r = q ∨ r.2 + 1 < q.1 ∨ q.2 + 1 < r.1 := by
  obtain ⟨i, hi, rfl⟩ := List.getElem_of_mem hr
  obtain ⟨j, hj, rfl⟩ := List.getElem_of_mem hq
  rw [List.pairwise_iff_getElem] at h
  rcases Nat.lt_trichotomy i j with c | c | c
  · exact .inr (.inl (h i j hi hj c))
  · subst c
    exact .inl rfl
  · exact .inr (.inr (h j i hj hi c))
theorem told_firsts {ns : List Int} (h : ns.Pairwise (· < ·)) : (told ns).map (·.1) = ns.filter fun k => !decide (k - 1 ∈ ns) := by
  have t := told_ti h
  refine rising_ext ?_ (h.filter _) fun k => ?_
  · rw [List.pairwise_map]
    refine List.Pairwise.imp_of_mem (fun {a b} ha hb c => ?_) t.sep
    have := t.le a ha
    omega
  · rw [List.mem_map, List.mem_filter, Bool.not_eq_true', decide_eq_false_iff_not, ← t.has k, ← t.has (k - 1), has_iff, has_iff]
    constructor
    · rintro ⟨r, hr, rfl⟩
      refine ⟨⟨r, hr, Int.le_refl _, t.le r hr⟩, ?_⟩
      rintro ⟨q, hq, h1, h2⟩
      rcases sep_two t.sep hr hq with e | e | e
      · rw [← e] at h1
        omega
      · have := t.le r hr
        omega
      · omega
    · rintro ⟨⟨r, hr, h1, h2⟩, h3⟩
      refine ⟨r, hr, ?_⟩
      by_cases c : r.1 = k
      · exact c
      · exact absurd ⟨r, hr, by omega, by omega⟩ h3
theorem told_lasts {ns : List Int} (h : ns.Pairwise (· < ·)) : (told ns).map (·.2) = ns.filter fun k => !decide (k + 1 ∈ ns) := by
  have t := told_ti h
  refine rising_ext ?_ (h.filter _) fun k => ?_
  · rw [List.pairwise_map]
    refine List.Pairwise.imp_of_mem (fun {a b} ha hb c => ?_) t.sep
    have := t.le b hb
    omega
  · rw [List.mem_map, List.mem_filter, Bool.not_eq_true', decide_eq_false_iff_not, ← t.has k, ← t.has (k + 1), has_iff, has_iff]
    constructor
    · rintro ⟨r, hr, rfl⟩
      refine ⟨⟨r, hr, t.le r hr, Int.le_refl _⟩, ?_⟩
      rintro ⟨q, hq, h1, h2⟩
      rcases sep_two t.sep hr hq with e | e | e
      · rw [← e] at h2
        omega
      · omega
      · have := t.le r hr
        omega
    · rintro ⟨⟨r, hr, h1, h2⟩, h3⟩
      refine ⟨r, hr, ?_⟩
      by_cases c : r.2 = k
      · exact c
      · exact absurd ⟨r, hr, by omega, by omega⟩ h3

/-! ### no list of fewer ranges has the same signs -/
theorem nodup_len : ∀ {a b : List Int}, a.Nodup → (∀ x ∈ a, x ∈ b) → a.length ≤ b.length
  | [], b, _, _ => Nat.zero_le _
  | x :: a, b, hn, hs => by
    rw [List.nodup_cons] at hn
    have hx : x ∈ b := hs x (by simp)
    have ih := nodup_len (b := b.erase x) hn.2 fun y hy => (List.mem_erase_of_ne fun z => hn.1 (by rw [← z]; exact hy)).mpr (hs y (List.mem_cons_of_mem _ hy))
    rw [List.length_erase_of_mem hx] at ih
    have : 0 < b.length := List.length_pos_of_mem hx
    rw [List.length_cons]
    omega
theorem told_first_mem {ns : List Int} (h : ns.Pairwise (· < ·)) {r : Int × Int} (hr : r ∈ told ns) : r.1 ∈ ns ∧ r.1 - 1 ∉ ns := by
  have m : r.1 ∈ (told ns).map (·.1) := List.mem_map.mpr ⟨r, hr, rfl⟩
  rw [told_firsts h, List.mem_filter, Bool.not_eq_true', decide_eq_false_iff_not] at m
  exact m
theorem told_fewest {ns : List Int} (h : ns.Pairwise (· < ·)) {O : List (Int × Int)} (hO : ∀ k, k ∈ ns ↔ has O k = true) : (told ns).length ≤ O.length := by
  have t := told_ti h
  have e := nodup_len (a := (told ns).map (·.1)) (b := O.map (·.1)) ?_ ?_
  · rw [List.length_map, List.length_map] at e
    exact e
  · rw [told_firsts h]
    exact (h.filter _).imp fun {a b} c => by omega
  · intro x hx
    obtain ⟨r, hr, rfl⟩ := List.mem_map.mp hx
    obtain ⟨m1, m2⟩ := told_first_mem h hr
    obtain ⟨o, ho, h1, h2⟩ := has_iff.mp ((hO _).mp m1)
    refine List.mem_map.mpr ⟨o, ho, ?_⟩
    by_cases c : o.1 = r.1
    · exact c
    · exact absurd ((hO _).mpr (has_iff.mpr ⟨o, ho, by omega, by omega⟩)) m2

/-! ### membership -/
theorem inV_ints (k : Int) : ∀ ns : List Int, inV (.int k) (ns.map V.int) = decide (k ∈ ns)
  | [] => rfl
  | n :: ns => by
    have ih := inV_ints k ns
    unfold inV at ih ⊢
    rw [List.map_cons, List.any_cons, ih]
    have e : eqV (.int n) (.int k) = decide (n = k) := by
      show (n == k) = _
      by_cases h : n = k <;> simp [h]
    rw [e]
    by_cases h : n = k
    · simp [h]
    · by_cases h2 : k ∈ ns
      · simp [h2]
      · simp [h, h2]
        exact fun z => h z.symm
theorem flat_ints (ns : List Int) : (ns.map V.int).all flatV = true := by
  rw [List.all_eq_true]
  intro x hx
  obtain ⟨n, _, rfl⟩ := List.mem_map.mp hx
  rfl
theorem dpAll_bools {K : PySem.W.Frag} {H : Hp} : ∀ {vs : List V} {bs : List Bool}, DpAll K H vs (bs.map PyData.bool) → vs = bs.map V.bl
  | _, [], .nil => rfl
  | _, n :: ns, .cons h a => by
    rw [dp_bool h, dpAll_bools a]
    rfl
theorem rIx_of {K : PySem.W.Frag} {H : Hp} {Q : VK} {a : Addr} {xs : List V} {i : Nat} {v : V} (hq : SqL K H a xs ∨ SqT K H a xs) (hi : xs[i]? = some v) (q : Q v H) : rIx K (.ref a) (.int (i : Int)) H Q := by
  rcases hq with h | h
  · exact .inl ⟨a, xs, i, v, rfl, rfl, h, atI_nat hi, q⟩
  · exact .inr (.inl ⟨a, xs, i, v, rfl, rfl, h, atI_nat hi, q⟩)

/-! ### heaps without one address -/
theorem sb_same {d : Addr} {H H' : Hp} (e : SameBut d H H') : Same (del H d) (del H' d) := fun b o h => by
  by_cases c : b = d
  · subst c
    rw [del_self] at h
    cases h
  · rw [del_ne c] at h ⊢
    exact e b o c h
theorem NewV.del {d : Addr} {o : HO} {H H' : Hp} {v : V} {e : PyData} (h : NewV H H' v e) (hd : H d = some o) : NewV (del H d) (Sg.del H' d) v e := Dn.mono (fun b u q => by
  obtain ⟨q1, q2⟩ := fr_some q
  have c : b ≠ d := fun z => by
    subst z
    rw [hd] at q1
    cases q1
  rw [fr_new (by rw [del_ne c]; exact q1), del_ne c]
  exact q2) h
theorem NewV.undel {d : Addr} {H H' : Hp} {v : V} {e : PyData} (h : NewV (Sg.del H d) (Sg.del H' d) v e) : NewV H H' v e := Dn.mono (fun b u q => by
  obtain ⟨q1, q2⟩ := fr_some q
  by_cases c : b = d
  · subst c
    rw [del_self] at q2
    cases q2
  · rw [del_ne c] at q1 q2
    rw [fr_new q1]
    exact q2) h
theorem del_upd {d o : Addr} {x : HO} {H : Hp} (n : o ≠ d) : del (upd H o x) d = upd (del H d) o x := by
  funext b
  by_cases c : b = d
  · subst c
    rw [del_self, upd_ne n.symm, del_self]
  · rw [del_ne c]
    by_cases c2 : b = o
    · subst c2
      rw [upd_same, upd_same]
    · rw [upd_ne c2, upd_ne c2, del_ne c]
theorem del_upd_self {d : Addr} {x : HO} {H : Hp} : del (upd H d x) d = del H d := by
  funext b
  by_cases c : b = d
  · subst c
    rw [del_self, del_self]
  · rw [del_ne c, del_ne c, upd_ne c]

theorem LB.mk {H0 H : Hp} {o : Addr} {xs : List V} {ds : List PyData} (s : Same H0 H) (no : H o = none) (ha : DnAll (fr H0 H) xs ds) : LB H0 (upd H o (.lst xs)) o ds := by
  refine ⟨s.free no, xs, upd_same, ha.mono fun b u q => ?_⟩
  obtain ⟨q1, q2⟩ := fr_some q
  have c : b ≠ o := ne_of_none q2 no
  rw [del_ne c, fr_new q1, upd_ne c]
  exact q2
theorem LB.push {H0 H : Hp} {o : Addr} {ds : List PyData} {y : V} {e : PyData} (h : LB H0 H o ds) (hy : Dn (del (fr H0 H) o) y e) : ∃ xs, H o = some (.lst xs) ∧ xs.length = ds.length ∧ LB H0 (upd H o (.lst (xs ++ [y]))) o (ds ++ [e]) := by
  obtain ⟨h0, xs, h1, h2⟩ := h
  have up : Same (del (fr H0 H) o) (del (fr H0 (upd H o (.lst (xs ++ [y])))) o) := fun b u q => by
    by_cases c : b = o
    · subst c
      rw [del_self] at q
      cases q
    · rw [del_ne c] at q ⊢
      obtain ⟨q1, q2⟩ := fr_some q
      rw [fr_new q1, upd_ne c]
      exact q2
  exact ⟨xs, h1, h2.len, h0, xs ++ [y], upd_same, DnAll.snoc (h2.mono up) (Dn.mono up hy)⟩
theorem dec_allIn {n : Nat} {R : List (Int × Int)} (hk : Ok n R) (k : Int) : decide (k ∈ allIn n R) = has R k := by
  cases e : has R k
  · exact decide_eq_false fun z => by rw [(mem_allIn hk).mp z] at e; cases e
  · exact decide_eq_true ((mem_allIn hk).mpr e)

/-! ### the parts of what was told -/
mutual
theorem Dn.func {F : Hp} : ∀ {d e : PyData} {v : V}, Dn F v d → Dn F v e → d = e
  | .none, _, _, .non, h => by cases h; rfl
  | .bool b, _, _, .bl _, h => by cases h; rfl
  | .int i, _, _, .int _, h => by cases h; rfl
  | .str x, _, _, .str _, h => by cases h; rfl
  | .list ds, _, _, .lst h a, h2 => by
    cases h2 with
    | lst h' a' =>
      rw [h] at h'
      cases h'
      rw [DnAll.func a a']
    | tup h' a' =>
      rw [h] at h'
      cases h'
  | .tuple ds, _, _, .tup h a, h2 => by
    cases h2 with
    | tup h' a' =>
      rw [h] at h'
      cases h'
      rw [DnAll.func a a']
    | lst h' a' =>
      rw [h] at h'
      cases h'
theorem DnAll.func {F : Hp} : ∀ {ds es : List PyData} {vs : List V}, DnAll F vs ds → DnAll F vs es → ds = es
  | [], _, _, .nil, h => by cases h; rfl
  | d :: ds, _, _, .cons h a, h2 => by
    cases h2 with
    | cons h' a' => rw [Dn.func h h', DnAll.func a a']
end
theorem part_ne {F : Hp} {f p : Addr} {ps xs : List V} {ds : List PyData} (hf : F f = some (.lst ps)) (ha : DnAll F ps ds) (hm : V.ref p ∈ ps) : p ≠ f := fun z => by
  subst z
  obtain ⟨i, hi⟩ := List.getElem?_of_mem hm
  obtain ⟨d, hd, hn⟩ := ha.get hi
  have e := Dn.func (.lst hf ha) hn
  have h1 := List.sizeOf_lt_of_mem (List.mem_of_getElem? hd)
  rw [← e] at h1
  simp at h1
  omega
/-- lists that are new over G, to be made longer -/
def Parts (G H : Hp) (ps : List V) (b : Nat) : Prop := ∀ v ∈ ps, ∃ p xs, v = .ref p ∧ G p = none ∧ H p = some (.lst xs) ∧ xs.length ≤ b
theorem Parts.same {G H H' : Hp} {ps : List V} {b : Nat} (h : Parts G H ps b) (s : Same H H') : Parts G H' ps b := fun v hv => by
  obtain ⟨p, xs, h1, h2, h3, h4⟩ := h v hv
  exact ⟨p, xs, h1, h2, s _ _ h3, h4⟩
theorem Parts.push {G H : Hp} {ps : List V} {b : Nat} {p : Addr} {xs : List V} {y : V} (h : Parts G H ps b) (hl : xs.length ≤ b) : Parts G (upd H p (.lst (xs ++ [y]))) ps (b + 1) := fun v hv => by
  obtain ⟨q, ys, h1, h2, h3, h4⟩ := h v hv
  by_cases c : q = p
  · subst c
    exact ⟨q, _, h1, h2, upd_same, by rw [List.length_append]; simp; omega⟩
  · exact ⟨q, ys, h1, h2, by rw [upd_ne c]; exact h3, by omega⟩
theorem Parts.of {G H : Hp} {ps : List V} {ds : List PyData} {b : Nat} (ha : DnAll (fr G H) ps ds) (hd : ∀ d ∈ ds, ∃ es, d = .list es ∧ es.length ≤ b) : Parts G H ps b := fun v hv => by
  obtain ⟨i, hi⟩ := List.getElem?_of_mem hv
  obtain ⟨d, hd', hn⟩ := ha.get hi
  obtain ⟨es, rfl, hl⟩ := hd d (List.mem_of_getElem? hd')
  cases hn with
  | lst h a =>
    obtain ⟨q1, q2⟩ := fr_some h
    exact ⟨_, _, rfl, q1, q2, by rw [a.len]; exact hl⟩
end Sg
/-! Signsets: isinstance over data; what _law_alike looks at. -/
namespace Sg
open PySem PySem.Spec PyProof.Rows L2
def tyN : PyData → String
  | .none => "NoneType"
  | .bool _ => "bool"
  | .int _ => "int"
  | .str _ => "str"
  | .list _ => "list"
  | .tuple _ => "tuple"
  | .dict _ => "dict"
def isN (n t : String) : Bool := t == n || (n == "int" && t == "bool")
/-- isinstance of data with a built-in class -/
def isT (n : String) (d : PyData) : Bool := isN n (tyN d)
theorem kitN : ∀ t ∈ ["NoneType", "bool", "int", "str", "list", "tuple"], ∀ n ∈ ["bool", "int", "str", "tuple", "list"], kitB t n = some (isN n t) := by decide +kernel
theorem dp_ty {K : PySem.W.Frag} {H : Hp} {v : V} {d : PyData} (h : Dp K H v d) : TyX K H v (.type (tyN d)) := by
  cases h with
  | non => exact .base .non
  | bl b => exact .base (.bl b)
  | int i => exact .base (.int i)
  | str x => exact .base (.str x)
  | lst h _ =>
    rcases h with (h | ⟨o, h⟩) | ⟨o, its, n, h, c, _⟩
    · exact .base (.lst h)
    · exact .base (.frz h)
    · exact .kList h c
  | tup h _ =>
    rcases h with (h | ⟨o, h⟩) | ⟨o, its, n, h, c, _⟩
    · exact .base (.tup h)
    · exact .fTuple h
    · exact .kTuple h c
def rIsD (K : PySem.W.Frag) : List V → Hp → VK → Prop := fun xs H Q => ∃ (x : V) (n : String) (d : PyData), xs = [x, .ty n] ∧ n ∈ ["bool", "int", "str", "tuple", "list"] ∧ Dp K H x d ∧ Q (.bl (isT n d)) H
theorem isD {X : Cx} (K : PySem.W.Frag) (h : X.K = K := by rfl) : CallR X (.builtin "isinstance") (rIsD K) := by
  subst h
  intro pins s σ H xs us Q I r h
  obtain ⟨x, n, d, rfl, hn, hd, q⟩ := h
  refine call_isi pins s σ H _ us Q I r ⟨x, .ty n, .type (tyN d), .type n, isT n d, rfl, .ty n, dp_ty hd, ?_, q⟩
  refine kit_ty (kitN _ ?_ n hn)
  cases d with
  | dict kvs => cases hd
  | none => simp [tyN]
  | bool b => simp [tyN]
  | int i => simp [tyN]
  | str x => simp [tyN]
  | list ds => simp [tyN]
  | tuple ds => simp [tyN]
theorem isT_bool {d : PyData} (h : isT "bool" d = true) : ∃ b, d = .bool b := by
  cases d <;> simp [isT, isN, tyN] at h
  exact ⟨_, rfl⟩
theorem isT_int {d : PyData} (h : isT "int" d = true) (h2 : ¬ isT "bool" d = true) : ∃ b, d = .int b := by
  cases d <;> simp [isT, isN, tyN] at h h2
  exact ⟨_, rfl⟩
theorem isT_str {d : PyData} (h : isT "str" d = true) : ∃ b, d = .str b := by
  cases d <;> simp [isT, isN, tyN] at h
  exact ⟨_, rfl⟩
theorem ixQ {X : Cx} (K : PySem.W.Frag) (h : X.K = K := by rfl) : IxR X (rIx K) := by subst h; exact ix_seq
/-- data of at most n storeys, its lists of at most 100,000 items -/
def Al : Nat → PyData → Prop
  | _, .none => True
  | _, .bool _ => True
  | _, .int _ => True
  | _, .str _ => True
  | n + 1, .list ds => ds.length ≤ 100000 ∧ ∀ d ∈ ds, Al n d
  | n + 1, .tuple ds => ds.length ≤ 100000 ∧ ∀ d ∈ ds, Al n d
  | _, _ => False
theorem Al.int {n : Nat} (i : Int) : Al n (.int i) := by cases n <;> trivial
theorem Al.bool {n : Nat} (i : Bool) : Al n (.bool i) := by cases n <;> trivial
theorem Al.str {n : Nat} (i : Str) : Al n (.str i) := by cases n <;> trivial
theorem Al.eP {n : Nat} (r : Int × Int) : Al (n + 1) (eP r) := ⟨by simp, fun d hd => by
  simp at hd
  rcases hd with rfl | rfl <;> exact Al.int _⟩
theorem Al.eI {n : Nat} {ns : List Int} (h : ns.length ≤ 100000) : Al (n + 1) (eI ns) := ⟨by rw [List.length_map]; exact h, fun d hd => by
  obtain ⟨r, _, rfl⟩ := List.mem_map.mp hd
  exact Al.int r⟩
theorem Al.eR {n : Nat} {R : List (Int × Int)} (h : R.length ≤ 100000) : Al (n + 2) (eR R) := ⟨by rw [List.length_map]; exact h, fun d hd => by
  obtain ⟨r, _, rfl⟩ := List.mem_map.mp hd
  exact Al.eP r⟩
end Sg
/-! Signsets: set(xs) of a list of ints, sorted(s) of such a set of any size: rules of our own. -/
namespace Sg
open PySem PySem.Spec PyProof.Rows L2
section
variable {P : Program} {w : World} {A : Around} {E : Value → Shared → Prop} {s : Shared}
abbrev newSet (w : World) : Obj := { cls := .type "set", dict := none, data := .set #[] 0 (.fresh 0 0 (!w.params.followText "set-order")) }
/-- set(l), l a list of ints -/
theorem setOf_list {l : Addr} {items : Array Value} (ns : List Int) {Q : Value → Shared → Prop} (hh : A.handled = none) (hl : s.heap.IsList l items) (hit : IntsAre items.toList ns) (hb : ns.length + 1 < scanBound)
    (h : ∀ (h' : Heap) (tk c : Nat), SetR w h' s.heap.objs.size (fun j => decide (j ∈ ns)) c → c ≤ ns.length → (∀ b o, s.heap.get? b = some o → h'.get? b = some o) → Q (.ref s.heap.objs.size) { s with heap := h', toks := tk }) :
    wpAny (model P w) A (call (.type "set") [.ref l]) Q E s := by
  have hisz : items.size = ns.length := by
    have q := IntsAre.length hit
    rw [Array.length_toList] at q
    exact q
  obtain ⟨c, tl, hmro⟩ := PySem.F.called_set.mro
  have hmade := PySem.F.called_set.made
  have hsub := PySem.F.called_set.sub
  refine wpAny_call (codeAny_of_tree ?_)
  show wpAny _ _ (callAny (.type "set") _) _ _ _
  refine wpAny_pure ⟨Code.quiet_builtin _ (by decide +kernel), codeAny_builtin PySem.F.entry_type_call ?_⟩
  rw [Around.under_plain (weight_type_call_type "set" [.ref l] []) rfl]
  have h1 := PySem.F.called_set.notType
  have h2 := PySem.F.called_set.canCreate
  have hct := PySem.F.typeCall_set_1 (.ref l)
  repeat (any_goals (first | assumption | wp_step))
  refine codeAny_mono (code_set_led1 (.ref l) (E := E) (Q₁ := fun obj s₁ => obj = .ref s.heap.objs.size ∧ s₁ = { s with heap := s.heap.push (newSet w) }) ⟨rfl, rfl⟩) fun r s₁ hr => ?_
  cases r with
  | error e => exact hr
  | ok fl =>
    cases fl with
    | ret obj =>
      obtain ⟨rfl, rfl⟩ := hr
      have hS : (s.heap.push (newSet w)).get? s.heap.objs.size = some (newSet w) := Heap.get?_push_size _ rfl
      have hT : Shared.TypeIs { s with heap := s.heap.push (newSet w) } (.ref s.heap.objs.size) "set" := ⟨_, hS, rfl⟩
      have hli := PySem.F.called_set.init.lookup
      have hbi := PySem.F.called_set.init.bind (.ref s.heap.objs.size)
      repeat (any_goals (first | assumption | wp_step))
      refine codeAny_mono (codeAny_call_builtin (R := wants (fun r s₂ => r = .none ∧ ∃ h' tk c, s₂ = { s with heap := h', toks := tk } ∧ SetR w h' s.heap.objs.size (fun j => decide (j ∈ ns)) c ∧ c ≤ ns.length ∧
          (∀ b o, s.heap.get? b = some o → h'.get? b = some o)) E) PySem.F.called_set.init.plain PySem.F.entry_set_init (check_set_init_1 hT ?_)) fun r₂ s₂ hr₂ => ?_
      · obtain ⟨ol, hol, hcl, nl, hdl⟩ := hl
        obtain ⟨ocls, odict, odata, oslots⟩ := ol
        simp only at hcl hdl
        subst hcl; subst hdl
        have hol' : (s.heap.push (newSet w)).get? l = some { cls := .type "list", dict := odict, data := .seq items nl, slots := oslots } := Heap.get?_push_of_some _ hol
        have hsls := PySem.F.sub_list_set
        have hslf := PySem.F.sub_list_frozenset
        have hne : (Value.type "list" == Value.type "dict") = false := by decide
        have hl1 : (s.heap.push (newSet w)).IsList l items := ⟨_, hol', rfl, nl, rfl⟩
        unfold Builtin.«set.__init__» noKeywords Builtin.Frozenset.updateFrom
        generalize hPI : pyIter = PI
        wp_walk
        subst hPI
        refine wpAny_pyIter_list hl1 ?_
        refine wpAny_bind (wpAny_runValue ?_)
        have hlS : l < s.heap.objs.size := Heap.lt_size hol
        have hh3 : A.in1.in1.in1.handled = none := by simp [hh]
        have hz : (s.heap.push (newSet w)).objs.size = s.heap.objs.size + 1 := Heap.size_push ..
        have hneI : l ≠ (s.heap.push (newSet w)).objs.size := by
          rw [hz]
          exact Nat.ne_of_lt (Nat.lt_succ_of_lt hlS)
        have hSf : s.heap.objs.size ∉ [(s.heap.push (newSet w)).objs.size, l] := by
          rw [hz]
          intro m
          rcases List.mem_cons.mp m with e | m
          · exact absurd e (Nat.ne_of_lt (Nat.lt_succ_self _))
          · exact absurd (List.mem_singleton.mp m) (Nat.ne_of_gt hlS)
        have hval : ∀ (i : Nat) (v : Value), items[i]? = some v → ∃ k t, ns[i]? = some k ∧ v = .int k t := fun i v hv => by
          have hi : i < ns.length := by rw [← hisz]; exact (Array.getElem?_eq_some_iff.mp hv).1
          obtain ⟨t, e⟩ := PyProof.Rows.IntsAre.int_at hit i v (by rw [Array.getElem?_toList]; exact hv)
          refine ⟨ns[i], t, List.getElem?_eq_getElem hi, ?_⟩
          rw [e, List.getD_eq_getElem?_getD, List.getElem?_eq_getElem hi] <;> rfl
        refine set_update_ints ((Walks.list hh3 _ l hneI items).toS) s.heap.objs.size hSf ns hisz hb hval (items.size - 0) 0 _ (by omega) (Nat.zero_le _)
          ⟨⟨_, Heap.get?_push_size _ rfl, rfl, rfl⟩, (hl1.push _)⟩ ?hS0 ?hR
        case hS0 => exact ⟨0, Nat.le_refl 0, setR_new_at (Heap.get?_push_of_some _ hS)⟩
        case hR =>
          intro s' c' hm hc' hS'
          obtain ⟨h', g2, d', tk', os'⟩ := s'
          have eg : g2 = s.gens := hm.gens
          have ed : d' = s.drawn := hm.drawn
          have eo : os' = s.os := hm.os
          subst eg; subst ed; subst eo
          show wpAny _ _ _ _ _ _
          refine wpAny_pure ?_
          show wpAny _ _ (ret Value.none) _ _ _
          rw [hisz] at hc'
          refine wpAny_pure ⟨rfl, h', tk', c', rfl, hS', hc', fun b o e => ?_⟩
          have hb0 : b < s.heap.objs.size := Heap.lt_size e
          refine hm.heap b o (fun m => ?_) (Heap.get?_push_of_some _ (Heap.get?_push_of_some _ e))
          rcases List.mem_cons.mp m with z | m
          · exact absurd z (Nat.ne_of_lt hb0)
          · have z := List.mem_singleton.mp m
            rw [hz] at z
            exact absurd z (Nat.ne_of_lt (Nat.lt_succ_of_lt hb0))
      · cases r₂ with
        | error e => exact hr₂
        | ok fl₂ =>
          cases fl₂ with
          | ret r =>
            obtain ⟨rfl, h', tk, c', rfl, hS', hc', hk'⟩ := hr₂
            repeat (any_goals (first | assumption | wp_step))
            exact h _ _ _ hS' hc' hk'
          | _ => exact hr₂.elim
    | _ => exact hr.elim
/-- sorted(a), a a set of ints of any size -/
theorem sorted_any {a : Addr} {S : Int → Bool} {n : Nat} {Q : Value → Shared → Prop} (R : SetR w s.heap a S n) (hh : A.handled = none)
    (hQ : ∀ s' p (out : List Value) (c : Nat) (ns : List Int), (∀ b o, s.heap.get? b = some o → s'.heap.get? b = some o) → s'.gens = s.gens → s'.os = s.os → s.heap.objs.size ≤ p →
      s'.heap.get? p = some (seqObj "list" out.toArray c) → IntsAre out ns → ns.Pairwise (· < ·) → (∀ k, k ∈ ns ↔ S k = true) → ns.length = n → Q (.ref p) s') :
    wpAny (model P w) A (call (.builtin "sorted") [.ref a]) Q E s := by
  obtain ⟨o, es, ep, t, ho, hex, hd, g, nd, hm, hb, hf, hn, hr, hl⟩ := R
  refine Calls.call_function_entry kind_sorted plain_sorted entry_sorted (args_sorted1 _) ?_
  unfold Builtin.«sorted»
  refine wpAny_bind (m := checkCount "sorted" 1 1 _) (wpAny_pure ?_)
  refine wpAny_bind (collect_set (A := A.in1) hh ⟨o, ho, hex.1, hd⟩ hf hb hr hl fun s1 vs k1 hz g1 o1 pm => ?_)
  have hvl : vs.length = n := by rw [pm.length_eq, List.length_map, Array.length_toList]; exact hn
  have hI : IntsAre vs (vs.map Builtin.Re.reRawOf) := ints_of vs fun v hv => by
    obtain ⟨e, he, q⟩ := List.mem_map.mp (pm.mem_iff.mp hv)
    obtain ⟨k, tk, h1, _⟩ := g e he
    exact ⟨k, tk, by rw [← q]; exact h1⟩
  have pk : (vs.map Builtin.Re.reRawOf).Perm (es.toList.map keyOf) := by
    have q := pm.map Builtin.Re.reRawOf
    rw [List.map_map] at q
    exact q
  have hzz : vs.length ≤ sizeLine := by
    rw [hvl, ← hn]
    exact Nat.le_trans (Nat.le_of_lt hb) (by decide)
  refine wpAny_bind (wpAny_newList ?_ hzz)
  have hoL : (s1.heap.push (seqObj "list" vs.toArray 0)).get? s1.heap.objs.size = some (seqObj "list" vs.toArray 0) := Heap.get?_push_size _ rfl
  refine wpAny_bind (wpAny_holding (wpAny_call_entry slot_list_sort ⟨_, hoL, rfl⟩ entry_list_sort (SrtO.list_sort_ord SrtO.swo_int hoL hzz (fun h2 => SrtO.ints_sortable hI h2) fun out a1 a2 => ⟨_, rfl, ?_⟩) (args_list_sort _)))
  obtain ⟨b1, b2, b3⟩ := SrtO.ints_out hI a1 a2
  obtain ⟨c, hc⟩ := sortedHeap_at (vs := vs) (out := out.toArray) hoL
  have pn : (out.map SrtO.iv).Perm (es.toList.map keyOf) := b2.trans pk
  refine wpAny_pure ⟨_, rfl, hQ _ s1.heap.objs.size out c _ (fun b u e => ?_) g1 o1 hz hc b1 (lt_of_le_nodup _ b3 (pn.nodup_iff.mpr nd)) (fun k => by rw [pn.mem_iff, ← hm k]) ?_⟩
  · have q := k1 b u e
    have hlt := Heap.lt_size q
    show (sortedHeap (s1.heap.push (seqObj "list" vs.toArray 0)) s1.heap.objs.size vs out.toArray).get? b = some u
    rw [sortedHeap_old (Nat.ne_of_lt hlt) (by rw [size_push']; exact Nat.lt_succ_of_lt hlt)]
    exact Heap.get?_push_of_some _ q
  · rw [pn.length_eq, List.length_map, Array.length_toList]; exact hn
end
section
variable {X : Cx}
def rSetI (K : PySem.W.Frag) (w : World) : List V → Hp → VK → Prop := fun vs H Q => ∃ (a : Addr) (ns : List Int), vs = [.ref a] ∧ SqL K H a (ns.map V.int) ∧ ns.length + 1 < scanBound ∧ ∀ p c, H p = none → c ≤ ns.length → Q (.ref p) (upd H p (SetO w p (fun j => decide (j ∈ ns)) c))
theorem setI (K : PySem.W.Frag) (w : World) (hc : X.calm = true) (h : X.K = K := by rfl) (h2 : X.w = w := by rfl) : CallR X (.type "set") (rSetI K w) := by
  subst h h2
  intro pins s σ H vs us Q I r h
  obtain ⟨a, ns, rfl, hs, hb, q⟩ := h
  obtain ⟨its, rv, hl, hz⟩ := I.list hs
  rw [Vals.ref1 r]
  have hi := ints_of_vals rv
  refine setOf_list (items := its.toArray) ns (I.ok.hd hc) hl.isList hi hb fun h' tk c hS hcl hk => ?_
  have hn : H s.heap.objs.size = none := I.hok.fresh (Nat.le_refl _)
  exact ⟨.ref _, upd H s.heap.objs.size (SetO X.w s.heap.objs.size (fun j => decide (j ∈ ns)) c), I.laid (t' := tk) hk (Nat.le_refl _) (setO_new hS), rfl, q _ c hn hcl⟩
def rSortedA (w : World) : List V → Hp → VK → Prop := fun vs H Q => ∃ (a : Addr) (S : Int → Bool) (n : Nat), vs = [V.ref a] ∧ H a = some (SetO w a S n) ∧ n ≤ 1000000 ∧
  ∀ (ns : List Int) (p : Addr), ns.Pairwise (· < ·) → (∀ k : Int, k ∈ ns ↔ S k = true) → ns.length = n → H p = none → Q (.ref p) (upd H p (.lst (ns.map V.int)))
theorem sortedA (w : World) (hc : X.calm = true) (h2 : X.w = w := by rfl) : CallR X (.builtin "sorted") (rSortedA w) := by
  subst h2
  intro pins s σ H vs us Q I r h
  obtain ⟨a, S, n, rfl, ha, h64, q⟩ := h
  have R := setO_get I ha
  rw [Vals.ref1 r]
  refine sorted_any R (I.ok.hd hc) fun s' p out c ns k g o hp hg hi hs hm hl => ?_
  have hlen : (ns.map V.int).length ≤ sizeLine := by
    rw [List.length_map, hl]
    exact Nat.le_of_lt (sizeOk h64)
  have hn : H p = none := I.hok.fresh hp
  have J : Inv X pins σ (upd H p (.lst (ns.map V.int))) { s with heap := s'.heap, gens := s'.gens, drawn := s'.drawn, toks := s'.toks } :=
    I.call (ch := []) (Un.laid k hp hn) (I.hok.laid k hp ⟨hlen, out, c, vals_of_ints hi, hg⟩) (by rw [g]; exact I.bare) (fun _ z => nomatch z)
  have e : s' = { s with heap := s'.heap, gens := s'.gens, drawn := s'.drawn, toks := s'.toks } := by
    cases s'
    cases s
    cases o
    rfl
  rw [e]
  exact ⟨.ref p, _, J, rfl, q ns p hs hm hl hn⟩
end
end Sg
/-! Signsets: data of several sets, of kinds, of texts of 0 and 1; deep membership. -/
namespace Sg
open PySem PySem.Spec PyProof.Rows L2
/-- several sets; lists of ints; texts -/
def eRs (L : List (List (Int × Int))) : PyData := .list (L.map eR)
def eIs (L : List (List Int)) : PyData := .list (L.map eI)
def eB (b : List Bool) : PyData := .tuple (b.map PyData.bool)
def eBs (L : List (List Bool)) : PyData := .list (L.map eB)
def eT (L : List Str) : PyData := .list (L.map PyData.str)
theorem Sh.str {n : Nat} {i : Str} (h : PyData.strOk i = true) : Sh n (.str i) := ⟨by simp [PyData.canLay0, h], by simp [PyData.depth]⟩
theorem Sh.eB {n : Nat} (b : List Bool) : Sh (n + 1) (eB b) := Sh.tuple fun d hd => by
  obtain ⟨r, _, rfl⟩ := List.mem_map.mp hd
  exact Sh.bool r
theorem Sh.eBs {n : Nat} (L : List (List Bool)) : Sh (n + 2) (eBs L) := Sh.list fun d hd => by
  obtain ⟨r, _, rfl⟩ := List.mem_map.mp hd
  exact Sh.eB r
theorem Sh.eRs {n : Nat} (L : List (List (Int × Int))) : Sh (n + 3) (eRs L) := Sh.list fun d hd => by
  obtain ⟨r, _, rfl⟩ := List.mem_map.mp hd
  exact Sh.eR r
theorem Al.eIs {n : Nat} {L : List (List Int)} (h : L.length ≤ 100000) (h2 : ∀ l ∈ L, l.length ≤ 100000) : Al (n + 2) (eIs L) := ⟨by rw [List.length_map]; exact h, fun d hd => by
  obtain ⟨r, hr, rfl⟩ := List.mem_map.mp hd
  exact Al.eI (h2 r hr)⟩
theorem Al.eRs {n : Nat} {L : List (List (Int × Int))} (h : L.length ≤ 100000) (h2 : ∀ l ∈ L, l.length ≤ 100000) : Al (n + 3) (eRs L) := ⟨by rw [List.length_map]; exact h, fun d hd => by
  obtain ⟨r, hr, rfl⟩ := List.mem_map.mp hd
  exact Al.eR (h2 r hr)⟩
theorem eqv_bools : ∀ (a b : List Bool), PyData.eqvAll (a.map PyData.bool) (b.map PyData.bool) = decide (a = b)
  | [], [] => by simp [PyData.eqvAll]
  | [], _ :: _ => by simp [PyData.eqvAll]
  | _ :: _, [] => by simp [PyData.eqvAll]
  | x :: a, y :: b => by
    have ih := eqv_bools a b
    simp only [List.map_cons, PyData.eqvAll, PyData.eqv, ih]
    cases x <;> cases y <;> by_cases h2 : a = b <;> simp [h2]
theorem eqv_eB (a b : List Bool) : PyData.eqv (eB a) (eB b) = decide (a = b) := by
  unfold eB
  rw [PyData.eqv, eqv_bools]
theorem any_eB (b : List Bool) : ∀ L : List (List Bool), ((L.map eB).any fun z => PyData.eqv z (eB b)) = decide (b ∈ L)
  | [] => rfl
  | a :: L => by
    rw [List.map_cons, List.any_cons, any_eB b L, eqv_eB]
    by_cases h : a = b
    · simp [h]
    · by_cases h2 : b ∈ L
      · simp [h2]
      · simp [h, h2]
        exact fun z => h z.symm
theorem eqv_sets (a b : List (List (Int × Int))) : PyData.eqv (eRs a) (eRs a) = true := SeqAt.eqv_refl _ (Sh.eRs (n := 0) a).1
theorem dpAll_strs {K : PySem.W.Frag} {H : Hp} : ∀ {vs : List V} {bs : List Str}, DpAll K H vs (bs.map PyData.str) → vs = bs.map V.str
  | _, [], .nil => rfl
  | _, n :: ns, .cons h a => by
    rw [dp_str h, dpAll_strs a]
    rfl
theorem dnAll_strs {F : Hp} : ∀ ns : List Str, DnAll F (ns.map V.str) (ns.map PyData.str)
  | [] => .nil
  | n :: ns => .cons (.str n) (dnAll_strs ns)
theorem dnAll_bools {F : Hp} : ∀ ns : List Bool, DnAll F (ns.map V.bl) (ns.map PyData.bool)
  | [] => .nil
  | n :: ns => .cons (.bl n) (dnAll_bools ns)
theorem LB.strs {H0 H : Hp} {o : Addr} {ns : List Str} (h : LB H0 H o (ns.map PyData.str)) : H o = some (.lst (ns.map V.str)) := by
  obtain ⟨h0, xs, h1, h2⟩ := h
  have e := dpAll_strs (K := []) h2.dp
  rw [e] at h1
  exact h1
theorem LB.bools {H0 H : Hp} {o : Addr} {ns : List Bool} (h : LB H0 H o (ns.map PyData.bool)) : H o = some (.lst (ns.map V.bl)) := by
  obtain ⟨h0, xs, h1, h2⟩ := h
  have e := dpAll_bools (K := []) h2.dp
  rw [e] at h1
  exact h1
theorem flat_strs (ns : List Str) : (ns.map V.str).all flatV = true := by
  rw [List.all_eq_true]
  intro x hx
  obtain ⟨n, _, rfl⟩ := List.mem_map.mp hx
  rfl
theorem eqV_str (a b : Str) : eqV (.str a) (.str b) = decide (a = b) := by
  show (a == b) = _
  by_cases h : a = b <;> simp [h]
theorem inV_strs (k : Str) : ∀ ns : List Str, inV (.str k) (ns.map V.str) = decide (k ∈ ns)
  | [] => rfl
  | n :: ns => by
    have ih := inV_strs k ns
    unfold inV at ih ⊢
    rw [List.map_cons, List.any_cons, ih, eqV_str]
    by_cases h : n = k
    · simp [h]
    · by_cases h2 : k ∈ ns
      · simp [h2]
      · simp [h, h2]
        exact fun z => h z.symm
/-- the first place of a text in a list of texts -/
theorem rIndex_strs {K : PySem.W.Frag} {H : Hp} {Q : VK} {a : Addr} {ts : List Str} {x : Str} (hs : SqL K H a (ts.map V.str)) (hx : x ∈ ts) (q : Q (.int (pl x ts : Nat)) H) : rIndex K (.ref a) [.str x] H Q := by
  refine ⟨a, _, .str x, pl x ts, .str x, rfl, rfl, hs, rfl, flat_strs ts, ?_, by rw [eqV_str]; exact decide_eq_true rfl, fun m z' hm hz => ?_, q⟩
  · rw [List.getElem?_map, pl_get hx]
    rfl
  · obtain ⟨z, hz', rfl⟩ := map_get hz
    rw [eqV_str]
    exact decide_eq_false (pl_ahead hm hz')
/-- pairs of new data -/
theorem newV_pair {H H' : Hp} {v : V} {d e : PyData} (h : NewV H H' v (.tuple [d, e])) : ∃ p x y, v = .ref p ∧ H p = none ∧ H' p = some (.tup [x, y]) ∧ NewV H H' x d ∧ NewV H H' y e := by
  cases h with
  | tup h a =>
    cases a with
    | cons a1 a =>
      cases a with
      | cons a2 a =>
        cases a
        exact ⟨_, _, _, rfl, (fr_some h).1, (fr_some h).2, a1, a2⟩
section
variable {X : Cx}
theorem inDK (K : PySem.W.Frag) (hu : X.A.units + 65 < cLine) (h : X.K = K := by rfl) : OpR X (compareOp .In) (rInD K) := by subst h; exact op_inD hu
theorem notInDK (K : PySem.W.Frag) (hu : X.A.units + 65 < cLine) (h : X.K = K := by rfl) : OpR X (compareOp .NotIn) (rNotInD K) := by subst h; exact op_notInD hu
theorem indexDK (K : PySem.W.Frag) (hu : X.A.units + 65 < cLine) (h : X.K = K := by rfl) : MtR X "list.index" (rIndexD K) := by subst h; exact mt_indexD hu
end
theorem hu65 {k : Nat} {A : Around} (r : Room k A) : A.units + 65 < cLine := by have := r.un; omega
theorem upTo_pre {i n : Nat} (h : i ≤ n) : ∃ r, upTo n = upTo i ++ r := by
  obtain ⟨m, rfl⟩ : ∃ m, n = i + m := ⟨n - i, by omega⟩
  clear h
  induction m with
  | zero => exact ⟨[], by simp⟩
  | succ m ih =>
    obtain ⟨r, e⟩ := ih
    exact ⟨r ++ [((i + m : Nat) : Int)], by rw [← Nat.add_assoc, upTo_succ, e, List.append_assoc]⟩
theorem kinds_pre {i n : Nat} (SS : List (List (Int × Int))) (h : i ≤ n) : ∃ r, kinds n SS = uniq ((upTo i).map (kindOf SS)) ++ r := by
  obtain ⟨r, e⟩ := upTo_pre h
  unfold kinds
  rw [e, List.map_append]
  exact uniq_pre _ _
end Sg
namespace Sg
open PySem PySem.Spec PyProof.Rows L2
theorem list_fm {α : Type} (l : List α) (g : α → Option PyData) : (List.range l.length).filterMap (fun (i : Nat) => (l[i]?).bind g) = l.filterMap g := by
  have h : ∀ m, m ≤ l.length → (List.range m).filterMap (fun (i : Nat) => (l[i]?).bind g) = (l.take m).filterMap g := by
    intro m
    induction m with
    | zero => intro _; rfl
    | succ m ih =>
      intro hm
      have hlt : m < l.length := hm
      have e : l[m]? = some l[m] := List.getElem?_eq_getElem hlt
      rw [List.range_succ, List.filterMap_append, ih (Nat.le_of_succ_le hm), List.take_add_one, e, List.filterMap_append]
      congr 1
      rw [List.filterMap_cons, e, Option.bind_some]
      cases h : g l[m] <;> simp [h]
  rw [h _ (Nat.le_refl _), List.take_length]
end Sg
/-! Signsets: texts of 0 and 1; comprehensions whose items need not be new. -/
namespace Sg
open PySem PySem.Spec PyProof.Rows L2
def bitN (b : Bool) : Nat := if b then 49 else 48
theorem bitN_inj {a b : Bool} (h : bitN a = bitN b) : a = b := by
  cases a <;> cases b <;> first | rfl | (exact absurd h (by decide))
/-- a text of 0 and 1 -/
def kt (b : List Bool) : Str := SX.S (b.map bitN)
theorem kt_inj {a b : List Bool} (h : kt a = kt b) : a = b := by
  have e := SX.S_inj h
  clear h
  induction a generalizing b with
  | nil => cases b with
    | nil => rfl
    | cons y b => cases e
  | cons x a ih => cases b with
    | nil => cases e
    | cons y b =>
      rw [List.map_cons, List.map_cons] at e
      injection e with e1 e2
      rw [bitN_inj e1, ih e2]
theorem kt_len (b : List Bool) : (kt b).length = b.length := by
  unfold kt
  rw [SX.S_len, List.length_map]
theorem joinL_nil : ∀ l : List (List Nat), TL.joinL [] l = l.flatten
  | [] => rfl
  | [p] => by simp [TL.joinL]
  | p :: q :: r => by
    show p ++ ([] ++ TL.joinL [] (q :: r)) = _
    rw [joinL_nil (q :: r)]
    simp
theorem kt_join (b : List Bool) : Txt.join (Str.ofString "") (b.map fun x => SX.S [bitN x]) = kt b := by
  have e : (b.map fun x => SX.S [bitN x]) = (b.map fun x => [bitN x]).map SX.S := by rw [List.map_map]; rfl
  have e0 : Str.ofString "" = SX.S [] := by decide +kernel
  rw [e, e0, SX.join_S, joinL_nil]
  unfold kt
  congr 1
  clear e
  induction b with
  | nil => rfl
  | cons x b ih =>
    rw [List.map_cons, List.flatten_cons, ih]
    rfl
theorem kt_sum (b : List Bool) : ((b.map fun x => SX.S [bitN x]).map (·.length)).sum = b.length := by
  induction b with
  | nil => rfl
  | cons x b ih =>
    rw [List.map_cons, List.map_cons, List.sum_cons, ih, SX.S_len]
    simp
    omega
theorem kt_at {b : List Bool} {i : Nat} {x : Bool} (h : b[i]? = some x) : atI (kt b).cps.toList (i : Int) = some (bitN x) := by
  refine atI_nat ?_
  show (b.map bitN)[i]? = _
  rw [List.getElem?_map, h]
  rfl
theorem one_eq (x : Bool) : decide (V.str ⟨#[bitN x]⟩ = V.str (Str.ofString "1")) = x := by
  cases x <;> decide +kernel
/-- a comprehension over a list whose items need not be new -/
theorem lcD_list {K : PySem.W.Frag} {a : Addr} {xs : List V} {g : TG} {tt : TT} {te : TE} {vs : List Nat} {σ : L2.St} {H1 : Hp} {D : Addr} {Qd : Hp → Prop} (f : Nat → Option PyData) (hS : SqL K H1 a xs) (hD : H1 D = none) (hn : xs.length ≤ 1000000)
    (hs : ∀ (i : Nat) (x : V) (H : Hp) (N1 : V → Hp → Prop) (N0 : Hp → Prop), xs[i]? = some x → Same H1 H → (∃ acc, H D = some (.lst acc)) → (∀ y H4 e, Same H H4 → f i = some e → Dp K (del H4 D) y e → N1 y H4) → (∀ H3, Same H H3 → f i = none → N0 H3) →
      g x (wipe σ vs) H fun σ2 H2 => wipe σ2 vs = wipe σ vs ∧ tt σ2 H2 fun b H3 => if b = true then te σ2 H3 N1 else N0 H3)
    (hd : ∀ H ys, Same H1 H → H D = some (.lst ys) → DpAll K (del H D) ys ((List.range xs.length).filterMap f) → Qd H) :
    ∃ W : Nat → Nat → Hp → Prop, (∃ m, W 0 m (upd H1 D (.lst []))) ∧ ∀ i m H, W i m H →
      ((Itl K a).stop i H ∧ Qd H) ∨ ((Itl K a).go i H ∧ ∃ Nx : Hp → Prop, (∀ H', Nx H' → ∃ m', m' < m ∧ W (i + 1) m' H') ∧ ∀ x H', (Itl K a).yld i H x H' → g x (wipe σ vs) H' fun σ2 H2 => wipe σ2 vs = wipe σ vs ∧ tt σ2 H2 fun b H3 =>
        if b = true then te σ2 H3 fun y H4 => ∃ acc, H4 D = some (.lst acc) ∧ acc.length < sizeLine ∧ Nx (upd H4 D (.lst (acc ++ [y]))) else Nx H3) := by
  refine lc_list (xs := xs) (fun i H => Same H1 H ∧ ∃ ys, H D = some (.lst ys) ∧ DpAll K (del H D) ys ((List.range i).filterMap f)) ⟨same_new hD, [], upd_same, .nil⟩ (fun i H _ q => q.1.seq hS) (fun i x H hx q => ?_) fun H q => ?_
  · obtain ⟨sm, ys, hy, ha⟩ := q
    have hi : i < xs.length := (List.getElem?_eq_some_iff.mp hx).1
    have hl : ys.length ≤ i := by
      rw [dpAll_len ha]
      exact Nat.le_trans (List.length_filterMap_le _ _) (by rw [List.length_range]; exact Nat.le_refl _)
    refine hs i x H _ _ hx sm ⟨_, hy⟩ (fun y H4 e s fe dy => ⟨ys, s _ _ hy, sizeOk (by omega), same_upd (sm.trans s) hD, ys ++ [y], upd_same, ?_⟩) (fun H3 s fe => ⟨sm.trans s, ys, s _ _ hy, ?_⟩)
    · rw [filterMap_succ fe, del_upd_self]
      exact dpAll_app (same_dpAll (del_mono s) ha) (.cons dy .nil)
    · rw [filterMap_succ0 fe]
      exact same_dpAll (del_mono s) ha
  · obtain ⟨sm, ys, hy, ha⟩ := q
    exact hd H ys sm hy ha
section
variable {X : Cx} {T : String} {name : Str} {id : String} {r : V → List V → Hp → VK → Prop} {o e : Expr} {es : List Expr} {to te : TE} {t : TA} {apos cpos : Pos}
theorem pe_bmK (K : PySem.W.Frag) (pa : PlainAttrs T) (slot : Slot T name id) (hty : typeOf (.builtin id) = pure (.type "method_descriptor")) (hm : MtR X id r) (ho : PE X o to) (ha : PA X (e :: es) t) (h : X.K = K := by rfl)
    (hbase : attributeBase o name X.env (eval o X.env) = eval o X.env := by rfl)
    (hfew : ((backTo cpos (starEach (e :: es) X.env)).all (fun x => !x.1) && (backToKw cpos (keywordEach [] X.env)).all (fun x => x.1.isSome) && decide ((e :: es).length + ([] : List Keyword).length + (if ([] : List Keyword).isEmpty then 0 else 1) < 30)) = true := by rfl)
    (hline : (apos.endLine == cpos.line) = true := by rfl) (hs : starEach (e :: es) X.env = (false, eval e X.env) :: starEach es X.env := by rfl) (hplain : (backTo cpos (starEach es X.env)).any (·.1) = false := by rfl) :
    PE X (.Call (.Attribute o name apos) (e :: es) [] cpos) (tBM K T r to t) := by
  subst h
  exact pe_bm pa slot hty hm ho ha hbase hfew hline hs hplain
end
theorem same_del {G H : Hp} {d : Addr} (s : Same G H) (n : G d = none) : Same G (del H d) := fun b o e => by
  rw [del_ne (ne_of_none e n)]
  exact s _ _ e
end Sg
/-! Signsets: rules for tables: a sign many times, ranges by steps, stretches of a text. -/
namespace Sg
open PySem PySem.Spec PyProof.Rows L2
theorem fold_rep (c : Nat) : ∀ (k : Nat) (b : Array Nat), ((List.replicate k (#[c] : Array Nat)).foldl (· ++ ·) b).toList = b.toList ++ List.replicate k c
  | 0, b => by simp
  | k + 1, b => by
    rw [List.replicate_succ, List.foldl_cons, fold_rep c k, List.replicate_succ, Array.toList_append]
    simp
/-- a text of one sign, k times -/
def rRepS : R2 := fun x y H Q => ∃ c k : Nat, x = .str (SX.S [c]) ∧ y = .int (k : Int) ∧ 1 ≤ k ∧ k ≤ 1000 ∧ Q (.str (SX.S (List.replicate k c))) H
theorem op_rep_str {X : Cx} : OpR X (binaryOp .Mult) rRepS := by
  intro pins s σ H x y v u Q I rx ry h
  obtain ⟨c, k, rfl, rfl, h1, h2, q⟩ := h
  obtain ⟨t, rfl⟩ := rx
  obtain ⟨t', rfl⟩ := ry
  have hl : (SX.S [c]).length = 1 := SX.S_len [c]
  refine PySem.P.mul_str ?_ ?_ ?_ ?_
  · rw [decide_eq_false (show ¬ (k : Int) < -(2 ^ 63 : Int) by omega), decide_eq_false (show ¬ (k : Int) ≥ 2 ^ 63 by omega)]
    rfl
  · intro _ _
    rw [hl]
    have : (1 : Int) ≤ (2 ^ 63 - 1) / (k : Int) := Int.le_ediv_of_mul_le (by omega) (by omega)
    omega
  · intro _ _
    unfold Builtin.Str.tooLong
    rw [hl, Int.toNat_natCast, Nat.one_mul]
    exact decide_eq_false (by have := sizeOk (n := k) (by omega); omega)
  · rw [if_neg (by omega)]
    by_cases e : k = 1
    · subst e
      rw [if_pos (by simp)]
      exact ⟨.str _, H, I, ⟨_, rfl⟩, q⟩
    · rw [if_neg (by rw [hl]; simp; omega)]
      have ez : (⟨(List.replicate (k : Int).toNat (SX.S [c]).cps).foldl (· ++ ·) #[]⟩ : Str) = SX.S (List.replicate k c) := by
        refine TL.ext_tl ?_
        show ((List.replicate (k : Int).toNat (#[c] : Array Nat)).foldl (· ++ ·) #[]).toList = List.replicate k c
        rw [Int.toNat_natCast, fold_rep]
        rfl
      rw [ez]
      exact ⟨by rw [SX.S_len, List.length_replicate]; exact Nat.le_of_lt (sizeOk (by omega)), ⟨.str _, H, I.tok _, ⟨_, rfl⟩, q⟩⟩
theorem rgC_up {n w : Nat} (hw : 1 ≤ w) (hw2 : w ≤ 1000) (hn : n ≤ 1000) : RgC 0 (n : Int) (w : Int) (cnt n w) := by
  have e : Builtin.Range.rangeSize 0 (n : Int) (w : Int) = ((cnt n w : Nat) : Int) := by
    rw [rangeSize_pos (by omega) (by omega)]
    unfold cnt
    rw [Int.natCast_ediv]
    congr 1
    omega
  have hc := cnt_le (n := n) hw
  refine ⟨by omega, by omega, ?_, e⟩
  unfold Builtin.Range.small
  rw [e]
  simp only [Builtin.Range.rangeFitsLong, Bool.and_eq_true, Bool.or_eq_true, decide_eq_true_eq, beq_iff_eq]
  rw [if_pos (by omega)]
  simp only [Bool.and_eq_true, decide_eq_true_eq]
  omega
/-- a comprehension over a range by steps, of new data -/
theorem lcN_rangeC {lo c : Int} {n : Nat} {g : TG} {tt : TT} {te : TE} {vs : List Nat} {σ : L2.St} {H1 : Hp} {D : Addr} {Qd : Hp → Prop} (f : Nat → Option PyData) (hD : H1 D = none) (hn : n ≤ 1000000)
    (hs : ∀ (i : Nat) (H : Hp) (N1 : V → Hp → Prop) (N0 : Hp → Prop), i < n → Same H1 H → (∀ y H4 e, Same H H4 → f i = some e → NewV H H4 y e → N1 y H4) → (∀ H3, Same H H3 → f i = none → N0 H3) →
      g (.int (lo + (i : Nat) * c)) (wipe σ vs) H fun σ2 H2 => wipe σ2 vs = wipe σ vs ∧ tt σ2 H2 fun b H3 => if b = true then te σ2 H3 N1 else N0 H3)
    (hd : ∀ H, Same H1 H → LB H1 H D ((List.range n).filterMap f) → Qd H) :
    ∃ W : Nat → Nat → Hp → Prop, (∃ m, W 0 m (upd H1 D (.lst []))) ∧ ∀ i m H, W i m H →
      ((Itc lo c n).stop i H ∧ Qd H) ∨ ((Itc lo c n).go i H ∧ ∃ Nx : Hp → Prop, (∀ H', Nx H' → ∃ m', m' < m ∧ W (i + 1) m' H') ∧ ∀ x H', (Itc lo c n).yld i H x H' → g x (wipe σ vs) H' fun σ2 H2 => wipe σ2 vs = wipe σ vs ∧ tt σ2 H2 fun b H3 =>
        if b = true then te σ2 H3 fun y H4 => ∃ acc, H4 D = some (.lst acc) ∧ acc.length < sizeLine ∧ Nx (upd H4 D (.lst (acc ++ [y]))) else Nx H3) := by
  refine ⟨fun i m H => m = n - i ∧ i ≤ n ∧ (Same H1 H ∧ LB H1 H D ((List.range i).filterMap f)), ⟨n, by simp, Nat.zero_le _, same_new hD, LB.nil hD⟩, fun i m H hW => ?_⟩
  obtain ⟨rfl, hi, sm, lb⟩ := hW
  by_cases h : i < n
  · obtain ⟨k1, k0⟩ := lcN_step hn h sm lb
    refine .inr ⟨h, fun H' => Same H1 H' ∧ LB H1 H' D ((List.range (i + 1)).filterMap f), fun H' p => ⟨n - (i + 1), by omega, rfl, h, p⟩, fun x H' y => ?_⟩
    obtain ⟨rfl, rfl⟩ := y
    exact hs i _ _ _ h sm k1 k0
  · have e : i = n := by omega
    subst e
    exact .inl ⟨Nat.le_refl _, hd H sm lb⟩
/-! ### stretches -/
theorem kt_one (a : List Bool) : kt a ++ Str.ofString "1" = kt (a ++ [true]) := by
  have e : Str.ofString "1" = SX.S [49] := by decide +kernel
  unfold kt
  rw [e, SX.S_cat, List.map_append]
  rfl
theorem kt_zero (a : List Bool) : kt a ++ Str.ofString "0" = kt (a ++ [false]) := by
  have e : Str.ofString "0" = SX.S [48] := by decide +kernel
  unfold kt
  rw [e, SX.S_cat, List.map_append]
  rfl
theorem kt_rep (a : List Bool) (k : Nat) : kt a ++ SX.S (List.replicate k 48) = kt (a ++ List.replicate k false) := by
  unfold kt
  rw [SX.S_cat, List.map_append, List.map_replicate]
  rfl
theorem cutS_kt {b : List Bool} {f w : Nat} (h : f + w ≤ b.length) : cutS (kt b) (some (f : Int)) (some ((f : Int) + (w : Int))) = kt ((b.drop f).take w) := by
  have e : ((f : Int) + (w : Int)) = ((f + w : Nat) : Int) := by omega
  unfold cutS
  rw [e, HT.sIx_nat, HT.sIx_nat, kt_len, Nat.min_eq_left h, Nat.min_eq_left (show f ≤ b.length by omega)]
  show SX.S (((b.map bitN).drop f).take (f + w - f)) = SX.S (((b.drop f).take w).map bitN)
  rw [List.map_take, List.map_drop, show f + w - f = w by omega]
theorem stretch {n : Nat} {R : List (Int × Int)} {f w : Nat} (hf : f < n) : ((((List.range n).map fun (k : Nat) => has R (k : Int)) ++ List.replicate w false).drop f).take w = rowP n R f w := by
  refine List.ext_getElem? fun j => ?_
  by_cases hj : j < w
  · rw [rowP_get hj, List.getElem?_take_of_lt hj, List.getElem?_drop]
    unfold bitT
    by_cases h : f + j < n
    · rw [List.getElem?_append_left (by rw [List.length_map, List.length_range]; exact h), List.getElem?_map, List.getElem?_range h, decide_eq_true h]
      rfl
    · rw [List.getElem?_append_right (by rw [List.length_map, List.length_range]; omega), List.length_map, List.length_range, List.getElem?_replicate, if_pos (by omega), decide_eq_false h]
      rfl
  · rw [List.getElem?_eq_none (by rw [List.length_take]; omega), List.getElem?_eq_none (by rw [rowP_len]; omega)]
theorem mem_kt {r : List Bool} {L : List (List Bool)} : kt r ∈ L.map kt ↔ r ∈ L := by
  rw [List.mem_map]
  exact ⟨fun ⟨a, ha, e⟩ => kt_inj e ▸ ha, fun h => ⟨r, h, rfl⟩⟩
theorem dec_kt (r : List Bool) (L : List (List Bool)) : decide (kt r ∈ L.map kt) = decide (r ∈ L) := by
  by_cases h : r ∈ L
  · rw [decide_eq_true h, decide_eq_true (mem_kt.mpr h)]
  · rw [decide_eq_false h, decide_eq_false fun z => h (mem_kt.mp z)]
theorem sb_upd {d o : Addr} {G G' : Hp} {x : HO} (h : SameBut d G G') (n : G o = none) : SameBut d G (upd G' o x) := fun b u nb e => by
  rw [upd_ne (ne_of_none e n)]
  exact h b u nb e
theorem sb_upd_d {d : Addr} {G G' : Hp} {x : HO} (h : SameBut d G G') : SameBut d G (upd G' d x) := fun b u nb e => by
  rw [upd_ne nb]
  exact h b u nb e
/-- a table, as data -/
def eTab (n w : Nat) (SS : List (List (Int × Int))) : PyData := .tuple [eIs (firstsT n w SS), eT ((rowsT n w SS).map kt)]
theorem al_tab {n w : Nat} {SS : List (List (Int × Int))} (hw : 1 ≤ w) (hn : n ≤ 64) (hS : SS.length ≤ 1000) : Al 5 (eTab n w SS) := by
  have hc := cnt_le (n := n) hw
  have hm : SS.length * cnt n w ≤ 1000 * 64 := Nat.mul_le_mul hS (by omega)
  refine ⟨by show 2 ≤ 100000; decide, fun d hd => ?_⟩
  simp only [List.mem_cons, List.not_mem_nil, or_false] at hd
  rcases hd with rfl | rfl
  · refine Al.eIs (by unfold firstsT; rw [List.length_map]; omega) fun l hl => ?_
    obtain ⟨R, _, rfl⟩ := List.mem_map.mp hl
    rw [List.length_map, rowsR_len]
    omega
  · refine ⟨by rw [List.length_map, List.length_map]; exact Nat.le_trans (rowsT_len n w SS) (by omega), fun d hd => ?_⟩
    obtain ⟨r, _, rfl⟩ := List.mem_map.mp hd
    exact Al.str r
theorem cast_div (k w : Nat) : (k : Int) / (w : Int) = ((k / w : Nat) : Int) := (Int.natCast_ediv k w).symm
theorem cast_mod (k w : Nat) : (k : Int) % (w : Int) = ((k % w : Nat) : Int) := (Int.natCast_emod k w).symm
end Sg
/-! Signsets: the least of some data, and data compared. -/
namespace Sg
open PySem PySem.Spec PyProof.Rows L2
theorem vals_at : ∀ {xs : List V} {us : List Value} {i : Nat} {u : Value}, Vals xs us → us[i]? = some u → ∃ x, xs[i]? = some x ∧ RelV x u := fun {xs us i u} r h => by
  have hl := r.length
  have hi : i < xs.length := by
    have := (List.getElem?_eq_some_iff.mp h).1
    omega
  obtain ⟨u', h1, h2⟩ := r.get (List.getElem?_eq_getElem hi)
  rw [h] at h1
  obtain rfl := Option.some.inj h1
  exact ⟨_, List.getElem?_eq_getElem hi, h2⟩
/-- min(xs), items alike -/
def rMinD (K : PySem.W.Frag) : List V → Hp → VK → Prop := fun vs H Q => ∃ (a : Addr) (xs : List V) (x : PyData) (ds : List PyData), vs = [.ref a] ∧ SqL K H a xs ∧ DpAll K H xs (x :: ds) ∧ PySem.W.AlikeAll (x :: ds) ∧ PyData.canLayAll0 (x :: ds) = true ∧ PyData.depthAll (x :: ds) ≤ 60 ∧
  ∀ (i : Nat) (y : V), xs[i]? = some y → (x :: ds)[i]? = some (PySem.W.minD x ds) → Q y H
theorem minDK {X : Cx} (K : PySem.W.Frag) (hc : X.calm = true) (hu : X.A.units + 65 < cLine) (h : X.K = K := by rfl) : CallR X (.builtin "min") (rMinD K) := by
  subst h
  intro pins s σ H vs us Q I r h
  obtain ⟨a, xs, x, ds, rfl, hs, hA, hal, hcl, hdp, q⟩ := h
  obtain ⟨its, rv, hl, hz⟩ := I.list hs
  rw [Vals.ref1 r]
  obtain ⟨as, h4⟩ := Dp.readsAll I (x :: ds) _ its hA rv
  refine PySem.W.min_list_data (vs := its.toArray) (I.ok.hd hc) hl.isList h4 hal (by omega) fun i v h' tk bs hv hr hk => ?_
  have hv' : its[i]? = some v := by simpa using hv
  obtain ⟨y, hy, ry⟩ := vals_at rv hv'
  obtain ⟨d, hd, hdy⟩ := dpAll_get hA hy
  obtain ⟨bs', r'⟩ := Dp.reads I d y v hdy ry
  have hm : ∀ z ∈ (x :: ds), z.canLay0 = true := fun z hz => by
    have : ∀ (l : List PyData), PyData.canLayAll0 l = true → ∀ z ∈ l, z.canLay0 = true := by
      intro l
      induction l with
      | nil => intro _ z hz; simp at hz
      | cons w l ih =>
        intro h z hz
        rw [PyData.canLayAll0, Bool.and_eq_true] at h
        rcases List.mem_cons.mp hz with rfl | hz
        · exact h.1
        · exact ih h.2 z hz
    exact this _ hcl z hz
  have e1 := SeqAt.readOf_eq (hm d (List.mem_of_getElem? hd)) (Reads.keeps hk r')
  have hmin : PySem.W.minD x ds ∈ (x :: ds) := by
    have : ∀ (l : List PyData) (z : PyData), PySem.W.minD z l ∈ (z :: l) := by
      intro l
      induction l with
      | nil => intro z; exact List.mem_singleton.mpr rfl
      | cons w l ih =>
        intro z
        show PySem.W.minD (if PySem.W.dataLt w z then w else z) l ∈ _
        have := ih (if PySem.W.dataLt w z then w else z)
        rcases List.mem_cons.mp this with e | e
        · rw [e]
          split <;> simp
        · simp [e]
    exact this ds x
  have e2 := SeqAt.readOf_eq (hm _ hmin) hr
  rw [e1] at e2
  exact ⟨y, H, I.kept hk, ry, q i y hy (by rw [hd, e2])⟩
/-- d <= e, d < e, alike -/
def rLeD (K : PySem.W.Frag) : R2 := fun x y H Q => ∃ d e, Dp K H x d ∧ Dp K H y e ∧ PySem.W.alike d e = true ∧ d ≠ .none ∧ d.depth ≤ 60 ∧ Q (.bl (!PySem.W.dataLt e d)) H
def rLtD (K : PySem.W.Frag) : R2 := fun x y H Q => ∃ d e, Dp K H x d ∧ Dp K H y e ∧ PySem.W.alike d e = true ∧ d ≠ .none ∧ d.depth ≤ 60 ∧ Q (.bl (PySem.W.dataLt d e)) H
theorem leDK {X : Cx} (K : PySem.W.Frag) (hu : X.A.units + 65 < cLine) (h : X.K = K := by rfl) : OpR X (compareOp .LtE) (rLeD K) := by
  subst h
  intro pins s σ H x y v u Q I rx ry h
  obtain ⟨d, e, hd, he, ha, hn, hp, q⟩ := h
  obtain ⟨as, r1⟩ := Dp.reads I d x v hd rx
  obtain ⟨bs, r2⟩ := Dp.reads I e y u he ry
  exact PySem.W.le_data r1 r2 ha hn (by have := Nat.min_le_left d.depth e.depth; omega) ⟨.bl _, H, I, rfl, q⟩
theorem ltDK {X : Cx} (K : PySem.W.Frag) (hu : X.A.units + 65 < cLine) (h : X.K = K := by rfl) : OpR X (compareOp .Lt) (rLtD K) := by
  subst h
  intro pins s σ H x y v u Q I rx ry h
  obtain ⟨d, e, hd, he, ha, hn, hp, q⟩ := h
  obtain ⟨as, r1⟩ := Dp.reads I d x v hd rx
  obtain ⟨bs, r2⟩ := Dp.reads I e y u he ry
  exact PySem.W.lt_data r1 r2 ha hn (by have := Nat.min_le_left d.depth e.depth; omega) ⟨.bl _, H, I, rfl, q⟩
/-! ### the least of some pairs of ints -/
def ltP (a b : Int × Int) : Prop := a.1 < b.1 ∨ (a.1 = b.1 ∧ a.2 < b.2)
instance (a b : Int × Int) : Decidable (ltP a b) := by unfold ltP; exact inferInstance
def minP (x : Int × Int) (xs : List (Int × Int)) : Int × Int := xs.foldl (fun a y => if ltP y a then y else a) x
theorem minD_eP : ∀ (xs : List (Int × Int)) (x : Int × Int), PySem.W.minD (eP x) (xs.map eP) = eP (minP x xs)
  | [], x => rfl
  | y :: xs, x => by
    show PySem.W.minD (if PySem.W.dataLt (eP y) (eP x) then eP y else eP x) (xs.map eP) = eP (minP (if ltP y x then y else x) xs)
    have e : PySem.W.dataLt (eP y) (eP x) = decide (ltP y x) := by
      unfold eP
      rw [PySem.W.dataLt_ii]
      unfold ltP
      rfl
    rw [e]
    by_cases c : ltP y x
    · rw [if_pos (decide_eq_true c), if_pos c]
      exact minD_eP xs y
    · rw [if_neg (by simpa using c), if_neg c]
      exact minD_eP xs x
theorem minP_mem : ∀ (xs : List (Int × Int)) (x : Int × Int), minP x xs ∈ x :: xs
  | [], x => List.mem_singleton.mpr rfl
  | y :: xs, x => by
    show minP (if ltP y x then y else x) xs ∈ _
    rcases List.mem_cons.mp (minP_mem xs (if ltP y x then y else x)) with e | e
    · rw [e]
      split <;> simp
    · simp [e]
theorem minP_le : ∀ (xs : List (Int × Int)) (x : Int × Int), ∀ z ∈ x :: xs, (minP x xs).1 ≤ z.1
  | [], x, z, hz => by
    obtain rfl := List.mem_singleton.mp hz
    exact Int.le_refl _
  | y :: xs, x, z, hz => by
    show (minP (if ltP y x then y else x) xs).1 ≤ z.1
    have ih := minP_le xs (if ltP y x then y else x)
    have h0 := ih _ (List.mem_cons_self ..)
    have hx : (if ltP y x then y else x).1 ≤ x.1 ∧ (if ltP y x then y else x).1 ≤ y.1 := by
      by_cases c : ltP y x
      · rw [if_pos c]
        unfold ltP at c
        omega
      · rw [if_neg c]
        unfold ltP at c
        omega
    rcases List.mem_cons.mp hz with rfl | hz
    · omega
    · rcases List.mem_cons.mp hz with rfl | hz
      · omega
      · exact ih z (List.mem_cons_of_mem _ hz)
theorem alike_eP (l : List (Int × Int)) : PySem.W.AlikeAll (l.map eP) := by
  refine ⟨fun x hx y hy => ?_, fun x hx => ?_⟩
  · obtain ⟨a, _, rfl⟩ := List.mem_map.mp hx
    obtain ⟨b, _, rfl⟩ := List.mem_map.mp hy
    simp [eP, PySem.W.alike, PySem.W.alikeAll]
  · obtain ⟨a, _, rfl⟩ := List.mem_map.mp hx
    intro z
    cases z
theorem sh_pairs (l : List (Int × Int)) : PyData.canLayAll0 (l.map eP) = true ∧ PyData.depthAll (l.map eP) ≤ 60 := by
  refine ⟨can_all fun d hd => ?_, depth_all fun d hd => ?_⟩
  · obtain ⟨a, _, rfl⟩ := List.mem_map.mp hd
    exact (Sh.eP (n := 0) a).1
  · obtain ⟨a, _, rfl⟩ := List.mem_map.mp hd
    exact Nat.le_trans (Sh.eP (n := 0) a).2 (by decide)
/-- the list of pairs (cells, width) -/
def pairsT (n : Nat) (SS : List (List (Int × Int))) : List (Int × Int) := (List.range n).map fun i => (((cells n (i + 1) SS : Nat) : Int), ((i : Int) + 1))
theorem pairs_cons {n : Nat} (hn : 1 ≤ n) (SS : List (List (Int × Int))) : ∃ x xs, pairsT n SS = x :: xs := by
  cases h : pairsT n SS with
  | nil =>
    have : (pairsT n SS).length = n := by unfold pairsT; rw [List.length_map, List.length_range]
    rw [h] at this
    simp at this
    omega
  | cons x xs => exact ⟨x, xs, rfl⟩
def leastP (n : Nat) (SS : List (List (Int × Int))) : Int × Int := match pairsT n SS with
  | [] => (0, 0)
  | x :: xs => minP x xs
theorem leastP_mem {n : Nat} (hn : 1 ≤ n) (SS : List (List (Int × Int))) : ∃ w : Nat, 1 ≤ w ∧ w ≤ n ∧ leastP n SS = (((cells n w SS : Nat) : Int), (w : Int)) := by
  obtain ⟨x, xs, e⟩ := pairs_cons hn SS
  have hm : leastP n SS ∈ pairsT n SS := by
    unfold leastP
    rw [e]
    exact minP_mem xs x
  obtain ⟨i, hi, h⟩ := List.mem_map.mp hm
  refine ⟨i + 1, by omega, by have := List.mem_range.mp hi; omega, ?_⟩
  rw [← h]
  rfl
theorem leastP_le {n : Nat} (SS : List (List (Int × Int))) {w : Nat} (h1 : 1 ≤ w) (h2 : w ≤ n) : (leastP n SS).1 ≤ ((cells n w SS : Nat) : Int) := by
  obtain ⟨x, xs, e⟩ := pairs_cons (n := n) (by omega) SS
  have hm : (((cells n w SS : Nat) : Int), (w : Int)) ∈ pairsT n SS := by
    refine List.mem_map.mpr ⟨w - 1, List.mem_range.mpr (by omega), ?_⟩
    rw [show w - 1 + 1 = w by omega]
    congr 1
    omega
  unfold leastP
  rw [e] at hm ⊢
  exact minP_le xs x _ hm
/-- sums -/
theorem sum_const {α : Type} (l : List α) (f : α → Int) (c : Nat) (h : ∀ x ∈ l, f x = (c : Int)) : (l.map f).sum = ((l.length * c : Nat) : Int) := by
  induction l with
  | nil => simp
  | cons x l ih =>
    rw [List.map_cons, List.sum_cons, ih fun y hy => h y (List.mem_cons_of_mem _ hy), h x (by simp), List.length_cons, Nat.succ_mul]
    omega
theorem sum_firsts (n w : Nat) (SS : List (List (Int × Int))) : ((firstsT n w SS).map fun l => (l.length : Int)).sum = ((SS.length * cnt n w : Nat) : Int) := by
  rw [sum_const _ _ (cnt n w) fun l hl => ?_]
  · unfold firstsT
    rw [List.length_map]
  · obtain ⟨R, _, rfl⟩ := List.mem_map.mp hl
    rw [List.length_map, rowsR_len]
theorem sum_rows (n w : Nat) (SS : List (List (Int × Int))) : (((rowsT n w SS).map kt).map fun r => (r.length : Int)).sum = (((rowsT n w SS).length * w : Nat) : Int) := by
  rw [sum_const _ _ w fun r hr => ?_]
  · rw [List.length_map]
  · obtain ⟨b, hb, rfl⟩ := List.mem_map.mp hr
    rw [kt_len, rowsT_mem hb]
end Sg
/-! Signsets: sets as texts. -/
namespace Sg
open PySem PySem.Spec PyProof.Rows L2
/-! ### items and texts, by codes -/
def nL (k : Int) : List Nat := TL.numL k.toNat
def itemL (r : Int × Int) : List Nat := if r.1 = r.2 then nL r.1 else nL r.1 ++ (45 :: nL r.2)
def itemS (r : Int × Int) : Str := SX.S (itemL r)
def textL (I : List (Int × Int)) : List Nat := TL.joinL [44] (I.map itemL)
def itemsR (r : Int × Int) : List (Int × Int) := if r.2 - r.1 < 2 then (List.range (r.2 + 1 - r.1).toNat).map fun (i : Nat) => (r.1 + (i : Int), r.1 + (i : Int)) else [r]
def itemsOf (R : List (Int × Int)) : List (Int × Int) := R.flatMap itemsR
theorem nL_str {k : Int} (h : 0 ≤ k) : Str.ofString (toString k) = SX.S (nL k) := by
  obtain ⟨m, rfl⟩ := Int.eq_ofNat_of_zero_le h
  exact SX.num_S m
theorem nL_len {k : Int} (h : k < 100) : (nL k).length ≤ 2 := TL.numL_len (by decide) (by omega)
theorem nL_pos (k : Int) : 1 ≤ (nL k).length := List.length_pos_iff.mpr (TL.numL_ne _)
theorem nL_dig {k : Int} {c : Nat} (h : c ∈ nL k) : 48 ≤ c ∧ c ≤ 57 := TL.numL_digits _ c h
theorem nL_val {k : Int} (h : 0 ≤ k) : ((NumText.digitsVal (nL k) : Nat) : Int) = k := by
  unfold nL
  rw [TL.numL_val]
  omega
theorem nL_inj {a b : Int} (ha : 0 ≤ a) (hb : 0 ≤ b) (h : nL a = nL b) : a = b := by
  have := TL.numL_inj h
  omega
/-- a needless 0 -/
theorem nL_head : ∀ m : Nat, m < 100 → (TL.numL m)[0]? = some 48 → TL.numL m = [48] := by decide +kernel
theorem itemL_len {r : Int × Int} (h1 : r.1 < 100) (h2 : r.2 < 100) : 1 ≤ (itemL r).length ∧ (itemL r).length ≤ 5 := by
  unfold itemL
  have a := nL_len h1
  have b := nL_len h2
  have c := nL_pos r.1
  split
  · omega
  · rw [List.length_append, List.length_cons]
    omega
theorem itemL_free {r : Int × Int} : 44 ∉ itemL r ∧ 94 ∉ itemL r := by
  unfold itemL
  split
  · exact ⟨fun h => by have := nL_dig h; omega, fun h => by have := nL_dig h; omega⟩
  · refine ⟨fun h => ?_, fun h => ?_⟩
    · rcases List.mem_append.mp h with h | h
      · have := nL_dig h
        omega
      · rcases List.mem_cons.mp h with h | h
        · omega
        · have := nL_dig h
          omega
    · rcases List.mem_append.mp h with h | h
      · have := nL_dig h
        omega
      · rcases List.mem_cons.mp h with h | h
        · omega
        · have := nL_dig h
          omega
theorem itemL_head {r : Int × Int} : ∃ c l, itemL r = c :: l ∧ 48 ≤ c ∧ c ≤ 57 := by
  have hn : nL r.1 ≠ [] := TL.numL_ne _
  cases e : nL r.1 with
  | nil => exact absurd e hn
  | cons c l =>
    have := nL_dig (k := r.1) (c := c) (by rw [e]; simp)
    unfold itemL
    split
    · exact ⟨c, l, e, this⟩
    · exact ⟨c, _, by rw [e]; rfl, this⟩
theorem textL_head {r : Int × Int} {I : List (Int × Int)} : ∃ c l, textL (r :: I) = c :: l ∧ 48 ≤ c ∧ c ≤ 57 := by
  obtain ⟨c, l, e, h⟩ := itemL_head (r := r)
  unfold textL
  cases I with
  | nil => exact ⟨c, l, e, h⟩
  | cons q I =>
    refine ⟨c, l ++ ([44] ++ TL.joinL [44] ((q :: I).map itemL)), ?_, h⟩
    show itemL r ++ ([44] ++ TL.joinL [44] ((q :: I).map itemL)) = _
    rw [e]
    rfl
theorem textL_ne {I : List (Int × Int)} : textL I = [] ↔ I = [] := by
  constructor
  · intro h
    cases I with
    | nil => rfl
    | cons r I =>
      obtain ⟨c, l, e, _⟩ := textL_head (r := r) (I := I)
      rw [h] at e
      cases e
  · rintro rfl
    rfl
/-- how long a text is -/
def lenI (I : List (Int × Int)) : Nat := (I.map fun r => (itemL r).length + 1).sum
theorem textL_len : ∀ I : List (Int × Int), (textL I).length = lenI I - 1
  | [] => rfl
  | [r] => by simp [textL, lenI, TL.joinL]
  | r :: q :: I => by
    have ih := textL_len (q :: I)
    have h1 : 1 ≤ lenI (q :: I) := by
      unfold lenI
      rw [List.map_cons, List.sum_cons]
      omega
    show (itemL r ++ ([44] ++ textL (q :: I))).length = _
    rw [List.length_append, List.length_append, ih]
    have e : lenI (r :: q :: I) = (itemL r).length + 1 + lenI (q :: I) := by
      unfold lenI
      rw [List.map_cons, List.sum_cons]
    rw [e]
    simp
    omega
theorem lenI_app (I J : List (Int × Int)) : lenI (I ++ J) = lenI I + lenI J := by
  unfold lenI
  rw [List.map_append, List.sum_append]
theorem lenI_low : ∀ I : List (Int × Int), 2 * I.length ≤ lenI I
  | [] => Nat.le_refl _
  | r :: I => by
    have ih := lenI_low I
    obtain ⟨c, l, e, _⟩ := itemL_head (r := r)
    unfold lenI at ih ⊢
    rw [List.map_cons, List.sum_cons, e, List.length_cons, List.length_cons]
    omega
/-! ### items of ranges -/
def OkI (n : Int) (I : List (Int × Int)) : Prop := (∀ r ∈ I, 0 ≤ r.1 ∧ r.1 ≤ r.2 ∧ r.2 < n) ∧ I.Pairwise fun a b => a.2 < b.1
theorem itemsR_mem {r q : Int × Int} (h : r.1 ≤ r.2) (hq : q ∈ itemsR r) : r.1 ≤ q.1 ∧ q.1 ≤ q.2 ∧ q.2 ≤ r.2 := by
  unfold itemsR at hq
  split at hq
  · obtain ⟨i, hi, rfl⟩ := List.mem_map.mp hq
    have := List.mem_range.mp hi
    refine ⟨?_, Int.le_refl _, ?_⟩
    · show r.1 ≤ r.1 + (i : Int)
      omega
    · show r.1 + (i : Int) ≤ r.2
      omega
  · obtain rfl := List.mem_singleton.mp hq
    exact ⟨Int.le_refl _, h, Int.le_refl _⟩
theorem itemsR_has {r : Int × Int} {k : Int} : has (itemsR r) k = true ↔ r.1 ≤ k ∧ k ≤ r.2 := by
  rw [has_iff]
  unfold itemsR
  split
  · constructor
    · rintro ⟨q, hq, h1, h2⟩
      obtain ⟨i, hi, rfl⟩ := List.mem_map.mp hq
      have := List.mem_range.mp hi
      dsimp only at h1 h2
      omega
    · intro h
      exact ⟨(r.1 + ((k - r.1).toNat : Nat), r.1 + ((k - r.1).toNat : Nat)), List.mem_map.mpr ⟨(k - r.1).toNat, List.mem_range.mpr (by omega), rfl⟩, by show r.1 + ((k - r.1).toNat : Int) ≤ k; omega, by show k ≤ r.1 + ((k - r.1).toNat : Int); omega⟩
  · constructor
    · rintro ⟨q, hq, h⟩
      obtain rfl := List.mem_singleton.mp hq
      exact h
    · intro h
      exact ⟨r, by simp, h⟩
theorem itemsR_pw (r : Int × Int) : (itemsR r).Pairwise fun a b => a.2 < b.1 := by
  unfold itemsR
  split
  · rw [List.pairwise_map]
    refine List.Pairwise.imp (fun {a b} h => ?_) List.pairwise_lt_range
    show r.1 + (a : Int) < r.1 + (b : Int)
    omega
  · simp
theorem items_has (T : List (Int × Int)) (k : Int) : has (itemsOf T) k = has T k := by
  have h : has (itemsOf T) k = true ↔ has T k = true := by
    rw [has_iff, has_iff]
    constructor
    · rintro ⟨q, hq, h⟩
      obtain ⟨r, hr, hq'⟩ := List.mem_flatMap.mp hq
      exact ⟨r, hr, itemsR_has.mp (has_iff.mpr ⟨q, hq', h⟩)⟩
    · rintro ⟨r, hr, h⟩
      obtain ⟨q, hq, h'⟩ := has_iff.mp (itemsR_has.mpr h)
      exact ⟨q, List.mem_flatMap.mpr ⟨r, hr, hq⟩, h'⟩
  cases a : has T k
  · cases b : has (itemsOf T) k
    · rfl
    · rw [h.mp b] at a
      cases a
  · exact h.mpr a
theorem items_ok {n : Int} : ∀ {T : List (Int × Int)}, (∀ r ∈ T, 0 ≤ r.1 ∧ r.1 ≤ r.2 ∧ r.2 < n) → (T.Pairwise fun a b => a.2 + 1 < b.1) → OkI n (itemsOf T)
  | [], _, _ => ⟨fun r hr => by simp [itemsOf] at hr, by simp [itemsOf]⟩
  | r :: T, h, hp => by
    rw [List.pairwise_cons] at hp
    obtain ⟨i1, i2⟩ := items_ok (fun q hq => h q (List.mem_cons_of_mem _ hq)) hp.2
    have hr := h r (by simp)
    have e : itemsOf (r :: T) = itemsR r ++ itemsOf T := by unfold itemsOf; rw [List.flatMap_cons]
    rw [e]
    refine ⟨fun q hq => ?_, ?_⟩
    · rcases List.mem_append.mp hq with hq | hq
      · have := itemsR_mem hr.2.1 hq
        omega
      · exact i1 q hq
    · rw [List.pairwise_append]
      refine ⟨itemsR_pw r, i2, fun a ha b hb => ?_⟩
      have h1 := itemsR_mem hr.2.1 ha
      obtain ⟨q, hq, hb'⟩ := List.mem_flatMap.mp hb
      have h2 := itemsR_mem (h q (List.mem_cons_of_mem _ hq)).2.1 hb'
      have h3 := hp.1 q hq
      omega
theorem TR_sep (n : Nat) (p : Int → Bool) : ((TR n p).Pairwise fun a b => a.2 + 1 < b.1) := (told_ti (rising_filter p)).sep
theorem TR_in {n : Nat} {p : Int → Bool} : ∀ r ∈ TR n p, 0 ≤ r.1 ∧ r.1 ≤ r.2 ∧ r.2 < (n : Int) := fun r hr => by
  have t := told_ti (rising_filter (n := n) p)
  have h1 := (t.has r.1).mp (has_iff.mpr ⟨r, hr, Int.le_refl _, t.le r hr⟩)
  have h2 := (t.has r.2).mp (has_iff.mpr ⟨r, hr, t.le r hr, Int.le_refl _⟩)
  exact ⟨(mem_upTo.mp (List.mem_filter.mp h1).1).1, t.le r hr, (mem_upTo.mp (List.mem_filter.mp h2).1).2⟩
theorem TR_items (n : Nat) (p : Int → Bool) : OkI n (itemsOf (TR n p)) := items_ok TR_in (TR_sep n p)
/-! ### how many signs -/
def szR (T : List (Int × Int)) : Int := (T.map fun r => r.2 - r.1 + 1).sum
theorem szR_app (A B : List (Int × Int)) : szR (A ++ B) = szR A + szR B := by
  unfold szR
  rw [List.map_append, List.sum_append]
theorem szR_one (r : Int × Int) : szR [r] = r.2 - r.1 + 1 := by simp [szR]
theorem szR_step (acc : List (Int × Int)) (k : Int) : szR (toldStep acc k) = szR acc + 1 := by
  unfold toldStep
  cases e : acc.getLast? with
  | none =>
    have : acc = [] := List.getLast?_eq_none_iff.mp e
    subst this
    simp [szR]
  | some r =>
    obtain ⟨ini, rfl⟩ : ∃ ini, acc = ini ++ [r] := by
      rw [List.getLast?_eq_some_iff] at e
      exact e
    show szR (if r.2 = k - 1 then (ini ++ [r]).dropLast ++ [(r.1, k)] else ini ++ [r] ++ [(k, k)]) = _
    split
    · rename_i c
      rw [List.dropLast_concat, szR_app, szR_app, szR_one, szR_one]
      show szR ini + (k - r.1 + 1) = szR ini + (r.2 - r.1 + 1) + 1
      omega
    · rw [szR_app (ini ++ [r]), szR_one]
      show szR (ini ++ [r]) + (k - k + 1) = _
      omega
theorem szR_told (ns : List Int) : szR (told ns) = (ns.length : Int) := by
  have h : ∀ (ms : List Int) (acc : List (Int × Int)), szR (ms.foldl toldStep acc) = szR acc + (ms.length : Int) := by
    intro ms
    induction ms with
    | nil => intro acc; simp
    | cons m ms ih =>
      intro acc
      rw [List.foldl_cons, ih, szR_step, List.length_cons]
      omega
  have := h ns []
  simpa [told, szR] using this
theorem itemsR_len {r : Int × Int} (h : r.1 ≤ r.2) : ((itemsR r).length : Int) ≤ r.2 - r.1 + 1 := by
  unfold itemsR
  split
  · rw [List.length_map, List.length_range]
    omega
  · simp
    omega
theorem itemsR_lenI {r : Int × Int} (h : r.1 ≤ r.2) (h2 : r.2 < 100) : (lenI (itemsR r) : Int) ≤ 3 * (r.2 - r.1 + 1) := by
  unfold itemsR
  split
  · rename_i c
    have hc : (r.2 + 1 - r.1).toNat = 1 ∨ (r.2 + 1 - r.1).toNat = 2 := by omega
    have l1 : ∀ i : Int, r.1 + i < 100 → (itemL (r.1 + i, r.1 + i)).length ≤ 2 := fun i hi => by
      unfold itemL
      rw [if_pos rfl]
      exact nL_len hi
    rcases hc with e | e
    · rw [e]
      have := l1 0 (by omega)
      simp [lenI, List.range_succ] at this ⊢
      omega
    · rw [e]
      have a := l1 0 (by omega)
      have b := l1 1 (by omega)
      simp [lenI, List.range_succ] at a b ⊢
      omega
  · rename_i c
    have := (itemL_len (r := r) (by omega) h2).2
    simp [lenI]
    omega
theorem items_len : ∀ {T : List (Int × Int)}, (∀ r ∈ T, r.1 ≤ r.2) → ((itemsOf T).length : Int) ≤ szR T
  | [], _ => by simp [itemsOf, szR]
  | r :: T, h => by
    have ih := items_len (T := T) fun q hq => h q (List.mem_cons_of_mem _ hq)
    have h1 := itemsR_len (h r (by simp))
    have e : itemsOf (r :: T) = itemsR r ++ itemsOf T := by unfold itemsOf; rw [List.flatMap_cons]
    have e2 : szR (r :: T) = r.2 - r.1 + 1 + szR T := by unfold szR; rw [List.map_cons, List.sum_cons]
    rw [e, e2, List.length_append]
    omega
theorem items_lenI : ∀ {T : List (Int × Int)}, (∀ r ∈ T, r.1 ≤ r.2 ∧ r.2 < 100) → (lenI (itemsOf T) : Int) ≤ 3 * szR T
  | [], _ => by simp [itemsOf, szR, lenI]
  | r :: T, h => by
    have ih := items_lenI (T := T) fun q hq => h q (List.mem_cons_of_mem _ hq)
    have h1 := itemsR_lenI (h r (by simp)).1 (h r (by simp)).2
    have e : itemsOf (r :: T) = itemsR r ++ itemsOf T := by unfold itemsOf; rw [List.flatMap_cons]
    have e2 : szR (r :: T) = r.2 - r.1 + 1 + szR T := by unfold szR; rw [List.map_cons, List.sum_cons]
    rw [e, e2, lenI_app]
    omega
theorem filter_both {α : Type} (p : α → Bool) : ∀ l : List α, (l.filter p).length + (l.filter fun x => !p x).length = l.length
  | [] => rfl
  | x :: l => by
    have ih := filter_both p l
    cases h : p x
    · simp [List.filter_cons, h]
      omega
    · simp [List.filter_cons, h]
      omega
/-! ### the text of a set -/
def oneL (n : Nat) (R : List (Int × Int)) : List Nat := textL (itemsOf (TR n (has R)))
def othL (n : Nat) (R : List (Int × Int)) : List Nat := 94 :: textL (itemsOf (TR n fun k => !has R k))
def eLS (x : Str) : PyData := .tuple [.int (x.length : Int), .str x]
def wText (n : Nat) (R : List (Int × Int)) : Str := if (!PySem.W.dataLt (eLS (SX.S (othL n R))) (eLS (SX.S (oneL n R)))) = true then SX.S (oneL n R) else SX.S (othL n R)
theorem dataLt_ls (x y : Str) : PySem.W.dataLt (eLS x) (eLS y) = decide (x.length < y.length ∨ (x.length = y.length ∧ x.cps.toList < y.cps.toList)) := by
  unfold eLS
  rw [PySem.W.dataLt_pair (by simp [PySem.W.alike]) (by simp [PySem.W.alike]), PySem.W.dataLt_int, PySem.W.dataLt_str]
  by_cases h : x.length = y.length
  · have h1 : PyData.eqv (.int (x.length : Int)) (.int (y.length : Int)) = true := by rw [h, PyData.eqv]; exact beq_self_eq_true _
    rw [if_pos h1]
    by_cases e : x = y
    · subst e
      rw [if_pos (show PyData.eqv (.str x) (.str x) = true by rw [PyData.eqv]; exact beq_self_eq_true _)]
      refine (decide_eq_false ?_).symm
      rintro (z | ⟨_, z⟩)
      · omega
      · exact List.lt_irrefl _ z
    · have h2 : ¬ PyData.eqv (.str x) (.str y) = true := fun z => e (by rw [PyData.eqv] at z; exact eq_of_beq z)
      rw [if_neg h2]
      by_cases z : x.cps.toList < y.cps.toList
      · rw [decide_eq_true z, decide_eq_true (.inr ⟨h, z⟩)]
      · rw [decide_eq_false z, decide_eq_false]
        rintro (w | ⟨_, w⟩)
        · omega
        · exact z w
  · have h1 : ¬ PyData.eqv (.int (x.length : Int)) (.int (y.length : Int)) = true := fun z => h (by rw [PyData.eqv] at z; have := eq_of_beq z; omega)
    rw [if_neg h1]
    by_cases z : x.length < y.length
    · rw [decide_eq_true (show (x.length : Int) < (y.length : Int) by omega), decide_eq_true (.inl z)]
    · rw [decide_eq_false (show ¬ (x.length : Int) < (y.length : Int) by omega), decide_eq_false]
      rintro (w | ⟨w, _⟩)
      · exact z w
      · exact h w
/-- a text that another is read from: its items, and whether they are turned -/
theorem wText_is {n : Nat} (hn : n ≤ 64) (R : List (Int × Int)) : ∃ (neg : Bool) (I : List (Int × Int)), wText n R = SX.S ((if neg then [94] else []) ++ textL I) ∧ OkI n I ∧ (neg = true → I.length ≤ 40) ∧
    (∀ k : Int, 0 ≤ k → k < (n : Int) → (if neg then !has I k else has I k) = has R k) := by
  unfold wText
  rw [dataLt_ls]
  by_cases c : (SX.S (othL n R)).length < (SX.S (oneL n R)).length ∨ ((SX.S (othL n R)).length = (SX.S (oneL n R)).length ∧ (SX.S (othL n R)).cps.toList < (SX.S (oneL n R)).cps.toList)
  · rw [decide_eq_true c, if_neg (by simp)]
    refine ⟨true, itemsOf (TR n fun k => !has R k), rfl, TR_items n _, fun _ => ?_, fun k h0 h1 => ?_⟩
    · have hl : (othL n R).length ≤ (oneL n R).length := by
        rw [SX.S_len, SX.S_len] at c
        omega
      unfold othL oneL at hl
      rw [List.length_cons, textL_len, textL_len] at hl
      have a := lenI_low (itemsOf (TR n fun k => !has R k))
      have b := items_lenI (T := TR n (has R)) fun r hr => ⟨(TR_in r hr).2.1, by have := (TR_in r hr).2.2; omega⟩
      have e := items_len (T := TR n fun k => !has R k) fun r hr => (TR_in r hr).2.1
      have s1 : szR (TR n (has R)) = (((upTo n).filter (has R)).length : Int) := szR_told _
      have s2 : szR (TR n fun k => !has R k) = (((upTo n).filter fun k => !has R k).length : Int) := szR_told _
      have s3 := filter_both (has R) (upTo n)
      rw [upTo_len] at s3
      omega
    · rw [if_pos rfl, items_has, TR_has h0 h1, Bool.not_not]
  · rw [decide_eq_false c, if_pos (by simp)]
    refine ⟨false, itemsOf (TR n (has R)), rfl, TR_items n _, (fun z => by cases z), fun k h0 h1 => ?_⟩
    rw [if_neg (by simp), items_has, TR_has h0 h1]
theorem okI_len {n : Nat} {I : List (Int × Int)} (h : OkI n I) : I.length ≤ n := by
  have hm : (I.map (·.1)).Pairwise (· < ·) := by
    rw [List.pairwise_map]
    refine List.Pairwise.imp_of_mem (fun {a b} ha hb c => ?_) h.2
    have := h.1 a ha
    omega
  have hs : ∀ x ∈ I.map (·.1), x ∈ upTo n := fun x hx => by
    obtain ⟨r, hr, rfl⟩ := List.mem_map.mp hx
    have := h.1 r hr
    exact mem_upTo.mpr ⟨this.1, by omega⟩
  have := nodup_len (hm.imp fun {a b} c => by omega) hs
  rw [List.length_map, upTo_len] at this
  exact this
end Sg
/-! Signsets: rules for texts that a module holds, for walks over a text's signs, for lists or tuples. -/
namespace Sg
open PySem PySem.Spec PyProof.Rows L2
theorem pe_gS {X : Cx} {x z : Str} {pos : Pos} (hg : Gl X x) (h : ∃ t, X.mg x = some (.str z t)) (hdb : (x == ("__debug__" : Str)) = false := by decide) : PE X (.Name x pos) (tC (.str z)) := by
  obtain ⟨t, h⟩ := h
  exact pe_glob hg h ⟨_, rfl⟩ hdb
/-- a walk over a list or a tuple -/
def iSeqQ (K : PySem.W.Frag) (te : TE) : L2.TI := fun σ H R => iList K te σ H R ∨ iTup K te σ H R
theorem piQ {X : Cx} {tg l : Expr} {tl : TE} (K : PySem.W.Frag) (hl : PE X l tl) (h : X.K = K := by rfl) : PI X tg l (iSeqQ K tl) := by
  subst h
  refine ⟨fun pins s σ H R I h => ?_⟩
  rcases h with h | h
  · exact (pi_list hl).run pins s σ H R I h
  · exact (pi_tup hl).run pins s σ H R I h
/-- isinstance by what a value is -/
def rIsTy (K : PySem.W.Frag) : List V → Hp → VK → Prop := fun xs H Q => ∃ (x : V) (n tn : String), xs = [x, .ty n] ∧ n ∈ ["bool", "int", "str", "tuple", "list"] ∧ tn ∈ ["NoneType", "bool", "int", "str", "list", "tuple"] ∧ TyX K H x (.type tn) ∧ Q (.bl (isN n tn)) H
theorem isTyK {X : Cx} (K : PySem.W.Frag) (h : X.K = K := by rfl) : CallR X (.builtin "isinstance") (rIsTy K) := by
  subst h
  intro pins s σ H xs us Q I r h
  obtain ⟨x, n, tn, rfl, hn, ht, hT, q⟩ := h
  exact call_isi pins s σ H _ us Q I r ⟨x, .ty n, .type tn, .type n, isN n tn, rfl, .ty n, hT, kit_ty (kitN _ ht n hn), q⟩
def rIsLT (K : PySem.W.Frag) : List V → Hp → VK → Prop := fun xs H Q => ∃ (x : V) (tp : Addr) (tn : String), xs = [x, .ref tp] ∧ H tp = some (.tup [.ty "list", .ty "tuple"]) ∧ tn ∈ ["NoneType", "bool", "int", "str", "list", "tuple"] ∧ TyX K H x (.type tn) ∧ Q (.bl (isN "list" tn || isN "tuple" tn)) H
theorem isLTK {X : Cx} (K : PySem.W.Frag) (h : X.K = K := by rfl) : CallR X (.builtin "isinstance") (rIsLT K) := by
  subst h
  intro pins s σ H xs us Q I r h
  obtain ⟨x, tp, tn, rfl, hH, ht, hT, q⟩ := h
  refine call_isiT pins s σ H _ us Q I r ⟨x, tp, _, .type tn, [.type "list", .type "tuple"], isN "list" tn || isN "tuple" tn, rfl, hH, .cons (.ty _) (.cons (.ty _) .nil), hT, ?_, q⟩
  refine kitAny_cons (kit_ty (kitN _ ht "list" (by simp))) (fun e1 => ?_) (fun e1 => by rw [e1]; rfl)
  refine kitAny_cons (kit_ty (kitN _ ht "tuple" (by simp))) (fun e2 => ?_) (fun e2 => by rw [e2, Bool.or_true])
  rw [e1, e2]
  exact kitAny_nil
/-- a comprehension over a text, of new data -/
theorem lcN_its {x : Str} {g : TG} {tt : TT} {te : TE} {vs : List Nat} {σ : L2.St} {H1 : Hp} {D : Addr} {Qd : Hp → Prop} (f : Nat → Option PyData) (hD : H1 D = none) (hn : x.cps.size ≤ 1000000)
    (hs : ∀ (i c : Nat) (H : Hp) (N1 : V → Hp → Prop) (N0 : Hp → Prop), x.cps.toList[i]? = some c → Same H1 H → (∀ y H4 e, Same H H4 → f i = some e → NewV H H4 y e → N1 y H4) → (∀ H3, Same H H3 → f i = none → N0 H3) →
      g (.str ⟨#[c]⟩) (wipe σ vs) H fun σ2 H2 => wipe σ2 vs = wipe σ vs ∧ tt σ2 H2 fun b H3 => if b = true then te σ2 H3 N1 else N0 H3)
    (hd : ∀ H, Same H1 H → LB H1 H D ((List.range x.cps.size).filterMap f) → Qd H) :
    ∃ W : Nat → Nat → Hp → Prop, (∃ m, W 0 m (upd H1 D (.lst []))) ∧ ∀ i m H, W i m H →
      ((Its x).stop i H ∧ Qd H) ∨ ((Its x).go i H ∧ ∃ Nx : Hp → Prop, (∀ H', Nx H' → ∃ m', m' < m ∧ W (i + 1) m' H') ∧ ∀ v H', (Its x).yld i H v H' → g v (wipe σ vs) H' fun σ2 H2 => wipe σ2 vs = wipe σ vs ∧ tt σ2 H2 fun b H3 =>
        if b = true then te σ2 H3 fun y H4 => ∃ acc, H4 D = some (.lst acc) ∧ acc.length < sizeLine ∧ Nx (upd H4 D (.lst (acc ++ [y]))) else Nx H3) := by
  refine ⟨fun i m H => m = x.cps.size - i ∧ i ≤ x.cps.size ∧ (Same H1 H ∧ LB H1 H D ((List.range i).filterMap f)), ⟨x.cps.size, by simp, Nat.zero_le _, same_new hD, LB.nil hD⟩, fun i m H hW => ?_⟩
  obtain ⟨rfl, hi, sm, lb⟩ := hW
  by_cases h : i < x.cps.size
  · obtain ⟨k1, k0⟩ := lcN_step hn h sm lb
    refine .inr ⟨h, fun H' => Same H1 H' ∧ LB H1 H' D ((List.range (i + 1)).filterMap f), fun H' p => ⟨x.cps.size - (i + 1), by omega, rfl, h, p⟩, fun v H' y => ?_⟩
    obtain ⟨rfl, c, hc, rfl⟩ := y
    exact hs i c _ _ _ (by rw [Array.getElem?_toList]; exact hc) sm k1 k0
  · have e : i = x.cps.size := by omega
    subst e
    exact .inl ⟨Nat.le_refl _, hd H sm lb⟩
theorem joinE {t : TE} {σ : L2.St} {H : Hp} {Q : VK} (J : VK) (h1 : ∀ v H', J v H' → Q v H') (h2 : ∀ Q' : VK, (∀ v H', J v H' → Q' v H') → t σ H Q') : t σ H Q := h2 Q h1
theorem seq_set {t : TE} {i : Nat} {u : TS} {D : Ends} {σ : L2.St} {H : Hp} (J : VK) (h1 : ∀ v H', J v H' → u D (σ.set i (some v)) H') (h2 : ∀ Q' : VK, (∀ v H', J v H' → Q' v H') → t σ H Q') : tSeq (tAsg t (gName i)) u D σ H :=
  h2 (fun v H' => u D (σ.set i (some v)) H') h1
theorem one_set {t : TE} {i : Nat} {D : Ends} {σ : L2.St} {H : Hp} (J : VK) (h1 : ∀ v H', J v H' → D.nx (σ.set i (some v)) H') (h2 : ∀ Q' : VK, (∀ v H', J v H' → Q' v H') → t σ H Q') : tAsg t (gName i) D σ H :=
  h2 (fun v H' => D.nx (σ.set i (some v)) H') h1
theorem seq_for {wi : L2.TI} {g : TG} {tb u : TS} {D : Ends} {σ : L2.St} {H : Hp} (h : tFor wi g tb { D with nx := u D } σ H) : tSeq (tFor wi g tb) u D σ H := h
theorem for_enum_if {K : PySem.W.Frag} {t : TE} {g : TG} {tb : TS} {D : Ends} {σ : L2.St} {H : Hp} (J : VK) (h1 : ∀ v G, J v G → tFor (iEnum K (fun _ H' Q' => Q' [v] H')) g tb D σ G) (h2 : ∀ Q' : VK, (∀ v G, J v G → Q' v G) → t σ H Q') : tFor (iEnum K (tCons t tNil)) g tb D σ H :=
  h2 (fun v G => tFor (iEnum K (fun _ H' Q' => Q' [v] H')) g tb D σ G) h1
theorem for_list_if {K : PySem.W.Frag} {t : TE} {g : TG} {tb : TS} {D : Ends} {σ : L2.St} {H : Hp} (J : VK) (h1 : ∀ v G, J v G → tFor (iList K (fun _ H' Q' => Q' v H')) g tb D σ G) (h2 : ∀ Q' : VK, (∀ v G, J v G → Q' v G) → t σ H Q') : tFor (iList K t) g tb D σ H :=
  h2 (fun v G => tFor (iList K (fun _ H' Q' => Q' v H')) g tb D σ G) h1
end Sg
/-! Signsets: the law's own reading of texts, all cuttings of a run, the shortest of them. -/
namespace Sg
open PySem PySem.Spec PyProof.Rows L2
/-! ### splitting at a sign -/
def sp (c : Nat) : List Nat → List (List Nat)
  | [] => [[]]
  | x :: l => if x = c then [] :: sp c l else match sp c l with
    | [] => [[x]]
    | w :: ws => (x :: w) :: ws
theorem sp_ne (c : Nat) : ∀ l, sp c l ≠ []
  | [] => by simp [sp]
  | x :: l => by
    unfold sp
    split
    · simp
    · split <;> simp
theorem spl_sp (c : Nat) : ∀ (l acc : List Nat), TL.spl [c] 0 acc l = (match sp c l with
    | [] => [acc]
    | w :: ws => (acc ++ w) :: ws)
  | [], acc => by simp [sp, TL.spl_nil]
  | x :: l, acc => by
    by_cases h : x = c
    · subst h
      rw [TL.spl_hit (by simp [TL.pre])]
      have ih := spl_sp x l []
      show acc :: TL.spl [x] 0 [] l = _
      rw [ih]
      have e : sp x (x :: l) = [] :: sp x l := by rw [sp, if_pos rfl]
      rw [e]
      cases hs : sp x l with
      | nil => exact absurd hs (sp_ne x l)
      | cons w ws => simp
    · rw [TL.spl_miss (by simp [TL.pre, h]), spl_sp c l (acc ++ [x])]
      have e : sp c (x :: l) = match sp c l with
          | [] => [[x]]
          | w :: ws => (x :: w) :: ws := by rw [sp, if_neg h]
      rw [e]
      cases hs : sp c l with
      | nil => exact absurd hs (sp_ne c l)
      | cons w ws => simp
theorem split_sp (c : Nat) (hc : c < 256) (l : List Nat) : Txt.split (SX.S l) (SX.S [c]) = (sp c l).map SX.S := by
  rw [SX.split_S (by simp) (by simp [hc]), spl_sp]
  cases hs : sp c l with
  | nil => exact absurd hs (sp_ne c l)
  | cons w ws => simp
theorem sp_join {c : Nat} {parts : List (List Nat)} (hne : parts ≠ []) (h : ∀ p ∈ parts, c ∉ p) : sp c (TL.joinL [c] parts) = parts := by
  have e := SX.spl_join (sep := []) hne h
  rw [spl_sp] at e
  cases hs : sp c (TL.joinL [c] parts) with
  | nil => exact absurd hs (sp_ne c _)
  | cons w ws =>
    rw [hs] at e
    simpa using e
theorem sp_len (c : Nat) : ∀ l : List Nat, (sp c l).length ≤ l.length + 1
  | [] => Nat.le_refl _
  | x :: l => by
    have ih := sp_len c l
    unfold sp
    split
    · simp
      omega
    · split
      · simp
      · rename_i w ws hs
        rw [hs] at ih
        simp at ih ⊢
        omega
theorem sp_small (c : Nat) : ∀ (l : List Nat), ∀ w ∈ sp c l, w.length ≤ l.length
  | [], w, h => by
    simp [sp] at h
    rw [h]
    exact Nat.le_refl _
  | x :: l, w, h => by
    have ih := sp_small c l
    unfold sp at h
    split at h
    · rcases List.mem_cons.mp h with rfl | h
      · exact Nat.zero_le _
      · have := ih w h
        simp
        omega
    · split at h
      · simp at h
        rw [h]
        simp
      · rename_i v vs hs
        rcases List.mem_cons.mp h with rfl | h
        · have := ih v (by rw [hs]; simp)
          simp
          omega
        · have := ih w (by rw [hs]; simp [h])
          simp
          omega
/-! ### numbers of a word -/
def numM : Nat → List Nat → Option Int
  | 0, _ => none
  | n + 1, x => if x = nL (n : Int) then some (n : Int) else numM n x
theorem numM_nL {k : Int} : ∀ {n : Nat}, 0 ≤ k → k < (n : Int) → numM n (nL k) = some k
  | 0, h0, h1 => by omega
  | n + 1, h0, h1 => by
    unfold numM
    by_cases e : k = (n : Int)
    · rw [if_pos (by rw [e]), e]
    · rw [if_neg fun z => e (nL_inj h0 (by omega) z)]
      exact numM_nL h0 (by omega)
theorem numM_in {x : List Nat} {k : Int} : ∀ {n : Nat}, numM n x = some k → 0 ≤ k ∧ k < (n : Int)
  | 0, h => by cases h
  | n + 1, h => by
    unfold numM at h
    split at h
    · have := Option.some.inj h
      omega
    · have := numM_in h
      omega
/-- a .. b -/
def rangeI (a b : Int) : List Int := (List.range (b + 1 - a).toNat).map fun (i : Nat) => a + (i : Int)
theorem mem_rangeI {a b k : Int} : k ∈ rangeI a b ↔ a ≤ k ∧ k ≤ b := by
  unfold rangeI
  rw [List.mem_map]
  constructor
  · rintro ⟨i, hi, rfl⟩
    have := List.mem_range.mp hi
    omega
  · intro h
    exact ⟨(k - a).toNat, List.mem_range.mpr (by omega), by omega⟩
theorem rangeI_rising (a b : Int) : (rangeI a b).Pairwise (· < ·) := by
  unfold rangeI
  rw [List.pairwise_map]
  refine List.Pairwise.imp (fun {x y} h => ?_) List.pairwise_lt_range
  omega
theorem rangeI_len (a b : Int) : (rangeI a b).length = (b + 1 - a).toNat := by simp [rangeI]
def stepM (n : Nat) (st : List Int × Int) (word : List Nat) : Option (List Int × Int) := match (sp 45 word).map (numM n) with
  | [some a] => if a ≤ st.2 then none else some (st.1 ++ rangeI a a, a)
  | [some a, some b] => if a ≤ st.2 then none else if b ≤ a then none else some (st.1 ++ rangeI a b, b)
  | _ => none
def loopM (n : Nat) : List (List Nat) → List Int × Int → Option (List Int)
  | [], st => some st.1
  | w :: ws, st => match stepM n st w with
    | none => none
    | some st' => loopM n ws st'
def negM (t : List Nat) : Bool := match t with
  | 94 :: _ => true
  | _ => false
def restM (t : List Nat) : List Nat := if negM t then t.drop 1 else t
def wordsM (t : List Nat) : List (List Nat) := if restM t = [] then [] else sp 44 (restM t)
def readM (n : Nat) (t : List Nat) : Option (List Int) := match loopM n (wordsM t) ([], -1) with
  | none => none
  | some f => some (if negM t then (upTo n).filter (fun k => !decide (k ∈ f)) else f)
/-- a text of items is read -/
theorem nums_parts {n : Nat} {r : Int × Int} (h0 : 0 ≤ r.1) (h1 : r.1 ≤ r.2) (h2 : r.2 < (n : Int)) : (sp 45 (itemL r)).map (numM n) = if r.1 = r.2 then [some r.1] else [some r.1, some r.2] := by
  have fr : ∀ k : Int, 45 ∉ nL k := fun k h => by have := nL_dig h; omega
  unfold itemL
  split
  · rename_i e
    have z := sp_join (c := 45) (parts := [nL r.1]) (by simp) (by simpa using fr r.1)
    have z' : sp 45 (nL r.1) = [nL r.1] := z
    rw [z', List.map_cons, List.map_nil, numM_nL h0 (by omega)]
  · rename_i e
    have z := sp_join (c := 45) (parts := [nL r.1, nL r.2]) (by simp) (by intro p hp; simp at hp; rcases hp with rfl | rfl <;> exact fr _)
    have z' : sp 45 (nL r.1 ++ 45 :: nL r.2) = [nL r.1, nL r.2] := z
    rw [z', List.map_cons, List.map_cons, List.map_nil, numM_nL h0 (by omega), numM_nL (by omega) h2]
theorem stepM_item {n : Nat} {st : List Int × Int} {r : Int × Int} (h0 : 0 ≤ r.1) (h1 : r.1 ≤ r.2) (h2 : r.2 < (n : Int)) (hs : st.2 < r.1) : stepM n st (itemL r) = some (st.1 ++ rangeI r.1 r.2, r.2) := by
  unfold stepM
  rw [nums_parts h0 h1 h2]
  by_cases e : r.1 = r.2
  · rw [if_pos e]
    show (if r.1 ≤ st.2 then none else some (st.1 ++ rangeI r.1 r.1, r.1)) = _
    rw [if_neg (by omega), ← e]
  · rw [if_neg e]
    show (if r.1 ≤ st.2 then none else if r.2 ≤ r.1 then none else some (st.1 ++ rangeI r.1 r.2, r.2)) = _
    rw [if_neg (by omega), if_neg (by omega)]
theorem loopM_items {n : Nat} : ∀ {I : List (Int × Int)} {st : List Int × Int}, OkI n I → (∀ r ∈ I, st.2 < r.1) → loopM n (I.map itemL) st = some (st.1 ++ I.flatMap fun r => rangeI r.1 r.2)
  | [], st, _, _ => by simp [loopM]
  | r :: I, st, h, hs => by
    obtain ⟨h1, h2⟩ := h
    rw [List.pairwise_cons] at h2
    obtain ⟨k1, k2, k3⟩ := h1 r (by simp)
    rw [List.map_cons, loopM, stepM_item k1 k2 k3 (hs r (by simp))]
    show loopM n (I.map itemL) (st.1 ++ rangeI r.1 r.2, r.2) = _
    rw [loopM_items ⟨fun q hq => h1 q (List.mem_cons_of_mem _ hq), h2.2⟩ fun q hq => h2.1 q hq, List.flatMap_cons, List.append_assoc]
theorem items_numbers {n : Nat} {I : List (Int × Int)} (h : OkI n I) : (I.flatMap fun r => rangeI r.1 r.2) = (upTo n).filter (has I) := by
  refine rising_ext ?_ (rising_filter _) fun k => ?_
  · obtain ⟨h1, h2⟩ := h
    clear h1
    induction I with
    | nil => simp
    | cons r I ih =>
      rw [List.pairwise_cons] at h2
      rw [List.flatMap_cons, List.pairwise_append]
      refine ⟨rangeI_rising _ _, ih h2.2, fun x hx y hy => ?_⟩
      obtain ⟨q, hq, hy'⟩ := List.mem_flatMap.mp hy
      have a := mem_rangeI.mp hx
      have b := mem_rangeI.mp hy'
      have c := h2.1 q hq
      omega
  · rw [List.mem_flatMap, List.mem_filter, mem_upTo, has_iff]
    constructor
    · rintro ⟨r, hr, hk⟩
      have a := mem_rangeI.mp hk
      have b := h.1 r hr
      exact ⟨⟨by omega, by omega⟩, r, hr, a.1, a.2⟩
    · rintro ⟨_, r, hr, a⟩
      exact ⟨r, hr, mem_rangeI.mpr a⟩
theorem readM_items {n : Nat} {neg : Bool} {I : List (Int × Int)} (h : OkI n I) : readM n ((if neg then [94] else []) ++ textL I) = some ((upTo n).filter fun k => if neg then !has I k else has I k) := by
  have hneg : negM ((if neg then [94] else []) ++ textL I) = neg := by
    cases neg with
    | true => rfl
    | false =>
      cases I with
      | nil => rfl
      | cons r I =>
        obtain ⟨c, l, e, hc⟩ := textL_head (r := r) (I := I)
        show negM (textL (r :: I)) = false
        rw [e]
        unfold negM
        split
        · rename_i e2
          injection e2
          omega
        · rfl
  have hrest : restM ((if neg then [94] else []) ++ textL I) = textL I := by
    unfold restM
    rw [hneg]
    cases neg <;> rfl
  have hw : wordsM ((if neg then [94] else []) ++ textL I) = I.map itemL := by
    unfold wordsM
    rw [hrest]
    by_cases e : I = []
    · rw [if_pos (textL_ne.mpr e), e]
      rfl
    · rw [if_neg fun z => e (textL_ne.mp z)]
      unfold textL
      exact sp_join (by simpa using e) fun p hp => by
        obtain ⟨r, _, rfl⟩ := List.mem_map.mp hp
        exact itemL_free.1
  unfold readM
  rw [hw, hneg, loopM_items h (fun r hr => by have := (h.1 r hr).1; show (-1 : Int) < r.1; omega)]
  show some _ = some _
  congr 1
  rw [List.nil_append, items_numbers h]
  cases neg with
  | false => rfl
  | true =>
    rw [if_pos rfl]
    refine List.filter_congr fun k hk => ?_
    rw [if_pos rfl]
    congr 1
    cases e : has I k
    · exact decide_eq_false fun z => by rw [(List.mem_filter.mp z).2] at e; cases e
    · exact decide_eq_true (List.mem_filter.mpr ⟨hk, e⟩)
/-! ### texts compared: by length, then sign by sign -/
def ltL : List Nat → List Nat → Bool
  | [], [] => false
  | [], _ :: _ => true
  | _ :: _, [] => false
  | x :: a, y :: b => if x < y then true else if x = y then ltL a b else false
theorem ltL_iff : ∀ a b : List Nat, ltL a b = decide (a < b)
  | [], [] => by simp [ltL]
  | [], _ :: _ => by simp [ltL]
  | _ :: _, [] => by simp [ltL]
  | x :: a, y :: b => by
    rw [ltL]
    have ih := ltL_iff a b
    by_cases h : x < y
    · rw [if_pos h]
      exact (decide_eq_true (List.cons_lt_cons_iff.mpr (.inl h))).symm
    · rw [if_neg h]
      by_cases e : x = y
      · rw [if_pos e, ih]
        by_cases c : a < b
        · rw [decide_eq_true c, decide_eq_true (List.cons_lt_cons_iff.mpr (.inr ⟨e, c⟩))]
        · rw [decide_eq_false c, decide_eq_false]
          intro z
          rcases List.cons_lt_cons_iff.mp z with z | z
          · exact h z
          · exact c z.2
      · rw [if_neg e]
        refine (decide_eq_false fun z => ?_).symm
        rcases List.cons_lt_cons_iff.mp z with z | z
        · exact h z
        · exact e z.1
def ltT (a b : List Nat) : Bool := if a.length < b.length then true else if a.length = b.length then ltL a b else false
theorem ltT_data (a b : List Nat) : PySem.W.dataLt (eLS (SX.S a)) (eLS (SX.S b)) = ltT a b := by
  rw [dataLt_ls, SX.S_len, SX.S_len]
  unfold ltT
  by_cases h : a.length < b.length
  · rw [if_pos h, decide_eq_true (.inl h)]
  · rw [if_neg h]
    by_cases e : a.length = b.length
    · rw [if_pos e, ltL_iff]
      by_cases c : a < b
      · rw [decide_eq_true c, decide_eq_true]
        exact .inr ⟨e, c⟩
      · rw [decide_eq_false c, decide_eq_false]
        rintro (z | ⟨_, z⟩)
        · exact h z
        · exact c z
    · rw [if_neg e, decide_eq_false]
      rintro (z | ⟨z, _⟩)
      · exact h z
      · exact e z
def minT (x : List Nat) (xs : List (List Nat)) : List Nat := xs.foldl (fun a y => if ltT y a then y else a) x
theorem minD_eLS : ∀ (xs : List (List Nat)) (x : List Nat), PySem.W.minD (eLS (SX.S x)) (xs.map fun y => eLS (SX.S y)) = eLS (SX.S (minT x xs))
  | [], x => rfl
  | y :: xs, x => by
    show PySem.W.minD (if PySem.W.dataLt (eLS (SX.S y)) (eLS (SX.S x)) then eLS (SX.S y) else eLS (SX.S x)) (xs.map fun y => eLS (SX.S y)) = eLS (SX.S (minT (if ltT y x then y else x) xs))
    rw [ltT_data]
    cases ltT y x
    · exact minD_eLS xs x
    · exact minD_eLS xs y
theorem alike_eLS (l : List (List Nat)) : PySem.W.AlikeAll (l.map fun y => eLS (SX.S y)) := by
  refine ⟨fun x hx y hy => ?_, fun x hx => ?_⟩
  · obtain ⟨a, _, rfl⟩ := List.mem_map.mp hx
    obtain ⟨b, _, rfl⟩ := List.mem_map.mp hy
    simp [eLS, PySem.W.alike, PySem.W.alikeAll]
  · obtain ⟨a, _, rfl⟩ := List.mem_map.mp hx
    intro z
    cases z
/-! ### all cuttings of a run -/
def cutM : Nat → Nat → Nat → List (List Nat)
  | 0, _, _ => []
  | m + 1, f, l => (List.range (l + 1 - f)).flatMap fun i => if f + i = l then [itemL ((f : Int), ((f + i : Nat) : Int))] else (cutM m (f + i + 1) l).map fun r => itemL ((f : Int), ((f + i : Nat) : Int)) ++ 44 :: r
def digF (k : Nat) : List Nat := if k < 10 then [48 + k] else [48 + k / 10, 48 + k % 10]
theorem digF_eq {k : Nat} (h : k < 100) : nL (k : Int) = digF k := by
  unfold nL digF
  rw [Int.toNat_natCast]
  split
  · rename_i c
    exact TL.numL_lt c
  · rename_i c
    rw [TL.numL_step (by omega), TL.numL_lt (by omega)]
    rfl
def itmF (f e : Nat) : List Nat := if f = e then digF f else digF f ++ (45 :: digF e)
theorem itmF_eq {f e : Nat} (h1 : f < 100) (h2 : e < 100) : itemL ((f : Int), (e : Int)) = itmF f e := by
  unfold itemL itmF
  by_cases c : f = e
  · rw [if_pos c, if_pos (show (f : Int) = (e : Int) by omega), digF_eq h1]
  · rw [if_neg c, if_neg (show ¬ (f : Int) = (e : Int) by omega), digF_eq h1, digF_eq h2]
def cutF : Nat → Nat → Nat → List (List Nat)
  | 0, _, _ => []
  | m + 1, f, l => (List.range (l + 1 - f)).flatMap fun i => if f + i = l then [itmF f (f + i)] else (cutF m (f + i + 1) l).map fun r => itmF f (f + i) ++ 44 :: r
theorem flatMap_eq {α β : Type} {l : List α} {f g : α → List β} (h : ∀ x ∈ l, f x = g x) : l.flatMap f = l.flatMap g := by
  rw [List.flatMap_def, List.flatMap_def, List.map_congr_left h]
theorem cutF_eq : ∀ (m f l : Nat), l < 100 → cutM m f l = cutF m f l
  | 0, _, _, _ => rfl
  | m + 1, f, l, h => by
    unfold cutM cutF
    refine flatMap_eq fun i hi => ?_
    have := List.mem_range.mp hi
    rw [itmF_eq (by omega) (by omega)]
    split
    · rfl
    · rw [cutF_eq m (f + i + 1) l h]
def minL (l : List (List Nat)) : List Nat := match l with
  | [] => []
  | x :: xs => minT x xs
def itemsF (f l : Nat) : List (List Nat) := if l < f + 2 then (List.range (l + 1 - f)).map fun i => itmF (f + i) (f + i) else [itmF f l]
theorem cut_check : (List.range 64).all (fun f => (List.range 5).all fun d => minL (cutF 5 f (f + d)) == TL.joinL [44] (itemsF f (f + d))) = true := by decide +kernel
theorem itemsF_eq {f l : Nat} (h : f ≤ l) (hl : l < 100) : (itemsR ((f : Int), (l : Int))).map itemL = itemsF f l := by
  unfold itemsR itemsF
  by_cases c : l < f + 2
  · rw [if_pos c, if_pos (show (l : Int) - (f : Int) < 2 by omega), show (((l : Int) + 1 - (f : Int))).toNat = l + 1 - f by omega, List.map_map]
    refine List.map_congr_left fun i hi => ?_
    have := List.mem_range.mp hi
    show itemL ((f : Int) + (i : Int), (f : Int) + (i : Int)) = _
    rw [show (f : Int) + (i : Int) = ((f + i : Nat) : Int) by omega, itmF_eq (by omega) (by omega)]
  · rw [if_neg c, if_neg (show ¬ (l : Int) - (f : Int) < 2 by omega), List.map_cons, List.map_nil, itmF_eq (by omega) hl]
theorem cut_min {f l : Nat} (h : f ≤ l) (hl : l < 64) (hd : l < f + 5) : minL (cutM 5 f l) = textL (itemsR ((f : Int), (l : Int))) := by
  have z := List.all_eq_true.mp (List.all_eq_true.mp cut_check f (List.mem_range.mpr (by omega))) (l - f) (List.mem_range.mpr (by omega))
  have z2 := eq_of_beq z
  rw [show f + (l - f) = l by omega] at z2
  rw [cutF_eq 5 f l (by omega), z2]
  unfold textL
  rw [itemsF_eq h (by omega)]
/-- texts of runs, put together -/
theorem joinL_app {c : Nat} : ∀ {a b : List (List Nat)}, a ≠ [] → b ≠ [] → TL.joinL [c] (a ++ b) = TL.joinL [c] a ++ (c :: TL.joinL [c] b)
  | [], _, h, _ => absurd rfl h
  | [p], b, _, hb => by
    cases b with
    | nil => exact absurd rfl hb
    | cons q b => rfl
  | p :: q :: a, b, _, hb => by
    have ih := joinL_app (c := c) (a := q :: a) (b := b) (by simp) hb
    show p ++ ([c] ++ TL.joinL [c] ((q :: a) ++ b)) = (p ++ ([c] ++ TL.joinL [c] (q :: a))) ++ (c :: TL.joinL [c] b)
    rw [ih]
    simp
theorem itemsR_ne {r : Int × Int} (h : r.1 ≤ r.2) : itemsR r ≠ [] := by
  unfold itemsR
  split
  · intro z
    have := congrArg List.length z
    rw [List.length_map, List.length_range] at this
    simp at this
    omega
  · simp
theorem join_runs : ∀ {T : List (Int × Int)}, (∀ r ∈ T, r.1 ≤ r.2) → TL.joinL [44] (T.map fun r => textL (itemsR r)) = textL (itemsOf T)
  | [], _ => rfl
  | [r], _ => by
    show textL (itemsR r) = textL (itemsR r ++ [])
    rw [List.append_nil]
  | r :: q :: T, h => by
    have ih := join_runs (T := q :: T) fun x hx => h x (List.mem_cons_of_mem _ hx)
    have e : itemsOf (r :: q :: T) = itemsR r ++ itemsOf (q :: T) := by unfold itemsOf; rw [List.flatMap_cons]
    have hq : itemsOf (q :: T) ≠ [] := by
      have e2 : itemsOf (q :: T) = itemsR q ++ itemsOf T := by unfold itemsOf; rw [List.flatMap_cons]
      rw [e2]
      intro z
      exact itemsR_ne (h q (by simp)) (List.append_eq_nil_iff.mp z).1
    show textL (itemsR r) ++ ([44] ++ TL.joinL [44] ((q :: T).map fun r => textL (itemsR r))) = _
    rw [ih, e]
    unfold textL
    rw [List.map_append, joinL_app (by simpa using itemsR_ne (h r (by simp))) (by simpa using hq)]
    rfl
/-- the least text of a run -/
def someM (f l : Nat) : List (List Nat) := if l < f + 5 then cutM 5 f l else [itemL ((f : Int), (l : Int))]
theorem some_min {f l : Nat} (h : f ≤ l) (hl : l < 64) : minL (someM f l) = textL (itemsR ((f : Int), (l : Int))) := by
  unfold someM
  by_cases c : l < f + 5
  · rw [if_pos c]
    exact cut_min h hl c
  · rw [if_neg c]
    have e : itemsR ((f : Int), (l : Int)) = [((f : Int), (l : Int))] := by
      unfold itemsR
      rw [if_neg (show ¬ (l : Int) - (f : Int) < 2 by omega)]
    rw [e]
    rfl
theorem cutM_ne {m f l : Nat} (h : f ≤ l) : cutM (m + 1) f l ≠ [] := by
  unfold cutM
  intro z
  have := List.flatMap_eq_nil_iff.mp z (l - f) (List.mem_range.mpr (by omega))
  rw [if_pos (by omega)] at this
  cases this
theorem some_ne {f l : Nat} (h : f ≤ l) : someM f l ≠ [] := by
  unfold someM
  split
  · exact cutM_ne h
  · simp
/-! ### small sizes: all texts gone through -/
def wL (n : Nat) (S : List Int) : List Nat := if ltT (94 :: textL (itemsOf (told ((upTo n).filter fun k => !decide (k ∈ S))))) (textL (itemsOf (told S))) then 94 :: textL (itemsOf (told ((upTo n).filter fun k => !decide (k ∈ S)))) else textL (itemsOf (told S))
theorem wText_wL {n : Nat} {R : List (Int × Int)} (hk : Ok n R) : wText n R = SX.S (wL n (allIn n R)) := by
  have e1 : oneL n R = textL (itemsOf (told (allIn n R))) := rfl
  have e2 : othL n R = 94 :: textL (itemsOf (told ((upTo n).filter fun k => !decide (k ∈ allIn n R)))) := by
    unfold othL TR
    congr 4
    refine List.filter_congr fun k _ => ?_
    rw [dec_allIn hk]
  unfold wText wL
  rw [ltT_data, e1, e2]
  cases ltT (94 :: textL (itemsOf (told ((upTo n).filter fun k => !decide (k ∈ allIn n R))))) (textL (itemsOf (told (allIn n R)))) <;> rfl
def lvl (a : List Nat) : Nat → List (List Nat)
  | 0 => [[]]
  | t + 1 => (lvl a t).flatMap fun x => a.map fun c => x ++ [c]
def alph (n : Nat) : List Nat := ([48, 49, 50, 51].take n) ++ [45, 44, 94]
/-! the same, to be reckoned -/
def numF (n : Nat) (x : List Nat) : Option Int := match x with
  | [c] => if 48 ≤ c && c < 48 + n then some ((c - 48 : Nat) : Int) else none
  | _ => none
def stepF (n : Nat) (st : List Int × Int) (word : List Nat) : Option (List Int × Int) := match (sp 45 word).map (numF n) with
  | [some a] => if a ≤ st.2 then none else some (st.1 ++ rangeI a a, a)
  | [some a, some b] => if a ≤ st.2 then none else if b ≤ a then none else some (st.1 ++ rangeI a b, b)
  | _ => none
def loopF (n : Nat) : List (List Nat) → List Int × Int → Option (List Int)
  | [], st => some st.1
  | w :: ws, st => match stepF n st w with
    | none => none
    | some st' => loopF n ws st'
def readF (n : Nat) (t : List Nat) : Option (List Int) := match loopF n (wordsM t) ([], -1) with
  | none => none
  | some f => some (if negM t then (upTo n).filter (fun k => !decide (k ∈ f)) else f)
theorem numF_eq (x : List Nat) : ∀ n : Nat, n ≤ 10 → numM n x = numF n x
  | 0, _ => by
    unfold numF
    split
    · rename_i c
      have h : ¬ (decide (48 ≤ c) && decide (c < 48 + 0)) = true := by
        rw [Bool.and_eq_true, decide_eq_true_eq, decide_eq_true_eq]
        omega
      rw [if_neg h]
      rfl
    · rfl
  | n + 1, h => by
    have hd : nL (n : Int) = [48 + n] := by
      rw [digF_eq (by omega)]
      unfold digF
      rw [if_pos (by omega)]
    rw [numM, hd, numF_eq x n (by omega)]
    cases x with
    | nil => rfl
    | cons c l =>
      cases l with
      | cons d l =>
        rw [if_neg (by simp)]
        rfl
      | nil =>
        show (if [c] = [48 + n] then some (n : Int) else if (decide (48 ≤ c) && decide (c < 48 + n)) = true then some ((c - 48 : Nat) : Int) else none) = if (decide (48 ≤ c) && decide (c < 48 + (n + 1))) = true then some ((c - 48 : Nat) : Int) else none
        by_cases e : c = 48 + n
        · subst e
          have h2 : (decide (48 ≤ 48 + n) && decide (48 + n < 48 + (n + 1))) = true := by
            rw [Bool.and_eq_true, decide_eq_true_eq, decide_eq_true_eq]
            omega
          rw [if_pos rfl, if_pos h2]
          congr 1
          omega
        · rw [if_neg (fun z => e (by injection z))]
          by_cases z : 48 ≤ c ∧ c < 48 + n
          · have h1 : (decide (48 ≤ c) && decide (c < 48 + n)) = true := by
              rw [Bool.and_eq_true, decide_eq_true_eq, decide_eq_true_eq]
              exact z
            have h2 : (decide (48 ≤ c) && decide (c < 48 + (n + 1))) = true := by
              rw [Bool.and_eq_true, decide_eq_true_eq, decide_eq_true_eq]
              omega
            rw [if_pos h1, if_pos h2]
          · have h1 : ¬ (decide (48 ≤ c) && decide (c < 48 + n)) = true := by
              rw [Bool.and_eq_true, decide_eq_true_eq, decide_eq_true_eq]
              exact z
            have h2 : ¬ (decide (48 ≤ c) && decide (c < 48 + (n + 1))) = true := by
              rw [Bool.and_eq_true, decide_eq_true_eq, decide_eq_true_eq]
              omega
            rw [if_neg h1, if_neg h2]
theorem readF_eq {n : Nat} (h : n ≤ 10) (t : List Nat) : readM n t = readF n t := by
  have e0 : numM n = numF n := funext fun x => numF_eq x n h
  have e1 : ∀ st w, stepM n st w = stepF n st w := fun st w => by
    unfold stepM stepF
    rw [e0]
  have e2 : ∀ ws st, loopM n ws st = loopF n ws st := by
    intro ws
    induction ws with
    | nil => intro st; rfl
    | cons w ws ih =>
      intro st
      rw [loopM, loopF, e1]
      cases stepF n st w with
      | none => rfl
      | some st' => exact ih st'
  unfold readM readF
  rw [e2]
def okT (n : Nat) (t : List Nat) : Bool := match readF n t with
  | none => true
  | some S => !ltT t (wL n S)
end Sg
namespace Sg
open PySem PySem.Spec PyProof.Rows L2
def topS (i : Nat) : Stmt := PySem.Challenge.pw_signsets_k06_whole_the_shortest_text.main.body.getD i (.Pass ⟨0, 0, 0, 0⟩)
abbrev s_need_size : Stmt := topS 7
abbrev n_need_size : List Str := ["size"]
theorem sc_need_size : FnScope n_need_size ["size"] (defScope s_need_size) := ⟨rfl, rfl, rfl, by decide +kernel, rfl, by decide +kernel, by decide +kernel⟩
abbrev s_need_set : Stmt := topS 8
abbrev n_need_set : List Str := ["size", "ranges", "number", "at", "first", "last"]
theorem sc_need_set : FnScope n_need_set ["size", "ranges", "number"] (defScope s_need_set) := ⟨rfl, rfl, rfl, by decide +kernel, rfl, by decide +kernel, by decide +kernel⟩
abbrev s_has : Stmt := topS 9
abbrev n_has : List Str := ["ranges", "number", "pair"]
theorem sc_has : FnScope n_has ["ranges", "number"] (defScope s_has) := ⟨rfl, rfl, rfl, by decide +kernel, rfl, by decide +kernel, by decide +kernel⟩
abbrev s_all_in : Stmt := topS 10
abbrev n_all_in : List Str := ["size", "ranges", "number"]
theorem sc_all_in : FnScope n_all_in ["size", "ranges"] (defScope s_all_in) := ⟨rfl, rfl, rfl, by decide +kernel, rfl, by decide +kernel, by decide +kernel⟩
abbrev s_told : Stmt := topS 11
abbrev n_told : List Str := ["numbers", "found", "number"]
theorem sc_told : FnScope n_told ["numbers"] (defScope s_told) := ⟨rfl, rfl, rfl, by decide +kernel, rfl, by decide +kernel, by decide +kernel⟩
abbrev s_others : Stmt := topS 12
abbrev n_others : List Str := ["size", "ranges", "number"]
theorem sc_others : FnScope n_others ["size", "ranges"] (defScope s_others) := ⟨rfl, rfl, rfl, by decide +kernel, rfl, by decide +kernel, by decide +kernel⟩
abbrev s_items_of : Stmt := topS 15
abbrev n_items_of : List Str := ["ranges", "found", "first", "last", "number"]
theorem sc_items_of : FnScope n_items_of ["ranges"] (defScope s_items_of) := ⟨rfl, rfl, rfl, by decide +kernel, rfl, by decide +kernel, by decide +kernel⟩
abbrev s_written : Stmt := topS 16
abbrev n_written : List Str := ["size", "ranges", "one", "other"]
theorem sc_written : FnScope n_written ["size", "ranges"] (defScope s_written) := ⟨rfl, rfl, rfl, by decide +kernel, rfl, by decide +kernel, by decide +kernel⟩
abbrev s__law_dice : Stmt := topS 18
abbrev n__law_dice : List Str := ["_law_script", "_law_k", "_law_found", "_law_cell"]
theorem sc__law_dice : FnScope n__law_dice ["_law_script", "_law_k"] (defScope s__law_dice) := ⟨rfl, rfl, rfl, by decide +kernel, rfl, by decide +kernel, by decide +kernel⟩
abbrev s__law_off : Stmt := topS 19
abbrev n__law_off : List Str := ["_law_d", "_law_most", "_law_found"]
theorem sc__law_off : FnScope n__law_off ["_law_d", "_law_most"] (defScope s__law_off) := ⟨rfl, rfl, rfl, by decide +kernel, rfl, by decide +kernel, by decide +kernel⟩
abbrev s__law_size : Stmt := topS 20
abbrev n__law_size : List Str := ["_law_d"]
theorem sc__law_size : FnScope n__law_size ["_law_d"] (defScope s__law_size) := ⟨rfl, rfl, rfl, by decide +kernel, rfl, by decide +kernel, by decide +kernel⟩
abbrev s__law_set : Stmt := topS 21
abbrev n__law_set : List Str := ["_law_d", "_law_size_here", "_law_most", "_law_wide", "_law_found", "_law_turn", "_law_first"]
theorem sc__law_set : FnScope n__law_set ["_law_d", "_law_size_here", "_law_most"] (defScope s__law_set) := ⟨rfl, rfl, rfl, by decide +kernel, rfl, by decide +kernel, by decide +kernel⟩
abbrev s__law_members : Stmt := topS 22
abbrev n__law_members : List Str := ["_law_size_here", "_law_ranges", "_law_found", "_law_first", "_law_last"]
theorem sc__law_members : FnScope n__law_members ["_law_size_here", "_law_ranges"] (defScope s__law_members) := ⟨rfl, rfl, rfl, by decide +kernel, rfl, by decide +kernel, by decide +kernel⟩
abbrev s__law_told : Stmt := topS 23
abbrev n__law_told : List Str := ["_law_numbers", "_law_firsts", "_law_number_here", "_law_lasts", "_law_k"]
theorem sc__law_told : FnScope n__law_told ["_law_numbers"] (defScope s__law_told) := ⟨rfl, rfl, rfl, by decide +kernel, rfl, by decide +kernel, by decide +kernel⟩
abbrev s__law_others : Stmt := topS 24
abbrev n__law_others : List Str := ["_law_size_here", "_law_numbers", "_law_number_here"]
theorem sc__law_others : FnScope n__law_others ["_law_size_here", "_law_numbers"] (defScope s__law_others) := ⟨rfl, rfl, rfl, by decide +kernel, rfl, by decide +kernel, by decide +kernel⟩
abbrev s__law_number : Stmt := topS 25
abbrev n__law_number : List Str := ["_law_word", "_law_size_here", "_law_number_here"]
theorem sc__law_number : FnScope n__law_number ["_law_word", "_law_size_here"] (defScope s__law_number) := ⟨rfl, rfl, rfl, by decide +kernel, rfl, by decide +kernel, by decide +kernel⟩
abbrev s__law_read : Stmt := topS 26
abbrev n__law_read : List Str := ["_law_size_here", "_law_text", "_law_rest", "_law_found", "_law_end", "_law_word", "_law_parts", "_law_part"]
theorem sc__law_read : FnScope n__law_read ["_law_size_here", "_law_text"] (defScope s__law_read) := ⟨rfl, rfl, rfl, by decide +kernel, rfl, by decide +kernel, by decide +kernel⟩
abbrev s__law_cut : Stmt := topS 27
abbrev n__law_cut : List Str := ["_law_first", "_law_last", "_law_found", "_law_end", "_law_word", "_law_rest"]
theorem sc__law_cut : FnScope n__law_cut ["_law_first", "_law_last"] (defScope s__law_cut) := ⟨rfl, rfl, rfl, by decide +kernel, rfl, by decide +kernel, by decide +kernel⟩
abbrev s__law_shortest : Stmt := topS 28
abbrev n__law_shortest : List Str := ["_law_runs", "_law_items", "_law_first", "_law_last", "_law_some", "_law_word"]
theorem sc__law_shortest : FnScope n__law_shortest ["_law_runs"] (defScope s__law_shortest) := ⟨rfl, rfl, rfl, by decide +kernel, rfl, by decide +kernel, by decide +kernel⟩
abbrev s_law : Stmt := topS 29
abbrev n_law : List Str := ["_law_script", "_law_d", "_law_size_here", "_law_ranges", "_law_numbers", "_law_found", "_law_texts", "_law_text", "_law_level", "_law_turn", "_law_longer", "_law_sign"]
theorem sc_law : FnScope n_law ["_law_script"] (defScope s_law) := ⟨rfl, rfl, rfl, by decide +kernel, rfl, by decide +kernel, by decide +kernel⟩
structure Tx (K : PySem.W.Frag) (mg : Str → Option Value) : Prop where
  d_need_size : Df K mg "need_size" s_need_size ["size"]
  d_need_set : Df K mg "need_set" s_need_set ["size", "ranges", "number"]
  d_has : Df K mg "has" s_has ["ranges", "number"]
  d_all_in : Df K mg "all_in" s_all_in ["size", "ranges"]
  d_told : Df K mg "told" s_told ["numbers"]
  d_others : Df K mg "others" s_others ["size", "ranges"]
  d_items_of : Df K mg "items_of" s_items_of ["ranges"]
  d_written : Df K mg "written" s_written ["size", "ranges"]
  d__law_dice : Df K mg "_law_dice" s__law_dice ["_law_script", "_law_k"]
  d__law_off : Df K mg "_law_off" s__law_off ["_law_d", "_law_most"]
  d__law_size : Df K mg "_law_size" s__law_size ["_law_d"]
  d__law_set : Df K mg "_law_set" s__law_set ["_law_d", "_law_size_here", "_law_most"]
  d__law_members : Df K mg "_law_members" s__law_members ["_law_size_here", "_law_ranges"]
  d__law_told : Df K mg "_law_told" s__law_told ["_law_numbers"]
  d__law_others : Df K mg "_law_others" s__law_others ["_law_size_here", "_law_numbers"]
  d__law_number : Df K mg "_law_number" s__law_number ["_law_word", "_law_size_here"]
  d__law_read : Df K mg "_law_read" s__law_read ["_law_size_here", "_law_text"]
  d__law_cut : Df K mg "_law_cut" s__law_cut ["_law_first", "_law_last"]
  d__law_shortest : Df K mg "_law_shortest" s__law_shortest ["_law_runs"]
  c_MOST_SIZE : ∃ t, mg "MOST_SIZE" = some (.int 64 t)
  c_MOST_RANGES : ∃ t, mg "MOST_RANGES" = some (.int 40 t)
  c_NOT : ∃ t, mg "NOT" = some (.str (Str.ofString "^") t)
  z_range : mg "range" = none
  z_enumerate : mg "enumerate" = none
  z_len : mg "len" = none
  z_min : mg "min" = none
  z_abs : mg "abs" = none
  z_isinstance : mg "isinstance" = none
  z_bool : mg "bool" = none
  z_int : mg "int" = none
  z_str : mg "str" = none
  z_tuple : mg "tuple" = none
  z_list : mg "list" = none
  z_all : mg "all" = none
  z_sorted : mg "sorted" = none
  z_set : mg "set" = none
  z_dict : mg "dict" = none
section
variable {P : Program} {w : World} {K : PySem.W.Frag} {mg : Str → Option Value} {base : Heap}
def spNeedSize : Sp := fun vs H Q _ => ∃ n : Int, vs = [.int n] ∧ 1 ≤ n ∧ n ≤ 64 ∧ Q .non H
theorem ok_need_size (T : Tx K mg) : Cl P w K mg base 1 "need_size" spNeedSize := by
  refine T.d_need_size.cl sc_need_size (fun vs H Q E h => ?_) (fun f cdv A outer s H vs Q E hr h => ?_)
  · obtain ⟨n, rfl, _⟩ := h
    rfl
  obtain ⟨n, rfl, h1, h2, q⟩ := h
  refine ⟨_, (pss_one (ps_if (pt_not (pt_chain op_le op_le pe_int (pv 0) (pe_gI (by rfl) T.c_MOST_SIZE))) (pss_one ps_never) pss_nil)), ?_⟩
  refine ⟨_, rfl, _, _, rfl, rfl, true, bT h1, iteT ⟨_, _, rfl, rfl, true, bT h2, iteF ?_⟩⟩
  exact q
def spNeedSet (K : PySem.W.Frag) : Sp := fun vs H Q _ => ∃ (n : Int) (v : V) (R : List (Int × Int)) (num : Int), vs = [.int n, v, .int num] ∧ Dp K H v (eR R) ∧ Ok n R ∧ ∀ H', Same H H' → Q .non H'
theorem ok_need_set (T : Tx K mg) : Cl P w K mg base 1 "need_set" (spNeedSet K) := by
  refine T.d_need_set.cl sc_need_set (fun vs H Q E h => ?_) (fun f cdv A outer s H vs Q E hr h => ?_)
  · obtain ⟨n, v, R, num, rfl, _⟩ := h
    rfl
  obtain ⟨n, v, R, num, rfl, hD, hk, q⟩ := h
  obtain ⟨a, xs, rfl, hS, hA⟩ := dp_list hD
  have hxl : xs.length = R.length := by rw [dpAll_len hA, List.length_map]
  refine ⟨_, (pss_one (ps_for PassesOwn.never rfl (piEnum K (by rfl) T.z_enumerate (pa_cons (pv 1) pa_nil)) (pgT K (by rfl) (pgs_cons (pg_name (i := 3) sc_need_set.nd rfl (by first | exact Or.inl rfl | exact Or.inr rfl)) (pgs_cons (pgT K (by rfl) (pgs_cons (pg_name (i := 4) sc_need_set.nd rfl (by first | exact Or.inl rfl | exact Or.inr rfl)) (pgs_cons (pg_name (i := 5) sc_need_set.nd rfl (by first | exact Or.inl rfl | exact Or.inr rfl)) pgs_nil))) pgs_nil)))
      (pss_one (ps_if (PW.pt (pw_or (pt_cmpR op_ge (pv 3) (pe_gI (by rfl) T.c_MOST_RANGES) (nomark _)) (pw_or1 (pt_not (pt_chain3 op_le op_le op_lt pe_int (pv 4) (pv 5) (pv 0)))))) (pss_one ps_never) pss_nil)))), ?_⟩
  refine ⟨_, rfl, a, xs, rfl, hS, for_enum (xs := xs) (fun i σ H1 => ∃ y3 y4 y5, σ = [some (.int n), some (.ref a), some (.int num), y3, y4, y5] ∧ Same H H1) ⟨none, none, none, rfl, Same.refl _⟩ (fun i σ H1 _ p => ?_) (fun i x t σ H1 hx nt p => ?_) (fun σ H1 p => ?_)⟩
  · obtain ⟨_, _, _, _, sm⟩ := p
    exact sm.seq hS
  · obtain ⟨y3, y4, y5, rfl, sm⟩ := p
    obtain ⟨d, hd, hx'⟩ := dpAll_get hA hx
    obtain ⟨r, hr', rfl⟩ := get_map hd
    obtain ⟨u, rfl, hT⟩ := dp_pair hx'
    have s2 : Same H (upd H1 t (.tup [.int (i : Nat), .ref u])) := sm.trans (same_new nt)
    have hm : r ∈ R := List.mem_of_getElem? hr'
    obtain ⟨k1, k2, k3⟩ := hk.2 r hm
    have hi : i < R.length := (List.getElem?_eq_some_iff.mp hr').1
    have h40 := hk.1
    refine ⟨t, _, rfl, SqT.of upd_same, rfl, _, _, rfl, _, _, rfl, u, _, rfl, same_tup s2 hT, rfl, _, _, rfl, _, _, rfl, rfl, rfl, ?_⟩
    refine ⟨_, rfl, _, _, rfl, rfl, false, bF (by omega), iteF ⟨_, rfl, _, _, rfl, rfl, true, bT k1, iteT ⟨_, rfl, _, _, rfl, rfl, true, bT k2, iteT ⟨_, rfl, _, _, rfl, rfl, true, bT k3, iteF ?_⟩⟩⟩⟩
    exact ⟨_, _, _, rfl, s2⟩
  · obtain ⟨y3, y4, y5, rfl, sm⟩ := p
    exact q H1 sm
def spHas (K : PySem.W.Frag) : Sp := fun vs H Q _ => ∃ (v : V) (R : List (Int × Int)) (n : Int), vs = [v, .int n] ∧ Dp K H v (eR R) ∧ R.length ≤ 1000 ∧ ∀ H', Same H H' → Q (.bl (has R n)) H'
theorem ok_has (T : Tx K mg) : Cl P w K mg base 1 "has" (spHas K) := by
  refine T.d_has.cl sc_has (fun vs H Q E h => ?_) (fun f cdv A outer s H vs Q E hr h => ?_)
  · obtain ⟨v, R, n, rfl, _⟩ := h
    rfl
  obtain ⟨v, R, n, rfl, hD, hl, q⟩ := h
  obtain ⟨a, xs, rfl, hS, hA⟩ := dp_list hD
  have hxl : xs.length = R.length := by rw [dpAll_len hA, List.length_map]
  refine ⟨_, (pss_one (ps_ret (pe_cmpR (neD K hr.units) (pe_lc (own := [("pair", 2)]) (g := (gName 2)) (tt := _) (by rfl) sc_has.nd (piL K (pv 0)) (blkOk_by (own := [("pair", 2)]) (N := n_has) (sc := defScope s_has) (by decide +kernel)) (fun _ _ _ _ _ => (pg_name (i := 2) sc_has.nd rfl (by first | exact Or.inl rfl | exact Or.inr rfl))) (fun _ _ _ _ _ => (pts_one (pt_chain op_le op_le (pe_ix (ixT K) (pv 2) pe_int (fun _ _ => rfl)) (pv 1) (pe_ix (ixT K) (pv 2) pe_int (fun _ _ => rfl))))) (fun _ _ _ _ _ => (pv 2))) (pe_lst pa_nil) (nomark _)))), ?_⟩
  refine ⟨_, rfl, a, rfl, ⟨_, hS⟩, fun D hDn => lcO_list (K := K) (xs := xs) (ds := R.map eP) (inR n) hS hA hDn (by omega) (fun i x d H1 N1 N0 hd hx sm k1 k0 => ?_) (fun H1 ys sm hy ha => ?_)⟩
  · obtain ⟨r, hr', rfl⟩ := get_map hd
    obtain ⟨t, rfl, hT⟩ := dp_pair hx
    have hT1 := same_tup sm hT
    refine ⟨rfl, _, rfl, t, _, _, _, rfl, rfl, hT1, rfl, _, rfl, _, _, rfl, rfl, _, rfl, ite2 (fun c => ?_) (fun c => ?_)⟩
    · have c1 : r.1 ≤ n := of_decide_eq_true c
      refine ⟨_, rfl, t, _, _, _, rfl, rfl, hT1, rfl, _, _, rfl, rfl, _, rfl, ite2 (fun e => ?_) (fun e => ?_)⟩
      · have e1 : n ≤ r.2 := of_decide_eq_true e
        exact ⟨_, rfl, k1 H1 (Same.refl _) (by rw [inR_eP, decide_eq_true c1, decide_eq_true e1]; rfl)⟩
      · have e1 : ¬ n ≤ r.2 := fun z => e (decide_eq_true z)
        exact k0 H1 (Same.refl _) (by rw [inR_eP, decide_eq_false e1, Bool.and_false])
    · have c1 : ¬ r.1 ≤ n := fun z => c (decide_eq_true z)
      exact ⟨_, rfl, iteF (k0 H1 (Same.refl _) (by rw [inR_eP, decide_eq_false c1, Bool.false_and]))⟩
  · refine ⟨Nat.zero_le _, fun p hp => ⟨_, _, .lst (SqL.of (same_new hp _ _ hy)) (same_dpAll (sm.trans (same_new hp)) ha), .lst (SqL.of upd_same) .nil, (sh_filter (n := 0)).shaped, (sh_nil (n := 0)).shaped, ?_⟩⟩
    have e : (!PyData.eqv (.list ((R.map eP).filter (inR n))) (.list [])) = has R n := by
      rw [eqv_nil, any_filter, List.any_map]
      rfl
    rw [e]
    exact q _ (sm.trans (same_new hp))
def spAllIn (K : PySem.W.Frag) : Sp := fun vs H Q _ => ∃ (n : Nat) (v : V) (R : List (Int × Int)), vs = [.int n, v] ∧ Dp K H v (eR R) ∧ R.length ≤ 1000 ∧ n ≤ 1000 ∧ ∀ H' p, Same H H' → NewV H H' p (eI (allIn n R)) → Q p H'
theorem ok_all_in (T : Tx K mg) : Cl P w K mg base 2 "all_in" (spAllIn K) := by
  refine T.d_all_in.cl sc_all_in (fun vs H Q E h => ?_) (fun f cdv A outer s H vs Q E hr h => ?_)
  · obtain ⟨n, v, R, rfl, _⟩ := h
    rfl
  obtain ⟨n, v, R, rfl, hD, hl, hn, q⟩ := h
  refine ⟨_, (pss_one (ps_ret (pe_lc (own := [("number", 2)]) (g := (gName 2)) (tt := _) (by rfl) sc_all_in.nd (pi_range1 (by rfl) T.z_range (pa_cons (pv 0) pa_nil)) (blkOk_by (own := [("number", 2)]) (N := n_all_in) (sc := defScope s_all_in) (by decide +kernel)) (fun _ _ _ _ _ => (pg_name (i := 2) sc_all_in.nd rfl (by first | exact Or.inl rfl | exact Or.inr rfl))) (fun _ _ _ _ _ => (pts_one (pt_val (pe_k (ok_has T) hr (pa_cons (pv 1) (pa_cons (pv 2) pa_nil)))))) (fun _ _ _ _ _ => (pv 2))))), ?_⟩
  refine ⟨_, rfl, (n : Int), rfl, by omega, by omega, fun D hDn => lcN_range0 (fun i => if has R (i : Int) = true then some (.int (i : Int)) else none) hDn (by omega) (fun i H1 N1 N0 hi sm k1 k0 => ?_) (fun H1 sm lb => ?_)⟩
  · refine ⟨rfl, _, rfl, _, rfl, v, R, i, rfl, same_dp sm hD, hl, fun H2 s2 => ⟨_, rfl, ?_⟩⟩
    cases e : has R (i : Int) with
    | true => exact iteT ⟨_, rfl, k1 _ H2 _ s2 (by rw [e]; rfl) (.int _)⟩
    | false => exact iteF (k0 H2 s2 (by rw [e]; rfl))
  · rw [range_ints] at lb
    exact q H1 _ sm lb.newV
end
section
variable {P : Program} {w : World} {K : PySem.W.Frag} {mg : Str → Option Value} {base : Heap}
def spTold (K : PySem.W.Frag) : Sp := fun vs H Q _ => ∃ (v : V) (ns : List Int), vs = [v] ∧ Dp K H v (eI ns) ∧ ns.length ≤ 1000 ∧ ∀ H' p, Same H H' → NewV H H' p (eR (told ns)) → Q p H'
theorem ok_told (T : Tx K mg) : Cl P w K mg base 1 "told" (spTold K) := by
  refine T.d_told.cl sc_told (fun vs H Q E h => ?_) (fun f cdv A outer s H vs Q E hr h => ?_)
  · obtain ⟨v, ns, rfl, _⟩ := h
    rfl
  obtain ⟨v, ns, rfl, hD, hl, q⟩ := h
  obtain ⟨a, xs, rfl, hS, hA⟩ := dp_list hD
  obtain rfl := dpAll_ints hA
  refine ⟨_, (pss_cons (ps_set (i := 1) sc_told.nd rfl (by first | exact Or.inl rfl | exact Or.inr rfl) (pe_lst pa_nil))
      (pss_cons (ps_for PassesOwn.never rfl (piL K (pv 0)) (pg_name (i := 2) sc_told.nd rfl (by first | exact Or.inl rfl | exact Or.inr rfl))
      (pss_one (ps_if (PW.pt (pw_and (pt_cmpR (neD K hr.units) (pv 1) (pe_lst pa_nil) (nomark _)) (pw_and1 (pt_cmpR op_eq (pe_ix (ixT K) (pe_ix (ixL K) (pv 1) (pe_un un_neg pe_int) (fun _ _ => rfl)) pe_int (fun _ _ => rfl)) (pe_op op_sub (pv 2) pe_int) (nomark _))))) (pss_one (ps_asg (pe_tup (pa_cons (pe_ix (ixT K) (pe_ix (ixL K) (pv 1) (pe_un un_neg pe_int) (fun _ _ => rfl)) pe_int (fun _ _ => rfl)) (pa_cons (pv 2) pa_nil))) (pg_sub (pv 1) (pe_un un_neg pe_int) set_list))) (pss_one (ps_expr (pe_bm PySem.F.plainAttrs_list PySem.F.slot_list_append PySem.F.type_list_append mt_append (pv 1) (pa_cons (pe_tup (pa_cons (pv 2) (pa_cons (pv 2) pa_nil))) pa_nil)))))))
      (pss_one (ps_ret (pv 1))))), ?_⟩
  refine ⟨Nat.zero_le _, fun o no => ?_⟩
  refine ⟨_, rfl, a, rfl, ⟨_, (same_new no).seq hS⟩, for_list (xs := ns.map V.int) (fun i σ H1 => ∃ y2, σ = [some (.ref a), some (.ref o), y2] ∧ Same H H1 ∧ LB H H1 o ((told (ns.take i)).map eP)) ⟨none, rfl, same_new no, LB.nil no⟩ (fun i σ H1 _ p => ?_) (fun i x σ H1 hx p => ?_) (fun σ H1 p => ?_)⟩
  · obtain ⟨_, _, sm, _⟩ := p
    exact sm.seq hS
  · obtain ⟨y2, rfl, sm, lb⟩ := p
    obtain ⟨n, hn, rfl⟩ : ∃ n, ns[i]? = some n ∧ x = .int n := by
      rw [List.getElem?_map] at hx
      cases e : ns[i]? with
      | none => rw [e] at hx; cases hx
      | some n => rw [e] at hx; exact ⟨n, rfl, (Option.some.inj hx).symm⟩
    have hi : i < ns.length := (List.getElem?_eq_some_iff.mp hn).1
    have et : told (ns.take (i + 1)) = toldStep (told (ns.take i)) n := by
      rw [List.take_add_one, hn]
      exact told_snoc _ _
    have hlen : (told (ns.take i)).length ≤ i := Nat.le_trans (told_len _) (by rw [List.length_take]; exact Nat.min_le_left _ _)
    rw [et]
    obtain ⟨xs, ho, hxl⟩ := lb.at
    rw [List.length_map] at hxl
    have app : ∀ H2, Same H1 H2 → toldStep (told (ns.take i)) n = told (ns.take i) ++ [(n, n)] →
        ∀ D : Ends, (∀ σ' H', (∃ y2, σ' = [some (V.ref a), some (.ref o), y2] ∧ Same H H' ∧ LB H H' o ((toldStep (told (ns.take i)) n).map eP)) → D.nx σ' H') →
        (∃ v, [some (V.ref a), some (V.ref o), some (V.int n)][1]? = some (some v) ∧ tyV K "list" v H2 ∧ ∃ v1, [some (V.ref a), some (V.ref o), some (V.int n)][2]? = some (some v1) ∧ ∃ v2, [some (V.ref a), some (V.ref o), some (V.int n)][2]? = some (some v2) ∧ ([v1, v2] : List V).length ≤ sizeLine ∧ ∀ p, H2 p = none → rAppend v [.ref p] (upd H2 p (.tup [v1, v2])) fun _ H' => D.nx [some (.ref a), some (.ref o), some (.int n)] H') := fun H2 s2 e D k => by
      refine ⟨_, rfl, .inl ⟨rfl, _, SqL.of (s2 _ _ ho)⟩, _, rfl, _, rfl, by show 2 ≤ sizeLine; decide, fun p np => ?_⟩
      have s3 : Same H1 (upd H2 p (.tup [.int n, .int n])) := s2.trans (same_new np)
      obtain ⟨ys, h1, h2, h3⟩ := lb.snoc sm s3 ((new_pair np).mono s2 (Same.refl _))
      refine ⟨o, ys, _, rfl, rfl, h1, sizeOk (by rw [h2, List.length_map]; omega), k _ _ ⟨_, rfl, same_upd (sm.trans s3) lb.1, ?_⟩⟩
      rw [e, List.map_append]
      exact h3
    refine ⟨_, rfl, Nat.zero_le _, fun p np => ⟨.list ((told (ns.take i)).map eP), .list [], (lb.same (same_new np)).newV.dp, .lst (SqL.of upd_same) .nil, (Sh.eR (n := 0) _).shaped, (sh_nil (n := 0)).shaped, _, rfl, ?_⟩⟩
    rw [eqv_nil]
    have s1 : Same H1 (upd H1 p (.lst [])) := same_new np
    rcases List.eq_nil_or_concat (told (ns.take i)) with e | ⟨ini, r, e⟩
    · have e2 : toldStep (told (ns.take i)) n = told (ns.take i) ++ [(n, n)] := by rw [e]; rfl
      refine itF (by rw [e]; simp) (iteF ?_)
      exact app _ s1 e2 _ fun σ' H' h => h
    · rw [List.concat_eq_append] at e
      refine itT (by rw [e]; simp) ?_
      rw [e, List.map_append] at lb
      obtain ⟨xi, x, hoo, hd⟩ := lb.last
      obtain ⟨t, rfl, hT⟩ := dp_pair (K := K) (r := r) (NewV.dp hd)
      refine ⟨_, rfl, 1, rfl, o, _, -1, _, rfl, rfl, SqL.of (s1 _ _ hoo), atI_last _ _, t, _, 1, _, rfl, rfl, same_tup s1 hT, rfl, _, rfl, _, _, rfl, rfl, rfl, _, rfl, ite2 (fun c => ?_) (fun c => ?_)⟩
      · have c1 : r.2 = n - 1 := V.int.inj (of_decide_eq_true c)
        have e2 : toldStep (told (ns.take i)) n = ini ++ [(r.1, n)] := by
          unfold toldStep
          rw [e]
          simp [c1]
        refine ⟨_, rfl, 1, rfl, o, _, -1, _, rfl, rfl, SqL.of (s1 _ _ hoo), atI_last _ _, t, _, 0, _, rfl, rfl, same_tup s1 hT, rfl, _, rfl, by show 2 ≤ sizeLine; decide, fun p2 np2 => ?_⟩
        have s2 := s1.trans (same_new (o := .tup [.int r.1, .int n]) np2)
        refine ⟨_, rfl, 1, rfl, o, _, -1, _, rfl, rfl, s2 _ _ hoo, (by rw [len_snoc]; exact ixN_last _), ?_⟩
        rw [set_last, e2, List.map_append]
        exact ⟨_, rfl, same_upd (sm.trans s2) lb.1, lb.setLast hoo sm s2 ((new_pair np2).mono s1 (Same.refl _))⟩
      · have c1 : ¬ r.2 = n - 1 := fun z => c (decide_eq_true (congrArg V.int z))
        have e2 : toldStep (told (ns.take i)) n = told (ns.take i) ++ [(n, n)] := by
          unfold toldStep
          rw [e]
          simp [c1]
        exact app _ s1 e2 _ fun σ' H' h => h
  · obtain ⟨y2, rfl, sm, lb⟩ := p
    rw [List.length_map, List.take_length] at lb
    exact ⟨_, rfl, q H1 _ sm lb.newV⟩
def spOthers (K : PySem.W.Frag) : Sp := fun vs H Q _ => ∃ (n : Nat) (v : V) (R : List (Int × Int)), vs = [.int n, v] ∧ 1 ≤ n ∧ n ≤ 64 ∧ Dp K H v (eR R) ∧ Ok n R ∧ ∀ H' p, Same H H' → NewV H H' p (eR (TR n fun k => !has R k)) → Q p H'
theorem ok_others (T : Tx K mg) : Cl P w K mg base 3 "others" (spOthers K) := by
  refine T.d_others.cl sc_others (fun vs H Q E h => ?_) (fun f cdv A outer s H vs Q E hr h => ?_)
  · obtain ⟨n, v, R, rfl, _⟩ := h
    rfl
  obtain ⟨n, v, R, rfl, h1, h2, hD, hk, q⟩ := h
  have l1 : R.length ≤ 1000 := Nat.le_trans hk.1 (by decide)
  refine ⟨_, (pss_cons (ps_expr (pe_k (ok_need_size T) hr (pa_cons (pv 0) pa_nil)))
      (pss_cons (ps_expr (pe_k (ok_need_set T) hr (pa_cons (pv 0) (pa_cons (pv 1) (pa_cons pe_int pa_nil)))))
      (pss_one (ps_ret (pe_k (ok_told T) hr (pa_cons (pe_lc (own := [("number", 2)]) (g := (gName 2)) (tt := _) (by rfl) sc_others.nd (pi_range1 (by rfl) T.z_range (pa_cons (pv 0) pa_nil)) (blkOk_by (own := [("number", 2)]) (N := n_others) (sc := defScope s_others) (by decide +kernel)) (fun _ _ _ _ _ => (pg_name (i := 2) sc_others.nd rfl (by first | exact Or.inl rfl | exact Or.inr rfl))) (fun _ _ _ _ _ => (pts_one (pt_not (pt_val (pe_k (ok_has T) hr (pa_cons (pv 1) (pa_cons (pv 2) pa_nil))))))) (fun _ _ _ _ _ => (pv 2))) pa_nil)))))), ?_⟩
  refine ⟨_, rfl, _, rfl, by omega, by omega, _, rfl, _, rfl, n, v, R, 0, rfl, hD, hk, fun H1 s1 => ?_⟩
  refine ⟨_, rfl, (n : Int), rfl, by omega, by omega, fun D hDn => lcN_range0 (fun i => if (!has R (i : Int)) = true then some (.int (i : Int)) else none) hDn (by omega) (fun i H2 N1 N0 hi s2 k1 k0 => ?_) (fun H2 s2 lb => ?_)⟩
  · refine ⟨rfl, _, rfl, _, rfl, v, R, i, rfl, same_dp (s1.trans s2) hD, l1, fun H3 s3 => ⟨_, rfl, ?_⟩⟩
    cases e : has R (i : Int) with
    | true => exact iteF (k0 H3 s3 (by rw [e]; rfl))
    | false => exact iteT ⟨_, rfl, k1 _ H3 _ s3 (by rw [e]; rfl) (.int _)⟩
  · rw [range_ints (p := fun k => !has R k)] at lb
    refine ⟨_, _, rfl, lb.newV.dp, Nat.le_trans (allIn_len n _) (by omega), fun H3 p s3 nv => ?_⟩
    exact q H3 p (s1.trans (s2.trans s3)) (nv.mono (s1.trans s2) (Same.refl _))
end
section
variable {P : Program} {w : World} {K : PySem.W.Frag} {mg : Str → Option Value} {base : Heap}
def spItems (K : PySem.W.Frag) : Sp := fun vs H Q _ => ∃ (v : V) (R : List (Int × Int)), vs = [v] ∧ Dp K H v (eR R) ∧ R.length ≤ 64 ∧ (∀ r ∈ R, 0 ≤ r.1 ∧ r.1 ≤ r.2 ∧ r.2 < 64) ∧ ∀ H' p, Same H H' → NewV H H' p (eT ((itemsOf R).map itemS)) → Q p H'
theorem small_log {i : Int} (h0 : 0 ≤ i) (h1 : i < 100) : i.natAbs.log2 < 1920 := by
  have : i.natAbs < 128 := by omega
  by_cases h : i.natAbs = 0
  · rw [h]
    decide
  · exact Nat.lt_trans ((Nat.log2_lt h).mpr (show i.natAbs < 2 ^ 7 from this)) (by decide)
theorem ok_items_of (T : Tx K mg) : Cl P w K mg base 1 "items_of" (spItems K) := by
  refine T.d_items_of.cl sc_items_of (fun vs H Q E h => ?_) (fun f cdv A outer s H vs Q E hr h => ?_)
  · obtain ⟨v, R, rfl, _⟩ := h
    rfl
  obtain ⟨v, R, rfl, hD, hl, hk, q⟩ := h
  obtain ⟨a, xs, rfl, hS, hA⟩ := dp_list hD
  have hxl : xs.length = R.length := by rw [dpAll_len hA, List.length_map]
  refine ⟨_, (pss_cons (ps_set (i := 1) sc_items_of.nd rfl (by first | exact Or.inl rfl | exact Or.inr rfl) (pe_lst pa_nil))
      (pss_cons (ps_for PassesOwn.never rfl (piL K (pv 0)) (pgT K (by rfl) (pgs_cons (pg_name (i := 2) sc_items_of.nd rfl (by first | exact Or.inl rfl | exact Or.inr rfl)) (pgs_cons (pg_name (i := 3) sc_items_of.nd rfl (by first | exact Or.inl rfl | exact Or.inr rfl)) pgs_nil)))
      (pss_one (ps_if (pt_cmpR op_lt (pe_op op_sub (pv 3) (pv 2)) pe_int (nomark _)) (pss_one (ps_expr (pe_bm PySem.F.plainAttrs_list PySem.F.slot_list_extend PySem.F.type_list_extend mt_extend (pv 1) (pa_cons (pe_lc (own := [("number", 4)]) (g := (gName 4)) (tt := tYes) (by rfl) sc_items_of.nd (pi_range2 (by rfl) T.z_range (pa_cons (pv 2) (pa_cons (pe_op op_add (pv 3) pe_int) pa_nil))) (blkOk_by (own := [("number", 4)]) (N := n_items_of) (sc := defScope s_items_of) (by decide +kernel)) (fun _ _ _ _ _ => (pg_name (i := 4) sc_items_of.nd rfl (by first | exact Or.inl rfl | exact Or.inr rfl))) (fun _ _ _ _ _ => pts_nil) (fun _ _ _ _ _ => (pe_callTy call_str_int (by rfl) T.z_str (by decide +kernel) (pa_cons (pv 4) pa_nil)))) pa_nil)))) (pss_one (ps_expr (pe_bm PySem.F.plainAttrs_list PySem.F.slot_list_append PySem.F.type_list_append mt_append (pv 1) (pa_cons (pe_op op_add_str (pe_op op_add_str (pe_callTy call_str_int (by rfl) T.z_str (by decide +kernel) (pa_cons (pv 2) pa_nil)) pe_str) (pe_callTy call_str_int (by rfl) T.z_str (by decide +kernel) (pa_cons (pv 3) pa_nil))) pa_nil)))))))
      (pss_one (ps_ret (pv 1))))), ?_⟩
  refine ⟨Nat.zero_le _, fun o no => ?_⟩
  refine ⟨_, rfl, a, rfl, ⟨_, (same_new no).seq hS⟩, for_list (xs := xs) (fun i σ H1 => ∃ y2 y3 : Option V, σ = [some (.ref a), some (.ref o), y2, y3, none] ∧ Same H H1 ∧ H1 o = some (.lst (((itemsOf (R.take i)).map itemS).map V.str)) ∧ (itemsOf (R.take i)).length ≤ 2 * i) ⟨none, none, rfl, same_new no, upd_same, Nat.le_refl _⟩ (fun i σ H1 _ p => ?_) (fun i x σ H1 hx p => ?_) (fun σ H1 p => ?_)⟩
  · obtain ⟨_, _, _, sm, _⟩ := p
    exact sm.seq hS
  · obtain ⟨y2, y3, rfl, sm, ho, hil⟩ := p
    obtain ⟨d, hd, hx'⟩ := dpAll_get hA hx
    obtain ⟨r, hr', rfl⟩ := get_map hd
    obtain ⟨t, rfl, hT⟩ := dp_pair hx'
    obtain ⟨k1, k2, k3⟩ := hk r (List.mem_of_getElem? hr')
    have hi : i < R.length := (List.getElem?_eq_some_iff.mp hr').1
    have et : itemsOf (R.take (i + 1)) = itemsOf (R.take i) ++ itemsR r := by
      rw [List.take_add_one, hr']
      unfold itemsOf
      rw [List.flatMap_append]
      simp
    refine ⟨t, _, rfl, same_tup sm hT, rfl, _, _, rfl, _, _, rfl, rfl, ?_⟩
    refine ⟨_, rfl, _, rfl, _, _, rfl, rfl, _, _, rfl, rfl, _, rfl, ite2 (fun c => ?_) (fun c => ?_)⟩
    · have c1 : r.2 - r.1 < 2 := of_decide_eq_true c
      refine ⟨_, rfl, .inl ⟨rfl, _, SqL.of ho⟩, _, rfl, _, rfl, _, _, rfl, rfl, _, _, rfl, ⟨by omega, by omega, by omega, by omega⟩, fun D nD => ?_⟩
      refine lcN_range (lo := r.1) (n := (r.2 + 1 - r.1).toNat) (fun j => some (.str (itemS (r.1 + (j : Int), r.1 + (j : Int))))) nD (by omega) (fun j G N1 N0 hj s2 c1 c0 => ?_) (fun H2 s2 lb => ?_)
      · refine ⟨rfl, yesT ⟨_, rfl, _, rfl, small_log (by omega) (by omega), ?_⟩⟩
        rw [nL_str (by omega)]
        refine c1 _ G _ (Same.refl _) rfl ?_
        unfold itemS itemL
        rw [if_pos rfl]
        exact .str _
      · have el : (List.range (r.2 + 1 - r.1).toNat).filterMap (fun (j : Nat) => some (PyData.str (itemS (r.1 + (j : Int), r.1 + (j : Int))))) = ((itemsR r).map itemS).map PyData.str := by
          unfold itemsR
          rw [if_pos c1, List.filterMap_eq_map', List.map_map, List.map_map]
          rfl
        rw [el] at lb
        have hrl : (itemsR r).length ≤ 2 := by
          have := itemsR_len k2
          omega
        refine ⟨o, D, _, _, rfl, rfl, s2 _ _ ho, lb.strs, Nat.le_of_lt (sizeOk (by simp only [List.length_map]; omega)), _, _, rfl, same_upd (sm.trans s2) no, ?_, ?_⟩
        · rw [upd_same, et, List.map_append, List.map_append]
        · rw [et, List.length_append]
          omega
    · have c1 : ¬ r.2 - r.1 < 2 := fun z => c (decide_eq_true z)
      have er : itemsR r = [r] := by
        unfold itemsR
        rw [if_neg c1]
      refine ⟨_, rfl, .inl ⟨rfl, _, SqL.of ho⟩, _, rfl, _, rfl, small_log k1 (by omega), ?_⟩
      rw [nL_str k1]
      have l1 := nL_len (k := r.1) (by omega)
      have l2 := nL_len (k := r.2) (by omega)
      refine ⟨_, _, rfl, rfl, ?_, ?_⟩
      · rw [SX.S_len, show (Str.ofString "-").length = 1 by decide +kernel]
        exact Nat.le_of_lt (sizeOk (by omega))
      refine ⟨_, rfl, _, rfl, small_log (by omega) (by omega), ?_⟩
      rw [nL_str (by omega), show Str.ofString "-" = SX.S [45] by decide +kernel, SX.S_cat]
      refine ⟨_, _, rfl, rfl, ?_, ?_⟩
      · rw [SX.S_len, SX.S_len, List.length_append]
        exact Nat.le_of_lt (sizeOk (by simp; omega))
      rw [SX.S_cat]
      refine ⟨o, _, _, rfl, rfl, ho, sizeOk (by rw [List.length_map, List.length_map]; omega), _, _, rfl, same_upd sm no, ?_, ?_⟩
      · rw [upd_same, et, er, List.map_append, List.map_append]
        have ei : itemS r = SX.S (nL r.1 ++ [45] ++ nL r.2) := by
          unfold itemS itemL
          rw [if_neg (by omega), List.append_assoc]
          rfl
        rw [← ei]
        rfl
      · rw [et, er, List.length_append]
        simp
        omega
  · obtain ⟨y2, y3, rfl, sm, ho, hil⟩ := p
    rw [hxl, List.take_length] at ho
    refine ⟨_, rfl, q H1 _ sm (.lst (xs := _) ?_ (dnAll_strs _))⟩
    rw [fr_new no]
    exact ho
def spWritten (K : PySem.W.Frag) : Sp := fun vs H Q _ => ∃ (n : Nat) (v : V) (R : List (Int × Int)), vs = [.int n, v] ∧ 1 ≤ n ∧ n ≤ 64 ∧ Dp K H v (eR R) ∧ Ok n R ∧ ∀ H', Same H H' → Q (.str (wText n R)) H'
theorem join_items (I : List (Int × Int)) : Txt.join (Str.ofString ",") (I.map itemS) = SX.S (textL I) := by
  have e : I.map itemS = (I.map itemL).map SX.S := by rw [List.map_map]; rfl
  rw [e, show Str.ofString "," = SX.S [44] by decide +kernel, SX.join_S]
  rfl
theorem join_size {I : List (Int × Int)} (h : ∀ r ∈ I, r.1 < 100 ∧ r.2 < 100) (hl : I.length ≤ 1000) : ((I.map itemS).map (·.length)).sum + (I.map itemS).length * (Str.ofString ",").length ≤ 16777216 := by
  have : ∀ J : List (Int × Int), (∀ r ∈ J, r.1 < 100 ∧ r.2 < 100) → ((J.map itemS).map (·.length)).sum ≤ 5 * J.length := by
    intro J
    induction J with
    | nil => intro _; exact Nat.le_refl _
    | cons r J ih =>
      intro hJ
      have := ih fun q hq => hJ q (List.mem_cons_of_mem _ hq)
      have h1 := (itemL_len (hJ r (by simp)).1 (hJ r (by simp)).2).2
      rw [List.map_cons, List.map_cons, List.sum_cons]
      have e : (itemS r).length = (itemL r).length := SX.S_len _
      rw [e, List.length_cons]
      omega
  have h1 := this I h
  rw [List.length_map, show (Str.ofString ",").length = 1 by decide +kernel]
  omega
theorem text_len {I : List (Int × Int)} (h : ∀ r ∈ I, r.1 < 100 ∧ r.2 < 100) (hl : I.length ≤ 1000) : (textL I).length ≤ 6000 := by
  rw [textL_len]
  have : ∀ J : List (Int × Int), (∀ r ∈ J, r.1 < 100 ∧ r.2 < 100) → lenI J ≤ 6 * J.length := by
    intro J
    induction J with
    | nil => intro _; exact Nat.le_refl _
    | cons r J ih =>
      intro hJ
      have := ih fun q hq => hJ q (List.mem_cons_of_mem _ hq)
      have h1 := (itemL_len (hJ r (by simp)).1 (hJ r (by simp)).2).2
      unfold lenI at this ⊢
      rw [List.map_cons, List.sum_cons, List.length_cons]
      omega
  have h1 := this I h
  omega
theorem ok_written (T : Tx K mg) : Cl P w K mg base 4 "written" (spWritten K) := by
  refine T.d_written.cl sc_written (fun vs H Q E h => ?_) (fun f cdv A outer s H vs Q E hr h => ?_)
  · obtain ⟨n, v, R, rfl, _⟩ := h
    rfl
  obtain ⟨n, v, R, rfl, h1, h2, hD, hk, q⟩ := h
  have hin : ∀ (p : Int → Bool), ∀ r ∈ TR n p, 0 ≤ r.1 ∧ r.1 ≤ r.2 ∧ r.2 < 64 := fun p r hr => by
    have := TR_in r hr
    omega
  have hit : ∀ (p : Int → Bool), ∀ r ∈ itemsOf (TR n p), r.1 < 100 ∧ r.2 < 100 := fun p r hr => by
    have := (TR_items n p).1 r hr
    omega
  have hil : ∀ (p : Int → Bool), (itemsOf (TR n p)).length ≤ 1000 := fun p => Nat.le_trans (okI_len (TR_items n p)) (by omega)
  have hTl : ∀ (p : Int → Bool), (TR n p).length ≤ 64 := fun p => Nat.le_trans (TR_ok h2 p).1 (by decide)
  refine ⟨_, (pss_cons (ps_expr (pe_k (ok_need_size T) hr (pa_cons (pv 0) pa_nil)))
      (pss_cons (ps_expr (pe_k (ok_need_set T) hr (pa_cons (pv 0) (pa_cons (pv 1) (pa_cons pe_int pa_nil)))))
      (pss_cons (ps_set (i := 2) sc_written.nd rfl (by first | exact Or.inl rfl | exact Or.inr rfl) (pe_join pe_str (pe_k (ok_items_of T) hr (pa_cons (pe_k (ok_told T) hr (pa_cons (pe_k (ok_all_in T) hr (pa_cons (pv 0) (pa_cons (pv 1) pa_nil))) pa_nil)) pa_nil))))
      (pss_cons (ps_set (i := 3) sc_written.nd rfl (by first | exact Or.inl rfl | exact Or.inr rfl) (pe_op op_add_str (pe_gS (by rfl) T.c_NOT) (pe_join pe_str (pe_k (ok_items_of T) hr (pa_cons (pe_k (ok_others T) hr (pa_cons (pv 0) (pa_cons (pv 1) pa_nil))) pa_nil)))))
      (pss_one (ps_ret (pe_ifExp (pt_cmpR (leDK K (hu65 hr)) (pe_tup (pa_cons (pe_callB call_len_str (by rfl) T.z_len (by decide +kernel) (pa_cons (pv 2) pa_nil)) (pa_cons (pv 2) pa_nil))) (pe_tup (pa_cons (pe_callB call_len_str (by rfl) T.z_len (by decide +kernel) (pa_cons (pv 3) pa_nil)) (pa_cons (pv 3) pa_nil))) (nomark _)) (pv 2) (pv 3)))))))), ?_⟩
  refine ⟨_, rfl, (n : Int), rfl, by omega, by omega, _, rfl, _, rfl, n, v, R, 0, rfl, hD, hk, fun H1 s1 => ?_⟩
  refine ⟨⟨_, rfl⟩, _, rfl, _, rfl, n, v, R, rfl, same_dp s1 hD, Nat.le_trans hk.1 (by decide), by omega, fun H2 p2 s2 nv2 => ?_⟩
  refine ⟨p2, _, rfl, nv2.dp, Nat.le_trans (allIn_len n _) (by omega), fun H3 p3 s3 nv3 => ?_⟩
  refine ⟨p3, TR n (has R), rfl, nv3.dp, hTl _, hin _, fun H4 p4 s4 nv4 => ?_⟩
  obtain ⟨a4, x4, rfl, f4, h4, d4⟩ := newV_list nv4
  obtain rfl := dpAll_strs (K := K) (same_dpAll fr_same d4.dp)
  refine ⟨_, a4, _, rfl, rfl, .inl (SqL.of h4), join_size (hit _) (hil _), ?_⟩
  rw [join_items]
  have s14 := s1.trans (s2.trans (s3.trans s4))
  refine ⟨⟨_, rfl⟩, _, rfl, _, rfl, n, v, R, rfl, h1, h2, same_dp s14 hD, hk, fun H5 p5 s5 nv5 => ?_⟩
  refine ⟨p5, TR n fun k => !has R k, rfl, nv5.dp, hTl _, hin _, fun H6 p6 s6 nv6 => ?_⟩
  obtain ⟨a6, x6, rfl, f6, h6, d6⟩ := newV_list nv6
  obtain rfl := dpAll_strs (K := K) (same_dpAll fr_same d6.dp)
  refine ⟨_, a6, _, rfl, rfl, .inl (SqL.of h6), join_size (hit _) (hil _), ?_⟩
  rw [join_items]
  have l1 := text_len (hit (has R)) (hil _)
  have l2 := text_len (hit fun k => !has R k) (hil _)
  refine ⟨_, _, rfl, rfl, ?_, ?_⟩
  · rw [show (Str.ofString "^").length = 1 by decide +kernel, SX.S_len (textL _)]
    exact Nat.le_of_lt (sizeOk (by omega))
  have eo : Str.ofString "^" ++ SX.S (textL (itemsOf (TR n fun k => !has R k))) = SX.S (othL n R) := by
    rw [show Str.ofString "^" = SX.S [94] by decide +kernel, SX.S_cat]
    rfl
  rw [eo]
  have e1 : textL (itemsOf (TR n (has R))) = oneL n R := rfl
  rw [e1]
  have z1 : (SX.S (oneL n R)).length ≤ sizeLine := by
    rw [SX.S_len]
    exact Nat.le_of_lt (sizeOk (by unfold oneL; omega))
  have z2 : (SX.S (othL n R)).length ≤ sizeLine := by
    rw [SX.S_len]
    exact Nat.le_of_lt (sizeOk (by unfold othL; rw [List.length_cons]; omega))
  have s16 := s14.trans (s5.trans s6)
  refine ⟨_, rfl, _, rfl, z1, _, rfl, by show 2 ≤ sizeLine; decide, fun t1 nt1 => ?_⟩
  refine ⟨_, rfl, _, rfl, z2, _, rfl, by show 2 ≤ sizeLine; decide, fun t2 nt2 => ?_⟩
  have s7 := same_new (o := .tup [.int ((SX.S (oneL n R)).length : Int), .str (SX.S (oneL n R))]) nt1
  have s8 := same_new (o := .tup [.int ((SX.S (othL n R)).length : Int), .str (SX.S (othL n R))]) nt2
  refine ⟨eLS (SX.S (oneL n R)), eLS (SX.S (othL n R)), .tup (SqT.of (s8 _ _ upd_same)) (.cons (.int _) (.cons (.str _) .nil)), .tup (SqT.of upd_same) (.cons (.int _) (.cons (.str _) .nil)), by simp [eLS, PySem.W.alike, PySem.W.alikeAll], (fun z => by cases z), by simp [eLS, PyData.depth, PyData.depthAll], _, rfl, ?_⟩
  have fin := q _ (s16.trans (s7.trans s8))
  unfold wText at fin
  refine ite2 (fun c => ?_) (fun c => ?_)
  · rw [if_pos c] at fin
    exact ⟨_, rfl, fin⟩
  · rw [if_neg c] at fin
    exact ⟨_, rfl, fin⟩
end
section
variable {P : Program} {w : World} {K : PySem.W.Frag} {mg : Str → Option Value} {base : Heap}
def spDice (K : PySem.W.Frag) : Sp := fun vs H Q _ => ∃ (a : Addr) (ns : List Int) (k : Int), vs = [.ref a, .int k] ∧ SqL K H a (ns.map V.int) ∧ ns.length ≤ 63 ∧ 0 ≤ k ∧ ∀ H' p D, Same H H' → H p = none → H' p = some (.lst (D.map V.int)) → DiceOk D → Q (.ref p) H'
theorem ok__law_dice (T : Tx K mg) : Cl P w K mg base 1 "_law_dice" (spDice K) := by
  refine T.d__law_dice.cl sc__law_dice (fun vs H Q E h => ?_) (fun f cdv A outer s H vs Q E hr h => ?_)
  · obtain ⟨a, ns, k, rfl, _⟩ := h
    rfl
  obtain ⟨a, ns, k, rfl, hS, h63, h0, q⟩ := h
  refine ⟨_, (pss_cons (ps_set (i := 2) sc__law_dice.nd rfl (by first | exact Or.inl rfl | exact Or.inr rfl) (pv 1))
      (pss_cons (ps_for PassesOwn.never rfl (piL K (pv 0)) (pg_name (i := 3) sc__law_dice.nd rfl (by first | exact Or.inl rfl | exact Or.inr rfl))
      (pss_one (ps_set (i := 2) sc__law_dice.nd rfl (by first | exact Or.inl rfl | exact Or.inr rfl) (pe_op op_mod (pe_op op_add (pe_op op_mul (pv 2) pe_int) (pe_callB call_abs (by rfl) T.z_abs (by decide +kernel) (pa_cons (pv 3) pa_nil))) pe_int))))
      (pss_one (ps_ret (pe_op op_cat (pe_lst (pa_cons (pv 2) (pa_cons pe_int pa_nil))) (pe_lc (own := [("_law_cell", 3)]) (g := (gName 3)) (tt := _) (by rfl) sc__law_dice.nd (piL K (pv 0)) (blkOk_by (own := [("_law_cell", 3)]) (N := n__law_dice) (sc := defScope s__law_dice) (by decide +kernel)) (fun _ _ _ _ _ => (pg_name (i := 3) sc__law_dice.nd rfl (by first | exact Or.inl rfl | exact Or.inr rfl))) (fun _ _ _ _ _ => (pts_one (pt_cmpR op_ge (pv 3) (pe_op op_pow pe_int pe_int) (nomark _)))) (fun _ _ _ _ _ => (pv 3)))))))), ?_⟩
  refine ⟨_, rfl, _, rfl, a, rfl, ⟨_, hS⟩, for_list (xs := ns.map V.int) (fun i σ H1 => ∃ f y3, σ = [some (.ref a), some (.int k), some (.int f), y3] ∧ 0 ≤ f ∧ H1 = H) ⟨k, none, rfl, h0, rfl⟩ (fun i σ H1 _ p => ?_) (fun i x σ H1 hx p => ?_) (fun σ H1 p => ?_)⟩
  · obtain ⟨_, _, _, _, rfl⟩ := p
    exact hS
  · obtain ⟨g, y3, rfl, hg, rfl⟩ := p
    obtain ⟨c, hc, rfl⟩ := map_get hx
    refine ⟨_, rfl, _, _, rfl, rfl, .inr ⟨by decide, by decide⟩, _, rfl, _, rfl, _, _, rfl, rfl, _, _, rfl, rfl, (by show (0 : Int) < 2147483647; decide), ?_⟩
    exact ⟨_, _, rfl, Int.emod_nonneg _ (by decide), rfl⟩
  · obtain ⟨g, y3, rfl, hg, rfl⟩ := p
    refine ⟨_, rfl, by show 2 ≤ sizeLine; decide, fun p np => ?_⟩
    have s1 : Same H1 (upd H1 p (.lst [.int g, .int 0])) := same_new np
    refine ⟨_, rfl, a, rfl, ⟨_, s1.seq hS⟩, fun D hD => lcN_list (fun i => (ns[i]?).bind fun k => if decide ((10 : Int) ^ (18 : Int).toNat ≤ k) = true then some (.int k) else none) (s1.seq hS) hD (by rw [List.length_map]; omega) (fun i x H3 N1 N0 hx s3 k1 k0 => ?_) (fun H3 s3 lb => ?_)⟩
    · obtain ⟨c, hc, rfl⟩ := map_get hx
      refine ⟨rfl, _, rfl, _, _, rfl, rfl, ⟨by decide, by decide, by decide⟩, _, _, rfl, rfl, _, rfl, ite2 (fun e => ?_) (fun e => ?_)⟩
      · exact ⟨_, rfl, k1 _ H3 _ (Same.refl _) (by rw [hc, Option.bind_some, if_pos e]) (.int _)⟩
      · exact k0 H3 (Same.refl _) (by rw [hc, Option.bind_some, if_neg e])
    · rw [List.length_map, list_ints (p := fun k => decide ((10 : Int) ^ (18 : Int).toNat ≤ k))] at lb
      have hl := List.length_filter_le (fun k => decide ((10 : Int) ^ (18 : Int).toNat ≤ k)) ns
      refine ⟨p, D, _, _, rfl, rfl, s3 _ _ upd_same, lb.ints, ?_, fun r nr => ?_⟩
      · rw [List.length_map]
        exact Nat.le_of_lt (sizeOk (by simp only [List.length_cons, List.length_nil]; omega))
      · refine q _ r (g :: 0 :: ns.filter fun k => decide ((10 : Int) ^ (18 : Int).toNat ≤ k)) (s1.trans (s3.trans (same_new nr))) (s1.free (s3.free nr)) upd_same ⟨by simp, by rw [List.length_cons, List.length_cons]; omega, fun x hx => ?_⟩
        rcases List.mem_cons.mp hx with e | hx
        · rw [e]
          exact hg
        · rcases List.mem_cons.mp hx with e | hx
          · rw [e]
            exact Int.le_refl _
          · have := of_decide_eq_true (List.mem_filter.mp hx).2
            exact Int.le_trans (by decide) this
def spOff : Sp := fun vs H Q _ => ∃ (d : Addr) (m : Int) (D : List Int), vs = [.ref d, .int m] ∧ 0 < m ∧ m < 1073741824 ∧ H d = some (.lst (D.map V.int)) ∧ DiceOk D ∧ ∀ r D', 0 ≤ r → r < m → DiceOk D' → Q (.int r) (upd H d (.lst (D'.map V.int)))
theorem ok__law_off (T : Tx K mg) : Cl P w K mg base 1 "_law_off" spOff := by
  refine T.d__law_off.cl sc__law_off (fun vs H Q E h => ?_) (fun f cdv A outer s H vs Q E hr h => ?_)
  · obtain ⟨d, m, D, rfl, _⟩ := h
    rfl
  obtain ⟨d, m, D, rfl, hm, hm2, hH, hk, q⟩ := h
  refine ⟨_, (pss_cons (ps_if (PW.pt (pw_and (pt_cmpR op_eq (pe_ix (ixL K) (pv 0) pe_int (fun _ _ => rfl)) pe_int (nomark _)) (pw_and1 (pt_cmpR op_gt (pe_callB (lenQ K) (by rfl) T.z_len (by decide +kernel) (pa_cons (pv 0) pa_nil)) pe_int (nomark _))))) (pss_one (ps_asg (pe_bm PySem.F.plainAttrs_list PySem.F.slot_list_pop PySem.F.type_list_pop mt_popAt (pv 0) (pa_cons pe_int pa_nil)) (pg_sub (pv 0) pe_int set_list))) pss_nil)
      (pss_cons (ps_if (pt_cmpR op_gt (pe_ix (ixL K) (pv 0) pe_int (fun _ _ => rfl)) pe_int (nomark _)) (pss_cons (ps_set (i := 2) sc__law_off.nd rfl (by first | exact Or.inl rfl | exact Or.inr rfl) (pe_op op_mod (pe_ix (ixL K) (pv 0) pe_int (fun _ _ => rfl)) (pv 1)))
      (pss_cons (ps_asg (pe_op op_fdiv (pe_ix (ixL K) (pv 0) pe_int (fun _ _ => rfl)) (pv 1)) (pg_sub (pv 0) pe_int set_list))
      (pss_one (ps_ret (pv 2))))) pss_nil)
      (pss_cons (ps_asg (pe_op op_mod (pe_op op_add (pe_op op_mul (pe_ix (ixL K) (pv 0) pe_int (fun _ _ => rfl)) pe_int) pe_int) pe_int) (pg_sub (pv 0) pe_int set_list))
      (pss_one (ps_ret (pe_op op_mod (pe_op op_fdiv (pe_ix (ixL K) (pv 0) pe_int (fun _ _ => rfl)) pe_int) (pv 1))))))), ?_⟩
  refine seq_join (fun σ' H' => ∃ x0 x1 r, σ' = [some (.ref d), some (.int m), none] ∧ H' d = some (.lst ((x0 :: x1 :: r : List Int).map V.int)) ∧ DiceOk (x0 :: x1 :: r) ∧ ∀ o, upd H' d o = upd H d o) (fun σ' H' hJ => ?_) (fun N hN => ?_)
  · obtain ⟨x0, x1, r, rfl, h1, ⟨k1, k2, k3⟩, hu⟩ := hJ
    have n0 : 0 ≤ x0 := k3 x0 (by simp)
    have n1 : 0 ≤ x1 := k3 x1 (by simp)
    have ix0 : atI ((x0 :: x1 :: r : List Int).map V.int) 0 = some (.int x0) := atI_nat (j := 0) rfl
    have ix1 : atI ((x0 :: x1 :: r : List Int).map V.int) 1 = some (.int x1) := atI_nat (j := 1) rfl
    have jx0 : ixN ((x0 :: x1 :: r : List Int).map V.int).length 0 = some 0 := ixN_at (j := 0) (by simp)
    have jx1 : ixN ((x0 :: x1 :: r : List Int).map V.int).length 1 = some 1 := ixN_at (j := 1) (by simp)
    refine ⟨_, rfl, d, _, 1, _, rfl, rfl, SqL.of h1, ix1, _, _, rfl, rfl, _, rfl, ite2 (fun c => ?_) (fun c => ?_)⟩
    · refine ⟨_, rfl, d, _, 1, _, rfl, rfl, SqL.of h1, ix1, _, rfl, _, _, rfl, rfl, hm, ?_⟩
      refine ⟨_, rfl, d, _, 1, _, rfl, rfl, SqL.of h1, ix1, _, rfl, _, _, rfl, rfl, ⟨hm, hm2⟩, _, rfl, d, _, 1, 1, rfl, rfl, h1, jx1, ?_⟩
      refine ⟨_, rfl, ?_⟩
      rw [hu]
      refine q (x1 % m) (x0 :: (x1 / m) :: r) (Int.emod_nonneg _ (by omega)) (Int.emod_lt_of_pos _ hm) ⟨by simp, by simpa using k2, fun x hx => ?_⟩
      rcases List.mem_cons.mp hx with e | hx
      · rw [e]
        exact n0
      · rcases List.mem_cons.mp hx with e | hx
        · rw [e]
          exact Int.ediv_nonneg n1 (by omega)
        · exact k3 x (by simp [hx])
    · refine ⟨_, rfl, d, _, 0, _, rfl, rfl, SqL.of h1, ix0, _, _, rfl, rfl, .inr ⟨by decide, by decide⟩, _, _, rfl, rfl, _, _, rfl, rfl, (by show (0 : Int) < 2147483647; decide), _, rfl, d, _, 0, 0, rfl, rfl, h1, jx0, ?_⟩
      refine ⟨_, rfl, d, (((x0 * 48271 + 11) % 2147483647 :: x1 :: r : List Int).map V.int), 0, _, rfl, rfl, SqL.of upd_same, atI_nat (j := 0) rfl, _, _, rfl, rfl, ⟨by decide, by decide⟩, _, rfl, _, _, rfl, rfl, hm, ?_⟩
      rw [hu]
      refine q _ ((x0 * 48271 + 11) % 2147483647 :: x1 :: r) (Int.emod_nonneg _ (by omega)) (Int.emod_lt_of_pos _ hm) ⟨by simp, by simpa using k2, fun x hx => ?_⟩
      rcases List.mem_cons.mp hx with e | hx
      · rw [e]
        exact Int.emod_nonneg _ (by decide)
      · exact k3 x (List.mem_cons_of_mem _ hx)
  · obtain ⟨k1, k2, k3⟩ := hk
    match D, hH, k1, k2, k3 with
    | x0 :: x1 :: r, hH, k1, k2, k3 =>
      have ix1 : atI ((x0 :: x1 :: r : List Int).map V.int) 1 = some (.int x1) := atI_nat (j := 1) rfl
      refine ⟨_, rfl, d, _, 1, _, rfl, rfl, SqL.of hH, ix1, rfl, _, rfl, ite2 (fun c => ?_) (fun c => ?_)⟩
      · refine ⟨_, rfl, d, _, rfl, .inl (SqL.of hH), _, _, rfl, rfl, _, rfl, ite2 (fun e => ?_) (fun e => ?_)⟩
        · have e1 : (2 : Int) < (((x0 :: x1 :: r : List Int).map V.int).length : Nat) := of_decide_eq_true e
          match r, hH, k1, k2, k3, e1 with
          | [], _, _, _, _, e1 => exact absurd e1 (by simp)
          | x2 :: r, hH, k1, k2, k3, e1 =>
            have jx2 : ixN ((x0 :: x1 :: x2 :: r : List Int).map V.int).length 2 = some 2 := ixN_at (j := 2) (by simp)
            refine ⟨_, rfl, .inl ⟨rfl, _, SqL.of hH⟩, d, _, 2, 2, .int x2, rfl, rfl, hH, by decide, by decide, (ixN_seq jx2).1, rfl, _, rfl, d, ((x0 :: x1 :: r : List Int).map V.int), 1, 1, rfl, rfl, upd_same, ixN_at (j := 1) (by simp), ?_⟩
            refine hN _ _ ⟨x0, x2, r, rfl, upd_same, ⟨by simp, by simp at k2 ⊢; omega, fun x hx => k3 x ?_⟩, fun o => by rw [upd_upd, upd_upd]⟩
            rcases List.mem_cons.mp hx with e | hx
            · simp [e]
            · rcases List.mem_cons.mp hx with e | hx
              · simp [e]
              · simp [hx]
        · exact hN _ _ ⟨x0, x1, r, rfl, hH, ⟨k1, k2, k3⟩, fun o => rfl⟩
      · exact iteF (hN _ _ ⟨x0, x1, r, rfl, hH, ⟨k1, k2, k3⟩, fun o => rfl⟩)
def spSize : Sp := fun vs H Q _ => ∃ (d : Addr) (D : List Int), vs = [.ref d] ∧ H d = some (.lst (D.map V.int)) ∧ DiceOk D ∧ ∀ (n : Nat) H' D', 1 ≤ n → n ≤ 64 → SameBut d H H' → H' d = some (.lst (D'.map V.int)) → DiceOk D' → Q (.int n) H'
theorem ok__law_size (T : Tx K mg) : Cl P w K mg base 2 "_law_size" spSize := by
  refine T.d__law_size.cl sc__law_size (fun vs H Q E h => ?_) (fun f cdv A outer s H vs Q E hr h => ?_)
  · obtain ⟨d, D, rfl, _⟩ := h
    rfl
  obtain ⟨d, D, rfl, hH, hk, q⟩ := h
  refine ⟨_, (pss_one (ps_ret (pe_ix (ixL K) (pe_lst (pa_cons pe_int (pa_cons pe_int (pa_cons pe_int (pa_cons (pe_op op_add pe_int (pe_k (ok__law_off T) hr (pa_cons (pv 0) (pa_cons pe_int pa_nil)))) pa_nil))))) (pe_k (ok__law_off T) hr (pa_cons (pv 0) (pa_cons pe_int pa_nil))) (fun _ _ => rfl)))), ?_⟩
  refine ⟨_, rfl, d, 64, D, rfl, by decide, by decide, hH, hk, fun r D1 r0 r1 k1 => ⟨_, _, rfl, rfl, by show 4 ≤ sizeLine; decide, fun p np => ?_⟩⟩
  have npd : d ≠ p := ne_of_none upd_same np
  refine ⟨_, rfl, d, 4, D1, rfl, by decide, by decide, by rw [upd_ne npd]; exact upd_same, k1, fun r2 D2 r20 r21 k2 => ?_⟩
  have hp : upd (upd (upd H d (.lst (D1.map V.int))) p (.lst [.int 8, .int 20, .int 64, .int (1 + r)])) d (.lst (D2.map V.int)) p = some (.lst [.int 8, .int 20, .int 64, .int (1 + r)]) := by
    rw [upd_ne npd.symm]
    exact upd_same
  have sb : SameBut d H (upd (upd (upd H d (.lst (D1.map V.int))) p (.lst [.int 8, .int 20, .int 64, .int (1 + r)])) d (.lst (D2.map V.int))) := (SameBut.upd.trans (SameBut.of (same_new np))).trans SameBut.upd
  have fin : ∀ n : Nat, 1 ≤ n → n ≤ 64 → Q (.int n) (upd (upd (upd H d (.lst (D1.map V.int))) p (.lst [.int 8, .int 20, .int 64, .int (1 + r)])) d (.lst (D2.map V.int))) := fun n a b => q n _ D2 a b sb upd_same k2
  have c : r2 = 0 ∨ r2 = 1 ∨ r2 = 2 ∨ r2 = 3 := by omega
  rcases c with rfl | rfl | rfl | rfl
  · exact ⟨p, _, 0, .int 8, rfl, rfl, SqL.of hp, rfl, fin 8 (by decide) (by decide)⟩
  · exact ⟨p, _, 1, .int 20, rfl, rfl, SqL.of hp, rfl, fin 20 (by decide) (by decide)⟩
  · exact ⟨p, _, 2, .int 64, rfl, rfl, SqL.of hp, rfl, fin 64 (by decide) (by decide)⟩
  · have e : (1 : Int) + r = ((1 + r).toNat : Nat) := by omega
    refine ⟨p, _, 3, .int (1 + r), rfl, rfl, SqL.of hp, rfl, ?_⟩
    have g := fin (1 + r).toNat (by omega) (by omega)
    rw [← e] at g
    exact g
def spSet : Sp := fun vs H Q _ => ∃ (d : Addr) (D : List Int) (n m : Nat), vs = [.ref d, .int n, .int m] ∧ 1 ≤ n ∧ n ≤ 64 ∧ m ≤ 40 ∧ H d = some (.lst (D.map V.int)) ∧ DiceOk D ∧
  ∀ H' D' v R, SameBut d H H' → H' d = some (.lst (D'.map V.int)) → DiceOk D' → NewV H H' v (eR R) → Ok n R → R.length ≤ m → Q v H'
theorem ok__law_set (T : Tx K mg) : Cl P w K mg base 2 "_law_set" spSet := by
  refine T.d__law_set.cl sc__law_set (fun vs H Q E h => ?_) (fun f cdv A outer s H vs Q E hr h => ?_)
  · obtain ⟨d, D, n, m, rfl, _⟩ := h
    rfl
  obtain ⟨d, D, n, m, rfl, hn1, hn, hm, hH, hk, q⟩ := h
  refine ⟨_, (pss_cons (ps_set (i := 3) sc__law_set.nd rfl (by first | exact Or.inl rfl | exact Or.inr rfl) (pe_ix (ixL K) (pe_lst (pa_cons pe_int (pa_cons pe_int (pa_cons (pv 1) pa_nil)))) (pe_k (ok__law_off T) hr (pa_cons (pv 0) (pa_cons pe_int pa_nil))) (fun _ _ => rfl)))
      (pss_cons (ps_set (i := 4) sc__law_set.nd rfl (by first | exact Or.inl rfl | exact Or.inr rfl) (pe_lst pa_nil))
      (pss_cons (ps_for PassesOwn.never rfl (pi_range1 (by rfl) T.z_range (pa_cons (pe_k (ok__law_off T) hr (pa_cons (pv 0) (pa_cons (pe_op op_add (pv 2) pe_int) pa_nil))) pa_nil)) (pg_name (i := 5) sc__law_set.nd rfl (by first | exact Or.inl rfl | exact Or.inr rfl))
      (pss_cons (ps_set (i := 6) sc__law_set.nd rfl (by first | exact Or.inl rfl | exact Or.inr rfl) (pe_k (ok__law_off T) hr (pa_cons (pv 0) (pa_cons (pv 1) pa_nil))))
      (pss_one (ps_expr (pe_bm PySem.F.plainAttrs_list PySem.F.slot_list_append PySem.F.type_list_append mt_append (pv 4) (pa_cons (pe_tup (pa_cons (pv 6) (pa_cons (pe_callB (call_min2 rfl) (by rfl) T.z_min (by decide +kernel) (pa_cons (pe_op op_sub (pv 1) pe_int) (pa_cons (pe_op op_add (pv 6) (pe_k (ok__law_off T) hr (pa_cons (pv 0) (pa_cons (pv 3) pa_nil)))) pa_nil))) pa_nil))) pa_nil))))))
      (pss_one (ps_ret (pv 4)))))), ?_⟩
  -- the widths
  refine ⟨_, rfl, by show 3 ≤ sizeLine; decide, fun p np => ?_⟩
  have npd : d ≠ p := ne_of_none hH np
  refine ⟨_, rfl, d, 3, D, rfl, by decide, by decide, by rw [upd_ne npd]; exact hH, hk, fun r D1 r0 r1 k1 => ?_⟩
  have hp : upd (upd H p (.lst [.int 1, .int 3, .int n])) d (.lst (D1.map V.int)) p = some (.lst [.int 1, .int 3, .int n]) := by
    rw [upd_ne npd.symm]
    exact upd_same
  obtain ⟨wd, hw, w1, w2⟩ : ∃ wd : Int, atI [V.int 1, .int 3, .int n] r = some (.int wd) ∧ 0 < wd ∧ wd ≤ 64 := by
    have c : r = 0 ∨ r = 1 ∨ r = 2 := by omega
    rcases c with rfl | rfl | rfl
    · exact ⟨1, rfl, by decide, by decide⟩
    · exact ⟨3, rfl, by decide, by decide⟩
    · exact ⟨n, rfl, by omega, by omega⟩
  refine ⟨p, _, r, _, rfl, rfl, SqL.of hp, hw, ?_⟩
  have sb1 : SameBut d H (upd (upd H p (.lst [.int 1, .int 3, .int n])) d (.lst (D1.map V.int))) := (SameBut.of (same_new np)).trans SameBut.upd
  generalize hH1 : upd (upd H p (.lst [.int 1, .int 3, .int n])) d (.lst (D1.map V.int)) = H1 at sb1
  have hd1 : H1 d = some (.lst (D1.map V.int)) := by rw [← hH1]; exact upd_same
  -- found = []
  refine ⟨Nat.zero_le _, fun o no => ?_⟩
  have ndo : d ≠ o := ne_of_none hd1 no
  have no' : H o = none := by
    cases e : H o with
    | none => rfl
    | some u =>
      have := sb1 o u ndo.symm e
      rw [no] at this
      cases this
  -- the turns
  refine ⟨_, rfl, _, rfl, _, _, rfl, rfl, d, (m : Int) + 1, D1, rfl, by omega, by omega, by rw [upd_ne ndo]; exact hd1, k1, fun t D2 t0 t1 k2 => ?_⟩
  refine ⟨t, rfl, by omega, by omega, for_range (lo := 0) (n := t.toNat) (fun i σ H2 => ∃ (y5 y6 : Option V) (D3 : List Int) (R : List (Int × Int)), σ = [some (.ref d), some (.int n), some (.int m), some (.int wd), some (.ref o), y5, y6] ∧ SameBut d H H2 ∧ H2 d = some (.lst (D3.map V.int)) ∧ DiceOk D3 ∧ LB (del H d) (del H2 d) o (R.map eP) ∧ R.length = i ∧ (∀ r ∈ R, 0 ≤ r.1 ∧ r.1 ≤ r.2 ∧ r.2 < (n : Int))) ?_ (fun i σ H2 hi p => ?_) (fun σ H2 p => ?_)⟩
  · refine ⟨none, none, D2, [], rfl, (sb1.trans (SameBut.of (same_new no))).trans SameBut.upd, upd_same, k2, ⟨?_, [], ?_, .nil⟩, rfl, fun r hr => by simp at hr⟩
    · rw [del_ne ndo.symm]
      exact no'
    · rw [del_ne ndo.symm, upd_ne ndo.symm]
      exact upd_same
  · obtain ⟨y5, y6, D3, R, rfl, sb, hd, k3, lb, hRl, hR⟩ := p
    -- first
    refine ⟨_, rfl, _, rfl, d, (n : Int), D3, rfl, by omega, by omega, hd, k3, fun fi D4 f0 f1 k4 => ?_⟩
    have tyo : ∀ H3 : Hp, (∀ b o', b ≠ d → H2 b = some o' → H3 b = some o') → ∃ xs, H3 o = some (.lst xs) ∧ xs.length = R.length := fun H3 e => by
      obtain ⟨xs, h1, h2⟩ := lb.at
      rw [List.length_map] at h2
      rw [del_ne ndo.symm] at h1
      exact ⟨xs, e _ _ ndo.symm h1, h2⟩
    obtain ⟨xs4, ho4, hx4⟩ := tyo (upd H2 d (.lst (D4.map V.int))) fun b u nb e => by
      rw [upd_ne nb]
      exact e
    refine ⟨_, rfl, .inl ⟨rfl, _, SqL.of ho4⟩, _, rfl, _, rfl, _, _, rfl, rfl, _, rfl, _, rfl, _, rfl, d, wd, D4, rfl, w1, by omega, upd_same, k4, fun wi D5 u0 u1 k5 => ?_⟩
    refine ⟨_, _, rfl, rfl, _, _, rfl, by show 2 ≤ sizeLine; decide, fun tp ntp => ?_⟩
    rw [upd_upd] at ntp ⊢
    have ntd : d ≠ tp := ne_of_none upd_same ntp
    -- the new pair: (fi, la)
    generalize hla : (if fi + wi < (n : Int) - 1 then fi + wi else (n : Int) - 1) = la
    have l1 : fi ≤ la := by rw [← hla]; split <;> omega
    have l2 : la < n := by rw [← hla]; split <;> omega
    have sX : Same (del H2 d) (del (upd (upd H2 d (.lst (D5.map V.int))) tp (.tup [.int fi, .int la])) d) := fun b u e => by
      by_cases c : b = d
      · subst c
        rw [del_self] at e
        cases e
      · rw [del_ne c] at e ⊢
        have ct : b ≠ tp := fun z => by
          subst z
          rw [upd_ne c, e] at ntp
          cases ntp
        rw [upd_ne ct, upd_ne c]
        exact e
    have nvX : NewV (del H2 d) (del (upd (upd H2 d (.lst (D5.map V.int))) tp (.tup [.int fi, .int la])) d) (.ref tp) (eP (fi, la)) := by
      refine .tup (xs := [.int fi, .int la]) ?_ (.cons (.int _) (.cons (.int _) .nil))
      rw [fr_new (by rw [del_ne ntd.symm]; rw [upd_ne ntd.symm] at ntp; exact ntp), del_ne ntd.symm]
      exact upd_same
    have s0 : Same (del H d) (del H2 d) := fun b u e => by
      by_cases c : b = d
      · subst c
        rw [del_self] at e
        cases e
      · rw [del_ne c] at e ⊢
        exact sb b u c e
    obtain ⟨ys, z1, z2, z3⟩ := lb.snoc s0 sX nvX
    rw [del_ne ndo.symm] at z1
    refine ⟨o, ys, _, rfl, rfl, z1, sizeOk (by rw [z2, List.length_map]; omega), ?_⟩
    have nto : tp ≠ o := fun z => by
      subst z
      rw [upd_ne ntd.symm] at ntp
      obtain ⟨xs, h1, _⟩ := lb.at
      rw [del_ne ntd.symm, ntp] at h1
      cases h1
    refine ⟨_, _, D5, R ++ [(fi, la)], rfl, fun b u nb e => ?_, ?_, k5, ?_, by simp [hRl], fun r hr => ?_⟩
    · have nbo : b ≠ o := ne_of_none e no'
      have e2 := sb b u nb e
      have nbt : b ≠ tp := fun z => by
        subst z
        rw [upd_ne nb, e2] at ntp
        cases ntp
      rw [upd_ne nbo, upd_ne nbt, upd_ne nb]
      exact e2
    · rw [upd_ne ndo, upd_ne ntd]
      exact upd_same
    · rw [List.map_append]
      have e : del (upd (upd (upd H2 d (.lst (D5.map V.int))) tp (.tup [.int fi, .int la])) o (.lst (ys ++ [.ref tp]))) d = upd (del (upd (upd H2 d (.lst (D5.map V.int))) tp (.tup [.int fi, .int la])) d) o (.lst (ys ++ [.ref tp])) := by
        funext b
        by_cases c : b = d
        · subst c
          rw [del_self, upd_ne ndo, del_self]
        · rw [del_ne c]
          by_cases c2 : b = o
          · subst c2
            rw [upd_same, upd_same]
          · rw [upd_ne c2, upd_ne c2, del_ne c]
      rw [e]
      exact z3
    · rcases List.mem_append.mp hr with h | h
      · exact hR r h
      · obtain rfl := List.mem_singleton.mp h
        exact ⟨f0, l1, l2⟩
  · obtain ⟨y5, y6, D3, R, rfl, sb, hd, k3, lb, hRl, hR⟩ := p
    refine ⟨_, rfl, q H2 D3 _ R sb hd k3 ?_ ⟨by omega, hR⟩ (by omega)⟩
    have nv := lb.newV
    refine Dn.mono (fun b u e => ?_) nv
    obtain ⟨e1, e2⟩ := fr_some e
    by_cases c : b = d
    · subst c
      rw [del_self] at e2
      cases e2
    · rw [del_ne c] at e1 e2
      rw [fr_new e1]
      exact e2
end
section
variable {P : Program} {w : World} {K : PySem.W.Frag} {mg : Str → Option Value} {base : Heap}
def spMembers (K : PySem.W.Frag) : Sp := fun vs H Q _ => ∃ (n : Nat) (v : V) (R : List (Int × Int)), vs = [.int n, v] ∧ 1 ≤ n ∧ n ≤ 64 ∧ Dp K H v (eR R) ∧ Ok n R ∧ ∀ H' p, Same H H' → NewV H H' p (eI (allIn n R)) → Q p H'
theorem rg_map (a b : Int) : rgV a b = ((List.range (b - a).toNat).map fun (i : Nat) => a + (i : Int)).map V.int := by
  unfold rgV
  rw [List.map_map]
  rfl
theorem ok__law_members (T : Tx K mg) : Cl P w K mg base 1 "_law_members" (spMembers K) := by
  refine T.d__law_members.cl sc__law_members (fun vs H Q E h => ?_) (fun f cdv A outer s H vs Q E hr h => ?_)
  · obtain ⟨n, v, R, rfl, _⟩ := h
    rfl
  obtain ⟨n, v, R, rfl, h1, h2, hD, hk, q⟩ := h
  obtain ⟨a, xs, rfl, hS, hA⟩ := dp_list hD
  have hxl : xs.length = R.length := by rw [dpAll_len hA, List.length_map]
  have h40 := hk.1
  refine ⟨_, (pss_cons (ps_set (i := 2) sc__law_members.nd rfl (by first | exact Or.inl rfl | exact Or.inr rfl) (pe_lst pa_nil))
      (pss_cons (ps_for PassesOwn.never rfl (piL K (pv 1)) (pgT K (by rfl) (pgs_cons (pg_name (i := 3) sc__law_members.nd rfl (by first | exact Or.inl rfl | exact Or.inr rfl)) (pgs_cons (pg_name (i := 4) sc__law_members.nd rfl (by first | exact Or.inl rfl | exact Or.inr rfl)) pgs_nil)))
      (pss_one (ps_set (i := 2) sc__law_members.nd rfl (by first | exact Or.inl rfl | exact Or.inr rfl) (pe_op op_cat (pv 2) (pe_listRg (by rfl) (by rfl) T.z_list (prg_2 (by rfl) T.z_range (pv 3) (pe_op op_add (pv 4) pe_int)))))))
      (pss_one (ps_ret (pe_callB (sortedA w (by rfl)) (by rfl) T.z_sorted (by decide +kernel) (pa_cons (pe_callTy (setI K w (by rfl)) (by rfl) T.z_set (by decide +kernel) (pa_cons (pv 2) pa_nil)) pa_nil)))))), ?_⟩
  refine ⟨Nat.zero_le _, fun o no => ?_⟩
  refine ⟨_, rfl, a, rfl, ⟨_, (same_new no).seq hS⟩, for_list (xs := xs) (fun i σ H1 => ∃ (o : Addr) (ms : List Int) (y3 y4 : Option V), σ = [some (.int n), some (.ref a), some (.ref o), y3, y4] ∧ Same H H1 ∧ H1 o = some (.lst (ms.map V.int)) ∧ ms.length ≤ 64 * i ∧ ∀ k, k ∈ ms ↔ has (R.take i) k = true)
    ⟨o, [], none, none, rfl, same_new no, upd_same, by simp, by simp [has]⟩ (fun i σ H1 _ p => ?_) (fun i x σ H1 hx p => ?_) (fun σ H1 p => ?_)⟩
  · obtain ⟨_, _, _, _, _, sm, _⟩ := p
    exact sm.seq hS
  · obtain ⟨o, ms, y3, y4, rfl, sm, ho, hl, hm⟩ := p
    obtain ⟨d, hd, hx'⟩ := dpAll_get hA hx
    obtain ⟨r, hr', rfl⟩ := get_map hd
    obtain ⟨t, rfl, hT⟩ := dp_pair hx'
    obtain ⟨k1, k2, k3⟩ := hk.2 r (List.mem_of_getElem? hr')
    have hi : i < R.length := (List.getElem?_eq_some_iff.mp hr').1
    refine ⟨t, _, rfl, same_tup sm hT, rfl, _, _, rfl, _, _, rfl, rfl, ?_⟩
    refine ⟨_, rfl, _, rfl, _, rfl, _, _, rfl, rfl, r.1, r.2 + 1, rfl, rfl, RgOk.of_le k1 (by omega) (by omega) (by omega), fun g ng => ?_⟩
    have s2 := sm.trans (same_new (o := .lst (rgV r.1 (r.2 + 1))) ng)
    have hlen : (rgV r.1 (r.2 + 1)).length ≤ 64 := by
      rw [rgV_length]
      omega
    refine ⟨o, g, _, _, rfl, rfl, same_new ng _ _ ho, upd_same, Nat.le_of_lt (sizeOk (by rw [List.length_map]; omega)), fun p np => ?_⟩
    refine ⟨p, ms ++ (List.range (r.2 + 1 - r.1).toNat).map fun (i : Nat) => r.1 + (i : Int), _, _, rfl, s2.trans (same_new np), ?_, ?_, fun k => ?_⟩
    · rw [upd_same, List.map_append, rg_map]
    · rw [List.length_append, List.length_map, List.length_range]
      omega
    · rw [List.mem_append, hm k, List.take_add_one, hr', has_append, Bool.or_eq_true]
      have e : has (some r).toList k = true ↔ r.1 ≤ k ∧ k ≤ r.2 := by rw [has_iff]; simp
      rw [e, List.mem_map]
      constructor
      · rintro (z | ⟨j, hj, rfl⟩)
        · exact .inl z
        · have := List.mem_range.mp hj
          exact .inr ⟨by omega, by omega⟩
      · rintro (z | ⟨z1, z2⟩)
        · exact .inl z
        · exact .inr ⟨(k - r.1).toNat, List.mem_range.mpr (by omega), by omega⟩
  · obtain ⟨o, ms, y3, y4, rfl, sm, ho, hl, hm⟩ := p
    rw [hxl, List.take_length] at hm
    refine ⟨_, rfl, o, ms, rfl, SqL.of ho, by unfold scanBound; omega, fun g c ng hc => ?_⟩
    refine ⟨g, _, c, rfl, upd_same, by omega, fun ns p hp hmem hcl np => ?_⟩
    have e : ns = allIn n R := by
      refine rising_ext hp (rising_filter _) fun k => ?_
      rw [hmem k, decide_eq_true_iff, hm k, mem_allIn hk]
    subst e
    exact q _ _ (sm.trans ((same_new ng).trans (same_new np))) (newV_ints (sm.free (same_new ng |>.free np)) upd_same)
def spLTold (K : PySem.W.Frag) : Sp := fun vs H Q _ => ∃ (v : V) (ns : List Int), vs = [v] ∧ Dp K H v (eI ns) ∧ ns.Pairwise (· < ·) ∧ ns.length ≤ 1000 ∧ ∀ H' p, Same H H' → NewV H H' p (eR (told ns)) → Q p H'
theorem ok__law_told (T : Tx K mg) : Cl P w K mg base 1 "_law_told" (spLTold K) := by
  refine T.d__law_told.cl sc__law_told (fun vs H Q E h => ?_) (fun f cdv A outer s H vs Q E hr h => ?_)
  · obtain ⟨v, ns, rfl, _⟩ := h
    rfl
  obtain ⟨v, ns, rfl, hD, hp, hl, q⟩ := h
  obtain ⟨a, xs, rfl, hS, hA⟩ := dp_list hD
  obtain rfl := dpAll_ints hA
  refine ⟨_, (pss_cons (ps_set (i := 1) sc__law_told.nd rfl (by first | exact Or.inl rfl | exact Or.inr rfl) (pe_lc (own := [("_law_number_here", 2)]) (g := (gName 2)) (tt := _) (by rfl) sc__law_told.nd (piL K (pv 0)) (blkOk_by (own := [("_law_number_here", 2)]) (N := n__law_told) (sc := defScope s__law_told) (by decide +kernel)) (fun _ _ _ _ _ => (pg_name (i := 2) sc__law_told.nd rfl (by first | exact Or.inl rfl | exact Or.inr rfl))) (fun _ _ _ _ _ => (pts_one (pt_cmpR (notInQ K) (pe_op op_sub (pv 2) pe_int) (pv 0) (by rfl)))) (fun _ _ _ _ _ => (pv 2))))
      (pss_cons (ps_set (i := 3) sc__law_told.nd rfl (by first | exact Or.inl rfl | exact Or.inr rfl) (pe_lc (own := [("_law_number_here", 2)]) (g := (gName 2)) (tt := _) (by rfl) sc__law_told.nd (piL K (pv 0)) (blkOk_by (own := [("_law_number_here", 2)]) (N := n__law_told) (sc := defScope s__law_told) (by decide +kernel)) (fun _ _ _ _ _ => (pg_name (i := 2) sc__law_told.nd rfl (by first | exact Or.inl rfl | exact Or.inr rfl))) (fun _ _ _ _ _ => (pts_one (pt_cmpR (notInQ K) (pe_op op_add (pv 2) pe_int) (pv 0) (by rfl)))) (fun _ _ _ _ _ => (pv 2))))
      (pss_one (ps_ret (pe_lc (own := [("_law_k", 4)]) (g := (gName 4)) (tt := tYes) (by rfl) sc__law_told.nd (pi_range1 (by rfl) T.z_range (pa_cons (pe_callB (lenQ K) (by rfl) T.z_len (by decide +kernel) (pa_cons (pv 1) pa_nil)) pa_nil)) (blkOk_by (own := [("_law_k", 4)]) (N := n__law_told) (sc := defScope s__law_told) (by decide +kernel)) (fun _ _ _ _ _ => (pg_name (i := 4) sc__law_told.nd rfl (by first | exact Or.inl rfl | exact Or.inr rfl))) (fun _ _ _ _ _ => pts_nil) (fun _ _ _ _ _ => (pe_tup (pa_cons (pe_ix (ixL K) (pv 1) (pv 4) (fun _ _ => rfl)) (pa_cons (pe_ix (ixL K) (pv 3) (pv 4) (fun _ _ => rfl)) pa_nil))))))))), ?_⟩
  refine ⟨_, rfl, a, rfl, ⟨_, hS⟩, fun D1 n1 => lcN_list (fun i => (ns[i]?).bind fun k => if (!decide (k - 1 ∈ ns)) = true then some (.int k) else none) hS n1 (by rw [List.length_map]; omega) (fun i x H1 N1 N0 hx sm k1 k0 => ?_) (fun H1 s1 lb1 => ?_)⟩
  · obtain ⟨k, hk, rfl⟩ := map_get hx
    refine ⟨rfl, _, rfl, _, _, rfl, rfl, _, rfl, a, _, rfl, .inl (sm.seq hS), rfl, flat_ints ns, _, rfl, ite2 (fun c => ?_) (fun c => ?_)⟩
    · rw [if_pos rfl, inV_ints] at c
      exact ⟨_, rfl, k1 _ H1 _ (Same.refl _) (by rw [hk, Option.bind_some, if_pos c]) (.int _)⟩
    · rw [if_pos rfl, inV_ints] at c
      exact k0 H1 (Same.refl _) (by rw [hk, Option.bind_some, if_neg c])
  rw [List.length_map, list_ints (p := fun k => !decide (k - 1 ∈ ns)), ← told_firsts hp] at lb1
  refine ⟨_, rfl, a, rfl, ⟨_, s1.seq hS⟩, fun D2 n2 => lcN_list (fun i => (ns[i]?).bind fun k => if (!decide (k + 1 ∈ ns)) = true then some (.int k) else none) (s1.seq hS) n2 (by rw [List.length_map]; omega) (fun i x H2 N1 N0 hx sm k1 k0 => ?_) (fun H2 s2 lb2 => ?_)⟩
  · obtain ⟨k, hk, rfl⟩ := map_get hx
    refine ⟨rfl, _, rfl, _, _, rfl, rfl, _, rfl, a, _, rfl, .inl (sm.seq (s1.seq hS)), rfl, flat_ints ns, _, rfl, ite2 (fun c => ?_) (fun c => ?_)⟩
    · rw [if_pos rfl, inV_ints] at c
      exact ⟨_, rfl, k1 _ H2 _ (Same.refl _) (by rw [hk, Option.bind_some, if_pos c]) (.int _)⟩
    · rw [if_pos rfl, inV_ints] at c
      exact k0 H2 (Same.refl _) (by rw [hk, Option.bind_some, if_neg c])
  rw [List.length_map, list_ints (p := fun k => !decide (k + 1 ∈ ns)), ← told_lasts hp] at lb2
  have f1 := (lb1.same s2).ints
  have f2 := lb2.ints
  have hl1 : (((told ns).map (·.1)).map V.int).length = (told ns).length := by rw [List.length_map, List.length_map]
  have hle := told_len ns
  refine ⟨_, rfl, D1, _, rfl, .inl (SqL.of f1), _, rfl, by omega, by omega, fun D3 n3 => lcN_range0 (fun i => ((told ns)[i]?).bind fun r => some (eP r)) n3 (by omega) (fun i H3 N1 N0 hi sm k1 k0 => ?_) (fun H3 s3 lb3 => ?_)⟩
  · rw [hl1] at hi
    have g : (told ns)[i]? = some (told ns)[i] := List.getElem?_eq_getElem hi
    have g1 : (((told ns).map (·.1)).map V.int)[i]? = some (.int (told ns)[i].1) := by
      rw [List.getElem?_map, List.getElem?_map, g]
      rfl
    have g2 : (((told ns).map (·.2)).map V.int)[i]? = some (.int (told ns)[i].2) := by
      rw [List.getElem?_map, List.getElem?_map, g]
      rfl
    refine ⟨rfl, yesT ⟨_, rfl, _, rfl, D1, _, _, _, rfl, rfl, SqL.of (sm _ _ f1), atI_nat g1, _, rfl, _, rfl, D2, _, _, _, rfl, rfl, SqL.of (sm _ _ f2), atI_nat g2, by show 2 ≤ sizeLine; decide, fun t nt => ?_⟩⟩
    exact k1 _ _ _ (same_new nt) (by rw [g]; rfl) (new_pair nt)
  · rw [hl1, list_map] at lb3
    exact q H3 _ (s1.trans (s2.trans s3)) (lb3.newV.mono (s1.trans s2) (Same.refl _))
def spLOthers (K : PySem.W.Frag) : Sp := fun vs H Q _ => ∃ (n : Nat) (v : V) (ns : List Int), vs = [.int n, v] ∧ n ≤ 1000 ∧ Dp K H v (eI ns) ∧ ∀ H' p, Same H H' → NewV H H' p (eI ((upTo n).filter fun k => !decide (k ∈ ns))) → Q p H'
theorem ok__law_others (T : Tx K mg) : Cl P w K mg base 1 "_law_others" (spLOthers K) := by
  refine T.d__law_others.cl sc__law_others (fun vs H Q E h => ?_) (fun f cdv A outer s H vs Q E hr h => ?_)
  · obtain ⟨n, v, ns, rfl, _⟩ := h
    rfl
  obtain ⟨n, v, ns, rfl, hn, hD, q⟩ := h
  obtain ⟨a, xs, rfl, hS, hA⟩ := dp_list hD
  obtain rfl := dpAll_ints hA
  refine ⟨_, (pss_one (ps_ret (pe_lc (own := [("_law_number_here", 2)]) (g := (gName 2)) (tt := _) (by rfl) sc__law_others.nd (pi_range1 (by rfl) T.z_range (pa_cons (pv 0) pa_nil)) (blkOk_by (own := [("_law_number_here", 2)]) (N := n__law_others) (sc := defScope s__law_others) (by decide +kernel)) (fun _ _ _ _ _ => (pg_name (i := 2) sc__law_others.nd rfl (by first | exact Or.inl rfl | exact Or.inr rfl))) (fun _ _ _ _ _ => (pts_one (pt_cmpR (notInQ K) (pv 2) (pv 1) (by rfl)))) (fun _ _ _ _ _ => (pv 2))))), ?_⟩
  refine ⟨_, rfl, (n : Int), rfl, by omega, by omega, fun D hD => lcN_range0 (fun i => if (!decide ((i : Int) ∈ ns)) = true then some (.int (i : Int)) else none) hD (by omega) (fun i H1 N1 N0 hi sm k1 k0 => ?_) (fun H1 sm lb => ?_)⟩
  · refine ⟨rfl, _, rfl, _, rfl, a, _, rfl, .inl (sm.seq hS), rfl, flat_ints ns, _, rfl, ite2 (fun c => ?_) (fun c => ?_)⟩
    · rw [if_pos rfl, inV_ints] at c
      exact ⟨_, rfl, k1 _ H1 _ (Same.refl _) (by rw [if_pos c]) (.int _)⟩
    · rw [if_pos rfl, inV_ints] at c
      exact k0 H1 (Same.refl _) (by rw [if_neg c])
  · rw [range_ints (p := fun k => !decide (k ∈ ns))] at lb
    exact q H1 _ sm lb.newV
end
section
variable {P : Program} {w : World} {K : PySem.W.Frag} {mg : Str → Option Value} {base : Heap}
theorem hu1 {k : Nat} {A : Around} (r : Room k A) : A.units + 1 < cLine := by have := hu65 r; omega
def oV : Option Int → V
  | none => .non
  | some k => .int k
def oD : Option Int → PyData
  | none => .none
  | some k => .int k
theorem dn_opts {F : Hp} : ∀ os : List (Option Int), DnAll F (os.map oV) (os.map oD)
  | [] => .nil
  | none :: os => .cons .non (dn_opts os)
  | some k :: os => .cons (.int k) (dn_opts os)
theorem opts_of {F : Hp} : ∀ {vs : List V} {os : List (Option Int)}, DnAll F vs (os.map oD) → vs = os.map oV
  | _, [], .nil => rfl
  | _, none :: os, .cons h a => by
    cases h
    rw [opts_of a]
    rfl
  | _, some k :: os, .cons h a => by
    cases h
    rw [opts_of a]
    rfl
theorem dn_keys {K : PySem.W.Frag} {F G : Hp} (e : Same F G) : ∀ {zs : List V} (l : List (Str × Int)), DnAll F zs (l.map fun p => .tuple [.str p.1, .int p.2]) → ∃ ps : List Addr, zs = ps.map V.ref ∧ Paired (fun p kv => SqT K G p [kV kv.1, kv.2]) ps (l.map fun p => ((Sum.inr p.1 : Key), V.int p.2))
  | _, [], .nil => ⟨[], rfl, .nil⟩
  | _, p :: l, .cons h a => by
    obtain ⟨ps, rfl, hp⟩ := dn_keys e l a
    cases h with
    | tup h0 hA =>
      cases hA with
      | cons h1 hA =>
        cases hA with
        | cons h2 hA =>
          cases hA
          cases h1
          cases h2
          exact ⟨_ :: ps, rfl, .cons (SqT.of (e _ _ h0)) hp⟩
def keysN (n : Nat) : List (Str × Int) := (List.range n).map fun (k : Nat) => (SX.S (nL (k : Int)), (k : Int))
theorem val_keys (x : List Nat) : ∀ n : Nat, valV (mergeK [] ((keysN n).map fun p => ((Sum.inr p.1 : Key), V.int p.2))) (Sum.inr (SX.S x)) = (numM n x).map V.int
  | 0 => rfl
  | n + 1 => by
    have e : (keysN (n + 1)).map (fun p => ((Sum.inr p.1 : Key), V.int p.2)) = (keysN n).map (fun p => ((Sum.inr p.1 : Key), V.int p.2)) ++ [((Sum.inr (SX.S (nL (n : Int))) : Key), V.int (n : Int))] := by
      unfold keysN
      rw [List.range_succ, List.map_append, List.map_append]
      rfl
    have e2 : mergeK [] ((keysN (n + 1)).map fun p => ((Sum.inr p.1 : Key), V.int p.2)) = putK (mergeK [] ((keysN n).map fun p => ((Sum.inr p.1 : Key), V.int p.2))) (Sum.inr (SX.S (nL (n : Int)))) (V.int (n : Int)) := by
      rw [e]
      unfold mergeK
      rw [List.foldl_append]
      rfl
    rw [e2, valV_put, val_keys x n, numM]
    by_cases c : x = nL (n : Int)
    · rw [if_pos (by rw [c]), if_pos c]
      rfl
    · rw [if_neg (fun z => c (SX.S_inj (Sum.inr.inj z))), if_neg c]
def spLNum : Sp := fun vs H Q _ => ∃ (x : List Nat) (n : Nat), vs = [.str (SX.S x), .int n] ∧ n ≤ 64 ∧ ∀ H', Same H H' → Q (oV (numM n x)) H'
theorem ok__law_number (T : Tx K mg) : Cl P w K mg base 1 "_law_number" spLNum := by
  refine T.d__law_number.cl sc__law_number (fun vs H Q E h => ?_) (fun f cdv A outer s H vs Q E hr h => ?_)
  · obtain ⟨x, n, rfl, _⟩ := h
    rfl
  obtain ⟨x, n, rfl, hn, q⟩ := h
  refine ⟨_, (pss_one (ps_ret (pe_dget2 (hu1 hr) (pe_callTy (call_dictP rfl) (by rfl) T.z_dict (by decide +kernel) (pa_cons (pe_lc (own := [("_law_number_here", 2)]) (g := (gName 2)) (tt := tYes) (by rfl) sc__law_number.nd (pi_range1 (by rfl) T.z_range (pa_cons (pv 1) pa_nil)) (blkOk_by (own := [("_law_number_here", 2)]) (N := n__law_number) (sc := defScope s__law_number) (by decide +kernel)) (fun _ _ _ _ _ => (pg_name (i := 2) sc__law_number.nd rfl (by first | exact Or.inl rfl | exact Or.inr rfl))) (fun _ _ _ _ _ => pts_nil) (fun _ _ _ _ _ => (pe_tup (pa_cons (pe_callTy call_str_int (by rfl) T.z_str (by decide +kernel) (pa_cons (pv 2) pa_nil)) (pa_cons (pv 2) pa_nil))))) pa_nil)) (pv 0) pe_non ⟨rfl, rfl, rfl, rfl⟩))), ?_⟩
  refine ⟨_, rfl, (n : Int), rfl, by omega, by omega, fun D nD => lcN_range0 (fun k => some (.tuple [.str (SX.S (nL (k : Int))), .int (k : Int)])) nD (by omega) (fun k G N1 N0 hk sm c1 c0 => ?_) (fun H1 s1 lb => ?_)⟩
  · refine ⟨rfl, yesT ⟨_, rfl, _, rfl, small_log (by omega) (by omega), ?_⟩⟩
    rw [nL_str (by omega)]
    refine ⟨_, rfl, by show 2 ≤ sizeLine; decide, fun t nt => c1 _ _ _ (same_new nt) rfl (.tup (xs := _) ?_ (.cons (.str _) (.cons (.int _) .nil)))⟩
    rw [fr_new nt]
    exact upd_same
  have ek : (List.range n).filterMap (fun (k : Nat) => some (PyData.tuple [.str (SX.S (nL (k : Int))), .int (k : Int)])) = (keysN n).map fun p => .tuple [.str p.1, .int p.2] := by
    unfold keysN
    rw [List.filterMap_eq_map', List.map_map]
    rfl
  rw [ek] at lb
  obtain ⟨_, zs, hz, hzA⟩ := lb
  obtain ⟨ps, rfl, hp⟩ := dn_keys (K := K) (del_same.trans fr_same) (keysN n) hzA
  refine ⟨D, ps, _, rfl, SqL.of hz, hp, fun dd ndd => ⟨dd, rfl, .inl ⟨_, .inl upd_same⟩, _, rfl, _, DGet.k (k := Sum.inr (SX.S x)) upd_same, ?_⟩⟩
  rw [val_keys]
  have fin := q _ (s1.trans (same_new (o := .dK (mergeK [] ((keysN n).map fun p => ((Sum.inr p.1 : Key), V.int p.2)))) ndd))
  cases e : numM n x with
  | none =>
    rw [e] at fin
    exact fin
  | some k =>
    rw [e] at fin
    exact fin
def rdV (K : PySem.W.Frag) (H : Hp) (v : V) : Option (List Int) → Prop
  | none => v = .non
  | some f => Dp K H v (eI f)
def spLRead (K : PySem.W.Frag) : Sp := fun vs H Q _ => ∃ (n : Nat) (t : List Nat), vs = [.int n, .str (SX.S t)] ∧ n ≤ 64 ∧ t.length ≤ 7000 ∧ ∀ H' v, Same H H' → rdV K H' v (readM n t) → Q v H'
theorem neg_head (t : List Nat) : decide (V.str (cutS (SX.S t) none (some 1)) = V.str (Str.ofString "^")) = negM t := by
  rw [C8.cutS_slice, SX.slice_to (by decide), show Str.ofString "^" = SX.S [94] by decide +kernel]
  unfold negM
  split
  · rename_i l
    exact decide_eq_true rfl
  · rename_i h
    refine decide_eq_false fun z => ?_
    have z2 := SX.S_inj (V.str.inj z)
    cases t with
    | nil => cases z2
    | cons c l =>
      have e : c = 94 := by
        have : [c] = [94] := z2
        injection this
      subst e
      exact h l rfl
theorem neg_tail (t : List Nat) : cutS (SX.S t) (some (if negM t = true then 1 else 0)) none = SX.S (restM t) := by
  rw [C8.cutS_slice]
  unfold restM
  cases negM t
  · rw [if_neg Bool.false_ne_true, if_neg Bool.false_ne_true, SX.slice_from (by decide)]
    rfl
  · rw [if_pos rfl, if_pos rfl, SX.slice_from (by decide)]
    rfl
theorem flat_opts (os : List (Option Int)) : (os.map oV).all flatV = true := by
  rw [List.all_eq_true]
  intro x hx
  obtain ⟨o, _, rfl⟩ := List.mem_map.mp hx
  cases o <;> rfl
theorem inV_opts : ∀ os : List (Option Int), inV .non (os.map oV) = decide (none ∈ os)
  | [] => rfl
  | none :: os => by
    rw [decide_eq_true (by simp)]
    rfl
  | some k :: os => by
    have ih := inV_opts os
    unfold inV at ih ⊢
    rw [List.map_cons, List.any_cons, ih]
    show (false || decide (none ∈ os)) = _
    rw [Bool.false_or]
    by_cases h : none ∈ os
    · rw [decide_eq_true h, decide_eq_true (by simp [h])]
    · rw [decide_eq_false h, decide_eq_false (by simp [h])]
theorem ok__law_read (T : Tx K mg) : Cl P w K mg base 2 "_law_read" (spLRead K) := by
  refine T.d__law_read.cl sc__law_read (fun vs H Q E h => ?_) (fun f cdv A outer s H vs Q E hr h => ?_)
  · obtain ⟨n, t, rfl, _⟩ := h
    rfl
  obtain ⟨n, t, rfl, hn, ht, q⟩ := h
  have hz : (SX.S t).length ≤ sizeLine := by rw [SX.S_len]; exact Nat.le_of_lt (sizeOk (by omega))
  have hnh := neg_head t
  have hnt := neg_tail t
  have hrl : (restM t).length ≤ 7000 := by
    unfold restM
    split
    · rw [List.length_drop]
      omega
    · exact ht
  refine ⟨_, (pss_cons (ps_set (i := 2) sc__law_read.nd rfl (by first | exact Or.inl rfl | exact Or.inr rfl) (pe_slice sl_str (pv 1) (po_some (pe_callTy call_int1 (by rfl) T.z_int (by decide +kernel) (pa_cons (pe_cmpR op_eq (pe_slice sl_str (pv 1) po_none (po_some pe_int)) pe_str (nomark _)) pa_nil))) po_none))
      (pss_cons (ps_set (i := 3) sc__law_read.nd rfl (by first | exact Or.inl rfl | exact Or.inr rfl) (pe_lst pa_nil))
      (pss_cons (ps_set (i := 4) sc__law_read.nd rfl (by first | exact Or.inl rfl | exact Or.inr rfl) (pe_un un_neg pe_int))
      (pss_cons (ps_for PassesOwn.never rfl (piL K (pe_ifExp (pt_cmpR op_ne (pv 2) pe_str (nomark _)) (pe_split (pv 2) pe_str) (pe_lst pa_nil))) (pg_name (i := 5) sc__law_read.nd rfl (by first | exact Or.inl rfl | exact Or.inr rfl))
      (pss_cons (ps_setLc (i := 6) (own := [("_law_part", 7)]) (g := (gName 7)) (tt := tYes) (by rfl) sc__law_read.nd rfl rfl (sw_true rfl rfl rfl (by decide +kernel)) (piL K (pe_split (pv 5) pe_str)) (blkOk_by (own := [("_law_part", 7)]) (N := n__law_read) (sc := defScope s__law_read) (by decide +kernel)) (fun _ _ _ _ _ => (pg_name (i := 7) sc__law_read.nd rfl (by first | exact Or.inl rfl | exact Or.inr rfl))) (fun _ _ _ _ _ => pts_nil) (fun _ _ _ _ _ => (pe_k (ok__law_number T) hr (pa_cons (pv 7) (pa_cons (pv 0) pa_nil)))))
      (pss_cons (ps_if (PW.pt (pw_or (pt_cmpR op_gt (pe_callB (lenQ K) (by rfl) T.z_len (by decide +kernel) (pa_cons (pv 6) pa_nil)) pe_int (nomark _)) (pw_or (pt_cmpR (inQ K) pe_non (pv 6) (by rfl)) (pw_or (pt_cmpR op_le (pe_ix (ixL K) (pv 6) pe_int (fun _ _ => rfl)) (pv 4) (nomark _)) (pw_or1 (PW.pt (pw_and (pt_cmpR op_eq (pe_callB (lenQ K) (by rfl) T.z_len (by decide +kernel) (pa_cons (pv 6) pa_nil)) pe_int (nomark _)) (pw_and1 (pt_cmpR op_ge (pe_ix (ixL K) (pv 6) pe_int (fun _ _ => rfl)) (pe_ix (ixL K) (pv 6) pe_int (fun _ _ => rfl)) (nomark _)))))))))) (pss_one (ps_ret pe_non)) pss_nil)
      (pss_cons (ps_set (i := 4) sc__law_read.nd rfl (by first | exact Or.inl rfl | exact Or.inr rfl) (pe_ix (ixL K) (pv 6) (pe_un un_neg pe_int) (fun _ _ => rfl)))
      (pss_one (ps_set (i := 3) sc__law_read.nd rfl (by first | exact Or.inl rfl | exact Or.inr rfl) (pe_op op_cat (pv 3) (pe_listRg (by rfl) (by rfl) T.z_list (prg_2 (by rfl) T.z_range (pe_ix (ixL K) (pv 6) pe_int (fun _ _ => rfl)) (pe_op op_add (pv 4) pe_int))))))))))
      (pss_one (ps_ret (pe_ifExp (pt_cmpR op_eq (pe_slice sl_str (pv 1) po_none (po_some pe_int)) pe_str (nomark _)) (pe_k (ok__law_others T) hr (pa_cons (pv 0) (pa_cons (pv 3) pa_nil))) (pv 3)))))))), ?_⟩
  refine ⟨_, rfl, _, rfl, 1, rfl, _, rfl, hz, rfl, .inr ⟨_, rfl, _, rfl, _, rfl, hz, ?_⟩⟩
  rw [hnh, hnt]
  refine ⟨Nat.zero_le _, fun o no => ⟨1, rfl, ?_⟩⟩
  have s0 : Same H (upd H o (.lst [])) := same_new no
  have ho : upd H o (.lst []) o = some (.lst []) := upd_same
  generalize upd H o (.lst []) = H0 at s0 ho
  -- the words
  dsimp only [gName]
  refine seq_for ?_
  have hwl : (wordsM t).length ≤ 7001 := by
    unfold wordsM
    split
    · exact Nat.zero_le _
    · exact Nat.le_trans (sp_len 44 _) (by omega)
  have hws : ∀ w ∈ wordsM t, w.length ≤ 7000 := fun w hw => by
    unfold wordsM at hw
    split at hw
    · cases hw
    · exact Nat.le_trans (sp_small 44 _ w hw) hrl
  refine for_list_if (fun v G => ∃ L, v = .ref L ∧ Same H0 G ∧ G L = some (.lst (((wordsM t).map SX.S).map V.str))) (fun v G hJ => ?_) (fun Q' hQ' => ?_)
  rotate_left
  · refine ⟨_, rfl, rfl, _, rfl, ?_⟩
    unfold wordsM at hQ'
    by_cases e : restM t = []
    · have e1 : V.str (SX.S (restM t)) = V.str (Str.ofString "") := by
        rw [e]
        exact congrArg V.str (by decide +kernel)
      rw [decide_eq_true e1]
      rw [if_pos e] at hQ'
      exact iteF ⟨Nat.zero_le _, fun L nL => hQ' _ _ ⟨L, rfl, same_new nL, upd_same⟩⟩
    · have e1 : ¬ V.str (SX.S (restM t)) = V.str (Str.ofString "") := fun z => e (SX.S_inj ((V.str.inj z).trans (by decide +kernel : Str.ofString "" = SX.S [])))
      rw [decide_eq_false e1]
      rw [if_neg e] at hQ'
      refine iteT ⟨_, rfl, ⟨_, rfl⟩, _, _, rfl, rfl, by decide +kernel, ?_, fun L nL => ?_⟩
      · rw [SX.S_len]
        have := sizeOk (n := (restM t).length + 2) (by omega)
        omega
      · rw [show Str.ofString "," = SX.S [44] by decide +kernel, split_sp 44 (by decide)]
        exact hQ' _ _ ⟨L, rfl, same_new nL, upd_same⟩
  obtain ⟨L, rfl, sL, hL⟩ := hJ
  have s0L := s0.trans sL
  -- what is told of a state
  refine ⟨L, rfl, ⟨_, SqL.of hL⟩, for_list (xs := ((wordsM t).map SX.S).map V.str) (fun i σ G' => ∃ (o' : Addr) (st : List Int × Int) (y5 y6 : Option V), σ = [some (.int n), some (.str (SX.S t)), some (.str (SX.S (restM t))), some (.ref o'), some (.int st.2), y5, y6, none] ∧ Same H G' ∧ G' L = some (.lst (((wordsM t).map SX.S).map V.str)) ∧ G' o' = some (.lst (st.1.map V.int)) ∧ st.1.length ≤ 64 * i ∧ loopM n (wordsM t) ([], -1) = loopM n ((wordsM t).drop i) st) ⟨o, ([], -1), none, none, rfl, s0L, hL, sL _ _ ho, Nat.zero_le _, rfl⟩ (fun i σ G' _ p => ?_) (fun i x σ G' hx p => ?_) (fun σ G' p => ?_)⟩
  · obtain ⟨_, _, _, _, _, _, h, _⟩ := p
    exact SqL.of h
  · obtain ⟨o', st, y5, y6, rfl, sm, hL', ho', hsl, hloop⟩ := p
    obtain ⟨z, hz', rfl⟩ := map_get hx
    have hww : ∃ wd, (wordsM t)[i]? = some wd ∧ z = SX.S wd := by
      rw [List.getElem?_map] at hz'
      cases e : (wordsM t)[i]? with
      | none => rw [e] at hz'; cases hz'
      | some r => rw [e] at hz'; exact ⟨r, rfl, (Option.some.inj hz').symm⟩
    obtain ⟨wd, hwd, rfl⟩ := hww
    have hi : i < (wordsM t).length := (List.getElem?_eq_some_iff.mp hwd).1
    have hwl2 := hws wd (List.mem_of_getElem? hwd)
    have edrop : (wordsM t).drop i = wd :: (wordsM t).drop (i + 1) := by
      rw [← (List.getElem?_eq_some_iff.mp hwd).2, List.getElem_cons_drop]
    rw [edrop, loopM] at hloop
    -- parts
    refine ⟨_, rfl, ⟨_, rfl⟩, _, _, rfl, rfl, by decide +kernel, ?_, fun a0 na0 => ?_⟩
    · rw [SX.S_len]
      have := sizeOk (n := wd.length + 2) (by omega)
      omega
    rw [show Str.ofString "-" = SX.S [45] by decide +kernel, split_sp 45 (by decide)]
    have hspl := sp_len 45 wd
    have hS0 : SqL K (upd G' a0 (.lst (((sp 45 wd).map SX.S).map V.str))) a0 (((sp 45 wd).map SX.S).map V.str) := SqL.of upd_same
    have sa : Same G' (upd G' a0 (.lst (((sp 45 wd).map SX.S).map V.str))) := same_new na0
    generalize upd G' a0 (.lst (((sp 45 wd).map SX.S).map V.str)) = G1 at hS0 sa
    refine ⟨a0, rfl, ⟨_, hS0⟩, fun D nD => lcN_list (fun j => ((sp 45 wd)[j]?).bind fun x => some (oD (numM n x))) hS0 nD (by simp only [List.length_map]; omega) (fun j x G2 N1 N0 hx sm2 c1 c0 => ?_) (fun G2 s2 lb => ?_)⟩
    · obtain ⟨z', hz', rfl⟩ := map_get hx
      rw [List.getElem?_map] at hz'
      cases e : (sp 45 wd)[j]? with
      | none => rw [e] at hz'; cases hz'
      | some pt =>
        rw [e] at hz'
        obtain rfl := Option.some.inj hz'
        refine ⟨rfl, yesT ⟨_, rfl, _, rfl, pt, n, rfl, hn, fun G3 s3 => c1 _ G3 _ s3 (by rw [e]; rfl) ?_⟩⟩
        cases numM n pt with
        | none => exact .non
        | some k => exact .int k
    rw [List.length_map, List.length_map, list_map] at lb
    have eo : ((sp 45 wd).map fun x => oD (numM n x)) = ((sp 45 wd).map (numM n)).map oD := by rw [List.map_map]; rfl
    rw [eo] at lb
    obtain ⟨_, zs, hzs, hzA⟩ := lb
    obtain rfl := opts_of hzA
    have hos : (sp 45 wd).map (numM n) ≠ [] := by simpa using sp_ne 45 wd
    have hosl : ((sp 45 wd).map (numM n)).length ≤ 7001 := by rw [List.length_map]; omega
    have hin : ∀ k, some k ∈ (sp 45 wd).map (numM n) → 0 ≤ k ∧ k < (n : Int) := fun k hk => by
      obtain ⟨x, _, hx⟩ := List.mem_map.mp hk
      exact numM_in hx
    have hstep : stepM n st wd = (match (sp 45 wd).map (numM n) with
      | [some a] => if a ≤ st.2 then none else some (st.1 ++ rangeI a a, a)
      | [some a, some b] => if a ≤ st.2 then none else if b ≤ a then none else some (st.1 ++ rangeI a b, b)
      | _ => none) := rfl
    generalize (sp 45 wd).map (numM n) = os at hzs hos hosl hin hstep
    have s12 := sa.trans s2
    have smE := sm.trans s12
    have bad : stepM n st wd = none → Q .non G2 := fun e => by
      refine q G2 _ smE ?_
      rw [e] at hloop
      unfold readM
      rw [hloop]
      rfl
    have hlen : (os.map oV).length = os.length := List.length_map ..
    -- found and end behind a good word
    have good : ∀ (a b : Int), 0 ≤ a → a ≤ b → b < (n : Int) → stepM n st wd = some (st.1 ++ rangeI a b, b) → ∀ g, G2 g = none → ∀ p, upd G2 g (.lst (rgV a (b + 1))) p = none →
        ∃ (o'' : Addr) (st' : List Int × Int) (y5 y6 : Option V), [some (V.int n), some (.str (SX.S t)), some (.str (SX.S (restM t))), some (.ref p), some (.int b), some (.str (SX.S wd)), some (.ref D), none] = [some (V.int n), some (.str (SX.S t)), some (.str (SX.S (restM t))), some (.ref o''), some (.int st'.2), y5, y6, none] ∧ Same H (upd (upd G2 g (.lst (rgV a (b + 1)))) p (.lst (st.1.map V.int ++ rgV a (b + 1)))) ∧ upd (upd G2 g (.lst (rgV a (b + 1)))) p (.lst (st.1.map V.int ++ rgV a (b + 1))) L = some (.lst (((wordsM t).map SX.S).map V.str)) ∧ upd (upd G2 g (.lst (rgV a (b + 1)))) p (.lst (st.1.map V.int ++ rgV a (b + 1))) o'' = some (.lst (st'.1.map V.int)) ∧ st'.1.length ≤ 64 * (i + 1) ∧ loopM n (wordsM t) ([], -1) = loopM n ((wordsM t).drop (i + 1)) st' := fun a b ha hab hb e g ng p np => by
      have sE := (same_new (o := .lst (rgV a (b + 1))) ng).trans (same_new (o := .lst (st.1.map V.int ++ rgV a (b + 1))) np)
      refine ⟨p, (st.1 ++ rangeI a b, b), _, _, rfl, smE.trans sE, sE _ _ (s12 _ _ hL'), ?_, ?_, ?_⟩
      · rw [upd_same, List.map_append]
        have er : rgV a (b + 1) = (rangeI a b).map V.int := by
          unfold rgV rangeI
          rw [List.map_map]
          rfl
        rw [er]
      · rw [List.length_append, rangeI_len]
        omega
      · rw [e] at hloop
        exact hloop
    have rgl : ∀ a b : Int, 0 ≤ a → b < (n : Int) → (rgV a (b + 1)).length ≤ 64 := fun a b ha hb => by
      rw [rgV_length]
      omega
    cases os with
    | nil => exact absurd rfl hos
    | cons x os1 =>
      cases os1 with
      | nil =>
        refine ⟨_, rfl, D, _, rfl, .inl (SqL.of hzs), _, _, rfl, rfl, false, bF (by simp), iteF ?_⟩
        refine ⟨_, rfl, D, _, rfl, .inl (SqL.of hzs), rfl, flat_opts _, _, rfl, ?_⟩
        rw [if_neg Bool.false_ne_true, inV_opts]
        cases x with
        | none =>
          rw [decide_eq_true (by simp)]
          exact iteT (bad hstep)
        | some a =>
          rw [decide_eq_false (by simp)]
          obtain ⟨a0', a1'⟩ := hin a (by simp)
          refine iteF ⟨_, rfl, D, _, 0, _, rfl, rfl, SqL.of hzs, rfl, _, rfl, _, _, rfl, rfl, _, rfl, ite2 (fun c => ?_) (fun c => ?_)⟩
          · have c1 : a ≤ st.2 := of_decide_eq_true c
            exact iteT (bad (by rw [hstep]; show (if a ≤ st.2 then none else _) = _; rw [if_pos c1]))
          · have c1 : ¬ a ≤ st.2 := fun z => c (decide_eq_true z)
            have e : stepM n st wd = some (st.1 ++ rangeI a a, a) := by rw [hstep]; show (if a ≤ st.2 then none else _) = _; rw [if_neg c1]
            refine ⟨_, rfl, D, _, rfl, .inl (SqL.of hzs), rfl, _, rfl, itF (by simp) (iteF ?_)⟩
            refine ⟨_, rfl, 1, rfl, D, _, -1, _, rfl, rfl, SqL.of hzs, rfl, ?_⟩
            refine ⟨_, rfl, _, rfl, D, _, 0, _, rfl, rfl, SqL.of hzs, rfl, _, rfl, _, _, rfl, rfl, a, a + 1, rfl, rfl, RgOk.of_le (by omega) (by omega) (by omega) (by omega), fun g ng => ?_⟩
            have := rgl a a a0' a1'
            exact ⟨o', g, _, _, rfl, rfl, same_new ng _ _ (s12 _ _ ho'), upd_same, Nat.le_of_lt (sizeOk (by rw [List.length_map]; omega)), fun p np => good a a a0' (Int.le_refl _) a1' e g ng p np⟩
      | cons y os2 =>
        cases os2 with
        | cons z os3 =>
          have e3 : stepM n st wd = none := by
            rw [hstep]
            cases x <;> cases y <;> rfl
          exact ⟨_, rfl, D, _, rfl, .inl (SqL.of hzs), _, _, rfl, rfl, true, bT (by simp; omega), iteT (iteT (bad e3))⟩
        | nil =>
          refine ⟨_, rfl, D, _, rfl, .inl (SqL.of hzs), _, _, rfl, rfl, false, bF (by simp), iteF ?_⟩
          refine ⟨_, rfl, D, _, rfl, .inl (SqL.of hzs), rfl, flat_opts _, _, rfl, ?_⟩
          rw [if_neg Bool.false_ne_true, inV_opts]
          cases x with
          | none =>
            rw [decide_eq_true (by simp)]
            exact iteT (bad (by rw [hstep]))
          | some a =>
            cases y with
            | none =>
              rw [decide_eq_true (by simp)]
              exact iteT (bad (by rw [hstep]))
            | some b =>
              rw [decide_eq_false (by simp)]
              obtain ⟨a0', a1'⟩ := hin a (by simp)
              obtain ⟨b0', b1'⟩ := hin b (by simp)
              refine iteF ⟨_, rfl, D, _, 0, _, rfl, rfl, SqL.of hzs, rfl, _, rfl, _, _, rfl, rfl, _, rfl, ite2 (fun c => ?_) (fun c => ?_)⟩
              · have c1 : a ≤ st.2 := of_decide_eq_true c
                exact iteT (bad (by rw [hstep]; show (if a ≤ st.2 then none else _) = _; rw [if_pos c1]))
              · have c1 : ¬ a ≤ st.2 := fun z => c (decide_eq_true z)
                refine ⟨_, rfl, D, _, rfl, .inl (SqL.of hzs), rfl, _, rfl, itT (by simp) ?_⟩
                refine ⟨_, rfl, D, _, 0, _, rfl, rfl, SqL.of hzs, rfl, _, rfl, D, _, 1, _, rfl, rfl, SqL.of hzs, rfl, _, _, rfl, rfl, _, rfl, ite2 (fun c2 => ?_) (fun c2 => ?_)⟩
                · have c3 : b ≤ a := of_decide_eq_true c2
                  exact bad (by rw [hstep]; show (if a ≤ st.2 then none else if b ≤ a then none else _) = _; rw [if_neg c1, if_pos c3])
                · have c3 : ¬ b ≤ a := fun z => c2 (decide_eq_true z)
                  have e : stepM n st wd = some (st.1 ++ rangeI a b, b) := by rw [hstep]; show (if a ≤ st.2 then none else if b ≤ a then none else _) = _; rw [if_neg c1, if_neg c3]
                  refine ⟨_, rfl, 1, rfl, D, _, -1, _, rfl, rfl, SqL.of hzs, rfl, ?_⟩
                  refine ⟨_, rfl, _, rfl, D, _, 0, _, rfl, rfl, SqL.of hzs, rfl, _, rfl, _, _, rfl, rfl, a, b + 1, rfl, rfl, RgOk.of_le (by omega) (by omega) (by omega) (by omega), fun g ng => ?_⟩
                  have := rgl a b a0' b1'
                  exact ⟨o', g, _, _, rfl, rfl, same_new ng _ _ (s12 _ _ ho'), upd_same, Nat.le_of_lt (sizeOk (by rw [List.length_map]; omega)), fun p np => good a b a0' (by omega) b1' e g ng p np⟩
  · obtain ⟨o', st, y5, y6, rfl, sm, hL', ho', hsl, hloop⟩ := p
    rw [List.length_map, List.length_map, List.drop_length] at hloop
    have er : readM n t = some (if negM t then (upTo n).filter (fun k => !decide (k ∈ st.1)) else st.1) := by
      unfold readM
      rw [hloop]
      rfl
    refine ⟨_, rfl, 1, rfl, _, rfl, hz, rfl, _, rfl, ?_⟩
    rw [hnh]
    cases e : negM t with
    | true =>
      refine iteT ⟨_, rfl, _, rfl, n, _, st.1, rfl, by omega, .lst (SqL.of ho') (dpAll_ofInts _), fun H2 p2 s2 nv2 => ?_⟩
      refine q H2 p2 (sm.trans s2) ?_
      rw [er, e]
      exact nv2.dp
    | false =>
      refine iteF ⟨_, rfl, q G' _ sm ?_⟩
      rw [er, e]
      exact .lst (SqL.of ho') (dpAll_ofInts _)
end
section
variable {P : Program} {w : World} {K : PySem.W.Frag} {mg : Str → Option Value} {base : Heap}
theorem itemL_codes {r : Int × Int} {c : Nat} (h : c ∈ itemL r) : c < 128 := by
  unfold itemL at h
  split at h
  · have := nL_dig h
    omega
  · rcases List.mem_append.mp h with h | h
    · have := nL_dig h
      omega
    · rcases List.mem_cons.mp h with h | h
      · omega
      · have := nL_dig h
        omega
theorem cutM_codes {l : Nat} : ∀ (m f : Nat), ∀ r ∈ cutM m f l, ∀ c ∈ r, c < 128
  | 0, _, r, h, _, _ => by cases h
  | m + 1, f, r, h, c, hc => by
    unfold cutM at h
    obtain ⟨i, hi, hr⟩ := List.mem_flatMap.mp h
    split at hr
    · rw [List.mem_singleton.mp hr] at hc
      exact itemL_codes hc
    · obtain ⟨r', hr', rfl⟩ := List.mem_map.mp hr
      rcases List.mem_append.mp hc with hc | hc
      · exact itemL_codes hc
      · rcases List.mem_cons.mp hc with hc | hc
        · omega
        · exact cutM_codes m (f + i + 1) r' hr' c hc
theorem textL_codes : ∀ {I : List (Int × Int)} {c : Nat}, c ∈ textL I → c < 128
  | [], c, h => by cases h
  | [r], c, h => itemL_codes h
  | r :: q :: I, c, h => by
    have h' : c ∈ itemL r ++ ([44] ++ textL (q :: I)) := h
    rcases List.mem_append.mp h' with h | h
    · exact itemL_codes h
    · rcases List.mem_append.mp h with h | h
      · have := List.mem_singleton.mp h
        omega
      · exact textL_codes h
theorem eLS_can {r : List Nat} (h : ∀ c ∈ r, c < 128) : (eLS (SX.S r)).canLay0 = true := by
  have hs : PyData.strOk (SX.S r) = true := by
    unfold PyData.strOk
    rw [← Array.all_toList]
    exact List.all_eq_true.mpr fun c hc => decide_eq_true (by have := h c hc; omega)
  simp [eLS, PyData.canLay0, PyData.canLayAll0, hs]
theorem cutM_txt {l : Nat} (hl : l < 100) : ∀ (m f : Nat), ∀ r ∈ cutM m f l, r.length ≤ 6 * m
  | 0, _, r, h => by cases h
  | m + 1, f, r, h => by
    unfold cutM at h
    obtain ⟨i, hi, hr⟩ := List.mem_flatMap.mp h
    have := List.mem_range.mp hi
    have hit := (itemL_len (r := ((f : Int), ((f + i : Nat) : Int))) (by show (f : Int) < 100; omega) (by show ((f + i : Nat) : Int) < 100; omega)).2
    split at hr
    · rw [List.mem_singleton.mp hr]
      omega
    · obtain ⟨r', hr', rfl⟩ := List.mem_map.mp hr
      have ih := cutM_txt hl m (f + i + 1) r' hr'
      rw [List.length_append, List.length_cons]
      omega
theorem flat_le {α β : Type} {f : α → List β} {c : Nat} : ∀ {l : List α}, (∀ x ∈ l, (f x).length ≤ c) → (l.flatMap f).length ≤ l.length * c
  | [], _ => by simp
  | x :: l, h => by
    have ih := flat_le (l := l) fun y hy => h y (List.mem_cons_of_mem _ hy)
    have h1 := h x (by simp)
    rw [List.flatMap_cons, List.length_append, List.length_cons, Nat.succ_mul]
    omega
theorem cutM_len {l : Nat} : ∀ (m f : Nat), l < f + 5 → (cutM m f l).length ≤ 5 ^ m
  | 0, _, _ => by simp [cutM]
  | m + 1, f, h => by
    unfold cutM
    have h1 := flat_le (l := List.range (l + 1 - f)) (c := 5 ^ m) (f := fun i => if f + i = l then [itemL ((f : Int), ((f + i : Nat) : Int))] else (cutM m (f + i + 1) l).map fun r => itemL ((f : Int), ((f + i : Nat) : Int)) ++ 44 :: r) fun i hi => by
      split
      · exact Nat.one_le_pow _ _ (by decide)
      · rw [List.length_map]
        exact cutM_len m (f + i + 1) (by omega)
    rw [List.length_range] at h1
    have h2 : (l + 1 - f) * 5 ^ m ≤ 5 * 5 ^ m := Nat.mul_le_mul_right _ (by omega)
    rw [Nat.pow_succ, Nat.mul_comm]
    omega
def spCut : Nat → Sp
  | 0 => fun _ _ _ _ => False
  | m + 1 => fun vs H Q _ => ∃ (f l : Nat), vs = [.int f, .int l] ∧ m ≤ 4 ∧ f ≤ l ∧ l < 64 ∧ l ≤ f + m ∧ ∀ H' p, Same H H' → H p = none → H' p = some (.lst (((cutM (m + 1) f l).map SX.S).map V.str)) → Q (.ref p) H'
theorem ok_cut_n (T : Tx K mg) : ∀ n : Nat, Cl P w K mg base n "_law_cut" (spCut n)
  | 0 => by
    obtain ⟨f, fd, F, g, b⟩ := T.d__law_cut.ex
    exact ⟨f, fd, _, ⟨fun vs H Q E h => h.elim, fun A outer s H args us vs Q E _ _ _ _ h => h.elim⟩, g, F.kp, b⟩
  | m + 1 => by
    have ih := ok_cut_n T m
    refine T.d__law_cut.cl sc__law_cut (fun vs H Q E h => ?_) (fun fa cdv A outer s H vs Q E hr h => ?_)
    · obtain ⟨f, l, rfl, _⟩ := h
      rfl
    obtain ⟨f, l, rfl, hm, hfl, hl, hlm, q⟩ := h
    refine ⟨_, (pss_cons (ps_set (i := 2) sc__law_cut.nd rfl (by first | exact Or.inl rfl | exact Or.inr rfl) (pe_lst pa_nil))
      (pss_cons (ps_for PassesOwn.never rfl (pi_range2 (by rfl) T.z_range (pa_cons (pv 0) (pa_cons (pe_op op_add (pv 1) pe_int) pa_nil))) (pg_name (i := 3) sc__law_cut.nd rfl (by first | exact Or.inl rfl | exact Or.inr rfl))
      (pss_cons (ps_set (i := 4) sc__law_cut.nd rfl (by first | exact Or.inl rfl | exact Or.inr rfl) (pe_ifExp (pt_cmpR op_eq (pv 3) (pv 0) (nomark _)) (pe_callTy call_str_int (by rfl) T.z_str (by decide +kernel) (pa_cons (pv 0) pa_nil)) (pe_op op_add_str (pe_op op_add_str (pe_callTy call_str_int (by rfl) T.z_str (by decide +kernel) (pa_cons (pv 0) pa_nil)) pe_str) (pe_callTy call_str_int (by rfl) T.z_str (by decide +kernel) (pa_cons (pv 3) pa_nil)))))
      (pss_one (ps_if (pt_cmpR op_eq (pv 3) (pv 1) (nomark _)) (pss_one (ps_expr (pe_bm PySem.F.plainAttrs_list PySem.F.slot_list_append PySem.F.type_list_append mt_append (pv 2) (pa_cons (pv 4) pa_nil)))) (pss_one (ps_set (i := 2) sc__law_cut.nd rfl (by first | exact Or.inl rfl | exact Or.inr rfl) (pe_op op_cat (pv 2) (pe_lc (own := [("_law_rest", 5)]) (g := (gName 5)) (tt := tYes) (by rfl) sc__law_cut.nd (piL K (pe_k ih hr (pa_cons (pe_op op_add (pv 3) pe_int) (pa_cons (pv 1) pa_nil)) (Nat.le_refl _))) (blkOk_by (own := [("_law_rest", 5)]) (N := n__law_cut) (sc := defScope s__law_cut) (by decide +kernel)) (fun _ _ _ _ _ => (pg_name (i := 5) sc__law_cut.nd rfl (by first | exact Or.inl rfl | exact Or.inr rfl))) (fun _ _ _ _ _ => pts_nil) (fun _ _ _ _ _ => (pe_op op_add_str (pe_op op_add_str (pv 4) pe_str) (pv 5)))))))))))
      (pss_one (ps_ret (pv 2))))), ?_⟩
    refine ⟨Nat.zero_le _, fun o no => ?_⟩
    refine ⟨_, rfl, _, rfl, _, _, rfl, rfl, _, _, rfl, ⟨by omega, by omega, by omega, by omega⟩, ?_⟩
    rw [show ((l : Int) + 1 - (f : Int)).toNat = l + 1 - f by omega]
    have pm : 5 ^ m ≤ 625 := Nat.le_trans (Nat.pow_le_pow_right (by decide) hm) (by decide)
    refine for_range (lo := (f : Int)) (n := l + 1 - f) (fun i σ G => ∃ (o' : Addr) (y3 y4 : Option V), σ = [some (.int f), some (.int l), some (.ref o'), y3, y4, none] ∧ Same H G ∧ H o' = none ∧ G o' = some (.lst ((((List.range i).flatMap fun i => if f + i = l then [itemL ((f : Int), ((f + i : Nat) : Int))] else (cutM m (f + i + 1) l).map fun r => itemL ((f : Int), ((f + i : Nat) : Int)) ++ 44 :: r).map SX.S).map V.str))) ⟨o, none, none, rfl, same_new no, no, upd_same⟩ (fun i σ G hi p => ?_) (fun σ G p => ?_)
    · obtain ⟨o', y3, y4, rfl, sm, fo, ho⟩ := p
      have e0 : (f : Int) + (i : Int) = ((f + i : Nat) : Int) := by omega
      rw [e0]
      have hacc := flat_le (l := List.range i) (c := 625) (f := fun i => if f + i = l then [itemL ((f : Int), ((f + i : Nat) : Int))] else (cutM m (f + i + 1) l).map fun r => itemL ((f : Int), ((f + i : Nat) : Int)) ++ 44 :: r) fun i hi => by
        split
        · exact (by decide : 1 ≤ 625)
        · rw [List.length_map]
          exact Nat.le_trans (cutM_len m (f + i + 1) (by omega)) pm
      rw [List.length_range] at hacc
      generalize hA : ((List.range i).flatMap fun i => if f + i = l then [itemL ((f : Int), ((f + i : Nat) : Int))] else (cutM m (f + i + 1) l).map fun r => itemL ((f : Int), ((f + i : Nat) : Int)) ++ 44 :: r) = acc at ho hacc
      have esucc : ((List.range (i + 1)).flatMap fun i => if f + i = l then [itemL ((f : Int), ((f + i : Nat) : Int))] else (cutM m (f + i + 1) l).map fun r => itemL ((f : Int), ((f + i : Nat) : Int)) ++ 44 :: r) = acc ++ (if f + i = l then [itemL ((f : Int), ((f + i : Nat) : Int))] else (cutM m (f + i + 1) l).map fun r => itemL ((f : Int), ((f + i : Nat) : Int)) ++ 44 :: r) := by
        rw [List.range_succ, List.flatMap_append, hA]
        simp
      rw [esucc]
      have l1 := nL_len (k := (f : Int)) (by omega)
      have l2 := nL_len (k := ((f + i : Nat) : Int)) (by omega)
      have hit := (itemL_len (r := ((f : Int), ((f + i : Nat) : Int))) (by show (f : Int) < 100; omega) (by show ((f + i : Nat) : Int) < 100; omega)).2
      -- the word
      dsimp only [gName]
      refine seq_set (t := tIf _ _ _) (i := 4) (fun v G' => v = .str (SX.S (itemL ((f : Int), ((f + i : Nat) : Int)))) ∧ G' = G) (fun v G' hJ => ?_) (fun Q' hQ' => ?_)
      rotate_left
      · refine ⟨_, rfl, _, rfl, rfl, _, rfl, ite2 (fun c => ?_) (fun c => ?_)⟩
        · have c1 : ((f + i : Nat) : Int) = (f : Int) := V.int.inj (of_decide_eq_true c)
          refine ⟨_, rfl, _, rfl, small_log (by omega) (by omega), ?_⟩
          rw [nL_str (by omega)]
          refine hQ' _ _ ⟨?_, rfl⟩
          unfold itemL
          rw [if_pos c1.symm]
        · have c1 : ¬ ((f + i : Nat) : Int) = (f : Int) := fun z => c (decide_eq_true (congrArg V.int z))
          refine ⟨_, rfl, _, rfl, small_log (by omega) (by omega), ?_⟩
          rw [nL_str (by omega)]
          refine ⟨_, _, rfl, rfl, ?_, ?_⟩
          · rw [SX.S_len, show (Str.ofString "-").length = 1 by decide +kernel]
            exact Nat.le_of_lt (sizeOk (by omega))
          refine ⟨_, rfl, _, rfl, small_log (by omega) (by omega), ?_⟩
          rw [nL_str (by omega), show Str.ofString "-" = SX.S [45] by decide +kernel, SX.S_cat]
          refine ⟨_, _, rfl, rfl, ?_, ?_⟩
          · rw [SX.S_len, SX.S_len, List.length_append]
            exact Nat.le_of_lt (sizeOk (by simp only [List.length_cons, List.length_nil]; omega))
          rw [SX.S_cat]
          refine hQ' _ _ ⟨?_, rfl⟩
          unfold itemL
          rw [if_neg (fun z => c1 z.symm), List.append_assoc]
          rfl
      obtain ⟨rfl, rfl⟩ := hJ
      generalize itemL ((f : Int), ((f + i : Nat) : Int)) = wd at hit
      refine ⟨_, rfl, _, rfl, rfl, _, rfl, ite2 (fun c => ?_) (fun c => ?_)⟩
      · have c1 : f + i = l := by
          have := V.int.inj (of_decide_eq_true c)
          omega
        rw [if_pos c1]
        refine ⟨_, rfl, .inl ⟨rfl, _, SqL.of ho⟩, _, rfl, o', _, _, rfl, rfl, ho, sizeOk (by simp only [List.length_map]; omega), o', _, _, rfl, same_upd sm fo, fo, ?_⟩
        rw [upd_same, List.map_append, List.map_append]
        rfl
      · have c1 : ¬ f + i = l := fun z => c (decide_eq_true (congrArg V.int (by omega)))
        rw [if_neg c1]
        cases m with
        | zero => omega
        | succ m' =>
          refine ⟨_, rfl, _, rfl, _, _, rfl, rfl, _, rfl, f + i + 1, l, rfl, by omega, by omega, hl, by omega, fun G1 p1 s1 f1 h1 => ?_⟩
          have hcl := cutM_len (l := l) (m' + 1) (f + i + 1) (by omega)
          have hct := cutM_txt (l := l) (by omega) (m' + 1) (f + i + 1)
          generalize cutM (m' + 1) (f + i + 1) l = cs at h1 hcl hct
          refine ⟨p1, rfl, ⟨_, SqL.of h1⟩, fun D nD => lcN_list (fun j => (cs[j]?).bind fun r => some (.str (SX.S (wd ++ 44 :: r)))) (SqL.of h1) nD (by simp only [List.length_map]; omega) (fun j x G2 N1 N0 hx s2 c1 c0 => ?_) (fun G2 s2 lb => ?_)⟩
          · obtain ⟨z', hz', rfl⟩ := map_get hx
            rw [List.getElem?_map] at hz'
            cases e : cs[j]? with
            | none => rw [e] at hz'; cases hz'
            | some r =>
              rw [e] at hz'
              obtain rfl := Option.some.inj hz'
              have hrl := hct r (List.mem_of_getElem? e)
              refine ⟨rfl, yesT ⟨_, rfl, _, _, rfl, rfl, ?_, _, rfl, _, _, rfl, rfl, ?_, ?_⟩⟩
              · rw [SX.S_len, show (Str.ofString ",").length = 1 by decide +kernel]
                exact Nat.le_of_lt (sizeOk (by omega))
              · rw [show Str.ofString "," = SX.S [44] by decide +kernel, SX.S_cat, SX.S_len, SX.S_len, List.length_append]
                exact Nat.le_of_lt (sizeOk (by simp only [List.length_cons, List.length_nil]; omega))
              · rw [show Str.ofString "," = SX.S [44] by decide +kernel, SX.S_cat, SX.S_cat, List.append_assoc]
                exact c1 _ G2 _ (Same.refl _) (by rw [e]; rfl) (.str _)
          rw [List.length_map, List.length_map, list_map] at lb
          have ec : (cs.map fun r => PyData.str (SX.S (wd ++ 44 :: r))) = ((cs.map fun r => wd ++ 44 :: r).map SX.S).map PyData.str := by
            rw [List.map_map, List.map_map]
            rfl
          rw [ec] at lb
          have s12 := s1.trans s2
          refine ⟨o', D, _, _, rfl, rfl, s12 _ _ ho, lb.strs, Nat.le_of_lt (sizeOk (by simp only [List.length_map]; omega)), fun p np => ⟨p, _, _, rfl, sm.trans (s12.trans (same_new np)), sm.free (s12.free np), ?_⟩⟩
          rw [upd_same, List.map_append, List.map_append]
    · obtain ⟨o', y3, y4, rfl, sm, fo, ho⟩ := p
      exact ⟨_, rfl, q G o' sm fo ho⟩
theorem ok__law_cut (T : Tx K mg) : Cl P w K mg base 5 "_law_cut" (spCut 5) := ok_cut_n T 5
def spShort (K : PySem.W.Frag) : Sp := fun vs H Q _ => ∃ (v : V) (T : List (Int × Int)), vs = [v] ∧ Dp K H v (eR T) ∧ T.length ≤ 64 ∧ (∀ r ∈ T, 0 ≤ r.1 ∧ r.1 ≤ r.2 ∧ r.2 < 64) ∧ ∀ H', Same H H' → Q (.str (SX.S (textL (itemsOf T)))) H'
theorem itemsR_text {r : Int × Int} (h0 : 0 ≤ r.1) (h1 : r.1 ≤ r.2) (h2 : r.2 < 64) : (textL (itemsR r)).length ≤ 5 := by
  rw [textL_len]
  unfold itemsR
  split
  · have hc : (r.2 + 1 - r.1).toNat = 1 ∨ (r.2 + 1 - r.1).toNat = 2 := by omega
    have l1 : ∀ i : Int, r.1 + i < 100 → (itemL (r.1 + i, r.1 + i)).length ≤ 2 := fun i hi => by
      unfold itemL
      rw [if_pos rfl]
      exact nL_len hi
    rcases hc with e | e
    · rw [e]
      have := l1 0 (by omega)
      simp [lenI, List.range_succ] at this ⊢
      omega
    · rw [e]
      have a := l1 0 (by omega)
      have b := l1 1 (by omega)
      simp [lenI, List.range_succ] at a b ⊢
      omega
  · have := (itemL_len (r := r) (by omega) (by omega)).2
    simp [lenI]
    omega
theorem ok__law_shortest (T : Tx K mg) : Cl P w K mg base 6 "_law_shortest" (spShort K) := by
  refine T.d__law_shortest.cl sc__law_shortest (fun vs H Q E h => ?_) (fun f cdv A outer s H vs Q E hr h => ?_)
  · obtain ⟨v, TT, rfl, _⟩ := h
    rfl
  obtain ⟨v, TT, rfl, hD, hl, hk, q⟩ := h
  obtain ⟨a, xs, rfl, hS, hA⟩ := dp_list hD
  have hxl : xs.length = TT.length := by rw [dpAll_len hA, List.length_map]
  refine ⟨_, (pss_cons (ps_set (i := 1) sc__law_shortest.nd rfl (by first | exact Or.inl rfl | exact Or.inr rfl) (pe_lst pa_nil))
      (pss_cons (ps_for PassesOwn.never rfl (piL K (pv 0)) (pgT K (by rfl) (pgs_cons (pg_name (i := 2) sc__law_shortest.nd rfl (by first | exact Or.inl rfl | exact Or.inr rfl)) (pgs_cons (pg_name (i := 3) sc__law_shortest.nd rfl (by first | exact Or.inl rfl | exact Or.inr rfl)) pgs_nil)))
      (pss_cons (ps_set (i := 4) sc__law_shortest.nd rfl (by first | exact Or.inl rfl | exact Or.inr rfl) (pe_lst (pa_cons (pe_op op_add_str (pe_op op_add_str (pe_callTy call_str_int (by rfl) T.z_str (by decide +kernel) (pa_cons (pv 2) pa_nil)) pe_str) (pe_callTy call_str_int (by rfl) T.z_str (by decide +kernel) (pa_cons (pv 3) pa_nil))) pa_nil)))
      (pss_cons (ps_if (pt_cmpR op_lt (pe_op op_sub (pv 3) (pv 2)) pe_int (nomark _)) (pss_one (ps_set (i := 4) sc__law_shortest.nd rfl (by first | exact Or.inl rfl | exact Or.inr rfl) (pe_k (ok__law_cut T) hr (pa_cons (pv 2) (pa_cons (pv 3) pa_nil))))) pss_nil)
      (pss_one (ps_expr (pe_bm PySem.F.plainAttrs_list PySem.F.slot_list_append PySem.F.type_list_append mt_append (pv 1) (pa_cons (pe_ix (ixT K) (pe_callB (minDK K (by rfl) (hu65 hr)) (by rfl) T.z_min (by decide +kernel) (pa_cons (pe_lc (own := [("_law_word", 5)]) (g := (gName 5)) (tt := tYes) (by rfl) sc__law_shortest.nd (piL K (pv 4)) (blkOk_by (own := [("_law_word", 5)]) (N := n__law_shortest) (sc := defScope s__law_shortest) (by decide +kernel)) (fun _ _ _ _ _ => (pg_name (i := 5) sc__law_shortest.nd rfl (by first | exact Or.inl rfl | exact Or.inr rfl))) (fun _ _ _ _ _ => pts_nil) (fun _ _ _ _ _ => (pe_tup (pa_cons (pe_callB call_len_str (by rfl) T.z_len (by decide +kernel) (pa_cons (pv 5) pa_nil)) (pa_cons (pv 5) pa_nil))))) pa_nil)) pe_int (fun _ _ => rfl)) pa_nil)))))))
      (pss_one (ps_ret (pe_join pe_str (pv 1)))))), ?_⟩
  refine ⟨Nat.zero_le _, fun o no => ?_⟩
  refine ⟨_, rfl, a, rfl, ⟨_, (same_new no).seq hS⟩, for_list (xs := xs) (fun i σ G => ∃ (y2 y3 y4 : Option V), σ = [some (.ref a), some (.ref o), y2, y3, y4, none] ∧ Same H G ∧ G o = some (.lst (((TT.take i).map fun r => SX.S (textL (itemsR r))).map V.str))) ⟨none, none, none, rfl, same_new no, upd_same⟩ (fun i σ G _ p => ?_) (fun i x σ G hx p => ?_) (fun σ G p => ?_)⟩
  · obtain ⟨_, _, _, _, sm, _⟩ := p
    exact sm.seq hS
  · obtain ⟨y2, y3, y4, rfl, sm, ho⟩ := p
    obtain ⟨d, hd, hx'⟩ := dpAll_get hA hx
    obtain ⟨⟨rf, rl⟩, hr', rfl⟩ := get_map hd
    obtain ⟨t, rfl, hT⟩ := dp_pair hx'
    obtain ⟨k1, k2, k3⟩ := hk _ (List.mem_of_getElem? hr')
    have hi : i < TT.length := (List.getElem?_eq_some_iff.mp hr').1
    dsimp only at k1 k2 k3 hT
    obtain ⟨fn, rfl⟩ := Int.eq_ofNat_of_zero_le k1
    obtain ⟨ln, rfl⟩ := Int.eq_ofNat_of_zero_le (show 0 ≤ rl by omega)
    have l1 := nL_len (k := (fn : Int)) (by omega)
    have l2 := nL_len (k := (ln : Int)) (by omega)
    refine ⟨t, _, rfl, same_tup sm hT, rfl, _, _, rfl, _, _, rfl, rfl, ?_⟩
    -- one text
    refine ⟨_, rfl, _, rfl, small_log (by omega) (by omega), ?_⟩
    rw [nL_str (by omega)]
    refine ⟨_, _, rfl, rfl, ?_, ?_⟩
    · rw [SX.S_len, show (Str.ofString "-").length = 1 by decide +kernel]
      exact Nat.le_of_lt (sizeOk (by omega))
    refine ⟨_, rfl, _, rfl, small_log (by omega) (by omega), ?_⟩
    rw [nL_str (by omega), show Str.ofString "-" = SX.S [45] by decide +kernel, SX.S_cat]
    refine ⟨_, _, rfl, rfl, ?_, ?_⟩
    · rw [SX.S_len, SX.S_len, List.length_append]
      exact Nat.le_of_lt (sizeOk (by simp; omega))
    rw [SX.S_cat]
    refine ⟨by show 1 ≤ sizeLine; decide, fun s0 ns0 => ?_⟩
    have sa : Same G (upd G s0 (.lst [.str (SX.S (nL (fn : Int) ++ [45] ++ nL (ln : Int)))])) := same_new ns0
    have hs0 : upd G s0 (.lst [.str (SX.S (nL (fn : Int) ++ [45] ++ nL (ln : Int)))]) s0 = some (.lst [.str (SX.S (nL (fn : Int) ++ [45] ++ nL (ln : Int)))]) := upd_same
    generalize upd G s0 (.lst [.str (SX.S (nL (fn : Int) ++ [45] ++ nL (ln : Int)))]) = G1 at sa hs0
    -- some
    dsimp only [gName]
    refine seq_join (t := tIfS _ _ _) (fun σ' G2 => ∃ so : Addr, σ' = [some (.ref a), some (.ref o), some (.int fn), some (.int ln), some (.ref so), none] ∧ Same G G2 ∧ G2 so = some (.lst (((someM fn ln).map SX.S).map V.str))) (fun σ' G2 hJ => ?_) (fun N hN => ?_)
    · obtain ⟨so, rfl, s2, hso⟩ := hJ
      have ho2 := s2 _ _ ho
      have hmin := some_min (f := fn) (l := ln) (by omega) (by omega)
      have hsl : (someM fn ln).length ≤ 3125 ∧ ∀ r ∈ someM fn ln, r.length ≤ 30 := by
        unfold someM
        split
        · rename_i c
          exact ⟨cutM_len 5 fn c, cutM_txt (by omega) 5 fn⟩
        · refine ⟨by show 1 ≤ 3125; decide, fun r hr => ?_⟩
          rw [List.mem_singleton.mp hr]
          have := (itemL_len (r := ((fn : Int), (ln : Int))) (by show (fn : Int) < 100; omega) (by show (ln : Int) < 100; omega)).2
          omega
      have hSmall : ∀ r ∈ someM fn ln, (eLS (SX.S r)).canLay0 = true := fun r hr => eLS_can fun c hc => by
        unfold someM at hr
        split at hr
        · exact cutM_codes 5 fn r hr c hc
        · rw [List.mem_singleton.mp hr] at hc
          exact itemL_codes hc
      have hne := some_ne (f := fn) (l := ln) (by omega)
      generalize someM fn ln = cs at hso hmin hsl hne hSmall
      cases cs with
      | nil => exact absurd rfl hne
      | cons c0 cs =>
        refine ⟨_, rfl, .inl ⟨rfl, _, SqL.of ho2⟩, _, rfl, so, rfl, ⟨_, SqL.of hso⟩, fun D nD => lcN_list (fun j => ((c0 :: cs)[j]?).bind fun r => some (eLS (SX.S r))) (SqL.of hso) nD (by simp only [List.length_map]; omega) (fun j x G3 N1 N0 hx s3 c1 c2 => ?_) (fun G3 s3 lb => ?_)⟩
        · obtain ⟨z', hz', rfl⟩ := map_get hx
          rw [List.getElem?_map] at hz'
          cases e : (c0 :: cs)[j]? with
          | none => rw [e] at hz'; cases hz'
          | some r =>
            rw [e] at hz'
            obtain rfl := Option.some.inj hz'
            have hrl := hsl.2 r (List.mem_of_getElem? e)
            refine ⟨rfl, yesT ⟨_, rfl, _, rfl, by rw [SX.S_len]; exact Nat.le_of_lt (sizeOk (by omega)), _, rfl, by show 2 ≤ sizeLine; decide, fun t nt => c1 _ _ _ (same_new nt) (by rw [e]; rfl) (.tup (xs := _) ?_ (.cons (.int _) (.cons (.str _) .nil)))⟩⟩
            rw [fr_new nt]
            exact upd_same
        rw [List.length_map, List.length_map, list_map] at lb
        obtain ⟨_, zs, hz, hzA⟩ := lb
        have dz : DpAll K G3 zs (((c0 :: cs)).map fun r => eLS (SX.S r)) := same_dpAll (del_same.trans fr_same) hzA.dp
        have hcan : PyData.canLayAll0 ((c0 :: cs).map fun r => eLS (SX.S r)) = true ∧ PyData.depthAll ((c0 :: cs).map fun r => eLS (SX.S r)) ≤ 60 := by
          refine ⟨can_all fun d hd => ?_, depth_all fun d hd => ?_⟩
          · obtain ⟨r, hr, rfl⟩ := List.mem_map.mp hd
            exact hSmall r hr
          · obtain ⟨r, _, rfl⟩ := List.mem_map.mp hd
            simp [eLS, PyData.depth, PyData.depthAll]
        refine ⟨D, zs, eLS (SX.S c0), cs.map fun r => eLS (SX.S r), rfl, SqL.of hz, dz, alike_eLS (c0 :: cs), hcan.1, hcan.2, fun jj y hy hj => ?_⟩
        rw [minD_eLS] at hj
        obtain ⟨d', hd', hn'⟩ := dpAll_get dz hy
        have hj' : ((c0 :: cs).map fun r => eLS (SX.S r))[jj]? = some (eLS (SX.S (minT c0 cs))) := hj
        rw [hj'] at hd'
        obtain rfl := Option.some.inj hd'
        have emin : minT c0 cs = textL (itemsR ((fn : Int), (ln : Int))) := hmin
        rw [emin] at hn'
        obtain ⟨tt, ts, rfl, hTt, hTA⟩ := dp_tuple hn'
        cases hTA with
        | cons e1 hTA =>
        cases hTA with
        | cons e2 hTA =>
        cases hTA
        obtain rfl := dp_str e2
        refine ⟨tt, _, 1, _, rfl, rfl, hTt, rfl, o, _, _, rfl, rfl, s3 _ _ ho2, sizeOk (by simp only [List.length_map, List.length_take]; omega), _, _, _, rfl, same_upd (sm.trans (s2.trans s3)) no, ?_⟩
        rw [upd_same, List.take_add_one, hr', List.map_append, List.map_append]
        rfl
    · refine ⟨_, rfl, _, rfl, _, _, rfl, rfl, _, _, rfl, rfl, _, rfl, ite2 (fun c => ?_) (fun c => ?_)⟩
      · have c1 : (ln : Int) - (fn : Int) < 5 := of_decide_eq_true c
        refine ⟨_, rfl, _, rfl, fn, ln, rfl, (by decide : 4 ≤ 4), by omega, by omega, (show ln ≤ fn + 4 by omega), fun G2 p2 s2 f2 h2 => hN _ _ ⟨p2, rfl, sa.trans s2, ?_⟩⟩
        unfold someM
        rw [if_pos (by omega)]
        exact h2
      · have c1 : ¬ (ln : Int) - (fn : Int) < 5 := fun z => c (decide_eq_true z)
        refine hN _ _ ⟨s0, rfl, sa, ?_⟩
        unfold someM itemL
        rw [if_neg (by omega), if_neg (by omega), hs0, List.append_assoc]
        rfl
  · obtain ⟨y2, y3, y4, rfl, sm, ho⟩ := p
    rw [hxl, List.take_length] at ho
    refine ⟨⟨_, rfl⟩, _, rfl, _, o, _, rfl, rfl, .inl (SqL.of ho), ?_, ?_⟩
    · have : ∀ J : List (Int × Int), (∀ r ∈ J, 0 ≤ r.1 ∧ r.1 ≤ r.2 ∧ r.2 < 64) → ((J.map fun r => SX.S (textL (itemsR r))).map (·.length)).sum ≤ 5 * J.length := by
        intro J
        induction J with
        | nil => intro _; exact Nat.le_refl _
        | cons r J ih =>
          intro hJ
          have := ih fun q hq => hJ q (List.mem_cons_of_mem _ hq)
          obtain ⟨b1, b2, b3⟩ := hJ r (by simp)
          have h1 := itemsR_text b1 b2 b3
          rw [List.map_cons, List.map_cons, List.sum_cons, SX.S_len, List.length_cons]
          omega
      have h1 := this TT hk
      rw [List.length_map, show (Str.ofString ",").length = 1 by decide +kernel]
      omega
    · have ej : Txt.join (Str.ofString ",") (TT.map fun r => SX.S (textL (itemsR r))) = SX.S (textL (itemsOf TT)) := by
        have e : (TT.map fun r => SX.S (textL (itemsR r))) = (TT.map fun r => textL (itemsR r)).map SX.S := by rw [List.map_map]; rfl
        rw [e, show Str.ofString "," = SX.S [44] by decide +kernel, SX.join_S, join_runs fun r hr => (hk r hr).2.1]
      rw [ej]
      exact q G sm
end
section
variable {P : Program} {w : World} {K : PySem.W.Frag} {mg : Str → Option Value} {base : Heap}
def spLaw (K : PySem.W.Frag) : Sp := fun vs H Q _ => ∃ (a : Addr) (ns : List Int), vs = [.ref a] ∧ SqL K H a (ns.map V.int) ∧ ns.length ≤ 63 ∧ ∀ H', Q (.bl true) H'
theorem chk1 : (List.range 5).all (fun t => (lvl (alph 1) t).all (okT 1)) = true := by decide +kernel
theorem chk2 : (List.range 5).all (fun t => (lvl (alph 2) t).all (okT 2)) = true := by decide +kernel
theorem chk3 : (List.range 5).all (fun t => (lvl (alph 3) t).all (okT 3)) = true := by decide +kernel
theorem chk4 : (List.range 5).all (fun t => (lvl (alph 4) t).all (okT 4)) = true := by decide +kernel
theorem chk {n t : Nat} (h1 : 1 ≤ n) (h4 : n ≤ 4) (ht : t ≤ 4) {x : List Nat} (hx : x ∈ lvl (alph n) t) : okT n x = true := by
  have m : t ∈ List.range 5 := List.mem_range.mpr (by omega)
  have c : n = 1 ∨ n = 2 ∨ n = 3 ∨ n = 4 := by omega
  rcases c with rfl | rfl | rfl | rfl
  · exact List.all_eq_true.mp (List.all_eq_true.mp chk1 t m) x hx
  · exact List.all_eq_true.mp (List.all_eq_true.mp chk2 t m) x hx
  · exact List.all_eq_true.mp (List.all_eq_true.mp chk3 t m) x hx
  · exact List.all_eq_true.mp (List.all_eq_true.mp chk4 t m) x hx
theorem alph_str {n : Nat} (h1 : 1 ≤ n) (h4 : n ≤ 4) : cutS (Str.ofString "0123") none (some (n : Int)) ++ Str.ofString "-,^" = SX.S (alph n) := by
  have c : n = 1 ∨ n = 2 ∨ n = 3 ∨ n = 4 := by omega
  rcases c with rfl | rfl | rfl | rfl <;> decide +kernel
theorem lvl_len {a : List Nat} (ha : a.length ≤ 7) : ∀ t : Nat, (lvl a t).length ≤ 7 ^ t
  | 0 => Nat.le_refl _
  | t + 1 => by
    have ih := lvl_len ha t
    have h := flat_le (l := lvl a t) (c := 7) (f := fun x => a.map fun c => x ++ [c]) fun x _ => by rw [List.length_map]; exact ha
    have h2 : (lvl a t).length * 7 ≤ 7 ^ t * 7 := Nat.mul_le_mul_right _ ih
    unfold lvl
    rw [Nat.pow_succ]
    omega
theorem lvl_txt {a : List Nat} : ∀ (t : Nat), ∀ x ∈ lvl a t, x.length = t
  | 0, x, h => by
    rw [List.mem_singleton.mp h]
    rfl
  | t + 1, x, h => by
    unfold lvl at h
    obtain ⟨y, hy, hx⟩ := List.mem_flatMap.mp h
    obtain ⟨c, _, rfl⟩ := List.mem_map.mp hx
    rw [List.length_append, lvl_txt t y hy]
    rfl
def lv (n t : Nat) : List (List Nat) := if t ≤ 4 then lvl (alph n) t else []
theorem wl_read {n : Nat} (hn : n ≤ 64) {R : List (Int × Int)} (hk : Ok n R) : readM n (wL n (allIn n R)) = some (allIn n R) ∧ (wL n (allIn n R)).length ≤ 6001 := by
  obtain ⟨neg, I, e, oI, _, hI⟩ := wText_is hn R
  rw [wText_wL hk] at e
  have e2 := SX.S_inj e
  rw [e2]
  refine ⟨?_, ?_⟩
  · rw [readM_items oI]
    congr 1
    refine List.filter_congr fun k hk' => ?_
    have := mem_upTo.mp hk'
    exact hI k this.1 this.2
  · have := text_len (I := I) (fun r hr => by have := oI.1 r hr; omega) (Nat.le_trans (okI_len oI) (by omega))
    rw [List.length_append]
    cases neg <;> simp <;> omega
theorem tup_ls {H : Hp} {t : Addr} {x : List Nat} (h : H t = none) : NewV H (upd H t (.tup [.int ((SX.S x).length : Int), .str (SX.S x)])) (.ref t) (eLS (SX.S x)) := by
  refine .tup (xs := [.int ((SX.S x).length : Int), .str (SX.S x)]) ?_ (.cons (.int _) (.cons (.str _) .nil))
  rw [fr_new h]
  exact upd_same
set_option maxHeartbeats 8000000 in
theorem ok_law (T : Tx K mg) {f : Addr} {fd : FuncData} (F : Fun K "law" "law" s_law f fd) : FnOk P w K mg base CX0 9 f fd ["_law_script"] (spLaw K) := by
  refine F.ok sc_law (fun vs H Q E h => ?_) (fun cdv A outer s H vs Q E hr h => ?_)
  · obtain ⟨a, ns, rfl, _⟩ := h
    rfl
  obtain ⟨a, ns, rfl, hS, h63, q⟩ := h
  have mS : "str" ∈ ["bool", "int", "str", "tuple", "list"] := by decide
  refine ⟨_, (pss_cons (ps_set (i := 1) sc_law.nd rfl (by first | exact Or.inl rfl | exact Or.inr rfl) (pe_k (ok__law_dice T) hr (pa_cons (pv 0) (pa_cons pe_int pa_nil))))
      (pss_cons (ps_set (i := 2) sc_law.nd rfl (by first | exact Or.inl rfl | exact Or.inr rfl) (pe_ix (ixL K) (pe_lst (pa_cons (pe_k (ok__law_size T) hr (pa_cons (pv 1) pa_nil)) (pa_cons (pe_op op_add pe_int (pe_k (ok__law_off T) hr (pa_cons (pv 1) (pa_cons pe_int pa_nil)))) pa_nil))) (pe_callTy call_int1 (by rfl) T.z_int (by decide +kernel) (pa_cons (pe_cmpR op_eq (pe_k (ok__law_off T) hr (pa_cons (pv 1) (pa_cons pe_int pa_nil))) pe_int (nomark _)) pa_nil)) (fun _ _ => rfl)))
      (pss_cons (ps_set (i := 3) sc_law.nd rfl (by first | exact Or.inl rfl | exact Or.inr rfl) (pe_k (ok__law_set T) hr (pa_cons (pv 1) (pa_cons (pv 2) (pa_cons pe_int pa_nil)))))
      (pss_cons (ps_set (i := 4) sc_law.nd rfl (by first | exact Or.inl rfl | exact Or.inr rfl) (pe_k (ok__law_members T) hr (pa_cons (pv 2) (pa_cons (pv 3) pa_nil))))
      (pss_cons (ps_set (i := 5) sc_law.nd rfl (by first | exact Or.inl rfl | exact Or.inr rfl) (pe_k (ok_written T) hr (pa_cons (pv 2) (pa_cons (pe_callTy (listOf K) (by rfl) T.z_list (by decide +kernel) (pa_cons (pv 3) pa_nil)) pa_nil))))
      (pss_cons (ps_if (PW.pt (pw_or (pt_not (pt_val (pe_callB (isD K) (by rfl) T.z_isinstance (by decide +kernel) (pa_cons (pv 5) (pa_cons (pe_bltn (v := .ty "str") (by rfl) T.z_str (by decide +kernel) rfl) pa_nil))))) (pw_or1 (pt_cmpR (neD K hr.units) (pe_k (ok__law_read T) hr (pa_cons (pv 2) (pa_cons (pv 5) pa_nil))) (pv 4) (nomark _))))) (pss_one (ps_ret pe_bl)) pss_nil)
      (pss_cons (ps_set (i := 6) sc_law.nd rfl (by first | exact Or.inl rfl | exact Or.inr rfl) (pe_lst (pa_cons (pe_k (ok__law_shortest T) hr (pa_cons (pe_k (ok__law_told T) hr (pa_cons (pv 4) pa_nil)) pa_nil)) (pa_cons (pe_op op_add_str pe_str (pe_k (ok__law_shortest T) hr (pa_cons (pe_k (ok__law_told T) hr (pa_cons (pe_k (ok__law_others T) hr (pa_cons (pv 2) (pa_cons (pv 4) pa_nil))) pa_nil)) pa_nil))) pa_nil))))
      (pss_cons (ps_if (pt_cmpR op_ne (pv 5) (pe_ix (ixT K) (pe_callB (minDK K (by rfl) (hu65 hr)) (by rfl) T.z_min (by decide +kernel) (pa_cons (pe_lc (own := [("_law_text", 7)]) (g := (gName 7)) (tt := tYes) (by rfl) sc_law.nd (piL K (pv 6)) (blkOk_by (own := [("_law_text", 7)]) (N := n_law) (sc := defScope s_law) (by decide +kernel)) (fun _ _ _ _ _ => (pg_name (i := 7) sc_law.nd rfl (by first | exact Or.inl rfl | exact Or.inr rfl))) (fun _ _ _ _ _ => pts_nil) (fun _ _ _ _ _ => (pe_tup (pa_cons (pe_callB call_len_str (by rfl) T.z_len (by decide +kernel) (pa_cons (pv 7) pa_nil)) (pa_cons (pv 7) pa_nil))))) pa_nil)) pe_int (fun _ _ => rfl)) (nomark _)) (pss_one (ps_ret pe_bl)) pss_nil)
      (pss_cons (ps_if (pt_cmpR op_gt (pv 2) pe_int (nomark _)) (pss_one (ps_ret pe_bl)) pss_nil)
      (pss_cons (ps_set (i := 8) sc_law.nd rfl (by first | exact Or.inl rfl | exact Or.inr rfl) (pe_lst (pa_cons pe_str pa_nil)))
      (pss_cons (ps_for PassesOwn.never rfl (pi_range1 (by rfl) T.z_range (pa_cons (pe_op op_add (pe_callB (call_min2 rfl) (by rfl) T.z_min (by decide +kernel) (pa_cons pe_int (pa_cons (pe_callB call_len_str (by rfl) T.z_len (by decide +kernel) (pa_cons (pv 5) pa_nil)) pa_nil))) pe_int) pa_nil)) (pg_name (i := 9) sc_law.nd rfl (by first | exact Or.inl rfl | exact Or.inr rfl))
      (pss_cons (ps_for PassesOwn.never rfl (piL K (pv 8)) (pg_name (i := 7) sc_law.nd rfl (by first | exact Or.inl rfl | exact Or.inr rfl))
      (pss_one (ps_if (PW.pt (pw_and (pt_cmpR (ltDK K (hu65 hr)) (pe_tup (pa_cons (pe_callB call_len_str (by rfl) T.z_len (by decide +kernel) (pa_cons (pv 7) pa_nil)) (pa_cons (pv 7) pa_nil))) (pe_tup (pa_cons (pe_callB call_len_str (by rfl) T.z_len (by decide +kernel) (pa_cons (pv 5) pa_nil)) (pa_cons (pv 5) pa_nil))) (nomark _)) (pw_and1 (pt_cmpR (eqD K hr.units) (pe_k (ok__law_read T) hr (pa_cons (pv 2) (pa_cons (pv 7) pa_nil))) (pv 4) (nomark _))))) (pss_one (ps_ret pe_bl)) pss_nil)))
      (pss_cons (ps_set (i := 10) sc_law.nd rfl (by first | exact Or.inl rfl | exact Or.inr rfl) (pe_lst pa_nil))
      (pss_cons (ps_for PassesOwn.never rfl (piL K (pv 8)) (pg_name (i := 7) sc_law.nd rfl (by first | exact Or.inl rfl | exact Or.inr rfl))
      (pss_one (ps_set (i := 10) sc_law.nd rfl (by first | exact Or.inl rfl | exact Or.inr rfl) (pe_op op_cat (pv 10) (pe_lc (own := [("_law_sign", 11)]) (g := (gName 11)) (tt := tYes) (by rfl) sc_law.nd (pi_str (pe_op op_add_str (pe_slice sl_str pe_str po_none (po_some (pv 2))) pe_str)) (blkOk_by (own := [("_law_sign", 11)]) (N := n_law) (sc := defScope s_law) (by decide +kernel)) (fun _ _ _ _ _ => (pg_name (i := 11) sc_law.nd rfl (by first | exact Or.inl rfl | exact Or.inr rfl))) (fun _ _ _ _ _ => pts_nil) (fun _ _ _ _ _ => (pe_op op_add_str (pv 7) (pv 11))))))))
      (pss_one (ps_set (i := 8) sc_law.nd rfl (by first | exact Or.inl rfl | exact Or.inr rfl) (pe_ifExp (pt_cmpR op_lt (pv 9) pe_int (nomark _)) (pv 10) (pe_lst pa_nil))))))))
      (pss_one (ps_ret pe_bl))))))))))))), ?_⟩
  refine ⟨_, rfl, a, ns, 0, rfl, hS, h63, Int.le_refl 0, fun H1 d D s1 nd hd k1 => ?_⟩
  -- a size
  refine ⟨_, rfl, d, D, rfl, hd, k1, fun n0 H2 D2 h01 h02 sb2 hd2 k2 => ?_⟩
  refine ⟨_, rfl, d, 4, D2, rfl, by decide, by decide, hd2, k2, fun r D3 r0 r1 k3 => ⟨_, _, rfl, rfl, by show 2 ≤ sizeLine; decide, fun p np => ?_⟩⟩
  have npd : d ≠ p := ne_of_none upd_same np
  refine ⟨_, rfl, d, 4, D3, rfl, by decide, by decide, by rw [upd_ne npd]; exact upd_same, k3, fun r2 D4 r20 r21 k4 => ⟨rfl, .inr ⟨_, rfl, ?_⟩⟩⟩
  have hp : upd (upd (upd H2 d (.lst (D3.map V.int))) p (.lst [.int n0, .int (1 + r)])) d (.lst (D4.map V.int)) p = some (.lst [.int n0, .int (1 + r)]) := by
    rw [upd_ne npd.symm]
    exact upd_same
  have sb4 : SameBut d H1 (upd (upd (upd H2 d (.lst (D3.map V.int))) p (.lst [.int n0, .int (1 + r)])) d (.lst (D4.map V.int))) := sb2.trans ((SameBut.upd.trans (SameBut.of (same_new np))).trans SameBut.upd)
  have hd4 : upd (upd (upd H2 d (.lst (D3.map V.int))) p (.lst [.int n0, .int (1 + r)])) d (.lst (D4.map V.int)) d = some (.lst (D4.map V.int)) := upd_same
  generalize upd (upd (upd H2 d (.lst (D3.map V.int))) p (.lst [.int n0, .int (1 + r)])) d (.lst (D4.map V.int)) = H4 at hp sb4 hd4
  obtain ⟨n, hat, hn1, hn2⟩ : ∃ n : Nat, atI [V.int n0, .int (1 + r)] (if decide (V.int r2 = V.int 0) = true then 1 else 0) = some (.int n) ∧ 1 ≤ n ∧ n ≤ 64 := by
    by_cases c : decide (V.int r2 = V.int 0) = true
    · rw [if_pos c]
      refine ⟨(1 + r).toNat, ?_, by omega, by omega⟩
      have e : (1 : Int) + r = ((1 + r).toNat : Nat) := by omega
      rw [← e]
      rfl
    · rw [if_neg c]
      exact ⟨n0, rfl, h01, h02⟩
  refine ⟨p, _, _, _, rfl, rfl, SqL.of hp, hat, ?_⟩
  -- a set, its numbers, its text
  refine ⟨_, rfl, _, rfl, d, D4, n, 40, rfl, hn1, hn2, by decide, hd4, k4, fun H5 D5 v R sb5 hd5 k5 nv5 oR lR => ?_⟩
  refine ⟨_, rfl, _, rfl, n, v, R, rfl, hn1, hn2, nv5.dp, oR, fun H6 p6 s6 nv6 => ?_⟩
  obtain ⟨av, vx, hvr, hVx, hVa⟩ := dp_list (K := K) (same_dp s6 nv5.dp)
  refine ⟨_, rfl, _, rfl, av, vx, hvr ▸ rfl, .inl hVx, fun l nl => ?_⟩
  have s7 := same_new (o := .lst vx) nl
  refine ⟨n, _, R, rfl, hn1, hn2, .lst (SqL.of upd_same) (same_dpAll s7 hVa), oR, fun H8 s8 => ?_⟩
  have s68 := s7.trans s8
  rw [wText_wL oR]
  obtain ⟨hrd, hwl⟩ := wl_read hn2 oR
  have rp : (allIn n R).Pairwise (· < ·) := rising_filter _
  have hSl : (allIn n R).length ≤ n := allIn_len n _
  have hSm : ∀ k ∈ allIn n R, 0 ≤ k ∧ k < (n : Int) := fun k hk => mem_upTo.mp (List.mem_filter.mp hk).1
  have p6d : ∀ G : Hp, Same H6 G → Dp K G p6 (eI (allIn n R)) := fun G s => same_dp s nv6.dp
  have ewl : wL n (allIn n R) = minT (textL (itemsOf (told (allIn n R)))) [94 :: textL (itemsOf (told ((upTo n).filter fun k => !decide (k ∈ allIn n R))))] := by
    unfold wL
    rfl
  have hwc : ∀ c ∈ wL n (allIn n R), c < 128 := fun c hc => by
    unfold wL at hc
    split at hc
    · rcases List.mem_cons.mp hc with e | h
      · omega
      · exact textL_codes h
    · exact textL_codes hc
  have htold : ∀ {ms : List Int}, ms.Pairwise (· < ·) → (∀ k ∈ ms, 0 ≤ k ∧ k < (n : Int)) → (told ms).length ≤ 64 ∧ ∀ r ∈ told ms, 0 ≤ r.1 ∧ r.1 ≤ r.2 ∧ r.2 < 64 := fun hp hm => by
    have := told_ok (size := (n : Int)) hp (by omega) hm
    exact ⟨Nat.le_trans this.1 (by decide), fun r hr => by have := this.2 r hr; omega⟩
  generalize allIn n R = SN at *
  generalize hwg : wL n SN = wl at *
  -- it is read as this set
  refine ⟨_, rfl, _, "str", .str (SX.S wl), rfl, mS, .str _, _, rfl, itF (by simp [isT, isN, tyN]) ?_⟩
  refine ⟨_, rfl, _, rfl, n, wl, rfl, hn2, by omega, fun H9 v9 s9 r9 => ?_⟩
  rw [hrd] at r9
  have s69 := s68.trans s9
  refine ⟨_, rfl, eI SN, eI SN, r9, p6d _ s69, (Sh.eI (n := 0) _).shaped, (Sh.eI (n := 0) _).shaped, _, rfl, itF (by rw [eqv_eI]; simp) ?_⟩
  -- the texts put together
  refine ⟨_, rfl, p6, SN, rfl, p6d _ s69, rp, by omega, fun H10 p10 s10 nv10 => ?_⟩
  obtain ⟨t1, t2⟩ := htold rp hSm
  refine ⟨p10, told SN, rfl, nv10.dp, t1, t2, fun H11 s11 => ?_⟩
  have s6_11 := s69.trans (s10.trans s11)
  refine ⟨_, rfl, _, rfl, n, p6, SN, rfl, by omega, p6d _ s6_11, fun H12 p12 s12 nv12 => ?_⟩
  have rp2 : ((upTo n).filter fun k => !decide (k ∈ SN)).Pairwise (· < ·) := rising_filter _
  have hm2 : ∀ k ∈ (upTo n).filter (fun k => !decide (k ∈ SN)), 0 ≤ k ∧ k < (n : Int) := fun k hk => mem_upTo.mp (List.mem_filter.mp hk).1
  have hl2 : ((upTo n).filter fun k => !decide (k ∈ SN)).length ≤ n := allIn_len n _
  refine ⟨p12, _, rfl, nv12.dp, rp2, by omega, fun H13 p13 s13 nv13 => ?_⟩
  obtain ⟨t3, t4⟩ := htold rp2 hm2
  refine ⟨p13, _, rfl, nv13.dp, t3, t4, fun H14 s14 => ?_⟩
  have hl3 : (textL (itemsOf (told ((upTo n).filter fun k => !decide (k ∈ SN))))).length ≤ 6000 := text_len (fun r hr => by
    have := (items_ok (n := (n : Int)) (fun r hr => by
      have := told_ok (size := (n : Int)) rp2 (by omega) hm2
      exact this.2 r hr) (told_ti rp2).sep).1 r hr
    omega) (Nat.le_trans (okI_len (items_ok (n := (n : Int)) (fun r hr => by
      have := told_ok (size := (n : Int)) rp2 (by omega) hm2
      exact this.2 r hr) (told_ti rp2).sep)) (by omega))
  have hl4 : (textL (itemsOf (told SN))).length ≤ 6000 := text_len (fun r hr => by
    have := (items_ok (n := (n : Int)) (fun r hr => by
      have := told_ok (size := (n : Int)) rp (by omega) hSm
      exact this.2 r hr) (told_ti rp).sep).1 r hr
    omega) (Nat.le_trans (okI_len (items_ok (n := (n : Int)) (fun r hr => by
      have := told_ok (size := (n : Int)) rp (by omega) hSm
      exact this.2 r hr) (told_ti rp).sep)) (by omega))
  refine ⟨_, _, rfl, rfl, ?_, by show 2 ≤ sizeLine; decide, fun tx ntx => ?_⟩
  · rw [show (Str.ofString "^").length = 1 by decide +kernel, SX.S_len (textL _)]
    exact Nat.le_of_lt (sizeOk (by omega))
  have e94 : Str.ofString "^" ++ SX.S (textL (itemsOf (told ((upTo n).filter fun k => !decide (k ∈ SN))))) = SX.S (94 :: textL (itemsOf (told ((upTo n).filter fun k => !decide (k ∈ SN))))) := by
    rw [show Str.ofString "^" = SX.S [94] by decide +kernel, SX.S_cat]
    rfl
  rw [e94]
  have cA : ∀ c ∈ textL (itemsOf (told SN)), c < 128 := fun c hc => textL_codes hc
  have cB : ∀ c ∈ 94 :: textL (itemsOf (told ((upTo n).filter fun k => !decide (k ∈ SN)))), c < 128 := fun c hc => by
    rcases List.mem_cons.mp hc with e | h
    · omega
    · exact textL_codes h
  have lA : (textL (itemsOf (told SN))).length ≤ 7000 := by omega
  have lB : (94 :: textL (itemsOf (told ((upTo n).filter fun k => !decide (k ∈ SN))))).length ≤ 7000 := by
    rw [List.length_cons]
    omega
  generalize textL (itemsOf (told SN)) = tA at *
  generalize (94 :: textL (itemsOf (told ((upTo n).filter fun k => !decide (k ∈ SN))))) = tB at *
  have htx : upd H14 tx (.lst [.str (SX.S tA), .str (SX.S tB)]) tx = some (.lst (([tA, tB].map SX.S).map V.str)) := upd_same
  have s15 : Same H6 (upd H14 tx (.lst [.str (SX.S tA), .str (SX.S tB)])) := s6_11.trans (s12.trans (s13.trans (s14.trans (same_new ntx))))
  generalize upd H14 tx (.lst [.str (SX.S tA), .str (SX.S tB)]) = H15 at htx s15
  -- the first of the shortest
  refine ⟨_, rfl, _, rfl, tx, rfl, ⟨_, SqL.of htx⟩, fun D nD => lcN_list (fun j => ([tA, tB][j]?).bind fun x => some (eLS (SX.S x))) (SqL.of htx) nD (by simp) (fun j x G N1 N0 hx sm c1 c0 => ?_) (fun H16 s16 lb => ?_)⟩
  · obtain ⟨z', hz', rfl⟩ := map_get hx
    rw [List.getElem?_map] at hz'
    cases e : [tA, tB][j]? with
    | none => rw [e] at hz'; cases hz'
    | some x =>
      rw [e] at hz'
      obtain rfl := Option.some.inj hz'
      have hxl : x.length ≤ 7000 := by
        have := List.mem_of_getElem? e
        simp at this
        rcases this with rfl | rfl <;> assumption
      exact ⟨rfl, yesT ⟨_, rfl, _, rfl, by rw [SX.S_len]; exact Nat.le_of_lt (sizeOk (by omega)), _, rfl, by show 2 ≤ sizeLine; decide, fun t nt => c1 _ _ _ (same_new nt) (by rw [e]; rfl) (tup_ls nt)⟩⟩
  have ell : ((([tA, tB].map SX.S).map V.str)).length = [tA, tB].length := by simp
  rw [ell, list_map [tA, tB] fun x => eLS (SX.S x)] at lb
  obtain ⟨_, zs, hz, hzA⟩ := lb
  have dz : DpAll K H16 zs ([tA, tB].map fun x => eLS (SX.S x)) := same_dpAll (del_same.trans fr_same) hzA.dp
  have hcan : PyData.canLayAll0 ([tA, tB].map fun x => eLS (SX.S x)) = true := can_all fun d hd => by
    obtain ⟨x, hx, rfl⟩ := List.mem_map.mp hd
    simp at hx
    rcases hx with rfl | rfl
    · exact eLS_can cA
    · exact eLS_can cB
  have hdep : PyData.depthAll ([tA, tB].map fun x => eLS (SX.S x)) ≤ 60 := depth_all fun d hd => by
    obtain ⟨x, hx, rfl⟩ := List.mem_map.mp hd
    simp [eLS, PyData.depth, PyData.depthAll]
  refine ⟨D, zs, eLS (SX.S tA), [tB].map fun x => eLS (SX.S x), rfl, SqL.of hz, dz, alike_eLS [tA, tB], hcan, hdep, fun jj y hy hj => ?_⟩
  rw [minD_eLS, ← ewl] at hj
  obtain ⟨d', hd', hn'⟩ := dpAll_get dz hy
  have hj' : ([tA, tB].map fun x => eLS (SX.S x))[jj]? = some (eLS (SX.S wl)) := hj
  rw [hj'] at hd'
  obtain rfl := Option.some.inj hd'
  obtain ⟨tt, ts, rfl, hTt, hTA⟩ := dp_tuple hn'
  cases hTA with
  | cons e1 hTA =>
  cases hTA with
  | cons e2 hTA =>
  cases hTA
  obtain rfl := dp_str e2
  refine ⟨tt, _, 1, _, rfl, rfl, hTt, rfl, rfl, _, rfl, itF (by simp) ?_⟩
  have s6_16 := s15.trans s16
  -- a greater size
  refine ⟨_, rfl, _, _, rfl, rfl, _, rfl, ite2 (fun c => q _) (fun c => ?_)⟩
  have h4 : n ≤ 4 := by
    have : ¬ (4 : Int) < (n : Int) := fun z => c (decide_eq_true z)
    omega
  -- all texts
  refine ⟨by show 1 ≤ sizeLine; decide, fun l0 nl0 => ?_⟩
  have hl0 : upd H16 l0 (.lst [.str (Str.ofString "")]) l0 = some (.lst (((lv n 0).map SX.S).map V.str)) := by
    rw [upd_same, show Str.ofString "" = SX.S [] by decide +kernel]
    rfl
  have s17 : Same H6 (upd H16 l0 (.lst [.str (Str.ofString "")])) := s6_16.trans (same_new nl0)
  generalize upd H16 l0 (.lst [.str (Str.ofString "")]) = H17 at hl0 s17
  have hal7 : (alph n).length ≤ 7 := by
    unfold alph
    rw [List.length_append, List.length_take]
    simp
    omega
  have hlvl : ∀ t, (lv n t).length ≤ 2401 := fun t => by
    unfold lv
    split
    · rename_i ht
      exact Nat.le_trans (lvl_len hal7 t) (Nat.le_trans (Nat.pow_le_pow_right (by decide) ht) (by decide))
    · exact Nat.zero_le _
  have hlvt : ∀ t, ∀ x ∈ lv n t, x.length ≤ 4 ∧ okT n x = true := fun t x hx => by
    unfold lv at hx
    split at hx
    · rename_i ht
      exact ⟨by rw [lvl_txt t x hx]; exact ht, chk hn1 h4 ht hx⟩
    · cases hx
  have zwl : (SX.S wl).length ≤ sizeLine := by rw [SX.S_len]; exact Nat.le_of_lt (sizeOk (by omega))
  refine ⟨_, rfl, _, rfl, zwl, _, _, rfl, _, _, rfl, rfl, _, rfl, ?_, ?_, ?_⟩
  · split <;> omega
  · split <;> omega
  generalize (((if ((SX.S wl).length : Int) < 5 then ((SX.S wl).length : Int) else 5) + 1 : Int)).toNat = TN
  refine for_range (lo := 0) (n := TN) (fun t σ G => ∃ (y7 y9 y10 : Option V) (lo : Addr), σ = [some (.ref a), some (.ref d), some (.int n), some v, some p6, some (.str (SX.S wl)), some (.ref tx), y7, some (.ref lo), y9, y10, none] ∧ Same H6 G ∧ G lo = some (.lst (((lv n t).map SX.S).map V.str))) ⟨_, _, _, l0, rfl, s17, hl0⟩ (fun t σ G ht p => ?_) (fun σ G p => q G)
  obtain ⟨y7, y9, y10, lo, rfl, sG, hlo⟩ := p
  rw [Int.zero_add]
  have hL := hlvl t
  have hT := hlvt t
  -- none is shorter, none ahead
  dsimp only [gName]
  refine seq_join (t := tFor _ _ _) (fun σ' G' => (∃ y7 : Option V, σ' = [some (.ref a), some (.ref d), some (.int n), some v, some p6, some (.str (SX.S wl)), some (.ref tx), y7, some (.ref lo), some (.int (t : Int)), y10, none]) ∧ Same G G') (fun σ' G' hJ => ?_) (fun N hN => ?_)
  rotate_left
  · refine ⟨_, rfl, lo, rfl, ⟨_, SqL.of hlo⟩, for_list (xs := ((lv n t).map SX.S).map V.str) (fun j σ' G' => (∃ y7 : Option V, σ' = [some (.ref a), some (.ref d), some (.int n), some v, some p6, some (.str (SX.S wl)), some (.ref tx), y7, some (.ref lo), some (.int (t : Int)), y10, none]) ∧ Same G G') ⟨⟨_, rfl⟩, Same.refl _⟩ (fun j σ' G' _ p => ?_) (fun j x σ' G' hx p => ?_) (fun σ' G' p => hN _ _ p)⟩
    · exact SqL.of (p.2 _ _ hlo)
    · obtain ⟨⟨y7', rfl⟩, sm⟩ := p
      obtain ⟨z', hz', rfl⟩ := map_get hx
      rw [List.getElem?_map] at hz'
      cases e : (lv n t)[j]? with
      | none => rw [e] at hz'; cases hz'
      | some x =>
        rw [e] at hz'
        obtain rfl := Option.some.inj hz'
        obtain ⟨hxl, hok⟩ := hT x (List.mem_of_getElem? e)
        have zx : (SX.S x).length ≤ sizeLine := by rw [SX.S_len]; exact Nat.le_of_lt (sizeOk (by omega))
        refine ⟨_, rfl, _, rfl, zx, _, rfl, by show 2 ≤ sizeLine; decide, fun t1 nt1 => ?_⟩
        refine ⟨_, rfl, _, rfl, zwl, _, rfl, by show 2 ≤ sizeLine; decide, fun t2 nt2 => ?_⟩
        have u1 := same_new (o := .tup [.int ((SX.S x).length : Int), .str (SX.S x)]) nt1
        have u2 := same_new (o := .tup [.int ((SX.S wl).length : Int), .str (SX.S wl)]) nt2
        refine ⟨eLS (SX.S x), eLS (SX.S wl), .tup (SqT.of (u2 _ _ upd_same)) (.cons (.int _) (.cons (.str _) .nil)), .tup (SqT.of upd_same) (.cons (.int _) (.cons (.str _) .nil)), by simp [eLS, PySem.W.alike, PySem.W.alikeAll], (fun z => by cases z), by simp [eLS, PyData.depth, PyData.depthAll], _, rfl, ?_⟩
        rw [ltT_data]
        have u12 := u1.trans u2
        generalize upd (upd G' t1 (.tup [.int ((SX.S x).length : Int), .str (SX.S x)])) t2 (.tup [.int ((SX.S wl).length : Int), .str (SX.S wl)]) = G2 at u12
        cases hlt : ltT x wl with
        | false => exact iteF (iteF ⟨⟨_, rfl⟩, sm.trans u12⟩)
        | true =>
          refine iteT ⟨_, rfl, _, rfl, n, x, rfl, hn2, by omega, fun G3 v3 s3 r3 => ?_⟩
          have sE := sG.trans (sm.trans (u12.trans s3))
          have hne : readM n x ≠ some SN := fun z => by
            unfold okT at hok
            rw [← readF_eq (by omega), z] at hok
            have hok' : (!ltT x (wL n SN)) = true := hok
            rw [hwg, hlt] at hok'
            cases hok'
          cases hr3 : readM n x with
          | none =>
            rw [hr3] at r3
            have ev : v3 = .non := r3
            subst ev
            exact ⟨_, rfl, .none, eI SN, .non, p6d _ sE, by decide, (Sh.eI (n := 0) _).shaped, _, rfl, itF (by simp [eI, PyData.eqv]) ⟨⟨_, rfl⟩, sm.trans (u12.trans s3)⟩⟩
          | some f =>
            rw [hr3] at r3 hne
            refine ⟨_, rfl, eI f, eI SN, r3, p6d _ sE, (Sh.eI (n := 0) _).shaped, (Sh.eI (n := 0) _).shaped, _, rfl, itF ?_ ⟨⟨_, rfl⟩, sm.trans (u12.trans s3)⟩⟩
            rw [eqv_eI]
            simp
            exact fun z => hne (by rw [z])
  obtain ⟨⟨y7', rfl⟩, sG'⟩ := hJ
  have hlo' := sG' _ _ hlo
  -- longer ones
  refine ⟨Nat.zero_le _, fun g0 ng0 => ?_⟩
  have sg : Same G' (upd G' g0 (.lst [])) := same_new ng0
  have hg0 : upd G' g0 (.lst []) g0 = some (.lst []) := upd_same
  generalize upd G' g0 (.lst []) = G1 at sg hg0
  dsimp only [gName]
  refine seq_join (t := tFor _ _ _) (fun σ' G2 => (∃ (y7 : Option V) (g : Addr), σ' = [some (.ref a), some (.ref d), some (.int n), some v, some p6, some (.str (SX.S wl)), some (.ref tx), y7, some (.ref lo), some (.int (t : Int)), some (.ref g), none] ∧ G2 g = some (.lst ((((lv n t).flatMap fun x => (alph n).map fun c => x ++ [c]).map SX.S).map V.str))) ∧ Same G' G2) (fun σ' G2 hJ => ?_) (fun N hN => ?_)
  rotate_left
  · refine ⟨_, rfl, lo, rfl, ⟨_, SqL.of (sg _ _ hlo')⟩, for_list (xs := ((lv n t).map SX.S).map V.str) (fun j σ' G2 => (∃ (y7 : Option V) (g : Addr), σ' = [some (.ref a), some (.ref d), some (.int n), some v, some p6, some (.str (SX.S wl)), some (.ref tx), y7, some (.ref lo), some (.int (t : Int)), some (.ref g), none] ∧ G2 g = some (.lst (((((lv n t).take j).flatMap fun x => (alph n).map fun c => x ++ [c]).map SX.S).map V.str))) ∧ Same G' G2) ⟨⟨_, g0, rfl, hg0⟩, sg⟩ (fun j σ' G2 _ p => ?_) (fun j x σ' G2 hx p => ?_) (fun σ' G2 p => ?_)⟩
    · exact SqL.of (p.2 _ _ hlo')
    · obtain ⟨⟨y7'', g, rfl, hg⟩, sm⟩ := p
      obtain ⟨z', hz', rfl⟩ := map_get hx
      rw [List.getElem?_map] at hz'
      cases e : (lv n t)[j]? with
      | none => rw [e] at hz'; cases hz'
      | some x =>
        rw [e] at hz'
        obtain rfl := Option.some.inj hz'
        obtain ⟨hxl, _⟩ := hT x (List.mem_of_getElem? e)
        refine ⟨_, rfl, _, rfl, _, rfl, _, rfl, by decide +kernel, _, _, rfl, rfl, ?_, ?_⟩
        · have := cutS_length (Str.ofString "0123") none (some (n : Int))
          rw [show (Str.ofString "-,^").length = 3 by decide +kernel]
          rw [show (Str.ofString "0123").length = 4 by decide +kernel] at this
          exact Nat.le_of_lt (sizeOk (by omega))
        rw [alph_str hn1 h4]
        refine ⟨_, rfl, fun D nD => lcN_its (x := SX.S (alph n)) (fun i => ((alph n)[i]?).bind fun c => some (.str (SX.S (x ++ [c])))) nD (by show (SX.S (alph n)).length ≤ 1000000; rw [SX.S_len]; omega) (fun i c G3 N1 N0 hc s3 c1 c0 => ?_) (fun G3 s3 lb => ?_)⟩
        · have hc' : (alph n)[i]? = some c := hc
          refine ⟨rfl, yesT ⟨_, rfl, _, rfl, _, _, rfl, rfl, ?_, ?_⟩⟩
          · show (SX.S x).length + (SX.S [c]).length ≤ sizeLine
            rw [SX.S_len, SX.S_len]
            exact Nat.le_of_lt (sizeOk (by simp only [List.length_cons, List.length_nil]; omega))
          · have ec : SX.S x ++ (⟨#[c]⟩ : Str) = SX.S (x ++ [c]) := SX.S_cat x [c]
            rw [ec]
            exact c1 _ G3 _ (Same.refl _) (by rw [hc']; rfl) (.str _)
        have esz : (SX.S (alph n)).cps.size = (alph n).length := SX.S_len _
        rw [esz, list_map (alph n) fun c => PyData.str (SX.S (x ++ [c]))] at lb
        have ec : ((alph n).map fun c => PyData.str (SX.S (x ++ [c]))) = (((alph n).map fun c => x ++ [c]).map SX.S).map PyData.str := by
          rw [List.map_map, List.map_map]
          rfl
        rw [ec] at lb
        have hacc := flat_le (l := (lv n t).take j) (c := 7) (f := fun x => (alph n).map fun c => x ++ [c]) fun y _ => by rw [List.length_map]; exact hal7
        rw [List.length_take] at hacc
        refine ⟨g, D, _, _, rfl, rfl, s3 _ _ hg, lb.strs, Nat.le_of_lt (sizeOk (by simp only [List.length_map]; omega)), fun p' np' => ⟨⟨_, p', rfl, ?_⟩, sm.trans (s3.trans (same_new np'))⟩⟩
        rw [upd_same, List.take_add_one, e, List.flatMap_append, List.map_append, List.map_append]
        simp
    · obtain ⟨⟨y7'', g, rfl, hg⟩, sm⟩ := p
      refine hN _ _ ⟨⟨_, g, rfl, ?_⟩, sm⟩
      rw [List.length_map, List.length_map, List.take_length] at hg
      exact hg
  obtain ⟨⟨y7'', g, rfl, hg⟩, s2⟩ := hJ
  have sE := sG.trans (sG'.trans s2)
  refine ⟨_, rfl, _, _, rfl, rfl, _, rfl, ite2 (fun c => ?_) (fun c => ?_)⟩
  · have c1 : t < 4 := by
      have : (t : Int) < 4 := of_decide_eq_true c
      omega
    refine ⟨_, rfl, _, _, _, g, rfl, sE, ?_⟩
    have e1 : lv n (t + 1) = (lv n t).flatMap fun x => (alph n).map fun c => x ++ [c] := by
      unfold lv
      rw [if_pos (by omega), if_pos (by omega)]
      rfl
    rw [e1]
    exact hg
  · have c1 : ¬ t < 4 := fun z => c (decide_eq_true (show (t : Int) < 4 by omega))
    refine ⟨Nat.zero_le _, fun ge nge => ⟨_, _, _, ge, rfl, sE.trans (same_new nge), ?_⟩⟩
    have e1 : lv n (t + 1) = [] := by
      unfold lv
      rw [if_neg (by omega)]
    rw [e1]
    exact upd_same
end
/-! ### what the top has left, by names -/
def dd_need_size : He.DefD := ⟨("need_size", none), "need_size", "need_size", defArgs s_need_size, defBody s_need_size, defScope s_need_size, [], []⟩
def dd_need_set : He.DefD := ⟨("need_set", none), "need_set", "need_set", defArgs s_need_set, defBody s_need_set, defScope s_need_set, [], []⟩
def dd_has : He.DefD := ⟨("has", none), "has", "has", defArgs s_has, defBody s_has, defScope s_has, [], []⟩
def dd_all_in : He.DefD := ⟨("all_in", none), "all_in", "all_in", defArgs s_all_in, defBody s_all_in, defScope s_all_in, [], []⟩
def dd_told : He.DefD := ⟨("told", none), "told", "told", defArgs s_told, defBody s_told, defScope s_told, [], []⟩
def dd_others : He.DefD := ⟨("others", none), "others", "others", defArgs s_others, defBody s_others, defScope s_others, [], []⟩
def dd_items_of : He.DefD := ⟨("items_of", none), "items_of", "items_of", defArgs s_items_of, defBody s_items_of, defScope s_items_of, [], []⟩
def dd_written : He.DefD := ⟨("written", none), "written", "written", defArgs s_written, defBody s_written, defScope s_written, [], []⟩
def dd__law_dice : He.DefD := ⟨("_law_dice", none), "_law_dice", "_law_dice", defArgs s__law_dice, defBody s__law_dice, defScope s__law_dice, [], []⟩
def dd__law_off : He.DefD := ⟨("_law_off", none), "_law_off", "_law_off", defArgs s__law_off, defBody s__law_off, defScope s__law_off, [], []⟩
def dd__law_size : He.DefD := ⟨("_law_size", none), "_law_size", "_law_size", defArgs s__law_size, defBody s__law_size, defScope s__law_size, [], []⟩
def dd__law_set : He.DefD := ⟨("_law_set", none), "_law_set", "_law_set", defArgs s__law_set, defBody s__law_set, defScope s__law_set, [], []⟩
def dd__law_members : He.DefD := ⟨("_law_members", none), "_law_members", "_law_members", defArgs s__law_members, defBody s__law_members, defScope s__law_members, [], []⟩
def dd__law_told : He.DefD := ⟨("_law_told", none), "_law_told", "_law_told", defArgs s__law_told, defBody s__law_told, defScope s__law_told, [], []⟩
def dd__law_others : He.DefD := ⟨("_law_others", none), "_law_others", "_law_others", defArgs s__law_others, defBody s__law_others, defScope s__law_others, [], []⟩
def dd__law_number : He.DefD := ⟨("_law_number", none), "_law_number", "_law_number", defArgs s__law_number, defBody s__law_number, defScope s__law_number, [], []⟩
def dd__law_read : He.DefD := ⟨("_law_read", none), "_law_read", "_law_read", defArgs s__law_read, defBody s__law_read, defScope s__law_read, [], []⟩
def dd__law_cut : He.DefD := ⟨("_law_cut", none), "_law_cut", "_law_cut", defArgs s__law_cut, defBody s__law_cut, defScope s__law_cut, [], []⟩
def dd__law_shortest : He.DefD := ⟨("_law_shortest", none), "_law_shortest", "_law_shortest", defArgs s__law_shortest, defBody s__law_shortest, defScope s__law_shortest, [], []⟩
def dd_law : He.DefD := ⟨("law", none), "law", "law", defArgs s_law, defBody s_law, defScope s_law, [], []⟩
def hfn : List He.DefD := [dd_need_size, dd_need_set, dd_has, dd_all_in, dd_told, dd_others, dd_items_of, dd_written, dd__law_dice, dd__law_off, dd__law_size, dd__law_set, dd__law_members, dd__law_told, dd__law_others, dd__law_number, dd__law_read, dd__law_cut, dd__law_shortest, dd_law]
def hfa : List He.Fa := [.glo "need_size", .glo "need_set", .glo "has", .glo "all_in", .glo "told", .glo "others", .glo "items_of", .glo "written", .glo "_law_dice", .glo "_law_off", .glo "_law_size", .glo "_law_set", .glo "_law_members", .glo "_law_told", .glo "_law_others", .glo "_law_number", .glo "_law_read", .glo "_law_cut", .glo "_law_shortest", .glo "law", .int "MOST_SIZE" 64, .int "MOST_RANGES" 40, .str "NOT" "^", .free "range", .free "enumerate", .free "len", .free "min", .free "abs", .free "isinstance", .free "bool", .free "int", .free "str", .free "tuple", .free "list", .free "all", .free "sorted", .free "set", .free "dict"]
abbrev hR : PySem.W.OpenRow := PySem.W.OpenLaw.row PySem.Challenge.rw_signsets_k06_whole_the_shortest_text
abbrev hhk : PySem.W.Hook := He.hookD 4 hfa hfn
def hob (s : PySem.W.SharedT) : He.AlD := He.obsDG 4 hfa hfn (HandSHeadRun.getT s)
theorem hob_eq (s : PySem.W.SharedT) : hob s = hhk.obs s.abs := He.obsDG_eq (HandSHeadRun.getT_eq s)
def hn0 : List Str := ["SetError", "BadSize", "BadSet", "MOST_SIZE", "MOST_RANGES", "need_size", "need_set", "has", "all_in", "told", "others", "NOT", "items_of", "written", "_law_dice", "_law_off", "_law_size", "_law_set", "_law_members", "_law_told", "_law_others", "_law_number", "_law_read", "_law_cut", "_law_shortest"]
def hnames : List Str := hn0
set_option maxHeartbeats 0 in
theorem hrun (w : World) : HandSHeadRun.RunEq hR (PySem.W.view hR.prog [29]) hhk hob 8000 hnames w := by
  intro os
  kernel_rfl
theorem fun_of {K : PySem.W.Frag} {x qual : Str} {st : Stmt} {f : Addr} {fd : FuncData} {kws : List (Str × V)} (F : FunD K x qual (defArgs st) (defBody st) (defScope st) [] kws f fd) : Fun K x qual st f fd := by
  obtain ⟨oc, od, dV, kV, doc, pm, an, cdv, ct, osl, rfl, lk, hcd, hD, hK⟩ := F.ex
  rcases hD with ⟨_, rfl⟩ | ⟨e, _⟩
  · exact ⟨⟨oc, od, kV, doc, pm, an, cdv, ct, osl, rfl, lk, hcd⟩, F.kp⟩
  · exact absurd rfl e
section
variable {K : PySem.W.Frag} {h : Heap} {mg : Str → Option Value}
theorem hd_need_size (X : K.In h) (G : h.Ns mainGlobals mg) (c : He.SaysD hfa hfn K) : Df K mg "need_size" s_need_size ["size"] := by
  obtain ⟨fd, F⟩ := c.def_ 0 (d := dd_need_size) rfl
  exact ⟨_, fd, fun_of F, He.glo_ok X G (c.fact 0 (f := .glo "need_size") rfl), F.bindsN fun _ _ _ _ _ _ us hl => match us, hl with | [_], _ => rfl⟩
theorem hd_need_set (X : K.In h) (G : h.Ns mainGlobals mg) (c : He.SaysD hfa hfn K) : Df K mg "need_set" s_need_set ["size", "ranges", "number"] := by
  obtain ⟨fd, F⟩ := c.def_ 1 (d := dd_need_set) rfl
  exact ⟨_, fd, fun_of F, He.glo_ok X G (c.fact 1 (f := .glo "need_set") rfl), F.bindsN fun _ _ _ _ _ _ us hl => match us, hl with | [_, _, _], _ => rfl⟩
theorem hd_has (X : K.In h) (G : h.Ns mainGlobals mg) (c : He.SaysD hfa hfn K) : Df K mg "has" s_has ["ranges", "number"] := by
  obtain ⟨fd, F⟩ := c.def_ 2 (d := dd_has) rfl
  exact ⟨_, fd, fun_of F, He.glo_ok X G (c.fact 2 (f := .glo "has") rfl), F.bindsN fun _ _ _ _ _ _ us hl => match us, hl with | [_, _], _ => rfl⟩
theorem hd_all_in (X : K.In h) (G : h.Ns mainGlobals mg) (c : He.SaysD hfa hfn K) : Df K mg "all_in" s_all_in ["size", "ranges"] := by
  obtain ⟨fd, F⟩ := c.def_ 3 (d := dd_all_in) rfl
  exact ⟨_, fd, fun_of F, He.glo_ok X G (c.fact 3 (f := .glo "all_in") rfl), F.bindsN fun _ _ _ _ _ _ us hl => match us, hl with | [_, _], _ => rfl⟩
theorem hd_told (X : K.In h) (G : h.Ns mainGlobals mg) (c : He.SaysD hfa hfn K) : Df K mg "told" s_told ["numbers"] := by
  obtain ⟨fd, F⟩ := c.def_ 4 (d := dd_told) rfl
  exact ⟨_, fd, fun_of F, He.glo_ok X G (c.fact 4 (f := .glo "told") rfl), F.bindsN fun _ _ _ _ _ _ us hl => match us, hl with | [_], _ => rfl⟩
theorem hd_others (X : K.In h) (G : h.Ns mainGlobals mg) (c : He.SaysD hfa hfn K) : Df K mg "others" s_others ["size", "ranges"] := by
  obtain ⟨fd, F⟩ := c.def_ 5 (d := dd_others) rfl
  exact ⟨_, fd, fun_of F, He.glo_ok X G (c.fact 5 (f := .glo "others") rfl), F.bindsN fun _ _ _ _ _ _ us hl => match us, hl with | [_, _], _ => rfl⟩
theorem hd_items_of (X : K.In h) (G : h.Ns mainGlobals mg) (c : He.SaysD hfa hfn K) : Df K mg "items_of" s_items_of ["ranges"] := by
  obtain ⟨fd, F⟩ := c.def_ 6 (d := dd_items_of) rfl
  exact ⟨_, fd, fun_of F, He.glo_ok X G (c.fact 6 (f := .glo "items_of") rfl), F.bindsN fun _ _ _ _ _ _ us hl => match us, hl with | [_], _ => rfl⟩
theorem hd_written (X : K.In h) (G : h.Ns mainGlobals mg) (c : He.SaysD hfa hfn K) : Df K mg "written" s_written ["size", "ranges"] := by
  obtain ⟨fd, F⟩ := c.def_ 7 (d := dd_written) rfl
  exact ⟨_, fd, fun_of F, He.glo_ok X G (c.fact 7 (f := .glo "written") rfl), F.bindsN fun _ _ _ _ _ _ us hl => match us, hl with | [_, _], _ => rfl⟩
theorem hd__law_dice (X : K.In h) (G : h.Ns mainGlobals mg) (c : He.SaysD hfa hfn K) : Df K mg "_law_dice" s__law_dice ["_law_script", "_law_k"] := by
  obtain ⟨fd, F⟩ := c.def_ 8 (d := dd__law_dice) rfl
  exact ⟨_, fd, fun_of F, He.glo_ok X G (c.fact 8 (f := .glo "_law_dice") rfl), F.bindsN fun _ _ _ _ _ _ us hl => match us, hl with | [_, _], _ => rfl⟩
theorem hd__law_off (X : K.In h) (G : h.Ns mainGlobals mg) (c : He.SaysD hfa hfn K) : Df K mg "_law_off" s__law_off ["_law_d", "_law_most"] := by
  obtain ⟨fd, F⟩ := c.def_ 9 (d := dd__law_off) rfl
  exact ⟨_, fd, fun_of F, He.glo_ok X G (c.fact 9 (f := .glo "_law_off") rfl), F.bindsN fun _ _ _ _ _ _ us hl => match us, hl with | [_, _], _ => rfl⟩
theorem hd__law_size (X : K.In h) (G : h.Ns mainGlobals mg) (c : He.SaysD hfa hfn K) : Df K mg "_law_size" s__law_size ["_law_d"] := by
  obtain ⟨fd, F⟩ := c.def_ 10 (d := dd__law_size) rfl
  exact ⟨_, fd, fun_of F, He.glo_ok X G (c.fact 10 (f := .glo "_law_size") rfl), F.bindsN fun _ _ _ _ _ _ us hl => match us, hl with | [_], _ => rfl⟩
theorem hd__law_set (X : K.In h) (G : h.Ns mainGlobals mg) (c : He.SaysD hfa hfn K) : Df K mg "_law_set" s__law_set ["_law_d", "_law_size_here", "_law_most"] := by
  obtain ⟨fd, F⟩ := c.def_ 11 (d := dd__law_set) rfl
  exact ⟨_, fd, fun_of F, He.glo_ok X G (c.fact 11 (f := .glo "_law_set") rfl), F.bindsN fun _ _ _ _ _ _ us hl => match us, hl with | [_, _, _], _ => rfl⟩
theorem hd__law_members (X : K.In h) (G : h.Ns mainGlobals mg) (c : He.SaysD hfa hfn K) : Df K mg "_law_members" s__law_members ["_law_size_here", "_law_ranges"] := by
  obtain ⟨fd, F⟩ := c.def_ 12 (d := dd__law_members) rfl
  exact ⟨_, fd, fun_of F, He.glo_ok X G (c.fact 12 (f := .glo "_law_members") rfl), F.bindsN fun _ _ _ _ _ _ us hl => match us, hl with | [_, _], _ => rfl⟩
theorem hd__law_told (X : K.In h) (G : h.Ns mainGlobals mg) (c : He.SaysD hfa hfn K) : Df K mg "_law_told" s__law_told ["_law_numbers"] := by
  obtain ⟨fd, F⟩ := c.def_ 13 (d := dd__law_told) rfl
  exact ⟨_, fd, fun_of F, He.glo_ok X G (c.fact 13 (f := .glo "_law_told") rfl), F.bindsN fun _ _ _ _ _ _ us hl => match us, hl with | [_], _ => rfl⟩
theorem hd__law_others (X : K.In h) (G : h.Ns mainGlobals mg) (c : He.SaysD hfa hfn K) : Df K mg "_law_others" s__law_others ["_law_size_here", "_law_numbers"] := by
  obtain ⟨fd, F⟩ := c.def_ 14 (d := dd__law_others) rfl
  exact ⟨_, fd, fun_of F, He.glo_ok X G (c.fact 14 (f := .glo "_law_others") rfl), F.bindsN fun _ _ _ _ _ _ us hl => match us, hl with | [_, _], _ => rfl⟩
theorem hd__law_number (X : K.In h) (G : h.Ns mainGlobals mg) (c : He.SaysD hfa hfn K) : Df K mg "_law_number" s__law_number ["_law_word", "_law_size_here"] := by
  obtain ⟨fd, F⟩ := c.def_ 15 (d := dd__law_number) rfl
  exact ⟨_, fd, fun_of F, He.glo_ok X G (c.fact 15 (f := .glo "_law_number") rfl), F.bindsN fun _ _ _ _ _ _ us hl => match us, hl with | [_, _], _ => rfl⟩
theorem hd__law_read (X : K.In h) (G : h.Ns mainGlobals mg) (c : He.SaysD hfa hfn K) : Df K mg "_law_read" s__law_read ["_law_size_here", "_law_text"] := by
  obtain ⟨fd, F⟩ := c.def_ 16 (d := dd__law_read) rfl
  exact ⟨_, fd, fun_of F, He.glo_ok X G (c.fact 16 (f := .glo "_law_read") rfl), F.bindsN fun _ _ _ _ _ _ us hl => match us, hl with | [_, _], _ => rfl⟩
theorem hd__law_cut (X : K.In h) (G : h.Ns mainGlobals mg) (c : He.SaysD hfa hfn K) : Df K mg "_law_cut" s__law_cut ["_law_first", "_law_last"] := by
  obtain ⟨fd, F⟩ := c.def_ 17 (d := dd__law_cut) rfl
  exact ⟨_, fd, fun_of F, He.glo_ok X G (c.fact 17 (f := .glo "_law_cut") rfl), F.bindsN fun _ _ _ _ _ _ us hl => match us, hl with | [_, _], _ => rfl⟩
theorem hd__law_shortest (X : K.In h) (G : h.Ns mainGlobals mg) (c : He.SaysD hfa hfn K) : Df K mg "_law_shortest" s__law_shortest ["_law_runs"] := by
  obtain ⟨fd, F⟩ := c.def_ 18 (d := dd__law_shortest) rfl
  exact ⟨_, fd, fun_of F, He.glo_ok X G (c.fact 18 (f := .glo "_law_shortest") rfl), F.bindsN fun _ _ _ _ _ _ us hl => match us, hl with | [_], _ => rfl⟩
theorem hd_law (X : K.In h) (G : h.Ns mainGlobals mg) (c : He.SaysD hfa hfn K) : Df K mg "law" s_law ["_law_script"] := by
  obtain ⟨fd, F⟩ := c.def_ 19 (d := dd_law) rfl
  exact ⟨_, fd, fun_of F, He.glo_ok X G (c.fact 19 (f := .glo "law") rfl), F.bindsN fun _ _ _ _ _ _ us hl => match us, hl with | [_], _ => rfl⟩
theorem hd_tx (X : K.In h) (G : h.Ns mainGlobals mg) (c : He.SaysD hfa hfn K) : Tx K mg := ⟨hd_need_size X G c, hd_need_set X G c, hd_has X G c, hd_all_in X G c, hd_told X G c, hd_others X G c, hd_items_of X G c, hd_written X G c, hd__law_dice X G c, hd__law_off X G c, hd__law_size X G c, hd__law_set X G c, hd__law_members X G c, hd__law_told X G c, hd__law_others X G c, hd__law_number X G c, hd__law_read X G c, hd__law_cut X G c, hd__law_shortest X G c, He.int_ok X G (c.fact 20 (f := .int "MOST_SIZE" 64) rfl), He.int_ok X G (c.fact 21 (f := .int "MOST_RANGES" 40) rfl), He.str_ok X G (c.fact 22 (f := .str "NOT" "^") rfl), He.free_ok X G (c.fact 23 (f := .free "range") rfl), He.free_ok X G (c.fact 24 (f := .free "enumerate") rfl), He.free_ok X G (c.fact 25 (f := .free "len") rfl), He.free_ok X G (c.fact 26 (f := .free "min") rfl), He.free_ok X G (c.fact 27 (f := .free "abs") rfl), He.free_ok X G (c.fact 28 (f := .free "isinstance") rfl), He.free_ok X G (c.fact 29 (f := .free "bool") rfl), He.free_ok X G (c.fact 30 (f := .free "int") rfl), He.free_ok X G (c.fact 31 (f := .free "str") rfl), He.free_ok X G (c.fact 32 (f := .free "tuple") rfl), He.free_ok X G (c.fact 33 (f := .free "list") rfl), He.free_ok X G (c.fact 34 (f := .free "all") rfl), He.free_ok X G (c.fact 35 (f := .free "sorted") rfl), He.free_ok X G (c.fact 36 (f := .free "set") rfl), He.free_ok X G (c.fact 37 (f := .free "dict") rfl)⟩
end
theorem hfacts {P : Program} {w : World} {K : PySem.W.Frag} {h : Heap} {mg : Str → Option Value} {f : Addr} (X : K.In h) (G : h.Ns mainGlobals mg) (hfa0 : mg ("law" : Str) = some (.ref f)) (c : He.SaysD hfa hfn K) :
    ∃ fd : FuncData, (∀ (s : Shared) (v : Value), BindsTo s fd ⟨[v], []⟩ [("_law_script", v)]) ∧ ∀ base : Heap, K.In base → base.Ns mainGlobals mg → FnOk P w K mg base CX0 9 f fd ["_law_script"] (spLaw K) := by
  obtain ⟨fd, F⟩ := c.def_ 19 (d := dd_law) rfl
  have e := hfa0.symm.trans (He.glo_ok X G (c.fact 19 (f := .glo "law") rfl))
  cases e
  have b := FunD.bindsA (ps := ["_law_script"]) F fun _ _ _ _ _ _ us hl => match us, hl with | [_], _ => rfl
  exact ⟨fd, fun s v => b s [v] rfl, fun base _ _ => ok_law (hd_tx X G c) (fun_of F)⟩
end Sg
open PySem PySem.W PySem.Calls PyProof.Rows
set_option maxHeartbeats 0 in
theorem PySem.Challenge.cw_signsets_k06_whole_the_shortest_text_holds : PySem.Challenge.rw_signsets_k06_whole_the_shortest_text.Holds := by
  w_on; o_law
  refine HandSHeadRun.head_any (r := OpenLaw.row PySem.Challenge.rw_signsets_k06_whole_the_shortest_text) (q := view (OpenLaw.row PySem.Challenge.rw_signsets_k06_whole_the_shortest_text).prog [29]) (H := Sg.hhk) (ob := Sg.hob) (M := 8000) (loose := Sg.hnames) (d := HandSHeadRun.topDef (OpenLaw.row PySem.Challenge.rw_signsets_k06_whole_the_shortest_text).prog 29) (kwd := []) Sg.hob_eq
    (by kernel_rfl) (fun s => by kernel_rfl) Sg.hrun (by kernel_rfl) (by kernel_rfl) (by kernel_rfl) (by rfl) (by first | assumption | decide +kernel) (by decide +kernel) ⟨rfl, rfl, rfl, rfl, rfl, by decide +kernel⟩ ?hw ?hc
  case hw => w_witness2
  case hc =>
    refine L2.walk_ofE (l := PySem.Challenge.rw_signsets_k06_whole_the_shortest_text) (n := 63) (k := 9) (x := "_law_script") (CX := L2.CX0) rfl (by decide) (by kernel_rfl) ⟨rfl, by decide, by decide⟩ ?F (fun _ _ _ _ z => z)
    intro w mg fa h Y G hmg0
    obtain ⟨K, KX, c⟩ := Y
    have hmg : mg ("law" : PySem.Str) = some (.ref fa) := by
      have e : (HandSHeadRun.topDef (OpenLaw.row PySem.Challenge.rw_signsets_k06_whole_the_shortest_text).prog 29).name = ("law" : PySem.Str) := by kernel_rfl
      rw [← e]
      exact hmg0
    obtain ⟨fd, hb, hF⟩ := Sg.hfacts (P := (PySem.Challenge.rw_signsets_k06_whole_the_shortest_text).prog) (w := w) KX G hmg c
    exact ⟨K, fd, Sg.spLaw K, KX, hb, fun H a ns hl _ hS => ⟨a, ns, rfl, hS, hl, fun _ => rfl⟩, hF⟩
