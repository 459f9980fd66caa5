import PyProof.Rows.All
import Wide.All
import OpenK.AllK
import Wide.FinOn
import KE.KStateDown
import Lean
import HandS.More
import HandS.WordsExc
import HandS.Defaults
import HandS.Head0
import HandS.Head1
import HandS.Head2
import HandS.HeadEnd
import HandS.HeadHook1
import HandS.HeadHook2
import HandS.ForMost
import HandS.Deep
import HandS.Codes
import KE.DataMinMax
import KE.SortData
import KE.DataCmp
import HandS.Conv
import HandS.Style
import HandS.IsInst
import HandS.SetFor
import HandS.Strs
import HandS.SortInts
import PySem.Challenge.RW_signsets_k11_asked_again
set_option Elab.async false
set_option linter.all false
set_option maxRecDepth 100000
set_option maxHeartbeats 4000000
/-! Signsets: the plain mathematics of ranges (no program in sight). -/
namespace Sg
/-- whether a number is in some range -/
def has (R : List (Int × Int)) (n : Int) : Bool := R.any fun r => decide (r.1 ≤ n) && decide (n ≤ r.2)
/-- 0, 1, .. below n -/
def upTo (n : Nat) : List Int := (List.range n).map fun (k : Nat) => (k : Int)
def allIn (n : Nat) (R : List (Int × Int)) : List Int := (upTo n).filter (has R)
def toldStep (acc : List (Int × Int)) (n : Int) : List (Int × Int) :=
  match acc.getLast? with
  | some r => if r.2 = n - 1 then acc.dropLast ++ [(r.1, n)] else acc ++ [(n, n)]
  | none => [(n, n)]
def told (ns : List Int) : List (Int × Int) := ns.foldl toldStep []
/-- ranges that a size lets be -/
def Ok (size : Int) (R : List (Int × Int)) : Prop := R.length ≤ 40 ∧ ∀ r ∈ R, 0 ≤ r.1 ∧ r.1 ≤ r.2 ∧ r.2 < size

theorem mem_upTo {n : Nat} {k : Int} : k ∈ upTo n ↔ 0 ≤ k ∧ k < (n : Int) := by
  unfold upTo
  rw [List.mem_map]
  constructor
  · rintro ⟨a, h, rfl⟩
    have := List.mem_range.mp h
    omega
  · intro h
    exact ⟨k.toNat, List.mem_range.mpr (by omega), by omega⟩
theorem upTo_len (n : Nat) : (upTo n).length = n := by simp [upTo]
theorem upTo_get {n i : Nat} (h : i < n) : (upTo n)[i]? = some (i : Int) := by
  unfold upTo
  rw [List.getElem?_map, List.getElem?_range h]
  rfl
theorem rising_range (n : Nat) : (upTo n).Pairwise (· < ·) := by
  unfold upTo
  rw [List.pairwise_map]
  refine List.Pairwise.imp (fun {a b} h => ?_) List.pairwise_lt_range
  omega
theorem rising_filter {n : Nat} (p : Int → Bool) : ((upTo n).filter p).Pairwise (· < ·) := (rising_range n).filter p
theorem has_iff {R : List (Int × Int)} {n : Int} : has R n = true ↔ ∃ r ∈ R, r.1 ≤ n ∧ n ≤ r.2 := by
  unfold has
  rw [List.any_eq_true]
  constructor
  · rintro ⟨r, h, e⟩
    rw [Bool.and_eq_true] at e
    exact ⟨r, h, of_decide_eq_true e.1, of_decide_eq_true e.2⟩
  · rintro ⟨r, h, e1, e2⟩
    exact ⟨r, h, by rw [Bool.and_eq_true]; exact ⟨decide_eq_true e1, decide_eq_true e2⟩⟩
theorem has_append {A B : List (Int × Int)} {n : Int} : has (A ++ B) n = (has A n || has B n) := by
  unfold has
  rw [List.any_append]

/-- what told has made of the numbers so far -/
structure TI (acc : List (Int × Int)) (pre : List Int) : Prop where
  has : ∀ n, has acc n = true ↔ n ∈ pre
  sep : acc.Pairwise fun a b => a.2 + 1 < b.1
  le : ∀ r ∈ acc, r.1 ≤ r.2
theorem TI.lt {acc : List (Int × Int)} {pre : List Int} (t : TI acc pre) {n : Int} (h : ∀ m ∈ pre, m < n) {r : Int × Int} (hr : r ∈ acc) : r.2 < n :=
  h _ ((t.has r.2).mp (has_iff.mpr ⟨r, hr, t.le r hr, Int.le_refl _⟩))
theorem TI.step {acc : List (Int × Int)} {pre : List Int} (t : TI acc pre) {n : Int} (h : ∀ m ∈ pre, m < n) : TI (toldStep acc n) (pre ++ [n]) := by
  unfold toldStep
  cases e : acc.getLast? with
  | none =>
    have ea : acc = [] := List.getLast?_eq_none_iff.mp e
    subst ea
    refine ⟨fun m => ?_, by simp, by simp⟩
    have hp := t.has m
    rw [has_iff, List.mem_append, ← hp, has_iff]
    constructor
    · rintro ⟨r, hr, h1, h2⟩
      have : r = (n, n) := by simpa using hr
      subst this
      exact .inr (List.mem_singleton.mpr (by simp at h1 h2; omega))
    · rintro (⟨r, hr, _⟩ | q)
      · simp at hr
      · have := List.mem_singleton.mp q
        subst this
        exact ⟨(m, m), by simp, Int.le_refl _, Int.le_refl _⟩
  | some r =>
    obtain ⟨ini, ea⟩ : ∃ ini, acc = ini ++ [r] := ⟨acc.dropLast, by rw [List.getLast?_eq_some_iff] at e; obtain ⟨ys, rfl⟩ := e; simp⟩
    have hri : r ∈ acc := by rw [ea]; simp
    have hrl := t.lt h hri
    have hre := t.le r hri
    have sp := t.sep
    rw [ea, List.pairwise_append] at sp
    show TI (if r.2 = n - 1 then acc.dropLast ++ [(r.1, n)] else acc ++ [(n, n)]) (pre ++ [n])
    split
    · rename_i c
      have ed : acc.dropLast = ini := by rw [ea]; simp
      rw [ed]
      refine ⟨fun m => ?_, ?_, ?_⟩
      · have hp := t.has m
        rw [ea, has_append, Bool.or_eq_true] at hp
        rw [has_append, Bool.or_eq_true, List.mem_append, ← hp]
        have e1 : Sg.has [(r.1, n)] m = true ↔ r.1 ≤ m ∧ m ≤ n := by rw [has_iff]; simp
        have e2 : Sg.has [r] m = true ↔ r.1 ≤ m ∧ m ≤ r.2 := by rw [has_iff]; simp
        rw [e1, e2, List.mem_singleton]
        by_cases X : Sg.has ini m = true
        · simp [X]
        · simp only [X]
          simp
          omega
      · rw [List.pairwise_append]
        refine ⟨sp.1, by simp, fun a ha b hb => ?_⟩
        have : b = (r.1, n) := List.mem_singleton.mp hb
        subst this
        exact sp.2.2 a ha r (by simp)
      · intro q hq
        rcases List.mem_append.mp hq with k | k
        · exact t.le q (by rw [ea]; exact List.mem_append_left _ k)
        · have : q = (r.1, n) := List.mem_singleton.mp k
          subst this
          show r.1 ≤ n
          omega
    · rename_i c
      refine ⟨fun m => ?_, ?_, ?_⟩
      · have hp := t.has m
        rw [has_append, Bool.or_eq_true, List.mem_append, ← hp]
        have e1 : Sg.has [(n, n)] m = true ↔ n ≤ m ∧ m ≤ n := by rw [has_iff]; simp
        rw [e1, List.mem_singleton]
        by_cases X : Sg.has acc m = true
        · simp [X]
        · simp only [X]
          simp
          omega
      · rw [List.pairwise_append]
        refine ⟨t.sep, by simp, fun a ha b hb => ?_⟩
        have : b = (n, n) := List.mem_singleton.mp hb
        subst this
        show a.2 + 1 < n
        rw [ea] at ha
        rcases List.mem_append.mp ha with k | k
        · have := sp.2.2 a k r (by simp)
          omega
        · have : a = r := List.mem_singleton.mp k
          subst this
          omega
      · intro q hq
        rcases List.mem_append.mp hq with k | k
        · exact t.le q k
        · have : q = (n, n) := List.mem_singleton.mp k
          subst this
          exact Int.le_refl _
theorem TI.fold : ∀ (ns : List Int) (acc : List (Int × Int)) (pre : List Int), TI acc pre → (pre ++ ns).Pairwise (· < ·) → TI (ns.foldl toldStep acc) (pre ++ ns)
  | [], acc, pre, t, _ => by
    rw [List.append_nil]
    exact t
  | n :: r, acc, pre, t, h => by
    have e : pre ++ n :: r = (pre ++ [n]) ++ r := by simp
    rw [e] at h ⊢
    refine TI.fold r _ _ (t.step fun m hm => ?_) h
    have h1 := (List.pairwise_append.mp (List.pairwise_append.mp h).1).2.2
    exact h1 m hm n (by simp)
theorem told_ti {ns : List Int} (h : ns.Pairwise (· < ·)) : TI (told ns) ns := by
  have q := TI.fold ns [] [] ⟨by simp [has], by simp, by simp⟩ (by simpa using h)
  rw [List.nil_append] at q
  exact q
theorem told_has {ns : List Int} (h : ns.Pairwise (· < ·)) (n : Int) : has (told ns) n = decide (n ∈ ns) := by
  have := (told_ti h).has n
  cases e : has (told ns) n
  · exact (decide_eq_false fun q => by rw [this.mpr q] at e; cases e).symm
  · exact (decide_eq_true (this.mp e)).symm
theorem sep_len : ∀ (R : List (Int × Int)) (lo hi : Int), R.Pairwise (fun a b => a.2 + 1 < b.1) → (∀ r ∈ R, lo ≤ r.1 ∧ r.1 ≤ r.2 ∧ r.2 < hi) → R ≠ [] → 2 * (R.length : Int) ≤ hi - lo + 1
  | [], _, _, _, _, h => absurd rfl h
  | [r], lo, hi, _, h, _ => by
    have := h r (by simp)
    simp
    omega
  | r :: q :: R, lo, hi, hp, h, _ => by
    have h1 := h r (by simp)
    rw [List.pairwise_cons] at hp
    have ih := sep_len (q :: R) (r.1 + 2) hi hp.2 (fun z hz => by
      have a := hp.1 z hz
      have b := h z (List.mem_cons_of_mem _ hz)
      omega) (by simp)
    simp at ih ⊢
    omega
theorem told_ok {size : Int} {ns : List Int} (h : ns.Pairwise (· < ·)) (hs : size ≤ 64) (hm : ∀ n ∈ ns, 0 ≤ n ∧ n < size) : Ok size (told ns) := by
  have t := told_ti h
  have hv : ∀ r ∈ told ns, 0 ≤ r.1 ∧ r.1 ≤ r.2 ∧ r.2 < size := fun r hr => by
    have h1 := (t.has r.1).mp (has_iff.mpr ⟨r, hr, Int.le_refl _, t.le r hr⟩)
    have h2 := (t.has r.2).mp (has_iff.mpr ⟨r, hr, t.le r hr, Int.le_refl _⟩)
    exact ⟨(hm _ h1).1, t.le r hr, (hm _ h2).2⟩
  refine ⟨?_, hv⟩
  by_cases e : told ns = []
  · rw [e]
    exact Nat.zero_le _
  · have := sep_len (told ns) 0 size t.sep (fun r hr => by have := hv r hr; omega) e
    omega

/-- the ranges of all numbers below n of which p says yes -/
def TR (n : Nat) (p : Int → Bool) : List (Int × Int) := told ((upTo n).filter p)
theorem TR_congr {n : Nat} {p q : Int → Bool} (h : ∀ k : Int, 0 ≤ k → k < (n : Int) → p k = q k) : TR n p = TR n q := by
  unfold TR
  rw [List.filter_congr fun k hk => h k (mem_upTo.mp hk).1 (mem_upTo.mp hk).2]
theorem TR_has {n : Nat} {p : Int → Bool} {k : Int} (h0 : 0 ≤ k) (h1 : k < (n : Int)) : has (TR n p) k = p k := by
  unfold TR
  rw [told_has (rising_filter p)]
  cases e : p k
  · exact decide_eq_false fun q => by rw [(List.mem_filter.mp q).2] at e; cases e
  · exact decide_eq_true (List.mem_filter.mpr ⟨mem_upTo.mpr ⟨h0, h1⟩, e⟩)
theorem TR_ok {n : Nat} (hn : n ≤ 64) (p : Int → Bool) : Ok (n : Int) (TR n p) :=
  told_ok (rising_filter p) (by omega) fun k hk => by
    have := mem_upTo.mp (List.mem_filter.mp hk).1
    exact this
theorem TR_none (n : Nat) : TR n (fun _ => false) = [] := by
  unfold TR
  rw [List.filter_eq_nil_iff.mpr (by simp)]
  rfl
theorem told_snoc (ns : List Int) (n : Int) : told (ns ++ [n]) = toldStep (told ns) n := by
  unfold told
  rw [List.foldl_append]
  rfl
theorem upTo_succ (n : Nat) : upTo (n + 1) = upTo n ++ [(n : Int)] := by
  unfold upTo
  rw [List.range_succ, List.map_append]
  rfl
theorem told_upTo : ∀ n : Nat, told (upTo (n + 1)) = [(0, (n : Int))]
  | 0 => by decide
  | n + 1 => by
    rw [upTo_succ, told_snoc, told_upTo n]
    show (if (n : Int) = ((n + 1 : Nat) : Int) - 1 then [((0 : Int), ((n + 1 : Nat) : Int))] else _) = _
    rw [if_pos (by omega)]
theorem TR_all {n : Nat} (h : 0 < n) : TR n (fun _ => true) = [(0, (n : Int) - 1)] := by
  unfold TR
  rw [List.filter_eq_self.mpr (by simp)]
  obtain ⟨m, rfl⟩ : ∃ m, n = m + 1 := ⟨n - 1, by omega⟩
  rw [told_upTo]
  simp
theorem has_reverse (R : List (Int × Int)) (k : Int) : has R.reverse k = has R k := by
  unfold has
  rw [List.any_reverse]
theorem mem_allIn {n : Nat} {R : List (Int × Int)} (hk : Ok n R) {k : Int} : k ∈ allIn n R ↔ has R k = true := by
  unfold allIn
  rw [List.mem_filter, mem_upTo]
  constructor
  · exact fun z => z.2
  · intro z
    obtain ⟨r, hr', z1, z2⟩ := has_iff.mp z
    obtain ⟨k1, k2, k3⟩ := hk.2 r hr'
    exact ⟨⟨by omega, by omega⟩, z⟩
theorem allIn_len (n : Nat) (p : Int → Bool) : ((upTo n).filter p).length ≤ n := Nat.le_trans (List.length_filter_le _ _) (by rw [upTo_len]; exact Nat.le_refl _)
theorem told_len (ns : List Int) : (told ns).length ≤ ns.length := by
  have h : ∀ (ms : List Int) (acc : List (Int × Int)), (ms.foldl toldStep acc).length ≤ acc.length + ms.length := by
    intro ms
    induction ms with
    | nil => intro acc; exact Nat.le_refl _
    | cons m ms ih =>
      intro acc
      refine Nat.le_trans (ih _) ?_
      have : (toldStep acc m).length ≤ acc.length + 1 := by
        unfold toldStep
        split
        · split <;> simp
        · simp
      simp
      omega
  have := h ns []
  simpa [told] using this
end Sg
/-! Signsets: looking by halving. -/
namespace Sg
def hv (T : List (Int × Int)) (k : Int) : Nat → Nat → Nat → Bool × List (Int × Int)
  | 0, _, _ => (false, [])
  | f + 1, lo, hi => if lo < hi then
      (if k < (T.getD ((lo + hi) / 2) (0, 0)).1 then ((hv T k f lo ((lo + hi) / 2)).1, T.getD ((lo + hi) / 2) (0, 0) :: (hv T k f lo ((lo + hi) / 2)).2)
       else if (T.getD ((lo + hi) / 2) (0, 0)).2 < k then ((hv T k f ((lo + hi) / 2 + 1) hi).1, T.getD ((lo + hi) / 2) (0, 0) :: (hv T k f ((lo + hi) / 2 + 1) hi).2)
       else (true, [T.getD ((lo + hi) / 2) (0, 0)]))
    else (false, [])
theorem hv_fuel (T : List (Int × Int)) (k : Int) : ∀ (f g lo hi : Nat), hi - lo ≤ f → hi - lo ≤ g → hv T k f lo hi = hv T k g lo hi
  | 0, 0, _, _, _, _ => rfl
  | 0, g + 1, lo, hi, h1, _ => by
    unfold hv
    rw [if_neg (by omega)]
  | f + 1, 0, lo, hi, _, h2 => by
    unfold hv
    rw [if_neg (by omega)]
  | f + 1, g + 1, lo, hi, h1, h2 => by
    unfold hv
    by_cases c : lo < hi
    · rw [if_pos c, if_pos c, hv_fuel T k f g lo ((lo + hi) / 2) (by omega) (by omega), hv_fuel T k f g ((lo + hi) / 2 + 1) hi (by omega) (by omega)]
    · rw [if_neg c, if_neg c]
def HV (T : List (Int × Int)) (k : Int) (lo hi : Nat) : Bool × List (Int × Int) := hv T k (hi - lo) lo hi
theorem HV_end {T : List (Int × Int)} {k : Int} {lo hi : Nat} (h : ¬ lo < hi) : HV T k lo hi = (false, []) := by
  unfold HV
  rw [show hi - lo = 0 by omega]
  rfl
theorem HV_step {T : List (Int × Int)} {k : Int} {lo hi : Nat} (h : lo < hi) {r : Int × Int} (hr : T[(lo + hi) / 2]? = some r) : HV T k lo hi =
    if k < r.1 then ((HV T k lo ((lo + hi) / 2)).1, r :: (HV T k lo ((lo + hi) / 2)).2) else if r.2 < k then ((HV T k ((lo + hi) / 2 + 1) hi).1, r :: (HV T k ((lo + hi) / 2 + 1) hi).2) else (true, [r]) := by
  have e : T.getD ((lo + hi) / 2) (0, 0) = r := by rw [List.getD_eq_getElem?_getD, hr]; rfl
  unfold HV
  rw [show hi - lo = (hi - lo - 1) + 1 by omega, hv, if_pos h, e, hv_fuel T k (hi - lo - 1) ((lo + hi) / 2 - lo) lo ((lo + hi) / 2) (by omega) (by omega), hv_fuel T k (hi - lo - 1) (hi - ((lo + hi) / 2 + 1)) ((lo + hi) / 2 + 1) hi (by omega) (by omega)]
theorem HV_len {T : List (Int × Int)} {k : Int} : ∀ (j lo hi : Nat), hi ≤ T.length → hi - lo < 2 ^ j → (HV T k lo hi).2.length ≤ j
  | 0, lo, hi, _, h => by
    rw [HV_end (by simp at h; omega)]
    exact Nat.le_refl _
  | j + 1, lo, hi, hl, h => by
    by_cases c : lo < hi
    · have g : T[(lo + hi) / 2]? = some T[(lo + hi) / 2] := List.getElem?_eq_getElem (by omega)
      have p : 2 ^ (j + 1) = 2 * 2 ^ j := by rw [Nat.pow_succ, Nat.mul_comm]
      have i1 := HV_len (T := T) (k := k) j lo ((lo + hi) / 2) (by omega) (by omega)
      have i2 := HV_len (T := T) (k := k) j ((lo + hi) / 2 + 1) hi hl (by omega)
      rw [HV_step c g]
      split
      · simpa using i1
      · split
        · simpa using i2
        · simp
    · rw [HV_end c]
      exact Nat.zero_le _
theorem HV_found {T : List (Int × Int)} {k : Int} (hs : T.Pairwise fun a b => a.2 + 1 < b.1) (hle : ∀ r ∈ T, r.1 ≤ r.2) : ∀ (m lo hi : Nat), hi - lo ≤ m → hi ≤ T.length → ((HV T k lo hi).1 = true ↔ ∃ (i : Nat) (r : Int × Int), lo ≤ i ∧ i < hi ∧ T[i]? = some r ∧ r.1 ≤ k ∧ k ≤ r.2)
  | 0, lo, hi, h, _ => by
    rw [HV_end (by omega)]
    constructor
    · intro z
      cases z
    · rintro ⟨i, r, h1, h2, _⟩
      omega
  | m + 1, lo, hi, h, hl => by
    by_cases c : lo < hi
    · have hm : (lo + hi) / 2 < T.length := by omega
      have g : T[(lo + hi) / 2]? = some T[(lo + hi) / 2] := List.getElem?_eq_getElem hm
      have i1 := HV_found (k := k) hs hle m lo ((lo + hi) / 2) (by omega) (by omega)
      have i2 := HV_found (k := k) hs hle m ((lo + hi) / 2 + 1) hi (by omega) hl
      have lem := hle _ (List.getElem_mem hm)
      have pw := List.pairwise_iff_getElem.mp hs
      rw [HV_step c g]
      split
      · rename_i c1
        show (HV T k lo ((lo + hi) / 2)).1 = true ↔ _
        rw [i1]
        constructor
        · rintro ⟨i, r, h1, h2, h3⟩
          exact ⟨i, r, h1, by omega, h3⟩
        · rintro ⟨i, r, h1, h2, h3, h4, h5⟩
          refine ⟨i, r, h1, ?_, h3, h4, h5⟩
          obtain ⟨hi', e⟩ := List.getElem?_eq_some_iff.mp h3
          rcases Nat.lt_trichotomy i ((lo + hi) / 2) with z | z | z
          · exact z
          · subst z
            rw [e] at c1
            omega
          · have := pw _ _ hm hi' z
            rw [e] at this
            omega
      · split
        · rename_i c0 c1
          show (HV T k ((lo + hi) / 2 + 1) hi).1 = true ↔ _
          rw [i2]
          constructor
          · rintro ⟨i, r, h1, h2, h3⟩
            exact ⟨i, r, by omega, h2, h3⟩
          · rintro ⟨i, r, h1, h2, h3, h4, h5⟩
            refine ⟨i, r, ?_, h2, h3, h4, h5⟩
            obtain ⟨hi', e⟩ := List.getElem?_eq_some_iff.mp h3
            rcases Nat.lt_trichotomy i ((lo + hi) / 2) with z | z | z
            · have := pw _ _ hi' hm z
              rw [e] at this
              omega
            · subst z
              rw [e] at c1
              omega
            · exact z
        · rename_i c0 c1
          refine ⟨fun _ => ⟨(lo + hi) / 2, _, by omega, by omega, g, by omega, by omega⟩, fun _ => rfl⟩
    · rw [HV_end c]
      constructor
      · intro z
        cases z
      · rintro ⟨i, r, h1, h2, _⟩
        omega
theorem HV_has {T : List (Int × Int)} {k : Int} (hs : T.Pairwise fun a b => a.2 + 1 < b.1) (hle : ∀ r ∈ T, r.1 ≤ r.2) : (HV T k 0 T.length).1 = has T k := by
  have e := HV_found (k := k) hs hle T.length 0 T.length (by omega) (Nat.le_refl _)
  have e2 : (HV T k 0 T.length).1 = true ↔ has T k = true := by
    rw [e, has_iff]
    constructor
    · rintro ⟨i, r, _, _, h3, h4⟩
      exact ⟨r, List.mem_of_getElem? h3, h4⟩
    · rintro ⟨r, hr, h4⟩
      obtain ⟨i, hi⟩ := List.getElem?_of_mem hr
      exact ⟨i, r, Nat.zero_le _, (List.getElem?_eq_some_iff.mp hi).1, hi, h4⟩
  cases a : has T k
  · cases b : (HV T k 0 T.length).1
    · rfl
    · rw [e2.mp b] at a
      cases a
  · exact e2.mpr a
theorem HV_le {T : List (Int × Int)} {k : Int} : ∀ (m lo hi : Nat), hi - lo ≤ m → hi ≤ T.length → (HV T k lo hi).2.length ≤ hi - lo
  | 0, lo, hi, h, _ => by
    rw [HV_end (by omega)]
    exact Nat.zero_le _
  | m + 1, lo, hi, h, hl => by
    by_cases c : lo < hi
    · have g : T[(lo + hi) / 2]? = some T[(lo + hi) / 2] := List.getElem?_eq_getElem (by omega)
      have i1 := HV_le (T := T) (k := k) m lo ((lo + hi) / 2) (by omega) (by omega)
      have i2 := HV_le (T := T) (k := k) m ((lo + hi) / 2 + 1) hi (by omega) hl
      rw [HV_step c g]
      split
      · simp
        omega
      · split
        · simp
          omega
        · simp
          omega
    · rw [HV_end c]
      exact Nat.zero_le _
/-- lo, .. below hi -/
def ivl (lo hi : Nat) : List Int := (List.range (hi - lo)).map fun (i : Nat) => (lo : Int) + (i : Int)
theorem mem_ivl {lo hi : Nat} {x : Int} : x ∈ ivl lo hi ↔ (lo : Int) ≤ x ∧ x < (hi : Int) := by
  unfold ivl
  rw [List.mem_map]
  constructor
  · rintro ⟨i, h, rfl⟩
    have := List.mem_range.mp h
    omega
  · intro h
    exact ⟨(x - lo).toNat, List.mem_range.mpr (by omega), by omega⟩
theorem ivl_rising (lo hi : Nat) : (ivl lo hi).Pairwise (· < ·) := by
  unfold ivl
  rw [List.pairwise_map]
  refine List.Pairwise.imp (fun {a b} h => ?_) List.pairwise_lt_range
  omega
theorem ivl_len (lo hi : Nat) : (ivl lo hi).length = hi - lo := by simp [ivl]
end Sg
/-! Signsets: unlike ones as they come, classes (no program in sight). -/
namespace Sg
section
variable {α β : Type} [DecidableEq α] [DecidableEq β]
def addU (acc : List α) (x : α) : List α := if x ∈ acc then acc else acc ++ [x]
/-- unlike ones, as they come -/
def uniq (l : List α) : List α := l.foldl addU []
theorem addU_old {acc : List α} {x : α} (h : x ∈ acc) : addU acc x = acc := if_pos h
theorem addU_new {acc : List α} {x : α} (h : ¬ x ∈ acc) : addU acc x = acc ++ [x] := if_neg h
theorem mem_addU {acc : List α} {x y : α} : y ∈ addU acc x ↔ y ∈ acc ∨ y = x := by
  unfold addU
  split
  · rename_i h
    exact ⟨.inl, fun z => z.elim id fun e => e ▸ h⟩
  · rw [List.mem_append, List.mem_singleton]
theorem uniq_snoc (l : List α) (x : α) : uniq (l ++ [x]) = addU (uniq l) x := by
  unfold uniq
  rw [List.foldl_append]
  rfl
theorem foldU_pre : ∀ (l acc : List α), ∃ r, l.foldl addU acc = acc ++ r
  | [], acc => ⟨[], by simp⟩
  | x :: l, acc => by
    obtain ⟨r, h⟩ := foldU_pre l (addU acc x)
    rw [List.foldl_cons, h]
    unfold addU
    split
    · exact ⟨r, rfl⟩
    · exact ⟨x :: r, by simp⟩
theorem uniq_pre (a b : List α) : ∃ r, uniq (a ++ b) = uniq a ++ r := by
  unfold uniq
  rw [List.foldl_append]
  exact foldU_pre b _
theorem mem_foldU : ∀ (l acc : List α) (y : α), y ∈ l.foldl addU acc ↔ y ∈ acc ∨ y ∈ l
  | [], acc, y => by simp
  | x :: l, acc, y => by
    rw [List.foldl_cons, mem_foldU l, mem_addU, List.mem_cons, or_assoc]
theorem mem_uniq {l : List α} {y : α} : y ∈ uniq l ↔ y ∈ l := by
  unfold uniq
  rw [mem_foldU]
  simp
theorem nodup_foldU : ∀ (l acc : List α), acc.Nodup → (l.foldl addU acc).Nodup
  | [], acc, h => h
  | x :: l, acc, h => by
    rw [List.foldl_cons]
    refine nodup_foldU l _ ?_
    unfold addU
    split
    · exact h
    · rename_i c
      rw [List.nodup_append]
      refine ⟨h, by simp, fun a ha b hb e => ?_⟩
      rw [List.mem_singleton] at hb
      rw [e, hb] at ha
      exact c ha
theorem nodup_uniq (l : List α) : (uniq l).Nodup := nodup_foldU l [] List.nodup_nil
theorem foldU_map {f : α → β} (hf : ∀ a b, f a = f b → a = b) : ∀ (l acc : List α), (l.map f).foldl addU (acc.map f) = (l.foldl addU acc).map f
  | [], acc => rfl
  | x :: l, acc => by
    have e : addU (acc.map f) (f x) = (addU acc x).map f := by
      unfold addU
      have h : f x ∈ acc.map f ↔ x ∈ acc := by
        rw [List.mem_map]
        exact ⟨fun ⟨a, ha, e⟩ => hf _ _ e ▸ ha, fun h => ⟨x, h, rfl⟩⟩
      by_cases c : x ∈ acc
      · rw [if_pos c, if_pos (h.mpr c)]
      · rw [if_neg c, if_neg fun z => c (h.mp z), List.map_append]
        rfl
    rw [List.map_cons, List.foldl_cons, List.foldl_cons, e, foldU_map hf l]
theorem uniq_map {f : α → β} (hf : ∀ a b, f a = f b → a = b) (l : List α) : uniq (l.map f) = (uniq l).map f := foldU_map hf l []
theorem uniq_len (l : List α) : (uniq l).length ≤ l.length := by
  have h : ∀ (l acc : List α), (l.foldl addU acc).length ≤ acc.length + l.length := by
    intro l
    induction l with
    | nil => intro acc; exact Nat.le_refl _
    | cons x l ih =>
      intro acc
      refine Nat.le_trans (ih _) ?_
      have : (addU acc x).length ≤ acc.length + 1 := by
        unfold addU
        split <;> simp
      simp
      omega
  have := h l []
  simpa [uniq] using this
/-- the first place of x -/
def pl (x : α) : List α → Nat
  | [] => 0
  | y :: l => if y = x then 0 else pl x l + 1
theorem pl_get {x : α} : ∀ {l : List α}, x ∈ l → l[pl x l]? = some x
  | [], h => by simp at h
  | y :: l, h => by
    unfold pl
    split
    · rename_i e
      rw [e]
      rfl
    · rename_i e
      rcases List.mem_cons.mp h with z | z
      · exact absurd z.symm e
      · simpa using pl_get z
theorem pl_lt {x : α} {l : List α} (h : x ∈ l) : pl x l < l.length := (List.getElem?_eq_some_iff.mp (pl_get h)).1
theorem pl_ahead {x : α} : ∀ {l : List α} {m : Nat} {z : α}, m < pl x l → l[m]? = some z → z ≠ x
  | [], m, z, h, _ => by simp [pl] at h
  | y :: l, m, z, h, e => by
    unfold pl at h
    split at h
    · omega
    · rename_i c
      cases m with
      | zero =>
        simp at e
        rw [← e]
        exact c
      | succ m =>
        simp at e
        exact pl_ahead (Nat.lt_of_succ_lt_succ h) e
theorem pl_app {x : α} : ∀ {a b : List α}, x ∈ a → pl x (a ++ b) = pl x a
  | [], b, h => by simp at h
  | y :: a, b, h => by
    rw [List.cons_append]
    unfold pl
    split
    · rfl
    · rename_i e
      rcases List.mem_cons.mp h with z | z
      · exact absurd z.symm e
      · rw [pl_app z]
theorem pl_map {f : α → β} (hf : ∀ a b, f a = f b → a = b) (x : α) : ∀ l : List α, pl (f x) (l.map f) = pl x l
  | [] => rfl
  | y :: l => by
    rw [List.map_cons]
    unfold pl
    by_cases c : y = x
    · rw [if_pos c, if_pos (by rw [c])]
    · rw [if_neg c, if_neg fun z => c (hf _ _ z), pl_map hf x l]
theorem nodup_le : ∀ {a b : List α}, a.Nodup → (∀ x ∈ a, x ∈ b) → a.length ≤ b.length
  | [], b, _, _ => Nat.zero_le _
  | x :: a, b, hn, hs => by
    rw [List.nodup_cons] at hn
    have hx : x ∈ b := hs x (by simp)
    have ih := nodup_le (b := b.erase x) hn.2 fun y hy => (List.mem_erase_of_ne fun z => hn.1 (by rw [← z]; exact hy)).mpr (hs y (List.mem_cons_of_mem _ hy))
    rw [List.length_erase_of_mem hx] at ih
    have : 0 < b.length := List.length_pos_of_mem hx
    rw [List.length_cons]
    omega
end
/-- which of the sets have k -/
def kindOf (SS : List (List (Int × Int))) (k : Int) : List Bool := SS.map fun R => has R k
def kinds (n : Nat) (SS : List (List (Int × Int))) : List (List Bool) := uniq ((upTo n).map (kindOf SS))
def rowOf (n : Nat) (SS : List (List (Int × Int))) : List Int := (upTo n).map fun k => ((pl (kindOf SS k) (kinds n SS) : Nat) : Int)
def classOf (n : Nat) (SS : List (List (Int × Int))) (j : Nat) : List (Int × Int) := told ((upTo n).filter fun k => decide (((pl (kindOf SS k) (kinds n SS) : Nat) : Int) = (j : Int)))
def classesOf (n : Nat) (SS : List (List (Int × Int))) : List (List (Int × Int)) := (List.range (kinds n SS).length).map (classOf n SS)
def byC (n : Nat) (SS : List (List (Int × Int))) : List (List Int) := (List.range SS.length).map fun a => (upTo (kinds n SS).length).filter fun j => ((kinds n SS).getD j.toNat []).getD a false
theorem kinds_len (n : Nat) (SS : List (List (Int × Int))) : (kinds n SS).length ≤ n := Nat.le_trans (uniq_len _) (by rw [List.length_map, upTo_len]; exact Nat.le_refl _)
theorem mem_kinds {n : Nat} {SS : List (List (Int × Int))} {k : Int} (h0 : 0 ≤ k) (h1 : k < (n : Int)) : kindOf SS k ∈ kinds n SS := mem_uniq.mpr (List.mem_map.mpr ⟨k, mem_upTo.mpr ⟨h0, h1⟩, rfl⟩)
theorem kinds_mem {n : Nat} {SS : List (List (Int × Int))} {b : List Bool} (h : b ∈ kinds n SS) : ∃ k : Int, 0 ≤ k ∧ k < (n : Int) ∧ b = kindOf SS k := by
  obtain ⟨k, hk, rfl⟩ := List.mem_map.mp (mem_uniq.mp h)
  exact ⟨k, (mem_upTo.mp hk).1, (mem_upTo.mp hk).2, rfl⟩
theorem kinds_at {n : Nat} {SS : List (List (Int × Int))} {j : Nat} {b : List Bool} (h : (kinds n SS)[j]? = some b) : b.length = SS.length := by
  obtain ⟨k, _, _, rfl⟩ := kinds_mem (List.mem_of_getElem? h)
  unfold kindOf
  rw [List.length_map]
theorem rowOf_len (n : Nat) (SS : List (List (Int × Int))) : (rowOf n SS).length = n := by unfold rowOf; rw [List.length_map, upTo_len]
theorem rowOf_get {n i : Nat} (SS : List (List (Int × Int))) (h : i < n) : (rowOf n SS)[i]? = some ((pl (kindOf SS (i : Int)) (kinds n SS) : Nat) : Int) := by
  unfold rowOf
  rw [List.getElem?_map, upTo_get h]
  rfl
/-- with a set more no fewer classes -/
theorem kinds_more (n : Nat) (SS : List (List (Int × Int))) (R : List (Int × Int)) : (kinds n SS).length ≤ (kinds n (SS ++ [R])).length := by
  have e := nodup_le (a := kinds n SS) (b := (kinds n (SS ++ [R])).map List.dropLast) (nodup_uniq _) fun b hb => by
    obtain ⟨k, h0, h1, rfl⟩ := kinds_mem hb
    refine List.mem_map.mpr ⟨_, mem_kinds (SS := SS ++ [R]) h0 h1, ?_⟩
    unfold kindOf
    rw [List.map_append]
    simp
  rwa [List.length_map] at e
theorem kinds_one (n : Nat) (SS : List (List (Int × Int))) (o : Int) : (kinds n (SS ++ [[(o, o)]])).length ≤ (kinds n SS).length + 1 := by
  have ek : ∀ k, kindOf (SS ++ [[(o, o)]]) k = kindOf SS k ++ [decide (k = o)] := fun k => by
    unfold kindOf
    rw [List.map_append]
    congr 1
    show [has [(o, o)] k] = _
    congr 1
    cases e : has [(o, o)] k
    · refine (decide_eq_false fun z => ?_).symm
      rw [z, has_iff.mpr ⟨(o, o), by simp, Int.le_refl _, Int.le_refl _⟩] at e
      cases e
    · obtain ⟨r, hr, h1, h2⟩ := has_iff.mp e
      obtain rfl := List.mem_singleton.mp hr
      exact (decide_eq_true (by simp at h1 h2; omega)).symm
  have e := nodup_le (a := kinds n (SS ++ [[(o, o)]])) (b := (kinds n SS).map (fun b => b ++ [false]) ++ [kindOf SS o ++ [true]]) (nodup_uniq _) fun b hb => by
    obtain ⟨k, h0, h1, rfl⟩ := kinds_mem hb
    rw [ek, List.mem_append]
    by_cases c : k = o
    · rw [decide_eq_true c, c]
      exact .inr (by simp)
    · rw [decide_eq_false c]
      exact .inl (List.mem_map.mpr ⟨_, mem_kinds h0 h1, rfl⟩)
  rw [List.length_append, List.length_map] at e
  exact e
end Sg
/-! Signsets: tables of two steps (no program in sight). -/
namespace Sg
/-- how many stretches of w signs -/
def cnt (n w : Nat) : Nat := (n + w - 1) / w
theorem cnt_lt {n w i : Nat} (hw : 1 ≤ w) : i < cnt n w ↔ i * w < n := by
  unfold cnt
  rw [← Nat.succ_le_iff, Nat.le_div_iff_mul_le (by omega), Nat.succ_mul]
  omega
theorem cnt_le {n w : Nat} (hw : 1 ≤ w) : cnt n w ≤ n := by
  rcases Nat.lt_or_ge n (cnt n w) with h | h
  · have h1 := (cnt_lt hw).mp h
    have h2 : n * 1 ≤ n * w := Nat.mul_le_mul_left n hw
    omega
  · exact h
theorem cnt_pos {n w : Nat} (hw : 1 ≤ w) (hn : 1 ≤ n) : 0 < cnt n w := (cnt_lt hw).mpr (by omega)
theorem cnt_at {n w k : Nat} (hw : 1 ≤ w) (hk : k < n) : k / w < cnt n w := (cnt_lt hw).mpr (Nat.lt_of_le_of_lt (Nat.div_mul_le_self k w) hk)
def bitT (n : Nat) (R : List (Int × Int)) (k : Nat) : Bool := decide (k < n) && has R (k : Int)
def rowP (n : Nat) (R : List (Int × Int)) (f i : Nat) : List Bool := (List.range i).map fun j => bitT n R (f + j)
theorem rowP_len (n : Nat) (R : List (Int × Int)) (f i : Nat) : (rowP n R f i).length = i := by
  unfold rowP
  rw [List.length_map, List.length_range]
theorem rowP_succ (n : Nat) (R : List (Int × Int)) (f i : Nat) : rowP n R f (i + 1) = rowP n R f i ++ [bitT n R (f + i)] := by
  unfold rowP
  rw [List.range_succ, List.map_append]
  rfl
theorem rowP_get {n : Nat} {R : List (Int × Int)} {f i j : Nat} (h : j < i) : (rowP n R f i)[j]? = some (bitT n R (f + j)) := by
  unfold rowP
  rw [List.getElem?_map, List.getElem?_range h]
  rfl
/-- the rows of a set, stretch by stretch -/
def rowsR (n w : Nat) (R : List (Int × Int)) : List (List Bool) := (List.range (cnt n w)).map fun i => rowP n R (i * w) w
def rowsT (n w : Nat) (SS : List (List (Int × Int))) : List (List Bool) := uniq (SS.flatMap (rowsR n w))
def firstsT (n w : Nat) (SS : List (List (Int × Int))) : List (List Int) := SS.map fun R => (rowsR n w R).map fun r => ((pl r (rowsT n w SS) : Nat) : Int)
theorem rowsR_len (n w : Nat) (R : List (Int × Int)) : (rowsR n w R).length = cnt n w := by
  unfold rowsR
  rw [List.length_map, List.length_range]
theorem rowsR_get {n w i : Nat} {R : List (Int × Int)} (h : i < cnt n w) : (rowsR n w R)[i]? = some (rowP n R (i * w) w) := by
  unfold rowsR
  rw [List.getElem?_map, List.getElem?_range h]
  rfl
theorem rowsR_mem {n w : Nat} {R : List (Int × Int)} {r : List Bool} (h : r ∈ rowsR n w R) : r.length = w := by
  obtain ⟨i, _, rfl⟩ := List.mem_map.mp h
  exact rowP_len _ _ _ _
theorem rowsT_mem {n w : Nat} {SS : List (List (Int × Int))} {r : List Bool} (h : r ∈ rowsT n w SS) : r.length = w := by
  obtain ⟨R, _, hr⟩ := List.mem_flatMap.mp (mem_uniq.mp h)
  exact rowsR_mem hr
theorem flat_len (n w : Nat) : ∀ SS : List (List (Int × Int)), (SS.flatMap (rowsR n w)).length = SS.length * cnt n w
  | [] => by simp
  | R :: SS => by rw [List.flatMap_cons, List.length_append, rowsR_len, flat_len n w SS, List.length_cons, Nat.succ_mul]; omega
theorem rowsT_len (n w : Nat) (SS : List (List (Int × Int))) : (rowsT n w SS).length ≤ SS.length * cnt n w := Nat.le_trans (uniq_len _) (by rw [flat_len]; exact Nat.le_refl _)
/-- a row that a set has, in the whole list of rows -/
theorem mem_rowsT {n w : Nat} {SS : List (List (Int × Int))} {R : List (Int × Int)} (hR : R ∈ SS) {r : List Bool} (hr : r ∈ rowsR n w R) : r ∈ rowsT n w SS := mem_uniq.mpr (List.mem_flatMap.mpr ⟨R, hR, hr⟩)
theorem mul_mod (k w : Nat) : k / w * w + k % w = k := by
  rw [Nat.mul_comm]
  exact Nat.div_add_mod k w
/-- the look -/
theorem look_row {n w k : Nat} {R : List (Int × Int)} (hw : 1 ≤ w) (hk : k < n) : (rowP n R (k / w * w) w)[k % w]? = some (has R (k : Int)) := by
  rw [rowP_get (Nat.mod_lt _ hw), mul_mod]
  unfold bitT
  rw [decide_eq_true hk, Bool.true_and]
/-- rows so far, and what comes behind -/
theorem rows_pre {n w : Nat} (pre : List (List (Int × Int))) (R : List (Int × Int)) (post : List (List (Int × Int))) (j : Nat) :
    ∃ r, rowsT n w (pre ++ R :: post) = uniq (pre.flatMap (rowsR n w) ++ (rowsR n w R).take j) ++ r := by
  have e : (pre ++ R :: post).flatMap (rowsR n w) = (pre.flatMap (rowsR n w) ++ (rowsR n w R).take j) ++ ((rowsR n w R).drop j ++ post.flatMap (rowsR n w)) := by
    rw [List.flatMap_append, List.flatMap_cons]
    rw [List.append_assoc, ← List.append_assoc ((rowsR n w R).take j), List.take_append_drop]
  unfold rowsT
  rw [e]
  exact uniq_pre _ _
/-- the cells of a table -/
def cells (n w : Nat) (SS : List (List (Int × Int))) : Nat := SS.length * cnt n w + (rowsT n w SS).length * w
theorem cells_sub {n w : Nat} {SS SS' : List (List (Int × Int))} (h : ∀ R ∈ SS, R ∈ SS') : (rowsT n w SS).length ≤ (rowsT n w SS').length :=
  nodup_le (nodup_uniq _) fun r hr => by
    obtain ⟨R, hR, hr'⟩ := List.mem_flatMap.mp (mem_uniq.mp hr)
    exact mem_rowsT (h R hR) hr'
end Sg
/-! Signsets: data on the abstract heap, and rules of our own over the hand layer. -/
namespace Sg
open PySem PySem.Spec PyProof.Rows L2

/-! ### heaps -/
theorem same_new {H : Hp} {p : Addr} {o : HO} (h : H p = none) : Same H (upd H p o) := fun b u e => by
  rw [upd_ne (ne_of_none e h)]
  exact e
/-- all but d stays -/
def SameBut (d : Addr) (H H' : Hp) : Prop := ∀ b o, b ≠ d → H b = some o → H' b = some o
theorem SameBut.refl (d : Addr) (H : Hp) : SameBut d H H := fun _ _ _ h => h
theorem SameBut.trans {d : Addr} {H H1 H2 : Hp} (a : SameBut d H H1) (b : SameBut d H1 H2) : SameBut d H H2 := fun c o n h => b c o n (a c o n h)
theorem SameBut.of {d : Addr} {H H' : Hp} (h : Same H H') : SameBut d H H' := fun c o _ e => h c o e
theorem SameBut.upd {d : Addr} {H : Hp} {o : HO} : SameBut d H (upd H d o) := fun c u n e => by
  rw [upd_ne n]
  exact e
theorem SameBut.same {d : Addr} {G H H' : Hp} (e : SameBut d H H') (g : Same G H) (n : G d = none) : Same G H' := fun c o h => e c o (ne_of_none h n) (g c o h)
theorem same_upd {G H : Hp} {d : Addr} {o : HO} (g : Same G H) (n : G d = none) : Same G (upd H d o) := fun c u h => by
  rw [upd_ne (ne_of_none h n)]
  exact g c u h
/-- what is new in H' over H -/
def fr (H H' : Hp) : Hp := fun b => if (H b).isNone = true then H' b else none
/-- F without what stands at d -/
def del (F : Hp) (d : Addr) : Hp := fun b => if b = d then none else F b
theorem del_self {F : Hp} {d : Addr} : del F d d = none := by
  unfold del
  rw [if_pos rfl]
theorem del_ne {F : Hp} {d b : Addr} (h : b ≠ d) : del F d b = F b := by
  unfold del
  rw [if_neg h]
theorem fr_some {H H' : Hp} {b : Addr} {o : HO} (h : fr H H' b = some o) : H b = none ∧ H' b = some o := by
  unfold fr at h
  cases e : H b with
  | none =>
    rw [e] at h
    exact ⟨rfl, h⟩
  | some u =>
    rw [e] at h
    cases h
theorem fr_new {H H' : Hp} {b : Addr} (h : H b = none) : fr H H' b = H' b := by
  unfold fr
  rw [h]
  rfl
theorem fr_same {H H' : Hp} : Same (fr H H') H' := fun b o h => (fr_some h).2
theorem fr_mono {H0 H H1 H2 : Hp} (a : Same H0 H) (b : Same H1 H2) : Same (fr H H1) (fr H0 H2) := fun c o h => by
  obtain ⟨h1, h2⟩ := fr_some h
  rw [fr_new (a.free h1)]
  exact b c o h2
theorem del_same {F : Hp} {d : Addr} : Same (del F d) F := fun b o h => by
  unfold del at h
  split at h
  · cases h
  · exact h
theorem del_mono {F G : Hp} {d : Addr} (h : Same F G) : Same (del F d) (del G d) := fun b o e => by
  by_cases c : b = d
  · subst c
    rw [del_self] at e
    cases e
  · rw [del_ne c] at e ⊢
    exact h b o e

/-! ### data -/
theorem same_tup {K : PySem.W.Frag} {H H' : Hp} {a : Addr} {xs : List V} (e : Same H H') (h : SqT K H a xs) : SqT K H' a xs := by
  rcases h with (h | ⟨o, h⟩) | h
  · exact .inl (.inl (e _ _ h))
  · exact .inl (.inr ⟨o, e _ _ h⟩)
  · exact .inr h
mutual
theorem same_dp {K : PySem.W.Frag} {H H' : Hp} (e : Same H H') : ∀ {v : V} {d : PyData}, Dp K H v d → Dp K H' v d
  | _, _, .non => .non
  | _, _, .bl b => .bl b
  | _, _, .int i => .int i
  | _, _, .str x => .str x
  | _, _, .lst h a => .lst (e.seq h) (same_dpAll e a)
  | _, _, .tup h a => .tup (same_tup e h) (same_dpAll e a)
theorem same_dpAll {K : PySem.W.Frag} {H H' : Hp} (e : Same H H') : ∀ {vs : List V} {ds : List PyData}, DpAll K H vs ds → DpAll K H' vs ds
  | _, _, .nil => .nil
  | _, _, .cons h a => .cons (same_dp e h) (same_dpAll e a)
end
mutual
/-- data whose lists and tuples all stand in F, to be changed by whoever has them -/
inductive Dn (F : Hp) : V → PyData → Prop
  | non : Dn F .non .none
  | bl (b : Bool) : Dn F (.bl b) (.bool b)
  | int (i : Int) : Dn F (.int i) (.int i)
  | str (x : Str) : Dn F (.str x) (.str x)
  | lst {a : Addr} {xs : List V} {ds : List PyData} : F a = some (.lst xs) → DnAll F xs ds → Dn F (.ref a) (.list ds)
  | tup {a : Addr} {xs : List V} {ds : List PyData} : F a = some (.tup xs) → DnAll F xs ds → Dn F (.ref a) (.tuple ds)
inductive DnAll (F : Hp) : List V → List PyData → Prop
  | nil : DnAll F [] []
  | cons {v : V} {vs : List V} {d : PyData} {ds : List PyData} : Dn F v d → DnAll F vs ds → DnAll F (v :: vs) (d :: ds)
end
mutual
theorem Dn.mono {F G : Hp} (e : Same F G) : ∀ {v : V} {d : PyData}, Dn F v d → Dn G v d
  | _, _, .non => .non
  | _, _, .bl b => .bl b
  | _, _, .int i => .int i
  | _, _, .str x => .str x
  | _, _, .lst h a => .lst (e _ _ h) (DnAll.mono e a)
  | _, _, .tup h a => .tup (e _ _ h) (DnAll.mono e a)
theorem DnAll.mono {F G : Hp} (e : Same F G) : ∀ {vs : List V} {ds : List PyData}, DnAll F vs ds → DnAll G vs ds
  | _, _, .nil => .nil
  | _, _, .cons h a => .cons (Dn.mono e h) (DnAll.mono e a)
end
mutual
theorem Dn.dp {K : PySem.W.Frag} {F : Hp} : ∀ {v : V} {d : PyData}, Dn F v d → Dp K F v d
  | _, _, .non => .non
  | _, _, .bl b => .bl b
  | _, _, .int i => .int i
  | _, _, .str x => .str x
  | _, _, .lst h a => .lst (SqL.of h) (DnAll.dp a)
  | _, _, .tup h a => .tup (SqT.of h) (DnAll.dp a)
theorem DnAll.dp {K : PySem.W.Frag} {F : Hp} : ∀ {vs : List V} {ds : List PyData}, DnAll F vs ds → DpAll K F vs ds
  | _, _, .nil => .nil
  | _, _, .cons h a => .cons (Dn.dp h) (DnAll.dp a)
end
theorem DnAll.len {F : Hp} : ∀ {vs : List V} {ds : List PyData}, DnAll F vs ds → vs.length = ds.length
  | _, _, .nil => rfl
  | _, _, .cons _ a => congrArg (· + 1) (DnAll.len a)
theorem DnAll.app {F : Hp} : ∀ {vs us : List V} {ds es : List PyData}, DnAll F vs ds → DnAll F us es → DnAll F (vs ++ us) (ds ++ es)
  | _, _, _, _, .nil, b => b
  | _, _, _, _, .cons h a, b => .cons h (DnAll.app a b)
theorem DnAll.snoc {F : Hp} {vs : List V} {v : V} {ds : List PyData} {d : PyData} (a : DnAll F vs ds) (h : Dn F v d) : DnAll F (vs ++ [v]) (ds ++ [d]) := a.app (.cons h .nil)
theorem DnAll.get {F : Hp} : ∀ {vs : List V} {ds : List PyData} {i : Nat} {v : V}, DnAll F vs ds → vs[i]? = some v → ∃ d, ds[i]? = some d ∧ Dn F v d
  | _, _, i, v, .nil, h => by simp at h
  | _, _, 0, v, .cons h _, e => by
    simp at e
    subst e
    exact ⟨_, rfl, h⟩
  | _, _, i + 1, v, .cons _ a, e => by
    simp at e
    obtain ⟨d, h1, h2⟩ := DnAll.get a e
    exact ⟨d, by simpa using h1, h2⟩
theorem dpAll_len {K : PySem.W.Frag} {H : Hp} : ∀ {vs : List V} {ds : List PyData}, DpAll K H vs ds → vs.length = ds.length
  | _, _, .nil => rfl
  | _, _, .cons _ a => congrArg (· + 1) (dpAll_len a)
theorem dpAll_get {K : PySem.W.Frag} {H : Hp} : ∀ {vs : List V} {ds : List PyData} {i : Nat} {v : V}, DpAll K H vs ds → vs[i]? = some v → ∃ d, ds[i]? = some d ∧ Dp K H v d
  | _, _, i, v, .nil, h => by simp at h
  | _, _, 0, v, .cons h _, e => by
    simp at e
    subst e
    exact ⟨_, rfl, h⟩
  | _, _, i + 1, v, .cons _ a, e => by
    simp at e
    obtain ⟨d, h1, h2⟩ := dpAll_get a e
    exact ⟨d, by simpa using h1, h2⟩
theorem dpAll_app {K : PySem.W.Frag} {H : Hp} : ∀ {vs us : List V} {ds es : List PyData}, DpAll K H vs ds → DpAll K H us es → DpAll K H (vs ++ us) (ds ++ es)
  | _, _, _, _, .nil, b => b
  | _, _, _, _, .cons h a, b => .cons h (dpAll_app a b)
theorem dp_list {K : PySem.W.Frag} {H : Hp} {v : V} {ds : List PyData} (h : Dp K H v (.list ds)) : ∃ a xs, v = .ref a ∧ SqL K H a xs ∧ DpAll K H xs ds := by
  cases h with
  | lst h a => exact ⟨_, _, rfl, h, a⟩
theorem dp_tuple {K : PySem.W.Frag} {H : Hp} {v : V} {ds : List PyData} (h : Dp K H v (.tuple ds)) : ∃ a xs, v = .ref a ∧ SqT K H a xs ∧ DpAll K H xs ds := by
  cases h with
  | tup h a => exact ⟨_, _, rfl, h, a⟩
theorem dp_int {K : PySem.W.Frag} {H : Hp} {v : V} {i : Int} (h : Dp K H v (.int i)) : v = .int i := by
  cases h
  rfl
theorem dp_bool {K : PySem.W.Frag} {H : Hp} {v : V} {i : Bool} (h : Dp K H v (.bool i)) : v = .bl i := by
  cases h
  rfl
theorem dp_str {K : PySem.W.Frag} {H : Hp} {v : V} {i : Str} (h : Dp K H v (.str i)) : v = .str i := by
  cases h
  rfl
theorem dpAll_ints {K : PySem.W.Frag} {H : Hp} : ∀ {vs : List V} {ns : List Int}, DpAll K H vs (ns.map PyData.int) → vs = ns.map V.int
  | _, [], .nil => rfl
  | _, n :: ns, .cons h a => by
    rw [dp_int h, dpAll_ints a]
    rfl
theorem dnAll_ints {F : Hp} : ∀ ns : List Int, DnAll F (ns.map V.int) (ns.map PyData.int)
  | [] => .nil
  | n :: ns => .cons (.int n) (dnAll_ints ns)
theorem dpAll_ofInts {K : PySem.W.Frag} {H : Hp} (ns : List Int) : DpAll K H (ns.map V.int) (ns.map PyData.int) := (dnAll_ints ns).dp
/-- a pair of ints -/
def eP (r : Int × Int) : PyData := .tuple [.int r.1, .int r.2]
def eR (R : List (Int × Int)) : PyData := .list (R.map eP)
def eI (ns : List Int) : PyData := .list (ns.map PyData.int)
theorem dp_pair {K : PySem.W.Frag} {H : Hp} {v : V} {r : Int × Int} (h : Dp K H v (eP r)) : ∃ t, v = .ref t ∧ SqT K H t [.int r.1, .int r.2] := by
  obtain ⟨a, xs, rfl, hs, ha⟩ := dp_tuple h
  cases ha with
  | cons h1 h2 => cases h2 with
    | cons h3 h4 =>
      cases h4
      rw [dp_int h1, dp_int h3] at hs
      exact ⟨a, rfl, hs⟩
/-- v is new data d in H' over H -/
def NewV (H H' : Hp) (v : V) (d : PyData) : Prop := Dn (fr H H') v d
theorem NewV.dp {K : PySem.W.Frag} {H H' : Hp} {v : V} {d : PyData} (h : NewV H H' v d) : Dp K H' v d := same_dp fr_same (Dn.dp h)
theorem NewV.mono {H0 H H1 H2 : Hp} {v : V} {d : PyData} (h : NewV H H1 v d) (a : Same H0 H) (b : Same H1 H2) : NewV H0 H2 v d := Dn.mono (fr_mono a b) h
/-- at o stands a list that is being made, new over H0, of the data ds -/
def LB (H0 H : Hp) (o : Addr) (ds : List PyData) : Prop := H0 o = none ∧ ∃ xs, H o = some (.lst xs) ∧ DnAll (del (fr H0 H) o) xs ds
theorem LB.nil {H0 H : Hp} {o : Addr} (h : H0 o = none) : LB H0 (upd H o (.lst [])) o [] := ⟨h, [], upd_same, .nil⟩
theorem LB.same {H0 H H' : Hp} {o : Addr} {ds : List PyData} (h : LB H0 H o ds) (e : Same H H') : LB H0 H' o ds := by
  obtain ⟨h0, xs, h1, h2⟩ := h
  exact ⟨h0, xs, e _ _ h1, h2.mono (del_mono (fr_mono (Same.refl _) e))⟩
theorem LB.snoc {H0 H H4 : Hp} {o : Addr} {ds : List PyData} {y : V} {e : PyData} (h : LB H0 H o ds) (s0 : Same H0 H) (s : Same H H4) (n : NewV H H4 y e) :
    ∃ xs, H4 o = some (.lst xs) ∧ xs.length = ds.length ∧ LB H0 (upd H4 o (.lst (xs ++ [y]))) o (ds ++ [e]) := by
  obtain ⟨h0, xs, h1, h2⟩ := h
  have k : Same (fr H0 H4) (fr H0 H4) := Same.refl _
  have up : Same (del (fr H0 H4) o) (del (fr H0 (upd H4 o (.lst (xs ++ [y])))) o) := fun b u q => by
    by_cases c : b = o
    · subst c
      rw [del_self] at q
      cases q
    · rw [del_ne c] at q ⊢
      obtain ⟨q1, q2⟩ := fr_some q
      rw [fr_new q1, upd_ne c]
      exact q2
  refine ⟨xs, s _ _ h1, h2.len, h0, xs ++ [y], upd_same, DnAll.snoc (h2.mono ?_) (Dn.mono ?_ n)⟩
  · exact (del_mono (fr_mono (Same.refl _) s)).trans up
  · intro b u q
    obtain ⟨q1, q2⟩ := fr_some q
    have c : b ≠ o := fun z => by
      subst z
      rw [h1] at q1
      cases q1
    refine up b u ?_
    rw [del_ne c, fr_new (s0.free q1)]
    exact q2
theorem LB.newV {H0 H : Hp} {o : Addr} {ds : List PyData} (h : LB H0 H o ds) : NewV H0 H (.ref o) (.list ds) := by
  obtain ⟨h0, xs, h1, h2⟩ := h
  refine .lst (xs := xs) ?_ (h2.mono del_same)
  rw [fr_new h0]
  exact h1
theorem LB.at {H0 H : Hp} {o : Addr} {ds : List PyData} (h : LB H0 H o ds) : ∃ xs, H o = some (.lst xs) ∧ xs.length = ds.length := by
  obtain ⟨h0, xs, h1, h2⟩ := h
  exact ⟨xs, h1, h2.len⟩
/-- a new pair -/
theorem new_pair {H : Hp} {t : Addr} {i j : Int} (h : H t = none) : NewV H (upd H t (.tup [.int i, .int j])) (.ref t) (eP (i, j)) := by
  refine .tup (xs := [.int i, .int j]) ?_ (.cons (.int i) (.cons (.int j) .nil))
  rw [fr_new h]
  exact upd_same
theorem newV_ints {H H' : Hp} {p : Addr} {ns : List Int} (h : H p = none) (e : H' p = some (.lst (ns.map V.int))) : NewV H H' (.ref p) (eI ns) := by
  refine .lst (xs := ns.map V.int) ?_ (dnAll_ints ns)
  rw [fr_new h]
  exact e
theorem newV_list {H H' : Hp} {v : V} {ds : List PyData} (h : NewV H H' v (.list ds)) : ∃ p xs, v = .ref p ∧ H p = none ∧ H' p = some (.lst xs) ∧ DnAll (fr H H') xs ds := by
  cases h with
  | lst h a => exact ⟨_, _, rfl, (fr_some h).1, (fr_some h).2, a⟩

/-! ### comparing -/
theorem eqv_ints : ∀ (a b : List Int), PyData.eqvAll (a.map PyData.int) (b.map PyData.int) = decide (a = b)
  | [], [] => by simp [PyData.eqvAll]
  | [], _ :: _ => by simp [PyData.eqvAll]
  | _ :: _, [] => by simp [PyData.eqvAll]
  | x :: a, y :: b => by
    have ih := eqv_ints a b
    simp only [List.map_cons, PyData.eqvAll, PyData.eqv, ih]
    by_cases h : x = y <;> by_cases h2 : a = b <;> simp [h, h2]
theorem eqv_pairs : ∀ (a b : List (Int × Int)), PyData.eqvAll (a.map eP) (b.map eP) = decide (a = b)
  | [], [] => by simp [PyData.eqvAll]
  | [], _ :: _ => by simp [PyData.eqvAll]
  | _ :: _, [] => by simp [PyData.eqvAll]
  | (x, u) :: a, (y, w) :: b => by
    have ih := eqv_pairs a b
    simp only [List.map_cons, PyData.eqvAll, eP, PyData.eqv, ih]
    by_cases h : x = y <;> by_cases h1 : u = w <;> by_cases h2 : a = b <;> simp [h, h1, h2]
theorem eqv_eR (a b : List (Int × Int)) : PyData.eqv (eR a) (eR b) = decide (a = b) := by
  unfold eR
  rw [PyData.eqv, eqv_pairs]
theorem eqv_eI (a b : List Int) : PyData.eqv (eI a) (eI b) = decide (a = b) := by
  unfold eI
  rw [PyData.eqv, eqv_ints]
theorem can_all {ds : List PyData} : (∀ d ∈ ds, d.canLay0 = true) → PyData.canLayAll0 ds = true := by
  induction ds with
  | nil => intro _; simp [PyData.canLayAll0]
  | cons d ds ih =>
    intro h
    rw [PyData.canLayAll0, h d (by simp), ih fun e he => h e (List.mem_cons_of_mem _ he)]
    rfl
theorem depth_all {n : Nat} {ds : List PyData} : (∀ d ∈ ds, d.depth ≤ n) → PyData.depthAll ds ≤ n := by
  induction ds with
  | nil => intro _; simp [PyData.depthAll]
  | cons d ds ih =>
    intro h
    rw [PyData.depthAll]
    exact Nat.max_le.mpr ⟨h d (by simp), ih fun e he => h e (List.mem_cons_of_mem _ he)⟩
/-- data of at most so many storeys -/
def Sh (n : Nat) (d : PyData) : Prop := d.canLay0 = true ∧ d.depth ≤ n
theorem Sh.list {n : Nat} {ds : List PyData} (h : ∀ d ∈ ds, Sh n d) : Sh (n + 1) (.list ds) := by
  refine ⟨?_, ?_⟩
  · rw [PyData.canLay0]
    exact can_all fun d hd => (h d hd).1
  · rw [PyData.depth]
    exact Nat.succ_le_succ (depth_all fun d hd => (h d hd).2)
theorem Sh.tuple {n : Nat} {ds : List PyData} (h : ∀ d ∈ ds, Sh n d) : Sh (n + 1) (.tuple ds) := by
  refine ⟨?_, ?_⟩
  · rw [PyData.canLay0]
    exact can_all fun d hd => (h d hd).1
  · rw [PyData.depth]
    exact Nat.succ_le_succ (depth_all fun d hd => (h d hd).2)
theorem Sh.int {n : Nat} (i : Int) : Sh n (.int i) := ⟨by simp [PyData.canLay0], by simp [PyData.depth]⟩
theorem Sh.bool {n : Nat} (i : Bool) : Sh n (.bool i) := ⟨by simp [PyData.canLay0], by simp [PyData.depth]⟩
theorem Sh.eP {n : Nat} (r : Int × Int) : Sh (n + 1) (eP r) := Sh.tuple fun d hd => by
  simp at hd
  rcases hd with rfl | rfl <;> exact Sh.int _
theorem Sh.eR {n : Nat} (R : List (Int × Int)) : Sh (n + 2) (eR R) := Sh.list fun d hd => by
  obtain ⟨r, _, rfl⟩ := List.mem_map.mp hd
  exact Sh.eP r
theorem Sh.eI {n : Nat} (R : List Int) : Sh (n + 1) (eI R) := Sh.list fun d hd => by
  obtain ⟨r, _, rfl⟩ := List.mem_map.mp hd
  exact Sh.int r
theorem Sh.shaped {n : Nat} {d : PyData} (h : Sh n d) (hn : n ≤ 64 := by decide) : SeqAt.shaped d = true := by
  unfold SeqAt.shaped
  rw [h.1, decide_eq_true (Nat.le_trans h.2 hn)]
  rfl

/-! ### a < b < c < d, as a test -/
section
variable {X : Cx} {a b c d : Expr} {ta tb tc td : TE} {pos : Pos}
def tChain3 (r r' r2 : R2) (ta tb tc td : TE) : TT := fun σ H Q => ta σ H fun x H1 => tb σ H1 fun y H2 => r x y H2 fun z H3 => ∃ k, z = .bl k ∧
  (if k = true then tc σ H3 fun y' H4 => r' y y' H4 fun z' H5 => ∃ k', z' = .bl k' ∧ (if k' = true then td σ H5 fun w' H6 => r2 y' w' H6 fun z2 H7 => ∃ k2, z2 = .bl k2 ∧ Q k2 H7 else Q false H5) else Q false H3)
theorem pt_chain3 {op op' op2 : CmpOp} {r r' r2 : R2} (ho : OpR X (compareOp op) r) (ho' : OpR X (compareOp op') r') (ho2 : OpR X (compareOp op2) r2) (ha : PE X a ta) (hb : PE X b tb) (hc : PE X c tc) (hd : PE X d td)
    (hm : lastMarks [op, op', op2] [b, c, d] = false := by with_unfolding_all rfl) : PT X (.Compare a [op, op', op2] [b, c, d] pos) (tChain3 r r' r2 ta tb tc td) := by
  refine ⟨fun pins s σ H Q I h => ?_⟩
  refine isTrue_chain (thn (ha.run pins s σ H _ I h) fun v s1 ⟨x, H1, I1, r1, q1⟩ => test_link (thn (hb.run pins s1 σ H1 _ I1 q1) fun u s2 ⟨y, H2, I2, r2', q2⟩ =>
    thn (ho pins s2 σ H2 x y v u _ I2 r1 r2' q2) fun d1 s3 ⟨z, H3, I3, r3, k, e, q3⟩ => ?_)) hm
  subst e
  cases r3
  refine wpAny_truthy_bool ?_
  cases k with
  | false => exact ite_ff ⟨H3, I3, q3⟩
  | true =>
    refine ite_tt (test_link (thn (hc.run pins s3 σ H3 _ I3 q3) fun w' s4 ⟨z', H4, I4, r4, q4⟩ => thn (ho' pins s4 σ H4 y z' u w' _ I4 r2' r4 q4) fun d' s5 ⟨z2, H5, I5, r5, k2, e2, q5⟩ => ?_))
    subst e2
    cases r5
    refine wpAny_truthy_bool ?_
    cases k2 with
    | false => exact ite_ff ⟨H5, I5, q5⟩
    | true =>
      refine ite_tt (test_last (thn (hd.run pins s5 σ H5 _ I5 q5) fun w2 s6 ⟨z6, H6, I6, r6, q6⟩ => thn (ho2 pins s6 σ H6 z' z6 w' w2 _ I6 r4 r6 q6) fun d7 s7 ⟨z7, H7, I7, r7, k7, e7, q7⟩ => ?_))
      subst e7
      cases r7
      exact wpAny_truthy_bool ⟨H7, I7, q7⟩
end

/-! ### comprehensions that make new data -/
theorem sizeOk {n : Nat} (h : n ≤ 1000000) : n < sizeLine := Nat.lt_of_le_of_lt h (by decide)
theorem filterMap_succ {f : Nat → Option PyData} {n : Nat} {e : PyData} (h : f n = some e) : (List.range (n + 1)).filterMap f = (List.range n).filterMap f ++ [e] := by
  rw [List.range_succ, List.filterMap_append]
  simp [h]
theorem filterMap_succ0 {f : Nat → Option PyData} {n : Nat} (h : f n = none) : (List.range (n + 1)).filterMap f = (List.range n).filterMap f := by
  rw [List.range_succ, List.filterMap_append]
  simp [h]
theorem lcN_step {H1 H : Hp} {D : Addr} {f : Nat → Option PyData} {i n : Nat} (hn : n ≤ 1000000) (hi : i < n) (sm : Same H1 H) (lb : LB H1 H D ((List.range i).filterMap f)) :
    (∀ y H4 e, Same H H4 → f i = some e → NewV H H4 y e → ∃ acc, H4 D = some (.lst acc) ∧ acc.length < sizeLine ∧ (Same H1 (upd H4 D (.lst (acc ++ [y]))) ∧ LB H1 (upd H4 D (.lst (acc ++ [y]))) D ((List.range (i + 1)).filterMap f))) ∧
    (∀ H3, Same H H3 → f i = none → (Same H1 H3 ∧ LB H1 H3 D ((List.range (i + 1)).filterMap f))) := by
  refine ⟨fun y H4 e s fe nv => ?_, fun H3 s fe => ?_⟩
  · obtain ⟨xs, h1, h2, h3⟩ := lb.snoc sm s nv
    have hl : xs.length ≤ i := by
      rw [h2]
      exact Nat.le_trans (List.length_filterMap_le _ _) (by rw [List.length_range]; exact Nat.le_refl _)
    refine ⟨xs, h1, sizeOk (by omega), same_upd (sm.trans s) lb.1, ?_⟩
    rw [filterMap_succ fe]
    exact h3
  · refine ⟨sm.trans s, ?_⟩
    rw [filterMap_succ0 fe]
    exact lb.same s
theorem lcN_range {lo : Int} {n : Nat} {g : TG} {tt : TT} {te : TE} {vs : List Nat} {σ : L2.St} {H1 : Hp} {D : Addr} {Qd : Hp → Prop} (f : Nat → Option PyData) (hD : H1 D = none) (hn : n ≤ 1000000)
    (hs : ∀ (i : Nat) (H : Hp) (N1 : V → Hp → Prop) (N0 : Hp → Prop), i < n → Same H1 H → (∀ y H4 e, Same H H4 → f i = some e → NewV H H4 y e → N1 y H4) → (∀ H3, Same H H3 → f i = none → N0 H3) →
      g (.int (lo + i)) (wipe σ vs) H fun σ2 H2 => wipe σ2 vs = wipe σ vs ∧ tt σ2 H2 fun b H3 => if b = true then te σ2 H3 N1 else N0 H3)
    (hd : ∀ H, Same H1 H → LB H1 H D ((List.range n).filterMap f) → Qd H) :
    ∃ W : Nat → Nat → Hp → Prop, (∃ m, W 0 m (upd H1 D (.lst []))) ∧ ∀ i m H, W i m H →
      ((Itr lo n).stop i H ∧ Qd H) ∨ ((Itr lo n).go i H ∧ ∃ Nx : Hp → Prop, (∀ H', Nx H' → ∃ m', m' < m ∧ W (i + 1) m' H') ∧ ∀ x H', (Itr lo n).yld i H x H' → g x (wipe σ vs) H' fun σ2 H2 => wipe σ2 vs = wipe σ vs ∧ tt σ2 H2 fun b H3 =>
        if b = true then te σ2 H3 fun y H4 => ∃ acc, H4 D = some (.lst acc) ∧ acc.length < sizeLine ∧ Nx (upd H4 D (.lst (acc ++ [y]))) else Nx H3) :=
  lc_range (fun i H => Same H1 H ∧ LB H1 H D ((List.range i).filterMap f)) ⟨same_new hD, LB.nil hD⟩ (fun i H hi p => by
    obtain ⟨k1, k0⟩ := lcN_step hn hi p.1 p.2
    exact hs i H _ _ hi p.1 k1 k0) fun H p => hd H p.1 p.2
theorem lcN_list {K : PySem.W.Frag} {a : Addr} {xs : List V} {g : TG} {tt : TT} {te : TE} {vs : List Nat} {σ : L2.St} {H1 : Hp} {D : Addr} {Qd : Hp → Prop} (f : Nat → Option PyData) (hS : SqL K H1 a xs) (hD : H1 D = none) (hn : xs.length ≤ 1000000)
    (hs : ∀ (i : Nat) (x : V) (H : Hp) (N1 : V → Hp → Prop) (N0 : Hp → Prop), xs[i]? = some x → Same H1 H → (∀ y H4 e, Same H H4 → f i = some e → NewV H H4 y e → N1 y H4) → (∀ H3, Same H H3 → f i = none → N0 H3) →
      g x (wipe σ vs) H fun σ2 H2 => wipe σ2 vs = wipe σ vs ∧ tt σ2 H2 fun b H3 => if b = true then te σ2 H3 N1 else N0 H3)
    (hd : ∀ H, Same H1 H → LB H1 H D ((List.range xs.length).filterMap f) → Qd H) :
    ∃ W : Nat → Nat → Hp → Prop, (∃ m, W 0 m (upd H1 D (.lst []))) ∧ ∀ i m H, W i m H →
      ((Itl K a).stop i H ∧ Qd H) ∨ ((Itl K a).go i H ∧ ∃ Nx : Hp → Prop, (∀ H', Nx H' → ∃ m', m' < m ∧ W (i + 1) m' H') ∧ ∀ x H', (Itl K a).yld i H x H' → g x (wipe σ vs) H' fun σ2 H2 => wipe σ2 vs = wipe σ vs ∧ tt σ2 H2 fun b H3 =>
        if b = true then te σ2 H3 fun y H4 => ∃ acc, H4 D = some (.lst acc) ∧ acc.length < sizeLine ∧ Nx (upd H4 D (.lst (acc ++ [y]))) else Nx H3) :=
  lc_list (xs := xs) (fun i H => Same H1 H ∧ LB H1 H D ((List.range i).filterMap f)) ⟨same_new hD, LB.nil hD⟩ (fun i H _ p => p.1.seq hS) (fun i x H hx p => by
    obtain ⟨k1, k0⟩ := lcN_step (n := xs.length) hn (List.getElem?_eq_some_iff.mp hx).1 p.1 p.2
    exact hs i x H _ _ hx p.1 k1 k0) fun H p => hd H p.1 p.2
/-- .. that hands on items of what stood before -/
theorem lcO_list {K : PySem.W.Frag} {a : Addr} {xs : List V} {ds : List PyData} {g : TG} {tt : TT} {te : TE} {vs : List Nat} {σ : L2.St} {H1 : Hp} {D : Addr} {Qd : Hp → Prop} (p : PyData → Bool) (hS : SqL K H1 a xs) (hA : DpAll K H1 xs ds) (hD : H1 D = none) (hn : xs.length ≤ 1000000)
    (hs : ∀ (i : Nat) (x : V) (d : PyData) (H : Hp) (N1 : V → Hp → Prop) (N0 : Hp → Prop), ds[i]? = some d → Dp K H1 x d → Same H1 H → (∀ H4, Same H H4 → p d = true → N1 x H4) → (∀ H3, Same H H3 → p d = false → N0 H3) →
      g x (wipe σ vs) H fun σ2 H2 => wipe σ2 vs = wipe σ vs ∧ tt σ2 H2 fun b H3 => if b = true then te σ2 H3 N1 else N0 H3)
    (hd : ∀ H ys, Same H1 H → H D = some (.lst ys) → DpAll K H1 ys (ds.filter p) → Qd H) :
    ∃ W : Nat → Nat → Hp → Prop, (∃ m, W 0 m (upd H1 D (.lst []))) ∧ ∀ i m H, W i m H →
      ((Itl K a).stop i H ∧ Qd H) ∨ ((Itl K a).go i H ∧ ∃ Nx : Hp → Prop, (∀ H', Nx H' → ∃ m', m' < m ∧ W (i + 1) m' H') ∧ ∀ x H', (Itl K a).yld i H x H' → g x (wipe σ vs) H' fun σ2 H2 => wipe σ2 vs = wipe σ vs ∧ tt σ2 H2 fun b H3 =>
        if b = true then te σ2 H3 fun y H4 => ∃ acc, H4 D = some (.lst acc) ∧ acc.length < sizeLine ∧ Nx (upd H4 D (.lst (acc ++ [y]))) else Nx H3) := by
  refine lc_list (xs := xs) (fun i H => Same H1 H ∧ ∃ ys, H D = some (.lst ys) ∧ DpAll K H1 ys ((ds.take i).filter p)) ⟨same_new hD, [], upd_same, .nil⟩ (fun i H _ q => q.1.seq hS) (fun i x H hx q => ?_) fun H q => ?_
  · obtain ⟨sm, ys, hy, ha⟩ := q
    obtain ⟨d, hdi, hdx⟩ := dpAll_get hA hx
    have hi : i < xs.length := (List.getElem?_eq_some_iff.mp hx).1
    have hl : ys.length ≤ i := by
      rw [dpAll_len ha]
      exact Nat.le_trans (List.length_filter_le _ _) (by rw [List.length_take]; exact Nat.min_le_left _ _)
    refine hs i x d H _ _ hdi hdx sm (fun H4 s pd => ⟨ys, s _ _ hy, sizeOk (by omega), same_upd (sm.trans s) hD, ys ++ [x], upd_same, ?_⟩) (fun H3 s pd => ⟨sm.trans s, ys, s _ _ hy, ?_⟩)
    · rw [List.take_add_one, hdi, List.filter_append]
      simp only [Option.toList, List.filter, pd]
      exact dpAll_app ha (.cons hdx .nil)
    · rw [List.take_add_one, hdi, List.filter_append]
      simp only [Option.toList, List.filter, pd, List.append_nil]
      exact ha
  · obtain ⟨sm, ys, hy, ha⟩ := q
    rw [List.take_of_length_le (by rw [dpAll_len hA]; exact Nat.le_refl _)] at ha
    exact hd H ys sm hy ha
/-! ### lists that range makes -/
theorem range_ints {n : Nat} {p : Int → Bool} : (List.range n).filterMap (fun (i : Nat) => if p (i : Int) = true then some (PyData.int (i : Int)) else none) = (((List.range n).map fun (k : Nat) => (k : Int)).filter p).map PyData.int := by
  induction n with
  | zero => rfl
  | succ n ih =>
    rw [List.range_succ, List.filterMap_append, ih, List.map_append, List.filter_append, List.map_append]
    cases h : p (n : Int) <;> simp [h]
theorem list_ints {ns : List Int} {p : Int → Bool} : (List.range ns.length).filterMap (fun (i : Nat) => (ns[i]?).bind fun k => if p k = true then some (PyData.int k) else none) = (ns.filter p).map PyData.int := by
  have h : ∀ m, m ≤ ns.length → (List.range m).filterMap (fun (i : Nat) => (ns[i]?).bind fun k => if p k = true then some (PyData.int k) else none) = ((ns.take m).filter p).map PyData.int := by
    intro m
    induction m with
    | zero => intro _; rfl
    | succ m ih =>
      intro hm
      have hlt : m < ns.length := hm
      have g : ns[m]? = some ns[m] := List.getElem?_eq_getElem hlt
      rw [List.range_succ, List.filterMap_append, ih (Nat.le_of_succ_le hm), List.take_add_one, g, List.filter_append, List.map_append]
      congr 1
      rw [List.filterMap_cons, g]
      cases h : p ns[m] <;> simp [h]
  rw [h _ (Nat.le_refl _), List.take_length]
theorem lcN_range0 {n : Nat} {g : TG} {tt : TT} {te : TE} {vs : List Nat} {σ : L2.St} {H1 : Hp} {D : Addr} {Qd : Hp → Prop} (f : Nat → Option PyData) (hD : H1 D = none) (hn : n ≤ 1000000)
    (hs : ∀ (i : Nat) (H : Hp) (N1 : V → Hp → Prop) (N0 : Hp → Prop), i < n → Same H1 H → (∀ y H4 e, Same H H4 → f i = some e → NewV H H4 y e → N1 y H4) → (∀ H3, Same H H3 → f i = none → N0 H3) →
      g (.int (i : Int)) (wipe σ vs) H fun σ2 H2 => wipe σ2 vs = wipe σ vs ∧ tt σ2 H2 fun b H3 => if b = true then te σ2 H3 N1 else N0 H3)
    (hd : ∀ H, Same H1 H → LB H1 H D ((List.range n).filterMap f) → Qd H) :
    ∃ W : Nat → Nat → Hp → Prop, (∃ m, W 0 m (upd H1 D (.lst []))) ∧ ∀ i m H, W i m H →
      ((Itr 0 (n : Int).toNat).stop i H ∧ Qd H) ∨ ((Itr 0 (n : Int).toNat).go i H ∧ ∃ Nx : Hp → Prop, (∀ H', Nx H' → ∃ m', m' < m ∧ W (i + 1) m' H') ∧ ∀ x H', (Itr 0 (n : Int).toNat).yld i H x H' → g x (wipe σ vs) H' fun σ2 H2 => wipe σ2 vs = wipe σ vs ∧ tt σ2 H2 fun b H3 =>
        if b = true then te σ2 H3 fun y H4 => ∃ acc, H4 D = some (.lst acc) ∧ acc.length < sizeLine ∧ Nx (upd H4 D (.lst (acc ++ [y]))) else Nx H3) := by
  rw [Int.toNat_natCast]
  refine lcN_range (lo := 0) f hD hn (fun i H N1 N0 hi sm k1 k0 => ?_) hd
  rw [Int.zero_add]
  exact hs i H N1 N0 hi sm k1 k0
/-- whether a pair that stands as data has n -/
def inR (n : Int) : PyData → Bool
  | .tuple [.int a, .int b] => decide (a ≤ n) && decide (n ≤ b)
  | _ => false
theorem inR_eP (n : Int) (r : Int × Int) : inR n (eP r) = (decide (r.1 ≤ n) && decide (n ≤ r.2)) := rfl
theorem eqv_nil (ds : List PyData) : PyData.eqv (.list ds) (.list []) = ds.isEmpty := by
  rw [PyData.eqv]
  cases ds <;> simp [PyData.eqvAll]
theorem any_filter {p : PyData → Bool} : ∀ ds : List PyData, (!(ds.filter p).isEmpty) = ds.any p
  | [] => rfl
  | d :: ds => by
    rw [List.filter_cons, List.any_cons]
    cases h : p d
    · simp only [Bool.false_eq_true, if_false, Bool.false_or]
      exact any_filter ds
    · simp
theorem sh_filter {n : Nat} {p : PyData → Bool} {R : List (Int × Int)} : Sh (n + 2) (.list ((R.map eP).filter p)) := Sh.list fun d hd => by
  obtain ⟨r, _, rfl⟩ := List.mem_map.mp (List.mem_filter.mp hd).1
  exact Sh.eP r
theorem sh_nil {n : Nat} : Sh (n + 1) (.list []) := Sh.list fun d hd => by simp at hd
theorem get_map {α : Type} {f : α → PyData} {l : List α} {i : Nat} {d : PyData} (h : (l.map f)[i]? = some d) : ∃ r, l[i]? = some r ∧ d = f r := by
  rw [List.getElem?_map] at h
  cases e : l[i]? with
  | none =>
    rw [e] at h
    cases h
  | some r =>
    rw [e] at h
    exact ⟨r, rfl, (Option.some.inj h).symm⟩
/-! ### rules with the written part by name (within a comprehension the rules' own X.K would name what is bound there) -/
section
variable {X : Cx} {tg l : Expr} {tl : TE}
theorem ixL (K : PySem.W.Frag) (h : X.K = K := by rfl) : IxR X (rIxL K) := by subst h; exact ix_list
theorem ixT (K : PySem.W.Frag) (h : X.K = K := by rfl) : IxR X (rIxT K) := by subst h; exact ix_tup
def rLenQ (K : PySem.W.Frag) : List V → Hp → VK → Prop := fun xs H Q => ∃ p ys, xs = [.ref p] ∧ (SqL K H p ys ∨ SqT K H p ys) ∧ Q (.int ys.length) H
theorem lenQ (K : PySem.W.Frag) (h : X.K = K := by rfl) : CallR X (.builtin "len") (rLenQ K) := by subst h; exact call_len_seq
theorem inQ (K : PySem.W.Frag) (h : X.K = K := by rfl) : OpR X (compareOp .In) (rIn K false) := by subst h; exact op_in_seq
theorem notInQ (K : PySem.W.Frag) (h : X.K = K := by rfl) : OpR X (compareOp .NotIn) (rIn K true) := by subst h; exact op_notIn_seq
theorem eqD (K : PySem.W.Frag) (hu : X.A.units + 64 < cLine) (h : X.K = K := by rfl) : OpR X (compareOp .Eq) (rEqD K) := by subst h; exact op_eqD hu
theorem neD (K : PySem.W.Frag) (hu : X.A.units + 64 < cLine) (h : X.K = K := by rfl) : OpR X (compareOp .NotEq) (rNeD K) := by subst h; exact op_neD hu
theorem piL (K : PySem.W.Frag) (hl : PE X l tl) (h : X.K = K := by rfl) : PI X tg l (iList K tl) := by subst h; exact pi_list hl
theorem piT (K : PySem.W.Frag) (hl : PE X l tl) (h : X.K = K := by rfl) : PI X tg l (iTup K tl) := by subst h; exact pi_tup hl
theorem sumQ (K : PySem.W.Frag) (hc : X.calm = true) (h : X.K = K := by rfl) : CallR X (.builtin "sum") (rSum K) := by subst h; exact cr_sum hc
theorem allQ (K : PySem.W.Frag) (hc : X.calm = true) (h : X.K = K := by rfl) : CallR X (.builtin "all") (rAll K) := by subst h; exact cr_all hc
def rListOf (K : PySem.W.Frag) : List V → Hp → VK → Prop := fun xs H Q => ∃ p ys, xs = [.ref p] ∧ (SqL K H p ys ∨ SqT K H p ys) ∧ ∀ l, H l = none → Q (.ref l) (upd H l (.lst ys))
theorem listOf (K : PySem.W.Frag) (h : X.K = K := by rfl) : CallR X (.type "list") (rListOf K) := by subst h; exact call_list_of
def rTupOf (K : PySem.W.Frag) : List V → Hp → VK → Prop := fun xs H Q => ∃ p ys, xs = [.ref p] ∧ ((SqL K H p ys ∧ ∀ l, H l = none → Q (.ref l) (upd H l (.tup ys))) ∨ (SqT K H p ys ∧ Q (.ref p) H))
theorem tupOf (K : PySem.W.Frag) (h : X.K = K := by rfl) : CallR X (.type "tuple") (rTupOf K) := by subst h; exact call_tuple_of
theorem slL (K : PySem.W.Frag) (h : X.K = K := by rfl) : SlR X (rSlL K) := by subst h; exact sl_list
theorem mtIndex (K : PySem.W.Frag) (h : X.K = K := by rfl) : MtR X "list.index" (rIndex K) := by subst h; exact mt_index
theorem pgT (K : PySem.W.Frag) {es : List Expr} {k : Nat} {t : TGs} {n : Nat} {pos : Pos} (hc : X.calm = true) (hg : PGs X es t) (h : X.K = K := by rfl)
    (hn : (assignEach es X.env).length = n := by rfl) (hst : (assignEach es X.env).findIdx? (·.1) = none := by rfl) : PG X (.Tuple es k pos) (gTup K n t) := by subst h; exact pg_tup hc hg hn hst
theorem piEnum (K : PySem.W.Frag) {e : Expr} {ta : TA} {p pos tpos : Pos} {elts : List Expr} {kk : Nat} (hg : Gl X "enumerate") (hm : X.mg "enumerate" = none) (ha : PA X [e] ta) (h : X.K = K := by rfl) (hs : starEach [e] X.env = [(false, eval e X.env)] := by rfl) :
    PI X (.Tuple elts kk tpos) (.Call (.Name "enumerate" p) [e] [] pos) (iEnum K ta) := by subst h; exact pi_enum hg hm ha hs
end
theorem DnAll.unsnoc {F : Hp} : ∀ {vs : List V} {ds : List PyData} {d : PyData}, DnAll F vs (ds ++ [d]) → ∃ us x, vs = us ++ [x] ∧ DnAll F us ds ∧ Dn F x d
  | _, [], d, .cons h .nil => ⟨[], _, rfl, .nil, h⟩
  | _, e :: ds, d, .cons h a => by
    obtain ⟨us, x, rfl, h1, h2⟩ := DnAll.unsnoc a
    exact ⟨_ :: us, x, rfl, .cons h h1, h2⟩
theorem LB.last {H0 H : Hp} {o : Addr} {ds : List PyData} {d : PyData} (h : LB H0 H o (ds ++ [d])) : ∃ xi x, H o = some (.lst (xi ++ [x])) ∧ Dn (fr H0 H) x d := by
  obtain ⟨h0, xs, h1, h2⟩ := h
  obtain ⟨us, x, rfl, h3, h4⟩ := h2.unsnoc
  exact ⟨us, x, h1, Dn.mono del_same h4⟩
theorem LB.setLast {H0 H H4 : Hp} {o : Addr} {ds : List PyData} {d e : PyData} {y : V} {xi : List V} {x : V} (h : LB H0 H o (ds ++ [d])) (hx : H o = some (.lst (xi ++ [x]))) (s0 : Same H0 H) (s : Same H H4) (n : NewV H H4 y e) : LB H0 (upd H4 o (.lst (xi ++ [y]))) o (ds ++ [e]) := by
  obtain ⟨h0, xs, h1, h2⟩ := h
  obtain ⟨us, x', rfl, h3, h4⟩ := h2.unsnoc
  have e1 := HO.lst.inj (Option.some.inj (hx.symm.trans h1))
  obtain ⟨rfl, _⟩ : xi = us ∧ x = x' := by simpa using e1
  have lb : LB H0 (upd H o (.lst xi)) o ds := by
    refine ⟨h0, xi, upd_same, h3.mono fun b u q => ?_⟩
    by_cases c : b = o
    · subst c
      rw [del_self] at q
      cases q
    · rw [del_ne c] at q ⊢
      obtain ⟨q1, q2⟩ := fr_some q
      rw [fr_new q1, upd_ne c]
      exact q2
  have s4 : Same (upd H o (.lst xi)) (upd H4 o (.lst xi)) := fun b u q => by
    by_cases c : b = o
    · subst c
      rw [upd_same] at q ⊢
      exact q
    · rw [upd_ne c] at q ⊢
      exact s _ _ q
  have nv : NewV (upd H o (.lst xi)) (upd H4 o (.lst xi)) y e := by
    refine Dn.mono (fun b u q => ?_) n
    obtain ⟨q1, q2⟩ := fr_some q
    have c : b ≠ o := fun z => by
      subst z
      rw [hx] at q1
      cases q1
    rw [fr_new (by rw [upd_ne c]; exact q1), upd_ne c]
    exact q2
  obtain ⟨ys, k1, k2, k3⟩ := lb.snoc (same_upd s0 h0) s4 nv
  rw [upd_same] at k1
  obtain rfl := HO.lst.inj (Option.some.inj k1)
  rw [upd_upd] at k3
  exact k3
theorem ixN_last (n : Nat) : ixN (n + 1) (-1) = some n := by
  unfold ixN
  rw [if_neg (by omega), if_pos (by omega)]
  congr 1
  omega
theorem set_last (xs : List V) (x y : V) : (xs ++ [x]).set xs.length y = xs ++ [y] := by
  rw [List.set_append_right _ _ (Nat.le_refl _), Nat.sub_self]
  rfl
theorem len_snoc (xs : List V) (x : V) : (xs ++ [x]).length = xs.length + 1 := by simp
theorem map_get {α : Type} {f : α → V} {l : List α} {i : Nat} {d : V} (h : (l.map f)[i]? = some d) : ∃ r, l[i]? = some r ∧ d = f r := by
  rw [List.getElem?_map] at h
  cases e : l[i]? with
  | none =>
    rw [e] at h
    cases h
  | some r =>
    rw [e] at h
    exact ⟨r, rfl, (Option.some.inj h).symm⟩
/-! ### small words -/
theorem bT {p : Prop} [Decidable p] (h : p) : V.bl (decide p) = V.bl true := congrArg V.bl (decide_eq_true h)
theorem bF {p : Prop} [Decidable p] (h : ¬ p) : V.bl (decide p) = V.bl false := congrArg V.bl (decide_eq_false h)
theorem itT {c A B : Prop} [Decidable c] (hc : c) (h : A) : if c then A else B := by
  rw [if_pos hc]
  exact h
theorem itF {c A B : Prop} [Decidable c] (hc : ¬ c) (h : B) : if c then A else B := by
  rw [if_neg hc]
  exact h
theorem for_enum {K : PySem.W.Frag} {a : Addr} {xs : List V} {g : TG} {tb : TS} {D : Ends} {σ : L2.St} {H : Hp} (Pv : Nat → L2.St → Hp → Prop) (h0 : Pv 0 σ H) (hl : ∀ i σ H, i ≤ xs.length → Pv i σ H → SqL K H a xs)
    (hs : ∀ i x t σ H, xs[i]? = some x → H t = none → Pv i σ H → g (.ref t) σ (upd H t (.tup [.int (i : Nat), x])) fun σ2 H2 => tb { D with nx := Pv (i + 1), ct := Pv (i + 1), bk := D.nx } σ2 H2) (hd : ∀ σ H, Pv xs.length σ H → D.nx σ H) :
    ∃ W : Nat → Nat → L2.St → Hp → Prop, (∃ m, W 0 m σ H) ∧ ∀ i m σ H, W i m σ H →
      ((Ite K a).stop i H ∧ D.nx σ H) ∨ ((Ite K a).go i H ∧ ∃ N : L2.St → Hp → Prop, (∀ σ' H', N σ' H' → ∃ m', m' < m ∧ W (i + 1) m' σ' H') ∧ ∀ x H', (Ite K a).yld i H x H' → g x σ H' fun σ2 H2 => tb { D with nx := N, ct := N, bk := D.nx } σ2 H2) := by
  refine ⟨fun i m σ H => m = xs.length - i ∧ i ≤ xs.length ∧ Pv i σ H, ⟨xs.length, by simp, Nat.zero_le _, h0⟩, ?_⟩
  rintro i m σ H ⟨rfl, hi, p⟩
  have q := hl i σ H hi p
  by_cases hlt : i < xs.length
  · refine .inr ⟨⟨xs, xs[i], q, by simp [hlt]⟩, Pv (i + 1), fun σ' H' p' => ⟨xs.length - (i + 1), by omega, rfl, hlt, p'⟩, fun x H' y => ?_⟩
    obtain ⟨t, z, rfl, nt, rfl, fz⟩ := y
    exact hs i z t σ H (fz xs q) nt p
  · have e : i = xs.length := by omega
    subst e
    exact .inl ⟨⟨xs, q, Nat.le_refl _⟩, hd σ H p⟩
theorem pe_gI {X : Cx} {x : Str} {pos : Pos} {i : Int} (hg : Gl X x) (h : ∃ t, X.mg x = some (.int i t)) (hdb : (x == ("__debug__" : Str)) = false := by decide) : PE X (.Name x pos) (tC (.int i)) := by
  obtain ⟨t, h⟩ := h
  exact pe_glob hg h ⟨_, rfl⟩ hdb
theorem seq_join {t u : TS} {D : Ends} {σ : L2.St} {H : Hp} (J : L2.St → Hp → Prop) (hu : ∀ σ' H', J σ' H' → u D σ' H') (ht : ∀ N : L2.St → Hp → Prop, (∀ σ' H', J σ' H' → N σ' H') → t { D with nx := N } σ H) : tSeq t u D σ H := ht _ hu
theorem ixN_at {n j : Nat} (hj : j < n) : ixN n (j : Int) = some j := by
  unfold ixN
  rw [if_pos (by omega), if_pos (by omega)]
  rfl
theorem LB.ints {H0 H : Hp} {o : Addr} {ns : List Int} (h : LB H0 H o (ns.map PyData.int)) : H o = some (.lst (ns.map V.int)) := by
  obtain ⟨h0, xs, h1, h2⟩ := h
  have e := dpAll_ints (K := []) h2.dp
  rw [e] at h1
  exact h1
/-- the state of the dice -/
def DiceOk (D : List Int) : Prop := 2 ≤ D.length ∧ D.length ≤ 100 ∧ ∀ x ∈ D, 0 ≤ x
/-! ### expressions that change nothing: what they are worth -/
theorem NewV.but {dd : Addr} {o : HO} {H H1 H2 : Hp} {v : V} {d : PyData} (h : NewV H H1 v d) (hd : H dd = some o) (e : SameBut dd H1 H2) : NewV H H2 v d := Dn.mono (fun b u q => by
  obtain ⟨q1, q2⟩ := fr_some q
  rw [fr_new q1]
  refine e b u (fun z => ?_) q2
  subst z
  rw [hd] at q1
  cases q1) h
theorem dpAll_take {K : PySem.W.Frag} {H : Hp} : ∀ (n : Nat) {vs : List V} {ds : List PyData}, DpAll K H vs ds → DpAll K H (vs.take n) (ds.take n)
  | 0, _, _, _ => .nil
  | _ + 1, _, _, .nil => .nil
  | n + 1, _, _, .cons h a => .cons h (dpAll_take n a)
theorem dpAll_drop {K : PySem.W.Frag} {H : Hp} : ∀ (n : Nat) {vs : List V} {ds : List PyData}, DpAll K H vs ds → DpAll K H (vs.drop n) (ds.drop n)
  | 0, _, _, h => h
  | _ + 1, _, _, .nil => .nil
  | n + 1, _, _, .cons _ a => dpAll_drop n a
theorem dpAll_rev {K : PySem.W.Frag} {H : Hp} : ∀ {vs : List V} {ds : List PyData}, DpAll K H vs ds → DpAll K H vs.reverse ds.reverse
  | _, _, .nil => .nil
  | _, _, .cons h a => by
    rw [List.reverse_cons, List.reverse_cons]
    exact dpAll_app (dpAll_rev a) (.cons h .nil)
theorem cut_to (xs : List V) (k : Nat) : cutV xs none (some (k : Int)) = xs.take k := by
  unfold cutV
  rw [HT.sIx_none, HT.sIx_nat, List.drop_zero, Nat.sub_zero]
  by_cases h : k ≤ xs.length
  · rw [Nat.min_eq_left h]
  · rw [Nat.min_eq_right (by omega), List.take_of_length_le (Nat.le_refl _), List.take_of_length_le (by omega)]
theorem cut_from (xs : List V) (k : Nat) : cutV xs (some (k : Int)) none = xs.drop k := by
  unfold cutV
  rw [HT.sIx_none, HT.sIx_nat]
  by_cases h : k ≤ xs.length
  · rw [Nat.min_eq_left h]
    exact List.take_of_length_le (by rw [List.length_drop]; exact Nat.le_refl _)
  · rw [Nat.min_eq_right (by omega), List.drop_of_length_le (Nat.le_refl _), List.drop_of_length_le (by omega)]
    simp
/-- in every heap over G the expression gives the data d, and leaves what stands -/
def Ev (K : PySem.W.Frag) (G : Hp) (σ : L2.St) (t : TE) (d : PyData) : Prop := ∀ (H : Hp) (Q : VK), Same G H → (∀ H' v, Same H H' → Dp K H' v d → Q v H') → t σ H Q
def EvB (K : PySem.W.Frag) (G : Hp) (σ : L2.St) (t : TT) (b : Bool) : Prop := ∀ (H : Hp) (Q : Bool → Hp → Prop), Same G H → (∀ H', Same H H' → Q b H') → t σ H Q
section
variable {K : PySem.W.Frag} {G : Hp} {σ : L2.St} {ta tb tc : TE} {tA tB' : TT} {d e : PyData}
theorem Ev.var {i : Nat} {v : V} (h : σ[i]? = some (some v)) (hd : Dp K G v d) : Ev K G σ (tVar i) d := fun H _ s k => ⟨v, h, k H v (Same.refl _) (same_dp s hd)⟩
theorem Ev.int (i : Int) : Ev K G σ (tC (.int i)) (.int i) := fun H _ _ k => k H _ (Same.refl _) (.int i)
theorem Ev.mono {G' : Hp} {t : TE} (h : Ev K G σ t d) (s : Same G G') : Ev K G' σ t d := fun H Q s' k => h H Q (s.trans s') k
theorem Ev.nil : Ev K G σ (tLst tNil) (.list []) := fun H _ _ k => ⟨Nat.zero_le _, fun p np => k _ _ (same_new np) (.lst (SqL.of upd_same) .nil)⟩
theorem Ev.take (k : Nat) {ds : List PyData} (h : Ev K G σ ta (.list ds)) : Ev K G σ (tSl (rSlL K) ta tNoPart (tPart (tC (.int (k : Int))))) (.list (ds.take k)) := fun H Q s c => h H _ s fun H1 v s1 hv => by
  obtain ⟨a, xs, rfl, hS, hA⟩ := dp_list hv
  refine ⟨(k : Int), rfl, a, xs, rfl, hS, fun p np => ?_⟩
  rw [cut_to]
  exact c _ _ (s1.trans (same_new np)) (.lst (SqL.of upd_same) (same_dpAll (same_new np) (dpAll_take k hA)))
theorem Ev.rev {ds : List PyData} (h : Ev K G σ ta (.list ds)) : Ev K G σ (tRevL K ta) (.list ds.reverse) := fun H Q s c => h H _ s fun H1 v s1 hv => by
  obtain ⟨a, xs, rfl, hS, hA⟩ := dp_list hv
  exact ⟨a, xs, rfl, hS, fun p np => c _ _ (s1.trans (same_new np)) (.lst (SqL.of upd_same) (same_dpAll (same_new np) (dpAll_rev hA)))⟩
theorem EvB.ne {n m : Nat} (ha : Ev K G σ ta d) (hb : Ev K G σ tb e) (sd : Sh n d) (se : Sh m e) (hn : n ≤ 64 := by decide) (hm : m ≤ 64 := by decide) : EvB K G σ (tTest (tOp (rNeD K) ta tb)) (!PyData.eqv d e) := fun H Q s k =>
  ha H _ s fun H1 v1 s1 d1 => hb H1 _ (s.trans s1) fun H2 v2 s2 d2 => ⟨d, e, same_dp s2 d1, d2, sd.shaped hn, se.shaped hm, _, rfl, k H2 (s1.trans s2)⟩
theorem EvB.eq {n m : Nat} (ha : Ev K G σ ta d) (hb : Ev K G σ tb e) (sd : Sh n d) (se : Sh m e) (hn : n ≤ 64 := by decide) (hm : m ≤ 64 := by decide) : Ev K G σ (tOp (rEqD K) ta tb) (.bool (PyData.eqv d e)) := fun H Q s k =>
  ha H _ s fun H1 v1 s1 d1 => hb H1 _ (s.trans s1) fun H2 v2 s2 d2 => ⟨d, e, same_dp s2 d1, d2, sd.shaped hn, se.shaped hm, k H2 _ (s1.trans s2) (.bl _)⟩
theorem EvB.or {a b : Bool} (ha : EvB K G σ tA a) (hb : EvB K G σ tB' b) : EvB K G σ (tOr tA tB') (a || b) := fun H Q s k =>
  ha H _ s fun H1 s1 => by
    cases a
    · exact iteF (hb H1 _ (s.trans s1) fun H2 s2 => k H2 (s1.trans s2))
    · exact iteT (k H1 s1)
theorem EvB.and {a b : Bool} (ha : EvB K G σ tA a) (hb : EvB K G σ tB' b) : EvB K G σ (tAnd tA tB') (a && b) := fun H Q s k =>
  ha H _ s fun H1 s1 => by
    cases a
    · exact iteF (k H1 s1)
    · exact iteT (hb H1 _ (s.trans s1) fun H2 s2 => k H2 (s1.trans s2))
theorem EvB.not {a : Bool} (ha : EvB K G σ tA a) : EvB K G σ (tNot tA) (!a) := fun H _ s k => ha H _ s fun H1 s1 => k H1 s1
theorem EvB.val {a : Bool} {t : TE} (h : Ev K G σ t (.bool a)) : EvB K G σ (L2.tB t) a := fun H _ s k => h H _ s fun H1 v s1 hv => ⟨a, dp_bool hv, k H1 s1⟩
/-- an if whose test is false -/
theorem EvB.pass {t1 : TS} {D : Ends} {H : Hp} (h : EvB K G σ tA false) (s : Same G H) (k : ∀ H', Same H H' → D.nx σ H') : tIfS tA t1 tNext D σ H := h H _ s fun H' s' => iteF (k H' s')
end
theorem list_map {α : Type} (l : List α) (g : α → PyData) : (List.range l.length).filterMap (fun (i : Nat) => (l[i]?).bind fun k => some (g k)) = l.map g := by
  have h : ∀ m, m ≤ l.length → (List.range m).filterMap (fun (i : Nat) => (l[i]?).bind fun k => some (g k)) = (l.take m).map g := by
    intro m
    induction m with
    | zero => intro _; rfl
    | succ m ih =>
      intro hm
      have hlt : m < l.length := hm
      have e : l[m]? = some l[m] := List.getElem?_eq_getElem hlt
      rw [List.range_succ, List.filterMap_append, ih (Nat.le_of_succ_le hm), List.take_add_one, e, List.map_append]
      congr 1
      rw [List.filterMap_cons, e]
      rfl
  rw [h _ (Nat.le_refl _), List.take_length]
theorem yesT {σ : L2.St} {H : Hp} {A B : Hp → Prop} (h : A H) : tYes σ H fun b H3 => if b = true then A H3 else B H3 := by
  show if true = true then A H else B H
  rw [if_pos rfl]
  exact h
/-! ### defs -/
section
variable {P : Program} {w : World} {K : PySem.W.Frag} {mg : Str → Option Value} {base : Heap}
/-- a def of the program's top: what stands under its name -/
structure Df (K : PySem.W.Frag) (mg : Str → Option Value) (x : Str) (st : Stmt) (ps : List Str) : Prop where
  ex : ∃ (f : Addr) (fd : FuncData), Fun K x x st f fd ∧ mg x = some (.ref f) ∧ Binds K fd ps []
/-- a def that keeps a promise, called by its name -/
structure Cl (P : Program) (w : World) (K : PySem.W.Frag) (mg : Str → Option Value) (base : Heap) (k : Nat) (x : Str) (sp : Sp) : Prop where
  ex : ∃ (f : Addr) (fd : FuncData) (ps : List Str), FnOk P w K mg base CX0 k f fd ps sp ∧ mg x = some (.ref f) ∧ PySem.W.keepIn K (.ref f) = true ∧ Binds K fd ps []
theorem Df.cl {x : Str} {st : Stmt} {N ps : List Str} {k : Nat} {sp : Sp} (F : Df K mg x st ps) (S : FnScope N ps (defScope st)) (len : ∀ vs H Q E, sp vs H Q E → vs.length = ps.length)
    (hbody : ∀ (f : Addr) (cdv : Value) (A : Around) (outer : List Env) (s : Shared) (H : Hp) (vs : List V) (Q : VK) (E : XK), Room k (A.deeper (envOfC x (defScope st) s.heap.objs.size f cdv)) → sp vs H Q E →
      ∃ t, PSs (cxOf CX0 P w K mg base N x (defScope st) f cdv A outer s H E).nox (defBody st) t ∧ t { nx := fun _ H' => Q .non H', rt := Q } (start N vs) H) : Cl P w K mg base (k + 1) x sp := by
  obtain ⟨f, fd, F0, g, b⟩ := F.ex
  exact ⟨f, fd, ps, F0.ok S len (fun cdv A outer s H vs Q E hr h => hbody f cdv A outer s H vs Q E hr h), g, F0.kp, b⟩
theorem Cl.imp {x : Str} {k : Nat} {sp sp' : Sp} (c : Cl P w K mg base k x sp) (h : ∀ vs H Q E, sp' vs H Q E → sp vs H Q E) : Cl P w K mg base k x sp' := by
  obtain ⟨f, fd, ps, F, a, b, d⟩ := c.ex
  exact ⟨f, fd, ps, F.imp h, a, b, d⟩
end
section
variable {X : Cx} {k j : Nat} {x : Str} {sp : Sp} {p pos : Pos} {e : Expr} {es : List Expr} {t : TA}
theorem pe_k (c : Cl X.prog X.w X.K X.mg X.base k x sp) (hr : Room j X.A) (ha : PA X (e :: es) t) (hk : k ≤ j := by decide) (hg : Gl X x := by rfl)
    (hdb : (x == ("__debug__" : Str)) = false := by decide) (he : starEach (e :: es) X.env = (false, eval e X.env) :: starEach es X.env := by rfl) (hpl : (backTo pos (starEach es X.env)).any (·.1) = false := by rfl) :
    PE X (.Call (.Name x p) (e :: es) [] pos) (tCall sp [] E0 t) := by
  obtain ⟨f, fd, ps, F, hm, kp, b⟩ := c.ex
  exact pe_call F (hr.mono hk) hg hm kp b .nil pass0 ha hdb he hpl
end
end Sg
/-! Signsets: more about data: heaps without the dice, parts of what was told, membership. -/
namespace Sg
open PySem PySem.Spec PyProof.Rows L2

/-! ### rising lists -/
theorem rising_ext : ∀ {a b : List Int}, a.Pairwise (· < ·) → b.Pairwise (· < ·) → (∀ k, k ∈ a ↔ k ∈ b) → a = b
  | [], [], _, _, _ => rfl
  | [], y :: b, _, _, h => absurd ((h y).mpr (by simp)) (by simp)
  | x :: a, [], _, _, h => absurd ((h x).mp (by simp)) (by simp)
  | x :: a, y :: b, ha, hb, h => by
    rw [List.pairwise_cons] at ha hb
    have e : x = y := by
      rcases List.mem_cons.mp ((h x).mp (by simp)) with q | q
      · exact q
      · rcases List.mem_cons.mp ((h y).mpr (by simp)) with r | r
        · exact r.symm
        · have h1 := hb.1 x q
          have h2 := ha.1 y r
          omega
    subst e
    rw [rising_ext ha.2 hb.2 fun k => ⟨fun m => ?_, fun m => ?_⟩]
    · rcases List.mem_cons.mp ((h k).mp (List.mem_cons_of_mem _ m)) with q | q
      · have := ha.1 k m
        omega
      · exact q
    · rcases List.mem_cons.mp ((h k).mpr (List.mem_cons_of_mem _ m)) with q | q
      · have := hb.1 k m
        omega
      · exact q
theorem sep_two {R : List (Int × Int)} (h : R.Pairwise fun a b => a.2 + 1 < b.1) {r q : Int × Int} (hr : r ∈ R) (hq : q ∈ R) : r = q ∨ r.2 + 1 < q.1 ∨ q.2 + 1 < r.1 := by
  obtain ⟨i, hi, rfl⟩ := List.getElem_of_mem hr
  obtain ⟨j, hj, rfl⟩ := List.getElem_of_mem hq
  rw [List.pairwise_iff_getElem] at h
  rcases Nat.lt_trichotomy i j with c | c | c
  · exact .inr (.inl (h i j hi hj c))
  · subst c
    exact .inl rfl
  · exact .inr (.inr (h j i hj hi c))
theorem told_firsts {ns : List Int} (h : ns.Pairwise (· < ·)) : (told ns).map (·.1) = ns.filter fun k => !decide (k - 1 ∈ ns) := by
  have t := told_ti h
  refine rising_ext ?_ (h.filter _) fun k => ?_
  · rw [List.pairwise_map]
    refine List.Pairwise.imp_of_mem (fun {a b} ha hb c => ?_) t.sep
    have := t.le a ha
    omega
  · rw [List.mem_map, List.mem_filter, Bool.not_eq_true', decide_eq_false_iff_not, ← t.has k, ← t.has (k - 1), has_iff, has_iff]
    constructor
    · rintro ⟨r, hr, rfl⟩
      refine ⟨⟨r, hr, Int.le_refl _, t.le r hr⟩, ?_⟩
      rintro ⟨q, hq, h1, h2⟩
      rcases sep_two t.sep hr hq with e | e | e
      · rw [← e] at h1
        omega
      · have := t.le r hr
        omega
      · omega
    · rintro ⟨⟨r, hr, h1, h2⟩, h3⟩
      refine ⟨r, hr, ?_⟩
      by_cases c : r.1 = k
      · exact c
      · exact absurd ⟨r, hr, by omega, by omega⟩ h3
theorem told_lasts {ns : List Int} (h : ns.Pairwise (· < ·)) : (told ns).map (·.2) = ns.filter fun k => !decide (k + 1 ∈ ns) := by
  have t := told_ti h
  refine rising_ext ?_ (h.filter _) fun k => ?_
  · rw [List.pairwise_map]
    refine List.Pairwise.imp_of_mem (fun {a b} ha hb c => ?_) t.sep
    have := t.le b hb
    omega
  · rw [List.mem_map, List.mem_filter, Bool.not_eq_true', decide_eq_false_iff_not, ← t.has k, ← t.has (k + 1), has_iff, has_iff]
    constructor
    · rintro ⟨r, hr, rfl⟩
      refine ⟨⟨r, hr, t.le r hr, Int.le_refl _⟩, ?_⟩
      rintro ⟨q, hq, h1, h2⟩
      rcases sep_two t.sep hr hq with e | e | e
      · rw [← e] at h2
        omega
      · omega
      · have := t.le r hr
        omega
    · rintro ⟨⟨r, hr, h1, h2⟩, h3⟩
      refine ⟨r, hr, ?_⟩
      by_cases c : r.2 = k
      · exact c
      · exact absurd ⟨r, hr, by omega, by omega⟩ h3

/-! ### no list of fewer ranges has the same signs -/
theorem nodup_len : ∀ {a b : List Int}, a.Nodup → (∀ x ∈ a, x ∈ b) → a.length ≤ b.length
  | [], b, _, _ => Nat.zero_le _
  | x :: a, b, hn, hs => by
    rw [List.nodup_cons] at hn
    have hx : x ∈ b := hs x (by simp)
    have ih := nodup_len (b := b.erase x) hn.2 fun y hy => (List.mem_erase_of_ne fun z => hn.1 (by rw [← z]; exact hy)).mpr (hs y (List.mem_cons_of_mem _ hy))
    rw [List.length_erase_of_mem hx] at ih
    have : 0 < b.length := List.length_pos_of_mem hx
    rw [List.length_cons]
    omega
theorem told_first_mem {ns : List Int} (h : ns.Pairwise (· < ·)) {r : Int × Int} (hr : r ∈ told ns) : r.1 ∈ ns ∧ r.1 - 1 ∉ ns := by
  have m : r.1 ∈ (told ns).map (·.1) := List.mem_map.mpr ⟨r, hr, rfl⟩
  rw [told_firsts h, List.mem_filter, Bool.not_eq_true', decide_eq_false_iff_not] at m
  exact m
theorem told_fewest {ns : List Int} (h : ns.Pairwise (· < ·)) {O : List (Int × Int)} (hO : ∀ k, k ∈ ns ↔ has O k = true) : (told ns).length ≤ O.length := by
  have t := told_ti h
  have e := nodup_len (a := (told ns).map (·.1)) (b := O.map (·.1)) ?_ ?_
  · rw [List.length_map, List.length_map] at e
    exact e
  · rw [told_firsts h]
    exact (h.filter _).imp fun {a b} c => by omega
  · intro x hx
    obtain ⟨r, hr, rfl⟩ := List.mem_map.mp hx
    obtain ⟨m1, m2⟩ := told_first_mem h hr
    obtain ⟨o, ho, h1, h2⟩ := has_iff.mp ((hO _).mp m1)
    refine List.mem_map.mpr ⟨o, ho, ?_⟩
    by_cases c : o.1 = r.1
    · exact c
    · exact absurd ((hO _).mpr (has_iff.mpr ⟨o, ho, by omega, by omega⟩)) m2

/-! ### membership -/
theorem inV_ints (k : Int) : ∀ ns : List Int, inV (.int k) (ns.map V.int) = decide (k ∈ ns)
  | [] => rfl
  | n :: ns => by
    have ih := inV_ints k ns
    unfold inV at ih ⊢
    rw [List.map_cons, List.any_cons, ih]
    have e : eqV (.int n) (.int k) = decide (n = k) := by
      show (n == k) = _
      by_cases h : n = k <;> simp [h]
    rw [e]
    by_cases h : n = k
    · simp [h]
    · by_cases h2 : k ∈ ns
      · simp [h2]
      · simp [h, h2]
        exact fun z => h z.symm
theorem flat_ints (ns : List Int) : (ns.map V.int).all flatV = true := by
  rw [List.all_eq_true]
  intro x hx
  obtain ⟨n, _, rfl⟩ := List.mem_map.mp hx
  rfl
theorem dpAll_bools {K : PySem.W.Frag} {H : Hp} : ∀ {vs : List V} {bs : List Bool}, DpAll K H vs (bs.map PyData.bool) → vs = bs.map V.bl
  | _, [], .nil => rfl
  | _, n :: ns, .cons h a => by
    rw [dp_bool h, dpAll_bools a]
    rfl
theorem rIx_of {K : PySem.W.Frag} {H : Hp} {Q : VK} {a : Addr} {xs : List V} {i : Nat} {v : V} (hq : SqL K H a xs ∨ SqT K H a xs) (hi : xs[i]? = some v) (q : Q v H) : rIx K (.ref a) (.int (i : Int)) H Q := by
  rcases hq with h | h
  · exact .inl ⟨a, xs, i, v, rfl, rfl, h, atI_nat hi, q⟩
  · exact .inr (.inl ⟨a, xs, i, v, rfl, rfl, h, atI_nat hi, q⟩)

/-! ### heaps without one address -/
theorem sb_same {d : Addr} {H H' : Hp} (e : SameBut d H H') : Same (del H d) (del H' d) := fun b o h => by
  by_cases c : b = d
  · subst c
    rw [del_self] at h
    cases h
  · rw [del_ne c] at h ⊢
    exact e b o c h
theorem NewV.del {d : Addr} {o : HO} {H H' : Hp} {v : V} {e : PyData} (h : NewV H H' v e) (hd : H d = some o) : NewV (del H d) (Sg.del H' d) v e := Dn.mono (fun b u q => by
  obtain ⟨q1, q2⟩ := fr_some q
  have c : b ≠ d := fun z => by
    subst z
    rw [hd] at q1
    cases q1
  rw [fr_new (by rw [del_ne c]; exact q1), del_ne c]
  exact q2) h
theorem NewV.undel {d : Addr} {H H' : Hp} {v : V} {e : PyData} (h : NewV (Sg.del H d) (Sg.del H' d) v e) : NewV H H' v e := Dn.mono (fun b u q => by
  obtain ⟨q1, q2⟩ := fr_some q
  by_cases c : b = d
  · subst c
    rw [del_self] at q2
    cases q2
  · rw [del_ne c] at q1 q2
    rw [fr_new q1]
    exact q2) h
theorem del_upd {d o : Addr} {x : HO} {H : Hp} (n : o ≠ d) : del (upd H o x) d = upd (del H d) o x := by
  funext b
  by_cases c : b = d
  · subst c
    rw [del_self, upd_ne n.symm, del_self]
  · rw [del_ne c]
    by_cases c2 : b = o
    · subst c2
      rw [upd_same, upd_same]
    · rw [upd_ne c2, upd_ne c2, del_ne c]
theorem del_upd_self {d : Addr} {x : HO} {H : Hp} : del (upd H d x) d = del H d := by
  funext b
  by_cases c : b = d
  · subst c
    rw [del_self, del_self]
  · rw [del_ne c, del_ne c, upd_ne c]

theorem LB.mk {H0 H : Hp} {o : Addr} {xs : List V} {ds : List PyData} (s : Same H0 H) (no : H o = none) (ha : DnAll (fr H0 H) xs ds) : LB H0 (upd H o (.lst xs)) o ds := by
  refine ⟨s.free no, xs, upd_same, ha.mono fun b u q => ?_⟩
  obtain ⟨q1, q2⟩ := fr_some q
  have c : b ≠ o := ne_of_none q2 no
  rw [del_ne c, fr_new q1, upd_ne c]
  exact q2
theorem LB.push {H0 H : Hp} {o : Addr} {ds : List PyData} {y : V} {e : PyData} (h : LB H0 H o ds) (hy : Dn (del (fr H0 H) o) y e) : ∃ xs, H o = some (.lst xs) ∧ xs.length = ds.length ∧ LB H0 (upd H o (.lst (xs ++ [y]))) o (ds ++ [e]) := by
  obtain ⟨h0, xs, h1, h2⟩ := h
  have up : Same (del (fr H0 H) o) (del (fr H0 (upd H o (.lst (xs ++ [y])))) o) := fun b u q => by
    by_cases c : b = o
    · subst c
      rw [del_self] at q
      cases q
    · rw [del_ne c] at q ⊢
      obtain ⟨q1, q2⟩ := fr_some q
      rw [fr_new q1, upd_ne c]
      exact q2
  exact ⟨xs, h1, h2.len, h0, xs ++ [y], upd_same, DnAll.snoc (h2.mono up) (Dn.mono up hy)⟩
theorem dec_allIn {n : Nat} {R : List (Int × Int)} (hk : Ok n R) (k : Int) : decide (k ∈ allIn n R) = has R k := by
  cases e : has R k
  · exact decide_eq_false fun z => by rw [(mem_allIn hk).mp z] at e; cases e
  · exact decide_eq_true ((mem_allIn hk).mpr e)

/-! ### the parts of what was told -/
mutual
theorem Dn.func {F : Hp} : ∀ {d e : PyData} {v : V}, Dn F v d → Dn F v e → d = e
  | .none, _, _, .non, h => by cases h; rfl
  | .bool b, _, _, .bl _, h => by cases h; rfl
  | .int i, _, _, .int _, h => by cases h; rfl
  | .str x, _, _, .str _, h => by cases h; rfl
  | .list ds, _, _, .lst h a, h2 => by
    cases h2 with
    | lst h' a' =>
      rw [h] at h'
      cases h'
      rw [DnAll.func a a']
    | tup h' a' =>
      rw [h] at h'
      cases h'
  | .tuple ds, _, _, .tup h a, h2 => by
    cases h2 with
    | tup h' a' =>
      rw [h] at h'
      cases h'
      rw [DnAll.func a a']
    | lst h' a' =>
      rw [h] at h'
      cases h'
theorem DnAll.func {F : Hp} : ∀ {ds es : List PyData} {vs : List V}, DnAll F vs ds → DnAll F vs es → ds = es
  | [], _, _, .nil, h => by cases h; rfl
  | d :: ds, _, _, .cons h a, h2 => by
    cases h2 with
    | cons h' a' => rw [Dn.func h h', DnAll.func a a']
end
theorem part_ne {F : Hp} {f p : Addr} {ps xs : List V} {ds : List PyData} (hf : F f = some (.lst ps)) (ha : DnAll F ps ds) (hm : V.ref p ∈ ps) : p ≠ f := fun z => by
  subst z
  obtain ⟨i, hi⟩ := List.getElem?_of_mem hm
  obtain ⟨d, hd, hn⟩ := ha.get hi
  have e := Dn.func (.lst hf ha) hn
  have h1 := List.sizeOf_lt_of_mem (List.mem_of_getElem? hd)
  rw [← e] at h1
  simp at h1
  omega
/-- lists that are new over G, to be made longer -/
def Parts (G H : Hp) (ps : List V) (b : Nat) : Prop := ∀ v ∈ ps, ∃ p xs, v = .ref p ∧ G p = none ∧ H p = some (.lst xs) ∧ xs.length ≤ b
theorem Parts.same {G H H' : Hp} {ps : List V} {b : Nat} (h : Parts G H ps b) (s : Same H H') : Parts G H' ps b := fun v hv => by
  obtain ⟨p, xs, h1, h2, h3, h4⟩ := h v hv
  exact ⟨p, xs, h1, h2, s _ _ h3, h4⟩
theorem Parts.push {G H : Hp} {ps : List V} {b : Nat} {p : Addr} {xs : List V} {y : V} (h : Parts G H ps b) (hl : xs.length ≤ b) : Parts G (upd H p (.lst (xs ++ [y]))) ps (b + 1) := fun v hv => by
  obtain ⟨q, ys, h1, h2, h3, h4⟩ := h v hv
  by_cases c : q = p
  · subst c
    exact ⟨q, _, h1, h2, upd_same, by rw [List.length_append]; simp; omega⟩
  · exact ⟨q, ys, h1, h2, by rw [upd_ne c]; exact h3, by omega⟩
theorem Parts.of {G H : Hp} {ps : List V} {ds : List PyData} {b : Nat} (ha : DnAll (fr G H) ps ds) (hd : ∀ d ∈ ds, ∃ es, d = .list es ∧ es.length ≤ b) : Parts G H ps b := fun v hv => by
  obtain ⟨i, hi⟩ := List.getElem?_of_mem hv
  obtain ⟨d, hd', hn⟩ := ha.get hi
  obtain ⟨es, rfl, hl⟩ := hd d (List.mem_of_getElem? hd')
  cases hn with
  | lst h a =>
    obtain ⟨q1, q2⟩ := fr_some h
    exact ⟨_, _, rfl, q1, q2, by rw [a.len]; exact hl⟩
end Sg
/-! Signsets: isinstance over data; what _law_alike looks at. -/
namespace Sg
open PySem PySem.Spec PyProof.Rows L2
def tyN : PyData → String
  | .none => "NoneType"
  | .bool _ => "bool"
  | .int _ => "int"
  | .str _ => "str"
  | .list _ => "list"
  | .tuple _ => "tuple"
  | .dict _ => "dict"
def isN (n t : String) : Bool := t == n || (n == "int" && t == "bool")
/-- isinstance of data with a built-in class -/
def isT (n : String) (d : PyData) : Bool := isN n (tyN d)
theorem kitN : ∀ t ∈ ["NoneType", "bool", "int", "str", "list", "tuple"], ∀ n ∈ ["bool", "int", "str", "tuple", "list"], kitB t n = some (isN n t) := by decide +kernel
theorem dp_ty {K : PySem.W.Frag} {H : Hp} {v : V} {d : PyData} (h : Dp K H v d) : TyX K H v (.type (tyN d)) := by
  cases h with
  | non => exact .base .non
  | bl b => exact .base (.bl b)
  | int i => exact .base (.int i)
  | str x => exact .base (.str x)
  | lst h _ =>
    rcases h with (h | ⟨o, h⟩) | ⟨o, its, n, h, c, _⟩
    · exact .base (.lst h)
    · exact .base (.frz h)
    · exact .kList h c
  | tup h _ =>
    rcases h with (h | ⟨o, h⟩) | ⟨o, its, n, h, c, _⟩
    · exact .base (.tup h)
    · exact .fTuple h
    · exact .kTuple h c
def rIsD (K : PySem.W.Frag) : List V → Hp → VK → Prop := fun xs H Q => ∃ (x : V) (n : String) (d : PyData), xs = [x, .ty n] ∧ n ∈ ["bool", "int", "str", "tuple", "list"] ∧ Dp K H x d ∧ Q (.bl (isT n d)) H
theorem isD {X : Cx} (K : PySem.W.Frag) (h : X.K = K := by rfl) : CallR X (.builtin "isinstance") (rIsD K) := by
  subst h
  intro pins s σ H xs us Q I r h
  obtain ⟨x, n, d, rfl, hn, hd, q⟩ := h
  refine call_isi pins s σ H _ us Q I r ⟨x, .ty n, .type (tyN d), .type n, isT n d, rfl, .ty n, dp_ty hd, ?_, q⟩
  refine kit_ty (kitN _ ?_ n hn)
  cases d with
  | dict kvs => cases hd
  | none => simp [tyN]
  | bool b => simp [tyN]
  | int i => simp [tyN]
  | str x => simp [tyN]
  | list ds => simp [tyN]
  | tuple ds => simp [tyN]
theorem isT_bool {d : PyData} (h : isT "bool" d = true) : ∃ b, d = .bool b := by
  cases d <;> simp [isT, isN, tyN] at h
  exact ⟨_, rfl⟩
theorem isT_int {d : PyData} (h : isT "int" d = true) (h2 : ¬ isT "bool" d = true) : ∃ b, d = .int b := by
  cases d <;> simp [isT, isN, tyN] at h h2
  exact ⟨_, rfl⟩
theorem isT_str {d : PyData} (h : isT "str" d = true) : ∃ b, d = .str b := by
  cases d <;> simp [isT, isN, tyN] at h
  exact ⟨_, rfl⟩
theorem ixQ {X : Cx} (K : PySem.W.Frag) (h : X.K = K := by rfl) : IxR X (rIx K) := by subst h; exact ix_seq
/-- data of at most n storeys, its lists of at most 100,000 items -/
def Al : Nat → PyData → Prop
  | _, .none => True
  | _, .bool _ => True
  | _, .int _ => True
  | _, .str _ => True
  | n + 1, .list ds => ds.length ≤ 100000 ∧ ∀ d ∈ ds, Al n d
  | n + 1, .tuple ds => ds.length ≤ 100000 ∧ ∀ d ∈ ds, Al n d
  | _, _ => False
theorem Al.int {n : Nat} (i : Int) : Al n (.int i) := by cases n <;> trivial
theorem Al.bool {n : Nat} (i : Bool) : Al n (.bool i) := by cases n <;> trivial
theorem Al.str {n : Nat} (i : Str) : Al n (.str i) := by cases n <;> trivial
theorem Al.eP {n : Nat} (r : Int × Int) : Al (n + 1) (eP r) := ⟨by simp, fun d hd => by
  simp at hd
  rcases hd with rfl | rfl <;> exact Al.int _⟩
theorem Al.eI {n : Nat} {ns : List Int} (h : ns.length ≤ 100000) : Al (n + 1) (eI ns) := ⟨by rw [List.length_map]; exact h, fun d hd => by
  obtain ⟨r, _, rfl⟩ := List.mem_map.mp hd
  exact Al.int r⟩
theorem Al.eR {n : Nat} {R : List (Int × Int)} (h : R.length ≤ 100000) : Al (n + 2) (eR R) := ⟨by rw [List.length_map]; exact h, fun d hd => by
  obtain ⟨r, _, rfl⟩ := List.mem_map.mp hd
  exact Al.eP r⟩
end Sg
/-! Signsets: set(xs) of a list of ints, sorted(s) of such a set of any size: rules of our own. -/
namespace Sg
open PySem PySem.Spec PyProof.Rows L2
section
variable {P : Program} {w : World} {A : Around} {E : Value → Shared → Prop} {s : Shared}
abbrev newSet (w : World) : Obj := { cls := .type "set", dict := none, data := .set #[] 0 (.fresh 0 0 (!w.params.followText "set-order")) }
/-- set(l), l a list of ints -/
theorem setOf_list {l : Addr} {items : Array Value} (ns : List Int) {Q : Value → Shared → Prop} (hh : A.handled = none) (hl : s.heap.IsList l items) (hit : IntsAre items.toList ns) (hb : ns.length + 1 < scanBound)
    (h : ∀ (h' : Heap) (tk c : Nat), SetR w h' s.heap.objs.size (fun j => decide (j ∈ ns)) c → c ≤ ns.length → (∀ b o, s.heap.get? b = some o → h'.get? b = some o) → Q (.ref s.heap.objs.size) { s with heap := h', toks := tk }) :
    wpAny (model P w) A (call (.type "set") [.ref l]) Q E s := by
  have hisz : items.size = ns.length := by
    have q := IntsAre.length hit
    rw [Array.length_toList] at q
    exact q
  obtain ⟨c, tl, hmro⟩ := PySem.F.called_set.mro
  have hmade := PySem.F.called_set.made
  have hsub := PySem.F.called_set.sub
  refine wpAny_call (codeAny_of_tree ?_)
  show wpAny _ _ (callAny (.type "set") _) _ _ _
  refine wpAny_pure ⟨Code.quiet_builtin _ (by decide +kernel), codeAny_builtin PySem.F.entry_type_call ?_⟩
  rw [Around.under_plain (weight_type_call_type "set" [.ref l] []) rfl]
  have h1 := PySem.F.called_set.notType
  have h2 := PySem.F.called_set.canCreate
  have hct := PySem.F.typeCall_set_1 (.ref l)
  repeat (any_goals (first | assumption | wp_step))
  refine codeAny_mono (code_set_led1 (.ref l) (E := E) (Q₁ := fun obj s₁ => obj = .ref s.heap.objs.size ∧ s₁ = { s with heap := s.heap.push (newSet w) }) ⟨rfl, rfl⟩) fun r s₁ hr => ?_
  cases r with
  | error e => exact hr
  | ok fl =>
    cases fl with
    | ret obj =>
      obtain ⟨rfl, rfl⟩ := hr
      have hS : (s.heap.push (newSet w)).get? s.heap.objs.size = some (newSet w) := Heap.get?_push_size _ rfl
      have hT : Shared.TypeIs { s with heap := s.heap.push (newSet w) } (.ref s.heap.objs.size) "set" := ⟨_, hS, rfl⟩
      have hli := PySem.F.called_set.init.lookup
      have hbi := PySem.F.called_set.init.bind (.ref s.heap.objs.size)
      repeat (any_goals (first | assumption | wp_step))
      refine codeAny_mono (codeAny_call_builtin (R := wants (fun r s₂ => r = .none ∧ ∃ h' tk c, s₂ = { s with heap := h', toks := tk } ∧ SetR w h' s.heap.objs.size (fun j => decide (j ∈ ns)) c ∧ c ≤ ns.length ∧
          (∀ b o, s.heap.get? b = some o → h'.get? b = some o)) E) PySem.F.called_set.init.plain PySem.F.entry_set_init (check_set_init_1 hT ?_)) fun r₂ s₂ hr₂ => ?_
      · obtain ⟨ol, hol, hcl, nl, hdl⟩ := hl
        obtain ⟨ocls, odict, odata, oslots⟩ := ol
        simp only at hcl hdl
        subst hcl; subst hdl
        have hol' : (s.heap.push (newSet w)).get? l = some { cls := .type "list", dict := odict, data := .seq items nl, slots := oslots } := Heap.get?_push_of_some _ hol
        have hsls := PySem.F.sub_list_set
        have hslf := PySem.F.sub_list_frozenset
        have hne : (Value.type "list" == Value.type "dict") = false := by decide
        have hl1 : (s.heap.push (newSet w)).IsList l items := ⟨_, hol', rfl, nl, rfl⟩
        unfold Builtin.«set.__init__» noKeywords Builtin.Frozenset.updateFrom
        generalize hPI : pyIter = PI
        wp_walk
        subst hPI
        refine wpAny_pyIter_list hl1 ?_
        refine wpAny_bind (wpAny_runValue ?_)
        have hlS : l < s.heap.objs.size := Heap.lt_size hol
        have hh3 : A.in1.in1.in1.handled = none := by simp [hh]
        have hz : (s.heap.push (newSet w)).objs.size = s.heap.objs.size + 1 := Heap.size_push ..
        have hneI : l ≠ (s.heap.push (newSet w)).objs.size := by
          rw [hz]
          exact Nat.ne_of_lt (Nat.lt_succ_of_lt hlS)
        have hSf : s.heap.objs.size ∉ [(s.heap.push (newSet w)).objs.size, l] := by
          rw [hz]
          intro m
          rcases List.mem_cons.mp m with e | m
          · exact absurd e (Nat.ne_of_lt (Nat.lt_succ_self _))
          · exact absurd (List.mem_singleton.mp m) (Nat.ne_of_gt hlS)
        have hval : ∀ (i : Nat) (v : Value), items[i]? = some v → ∃ k t, ns[i]? = some k ∧ v = .int k t := fun i v hv => by
          have hi : i < ns.length := by rw [← hisz]; exact (Array.getElem?_eq_some_iff.mp hv).1
          obtain ⟨t, e⟩ := PyProof.Rows.IntsAre.int_at hit i v (by rw [Array.getElem?_toList]; exact hv)
          refine ⟨ns[i], t, List.getElem?_eq_getElem hi, ?_⟩
          rw [e, List.getD_eq_getElem?_getD, List.getElem?_eq_getElem hi] <;> rfl
        refine set_update_ints ((Walks.list hh3 _ l hneI items).toS) s.heap.objs.size hSf ns hisz hb hval (items.size - 0) 0 _ (by omega) (Nat.zero_le _)
          ⟨⟨_, Heap.get?_push_size _ rfl, rfl, rfl⟩, (hl1.push _)⟩ ?hS0 ?hR
        case hS0 => exact ⟨0, Nat.le_refl 0, setR_new_at (Heap.get?_push_of_some _ hS)⟩
        case hR =>
          intro s' c' hm hc' hS'
          obtain ⟨h', g2, d', tk', os'⟩ := s'
          have eg : g2 = s.gens := hm.gens
          have ed : d' = s.drawn := hm.drawn
          have eo : os' = s.os := hm.os
          subst eg; subst ed; subst eo
          show wpAny _ _ _ _ _ _
          refine wpAny_pure ?_
          show wpAny _ _ (ret Value.none) _ _ _
          rw [hisz] at hc'
          refine wpAny_pure ⟨rfl, h', tk', c', rfl, hS', hc', fun b o e => ?_⟩
          have hb0 : b < s.heap.objs.size := Heap.lt_size e
          refine hm.heap b o (fun m => ?_) (Heap.get?_push_of_some _ (Heap.get?_push_of_some _ e))
          rcases List.mem_cons.mp m with z | m
          · exact absurd z (Nat.ne_of_lt hb0)
          · have z := List.mem_singleton.mp m
            rw [hz] at z
            exact absurd z (Nat.ne_of_lt (Nat.lt_succ_of_lt hb0))
      · cases r₂ with
        | error e => exact hr₂
        | ok fl₂ =>
          cases fl₂ with
          | ret r =>
            obtain ⟨rfl, h', tk, c', rfl, hS', hc', hk'⟩ := hr₂
            repeat (any_goals (first | assumption | wp_step))
            exact h _ _ _ hS' hc' hk'
          | _ => exact hr₂.elim
    | _ => exact hr.elim
/-- sorted(a), a a set of ints of any size -/
theorem sorted_any {a : Addr} {S : Int → Bool} {n : Nat} {Q : Value → Shared → Prop} (R : SetR w s.heap a S n) (hh : A.handled = none)
    (hQ : ∀ s' p (out : List Value) (c : Nat) (ns : List Int), (∀ b o, s.heap.get? b = some o → s'.heap.get? b = some o) → s'.gens = s.gens → s'.os = s.os → s.heap.objs.size ≤ p →
      s'.heap.get? p = some (seqObj "list" out.toArray c) → IntsAre out ns → ns.Pairwise (· < ·) → (∀ k, k ∈ ns ↔ S k = true) → ns.length = n → Q (.ref p) s') :
    wpAny (model P w) A (call (.builtin "sorted") [.ref a]) Q E s := by
  obtain ⟨o, es, ep, t, ho, hex, hd, g, nd, hm, hb, hf, hn, hr, hl⟩ := R
  refine Calls.call_function_entry kind_sorted plain_sorted entry_sorted (args_sorted1 _) ?_
  unfold Builtin.«sorted»
  refine wpAny_bind (m := checkCount "sorted" 1 1 _) (wpAny_pure ?_)
  refine wpAny_bind (collect_set (A := A.in1) hh ⟨o, ho, hex.1, hd⟩ hf hb hr hl fun s1 vs k1 hz g1 o1 pm => ?_)
  have hvl : vs.length = n := by rw [pm.length_eq, List.length_map, Array.length_toList]; exact hn
  have hI : IntsAre vs (vs.map Builtin.Re.reRawOf) := ints_of vs fun v hv => by
    obtain ⟨e, he, q⟩ := List.mem_map.mp (pm.mem_iff.mp hv)
    obtain ⟨k, tk, h1, _⟩ := g e he
    exact ⟨k, tk, by rw [← q]; exact h1⟩
  have pk : (vs.map Builtin.Re.reRawOf).Perm (es.toList.map keyOf) := by
    have q := pm.map Builtin.Re.reRawOf
    rw [List.map_map] at q
    exact q
  have hzz : vs.length ≤ sizeLine := by
    rw [hvl, ← hn]
    exact Nat.le_trans (Nat.le_of_lt hb) (by decide)
  refine wpAny_bind (wpAny_newList ?_ hzz)
  have hoL : (s1.heap.push (seqObj "list" vs.toArray 0)).get? s1.heap.objs.size = some (seqObj "list" vs.toArray 0) := Heap.get?_push_size _ rfl
  refine wpAny_bind (wpAny_holding (wpAny_call_entry slot_list_sort ⟨_, hoL, rfl⟩ entry_list_sort (SrtO.list_sort_ord SrtO.swo_int hoL hzz (fun h2 => SrtO.ints_sortable hI h2) fun out a1 a2 => ⟨_, rfl, ?_⟩) (args_list_sort _)))
  obtain ⟨b1, b2, b3⟩ := SrtO.ints_out hI a1 a2
  obtain ⟨c, hc⟩ := sortedHeap_at (vs := vs) (out := out.toArray) hoL
  have pn : (out.map SrtO.iv).Perm (es.toList.map keyOf) := b2.trans pk
  refine wpAny_pure ⟨_, rfl, hQ _ s1.heap.objs.size out c _ (fun b u e => ?_) g1 o1 hz hc b1 (lt_of_le_nodup _ b3 (pn.nodup_iff.mpr nd)) (fun k => by rw [pn.mem_iff, ← hm k]) ?_⟩
  · have q := k1 b u e
    have hlt := Heap.lt_size q
    show (sortedHeap (s1.heap.push (seqObj "list" vs.toArray 0)) s1.heap.objs.size vs out.toArray).get? b = some u
    rw [sortedHeap_old (Nat.ne_of_lt hlt) (by rw [size_push']; exact Nat.lt_succ_of_lt hlt)]
    exact Heap.get?_push_of_some _ q
  · rw [pn.length_eq, List.length_map, Array.length_toList]; exact hn
end
section
variable {X : Cx}
def rSetI (K : PySem.W.Frag) (w : World) : List V → Hp → VK → Prop := fun vs H Q => ∃ (a : Addr) (ns : List Int), vs = [.ref a] ∧ SqL K H a (ns.map V.int) ∧ ns.length + 1 < scanBound ∧ ∀ p c, H p = none → c ≤ ns.length → Q (.ref p) (upd H p (SetO w p (fun j => decide (j ∈ ns)) c))
theorem setI (K : PySem.W.Frag) (w : World) (hc : X.calm = true) (h : X.K = K := by rfl) (h2 : X.w = w := by rfl) : CallR X (.type "set") (rSetI K w) := by
  subst h h2
  intro pins s σ H vs us Q I r h
  obtain ⟨a, ns, rfl, hs, hb, q⟩ := h
  obtain ⟨its, rv, hl, hz⟩ := I.list hs
  rw [Vals.ref1 r]
  have hi := ints_of_vals rv
  refine setOf_list (items := its.toArray) ns (I.ok.hd hc) hl.isList hi hb fun h' tk c hS hcl hk => ?_
  have hn : H s.heap.objs.size = none := I.hok.fresh (Nat.le_refl _)
  exact ⟨.ref _, upd H s.heap.objs.size (SetO X.w s.heap.objs.size (fun j => decide (j ∈ ns)) c), I.laid (t' := tk) hk (Nat.le_refl _) (setO_new hS), rfl, q _ c hn hcl⟩
def rSortedA (w : World) : List V → Hp → VK → Prop := fun vs H Q => ∃ (a : Addr) (S : Int → Bool) (n : Nat), vs = [V.ref a] ∧ H a = some (SetO w a S n) ∧ n ≤ 1000000 ∧
  ∀ (ns : List Int) (p : Addr), ns.Pairwise (· < ·) → (∀ k : Int, k ∈ ns ↔ S k = true) → ns.length = n → H p = none → Q (.ref p) (upd H p (.lst (ns.map V.int)))
theorem sortedA (w : World) (hc : X.calm = true) (h2 : X.w = w := by rfl) : CallR X (.builtin "sorted") (rSortedA w) := by
  subst h2
  intro pins s σ H vs us Q I r h
  obtain ⟨a, S, n, rfl, ha, h64, q⟩ := h
  have R := setO_get I ha
  rw [Vals.ref1 r]
  refine sorted_any R (I.ok.hd hc) fun s' p out c ns k g o hp hg hi hs hm hl => ?_
  have hlen : (ns.map V.int).length ≤ sizeLine := by
    rw [List.length_map, hl]
    exact Nat.le_of_lt (sizeOk h64)
  have hn : H p = none := I.hok.fresh hp
  have J : Inv X pins σ (upd H p (.lst (ns.map V.int))) { s with heap := s'.heap, gens := s'.gens, drawn := s'.drawn, toks := s'.toks } :=
    I.call (ch := []) (Un.laid k hp hn) (I.hok.laid k hp ⟨hlen, out, c, vals_of_ints hi, hg⟩) (by rw [g]; exact I.bare) (fun _ z => nomatch z)
  have e : s' = { s with heap := s'.heap, gens := s'.gens, drawn := s'.drawn, toks := s'.toks } := by
    cases s'
    cases s
    cases o
    rfl
  rw [e]
  exact ⟨.ref p, _, J, rfl, q ns p hs hm hl hn⟩
end
end Sg
/-! Signsets: data of several sets, of kinds, of texts of 0 and 1; deep membership. -/
namespace Sg
open PySem PySem.Spec PyProof.Rows L2
/-- several sets; lists of ints; texts -/
def eRs (L : List (List (Int × Int))) : PyData := .list (L.map eR)
def eIs (L : List (List Int)) : PyData := .list (L.map eI)
def eB (b : List Bool) : PyData := .tuple (b.map PyData.bool)
def eBs (L : List (List Bool)) : PyData := .list (L.map eB)
def eT (L : List Str) : PyData := .list (L.map PyData.str)
theorem Sh.str {n : Nat} {i : Str} (h : PyData.strOk i = true) : Sh n (.str i) := ⟨by simp [PyData.canLay0, h], by simp [PyData.depth]⟩
theorem Sh.eB {n : Nat} (b : List Bool) : Sh (n + 1) (eB b) := Sh.tuple fun d hd => by
  obtain ⟨r, _, rfl⟩ := List.mem_map.mp hd
  exact Sh.bool r
theorem Sh.eBs {n : Nat} (L : List (List Bool)) : Sh (n + 2) (eBs L) := Sh.list fun d hd => by
  obtain ⟨r, _, rfl⟩ := List.mem_map.mp hd
  exact Sh.eB r
theorem Sh.eRs {n : Nat} (L : List (List (Int × Int))) : Sh (n + 3) (eRs L) := Sh.list fun d hd => by
  obtain ⟨r, _, rfl⟩ := List.mem_map.mp hd
  exact Sh.eR r
theorem Al.eIs {n : Nat} {L : List (List Int)} (h : L.length ≤ 100000) (h2 : ∀ l ∈ L, l.length ≤ 100000) : Al (n + 2) (eIs L) := ⟨by rw [List.length_map]; exact h, fun d hd => by
  obtain ⟨r, hr, rfl⟩ := List.mem_map.mp hd
  exact Al.eI (h2 r hr)⟩
theorem Al.eRs {n : Nat} {L : List (List (Int × Int))} (h : L.length ≤ 100000) (h2 : ∀ l ∈ L, l.length ≤ 100000) : Al (n + 3) (eRs L) := ⟨by rw [List.length_map]; exact h, fun d hd => by
  obtain ⟨r, hr, rfl⟩ := List.mem_map.mp hd
  exact Al.eR (h2 r hr)⟩
theorem eqv_bools : ∀ (a b : List Bool), PyData.eqvAll (a.map PyData.bool) (b.map PyData.bool) = decide (a = b)
  | [], [] => by simp [PyData.eqvAll]
  | [], _ :: _ => by simp [PyData.eqvAll]
  | _ :: _, [] => by simp [PyData.eqvAll]
  | x :: a, y :: b => by
    have ih := eqv_bools a b
    simp only [List.map_cons, PyData.eqvAll, PyData.eqv, ih]
    cases x <;> cases y <;> by_cases h2 : a = b <;> simp [h2]
theorem eqv_eB (a b : List Bool) : PyData.eqv (eB a) (eB b) = decide (a = b) := by
  unfold eB
  rw [PyData.eqv, eqv_bools]
theorem any_eB (b : List Bool) : ∀ L : List (List Bool), ((L.map eB).any fun z => PyData.eqv z (eB b)) = decide (b ∈ L)
  | [] => rfl
  | a :: L => by
    rw [List.map_cons, List.any_cons, any_eB b L, eqv_eB]
    by_cases h : a = b
    · simp [h]
    · by_cases h2 : b ∈ L
      · simp [h2]
      · simp [h, h2]
        exact fun z => h z.symm
theorem eqv_sets (a b : List (List (Int × Int))) : PyData.eqv (eRs a) (eRs a) = true := SeqAt.eqv_refl _ (Sh.eRs (n := 0) a).1
theorem dpAll_strs {K : PySem.W.Frag} {H : Hp} : ∀ {vs : List V} {bs : List Str}, DpAll K H vs (bs.map PyData.str) → vs = bs.map V.str
  | _, [], .nil => rfl
  | _, n :: ns, .cons h a => by
    rw [dp_str h, dpAll_strs a]
    rfl
theorem dnAll_strs {F : Hp} : ∀ ns : List Str, DnAll F (ns.map V.str) (ns.map PyData.str)
  | [] => .nil
  | n :: ns => .cons (.str n) (dnAll_strs ns)
theorem dnAll_bools {F : Hp} : ∀ ns : List Bool, DnAll F (ns.map V.bl) (ns.map PyData.bool)
  | [] => .nil
  | n :: ns => .cons (.bl n) (dnAll_bools ns)
theorem LB.strs {H0 H : Hp} {o : Addr} {ns : List Str} (h : LB H0 H o (ns.map PyData.str)) : H o = some (.lst (ns.map V.str)) := by
  obtain ⟨h0, xs, h1, h2⟩ := h
  have e := dpAll_strs (K := []) h2.dp
  rw [e] at h1
  exact h1
theorem LB.bools {H0 H : Hp} {o : Addr} {ns : List Bool} (h : LB H0 H o (ns.map PyData.bool)) : H o = some (.lst (ns.map V.bl)) := by
  obtain ⟨h0, xs, h1, h2⟩ := h
  have e := dpAll_bools (K := []) h2.dp
  rw [e] at h1
  exact h1
theorem flat_strs (ns : List Str) : (ns.map V.str).all flatV = true := by
  rw [List.all_eq_true]
  intro x hx
  obtain ⟨n, _, rfl⟩ := List.mem_map.mp hx
  rfl
theorem eqV_str (a b : Str) : eqV (.str a) (.str b) = decide (a = b) := by
  show (a == b) = _
  by_cases h : a = b <;> simp [h]
theorem inV_strs (k : Str) : ∀ ns : List Str, inV (.str k) (ns.map V.str) = decide (k ∈ ns)
  | [] => rfl
  | n :: ns => by
    have ih := inV_strs k ns
    unfold inV at ih ⊢
    rw [List.map_cons, List.any_cons, ih, eqV_str]
    by_cases h : n = k
    · simp [h]
    · by_cases h2 : k ∈ ns
      · simp [h2]
      · simp [h, h2]
        exact fun z => h z.symm
/-- the first place of a text in a list of texts -/
theorem rIndex_strs {K : PySem.W.Frag} {H : Hp} {Q : VK} {a : Addr} {ts : List Str} {x : Str} (hs : SqL K H a (ts.map V.str)) (hx : x ∈ ts) (q : Q (.int (pl x ts : Nat)) H) : rIndex K (.ref a) [.str x] H Q := by
  refine ⟨a, _, .str x, pl x ts, .str x, rfl, rfl, hs, rfl, flat_strs ts, ?_, by rw [eqV_str]; exact decide_eq_true rfl, fun m z' hm hz => ?_, q⟩
  · rw [List.getElem?_map, pl_get hx]
    rfl
  · obtain ⟨z, hz', rfl⟩ := map_get hz
    rw [eqV_str]
    exact decide_eq_false (pl_ahead hm hz')
/-- pairs of new data -/
theorem newV_pair {H H' : Hp} {v : V} {d e : PyData} (h : NewV H H' v (.tuple [d, e])) : ∃ p x y, v = .ref p ∧ H p = none ∧ H' p = some (.tup [x, y]) ∧ NewV H H' x d ∧ NewV H H' y e := by
  cases h with
  | tup h a =>
    cases a with
    | cons a1 a =>
      cases a with
      | cons a2 a =>
        cases a
        exact ⟨_, _, _, rfl, (fr_some h).1, (fr_some h).2, a1, a2⟩
section
variable {X : Cx}
theorem inDK (K : PySem.W.Frag) (hu : X.A.units + 65 < cLine) (h : X.K = K := by rfl) : OpR X (compareOp .In) (rInD K) := by subst h; exact op_inD hu
theorem notInDK (K : PySem.W.Frag) (hu : X.A.units + 65 < cLine) (h : X.K = K := by rfl) : OpR X (compareOp .NotIn) (rNotInD K) := by subst h; exact op_notInD hu
theorem indexDK (K : PySem.W.Frag) (hu : X.A.units + 65 < cLine) (h : X.K = K := by rfl) : MtR X "list.index" (rIndexD K) := by subst h; exact mt_indexD hu
end
theorem hu65 {k : Nat} {A : Around} (r : Room k A) : A.units + 65 < cLine := by have := r.un; omega
theorem upTo_pre {i n : Nat} (h : i ≤ n) : ∃ r, upTo n = upTo i ++ r := by
  obtain ⟨m, rfl⟩ : ∃ m, n = i + m := ⟨n - i, by omega⟩
  clear h
  induction m with
  | zero => exact ⟨[], by simp⟩
  | succ m ih =>
    obtain ⟨r, e⟩ := ih
    exact ⟨r ++ [((i + m : Nat) : Int)], by rw [← Nat.add_assoc, upTo_succ, e, List.append_assoc]⟩
theorem kinds_pre {i n : Nat} (SS : List (List (Int × Int))) (h : i ≤ n) : ∃ r, kinds n SS = uniq ((upTo i).map (kindOf SS)) ++ r := by
  obtain ⟨r, e⟩ := upTo_pre h
  unfold kinds
  rw [e, List.map_append]
  exact uniq_pre _ _
end Sg
namespace Sg
open PySem PySem.Spec PyProof.Rows L2
theorem list_fm {α : Type} (l : List α) (g : α → Option PyData) : (List.range l.length).filterMap (fun (i : Nat) => (l[i]?).bind g) = l.filterMap g := by
  have h : ∀ m, m ≤ l.length → (List.range m).filterMap (fun (i : Nat) => (l[i]?).bind g) = (l.take m).filterMap g := by
    intro m
    induction m with
    | zero => intro _; rfl
    | succ m ih =>
      intro hm
      have hlt : m < l.length := hm
      have e : l[m]? = some l[m] := List.getElem?_eq_getElem hlt
      rw [List.range_succ, List.filterMap_append, ih (Nat.le_of_succ_le hm), List.take_add_one, e, List.filterMap_append]
      congr 1
      rw [List.filterMap_cons, e, Option.bind_some]
      cases h : g l[m] <;> simp [h]
  rw [h _ (Nat.le_refl _), List.take_length]
end Sg
/-! Signsets: texts of 0 and 1; comprehensions whose items need not be new. -/
namespace Sg
open PySem PySem.Spec PyProof.Rows L2
def bitN (b : Bool) : Nat := if b then 49 else 48
theorem bitN_inj {a b : Bool} (h : bitN a = bitN b) : a = b := by
  cases a <;> cases b <;> first | rfl | (exact absurd h (by decide))
/-- a text of 0 and 1 -/
def kt (b : List Bool) : Str := SX.S (b.map bitN)
theorem kt_inj {a b : List Bool} (h : kt a = kt b) : a = b := by
  have e := SX.S_inj h
  clear h
  induction a generalizing b with
  | nil => cases b with
    | nil => rfl
    | cons y b => cases e
  | cons x a ih => cases b with
    | nil => cases e
    | cons y b =>
      rw [List.map_cons, List.map_cons] at e
      injection e with e1 e2
      rw [bitN_inj e1, ih e2]
theorem kt_len (b : List Bool) : (kt b).length = b.length := by
  unfold kt
  rw [SX.S_len, List.length_map]
theorem joinL_nil : ∀ l : List (List Nat), TL.joinL [] l = l.flatten
  | [] => rfl
  | [p] => by simp [TL.joinL]
  | p :: q :: r => by
    show p ++ ([] ++ TL.joinL [] (q :: r)) = _
    rw [joinL_nil (q :: r)]
    simp
theorem kt_join (b : List Bool) : Txt.join (Str.ofString "") (b.map fun x => SX.S [bitN x]) = kt b := by
  have e : (b.map fun x => SX.S [bitN x]) = (b.map fun x => [bitN x]).map SX.S := by rw [List.map_map]; rfl
  have e0 : Str.ofString "" = SX.S [] := by decide +kernel
  rw [e, e0, SX.join_S, joinL_nil]
  unfold kt
  congr 1
  clear e
  induction b with
  | nil => rfl
  | cons x b ih =>
    rw [List.map_cons, List.flatten_cons, ih]
    rfl
theorem kt_sum (b : List Bool) : ((b.map fun x => SX.S [bitN x]).map (·.length)).sum = b.length := by
  induction b with
  | nil => rfl
  | cons x b ih =>
    rw [List.map_cons, List.map_cons, List.sum_cons, ih, SX.S_len]
    simp
    omega
theorem kt_at {b : List Bool} {i : Nat} {x : Bool} (h : b[i]? = some x) : atI (kt b).cps.toList (i : Int) = some (bitN x) := by
  refine atI_nat ?_
  show (b.map bitN)[i]? = _
  rw [List.getElem?_map, h]
  rfl
theorem one_eq (x : Bool) : decide (V.str ⟨#[bitN x]⟩ = V.str (Str.ofString "1")) = x := by
  cases x <;> decide +kernel
/-- a comprehension over a list whose items need not be new -/
theorem lcD_list {K : PySem.W.Frag} {a : Addr} {xs : List V} {g : TG} {tt : TT} {te : TE} {vs : List Nat} {σ : L2.St} {H1 : Hp} {D : Addr} {Qd : Hp → Prop} (f : Nat → Option PyData) (hS : SqL K H1 a xs) (hD : H1 D = none) (hn : xs.length ≤ 1000000)
    (hs : ∀ (i : Nat) (x : V) (H : Hp) (N1 : V → Hp → Prop) (N0 : Hp → Prop), xs[i]? = some x → Same H1 H → (∃ acc, H D = some (.lst acc)) → (∀ y H4 e, Same H H4 → f i = some e → Dp K (del H4 D) y e → N1 y H4) → (∀ H3, Same H H3 → f i = none → N0 H3) →
      g x (wipe σ vs) H fun σ2 H2 => wipe σ2 vs = wipe σ vs ∧ tt σ2 H2 fun b H3 => if b = true then te σ2 H3 N1 else N0 H3)
    (hd : ∀ H ys, Same H1 H → H D = some (.lst ys) → DpAll K (del H D) ys ((List.range xs.length).filterMap f) → Qd H) :
    ∃ W : Nat → Nat → Hp → Prop, (∃ m, W 0 m (upd H1 D (.lst []))) ∧ ∀ i m H, W i m H →
      ((Itl K a).stop i H ∧ Qd H) ∨ ((Itl K a).go i H ∧ ∃ Nx : Hp → Prop, (∀ H', Nx H' → ∃ m', m' < m ∧ W (i + 1) m' H') ∧ ∀ x H', (Itl K a).yld i H x H' → g x (wipe σ vs) H' fun σ2 H2 => wipe σ2 vs = wipe σ vs ∧ tt σ2 H2 fun b H3 =>
        if b = true then te σ2 H3 fun y H4 => ∃ acc, H4 D = some (.lst acc) ∧ acc.length < sizeLine ∧ Nx (upd H4 D (.lst (acc ++ [y]))) else Nx H3) := by
  refine lc_list (xs := xs) (fun i H => Same H1 H ∧ ∃ ys, H D = some (.lst ys) ∧ DpAll K (del H D) ys ((List.range i).filterMap f)) ⟨same_new hD, [], upd_same, .nil⟩ (fun i H _ q => q.1.seq hS) (fun i x H hx q => ?_) fun H q => ?_
  · obtain ⟨sm, ys, hy, ha⟩ := q
    have hi : i < xs.length := (List.getElem?_eq_some_iff.mp hx).1
    have hl : ys.length ≤ i := by
      rw [dpAll_len ha]
      exact Nat.le_trans (List.length_filterMap_le _ _) (by rw [List.length_range]; exact Nat.le_refl _)
    refine hs i x H _ _ hx sm ⟨_, hy⟩ (fun y H4 e s fe dy => ⟨ys, s _ _ hy, sizeOk (by omega), same_upd (sm.trans s) hD, ys ++ [y], upd_same, ?_⟩) (fun H3 s fe => ⟨sm.trans s, ys, s _ _ hy, ?_⟩)
    · rw [filterMap_succ fe, del_upd_self]
      exact dpAll_app (same_dpAll (del_mono s) ha) (.cons dy .nil)
    · rw [filterMap_succ0 fe]
      exact same_dpAll (del_mono s) ha
  · obtain ⟨sm, ys, hy, ha⟩ := q
    exact hd H ys sm hy ha
section
variable {X : Cx} {T : String} {name : Str} {id : String} {r : V → List V → Hp → VK → Prop} {o e : Expr} {es : List Expr} {to te : TE} {t : TA} {apos cpos : Pos}
theorem pe_bmK (K : PySem.W.Frag) (pa : PlainAttrs T) (slot : Slot T name id) (hty : typeOf (.builtin id) = pure (.type "method_descriptor")) (hm : MtR X id r) (ho : PE X o to) (ha : PA X (e :: es) t) (h : X.K = K := by rfl)
    (hbase : attributeBase o name X.env (eval o X.env) = eval o X.env := by rfl)
    (hfew : ((backTo cpos (starEach (e :: es) X.env)).all (fun x => !x.1) && (backToKw cpos (keywordEach [] X.env)).all (fun x => x.1.isSome) && decide ((e :: es).length + ([] : List Keyword).length + (if ([] : List Keyword).isEmpty then 0 else 1) < 30)) = true := by rfl)
    (hline : (apos.endLine == cpos.line) = true := by rfl) (hs : starEach (e :: es) X.env = (false, eval e X.env) :: starEach es X.env := by rfl) (hplain : (backTo cpos (starEach es X.env)).any (·.1) = false := by rfl) :
    PE X (.Call (.Attribute o name apos) (e :: es) [] cpos) (tBM K T r to t) := by
  subst h
  exact pe_bm pa slot hty hm ho ha hbase hfew hline hs hplain
end
theorem same_del {G H : Hp} {d : Addr} (s : Same G H) (n : G d = none) : Same G (del H d) := fun b o e => by
  rw [del_ne (ne_of_none e n)]
  exact s _ _ e
end Sg
/-! Signsets: rules for tables: a sign many times, ranges by steps, stretches of a text. -/
namespace Sg
open PySem PySem.Spec PyProof.Rows L2
theorem fold_rep (c : Nat) : ∀ (k : Nat) (b : Array Nat), ((List.replicate k (#[c] : Array Nat)).foldl (· ++ ·) b).toList = b.toList ++ List.replicate k c
  | 0, b => by simp
  | k + 1, b => by
    rw [List.replicate_succ, List.foldl_cons, fold_rep c k, List.replicate_succ, Array.toList_append]
    simp
/-- a text of one sign, k times -/
def rRepS : R2 := fun x y H Q => ∃ c k : Nat, x = .str (SX.S [c]) ∧ y = .int (k : Int) ∧ 1 ≤ k ∧ k ≤ 1000 ∧ Q (.str (SX.S (List.replicate k c))) H
theorem op_rep_str {X : Cx} : OpR X (binaryOp .Mult) rRepS := by
  intro pins s σ H x y v u Q I rx ry h
  obtain ⟨c, k, rfl, rfl, h1, h2, q⟩ := h
  obtain ⟨t, rfl⟩ := rx
  obtain ⟨t', rfl⟩ := ry
  have hl : (SX.S [c]).length = 1 := SX.S_len [c]
  refine PySem.P.mul_str ?_ ?_ ?_ ?_
  · rw [decide_eq_false (show ¬ (k : Int) < -(2 ^ 63 : Int) by omega), decide_eq_false (show ¬ (k : Int) ≥ 2 ^ 63 by omega)]
    rfl
  · intro _ _
    rw [hl]
    have : (1 : Int) ≤ (2 ^ 63 - 1) / (k : Int) := Int.le_ediv_of_mul_le (by omega) (by omega)
    omega
  · intro _ _
    unfold Builtin.Str.tooLong
    rw [hl, Int.toNat_natCast, Nat.one_mul]
    exact decide_eq_false (by have := sizeOk (n := k) (by omega); omega)
  · rw [if_neg (by omega)]
    by_cases e : k = 1
    · subst e
      rw [if_pos (by simp)]
      exact ⟨.str _, H, I, ⟨_, rfl⟩, q⟩
    · rw [if_neg (by rw [hl]; simp; omega)]
      have ez : (⟨(List.replicate (k : Int).toNat (SX.S [c]).cps).foldl (· ++ ·) #[]⟩ : Str) = SX.S (List.replicate k c) := by
        refine TL.ext_tl ?_
        show ((List.replicate (k : Int).toNat (#[c] : Array Nat)).foldl (· ++ ·) #[]).toList = List.replicate k c
        rw [Int.toNat_natCast, fold_rep]
        rfl
      rw [ez]
      exact ⟨by rw [SX.S_len, List.length_replicate]; exact Nat.le_of_lt (sizeOk (by omega)), ⟨.str _, H, I.tok _, ⟨_, rfl⟩, q⟩⟩
theorem rgC_up {n w : Nat} (hw : 1 ≤ w) (hw2 : w ≤ 1000) (hn : n ≤ 1000) : RgC 0 (n : Int) (w : Int) (cnt n w) := by
  have e : Builtin.Range.rangeSize 0 (n : Int) (w : Int) = ((cnt n w : Nat) : Int) := by
    rw [rangeSize_pos (by omega) (by omega)]
    unfold cnt
    rw [Int.natCast_ediv]
    congr 1
    omega
  have hc := cnt_le (n := n) hw
  refine ⟨by omega, by omega, ?_, e⟩
  unfold Builtin.Range.small
  rw [e]
  simp only [Builtin.Range.rangeFitsLong, Bool.and_eq_true, Bool.or_eq_true, decide_eq_true_eq, beq_iff_eq]
  rw [if_pos (by omega)]
  simp only [Bool.and_eq_true, decide_eq_true_eq]
  omega
/-- a comprehension over a range by steps, of new data -/
theorem lcN_rangeC {lo c : Int} {n : Nat} {g : TG} {tt : TT} {te : TE} {vs : List Nat} {σ : L2.St} {H1 : Hp} {D : Addr} {Qd : Hp → Prop} (f : Nat → Option PyData) (hD : H1 D = none) (hn : n ≤ 1000000)
    (hs : ∀ (i : Nat) (H : Hp) (N1 : V → Hp → Prop) (N0 : Hp → Prop), i < n → Same H1 H → (∀ y H4 e, Same H H4 → f i = some e → NewV H H4 y e → N1 y H4) → (∀ H3, Same H H3 → f i = none → N0 H3) →
      g (.int (lo + (i : Nat) * c)) (wipe σ vs) H fun σ2 H2 => wipe σ2 vs = wipe σ vs ∧ tt σ2 H2 fun b H3 => if b = true then te σ2 H3 N1 else N0 H3)
    (hd : ∀ H, Same H1 H → LB H1 H D ((List.range n).filterMap f) → Qd H) :
    ∃ W : Nat → Nat → Hp → Prop, (∃ m, W 0 m (upd H1 D (.lst []))) ∧ ∀ i m H, W i m H →
      ((Itc lo c n).stop i H ∧ Qd H) ∨ ((Itc lo c n).go i H ∧ ∃ Nx : Hp → Prop, (∀ H', Nx H' → ∃ m', m' < m ∧ W (i + 1) m' H') ∧ ∀ x H', (Itc lo c n).yld i H x H' → g x (wipe σ vs) H' fun σ2 H2 => wipe σ2 vs = wipe σ vs ∧ tt σ2 H2 fun b H3 =>
        if b = true then te σ2 H3 fun y H4 => ∃ acc, H4 D = some (.lst acc) ∧ acc.length < sizeLine ∧ Nx (upd H4 D (.lst (acc ++ [y]))) else Nx H3) := by
  refine ⟨fun i m H => m = n - i ∧ i ≤ n ∧ (Same H1 H ∧ LB H1 H D ((List.range i).filterMap f)), ⟨n, by simp, Nat.zero_le _, same_new hD, LB.nil hD⟩, fun i m H hW => ?_⟩
  obtain ⟨rfl, hi, sm, lb⟩ := hW
  by_cases h : i < n
  · obtain ⟨k1, k0⟩ := lcN_step hn h sm lb
    refine .inr ⟨h, fun H' => Same H1 H' ∧ LB H1 H' D ((List.range (i + 1)).filterMap f), fun H' p => ⟨n - (i + 1), by omega, rfl, h, p⟩, fun x H' y => ?_⟩
    obtain ⟨rfl, rfl⟩ := y
    exact hs i _ _ _ h sm k1 k0
  · have e : i = n := by omega
    subst e
    exact .inl ⟨Nat.le_refl _, hd H sm lb⟩
/-! ### stretches -/
theorem kt_one (a : List Bool) : kt a ++ Str.ofString "1" = kt (a ++ [true]) := by
  have e : Str.ofString "1" = SX.S [49] := by decide +kernel
  unfold kt
  rw [e, SX.S_cat, List.map_append]
  rfl
theorem kt_zero (a : List Bool) : kt a ++ Str.ofString "0" = kt (a ++ [false]) := by
  have e : Str.ofString "0" = SX.S [48] := by decide +kernel
  unfold kt
  rw [e, SX.S_cat, List.map_append]
  rfl
theorem kt_rep (a : List Bool) (k : Nat) : kt a ++ SX.S (List.replicate k 48) = kt (a ++ List.replicate k false) := by
  unfold kt
  rw [SX.S_cat, List.map_append, List.map_replicate]
  rfl
theorem cutS_kt {b : List Bool} {f w : Nat} (h : f + w ≤ b.length) : cutS (kt b) (some (f : Int)) (some ((f : Int) + (w : Int))) = kt ((b.drop f).take w) := by
  have e : ((f : Int) + (w : Int)) = ((f + w : Nat) : Int) := by omega
  unfold cutS
  rw [e, HT.sIx_nat, HT.sIx_nat, kt_len, Nat.min_eq_left h, Nat.min_eq_left (show f ≤ b.length by omega)]
  show SX.S (((b.map bitN).drop f).take (f + w - f)) = SX.S (((b.drop f).take w).map bitN)
  rw [List.map_take, List.map_drop, show f + w - f = w by omega]
theorem stretch {n : Nat} {R : List (Int × Int)} {f w : Nat} (hf : f < n) : ((((List.range n).map fun (k : Nat) => has R (k : Int)) ++ List.replicate w false).drop f).take w = rowP n R f w := by
  refine List.ext_getElem? fun j => ?_
  by_cases hj : j < w
  · rw [rowP_get hj, List.getElem?_take_of_lt hj, List.getElem?_drop]
    unfold bitT
    by_cases h : f + j < n
    · rw [List.getElem?_append_left (by rw [List.length_map, List.length_range]; exact h), List.getElem?_map, List.getElem?_range h, decide_eq_true h]
      rfl
    · rw [List.getElem?_append_right (by rw [List.length_map, List.length_range]; omega), List.length_map, List.length_range, List.getElem?_replicate, if_pos (by omega), decide_eq_false h]
      rfl
  · rw [List.getElem?_eq_none (by rw [List.length_take]; omega), List.getElem?_eq_none (by rw [rowP_len]; omega)]
theorem mem_kt {r : List Bool} {L : List (List Bool)} : kt r ∈ L.map kt ↔ r ∈ L := by
  rw [List.mem_map]
  exact ⟨fun ⟨a, ha, e⟩ => kt_inj e ▸ ha, fun h => ⟨r, h, rfl⟩⟩
theorem dec_kt (r : List Bool) (L : List (List Bool)) : decide (kt r ∈ L.map kt) = decide (r ∈ L) := by
  by_cases h : r ∈ L
  · rw [decide_eq_true h, decide_eq_true (mem_kt.mpr h)]
  · rw [decide_eq_false h, decide_eq_false fun z => h (mem_kt.mp z)]
theorem sb_upd {d o : Addr} {G G' : Hp} {x : HO} (h : SameBut d G G') (n : G o = none) : SameBut d G (upd G' o x) := fun b u nb e => by
  rw [upd_ne (ne_of_none e n)]
  exact h b u nb e
theorem sb_upd_d {d : Addr} {G G' : Hp} {x : HO} (h : SameBut d G G') : SameBut d G (upd G' d x) := fun b u nb e => by
  rw [upd_ne nb]
  exact h b u nb e
/-- a table, as data -/
def eTab (n w : Nat) (SS : List (List (Int × Int))) : PyData := .tuple [eIs (firstsT n w SS), eT ((rowsT n w SS).map kt)]
theorem al_tab {n w : Nat} {SS : List (List (Int × Int))} (hw : 1 ≤ w) (hn : n ≤ 64) (hS : SS.length ≤ 1000) : Al 5 (eTab n w SS) := by
  have hc := cnt_le (n := n) hw
  have hm : SS.length * cnt n w ≤ 1000 * 64 := Nat.mul_le_mul hS (by omega)
  refine ⟨by show 2 ≤ 100000; decide, fun d hd => ?_⟩
  simp only [List.mem_cons, List.not_mem_nil, or_false] at hd
  rcases hd with rfl | rfl
  · refine Al.eIs (by unfold firstsT; rw [List.length_map]; omega) fun l hl => ?_
    obtain ⟨R, _, rfl⟩ := List.mem_map.mp hl
    rw [List.length_map, rowsR_len]
    omega
  · refine ⟨by rw [List.length_map, List.length_map]; exact Nat.le_trans (rowsT_len n w SS) (by omega), fun d hd => ?_⟩
    obtain ⟨r, _, rfl⟩ := List.mem_map.mp hd
    exact Al.str r
theorem cast_div (k w : Nat) : (k : Int) / (w : Int) = ((k / w : Nat) : Int) := (Int.natCast_ediv k w).symm
theorem cast_mod (k w : Nat) : (k : Int) % (w : Int) = ((k % w : Nat) : Int) := (Int.natCast_emod k w).symm
end Sg
/-! Signsets: the least of some data, and data compared. -/
namespace Sg
open PySem PySem.Spec PyProof.Rows L2
theorem vals_at : ∀ {xs : List V} {us : List Value} {i : Nat} {u : Value}, Vals xs us → us[i]? = some u → ∃ x, xs[i]? = some x ∧ RelV x u := fun {xs us i u} r h => by
  have hl := r.length
  have hi : i < xs.length := by
    have := (List.getElem?_eq_some_iff.mp h).1
    omega
  obtain ⟨u', h1, h2⟩ := r.get (List.getElem?_eq_getElem hi)
  rw [h] at h1
  obtain rfl := Option.some.inj h1
  exact ⟨_, List.getElem?_eq_getElem hi, h2⟩
/-- min(xs), items alike -/
def rMinD (K : PySem.W.Frag) : List V → Hp → VK → Prop := fun vs H Q => ∃ (a : Addr) (xs : List V) (x : PyData) (ds : List PyData), vs = [.ref a] ∧ SqL K H a xs ∧ DpAll K H xs (x :: ds) ∧ PySem.W.AlikeAll (x :: ds) ∧ PyData.canLayAll0 (x :: ds) = true ∧ PyData.depthAll (x :: ds) ≤ 60 ∧
  ∀ (i : Nat) (y : V), xs[i]? = some y → (x :: ds)[i]? = some (PySem.W.minD x ds) → Q y H
theorem minDK {X : Cx} (K : PySem.W.Frag) (hc : X.calm = true) (hu : X.A.units + 65 < cLine) (h : X.K = K := by rfl) : CallR X (.builtin "min") (rMinD K) := by
  subst h
  intro pins s σ H vs us Q I r h
  obtain ⟨a, xs, x, ds, rfl, hs, hA, hal, hcl, hdp, q⟩ := h
  obtain ⟨its, rv, hl, hz⟩ := I.list hs
  rw [Vals.ref1 r]
  obtain ⟨as, h4⟩ := Dp.readsAll I (x :: ds) _ its hA rv
  refine PySem.W.min_list_data (vs := its.toArray) (I.ok.hd hc) hl.isList h4 hal (by omega) fun i v h' tk bs hv hr hk => ?_
  have hv' : its[i]? = some v := by simpa using hv
  obtain ⟨y, hy, ry⟩ := vals_at rv hv'
  obtain ⟨d, hd, hdy⟩ := dpAll_get hA hy
  obtain ⟨bs', r'⟩ := Dp.reads I d y v hdy ry
  have hm : ∀ z ∈ (x :: ds), z.canLay0 = true := fun z hz => by
    have : ∀ (l : List PyData), PyData.canLayAll0 l = true → ∀ z ∈ l, z.canLay0 = true := by
      intro l
      induction l with
      | nil => intro _ z hz; simp at hz
      | cons w l ih =>
        intro h z hz
        rw [PyData.canLayAll0, Bool.and_eq_true] at h
        rcases List.mem_cons.mp hz with rfl | hz
        · exact h.1
        · exact ih h.2 z hz
    exact this _ hcl z hz
  have e1 := SeqAt.readOf_eq (hm d (List.mem_of_getElem? hd)) (Reads.keeps hk r')
  have hmin : PySem.W.minD x ds ∈ (x :: ds) := by
    have : ∀ (l : List PyData) (z : PyData), PySem.W.minD z l ∈ (z :: l) := by
      intro l
      induction l with
      | nil => intro z; exact List.mem_singleton.mpr rfl
      | cons w l ih =>
        intro z
        show PySem.W.minD (if PySem.W.dataLt w z then w else z) l ∈ _
        have := ih (if PySem.W.dataLt w z then w else z)
        rcases List.mem_cons.mp this with e | e
        · rw [e]
          split <;> simp
        · simp [e]
    exact this ds x
  have e2 := SeqAt.readOf_eq (hm _ hmin) hr
  rw [e1] at e2
  exact ⟨y, H, I.kept hk, ry, q i y hy (by rw [hd, e2])⟩
/-- d <= e, d < e, alike -/
def rLeD (K : PySem.W.Frag) : R2 := fun x y H Q => ∃ d e, Dp K H x d ∧ Dp K H y e ∧ PySem.W.alike d e = true ∧ d ≠ .none ∧ d.depth ≤ 60 ∧ Q (.bl (!PySem.W.dataLt e d)) H
def rLtD (K : PySem.W.Frag) : R2 := fun x y H Q => ∃ d e, Dp K H x d ∧ Dp K H y e ∧ PySem.W.alike d e = true ∧ d ≠ .none ∧ d.depth ≤ 60 ∧ Q (.bl (PySem.W.dataLt d e)) H
theorem leDK {X : Cx} (K : PySem.W.Frag) (hu : X.A.units + 65 < cLine) (h : X.K = K := by rfl) : OpR X (compareOp .LtE) (rLeD K) := by
  subst h
  intro pins s σ H x y v u Q I rx ry h
  obtain ⟨d, e, hd, he, ha, hn, hp, q⟩ := h
  obtain ⟨as, r1⟩ := Dp.reads I d x v hd rx
  obtain ⟨bs, r2⟩ := Dp.reads I e y u he ry
  exact PySem.W.le_data r1 r2 ha hn (by have := Nat.min_le_left d.depth e.depth; omega) ⟨.bl _, H, I, rfl, q⟩
theorem ltDK {X : Cx} (K : PySem.W.Frag) (hu : X.A.units + 65 < cLine) (h : X.K = K := by rfl) : OpR X (compareOp .Lt) (rLtD K) := by
  subst h
  intro pins s σ H x y v u Q I rx ry h
  obtain ⟨d, e, hd, he, ha, hn, hp, q⟩ := h
  obtain ⟨as, r1⟩ := Dp.reads I d x v hd rx
  obtain ⟨bs, r2⟩ := Dp.reads I e y u he ry
  exact PySem.W.lt_data r1 r2 ha hn (by have := Nat.min_le_left d.depth e.depth; omega) ⟨.bl _, H, I, rfl, q⟩
/-! ### the least of some pairs of ints -/
def ltP (a b : Int × Int) : Prop := a.1 < b.1 ∨ (a.1 = b.1 ∧ a.2 < b.2)
instance (a b : Int × Int) : Decidable (ltP a b) := by unfold ltP; exact inferInstance
def minP (x : Int × Int) (xs : List (Int × Int)) : Int × Int := xs.foldl (fun a y => if ltP y a then y else a) x
theorem minD_eP : ∀ (xs : List (Int × Int)) (x : Int × Int), PySem.W.minD (eP x) (xs.map eP) = eP (minP x xs)
  | [], x => rfl
  | y :: xs, x => by
    show PySem.W.minD (if PySem.W.dataLt (eP y) (eP x) then eP y else eP x) (xs.map eP) = eP (minP (if ltP y x then y else x) xs)
    have e : PySem.W.dataLt (eP y) (eP x) = decide (ltP y x) := by
      unfold eP
      rw [PySem.W.dataLt_ii]
      unfold ltP
      rfl
    rw [e]
    by_cases c : ltP y x
    · rw [if_pos (decide_eq_true c), if_pos c]
      exact minD_eP xs y
    · rw [if_neg (by simpa using c), if_neg c]
      exact minD_eP xs x
theorem minP_mem : ∀ (xs : List (Int × Int)) (x : Int × Int), minP x xs ∈ x :: xs
  | [], x => List.mem_singleton.mpr rfl
  | y :: xs, x => by
    show minP (if ltP y x then y else x) xs ∈ _
    rcases List.mem_cons.mp (minP_mem xs (if ltP y x then y else x)) with e | e
    · rw [e]
      split <;> simp
    · simp [e]
theorem minP_le : ∀ (xs : List (Int × Int)) (x : Int × Int), ∀ z ∈ x :: xs, (minP x xs).1 ≤ z.1
  | [], x, z, hz => by
    obtain rfl := List.mem_singleton.mp hz
    exact Int.le_refl _
  | y :: xs, x, z, hz => by
    show (minP (if ltP y x then y else x) xs).1 ≤ z.1
    have ih := minP_le xs (if ltP y x then y else x)
    have h0 := ih _ (List.mem_cons_self ..)
    have hx : (if ltP y x then y else x).1 ≤ x.1 ∧ (if ltP y x then y else x).1 ≤ y.1 := by
      by_cases c : ltP y x
      · rw [if_pos c]
        unfold ltP at c
        omega
      · rw [if_neg c]
        unfold ltP at c
        omega
    rcases List.mem_cons.mp hz with rfl | hz
    · omega
    · rcases List.mem_cons.mp hz with rfl | hz
      · omega
      · exact ih z (List.mem_cons_of_mem _ hz)
theorem alike_eP (l : List (Int × Int)) : PySem.W.AlikeAll (l.map eP) := by
  refine ⟨fun x hx y hy => ?_, fun x hx => ?_⟩
  · obtain ⟨a, _, rfl⟩ := List.mem_map.mp hx
    obtain ⟨b, _, rfl⟩ := List.mem_map.mp hy
    simp [eP, PySem.W.alike, PySem.W.alikeAll]
  · obtain ⟨a, _, rfl⟩ := List.mem_map.mp hx
    intro z
    cases z
theorem sh_pairs (l : List (Int × Int)) : PyData.canLayAll0 (l.map eP) = true ∧ PyData.depthAll (l.map eP) ≤ 60 := by
  refine ⟨can_all fun d hd => ?_, depth_all fun d hd => ?_⟩
  · obtain ⟨a, _, rfl⟩ := List.mem_map.mp hd
    exact (Sh.eP (n := 0) a).1
  · obtain ⟨a, _, rfl⟩ := List.mem_map.mp hd
    exact Nat.le_trans (Sh.eP (n := 0) a).2 (by decide)
/-- the list of pairs (cells, width) -/
def pairsT (n : Nat) (SS : List (List (Int × Int))) : List (Int × Int) := (List.range n).map fun i => (((cells n (i + 1) SS : Nat) : Int), ((i : Int) + 1))
theorem pairs_cons {n : Nat} (hn : 1 ≤ n) (SS : List (List (Int × Int))) : ∃ x xs, pairsT n SS = x :: xs := by
  cases h : pairsT n SS with
  | nil =>
    have : (pairsT n SS).length = n := by unfold pairsT; rw [List.length_map, List.length_range]
    rw [h] at this
    simp at this
    omega
  | cons x xs => exact ⟨x, xs, rfl⟩
def leastP (n : Nat) (SS : List (List (Int × Int))) : Int × Int := match pairsT n SS with
  | [] => (0, 0)
  | x :: xs => minP x xs
theorem leastP_mem {n : Nat} (hn : 1 ≤ n) (SS : List (List (Int × Int))) : ∃ w : Nat, 1 ≤ w ∧ w ≤ n ∧ leastP n SS = (((cells n w SS : Nat) : Int), (w : Int)) := by
  obtain ⟨x, xs, e⟩ := pairs_cons hn SS
  have hm : leastP n SS ∈ pairsT n SS := by
    unfold leastP
    rw [e]
    exact minP_mem xs x
  obtain ⟨i, hi, h⟩ := List.mem_map.mp hm
  refine ⟨i + 1, by omega, by have := List.mem_range.mp hi; omega, ?_⟩
  rw [← h]
  rfl
theorem leastP_le {n : Nat} (SS : List (List (Int × Int))) {w : Nat} (h1 : 1 ≤ w) (h2 : w ≤ n) : (leastP n SS).1 ≤ ((cells n w SS : Nat) : Int) := by
  obtain ⟨x, xs, e⟩ := pairs_cons (n := n) (by omega) SS
  have hm : (((cells n w SS : Nat) : Int), (w : Int)) ∈ pairsT n SS := by
    refine List.mem_map.mpr ⟨w - 1, List.mem_range.mpr (by omega), ?_⟩
    rw [show w - 1 + 1 = w by omega]
    congr 1
    omega
  unfold leastP
  rw [e] at hm ⊢
  exact minP_le xs x _ hm
/-- sums -/
theorem sum_const {α : Type} (l : List α) (f : α → Int) (c : Nat) (h : ∀ x ∈ l, f x = (c : Int)) : (l.map f).sum = ((l.length * c : Nat) : Int) := by
  induction l with
  | nil => simp
  | cons x l ih =>
    rw [List.map_cons, List.sum_cons, ih fun y hy => h y (List.mem_cons_of_mem _ hy), h x (by simp), List.length_cons, Nat.succ_mul]
    omega
theorem sum_firsts (n w : Nat) (SS : List (List (Int × Int))) : ((firstsT n w SS).map fun l => (l.length : Int)).sum = ((SS.length * cnt n w : Nat) : Int) := by
  rw [sum_const _ _ (cnt n w) fun l hl => ?_]
  · unfold firstsT
    rw [List.length_map]
  · obtain ⟨R, _, rfl⟩ := List.mem_map.mp hl
    rw [List.length_map, rowsR_len]
theorem sum_rows (n w : Nat) (SS : List (List (Int × Int))) : (((rowsT n w SS).map kt).map fun r => (r.length : Int)).sum = (((rowsT n w SS).length * w : Nat) : Int) := by
  rw [sum_const _ _ w fun r hr => ?_]
  · rw [List.length_map]
  · obtain ⟨b, hb, rfl⟩ := List.mem_map.mp hr
    rw [kt_len, rowsT_mem hb]
end Sg
/-! Signsets: sets as texts. -/
namespace Sg
open PySem PySem.Spec PyProof.Rows L2
/-! ### items and texts, by codes -/
def nL (k : Int) : List Nat := TL.numL k.toNat
def itemL (r : Int × Int) : List Nat := if r.1 = r.2 then nL r.1 else nL r.1 ++ (45 :: nL r.2)
def itemS (r : Int × Int) : Str := SX.S (itemL r)
def textL (I : List (Int × Int)) : List Nat := TL.joinL [44] (I.map itemL)
def itemsR (r : Int × Int) : List (Int × Int) := if r.2 - r.1 < 2 then (List.range (r.2 + 1 - r.1).toNat).map fun (i : Nat) => (r.1 + (i : Int), r.1 + (i : Int)) else [r]
def itemsOf (R : List (Int × Int)) : List (Int × Int) := R.flatMap itemsR
theorem nL_str {k : Int} (h : 0 ≤ k) : Str.ofString (toString k) = SX.S (nL k) := by
  obtain ⟨m, rfl⟩ := Int.eq_ofNat_of_zero_le h
  exact SX.num_S m
theorem nL_len {k : Int} (h : k < 100) : (nL k).length ≤ 2 := TL.numL_len (by decide) (by omega)
theorem nL_pos (k : Int) : 1 ≤ (nL k).length := List.length_pos_iff.mpr (TL.numL_ne _)
theorem nL_dig {k : Int} {c : Nat} (h : c ∈ nL k) : 48 ≤ c ∧ c ≤ 57 := TL.numL_digits _ c h
theorem nL_val {k : Int} (h : 0 ≤ k) : ((NumText.digitsVal (nL k) : Nat) : Int) = k := by
  unfold nL
  rw [TL.numL_val]
  omega
theorem nL_inj {a b : Int} (ha : 0 ≤ a) (hb : 0 ≤ b) (h : nL a = nL b) : a = b := by
  have := TL.numL_inj h
  omega
/-- a needless 0 -/
theorem nL_head : ∀ m : Nat, m < 100 → (TL.numL m)[0]? = some 48 → TL.numL m = [48] := by decide +kernel
theorem itemL_len {r : Int × Int} (h1 : r.1 < 100) (h2 : r.2 < 100) : 1 ≤ (itemL r).length ∧ (itemL r).length ≤ 5 := by
  unfold itemL
  have a := nL_len h1
  have b := nL_len h2
  have c := nL_pos r.1
  split
  · omega
  · rw [List.length_append, List.length_cons]
    omega
theorem itemL_free {r : Int × Int} : 44 ∉ itemL r ∧ 94 ∉ itemL r := by
  unfold itemL
  split
  · exact ⟨fun h => by have := nL_dig h; omega, fun h => by have := nL_dig h; omega⟩
  · refine ⟨fun h => ?_, fun h => ?_⟩
    · rcases List.mem_append.mp h with h | h
      · have := nL_dig h
        omega
      · rcases List.mem_cons.mp h with h | h
        · omega
        · have := nL_dig h
          omega
    · rcases List.mem_append.mp h with h | h
      · have := nL_dig h
        omega
      · rcases List.mem_cons.mp h with h | h
        · omega
        · have := nL_dig h
          omega
theorem itemL_head {r : Int × Int} : ∃ c l, itemL r = c :: l ∧ 48 ≤ c ∧ c ≤ 57 := by
  have hn : nL r.1 ≠ [] := TL.numL_ne _
  cases e : nL r.1 with
  | nil => exact absurd e hn
  | cons c l =>
    have := nL_dig (k := r.1) (c := c) (by rw [e]; simp)
    unfold itemL
    split
    · exact ⟨c, l, e, this⟩
    · exact ⟨c, _, by rw [e]; rfl, this⟩
theorem textL_head {r : Int × Int} {I : List (Int × Int)} : ∃ c l, textL (r :: I) = c :: l ∧ 48 ≤ c ∧ c ≤ 57 := by
  obtain ⟨c, l, e, h⟩ := itemL_head (r := r)
  unfold textL
  cases I with
  | nil => exact ⟨c, l, e, h⟩
  | cons q I =>
    refine ⟨c, l ++ ([44] ++ TL.joinL [44] ((q :: I).map itemL)), ?_, h⟩
    show itemL r ++ ([44] ++ TL.joinL [44] ((q :: I).map itemL)) = _
    rw [e]
    rfl
theorem textL_ne {I : List (Int × Int)} : textL I = [] ↔ I = [] := by
  constructor
  · intro h
    cases I with
    | nil => rfl
    | cons r I =>
      obtain ⟨c, l, e, _⟩ := textL_head (r := r) (I := I)
      rw [h] at e
      cases e
  · rintro rfl
    rfl
/-- how long a text is -/
def lenI (I : List (Int × Int)) : Nat := (I.map fun r => (itemL r).length + 1).sum
theorem textL_len : ∀ I : List (Int × Int), (textL I).length = lenI I - 1
  | [] => rfl
  | [r] => by simp [textL, lenI, TL.joinL]
  | r :: q :: I => by
    have ih := textL_len (q :: I)
    have h1 : 1 ≤ lenI (q :: I) := by
      unfold lenI
      rw [List.map_cons, List.sum_cons]
      omega
    show (itemL r ++ ([44] ++ textL (q :: I))).length = _
    rw [List.length_append, List.length_append, ih]
    have e : lenI (r :: q :: I) = (itemL r).length + 1 + lenI (q :: I) := by
      unfold lenI
      rw [List.map_cons, List.sum_cons]
    rw [e]
    simp
    omega
theorem lenI_app (I J : List (Int × Int)) : lenI (I ++ J) = lenI I + lenI J := by
  unfold lenI
  rw [List.map_append, List.sum_append]
theorem lenI_low : ∀ I : List (Int × Int), 2 * I.length ≤ lenI I
  | [] => Nat.le_refl _
  | r :: I => by
    have ih := lenI_low I
    obtain ⟨c, l, e, _⟩ := itemL_head (r := r)
    unfold lenI at ih ⊢
    rw [List.map_cons, List.sum_cons, e, List.length_cons, List.length_cons]
    omega
/-! ### items of ranges -/
def OkI (n : Int) (I : List (Int × Int)) : Prop := (∀ r ∈ I, 0 ≤ r.1 ∧ r.1 ≤ r.2 ∧ r.2 < n) ∧ I.Pairwise fun a b => a.2 < b.1
theorem itemsR_mem {r q : Int × Int} (h : r.1 ≤ r.2) (hq : q ∈ itemsR r) : r.1 ≤ q.1 ∧ q.1 ≤ q.2 ∧ q.2 ≤ r.2 := by
  unfold itemsR at hq
  split at hq
  · obtain ⟨i, hi, rfl⟩ := List.mem_map.mp hq
    have := List.mem_range.mp hi
    refine ⟨?_, Int.le_refl _, ?_⟩
    · show r.1 ≤ r.1 + (i : Int)
      omega
    · show r.1 + (i : Int) ≤ r.2
      omega
  · obtain rfl := List.mem_singleton.mp hq
    exact ⟨Int.le_refl _, h, Int.le_refl _⟩
theorem itemsR_has {r : Int × Int} {k : Int} : has (itemsR r) k = true ↔ r.1 ≤ k ∧ k ≤ r.2 := by
  rw [has_iff]
  unfold itemsR
  split
  · constructor
    · rintro ⟨q, hq, h1, h2⟩
      obtain ⟨i, hi, rfl⟩ := List.mem_map.mp hq
      have := List.mem_range.mp hi
      dsimp only at h1 h2
      omega
    · intro h
      exact ⟨(r.1 + ((k - r.1).toNat : Nat), r.1 + ((k - r.1).toNat : Nat)), List.mem_map.mpr ⟨(k - r.1).toNat, List.mem_range.mpr (by omega), rfl⟩, by show r.1 + ((k - r.1).toNat : Int) ≤ k; omega, by show k ≤ r.1 + ((k - r.1).toNat : Int); omega⟩
  · constructor
    · rintro ⟨q, hq, h⟩
      obtain rfl := List.mem_singleton.mp hq
      exact h
    · intro h
      exact ⟨r, by simp, h⟩
theorem itemsR_pw (r : Int × Int) : (itemsR r).Pairwise fun a b => a.2 < b.1 := by
  unfold itemsR
  split
  · rw [List.pairwise_map]
    refine List.Pairwise.imp (fun {a b} h => ?_) List.pairwise_lt_range
    show r.1 + (a : Int) < r.1 + (b : Int)
    omega
  · simp
theorem items_has (T : List (Int × Int)) (k : Int) : has (itemsOf T) k = has T k := by
  have h : has (itemsOf T) k = true ↔ has T k = true := by
    rw [has_iff, has_iff]
    constructor
    · rintro ⟨q, hq, h⟩
      obtain ⟨r, hr, hq'⟩ := List.mem_flatMap.mp hq
      exact ⟨r, hr, itemsR_has.mp (has_iff.mpr ⟨q, hq', h⟩)⟩
    · rintro ⟨r, hr, h⟩
      obtain ⟨q, hq, h'⟩ := has_iff.mp (itemsR_has.mpr h)
      exact ⟨q, List.mem_flatMap.mpr ⟨r, hr, hq⟩, h'⟩
  cases a : has T k
  · cases b : has (itemsOf T) k
    · rfl
    · rw [h.mp b] at a
      cases a
  · exact h.mpr a
theorem items_ok {n : Int} : ∀ {T : List (Int × Int)}, (∀ r ∈ T, 0 ≤ r.1 ∧ r.1 ≤ r.2 ∧ r.2 < n) → (T.Pairwise fun a b => a.2 + 1 < b.1) → OkI n (itemsOf T)
  | [], _, _ => ⟨fun r hr => by simp [itemsOf] at hr, by simp [itemsOf]⟩
  | r :: T, h, hp => by
    rw [List.pairwise_cons] at hp
    obtain ⟨i1, i2⟩ := items_ok (fun q hq => h q (List.mem_cons_of_mem _ hq)) hp.2
    have hr := h r (by simp)
    have e : itemsOf (r :: T) = itemsR r ++ itemsOf T := by unfold itemsOf; rw [List.flatMap_cons]
    rw [e]
    refine ⟨fun q hq => ?_, ?_⟩
    · rcases List.mem_append.mp hq with hq | hq
      · have := itemsR_mem hr.2.1 hq
        omega
      · exact i1 q hq
    · rw [List.pairwise_append]
      refine ⟨itemsR_pw r, i2, fun a ha b hb => ?_⟩
      have h1 := itemsR_mem hr.2.1 ha
      obtain ⟨q, hq, hb'⟩ := List.mem_flatMap.mp hb
      have h2 := itemsR_mem (h q (List.mem_cons_of_mem _ hq)).2.1 hb'
      have h3 := hp.1 q hq
      omega
theorem TR_sep (n : Nat) (p : Int → Bool) : ((TR n p).Pairwise fun a b => a.2 + 1 < b.1) := (told_ti (rising_filter p)).sep
theorem TR_in {n : Nat} {p : Int → Bool} : ∀ r ∈ TR n p, 0 ≤ r.1 ∧ r.1 ≤ r.2 ∧ r.2 < (n : Int) := fun r hr => by
  have t := told_ti (rising_filter (n := n) p)
  have h1 := (t.has r.1).mp (has_iff.mpr ⟨r, hr, Int.le_refl _, t.le r hr⟩)
  have h2 := (t.has r.2).mp (has_iff.mpr ⟨r, hr, t.le r hr, Int.le_refl _⟩)
  exact ⟨(mem_upTo.mp (List.mem_filter.mp h1).1).1, t.le r hr, (mem_upTo.mp (List.mem_filter.mp h2).1).2⟩
theorem TR_items (n : Nat) (p : Int → Bool) : OkI n (itemsOf (TR n p)) := items_ok TR_in (TR_sep n p)
/-! ### how many signs -/
def szR (T : List (Int × Int)) : Int := (T.map fun r => r.2 - r.1 + 1).sum
theorem szR_app (A B : List (Int × Int)) : szR (A ++ B) = szR A + szR B := by
  unfold szR
  rw [List.map_append, List.sum_append]
theorem szR_one (r : Int × Int) : szR [r] = r.2 - r.1 + 1 := by simp [szR]
theorem szR_step (acc : List (Int × Int)) (k : Int) : szR (toldStep acc k) = szR acc + 1 := by
  unfold toldStep
  cases e : acc.getLast? with
  | none =>
    have : acc = [] := List.getLast?_eq_none_iff.mp e
    subst this
    simp [szR]
  | some r =>
    obtain ⟨ini, rfl⟩ : ∃ ini, acc = ini ++ [r] := by
      rw [List.getLast?_eq_some_iff] at e
      exact e
    show szR (if r.2 = k - 1 then (ini ++ [r]).dropLast ++ [(r.1, k)] else ini ++ [r] ++ [(k, k)]) = _
    split
    · rename_i c
      rw [List.dropLast_concat, szR_app, szR_app, szR_one, szR_one]
      show szR ini + (k - r.1 + 1) = szR ini + (r.2 - r.1 + 1) + 1
      omega
    · rw [szR_app (ini ++ [r]), szR_one]
      show szR (ini ++ [r]) + (k - k + 1) = _
      omega
theorem szR_told (ns : List Int) : szR (told ns) = (ns.length : Int) := by
  have h : ∀ (ms : List Int) (acc : List (Int × Int)), szR (ms.foldl toldStep acc) = szR acc + (ms.length : Int) := by
    intro ms
    induction ms with
    | nil => intro acc; simp
    | cons m ms ih =>
      intro acc
      rw [List.foldl_cons, ih, szR_step, List.length_cons]
      omega
  have := h ns []
  simpa [told, szR] using this
theorem itemsR_len {r : Int × Int} (h : r.1 ≤ r.2) : ((itemsR r).length : Int) ≤ r.2 - r.1 + 1 := by
  unfold itemsR
  split
  · rw [List.length_map, List.length_range]
    omega
  · simp
    omega
theorem itemsR_lenI {r : Int × Int} (h : r.1 ≤ r.2) (h2 : r.2 < 100) : (lenI (itemsR r) : Int) ≤ 3 * (r.2 - r.1 + 1) := by
  unfold itemsR
  split
  · rename_i c
    have hc : (r.2 + 1 - r.1).toNat = 1 ∨ (r.2 + 1 - r.1).toNat = 2 := by omega
    have l1 : ∀ i : Int, r.1 + i < 100 → (itemL (r.1 + i, r.1 + i)).length ≤ 2 := fun i hi => by
      unfold itemL
      rw [if_pos rfl]
      exact nL_len hi
    rcases hc with e | e
    · rw [e]
      have := l1 0 (by omega)
      simp [lenI, List.range_succ] at this ⊢
      omega
    · rw [e]
      have a := l1 0 (by omega)
      have b := l1 1 (by omega)
      simp [lenI, List.range_succ] at a b ⊢
      omega
  · rename_i c
    have := (itemL_len (r := r) (by omega) h2).2
    simp [lenI]
    omega
theorem items_len : ∀ {T : List (Int × Int)}, (∀ r ∈ T, r.1 ≤ r.2) → ((itemsOf T).length : Int) ≤ szR T
  | [], _ => by simp [itemsOf, szR]
  | r :: T, h => by
    have ih := items_len (T := T) fun q hq => h q (List.mem_cons_of_mem _ hq)
    have h1 := itemsR_len (h r (by simp))
    have e : itemsOf (r :: T) = itemsR r ++ itemsOf T := by unfold itemsOf; rw [List.flatMap_cons]
    have e2 : szR (r :: T) = r.2 - r.1 + 1 + szR T := by unfold szR; rw [List.map_cons, List.sum_cons]
    rw [e, e2, List.length_append]
    omega
theorem items_lenI : ∀ {T : List (Int × Int)}, (∀ r ∈ T, r.1 ≤ r.2 ∧ r.2 < 100) → (lenI (itemsOf T) : Int) ≤ 3 * szR T
  | [], _ => by simp [itemsOf, szR, lenI]
  | r :: T, h => by
    have ih := items_lenI (T := T) fun q hq => h q (List.mem_cons_of_mem _ hq)
    have h1 := itemsR_lenI (h r (by simp)).1 (h r (by simp)).2
    have e : itemsOf (r :: T) = itemsR r ++ itemsOf T := by unfold itemsOf; rw [List.flatMap_cons]
    have e2 : szR (r :: T) = r.2 - r.1 + 1 + szR T := by unfold szR; rw [List.map_cons, List.sum_cons]
    rw [e, e2, lenI_app]
    omega
theorem filter_both {α : Type} (p : α → Bool) : ∀ l : List α, (l.filter p).length + (l.filter fun x => !p x).length = l.length
  | [] => rfl
  | x :: l => by
    have ih := filter_both p l
    cases h : p x
    · simp [List.filter_cons, h]
      omega
    · simp [List.filter_cons, h]
      omega
/-! ### the text of a set -/
def oneL (n : Nat) (R : List (Int × Int)) : List Nat := textL (itemsOf (TR n (has R)))
def othL (n : Nat) (R : List (Int × Int)) : List Nat := 94 :: textL (itemsOf (TR n fun k => !has R k))
def eLS (x : Str) : PyData := .tuple [.int (x.length : Int), .str x]
def wText (n : Nat) (R : List (Int × Int)) : Str := if (!PySem.W.dataLt (eLS (SX.S (othL n R))) (eLS (SX.S (oneL n R)))) = true then SX.S (oneL n R) else SX.S (othL n R)
theorem dataLt_ls (x y : Str) : PySem.W.dataLt (eLS x) (eLS y) = decide (x.length < y.length ∨ (x.length = y.length ∧ x.cps.toList < y.cps.toList)) := by
  unfold eLS
  rw [PySem.W.dataLt_pair (by simp [PySem.W.alike]) (by simp [PySem.W.alike]), PySem.W.dataLt_int, PySem.W.dataLt_str]
  by_cases h : x.length = y.length
  · have h1 : PyData.eqv (.int (x.length : Int)) (.int (y.length : Int)) = true := by rw [h, PyData.eqv]; exact beq_self_eq_true _
    rw [if_pos h1]
    by_cases e : x = y
    · subst e
      rw [if_pos (show PyData.eqv (.str x) (.str x) = true by rw [PyData.eqv]; exact beq_self_eq_true _)]
      refine (decide_eq_false ?_).symm
      rintro (z | ⟨_, z⟩)
      · omega
      · exact List.lt_irrefl _ z
    · have h2 : ¬ PyData.eqv (.str x) (.str y) = true := fun z => e (by rw [PyData.eqv] at z; exact eq_of_beq z)
      rw [if_neg h2]
      by_cases z : x.cps.toList < y.cps.toList
      · rw [decide_eq_true z, decide_eq_true (.inr ⟨h, z⟩)]
      · rw [decide_eq_false z, decide_eq_false]
        rintro (w | ⟨_, w⟩)
        · omega
        · exact z w
  · have h1 : ¬ PyData.eqv (.int (x.length : Int)) (.int (y.length : Int)) = true := fun z => h (by rw [PyData.eqv] at z; have := eq_of_beq z; omega)
    rw [if_neg h1]
    by_cases z : x.length < y.length
    · rw [decide_eq_true (show (x.length : Int) < (y.length : Int) by omega), decide_eq_true (.inl z)]
    · rw [decide_eq_false (show ¬ (x.length : Int) < (y.length : Int) by omega), decide_eq_false]
      rintro (w | ⟨w, _⟩)
      · exact z w
      · exact h w
/-- a text that another is read from: its items, and whether they are turned -/
theorem wText_is {n : Nat} (hn : n ≤ 64) (R : List (Int × Int)) : ∃ (neg : Bool) (I : List (Int × Int)), wText n R = SX.S ((if neg then [94] else []) ++ textL I) ∧ OkI n I ∧ (neg = true → I.length ≤ 40) ∧
    (∀ k : Int, 0 ≤ k → k < (n : Int) → (if neg then !has I k else has I k) = has R k) := by
  unfold wText
  rw [dataLt_ls]
  by_cases c : (SX.S (othL n R)).length < (SX.S (oneL n R)).length ∨ ((SX.S (othL n R)).length = (SX.S (oneL n R)).length ∧ (SX.S (othL n R)).cps.toList < (SX.S (oneL n R)).cps.toList)
  · rw [decide_eq_true c, if_neg (by simp)]
    refine ⟨true, itemsOf (TR n fun k => !has R k), rfl, TR_items n _, fun _ => ?_, fun k h0 h1 => ?_⟩
    · have hl : (othL n R).length ≤ (oneL n R).length := by
        rw [SX.S_len, SX.S_len] at c
        omega
      unfold othL oneL at hl
      rw [List.length_cons, textL_len, textL_len] at hl
      have a := lenI_low (itemsOf (TR n fun k => !has R k))
      have b := items_lenI (T := TR n (has R)) fun r hr => ⟨(TR_in r hr).2.1, by have := (TR_in r hr).2.2; omega⟩
      have e := items_len (T := TR n fun k => !has R k) fun r hr => (TR_in r hr).2.1
      have s1 : szR (TR n (has R)) = (((upTo n).filter (has R)).length : Int) := szR_told _
      have s2 : szR (TR n fun k => !has R k) = (((upTo n).filter fun k => !has R k).length : Int) := szR_told _
      have s3 := filter_both (has R) (upTo n)
      rw [upTo_len] at s3
      omega
    · rw [if_pos rfl, items_has, TR_has h0 h1, Bool.not_not]
  · rw [decide_eq_false c, if_pos (by simp)]
    refine ⟨false, itemsOf (TR n (has R)), rfl, TR_items n _, (fun z => by cases z), fun k h0 h1 => ?_⟩
    rw [if_neg (by simp), items_has, TR_has h0 h1]
theorem okI_len {n : Nat} {I : List (Int × Int)} (h : OkI n I) : I.length ≤ n := by
  have hm : (I.map (·.1)).Pairwise (· < ·) := by
    rw [List.pairwise_map]
    refine List.Pairwise.imp_of_mem (fun {a b} ha hb c => ?_) h.2
    have := h.1 a ha
    omega
  have hs : ∀ x ∈ I.map (·.1), x ∈ upTo n := fun x hx => by
    obtain ⟨r, hr, rfl⟩ := List.mem_map.mp hx
    have := h.1 r hr
    exact mem_upTo.mpr ⟨this.1, by omega⟩
  have := nodup_len (hm.imp fun {a b} c => by omega) hs
  rw [List.length_map, upTo_len] at this
  exact this
end Sg
/-! Signsets: rules for texts that a module holds, for walks over a text's signs, for lists or tuples. -/
namespace Sg
open PySem PySem.Spec PyProof.Rows L2
theorem pe_gS {X : Cx} {x z : Str} {pos : Pos} (hg : Gl X x) (h : ∃ t, X.mg x = some (.str z t)) (hdb : (x == ("__debug__" : Str)) = false := by decide) : PE X (.Name x pos) (tC (.str z)) := by
  obtain ⟨t, h⟩ := h
  exact pe_glob hg h ⟨_, rfl⟩ hdb
/-- a walk over a list or a tuple -/
def iSeqQ (K : PySem.W.Frag) (te : TE) : L2.TI := fun σ H R => iList K te σ H R ∨ iTup K te σ H R
theorem piQ {X : Cx} {tg l : Expr} {tl : TE} (K : PySem.W.Frag) (hl : PE X l tl) (h : X.K = K := by rfl) : PI X tg l (iSeqQ K tl) := by
  subst h
  refine ⟨fun pins s σ H R I h => ?_⟩
  rcases h with h | h
  · exact (pi_list hl).run pins s σ H R I h
  · exact (pi_tup hl).run pins s σ H R I h
/-- isinstance by what a value is -/
def rIsTy (K : PySem.W.Frag) : List V → Hp → VK → Prop := fun xs H Q => ∃ (x : V) (n tn : String), xs = [x, .ty n] ∧ n ∈ ["bool", "int", "str", "tuple", "list"] ∧ tn ∈ ["NoneType", "bool", "int", "str", "list", "tuple"] ∧ TyX K H x (.type tn) ∧ Q (.bl (isN n tn)) H
theorem isTyK {X : Cx} (K : PySem.W.Frag) (h : X.K = K := by rfl) : CallR X (.builtin "isinstance") (rIsTy K) := by
  subst h
  intro pins s σ H xs us Q I r h
  obtain ⟨x, n, tn, rfl, hn, ht, hT, q⟩ := h
  exact call_isi pins s σ H _ us Q I r ⟨x, .ty n, .type tn, .type n, isN n tn, rfl, .ty n, hT, kit_ty (kitN _ ht n hn), q⟩
def rIsLT (K : PySem.W.Frag) : List V → Hp → VK → Prop := fun xs H Q => ∃ (x : V) (tp : Addr) (tn : String), xs = [x, .ref tp] ∧ H tp = some (.tup [.ty "list", .ty "tuple"]) ∧ tn ∈ ["NoneType", "bool", "int", "str", "list", "tuple"] ∧ TyX K H x (.type tn) ∧ Q (.bl (isN "list" tn || isN "tuple" tn)) H
theorem isLTK {X : Cx} (K : PySem.W.Frag) (h : X.K = K := by rfl) : CallR X (.builtin "isinstance") (rIsLT K) := by
  subst h
  intro pins s σ H xs us Q I r h
  obtain ⟨x, tp, tn, rfl, hH, ht, hT, q⟩ := h
  refine call_isiT pins s σ H _ us Q I r ⟨x, tp, _, .type tn, [.type "list", .type "tuple"], isN "list" tn || isN "tuple" tn, rfl, hH, .cons (.ty _) (.cons (.ty _) .nil), hT, ?_, q⟩
  refine kitAny_cons (kit_ty (kitN _ ht "list" (by simp))) (fun e1 => ?_) (fun e1 => by rw [e1]; rfl)
  refine kitAny_cons (kit_ty (kitN _ ht "tuple" (by simp))) (fun e2 => ?_) (fun e2 => by rw [e2, Bool.or_true])
  rw [e1, e2]
  exact kitAny_nil
/-- a comprehension over a text, of new data -/
theorem lcN_its {x : Str} {g : TG} {tt : TT} {te : TE} {vs : List Nat} {σ : L2.St} {H1 : Hp} {D : Addr} {Qd : Hp → Prop} (f : Nat → Option PyData) (hD : H1 D = none) (hn : x.cps.size ≤ 1000000)
    (hs : ∀ (i c : Nat) (H : Hp) (N1 : V → Hp → Prop) (N0 : Hp → Prop), x.cps.toList[i]? = some c → Same H1 H → (∀ y H4 e, Same H H4 → f i = some e → NewV H H4 y e → N1 y H4) → (∀ H3, Same H H3 → f i = none → N0 H3) →
      g (.str ⟨#[c]⟩) (wipe σ vs) H fun σ2 H2 => wipe σ2 vs = wipe σ vs ∧ tt σ2 H2 fun b H3 => if b = true then te σ2 H3 N1 else N0 H3)
    (hd : ∀ H, Same H1 H → LB H1 H D ((List.range x.cps.size).filterMap f) → Qd H) :
    ∃ W : Nat → Nat → Hp → Prop, (∃ m, W 0 m (upd H1 D (.lst []))) ∧ ∀ i m H, W i m H →
      ((Its x).stop i H ∧ Qd H) ∨ ((Its x).go i H ∧ ∃ Nx : Hp → Prop, (∀ H', Nx H' → ∃ m', m' < m ∧ W (i + 1) m' H') ∧ ∀ v H', (Its x).yld i H v H' → g v (wipe σ vs) H' fun σ2 H2 => wipe σ2 vs = wipe σ vs ∧ tt σ2 H2 fun b H3 =>
        if b = true then te σ2 H3 fun y H4 => ∃ acc, H4 D = some (.lst acc) ∧ acc.length < sizeLine ∧ Nx (upd H4 D (.lst (acc ++ [y]))) else Nx H3) := by
  refine ⟨fun i m H => m = x.cps.size - i ∧ i ≤ x.cps.size ∧ (Same H1 H ∧ LB H1 H D ((List.range i).filterMap f)), ⟨x.cps.size, by simp, Nat.zero_le _, same_new hD, LB.nil hD⟩, fun i m H hW => ?_⟩
  obtain ⟨rfl, hi, sm, lb⟩ := hW
  by_cases h : i < x.cps.size
  · obtain ⟨k1, k0⟩ := lcN_step hn h sm lb
    refine .inr ⟨h, fun H' => Same H1 H' ∧ LB H1 H' D ((List.range (i + 1)).filterMap f), fun H' p => ⟨x.cps.size - (i + 1), by omega, rfl, h, p⟩, fun v H' y => ?_⟩
    obtain ⟨rfl, c, hc, rfl⟩ := y
    exact hs i c _ _ _ (by rw [Array.getElem?_toList]; exact hc) sm k1 k0
  · have e : i = x.cps.size := by omega
    subst e
    exact .inl ⟨Nat.le_refl _, hd H sm lb⟩
theorem joinE {t : TE} {σ : L2.St} {H : Hp} {Q : VK} (J : VK) (h1 : ∀ v H', J v H' → Q v H') (h2 : ∀ Q' : VK, (∀ v H', J v H' → Q' v H') → t σ H Q') : t σ H Q := h2 Q h1
theorem seq_set {t : TE} {i : Nat} {u : TS} {D : Ends} {σ : L2.St} {H : Hp} (J : VK) (h1 : ∀ v H', J v H' → u D (σ.set i (some v)) H') (h2 : ∀ Q' : VK, (∀ v H', J v H' → Q' v H') → t σ H Q') : tSeq (tAsg t (gName i)) u D σ H :=
  h2 (fun v H' => u D (σ.set i (some v)) H') h1
theorem one_set {t : TE} {i : Nat} {D : Ends} {σ : L2.St} {H : Hp} (J : VK) (h1 : ∀ v H', J v H' → D.nx (σ.set i (some v)) H') (h2 : ∀ Q' : VK, (∀ v H', J v H' → Q' v H') → t σ H Q') : tAsg t (gName i) D σ H :=
  h2 (fun v H' => D.nx (σ.set i (some v)) H') h1
theorem seq_for {wi : L2.TI} {g : TG} {tb u : TS} {D : Ends} {σ : L2.St} {H : Hp} (h : tFor wi g tb { D with nx := u D } σ H) : tSeq (tFor wi g tb) u D σ H := h
theorem for_enum_if {K : PySem.W.Frag} {t : TE} {g : TG} {tb : TS} {D : Ends} {σ : L2.St} {H : Hp} (J : VK) (h1 : ∀ v G, J v G → tFor (iEnum K (fun _ H' Q' => Q' [v] H')) g tb D σ G) (h2 : ∀ Q' : VK, (∀ v G, J v G → Q' v G) → t σ H Q') : tFor (iEnum K (tCons t tNil)) g tb D σ H :=
  h2 (fun v G => tFor (iEnum K (fun _ H' Q' => Q' [v] H')) g tb D σ G) h1
theorem for_list_if {K : PySem.W.Frag} {t : TE} {g : TG} {tb : TS} {D : Ends} {σ : L2.St} {H : Hp} (J : VK) (h1 : ∀ v G, J v G → tFor (iList K (fun _ H' Q' => Q' v H')) g tb D σ G) (h2 : ∀ Q' : VK, (∀ v G, J v G → Q' v G) → t σ H Q') : tFor (iList K t) g tb D σ H :=
  h2 (fun v G => tFor (iList K (fun _ H' Q' => Q' v H')) g tb D σ G) h1
end Sg
/-! Signsets: lists that are made longer, a -1 at a time; how many lists data have. -/
namespace Sg
open PySem PySem.Spec PyProof.Rows L2
mutual
def nl : PyData → Nat
  | .list ds => nlAll ds + 1
  | .tuple ds => nlAll ds
  | _ => 0
def nlAll : List PyData → Nat
  | [] => 0
  | d :: ds => nl d + nlAll ds
end
theorem nlAll_le {c : Nat} : ∀ {ds : List PyData}, (∀ d ∈ ds, nl d ≤ c) → nlAll ds ≤ ds.length * c
  | [], _ => by simp [nlAll]
  | d :: ds, h => by
    have ih := nlAll_le (ds := ds) fun e he => h e (List.mem_cons_of_mem _ he)
    have h1 := h d (by simp)
    rw [nlAll, List.length_cons, Nat.succ_mul]
    omega
theorem nlAll_zero {α : Type} {f : α → PyData} (h : ∀ x, nl (f x) = 0) : ∀ l : List α, nlAll (l.map f) = 0
  | [] => rfl
  | x :: l => by rw [List.map_cons, nlAll, h, nlAll_zero h l]
theorem nl_eI (ns : List Int) : nl (eI ns) = 1 := by
  unfold eI
  rw [nl, nlAll_zero (f := PyData.int) fun x => by simp [nl]]
theorem nl_eP (r : Int × Int) : nl (eP r) = 0 := by
  unfold eP
  simp [nl, nlAll]
theorem nl_eR (R : List (Int × Int)) : nl (eR R) = 1 := by
  unfold eR
  rw [nl, nlAll_zero nl_eP]
theorem nl_eT (L : List Str) : nl (eT L) = 1 := by
  unfold eT
  rw [nl, nlAll_zero (f := PyData.str) fun x => by simp [nl]]
theorem nl_eRs (L : List (List (Int × Int))) : nl (eRs L) ≤ L.length + 1 := by
  unfold eRs
  rw [nl]
  have := nlAll_le (c := 1) (ds := L.map eR) fun d hd => by
    obtain ⟨r, _, rfl⟩ := List.mem_map.mp hd
    rw [nl_eR]
    exact Nat.le_refl _
  rw [List.length_map] at this
  omega
theorem nl_eIs (L : List (List Int)) : nl (eIs L) ≤ L.length + 1 := by
  unfold eIs
  rw [nl]
  have := nlAll_le (c := 1) (ds := L.map eI) fun d hd => by
    obtain ⟨r, _, rfl⟩ := List.mem_map.mp hd
    rw [nl_eI]
    exact Nat.le_refl _
  rw [List.length_map] at this
  omega
theorem nlAll_snoc : ∀ (ds : List PyData) (d : PyData), nlAll (ds ++ [d]) = nlAll ds + nl d
  | [], d => by simp [nlAll]
  | e :: ds, d => by
    rw [List.cons_append, nlAll, nlAll_snoc ds d, nlAll]
    omega
theorem nlAll_take : ∀ (i : Nat) (ds : List PyData), nlAll (ds.take i) ≤ nlAll ds
  | 0, ds => by simp [nlAll]
  | _ + 1, [] => Nat.le_refl _
  | i + 1, d :: ds => by
    have := nlAll_take i ds
    rw [List.take_succ_cons, nlAll, nlAll]
    omega
/-- what is new in H0 over G stands in H, lists longer by up to k items -1 -/
structure Grow (G : Hp) (k : Nat) (H0 H : Hp) : Prop where
  same : Same G H
  lst : ∀ p xs, fr G H0 p = some (.lst xs) → ∃ j, j ≤ k ∧ H p = some (.lst (xs ++ List.replicate j (.int (-1))))
  tup : ∀ p xs, fr G H0 p = some (.tup xs) → H p = some (.tup xs)
theorem Grow.refl {G H : Hp} (s : Same G H) : Grow G 0 H H := ⟨s, fun p xs h => ⟨0, Nat.le_refl _, by rw [List.replicate_zero, List.append_nil]; exact (fr_some h).2⟩, fun p xs h => (fr_some h).2⟩
theorem Grow.mono {G H0 H : Hp} {k m : Nat} (g : Grow G k H0 H) (h : k ≤ m) : Grow G m H0 H := ⟨g.same, fun p xs e => by
  obtain ⟨j, h1, h2⟩ := g.lst p xs e
  exact ⟨j, by omega, h2⟩, g.tup⟩
theorem Grow.trans {G H0 H H' : Hp} {k : Nat} (g : Grow G k H0 H) (s : Same H H') : Grow G k H0 H' := ⟨g.same.trans s, fun p xs e => by
  obtain ⟨j, h1, h2⟩ := g.lst p xs e
  exact ⟨j, h1, s _ _ h2⟩, fun p xs e => s _ _ (g.tup p xs e)⟩
theorem Grow.push {G H0 H : Hp} {k : Nat} {a : Addr} {xs ys : List V} (g : Grow G k H0 H) (h0 : fr G H0 a = some (.lst xs)) (h : H a = some (.lst ys)) : Grow G (k + 1) H0 (upd H a (.lst (ys ++ [.int (-1)]))) := by
  refine ⟨same_upd g.same (fr_some h0).1, fun p zs e => ?_, fun p zs e => ?_⟩
  · by_cases c : p = a
    · subst c
      obtain ⟨j, h1, h2⟩ := g.lst p zs e
      rw [h] at h2
      obtain rfl := HO.lst.inj (Option.some.inj h2)
      refine ⟨j + 1, by omega, ?_⟩
      rw [upd_same, List.replicate_succ', List.append_assoc]
    · obtain ⟨j, h1, h2⟩ := g.lst p zs e
      exact ⟨j, by omega, by rw [upd_ne c]; exact h2⟩
  · have c : p ≠ a := fun z => by
      subst z
      rw [h0] at e
      cases e
    rw [upd_ne c]
    exact g.tup p zs e
theorem dn_at {F : Hp} {xs : List V} {ds : List PyData} (h : DnAll F xs ds) {i j : Nat} {x : V} (hx : (xs ++ List.replicate j (V.int (-1)))[i]? = some x) : (∃ d, ds[i]? = some d ∧ Dn F x d) ∨ (xs.length ≤ i ∧ x = .int (-1)) := by
  by_cases c : i < xs.length
  · rw [List.getElem?_append_left c] at hx
    obtain ⟨d, h1, h2⟩ := h.get hx
    exact .inl ⟨d, h1, h2⟩
  · rw [List.getElem?_append_right (by omega), List.getElem?_replicate] at hx
    split at hx
    · exact .inr ⟨by omega, (Option.some.inj hx).symm⟩
    · cases hx
end Sg
namespace Sg
open PySem PySem.Spec PyProof.Rows L2
def topS (i : Nat) : Stmt := PySem.Challenge.pw_signsets_k11_asked_again.main.body.getD i (.Pass ⟨0, 0, 0, 0⟩)
abbrev s_need_size : Stmt := topS 9
abbrev n_need_size : List Str := ["size"]
theorem sc_need_size : FnScope n_need_size ["size"] (defScope s_need_size) := ⟨rfl, rfl, rfl, by decide +kernel, rfl, by decide +kernel, by decide +kernel⟩
abbrev s_need_set : Stmt := topS 10
abbrev n_need_set : List Str := ["size", "ranges", "number", "at", "first", "last"]
theorem sc_need_set : FnScope n_need_set ["size", "ranges", "number"] (defScope s_need_set) := ⟨rfl, rfl, rfl, by decide +kernel, rfl, by decide +kernel, by decide +kernel⟩
abbrev s_need_number : Stmt := topS 11
abbrev n_need_number : List Str := ["size", "number"]
theorem sc_need_number : FnScope n_need_number ["size", "number"] (defScope s_need_number) := ⟨rfl, rfl, rfl, by decide +kernel, rfl, by decide +kernel, by decide +kernel⟩
abbrev s_has : Stmt := topS 12
abbrev n_has : List Str := ["ranges", "number", "pair"]
theorem sc_has : FnScope n_has ["ranges", "number"] (defScope s_has) := ⟨rfl, rfl, rfl, by decide +kernel, rfl, by decide +kernel, by decide +kernel⟩
abbrev s_all_in : Stmt := topS 13
abbrev n_all_in : List Str := ["size", "ranges", "number"]
theorem sc_all_in : FnScope n_all_in ["size", "ranges"] (defScope s_all_in) := ⟨rfl, rfl, rfl, by decide +kernel, rfl, by decide +kernel, by decide +kernel⟩
abbrev s_told : Stmt := topS 14
abbrev n_told : List Str := ["numbers", "found", "number"]
theorem sc_told : FnScope n_told ["numbers"] (defScope s_told) := ⟨rfl, rfl, rfl, by decide +kernel, rfl, by decide +kernel, by decide +kernel⟩
abbrev s_members : Stmt := topS 15
abbrev n_members : List Str := ["size", "ranges"]
theorem sc_members : FnScope n_members ["size", "ranges"] (defScope s_members) := ⟨rfl, rfl, rfl, by decide +kernel, rfl, by decide +kernel, by decide +kernel⟩
abbrev s_plain : Stmt := topS 16
abbrev n_plain : List Str := ["size", "ranges"]
theorem sc_plain : FnScope n_plain ["size", "ranges"] (defScope s_plain) := ⟨rfl, rfl, rfl, by decide +kernel, rfl, by decide +kernel, by decide +kernel⟩
abbrev s_need_two : Stmt := topS 17
abbrev n_need_two : List Str := ["size", "one", "other"]
theorem sc_need_two : FnScope n_need_two ["size", "one", "other"] (defScope s_need_two) := ⟨rfl, rfl, rfl, by decide +kernel, rfl, by decide +kernel, by decide +kernel⟩
abbrev s_joined : Stmt := topS 18
abbrev n_joined : List Str := ["size", "one", "other", "number"]
theorem sc_joined : FnScope n_joined ["size", "one", "other"] (defScope s_joined) := ⟨rfl, rfl, rfl, by decide +kernel, rfl, by decide +kernel, by decide +kernel⟩
abbrev s_common : Stmt := topS 19
abbrev n_common : List Str := ["size", "one", "other", "number"]
theorem sc_common : FnScope n_common ["size", "one", "other"] (defScope s_common) := ⟨rfl, rfl, rfl, by decide +kernel, rfl, by decide +kernel, by decide +kernel⟩
abbrev s_less : Stmt := topS 20
abbrev n_less : List Str := ["size", "one", "other", "number"]
theorem sc_less : FnScope n_less ["size", "one", "other"] (defScope s_less) := ⟨rfl, rfl, rfl, by decide +kernel, rfl, by decide +kernel, by decide +kernel⟩
abbrev s_others : Stmt := topS 21
abbrev n_others : List Str := ["size", "ranges", "number"]
theorem sc_others : FnScope n_others ["size", "ranges"] (defScope s_others) := ⟨rfl, rfl, rfl, by decide +kernel, rfl, by decide +kernel, by decide +kernel⟩
abbrev s_inside : Stmt := topS 22
abbrev n_inside : List Str := ["size", "ranges", "number", "some", "low", "high", "looks", "middle"]
theorem sc_inside : FnScope n_inside ["size", "ranges", "number"] (defScope s_inside) := ⟨rfl, rfl, rfl, by decide +kernel, rfl, by decide +kernel, by decide +kernel⟩
abbrev s_need_sets : Stmt := topS 24
abbrev n_need_sets : List Str := ["size", "sets", "number", "ranges"]
theorem sc_need_sets : FnScope n_need_sets ["size", "sets"] (defScope s_need_sets) := ⟨rfl, rfl, rfl, by decide +kernel, rfl, by decide +kernel, by decide +kernel⟩
abbrev s_row_of : Stmt := topS 25
abbrev n_row_of : List Str := ["size", "ranges", "first", "wide", "found", "number"]
theorem sc_row_of : FnScope n_row_of ["size", "ranges", "first", "wide"] (defScope s_row_of) := ⟨rfl, rfl, rfl, by decide +kernel, rfl, by decide +kernel, by decide +kernel⟩
abbrev s_made : Stmt := topS 26
abbrev n_made : List Str := ["size", "sets", "wide", "rows", "firsts", "ranges", "numbers", "first", "row"]
theorem sc_made : FnScope n_made ["size", "sets", "wide"] (defScope s_made) := ⟨rfl, rfl, rfl, by decide +kernel, rfl, by decide +kernel, by decide +kernel⟩
abbrev s_table : Stmt := topS 27
abbrev n_table : List Str := ["size", "sets", "wide"]
theorem sc_table : FnScope n_table ["size", "sets", "wide"] (defScope s_table) := ⟨rfl, rfl, rfl, by decide +kernel, rfl, by decide +kernel, by decide +kernel⟩
abbrev s_room_of : Stmt := topS 28
abbrev n_room_of : List Str := ["told", "numbers", "row"]
theorem sc_room_of : FnScope n_room_of ["told"] (defScope s_room_of) := ⟨rfl, rfl, rfl, by decide +kernel, rfl, by decide +kernel, by decide +kernel⟩
abbrev s_least : Stmt := topS 29
abbrev n_least : List Str := ["size", "sets", "wide"]
theorem sc_least : FnScope n_least ["size", "sets"] (defScope s_least) := ⟨rfl, rfl, rfl, by decide +kernel, rfl, by decide +kernel, by decide +kernel⟩
abbrev s_kinds_of : Stmt := topS 31
abbrev n_kinds_of : List Str := ["size", "sets", "kinds", "found", "number", "kind", "ranges"]
theorem sc_kinds_of : FnScope n_kinds_of ["size", "sets"] (defScope s_kinds_of) := ⟨rfl, rfl, rfl, by decide +kernel, rfl, by decide +kernel, by decide +kernel⟩
abbrev s_classes : Stmt := topS 32
abbrev n_classes : List Str := ["size", "sets", "row", "kinds", "found", "number", "sign"]
theorem sc_classes : FnScope n_classes ["size", "sets"] (defScope s_classes) := ⟨rfl, rfl, rfl, by decide +kernel, rfl, by decide +kernel, by decide +kernel⟩
abbrev s_class_row : Stmt := topS 33
abbrev n_class_row : List Str := ["size", "sets"]
theorem sc_class_row : FnScope n_class_row ["size", "sets"] (defScope s_class_row) := ⟨rfl, rfl, rfl, by decide +kernel, rfl, by decide +kernel, by decide +kernel⟩
abbrev s_by_classes : Stmt := topS 34
abbrev n_by_classes : List Str := ["size", "sets", "kinds", "number", "at"]
theorem sc_by_classes : FnScope n_by_classes ["size", "sets"] (defScope s_by_classes) := ⟨rfl, rfl, rfl, by decide +kernel, rfl, by decide +kernel, by decide +kernel⟩
abbrev s_items_of : Stmt := topS 38
abbrev n_items_of : List Str := ["ranges", "found", "first", "last", "number"]
theorem sc_items_of : FnScope n_items_of ["ranges"] (defScope s_items_of) := ⟨rfl, rfl, rfl, by decide +kernel, rfl, by decide +kernel, by decide +kernel⟩
abbrev s_written : Stmt := topS 39
abbrev n_written : List Str := ["size", "ranges", "one", "other"]
theorem sc_written : FnScope n_written ["size", "ranges"] (defScope s_written) := ⟨rfl, rfl, rfl, by decide +kernel, rfl, by decide +kernel, by decide +kernel⟩
abbrev s_number_of : Stmt := topS 40
abbrev n_number_of : List Str := ["word", "size", "sign"]
theorem sc_number_of : FnScope n_number_of ["word", "size"] (defScope s_number_of) := ⟨rfl, rfl, rfl, by decide +kernel, rfl, by decide +kernel, by decide +kernel⟩
abbrev s_item_of : Stmt := topS 41
abbrev n_item_of : List Str := ["word", "size", "parts", "part"]
theorem sc_item_of : FnScope n_item_of ["word", "size"] (defScope s_item_of) := ⟨rfl, rfl, rfl, by decide +kernel, rfl, by decide +kernel, by decide +kernel⟩
abbrev s_read : Stmt := topS 42
abbrev n_read : List Str := ["size", "text", "rest", "found", "place", "word", "item"]
theorem sc_read : FnScope n_read ["size", "text"] (defScope s_read) := ⟨rfl, rfl, rfl, by decide +kernel, rfl, by decide +kernel, by decide +kernel⟩
abbrev s__law_dice : Stmt := topS 44
abbrev n__law_dice : List Str := ["_law_script", "_law_k", "_law_found", "_law_cell"]
theorem sc__law_dice : FnScope n__law_dice ["_law_script", "_law_k"] (defScope s__law_dice) := ⟨rfl, rfl, rfl, by decide +kernel, rfl, by decide +kernel, by decide +kernel⟩
abbrev s__law_off : Stmt := topS 45
abbrev n__law_off : List Str := ["_law_d", "_law_most", "_law_found"]
theorem sc__law_off : FnScope n__law_off ["_law_d", "_law_most"] (defScope s__law_off) := ⟨rfl, rfl, rfl, by decide +kernel, rfl, by decide +kernel, by decide +kernel⟩
abbrev s__law_alike : Stmt := topS 46
abbrev n__law_alike : List Str := ["_law_found", "_law_due", "_law_k"]
theorem sc__law_alike : FnScope n__law_alike ["_law_found", "_law_due"] (defScope s__law_alike) := ⟨rfl, rfl, rfl, by decide +kernel, rfl, by decide +kernel, by decide +kernel⟩
abbrev s__law_size : Stmt := topS 47
abbrev n__law_size : List Str := ["_law_d"]
theorem sc__law_size : FnScope n__law_size ["_law_d"] (defScope s__law_size) := ⟨rfl, rfl, rfl, by decide +kernel, rfl, by decide +kernel, by decide +kernel⟩
abbrev s__law_set : Stmt := topS 48
abbrev n__law_set : List Str := ["_law_d", "_law_size_here", "_law_most", "_law_wide", "_law_found", "_law_turn", "_law_first"]
theorem sc__law_set : FnScope n__law_set ["_law_d", "_law_size_here", "_law_most"] (defScope s__law_set) := ⟨rfl, rfl, rfl, by decide +kernel, rfl, by decide +kernel, by decide +kernel⟩
abbrev s__law_sets : Stmt := topS 49
abbrev n__law_sets : List Str := ["_law_d", "_law_size_here", "_law_found", "_law_turn", "_law_ranges", "_law_by", "_law_first", "_law_last"]
theorem sc__law_sets : FnScope n__law_sets ["_law_d", "_law_size_here"] (defScope s__law_sets) := ⟨rfl, rfl, rfl, by decide +kernel, rfl, by decide +kernel, by decide +kernel⟩
abbrev s__law_copied : Stmt := topS 50
abbrev n__law_copied : List Str := ["_law_found", "_law_one"]
theorem sc__law_copied : FnScope n__law_copied ["_law_found"] (defScope s__law_copied) := ⟨rfl, rfl, rfl, by decide +kernel, rfl, by decide +kernel, by decide +kernel⟩
abbrev s__law_asked : Stmt := topS 51
abbrev n__law_asked : List Str := ["_law_kind", "_law_size_here", "_law_ranges", "_law_sets_here", "_law_other"]
theorem sc__law_asked : FnScope n__law_asked ["_law_kind", "_law_size_here", "_law_ranges", "_law_sets_here"] (defScope s__law_asked) := ⟨rfl, rfl, rfl, by decide +kernel, rfl, by decide +kernel, by decide +kernel⟩
abbrev s__law_spoil : Stmt := topS 52
abbrev n__law_spoil : List Str := ["_law_found", "_law_part"]
theorem sc__law_spoil : FnScope n__law_spoil ["_law_found"] (defScope s__law_spoil) := ⟨rfl, rfl, rfl, by decide +kernel, rfl, by decide +kernel, by decide +kernel⟩
abbrev s_law : Stmt := topS 53
abbrev n_law : List Str := ["_law_script", "_law_d", "_law_cases", "_law_k", "_law_size_here", "_law_kept", "_law_ranges", "_law_sets_here", "_law_kind", "_law_turn", "_law_handed", "_law_one", "_law_found"]
theorem sc_law : FnScope n_law ["_law_script"] (defScope s_law) := ⟨rfl, rfl, rfl, by decide +kernel, rfl, by decide +kernel, by decide +kernel⟩
structure Tx (K : PySem.W.Frag) (mg : Str → Option Value) : Prop where
  d_need_size : Df K mg "need_size" s_need_size ["size"]
  d_need_set : Df K mg "need_set" s_need_set ["size", "ranges", "number"]
  d_need_number : Df K mg "need_number" s_need_number ["size", "number"]
  d_has : Df K mg "has" s_has ["ranges", "number"]
  d_all_in : Df K mg "all_in" s_all_in ["size", "ranges"]
  d_told : Df K mg "told" s_told ["numbers"]
  d_members : Df K mg "members" s_members ["size", "ranges"]
  d_plain : Df K mg "plain" s_plain ["size", "ranges"]
  d_need_two : Df K mg "need_two" s_need_two ["size", "one", "other"]
  d_joined : Df K mg "joined" s_joined ["size", "one", "other"]
  d_common : Df K mg "common" s_common ["size", "one", "other"]
  d_less : Df K mg "less" s_less ["size", "one", "other"]
  d_others : Df K mg "others" s_others ["size", "ranges"]
  d_inside : Df K mg "inside" s_inside ["size", "ranges", "number"]
  d_need_sets : Df K mg "need_sets" s_need_sets ["size", "sets"]
  d_row_of : Df K mg "row_of" s_row_of ["size", "ranges", "first", "wide"]
  d_made : Df K mg "made" s_made ["size", "sets", "wide"]
  d_table : Df K mg "table" s_table ["size", "sets", "wide"]
  d_room_of : Df K mg "room_of" s_room_of ["told"]
  d_least : Df K mg "least" s_least ["size", "sets"]
  d_kinds_of : Df K mg "kinds_of" s_kinds_of ["size", "sets"]
  d_classes : Df K mg "classes" s_classes ["size", "sets"]
  d_class_row : Df K mg "class_row" s_class_row ["size", "sets"]
  d_by_classes : Df K mg "by_classes" s_by_classes ["size", "sets"]
  d_items_of : Df K mg "items_of" s_items_of ["ranges"]
  d_written : Df K mg "written" s_written ["size", "ranges"]
  d_number_of : Df K mg "number_of" s_number_of ["word", "size"]
  d_item_of : Df K mg "item_of" s_item_of ["word", "size"]
  d_read : Df K mg "read" s_read ["size", "text"]
  d__law_dice : Df K mg "_law_dice" s__law_dice ["_law_script", "_law_k"]
  d__law_off : Df K mg "_law_off" s__law_off ["_law_d", "_law_most"]
  d__law_alike : Df K mg "_law_alike" s__law_alike ["_law_found", "_law_due"]
  d__law_size : Df K mg "_law_size" s__law_size ["_law_d"]
  d__law_set : Df K mg "_law_set" s__law_set ["_law_d", "_law_size_here", "_law_most"]
  d__law_sets : Df K mg "_law_sets" s__law_sets ["_law_d", "_law_size_here"]
  d__law_copied : Df K mg "_law_copied" s__law_copied ["_law_found"]
  d__law_asked : Df K mg "_law_asked" s__law_asked ["_law_kind", "_law_size_here", "_law_ranges", "_law_sets_here"]
  d__law_spoil : Df K mg "_law_spoil" s__law_spoil ["_law_found"]
  c_MOST_SIZE : ∃ t, mg "MOST_SIZE" = some (.int 64 t)
  c_MOST_RANGES : ∃ t, mg "MOST_RANGES" = some (.int 40 t)
  c_FIGURES : ∃ t, mg "FIGURES" = some (.str (Str.ofString "0123456789") t)
  c_NOT : ∃ t, mg "NOT" = some (.str (Str.ofString "^") t)
  z_range : mg "range" = none
  z_enumerate : mg "enumerate" = none
  z_len : mg "len" = none
  z_min : mg "min" = none
  z_abs : mg "abs" = none
  z_isinstance : mg "isinstance" = none
  z_bool : mg "bool" = none
  z_int : mg "int" = none
  z_str : mg "str" = none
  z_tuple : mg "tuple" = none
  z_list : mg "list" = none
  z_all : mg "all" = none
  z_sorted : mg "sorted" = none
  z_set : mg "set" = none
  z_sum : mg "sum" = none
section
variable {P : Program} {w : World} {K : PySem.W.Frag} {mg : Str → Option Value} {base : Heap}
def spNeedSize : Sp := fun vs H Q _ => ∃ n : Int, vs = [.int n] ∧ 1 ≤ n ∧ n ≤ 64 ∧ Q .non H
theorem ok_need_size (T : Tx K mg) : Cl P w K mg base 1 "need_size" spNeedSize := by
  refine T.d_need_size.cl sc_need_size (fun vs H Q E h => ?_) (fun f cdv A outer s H vs Q E hr h => ?_)
  · obtain ⟨n, rfl, _⟩ := h
    rfl
  obtain ⟨n, rfl, h1, h2, q⟩ := h
  refine ⟨_, (pss_one (ps_if (pt_not (pt_chain op_le op_le pe_int (pv 0) (pe_gI (by rfl) T.c_MOST_SIZE))) (pss_one ps_never) pss_nil)), ?_⟩
  refine ⟨_, rfl, _, _, rfl, rfl, true, bT h1, iteT ⟨_, _, rfl, rfl, true, bT h2, iteF ?_⟩⟩
  exact q
def spNeedSet (K : PySem.W.Frag) : Sp := fun vs H Q _ => ∃ (n : Int) (v : V) (R : List (Int × Int)) (num : Int), vs = [.int n, v, .int num] ∧ Dp K H v (eR R) ∧ Ok n R ∧ ∀ H', Same H H' → Q .non H'
theorem ok_need_set (T : Tx K mg) : Cl P w K mg base 1 "need_set" (spNeedSet K) := by
  refine T.d_need_set.cl sc_need_set (fun vs H Q E h => ?_) (fun f cdv A outer s H vs Q E hr h => ?_)
  · obtain ⟨n, v, R, num, rfl, _⟩ := h
    rfl
  obtain ⟨n, v, R, num, rfl, hD, hk, q⟩ := h
  obtain ⟨a, xs, rfl, hS, hA⟩ := dp_list hD
  have hxl : xs.length = R.length := by rw [dpAll_len hA, List.length_map]
  refine ⟨_, (pss_one (ps_for PassesOwn.never rfl (piEnum K (by rfl) T.z_enumerate (pa_cons (pv 1) pa_nil)) (pgT K (by rfl) (pgs_cons (pg_name (i := 3) sc_need_set.nd rfl (by first | exact Or.inl rfl | exact Or.inr rfl)) (pgs_cons (pgT K (by rfl) (pgs_cons (pg_name (i := 4) sc_need_set.nd rfl (by first | exact Or.inl rfl | exact Or.inr rfl)) (pgs_cons (pg_name (i := 5) sc_need_set.nd rfl (by first | exact Or.inl rfl | exact Or.inr rfl)) pgs_nil))) pgs_nil)))
      (pss_one (ps_if (PW.pt (pw_or (pt_cmpR op_ge (pv 3) (pe_gI (by rfl) T.c_MOST_RANGES) (nomark _)) (pw_or1 (pt_not (pt_chain3 op_le op_le op_lt pe_int (pv 4) (pv 5) (pv 0)))))) (pss_one ps_never) pss_nil)))), ?_⟩
  refine ⟨_, rfl, a, xs, rfl, hS, for_enum (xs := xs) (fun i σ H1 => ∃ y3 y4 y5, σ = [some (.int n), some (.ref a), some (.int num), y3, y4, y5] ∧ Same H H1) ⟨none, none, none, rfl, Same.refl _⟩ (fun i σ H1 _ p => ?_) (fun i x t σ H1 hx nt p => ?_) (fun σ H1 p => ?_)⟩
  · obtain ⟨_, _, _, _, sm⟩ := p
    exact sm.seq hS
  · obtain ⟨y3, y4, y5, rfl, sm⟩ := p
    obtain ⟨d, hd, hx'⟩ := dpAll_get hA hx
    obtain ⟨r, hr', rfl⟩ := get_map hd
    obtain ⟨u, rfl, hT⟩ := dp_pair hx'
    have s2 : Same H (upd H1 t (.tup [.int (i : Nat), .ref u])) := sm.trans (same_new nt)
    have hm : r ∈ R := List.mem_of_getElem? hr'
    obtain ⟨k1, k2, k3⟩ := hk.2 r hm
    have hi : i < R.length := (List.getElem?_eq_some_iff.mp hr').1
    have h40 := hk.1
    refine ⟨t, _, rfl, SqT.of upd_same, rfl, _, _, rfl, _, _, rfl, u, _, rfl, same_tup s2 hT, rfl, _, _, rfl, _, _, rfl, rfl, rfl, ?_⟩
    refine ⟨_, rfl, _, _, rfl, rfl, false, bF (by omega), iteF ⟨_, rfl, _, _, rfl, rfl, true, bT k1, iteT ⟨_, rfl, _, _, rfl, rfl, true, bT k2, iteT ⟨_, rfl, _, _, rfl, rfl, true, bT k3, iteF ?_⟩⟩⟩⟩
    exact ⟨_, _, _, rfl, s2⟩
  · obtain ⟨y3, y4, y5, rfl, sm⟩ := p
    exact q H1 sm
def spHas (K : PySem.W.Frag) : Sp := fun vs H Q _ => ∃ (v : V) (R : List (Int × Int)) (n : Int), vs = [v, .int n] ∧ Dp K H v (eR R) ∧ R.length ≤ 1000 ∧ ∀ H', Same H H' → Q (.bl (has R n)) H'
theorem ok_has (T : Tx K mg) : Cl P w K mg base 1 "has" (spHas K) := by
  refine T.d_has.cl sc_has (fun vs H Q E h => ?_) (fun f cdv A outer s H vs Q E hr h => ?_)
  · obtain ⟨v, R, n, rfl, _⟩ := h
    rfl
  obtain ⟨v, R, n, rfl, hD, hl, q⟩ := h
  obtain ⟨a, xs, rfl, hS, hA⟩ := dp_list hD
  have hxl : xs.length = R.length := by rw [dpAll_len hA, List.length_map]
  refine ⟨_, (pss_one (ps_ret (pe_cmpR (neD K hr.units) (pe_lc (own := [("pair", 2)]) (g := (gName 2)) (tt := _) (by rfl) sc_has.nd (piL K (pv 0)) (blkOk_by (own := [("pair", 2)]) (N := n_has) (sc := defScope s_has) (by decide +kernel)) (fun _ _ _ _ _ => (pg_name (i := 2) sc_has.nd rfl (by first | exact Or.inl rfl | exact Or.inr rfl))) (fun _ _ _ _ _ => (pts_one (pt_chain op_le op_le (pe_ix (ixT K) (pv 2) pe_int (fun _ _ => rfl)) (pv 1) (pe_ix (ixT K) (pv 2) pe_int (fun _ _ => rfl))))) (fun _ _ _ _ _ => (pv 2))) (pe_lst pa_nil) (nomark _)))), ?_⟩
  refine ⟨_, rfl, a, rfl, ⟨_, hS⟩, fun D hDn => lcO_list (K := K) (xs := xs) (ds := R.map eP) (inR n) hS hA hDn (by omega) (fun i x d H1 N1 N0 hd hx sm k1 k0 => ?_) (fun H1 ys sm hy ha => ?_)⟩
  · obtain ⟨r, hr', rfl⟩ := get_map hd
    obtain ⟨t, rfl, hT⟩ := dp_pair hx
    have hT1 := same_tup sm hT
    refine ⟨rfl, _, rfl, t, _, _, _, rfl, rfl, hT1, rfl, _, rfl, _, _, rfl, rfl, _, rfl, ite2 (fun c => ?_) (fun c => ?_)⟩
    · have c1 : r.1 ≤ n := of_decide_eq_true c
      refine ⟨_, rfl, t, _, _, _, rfl, rfl, hT1, rfl, _, _, rfl, rfl, _, rfl, ite2 (fun e => ?_) (fun e => ?_)⟩
      · have e1 : n ≤ r.2 := of_decide_eq_true e
        exact ⟨_, rfl, k1 H1 (Same.refl _) (by rw [inR_eP, decide_eq_true c1, decide_eq_true e1]; rfl)⟩
      · have e1 : ¬ n ≤ r.2 := fun z => e (decide_eq_true z)
        exact k0 H1 (Same.refl _) (by rw [inR_eP, decide_eq_false e1, Bool.and_false])
    · have c1 : ¬ r.1 ≤ n := fun z => c (decide_eq_true z)
      exact ⟨_, rfl, iteF (k0 H1 (Same.refl _) (by rw [inR_eP, decide_eq_false c1, Bool.false_and]))⟩
  · refine ⟨Nat.zero_le _, fun p hp => ⟨_, _, .lst (SqL.of (same_new hp _ _ hy)) (same_dpAll (sm.trans (same_new hp)) ha), .lst (SqL.of upd_same) .nil, (sh_filter (n := 0)).shaped, (sh_nil (n := 0)).shaped, ?_⟩⟩
    have e : (!PyData.eqv (.list ((R.map eP).filter (inR n))) (.list [])) = has R n := by
      rw [eqv_nil, any_filter, List.any_map]
      rfl
    rw [e]
    exact q _ (sm.trans (same_new hp))
def spAllIn (K : PySem.W.Frag) : Sp := fun vs H Q _ => ∃ (n : Nat) (v : V) (R : List (Int × Int)), vs = [.int n, v] ∧ Dp K H v (eR R) ∧ R.length ≤ 1000 ∧ n ≤ 1000 ∧ ∀ H' p, Same H H' → NewV H H' p (eI (allIn n R)) → Q p H'
theorem ok_all_in (T : Tx K mg) : Cl P w K mg base 2 "all_in" (spAllIn K) := by
  refine T.d_all_in.cl sc_all_in (fun vs H Q E h => ?_) (fun f cdv A outer s H vs Q E hr h => ?_)
  · obtain ⟨n, v, R, rfl, _⟩ := h
    rfl
  obtain ⟨n, v, R, rfl, hD, hl, hn, q⟩ := h
  refine ⟨_, (pss_one (ps_ret (pe_lc (own := [("number", 2)]) (g := (gName 2)) (tt := _) (by rfl) sc_all_in.nd (pi_range1 (by rfl) T.z_range (pa_cons (pv 0) pa_nil)) (blkOk_by (own := [("number", 2)]) (N := n_all_in) (sc := defScope s_all_in) (by decide +kernel)) (fun _ _ _ _ _ => (pg_name (i := 2) sc_all_in.nd rfl (by first | exact Or.inl rfl | exact Or.inr rfl))) (fun _ _ _ _ _ => (pts_one (pt_val (pe_k (ok_has T) hr (pa_cons (pv 1) (pa_cons (pv 2) pa_nil)))))) (fun _ _ _ _ _ => (pv 2))))), ?_⟩
  refine ⟨_, rfl, (n : Int), rfl, by omega, by omega, fun D hDn => lcN_range0 (fun i => if has R (i : Int) = true then some (.int (i : Int)) else none) hDn (by omega) (fun i H1 N1 N0 hi sm k1 k0 => ?_) (fun H1 sm lb => ?_)⟩
  · refine ⟨rfl, _, rfl, _, rfl, v, R, i, rfl, same_dp sm hD, hl, fun H2 s2 => ⟨_, rfl, ?_⟩⟩
    cases e : has R (i : Int) with
    | true => exact iteT ⟨_, rfl, k1 _ H2 _ s2 (by rw [e]; rfl) (.int _)⟩
    | false => exact iteF (k0 H2 s2 (by rw [e]; rfl))
  · rw [range_ints] at lb
    exact q H1 _ sm lb.newV
end
section
variable {P : Program} {w : World} {K : PySem.W.Frag} {mg : Str → Option Value} {base : Heap}
def spTold (K : PySem.W.Frag) : Sp := fun vs H Q _ => ∃ (v : V) (ns : List Int), vs = [v] ∧ Dp K H v (eI ns) ∧ ns.length ≤ 1000 ∧ ∀ H' p, Same H H' → NewV H H' p (eR (told ns)) → Q p H'
theorem ok_told (T : Tx K mg) : Cl P w K mg base 1 "told" (spTold K) := by
  refine T.d_told.cl sc_told (fun vs H Q E h => ?_) (fun f cdv A outer s H vs Q E hr h => ?_)
  · obtain ⟨v, ns, rfl, _⟩ := h
    rfl
  obtain ⟨v, ns, rfl, hD, hl, q⟩ := h
  obtain ⟨a, xs, rfl, hS, hA⟩ := dp_list hD
  obtain rfl := dpAll_ints hA
  refine ⟨_, (pss_cons (ps_set (i := 1) sc_told.nd rfl (by first | exact Or.inl rfl | exact Or.inr rfl) (pe_lst pa_nil))
      (pss_cons (ps_for PassesOwn.never rfl (piL K (pv 0)) (pg_name (i := 2) sc_told.nd rfl (by first | exact Or.inl rfl | exact Or.inr rfl))
      (pss_one (ps_if (PW.pt (pw_and (pt_cmpR (neD K hr.units) (pv 1) (pe_lst pa_nil) (nomark _)) (pw_and1 (pt_cmpR op_eq (pe_ix (ixT K) (pe_ix (ixL K) (pv 1) (pe_un un_neg pe_int) (fun _ _ => rfl)) pe_int (fun _ _ => rfl)) (pe_op op_sub (pv 2) pe_int) (nomark _))))) (pss_one (ps_asg (pe_tup (pa_cons (pe_ix (ixT K) (pe_ix (ixL K) (pv 1) (pe_un un_neg pe_int) (fun _ _ => rfl)) pe_int (fun _ _ => rfl)) (pa_cons (pv 2) pa_nil))) (pg_sub (pv 1) (pe_un un_neg pe_int) set_list))) (pss_one (ps_expr (pe_bm PySem.F.plainAttrs_list PySem.F.slot_list_append PySem.F.type_list_append mt_append (pv 1) (pa_cons (pe_tup (pa_cons (pv 2) (pa_cons (pv 2) pa_nil))) pa_nil)))))))
      (pss_one (ps_ret (pv 1))))), ?_⟩
  refine ⟨Nat.zero_le _, fun o no => ?_⟩
  refine ⟨_, rfl, a, rfl, ⟨_, (same_new no).seq hS⟩, for_list (xs := ns.map V.int) (fun i σ H1 => ∃ y2, σ = [some (.ref a), some (.ref o), y2] ∧ Same H H1 ∧ LB H H1 o ((told (ns.take i)).map eP)) ⟨none, rfl, same_new no, LB.nil no⟩ (fun i σ H1 _ p => ?_) (fun i x σ H1 hx p => ?_) (fun σ H1 p => ?_)⟩
  · obtain ⟨_, _, sm, _⟩ := p
    exact sm.seq hS
  · obtain ⟨y2, rfl, sm, lb⟩ := p
    obtain ⟨n, hn, rfl⟩ : ∃ n, ns[i]? = some n ∧ x = .int n := by
      rw [List.getElem?_map] at hx
      cases e : ns[i]? with
      | none => rw [e] at hx; cases hx
      | some n => rw [e] at hx; exact ⟨n, rfl, (Option.some.inj hx).symm⟩
    have hi : i < ns.length := (List.getElem?_eq_some_iff.mp hn).1
    have et : told (ns.take (i + 1)) = toldStep (told (ns.take i)) n := by
      rw [List.take_add_one, hn]
      exact told_snoc _ _
    have hlen : (told (ns.take i)).length ≤ i := Nat.le_trans (told_len _) (by rw [List.length_take]; exact Nat.min_le_left _ _)
    rw [et]
    obtain ⟨xs, ho, hxl⟩ := lb.at
    rw [List.length_map] at hxl
    have app : ∀ H2, Same H1 H2 → toldStep (told (ns.take i)) n = told (ns.take i) ++ [(n, n)] →
        ∀ D : Ends, (∀ σ' H', (∃ y2, σ' = [some (V.ref a), some (.ref o), y2] ∧ Same H H' ∧ LB H H' o ((toldStep (told (ns.take i)) n).map eP)) → D.nx σ' H') →
        (∃ v, [some (V.ref a), some (V.ref o), some (V.int n)][1]? = some (some v) ∧ tyV K "list" v H2 ∧ ∃ v1, [some (V.ref a), some (V.ref o), some (V.int n)][2]? = some (some v1) ∧ ∃ v2, [some (V.ref a), some (V.ref o), some (V.int n)][2]? = some (some v2) ∧ ([v1, v2] : List V).length ≤ sizeLine ∧ ∀ p, H2 p = none → rAppend v [.ref p] (upd H2 p (.tup [v1, v2])) fun _ H' => D.nx [some (.ref a), some (.ref o), some (.int n)] H') := fun H2 s2 e D k => by
      refine ⟨_, rfl, .inl ⟨rfl, _, SqL.of (s2 _ _ ho)⟩, _, rfl, _, rfl, by show 2 ≤ sizeLine; decide, fun p np => ?_⟩
      have s3 : Same H1 (upd H2 p (.tup [.int n, .int n])) := s2.trans (same_new np)
      obtain ⟨ys, h1, h2, h3⟩ := lb.snoc sm s3 ((new_pair np).mono s2 (Same.refl _))
      refine ⟨o, ys, _, rfl, rfl, h1, sizeOk (by rw [h2, List.length_map]; omega), k _ _ ⟨_, rfl, same_upd (sm.trans s3) lb.1, ?_⟩⟩
      rw [e, List.map_append]
      exact h3
    refine ⟨_, rfl, Nat.zero_le _, fun p np => ⟨.list ((told (ns.take i)).map eP), .list [], (lb.same (same_new np)).newV.dp, .lst (SqL.of upd_same) .nil, (Sh.eR (n := 0) _).shaped, (sh_nil (n := 0)).shaped, _, rfl, ?_⟩⟩
    rw [eqv_nil]
    have s1 : Same H1 (upd H1 p (.lst [])) := same_new np
    rcases List.eq_nil_or_concat (told (ns.take i)) with e | ⟨ini, r, e⟩
    · have e2 : toldStep (told (ns.take i)) n = told (ns.take i) ++ [(n, n)] := by rw [e]; rfl
      refine itF (by rw [e]; simp) (iteF ?_)
      exact app _ s1 e2 _ fun σ' H' h => h
    · rw [List.concat_eq_append] at e
      refine itT (by rw [e]; simp) ?_
      rw [e, List.map_append] at lb
      obtain ⟨xi, x, hoo, hd⟩ := lb.last
      obtain ⟨t, rfl, hT⟩ := dp_pair (K := K) (r := r) (NewV.dp hd)
      refine ⟨_, rfl, 1, rfl, o, _, -1, _, rfl, rfl, SqL.of (s1 _ _ hoo), atI_last _ _, t, _, 1, _, rfl, rfl, same_tup s1 hT, rfl, _, rfl, _, _, rfl, rfl, rfl, _, rfl, ite2 (fun c => ?_) (fun c => ?_)⟩
      · have c1 : r.2 = n - 1 := V.int.inj (of_decide_eq_true c)
        have e2 : toldStep (told (ns.take i)) n = ini ++ [(r.1, n)] := by
          unfold toldStep
          rw [e]
          simp [c1]
        refine ⟨_, rfl, 1, rfl, o, _, -1, _, rfl, rfl, SqL.of (s1 _ _ hoo), atI_last _ _, t, _, 0, _, rfl, rfl, same_tup s1 hT, rfl, _, rfl, by show 2 ≤ sizeLine; decide, fun p2 np2 => ?_⟩
        have s2 := s1.trans (same_new (o := .tup [.int r.1, .int n]) np2)
        refine ⟨_, rfl, 1, rfl, o, _, -1, _, rfl, rfl, s2 _ _ hoo, (by rw [len_snoc]; exact ixN_last _), ?_⟩
        rw [set_last, e2, List.map_append]
        exact ⟨_, rfl, same_upd (sm.trans s2) lb.1, lb.setLast hoo sm s2 ((new_pair np2).mono s1 (Same.refl _))⟩
      · have c1 : ¬ r.2 = n - 1 := fun z => c (decide_eq_true (congrArg V.int z))
        have e2 : toldStep (told (ns.take i)) n = told (ns.take i) ++ [(n, n)] := by
          unfold toldStep
          rw [e]
          simp [c1]
        exact app _ s1 e2 _ fun σ' H' h => h
  · obtain ⟨y2, rfl, sm, lb⟩ := p
    rw [List.length_map, List.take_length] at lb
    exact ⟨_, rfl, q H1 _ sm lb.newV⟩
def spMembers (K : PySem.W.Frag) : Sp := fun vs H Q _ => ∃ (n : Nat) (v : V) (R : List (Int × Int)), vs = [.int n, v] ∧ 1 ≤ n ∧ n ≤ 64 ∧ Dp K H v (eR R) ∧ Ok n R ∧ ∀ H' p, Same H H' → NewV H H' p (eI (allIn n R)) → Q p H'
theorem ok_members (T : Tx K mg) : Cl P w K mg base 3 "members" (spMembers K) := by
  refine T.d_members.cl sc_members (fun vs H Q E h => ?_) (fun f cdv A outer s H vs Q E hr h => ?_)
  · obtain ⟨n, v, R, rfl, _⟩ := h
    rfl
  obtain ⟨n, v, R, rfl, h1, h2, hD, hk, q⟩ := h
  refine ⟨_, (pss_cons (ps_expr (pe_k (ok_need_size T) hr (pa_cons (pv 0) pa_nil)))
      (pss_cons (ps_expr (pe_k (ok_need_set T) hr (pa_cons (pv 0) (pa_cons (pv 1) (pa_cons pe_int pa_nil)))))
      (pss_one (ps_ret (pe_k (ok_all_in T) hr (pa_cons (pv 0) (pa_cons (pv 1) pa_nil))))))), ?_⟩
  refine ⟨_, rfl, _, rfl, by omega, by omega, _, rfl, _, rfl, n, v, R, 0, rfl, hD, hk, fun H1 s1 => ⟨_, rfl, _, rfl, n, v, R, rfl, same_dp s1 hD, Nat.le_trans hk.1 (by decide), by omega, fun H2 p s2 nv => ?_⟩⟩
  exact q H2 p (s1.trans s2) (nv.mono s1 (Same.refl _))
def spPlain (K : PySem.W.Frag) : Sp := fun vs H Q _ => ∃ (n : Nat) (v : V) (R : List (Int × Int)), vs = [.int n, v] ∧ 1 ≤ n ∧ n ≤ 64 ∧ Dp K H v (eR R) ∧ Ok n R ∧ ∀ H' p, Same H H' → NewV H H' p (eR (TR n (has R))) → Q p H'
theorem ok_plain (T : Tx K mg) : Cl P w K mg base 4 "plain" (spPlain K) := by
  refine T.d_plain.cl sc_plain (fun vs H Q E h => ?_) (fun f cdv A outer s H vs Q E hr h => ?_)
  · obtain ⟨n, v, R, rfl, _⟩ := h
    rfl
  obtain ⟨n, v, R, rfl, h1, h2, hD, hk, q⟩ := h
  refine ⟨_, (pss_one (ps_ret (pe_k (ok_told T) hr (pa_cons (pe_k (ok_members T) hr (pa_cons (pv 0) (pa_cons (pv 1) pa_nil))) pa_nil)))), ?_⟩
  refine ⟨_, rfl, _, rfl, n, v, R, rfl, h1, h2, hD, hk, fun H1 p s1 nv => ⟨p, _, rfl, nv.dp, Nat.le_trans (allIn_len n _) (by omega), fun H2 p2 s2 nv2 => ?_⟩⟩
  exact q H2 p2 (s1.trans s2) (nv2.mono s1 (Same.refl _))
def spNeedTwo (K : PySem.W.Frag) : Sp := fun vs H Q _ => ∃ (n : Int) (v u : V) (R S : List (Int × Int)), vs = [.int n, v, u] ∧ 1 ≤ n ∧ n ≤ 64 ∧ Dp K H v (eR R) ∧ Dp K H u (eR S) ∧ Ok n R ∧ Ok n S ∧ ∀ H', Same H H' → Q .non H'
theorem ok_need_two (T : Tx K mg) : Cl P w K mg base 2 "need_two" (spNeedTwo K) := by
  refine T.d_need_two.cl sc_need_two (fun vs H Q E h => ?_) (fun f cdv A outer s H vs Q E hr h => ?_)
  · obtain ⟨n, v, u, R, S, rfl, _⟩ := h
    rfl
  obtain ⟨n, v, u, R, S, rfl, h1, h2, hD, hU, hk, hk2, q⟩ := h
  refine ⟨_, (pss_cons (ps_expr (pe_k (ok_need_size T) hr (pa_cons (pv 0) pa_nil)))
      (pss_cons (ps_expr (pe_k (ok_need_set T) hr (pa_cons (pv 0) (pa_cons (pv 1) (pa_cons pe_int pa_nil)))))
      (pss_one (ps_expr (pe_k (ok_need_set T) hr (pa_cons (pv 0) (pa_cons (pv 2) (pa_cons pe_int pa_nil)))))))), ?_⟩
  refine ⟨_, rfl, _, rfl, h1, h2, _, rfl, _, rfl, n, v, R, 0, rfl, hD, hk, fun H1 s1 => ⟨_, rfl, _, rfl, n, u, S, 1, rfl, same_dp s1 hU, hk2, fun H2 s2 => ?_⟩⟩
  exact q H2 (s1.trans s2)
def spTwo (K : PySem.W.Frag) (g : Bool → Bool → Bool) : Sp := fun vs H Q _ => ∃ (n : Nat) (v u : V) (R S : List (Int × Int)), vs = [.int n, v, u] ∧ 1 ≤ n ∧ n ≤ 64 ∧ Dp K H v (eR R) ∧ Dp K H u (eR S) ∧ Ok n R ∧ Ok n S ∧ ∀ H' p, Same H H' → NewV H H' p (eR (TR n fun k => g (has R k) (has S k))) → Q p H'
theorem ok_joined (T : Tx K mg) : Cl P w K mg base 3 "joined" (spTwo K (· || ·)) := by
  refine T.d_joined.cl sc_joined (fun vs H Q E h => ?_) (fun f cdv A outer s H vs Q E hr h => ?_)
  · obtain ⟨n, v, u, R, S, rfl, _⟩ := h
    rfl
  obtain ⟨n, v, u, R, S, rfl, h1, h2, hD, hU, hk, hk2, q⟩ := h
  have l1 : R.length ≤ 1000 := Nat.le_trans hk.1 (by decide)
  have l2 : S.length ≤ 1000 := Nat.le_trans hk2.1 (by decide)
  refine ⟨_, (pss_cons (ps_expr (pe_k (ok_need_two T) hr (pa_cons (pv 0) (pa_cons (pv 1) (pa_cons (pv 2) pa_nil)))))
      (pss_one (ps_ret (pe_k (ok_told T) hr (pa_cons (pe_lc (own := [("number", 3)]) (g := (gName 3)) (tt := _) (by rfl) sc_joined.nd (pi_range1 (by rfl) T.z_range (pa_cons (pv 0) pa_nil)) (blkOk_by (own := [("number", 3)]) (N := n_joined) (sc := defScope s_joined) (by decide +kernel)) (fun _ _ _ _ _ => (pg_name (i := 3) sc_joined.nd rfl (by first | exact Or.inl rfl | exact Or.inr rfl))) (fun _ _ _ _ _ => (pts_one (PW.pt (pw_or (pt_val (pe_k (ok_has T) hr (pa_cons (pv 1) (pa_cons (pv 3) pa_nil)))) (pw_or1 (pt_val (pe_k (ok_has T) hr (pa_cons (pv 2) (pa_cons (pv 3) pa_nil))))))))) (fun _ _ _ _ _ => (pv 3))) pa_nil))))), ?_⟩
  refine ⟨_, rfl, _, rfl, _, rfl, n, v, u, R, S, rfl, by omega, by omega, hD, hU, hk, hk2, fun H1 s1 => ?_⟩
  refine ⟨_, rfl, (n : Int), rfl, by omega, by omega, fun D hDn => lcN_range0 (fun i => if (has R (i : Int) || has S (i : Int)) = true then some (.int (i : Int)) else none) hDn (by omega) (fun i H2 N1 N0 hi s2 k1 k0 => ?_) (fun H2 s2 lb => ?_)⟩
  · refine ⟨rfl, _, rfl, _, rfl, v, R, i, rfl, same_dp (s1.trans s2) hD, l1, fun H3 s3 => ⟨_, rfl, ?_⟩⟩
    cases e : has R (i : Int) with
    | true => exact iteT (iteT ⟨_, rfl, k1 _ H3 _ s3 (by rw [e]; rfl) (.int _)⟩)
    | false =>
      refine iteF ⟨_, rfl, _, rfl, u, S, i, rfl, same_dp (s1.trans (s2.trans s3)) hU, l2, fun H4 s4 => ⟨_, rfl, ?_⟩⟩
      cases e2 : has S (i : Int) with
      | true => exact iteT ⟨_, rfl, k1 _ H4 _ (s3.trans s4) (by rw [e, e2]; rfl) (.int _)⟩
      | false => exact iteF (k0 H4 (s3.trans s4) (by rw [e, e2]; rfl))
  · rw [range_ints (p := fun k => has R k || has S k)] at lb
    refine ⟨_, _, rfl, lb.newV.dp, Nat.le_trans (allIn_len n _) (by omega), fun H3 p s3 nv => ?_⟩
    exact q H3 p (s1.trans (s2.trans s3)) (nv.mono (s1.trans s2) (Same.refl _))
theorem ok_common (T : Tx K mg) : Cl P w K mg base 3 "common" (spTwo K (· && ·)) := by
  refine T.d_common.cl sc_common (fun vs H Q E h => ?_) (fun f cdv A outer s H vs Q E hr h => ?_)
  · obtain ⟨n, v, u, R, S, rfl, _⟩ := h
    rfl
  obtain ⟨n, v, u, R, S, rfl, h1, h2, hD, hU, hk, hk2, q⟩ := h
  have l1 : R.length ≤ 1000 := Nat.le_trans hk.1 (by decide)
  have l2 : S.length ≤ 1000 := Nat.le_trans hk2.1 (by decide)
  refine ⟨_, (pss_cons (ps_expr (pe_k (ok_need_two T) hr (pa_cons (pv 0) (pa_cons (pv 1) (pa_cons (pv 2) pa_nil)))))
      (pss_one (ps_ret (pe_k (ok_told T) hr (pa_cons (pe_lc (own := [("number", 3)]) (g := (gName 3)) (tt := _) (by rfl) sc_common.nd (piL K (pe_k (ok_all_in T) hr (pa_cons (pv 0) (pa_cons (pv 1) pa_nil)))) (blkOk_by (own := [("number", 3)]) (N := n_common) (sc := defScope s_common) (by decide +kernel)) (fun _ _ _ _ _ => (pg_name (i := 3) sc_common.nd rfl (by first | exact Or.inl rfl | exact Or.inr rfl))) (fun _ _ _ _ _ => (pts_one (pt_val (pe_k (ok_has T) hr (pa_cons (pv 2) (pa_cons (pv 3) pa_nil)))))) (fun _ _ _ _ _ => (pv 3))) pa_nil))))), ?_⟩
  refine ⟨_, rfl, _, rfl, _, rfl, n, v, u, R, S, rfl, by omega, by omega, hD, hU, hk, hk2, fun H1 s1 => ?_⟩
  refine ⟨_, rfl, _, rfl, n, v, R, rfl, same_dp s1 hD, l1, by omega, fun H2 p2 s2 nv2 => ?_⟩
  obtain ⟨b, ys, rfl, hb, hy⟩ := dp_list (K := K) nv2.dp
  obtain rfl := dpAll_ints hy
  refine ⟨b, rfl, ⟨_, hb⟩, fun D hDn => lcN_list (fun i => ((allIn n R)[i]?).bind fun k => if has S k = true then some (.int k) else none) hb hDn (by rw [List.length_map]; exact Nat.le_trans (allIn_len n _) (by omega)) (fun i x H3 N1 N0 hx s3 k1 k0 => ?_) (fun H3 s3 lb => ?_)⟩
  · obtain ⟨k, hk', rfl⟩ := map_get hx
    refine ⟨rfl, _, rfl, _, rfl, u, S, k, rfl, same_dp (s1.trans (s2.trans s3)) hU, l2, fun H4 s4 => ⟨_, rfl, ?_⟩⟩
    cases e : has S k with
    | true => exact iteT ⟨_, rfl, k1 _ H4 _ s4 (by rw [hk', Option.bind_some, e]; rfl) (.int _)⟩
    | false => exact iteF (k0 H4 s4 (by rw [hk', Option.bind_some, e]; rfl))
  · rw [List.length_map, list_ints] at lb
    refine ⟨_, _, rfl, lb.newV.dp, Nat.le_trans (List.length_filter_le _ _) (Nat.le_trans (allIn_len n _) (by omega)), fun H4 p s4 nv => ?_⟩
    refine q H4 p (s1.trans (s2.trans (s3.trans s4))) ?_
    have e : TR n (fun k => has R k && has S k) = told ((allIn n R).filter (has S)) := by
      unfold TR allIn
      rw [List.filter_filter]
      congr 2
      funext k
      exact Bool.and_comm _ _
    rw [e]
    exact nv.mono (s1.trans (s2.trans s3)) (Same.refl _)
theorem ok_less (T : Tx K mg) : Cl P w K mg base 3 "less" (spTwo K (fun x y => x && !y)) := by
  refine T.d_less.cl sc_less (fun vs H Q E h => ?_) (fun f cdv A outer s H vs Q E hr h => ?_)
  · obtain ⟨n, v, u, R, S, rfl, _⟩ := h
    rfl
  obtain ⟨n, v, u, R, S, rfl, h1, h2, hD, hU, hk, hk2, q⟩ := h
  have l1 : R.length ≤ 1000 := Nat.le_trans hk.1 (by decide)
  have l2 : S.length ≤ 1000 := Nat.le_trans hk2.1 (by decide)
  refine ⟨_, (pss_cons (ps_expr (pe_k (ok_need_two T) hr (pa_cons (pv 0) (pa_cons (pv 1) (pa_cons (pv 2) pa_nil)))))
      (pss_one (ps_ret (pe_k (ok_told T) hr (pa_cons (pe_lc (own := [("number", 3)]) (g := (gName 3)) (tt := _) (by rfl) sc_less.nd (piL K (pe_k (ok_all_in T) hr (pa_cons (pv 0) (pa_cons (pv 1) pa_nil)))) (blkOk_by (own := [("number", 3)]) (N := n_less) (sc := defScope s_less) (by decide +kernel)) (fun _ _ _ _ _ => (pg_name (i := 3) sc_less.nd rfl (by first | exact Or.inl rfl | exact Or.inr rfl))) (fun _ _ _ _ _ => (pts_one (pt_not (pt_val (pe_k (ok_has T) hr (pa_cons (pv 2) (pa_cons (pv 3) pa_nil))))))) (fun _ _ _ _ _ => (pv 3))) pa_nil))))), ?_⟩
  refine ⟨_, rfl, _, rfl, _, rfl, n, v, u, R, S, rfl, by omega, by omega, hD, hU, hk, hk2, fun H1 s1 => ?_⟩
  refine ⟨_, rfl, _, rfl, n, v, R, rfl, same_dp s1 hD, l1, by omega, fun H2 p2 s2 nv2 => ?_⟩
  obtain ⟨b, ys, rfl, hb, hy⟩ := dp_list (K := K) nv2.dp
  obtain rfl := dpAll_ints hy
  refine ⟨b, rfl, ⟨_, hb⟩, fun D hDn => lcN_list (fun i => ((allIn n R)[i]?).bind fun k => if (!has S k) = true then some (.int k) else none) hb hDn (by rw [List.length_map]; exact Nat.le_trans (allIn_len n _) (by omega)) (fun i x H3 N1 N0 hx s3 k1 k0 => ?_) (fun H3 s3 lb => ?_)⟩
  · obtain ⟨k, hk', rfl⟩ := map_get hx
    refine ⟨rfl, _, rfl, _, rfl, u, S, k, rfl, same_dp (s1.trans (s2.trans s3)) hU, l2, fun H4 s4 => ⟨_, rfl, ?_⟩⟩
    cases e : has S k with
    | true => exact iteF (k0 H4 s4 (by rw [hk', Option.bind_some, e]; rfl))
    | false => exact iteT ⟨_, rfl, k1 _ H4 _ s4 (by rw [hk', Option.bind_some, e]; rfl) (.int _)⟩
  · rw [List.length_map, list_ints (p := fun k => !has S k)] at lb
    refine ⟨_, _, rfl, lb.newV.dp, Nat.le_trans (List.length_filter_le _ _) (Nat.le_trans (allIn_len n _) (by omega)), fun H4 p s4 nv => ?_⟩
    refine q H4 p (s1.trans (s2.trans (s3.trans s4))) ?_
    have e : TR n (fun k => has R k && !has S k) = told ((allIn n R).filter fun k => !has S k) := by
      unfold TR allIn
      rw [List.filter_filter]
      congr 2
      funext k
      exact Bool.and_comm _ _
    rw [e]
    exact nv.mono (s1.trans (s2.trans s3)) (Same.refl _)
def spOthers (K : PySem.W.Frag) : Sp := fun vs H Q _ => ∃ (n : Nat) (v : V) (R : List (Int × Int)), vs = [.int n, v] ∧ 1 ≤ n ∧ n ≤ 64 ∧ Dp K H v (eR R) ∧ Ok n R ∧ ∀ H' p, Same H H' → NewV H H' p (eR (TR n fun k => !has R k)) → Q p H'
theorem ok_others (T : Tx K mg) : Cl P w K mg base 3 "others" (spOthers K) := by
  refine T.d_others.cl sc_others (fun vs H Q E h => ?_) (fun f cdv A outer s H vs Q E hr h => ?_)
  · obtain ⟨n, v, R, rfl, _⟩ := h
    rfl
  obtain ⟨n, v, R, rfl, h1, h2, hD, hk, q⟩ := h
  have l1 : R.length ≤ 1000 := Nat.le_trans hk.1 (by decide)
  refine ⟨_, (pss_cons (ps_expr (pe_k (ok_need_size T) hr (pa_cons (pv 0) pa_nil)))
      (pss_cons (ps_expr (pe_k (ok_need_set T) hr (pa_cons (pv 0) (pa_cons (pv 1) (pa_cons pe_int pa_nil)))))
      (pss_one (ps_ret (pe_k (ok_told T) hr (pa_cons (pe_lc (own := [("number", 2)]) (g := (gName 2)) (tt := _) (by rfl) sc_others.nd (pi_range1 (by rfl) T.z_range (pa_cons (pv 0) pa_nil)) (blkOk_by (own := [("number", 2)]) (N := n_others) (sc := defScope s_others) (by decide +kernel)) (fun _ _ _ _ _ => (pg_name (i := 2) sc_others.nd rfl (by first | exact Or.inl rfl | exact Or.inr rfl))) (fun _ _ _ _ _ => (pts_one (pt_not (pt_val (pe_k (ok_has T) hr (pa_cons (pv 1) (pa_cons (pv 2) pa_nil))))))) (fun _ _ _ _ _ => (pv 2))) pa_nil)))))), ?_⟩
  refine ⟨_, rfl, _, rfl, by omega, by omega, _, rfl, _, rfl, n, v, R, 0, rfl, hD, hk, fun H1 s1 => ?_⟩
  refine ⟨_, rfl, (n : Int), rfl, by omega, by omega, fun D hDn => lcN_range0 (fun i => if (!has R (i : Int)) = true then some (.int (i : Int)) else none) hDn (by omega) (fun i H2 N1 N0 hi s2 k1 k0 => ?_) (fun H2 s2 lb => ?_)⟩
  · refine ⟨rfl, _, rfl, _, rfl, v, R, i, rfl, same_dp (s1.trans s2) hD, l1, fun H3 s3 => ⟨_, rfl, ?_⟩⟩
    cases e : has R (i : Int) with
    | true => exact iteF (k0 H3 s3 (by rw [e]; rfl))
    | false => exact iteT ⟨_, rfl, k1 _ H3 _ s3 (by rw [e]; rfl) (.int _)⟩
  · rw [range_ints (p := fun k => !has R k)] at lb
    refine ⟨_, _, rfl, lb.newV.dp, Nat.le_trans (allIn_len n _) (by omega), fun H3 p s3 nv => ?_⟩
    exact q H3 p (s1.trans (s2.trans s3)) (nv.mono (s1.trans s2) (Same.refl _))
def spNeedNumber : Sp := fun vs H Q _ => ∃ (n k : Int), vs = [.int n, .int k] ∧ 0 ≤ k ∧ k < n ∧ Q .non H
theorem ok_need_number (T : Tx K mg) : Cl P w K mg base 1 "need_number" spNeedNumber := by
  refine T.d_need_number.cl sc_need_number (fun vs H Q E h => ?_) (fun f cdv A outer s H vs Q E hr h => ?_)
  · obtain ⟨n, k, rfl, _⟩ := h
    rfl
  obtain ⟨n, k, rfl, h1, h2, q⟩ := h
  refine ⟨_, (pss_one (ps_if (pt_not (pt_chain op_le op_lt pe_int (pv 1) (pv 0))) (pss_one ps_never) pss_nil)), ?_⟩
  refine ⟨_, rfl, _, _, rfl, rfl, true, bT h1, iteT ⟨_, rfl, _, _, rfl, rfl, true, bT h2, iteF ?_⟩⟩
  exact q
def spInside (K : PySem.W.Frag) : Sp := fun vs H Q _ => ∃ (n : Nat) (v : V) (R : List (Int × Int)) (k : Int), vs = [.int n, v, .int k] ∧ 1 ≤ n ∧ n ≤ 64 ∧ Dp K H v (eR R) ∧ Ok n R ∧ 0 ≤ k ∧ k < (n : Int) ∧
  ∀ H' p, Same H H' → NewV H H' p (.tuple [.bool (HV (TR n (has R)) k 0 (TR n (has R)).length).1, eR (HV (TR n (has R)) k 0 (TR n (has R)).length).2]) → Q p H'
theorem ok_inside (T : Tx K mg) : Cl P w K mg base 5 "inside" (spInside K) := by
  refine T.d_inside.cl sc_inside (fun vs H Q E h => ?_) (fun f cdv A outer s H vs Q E hr h => ?_)
  · obtain ⟨n, v, R, k, rfl, _⟩ := h
    rfl
  obtain ⟨n, v, R, k, rfl, h1, h2, hD, hk, k0, k1, q⟩ := h
  refine ⟨_, (pss_cons (ps_set (i := 3) sc_inside.nd rfl (by first | exact Or.inl rfl | exact Or.inr rfl) (pe_k (ok_plain T) hr (pa_cons (pv 0) (pa_cons (pv 1) pa_nil))))
      (pss_cons (ps_expr (pe_k (ok_need_number T) hr (pa_cons (pv 0) (pa_cons (pv 2) pa_nil))))
      (pss_cons (ps_set (i := 4) sc_inside.nd rfl (by first | exact Or.inl rfl | exact Or.inr rfl) pe_int)
      (pss_cons (ps_set (i := 5) sc_inside.nd rfl (by first | exact Or.inl rfl | exact Or.inr rfl) (pe_callB (lenQ K) (by rfl) T.z_len (by decide +kernel) (pa_cons (pv 3) pa_nil)))
      (pss_cons (ps_set (i := 6) sc_inside.nd rfl (by first | exact Or.inl rfl | exact Or.inr rfl) (pe_lst pa_nil))
      (pss_cons (ps_while PassesOwn.never (pt_cmpR op_lt (pv 4) (pv 5) (nomark _))
      (pss_cons (ps_set (i := 7) sc_inside.nd rfl (by first | exact Or.inl rfl | exact Or.inr rfl) (pe_op op_fdiv (pe_op op_add (pv 4) (pv 5)) pe_int))
      (pss_cons (ps_expr (pe_bm PySem.F.plainAttrs_list PySem.F.slot_list_append PySem.F.type_list_append mt_append (pv 6) (pa_cons (pe_ix (ixL K) (pv 3) (pv 7) (fun _ _ => rfl)) pa_nil)))
      (pss_one (ps_if (pt_cmpR op_lt (pv 2) (pe_ix (ixT K) (pe_ix (ixL K) (pv 3) (pv 7) (fun _ _ => rfl)) pe_int (fun _ _ => rfl)) (nomark _)) (pss_one (ps_set (i := 5) sc_inside.nd rfl (by first | exact Or.inl rfl | exact Or.inr rfl) (pv 7))) (pss_one (ps_if (pt_cmpR op_gt (pv 2) (pe_ix (ixT K) (pe_ix (ixL K) (pv 3) (pv 7) (fun _ _ => rfl)) pe_int (fun _ _ => rfl)) (nomark _)) (pss_one (ps_set (i := 4) sc_inside.nd rfl (by first | exact Or.inl rfl | exact Or.inr rfl) (pe_op op_add (pv 7) pe_int))) (pss_one (ps_ret (pe_tup (pa_cons pe_bl (pa_cons (pv 6) pa_nil))))))))))))
      (pss_one (ps_ret (pe_tup (pa_cons pe_bl (pa_cons (pv 6) pa_nil))))))))))), ?_⟩
  refine ⟨_, rfl, _, rfl, n, v, R, rfl, h1, h2, hD, hk, fun H1 p1 s1 n1 => ?_⟩
  have h40 := (TR_ok h2 (has R)).1
  generalize TR n (has R) = TT at *
  obtain ⟨a3, x3, rfl, f3, h3, d3⟩ := newV_list n1
  have xl : x3.length = TT.length := by rw [d3.len, List.length_map]
  refine ⟨_, rfl, _, rfl, _, _, rfl, k0, k1, ?_⟩
  refine ⟨_, rfl, a3, x3, rfl, .inl (SqL.of h3), ?_⟩
  refine ⟨Nat.zero_le _, fun o no => ?_⟩
  have no' := s1.free no
  have fin : ∀ (b : Bool) (H' : Hp) (L : List (Int × Int)), HV TT k 0 TT.length = (b, L) → Same H1 H' → LB H H' o (L.map eP) → ∀ t, H' t = none → Q (.ref t) (upd H' t (.tup [.bl b, .ref o])) := fun b H' L e sm lb t nt => by
    refine q _ _ (s1.trans (sm.trans (same_new nt))) ?_
    rw [e]
    refine .tup (xs := [.bl b, .ref o]) ?_ (.cons (.bl b) (.cons (lb.newV.mono (Same.refl _) (same_new nt)) .nil))
    rw [fr_new ((s1.trans sm).free nt)]
    exact upd_same
  refine ⟨fun m σ H2 => ∃ (lo hi : Nat) (L : List (Int × Int)) (y7 : Option V), m = hi - lo ∧ σ = [some (.int n), some v, some (.int k), some (.ref a3), some (.int lo), some (.int hi), some (.ref o), y7] ∧ Same H1 H2 ∧ LB H H2 o (L.map eP) ∧ hi ≤ TT.length ∧ L.length + (hi - lo) ≤ 1000 ∧ HV TT k 0 TT.length = ((HV TT k lo hi).1, L ++ (HV TT k lo hi).2),
    ⟨TT.length, 0, TT.length, [], none, rfl, by rw [← xl]; rfl, same_new no, LB.nil no', Nat.le_refl _, by simp; omega, by simp⟩, fun m σ H2 hW => ?_⟩
  obtain ⟨lo, hi, L, y7, rfl, rfl, sm, lb, hhi, hLl, hHV⟩ := hW
  refine ⟨_, rfl, _, rfl, _, _, rfl, rfl, _, rfl, ite2 (fun c => ?_) (fun c => ?_)⟩
  · have c1 : lo < hi := by
      have z : (lo : Int) < (hi : Int) := of_decide_eq_true c
      omega
    have hmid : (lo + hi) / 2 < TT.length := by omega
    obtain ⟨r, hr'⟩ : ∃ r, TT[(lo + hi) / 2]? = some r := ⟨_, List.getElem?_eq_getElem hmid⟩
    have gx : x3[(lo + hi) / 2]? = some x3[(lo + hi) / 2] := List.getElem?_eq_getElem (by omega)
    obtain ⟨dd, hdd, hdn⟩ := d3.get gx
    rw [List.getElem?_map, hr'] at hdd
    obtain rfl := Option.some.inj hdd
    have hdn2 : Dn (del (fr H H2) o) x3[(lo + hi) / 2] (eP r) := Dn.mono (fun b u z => by
      obtain ⟨z1, z2⟩ := fr_some z
      have nb : b ≠ o := ne_of_none z2 no
      rw [del_ne nb, fr_new z1]
      exact sm _ _ z2) hdn
    obtain ⟨t, et, hT⟩ := dp_pair (K := K) (same_dp fr_same hdn.dp)
    obtain ⟨xs, ho, hxsl, lb2⟩ := lb.push hdn2
    rw [et] at gx lb2
    rw [List.length_map] at hxsl
    have em : ((lo : Int) + (hi : Int)) / 2 = (((lo + hi) / 2 : Nat) : Int) := by omega
    have step := HV_step (k := k) c1 hr'
    refine ⟨fun σ' H' => ∃ (lo' hi' : Nat) (L' : List (Int × Int)) (y7 : Option V), hi' - lo' < hi - lo ∧ σ' = [some (.int n), some v, some (.int k), some (.ref a3), some (.int lo'), some (.int hi'), some (.ref o), y7] ∧ Same H1 H' ∧ LB H H' o (L'.map eP) ∧ hi' ≤ TT.length ∧ L'.length + (hi' - lo') ≤ 1000 ∧ HV TT k 0 TT.length = ((HV TT k lo' hi').1, L' ++ (HV TT k lo' hi').2), fun σ' H' hN => ?_, ?_⟩
    · obtain ⟨lo', hi', L', y, z, z2⟩ := hN
      exact ⟨_, z, lo', hi', L', y, rfl, z2⟩
    refine ⟨_, rfl, _, rfl, _, _, rfl, rfl, _, _, rfl, rfl, ⟨by decide, by decide⟩, ?_⟩
    dsimp only
    rw [em]
    have b1 : lo ≤ (lo + hi) / 2 := by omega
    have b2 : (lo + hi) / 2 < hi := by omega
    clear hdn hdn2 et em
    generalize (lo + hi) / 2 = mid at *
    refine ⟨_, rfl, .inl ⟨rfl, _, SqL.of ho⟩, _, rfl, _, rfl, a3, x3, _, _, rfl, rfl, SqL.of (sm _ _ h3), atI_nat gx, o, xs, _, rfl, rfl, ho, sizeOk (by omega), ?_⟩
    have s3 : Same H1 (upd H2 o (.lst (xs ++ [.ref t]))) := same_upd sm no
    have lb3 : LB H (upd H2 o (.lst (xs ++ [.ref t]))) o ((L ++ [r]).map eP) := by
      rw [List.map_append]
      exact lb2
    generalize upd H2 o (.lst (xs ++ [.ref t])) = H3 at s3 lb3
    refine ⟨_, rfl, _, rfl, _, rfl, a3, x3, _, _, rfl, rfl, SqL.of (s3 _ _ h3), atI_nat gx, t, _, 0, _, rfl, rfl, same_tup s3 hT, rfl, _, _, rfl, rfl, _, rfl, ite2 (fun e => ?_) (fun e => ?_)⟩
    · have e1 : k < r.1 := of_decide_eq_true e
      rw [if_pos e1] at step
      refine ⟨_, rfl, lo, mid, L ++ [r], _, by omega, rfl, s3, lb3, by omega, by simp; omega, ?_⟩
      rw [hHV, step]
      simp
    · have e1 : ¬ k < r.1 := fun z => e (decide_eq_true z)
      rw [if_neg e1] at step
      refine ⟨_, rfl, _, rfl, _, rfl, a3, x3, _, _, rfl, rfl, SqL.of (s3 _ _ h3), atI_nat gx, t, _, 1, _, rfl, rfl, same_tup s3 hT, rfl, _, _, rfl, rfl, _, rfl, ite2 (fun g => ?_) (fun g => ?_)⟩
      · have g1 : r.2 < k := of_decide_eq_true g
        rw [if_pos g1] at step
        refine ⟨_, rfl, _, _, rfl, rfl, mid + 1, hi, L ++ [r], _, by omega, rfl, s3, lb3, hhi, by simp; omega, ?_⟩
        rw [hHV, step]
        simp
      · have g1 : ¬ r.2 < k := fun z => g (decide_eq_true z)
        rw [if_neg g1] at step
        refine ⟨_, rfl, by show 2 ≤ sizeLine; decide, fun tp ntp => fin true H3 (L ++ [r]) ?_ s3 lb3 tp ntp⟩
        rw [hHV, step]
  · have c1 : ¬ lo < hi := fun z => c (decide_eq_true (show (lo : Int) < (hi : Int) by omega))
    rw [HV_end c1, List.append_nil] at hHV
    exact ⟨_, rfl, by show 2 ≤ sizeLine; decide, fun tp ntp => fin false H2 L hHV sm lb tp ntp⟩
end
section
variable {P : Program} {w : World} {K : PySem.W.Frag} {mg : Str → Option Value} {base : Heap}
def spNeedSets (K : PySem.W.Frag) : Sp := fun vs H Q _ => ∃ (n : Int) (v : V) (SS : List (List (Int × Int))), vs = [.int n, v] ∧ 1 ≤ n ∧ n ≤ 64 ∧ Dp K H v (eRs SS) ∧ (∀ R ∈ SS, Ok n R) ∧ ∀ H', Same H H' → Q .non H'
theorem ok_need_sets (T : Tx K mg) : Cl P w K mg base 2 "need_sets" (spNeedSets K) := by
  refine T.d_need_sets.cl sc_need_sets (fun vs H Q E h => ?_) (fun f cdv A outer s H vs Q E hr h => ?_)
  · obtain ⟨n, v, SS, rfl, _⟩ := h
    rfl
  obtain ⟨n, v, SS, rfl, h1, h2, hD, hk, q⟩ := h
  obtain ⟨a, xs, rfl, hS, hA⟩ := dp_list hD
  refine ⟨_, (pss_cons (ps_expr (pe_k (ok_need_size T) hr (pa_cons (pv 0) pa_nil)))
      (pss_one (ps_for PassesOwn.never rfl (piEnum K (by rfl) T.z_enumerate (pa_cons (pv 1) pa_nil)) (pgT K (by rfl) (pgs_cons (pg_name (i := 2) sc_need_sets.nd rfl (by first | exact Or.inl rfl | exact Or.inr rfl)) (pgs_cons (pg_name (i := 3) sc_need_sets.nd rfl (by first | exact Or.inl rfl | exact Or.inr rfl)) pgs_nil)))
      (pss_one (ps_expr (pe_k (ok_need_set T) hr (pa_cons (pv 0) (pa_cons (pv 3) (pa_cons (pv 2) pa_nil))))))))), ?_⟩
  refine ⟨_, rfl, n, rfl, h1, h2, ?_⟩
  refine ⟨_, rfl, a, xs, rfl, hS, for_enum (xs := xs) (fun i σ H1 => ∃ y2 y3, σ = [some (.int n), some (.ref a), y2, y3] ∧ Same H H1) ⟨none, none, rfl, Same.refl _⟩ (fun i σ H1 _ p => ?_) (fun i x t σ H1 hx nt p => ?_) (fun σ H1 p => ?_)⟩
  · obtain ⟨_, _, _, sm⟩ := p
    exact sm.seq hS
  · obtain ⟨y2, y3, rfl, sm⟩ := p
    obtain ⟨d, hd, hx'⟩ := dpAll_get hA hx
    obtain ⟨R, hR, rfl⟩ := get_map hd
    have s2 : Same H (upd H1 t (.tup [.int (i : Nat), x])) := sm.trans (same_new nt)
    refine ⟨t, _, rfl, SqT.of upd_same, rfl, _, _, rfl, _, _, rfl, rfl, ?_⟩
    refine ⟨_, rfl, _, rfl, _, rfl, n, _, R, (i : Int), rfl, same_dp s2 hx', hk R (List.mem_of_getElem? hR), fun H2 s3 => ?_⟩
    exact ⟨_, _, rfl, s2.trans s3⟩
  · obtain ⟨y2, y3, rfl, sm⟩ := p
    exact q H1 sm
def spRowOf (K : PySem.W.Frag) : Sp := fun vs H Q _ => ∃ (n : Nat) (v : V) (R : List (Int × Int)) (f wd : Nat), vs = [.int n, v, .int f, .int wd] ∧ Dp K H v (eR R) ∧ R.length ≤ 1000 ∧ f ≤ 1000 ∧ wd ≤ 1000 ∧ ∀ H', Same H H' → Q (.str (kt (rowP n R f wd))) H'
theorem ok_row_of (T : Tx K mg) : Cl P w K mg base 2 "row_of" (spRowOf K) := by
  refine T.d_row_of.cl sc_row_of (fun vs H Q E h => ?_) (fun f cdv A outer s H vs Q E hr h => ?_)
  · obtain ⟨n, v, R, f, wd, rfl, _⟩ := h
    rfl
  obtain ⟨n, v, R, f, wd, rfl, hD, hl, hf, hw, q⟩ := h
  refine ⟨_, (pss_cons (ps_set (i := 4) sc_row_of.nd rfl (by first | exact Or.inl rfl | exact Or.inr rfl) pe_str)
      (pss_cons (ps_for PassesOwn.never rfl (pi_range2 (by rfl) T.z_range (pa_cons (pv 2) (pa_cons (pe_op op_add (pv 2) (pv 3)) pa_nil))) (pg_name (i := 5) sc_row_of.nd rfl (by first | exact Or.inl rfl | exact Or.inr rfl))
      (pss_one (ps_set (i := 4) sc_row_of.nd rfl (by first | exact Or.inl rfl | exact Or.inr rfl) (pe_op op_add_str (pv 4) (pe_ifExp (PW.pt (pw_and (pt_cmpR op_lt (pv 5) (pv 0) (nomark _)) (pw_and1 (pt_val (pe_k (ok_has T) hr (pa_cons (pv 1) (pa_cons (pv 5) pa_nil))))))) pe_str pe_str)))))
      (pss_one (ps_ret (pv 4))))), ?_⟩
  refine ⟨_, rfl, _, rfl, _, rfl, _, _, rfl, rfl, _, _, rfl, ⟨by omega, by omega, by omega, by omega⟩, ?_⟩
  rw [show ((f : Int) + (wd : Int) - (f : Int)).toNat = wd by omega]
  refine for_range (lo := (f : Int)) (n := wd) (fun i σ H1 => ∃ y5 : Option V, σ = [some (.int n), some v, some (.int f), some (.int wd), some (.str (kt (rowP n R f i))), y5] ∧ Same H H1) ⟨none, by rw [show kt (rowP n R f 0) = Str.ofString "" by show kt [] = _; decide +kernel]; rfl, Same.refl _⟩ (fun i σ H1 hi p => ?_) (fun σ H1 p => ?_)
  · obtain ⟨y5, rfl, sm⟩ := p
    have e0 : (f : Int) + (i : Int) = ((f + i : Nat) : Int) := by omega
    rw [e0]
    have fin : ∀ (b : Bool) (H' : Hp), bitT n R (f + i) = b → Same H H' → ∀ z : Str, z = (if b then Str.ofString "1" else Str.ofString "0") → (∃ y5 : Option V, [some (V.int n), some v, some (.int f), some (.int wd), some (.str (kt (rowP n R f i) ++ z)), some (.int ((f + i : Nat) : Int))] = [some (V.int n), some v, some (.int f), some (.int wd), some (.str (kt (rowP n R f (i + 1)))), y5] ∧ Same H H') := fun b H' hb s' z hz => by
      refine ⟨some (.int ((f + i : Nat) : Int)), ?_, s'⟩
      rw [rowP_succ, hb, hz]
      cases b
      · rw [if_neg Bool.false_ne_true, kt_zero]
      · rw [if_pos rfl, kt_one]
    have sz : ∀ z : Str, z.length = 1 → (kt (rowP n R f i)).length + z.length ≤ sizeLine := fun z hz => by
      rw [kt_len, rowP_len, hz]
      exact Nat.le_of_lt (sizeOk (by omega))
    refine ⟨_, rfl, _, rfl, _, rfl, _, _, rfl, rfl, _, rfl, ite2 (fun c => ?_) (fun c => ?_)⟩
    · have c1 : f + i < n := by
        have z : ((f + i : Nat) : Int) < (n : Int) := of_decide_eq_true c
        omega
      refine ⟨_, rfl, _, rfl, v, R, _, rfl, same_dp sm hD, hl, fun H2 s2 => ⟨_, rfl, ?_⟩⟩
      have eb : bitT n R (f + i) = has R ((f + i : Nat) : Int) := by
        unfold bitT
        rw [decide_eq_true c1, Bool.true_and]
      cases e : has R ((f + i : Nat) : Int) with
      | true => exact iteT ⟨_, _, rfl, rfl, sz _ (by decide +kernel), fin true H2 (eb.trans e) (sm.trans s2) _ rfl⟩
      | false => exact iteF ⟨_, _, rfl, rfl, sz _ (by decide +kernel), fin false H2 (eb.trans e) (sm.trans s2) _ rfl⟩
    · have c1 : ¬ f + i < n := fun z => c (decide_eq_true (show ((f + i : Nat) : Int) < (n : Int) by omega))
      have eb : bitT n R (f + i) = false := by
        unfold bitT
        rw [decide_eq_false c1, Bool.false_and]
      exact iteF ⟨_, _, rfl, rfl, sz _ (by decide +kernel), fin false H1 eb sm _ rfl⟩
  · obtain ⟨y5, rfl, sm⟩ := p
    exact ⟨_, rfl, q H1 sm⟩
end
section
variable {P : Program} {w : World} {K : PySem.W.Frag} {mg : Str → Option Value} {base : Heap}
def spMade (K : PySem.W.Frag) : Sp := fun vs H Q _ => ∃ (n : Nat) (v : V) (SS : List (List (Int × Int))) (wd : Nat), vs = [.int n, v, .int wd] ∧ n ≤ 64 ∧ 1 ≤ wd ∧ wd ≤ 64 ∧ Dp K H v (eRs SS) ∧ SS.length ≤ 1000 ∧ (∀ R ∈ SS, R.length ≤ 1000) ∧ ∀ H' p, Same H H' → NewV H H' p (eTab n wd SS) → Q p H'
theorem ok_made (T : Tx K mg) : Cl P w K mg base 3 "made" (spMade K) := by
  refine T.d_made.cl sc_made (fun vs H Q E h => ?_) (fun f cdv A outer s H vs Q E hr h => ?_)
  · obtain ⟨n, v, SS, wd, rfl, _⟩ := h
    rfl
  obtain ⟨n, v, SS, wd, rfl, hn, hw1, hw2, hD, hl, hk, q⟩ := h
  obtain ⟨a, xs, rfl, hS, hA⟩ := dp_list hD
  have hxl : xs.length = SS.length := by rw [dpAll_len hA, List.length_map]
  have hc := cnt_le (n := n) hw1
  have hm : SS.length * cnt n wd ≤ 1000 * 64 := Nat.mul_le_mul hl (by omega)
  refine ⟨_, (pss_cons (ps_set (i := 3) sc_made.nd rfl (by first | exact Or.inl rfl | exact Or.inr rfl) (pe_lst pa_nil))
      (pss_cons (ps_set (i := 4) sc_made.nd rfl (by first | exact Or.inl rfl | exact Or.inr rfl) (pe_lst pa_nil))
      (pss_cons (ps_for PassesOwn.never rfl (piL K (pv 1)) (pg_name (i := 5) sc_made.nd rfl (by first | exact Or.inl rfl | exact Or.inr rfl))
      (pss_cons (ps_set (i := 6) sc_made.nd rfl (by first | exact Or.inl rfl | exact Or.inr rfl) (pe_lst pa_nil))
      (pss_cons (ps_for PassesOwn.never rfl (pi_range3 (by rfl) T.z_range (pa_cons pe_int (pa_cons (pv 0) (pa_cons (pv 2) pa_nil)))) (pg_name (i := 7) sc_made.nd rfl (by first | exact Or.inl rfl | exact Or.inr rfl))
      (pss_cons (ps_set (i := 8) sc_made.nd rfl (by first | exact Or.inl rfl | exact Or.inr rfl) (pe_k (ok_row_of T) hr (pa_cons (pv 0) (pa_cons (pv 5) (pa_cons (pv 7) (pa_cons (pv 2) pa_nil))))))
      (pss_cons (ps_if (pt_cmpR (notInQ K) (pv 8) (pv 3) (by rfl)) (pss_one (ps_expr (pe_bm PySem.F.plainAttrs_list PySem.F.slot_list_append PySem.F.type_list_append mt_append (pv 3) (pa_cons (pv 8) pa_nil)))) pss_nil)
      (pss_one (ps_expr (pe_bm PySem.F.plainAttrs_list PySem.F.slot_list_append PySem.F.type_list_append mt_append (pv 6) (pa_cons (pe_bm PySem.F.plainAttrs_list PySem.F.slot_list_index PySem.F.type_list_index (mtIndex K) (pv 3) (pa_cons (pv 8) pa_nil)) pa_nil)))))))
      (pss_one (ps_expr (pe_bm PySem.F.plainAttrs_list PySem.F.slot_list_append PySem.F.type_list_append mt_append (pv 4) (pa_cons (pv 6) pa_nil)))))))
      (pss_one (ps_ret (pe_tup (pa_cons (pv 4) (pa_cons (pv 3) pa_nil)))))))), ?_⟩
  refine ⟨Nat.zero_le _, fun o1 n1 => ⟨Nat.zero_le _, fun o2 n2 => ?_⟩⟩
  have n12 : o1 ≠ o2 := ne_of_none upd_same n2
  have n2H : H o2 = none := (same_new n1).free n2
  refine ⟨_, rfl, a, rfl, ⟨_, ((same_new n1).trans (same_new n2)).seq hS⟩, for_list (xs := xs) (fun i σ G => ∃ y5 y6 y7 y8 : Option V, σ = [some (.int n), some (.ref a), some (.int wd), some (.ref o1), some (.ref o2), y5, y6, y7, y8] ∧ Same H (del G o1) ∧ LB H (del G o1) o2 (((SS.take i).map fun R => (rowsR n wd R).map fun r => ((pl r (rowsT n wd SS) : Nat) : Int)).map eI) ∧ G o1 = some (.lst (((uniq ((SS.take i).flatMap (rowsR n wd))).map kt).map V.str))) ⟨none, none, none, none, rfl, ?_, ?_, ?_⟩ (fun i σ G _ p => ?_) (fun i x σ G hx p => ?_) (fun σ G p => ?_)⟩
  · rw [del_upd n12.symm, del_upd_self]
    refine same_upd (fun b o e => ?_) n2H
    rw [del_ne (ne_of_none e n1)]
    exact e
  · rw [del_upd n12.symm, del_upd_self]
    exact LB.nil n2H
  · rw [upd_ne n12]
    exact upd_same
  · obtain ⟨_, _, _, _, _, sm, _⟩ := p
    exact (sm.trans del_same).seq hS
  · obtain ⟨y5, y6, y7, y8, rfl, sm, lb, h1⟩ := p
    have sH : Same H G := sm.trans del_same
    obtain ⟨dd, hdd, hdx⟩ := dpAll_get hA hx
    obtain ⟨R, hR, rfl⟩ := get_map hdd
    have hi : i < SS.length := (List.getElem?_eq_some_iff.mp hR).1
    have hRm : R ∈ SS := List.mem_of_getElem? hR
    have eS : SS = SS.take i ++ R :: SS.drop (i + 1) := by
      rw [← List.getElem?_eq_some_iff.mp hR |>.2, List.getElem_cons_drop, List.take_append_drop]
    refine ⟨Nat.zero_le _, fun o3 n3 => ?_⟩
    have n31 : o3 ≠ o1 := (ne_of_none h1 n3).symm
    refine ⟨_, rfl, _, rfl, 0, (n : Int), (wd : Int), cnt n wd, rfl, rgC_up hw1 (by omega) (by omega), for_rangeC (lo := 0) (c := (wd : Int)) (n := cnt n wd) (fun j σ G' => ∃ y7 y8 : Option V, σ = [some (.int n), some (.ref a), some (.int wd), some (.ref o1), some (.ref o2), some x, some (.ref o3), y7, y8] ∧ SameBut o1 G G' ∧ G' o1 = some (.lst (((uniq ((SS.take i).flatMap (rowsR n wd) ++ (rowsR n wd R).take j)).map kt).map V.str)) ∧ G' o3 = some (.lst ((((rowsR n wd R).take j).map fun r => ((pl r (rowsT n wd SS) : Nat) : Int)).map V.int))) ⟨_, _, rfl, SameBut.of (same_new n3), ?_, upd_same⟩ (fun j σ G' hj p => ?_) (fun σ G' p => ?_)⟩
    · rw [upd_ne n31.symm, List.take_zero, List.append_nil]
      exact h1
    · obtain ⟨y7', y8', rfl, sb, g1, g3⟩ := p
      have e0 : (0 : Int) + (j : Nat) * (wd : Int) = ((j * wd : Nat) : Int) := by rw [Int.zero_add, Int.natCast_mul]
      rw [e0]
      have hjn := (cnt_lt hw1).mp hj
      have sHG' : Same H G' := fun b o e => sb b o (ne_of_none e n1) (sH b o e)
      refine ⟨_, rfl, _, rfl, _, rfl, _, rfl, n, x, R, j * wd, wd, rfl, same_dp sHG' hdx, hk R hRm, by omega, by omega, fun G2 s2 => ?_⟩
      have hrg : (rowsR n wd R)[j]? = some (rowP n R (j * wd) wd) := rowsR_get hj
      generalize rowP n R (j * wd) wd = r at hrg ⊢
      have en : uniq ((SS.take i).flatMap (rowsR n wd) ++ (rowsR n wd R).take (j + 1)) = addU (uniq ((SS.take i).flatMap (rowsR n wd) ++ (rowsR n wd R).take j)) r := by
        rw [List.take_add_one, hrg, ← List.append_assoc]
        exact uniq_snoc _ _
      have sb2 : SameBut o1 G G2 := sb.trans (SameBut.of s2)
      have g1' := s2 _ _ g1
      have g3' := s2 _ _ g3
      dsimp only [gName]
      refine seq_join (t := tIfS _ _ _) (fun σ' G3 => σ' = [some (.int n), some (.ref a), some (.int wd), some (.ref o1), some (.ref o2), some x, some (.ref o3), some (.int ((j * wd : Nat) : Int)), some (.str (kt r))] ∧ SameBut o1 G G3 ∧ G3 o1 = some (.lst (((uniq ((SS.take i).flatMap (rowsR n wd) ++ (rowsR n wd R).take (j + 1))).map kt).map V.str)) ∧ G3 o3 = some (.lst ((((rowsR n wd R).take j).map fun r => ((pl r (rowsT n wd SS) : Nat) : Int)).map V.int))) (fun σ' G3 hJ => ?_) (fun N hN => ?_)
      · obtain ⟨rfl, sb3, k1, k3⟩ := hJ
        have hmem : r ∈ uniq ((SS.take i).flatMap (rowsR n wd) ++ (rowsR n wd R).take (j + 1)) := by
          rw [en]
          exact mem_addU.mpr (.inr rfl)
        refine ⟨_, rfl, .inl ⟨rfl, _, SqL.of k3⟩, _, rfl, .inl ⟨rfl, _, SqL.of k1⟩, _, rfl, ?_⟩
        dsimp only [tNil]
        refine rIndex_strs (SqL.of k1) (mem_kt.mpr hmem) ?_
        refine ⟨o3, _, _, rfl, rfl, k3, sizeOk (by rw [List.length_map, List.length_map, List.length_take]; omega), ?_⟩
        refine ⟨_, _, rfl, sb_upd sb3 n3, ?_, ?_⟩
        · rw [upd_ne n31.symm]
          exact k1
        · obtain ⟨rr, er⟩ := rows_pre (n := n) (w := wd) (SS.take i) R (SS.drop (i + 1)) (j + 1)
          rw [← eS] at er
          have e1 : pl (kt r) ((uniq ((SS.take i).flatMap (rowsR n wd) ++ (rowsR n wd R).take (j + 1))).map kt) = pl r (rowsT n wd SS) := by
            rw [pl_map fun _ _ => kt_inj, er, pl_app hmem]
          rw [upd_same, e1, List.take_add_one, hrg, List.map_append, List.map_append]
          rfl
      · refine ⟨_, rfl, _, rfl, o1, _, rfl, .inl (SqL.of g1'), rfl, flat_strs _, _, rfl, ?_⟩
        rw [if_pos rfl, inV_strs, dec_kt]
        by_cases c : r ∈ uniq ((SS.take i).flatMap (rowsR n wd) ++ (rowsR n wd R).take j)
        · rw [decide_eq_true c]
          refine iteF (hN _ _ ⟨rfl, sb2, ?_, g3'⟩)
          rw [en, addU_old c]
          exact g1'
        · rw [decide_eq_false c]
          have hul := uniq_len ((SS.take i).flatMap (rowsR n wd) ++ (rowsR n wd R).take j)
          have hul2 : ((SS.take i).flatMap (rowsR n wd) ++ (rowsR n wd R).take j).length ≤ 1000 * 64 + 64 := by
            rw [List.length_append, flat_len, List.length_take, List.length_take]
            have : min i SS.length * cnt n wd ≤ SS.length * cnt n wd := Nat.mul_le_mul_right _ (Nat.min_le_right _ _)
            omega
          refine iteT ⟨_, rfl, .inl ⟨rfl, _, SqL.of g1'⟩, _, rfl, o1, _, _, rfl, rfl, g1', sizeOk (by rw [List.length_map, List.length_map]; omega), hN _ _ ⟨rfl, sb_upd_d sb2, ?_, ?_⟩⟩
          · rw [upd_same, en, addU_new c, List.map_append, List.map_append]
            rfl
          · rw [upd_ne n31]
            exact g3'
    · obtain ⟨y7', y8', rfl, sb, g1, g3⟩ := p
      have etk : (rowsR n wd R).take (cnt n wd) = rowsR n wd R := List.take_of_length_le (by rw [rowsR_len]; exact Nat.le_refl _)
      rw [etk] at g1 g3
      have sd : Same (del G o1) (del G' o1) := sb_same sb
      have nv : NewV (del G o1) (del G' o1) (.ref o3) (eI ((rowsR n wd R).map fun r => ((pl r (rowsT n wd SS) : Nat) : Int))) := newV_ints (by rw [del_ne n31]; exact n3) (by rw [del_ne n31]; exact g3)
      obtain ⟨ws, w1, w2, lb2⟩ := lb.snoc sm sd nv
      rw [del_ne n12.symm] at w1
      rw [List.length_map, List.length_map, List.length_take] at w2
      refine ⟨_, rfl, .inl ⟨rfl, _, SqL.of w1⟩, _, rfl, o2, ws, _, rfl, rfl, w1, sizeOk (by omega), _, _, _, _, rfl, ?_, ?_, ?_⟩
      · rw [del_upd n12.symm]
        exact same_upd (sm.trans sd) n2H
      · rw [del_upd n12.symm, List.take_add_one, hR, List.map_append, List.map_append]
        exact lb2
      · rw [upd_ne n12, List.take_add_one, hR, List.flatMap_append]
        have e2 : (some R).toList.flatMap (rowsR n wd) = rowsR n wd R := by simp
        rw [e2]
        exact g1
  · obtain ⟨y5, y6, y7, y8, rfl, sm, lb, h1⟩ := p
    rw [hxl, List.take_length] at lb h1
    refine ⟨_, rfl, _, rfl, by show 2 ≤ sizeLine; decide, fun tp ntp => ?_⟩
    have sF : Same G (upd G tp (.tup [.ref o2, .ref o1])) := same_new ntp
    have sG : Same H G := sm.trans del_same
    refine q _ _ (sG.trans sF) ?_
    refine .tup (xs := [.ref o2, .ref o1]) ?_ (.cons ?_ (.cons ?_ .nil))
    · rw [fr_new (sG.free ntp)]
      exact upd_same
    · exact lb.newV.mono (Same.refl _) (del_same.trans sF)
    · refine .lst (xs := _) ?_ (dnAll_strs _)
      rw [fr_new n1]
      exact sF _ _ h1
def spTable (K : PySem.W.Frag) : Sp := fun vs H Q _ => ∃ (n : Nat) (v : V) (SS : List (List (Int × Int))) (wd : Nat), vs = [.int n, v, .int wd] ∧ 1 ≤ n ∧ n ≤ 64 ∧ 1 ≤ wd ∧ wd ≤ n ∧ Dp K H v (eRs SS) ∧ SS.length ≤ 1000 ∧ (∀ R ∈ SS, Ok n R) ∧ ∀ H' p, Same H H' → NewV H H' p (eTab n wd SS) → Q p H'
theorem ok_table (T : Tx K mg) : Cl P w K mg base 4 "table" (spTable K) := by
  refine T.d_table.cl sc_table (fun vs H Q E h => ?_) (fun f cdv A outer s H vs Q E hr h => ?_)
  · obtain ⟨n, v, SS, wd, rfl, _⟩ := h
    rfl
  obtain ⟨n, v, SS, wd, rfl, h1, h2, hw1, hw2, hD, hl, hk, q⟩ := h
  refine ⟨_, (pss_cons (ps_expr (pe_k (ok_need_sets T) hr (pa_cons (pv 0) (pa_cons (pv 1) pa_nil))))
      (pss_cons (ps_if (pt_not (pt_chain op_le op_le pe_int (pv 2) (pv 0))) (pss_one ps_never) pss_nil)
      (pss_one (ps_ret (pe_k (ok_made T) hr (pa_cons (pv 0) (pa_cons (pv 1) (pa_cons (pv 2) pa_nil)))))))), ?_⟩
  refine ⟨_, rfl, _, rfl, (n : Int), v, SS, rfl, by omega, by omega, hD, hk, fun H1 s1 => ?_⟩
  refine ⟨_, rfl, _, _, rfl, rfl, true, bT (by omega), iteT ⟨_, rfl, _, _, rfl, rfl, true, bT (by omega), iteF ?_⟩⟩
  refine ⟨_, rfl, _, rfl, _, rfl, n, v, SS, wd, rfl, h2, hw1, by omega, same_dp s1 hD, hl, fun R hR => Nat.le_trans (hk R hR).1 (by decide), fun H2 p s2 nv => ?_⟩
  exact q H2 p (s1.trans s2) (nv.mono s1 (Same.refl _))
def spRoom (K : PySem.W.Frag) : Sp := fun vs H Q _ => ∃ (v : V) (n wd : Nat) (SS : List (List (Int × Int))), vs = [v] ∧ Dp K H v (eTab n wd SS) ∧ SS.length ≤ 1000 ∧ n ≤ 64 ∧ 1 ≤ wd ∧ wd ≤ 64 ∧ ∀ H', Same H H' → Q (.int ((cells n wd SS : Nat) : Int)) H'
theorem ok_room_of (T : Tx K mg) : Cl P w K mg base 1 "room_of" (spRoom K) := by
  refine T.d_room_of.cl sc_room_of (fun vs H Q E h => ?_) (fun f cdv A outer s H vs Q E hr h => ?_)
  · obtain ⟨v, n, wd, SS, rfl, _⟩ := h
    rfl
  obtain ⟨v, n, wd, SS, rfl, hD, hl, hn, hw1, hw2, q⟩ := h
  have hc := cnt_le (n := n) hw1
  have hm : SS.length * cnt n wd ≤ 1000 * 64 := Nat.mul_le_mul hl (by omega)
  have hrl := rowsT_len n wd SS
  obtain ⟨t, ts, rfl, hT, hTA⟩ := dp_tuple hD
  cases hTA with
  | cons d1 hTA =>
  cases hTA with
  | cons d2 hTA =>
  cases hTA
  obtain ⟨a4, x4, rfl, hS4, hA4⟩ := dp_list d1
  obtain ⟨a5, x5, rfl, hS5, hA5⟩ := dp_list d2
  obtain rfl := dpAll_strs hA5
  have hfl : (firstsT n wd SS).length = SS.length := by unfold firstsT; rw [List.length_map]
  have x4l : x4.length = (firstsT n wd SS).length := by rw [dpAll_len hA4, List.length_map]
  refine ⟨_, (pss_one (ps_ret (pe_op op_add (pe_callB (sumQ K rfl) (by rfl) T.z_sum (by decide +kernel) (pa_cons (pe_lc (own := [("numbers", 1)]) (g := (gName 1)) (tt := tYes) (by rfl) sc_room_of.nd (piL K (pe_ix (ixT K) (pv 0) pe_int (fun _ _ => rfl))) (blkOk_by (own := [("numbers", 1)]) (N := n_room_of) (sc := defScope s_room_of) (by decide +kernel)) (fun _ _ _ _ _ => (pg_name (i := 1) sc_room_of.nd rfl (by first | exact Or.inl rfl | exact Or.inr rfl))) (fun _ _ _ _ _ => pts_nil) (fun _ _ _ _ _ => (pe_callB (lenQ K) (by rfl) T.z_len (by decide +kernel) (pa_cons (pv 1) pa_nil)))) pa_nil)) (pe_callB (sumQ K rfl) (by rfl) T.z_sum (by decide +kernel) (pa_cons (pe_lc (own := [("row", 2)]) (g := (gName 2)) (tt := tYes) (by rfl) sc_room_of.nd (piL K (pe_ix (ixT K) (pv 0) pe_int (fun _ _ => rfl))) (blkOk_by (own := [("row", 2)]) (N := n_room_of) (sc := defScope s_room_of) (by decide +kernel)) (fun _ _ _ _ _ => (pg_name (i := 2) sc_room_of.nd rfl (by first | exact Or.inl rfl | exact Or.inr rfl))) (fun _ _ _ _ _ => pts_nil) (fun _ _ _ _ _ => (pe_callB call_len_str (by rfl) T.z_len (by decide +kernel) (pa_cons (pv 2) pa_nil)))) pa_nil))))), ?_⟩
  refine ⟨_, rfl, t, _, 0, _, rfl, rfl, hT, rfl, a4, rfl, ⟨_, hS4⟩, fun D1 n1 => lcN_list (fun i => ((firstsT n wd SS)[i]?).bind fun l => some (.int (l.length : Int))) hS4 n1 (by omega) (fun i x G N1 N0 hx sm c1 c0 => ?_) (fun H1 s1 lb1 => ?_)⟩
  · obtain ⟨dd, hdd, hdx⟩ := dpAll_get hA4 hx
    obtain ⟨l, hl', rfl⟩ := get_map hdd
    obtain ⟨b, ys, rfl, hb, hy⟩ := dp_list hdx
    obtain rfl := dpAll_ints hy
    exact ⟨rfl, yesT ⟨_, rfl, b, _, rfl, .inl (sm.seq hb), c1 _ G _ (Same.refl _) (by rw [hl', Option.bind_some, List.length_map]) (.int _)⟩⟩
  rw [x4l, list_map] at lb1
  have e1 : ((firstsT n wd SS).map fun l => PyData.int (l.length : Int)) = ((firstsT n wd SS).map fun l => (l.length : Int)).map PyData.int := by rw [List.map_map]; rfl
  rw [e1] at lb1
  refine ⟨D1, _, rfl, SqL.of lb1.ints, ?_⟩
  refine ⟨_, rfl, t, _, 1, _, rfl, rfl, same_tup s1 hT, rfl, a5, rfl, ⟨_, s1.seq hS5⟩, fun D2 n2 => lcN_list (fun i => (((rowsT n wd SS).map kt)[i]?).bind fun r => some (.int (r.length : Int))) (s1.seq hS5) n2 (by rw [List.length_map, List.length_map]; omega) (fun i x G N1 N0 hx sm c1 c0 => ?_) (fun H2 s2 lb2 => ?_)⟩
  · obtain ⟨z, hz, rfl⟩ := map_get hx
    have hzl : z.length = wd := by
      obtain ⟨b, hb, rfl⟩ := List.mem_map.mp (List.mem_of_getElem? hz)
      rw [kt_len, rowsT_mem hb]
    exact ⟨rfl, yesT ⟨_, rfl, z, rfl, Nat.le_of_lt (sizeOk (by omega)), c1 _ G _ (Same.refl _) (by rw [hz]; rfl) (.int _)⟩⟩
  rw [List.length_map, list_map] at lb2
  have e2 : (((rowsT n wd SS).map kt).map fun r => PyData.int (r.length : Int)) = (((rowsT n wd SS).map kt).map fun r => (r.length : Int)).map PyData.int := by rw [List.map_map, List.map_map, List.map_map]; rfl
  rw [e2] at lb2
  refine ⟨D2, _, rfl, SqL.of lb2.ints, _, _, rfl, rfl, ?_⟩
  have e3 : ((firstsT n wd SS).map fun l => (l.length : Int)).sum + (((rowsT n wd SS).map kt).map fun r => (r.length : Int)).sum = ((cells n wd SS : Nat) : Int) := by
    rw [sum_firsts, sum_rows]
    unfold cells
    omega
  dsimp only
  rw [e3]
  exact q H2 (s1.trans s2)
def spLeast (K : PySem.W.Frag) : Sp := fun vs H Q _ => ∃ (n : Nat) (v : V) (SS : List (List (Int × Int))), vs = [.int n, v] ∧ 1 ≤ n ∧ n ≤ 64 ∧ Dp K H v (eRs SS) ∧ SS.length ≤ 1000 ∧ (∀ R ∈ SS, Ok n R) ∧ ∀ H' p, Same H H' → NewV H H' p (eP (leastP n SS)) → Q p H'
theorem ok_least (T : Tx K mg) : Cl P w K mg base 4 "least" (spLeast K) := by
  refine T.d_least.cl sc_least (fun vs H Q E h => ?_) (fun f cdv A outer s H vs Q E hr h => ?_)
  · obtain ⟨n, v, SS, rfl, _⟩ := h
    rfl
  obtain ⟨n, v, SS, rfl, h1, h2, hD, hl, hk, q⟩ := h
  refine ⟨_, (pss_cons (ps_expr (pe_k (ok_need_sets T) hr (pa_cons (pv 0) (pa_cons (pv 1) pa_nil))))
      (pss_one (ps_ret (pe_callB (minDK K (by rfl) (hu65 hr)) (by rfl) T.z_min (by decide +kernel) (pa_cons (pe_lc (own := [("wide", 2)]) (g := (gName 2)) (tt := tYes) (by rfl) sc_least.nd (pi_range2 (by rfl) T.z_range (pa_cons pe_int (pa_cons (pe_op op_add (pv 0) pe_int) pa_nil))) (blkOk_by (own := [("wide", 2)]) (N := n_least) (sc := defScope s_least) (by decide +kernel)) (fun _ _ _ _ _ => (pg_name (i := 2) sc_least.nd rfl (by first | exact Or.inl rfl | exact Or.inr rfl))) (fun _ _ _ _ _ => pts_nil) (fun _ _ _ _ _ => (pe_tup (pa_cons (pe_k (ok_room_of T) hr (pa_cons (pe_k (ok_made T) hr (pa_cons (pv 0) (pa_cons (pv 1) (pa_cons (pv 2) pa_nil)))) pa_nil)) (pa_cons (pv 2) pa_nil))))) pa_nil))))), ?_⟩
  refine ⟨_, rfl, _, rfl, (n : Int), v, SS, rfl, by omega, by omega, hD, hk, fun H1 s1 => ?_⟩
  refine ⟨_, rfl, _, _, rfl, rfl, _, _, rfl, ⟨by omega, by omega, by omega, by omega⟩, fun D nD => ?_⟩
  rw [show ((n : Int) + 1 - 1).toNat = n by omega]
  refine lcN_range (lo := 1) (n := n) (fun i => some (eP (((cells n (i + 1) SS : Nat) : Int), ((i : Int) + 1)))) nD (by omega) (fun i G N1 N0 hi sm c1 c0 => ?_) (fun H2 s2 lb => ?_)
  · have e0 : (1 : Int) + (i : Int) = ((i + 1 : Nat) : Int) := by omega
    rw [e0]
    refine ⟨rfl, yesT ⟨_, rfl, _, rfl, _, rfl, n, v, SS, i + 1, rfl, h2, by omega, by omega, same_dp (s1.trans sm) hD, hl, fun R hR => Nat.le_trans (hk R hR).1 (by decide), fun G2 p s2 nv => ?_⟩⟩
    refine ⟨p, n, i + 1, SS, rfl, nv.dp, hl, h2, by omega, by omega, fun G3 s3 => ⟨_, rfl, by show 2 ≤ sizeLine; decide, fun t nt => ?_⟩⟩
    refine c1 _ _ _ (s2.trans (s3.trans (same_new nt))) rfl ?_
    exact (new_pair nt).mono (s2.trans s3) (Same.refl _)
  have ep : (List.range n).filterMap (fun (i : Nat) => some (eP (((cells n (i + 1) SS : Nat) : Int), ((i : Int) + 1)))) = (pairsT n SS).map eP := by
    unfold pairsT
    rw [List.filterMap_eq_map', List.map_map]
    rfl
  rw [ep] at lb
  obtain ⟨x, xs, ex⟩ := pairs_cons h1 SS
  obtain ⟨hsc, hsd⟩ := sh_pairs (pairsT n SS)
  have hal := alike_eP (pairsT n SS)
  obtain ⟨_, zs, hz, hzA⟩ := lb
  have elp : leastP n SS = minP x xs := by unfold leastP; rw [ex]
  rw [ex, List.map_cons] at hsc hsd hal hzA
  refine ⟨D, zs, eP x, xs.map eP, rfl, SqL.of hz, same_dpAll (del_same.trans fr_same) hzA.dp, hal, hsc, hsd, fun i y hy hi => ?_⟩
  rw [minD_eP] at hi
  obtain ⟨d', hd', hn'⟩ := hzA.get hy
  rw [hi] at hd'
  obtain rfl := Option.some.inj hd'
  rw [elp] at q
  exact q H2 y (s1.trans s2) (NewV.mono (Dn.mono del_same hn') s1 (Same.refl _))
end
section
variable {P : Program} {w : World} {K : PySem.W.Frag} {mg : Str → Option Value} {base : Heap}
def spKinds (K : PySem.W.Frag) : Sp := fun vs H Q _ => ∃ (n : Nat) (v : V) (SS : List (List (Int × Int))), vs = [.int n, v] ∧ n ≤ 64 ∧ Dp K H v (eRs SS) ∧ SS.length ≤ 1000 ∧ (∀ R ∈ SS, R.length ≤ 1000) ∧ ∀ H' p, Same H H' → NewV H H' p (.tuple [eI (rowOf n SS), eBs (kinds n SS)]) → Q p H'
theorem ok_kinds_of (T : Tx K mg) : Cl P w K mg base 2 "kinds_of" (spKinds K) := by
  refine T.d_kinds_of.cl sc_kinds_of (fun vs H Q E h => ?_) (fun f cdv A outer s H vs Q E hr h => ?_)
  · obtain ⟨n, v, SS, rfl, _⟩ := h
    rfl
  obtain ⟨n, v, SS, rfl, hn, hD, hl, hk, q⟩ := h
  obtain ⟨a, xs, rfl, hS, hA⟩ := dp_list hD
  have hxl : xs.length = SS.length := by rw [dpAll_len hA, List.length_map]
  refine ⟨_, (pss_cons (ps_set (i := 2) sc_kinds_of.nd rfl (by first | exact Or.inl rfl | exact Or.inr rfl) (pe_lst pa_nil))
      (pss_cons (ps_set (i := 3) sc_kinds_of.nd rfl (by first | exact Or.inl rfl | exact Or.inr rfl) (pe_lst pa_nil))
      (pss_cons (ps_for PassesOwn.never rfl (pi_range1 (by rfl) T.z_range (pa_cons (pv 0) pa_nil)) (pg_name (i := 4) sc_kinds_of.nd rfl (by first | exact Or.inl rfl | exact Or.inr rfl))
      (pss_cons (ps_set (i := 5) sc_kinds_of.nd rfl (by first | exact Or.inl rfl | exact Or.inr rfl) (pe_callTy (tupOf K) (by rfl) T.z_tuple (by decide +kernel) (pa_cons (pe_lc (own := [("ranges", 6)]) (g := (gName 6)) (tt := tYes) (by rfl) sc_kinds_of.nd (piL K (pv 1)) (blkOk_by (own := [("ranges", 6)]) (N := n_kinds_of) (sc := defScope s_kinds_of) (by decide +kernel)) (fun _ _ _ _ _ => (pg_name (i := 6) sc_kinds_of.nd rfl (by first | exact Or.inl rfl | exact Or.inr rfl))) (fun _ _ _ _ _ => pts_nil) (fun _ _ _ _ _ => (pe_k (ok_has T) hr (pa_cons (pv 6) (pa_cons (pv 4) pa_nil))))) pa_nil)))
      (pss_cons (ps_if (pt_cmpR (notInDK K (hu65 hr)) (pv 5) (pv 2) (by rfl)) (pss_one (ps_expr (pe_bm PySem.F.plainAttrs_list PySem.F.slot_list_append PySem.F.type_list_append mt_append (pv 2) (pa_cons (pv 5) pa_nil)))) pss_nil)
      (pss_one (ps_expr (pe_bm PySem.F.plainAttrs_list PySem.F.slot_list_append PySem.F.type_list_append mt_append (pv 3) (pa_cons (pe_bm PySem.F.plainAttrs_list PySem.F.slot_list_index PySem.F.type_list_index (indexDK K (hu65 hr)) (pv 2) (pa_cons (pv 5) pa_nil)) pa_nil)))))))
      (pss_one (ps_ret (pe_tup (pa_cons (pv 3) (pa_cons (pv 2) pa_nil)))))))), ?_⟩
  refine ⟨Nat.zero_le _, fun o1 n1 => ⟨Nat.zero_le _, fun o2 n2 => ?_⟩⟩
  have n12 : o1 ≠ o2 := ne_of_none upd_same n2
  have n2H : H o2 = none := (same_new n1).free n2
  refine ⟨_, rfl, (n : Int), rfl, by omega, by omega, ?_⟩
  rw [Int.toNat_natCast]
  refine for_range (lo := 0) (n := n) (fun i σ H1 => ∃ y4 y5 y6 : Option V, σ = [some (.int n), some (.ref a), some (.ref o1), some (.ref o2), y4, y5, y6] ∧ Same H (del H1 o2) ∧ LB H (del H1 o2) o1 ((uniq ((upTo i).map (kindOf SS))).map eB) ∧ H1 o2 = some (.lst (((upTo i).map fun k => ((pl (kindOf SS k) (kinds n SS) : Nat) : Int)).map V.int))) ?_ (fun i σ H1 hi p => ?_) (fun σ H1 p => ?_)
  · refine ⟨none, none, none, rfl, ?_, ?_, upd_same⟩
    · rw [del_upd_self, del_upd n12]
      refine same_upd (fun b o e => ?_) n1
      rw [del_ne (ne_of_none e n2H)]
      exact e
    · rw [del_upd_self, del_upd n12]
      exact LB.nil n1
  · obtain ⟨y4, y5, y6, rfl, sm, lb, h2⟩ := p
    rw [Int.zero_add]
    have sH : Same H H1 := sm.trans del_same
    have hS1 := sH.seq hS
    -- kind
    refine ⟨_, rfl, a, rfl, ⟨_, hS1⟩, fun D nD => lcN_list (fun j => (SS[j]?).bind fun R => some (.bool (has R (i : Int)))) hS1 nD (by omega) (fun j x H2 N1 N0 hx s2 k1 k0 => ?_) (fun H2 s2 lb2 => ?_)⟩
    · obtain ⟨d, hd, hx'⟩ := dpAll_get hA hx
      obtain ⟨R, hR, rfl⟩ := get_map hd
      refine ⟨rfl, yesT ⟨_, rfl, _, rfl, _, R, (i : Int), rfl, same_dp (sH.trans s2) hx', hk R (List.mem_of_getElem? hR), fun H3 s3 => ?_⟩⟩
      exact k1 _ H3 _ s3 (by rw [hR]; rfl) (.bl _)
    have ek : (List.range xs.length).filterMap (fun j => (SS[j]?).bind fun R => some (PyData.bool (has R (i : Int)))) = (kindOf SS (i : Int)).map PyData.bool := by
      rw [hxl]
      unfold kindOf
      rw [List.map_map]
      exact list_map SS fun R => PyData.bool (has R (i : Int))
    rw [ek] at lb2
    have hD2 := lb2.bools
    refine ⟨D, _, rfl, .inl ⟨SqL.of hD2, fun t nt => ?_⟩⟩
    have s3 : Same H1 (upd H2 t (.tup ((kindOf SS (i : Int)).map V.bl))) := s2.trans (same_new nt)
    have nvt : NewV H1 (upd H2 t (.tup ((kindOf SS (i : Int)).map V.bl))) (.ref t) (eB (kindOf SS (i : Int))) := by
      refine .tup (xs := (kindOf SS (i : Int)).map V.bl) ?_ (dnAll_bools _)
      rw [fr_new (s2.free nt)]
      exact upd_same
    generalize upd H2 t (.tup ((kindOf SS (i : Int)).map V.bl)) = H3 at s3 nvt
    generalize hb : kindOf SS (i : Int) = b at *
    have h23 : H3 o2 = some (.lst (((upTo i).map fun k => ((pl (kindOf SS k) (kinds n SS) : Nat) : Int)).map V.int)) := s3 _ _ h2
    have sd : Same (del H1 o2) (del H3 o2) := del_mono s3
    have lb3 := lb.same sd
    have nvd := nvt.del h2
    have hul := uniq_len ((upTo i).map (kindOf SS))
    rw [List.length_map, upTo_len] at hul
    have en : uniq ((upTo (i + 1)).map (kindOf SS)) = addU (uniq ((upTo i).map (kindOf SS))) b := by
      rw [upTo_succ, List.map_append, ← hb]
      exact uniq_snoc _ _
    -- new or not
    dsimp only [gName]
    refine seq_join (t := tIfS _ _ _) (fun σ' H' => σ' = [some (.int n), some (.ref a), some (.ref o1), some (.ref o2), some (.int (i : Int)), some (.ref t), y6] ∧ Same H (del H' o2) ∧ LB H (del H' o2) o1 ((uniq ((upTo (i + 1)).map (kindOf SS))).map eB) ∧ H' o2 = some (.lst (((upTo i).map fun k => ((pl (kindOf SS k) (kinds n SS) : Nat) : Int)).map V.int)) ∧ Dp K H' (.ref t) (eB b)) (fun σ' H' hJ => ?_) (fun N hN => ?_)
    · obtain ⟨rfl, sm', lb', h2', ht'⟩ := hJ
      have hlist : Dp K H' (.ref o1) (eBs (uniq ((upTo (i + 1)).map (kindOf SS)))) := same_dp del_same lb'.newV.dp
      have hmem : b ∈ uniq ((upTo (i + 1)).map (kindOf SS)) := by
        rw [en]
        exact mem_addU.mpr (.inr rfl)
      obtain ⟨zs, hz1, hz2⟩ := lb'.at
      rw [del_ne n12] at hz1
      refine ⟨_, rfl, .inl ⟨rfl, _, SqL.of h2'⟩, _, rfl, .inl ⟨rfl, _, SqL.of hz1⟩, _, rfl, o1, .ref t, eB b, _, pl b (uniq ((upTo (i + 1)).map (kindOf SS))), eB b, rfl, rfl, hlist, ht', (Sh.eBs (n := 0) _).shaped, (Sh.eB (n := 0) _).shaped, ?_, by rw [eqv_eB]; exact decide_eq_true rfl, fun m z hm hz => ?_, ?_⟩
      · rw [List.getElem?_map, pl_get hmem]
        rfl
      · obtain ⟨c, hc, rfl⟩ := get_map hz
        rw [eqv_eB]
        exact decide_eq_false (pl_ahead hm hc)
      refine ⟨o2, _, _, rfl, rfl, h2', sizeOk (by rw [List.length_map, List.length_map, upTo_len]; omega), ?_⟩
      refine ⟨_, _, _, rfl, ?_, ?_, ?_⟩
      · rw [del_upd_self]
        exact sm'
      · rw [del_upd_self]
        exact lb'
      · obtain ⟨r, er⟩ := kinds_pre SS (show i + 1 ≤ n from hi)
        have e1 : pl b (uniq ((upTo (i + 1)).map (kindOf SS))) = pl (kindOf SS (i : Int)) (kinds n SS) := by rw [hb, er, pl_app hmem]
        rw [upd_same, e1, upTo_succ, List.map_append, List.map_append]
        rfl
    · refine ⟨_, rfl, _, rfl, eB b, _, same_dp (Same.refl _) nvt.dp, same_dp del_same lb3.newV.dp, (Sh.eB (n := 0) _).shaped, (Sh.eBs (n := 0) _).shaped, _, rfl, ?_⟩
      rw [any_eB]
      by_cases c : b ∈ uniq ((upTo i).map (kindOf SS))
      · rw [decide_eq_true c]
        refine iteF (hN _ _ ⟨rfl, sm.trans sd, ?_, h23, nvt.dp⟩)
        rw [en, addU_old c]
        exact lb3
      · rw [decide_eq_false c]
        obtain ⟨zs, hz1, hz2, lb4⟩ := lb.snoc sm sd nvd
        rw [del_ne n12] at hz1
        refine iteT ⟨_, rfl, .inl ⟨rfl, _, SqL.of hz1⟩, _, rfl, o1, zs, _, rfl, rfl, hz1, sizeOk (by rw [hz2, List.length_map]; omega), hN _ _ ⟨rfl, ?_, ?_, ?_, ?_⟩⟩
        · rw [del_upd n12]
          exact same_upd (sm.trans sd) lb.1
        · rw [del_upd n12, en, addU_new c, List.map_append]
          exact lb4
        · rw [upd_ne n12.symm]
          exact h23
        · have ht := nvt
          cases ht with
          | tup h5 h6 =>
            obtain ⟨q1, q2⟩ := fr_some h5
            have c2 : t ≠ o1 := fun z => by
              subst z
              rw [q2] at hz1
              cases hz1
            refine .tup (SqT.of (by rw [upd_ne c2]; exact q2)) ?_
            have e := dpAll_bools (K := K) (DnAll.dp h6)
            rw [e]
            exact (dnAll_bools (F := fun _ => none) _).dp |> same_dpAll fun _ _ z => by cases z
  · obtain ⟨y4, y5, y6, rfl, sm, lb, h2⟩ := p
    refine ⟨_, rfl, _, rfl, by show 2 ≤ sizeLine; decide, fun tp ntp => ?_⟩
    have sF : Same H1 (upd H1 tp (.tup [.ref o2, .ref o1])) := same_new ntp
    refine q _ _ ((sm.trans del_same).trans sF) ?_
    refine .tup (xs := [.ref o2, .ref o1]) ?_ (.cons ?_ (.cons ?_ .nil))
    · rw [fr_new ((sm.trans del_same).free ntp)]
      exact upd_same
    · refine .lst (xs := _) ?_ (dnAll_ints _)
      rw [fr_new n2H]
      exact sF _ _ h2
    · exact lb.newV.mono (Same.refl _) (del_same.trans sF)
def spClasses (K : PySem.W.Frag) : Sp := fun vs H Q _ => ∃ (n : Nat) (v : V) (SS : List (List (Int × Int))), vs = [.int n, v] ∧ 1 ≤ n ∧ n ≤ 64 ∧ Dp K H v (eRs SS) ∧ SS.length ≤ 1000 ∧ (∀ R ∈ SS, Ok n R) ∧ ∀ H' p, Same H H' → NewV H H' p (eRs (classesOf n SS)) → Q p H'
theorem ok_classes (T : Tx K mg) : Cl P w K mg base 3 "classes" (spClasses K) := by
  refine T.d_classes.cl sc_classes (fun vs H Q E h => ?_) (fun f cdv A outer s H vs Q E hr h => ?_)
  · obtain ⟨n, v, SS, rfl, _⟩ := h
    rfl
  obtain ⟨n, v, SS, rfl, h1, h2, hD, hl, hk, q⟩ := h
  refine ⟨_, (pss_cons (ps_expr (pe_k (ok_need_sets T) hr (pa_cons (pv 0) (pa_cons (pv 1) pa_nil))))
      (pss_cons (ps_asg (pe_k (ok_kinds_of T) hr (pa_cons (pv 0) (pa_cons (pv 1) pa_nil))) (pgT K (by rfl) (pgs_cons (pg_name (i := 2) sc_classes.nd rfl (by first | exact Or.inl rfl | exact Or.inr rfl)) (pgs_cons (pg_name (i := 3) sc_classes.nd rfl (by first | exact Or.inl rfl | exact Or.inr rfl)) pgs_nil))))
      (pss_cons (ps_set (i := 4) sc_classes.nd rfl (by first | exact Or.inl rfl | exact Or.inr rfl) (pe_lst pa_nil))
      (pss_cons (ps_for PassesOwn.never rfl (pi_range1 (by rfl) T.z_range (pa_cons (pe_callB (lenQ K) (by rfl) T.z_len (by decide +kernel) (pa_cons (pv 3) pa_nil)) pa_nil)) (pg_name (i := 5) sc_classes.nd rfl (by first | exact Or.inl rfl | exact Or.inr rfl))
      (pss_one (ps_expr (pe_bm PySem.F.plainAttrs_list PySem.F.slot_list_append PySem.F.type_list_append mt_append (pv 4) (pa_cons (pe_k (ok_told T) hr (pa_cons (pe_lc (own := [("sign", 6)]) (g := (gName 6)) (tt := _) (by rfl) sc_classes.nd (pi_range1 (by rfl) T.z_range (pa_cons (pv 0) pa_nil)) (blkOk_by (own := [("sign", 6)]) (N := n_classes) (sc := defScope s_classes) (by decide +kernel)) (fun _ _ _ _ _ => (pg_name (i := 6) sc_classes.nd rfl (by first | exact Or.inl rfl | exact Or.inr rfl))) (fun _ _ _ _ _ => (pts_one (pt_cmpR op_eq (pe_ix (ixL K) (pv 2) (pv 6) (fun _ _ => rfl)) (pv 5) (nomark _)))) (fun _ _ _ _ _ => (pv 6))) pa_nil)) pa_nil)))))
      (pss_one (ps_ret (pv 4))))))), ?_⟩
  refine ⟨_, rfl, _, rfl, (n : Int), v, SS, rfl, by omega, by omega, hD, hk, fun H1 s1 => ?_⟩
  refine ⟨_, rfl, _, rfl, n, v, SS, rfl, h2, same_dp s1 hD, hl, fun R hR => Nat.le_trans (hk R hR).1 (by decide), fun H2 p s2 nv => ?_⟩
  obtain ⟨t, x, y, rfl, ft, ht, nx, ny⟩ := newV_pair nv
  refine ⟨t, _, rfl, SqT.of ht, rfl, _, _, rfl, _, _, rfl, rfl, ?_⟩
  obtain ⟨a3, x3, rfl, f3, h3, d3⟩ := newV_list nx
  obtain rfl := dpAll_ints (K := K) d3.dp
  obtain ⟨a4, x4, rfl, f4, h4, d4⟩ := newV_list ny
  have x4l : x4.length = (kinds n SS).length := by rw [d4.len, List.length_map]
  have kl := kinds_len n SS
  refine ⟨Nat.zero_le _, fun o no => ?_⟩
  have s3 : Same H2 (upd H2 o (.lst [])) := same_new no
  have s03 := s1.trans (s2.trans s3)
  have lb0 : LB H2 (upd H2 o (.lst [])) o [] := LB.nil no
  generalize upd H2 o (.lst []) = H3 at s3 s03 lb0
  refine ⟨_, rfl, a4, x4, rfl, .inl (SqL.of (s3 _ _ h4)), _, rfl, by omega, by omega, ?_⟩
  rw [Int.toNat_natCast]
  refine for_range (lo := 0) (n := x4.length) (fun i σ G => ∃ y5 y6 : Option V, σ = [some (.int n), some v, some (.ref a3), some (.ref a4), some (.ref o), y5, y6] ∧ Same H2 G ∧ LB H2 G o (((List.range i).map (classOf n SS)).map eR)) ⟨none, none, rfl, s3, lb0⟩ (fun i σ G hi p => ?_) (fun σ G p => ?_)
  · obtain ⟨y5, y6, rfl, sm, lb⟩ := p
    rw [Int.zero_add]
    obtain ⟨zs, hz, _⟩ := lb.at
    have h3G := sm _ _ h3
    refine ⟨_, rfl, .inl ⟨rfl, _, SqL.of hz⟩, _, rfl, (n : Int), rfl, by omega, by omega, fun D nD => lcN_range0 (fun j => if decide (((pl (kindOf SS (j : Int)) (kinds n SS) : Nat) : Int) = (i : Int)) = true then some (.int (j : Int)) else none) nD (by omega) (fun j G2 N1 N0 hj s2' k1 k0 => ?_) (fun G2 s2' lb2 => ?_)⟩
    · have g : ((rowOf n SS).map V.int)[j]? = some (.int ((pl (kindOf SS (j : Int)) (kinds n SS) : Nat) : Int)) := by rw [List.getElem?_map, rowOf_get SS hj]; rfl
      refine ⟨rfl, _, rfl, _, rfl, a3, _, _, _, rfl, rfl, SqL.of (s2' _ _ h3G), atI_nat g, _, rfl, rfl, _, rfl, ite2 (fun c => ?_) (fun c => ?_)⟩
      · have c1 := V.int.inj (of_decide_eq_true c)
        exact ⟨_, rfl, k1 _ G2 _ (Same.refl _) (by rw [if_pos (decide_eq_true c1)]) (.int _)⟩
      · exact k0 G2 (Same.refl _) (by rw [if_neg fun z => c (decide_eq_true (congrArg V.int (of_decide_eq_true z)))])
    rw [range_ints (p := fun k => decide (((pl (kindOf SS k) (kinds n SS) : Nat) : Int) = (i : Int)))] at lb2
    refine ⟨_, _, rfl, lb2.newV.dp, Nat.le_trans (allIn_len n _) (by omega), fun G3 p3 s3' nv3 => ?_⟩
    have s13 := s2'.trans s3'
    obtain ⟨ys, z1, z2, lb3⟩ := lb.snoc sm s13 (nv3.mono s2' (Same.refl _))
    rw [List.length_map, List.length_map, List.length_range] at z2
    refine ⟨o, ys, _, rfl, rfl, z1, sizeOk (by omega), _, _, rfl, same_upd (sm.trans s13) lb.1, ?_⟩
    rw [List.range_succ, List.map_append, List.map_append]
    exact lb3
  · obtain ⟨y5, y6, rfl, sm, lb⟩ := p
    rw [x4l] at lb
    exact ⟨_, rfl, q G _ ((s1.trans s2).trans sm) (lb.newV.mono (s1.trans s2) (Same.refl _))⟩
def spClassRow (K : PySem.W.Frag) : Sp := fun vs H Q _ => ∃ (n : Nat) (v : V) (SS : List (List (Int × Int))), vs = [.int n, v] ∧ 1 ≤ n ∧ n ≤ 64 ∧ Dp K H v (eRs SS) ∧ SS.length ≤ 1000 ∧ (∀ R ∈ SS, Ok n R) ∧ ∀ H' p, Same H H' → NewV H H' p (eI (rowOf n SS)) → Q p H'
theorem ok_class_row (T : Tx K mg) : Cl P w K mg base 3 "class_row" (spClassRow K) := by
  refine T.d_class_row.cl sc_class_row (fun vs H Q E h => ?_) (fun f cdv A outer s H vs Q E hr h => ?_)
  · obtain ⟨n, v, SS, rfl, _⟩ := h
    rfl
  obtain ⟨n, v, SS, rfl, h1, h2, hD, hl, hk, q⟩ := h
  refine ⟨_, (pss_cons (ps_expr (pe_k (ok_need_sets T) hr (pa_cons (pv 0) (pa_cons (pv 1) pa_nil))))
      (pss_one (ps_ret (pe_ix (ixT K) (pe_k (ok_kinds_of T) hr (pa_cons (pv 0) (pa_cons (pv 1) pa_nil))) pe_int (fun _ _ => rfl))))), ?_⟩
  refine ⟨_, rfl, _, rfl, (n : Int), v, SS, rfl, by omega, by omega, hD, hk, fun H1 s1 => ?_⟩
  refine ⟨_, rfl, _, rfl, n, v, SS, rfl, h2, same_dp s1 hD, hl, fun R hR => Nat.le_trans (hk R hR).1 (by decide), fun H2 p s2 nv => ?_⟩
  obtain ⟨t, x, y, rfl, ft, ht, nx, ny⟩ := newV_pair nv
  exact ⟨t, _, 0, _, rfl, rfl, SqT.of ht, rfl, q H2 _ (s1.trans s2) (nx.mono s1 (Same.refl _))⟩
def spByClasses (K : PySem.W.Frag) : Sp := fun vs H Q _ => ∃ (n : Nat) (v : V) (SS : List (List (Int × Int))), vs = [.int n, v] ∧ 1 ≤ n ∧ n ≤ 64 ∧ Dp K H v (eRs SS) ∧ SS.length ≤ 1000 ∧ (∀ R ∈ SS, Ok n R) ∧ ∀ H' p, Same H H' → NewV H H' p (eIs (byC n SS)) → Q p H'
theorem ok_by_classes (T : Tx K mg) : Cl P w K mg base 3 "by_classes" (spByClasses K) := by
  refine T.d_by_classes.cl sc_by_classes (fun vs H Q E h => ?_) (fun f cdv A outer s H vs Q E hr h => ?_)
  · obtain ⟨n, v, SS, rfl, _⟩ := h
    rfl
  obtain ⟨n, v, SS, rfl, h1, h2, hD, hl, hk, q⟩ := h
  refine ⟨_, (pss_cons (ps_expr (pe_k (ok_need_sets T) hr (pa_cons (pv 0) (pa_cons (pv 1) pa_nil))))
      (pss_cons (ps_set (i := 2) sc_by_classes.nd rfl (by first | exact Or.inl rfl | exact Or.inr rfl) (pe_ix (ixT K) (pe_k (ok_kinds_of T) hr (pa_cons (pv 0) (pa_cons (pv 1) pa_nil))) pe_int (fun _ _ => rfl)))
      (pss_one (ps_ret (pe_lc (own := [("at", 4)]) (g := (gName 4)) (tt := tYes) (by rfl) sc_by_classes.nd (pi_range1 (by rfl) T.z_range (pa_cons (pe_callB (lenQ K) (by rfl) T.z_len (by decide +kernel) (pa_cons (pv 1) pa_nil)) pa_nil)) (blkOk_by (own := [("at", 4)]) (N := n_by_classes) (sc := defScope s_by_classes) (by decide +kernel)) (fun _ _ _ _ _ => (pg_name (i := 4) sc_by_classes.nd rfl (by first | exact Or.inl rfl | exact Or.inr rfl))) (fun _ _ _ _ _ => pts_nil) (fun _ _ _ _ _ => (pe_lc (own := [("number", 3)]) (g := (gName 3)) (tt := _) (by rfl) sc_by_classes.nd (pi_range1 (by rfl) T.z_range (pa_cons (pe_callB (lenQ K) (by rfl) T.z_len (by decide +kernel) (pa_cons (pv 2) pa_nil)) pa_nil)) (blkOk_by (own := [("number", 3)]) (N := n_by_classes) (by kernel_rfl)) (fun _ _ _ _ _ => (pg_name (i := 3) sc_by_classes.nd rfl (by first | exact Or.inl rfl | exact Or.inr rfl))) (fun _ _ _ _ _ => (pts_one (pt_val (pe_ix (ixT K) (pe_ix (ixL K) (pv 2) (pv 3) (fun _ _ => rfl)) (pv 4) (fun _ _ => rfl))))) (fun _ _ _ _ _ => (pv 3))))))))), ?_⟩
  refine ⟨_, rfl, _, rfl, (n : Int), v, SS, rfl, by omega, by omega, hD, hk, fun H1 s1 => ?_⟩
  refine ⟨_, rfl, _, rfl, n, v, SS, rfl, h2, same_dp s1 hD, hl, fun R hR => Nat.le_trans (hk R hR).1 (by decide), fun H2 p s2 nv => ?_⟩
  obtain ⟨t, x, y, rfl, ft, ht, nx, ny⟩ := newV_pair nv
  refine ⟨t, _, 1, _, rfl, rfl, SqT.of ht, rfl, ?_⟩
  obtain ⟨a4, x4, rfl, f4, h4, d4⟩ := newV_list ny
  have x4l : x4.length = (kinds n SS).length := by rw [d4.len, List.length_map]
  have kl := kinds_len n SS
  have dA : DpAll K H2 x4 ((kinds n SS).map eB) := same_dpAll fr_same d4.dp
  obtain ⟨as, xs, rfl, hS, hA⟩ := dp_list (same_dp (s1.trans s2) hD)
  have hxl : xs.length = SS.length := by rw [dpAll_len hA, List.length_map]
  refine ⟨_, rfl, as, xs, rfl, .inl hS, _, rfl, by omega, by omega, fun D nD => lcN_range0 (fun a => some (eI ((upTo (kinds n SS).length).filter fun j => ((kinds n SS).getD j.toNat []).getD a false))) nD (by omega) (fun a G N1 N0 ha sm k1 k0 => ?_) (fun G sm lb => ?_)⟩
  · have h4G := sm _ _ h4
    refine ⟨rfl, yesT ⟨_, rfl, a4, x4, rfl, .inl (SqL.of h4G), _, rfl, by omega, by omega, fun D2 nD2 => lcN_range0 (fun j => if ((kinds n SS).getD (j : Int).toNat []).getD a false = true then some (.int (j : Int)) else none) nD2 (by omega) (fun j G2 M1 M0 hj s2' c1 c0 => ?_) (fun G2 s2' lb2 => ?_)⟩⟩
    · have gx : x4[j]? = some x4[j] := List.getElem?_eq_getElem hj
      obtain ⟨dd, hdd, hdx⟩ := dpAll_get dA gx
      obtain ⟨b, hb, rfl⟩ := get_map hdd
      obtain ⟨ta, tx, et, hT, hTA⟩ := dp_tuple hdx
      obtain rfl := dpAll_bools hTA
      rw [et] at gx
      have bl := kinds_at hb
      have ga : b[a]? = some b[a] := List.getElem?_eq_getElem (by omega)
      have gb : (b.map V.bl)[a]? = some (.bl b[a]) := by rw [List.getElem?_map, ga]; rfl
      have eg : ((kinds n SS).getD (j : Int).toNat []).getD a false = b[a] := by
        rw [Int.toNat_natCast, List.getD_eq_getElem?_getD, List.getD_eq_getElem?_getD, hb, Option.getD_some, ga, Option.getD_some]
      refine ⟨rfl, _, rfl, _, rfl, a4, x4, _, _, rfl, rfl, SqL.of (s2' _ _ h4G), atI_nat gx, _, rfl, ta, _, _, _, rfl, rfl, same_tup (sm.trans s2') hT, atI_nat gb, b[a], rfl, ?_⟩
      cases e : b[a] with
      | true => exact iteT ⟨_, rfl, c1 _ G2 _ (Same.refl _) (by rw [eg, e]; rfl) (.int _)⟩
      | false => exact iteF (c0 G2 (Same.refl _) (by rw [eg, e]; rfl))
    · rw [x4l, range_ints (p := fun j => ((kinds n SS).getD j.toNat []).getD a false)] at lb2
      exact k1 _ G2 _ s2' rfl lb2.newV
  · have e : (List.range xs.length).filterMap (fun a => some (eI ((upTo (kinds n SS).length).filter fun j => ((kinds n SS).getD j.toNat []).getD a false))) = (byC n SS).map eI := by
      unfold byC
      rw [List.map_map, List.filterMap_eq_map', hxl]
      rfl
    rw [e] at lb
    exact q G _ ((s1.trans s2).trans sm) (lb.newV.mono (s1.trans s2) (Same.refl _))
end
section
variable {P : Program} {w : World} {K : PySem.W.Frag} {mg : Str → Option Value} {base : Heap}
def spItems (K : PySem.W.Frag) : Sp := fun vs H Q _ => ∃ (v : V) (R : List (Int × Int)), vs = [v] ∧ Dp K H v (eR R) ∧ R.length ≤ 64 ∧ (∀ r ∈ R, 0 ≤ r.1 ∧ r.1 ≤ r.2 ∧ r.2 < 64) ∧ ∀ H' p, Same H H' → NewV H H' p (eT ((itemsOf R).map itemS)) → Q p H'
theorem small_log {i : Int} (h0 : 0 ≤ i) (h1 : i < 100) : i.natAbs.log2 < 1920 := by
  have : i.natAbs < 128 := by omega
  by_cases h : i.natAbs = 0
  · rw [h]
    decide
  · exact Nat.lt_trans ((Nat.log2_lt h).mpr (show i.natAbs < 2 ^ 7 from this)) (by decide)
theorem ok_items_of (T : Tx K mg) : Cl P w K mg base 1 "items_of" (spItems K) := by
  refine T.d_items_of.cl sc_items_of (fun vs H Q E h => ?_) (fun f cdv A outer s H vs Q E hr h => ?_)
  · obtain ⟨v, R, rfl, _⟩ := h
    rfl
  obtain ⟨v, R, rfl, hD, hl, hk, q⟩ := h
  obtain ⟨a, xs, rfl, hS, hA⟩ := dp_list hD
  have hxl : xs.length = R.length := by rw [dpAll_len hA, List.length_map]
  refine ⟨_, (pss_cons (ps_set (i := 1) sc_items_of.nd rfl (by first | exact Or.inl rfl | exact Or.inr rfl) (pe_lst pa_nil))
      (pss_cons (ps_for PassesOwn.never rfl (piL K (pv 0)) (pgT K (by rfl) (pgs_cons (pg_name (i := 2) sc_items_of.nd rfl (by first | exact Or.inl rfl | exact Or.inr rfl)) (pgs_cons (pg_name (i := 3) sc_items_of.nd rfl (by first | exact Or.inl rfl | exact Or.inr rfl)) pgs_nil)))
      (pss_one (ps_if (pt_cmpR op_lt (pe_op op_sub (pv 3) (pv 2)) pe_int (nomark _)) (pss_one (ps_expr (pe_bm PySem.F.plainAttrs_list PySem.F.slot_list_extend PySem.F.type_list_extend mt_extend (pv 1) (pa_cons (pe_lc (own := [("number", 4)]) (g := (gName 4)) (tt := tYes) (by rfl) sc_items_of.nd (pi_range2 (by rfl) T.z_range (pa_cons (pv 2) (pa_cons (pe_op op_add (pv 3) pe_int) pa_nil))) (blkOk_by (own := [("number", 4)]) (N := n_items_of) (sc := defScope s_items_of) (by decide +kernel)) (fun _ _ _ _ _ => (pg_name (i := 4) sc_items_of.nd rfl (by first | exact Or.inl rfl | exact Or.inr rfl))) (fun _ _ _ _ _ => pts_nil) (fun _ _ _ _ _ => (pe_callTy call_str_int (by rfl) T.z_str (by decide +kernel) (pa_cons (pv 4) pa_nil)))) pa_nil)))) (pss_one (ps_expr (pe_bm PySem.F.plainAttrs_list PySem.F.slot_list_append PySem.F.type_list_append mt_append (pv 1) (pa_cons (pe_op op_add_str (pe_op op_add_str (pe_callTy call_str_int (by rfl) T.z_str (by decide +kernel) (pa_cons (pv 2) pa_nil)) pe_str) (pe_callTy call_str_int (by rfl) T.z_str (by decide +kernel) (pa_cons (pv 3) pa_nil))) pa_nil)))))))
      (pss_one (ps_ret (pv 1))))), ?_⟩
  refine ⟨Nat.zero_le _, fun o no => ?_⟩
  refine ⟨_, rfl, a, rfl, ⟨_, (same_new no).seq hS⟩, for_list (xs := xs) (fun i σ H1 => ∃ y2 y3 : Option V, σ = [some (.ref a), some (.ref o), y2, y3, none] ∧ Same H H1 ∧ H1 o = some (.lst (((itemsOf (R.take i)).map itemS).map V.str)) ∧ (itemsOf (R.take i)).length ≤ 2 * i) ⟨none, none, rfl, same_new no, upd_same, Nat.le_refl _⟩ (fun i σ H1 _ p => ?_) (fun i x σ H1 hx p => ?_) (fun σ H1 p => ?_)⟩
  · obtain ⟨_, _, _, sm, _⟩ := p
    exact sm.seq hS
  · obtain ⟨y2, y3, rfl, sm, ho, hil⟩ := p
    obtain ⟨d, hd, hx'⟩ := dpAll_get hA hx
    obtain ⟨r, hr', rfl⟩ := get_map hd
    obtain ⟨t, rfl, hT⟩ := dp_pair hx'
    obtain ⟨k1, k2, k3⟩ := hk r (List.mem_of_getElem? hr')
    have hi : i < R.length := (List.getElem?_eq_some_iff.mp hr').1
    have et : itemsOf (R.take (i + 1)) = itemsOf (R.take i) ++ itemsR r := by
      rw [List.take_add_one, hr']
      unfold itemsOf
      rw [List.flatMap_append]
      simp
    refine ⟨t, _, rfl, same_tup sm hT, rfl, _, _, rfl, _, _, rfl, rfl, ?_⟩
    refine ⟨_, rfl, _, rfl, _, _, rfl, rfl, _, _, rfl, rfl, _, rfl, ite2 (fun c => ?_) (fun c => ?_)⟩
    · have c1 : r.2 - r.1 < 2 := of_decide_eq_true c
      refine ⟨_, rfl, .inl ⟨rfl, _, SqL.of ho⟩, _, rfl, _, rfl, _, _, rfl, rfl, _, _, rfl, ⟨by omega, by omega, by omega, by omega⟩, fun D nD => ?_⟩
      refine lcN_range (lo := r.1) (n := (r.2 + 1 - r.1).toNat) (fun j => some (.str (itemS (r.1 + (j : Int), r.1 + (j : Int))))) nD (by omega) (fun j G N1 N0 hj s2 c1 c0 => ?_) (fun H2 s2 lb => ?_)
      · refine ⟨rfl, yesT ⟨_, rfl, _, rfl, small_log (by omega) (by omega), ?_⟩⟩
        rw [nL_str (by omega)]
        refine c1 _ G _ (Same.refl _) rfl ?_
        unfold itemS itemL
        rw [if_pos rfl]
        exact .str _
      · have el : (List.range (r.2 + 1 - r.1).toNat).filterMap (fun (j : Nat) => some (PyData.str (itemS (r.1 + (j : Int), r.1 + (j : Int))))) = ((itemsR r).map itemS).map PyData.str := by
          unfold itemsR
          rw [if_pos c1, List.filterMap_eq_map', List.map_map, List.map_map]
          rfl
        rw [el] at lb
        have hrl : (itemsR r).length ≤ 2 := by
          have := itemsR_len k2
          omega
        refine ⟨o, D, _, _, rfl, rfl, s2 _ _ ho, lb.strs, Nat.le_of_lt (sizeOk (by simp only [List.length_map]; omega)), _, _, rfl, same_upd (sm.trans s2) no, ?_, ?_⟩
        · rw [upd_same, et, List.map_append, List.map_append]
        · rw [et, List.length_append]
          omega
    · have c1 : ¬ r.2 - r.1 < 2 := fun z => c (decide_eq_true z)
      have er : itemsR r = [r] := by
        unfold itemsR
        rw [if_neg c1]
      refine ⟨_, rfl, .inl ⟨rfl, _, SqL.of ho⟩, _, rfl, _, rfl, small_log k1 (by omega), ?_⟩
      rw [nL_str k1]
      have l1 := nL_len (k := r.1) (by omega)
      have l2 := nL_len (k := r.2) (by omega)
      refine ⟨_, _, rfl, rfl, ?_, ?_⟩
      · rw [SX.S_len, show (Str.ofString "-").length = 1 by decide +kernel]
        exact Nat.le_of_lt (sizeOk (by omega))
      refine ⟨_, rfl, _, rfl, small_log (by omega) (by omega), ?_⟩
      rw [nL_str (by omega), show Str.ofString "-" = SX.S [45] by decide +kernel, SX.S_cat]
      refine ⟨_, _, rfl, rfl, ?_, ?_⟩
      · rw [SX.S_len, SX.S_len, List.length_append]
        exact Nat.le_of_lt (sizeOk (by simp; omega))
      rw [SX.S_cat]
      refine ⟨o, _, _, rfl, rfl, ho, sizeOk (by rw [List.length_map, List.length_map]; omega), _, _, rfl, same_upd sm no, ?_, ?_⟩
      · rw [upd_same, et, er, List.map_append, List.map_append]
        have ei : itemS r = SX.S (nL r.1 ++ [45] ++ nL r.2) := by
          unfold itemS itemL
          rw [if_neg (by omega), List.append_assoc]
          rfl
        rw [← ei]
        rfl
      · rw [et, er, List.length_append]
        simp
        omega
  · obtain ⟨y2, y3, rfl, sm, ho, hil⟩ := p
    rw [hxl, List.take_length] at ho
    refine ⟨_, rfl, q H1 _ sm (.lst (xs := _) ?_ (dnAll_strs _))⟩
    rw [fr_new no]
    exact ho
def spWritten (K : PySem.W.Frag) : Sp := fun vs H Q _ => ∃ (n : Nat) (v : V) (R : List (Int × Int)), vs = [.int n, v] ∧ 1 ≤ n ∧ n ≤ 64 ∧ Dp K H v (eR R) ∧ Ok n R ∧ ∀ H', Same H H' → Q (.str (wText n R)) H'
theorem join_items (I : List (Int × Int)) : Txt.join (Str.ofString ",") (I.map itemS) = SX.S (textL I) := by
  have e : I.map itemS = (I.map itemL).map SX.S := by rw [List.map_map]; rfl
  rw [e, show Str.ofString "," = SX.S [44] by decide +kernel, SX.join_S]
  rfl
theorem join_size {I : List (Int × Int)} (h : ∀ r ∈ I, r.1 < 100 ∧ r.2 < 100) (hl : I.length ≤ 1000) : ((I.map itemS).map (·.length)).sum + (I.map itemS).length * (Str.ofString ",").length ≤ 16777216 := by
  have : ∀ J : List (Int × Int), (∀ r ∈ J, r.1 < 100 ∧ r.2 < 100) → ((J.map itemS).map (·.length)).sum ≤ 5 * J.length := by
    intro J
    induction J with
    | nil => intro _; exact Nat.le_refl _
    | cons r J ih =>
      intro hJ
      have := ih fun q hq => hJ q (List.mem_cons_of_mem _ hq)
      have h1 := (itemL_len (hJ r (by simp)).1 (hJ r (by simp)).2).2
      rw [List.map_cons, List.map_cons, List.sum_cons]
      have e : (itemS r).length = (itemL r).length := SX.S_len _
      rw [e, List.length_cons]
      omega
  have h1 := this I h
  rw [List.length_map, show (Str.ofString ",").length = 1 by decide +kernel]
  omega
theorem text_len {I : List (Int × Int)} (h : ∀ r ∈ I, r.1 < 100 ∧ r.2 < 100) (hl : I.length ≤ 1000) : (textL I).length ≤ 6000 := by
  rw [textL_len]
  have : ∀ J : List (Int × Int), (∀ r ∈ J, r.1 < 100 ∧ r.2 < 100) → lenI J ≤ 6 * J.length := by
    intro J
    induction J with
    | nil => intro _; exact Nat.le_refl _
    | cons r J ih =>
      intro hJ
      have := ih fun q hq => hJ q (List.mem_cons_of_mem _ hq)
      have h1 := (itemL_len (hJ r (by simp)).1 (hJ r (by simp)).2).2
      unfold lenI at this ⊢
      rw [List.map_cons, List.sum_cons, List.length_cons]
      omega
  have h1 := this I h
  omega
theorem ok_written (T : Tx K mg) : Cl P w K mg base 4 "written" (spWritten K) := by
  refine T.d_written.cl sc_written (fun vs H Q E h => ?_) (fun f cdv A outer s H vs Q E hr h => ?_)
  · obtain ⟨n, v, R, rfl, _⟩ := h
    rfl
  obtain ⟨n, v, R, rfl, h1, h2, hD, hk, q⟩ := h
  have hin : ∀ (p : Int → Bool), ∀ r ∈ TR n p, 0 ≤ r.1 ∧ r.1 ≤ r.2 ∧ r.2 < 64 := fun p r hr => by
    have := TR_in r hr
    omega
  have hit : ∀ (p : Int → Bool), ∀ r ∈ itemsOf (TR n p), r.1 < 100 ∧ r.2 < 100 := fun p r hr => by
    have := (TR_items n p).1 r hr
    omega
  have hil : ∀ (p : Int → Bool), (itemsOf (TR n p)).length ≤ 1000 := fun p => Nat.le_trans (okI_len (TR_items n p)) (by omega)
  have hTl : ∀ (p : Int → Bool), (TR n p).length ≤ 64 := fun p => Nat.le_trans (TR_ok h2 p).1 (by decide)
  refine ⟨_, (pss_cons (ps_expr (pe_k (ok_need_size T) hr (pa_cons (pv 0) pa_nil)))
      (pss_cons (ps_expr (pe_k (ok_need_set T) hr (pa_cons (pv 0) (pa_cons (pv 1) (pa_cons pe_int pa_nil)))))
      (pss_cons (ps_set (i := 2) sc_written.nd rfl (by first | exact Or.inl rfl | exact Or.inr rfl) (pe_join pe_str (pe_k (ok_items_of T) hr (pa_cons (pe_k (ok_told T) hr (pa_cons (pe_k (ok_all_in T) hr (pa_cons (pv 0) (pa_cons (pv 1) pa_nil))) pa_nil)) pa_nil))))
      (pss_cons (ps_set (i := 3) sc_written.nd rfl (by first | exact Or.inl rfl | exact Or.inr rfl) (pe_op op_add_str (pe_gS (by rfl) T.c_NOT) (pe_join pe_str (pe_k (ok_items_of T) hr (pa_cons (pe_k (ok_others T) hr (pa_cons (pv 0) (pa_cons (pv 1) pa_nil))) pa_nil)))))
      (pss_one (ps_ret (pe_ifExp (pt_cmpR (leDK K (hu65 hr)) (pe_tup (pa_cons (pe_callB call_len_str (by rfl) T.z_len (by decide +kernel) (pa_cons (pv 2) pa_nil)) (pa_cons (pv 2) pa_nil))) (pe_tup (pa_cons (pe_callB call_len_str (by rfl) T.z_len (by decide +kernel) (pa_cons (pv 3) pa_nil)) (pa_cons (pv 3) pa_nil))) (nomark _)) (pv 2) (pv 3)))))))), ?_⟩
  refine ⟨_, rfl, (n : Int), rfl, by omega, by omega, _, rfl, _, rfl, n, v, R, 0, rfl, hD, hk, fun H1 s1 => ?_⟩
  refine ⟨⟨_, rfl⟩, _, rfl, _, rfl, n, v, R, rfl, same_dp s1 hD, Nat.le_trans hk.1 (by decide), by omega, fun H2 p2 s2 nv2 => ?_⟩
  refine ⟨p2, _, rfl, nv2.dp, Nat.le_trans (allIn_len n _) (by omega), fun H3 p3 s3 nv3 => ?_⟩
  refine ⟨p3, TR n (has R), rfl, nv3.dp, hTl _, hin _, fun H4 p4 s4 nv4 => ?_⟩
  obtain ⟨a4, x4, rfl, f4, h4, d4⟩ := newV_list nv4
  obtain rfl := dpAll_strs (K := K) (same_dpAll fr_same d4.dp)
  refine ⟨_, a4, _, rfl, rfl, .inl (SqL.of h4), join_size (hit _) (hil _), ?_⟩
  rw [join_items]
  have s14 := s1.trans (s2.trans (s3.trans s4))
  refine ⟨⟨_, rfl⟩, _, rfl, _, rfl, n, v, R, rfl, h1, h2, same_dp s14 hD, hk, fun H5 p5 s5 nv5 => ?_⟩
  refine ⟨p5, TR n fun k => !has R k, rfl, nv5.dp, hTl _, hin _, fun H6 p6 s6 nv6 => ?_⟩
  obtain ⟨a6, x6, rfl, f6, h6, d6⟩ := newV_list nv6
  obtain rfl := dpAll_strs (K := K) (same_dpAll fr_same d6.dp)
  refine ⟨_, a6, _, rfl, rfl, .inl (SqL.of h6), join_size (hit _) (hil _), ?_⟩
  rw [join_items]
  have l1 := text_len (hit (has R)) (hil _)
  have l2 := text_len (hit fun k => !has R k) (hil _)
  refine ⟨_, _, rfl, rfl, ?_, ?_⟩
  · rw [show (Str.ofString "^").length = 1 by decide +kernel, SX.S_len (textL _)]
    exact Nat.le_of_lt (sizeOk (by omega))
  have eo : Str.ofString "^" ++ SX.S (textL (itemsOf (TR n fun k => !has R k))) = SX.S (othL n R) := by
    rw [show Str.ofString "^" = SX.S [94] by decide +kernel, SX.S_cat]
    rfl
  rw [eo]
  have e1 : textL (itemsOf (TR n (has R))) = oneL n R := rfl
  rw [e1]
  have z1 : (SX.S (oneL n R)).length ≤ sizeLine := by
    rw [SX.S_len]
    exact Nat.le_of_lt (sizeOk (by unfold oneL; omega))
  have z2 : (SX.S (othL n R)).length ≤ sizeLine := by
    rw [SX.S_len]
    exact Nat.le_of_lt (sizeOk (by unfold othL; rw [List.length_cons]; omega))
  have s16 := s14.trans (s5.trans s6)
  refine ⟨_, rfl, _, rfl, z1, _, rfl, by show 2 ≤ sizeLine; decide, fun t1 nt1 => ?_⟩
  refine ⟨_, rfl, _, rfl, z2, _, rfl, by show 2 ≤ sizeLine; decide, fun t2 nt2 => ?_⟩
  have s7 := same_new (o := .tup [.int ((SX.S (oneL n R)).length : Int), .str (SX.S (oneL n R))]) nt1
  have s8 := same_new (o := .tup [.int ((SX.S (othL n R)).length : Int), .str (SX.S (othL n R))]) nt2
  refine ⟨eLS (SX.S (oneL n R)), eLS (SX.S (othL n R)), .tup (SqT.of (s8 _ _ upd_same)) (.cons (.int _) (.cons (.str _) .nil)), .tup (SqT.of upd_same) (.cons (.int _) (.cons (.str _) .nil)), by simp [eLS, PySem.W.alike, PySem.W.alikeAll], (fun z => by cases z), by simp [eLS, PyData.depth, PyData.depthAll], _, rfl, ?_⟩
  have fin := q _ (s16.trans (s7.trans s8))
  unfold wText at fin
  refine ite2 (fun c => ?_) (fun c => ?_)
  · rw [if_pos c] at fin
    exact ⟨_, rfl, fin⟩
  · rw [if_neg c] at fin
    exact ⟨_, rfl, fin⟩
end
section
variable {P : Program} {w : World} {K : PySem.W.Frag} {mg : Str → Option Value} {base : Heap}
def spNumber : Sp := fun vs H Q _ => ∃ (k : Int) (n : Nat), vs = [.str (SX.S (nL k)), .int n] ∧ 0 ≤ k ∧ k < (n : Int) ∧ n ≤ 64 ∧ ∀ H', Same H H' → Q (.int k) H'
theorem nL_int {k : Int} (h0 : 0 ≤ k) (h1 : k < 100) : PySem.intText? (SX.S (nL k)) = some k := by
  have e := SX.int_S (a := nL k) (List.all_eq_true.mpr fun c hc => by
    have := nL_dig hc
    rw [decide_eq_true this.1, decide_eq_true this.2]
    rfl) (TL.numL_ne _) (Nat.le_trans (nL_len h1) (by decide))
  rw [e, nL_val h0]
theorem fig_mem {c : Nat} (h : 48 ≤ c ∧ c ≤ 57) : c ∈ (Str.ofString "0123456789").cps.toList := by
  have e : (Str.ofString "0123456789").cps.toList = [48, 49, 50, 51, 52, 53, 54, 55, 56, 57] := by decide +kernel
  rw [e]
  have : c = 48 ∨ c = 49 ∨ c = 50 ∨ c = 51 ∨ c = 52 ∨ c = 53 ∨ c = 54 ∨ c = 55 ∨ c = 56 ∨ c = 57 := by omega
  rcases this with rfl | rfl | rfl | rfl | rfl | rfl | rfl | rfl | rfl | rfl <;> decide
theorem ok_number_of (T : Tx K mg) : Cl P w K mg base 1 "number_of" spNumber := by
  refine T.d_number_of.cl sc_number_of (fun vs H Q E h => ?_) (fun f cdv A outer s H vs Q E hr h => ?_)
  · obtain ⟨k, n, rfl, _⟩ := h
    rfl
  obtain ⟨k, n, rfl, k0, k1, hn, q⟩ := h
  have l2 := nL_len (k := k) (by omega)
  have l1 := nL_pos k
  have z : (SX.S (nL k)).length = (nL k).length := SX.S_len _
  have hint := nL_int k0 (show k < 100 by omega)
  refine ⟨_, (pss_cons (ps_if (PW.pt (pw_or (pt_not (pt_chain op_le op_le pe_int (pe_callB call_len_str (by rfl) T.z_len (by decide +kernel) (pa_cons (pv 0) pa_nil)) pe_int)) (pw_or1 (pt_cmpR (neD K hr.units) (pe_lc (own := [("sign", 2)]) (g := (gName 2)) (tt := _) (by rfl) sc_number_of.nd (pi_str (pv 0)) (blkOk_by (own := [("sign", 2)]) (N := n_number_of) (sc := defScope s_number_of) (by decide +kernel)) (fun _ _ _ _ _ => (pg_name (i := 2) sc_number_of.nd rfl (by first | exact Or.inl rfl | exact Or.inr rfl))) (fun _ _ _ _ _ => (pts_one (pt_cmpR op_notIn_sign (pv 2) (pe_gS (by rfl) T.c_FIGURES) (by rfl)))) (fun _ _ _ _ _ => (pv 2))) (pe_lst pa_nil) (nomark _))))) (pss_one (ps_ret pe_non)) pss_nil)
      (pss_cons (ps_if (PW.pt (pw_or (PW.pt (pw_and (pt_cmpR op_eq (pe_ix ix_str (pv 0) pe_int (fun _ _ => rfl)) pe_str (nomark _)) (pw_and1 (pt_cmpR op_ne (pv 0) pe_str (nomark _))))) (pw_or1 (pt_cmpR op_ge (pe_callTy call_int_str (by rfl) T.z_int (by decide +kernel) (pa_cons (pv 0) pa_nil)) (pv 1) (nomark _))))) (pss_one (ps_ret pe_non)) pss_nil)
      (pss_one (ps_ret (pe_callTy call_int_str (by rfl) T.z_int (by decide +kernel) (pa_cons (pv 0) pa_nil)))))), ?_⟩
  refine ⟨_, rfl, _, rfl, Nat.le_of_lt (sizeOk (by omega)), _, _, rfl, rfl, true, bT (by omega), iteT ⟨_, _, rfl, rfl, true, bT (by omega), iteF ?_⟩⟩
  refine ⟨_, rfl, _, rfl, fun D nD => lcN_its (fun _ => none) nD (by show (SX.S (nL k)).length ≤ 1000000; omega) (fun i c G N1 N0 hc sm c1 c0 => ?_) (fun H1 s1 lb => ?_)⟩
  · have hd : 48 ≤ c ∧ c ≤ 57 := nL_dig (List.mem_of_getElem? hc)
    refine ⟨rfl, _, rfl, c, _, rfl, rfl, _, rfl, ?_⟩
    rw [decide_eq_true (fig_mem hd)]
    exact iteF (c0 G (Same.refl _) rfl)
  have e0 : (List.range (SX.S (nL k)).cps.size).filterMap (fun _ => (none : Option PyData)) = [] := List.filterMap_eq_nil_iff.mpr fun _ _ => rfl
  rw [e0] at lb
  refine ⟨Nat.zero_le _, fun p np => ⟨.list [], .list [], (lb.same (same_new np)).newV.dp, .lst (SqL.of upd_same) .nil, (sh_nil (n := 0)).shaped, (sh_nil (n := 0)).shaped, _, rfl, itF (by rw [eqv_nil]; simp) ?_⟩⟩
  have s2 := s1.trans (same_new (o := .lst []) np)
  generalize upd H1 p (.lst []) = H2 at s2
  -- a needless 0, too great
  have big : ∀ Q' : Bool → Hp → Prop, Q' false H2 → (tTest (tOp (rI0 fun i j => .bl (decide (j ≤ i))) (tCB (fun xs H Q => ∃ a n, xs = [.str a] ∧ PySem.intText? a = some n ∧ a.length ≤ 640 ∧ Q (.int n) H) (tCons (tVar 0) tNil)) (tVar 1))) [some (.str (SX.S (nL k))), some (.int n), none] H2 Q' := fun Q' h => by
    refine ⟨_, rfl, _, _, rfl, hint, by omega, _, rfl, _, _, rfl, rfl, _, rfl, ?_⟩
    rw [decide_eq_false (by omega)]
    exact h
  have fin : (tCB (fun xs H Q => ∃ a n, xs = [.str a] ∧ PySem.intText? a = some n ∧ a.length ≤ 640 ∧ Q (.int n) H) (tCons (tVar 0) tNil)) [some (.str (SX.S (nL k))), some (.int n), none] H2 Q := ⟨_, rfl, _, _, rfl, hint, by omega, q H2 s2⟩
  have g0 : (nL k)[0]? = some (nL k)[0] := List.getElem?_eq_getElem (by omega)
  refine ⟨_, rfl, _, _, (nL k)[0], rfl, rfl, Nat.le_of_lt (sizeOk (by omega)), atI_nat (j := 0) g0, rfl, _, rfl, ite2 (fun c => ?_) (fun c => ?_)⟩
  · have c1 : (nL k)[0] = 48 := by
      have z := V.str.inj (of_decide_eq_true c)
      have z2 : [(nL k)[0]] = [48] := SX.S_inj (z.trans (by decide +kernel : Str.ofString "0" = SX.S [48]))
      injection z2
    have e1 : nL k = [48] := nL_head k.toNat (by omega) (by rw [← c1]; exact g0)
    refine ⟨_, rfl, rfl, _, rfl, itF ?_ (big _ (iteF ?_))⟩
    · have : V.str (SX.S (nL k)) = V.str (Str.ofString "0") := by
        rw [e1]
        exact congrArg V.str (by decide +kernel)
      rw [decide_eq_true this]
      simp
    · exact fin
  · exact iteF (big _ (iteF fin))
def numsI (r : Int × Int) : List Int := if r.1 = r.2 then [r.1] else [r.1, r.2]
theorem itemL_join (r : Int × Int) : itemL r = TL.joinL [45] ((numsI r).map nL) := by
  unfold itemL numsI
  split <;> rfl
theorem split_item (r : Int × Int) : Txt.split (itemS r) (Str.ofString "-") = ((numsI r).map fun k => SX.S (nL k)) := by
  rw [show Str.ofString "-" = SX.S [45] by decide +kernel]
  unfold itemS
  rw [SX.split_S (by simp) (by decide), itemL_join, SX.spl_join (by unfold numsI; split <;> simp) fun p hp => ?_, List.map_map]
  · rfl
  · obtain ⟨k, _, rfl⟩ := List.mem_map.mp hp
    intro h
    have := nL_dig h
    omega
theorem inV_non (ns : List Int) : inV .non (ns.map V.int) = false := by
  unfold inV
  rw [List.any_eq_false]
  intro x hx
  obtain ⟨n, _, rfl⟩ := List.mem_map.mp hx
  exact Bool.false_ne_true
def spItem : Sp := fun vs H Q _ => ∃ (r : Int × Int) (n : Nat), vs = [.str (itemS r), .int n] ∧ 0 ≤ r.1 ∧ r.1 ≤ r.2 ∧ r.2 < (n : Int) ∧ n ≤ 64 ∧ ∀ H' p, Same H H' → NewV H H' p (eP r) → Q p H'
theorem ok_item_of (T : Tx K mg) : Cl P w K mg base 2 "item_of" spItem := by
  refine T.d_item_of.cl sc_item_of (fun vs H Q E h => ?_) (fun f cdv A outer s H vs Q E hr h => ?_)
  · obtain ⟨r, n, rfl, _⟩ := h
    rfl
  obtain ⟨r, n, rfl, h0, h1, h2, hn, q⟩ := h
  have hl := (itemL_len (r := r) (by omega) (by omega)).2
  have z : (itemS r).length = (itemL r).length := SX.S_len _
  have hnl : (numsI r).length ≤ 2 := by unfold numsI; split <;> simp
  have hnm : ∀ k ∈ numsI r, 0 ≤ k ∧ k < (n : Int) := fun k hk => by
    unfold numsI at hk
    split at hk
    · rw [List.mem_singleton.mp hk]
      omega
    · simp only [List.mem_cons, List.not_mem_nil, or_false] at hk
      rcases hk with rfl | rfl <;> omega
  refine ⟨_, (pss_cons (ps_setLc (i := 2) (own := [("part", 3)]) (g := (gName 3)) (tt := tYes) (by rfl) sc_item_of.nd rfl rfl (sw_true rfl rfl rfl (by decide +kernel)) (piL K (pe_split (pv 0) pe_str)) (blkOk_by (own := [("part", 3)]) (N := n_item_of) (sc := defScope s_item_of) (by decide +kernel)) (fun _ _ _ _ _ => (pg_name (i := 3) sc_item_of.nd rfl (by first | exact Or.inl rfl | exact Or.inr rfl))) (fun _ _ _ _ _ => pts_nil) (fun _ _ _ _ _ => (pe_k (ok_number_of T) hr (pa_cons (pv 3) (pa_cons (pv 1) pa_nil)))))
      (pss_cons (ps_if (PW.pt (pw_or (pt_cmpR op_gt (pe_callB (lenQ K) (by rfl) T.z_len (by decide +kernel) (pa_cons (pv 2) pa_nil)) pe_int (nomark _)) (pw_or1 (pt_cmpR (inQ K) pe_non (pv 2) (by rfl))))) (pss_one (ps_ret pe_non)) pss_nil)
      (pss_cons (ps_if (PW.pt (pw_and (pt_cmpR op_eq (pe_callB (lenQ K) (by rfl) T.z_len (by decide +kernel) (pa_cons (pv 2) pa_nil)) pe_int (nomark _)) (pw_and1 (pt_cmpR op_ge (pe_ix (ixL K) (pv 2) pe_int (fun _ _ => rfl)) (pe_ix (ixL K) (pv 2) pe_int (fun _ _ => rfl)) (nomark _))))) (pss_one (ps_ret pe_non)) pss_nil)
      (pss_one (ps_ret (pe_tup (pa_cons (pe_ix (ixL K) (pv 2) pe_int (fun _ _ => rfl)) (pa_cons (pe_ix (ixL K) (pv 2) (pe_un un_neg pe_int) (fun _ _ => rfl)) pa_nil)))))))), ?_⟩
  refine ⟨_, rfl, ⟨_, rfl⟩, _, _, rfl, rfl, by decide +kernel, by have := sizeOk (n := (itemS r).length + 2) (by omega); omega, fun a0 na0 => ?_⟩
  rw [split_item]
  have hS : SqL K (upd H a0 (.lst (((numsI r).map fun k => SX.S (nL k)).map V.str))) a0 (((numsI r).map fun k => SX.S (nL k)).map V.str) := SqL.of upd_same
  have s0 : Same H (upd H a0 (.lst (((numsI r).map fun k => SX.S (nL k)).map V.str))) := same_new na0
  generalize upd H a0 (.lst (((numsI r).map fun k => SX.S (nL k)).map V.str)) = H0 at hS s0
  refine ⟨a0, rfl, ⟨_, hS⟩, fun D nD => lcN_list (fun j => ((numsI r)[j]?).bind fun k => some (.int k)) hS nD (by simp only [List.length_map]; omega) (fun j x G N1 N0 hx sm c1 c0 => ?_) (fun H1 s1 lb => ?_)⟩
  · obtain ⟨z', hz', rfl⟩ := map_get hx
    rw [List.getElem?_map] at hz'
    cases e : (numsI r)[j]? with
    | none => rw [e] at hz'; cases hz'
    | some k =>
      rw [e] at hz'
      obtain rfl := Option.some.inj hz'
      obtain ⟨b0, b1⟩ := hnm k (List.mem_of_getElem? e)
      exact ⟨rfl, yesT ⟨_, rfl, _, rfl, k, n, rfl, b0, b1, hn, fun G2 s2 => c1 _ G2 _ s2 (by rw [e]; rfl) (.int _)⟩⟩
  rw [List.length_map, List.length_map, list_map] at lb
  have hD := lb.ints
  have sH := s0.trans s1
  have hlen : ((numsI r).map V.int).length = (numsI r).length := List.length_map ..
  refine ⟨_, rfl, D, _, rfl, .inl (SqL.of hD), _, _, rfl, rfl, false, bF (by rw [hlen]; omega), iteF ?_⟩
  refine ⟨_, rfl, D, _, rfl, .inl (SqL.of hD), rfl, flat_ints _, _, rfl, ?_⟩
  rw [if_neg Bool.false_ne_true, inV_non]
  refine iteF ?_
  have last : ∀ Q' : VK, (∀ t, H1 t = none → Q' (.ref t) (upd H1 t (.tup [.int r.1, .int r.2]))) → (tTup (tCons (tOp (rIxL K) (tVar 2) (tC (.int 0))) (tCons (tOp (rIxL K) (tVar 2) (tUn (rU fun i => .int (-i)) (tC (.int 1)))) tNil))) [some (.str (itemS r)), some (.int n), some (.ref D), none] H1 Q' := fun Q' h => by
    by_cases e : r.1 = r.2
    · have en : numsI r = [r.1] := by unfold numsI; rw [if_pos e]
      rw [en] at hD
      refine ⟨_, rfl, D, _, 0, _, rfl, rfl, SqL.of hD, rfl, _, rfl, 1, rfl, D, _, -1, _, rfl, rfl, SqL.of hD, rfl, by show 2 ≤ sizeLine; decide, fun t nt => ?_⟩
      have := h t nt
      rw [← e] at this
      exact this
    · have en : numsI r = [r.1, r.2] := by unfold numsI; rw [if_neg e]
      rw [en] at hD
      exact ⟨_, rfl, D, _, 0, _, rfl, rfl, SqL.of hD, rfl, _, rfl, 1, rfl, D, _, -1, _, rfl, rfl, SqL.of hD, rfl, by show 2 ≤ sizeLine; decide, fun t nt => h t nt⟩
  have fin : ∀ t, H1 t = none → Q (.ref t) (upd H1 t (.tup [.int r.1, .int r.2])) := fun t nt => q _ _ (sH.trans (same_new nt)) ((new_pair nt).mono sH (Same.refl _))
  by_cases e : r.1 = r.2
  · have en : (numsI r).length = 1 := by unfold numsI; rw [if_pos e]; rfl
    refine ⟨_, rfl, D, _, rfl, .inl (SqL.of hD), rfl, _, rfl, itF ?_ (iteF (last _ fin))⟩
    rw [hlen, en]
    decide
  · have en : numsI r = [r.1, r.2] := by unfold numsI; rw [if_neg e]
    have en2 : (numsI r).length = 2 := by rw [en]; rfl
    have hD2 := hD
    rw [en] at hD2
    refine ⟨_, rfl, D, _, rfl, .inl (SqL.of hD), rfl, _, rfl, itT ?_ ?_⟩
    · rw [hlen, en2]
      decide
    · exact ⟨_, rfl, D, _, 0, _, rfl, rfl, SqL.of hD2, rfl, _, rfl, D, _, 1, _, rfl, rfl, SqL.of hD2, rfl, _, _, rfl, rfl, false, bF (by omega), iteF (last _ fin)⟩
def spRead : Sp := fun vs H Q _ => ∃ (n : Nat) (neg : Bool) (I : List (Int × Int)), vs = [.int n, .str (SX.S ((if neg then [94] else []) ++ textL I))] ∧ 1 ≤ n ∧ n ≤ 64 ∧ OkI n I ∧ (neg = true → I.length ≤ 40) ∧ ∀ H' p, Same H H' → NewV H H' p (eR (TR n fun k => if neg then !has I k else has I k)) → Q p H'
theorem split_text {I : List (Int × Int)} (h : I ≠ []) : Txt.split (SX.S (textL I)) (Str.ofString ",") = I.map itemS := by
  rw [show Str.ofString "," = SX.S [44] by decide +kernel]
  unfold textL
  rw [SX.split_S (by simp) (by decide), SX.spl_join (by simpa using h) fun p hp => ?_, List.map_map]
  · rfl
  · obtain ⟨r, _, rfl⟩ := List.mem_map.mp hp
    exact itemL_free.1
theorem cut_head (neg : Bool) (I : List (Int × Int)) : decide (V.str (cutS (SX.S ((if neg then [94] else []) ++ textL I)) none (some 1)) = V.str (Str.ofString "^")) = neg := by
  rw [C8.cutS_slice, SX.slice_to (by decide), show Str.ofString "^" = SX.S [94] by decide +kernel]
  cases neg with
  | true => exact decide_eq_true rfl
  | false =>
    refine decide_eq_false fun z => ?_
    have z2 := SX.S_inj (V.str.inj z)
    cases I with
    | nil => simp [textL, TL.joinL] at z2
    | cons r I =>
      obtain ⟨c, l, e, h⟩ := textL_head (r := r) (I := I)
      rw [if_neg Bool.false_ne_true, List.nil_append, e] at z2
      simp at z2
      omega
theorem cut_tail (I : List (Int × Int)) : cutS (SX.S ((if true then [94] else []) ++ textL I)) (some 1) none = SX.S (textL I) := by
  rw [C8.cutS_slice, SX.slice_from (by decide)]
  rfl
theorem ok_read (T : Tx K mg) : Cl P w K mg base 4 "read" spRead := by
  refine T.d_read.cl sc_read (fun vs H Q E h => ?_) (fun f cdv A outer s H vs Q E hr h => ?_)
  · obtain ⟨n, neg, I, rfl, _⟩ := h
    rfl
  obtain ⟨n, neg, I, rfl, h1, h2, hI, hneg, q⟩ := h
  have hIl := okI_len hI
  have hin : ∀ r ∈ I, r.1 < 100 ∧ r.2 < 100 := fun r hr => by
    have := hI.1 r hr
    omega
  have htl := text_len hin (by omega)
  have hxl : (SX.S ((if neg then [94] else []) ++ textL I)).length ≤ 7000 := by
    rw [SX.S_len, List.length_append]
    cases neg <;> simp <;> omega
  have hxz : (SX.S ((if neg then [94] else []) ++ textL I)).length ≤ sizeLine := Nat.le_of_lt (sizeOk (by omega))
  have hch := cut_head neg I
  have hct := cut_tail I
  have hx0 : neg = false → SX.S ((if neg then [94] else []) ++ textL I) = SX.S (textL I) := fun e => by rw [e]; rfl
  have hx1 : neg = true → SX.S ((if neg then [94] else []) ++ textL I) = SX.S ((if true then [94] else []) ++ textL I) := fun e => by rw [e]
  generalize SX.S ((if neg then [94] else []) ++ textL I) = x at hxl hxz hch hx0 hx1
  refine ⟨_, (pss_cons (ps_expr (pe_k (ok_need_size T) hr (pa_cons (pv 0) pa_nil)))
      (pss_cons (ps_set (i := 2) sc_read.nd rfl (by first | exact Or.inl rfl | exact Or.inr rfl) (pe_ifExp (pt_cmpR op_eq (pe_slice sl_str (pv 1) po_none (po_some pe_int)) (pe_gS (by rfl) T.c_NOT) (nomark _)) (pe_slice sl_str (pv 1) (po_some pe_int) po_none) (pv 1)))
      (pss_cons (ps_set (i := 3) sc_read.nd rfl (by first | exact Or.inl rfl | exact Or.inr rfl) (pe_lst pa_nil))
      (pss_cons (ps_for PassesOwn.never rfl (piEnum K (by rfl) T.z_enumerate (pa_cons (pe_ifExp (pt_cmpR op_ne (pv 2) pe_str (nomark _)) (pe_split (pv 2) pe_str) (pe_lst pa_nil)) pa_nil)) (pgT K (by rfl) (pgs_cons (pg_name (i := 4) sc_read.nd rfl (by first | exact Or.inl rfl | exact Or.inr rfl)) (pgs_cons (pg_name (i := 5) sc_read.nd rfl (by first | exact Or.inl rfl | exact Or.inr rfl)) pgs_nil)))
      (pss_cons (ps_set (i := 6) sc_read.nd rfl (by first | exact Or.inl rfl | exact Or.inr rfl) (pe_k (ok_item_of T) hr (pa_cons (pv 5) (pa_cons (pv 0) pa_nil))))
      (pss_cons (ps_if (PW.pt (pw_or (pt_cmpR op_isN (pv 6) pe_non (nomark _)) (pw_or1 (PW.pt (pw_and (pt_cmpR (neD K hr.units) (pv 3) (pe_lst pa_nil) (nomark _)) (pw_and1 (pt_cmpR op_le (pe_ix (ixT K) (pv 6) pe_int (fun _ _ => rfl)) (pe_ix (ixT K) (pe_ix (ixL K) (pv 3) (pe_un un_neg pe_int) (fun _ _ => rfl)) pe_int (fun _ _ => rfl)) (nomark _)))))))) (pss_one ps_never) pss_nil)
      (pss_one (ps_expr (pe_bm PySem.F.plainAttrs_list PySem.F.slot_list_append PySem.F.type_list_append mt_append (pv 3) (pa_cons (pv 6) pa_nil)))))))
      (pss_cons (ps_if (pt_cmpR op_eq (pe_slice sl_str (pv 1) po_none (po_some pe_int)) (pe_gS (by rfl) T.c_NOT) (nomark _)) (pss_one (ps_ret (pe_k (ok_others T) hr (pa_cons (pv 0) (pa_cons (pv 3) pa_nil))))) pss_nil)
      (pss_one (ps_ret (pe_k (ok_told T) hr (pa_cons (pe_k (ok_all_in T) hr (pa_cons (pv 0) (pa_cons (pv 3) pa_nil))) pa_nil))))))))), ?_⟩
  refine ⟨_, rfl, (n : Int), rfl, by omega, by omega, ?_⟩
  -- the rest
  dsimp only
  refine seq_set (t := tIf _ _ _) (i := 2) (fun v H' => v = .str (SX.S (textL I)) ∧ H' = H) (fun v H' hJ => ?_) (fun Q' hQ' => ?_)
  rotate_left
  · refine ⟨_, rfl, 1, rfl, _, rfl, hxz, rfl, _, rfl, ?_⟩
    rw [hch]
    cases neg with
    | true =>
      refine iteT ⟨_, rfl, 1, rfl, _, rfl, hxz, ?_⟩
      rw [hx1 rfl, hct]
      exact hQ' _ _ ⟨rfl, rfl⟩
    | false => exact iteF ⟨_, rfl, hQ' _ _ ⟨congrArg V.str (hx0 rfl), rfl⟩⟩
  obtain ⟨rfl, rfl⟩ := hJ
  refine ⟨Nat.zero_le _, fun o no => ?_⟩
  have s0 : Same H' (upd H' o (.lst [])) := same_new no
  have lb0 : LB H' (upd H' o (.lst [])) o [] := LB.nil no
  generalize upd H' o (.lst []) = H0 at s0 lb0
  -- the words
  dsimp only [gName]
  refine seq_for ?_
  refine for_enum_if (fun v G => ∃ L, v = .ref L ∧ Same H0 G ∧ G L = some (.lst ((I.map itemS).map V.str))) (fun v G hJ => ?_) (fun Q' hQ' => ?_)
  rotate_left
  · refine ⟨_, rfl, rfl, _, rfl, ?_⟩
    by_cases e : I = []
    · have e1 : V.str (SX.S (textL I)) = V.str (Str.ofString "") := by
        rw [e]
        exact congrArg V.str (by decide +kernel)
      rw [decide_eq_true e1]
      refine iteF ⟨Nat.zero_le _, fun L nL => hQ' _ _ ⟨L, rfl, same_new nL, ?_⟩⟩
      rw [e]
      exact upd_same
    · have e1 : ¬ V.str (SX.S (textL I)) = V.str (Str.ofString "") := fun z => by
        have z2 := SX.S_inj ((V.str.inj z).trans (by decide +kernel : Str.ofString "" = SX.S []))
        exact e (textL_ne.mp z2)
      rw [decide_eq_false e1]
      refine iteT ⟨_, rfl, ⟨_, rfl⟩, _, _, rfl, rfl, by decide +kernel, ?_, fun L nL => ?_⟩
      · rw [SX.S_len]
        have := sizeOk (n := (textL I).length + 2) (by omega)
        omega
      · rw [split_text e]
        exact hQ' _ _ ⟨L, rfl, same_new nL, upd_same⟩
  obtain ⟨L, rfl, sL, hL⟩ := hJ
  have lbL := lb0.same sL
  have s0L := s0.trans sL
  refine ⟨L, _, rfl, SqL.of hL, for_enum (xs := (I.map itemS).map V.str) (fun i σ G' => ∃ y4 y5 y6 : Option V, σ = [some (.int n), some (.str x), some (.str (SX.S (textL I))), some (.ref o), y4, y5, y6] ∧ Same H' G' ∧ G' L = some (.lst ((I.map itemS).map V.str)) ∧ LB H' G' o ((I.take i).map eP)) ⟨none, none, none, rfl, s0L, hL, lbL⟩ (fun i σ G' _ p => ?_) (fun i z t σ G' hz nt p => ?_) (fun σ G' p => ?_)⟩
  · obtain ⟨_, _, _, _, _, h, _⟩ := p
    exact SqL.of h
  · obtain ⟨y4, y5, y6, rfl, sm, hL', lb⟩ := p
    obtain ⟨z', hz', rfl⟩ := map_get hz
    have hzz : ∃ r, I[i]? = some r ∧ z' = itemS r := by
      rw [List.getElem?_map] at hz'
      cases e : I[i]? with
      | none => rw [e] at hz'; cases hz'
      | some r => rw [e] at hz'; exact ⟨r, rfl, (Option.some.inj hz').symm⟩
    obtain ⟨r, hr', rfl⟩ := hzz
    have hi : i < I.length := (List.getElem?_eq_some_iff.mp hr').1
    obtain ⟨k1, k2, k3⟩ := hI.1 r (List.mem_of_getElem? hr')
    have st : Same G' (upd G' t (.tup [.int (i : Nat), .str (itemS r)])) := same_new nt
    refine ⟨t, _, rfl, SqT.of upd_same, rfl, _, _, rfl, _, _, rfl, rfl, ?_⟩
    refine ⟨_, rfl, _, rfl, r, n, rfl, k1, k2, k3, h2, fun G2 p2 s2 nv2 => ?_⟩
    have s12 := st.trans s2
    have lb2 := lb.same s12
    have hL2 := s12 _ _ hL'
    have nv := nv2.mono st (Same.refl _)
    obtain ⟨t2, rfl, hT2⟩ := dp_pair (K := K) (r := r) nv2.dp
    -- no refusal
    refine ⟨_, rfl, rfl, false, bF (fun z => by cases z), iteF ?_⟩
    obtain ⟨xs, ho, hxs⟩ := lb2.at
    rw [List.length_map, List.length_take] at hxs
    have fin : ∀ G3 : Hp, Same G2 G3 → ∃ (l : Addr) (ys : List V) (y : V), V.ref o = .ref l ∧ [V.ref t2] = [y] ∧ G3 l = some (.lst ys) ∧ ys.length < sizeLine ∧ ∃ y4' y5' y6' : Option V, [some (V.int n), some (.str x), some (.str (SX.S (textL I))), some (.ref o), some (.int (i : Nat)), some (.str (itemS r)), some (.ref t2)] = [some (V.int n), some (.str x), some (.str (SX.S (textL I))), some (.ref o), y4', y5', y6'] ∧ Same H' (upd G3 l (.lst (ys ++ [y]))) ∧ (upd G3 l (.lst (ys ++ [y]))) L = some (.lst ((I.map itemS).map V.str)) ∧ LB H' (upd G3 l (.lst (ys ++ [y]))) o ((I.take (i + 1)).map eP) := fun G3 s3 => by
      obtain ⟨ys, w1, w2, lb3⟩ := lb.snoc sm (s12.trans s3) (nv.mono (Same.refl _) s3)
      rw [List.length_map, List.length_take] at w2
      refine ⟨o, ys, _, rfl, rfl, w1, sizeOk (by omega), _, _, _, rfl, same_upd (sm.trans (s12.trans s3)) lb.1, ?_, ?_⟩
      · have nLo : L ≠ o := fun z => by
          have h' := (s12.trans s3) _ _ hL'
          rw [z] at h'
          obtain ⟨xs0, g0, d0⟩ := lb.same (s12.trans s3) |>.2
          rw [h'] at g0
          have := HO.lst.inj (Option.some.inj g0)
          have dl := d0.len
          rw [← this, List.length_map, List.length_map, List.length_map, List.length_take] at dl
          omega
        rw [upd_ne nLo]
        exact (s12.trans s3) _ _ hL'
      · rw [List.take_add_one, hr', List.map_append]
        exact lb3
    refine ⟨_, rfl, Nat.zero_le _, fun p np => ⟨.list ((I.take i).map eP), .list [], (lb2.same (same_new np)).newV.dp, .lst (SqL.of upd_same) .nil, (Sh.eR (n := 0) _).shaped, (sh_nil (n := 0)).shaped, _, rfl, ?_⟩⟩
    rw [eqv_nil]
    have s3 : Same G2 (upd G2 p (.lst [])) := same_new np
    rcases List.eq_nil_or_concat (I.take i) with e | ⟨ini, b, e⟩
    · refine itF (by rw [e]; simp) (iteF ?_)
      obtain ⟨l, ys, y, f1, f2, f3, f4, f5⟩ := fin _ s3
      exact ⟨_, rfl, .inl ⟨rfl, _, SqL.of (s3 _ _ ho)⟩, _, rfl, l, ys, y, f1, f2, f3, f4, f5⟩
    · rw [List.concat_eq_append] at e
      refine itT (by rw [e]; simp) ?_
      have lb4 := lb2.same s3
      rw [e, List.map_append] at lb4
      obtain ⟨xi, x', hoo, hd⟩ := lb4.last
      obtain ⟨t', rfl, hT'⟩ := dp_pair (K := K) (r := b) (NewV.dp hd)
      have hlt : b.2 < r.1 := by
        have hb : b ∈ I.take i := by rw [e]; simp
        obtain ⟨j, hj⟩ := List.getElem?_of_mem hb
        have hj2 : j < i := by
          have := (List.getElem?_eq_some_iff.mp hj).1
          rw [List.length_take] at this
          omega
        rw [List.getElem?_take_of_lt hj2] at hj
        obtain ⟨g1, g2⟩ := List.getElem?_eq_some_iff.mp hj
        obtain ⟨g3, g4⟩ := List.getElem?_eq_some_iff.mp hr'
        have := List.pairwise_iff_getElem.mp hI.2 j i g1 g3 hj2
        rw [g2, g4] at this
        exact this
      refine ⟨_, rfl, t2, _, 0, _, rfl, rfl, same_tup s3 hT2, rfl, _, rfl, 1, rfl, o, _, -1, _, rfl, rfl, SqL.of hoo, atI_last _ _, t', _, 1, _, rfl, rfl, hT', rfl, _, _, rfl, rfl, false, bF (by omega), iteF ?_⟩
      obtain ⟨l, ys, y, f1, f2, f3, f4, f5⟩ := fin _ s3
      exact ⟨_, rfl, .inl ⟨rfl, _, SqL.of (s3 _ _ ho)⟩, _, rfl, l, ys, y, f1, f2, f3, f4, f5⟩
  · obtain ⟨y4, y5, y6, rfl, sm, _, lb⟩ := p
    rw [List.length_map, List.length_map, List.take_length] at lb
    have hpF : Dp K G' (.ref o) (eR I) := lb.newV.dp
    refine ⟨_, rfl, 1, rfl, _, rfl, hxz, rfl, _, rfl, ?_⟩
    rw [hch]
    cases neg with
    | true =>
      refine iteT ⟨_, rfl, _, rfl, n, _, I, rfl, h1, h2, hpF, ⟨hneg rfl, hI.1⟩, fun H2 p2 s2 nv2 => ?_⟩
      exact q H2 p2 (sm.trans s2) (nv2.mono sm (Same.refl _))
    | false =>
      refine iteF ⟨_, rfl, _, rfl, n, _, I, rfl, hpF, by omega, by omega, fun H2 p2 s2 nv2 => ?_⟩
      refine ⟨p2, _, rfl, nv2.dp, Nat.le_trans (allIn_len n _) (by omega), fun H3 p3 s3 nv3 => ?_⟩
      exact q H3 p3 (sm.trans (s2.trans s3)) (nv3.mono (sm.trans s2) (Same.refl _))
end
section
variable {P : Program} {w : World} {K : PySem.W.Frag} {mg : Str → Option Value} {base : Heap}
def spDice (K : PySem.W.Frag) : Sp := fun vs H Q _ => ∃ (a : Addr) (ns : List Int) (k : Int), vs = [.ref a, .int k] ∧ SqL K H a (ns.map V.int) ∧ ns.length ≤ 63 ∧ 0 ≤ k ∧ ∀ H' p D, Same H H' → H p = none → H' p = some (.lst (D.map V.int)) → DiceOk D → Q (.ref p) H'
theorem ok__law_dice (T : Tx K mg) : Cl P w K mg base 1 "_law_dice" (spDice K) := by
  refine T.d__law_dice.cl sc__law_dice (fun vs H Q E h => ?_) (fun f cdv A outer s H vs Q E hr h => ?_)
  · obtain ⟨a, ns, k, rfl, _⟩ := h
    rfl
  obtain ⟨a, ns, k, rfl, hS, h63, h0, q⟩ := h
  refine ⟨_, (pss_cons (ps_set (i := 2) sc__law_dice.nd rfl (by first | exact Or.inl rfl | exact Or.inr rfl) (pv 1))
      (pss_cons (ps_for PassesOwn.never rfl (piL K (pv 0)) (pg_name (i := 3) sc__law_dice.nd rfl (by first | exact Or.inl rfl | exact Or.inr rfl))
      (pss_one (ps_set (i := 2) sc__law_dice.nd rfl (by first | exact Or.inl rfl | exact Or.inr rfl) (pe_op op_mod (pe_op op_add (pe_op op_mul (pv 2) pe_int) (pe_callB call_abs (by rfl) T.z_abs (by decide +kernel) (pa_cons (pv 3) pa_nil))) pe_int))))
      (pss_one (ps_ret (pe_op op_cat (pe_lst (pa_cons (pv 2) (pa_cons pe_int pa_nil))) (pe_lc (own := [("_law_cell", 3)]) (g := (gName 3)) (tt := _) (by rfl) sc__law_dice.nd (piL K (pv 0)) (blkOk_by (own := [("_law_cell", 3)]) (N := n__law_dice) (sc := defScope s__law_dice) (by decide +kernel)) (fun _ _ _ _ _ => (pg_name (i := 3) sc__law_dice.nd rfl (by first | exact Or.inl rfl | exact Or.inr rfl))) (fun _ _ _ _ _ => (pts_one (pt_cmpR op_ge (pv 3) (pe_op op_pow pe_int pe_int) (nomark _)))) (fun _ _ _ _ _ => (pv 3)))))))), ?_⟩
  refine ⟨_, rfl, _, rfl, a, rfl, ⟨_, hS⟩, for_list (xs := ns.map V.int) (fun i σ H1 => ∃ f y3, σ = [some (.ref a), some (.int k), some (.int f), y3] ∧ 0 ≤ f ∧ H1 = H) ⟨k, none, rfl, h0, rfl⟩ (fun i σ H1 _ p => ?_) (fun i x σ H1 hx p => ?_) (fun σ H1 p => ?_)⟩
  · obtain ⟨_, _, _, _, rfl⟩ := p
    exact hS
  · obtain ⟨g, y3, rfl, hg, rfl⟩ := p
    obtain ⟨c, hc, rfl⟩ := map_get hx
    refine ⟨_, rfl, _, _, rfl, rfl, .inr ⟨by decide, by decide⟩, _, rfl, _, rfl, _, _, rfl, rfl, _, _, rfl, rfl, (by show (0 : Int) < 2147483647; decide), ?_⟩
    exact ⟨_, _, rfl, Int.emod_nonneg _ (by decide), rfl⟩
  · obtain ⟨g, y3, rfl, hg, rfl⟩ := p
    refine ⟨_, rfl, by show 2 ≤ sizeLine; decide, fun p np => ?_⟩
    have s1 : Same H1 (upd H1 p (.lst [.int g, .int 0])) := same_new np
    refine ⟨_, rfl, a, rfl, ⟨_, s1.seq hS⟩, fun D hD => lcN_list (fun i => (ns[i]?).bind fun k => if decide ((10 : Int) ^ (18 : Int).toNat ≤ k) = true then some (.int k) else none) (s1.seq hS) hD (by rw [List.length_map]; omega) (fun i x H3 N1 N0 hx s3 k1 k0 => ?_) (fun H3 s3 lb => ?_)⟩
    · obtain ⟨c, hc, rfl⟩ := map_get hx
      refine ⟨rfl, _, rfl, _, _, rfl, rfl, ⟨by decide, by decide, by decide⟩, _, _, rfl, rfl, _, rfl, ite2 (fun e => ?_) (fun e => ?_)⟩
      · exact ⟨_, rfl, k1 _ H3 _ (Same.refl _) (by rw [hc, Option.bind_some, if_pos e]) (.int _)⟩
      · exact k0 H3 (Same.refl _) (by rw [hc, Option.bind_some, if_neg e])
    · rw [List.length_map, list_ints (p := fun k => decide ((10 : Int) ^ (18 : Int).toNat ≤ k))] at lb
      have hl := List.length_filter_le (fun k => decide ((10 : Int) ^ (18 : Int).toNat ≤ k)) ns
      refine ⟨p, D, _, _, rfl, rfl, s3 _ _ upd_same, lb.ints, ?_, fun r nr => ?_⟩
      · rw [List.length_map]
        exact Nat.le_of_lt (sizeOk (by simp only [List.length_cons, List.length_nil]; omega))
      · refine q _ r (g :: 0 :: ns.filter fun k => decide ((10 : Int) ^ (18 : Int).toNat ≤ k)) (s1.trans (s3.trans (same_new nr))) (s1.free (s3.free nr)) upd_same ⟨by simp, by rw [List.length_cons, List.length_cons]; omega, fun x hx => ?_⟩
        rcases List.mem_cons.mp hx with e | hx
        · rw [e]
          exact hg
        · rcases List.mem_cons.mp hx with e | hx
          · rw [e]
            exact Int.le_refl _
          · have := of_decide_eq_true (List.mem_filter.mp hx).2
            exact Int.le_trans (by decide) this
def spOff : Sp := fun vs H Q _ => ∃ (d : Addr) (m : Int) (D : List Int), vs = [.ref d, .int m] ∧ 0 < m ∧ m < 1073741824 ∧ H d = some (.lst (D.map V.int)) ∧ DiceOk D ∧ ∀ r D', 0 ≤ r → r < m → DiceOk D' → Q (.int r) (upd H d (.lst (D'.map V.int)))
theorem ok__law_off (T : Tx K mg) : Cl P w K mg base 1 "_law_off" spOff := by
  refine T.d__law_off.cl sc__law_off (fun vs H Q E h => ?_) (fun f cdv A outer s H vs Q E hr h => ?_)
  · obtain ⟨d, m, D, rfl, _⟩ := h
    rfl
  obtain ⟨d, m, D, rfl, hm, hm2, hH, hk, q⟩ := h
  refine ⟨_, (pss_cons (ps_if (PW.pt (pw_and (pt_cmpR op_eq (pe_ix (ixL K) (pv 0) pe_int (fun _ _ => rfl)) pe_int (nomark _)) (pw_and1 (pt_cmpR op_gt (pe_callB (lenQ K) (by rfl) T.z_len (by decide +kernel) (pa_cons (pv 0) pa_nil)) pe_int (nomark _))))) (pss_one (ps_asg (pe_bm PySem.F.plainAttrs_list PySem.F.slot_list_pop PySem.F.type_list_pop mt_popAt (pv 0) (pa_cons pe_int pa_nil)) (pg_sub (pv 0) pe_int set_list))) pss_nil)
      (pss_cons (ps_if (pt_cmpR op_gt (pe_ix (ixL K) (pv 0) pe_int (fun _ _ => rfl)) pe_int (nomark _)) (pss_cons (ps_set (i := 2) sc__law_off.nd rfl (by first | exact Or.inl rfl | exact Or.inr rfl) (pe_op op_mod (pe_ix (ixL K) (pv 0) pe_int (fun _ _ => rfl)) (pv 1)))
      (pss_cons (ps_asg (pe_op op_fdiv (pe_ix (ixL K) (pv 0) pe_int (fun _ _ => rfl)) (pv 1)) (pg_sub (pv 0) pe_int set_list))
      (pss_one (ps_ret (pv 2))))) pss_nil)
      (pss_cons (ps_asg (pe_op op_mod (pe_op op_add (pe_op op_mul (pe_ix (ixL K) (pv 0) pe_int (fun _ _ => rfl)) pe_int) pe_int) pe_int) (pg_sub (pv 0) pe_int set_list))
      (pss_one (ps_ret (pe_op op_mod (pe_op op_fdiv (pe_ix (ixL K) (pv 0) pe_int (fun _ _ => rfl)) pe_int) (pv 1))))))), ?_⟩
  refine seq_join (fun σ' H' => ∃ x0 x1 r, σ' = [some (.ref d), some (.int m), none] ∧ H' d = some (.lst ((x0 :: x1 :: r : List Int).map V.int)) ∧ DiceOk (x0 :: x1 :: r) ∧ ∀ o, upd H' d o = upd H d o) (fun σ' H' hJ => ?_) (fun N hN => ?_)
  · obtain ⟨x0, x1, r, rfl, h1, ⟨k1, k2, k3⟩, hu⟩ := hJ
    have n0 : 0 ≤ x0 := k3 x0 (by simp)
    have n1 : 0 ≤ x1 := k3 x1 (by simp)
    have ix0 : atI ((x0 :: x1 :: r : List Int).map V.int) 0 = some (.int x0) := atI_nat (j := 0) rfl
    have ix1 : atI ((x0 :: x1 :: r : List Int).map V.int) 1 = some (.int x1) := atI_nat (j := 1) rfl
    have jx0 : ixN ((x0 :: x1 :: r : List Int).map V.int).length 0 = some 0 := ixN_at (j := 0) (by simp)
    have jx1 : ixN ((x0 :: x1 :: r : List Int).map V.int).length 1 = some 1 := ixN_at (j := 1) (by simp)
    refine ⟨_, rfl, d, _, 1, _, rfl, rfl, SqL.of h1, ix1, _, _, rfl, rfl, _, rfl, ite2 (fun c => ?_) (fun c => ?_)⟩
    · refine ⟨_, rfl, d, _, 1, _, rfl, rfl, SqL.of h1, ix1, _, rfl, _, _, rfl, rfl, hm, ?_⟩
      refine ⟨_, rfl, d, _, 1, _, rfl, rfl, SqL.of h1, ix1, _, rfl, _, _, rfl, rfl, ⟨hm, hm2⟩, _, rfl, d, _, 1, 1, rfl, rfl, h1, jx1, ?_⟩
      refine ⟨_, rfl, ?_⟩
      rw [hu]
      refine q (x1 % m) (x0 :: (x1 / m) :: r) (Int.emod_nonneg _ (by omega)) (Int.emod_lt_of_pos _ hm) ⟨by simp, by simpa using k2, fun x hx => ?_⟩
      rcases List.mem_cons.mp hx with e | hx
      · rw [e]
        exact n0
      · rcases List.mem_cons.mp hx with e | hx
        · rw [e]
          exact Int.ediv_nonneg n1 (by omega)
        · exact k3 x (by simp [hx])
    · refine ⟨_, rfl, d, _, 0, _, rfl, rfl, SqL.of h1, ix0, _, _, rfl, rfl, .inr ⟨by decide, by decide⟩, _, _, rfl, rfl, _, _, rfl, rfl, (by show (0 : Int) < 2147483647; decide), _, rfl, d, _, 0, 0, rfl, rfl, h1, jx0, ?_⟩
      refine ⟨_, rfl, d, (((x0 * 48271 + 11) % 2147483647 :: x1 :: r : List Int).map V.int), 0, _, rfl, rfl, SqL.of upd_same, atI_nat (j := 0) rfl, _, _, rfl, rfl, ⟨by decide, by decide⟩, _, rfl, _, _, rfl, rfl, hm, ?_⟩
      rw [hu]
      refine q _ ((x0 * 48271 + 11) % 2147483647 :: x1 :: r) (Int.emod_nonneg _ (by omega)) (Int.emod_lt_of_pos _ hm) ⟨by simp, by simpa using k2, fun x hx => ?_⟩
      rcases List.mem_cons.mp hx with e | hx
      · rw [e]
        exact Int.emod_nonneg _ (by decide)
      · exact k3 x (List.mem_cons_of_mem _ hx)
  · obtain ⟨k1, k2, k3⟩ := hk
    match D, hH, k1, k2, k3 with
    | x0 :: x1 :: r, hH, k1, k2, k3 =>
      have ix1 : atI ((x0 :: x1 :: r : List Int).map V.int) 1 = some (.int x1) := atI_nat (j := 1) rfl
      refine ⟨_, rfl, d, _, 1, _, rfl, rfl, SqL.of hH, ix1, rfl, _, rfl, ite2 (fun c => ?_) (fun c => ?_)⟩
      · refine ⟨_, rfl, d, _, rfl, .inl (SqL.of hH), _, _, rfl, rfl, _, rfl, ite2 (fun e => ?_) (fun e => ?_)⟩
        · have e1 : (2 : Int) < (((x0 :: x1 :: r : List Int).map V.int).length : Nat) := of_decide_eq_true e
          match r, hH, k1, k2, k3, e1 with
          | [], _, _, _, _, e1 => exact absurd e1 (by simp)
          | x2 :: r, hH, k1, k2, k3, e1 =>
            have jx2 : ixN ((x0 :: x1 :: x2 :: r : List Int).map V.int).length 2 = some 2 := ixN_at (j := 2) (by simp)
            refine ⟨_, rfl, .inl ⟨rfl, _, SqL.of hH⟩, d, _, 2, 2, .int x2, rfl, rfl, hH, by decide, by decide, (ixN_seq jx2).1, rfl, _, rfl, d, ((x0 :: x1 :: r : List Int).map V.int), 1, 1, rfl, rfl, upd_same, ixN_at (j := 1) (by simp), ?_⟩
            refine hN _ _ ⟨x0, x2, r, rfl, upd_same, ⟨by simp, by simp at k2 ⊢; omega, fun x hx => k3 x ?_⟩, fun o => by rw [upd_upd, upd_upd]⟩
            rcases List.mem_cons.mp hx with e | hx
            · simp [e]
            · rcases List.mem_cons.mp hx with e | hx
              · simp [e]
              · simp [hx]
        · exact hN _ _ ⟨x0, x1, r, rfl, hH, ⟨k1, k2, k3⟩, fun o => rfl⟩
      · exact iteF (hN _ _ ⟨x0, x1, r, rfl, hH, ⟨k1, k2, k3⟩, fun o => rfl⟩)
def spSize : Sp := fun vs H Q _ => ∃ (d : Addr) (D : List Int), vs = [.ref d] ∧ H d = some (.lst (D.map V.int)) ∧ DiceOk D ∧ ∀ (n : Nat) H' D', 1 ≤ n → n ≤ 64 → SameBut d H H' → H' d = some (.lst (D'.map V.int)) → DiceOk D' → Q (.int n) H'
theorem ok__law_size (T : Tx K mg) : Cl P w K mg base 2 "_law_size" spSize := by
  refine T.d__law_size.cl sc__law_size (fun vs H Q E h => ?_) (fun f cdv A outer s H vs Q E hr h => ?_)
  · obtain ⟨d, D, rfl, _⟩ := h
    rfl
  obtain ⟨d, D, rfl, hH, hk, q⟩ := h
  refine ⟨_, (pss_one (ps_ret (pe_ix (ixL K) (pe_lst (pa_cons pe_int (pa_cons pe_int (pa_cons pe_int (pa_cons (pe_op op_add pe_int (pe_k (ok__law_off T) hr (pa_cons (pv 0) (pa_cons pe_int pa_nil)))) pa_nil))))) (pe_k (ok__law_off T) hr (pa_cons (pv 0) (pa_cons pe_int pa_nil))) (fun _ _ => rfl)))), ?_⟩
  refine ⟨_, rfl, d, 64, D, rfl, by decide, by decide, hH, hk, fun r D1 r0 r1 k1 => ⟨_, _, rfl, rfl, by show 4 ≤ sizeLine; decide, fun p np => ?_⟩⟩
  have npd : d ≠ p := ne_of_none upd_same np
  refine ⟨_, rfl, d, 4, D1, rfl, by decide, by decide, by rw [upd_ne npd]; exact upd_same, k1, fun r2 D2 r20 r21 k2 => ?_⟩
  have hp : upd (upd (upd H d (.lst (D1.map V.int))) p (.lst [.int 8, .int 20, .int 64, .int (1 + r)])) d (.lst (D2.map V.int)) p = some (.lst [.int 8, .int 20, .int 64, .int (1 + r)]) := by
    rw [upd_ne npd.symm]
    exact upd_same
  have sb : SameBut d H (upd (upd (upd H d (.lst (D1.map V.int))) p (.lst [.int 8, .int 20, .int 64, .int (1 + r)])) d (.lst (D2.map V.int))) := (SameBut.upd.trans (SameBut.of (same_new np))).trans SameBut.upd
  have fin : ∀ n : Nat, 1 ≤ n → n ≤ 64 → Q (.int n) (upd (upd (upd H d (.lst (D1.map V.int))) p (.lst [.int 8, .int 20, .int 64, .int (1 + r)])) d (.lst (D2.map V.int))) := fun n a b => q n _ D2 a b sb upd_same k2
  have c : r2 = 0 ∨ r2 = 1 ∨ r2 = 2 ∨ r2 = 3 := by omega
  rcases c with rfl | rfl | rfl | rfl
  · exact ⟨p, _, 0, .int 8, rfl, rfl, SqL.of hp, rfl, fin 8 (by decide) (by decide)⟩
  · exact ⟨p, _, 1, .int 20, rfl, rfl, SqL.of hp, rfl, fin 20 (by decide) (by decide)⟩
  · exact ⟨p, _, 2, .int 64, rfl, rfl, SqL.of hp, rfl, fin 64 (by decide) (by decide)⟩
  · have e : (1 : Int) + r = ((1 + r).toNat : Nat) := by omega
    refine ⟨p, _, 3, .int (1 + r), rfl, rfl, SqL.of hp, rfl, ?_⟩
    have g := fin (1 + r).toNat (by omega) (by omega)
    rw [← e] at g
    exact g
def spSet : Sp := fun vs H Q _ => ∃ (d : Addr) (D : List Int) (n m : Nat), vs = [.ref d, .int n, .int m] ∧ 1 ≤ n ∧ n ≤ 64 ∧ m ≤ 40 ∧ H d = some (.lst (D.map V.int)) ∧ DiceOk D ∧
  ∀ H' D' v R, SameBut d H H' → H' d = some (.lst (D'.map V.int)) → DiceOk D' → NewV H H' v (eR R) → Ok n R → R.length ≤ m → Q v H'
theorem ok__law_set (T : Tx K mg) : Cl P w K mg base 2 "_law_set" spSet := by
  refine T.d__law_set.cl sc__law_set (fun vs H Q E h => ?_) (fun f cdv A outer s H vs Q E hr h => ?_)
  · obtain ⟨d, D, n, m, rfl, _⟩ := h
    rfl
  obtain ⟨d, D, n, m, rfl, hn1, hn, hm, hH, hk, q⟩ := h
  refine ⟨_, (pss_cons (ps_set (i := 3) sc__law_set.nd rfl (by first | exact Or.inl rfl | exact Or.inr rfl) (pe_ix (ixL K) (pe_lst (pa_cons pe_int (pa_cons pe_int (pa_cons (pv 1) pa_nil)))) (pe_k (ok__law_off T) hr (pa_cons (pv 0) (pa_cons pe_int pa_nil))) (fun _ _ => rfl)))
      (pss_cons (ps_set (i := 4) sc__law_set.nd rfl (by first | exact Or.inl rfl | exact Or.inr rfl) (pe_lst pa_nil))
      (pss_cons (ps_for PassesOwn.never rfl (pi_range1 (by rfl) T.z_range (pa_cons (pe_k (ok__law_off T) hr (pa_cons (pv 0) (pa_cons (pe_op op_add (pv 2) pe_int) pa_nil))) pa_nil)) (pg_name (i := 5) sc__law_set.nd rfl (by first | exact Or.inl rfl | exact Or.inr rfl))
      (pss_cons (ps_set (i := 6) sc__law_set.nd rfl (by first | exact Or.inl rfl | exact Or.inr rfl) (pe_k (ok__law_off T) hr (pa_cons (pv 0) (pa_cons (pv 1) pa_nil))))
      (pss_one (ps_expr (pe_bm PySem.F.plainAttrs_list PySem.F.slot_list_append PySem.F.type_list_append mt_append (pv 4) (pa_cons (pe_tup (pa_cons (pv 6) (pa_cons (pe_callB (call_min2 rfl) (by rfl) T.z_min (by decide +kernel) (pa_cons (pe_op op_sub (pv 1) pe_int) (pa_cons (pe_op op_add (pv 6) (pe_k (ok__law_off T) hr (pa_cons (pv 0) (pa_cons (pv 3) pa_nil)))) pa_nil))) pa_nil))) pa_nil))))))
      (pss_one (ps_ret (pv 4)))))), ?_⟩
  -- the widths
  refine ⟨_, rfl, by show 3 ≤ sizeLine; decide, fun p np => ?_⟩
  have npd : d ≠ p := ne_of_none hH np
  refine ⟨_, rfl, d, 3, D, rfl, by decide, by decide, by rw [upd_ne npd]; exact hH, hk, fun r D1 r0 r1 k1 => ?_⟩
  have hp : upd (upd H p (.lst [.int 1, .int 3, .int n])) d (.lst (D1.map V.int)) p = some (.lst [.int 1, .int 3, .int n]) := by
    rw [upd_ne npd.symm]
    exact upd_same
  obtain ⟨wd, hw, w1, w2⟩ : ∃ wd : Int, atI [V.int 1, .int 3, .int n] r = some (.int wd) ∧ 0 < wd ∧ wd ≤ 64 := by
    have c : r = 0 ∨ r = 1 ∨ r = 2 := by omega
    rcases c with rfl | rfl | rfl
    · exact ⟨1, rfl, by decide, by decide⟩
    · exact ⟨3, rfl, by decide, by decide⟩
    · exact ⟨n, rfl, by omega, by omega⟩
  refine ⟨p, _, r, _, rfl, rfl, SqL.of hp, hw, ?_⟩
  have sb1 : SameBut d H (upd (upd H p (.lst [.int 1, .int 3, .int n])) d (.lst (D1.map V.int))) := (SameBut.of (same_new np)).trans SameBut.upd
  generalize hH1 : upd (upd H p (.lst [.int 1, .int 3, .int n])) d (.lst (D1.map V.int)) = H1 at sb1
  have hd1 : H1 d = some (.lst (D1.map V.int)) := by rw [← hH1]; exact upd_same
  -- found = []
  refine ⟨Nat.zero_le _, fun o no => ?_⟩
  have ndo : d ≠ o := ne_of_none hd1 no
  have no' : H o = none := by
    cases e : H o with
    | none => rfl
    | some u =>
      have := sb1 o u ndo.symm e
      rw [no] at this
      cases this
  -- the turns
  refine ⟨_, rfl, _, rfl, _, _, rfl, rfl, d, (m : Int) + 1, D1, rfl, by omega, by omega, by rw [upd_ne ndo]; exact hd1, k1, fun t D2 t0 t1 k2 => ?_⟩
  refine ⟨t, rfl, by omega, by omega, for_range (lo := 0) (n := t.toNat) (fun i σ H2 => ∃ (y5 y6 : Option V) (D3 : List Int) (R : List (Int × Int)), σ = [some (.ref d), some (.int n), some (.int m), some (.int wd), some (.ref o), y5, y6] ∧ SameBut d H H2 ∧ H2 d = some (.lst (D3.map V.int)) ∧ DiceOk D3 ∧ LB (del H d) (del H2 d) o (R.map eP) ∧ R.length = i ∧ (∀ r ∈ R, 0 ≤ r.1 ∧ r.1 ≤ r.2 ∧ r.2 < (n : Int))) ?_ (fun i σ H2 hi p => ?_) (fun σ H2 p => ?_)⟩
  · refine ⟨none, none, D2, [], rfl, (sb1.trans (SameBut.of (same_new no))).trans SameBut.upd, upd_same, k2, ⟨?_, [], ?_, .nil⟩, rfl, fun r hr => by simp at hr⟩
    · rw [del_ne ndo.symm]
      exact no'
    · rw [del_ne ndo.symm, upd_ne ndo.symm]
      exact upd_same
  · obtain ⟨y5, y6, D3, R, rfl, sb, hd, k3, lb, hRl, hR⟩ := p
    -- first
    refine ⟨_, rfl, _, rfl, d, (n : Int), D3, rfl, by omega, by omega, hd, k3, fun fi D4 f0 f1 k4 => ?_⟩
    have tyo : ∀ H3 : Hp, (∀ b o', b ≠ d → H2 b = some o' → H3 b = some o') → ∃ xs, H3 o = some (.lst xs) ∧ xs.length = R.length := fun H3 e => by
      obtain ⟨xs, h1, h2⟩ := lb.at
      rw [List.length_map] at h2
      rw [del_ne ndo.symm] at h1
      exact ⟨xs, e _ _ ndo.symm h1, h2⟩
    obtain ⟨xs4, ho4, hx4⟩ := tyo (upd H2 d (.lst (D4.map V.int))) fun b u nb e => by
      rw [upd_ne nb]
      exact e
    refine ⟨_, rfl, .inl ⟨rfl, _, SqL.of ho4⟩, _, rfl, _, rfl, _, _, rfl, rfl, _, rfl, _, rfl, _, rfl, d, wd, D4, rfl, w1, by omega, upd_same, k4, fun wi D5 u0 u1 k5 => ?_⟩
    refine ⟨_, _, rfl, rfl, _, _, rfl, by show 2 ≤ sizeLine; decide, fun tp ntp => ?_⟩
    rw [upd_upd] at ntp ⊢
    have ntd : d ≠ tp := ne_of_none upd_same ntp
    -- the new pair: (fi, la)
    generalize hla : (if fi + wi < (n : Int) - 1 then fi + wi else (n : Int) - 1) = la
    have l1 : fi ≤ la := by rw [← hla]; split <;> omega
    have l2 : la < n := by rw [← hla]; split <;> omega
    have sX : Same (del H2 d) (del (upd (upd H2 d (.lst (D5.map V.int))) tp (.tup [.int fi, .int la])) d) := fun b u e => by
      by_cases c : b = d
      · subst c
        rw [del_self] at e
        cases e
      · rw [del_ne c] at e ⊢
        have ct : b ≠ tp := fun z => by
          subst z
          rw [upd_ne c, e] at ntp
          cases ntp
        rw [upd_ne ct, upd_ne c]
        exact e
    have nvX : NewV (del H2 d) (del (upd (upd H2 d (.lst (D5.map V.int))) tp (.tup [.int fi, .int la])) d) (.ref tp) (eP (fi, la)) := by
      refine .tup (xs := [.int fi, .int la]) ?_ (.cons (.int _) (.cons (.int _) .nil))
      rw [fr_new (by rw [del_ne ntd.symm]; rw [upd_ne ntd.symm] at ntp; exact ntp), del_ne ntd.symm]
      exact upd_same
    have s0 : Same (del H d) (del H2 d) := fun b u e => by
      by_cases c : b = d
      · subst c
        rw [del_self] at e
        cases e
      · rw [del_ne c] at e ⊢
        exact sb b u c e
    obtain ⟨ys, z1, z2, z3⟩ := lb.snoc s0 sX nvX
    rw [del_ne ndo.symm] at z1
    refine ⟨o, ys, _, rfl, rfl, z1, sizeOk (by rw [z2, List.length_map]; omega), ?_⟩
    have nto : tp ≠ o := fun z => by
      subst z
      rw [upd_ne ntd.symm] at ntp
      obtain ⟨xs, h1, _⟩ := lb.at
      rw [del_ne ntd.symm, ntp] at h1
      cases h1
    refine ⟨_, _, D5, R ++ [(fi, la)], rfl, fun b u nb e => ?_, ?_, k5, ?_, by simp [hRl], fun r hr => ?_⟩
    · have nbo : b ≠ o := ne_of_none e no'
      have e2 := sb b u nb e
      have nbt : b ≠ tp := fun z => by
        subst z
        rw [upd_ne nb, e2] at ntp
        cases ntp
      rw [upd_ne nbo, upd_ne nbt, upd_ne nb]
      exact e2
    · rw [upd_ne ndo, upd_ne ntd]
      exact upd_same
    · rw [List.map_append]
      have e : del (upd (upd (upd H2 d (.lst (D5.map V.int))) tp (.tup [.int fi, .int la])) o (.lst (ys ++ [.ref tp]))) d = upd (del (upd (upd H2 d (.lst (D5.map V.int))) tp (.tup [.int fi, .int la])) d) o (.lst (ys ++ [.ref tp])) := by
        funext b
        by_cases c : b = d
        · subst c
          rw [del_self, upd_ne ndo, del_self]
        · rw [del_ne c]
          by_cases c2 : b = o
          · subst c2
            rw [upd_same, upd_same]
          · rw [upd_ne c2, upd_ne c2, del_ne c]
      rw [e]
      exact z3
    · rcases List.mem_append.mp hr with h | h
      · exact hR r h
      · obtain rfl := List.mem_singleton.mp h
        exact ⟨f0, l1, l2⟩
  · obtain ⟨y5, y6, D3, R, rfl, sb, hd, k3, lb, hRl, hR⟩ := p
    refine ⟨_, rfl, q H2 D3 _ R sb hd k3 ?_ ⟨by omega, hR⟩ (by omega)⟩
    have nv := lb.newV
    refine Dn.mono (fun b u e => ?_) nv
    obtain ⟨e1, e2⟩ := fr_some e
    by_cases c : b = d
    · subst c
      rw [del_self] at e2
      cases e2
    · rw [del_ne c] at e1 e2
      rw [fr_new e1]
      exact e2
end
section
variable {P : Program} {w : World} {K : PySem.W.Frag} {mg : Str → Option Value} {base : Heap}
/-- the same data twice, of fewer than n storeys: it is told True -/
def spAlike (K : PySem.W.Frag) : Nat → Sp
  | 0 => fun _ _ _ _ => False
  | n + 1 => fun vs H Q _ => ∃ (v u : V) (d : PyData), vs = [v, u] ∧ Dp K H v d ∧ Dp K H u d ∧ Al n d ∧ ∀ H', Same H H' → Q (.bl true) H'
theorem ok_alike_n (T : Tx K mg) : ∀ n : Nat, Cl P w K mg base n "_law_alike" (spAlike K n)
  | 0 => by
    obtain ⟨f, fd, F, g, b⟩ := T.d__law_alike.ex
    exact ⟨f, fd, _, ⟨fun vs H Q E h => h.elim, fun A outer s H args us vs Q E _ _ _ _ h => h.elim⟩, g, F.kp, b⟩
  | n + 1 => by
    have ih := ok_alike_n T n
    refine T.d__law_alike.cl sc__law_alike (fun vs H Q E h => ?_) (fun f cdv A outer s H vs Q E hr h => ?_)
    · obtain ⟨v, u, d, rfl, _⟩ := h
      rfl
    obtain ⟨v, u, d, rfl, hv, hu, al, q⟩ := h
    refine ⟨_, (pss_cons (ps_if (pt_cmpR op_isN (pv 1) pe_non (nomark _)) (pss_one (ps_ret (pe_cmpR op_isN (pv 0) pe_non (nomark _)))) pss_nil)
      (pss_cons (ps_if (pt_val (pe_callB (isD K) (by rfl) T.z_isinstance (by decide +kernel) (pa_cons (pv 1) (pa_cons (pe_bltn (v := .ty "bool") (by rfl) T.z_bool (by decide +kernel) rfl) pa_nil)))) (pss_one (ps_ret (pe_and (pe_callB (isD K) (by rfl) T.z_isinstance (by decide +kernel) (pa_cons (pv 0) (pa_cons (pe_bltn (v := .ty "bool") (by rfl) T.z_bool (by decide +kernel) rfl) pa_nil))) (pe_one (pe_cmpR op_eq (pv 0) (pv 1) (nomark _)))))) pss_nil)
      (pss_cons (ps_if (pt_val (pe_callB (isD K) (by rfl) T.z_isinstance (by decide +kernel) (pa_cons (pv 1) (pa_cons (pe_bltn (v := .ty "int") (by rfl) T.z_int (by decide +kernel) rfl) pa_nil)))) (pss_one (ps_ret (pe_and (pe_callB (isD K) (by rfl) T.z_isinstance (by decide +kernel) (pa_cons (pv 0) (pa_cons (pe_bltn (v := .ty "int") (by rfl) T.z_int (by decide +kernel) rfl) pa_nil))) (pe_and (pe_not (pe_callB (isD K) (by rfl) T.z_isinstance (by decide +kernel) (pa_cons (pv 0) (pa_cons (pe_bltn (v := .ty "bool") (by rfl) T.z_bool (by decide +kernel) rfl) pa_nil)))) (pe_one (pe_cmpR op_eq (pv 0) (pv 1) (nomark _))))))) pss_nil)
      (pss_cons (ps_if (pt_val (pe_callB (isD K) (by rfl) T.z_isinstance (by decide +kernel) (pa_cons (pv 1) (pa_cons (pe_bltn (v := .ty "str") (by rfl) T.z_str (by decide +kernel) rfl) pa_nil)))) (pss_one (ps_ret (pe_and (pe_callB (isD K) (by rfl) T.z_isinstance (by decide +kernel) (pa_cons (pv 0) (pa_cons (pe_bltn (v := .ty "str") (by rfl) T.z_str (by decide +kernel) rfl) pa_nil))) (pe_one (pe_cmpR op_eq (pv 0) (pv 1) (nomark _)))))) pss_nil)
      (pss_cons (ps_if (PW.pt (pw_or (pt_cmpR op_ne (pe_callB (isD K) (by rfl) T.z_isinstance (by decide +kernel) (pa_cons (pv 1) (pa_cons (pe_bltn (v := .ty "tuple") (by rfl) T.z_tuple (by decide +kernel) rfl) pa_nil))) (pe_callB (isD K) (by rfl) T.z_isinstance (by decide +kernel) (pa_cons (pv 0) (pa_cons (pe_bltn (v := .ty "tuple") (by rfl) T.z_tuple (by decide +kernel) rfl) pa_nil))) (nomark _)) (pw_or1 (pt_cmpR op_ne (pe_callB (isD K) (by rfl) T.z_isinstance (by decide +kernel) (pa_cons (pv 1) (pa_cons (pe_bltn (v := .ty "list") (by rfl) T.z_list (by decide +kernel) rfl) pa_nil))) (pe_callB (isD K) (by rfl) T.z_isinstance (by decide +kernel) (pa_cons (pv 0) (pa_cons (pe_bltn (v := .ty "list") (by rfl) T.z_list (by decide +kernel) rfl) pa_nil))) (nomark _))))) (pss_one (ps_ret pe_bl)) pss_nil)
      (pss_cons (ps_if (pt_cmpR op_ne (pe_callB (lenQ K) (by rfl) T.z_len (by decide +kernel) (pa_cons (pv 0) pa_nil)) (pe_callB (lenQ K) (by rfl) T.z_len (by decide +kernel) (pa_cons (pv 1) pa_nil)) (nomark _)) (pss_one (ps_ret pe_bl)) pss_nil)
      (pss_one (ps_ret (pe_callB (allQ K rfl) (by rfl) T.z_all (by decide +kernel) (pa_cons (pe_lc (own := [("_law_k", 2)]) (g := (gName 2)) (tt := tYes) (by rfl) sc__law_alike.nd (pi_range1 (by rfl) T.z_range (pa_cons (pe_callB (lenQ K) (by rfl) T.z_len (by decide +kernel) (pa_cons (pv 1) pa_nil)) pa_nil)) (blkOk_by (own := [("_law_k", 2)]) (N := n__law_alike) (sc := defScope s__law_alike) (by decide +kernel)) (fun _ _ _ _ _ => (pg_name (i := 2) sc__law_alike.nd rfl (by first | exact Or.inl rfl | exact Or.inr rfl))) (fun _ _ _ _ _ => pts_nil) (fun _ _ _ _ _ => (pe_k ih hr (pa_cons (pe_ix (ixQ K) (pv 0) (pv 2) (fun _ _ => rfl)) (pa_cons (pe_ix (ixQ K) (pv 1) (pv 2) (fun _ _ => rfl)) pa_nil)) (Nat.le_refl _)))) pa_nil)))))))))), ?_⟩
    have mB : "bool" ∈ ["bool", "int", "str", "tuple", "list"] := by decide
    have mI : "int" ∈ ["bool", "int", "str", "tuple", "list"] := by decide
    have mS : "str" ∈ ["bool", "int", "str", "tuple", "list"] := by decide
    have mT : "tuple" ∈ ["bool", "int", "str", "tuple", "list"] := by decide
    have mL : "list" ∈ ["bool", "int", "str", "tuple", "list"] := by decide
    refine ⟨_, rfl, rfl, _, rfl, ite2 (fun c => ?_) (fun c => ?_)⟩
    · have c1 : u = .non := of_decide_eq_true c
      subst c1
      cases hu
      cases hv
      exact ⟨_, rfl, rfl, q H (Same.refl _)⟩
    have nd : tyN d ≠ "NoneType" := fun z => c (by
      cases hu <;> first | rfl | (simp [tyN] at z))
    clear c
    refine ⟨_, rfl, _, "bool", d, rfl, mB, hu, _, rfl, ite2 (fun c => ?_) (fun c => ?_)⟩
    · refine ⟨_, rfl, _, "bool", d, rfl, mB, hv, _, rfl, itT c ⟨_, rfl, _, rfl, ?_⟩⟩
      obtain ⟨b, rfl⟩ := isT_bool c
      cases hu
      cases hv
      exact ⟨rfl, by rw [decide_eq_true rfl]; exact q H (Same.refl _)⟩
    refine ⟨_, rfl, _, "int", d, rfl, mI, hu, _, rfl, ite2 (fun c2 => ?_) (fun c2 => ?_)⟩
    · refine ⟨_, rfl, _, "int", d, rfl, mI, hv, _, rfl, itT c2 ⟨_, rfl, _, "bool", d, rfl, mB, hv, _, rfl, _, rfl, itT (by rw [Bool.not_eq_true', ← Bool.not_eq_true]; exact c) ⟨_, rfl, _, rfl, ?_⟩⟩⟩
      obtain ⟨b, rfl⟩ := isT_int c2 c
      cases hu
      cases hv
      exact ⟨rfl, by rw [decide_eq_true rfl]; exact q H (Same.refl _)⟩
    refine ⟨_, rfl, _, "str", d, rfl, mS, hu, _, rfl, ite2 (fun c3 => ?_) (fun c3 => ?_)⟩
    · refine ⟨_, rfl, _, "str", d, rfl, mS, hv, _, rfl, itT c3 ⟨_, rfl, _, rfl, ?_⟩⟩
      obtain ⟨b, rfl⟩ := isT_str c3
      cases hu
      cases hv
      exact ⟨rfl, by rw [decide_eq_true rfl]; exact q H (Same.refl _)⟩
    refine ⟨_, rfl, _, "tuple", d, rfl, mT, hu, _, rfl, _, "tuple", d, rfl, mT, hv, rfl, _, rfl, itF (by simp) ?_⟩
    refine ⟨_, rfl, _, "list", d, rfl, mL, hu, _, rfl, _, "list", d, rfl, mL, hv, rfl, _, rfl, itF (by simp) ?_⟩
    obtain ⟨a, b, xs, ys, ds, rfl, rfl, hx, hy, ax, ay, m, rfl, hlen, hal⟩ : ∃ (a b : Addr) (xs ys : List V) (ds : List PyData), v = .ref a ∧ u = .ref b ∧ (SqL K H a xs ∨ SqT K H a xs) ∧ (SqL K H b ys ∨ SqT K H b ys) ∧ DpAll K H xs ds ∧ DpAll K H ys ds ∧ ∃ m, n = m + 1 ∧ ds.length ≤ 100000 ∧ ∀ d ∈ ds, Al m d := by
      cases hu with
      | non => exact absurd rfl nd
      | bl b => exact absurd rfl c
      | int i => exact absurd rfl c2
      | str x => exact absurd rfl c3
      | lst h a =>
        cases hv with
        | lst h' a' =>
          cases n with
          | zero => exact al.elim
          | succ m => exact ⟨_, _, _, _, _, rfl, rfl, .inl h', .inl h, a', a, m, rfl, al.1, al.2⟩
      | tup h a =>
        cases hv with
        | tup h' a' =>
          cases n with
          | zero => exact al.elim
          | succ m => exact ⟨_, _, _, _, _, rfl, rfl, .inr h', .inr h, a', a, m, rfl, al.1, al.2⟩
    have lx := dpAll_len ax
    have ly := dpAll_len ay
    refine ⟨_, rfl, a, xs, rfl, hx, _, rfl, b, ys, rfl, hy, rfl, _, rfl, itF (by rw [lx, ly]; simp) ?_⟩
    refine ⟨_, rfl, b, ys, rfl, hy, (ys.length : Int), rfl, by omega, by omega, fun D hD => lcN_range0 (n := ys.length) (fun _ => some (.bool true)) hD (by omega) (fun i H1 N1 N0 hi sm k1 k0 => ?_) (fun H1 sm lb => ?_)⟩
    · have gx : xs[i]? = some xs[i] := List.getElem?_eq_getElem (by omega)
      have gy : ys[i]? = some ys[i] := List.getElem?_eq_getElem hi
      obtain ⟨d1, e1, p1⟩ := dpAll_get ax gx
      obtain ⟨d2, e2, p2⟩ := dpAll_get ay gy
      rw [e1] at e2
      obtain rfl := Option.some.inj e2
      have hx1 : SqL K H1 a xs ∨ SqT K H1 a xs := hx.imp sm.seq (same_tup sm)
      have hy1 : SqL K H1 b ys ∨ SqT K H1 b ys := hy.imp sm.seq (same_tup sm)
      refine ⟨rfl, yesT ⟨_, rfl, _, rfl, rIx_of hx1 gx ⟨_, rfl, _, rfl, rIx_of hy1 gy ?_⟩⟩⟩
      exact ⟨_, _, d1, rfl, same_dp sm p1, same_dp sm p2, hal d1 (List.mem_of_getElem? e1), fun H2 s2 => k1 _ H2 _ s2 rfl (.bl true)⟩
    · have e : (List.range ys.length).filterMap (fun _ => some (PyData.bool true)) = (List.replicate ys.length true).map PyData.bool := by
        rw [List.filterMap_eq_map', List.map_const', List.length_range, List.map_replicate]
      rw [e] at lb
      obtain ⟨_, zs, h1, h2⟩ := lb
      have e2 := dpAll_bools (K := K) h2.dp
      subst e2
      refine ⟨D, _, rfl, SqL.of h1, ?_⟩
      have e3 : (List.replicate ys.length true).all id = true := by simp
      rw [e3]
      exact q H1 sm
theorem ok__law_alike (T : Tx K mg) : Cl P w K mg base 6 "_law_alike" (spAlike K 6) := ok_alike_n T 6
end
section
variable {P : Program} {w : World} {K : PySem.W.Frag} {mg : Str → Option Value} {base : Heap}
def spSets : Sp := fun vs H Q _ => ∃ (d : Addr) (D : List Int) (n : Nat), vs = [.ref d, .int n] ∧ 1 ≤ n ∧ n ≤ 64 ∧ H d = some (.lst (D.map V.int)) ∧ DiceOk D ∧
  ∀ H' D' v SS, SameBut d H H' → H' d = some (.lst (D'.map V.int)) → DiceOk D' → NewV H H' v (eRs SS) → SS.length ≤ 6 → (∀ R ∈ SS, Ok n R) → (∀ R ∈ SS, R.length ≤ 20) → Q v H'
theorem ok__law_sets (T : Tx K mg) : Cl P w K mg base 3 "_law_sets" spSets := by
  refine T.d__law_sets.cl sc__law_sets (fun vs H Q E h => ?_) (fun f cdv A outer s H vs Q E hr h => ?_)
  · obtain ⟨d, D, n, rfl, _⟩ := h
    rfl
  obtain ⟨d, D, n, rfl, hn1, hn, hH, hk, q⟩ := h
  refine ⟨_, (pss_cons (ps_set (i := 2) sc__law_sets.nd rfl (by first | exact Or.inl rfl | exact Or.inr rfl) (pe_lst pa_nil))
      (pss_cons (ps_for PassesOwn.never rfl (pi_range1 (by rfl) T.z_range (pa_cons (pe_k (ok__law_off T) hr (pa_cons (pv 0) (pa_cons pe_int pa_nil))) pa_nil)) (pg_name (i := 3) sc__law_sets.nd rfl (by first | exact Or.inl rfl | exact Or.inr rfl))
      (pss_cons (ps_set (i := 4) sc__law_sets.nd rfl (by first | exact Or.inl rfl | exact Or.inr rfl) (pe_k (ok__law_set T) hr (pa_cons (pv 0) (pa_cons (pv 1) (pa_cons pe_int pa_nil)))))
      (pss_cons (ps_if (PW.pt (pw_and (pt_cmpR (neD K hr.units) (pv 2) (pe_lst pa_nil) (nomark _)) (pw_and1 (pt_cmpR op_eq (pe_k (ok__law_off T) hr (pa_cons (pv 0) (pa_cons pe_int pa_nil))) pe_int (nomark _))))) (pss_cons (ps_set (i := 5) sc__law_sets.nd rfl (by first | exact Or.inl rfl | exact Or.inr rfl) (pe_op op_mul (pe_k (ok__law_off T) hr (pa_cons (pv 0) (pa_cons (pv 1) pa_nil))) (pe_k (ok__law_off T) hr (pa_cons (pv 0) (pa_cons pe_int pa_nil)))))
      (pss_one (ps_setLc (i := 4) (own := [("_law_first", 6), ("_law_last", 7)]) (g := (gTup K 2 (gCons (gName 6) (gCons (gName 7) gNil)))) (tt := _) (by rfl) sc__law_sets.nd rfl rfl (sw_true rfl rfl rfl (by decide +kernel)) (piL K (pe_ix (ixL K) (pv 2) (pe_un un_neg pe_int) (fun _ _ => rfl))) (blkOk_by (own := [("_law_first", 6), ("_law_last", 7)]) (N := n__law_sets) (sc := defScope s__law_sets) (by decide +kernel)) (fun _ _ _ _ _ => (pgT K (by rfl) (pgs_cons (pg_name (i := 6) sc__law_sets.nd rfl (by first | exact Or.inl rfl | exact Or.inr rfl)) (pgs_cons (pg_name (i := 7) sc__law_sets.nd rfl (by first | exact Or.inl rfl | exact Or.inr rfl)) pgs_nil)))) (fun _ _ _ _ _ => (pts_one (pt_cmpR op_lt (pe_op op_add (pv 7) (pv 5)) (pv 1) (nomark _)))) (fun _ _ _ _ _ => (pe_tup (pa_cons (pe_op op_add (pv 6) (pv 5)) (pa_cons (pe_op op_add (pv 7) (pv 5)) pa_nil))))))) pss_nil)
      (pss_one (ps_expr (pe_bm PySem.F.plainAttrs_list PySem.F.slot_list_append PySem.F.type_list_append mt_append (pv 2) (pa_cons (pv 4) pa_nil)))))))
      (pss_one (ps_ret (pv 2))))), ?_⟩
  refine ⟨Nat.zero_le _, fun o no => ?_⟩
  have ndo : d ≠ o := ne_of_none hH no
  refine ⟨_, rfl, d, 7, D, rfl, by decide, by decide, by rw [upd_ne ndo]; exact hH, hk, fun t D2 t0 t1 k2 => ?_⟩
  refine ⟨t, rfl, by omega, by omega, for_range (lo := 0) (n := t.toNat) (fun i σ H2 => ∃ (y3 y4 y5 y6 y7 : Option V) (D3 : List Int) (SS : List (List (Int × Int))), σ = [some (.ref d), some (.int n), some (.ref o), y3, y4, y5, y6, y7] ∧ H2 d = some (.lst (D3.map V.int)) ∧ DiceOk D3 ∧ Same (del H d) (del H2 d) ∧ LB (del H d) (del H2 d) o (SS.map eR) ∧ SS.length = i ∧ (∀ R ∈ SS, Ok n R) ∧ (∀ R ∈ SS, R.length ≤ 20)) ?_ (fun i σ H2 hi p => ?_) (fun σ H2 p => ?_)⟩
  · refine ⟨none, none, none, none, none, D2, [], rfl, upd_same, k2, ?_, ?_, rfl, fun R hR => by simp at hR, fun R hR => by simp at hR⟩
    · rw [del_upd_self, del_upd ndo.symm]
      exact same_new (by rw [del_ne ndo.symm]; exact no)
    · rw [del_upd_self, del_upd ndo.symm]
      exact LB.nil (by rw [del_ne ndo.symm]; exact no)
  · obtain ⟨y3, y4, y5, y6, y7, D3, SS, rfl, hd, k3, sm, lb, hl, hok, h20⟩ := p
    refine ⟨_, rfl, _, rfl, d, D3, n, 20, rfl, hn1, hn, by decide, hd, k3, fun H3 D4 v R sb3 hd3 k4 nv3 oR lR => ?_⟩
    have sd3 : Same (del H2 d) (del H3 d) := sb_same sb3
    have nvd3 := nv3.del hd
    have lb3 := lb.same sd3
    -- what is put in
    dsimp only [gName]
    refine seq_join (t := tIfS _ _ _) (fun σ' H' => ∃ (y5 y6 y7 : Option V) (D5 : List Int) (v' : V) (R' : List (Int × Int)), σ' = [some (.ref d), some (.int n), some (.ref o), some (.int (0 + (i : Int))), some v', y5, y6, y7] ∧ H' d = some (.lst (D5.map V.int)) ∧ DiceOk D5 ∧ Same (del H2 d) (del H' d) ∧ NewV (del H2 d) (del H' d) v' (eR R') ∧ Ok n R' ∧ R'.length ≤ 20) (fun σ' H' hJ => ?_) (fun N hN => ?_)
    · obtain ⟨z5, z6, z7, D5, v', R', rfl, hd', k5, s', nv', oR', lR'⟩ := hJ
      obtain ⟨ys, w1, w2, lb'⟩ := lb.snoc sm s' nv'
      rw [del_ne ndo.symm] at w1
      rw [List.length_map] at w2
      refine ⟨_, rfl, .inl ⟨rfl, _, SqL.of w1⟩, _, rfl, o, ys, _, rfl, rfl, w1, sizeOk (by omega), ?_⟩
      refine ⟨_, _, _, _, _, D5, SS ++ [R'], rfl, by rw [upd_ne ndo]; exact hd', k5, ?_, ?_, by simp [hl], fun z hz => ?_, fun z hz => ?_⟩
      · rw [del_upd ndo.symm]
        exact same_upd (sm.trans s') lb.1
      · rw [del_upd ndo.symm, List.map_append]
        exact lb'
      · rcases List.mem_append.mp hz with h | h
        · exact hok z h
        · obtain rfl := List.mem_singleton.mp h
          exact oR'
      · rcases List.mem_append.mp hz with h | h
        · exact h20 z h
        · obtain rfl := List.mem_singleton.mp h
          exact lR'
    · have hpl : ∀ G : Hp, Same H3 G → Dp K G (.ref o) (.list (SS.map eR)) := fun G s => same_dp (del_same.trans s) lb3.newV.dp
      refine ⟨_, rfl, Nat.zero_le _, fun p np => ⟨.list (SS.map eR), .list [], hpl _ (same_new np), .lst (SqL.of upd_same) .nil, (Sh.eRs (n := 0) SS).shaped, (sh_nil (n := 0)).shaped, _, rfl, ?_⟩⟩
      rw [eqv_nil]
      have s4 : Same H3 (upd H3 p (.lst [])) := same_new np
      have hd4 := s4 _ _ hd3
      generalize upd H3 p (.lst []) = H4 at s4 hd4
      have sd4 := sd3.trans (del_mono (d := d) s4)
      have nvd4 := nvd3.mono (Same.refl _) (del_mono (d := d) s4)
      rcases List.eq_nil_or_concat SS with e | ⟨ini, R0, e⟩
      · exact itF (by rw [e]; simp) (iteF (hN _ _ ⟨_, _, _, D4, v, R, rfl, hd4, k4, sd4, nvd4, oR, lR⟩))
      · rw [List.concat_eq_append] at e
        refine itT (by rw [e]; simp) ?_
        refine ⟨_, rfl, d, 2, D4, rfl, by decide, by decide, hd4, k4, fun r D5 r0 r1 k5 => ?_⟩
        have hd5 : upd H4 d (.lst (D5.map V.int)) d = some (.lst (D5.map V.int)) := upd_same
        have sd5 : Same (del H2 d) (del (upd H4 d (.lst (D5.map V.int))) d) := by rw [del_upd_self]; exact sd4
        have nvd5 : NewV (del H2 d) (del (upd H4 d (.lst (D5.map V.int))) d) v (eR R) := by rw [del_upd_self]; exact nvd4
        generalize upd H4 d (.lst (D5.map V.int)) = H5 at hd5 sd5 nvd5
        refine ⟨rfl, _, rfl, ite2 (fun c => ?_) (fun c => ?_)⟩
        · -- moved
          refine ⟨_, rfl, _, rfl, d, (n : Int), D5, rfl, by omega, by omega, hd5, k5, fun b1 D6 b10 b11 k6 => ?_⟩
          refine ⟨_, rfl, d, 2, D6, rfl, by decide, by decide, upd_same, k6, fun b2 D7 b20 b21 k7 => ?_⟩
          refine ⟨_, _, rfl, rfl, .inl ⟨by omega, by omega⟩, ?_⟩
          rw [upd_upd]
          have hd6 : upd H5 d (.lst (D7.map V.int)) d = some (.lst (D7.map V.int)) := upd_same
          have sd6 : Same (del H2 d) (del (upd H5 d (.lst (D7.map V.int))) d) := by rw [del_upd_self]; exact sd5
          generalize upd H5 d (.lst (D7.map V.int)) = H6 at hd6 sd6
          have by0 : 0 ≤ b1 * b2 := Int.mul_nonneg b10 b20
          dsimp only
          generalize b1 * b2 = bb at by0
          have lb6 := lb.same sd6
          rw [e, List.map_append] at lb6
          obtain ⟨xi, x, hoo, hdn⟩ := lb6.last
          rw [del_ne ndo.symm] at hoo
          obtain ⟨a0, x0, rfl, hS0, hA0⟩ := dp_list (K := K) (ds := R0.map eP) (same_dp del_same (NewV.dp hdn))
          have hx0 : x0.length = R0.length := by rw [dpAll_len hA0, List.length_map]
          have oR0 : Ok n R0 := hok R0 (by rw [e]; simp)
          have lR0 : R0.length ≤ 20 := h20 R0 (by rw [e]; simp)
          refine ⟨_, rfl, 1, rfl, o, _, -1, _, rfl, rfl, SqL.of hoo, atI_last _ _, a0, rfl, ⟨_, hS0⟩, fun L nL => lcN_list (fun i => (R0[i]?).bind fun r => if decide (r.2 + bb < (n : Int)) = true then some (eP (r.1 + bb, r.2 + bb)) else none) hS0 nL (by omega) (fun j x H7 N1 N0 hx s7 c1 c0 => ?_) (fun H7 s7 lb7 => ?_)⟩
          · obtain ⟨dd, hdd, hdx⟩ := dpAll_get hA0 hx
            obtain ⟨r', hr', rfl⟩ := get_map hdd
            obtain ⟨t', rfl, hT⟩ := dp_pair hdx
            refine ⟨t', _, rfl, same_tup s7 hT, rfl, _, _, rfl, _, _, rfl, rfl, rfl, _, rfl, _, rfl, _, _, rfl, rfl, _, rfl, _, _, rfl, rfl, _, rfl, ite2 (fun z => ?_) (fun z => ?_)⟩
            · refine ⟨_, rfl, _, rfl, _, _, rfl, rfl, _, rfl, _, rfl, _, _, rfl, rfl, by show 2 ≤ sizeLine; decide, fun u nu => ?_⟩
              exact c1 _ _ _ (same_new nu) (by rw [hr', Option.bind_some, if_pos z]) (new_pair nu)
            · exact c0 H7 (Same.refl _) (by rw [hr', Option.bind_some, if_neg z])
          · have ef : (List.range x0.length).filterMap (fun (i : Nat) => (R0[i]?).bind fun r => if decide (r.2 + bb < (n : Int)) = true then some (eP (r.1 + bb, r.2 + bb)) else none) = (R0.filterMap fun r => if decide (r.2 + bb < (n : Int)) = true then some (r.1 + bb, r.2 + bb) else none).map eP := by
              rw [hx0, list_fm, List.map_filterMap]
              congr 1
              funext r
              split <;> rfl
            rw [ef] at lb7
            have s7d : Same (del H6 d) (del H7 d) := del_mono s7
            refine hN _ _ ⟨_, _, _, D7, .ref L, _, rfl, s7 _ _ hd6, k7, sd6.trans s7d, ((lb7.newV).del hd6).mono sd6 (Same.refl _), ⟨?_, fun z hz => ?_⟩, Nat.le_trans (List.length_filterMap_le _ _) lR0⟩
            · exact Nat.le_trans (List.length_filterMap_le _ _) oR0.1
            · obtain ⟨r', hr', ez⟩ := List.mem_filterMap.mp hz
              obtain ⟨q1, q2, q3⟩ := oR0.2 r' hr'
              split at ez
              · rename_i c9
                have c9' := of_decide_eq_true c9
                obtain rfl := Option.some.inj ez
                exact ⟨by show 0 ≤ r'.1 + bb; omega, by show r'.1 + bb ≤ r'.2 + bb; omega, c9'⟩
              · cases ez
        · exact hN _ _ ⟨_, _, _, D5, v, R, rfl, hd5, k5, sd5, nvd5, oR, lR⟩
  · obtain ⟨y3, y4, y5, y6, y7, D3, SS, rfl, hd, k3, sm, lb, hl, hok, h20⟩ := p
    refine ⟨_, rfl, q H2 D3 _ SS (fun b u nb e => ?_) hd k3 lb.newV.undel (by omega) hok h20⟩
    have := sm b u (by rw [del_ne nb]; exact e)
    rw [del_ne nb] at this
    exact this
end
section
variable {P : Program} {w : World} {K : PySem.W.Frag} {mg : Str → Option Value} {base : Heap}
/-- data that are copied, of fewer than n storeys -/
def spCopied (K : PySem.W.Frag) : Nat → Sp
  | 0 => fun _ _ _ _ => False
  | n + 1 => fun vs H Q _ => ∃ (v : V) (d : PyData), vs = [v] ∧ Dp K H v d ∧ Al n d ∧ ∀ H' p, Same H H' → NewV H H' p d → Q p H'
theorem list_all (ds : List PyData) : (List.range ds.length).filterMap (fun i => ds[i]?) = ds := by
  have h : ∀ m, m ≤ ds.length → (List.range m).filterMap (fun i => ds[i]?) = ds.take m := by
    intro m
    induction m with
    | zero => intro _; rfl
    | succ m ih =>
      intro hm
      have e : ds[m]? = some ds[m] := List.getElem?_eq_getElem hm
      rw [List.range_succ, List.filterMap_append, ih (Nat.le_of_succ_le hm), List.take_add_one, e]
      simp [e]
  rw [h _ (Nat.le_refl _), List.take_length]
theorem lcN_tup {K : PySem.W.Frag} {a : Addr} {xs : List V} {g : TG} {tt : TT} {te : TE} {vs : List Nat} {σ : L2.St} {H1 : Hp} {D : Addr} {Qd : Hp → Prop} (f : Nat → Option PyData) (hS : SqT K H1 a xs) (hD : H1 D = none) (hn : xs.length ≤ 1000000)
    (hs : ∀ (i : Nat) (x : V) (H : Hp) (N1 : V → Hp → Prop) (N0 : Hp → Prop), xs[i]? = some x → Same H1 H → (∀ y H4 e, Same H H4 → f i = some e → NewV H H4 y e → N1 y H4) → (∀ H3, Same H H3 → f i = none → N0 H3) →
      g x (wipe σ vs) H fun σ2 H2 => wipe σ2 vs = wipe σ vs ∧ tt σ2 H2 fun b H3 => if b = true then te σ2 H3 N1 else N0 H3)
    (hd : ∀ H, Same H1 H → LB H1 H D ((List.range xs.length).filterMap f) → Qd H) :
    ∃ W : Nat → Nat → Hp → Prop, (∃ m, W 0 m (upd H1 D (.lst []))) ∧ ∀ i m H, W i m H →
      ((Itt K a).stop i H ∧ Qd H) ∨ ((Itt K a).go i H ∧ ∃ Nx : Hp → Prop, (∀ H', Nx H' → ∃ m', m' < m ∧ W (i + 1) m' H') ∧ ∀ x H', (Itt K a).yld i H x H' → g x (wipe σ vs) H' fun σ2 H2 => wipe σ2 vs = wipe σ vs ∧ tt σ2 H2 fun b H3 =>
        if b = true then te σ2 H3 fun y H4 => ∃ acc, H4 D = some (.lst acc) ∧ acc.length < sizeLine ∧ Nx (upd H4 D (.lst (acc ++ [y]))) else Nx H3) := by
  refine ⟨fun i m H => m = xs.length - i ∧ i ≤ xs.length ∧ (Same H1 H ∧ LB H1 H D ((List.range i).filterMap f)), ⟨xs.length, by simp, Nat.zero_le _, same_new hD, LB.nil hD⟩, fun i m H hW => ?_⟩
  obtain ⟨rfl, hi, sm, lb⟩ := hW
  have hS' := same_tup sm hS
  by_cases h : i < xs.length
  · obtain ⟨k1, k0⟩ := lcN_step hn h sm lb
    have e : xs[i]? = some xs[i] := List.getElem?_eq_getElem h
    refine .inr ⟨⟨xs, _, hS', e⟩, fun H' => Same H1 H' ∧ LB H1 H' D ((List.range (i + 1)).filterMap f), fun H' p => ⟨xs.length - (i + 1), by omega, rfl, h, p⟩, fun x H' y => ?_⟩
    obtain ⟨rfl, y2⟩ := y
    exact hs i x _ _ _ (y2 xs hS') sm k1 k0
  · have e : i = xs.length := by omega
    subst e
    exact .inl ⟨⟨xs, hS', Nat.le_refl _⟩, hd H sm lb⟩
theorem ok_copied_n (T : Tx K mg) : ∀ n : Nat, Cl P w K mg base n "_law_copied" (spCopied K n)
  | 0 => by
    obtain ⟨f, fd, F, g, b⟩ := T.d__law_copied.ex
    exact ⟨f, fd, _, ⟨fun vs H Q E h => h.elim, fun A outer s H args us vs Q E _ _ _ _ h => h.elim⟩, g, F.kp, b⟩
  | n + 1 => by
    have ih := ok_copied_n T n
    refine T.d__law_copied.cl sc__law_copied (fun vs H Q E h => ?_) (fun f cdv A outer s H vs Q E hr h => ?_)
    · obtain ⟨v, d, rfl, _⟩ := h
      rfl
    obtain ⟨v, d, rfl, hv, al, q⟩ := h
    refine ⟨_, (pss_cons (ps_if (pt_val (pe_callB (isD K) (by rfl) T.z_isinstance (by decide +kernel) (pa_cons (pv 0) (pa_cons (pe_bltn (v := .ty "list") (by rfl) T.z_list (by decide +kernel) rfl) pa_nil)))) (pss_one (ps_ret (pe_lc (own := [("_law_one", 1)]) (g := (gName 1)) (tt := tYes) (by rfl) sc__law_copied.nd (piL K (pv 0)) (blkOk_by (own := [("_law_one", 1)]) (N := n__law_copied) (sc := defScope s__law_copied) (by decide +kernel)) (fun _ _ _ _ _ => (pg_name (i := 1) sc__law_copied.nd rfl (by first | exact Or.inl rfl | exact Or.inr rfl))) (fun _ _ _ _ _ => pts_nil) (fun _ _ _ _ _ => (pe_k ih hr (pa_cons (pv 1) pa_nil) (Nat.le_refl _)))))) pss_nil)
      (pss_cons (ps_if (pt_val (pe_callB (isD K) (by rfl) T.z_isinstance (by decide +kernel) (pa_cons (pv 0) (pa_cons (pe_bltn (v := .ty "tuple") (by rfl) T.z_tuple (by decide +kernel) rfl) pa_nil)))) (pss_one (ps_ret (pe_callTy (tupOf K) (by rfl) T.z_tuple (by decide +kernel) (pa_cons (pe_lc (own := [("_law_one", 1)]) (g := (gName 1)) (tt := tYes) (by rfl) sc__law_copied.nd (piT K (pv 0)) (blkOk_by (own := [("_law_one", 1)]) (N := n__law_copied) (sc := defScope s__law_copied) (by decide +kernel)) (fun _ _ _ _ _ => (pg_name (i := 1) sc__law_copied.nd rfl (by first | exact Or.inl rfl | exact Or.inr rfl))) (fun _ _ _ _ _ => pts_nil) (fun _ _ _ _ _ => (pe_k ih hr (pa_cons (pv 1) pa_nil) (Nat.le_refl _)))) pa_nil)))) pss_nil)
      (pss_one (ps_ret (pv 0))))), ?_⟩
    have mT : "tuple" ∈ ["bool", "int", "str", "tuple", "list"] := by decide
    have mL : "list" ∈ ["bool", "int", "str", "tuple", "list"] := by decide
    refine ⟨_, rfl, _, "list", d, rfl, mL, hv, _, rfl, ?_⟩
    have flat : isT "list" d = false → isT "tuple" d = false → NewV H H v d := fun c1 c2 => by
      cases hv with
      | non => exact .non
      | bl b => exact .bl b
      | int i => exact .int i
      | str x => exact .str x
      | lst h a => exact absurd c1 (by simp [isT, isN, tyN])
      | tup h a => exact absurd c2 (by simp [isT, isN, tyN])
    cases c : isT "list" d with
    | true =>
      refine iteT ?_
      cases hv with
      | non => exact absurd c (by decide)
      | bl b => exact absurd c (by simp [isT, isN, tyN])
      | int i => exact absurd c (by simp [isT, isN, tyN])
      | str x => exact absurd c (by simp [isT, isN, tyN])
      | tup h a => exact absurd c (by simp [isT, isN, tyN])
      | lst hS hA =>
        rename_i a xs ds
        cases n with
        | zero => exact al.elim
        | succ m =>
          have hl := dpAll_len hA
          have hal := al.1
          refine ⟨_, rfl, a, rfl, ⟨_, hS⟩, fun D nD => lcN_list (fun i => ds[i]?) hS nD (by omega) (fun i x G N1 N0 hx sm c1 c0 => ?_) (fun H1 s1 lb => ?_)⟩
          · obtain ⟨e, he, hxe⟩ := dpAll_get hA hx
            exact ⟨rfl, yesT ⟨_, rfl, x, e, rfl, same_dp sm hxe, al.2 e (List.mem_of_getElem? he), fun G2 p s2 nv => c1 p G2 e s2 he nv⟩⟩
          · rw [hl, list_all] at lb
            exact q H1 _ s1 lb.newV
    | false =>
      refine iteF ⟨_, rfl, _, "tuple", d, rfl, mT, hv, _, rfl, ?_⟩
      cases c2 : isT "tuple" d with
      | false => exact iteF ⟨_, rfl, q H v (Same.refl _) (flat c c2)⟩
      | true =>
        refine iteT ?_
        cases hv with
        | non => exact absurd c2 (by decide)
        | bl b => exact absurd c2 (by simp [isT, isN, tyN])
        | int i => exact absurd c2 (by simp [isT, isN, tyN])
        | str x => exact absurd c2 (by simp [isT, isN, tyN])
        | lst h a => exact absurd c2 (by simp [isT, isN, tyN])
        | tup hS hA =>
          rename_i a xs ds
          cases n with
          | zero => exact al.elim
          | succ m =>
            have hl := dpAll_len hA
            have hal := al.1
            refine ⟨_, rfl, a, rfl, ⟨_, hS⟩, fun D nD => lcN_tup (fun i => ds[i]?) hS nD (by omega) (fun i x G N1 N0 hx sm c1 c0 => ?_) (fun H1 s1 lb => ?_)⟩
            · obtain ⟨e, he, hxe⟩ := dpAll_get hA hx
              exact ⟨rfl, yesT ⟨_, rfl, x, e, rfl, same_dp sm hxe, al.2 e (List.mem_of_getElem? he), fun G2 p s2 nv => c1 p G2 e s2 he nv⟩⟩
            · rw [hl, list_all] at lb
              obtain ⟨hD0, zs, hz, hzA⟩ := lb
              refine ⟨D, zs, rfl, .inl ⟨SqL.of hz, fun t nt => ?_⟩⟩
              refine q _ _ (s1.trans (same_new nt)) (.tup (xs := zs) ?_ (hzA.mono fun b o e => ?_))
              · rw [fr_new (s1.free nt)]
                exact upd_same
              · obtain ⟨e1, e2⟩ := fr_some (del_same _ _ e)
                rw [fr_new e1]
                exact same_new nt _ _ e2
theorem ok__law_copied (T : Tx K mg) : Cl P w K mg base 6 "_law_copied" (spCopied K 6) := ok_copied_n T 6
/-- lists that were found are made longer, of fewer than n storeys -/
def spSpoil : Nat → Sp
  | 0 => fun _ _ _ _ => False
  | n + 1 => fun vs H Q _ => ∃ (G H0 : Hp) (k : Nat) (v : V) (d : PyData), vs = [v] ∧ Dn (fr G H0) v d ∧ Al n d ∧ Grow G k H0 H ∧ k + nl d ≤ 1000 ∧ ∀ H', Grow G (k + nl d) H0 H' → Q .non H'
theorem ok_spoil_n (T : Tx K mg) : ∀ n : Nat, Cl P w K mg base n "_law_spoil" (spSpoil n)
  | 0 => by
    obtain ⟨f, fd, F, g, b⟩ := T.d__law_spoil.ex
    exact ⟨f, fd, _, ⟨fun vs H Q E h => h.elim, fun A outer s H args us vs Q E _ _ _ _ h => h.elim⟩, g, F.kp, b⟩
  | n + 1 => by
    have ih := ok_spoil_n T n
    refine T.d__law_spoil.cl sc__law_spoil (fun vs H Q E h => ?_) (fun f cdv A outer s H vs Q E hr h => ?_)
    · obtain ⟨G, H0, k, v, d, rfl, _⟩ := h
      rfl
    obtain ⟨G, H0, k, v, d, rfl, hv, al, gr, hk, q⟩ := h
    refine ⟨_, (pss_cons (ps_if (pt_val (pe_callB (isLTK K) (by rfl) T.z_isinstance (by decide +kernel) (pa_cons (pv 0) (pa_cons (pe_tup (pa_cons (pe_bltn (v := .ty "list") (by rfl) T.z_list (by decide +kernel) rfl) (pa_cons (pe_bltn (v := .ty "tuple") (by rfl) T.z_tuple (by decide +kernel) rfl) pa_nil))) pa_nil)))) (pss_one (ps_for PassesOwn.never rfl (piQ K (pv 0)) (pg_name (i := 1) sc__law_spoil.nd rfl (by first | exact Or.inl rfl | exact Or.inr rfl))
      (pss_one (ps_expr (pe_k ih hr (pa_cons (pv 1) pa_nil) (Nat.le_refl _)))))) pss_nil)
      (pss_one (ps_if (pt_val (pe_callB (isTyK K) (by rfl) T.z_isinstance (by decide +kernel) (pa_cons (pv 0) (pa_cons (pe_bltn (v := .ty "list") (by rfl) T.z_list (by decide +kernel) rfl) pa_nil)))) (pss_one (ps_expr (pe_bm PySem.F.plainAttrs_list PySem.F.slot_list_append PySem.F.type_list_append mt_append (pv 0) (pa_cons (pe_un un_neg pe_int) pa_nil)))) pss_nil))), ?_⟩
    have mL : "list" ∈ ["bool", "int", "str", "tuple", "list"] := by decide
    refine ⟨_, rfl, by show 2 ≤ sizeLine; decide, fun tp ntp => ?_⟩
    have g1 := gr.trans (same_new (o := .tup [.ty "list", .ty "tuple"]) ntp)
    have htp : upd H tp (.tup [.ty "list", .ty "tuple"]) tp = some (.tup [.ty "list", .ty "tuple"]) := upd_same
    generalize upd H tp (.tup [.ty "list", .ty "tuple"]) = H1 at g1 htp
    cases hv with
    | non =>
      refine ⟨_, tp, "NoneType", rfl, htp, by decide, .base .non, _, rfl, iteF ?_⟩
      exact ⟨_, rfl, _, "list", "NoneType", rfl, mL, by decide, .base .non, _, rfl, iteF (q H1 (g1.mono (Nat.le_add_right _ _)))⟩
    | bl b =>
      refine ⟨_, tp, "bool", rfl, htp, by decide, .base (.bl b), _, rfl, iteF ?_⟩
      exact ⟨_, rfl, _, "list", "bool", rfl, mL, by decide, .base (.bl b), _, rfl, iteF (q H1 (g1.mono (Nat.le_add_right _ _)))⟩
    | int i =>
      refine ⟨_, tp, "int", rfl, htp, by decide, .base (.int i), _, rfl, iteF ?_⟩
      exact ⟨_, rfl, _, "list", "int", rfl, mL, by decide, .base (.int i), _, rfl, iteF (q H1 (g1.mono (Nat.le_add_right _ _)))⟩
    | str x =>
      refine ⟨_, tp, "str", rfl, htp, by decide, .base (.str x), _, rfl, iteF ?_⟩
      exact ⟨_, rfl, _, "list", "str", rfl, mL, by decide, .base (.str x), _, rfl, iteF (q H1 (g1.mono (Nat.le_add_right _ _)))⟩
    | lst h0 hA =>
      rename_i a xs ds
      cases n with
      | zero => exact al.elim
      | succ m =>
        rw [nl] at hk
        obtain ⟨j1, hj1, ha1⟩ := g1.lst a xs h0
        refine ⟨_, tp, "list", rfl, htp, by decide, .base (.lst ha1), _, rfl, iteT ?_⟩
        have hlen := hA.len
        refine .inl ⟨_, rfl, a, rfl, ⟨_, SqL.of ha1⟩, fun i m' σ Hc => m' = xs.length + 1001 - i ∧ (∃ y, σ = [some (.ref a), y]) ∧ Grow G (k + nlAll (ds.take i)) H0 Hc, ⟨_, rfl, ⟨none, rfl⟩, g1.mono (Nat.le_add_right _ _)⟩, fun i m' σ Hc hW => ?_⟩
        obtain ⟨rfl, ⟨y, rfl⟩, gc⟩ := hW
        obtain ⟨j, hj, hac⟩ := gc.lst a xs h0
        have hnt := nlAll_take i ds
        have hyl : (xs ++ List.replicate j (V.int (-1))).length = xs.length + j := by rw [List.length_append, List.length_replicate]
        by_cases c : i < (xs ++ List.replicate j (V.int (-1))).length
        · have gx : (xs ++ List.replicate j (V.int (-1)))[i]? = some (xs ++ List.replicate j (V.int (-1)))[i] := List.getElem?_eq_getElem c
          refine .inr ⟨⟨_, _, SqL.of hac, gx⟩, fun σ' H' => (∃ y, σ' = [some (.ref a), y]) ∧ Grow G (k + nlAll (ds.take (i + 1))) H0 H', fun σ' H' hN => ⟨xs.length + 1001 - (i + 1), by omega, rfl, hN⟩, fun x H' hy => ?_⟩
          obtain ⟨rfl, hy2⟩ := hy
          have hx := hy2 _ (SqL.of hac)
          rcases dn_at hA hx with ⟨d', hd', hn'⟩ | ⟨hi, rfl⟩
          · have et : nlAll (ds.take (i + 1)) = nlAll (ds.take i) + nl d' := by
              rw [List.take_add_one, hd']
              exact nlAll_snoc _ _
            have hnt' := nlAll_take (i + 1) ds
            refine ⟨_, rfl, G, H0, k + nlAll (ds.take i), x, d', rfl, hn', al.2 d' (List.mem_of_getElem? hd'), gc, by omega, fun H2 g2 => ⟨⟨_, rfl⟩, ?_⟩⟩
            rw [et, ← Nat.add_assoc]
            exact g2
          · have e1 : ds.take i = ds := List.take_of_length_le (by omega)
            have e2 : ds.take (i + 1) = ds := List.take_of_length_le (by omega)
            rw [e1] at gc
            refine ⟨_, rfl, G, H0, k + nlAll ds, _, .int (-1), rfl, .int _, Al.int _, gc, by simp [nl]; omega, fun H2 g2 => ⟨⟨_, rfl⟩, ?_⟩⟩
            rw [e2]
            exact g2.mono (by simp [nl])
        · have e1 : ds.take i = ds := List.take_of_length_le (by omega)
          rw [e1] at gc
          refine .inl ⟨⟨_, SqL.of hac, by omega⟩, ?_⟩
          refine ⟨_, rfl, _, "list", "list", rfl, mL, by decide, .base (.lst hac), _, rfl, iteT ?_⟩
          refine ⟨_, rfl, .inl ⟨rfl, _, SqL.of hac⟩, 1, rfl, a, _, _, rfl, rfl, hac, sizeOk (by have := al.1; omega), ?_⟩
          refine q _ ?_
          rw [nl]
          exact gc.push h0 hac
    | tup h0 hA =>
      rename_i a xs ds
      cases n with
      | zero => exact al.elim
      | succ m =>
        rw [nl] at hk
        have ha1 := g1.tup a xs h0
        refine ⟨_, tp, "tuple", rfl, htp, by decide, .base (.tup ha1), _, rfl, iteT ?_⟩
        have hlen := hA.len
        refine .inr ⟨_, rfl, a, rfl, ⟨_, SqT.of ha1⟩, fun i m' σ Hc => m' = xs.length + 1 - i ∧ i ≤ xs.length ∧ (∃ y, σ = [some (.ref a), y]) ∧ Grow G (k + nlAll (ds.take i)) H0 Hc, ⟨_, rfl, Nat.zero_le _, ⟨none, rfl⟩, g1.mono (Nat.le_add_right _ _)⟩, fun i m' σ Hc hW => ?_⟩
        obtain ⟨rfl, hi, ⟨y, rfl⟩, gc⟩ := hW
        have hac := gc.tup a xs h0
        by_cases c : i < xs.length
        · have gx : xs[i]? = some xs[i] := List.getElem?_eq_getElem c
          refine .inr ⟨⟨_, _, SqT.of hac, gx⟩, fun σ' H' => i + 1 ≤ xs.length ∧ (∃ y, σ' = [some (.ref a), y]) ∧ Grow G (k + nlAll (ds.take (i + 1))) H0 H', fun σ' H' hN => ⟨xs.length + 1 - (i + 1), by omega, rfl, hN⟩, fun x H' hy => ?_⟩
          obtain ⟨rfl, hy2⟩ := hy
          have hx := hy2 _ (SqT.of hac)
          obtain ⟨d', hd', hn'⟩ := hA.get hx
          have et : nlAll (ds.take (i + 1)) = nlAll (ds.take i) + nl d' := by
            rw [List.take_add_one, hd']
            exact nlAll_snoc _ _
          have hnt' := nlAll_take (i + 1) ds
          refine ⟨_, rfl, G, H0, k + nlAll (ds.take i), x, d', rfl, hn', al.2 d' (List.mem_of_getElem? hd'), gc, by omega, fun H2 g2 => ⟨c, ⟨_, rfl⟩, ?_⟩⟩
          rw [et, ← Nat.add_assoc]
          exact g2
        · have e1 : ds.take i = ds := List.take_of_length_le (by omega)
          rw [e1] at gc
          refine .inl ⟨⟨_, SqT.of hac, by omega⟩, ?_⟩
          refine ⟨_, rfl, _, "list", "tuple", rfl, mL, by decide, .base (.tup hac), _, rfl, iteF ?_⟩
          refine q _ ?_
          rw [nl]
          exact gc
theorem ok__law_spoil (T : Tx K mg) : Cl P w K mg base 6 "_law_spoil" (spSpoil 6) := ok_spoil_n T 6
end
section
variable {P : Program} {w : World} {K : PySem.W.Frag} {mg : Str → Option Value} {base : Heap}
/-- what is told of a kind -/
def firstS (SS : List (List (Int × Int))) : List (Int × Int) := match SS with
  | [] => []
  | R :: _ => R
def ansD (n : Nat) (R : List (Int × Int)) (SS : List (List (Int × Int))) (kind : Nat) : List PyData :=
  if kind = 0 then [eI (allIn n R), eR (TR n (has R)), eR (TR n fun k => !has R k), .tuple [.bool (HV (TR n (has R)) ((n / 2 : Nat) : Int) 0 (TR n (has R)).length).1, eR (HV (TR n (has R)) ((n / 2 : Nat) : Int) 0 (TR n (has R)).length).2]]
  else if kind = 1 then [eR (TR n fun k => has R k || has (firstS SS) k), eR (TR n fun k => has R k && has (firstS SS) k), eR (TR n fun k => has R k && !has (firstS SS) k)]
  else if kind = 2 then [.str (wText n R), eR (TR n (has R)), eP (leastP n SS)]
  else [eTab n (1 + n / 3) SS, eRs (classesOf n SS), eI (rowOf n SS), eIs (byC n SS)]
def spAsked (K : PySem.W.Frag) : Sp := fun vs H Q _ => ∃ (kind n : Nat) (v u : V) (R : List (Int × Int)) (SS : List (List (Int × Int))), vs = [.int kind, .int n, v, u] ∧ kind < 4 ∧ 1 ≤ n ∧ n ≤ 64 ∧ Dp K H v (eR R) ∧ Ok n R ∧ (∃ a xs, u = .ref a ∧ H a = some (.lst xs) ∧ DpAll K H xs (SS.map eR)) ∧ SS.length ≤ 6 ∧ (∀ S ∈ SS, Ok n S) ∧ ∀ H' p, Same H H' → NewV H H' p (.list (ansD n R SS kind)) → Q p H'
theorem ok__law_asked (T : Tx K mg) : Cl P w K mg base 6 "_law_asked" (spAsked K) := by
  refine T.d__law_asked.cl sc__law_asked (fun vs H Q E h => ?_) (fun f cdv A outer s H vs Q E hr h => ?_)
  · obtain ⟨kind, n, v, u, R, SS, rfl, _⟩ := h
    rfl
  obtain ⟨kind, n, v, u, R, SS, rfl, hkind, h1, h2, hv, kR, ⟨au, xu, rfl, hu, hA⟩, lS, oS, q⟩ := h
  have pu : Dp K H (.ref au) (eRs SS) := .lst (SqL.of hu) hA
  have l1000 : SS.length ≤ 1000 := by omega
  have four : ∀ {H1 H2 H3 H4 : Hp} {p1 p2 p3 p4 : V} {d1 d2 d3 d4 : PyData}, Same H H1 → Same H1 H2 → Same H2 H3 → Same H3 H4 → NewV H H1 p1 d1 → NewV H1 H2 p2 d2 → NewV H2 H3 p3 d3 → NewV H3 H4 p4 d4 → ∀ g, H4 g = none → Same H (upd H4 g (.lst [p1, p2, p3, p4])) ∧ NewV H (upd H4 g (.lst [p1, p2, p3, p4])) (.ref g) (.list [d1, d2, d3, d4]) := fun {H1 H2 H3 H4 p1 p2 p3 p4 d1 d2 d3 d4} s1 s2 s3 s4 n1 n2 n3 n4 g ng => by
    have t4 := s1.trans (s2.trans (s3.trans s4))
    refine ⟨t4.trans (same_new ng), .lst (xs := _) (by rw [fr_new (t4.free ng)]; exact upd_same) ?_⟩
    have s5 := same_new (o := .lst [p1, p2, p3, p4]) ng
    exact .cons (n1.mono (Same.refl _) (s2.trans (s3.trans (s4.trans s5)))) (.cons (n2.mono s1 (s3.trans (s4.trans s5))) (.cons (n3.mono (s1.trans s2) (s4.trans s5)) (.cons (n4.mono (s1.trans (s2.trans s3)) s5) .nil)))
  refine ⟨_, (pss_cons (ps_if (pt_cmpR op_eq (pv 0) pe_int (nomark _)) (pss_one (ps_ret (pe_lst (pa_cons (pe_k (ok_members T) hr (pa_cons (pv 1) (pa_cons (pv 2) pa_nil))) (pa_cons (pe_k (ok_plain T) hr (pa_cons (pv 1) (pa_cons (pv 2) pa_nil))) (pa_cons (pe_k (ok_others T) hr (pa_cons (pv 1) (pa_cons (pv 2) pa_nil))) (pa_cons (pe_k (ok_inside T) hr (pa_cons (pv 1) (pa_cons (pv 2) (pa_cons (pe_op op_fdiv (pv 1) pe_int) pa_nil)))) pa_nil))))))) pss_nil)
      (pss_cons (ps_if (pt_cmpR op_eq (pv 0) pe_int (nomark _)) (pss_cons (ps_set (i := 4) sc__law_asked.nd rfl (by first | exact Or.inl rfl | exact Or.inr rfl) (pe_ix (ixL K) (pe_op op_cat (pv 3) (pe_lst (pa_cons (pe_lst pa_nil) pa_nil))) pe_int (fun _ _ => rfl)))
      (pss_one (ps_ret (pe_lst (pa_cons (pe_k (ok_joined T) hr (pa_cons (pv 1) (pa_cons (pv 2) (pa_cons (pv 4) pa_nil)))) (pa_cons (pe_k (ok_common T) hr (pa_cons (pv 1) (pa_cons (pv 2) (pa_cons (pv 4) pa_nil)))) (pa_cons (pe_k (ok_less T) hr (pa_cons (pv 1) (pa_cons (pv 2) (pa_cons (pv 4) pa_nil)))) pa_nil))))))) pss_nil)
      (pss_cons (ps_if (pt_cmpR op_eq (pv 0) pe_int (nomark _)) (pss_one (ps_ret (pe_lst (pa_cons (pe_k (ok_written T) hr (pa_cons (pv 1) (pa_cons (pv 2) pa_nil))) (pa_cons (pe_k (ok_read T) hr (pa_cons (pv 1) (pa_cons (pe_k (ok_written T) hr (pa_cons (pv 1) (pa_cons (pv 2) pa_nil))) pa_nil))) (pa_cons (pe_k (ok_least T) hr (pa_cons (pv 1) (pa_cons (pv 3) pa_nil))) pa_nil)))))) pss_nil)
      (pss_one (ps_ret (pe_lst (pa_cons (pe_k (ok_table T) hr (pa_cons (pv 1) (pa_cons (pv 3) (pa_cons (pe_op op_add pe_int (pe_op op_fdiv (pv 1) pe_int)) pa_nil)))) (pa_cons (pe_k (ok_classes T) hr (pa_cons (pv 1) (pa_cons (pv 3) pa_nil))) (pa_cons (pe_k (ok_class_row T) hr (pa_cons (pv 1) (pa_cons (pv 3) pa_nil))) (pa_cons (pe_k (ok_by_classes T) hr (pa_cons (pv 1) (pa_cons (pv 3) pa_nil))) pa_nil)))))))))), ?_⟩
  have k0 : kind = 0 ∨ kind = 1 ∨ kind = 2 ∨ kind = 3 := by omega
  rcases k0 with rfl | rfl | rfl | rfl
  · refine ⟨_, rfl, rfl, true, bT rfl, iteT ?_⟩
    refine ⟨_, rfl, _, rfl, n, v, R, rfl, h1, h2, hv, kR, fun H1 p1 s1 n1 => ?_⟩
    refine ⟨_, rfl, _, rfl, n, v, R, rfl, h1, h2, same_dp s1 hv, kR, fun H2 p2 s2 n2 => ?_⟩
    refine ⟨_, rfl, _, rfl, n, v, R, rfl, h1, h2, same_dp (s1.trans s2) hv, kR, fun H3 p3 s3 n3 => ?_⟩
    refine ⟨_, rfl, _, rfl, _, rfl, _, _, rfl, rfl, ⟨by decide, by decide⟩, n, v, R, ((n / 2 : Nat) : Int), ?_, h1, h2, same_dp (s1.trans (s2.trans s3)) hv, kR, by omega, by omega, fun H4 p4 s4 n4 => ⟨by show 4 ≤ sizeLine; decide, fun g ng => ?_⟩⟩
    · have e : (n : Int) / 2 = ((n / 2 : Nat) : Int) := by omega
      dsimp only
      rw [e]
      rfl
    · obtain ⟨r1, r2⟩ := four s1 s2 s3 s4 n1 n2 n3 n4 g ng
      exact q _ _ r1 r2
  · refine ⟨_, rfl, rfl, false, bF (by decide), iteF ⟨_, rfl, rfl, true, bT rfl, iteT ?_⟩⟩
    -- the other
    refine ⟨_, rfl, Nat.zero_le _, fun l1 nl1 => ⟨by show 1 ≤ sizeLine; decide, fun l2 nl2 => ?_⟩⟩
    have sa : Same H (upd (upd H l1 (.lst [])) l2 (.lst [.ref l1])) := (same_new nl1).trans (same_new nl2)
    have xul : xu.length = SS.length := by rw [dpAll_len hA, List.length_map]
    refine ⟨au, l2, xu, _, rfl, rfl, sa _ _ hu, upd_same, Nat.le_of_lt (sizeOk (by simp; omega)), fun l3 nl3 => ?_⟩
    have sb : Same H (upd (upd (upd H l1 (.lst [])) l2 (.lst [.ref l1])) l3 (.lst (xu ++ [.ref l1]))) := sa.trans (same_new nl3)
    have hl1 : upd (upd (upd H l1 (.lst [])) l2 (.lst [.ref l1])) l3 (.lst (xu ++ [.ref l1])) l1 = some (.lst []) := same_new nl3 _ _ (same_new nl2 _ _ upd_same)
    have hl3 : upd (upd (upd H l1 (.lst [])) l2 (.lst [.ref l1])) l3 (.lst (xu ++ [.ref l1])) l3 = some (.lst (xu ++ [.ref l1])) := upd_same
    generalize upd (upd (upd H l1 (.lst [])) l2 (.lst [.ref l1])) l3 (.lst (xu ++ [.ref l1])) = H0 at sb hl1 hl3
    obtain ⟨y, hy, py, ky⟩ : ∃ y, (xu ++ [V.ref l1])[0]? = some y ∧ Dp K H0 y (eR (firstS SS)) ∧ Ok n (firstS SS) := by
      cases SS with
      | nil =>
        have : xu = [] := List.eq_nil_of_length_eq_zero (by rw [xul]; rfl)
        subst this
        exact ⟨_, rfl, .lst (SqL.of hl1) .nil, ⟨by show 0 ≤ 40; decide, fun r hr => by simp [firstS] at hr⟩⟩
      | cons S SS =>
        cases xu with
        | nil => simp at xul
        | cons x xu =>
          cases hA with
          | cons hx _ => exact ⟨x, rfl, same_dp sb hx, oS S (by simp)⟩
    refine ⟨l3, _, 0, y, rfl, rfl, SqL.of hl3, atI_nat (j := 0) hy, ?_⟩
    refine ⟨_, rfl, _, rfl, _, rfl, n, v, y, R, firstS SS, rfl, h1, h2, same_dp sb hv, py, kR, ky, fun H1 p1 s1 n1 => ?_⟩
    refine ⟨_, rfl, _, rfl, _, rfl, n, v, y, R, firstS SS, rfl, h1, h2, same_dp (sb.trans s1) hv, same_dp s1 py, kR, ky, fun H2 p2 s2 n2 => ?_⟩
    refine ⟨_, rfl, _, rfl, _, rfl, n, v, y, R, firstS SS, rfl, h1, h2, same_dp (sb.trans (s1.trans s2)) hv, same_dp (s1.trans s2) py, kR, ky, fun H3 p3 s3 n3 => ⟨by show 3 ≤ sizeLine; decide, fun g ng => ?_⟩⟩
    have t3 := sb.trans (s1.trans (s2.trans s3))
    have s4 := same_new (o := .lst [p1, p2, p3]) ng
    refine q _ _ (t3.trans s4) (.lst (xs := [p1, p2, p3]) (by rw [fr_new (t3.free ng)]; exact upd_same) ?_)
    exact .cons (n1.mono sb (s2.trans (s3.trans s4))) (.cons (n2.mono (sb.trans s1) (s3.trans s4)) (.cons (n3.mono (sb.trans (s1.trans s2)) s4) .nil))
  · refine ⟨_, rfl, rfl, false, bF (by decide), iteF ⟨_, rfl, rfl, false, bF (by decide), iteF ⟨_, rfl, rfl, true, bT rfl, iteT ?_⟩⟩⟩
    obtain ⟨neg, I, ew, oI, hneg, hI⟩ := wText_is h2 R
    refine ⟨_, rfl, _, rfl, n, v, R, rfl, h1, h2, hv, kR, fun H1 s1 => ?_⟩
    refine ⟨_, rfl, _, rfl, _, rfl, n, v, R, rfl, h1, h2, same_dp s1 hv, kR, fun H2 s2 => ?_⟩
    refine ⟨n, neg, I, by rw [ew]; rfl, h1, h2, oI, hneg, fun H3 p3 s3 n3 => ?_⟩
    rw [TR_congr hI] at n3
    have t3 := s1.trans (s2.trans s3)
    refine ⟨_, rfl, _, rfl, n, _, SS, rfl, h1, h2, same_dp t3 pu, l1000, oS, fun H4 p4 s4 n4 => ⟨by show 3 ≤ sizeLine; decide, fun g ng => ?_⟩⟩
    have s5 := same_new (o := .lst [.str (wText n R), p3, p4]) ng
    have t4 := t3.trans s4
    refine q _ _ (t4.trans s5) (.lst (xs := [.str (wText n R), p3, p4]) (by rw [fr_new (t4.free ng)]; exact upd_same) ?_)
    exact .cons (.str _) (.cons (n3.mono (s1.trans s2) (s4.trans s5)) (.cons (n4.mono t3 s5) .nil))
  · refine ⟨_, rfl, rfl, false, bF (by decide), iteF ⟨_, rfl, rfl, false, bF (by decide), iteF ⟨_, rfl, rfl, false, bF (by decide), iteF ?_⟩⟩⟩
    refine ⟨_, rfl, _, rfl, _, rfl, _, _, rfl, rfl, ⟨by decide, by decide⟩, _, _, rfl, rfl, n, _, SS, 1 + n / 3, ?_, h1, h2, by omega, by omega, pu, l1000, oS, fun H1 p1 s1 n1 => ?_⟩
    · have e : (1 : Int) + (n : Int) / 3 = ((1 + n / 3 : Nat) : Int) := by omega
      dsimp only
      rw [e]
      rfl
    refine ⟨_, rfl, _, rfl, n, _, SS, rfl, h1, h2, same_dp s1 pu, l1000, oS, fun H2 p2 s2 n2 => ?_⟩
    refine ⟨_, rfl, _, rfl, n, _, SS, rfl, h1, h2, same_dp (s1.trans s2) pu, l1000, oS, fun H3 p3 s3 n3 => ?_⟩
    refine ⟨_, rfl, _, rfl, n, _, SS, rfl, h1, h2, same_dp (s1.trans (s2.trans s3)) pu, l1000, oS, fun H4 p4 s4 n4 => ⟨by show 4 ≤ sizeLine; decide, fun g ng => ?_⟩⟩
    obtain ⟨r1, r2⟩ := four s1 s2 s3 s4 n1 n2 n3 n4 g ng
    exact q _ _ r1 r2
end
section
variable {P : Program} {w : World} {K : PySem.W.Frag} {mg : Str → Option Value} {base : Heap}
def spLaw (K : PySem.W.Frag) : Sp := fun vs H Q _ => ∃ (a : Addr) (ns : List Int), vs = [.ref a] ∧ SqL K H a (ns.map V.int) ∧ ns.length ≤ 63 ∧ ∀ H', Q (.bl true) H'
/-- a case: a size, a set, some sets -/
abbrev Case := Nat × List (Int × Int) × List (List (Int × Int))
def eC (c : Case) : PyData := .tuple [.int c.1, eR c.2.1, eRs c.2.2]
def OkC (c : Case) : Prop := 1 ≤ c.1 ∧ c.1 ≤ 64 ∧ Ok c.1 c.2.1 ∧ c.2.2.length ≤ 6 ∧ ∀ S ∈ c.2.2, Ok c.1 S
def keptD (c : Case) : PyData := .list ((List.range 4).map fun i => .list (ansD c.1 c.2.1 c.2.2 i))
theorem classesT_len (n : Nat) (SS : List (List (Int × Int))) : (classesOf n SS).length ≤ n := by
  unfold classesOf
  rw [List.length_map, List.length_range]
  exact kinds_len n SS
theorem classesT_mem {n : Nat} {SS : List (List (Int × Int))} {l : List (Int × Int)} (h : l ∈ classesOf n SS) : l.length ≤ n := by
  obtain ⟨a, _, rfl⟩ := List.mem_map.mp h
  exact Nat.le_trans (told_len _) (allIn_len n _)
theorem byCT_len (n : Nat) (SS : List (List (Int × Int))) : (byC n SS).length = SS.length := by unfold byC; rw [List.length_map, List.length_range]
theorem byCT_mem {n : Nat} {SS : List (List (Int × Int))} {l : List Int} (h : l ∈ byC n SS) : l.length ≤ n := by
  obtain ⟨a, _, rfl⟩ := List.mem_map.mp h
  exact Nat.le_trans (allIn_len _ _) (kinds_len n SS)
theorem ans_len (n : Nat) (R : List (Int × Int)) (SS : List (List (Int × Int))) (k : Nat) : (ansD n R SS k).length ≤ 4 := by
  unfold ansD
  split
  · exact Nat.le_refl 4
  · split
    · exact (by decide : 3 ≤ 4)
    · split
      · exact (by decide : 3 ≤ 4)
      · exact Nat.le_refl 4
theorem ans_item {n : Nat} {R : List (Int × Int)} {SS : List (List (Int × Int))} {k : Nat} (hn : n ≤ 64) (hS : SS.length ≤ 6) : ∀ d ∈ ansD n R SS k, Al 4 d ∧ nl d ≤ 80 := by
  have hr : ∀ p, Al 4 (eR (TR n p)) ∧ nl (eR (TR n p)) ≤ 80 := fun p => ⟨Al.eR (Nat.le_trans (TR_ok hn p).1 (by decide)), by rw [nl_eR]; decide⟩
  have hi : ∀ ns : List Int, ns.length ≤ 64 → Al 4 (eI ns) ∧ nl (eI ns) ≤ 80 := fun ns h => ⟨Al.eI (by omega), by rw [nl_eI]; decide⟩
  have hw : 1 ≤ 1 + n / 3 := by omega
  intro d hd
  unfold ansD at hd
  split at hd
  · simp only [List.mem_cons, List.not_mem_nil, or_false] at hd
    rcases hd with rfl | rfl | rfl | rfl
    · exact hi _ (Nat.le_trans (allIn_len n _) hn)
    · exact hr _
    · exact hr _
    · have hl := HV_le (T := TR n (has R)) (k := ((n / 2 : Nat) : Int)) _ 0 (TR n (has R)).length (Nat.le_refl _) (Nat.le_refl _)
      have h40 := (TR_ok hn (has R)).1
      refine ⟨⟨by show 2 ≤ 100000; decide, fun z hz => ?_⟩, ?_⟩
      · simp only [List.mem_cons, List.not_mem_nil, or_false] at hz
        rcases hz with rfl | rfl
        · exact Al.bool _
        · exact Al.eR (by omega)
      · rw [nl, nlAll, nlAll, nlAll, nl_eR]
        simp [nl]
  · split at hd
    · simp only [List.mem_cons, List.not_mem_nil, or_false] at hd
      rcases hd with rfl | rfl | rfl <;> exact hr _
    · split at hd
      · simp only [List.mem_cons, List.not_mem_nil, or_false] at hd
        rcases hd with rfl | rfl | rfl
        · exact ⟨Al.str _, by simp [nl]⟩
        · exact hr _
        · exact ⟨Al.eP _, by rw [nl_eP]; decide⟩
      · simp only [List.mem_cons, List.not_mem_nil, or_false] at hd
        rcases hd with rfl | rfl | rfl | rfl
        · have hc := cnt_le (n := n) hw
          have hm : SS.length * cnt n (1 + n / 3) ≤ 6 * 64 := Nat.mul_le_mul hS (by omega)
          refine ⟨⟨by show 2 ≤ 100000; decide, fun z hz => ?_⟩, ?_⟩
          · simp only [List.mem_cons, List.not_mem_nil, or_false] at hz
            rcases hz with rfl | rfl
            · refine Al.eIs (by unfold firstsT; rw [List.length_map]; omega) fun l hl => ?_
              obtain ⟨S, _, rfl⟩ := List.mem_map.mp hl
              rw [List.length_map, rowsR_len]
              omega
            · refine ⟨by rw [List.length_map, List.length_map]; exact Nat.le_trans (rowsT_len n _ SS) (by omega), fun z hz => ?_⟩
              obtain ⟨r, _, rfl⟩ := List.mem_map.mp hz
              exact Al.str r
          · unfold eTab
            have h1 := nl_eIs (firstsT n (1 + n / 3) SS)
            have h2 : (firstsT n (1 + n / 3) SS).length = SS.length := by unfold firstsT; rw [List.length_map]
            rw [nl, nlAll, nlAll, nlAll, nl_eT]
            omega
        · have hc := classesT_len n SS
          refine ⟨Al.eRs (by omega) fun l hl => by have := classesT_mem hl; omega, ?_⟩
          have := nl_eRs (classesOf n SS)
          omega
        · exact hi _ (by rw [rowOf_len]; exact hn)
        · have hb := byCT_len n SS
          refine ⟨Al.eIs (by omega) fun l hl => by have := byCT_mem hl; omega, ?_⟩
          have := nl_eIs (byC n SS)
          omega
theorem al_ans {n : Nat} {R : List (Int × Int)} {SS : List (List (Int × Int))} {k : Nat} (hn : n ≤ 64) (hS : SS.length ≤ 6) : Al 5 (.list (ansD n R SS k)) := ⟨Nat.le_trans (ans_len n R SS k) (by decide), fun d hd => (ans_item hn hS d hd).1⟩
theorem nl_ans {n : Nat} {R : List (Int × Int)} {SS : List (List (Int × Int))} {k : Nat} (hn : n ≤ 64) (hS : SS.length ≤ 6) : nl (.list (ansD n R SS k)) ≤ 321 := by
  have h1 := nlAll_le (c := 80) (ds := ansD n R SS k) fun d hd => (ans_item hn hS d hd).2
  have h2 := ans_len n R SS k
  have h3 : (ansD n R SS k).length * 80 ≤ 4 * 80 := Nat.mul_le_mul_right _ h2
  rw [nl]
  omega
theorem dn_list {F : Hp} {v : V} {ds : List PyData} (h : Dn F v (.list ds)) : ∃ a xs, v = .ref a ∧ F a = some (.lst xs) ∧ DnAll F xs ds := by
  cases h with
  | lst h a => exact ⟨_, _, rfl, h, a⟩
theorem dn_case {F : Hp} {v : V} {c : Case} (h : Dn F v (eC c)) : ∃ t av vx au ux, v = .ref t ∧ F t = some (.tup [.int c.1, .ref av, .ref au]) ∧ F av = some (.lst vx) ∧ DnAll F vx (c.2.1.map eP) ∧ F au = some (.lst ux) ∧ DnAll F ux (c.2.2.map eR) := by
  cases h with
  | tup h a =>
    cases a with
    | cons a1 a =>
      cases a with
      | cons a2 a =>
        cases a with
        | cons a3 a =>
          cases a
          cases a1
          obtain ⟨av, vx, rfl, h1, h2⟩ := dn_list a2
          obtain ⟨au, ux, rfl, h3, h4⟩ := dn_list a3
          exact ⟨_, av, vx, au, ux, rfl, h, h1, h2, h3, h4⟩
set_option maxHeartbeats 8000000 in
theorem ok_law (T : Tx K mg) {f : Addr} {fd : FuncData} (F : Fun K "law" "law" s_law f fd) : FnOk P w K mg base CX0 10 f fd ["_law_script"] (spLaw K) := by
  refine F.ok sc_law (fun vs H Q E h => ?_) (fun cdv A outer s H vs Q E hr h => ?_)
  · obtain ⟨a, ns, rfl, _⟩ := h
    rfl
  obtain ⟨a, ns, rfl, hS, h63, q⟩ := h
  refine ⟨_, (pss_cons (ps_set (i := 1) sc_law.nd rfl (by first | exact Or.inl rfl | exact Or.inr rfl) (pe_k (ok__law_dice T) hr (pa_cons (pv 0) (pa_cons pe_int pa_nil))))
      (pss_cons (ps_set (i := 2) sc_law.nd rfl (by first | exact Or.inl rfl | exact Or.inr rfl) (pe_lst pa_nil))
      (pss_cons (ps_for PassesOwn.never rfl (pi_range1 (by rfl) T.z_range (pa_cons pe_int pa_nil)) (pg_name (i := 3) sc_law.nd rfl (by first | exact Or.inl rfl | exact Or.inr rfl))
      (pss_cons (ps_set (i := 4) sc_law.nd rfl (by first | exact Or.inl rfl | exact Or.inr rfl) (pe_k (ok__law_size T) hr (pa_cons (pv 1) pa_nil)))
      (pss_one (ps_expr (pe_bm PySem.F.plainAttrs_list PySem.F.slot_list_append PySem.F.type_list_append mt_append (pv 2) (pa_cons (pe_tup (pa_cons (pv 4) (pa_cons (pe_k (ok__law_set T) hr (pa_cons (pv 1) (pa_cons (pv 4) (pa_cons pe_int pa_nil)))) (pa_cons (pe_k (ok__law_sets T) hr (pa_cons (pv 1) (pa_cons (pv 4) pa_nil))) pa_nil)))) pa_nil))))))
      (pss_cons (ps_set (i := 5) sc_law.nd rfl (by first | exact Or.inl rfl | exact Or.inr rfl) (pe_lst pa_nil))
      (pss_cons (ps_for PassesOwn.never rfl (piL K (pv 2)) (pgT K (by rfl) (pgs_cons (pg_name (i := 4) sc_law.nd rfl (by first | exact Or.inl rfl | exact Or.inr rfl)) (pgs_cons (pg_name (i := 6) sc_law.nd rfl (by first | exact Or.inl rfl | exact Or.inr rfl)) (pgs_cons (pg_name (i := 7) sc_law.nd rfl (by first | exact Or.inl rfl | exact Or.inr rfl)) pgs_nil))))
      (pss_one (ps_expr (pe_bm PySem.F.plainAttrs_list PySem.F.slot_list_append PySem.F.type_list_append mt_append (pv 5) (pa_cons (pe_lc (own := [("_law_kind", 8)]) (g := (gName 8)) (tt := tYes) (by rfl) sc_law.nd (pi_range1 (by rfl) T.z_range (pa_cons pe_int pa_nil)) (blkOk_by (own := [("_law_kind", 8)]) (N := n_law) (sc := defScope s_law) (by decide +kernel)) (fun _ _ _ _ _ => (pg_name (i := 8) sc_law.nd rfl (by first | exact Or.inl rfl | exact Or.inr rfl))) (fun _ _ _ _ _ => pts_nil) (fun _ _ _ _ _ => (pe_k (ok__law_copied T) hr (pa_cons (pe_k (ok__law_asked T) hr (pa_cons (pv 8) (pa_cons (pv 4) (pa_cons (pv 6) (pa_cons (pv 7) pa_nil))))) pa_nil)))) pa_nil)))))
      (pss_cons (ps_for PassesOwn.never rfl (pi_range1 (by rfl) T.z_range (pa_cons pe_int pa_nil)) (pg_name (i := 9) sc_law.nd rfl (by first | exact Or.inl rfl | exact Or.inr rfl))
      (pss_cons (ps_set (i := 3) sc_law.nd rfl (by first | exact Or.inl rfl | exact Or.inr rfl) (pe_k (ok__law_off T) hr (pa_cons (pv 1) (pa_cons pe_int pa_nil))))
      (pss_cons (ps_set (i := 8) sc_law.nd rfl (by first | exact Or.inl rfl | exact Or.inr rfl) (pe_k (ok__law_off T) hr (pa_cons (pv 1) (pa_cons pe_int pa_nil))))
      (pss_cons (ps_asg (pe_ix (ixL K) (pv 2) (pv 3) (fun _ _ => rfl)) (pgT K (by rfl) (pgs_cons (pg_name (i := 4) sc_law.nd rfl (by first | exact Or.inl rfl | exact Or.inr rfl)) (pgs_cons (pg_name (i := 6) sc_law.nd rfl (by first | exact Or.inl rfl | exact Or.inr rfl)) (pgs_cons (pg_name (i := 7) sc_law.nd rfl (by first | exact Or.inl rfl | exact Or.inr rfl)) pgs_nil)))))
      (pss_cons (ps_set (i := 10) sc_law.nd rfl (by first | exact Or.inl rfl | exact Or.inr rfl) (pe_lst (pa_cons (pe_callTy (listOf K) (by rfl) T.z_list (by decide +kernel) (pa_cons (pv 6) pa_nil)) (pa_cons (pe_lc (own := [("_law_one", 11)]) (g := (gName 11)) (tt := tYes) (by rfl) sc_law.nd (piL K (pv 7)) (blkOk_by (own := [("_law_one", 11)]) (N := n_law) (sc := defScope s_law) (by decide +kernel)) (fun _ _ _ _ _ => (pg_name (i := 11) sc_law.nd rfl (by first | exact Or.inl rfl | exact Or.inr rfl))) (fun _ _ _ _ _ => pts_nil) (fun _ _ _ _ _ => (pe_callTy (listOf K) (by rfl) T.z_list (by decide +kernel) (pa_cons (pv 11) pa_nil)))) pa_nil))))
      (pss_cons (ps_set (i := 12) sc_law.nd rfl (by first | exact Or.inl rfl | exact Or.inr rfl) (pe_k (ok__law_asked T) hr (pa_cons (pv 8) (pa_cons (pv 4) (pa_cons (pe_ix (ixL K) (pv 10) pe_int (fun _ _ => rfl)) (pa_cons (pe_ix (ixL K) (pv 10) pe_int (fun _ _ => rfl)) pa_nil))))))
      (pss_cons (ps_if (PW.pt (pw_or (pt_not (pt_val (pe_k (ok__law_alike T) hr (pa_cons (pv 12) (pa_cons (pe_ix (ixL K) (pe_ix (ixL K) (pv 5) (pv 3) (fun _ _ => rfl)) (pv 8) (fun _ _ => rfl)) pa_nil))))) (pw_or1 (pt_cmpR (neD K hr.units) (pv 10) (pe_lst (pa_cons (pv 6) (pa_cons (pv 7) pa_nil))) (nomark _))))) (pss_one (ps_ret pe_bl)) pss_nil)
      (pss_cons (ps_expr (pe_k (ok__law_spoil T) hr (pa_cons (pv 12) pa_nil)))
      (pss_cons (ps_expr (pe_bm PySem.F.plainAttrs_list PySem.F.slot_list_append PySem.F.type_list_append mt_append (pe_ix (ixL K) (pv 10) pe_int (fun _ _ => rfl)) (pa_cons (pe_tup (pa_cons pe_int (pa_cons pe_int pa_nil))) pa_nil)))
      (pss_one (ps_expr (pe_bm0 PySem.F.plainAttrs_list PySem.F.slot_list_clear PySem.F.type_list_clear mt_clear (pe_ix (ixL K) (pv 10) pe_int (fun _ _ => rfl))))))))))))))
      (pss_one (ps_ret pe_bl)))))))), ?_⟩
  refine ⟨_, rfl, a, ns, 0, rfl, hS, h63, Int.le_refl 0, fun H1 d D s1 nd hd k1 => ?_⟩
  refine ⟨Nat.zero_le _, fun o no => ?_⟩
  have ndo : d ≠ o := ne_of_none hd no
  refine ⟨2, rfl, by decide, by decide, for_range (lo := 0) (n := 2) (fun i σ H2 => ∃ (y3 y4 : Option V) (D : List Int) (cs : List Case), σ = [some (.ref a), some (.ref d), some (.ref o), y3, y4, none, none, none, none, none, none, none, none] ∧ H2 d = some (.lst (D.map V.int)) ∧ DiceOk D ∧ Same (del H1 d) (del H2 d) ∧ LB (del H1 d) (del H2 d) o (cs.map eC) ∧ cs.length = i ∧ ∀ c ∈ cs, OkC c) ?_ (fun i σ H2 hi p => ?_) (fun σ H2 p => ?_)⟩
  · refine ⟨none, none, D, [], rfl, by rw [upd_ne ndo]; exact hd, k1, ?_, ?_, rfl, fun c hc => by simp at hc⟩
    · exact sb_same (SameBut.of (same_new no))
    · rw [del_upd ndo.symm]
      exact LB.nil (by rw [del_ne ndo.symm]; exact no)
  · obtain ⟨y3, y4, D, cs, rfl, hd, k1, sm, lb, hcl, hok⟩ := p
    refine ⟨_, rfl, d, D, rfl, hd, k1, fun n H3 D3 hn1 hn2 sb3 hd3 k3 => ?_⟩
    obtain ⟨xo, hxo, _⟩ := lb.at
    rw [del_ne ndo.symm] at hxo
    refine ⟨_, rfl, .inl ⟨rfl, _, SqL.of (sb3 _ _ ndo.symm hxo)⟩, _, rfl, _, rfl, _, rfl, d, D3, n, 20, rfl, hn1, hn2, by decide, hd3, k3, fun H5 D5 v R sb5 hd5 k5 nv5 oR lR => ?_⟩
    refine ⟨_, rfl, _, rfl, d, D5, n, rfl, hn1, hn2, hd5, k5, fun H6 D6 u SS sb6 hd6 k6 nv6 lS oS l20 => ⟨by show 3 ≤ sizeLine; decide, fun t nt => ?_⟩⟩
    have ndt : d ≠ t := ne_of_none hd6 nt
    have sbt : SameBut d H6 (upd H6 t (.tup [.int n, v, u])) := SameBut.of (same_new nt)
    have sF : Same (del H2 d) (del (upd H6 t (.tup [.int n, v, u])) d) := sb_same (sb3.trans (sb5.trans (sb6.trans sbt)))
    have nvT : NewV (del H2 d) (del (upd H6 t (.tup [.int n, v, u])) d) (.ref t) (eC (n, R, SS)) := by
      refine .tup (xs := [.int n, v, u]) ?_ (.cons (.int _) (.cons ?_ (.cons ?_ .nil)))
      · have : (del H2 d) t = none := (sb_same (sb3.trans (sb5.trans sb6))).free (by rw [del_ne ndt.symm]; exact nt)
        rw [fr_new this, del_ne ndt.symm]
        exact upd_same
      · exact (nv5.del hd3).mono (sb_same sb3) (sb_same (sb6.trans sbt))
      · exact (nv6.del hd5).mono (sb_same (sb3.trans sb5)) (sb_same sbt)
    obtain ⟨ys, z1, z2, z3⟩ := lb.snoc sm sF nvT
    rw [del_ne ndo.symm] at z1
    have hys : ys.length ≤ 2 := by rw [z2, List.length_map]; omega
    refine ⟨o, ys, _, rfl, rfl, z1, sizeOk (by omega), ?_⟩
    refine ⟨_, _, D6, cs ++ [(n, R, SS)], rfl, ?_, k6, ?_, ?_, by simp [hcl], fun c hc => ?_⟩
    · rw [upd_ne ndo, upd_ne ndt]
      exact hd6
    · rw [del_upd ndo.symm]
      exact same_upd (sm.trans sF) (by rw [del_ne ndo.symm]; exact no)
    · rw [del_upd ndo.symm, List.map_append]
      exact z3
    · rcases List.mem_append.mp hc with h | h
      · exact hok c h
      · rw [List.mem_singleton.mp h]
        exact ⟨hn1, hn2, oR, lS, oS⟩
  obtain ⟨y3, y4, D, cs, rfl, hd2, k2, sm, lb, hcl, hok⟩ := p
  obtain ⟨_, xs, hx1, hx2⟩ := lb
  have hxl : xs.length = cs.length := by rw [hx2.len, List.length_map]
  have hx2' : DnAll (del H2 d) xs (cs.map eC) := hx2.mono (del_same.trans fr_same)
  clear hx2
  have hx1H : H2 o = some (.lst xs) := by rw [del_ne ndo.symm] at hx1; exact hx1
  -- kept
  refine ⟨Nat.zero_le _, fun ok nok => ?_⟩
  have s3 : Same H2 (upd H2 ok (.lst [])) := same_new nok
  have lb3 : LB H2 (upd H2 ok (.lst [])) ok [] := LB.nil nok
  generalize upd H2 ok (.lst []) = H3 at s3 lb3
  refine ⟨_, rfl, o, rfl, ⟨_, SqL.of (s3 _ _ hx1H)⟩, for_list (xs := xs) (fun i σ G => ∃ (y4 y6 y7 : Option V), σ = [some (.ref a), some (.ref d), some (.ref o), y3, y4, some (.ref ok), y6, y7, none, none, none, none, none] ∧ Same H2 G ∧ LB H2 G ok ((cs.take i).map keptD)) ⟨_, _, _, rfl, s3, lb3⟩ (fun i σ G _ p => ?_) (fun i x σ G hx p => ?_) (fun σ G p => ?_)⟩
  · obtain ⟨_, _, _, _, sm, _⟩ := p
    exact SqL.of (sm _ _ hx1H)
  · obtain ⟨y4', y6, y7, rfl, smG, lb⟩ := p
    obtain ⟨dd, hdd, hdn⟩ := hx2'.get hx
    obtain ⟨c, hc, rfl⟩ := get_map hdd
    obtain ⟨hn1, hn2, oR, lS, oS⟩ := hok c (List.mem_of_getElem? hc)
    obtain ⟨t, av, vx, au, ux, rfl, ht, hav, hvx, hau, hux⟩ := dn_case hdn
    have sdG : Same (del H2 d) G := del_same.trans smG
    have hi : i < cs.length := (List.getElem?_eq_some_iff.mp hc).1
    refine ⟨t, _, rfl, SqT.of (sdG _ _ ht), rfl, _, _, rfl, _, _, rfl, _, _, rfl, rfl, ?_⟩
    obtain ⟨zs, hz, _⟩ := lb.at
    refine ⟨_, rfl, .inl ⟨rfl, _, SqL.of hz⟩, 4, rfl, by decide, by decide, fun L nL => lcN_range0 (n := 4) (fun j => some (.list (ansD c.1 c.2.1 c.2.2 j))) nL (by decide) (fun j G2 N1 N0 hj s2 c1 c0 => ?_) (fun G2 s2 lb2 => ?_)⟩
    · have sd2 := sdG.trans s2
      refine ⟨rfl, yesT ⟨_, rfl, _, rfl, _, rfl, _, rfl, j, c.1, _, _, c.2.1, c.2.2, rfl, hj, hn1, hn2, .lst (SqL.of (sd2 _ _ hav)) (same_dpAll sd2 hvx.dp), oR, ⟨au, ux, rfl, sd2 _ _ hau, same_dpAll sd2 hux.dp⟩, lS, oS, fun G3 p3 s3 n3 => ?_⟩⟩
      exact ⟨p3, _, rfl, n3.dp, al_ans hn2 lS, fun G4 p4 s4 n4 => c1 p4 G4 _ (s3.trans s4) rfl (n4.mono s3 (Same.refl _))⟩
    have ek : (List.range 4).filterMap (fun j => some (PyData.list (ansD c.1 c.2.1 c.2.2 j))) = (List.range 4).map fun j => PyData.list (ansD c.1 c.2.1 c.2.2 j) := by rw [List.filterMap_eq_map']
    rw [ek] at lb2
    obtain ⟨ys, w1, w2, lb4⟩ := lb.snoc smG s2 lb2.newV
    rw [List.length_map, List.length_take] at w2
    refine ⟨ok, ys, _, rfl, rfl, w1, sizeOk (by omega), _, _, _, rfl, same_upd (smG.trans s2) lb.1, ?_⟩
    rw [List.take_add_one, hc, List.map_append]
    exact lb4
  obtain ⟨y4', y6, y7, rfl, sk, lbk⟩ := p
  rw [hxl, List.take_length] at lbk
  -- what stays: the cases, what was told of them
  have hdk := sk _ _ hd2
  have sdk : Same (del H2 d) (del G d) := del_mono sk
  have pK : Dp K (del G d) (.ref ok) (.list (cs.map keptD)) := (lbk.newV.del hd2).dp
  have pC : DnAll (del G d) xs (cs.map eC) := hx2'.mono sdk
  have pO : (del G d) o = some (.lst xs) := sdk _ _ hx1
  clear hx2' lbk
  -- asked again
  refine ⟨14, rfl, by decide, by decide, for_range (lo := 0) (n := 14) (fun i σ G1 => ∃ (y3 y4 y6 y7 y8 y9 y10 y12 : Option V) (D4 : List Int), σ = [some (.ref a), some (.ref d), some (.ref o), y3, y4, some (.ref ok), y6, y7, y8, y9, y10, none, y12] ∧ Same (del G d) (del G1 d) ∧ G1 d = some (.lst (D4.map V.int)) ∧ DiceOk D4) ⟨_, _, _, _, _, _, _, _, D, rfl, Same.refl _, hdk, k2⟩ (fun i σ G1 hi p => ?_) (fun σ G1 p => q G1)⟩
  obtain ⟨y3', y4', y6', y7', y8', y9', y10', y12', D4, rfl, sm1, hd1, k4⟩ := p
  refine ⟨_, rfl, d, 2, D4, rfl, by decide, by decide, hd1, k4, fun r D5 r0 r1 k5 => ?_⟩
  refine ⟨_, rfl, d, 4, D5, rfl, by decide, by decide, upd_same, k5, fun r2 D6 r20 r21 k6 => ?_⟩
  rw [upd_upd]
  have hdG2 : upd G1 d (.lst (D6.map V.int)) d = some (.lst (D6.map V.int)) := upd_same
  have smG2 : Same (del G d) (del (upd G1 d (.lst (D6.map V.int))) d) := by rw [del_upd_self]; exact sm1
  generalize upd G1 d (.lst (D6.map V.int)) = G2 at hdG2 smG2
  have sG2 : Same (del G d) G2 := smG2.trans del_same
  obtain ⟨kk, rfl⟩ := Int.eq_ofNat_of_zero_le r0
  obtain ⟨kd, rfl⟩ := Int.eq_ofNat_of_zero_le r20
  have hkk : kk < cs.length := by omega
  have hkd : kd < 4 := by omega
  have gx : xs[kk]? = some xs[kk] := List.getElem?_eq_getElem (by omega)
  obtain ⟨dd, hdd, hdn⟩ := pC.get gx
  obtain ⟨c, hc, rfl⟩ := get_map hdd
  obtain ⟨hn1, hn2, oR, lS, oS⟩ := hok c (List.mem_of_getElem? hc)
  obtain ⟨t, av, vx, au, ux, et, ht, hav, hvx, hau, hux⟩ := dn_case hdn
  rw [et] at gx
  refine ⟨_, rfl, _, rfl, o, xs, _, _, rfl, rfl, SqL.of (sG2 _ _ pO), atI_nat gx, t, _, rfl, SqT.of (sG2 _ _ ht), rfl, _, _, rfl, _, _, rfl, _, _, rfl, rfl, ?_⟩
  have vxl : vx.length ≤ 40 := by rw [hvx.len, List.length_map]; exact oR.1
  have uxl : ux.length = c.2.2.length := by rw [hux.len, List.length_map]
  -- handed
  refine ⟨_, rfl, av, vx, rfl, .inl (SqL.of (sG2 _ _ hav)), fun h0 n0 => ?_⟩
  have sh0 : Same G2 (upd G2 h0 (.lst vx)) := same_new n0
  have ah0 : upd G2 h0 (.lst vx) h0 = some (.lst vx) := upd_same
  generalize upd G2 h0 (.lst vx) = G3 at sh0 ah0
  have sG3 := sG2.trans sh0
  refine ⟨_, rfl, au, rfl, ⟨_, SqL.of (sG3 _ _ hau)⟩, fun h1 n1 => lcD_list (fun i => (c.2.2[i]?).bind fun S => some (eR S)) (SqL.of (sG3 _ _ hau)) n1 (by omega) (fun i x G6 N1 N0 hx sm hacc c1 c0 => ?_) (fun G4 x4 s4 h14 d4 => ?_)⟩
  · obtain ⟨dd', hdd', hdn'⟩ := hux.get hx
    obtain ⟨S, hS', rfl⟩ := get_map hdd'
    obtain ⟨b, ys, rfl, hb, hy⟩ := dn_list hdn'
    have sG6 := sG3.trans sm
    refine ⟨rfl, yesT ⟨_, rfl, b, ys, rfl, .inl (SqL.of (sG6 _ _ hb)), fun l nl => c1 _ _ _ (same_new nl) (by rw [hS']; rfl) ?_⟩⟩
    obtain ⟨acc, hacc⟩ := hacc
    have nl1 : l ≠ h1 := (ne_of_none hacc nl).symm
    exact .lst (SqL.of (by rw [del_ne nl1]; exact upd_same)) (same_dpAll (same_del (sG6.trans (same_new nl)) (sG3.free n1)) hy.dp)
  rw [uxl, list_map] at d4
  refine ⟨by show 2 ≤ sizeLine; decide, fun hh nh => ?_⟩
  have s5 : Same G4 (upd G4 hh (.lst [.ref h0, .ref h1])) := same_new nh
  have ah : upd G4 hh (.lst [.ref h0, .ref h1]) hh = some (.lst [.ref h0, .ref h1]) := upd_same
  generalize upd G4 hh (.lst [.ref h0, .ref h1]) = G5 at s5 ah
  have t5 := sh0.trans (s4.trans s5)
  have sG5 := sG2.trans t5
  have a0 : G5 h0 = some (.lst vx) := (s4.trans s5) _ _ ah0
  have a1 : G5 h1 = some (.lst x4) := s5 _ _ h14
  have dA1 : DpAll K G5 x4 (c.2.2.map eR) := same_dpAll (del_same.trans s5) d4
  have f0 : G2 h0 = none := n0
  have f1 : G2 h1 = none := sh0.free n1
  have n01 : h0 ≠ h1 := ne_of_none ah0 n1
  have nh0 : h0 ≠ hh := ne_of_none (s4 _ _ ah0) nh
  have nh1 : h1 ≠ hh := ne_of_none h14 nh
  have pv0 : Dp K G5 (.ref h0) (eR c.2.1) := .lst (SqL.of a0) (same_dpAll sG5 hvx.dp)
  have pu0 : Dp K G5 (.ref h1) (eRs c.2.2) := .lst (SqL.of a1) dA1
  -- found
  refine ⟨_, rfl, _, rfl, _, rfl, hh, _, 0, _, rfl, rfl, SqL.of ah, rfl, _, rfl, hh, _, 1, _, rfl, rfl, SqL.of ah, rfl, kd, c.1, _, _, c.2.1, c.2.2, rfl, hkd, hn1, hn2, pv0, oR, ⟨h1, x4, rfl, a1, dA1⟩, lS, oS, fun G7 pf s7 nf => ?_⟩
  have sG7 := sG5.trans s7
  have al := al_ans (n := c.1) (R := c.2.1) (SS := c.2.2) (k := kd) hn2 lS
  obtain ⟨bk, xk, ek, hSk, hAk⟩ := dp_list (same_dp sG7 pK)
  cases ek
  have xkl : xk.length = cs.length := by rw [dpAll_len hAk, List.length_map]
  have gk : xk[kk]? = some xk[kk] := List.getElem?_eq_getElem (by omega)
  obtain ⟨dk, hdk', hpk⟩ := dpAll_get hAk gk
  rw [List.getElem?_map, hc] at hdk'
  obtain rfl := Option.some.inj hdk'
  obtain ⟨b2, xk2, ek2, hSk2, hAk2⟩ := dp_list hpk
  rw [ek2] at gk
  have xk2l : xk2.length = 4 := by rw [dpAll_len hAk2, List.length_map, List.length_range]
  have gk2 : xk2[kd]? = some xk2[kd] := List.getElem?_eq_getElem (by omega)
  obtain ⟨dk2, hdk2, hpk2⟩ := dpAll_get hAk2 gk2
  rw [List.getElem?_map, List.getElem?_range hkd] at hdk2
  obtain rfl := Option.some.inj hdk2
  refine ⟨_, rfl, _, rfl, _, rfl, ok, xk, _, _, rfl, rfl, hSk, atI_nat gk, _, rfl, b2, xk2, _, _, rfl, rfl, hSk2, atI_nat gk2, pf, _, _, rfl, nf.dp, hpk2, al, fun G8 s8 => ⟨_, rfl, iteF ?_⟩⟩
  have s58 := s7.trans s8
  have shRS : Sh 4 (.list [eR c.2.1, eRs c.2.2]) := Sh.list fun z hz => by
    simp at hz
    rcases hz with rfl | rfl
    · exact Sh.eR _
    · exact Sh.eRs _
  refine ⟨_, rfl, _, rfl, _, rfl, by show 2 ≤ sizeLine; decide, fun g4 ng4 => ⟨.list [eR c.2.1, eRs c.2.2], .list [eR c.2.1, eRs c.2.2], ?_, ?_, shRS.shaped, shRS.shaped, _, rfl, itF ?_ ?_⟩⟩
  · exact same_dp (s58.trans (same_new ng4)) (.lst (SqL.of ah) (.cons pv0 (.cons pu0 .nil)))
  · have sE := (sG5.trans s58).trans (same_new (o := .lst [.ref av, .ref au]) ng4)
    exact .lst (SqL.of upd_same) (.cons (.lst (SqL.of (sE _ _ hav)) (same_dpAll sE hvx.dp)) (.cons (.lst (SqL.of (sE _ _ hau)) (same_dpAll sE hux.dp)) .nil))
  · rw [SeqAt.eqv_refl]
    · simp
    · exact shRS.1
  have s59 : Same G5 (upd G8 g4 (.lst [.ref av, .ref au])) := s58.trans (same_new ng4)
  have nf9 : NewV G5 (upd G8 g4 (.lst [.ref av, .ref au])) pf (.list (ansD c.1 c.2.1 c.2.2 kd)) := nf.mono (Same.refl _) (s8.trans (same_new ng4))
  generalize upd G8 g4 (.lst [.ref av, .ref au]) = G9 at s59 nf9
  have hnl := nl_ans (n := c.1) (R := c.2.1) (SS := c.2.2) (k := kd) hn2 lS
  -- spoiled
  refine ⟨_, rfl, G5, G9, 0, pf, _, rfl, nf9, al, Grow.refl s59, by omega, fun G10 g10 => ?_⟩
  have s10 := g10.same
  refine ⟨_, rfl, hh, _, 0, _, rfl, rfl, SqL.of (s10 _ _ ah), rfl, .inl ⟨rfl, _, SqL.of (s10 _ _ a0)⟩, by show 2 ≤ sizeLine; decide, fun tt ntt => ?_⟩
  have s11 : Same G10 (upd G10 tt (.tup [.int 9, .int 0])) := same_new ntt
  refine ⟨h0, vx, _, rfl, rfl, s11 _ _ (s10 _ _ a0), sizeOk (by omega), ?_⟩
  have b1 : upd (upd G10 tt (.tup [.int 9, .int 0])) h0 (.lst (vx ++ [.ref tt])) h1 = some (.lst x4) := by
    rw [upd_ne n01.symm]
    exact s11 _ _ (s10 _ _ a1)
  have bh : upd (upd G10 tt (.tup [.int 9, .int 0])) h0 (.lst (vx ++ [.ref tt])) hh = some (.lst [.ref h0, .ref h1]) := by
    rw [upd_ne nh0.symm]
    exact s11 _ _ (s10 _ _ ah)
  have s12 : Same G2 (upd (upd G10 tt (.tup [.int 9, .int 0])) h0 (.lst (vx ++ [.ref tt]))) := same_upd (t5.trans (s10.trans s11)) f0
  generalize upd (upd G10 tt (.tup [.int 9, .int 0])) h0 (.lst (vx ++ [.ref tt])) = G12 at b1 bh s12
  refine ⟨_, rfl, hh, _, 1, _, rfl, rfl, SqL.of bh, rfl, .inl ⟨rfl, _, SqL.of b1⟩, h1, _, rfl, rfl, b1, ?_⟩
  have s13 : Same G2 (upd G12 h1 (.lst [])) := same_upd s12 f1
  exact ⟨_, _, _, _, _, _, _, _, D6, rfl, smG2.trans (del_mono s13), s13 _ _ hdG2, k6⟩
end
/-! ### what the top has left, by names -/
def dd_need_size : He.DefD := ⟨("need_size", none), "need_size", "need_size", defArgs s_need_size, defBody s_need_size, defScope s_need_size, [], []⟩
def dd_need_set : He.DefD := ⟨("need_set", none), "need_set", "need_set", defArgs s_need_set, defBody s_need_set, defScope s_need_set, [], []⟩
def dd_need_number : He.DefD := ⟨("need_number", none), "need_number", "need_number", defArgs s_need_number, defBody s_need_number, defScope s_need_number, [], []⟩
def dd_has : He.DefD := ⟨("has", none), "has", "has", defArgs s_has, defBody s_has, defScope s_has, [], []⟩
def dd_all_in : He.DefD := ⟨("all_in", none), "all_in", "all_in", defArgs s_all_in, defBody s_all_in, defScope s_all_in, [], []⟩
def dd_told : He.DefD := ⟨("told", none), "told", "told", defArgs s_told, defBody s_told, defScope s_told, [], []⟩
def dd_members : He.DefD := ⟨("members", none), "members", "members", defArgs s_members, defBody s_members, defScope s_members, [], []⟩
def dd_plain : He.DefD := ⟨("plain", none), "plain", "plain", defArgs s_plain, defBody s_plain, defScope s_plain, [], []⟩
def dd_need_two : He.DefD := ⟨("need_two", none), "need_two", "need_two", defArgs s_need_two, defBody s_need_two, defScope s_need_two, [], []⟩
def dd_joined : He.DefD := ⟨("joined", none), "joined", "joined", defArgs s_joined, defBody s_joined, defScope s_joined, [], []⟩
def dd_common : He.DefD := ⟨("common", none), "common", "common", defArgs s_common, defBody s_common, defScope s_common, [], []⟩
def dd_less : He.DefD := ⟨("less", none), "less", "less", defArgs s_less, defBody s_less, defScope s_less, [], []⟩
def dd_others : He.DefD := ⟨("others", none), "others", "others", defArgs s_others, defBody s_others, defScope s_others, [], []⟩
def dd_inside : He.DefD := ⟨("inside", none), "inside", "inside", defArgs s_inside, defBody s_inside, defScope s_inside, [], []⟩
def dd_need_sets : He.DefD := ⟨("need_sets", none), "need_sets", "need_sets", defArgs s_need_sets, defBody s_need_sets, defScope s_need_sets, [], []⟩
def dd_row_of : He.DefD := ⟨("row_of", none), "row_of", "row_of", defArgs s_row_of, defBody s_row_of, defScope s_row_of, [], []⟩
def dd_made : He.DefD := ⟨("made", none), "made", "made", defArgs s_made, defBody s_made, defScope s_made, [], []⟩
def dd_table : He.DefD := ⟨("table", none), "table", "table", defArgs s_table, defBody s_table, defScope s_table, [], []⟩
def dd_room_of : He.DefD := ⟨("room_of", none), "room_of", "room_of", defArgs s_room_of, defBody s_room_of, defScope s_room_of, [], []⟩
def dd_least : He.DefD := ⟨("least", none), "least", "least", defArgs s_least, defBody s_least, defScope s_least, [], []⟩
def dd_kinds_of : He.DefD := ⟨("kinds_of", none), "kinds_of", "kinds_of", defArgs s_kinds_of, defBody s_kinds_of, defScope s_kinds_of, [], []⟩
def dd_classes : He.DefD := ⟨("classes", none), "classes", "classes", defArgs s_classes, defBody s_classes, defScope s_classes, [], []⟩
def dd_class_row : He.DefD := ⟨("class_row", none), "class_row", "class_row", defArgs s_class_row, defBody s_class_row, defScope s_class_row, [], []⟩
def dd_by_classes : He.DefD := ⟨("by_classes", none), "by_classes", "by_classes", defArgs s_by_classes, defBody s_by_classes, defScope s_by_classes, [], []⟩
def dd_items_of : He.DefD := ⟨("items_of", none), "items_of", "items_of", defArgs s_items_of, defBody s_items_of, defScope s_items_of, [], []⟩
def dd_written : He.DefD := ⟨("written", none), "written", "written", defArgs s_written, defBody s_written, defScope s_written, [], []⟩
def dd_number_of : He.DefD := ⟨("number_of", none), "number_of", "number_of", defArgs s_number_of, defBody s_number_of, defScope s_number_of, [], []⟩
def dd_item_of : He.DefD := ⟨("item_of", none), "item_of", "item_of", defArgs s_item_of, defBody s_item_of, defScope s_item_of, [], []⟩
def dd_read : He.DefD := ⟨("read", none), "read", "read", defArgs s_read, defBody s_read, defScope s_read, [], []⟩
def dd__law_dice : He.DefD := ⟨("_law_dice", none), "_law_dice", "_law_dice", defArgs s__law_dice, defBody s__law_dice, defScope s__law_dice, [], []⟩
def dd__law_off : He.DefD := ⟨("_law_off", none), "_law_off", "_law_off", defArgs s__law_off, defBody s__law_off, defScope s__law_off, [], []⟩
def dd__law_alike : He.DefD := ⟨("_law_alike", none), "_law_alike", "_law_alike", defArgs s__law_alike, defBody s__law_alike, defScope s__law_alike, [], []⟩
def dd__law_size : He.DefD := ⟨("_law_size", none), "_law_size", "_law_size", defArgs s__law_size, defBody s__law_size, defScope s__law_size, [], []⟩
def dd__law_set : He.DefD := ⟨("_law_set", none), "_law_set", "_law_set", defArgs s__law_set, defBody s__law_set, defScope s__law_set, [], []⟩
def dd__law_sets : He.DefD := ⟨("_law_sets", none), "_law_sets", "_law_sets", defArgs s__law_sets, defBody s__law_sets, defScope s__law_sets, [], []⟩
def dd__law_copied : He.DefD := ⟨("_law_copied", none), "_law_copied", "_law_copied", defArgs s__law_copied, defBody s__law_copied, defScope s__law_copied, [], []⟩
def dd__law_asked : He.DefD := ⟨("_law_asked", none), "_law_asked", "_law_asked", defArgs s__law_asked, defBody s__law_asked, defScope s__law_asked, [], []⟩
def dd__law_spoil : He.DefD := ⟨("_law_spoil", none), "_law_spoil", "_law_spoil", defArgs s__law_spoil, defBody s__law_spoil, defScope s__law_spoil, [], []⟩
def dd_law : He.DefD := ⟨("law", none), "law", "law", defArgs s_law, defBody s_law, defScope s_law, [], []⟩
def hfn : List He.DefD := [dd_need_size, dd_need_set, dd_need_number, dd_has, dd_all_in, dd_told, dd_members, dd_plain, dd_need_two, dd_joined, dd_common, dd_less, dd_others, dd_inside, dd_need_sets, dd_row_of, dd_made, dd_table, dd_room_of, dd_least, dd_kinds_of, dd_classes, dd_class_row, dd_by_classes, dd_items_of, dd_written, dd_number_of, dd_item_of, dd_read, dd__law_dice, dd__law_off, dd__law_alike, dd__law_size, dd__law_set, dd__law_sets, dd__law_copied, dd__law_asked, dd__law_spoil, dd_law]
def hfa : List He.Fa := [.glo "need_size", .glo "need_set", .glo "need_number", .glo "has", .glo "all_in", .glo "told", .glo "members", .glo "plain", .glo "need_two", .glo "joined", .glo "common", .glo "less", .glo "others", .glo "inside", .glo "need_sets", .glo "row_of", .glo "made", .glo "table", .glo "room_of", .glo "least", .glo "kinds_of", .glo "classes", .glo "class_row", .glo "by_classes", .glo "items_of", .glo "written", .glo "number_of", .glo "item_of", .glo "read", .glo "_law_dice", .glo "_law_off", .glo "_law_alike", .glo "_law_size", .glo "_law_set", .glo "_law_sets", .glo "_law_copied", .glo "_law_asked", .glo "_law_spoil", .glo "law", .int "MOST_SIZE" 64, .int "MOST_RANGES" 40, .str "FIGURES" "0123456789", .str "NOT" "^", .free "range", .free "enumerate", .free "len", .free "min", .free "abs", .free "isinstance", .free "bool", .free "int", .free "str", .free "tuple", .free "list", .free "all", .free "sorted", .free "set", .free "sum"]
abbrev hR : PySem.W.OpenRow := PySem.W.OpenLaw.row PySem.Challenge.rw_signsets_k11_asked_again
abbrev hhk : PySem.W.Hook := He.hookD 4 hfa hfn
def hob (s : PySem.W.SharedT) : He.AlD := He.obsDG 4 hfa hfn (HandSHeadRun.getT s)
theorem hob_eq (s : PySem.W.SharedT) : hob s = hhk.obs s.abs := He.obsDG_eq (HandSHeadRun.getT_eq s)
def hn0 : List Str := ["SetError", "BadSize", "BadSet", "BadNumber", "BadText", "MOST_SIZE", "MOST_RANGES", "need_size", "need_set", "need_number", "has", "all_in", "told", "members", "plain", "need_two", "joined", "common", "less", "others", "inside", "need_sets", "row_of", "made", "table", "room_of", "least", "kinds_of", "classes", "class_row"]
def hn1 : List Str := ["by_classes", "FIGURES", "NOT", "items_of", "written", "number_of", "item_of", "read", "_law_dice", "_law_off", "_law_alike", "_law_size", "_law_set", "_law_sets", "_law_copied", "_law_asked", "_law_spoil"]
def hnames : List Str := hn0 ++ hn1
set_option maxHeartbeats 0 in
theorem hrun (w : World) : HandSHeadRun.RunEq hR (PySem.W.view hR.prog [53]) hhk hob 8000 hnames w := by
  intro os
  kernel_rfl
theorem fun_of {K : PySem.W.Frag} {x qual : Str} {st : Stmt} {f : Addr} {fd : FuncData} {kws : List (Str × V)} (F : FunD K x qual (defArgs st) (defBody st) (defScope st) [] kws f fd) : Fun K x qual st f fd := by
  obtain ⟨oc, od, dV, kV, doc, pm, an, cdv, ct, osl, rfl, lk, hcd, hD, hK⟩ := F.ex
  rcases hD with ⟨_, rfl⟩ | ⟨e, _⟩
  · exact ⟨⟨oc, od, kV, doc, pm, an, cdv, ct, osl, rfl, lk, hcd⟩, F.kp⟩
  · exact absurd rfl e
section
variable {K : PySem.W.Frag} {h : Heap} {mg : Str → Option Value}
theorem hd_need_size (X : K.In h) (G : h.Ns mainGlobals mg) (c : He.SaysD hfa hfn K) : Df K mg "need_size" s_need_size ["size"] := by
  obtain ⟨fd, F⟩ := c.def_ 0 (d := dd_need_size) rfl
  exact ⟨_, fd, fun_of F, He.glo_ok X G (c.fact 0 (f := .glo "need_size") rfl), F.bindsN fun _ _ _ _ _ _ us hl => match us, hl with | [_], _ => rfl⟩
theorem hd_need_set (X : K.In h) (G : h.Ns mainGlobals mg) (c : He.SaysD hfa hfn K) : Df K mg "need_set" s_need_set ["size", "ranges", "number"] := by
  obtain ⟨fd, F⟩ := c.def_ 1 (d := dd_need_set) rfl
  exact ⟨_, fd, fun_of F, He.glo_ok X G (c.fact 1 (f := .glo "need_set") rfl), F.bindsN fun _ _ _ _ _ _ us hl => match us, hl with | [_, _, _], _ => rfl⟩
theorem hd_need_number (X : K.In h) (G : h.Ns mainGlobals mg) (c : He.SaysD hfa hfn K) : Df K mg "need_number" s_need_number ["size", "number"] := by
  obtain ⟨fd, F⟩ := c.def_ 2 (d := dd_need_number) rfl
  exact ⟨_, fd, fun_of F, He.glo_ok X G (c.fact 2 (f := .glo "need_number") rfl), F.bindsN fun _ _ _ _ _ _ us hl => match us, hl with | [_, _], _ => rfl⟩
theorem hd_has (X : K.In h) (G : h.Ns mainGlobals mg) (c : He.SaysD hfa hfn K) : Df K mg "has" s_has ["ranges", "number"] := by
  obtain ⟨fd, F⟩ := c.def_ 3 (d := dd_has) rfl
  exact ⟨_, fd, fun_of F, He.glo_ok X G (c.fact 3 (f := .glo "has") rfl), F.bindsN fun _ _ _ _ _ _ us hl => match us, hl with | [_, _], _ => rfl⟩
theorem hd_all_in (X : K.In h) (G : h.Ns mainGlobals mg) (c : He.SaysD hfa hfn K) : Df K mg "all_in" s_all_in ["size", "ranges"] := by
  obtain ⟨fd, F⟩ := c.def_ 4 (d := dd_all_in) rfl
  exact ⟨_, fd, fun_of F, He.glo_ok X G (c.fact 4 (f := .glo "all_in") rfl), F.bindsN fun _ _ _ _ _ _ us hl => match us, hl with | [_, _], _ => rfl⟩
theorem hd_told (X : K.In h) (G : h.Ns mainGlobals mg) (c : He.SaysD hfa hfn K) : Df K mg "told" s_told ["numbers"] := by
  obtain ⟨fd, F⟩ := c.def_ 5 (d := dd_told) rfl
  exact ⟨_, fd, fun_of F, He.glo_ok X G (c.fact 5 (f := .glo "told") rfl), F.bindsN fun _ _ _ _ _ _ us hl => match us, hl with | [_], _ => rfl⟩
theorem hd_members (X : K.In h) (G : h.Ns mainGlobals mg) (c : He.SaysD hfa hfn K) : Df K mg "members" s_members ["size", "ranges"] := by
  obtain ⟨fd, F⟩ := c.def_ 6 (d := dd_members) rfl
  exact ⟨_, fd, fun_of F, He.glo_ok X G (c.fact 6 (f := .glo "members") rfl), F.bindsN fun _ _ _ _ _ _ us hl => match us, hl with | [_, _], _ => rfl⟩
theorem hd_plain (X : K.In h) (G : h.Ns mainGlobals mg) (c : He.SaysD hfa hfn K) : Df K mg "plain" s_plain ["size", "ranges"] := by
  obtain ⟨fd, F⟩ := c.def_ 7 (d := dd_plain) rfl
  exact ⟨_, fd, fun_of F, He.glo_ok X G (c.fact 7 (f := .glo "plain") rfl), F.bindsN fun _ _ _ _ _ _ us hl => match us, hl with | [_, _], _ => rfl⟩
theorem hd_need_two (X : K.In h) (G : h.Ns mainGlobals mg) (c : He.SaysD hfa hfn K) : Df K mg "need_two" s_need_two ["size", "one", "other"] := by
  obtain ⟨fd, F⟩ := c.def_ 8 (d := dd_need_two) rfl
  exact ⟨_, fd, fun_of F, He.glo_ok X G (c.fact 8 (f := .glo "need_two") rfl), F.bindsN fun _ _ _ _ _ _ us hl => match us, hl with | [_, _, _], _ => rfl⟩
theorem hd_joined (X : K.In h) (G : h.Ns mainGlobals mg) (c : He.SaysD hfa hfn K) : Df K mg "joined" s_joined ["size", "one", "other"] := by
  obtain ⟨fd, F⟩ := c.def_ 9 (d := dd_joined) rfl
  exact ⟨_, fd, fun_of F, He.glo_ok X G (c.fact 9 (f := .glo "joined") rfl), F.bindsN fun _ _ _ _ _ _ us hl => match us, hl with | [_, _, _], _ => rfl⟩
theorem hd_common (X : K.In h) (G : h.Ns mainGlobals mg) (c : He.SaysD hfa hfn K) : Df K mg "common" s_common ["size", "one", "other"] := by
  obtain ⟨fd, F⟩ := c.def_ 10 (d := dd_common) rfl
  exact ⟨_, fd, fun_of F, He.glo_ok X G (c.fact 10 (f := .glo "common") rfl), F.bindsN fun _ _ _ _ _ _ us hl => match us, hl with | [_, _, _], _ => rfl⟩
theorem hd_less (X : K.In h) (G : h.Ns mainGlobals mg) (c : He.SaysD hfa hfn K) : Df K mg "less" s_less ["size", "one", "other"] := by
  obtain ⟨fd, F⟩ := c.def_ 11 (d := dd_less) rfl
  exact ⟨_, fd, fun_of F, He.glo_ok X G (c.fact 11 (f := .glo "less") rfl), F.bindsN fun _ _ _ _ _ _ us hl => match us, hl with | [_, _, _], _ => rfl⟩
theorem hd_others (X : K.In h) (G : h.Ns mainGlobals mg) (c : He.SaysD hfa hfn K) : Df K mg "others" s_others ["size", "ranges"] := by
  obtain ⟨fd, F⟩ := c.def_ 12 (d := dd_others) rfl
  exact ⟨_, fd, fun_of F, He.glo_ok X G (c.fact 12 (f := .glo "others") rfl), F.bindsN fun _ _ _ _ _ _ us hl => match us, hl with | [_, _], _ => rfl⟩
theorem hd_inside (X : K.In h) (G : h.Ns mainGlobals mg) (c : He.SaysD hfa hfn K) : Df K mg "inside" s_inside ["size", "ranges", "number"] := by
  obtain ⟨fd, F⟩ := c.def_ 13 (d := dd_inside) rfl
  exact ⟨_, fd, fun_of F, He.glo_ok X G (c.fact 13 (f := .glo "inside") rfl), F.bindsN fun _ _ _ _ _ _ us hl => match us, hl with | [_, _, _], _ => rfl⟩
theorem hd_need_sets (X : K.In h) (G : h.Ns mainGlobals mg) (c : He.SaysD hfa hfn K) : Df K mg "need_sets" s_need_sets ["size", "sets"] := by
  obtain ⟨fd, F⟩ := c.def_ 14 (d := dd_need_sets) rfl
  exact ⟨_, fd, fun_of F, He.glo_ok X G (c.fact 14 (f := .glo "need_sets") rfl), F.bindsN fun _ _ _ _ _ _ us hl => match us, hl with | [_, _], _ => rfl⟩
theorem hd_row_of (X : K.In h) (G : h.Ns mainGlobals mg) (c : He.SaysD hfa hfn K) : Df K mg "row_of" s_row_of ["size", "ranges", "first", "wide"] := by
  obtain ⟨fd, F⟩ := c.def_ 15 (d := dd_row_of) rfl
  exact ⟨_, fd, fun_of F, He.glo_ok X G (c.fact 15 (f := .glo "row_of") rfl), F.bindsN fun _ _ _ _ _ _ us hl => match us, hl with | [_, _, _, _], _ => rfl⟩
theorem hd_made (X : K.In h) (G : h.Ns mainGlobals mg) (c : He.SaysD hfa hfn K) : Df K mg "made" s_made ["size", "sets", "wide"] := by
  obtain ⟨fd, F⟩ := c.def_ 16 (d := dd_made) rfl
  exact ⟨_, fd, fun_of F, He.glo_ok X G (c.fact 16 (f := .glo "made") rfl), F.bindsN fun _ _ _ _ _ _ us hl => match us, hl with | [_, _, _], _ => rfl⟩
theorem hd_table (X : K.In h) (G : h.Ns mainGlobals mg) (c : He.SaysD hfa hfn K) : Df K mg "table" s_table ["size", "sets", "wide"] := by
  obtain ⟨fd, F⟩ := c.def_ 17 (d := dd_table) rfl
  exact ⟨_, fd, fun_of F, He.glo_ok X G (c.fact 17 (f := .glo "table") rfl), F.bindsN fun _ _ _ _ _ _ us hl => match us, hl with | [_, _, _], _ => rfl⟩
theorem hd_room_of (X : K.In h) (G : h.Ns mainGlobals mg) (c : He.SaysD hfa hfn K) : Df K mg "room_of" s_room_of ["told"] := by
  obtain ⟨fd, F⟩ := c.def_ 18 (d := dd_room_of) rfl
  exact ⟨_, fd, fun_of F, He.glo_ok X G (c.fact 18 (f := .glo "room_of") rfl), F.bindsN fun _ _ _ _ _ _ us hl => match us, hl with | [_], _ => rfl⟩
theorem hd_least (X : K.In h) (G : h.Ns mainGlobals mg) (c : He.SaysD hfa hfn K) : Df K mg "least" s_least ["size", "sets"] := by
  obtain ⟨fd, F⟩ := c.def_ 19 (d := dd_least) rfl
  exact ⟨_, fd, fun_of F, He.glo_ok X G (c.fact 19 (f := .glo "least") rfl), F.bindsN fun _ _ _ _ _ _ us hl => match us, hl with | [_, _], _ => rfl⟩
theorem hd_kinds_of (X : K.In h) (G : h.Ns mainGlobals mg) (c : He.SaysD hfa hfn K) : Df K mg "kinds_of" s_kinds_of ["size", "sets"] := by
  obtain ⟨fd, F⟩ := c.def_ 20 (d := dd_kinds_of) rfl
  exact ⟨_, fd, fun_of F, He.glo_ok X G (c.fact 20 (f := .glo "kinds_of") rfl), F.bindsN fun _ _ _ _ _ _ us hl => match us, hl with | [_, _], _ => rfl⟩
theorem hd_classes (X : K.In h) (G : h.Ns mainGlobals mg) (c : He.SaysD hfa hfn K) : Df K mg "classes" s_classes ["size", "sets"] := by
  obtain ⟨fd, F⟩ := c.def_ 21 (d := dd_classes) rfl
  exact ⟨_, fd, fun_of F, He.glo_ok X G (c.fact 21 (f := .glo "classes") rfl), F.bindsN fun _ _ _ _ _ _ us hl => match us, hl with | [_, _], _ => rfl⟩
theorem hd_class_row (X : K.In h) (G : h.Ns mainGlobals mg) (c : He.SaysD hfa hfn K) : Df K mg "class_row" s_class_row ["size", "sets"] := by
  obtain ⟨fd, F⟩ := c.def_ 22 (d := dd_class_row) rfl
  exact ⟨_, fd, fun_of F, He.glo_ok X G (c.fact 22 (f := .glo "class_row") rfl), F.bindsN fun _ _ _ _ _ _ us hl => match us, hl with | [_, _], _ => rfl⟩
theorem hd_by_classes (X : K.In h) (G : h.Ns mainGlobals mg) (c : He.SaysD hfa hfn K) : Df K mg "by_classes" s_by_classes ["size", "sets"] := by
  obtain ⟨fd, F⟩ := c.def_ 23 (d := dd_by_classes) rfl
  exact ⟨_, fd, fun_of F, He.glo_ok X G (c.fact 23 (f := .glo "by_classes") rfl), F.bindsN fun _ _ _ _ _ _ us hl => match us, hl with | [_, _], _ => rfl⟩
theorem hd_items_of (X : K.In h) (G : h.Ns mainGlobals mg) (c : He.SaysD hfa hfn K) : Df K mg "items_of" s_items_of ["ranges"] := by
  obtain ⟨fd, F⟩ := c.def_ 24 (d := dd_items_of) rfl
  exact ⟨_, fd, fun_of F, He.glo_ok X G (c.fact 24 (f := .glo "items_of") rfl), F.bindsN fun _ _ _ _ _ _ us hl => match us, hl with | [_], _ => rfl⟩
theorem hd_written (X : K.In h) (G : h.Ns mainGlobals mg) (c : He.SaysD hfa hfn K) : Df K mg "written" s_written ["size", "ranges"] := by
  obtain ⟨fd, F⟩ := c.def_ 25 (d := dd_written) rfl
  exact ⟨_, fd, fun_of F, He.glo_ok X G (c.fact 25 (f := .glo "written") rfl), F.bindsN fun _ _ _ _ _ _ us hl => match us, hl with | [_, _], _ => rfl⟩
theorem hd_number_of (X : K.In h) (G : h.Ns mainGlobals mg) (c : He.SaysD hfa hfn K) : Df K mg "number_of" s_number_of ["word", "size"] := by
  obtain ⟨fd, F⟩ := c.def_ 26 (d := dd_number_of) rfl
  exact ⟨_, fd, fun_of F, He.glo_ok X G (c.fact 26 (f := .glo "number_of") rfl), F.bindsN fun _ _ _ _ _ _ us hl => match us, hl with | [_, _], _ => rfl⟩
theorem hd_item_of (X : K.In h) (G : h.Ns mainGlobals mg) (c : He.SaysD hfa hfn K) : Df K mg "item_of" s_item_of ["word", "size"] := by
  obtain ⟨fd, F⟩ := c.def_ 27 (d := dd_item_of) rfl
  exact ⟨_, fd, fun_of F, He.glo_ok X G (c.fact 27 (f := .glo "item_of") rfl), F.bindsN fun _ _ _ _ _ _ us hl => match us, hl with | [_, _], _ => rfl⟩
theorem hd_read (X : K.In h) (G : h.Ns mainGlobals mg) (c : He.SaysD hfa hfn K) : Df K mg "read" s_read ["size", "text"] := by
  obtain ⟨fd, F⟩ := c.def_ 28 (d := dd_read) rfl
  exact ⟨_, fd, fun_of F, He.glo_ok X G (c.fact 28 (f := .glo "read") rfl), F.bindsN fun _ _ _ _ _ _ us hl => match us, hl with | [_, _], _ => rfl⟩
theorem hd__law_dice (X : K.In h) (G : h.Ns mainGlobals mg) (c : He.SaysD hfa hfn K) : Df K mg "_law_dice" s__law_dice ["_law_script", "_law_k"] := by
  obtain ⟨fd, F⟩ := c.def_ 29 (d := dd__law_dice) rfl
  exact ⟨_, fd, fun_of F, He.glo_ok X G (c.fact 29 (f := .glo "_law_dice") rfl), F.bindsN fun _ _ _ _ _ _ us hl => match us, hl with | [_, _], _ => rfl⟩
theorem hd__law_off (X : K.In h) (G : h.Ns mainGlobals mg) (c : He.SaysD hfa hfn K) : Df K mg "_law_off" s__law_off ["_law_d", "_law_most"] := by
  obtain ⟨fd, F⟩ := c.def_ 30 (d := dd__law_off) rfl
  exact ⟨_, fd, fun_of F, He.glo_ok X G (c.fact 30 (f := .glo "_law_off") rfl), F.bindsN fun _ _ _ _ _ _ us hl => match us, hl with | [_, _], _ => rfl⟩
theorem hd__law_alike (X : K.In h) (G : h.Ns mainGlobals mg) (c : He.SaysD hfa hfn K) : Df K mg "_law_alike" s__law_alike ["_law_found", "_law_due"] := by
  obtain ⟨fd, F⟩ := c.def_ 31 (d := dd__law_alike) rfl
  exact ⟨_, fd, fun_of F, He.glo_ok X G (c.fact 31 (f := .glo "_law_alike") rfl), F.bindsN fun _ _ _ _ _ _ us hl => match us, hl with | [_, _], _ => rfl⟩
theorem hd__law_size (X : K.In h) (G : h.Ns mainGlobals mg) (c : He.SaysD hfa hfn K) : Df K mg "_law_size" s__law_size ["_law_d"] := by
  obtain ⟨fd, F⟩ := c.def_ 32 (d := dd__law_size) rfl
  exact ⟨_, fd, fun_of F, He.glo_ok X G (c.fact 32 (f := .glo "_law_size") rfl), F.bindsN fun _ _ _ _ _ _ us hl => match us, hl with | [_], _ => rfl⟩
theorem hd__law_set (X : K.In h) (G : h.Ns mainGlobals mg) (c : He.SaysD hfa hfn K) : Df K mg "_law_set" s__law_set ["_law_d", "_law_size_here", "_law_most"] := by
  obtain ⟨fd, F⟩ := c.def_ 33 (d := dd__law_set) rfl
  exact ⟨_, fd, fun_of F, He.glo_ok X G (c.fact 33 (f := .glo "_law_set") rfl), F.bindsN fun _ _ _ _ _ _ us hl => match us, hl with | [_, _, _], _ => rfl⟩
theorem hd__law_sets (X : K.In h) (G : h.Ns mainGlobals mg) (c : He.SaysD hfa hfn K) : Df K mg "_law_sets" s__law_sets ["_law_d", "_law_size_here"] := by
  obtain ⟨fd, F⟩ := c.def_ 34 (d := dd__law_sets) rfl
  exact ⟨_, fd, fun_of F, He.glo_ok X G (c.fact 34 (f := .glo "_law_sets") rfl), F.bindsN fun _ _ _ _ _ _ us hl => match us, hl with | [_, _], _ => rfl⟩
theorem hd__law_copied (X : K.In h) (G : h.Ns mainGlobals mg) (c : He.SaysD hfa hfn K) : Df K mg "_law_copied" s__law_copied ["_law_found"] := by
  obtain ⟨fd, F⟩ := c.def_ 35 (d := dd__law_copied) rfl
  exact ⟨_, fd, fun_of F, He.glo_ok X G (c.fact 35 (f := .glo "_law_copied") rfl), F.bindsN fun _ _ _ _ _ _ us hl => match us, hl with | [_], _ => rfl⟩
theorem hd__law_asked (X : K.In h) (G : h.Ns mainGlobals mg) (c : He.SaysD hfa hfn K) : Df K mg "_law_asked" s__law_asked ["_law_kind", "_law_size_here", "_law_ranges", "_law_sets_here"] := by
  obtain ⟨fd, F⟩ := c.def_ 36 (d := dd__law_asked) rfl
  exact ⟨_, fd, fun_of F, He.glo_ok X G (c.fact 36 (f := .glo "_law_asked") rfl), F.bindsN fun _ _ _ _ _ _ us hl => match us, hl with | [_, _, _, _], _ => rfl⟩
theorem hd__law_spoil (X : K.In h) (G : h.Ns mainGlobals mg) (c : He.SaysD hfa hfn K) : Df K mg "_law_spoil" s__law_spoil ["_law_found"] := by
  obtain ⟨fd, F⟩ := c.def_ 37 (d := dd__law_spoil) rfl
  exact ⟨_, fd, fun_of F, He.glo_ok X G (c.fact 37 (f := .glo "_law_spoil") rfl), F.bindsN fun _ _ _ _ _ _ us hl => match us, hl with | [_], _ => rfl⟩
theorem hd_law (X : K.In h) (G : h.Ns mainGlobals mg) (c : He.SaysD hfa hfn K) : Df K mg "law" s_law ["_law_script"] := by
  obtain ⟨fd, F⟩ := c.def_ 38 (d := dd_law) rfl
  exact ⟨_, fd, fun_of F, He.glo_ok X G (c.fact 38 (f := .glo "law") rfl), F.bindsN fun _ _ _ _ _ _ us hl => match us, hl with | [_], _ => rfl⟩
theorem hd_tx (X : K.In h) (G : h.Ns mainGlobals mg) (c : He.SaysD hfa hfn K) : Tx K mg := ⟨hd_need_size X G c, hd_need_set X G c, hd_need_number X G c, hd_has X G c, hd_all_in X G c, hd_told X G c, hd_members X G c, hd_plain X G c, hd_need_two X G c, hd_joined X G c, hd_common X G c, hd_less X G c, hd_others X G c, hd_inside X G c, hd_need_sets X G c, hd_row_of X G c, hd_made X G c, hd_table X G c, hd_room_of X G c, hd_least X G c, hd_kinds_of X G c, hd_classes X G c, hd_class_row X G c, hd_by_classes X G c, hd_items_of X G c, hd_written X G c, hd_number_of X G c, hd_item_of X G c, hd_read X G c, hd__law_dice X G c, hd__law_off X G c, hd__law_alike X G c, hd__law_size X G c, hd__law_set X G c, hd__law_sets X G c, hd__law_copied X G c, hd__law_asked X G c, hd__law_spoil X G c, He.int_ok X G (c.fact 39 (f := .int "MOST_SIZE" 64) rfl), He.int_ok X G (c.fact 40 (f := .int "MOST_RANGES" 40) rfl), He.str_ok X G (c.fact 41 (f := .str "FIGURES" "0123456789") rfl), He.str_ok X G (c.fact 42 (f := .str "NOT" "^") rfl), He.free_ok X G (c.fact 43 (f := .free "range") rfl), He.free_ok X G (c.fact 44 (f := .free "enumerate") rfl), He.free_ok X G (c.fact 45 (f := .free "len") rfl), He.free_ok X G (c.fact 46 (f := .free "min") rfl), He.free_ok X G (c.fact 47 (f := .free "abs") rfl), He.free_ok X G (c.fact 48 (f := .free "isinstance") rfl), He.free_ok X G (c.fact 49 (f := .free "bool") rfl), He.free_ok X G (c.fact 50 (f := .free "int") rfl), He.free_ok X G (c.fact 51 (f := .free "str") rfl), He.free_ok X G (c.fact 52 (f := .free "tuple") rfl), He.free_ok X G (c.fact 53 (f := .free "list") rfl), He.free_ok X G (c.fact 54 (f := .free "all") rfl), He.free_ok X G (c.fact 55 (f := .free "sorted") rfl), He.free_ok X G (c.fact 56 (f := .free "set") rfl), He.free_ok X G (c.fact 57 (f := .free "sum") rfl)⟩
end
theorem hfacts {P : Program} {w : World} {K : PySem.W.Frag} {h : Heap} {mg : Str → Option Value} {f : Addr} (X : K.In h) (G : h.Ns mainGlobals mg) (hfa0 : mg ("law" : Str) = some (.ref f)) (c : He.SaysD hfa hfn K) :
    ∃ fd : FuncData, (∀ (s : Shared) (v : Value), BindsTo s fd ⟨[v], []⟩ [("_law_script", v)]) ∧ ∀ base : Heap, K.In base → base.Ns mainGlobals mg → FnOk P w K mg base CX0 10 f fd ["_law_script"] (spLaw K) := by
  obtain ⟨fd, F⟩ := c.def_ 38 (d := dd_law) rfl
  have e := hfa0.symm.trans (He.glo_ok X G (c.fact 38 (f := .glo "law") rfl))
  cases e
  have b := FunD.bindsA (ps := ["_law_script"]) F fun _ _ _ _ _ _ us hl => match us, hl with | [_], _ => rfl
  exact ⟨fd, fun s v => b s [v] rfl, fun base _ _ => ok_law (hd_tx X G c) (fun_of F)⟩
end Sg
open PySem PySem.W PySem.Calls PyProof.Rows
set_option maxHeartbeats 0 in
theorem PySem.Challenge.cw_signsets_k11_asked_again_holds : PySem.Challenge.rw_signsets_k11_asked_again.Holds := by
  w_on; o_law
  refine HandSHeadRun.head_any (r := OpenLaw.row PySem.Challenge.rw_signsets_k11_asked_again) (q := view (OpenLaw.row PySem.Challenge.rw_signsets_k11_asked_again).prog [53]) (H := Sg.hhk) (ob := Sg.hob) (M := 8000) (loose := Sg.hnames) (d := HandSHeadRun.topDef (OpenLaw.row PySem.Challenge.rw_signsets_k11_asked_again).prog 53) (kwd := []) Sg.hob_eq
    (by kernel_rfl) (fun s => by kernel_rfl) Sg.hrun (by kernel_rfl) (by kernel_rfl) (by kernel_rfl) (by rfl) (by first | assumption | decide +kernel) (by decide +kernel) ⟨rfl, rfl, rfl, rfl, rfl, by decide +kernel⟩ ?hw ?hc
  case hw => w_witness2
  case hc =>
    refine L2.walk_ofE (l := PySem.Challenge.rw_signsets_k11_asked_again) (n := 63) (k := 10) (x := "_law_script") (CX := L2.CX0) rfl (by decide) (by kernel_rfl) ⟨rfl, by decide, by decide⟩ ?F (fun _ _ _ _ z => z)
    intro w mg fa h Y G hmg0
    obtain ⟨K, KX, c⟩ := Y
    have hmg : mg ("law" : PySem.Str) = some (.ref fa) := by
      have e : (HandSHeadRun.topDef (OpenLaw.row PySem.Challenge.rw_signsets_k11_asked_again).prog 53).name = ("law" : PySem.Str) := by kernel_rfl
      rw [← e]
      exact hmg0
    obtain ⟨fd, hb, hF⟩ := Sg.hfacts (P := (PySem.Challenge.rw_signsets_k11_asked_again).prog) (w := w) KX G hmg c
    exact ⟨K, fd, Sg.spLaw K, KX, hb, fun H a ns hl _ hS => ⟨a, ns, rfl, hS, hl, fun _ => rfl⟩, hF⟩
