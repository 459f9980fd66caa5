import PyProof.Rows.All
import Wide.All
import OpenK.AllK
import Wide.FinOn
import KE.KStateDown
import Lean
import HandS.More
import HandS.WordsExc
import HandS.Defaults
import HandS.Head0
import HandS.Head1
import HandS.Head2
import HandS.HeadEnd
import HandS.HeadHook1
import HandS.HeadHook2
import HandS.ForMost
import HandS.Conv
import HandS.Style
import HandS.IsInst
import HandS.SetFor
import HandS.Strs
import HandS.SortInts
import PySem.Challenge.RW_signsets_k05_found_by_halving
set_option Elab.async false
set_option linter.all false
set_option maxRecDepth 100000
set_option maxHeartbeats 4000000
/-! Signsets: the plain mathematics of ranges (no program in sight). -/
namespace Sg
/-- whether a number is in some range -/
def has (R : List (Int × Int)) (n : Int) : Bool := R.any fun r => decide (r.1 ≤ n) && decide (n ≤ r.2)
/-- 0, 1, .. below n -/
def upTo (n : Nat) : List Int := (List.range n).map fun (k : Nat) => (k : Int)
def allIn (n : Nat) (R : List (Int × Int)) : List Int := (upTo n).filter (has R)
def toldStep (acc : List (Int × Int)) (n : Int) : List (Int × Int) :=
  match acc.getLast? with
  | some r => if r.2 = n - 1 then acc.dropLast ++ [(r.1, n)] else acc ++ [(n, n)]
  | none => [(n, n)]
def told (ns : List Int) : List (Int × Int) := ns.foldl toldStep []
/-- ranges that a size lets be -/
def Ok (size : Int) (R : List (Int × Int)) : Prop := R.length ≤ 40 ∧ ∀ r ∈ R, 0 ≤ r.1 ∧ r.1 ≤ r.2 ∧ r.2 < size

theorem mem_upTo {n : Nat} {k : Int} : k ∈ upTo n ↔ 0 ≤ k ∧ k < (n : Int) := by
  unfold upTo
  rw [List.mem_map]
  constructor
  · rintro ⟨a, h, rfl⟩
    have := List.mem_range.mp h
    omega
  · intro h
    exact ⟨k.toNat, List.mem_range.mpr (by omega), by omega⟩
theorem upTo_len (n : Nat) : (upTo n).length = n := by simp [upTo]
theorem upTo_get {n i : Nat} (h : i < n) : (upTo n)[i]? = some (i : Int) := by
  unfold upTo
  rw [List.getElem?_map, List.getElem?_range h]
  rfl
theorem rising_range (n : Nat) : (upTo n).Pairwise (· < ·) := by
  unfold upTo
  rw [List.pairwise_map]
  refine List.Pairwise.imp (fun {a b} h => ?_) List.pairwise_lt_range
  omega
theorem rising_filter {n : Nat} (p : Int → Bool) : ((upTo n).filter p).Pairwise (· < ·) := (rising_range n).filter p
theorem has_iff {R : List (Int × Int)} {n : Int} : has R n = true ↔ ∃ r ∈ R, r.1 ≤ n ∧ n ≤ r.2 := by
  unfold has
  rw [List.any_eq_true]
  constructor
  · rintro ⟨r, h, e⟩
    rw [Bool.and_eq_true] at e
    exact ⟨r, h, of_decide_eq_true e.1, of_decide_eq_true e.2⟩
  · rintro ⟨r, h, e1, e2⟩
    exact ⟨r, h, by rw [Bool.and_eq_true]; exact ⟨decide_eq_true e1, decide_eq_true e2⟩⟩
theorem has_append {A B : List (Int × Int)} {n : Int} : has (A ++ B) n = (has A n || has B n) := by
  unfold has
  rw [List.any_append]

/-- what told has made of the numbers so far -/
structure TI (acc : List (Int × Int)) (pre : List Int) : Prop where
  has : ∀ n, has acc n = true ↔ n ∈ pre
  sep : acc.Pairwise fun a b => a.2 + 1 < b.1
  le : ∀ r ∈ acc, r.1 ≤ r.2
theorem TI.lt {acc : List (Int × Int)} {pre : List Int} (t : TI acc pre) {n : Int} (h : ∀ m ∈ pre, m < n) {r : Int × Int} (hr : r ∈ acc) : r.2 < n :=
  h _ ((t.has r.2).mp (has_iff.mpr ⟨r, hr, t.le r hr, Int.le_refl _⟩))
theorem TI.step {acc : List (Int × Int)} {pre : List Int} (t : TI acc pre) {n : Int} (h : ∀ m ∈ pre, m < n) : TI (toldStep acc n) (pre ++ [n]) := by
  unfold toldStep
  cases e : acc.getLast? with
  | none =>
    have ea : acc = [] := List.getLast?_eq_none_iff.mp e
    subst ea
    refine ⟨fun m => ?_, by simp, by simp⟩
    have hp := t.has m
    rw [has_iff, List.mem_append, ← hp, has_iff]
    constructor
    · rintro ⟨r, hr, h1, h2⟩
      have : r = (n, n) := by simpa using hr
      subst this
      exact .inr (List.mem_singleton.mpr (by simp at h1 h2; omega))
    · rintro (⟨r, hr, _⟩ | q)
      · simp at hr
      · have := List.mem_singleton.mp q
        subst this
        exact ⟨(m, m), by simp, Int.le_refl _, Int.le_refl _⟩
  | some r =>
    obtain ⟨ini, ea⟩ : ∃ ini, acc = ini ++ [r] := ⟨acc.dropLast, by rw [List.getLast?_eq_some_iff] at e; obtain ⟨ys, rfl⟩ := e; simp⟩
    have hri : r ∈ acc := by rw [ea]; simp
    have hrl := t.lt h hri
    have hre := t.le r hri
    have sp := t.sep
    rw [ea, List.pairwise_append] at sp
    show TI (if r.2 = n - 1 then acc.dropLast ++ [(r.1, n)] else acc ++ [(n, n)]) (pre ++ [n])
    split
    · rename_i c
      have ed : acc.dropLast = ini := by rw [ea]; simp
      rw [ed]
      refine ⟨fun m => ?_, ?_, ?_⟩
      · have hp := t.has m
        rw [ea, has_append, Bool.or_eq_true] at hp
        rw [has_append, Bool.or_eq_true, List.mem_append, ← hp]
        have e1 : Sg.has [(r.1, n)] m = true ↔ r.1 ≤ m ∧ m ≤ n := by rw [has_iff]; simp
        have e2 : Sg.has [r] m = true ↔ r.1 ≤ m ∧ m ≤ r.2 := by rw [has_iff]; simp
        rw [e1, e2, List.mem_singleton]
        by_cases X : Sg.has ini m = true
        · simp [X]
        · simp only [X]
          simp
          omega
      · rw [List.pairwise_append]
        refine ⟨sp.1, by simp, fun a ha b hb => ?_⟩
        have : b = (r.1, n) := List.mem_singleton.mp hb
        subst this
        exact sp.2.2 a ha r (by simp)
      · intro q hq
        rcases List.mem_append.mp hq with k | k
        · exact t.le q (by rw [ea]; exact List.mem_append_left _ k)
        · have : q = (r.1, n) := List.mem_singleton.mp k
          subst this
          show r.1 ≤ n
          omega
    · rename_i c
      refine ⟨fun m => ?_, ?_, ?_⟩
      · have hp := t.has m
        rw [has_append, Bool.or_eq_true, List.mem_append, ← hp]
        have e1 : Sg.has [(n, n)] m = true ↔ n ≤ m ∧ m ≤ n := by rw [has_iff]; simp
        rw [e1, List.mem_singleton]
        by_cases X : Sg.has acc m = true
        · simp [X]
        · simp only [X]
          simp
          omega
      · rw [List.pairwise_append]
        refine ⟨t.sep, by simp, fun a ha b hb => ?_⟩
        have : b = (n, n) := List.mem_singleton.mp hb
        subst this
        show a.2 + 1 < n
        rw [ea] at ha
        rcases List.mem_append.mp ha with k | k
        · have := sp.2.2 a k r (by simp)
          omega
        · have : a = r := List.mem_singleton.mp k
          subst this
          omega
      · intro q hq
        rcases List.mem_append.mp hq with k | k
        · exact t.le q k
        · have : q = (n, n) := List.mem_singleton.mp k
          subst this
          exact Int.le_refl _
theorem TI.fold : ∀ (ns : List Int) (acc : List (Int × Int)) (pre : List Int), TI acc pre → (pre ++ ns).Pairwise (· < ·) → TI (ns.foldl toldStep acc) (pre ++ ns)
  | [], acc, pre, t, _ => by
    rw [List.append_nil]
    exact t
  | n :: r, acc, pre, t, h => by
    have e : pre ++ n :: r = (pre ++ [n]) ++ r := by simp
    rw [e] at h ⊢
    refine TI.fold r _ _ (t.step fun m hm => ?_) h
    have h1 := (List.pairwise_append.mp (List.pairwise_append.mp h).1).2.2
    exact h1 m hm n (by simp)
theorem told_ti {ns : List Int} (h : ns.Pairwise (· < ·)) : TI (told ns) ns := by
  have q := TI.fold ns [] [] ⟨by simp [has], by simp, by simp⟩ (by simpa using h)
  rw [List.nil_append] at q
  exact q
theorem told_has {ns : List Int} (h : ns.Pairwise (· < ·)) (n : Int) : has (told ns) n = decide (n ∈ ns) := by
  have := (told_ti h).has n
  cases e : has (told ns) n
  · exact (decide_eq_false fun q => by rw [this.mpr q] at e; cases e).symm
  · exact (decide_eq_true (this.mp e)).symm
theorem sep_len : ∀ (R : List (Int × Int)) (lo hi : Int), R.Pairwise (fun a b => a.2 + 1 < b.1) → (∀ r ∈ R, lo ≤ r.1 ∧ r.1 ≤ r.2 ∧ r.2 < hi) → R ≠ [] → 2 * (R.length : Int) ≤ hi - lo + 1
  | [], _, _, _, _, h => absurd rfl h
  | [r], lo, hi, _, h, _ => by
    have := h r (by simp)
    simp
    omega
  | r :: q :: R, lo, hi, hp, h, _ => by
    have h1 := h r (by simp)
    rw [List.pairwise_cons] at hp
    have ih := sep_len (q :: R) (r.1 + 2) hi hp.2 (fun z hz => by
      have a := hp.1 z hz
      have b := h z (List.mem_cons_of_mem _ hz)
      omega) (by simp)
    simp at ih ⊢
    omega
theorem told_ok {size : Int} {ns : List Int} (h : ns.Pairwise (· < ·)) (hs : size ≤ 64) (hm : ∀ n ∈ ns, 0 ≤ n ∧ n < size) : Ok size (told ns) := by
  have t := told_ti h
  have hv : ∀ r ∈ told ns, 0 ≤ r.1 ∧ r.1 ≤ r.2 ∧ r.2 < size := fun r hr => by
    have h1 := (t.has r.1).mp (has_iff.mpr ⟨r, hr, Int.le_refl _, t.le r hr⟩)
    have h2 := (t.has r.2).mp (has_iff.mpr ⟨r, hr, t.le r hr, Int.le_refl _⟩)
    exact ⟨(hm _ h1).1, t.le r hr, (hm _ h2).2⟩
  refine ⟨?_, hv⟩
  by_cases e : told ns = []
  · rw [e]
    exact Nat.zero_le _
  · have := sep_len (told ns) 0 size t.sep (fun r hr => by have := hv r hr; omega) e
    omega

/-- the ranges of all numbers below n of which p says yes -/
def TR (n : Nat) (p : Int → Bool) : List (Int × Int) := told ((upTo n).filter p)
theorem TR_congr {n : Nat} {p q : Int → Bool} (h : ∀ k : Int, 0 ≤ k → k < (n : Int) → p k = q k) : TR n p = TR n q := by
  unfold TR
  rw [List.filter_congr fun k hk => h k (mem_upTo.mp hk).1 (mem_upTo.mp hk).2]
theorem TR_has {n : Nat} {p : Int → Bool} {k : Int} (h0 : 0 ≤ k) (h1 : k < (n : Int)) : has (TR n p) k = p k := by
  unfold TR
  rw [told_has (rising_filter p)]
  cases e : p k
  · exact decide_eq_false fun q => by rw [(List.mem_filter.mp q).2] at e; cases e
  · exact decide_eq_true (List.mem_filter.mpr ⟨mem_upTo.mpr ⟨h0, h1⟩, e⟩)
theorem TR_ok {n : Nat} (hn : n ≤ 64) (p : Int → Bool) : Ok (n : Int) (TR n p) :=
  told_ok (rising_filter p) (by omega) fun k hk => by
    have := mem_upTo.mp (List.mem_filter.mp hk).1
    exact this
theorem TR_none (n : Nat) : TR n (fun _ => false) = [] := by
  unfold TR
  rw [List.filter_eq_nil_iff.mpr (by simp)]
  rfl
theorem told_snoc (ns : List Int) (n : Int) : told (ns ++ [n]) = toldStep (told ns) n := by
  unfold told
  rw [List.foldl_append]
  rfl
theorem upTo_succ (n : Nat) : upTo (n + 1) = upTo n ++ [(n : Int)] := by
  unfold upTo
  rw [List.range_succ, List.map_append]
  rfl
theorem told_upTo : ∀ n : Nat, told (upTo (n + 1)) = [(0, (n : Int))]
  | 0 => by decide
  | n + 1 => by
    rw [upTo_succ, told_snoc, told_upTo n]
    show (if (n : Int) = ((n + 1 : Nat) : Int) - 1 then [((0 : Int), ((n + 1 : Nat) : Int))] else _) = _
    rw [if_pos (by omega)]
theorem TR_all {n : Nat} (h : 0 < n) : TR n (fun _ => true) = [(0, (n : Int) - 1)] := by
  unfold TR
  rw [List.filter_eq_self.mpr (by simp)]
  obtain ⟨m, rfl⟩ : ∃ m, n = m + 1 := ⟨n - 1, by omega⟩
  rw [told_upTo]
  simp
theorem has_reverse (R : List (Int × Int)) (k : Int) : has R.reverse k = has R k := by
  unfold has
  rw [List.any_reverse]
theorem mem_allIn {n : Nat} {R : List (Int × Int)} (hk : Ok n R) {k : Int} : k ∈ allIn n R ↔ has R k = true := by
  unfold allIn
  rw [List.mem_filter, mem_upTo]
  constructor
  · exact fun z => z.2
  · intro z
    obtain ⟨r, hr', z1, z2⟩ := has_iff.mp z
    obtain ⟨k1, k2, k3⟩ := hk.2 r hr'
    exact ⟨⟨by omega, by omega⟩, z⟩
theorem allIn_len (n : Nat) (p : Int → Bool) : ((upTo n).filter p).length ≤ n := Nat.le_trans (List.length_filter_le _ _) (by rw [upTo_len]; exact Nat.le_refl _)
theorem told_len (ns : List Int) : (told ns).length ≤ ns.length := by
  have h : ∀ (ms : List Int) (acc : List (Int × Int)), (ms.foldl toldStep acc).length ≤ acc.length + ms.length := by
    intro ms
    induction ms with
    | nil => intro acc; exact Nat.le_refl _
    | cons m ms ih =>
      intro acc
      refine Nat.le_trans (ih _) ?_
      have : (toldStep acc m).length ≤ acc.length + 1 := by
        unfold toldStep
        split
        · split <;> simp
        · simp
      simp
      omega
  have := h ns []
  simpa [told] using this
end Sg
/-! Signsets: looking by halving. -/
namespace Sg
def hv (T : List (Int × Int)) (k : Int) : Nat → Nat → Nat → Bool × List (Int × Int)
  | 0, _, _ => (false, [])
  | f + 1, lo, hi => if lo < hi then
      (if k < (T.getD ((lo + hi) / 2) (0, 0)).1 then ((hv T k f lo ((lo + hi) / 2)).1, T.getD ((lo + hi) / 2) (0, 0) :: (hv T k f lo ((lo + hi) / 2)).2)
       else if (T.getD ((lo + hi) / 2) (0, 0)).2 < k then ((hv T k f ((lo + hi) / 2 + 1) hi).1, T.getD ((lo + hi) / 2) (0, 0) :: (hv T k f ((lo + hi) / 2 + 1) hi).2)
       else (true, [T.getD ((lo + hi) / 2) (0, 0)]))
    else (false, [])
theorem hv_fuel (T : List (Int × Int)) (k : Int) : ∀ (f g lo hi : Nat), hi - lo ≤ f → hi - lo ≤ g → hv T k f lo hi = hv T k g lo hi
  | 0, 0, _, _, _, _ => rfl
  | 0, g + 1, lo, hi, h1, _ => by
    unfold hv
    rw [if_neg (by omega)]
  | f + 1, 0, lo, hi, _, h2 => by
    unfold hv
    rw [if_neg (by omega)]
  | f + 1, g + 1, lo, hi, h1, h2 => by
    unfold hv
    by_cases c : lo < hi
    · rw [if_pos c, if_pos c, hv_fuel T k f g lo ((lo + hi) / 2) (by omega) (by omega), hv_fuel T k f g ((lo + hi) / 2 + 1) hi (by omega) (by omega)]
    · rw [if_neg c, if_neg c]
def HV (T : List (Int × Int)) (k : Int) (lo hi : Nat) : Bool × List (Int × Int) := hv T k (hi - lo) lo hi
theorem HV_end {T : List (Int × Int)} {k : Int} {lo hi : Nat} (h : ¬ lo < hi) : HV T k lo hi = (false, []) := by
  unfold HV
  rw [show hi - lo = 0 by omega]
  rfl
theorem HV_step {T : List (Int × Int)} {k : Int} {lo hi : Nat} (h : lo < hi) {r : Int × Int} (hr : T[(lo + hi) / 2]? = some r) : HV T k lo hi =
    if k < r.1 then ((HV T k lo ((lo + hi) / 2)).1, r :: (HV T k lo ((lo + hi) / 2)).2) else if r.2 < k then ((HV T k ((lo + hi) / 2 + 1) hi).1, r :: (HV T k ((lo + hi) / 2 + 1) hi).2) else (true, [r]) := by
  have e : T.getD ((lo + hi) / 2) (0, 0) = r := by rw [List.getD_eq_getElem?_getD, hr]; rfl
  unfold HV
  rw [show hi - lo = (hi - lo - 1) + 1 by omega, hv, if_pos h, e, hv_fuel T k (hi - lo - 1) ((lo + hi) / 2 - lo) lo ((lo + hi) / 2) (by omega) (by omega), hv_fuel T k (hi - lo - 1) (hi - ((lo + hi) / 2 + 1)) ((lo + hi) / 2 + 1) hi (by omega) (by omega)]
theorem HV_len {T : List (Int × Int)} {k : Int} : ∀ (j lo hi : Nat), hi ≤ T.length → hi - lo < 2 ^ j → (HV T k lo hi).2.length ≤ j
  | 0, lo, hi, _, h => by
    rw [HV_end (by simp at h; omega)]
    exact Nat.le_refl _
  | j + 1, lo, hi, hl, h => by
    by_cases c : lo < hi
    · have g : T[(lo + hi) / 2]? = some T[(lo + hi) / 2] := List.getElem?_eq_getElem (by omega)
      have p : 2 ^ (j + 1) = 2 * 2 ^ j := by rw [Nat.pow_succ, Nat.mul_comm]
      have i1 := HV_len (T := T) (k := k) j lo ((lo + hi) / 2) (by omega) (by omega)
      have i2 := HV_len (T := T) (k := k) j ((lo + hi) / 2 + 1) hi hl (by omega)
      rw [HV_step c g]
      split
      · simpa using i1
      · split
        · simpa using i2
        · simp
    · rw [HV_end c]
      exact Nat.zero_le _
theorem HV_found {T : List (Int × Int)} {k : Int} (hs : T.Pairwise fun a b => a.2 + 1 < b.1) (hle : ∀ r ∈ T, r.1 ≤ r.2) : ∀ (m lo hi : Nat), hi - lo ≤ m → hi ≤ T.length → ((HV T k lo hi).1 = true ↔ ∃ (i : Nat) (r : Int × Int), lo ≤ i ∧ i < hi ∧ T[i]? = some r ∧ r.1 ≤ k ∧ k ≤ r.2)
  | 0, lo, hi, h, _ => by
    rw [HV_end (by omega)]
    constructor
    · intro z
      cases z
    · rintro ⟨i, r, h1, h2, _⟩
      omega
  | m + 1, lo, hi, h, hl => by
    by_cases c : lo < hi
    · have hm : (lo + hi) / 2 < T.length := by omega
      have g : T[(lo + hi) / 2]? = some T[(lo + hi) / 2] := List.getElem?_eq_getElem hm
      have i1 := HV_found (k := k) hs hle m lo ((lo + hi) / 2) (by omega) (by omega)
      have i2 := HV_found (k := k) hs hle m ((lo + hi) / 2 + 1) hi (by omega) hl
      have lem := hle _ (List.getElem_mem hm)
      have pw := List.pairwise_iff_getElem.mp hs
      rw [HV_step c g]
      split
      · rename_i c1
        show (HV T k lo ((lo + hi) / 2)).1 = true ↔ _
        rw [i1]
        constructor
        · rintro ⟨i, r, h1, h2, h3⟩
          exact ⟨i, r, h1, by omega, h3⟩
        · rintro ⟨i, r, h1, h2, h3, h4, h5⟩
          refine ⟨i, r, h1, ?_, h3, h4, h5⟩
          obtain ⟨hi', e⟩ := List.getElem?_eq_some_iff.mp h3
          rcases Nat.lt_trichotomy i ((lo + hi) / 2) with z | z | z
          · exact z
          · subst z
            rw [e] at c1
            omega
          · have := pw _ _ hm hi' z
            rw [e] at this
            omega
      · split
        · rename_i c0 c1
          show (HV T k ((lo + hi) / 2 + 1) hi).1 = true ↔ _
          rw [i2]
          constructor
          · rintro ⟨i, r, h1, h2, h3⟩
            exact ⟨i, r, by omega, h2, h3⟩
          · rintro ⟨i, r, h1, h2, h3, h4, h5⟩
            refine ⟨i, r, ?_, h2, h3, h4, h5⟩
            obtain ⟨hi', e⟩ := List.getElem?_eq_some_iff.mp h3
            rcases Nat.lt_trichotomy i ((lo + hi) / 2) with z | z | z
            · have := pw _ _ hi' hm z
              rw [e] at this
              omega
            · subst z
              rw [e] at c1
              omega
            · exact z
        · rename_i c0 c1
          refine ⟨fun _ => ⟨(lo + hi) / 2, _, by omega, by omega, g, by omega, by omega⟩, fun _ => rfl⟩
    · rw [HV_end c]
      constructor
      · intro z
        cases z
      · rintro ⟨i, r, h1, h2, _⟩
        omega
theorem HV_has {T : List (Int × Int)} {k : Int} (hs : T.Pairwise fun a b => a.2 + 1 < b.1) (hle : ∀ r ∈ T, r.1 ≤ r.2) : (HV T k 0 T.length).1 = has T k := by
  have e := HV_found (k := k) hs hle T.length 0 T.length (by omega) (Nat.le_refl _)
  have e2 : (HV T k 0 T.length).1 = true ↔ has T k = true := by
    rw [e, has_iff]
    constructor
    · rintro ⟨i, r, _, _, h3, h4⟩
      exact ⟨r, List.mem_of_getElem? h3, h4⟩
    · rintro ⟨r, hr, h4⟩
      obtain ⟨i, hi⟩ := List.getElem?_of_mem hr
      exact ⟨i, r, Nat.zero_le _, (List.getElem?_eq_some_iff.mp hi).1, hi, h4⟩
  cases a : has T k
  · cases b : (HV T k 0 T.length).1
    · rfl
    · rw [e2.mp b] at a
      cases a
  · exact e2.mpr a
theorem HV_le {T : List (Int × Int)} {k : Int} : ∀ (m lo hi : Nat), hi - lo ≤ m → hi ≤ T.length → (HV T k lo hi).2.length ≤ hi - lo
  | 0, lo, hi, h, _ => by
    rw [HV_end (by omega)]
    exact Nat.zero_le _
  | m + 1, lo, hi, h, hl => by
    by_cases c : lo < hi
    · have g : T[(lo + hi) / 2]? = some T[(lo + hi) / 2] := List.getElem?_eq_getElem (by omega)
      have i1 := HV_le (T := T) (k := k) m lo ((lo + hi) / 2) (by omega) (by omega)
      have i2 := HV_le (T := T) (k := k) m ((lo + hi) / 2 + 1) hi (by omega) hl
      rw [HV_step c g]
      split
      · simp
        omega
      · split
        · simp
          omega
        · simp
          omega
    · rw [HV_end c]
      exact Nat.zero_le _
/-- lo, .. below hi -/
def ivl (lo hi : Nat) : List Int := (List.range (hi - lo)).map fun (i : Nat) => (lo : Int) + (i : Int)
theorem mem_ivl {lo hi : Nat} {x : Int} : x ∈ ivl lo hi ↔ (lo : Int) ≤ x ∧ x < (hi : Int) := by
  unfold ivl
  rw [List.mem_map]
  constructor
  · rintro ⟨i, h, rfl⟩
    have := List.mem_range.mp h
    omega
  · intro h
    exact ⟨(x - lo).toNat, List.mem_range.mpr (by omega), by omega⟩
theorem ivl_rising (lo hi : Nat) : (ivl lo hi).Pairwise (· < ·) := by
  unfold ivl
  rw [List.pairwise_map]
  refine List.Pairwise.imp (fun {a b} h => ?_) List.pairwise_lt_range
  omega
theorem ivl_len (lo hi : Nat) : (ivl lo hi).length = hi - lo := by simp [ivl]
end Sg
/-! Signsets: data on the abstract heap, and rules of our own over the hand layer. -/
namespace Sg
open PySem PySem.Spec PyProof.Rows L2

/-! ### heaps -/
theorem same_new {H : Hp} {p : Addr} {o : HO} (h : H p = none) : Same H (upd H p o) := fun b u e => by
  rw [upd_ne (ne_of_none e h)]
  exact e
/-- all but d stays -/
def SameBut (d : Addr) (H H' : Hp) : Prop := ∀ b o, b ≠ d → H b = some o → H' b = some o
theorem SameBut.refl (d : Addr) (H : Hp) : SameBut d H H := fun _ _ _ h => h
theorem SameBut.trans {d : Addr} {H H1 H2 : Hp} (a : SameBut d H H1) (b : SameBut d H1 H2) : SameBut d H H2 := fun c o n h => b c o n (a c o n h)
theorem SameBut.of {d : Addr} {H H' : Hp} (h : Same H H') : SameBut d H H' := fun c o _ e => h c o e
theorem SameBut.upd {d : Addr} {H : Hp} {o : HO} : SameBut d H (upd H d o) := fun c u n e => by
  rw [upd_ne n]
  exact e
theorem SameBut.same {d : Addr} {G H H' : Hp} (e : SameBut d H H') (g : Same G H) (n : G d = none) : Same G H' := fun c o h => e c o (ne_of_none h n) (g c o h)
theorem same_upd {G H : Hp} {d : Addr} {o : HO} (g : Same G H) (n : G d = none) : Same G (upd H d o) := fun c u h => by
  rw [upd_ne (ne_of_none h n)]
  exact g c u h
/-- what is new in H' over H -/
def fr (H H' : Hp) : Hp := fun b => if (H b).isNone = true then H' b else none
/-- F without what stands at d -/
def del (F : Hp) (d : Addr) : Hp := fun b => if b = d then none else F b
theorem del_self {F : Hp} {d : Addr} : del F d d = none := by
  unfold del
  rw [if_pos rfl]
theorem del_ne {F : Hp} {d b : Addr} (h : b ≠ d) : del F d b = F b := by
  unfold del
  rw [if_neg h]
theorem fr_some {H H' : Hp} {b : Addr} {o : HO} (h : fr H H' b = some o) : H b = none ∧ H' b = some o := by
  unfold fr at h
  cases e : H b with
  | none =>
    rw [e] at h
    exact ⟨rfl, h⟩
  | some u =>
    rw [e] at h
    cases h
theorem fr_new {H H' : Hp} {b : Addr} (h : H b = none) : fr H H' b = H' b := by
  unfold fr
  rw [h]
  rfl
theorem fr_same {H H' : Hp} : Same (fr H H') H' := fun b o h => (fr_some h).2
theorem fr_mono {H0 H H1 H2 : Hp} (a : Same H0 H) (b : Same H1 H2) : Same (fr H H1) (fr H0 H2) := fun c o h => by
  obtain ⟨h1, h2⟩ := fr_some h
  rw [fr_new (a.free h1)]
  exact b c o h2
theorem del_same {F : Hp} {d : Addr} : Same (del F d) F := fun b o h => by
  unfold del at h
  split at h
  · cases h
  · exact h
theorem del_mono {F G : Hp} {d : Addr} (h : Same F G) : Same (del F d) (del G d) := fun b o e => by
  by_cases c : b = d
  · subst c
    rw [del_self] at e
    cases e
  · rw [del_ne c] at e ⊢
    exact h b o e

/-! ### data -/
theorem same_tup {K : PySem.W.Frag} {H H' : Hp} {a : Addr} {xs : List V} (e : Same H H') (h : SqT K H a xs) : SqT K H' a xs := by
  rcases h with (h | ⟨o, h⟩) | h
  · exact .inl (.inl (e _ _ h))
  · exact .inl (.inr ⟨o, e _ _ h⟩)
  · exact .inr h
mutual
theorem same_dp {K : PySem.W.Frag} {H H' : Hp} (e : Same H H') : ∀ {v : V} {d : PyData}, Dp K H v d → Dp K H' v d
  | _, _, .non => .non
  | _, _, .bl b => .bl b
  | _, _, .int i => .int i
  | _, _, .str x => .str x
  | _, _, .lst h a => .lst (e.seq h) (same_dpAll e a)
  | _, _, .tup h a => .tup (same_tup e h) (same_dpAll e a)
theorem same_dpAll {K : PySem.W.Frag} {H H' : Hp} (e : Same H H') : ∀ {vs : List V} {ds : List PyData}, DpAll K H vs ds → DpAll K H' vs ds
  | _, _, .nil => .nil
  | _, _, .cons h a => .cons (same_dp e h) (same_dpAll e a)
end
mutual
/-- data whose lists and tuples all stand in F, to be changed by whoever has them -/
inductive Dn (F : Hp) : V → PyData → Prop
  | non : Dn F .non .none
  | bl (b : Bool) : Dn F (.bl b) (.bool b)
  | int (i : Int) : Dn F (.int i) (.int i)
  | str (x : Str) : Dn F (.str x) (.str x)
  | lst {a : Addr} {xs : List V} {ds : List PyData} : F a = some (.lst xs) → DnAll F xs ds → Dn F (.ref a) (.list ds)
  | tup {a : Addr} {xs : List V} {ds : List PyData} : F a = some (.tup xs) → DnAll F xs ds → Dn F (.ref a) (.tuple ds)
inductive DnAll (F : Hp) : List V → List PyData → Prop
  | nil : DnAll F [] []
  | cons {v : V} {vs : List V} {d : PyData} {ds : List PyData} : Dn F v d → DnAll F vs ds → DnAll F (v :: vs) (d :: ds)
end
mutual
theorem Dn.mono {F G : Hp} (e : Same F G) : ∀ {v : V} {d : PyData}, Dn F v d → Dn G v d
  | _, _, .non => .non
  | _, _, .bl b => .bl b
  | _, _, .int i => .int i
  | _, _, .str x => .str x
  | _, _, .lst h a => .lst (e _ _ h) (DnAll.mono e a)
  | _, _, .tup h a => .tup (e _ _ h) (DnAll.mono e a)
theorem DnAll.mono {F G : Hp} (e : Same F G) : ∀ {vs : List V} {ds : List PyData}, DnAll F vs ds → DnAll G vs ds
  | _, _, .nil => .nil
  | _, _, .cons h a => .cons (Dn.mono e h) (DnAll.mono e a)
end
mutual
theorem Dn.dp {K : PySem.W.Frag} {F : Hp} : ∀ {v : V} {d : PyData}, Dn F v d → Dp K F v d
  | _, _, .non => .non
  | _, _, .bl b => .bl b
  | _, _, .int i => .int i
  | _, _, .str x => .str x
  | _, _, .lst h a => .lst (SqL.of h) (DnAll.dp a)
  | _, _, .tup h a => .tup (SqT.of h) (DnAll.dp a)
theorem DnAll.dp {K : PySem.W.Frag} {F : Hp} : ∀ {vs : List V} {ds : List PyData}, DnAll F vs ds → DpAll K F vs ds
  | _, _, .nil => .nil
  | _, _, .cons h a => .cons (Dn.dp h) (DnAll.dp a)
end
theorem DnAll.len {F : Hp} : ∀ {vs : List V} {ds : List PyData}, DnAll F vs ds → vs.length = ds.length
  | _, _, .nil => rfl
  | _, _, .cons _ a => congrArg (· + 1) (DnAll.len a)
theorem DnAll.app {F : Hp} : ∀ {vs us : List V} {ds es : List PyData}, DnAll F vs ds → DnAll F us es → DnAll F (vs ++ us) (ds ++ es)
  | _, _, _, _, .nil, b => b
  | _, _, _, _, .cons h a, b => .cons h (DnAll.app a b)
theorem DnAll.snoc {F : Hp} {vs : List V} {v : V} {ds : List PyData} {d : PyData} (a : DnAll F vs ds) (h : Dn F v d) : DnAll F (vs ++ [v]) (ds ++ [d]) := a.app (.cons h .nil)
theorem DnAll.get {F : Hp} : ∀ {vs : List V} {ds : List PyData} {i : Nat} {v : V}, DnAll F vs ds → vs[i]? = some v → ∃ d, ds[i]? = some d ∧ Dn F v d
  | _, _, i, v, .nil, h => by simp at h
  | _, _, 0, v, .cons h _, e => by
    simp at e
    subst e
    exact ⟨_, rfl, h⟩
  | _, _, i + 1, v, .cons _ a, e => by
    simp at e
    obtain ⟨d, h1, h2⟩ := DnAll.get a e
    exact ⟨d, by simpa using h1, h2⟩
theorem dpAll_len {K : PySem.W.Frag} {H : Hp} : ∀ {vs : List V} {ds : List PyData}, DpAll K H vs ds → vs.length = ds.length
  | _, _, .nil => rfl
  | _, _, .cons _ a => congrArg (· + 1) (dpAll_len a)
theorem dpAll_get {K : PySem.W.Frag} {H : Hp} : ∀ {vs : List V} {ds : List PyData} {i : Nat} {v : V}, DpAll K H vs ds → vs[i]? = some v → ∃ d, ds[i]? = some d ∧ Dp K H v d
  | _, _, i, v, .nil, h => by simp at h
  | _, _, 0, v, .cons h _, e => by
    simp at e
    subst e
    exact ⟨_, rfl, h⟩
  | _, _, i + 1, v, .cons _ a, e => by
    simp at e
    obtain ⟨d, h1, h2⟩ := dpAll_get a e
    exact ⟨d, by simpa using h1, h2⟩
theorem dpAll_app {K : PySem.W.Frag} {H : Hp} : ∀ {vs us : List V} {ds es : List PyData}, DpAll K H vs ds → DpAll K H us es → DpAll K H (vs ++ us) (ds ++ es)
  | _, _, _, _, .nil, b => b
  | _, _, _, _, .cons h a, b => .cons h (dpAll_app a b)
theorem dp_list {K : PySem.W.Frag} {H : Hp} {v : V} {ds : List PyData} (h : Dp K H v (.list ds)) : ∃ a xs, v = .ref a ∧ SqL K H a xs ∧ DpAll K H xs ds := by
  cases h with
  | lst h a => exact ⟨_, _, rfl, h, a⟩
theorem dp_tuple {K : PySem.W.Frag} {H : Hp} {v : V} {ds : List PyData} (h : Dp K H v (.tuple ds)) : ∃ a xs, v = .ref a ∧ SqT K H a xs ∧ DpAll K H xs ds := by
  cases h with
  | tup h a => exact ⟨_, _, rfl, h, a⟩
theorem dp_int {K : PySem.W.Frag} {H : Hp} {v : V} {i : Int} (h : Dp K H v (.int i)) : v = .int i := by
  cases h
  rfl
theorem dp_bool {K : PySem.W.Frag} {H : Hp} {v : V} {i : Bool} (h : Dp K H v (.bool i)) : v = .bl i := by
  cases h
  rfl
theorem dp_str {K : PySem.W.Frag} {H : Hp} {v : V} {i : Str} (h : Dp K H v (.str i)) : v = .str i := by
  cases h
  rfl
theorem dpAll_ints {K : PySem.W.Frag} {H : Hp} : ∀ {vs : List V} {ns : List Int}, DpAll K H vs (ns.map PyData.int) → vs = ns.map V.int
  | _, [], .nil => rfl
  | _, n :: ns, .cons h a => by
    rw [dp_int h, dpAll_ints a]
    rfl
theorem dnAll_ints {F : Hp} : ∀ ns : List Int, DnAll F (ns.map V.int) (ns.map PyData.int)
  | [] => .nil
  | n :: ns => .cons (.int n) (dnAll_ints ns)
theorem dpAll_ofInts {K : PySem.W.Frag} {H : Hp} (ns : List Int) : DpAll K H (ns.map V.int) (ns.map PyData.int) := (dnAll_ints ns).dp
/-- a pair of ints -/
def eP (r : Int × Int) : PyData := .tuple [.int r.1, .int r.2]
def eR (R : List (Int × Int)) : PyData := .list (R.map eP)
def eI (ns : List Int) : PyData := .list (ns.map PyData.int)
theorem dp_pair {K : PySem.W.Frag} {H : Hp} {v : V} {r : Int × Int} (h : Dp K H v (eP r)) : ∃ t, v = .ref t ∧ SqT K H t [.int r.1, .int r.2] := by
  obtain ⟨a, xs, rfl, hs, ha⟩ := dp_tuple h
  cases ha with
  | cons h1 h2 => cases h2 with
    | cons h3 h4 =>
      cases h4
      rw [dp_int h1, dp_int h3] at hs
      exact ⟨a, rfl, hs⟩
/-- v is new data d in H' over H -/
def NewV (H H' : Hp) (v : V) (d : PyData) : Prop := Dn (fr H H') v d
theorem NewV.dp {K : PySem.W.Frag} {H H' : Hp} {v : V} {d : PyData} (h : NewV H H' v d) : Dp K H' v d := same_dp fr_same (Dn.dp h)
theorem NewV.mono {H0 H H1 H2 : Hp} {v : V} {d : PyData} (h : NewV H H1 v d) (a : Same H0 H) (b : Same H1 H2) : NewV H0 H2 v d := Dn.mono (fr_mono a b) h
/-- at o stands a list that is being made, new over H0, of the data ds -/
def LB (H0 H : Hp) (o : Addr) (ds : List PyData) : Prop := H0 o = none ∧ ∃ xs, H o = some (.lst xs) ∧ DnAll (del (fr H0 H) o) xs ds
theorem LB.nil {H0 H : Hp} {o : Addr} (h : H0 o = none) : LB H0 (upd H o (.lst [])) o [] := ⟨h, [], upd_same, .nil⟩
theorem LB.same {H0 H H' : Hp} {o : Addr} {ds : List PyData} (h : LB H0 H o ds) (e : Same H H') : LB H0 H' o ds := by
  obtain ⟨h0, xs, h1, h2⟩ := h
  exact ⟨h0, xs, e _ _ h1, h2.mono (del_mono (fr_mono (Same.refl _) e))⟩
theorem LB.snoc {H0 H H4 : Hp} {o : Addr} {ds : List PyData} {y : V} {e : PyData} (h : LB H0 H o ds) (s0 : Same H0 H) (s : Same H H4) (n : NewV H H4 y e) :
    ∃ xs, H4 o = some (.lst xs) ∧ xs.length = ds.length ∧ LB H0 (upd H4 o (.lst (xs ++ [y]))) o (ds ++ [e]) := by
  obtain ⟨h0, xs, h1, h2⟩ := h
  have k : Same (fr H0 H4) (fr H0 H4) := Same.refl _
  have up : Same (del (fr H0 H4) o) (del (fr H0 (upd H4 o (.lst (xs ++ [y])))) o) := fun b u q => by
    by_cases c : b = o
    · subst c
      rw [del_self] at q
      cases q
    · rw [del_ne c] at q ⊢
      obtain ⟨q1, q2⟩ := fr_some q
      rw [fr_new q1, upd_ne c]
      exact q2
  refine ⟨xs, s _ _ h1, h2.len, h0, xs ++ [y], upd_same, DnAll.snoc (h2.mono ?_) (Dn.mono ?_ n)⟩
  · exact (del_mono (fr_mono (Same.refl _) s)).trans up
  · intro b u q
    obtain ⟨q1, q2⟩ := fr_some q
    have c : b ≠ o := fun z => by
      subst z
      rw [h1] at q1
      cases q1
    refine up b u ?_
    rw [del_ne c, fr_new (s0.free q1)]
    exact q2
theorem LB.newV {H0 H : Hp} {o : Addr} {ds : List PyData} (h : LB H0 H o ds) : NewV H0 H (.ref o) (.list ds) := by
  obtain ⟨h0, xs, h1, h2⟩ := h
  refine .lst (xs := xs) ?_ (h2.mono del_same)
  rw [fr_new h0]
  exact h1
theorem LB.at {H0 H : Hp} {o : Addr} {ds : List PyData} (h : LB H0 H o ds) : ∃ xs, H o = some (.lst xs) ∧ xs.length = ds.length := by
  obtain ⟨h0, xs, h1, h2⟩ := h
  exact ⟨xs, h1, h2.len⟩
/-- a new pair -/
theorem new_pair {H : Hp} {t : Addr} {i j : Int} (h : H t = none) : NewV H (upd H t (.tup [.int i, .int j])) (.ref t) (eP (i, j)) := by
  refine .tup (xs := [.int i, .int j]) ?_ (.cons (.int i) (.cons (.int j) .nil))
  rw [fr_new h]
  exact upd_same
theorem newV_ints {H H' : Hp} {p : Addr} {ns : List Int} (h : H p = none) (e : H' p = some (.lst (ns.map V.int))) : NewV H H' (.ref p) (eI ns) := by
  refine .lst (xs := ns.map V.int) ?_ (dnAll_ints ns)
  rw [fr_new h]
  exact e
theorem newV_list {H H' : Hp} {v : V} {ds : List PyData} (h : NewV H H' v (.list ds)) : ∃ p xs, v = .ref p ∧ H p = none ∧ H' p = some (.lst xs) ∧ DnAll (fr H H') xs ds := by
  cases h with
  | lst h a => exact ⟨_, _, rfl, (fr_some h).1, (fr_some h).2, a⟩

/-! ### comparing -/
theorem eqv_ints : ∀ (a b : List Int), PyData.eqvAll (a.map PyData.int) (b.map PyData.int) = decide (a = b)
  | [], [] => by simp [PyData.eqvAll]
  | [], _ :: _ => by simp [PyData.eqvAll]
  | _ :: _, [] => by simp [PyData.eqvAll]
  | x :: a, y :: b => by
    have ih := eqv_ints a b
    simp only [List.map_cons, PyData.eqvAll, PyData.eqv, ih]
    by_cases h : x = y <;> by_cases h2 : a = b <;> simp [h, h2]
theorem eqv_pairs : ∀ (a b : List (Int × Int)), PyData.eqvAll (a.map eP) (b.map eP) = decide (a = b)
  | [], [] => by simp [PyData.eqvAll]
  | [], _ :: _ => by simp [PyData.eqvAll]
  | _ :: _, [] => by simp [PyData.eqvAll]
  | (x, u) :: a, (y, w) :: b => by
    have ih := eqv_pairs a b
    simp only [List.map_cons, PyData.eqvAll, eP, PyData.eqv, ih]
    by_cases h : x = y <;> by_cases h1 : u = w <;> by_cases h2 : a = b <;> simp [h, h1, h2]
theorem eqv_eR (a b : List (Int × Int)) : PyData.eqv (eR a) (eR b) = decide (a = b) := by
  unfold eR
  rw [PyData.eqv, eqv_pairs]
theorem eqv_eI (a b : List Int) : PyData.eqv (eI a) (eI b) = decide (a = b) := by
  unfold eI
  rw [PyData.eqv, eqv_ints]
theorem can_all {ds : List PyData} : (∀ d ∈ ds, d.canLay0 = true) → PyData.canLayAll0 ds = true := by
  induction ds with
  | nil => intro _; simp [PyData.canLayAll0]
  | cons d ds ih =>
    intro h
    rw [PyData.canLayAll0, h d (by simp), ih fun e he => h e (List.mem_cons_of_mem _ he)]
    rfl
theorem depth_all {n : Nat} {ds : List PyData} : (∀ d ∈ ds, d.depth ≤ n) → PyData.depthAll ds ≤ n := by
  induction ds with
  | nil => intro _; simp [PyData.depthAll]
  | cons d ds ih =>
    intro h
    rw [PyData.depthAll]
    exact Nat.max_le.mpr ⟨h d (by simp), ih fun e he => h e (List.mem_cons_of_mem _ he)⟩
/-- data of at most so many storeys -/
def Sh (n : Nat) (d : PyData) : Prop := d.canLay0 = true ∧ d.depth ≤ n
theorem Sh.list {n : Nat} {ds : List PyData} (h : ∀ d ∈ ds, Sh n d) : Sh (n + 1) (.list ds) := by
  refine ⟨?_, ?_⟩
  · rw [PyData.canLay0]
    exact can_all fun d hd => (h d hd).1
  · rw [PyData.depth]
    exact Nat.succ_le_succ (depth_all fun d hd => (h d hd).2)
theorem Sh.tuple {n : Nat} {ds : List PyData} (h : ∀ d ∈ ds, Sh n d) : Sh (n + 1) (.tuple ds) := by
  refine ⟨?_, ?_⟩
  · rw [PyData.canLay0]
    exact can_all fun d hd => (h d hd).1
  · rw [PyData.depth]
    exact Nat.succ_le_succ (depth_all fun d hd => (h d hd).2)
theorem Sh.int {n : Nat} (i : Int) : Sh n (.int i) := ⟨by simp [PyData.canLay0], by simp [PyData.depth]⟩
theorem Sh.bool {n : Nat} (i : Bool) : Sh n (.bool i) := ⟨by simp [PyData.canLay0], by simp [PyData.depth]⟩
theorem Sh.eP {n : Nat} (r : Int × Int) : Sh (n + 1) (eP r) := Sh.tuple fun d hd => by
  simp at hd
  rcases hd with rfl | rfl <;> exact Sh.int _
theorem Sh.eR {n : Nat} (R : List (Int × Int)) : Sh (n + 2) (eR R) := Sh.list fun d hd => by
  obtain ⟨r, _, rfl⟩ := List.mem_map.mp hd
  exact Sh.eP r
theorem Sh.eI {n : Nat} (R : List Int) : Sh (n + 1) (eI R) := Sh.list fun d hd => by
  obtain ⟨r, _, rfl⟩ := List.mem_map.mp hd
  exact Sh.int r
theorem Sh.shaped {n : Nat} {d : PyData} (h : Sh n d) (hn : n ≤ 64 := by decide) : SeqAt.shaped d = true := by
  unfold SeqAt.shaped
  rw [h.1, decide_eq_true (Nat.le_trans h.2 hn)]
  rfl

/-! ### a < b < c < d, as a test -/
section
variable {X : Cx} {a b c d : Expr} {ta tb tc td : TE} {pos : Pos}
def tChain3 (r r' r2 : R2) (ta tb tc td : TE) : TT := fun σ H Q => ta σ H fun x H1 => tb σ H1 fun y H2 => r x y H2 fun z H3 => ∃ k, z = .bl k ∧
  (if k = true then tc σ H3 fun y' H4 => r' y y' H4 fun z' H5 => ∃ k', z' = .bl k' ∧ (if k' = true then td σ H5 fun w' H6 => r2 y' w' H6 fun z2 H7 => ∃ k2, z2 = .bl k2 ∧ Q k2 H7 else Q false H5) else Q false H3)
theorem pt_chain3 {op op' op2 : CmpOp} {r r' r2 : R2} (ho : OpR X (compareOp op) r) (ho' : OpR X (compareOp op') r') (ho2 : OpR X (compareOp op2) r2) (ha : PE X a ta) (hb : PE X b tb) (hc : PE X c tc) (hd : PE X d td)
    (hm : lastMarks [op, op', op2] [b, c, d] = false := by with_unfolding_all rfl) : PT X (.Compare a [op, op', op2] [b, c, d] pos) (tChain3 r r' r2 ta tb tc td) := by
  refine ⟨fun pins s σ H Q I h => ?_⟩
  refine isTrue_chain (thn (ha.run pins s σ H _ I h) fun v s1 ⟨x, H1, I1, r1, q1⟩ => test_link (thn (hb.run pins s1 σ H1 _ I1 q1) fun u s2 ⟨y, H2, I2, r2', q2⟩ =>
    thn (ho pins s2 σ H2 x y v u _ I2 r1 r2' q2) fun d1 s3 ⟨z, H3, I3, r3, k, e, q3⟩ => ?_)) hm
  subst e
  cases r3
  refine wpAny_truthy_bool ?_
  cases k with
  | false => exact ite_ff ⟨H3, I3, q3⟩
  | true =>
    refine ite_tt (test_link (thn (hc.run pins s3 σ H3 _ I3 q3) fun w' s4 ⟨z', H4, I4, r4, q4⟩ => thn (ho' pins s4 σ H4 y z' u w' _ I4 r2' r4 q4) fun d' s5 ⟨z2, H5, I5, r5, k2, e2, q5⟩ => ?_))
    subst e2
    cases r5
    refine wpAny_truthy_bool ?_
    cases k2 with
    | false => exact ite_ff ⟨H5, I5, q5⟩
    | true =>
      refine ite_tt (test_last (thn (hd.run pins s5 σ H5 _ I5 q5) fun w2 s6 ⟨z6, H6, I6, r6, q6⟩ => thn (ho2 pins s6 σ H6 z' z6 w' w2 _ I6 r4 r6 q6) fun d7 s7 ⟨z7, H7, I7, r7, k7, e7, q7⟩ => ?_))
      subst e7
      cases r7
      exact wpAny_truthy_bool ⟨H7, I7, q7⟩
end

/-! ### comprehensions that make new data -/
theorem sizeOk {n : Nat} (h : n ≤ 1000000) : n < sizeLine := Nat.lt_of_le_of_lt h (by decide)
theorem filterMap_succ {f : Nat → Option PyData} {n : Nat} {e : PyData} (h : f n = some e) : (List.range (n + 1)).filterMap f = (List.range n).filterMap f ++ [e] := by
  rw [List.range_succ, List.filterMap_append]
  simp [h]
theorem filterMap_succ0 {f : Nat → Option PyData} {n : Nat} (h : f n = none) : (List.range (n + 1)).filterMap f = (List.range n).filterMap f := by
  rw [List.range_succ, List.filterMap_append]
  simp [h]
theorem lcN_step {H1 H : Hp} {D : Addr} {f : Nat → Option PyData} {i n : Nat} (hn : n ≤ 1000000) (hi : i < n) (sm : Same H1 H) (lb : LB H1 H D ((List.range i).filterMap f)) :
    (∀ y H4 e, Same H H4 → f i = some e → NewV H H4 y e → ∃ acc, H4 D = some (.lst acc) ∧ acc.length < sizeLine ∧ (Same H1 (upd H4 D (.lst (acc ++ [y]))) ∧ LB H1 (upd H4 D (.lst (acc ++ [y]))) D ((List.range (i + 1)).filterMap f))) ∧
    (∀ H3, Same H H3 → f i = none → (Same H1 H3 ∧ LB H1 H3 D ((List.range (i + 1)).filterMap f))) := by
  refine ⟨fun y H4 e s fe nv => ?_, fun H3 s fe => ?_⟩
  · obtain ⟨xs, h1, h2, h3⟩ := lb.snoc sm s nv
    have hl : xs.length ≤ i := by
      rw [h2]
      exact Nat.le_trans (List.length_filterMap_le _ _) (by rw [List.length_range]; exact Nat.le_refl _)
    refine ⟨xs, h1, sizeOk (by omega), same_upd (sm.trans s) lb.1, ?_⟩
    rw [filterMap_succ fe]
    exact h3
  · refine ⟨sm.trans s, ?_⟩
    rw [filterMap_succ0 fe]
    exact lb.same s
theorem lcN_range {lo : Int} {n : Nat} {g : TG} {tt : TT} {te : TE} {vs : List Nat} {σ : L2.St} {H1 : Hp} {D : Addr} {Qd : Hp → Prop} (f : Nat → Option PyData) (hD : H1 D = none) (hn : n ≤ 1000000)
    (hs : ∀ (i : Nat) (H : Hp) (N1 : V → Hp → Prop) (N0 : Hp → Prop), i < n → Same H1 H → (∀ y H4 e, Same H H4 → f i = some e → NewV H H4 y e → N1 y H4) → (∀ H3, Same H H3 → f i = none → N0 H3) →
      g (.int (lo + i)) (wipe σ vs) H fun σ2 H2 => wipe σ2 vs = wipe σ vs ∧ tt σ2 H2 fun b H3 => if b = true then te σ2 H3 N1 else N0 H3)
    (hd : ∀ H, Same H1 H → LB H1 H D ((List.range n).filterMap f) → Qd H) :
    ∃ W : Nat → Nat → Hp → Prop, (∃ m, W 0 m (upd H1 D (.lst []))) ∧ ∀ i m H, W i m H →
      ((Itr lo n).stop i H ∧ Qd H) ∨ ((Itr lo n).go i H ∧ ∃ Nx : Hp → Prop, (∀ H', Nx H' → ∃ m', m' < m ∧ W (i + 1) m' H') ∧ ∀ x H', (Itr lo n).yld i H x H' → g x (wipe σ vs) H' fun σ2 H2 => wipe σ2 vs = wipe σ vs ∧ tt σ2 H2 fun b H3 =>
        if b = true then te σ2 H3 fun y H4 => ∃ acc, H4 D = some (.lst acc) ∧ acc.length < sizeLine ∧ Nx (upd H4 D (.lst (acc ++ [y]))) else Nx H3) :=
  lc_range (fun i H => Same H1 H ∧ LB H1 H D ((List.range i).filterMap f)) ⟨same_new hD, LB.nil hD⟩ (fun i H hi p => by
    obtain ⟨k1, k0⟩ := lcN_step hn hi p.1 p.2
    exact hs i H _ _ hi p.1 k1 k0) fun H p => hd H p.1 p.2
theorem lcN_list {K : PySem.W.Frag} {a : Addr} {xs : List V} {g : TG} {tt : TT} {te : TE} {vs : List Nat} {σ : L2.St} {H1 : Hp} {D : Addr} {Qd : Hp → Prop} (f : Nat → Option PyData) (hS : SqL K H1 a xs) (hD : H1 D = none) (hn : xs.length ≤ 1000000)
    (hs : ∀ (i : Nat) (x : V) (H : Hp) (N1 : V → Hp → Prop) (N0 : Hp → Prop), xs[i]? = some x → Same H1 H → (∀ y H4 e, Same H H4 → f i = some e → NewV H H4 y e → N1 y H4) → (∀ H3, Same H H3 → f i = none → N0 H3) →
      g x (wipe σ vs) H fun σ2 H2 => wipe σ2 vs = wipe σ vs ∧ tt σ2 H2 fun b H3 => if b = true then te σ2 H3 N1 else N0 H3)
    (hd : ∀ H, Same H1 H → LB H1 H D ((List.range xs.length).filterMap f) → Qd H) :
    ∃ W : Nat → Nat → Hp → Prop, (∃ m, W 0 m (upd H1 D (.lst []))) ∧ ∀ i m H, W i m H →
      ((Itl K a).stop i H ∧ Qd H) ∨ ((Itl K a).go i H ∧ ∃ Nx : Hp → Prop, (∀ H', Nx H' → ∃ m', m' < m ∧ W (i + 1) m' H') ∧ ∀ x H', (Itl K a).yld i H x H' → g x (wipe σ vs) H' fun σ2 H2 => wipe σ2 vs = wipe σ vs ∧ tt σ2 H2 fun b H3 =>
        if b = true then te σ2 H3 fun y H4 => ∃ acc, H4 D = some (.lst acc) ∧ acc.length < sizeLine ∧ Nx (upd H4 D (.lst (acc ++ [y]))) else Nx H3) :=
  lc_list (xs := xs) (fun i H => Same H1 H ∧ LB H1 H D ((List.range i).filterMap f)) ⟨same_new hD, LB.nil hD⟩ (fun i H _ p => p.1.seq hS) (fun i x H hx p => by
    obtain ⟨k1, k0⟩ := lcN_step (n := xs.length) hn (List.getElem?_eq_some_iff.mp hx).1 p.1 p.2
    exact hs i x H _ _ hx p.1 k1 k0) fun H p => hd H p.1 p.2
/-- .. that hands on items of what stood before -/
theorem lcO_list {K : PySem.W.Frag} {a : Addr} {xs : List V} {ds : List PyData} {g : TG} {tt : TT} {te : TE} {vs : List Nat} {σ : L2.St} {H1 : Hp} {D : Addr} {Qd : Hp → Prop} (p : PyData → Bool) (hS : SqL K H1 a xs) (hA : DpAll K H1 xs ds) (hD : H1 D = none) (hn : xs.length ≤ 1000000)
    (hs : ∀ (i : Nat) (x : V) (d : PyData) (H : Hp) (N1 : V → Hp → Prop) (N0 : Hp → Prop), ds[i]? = some d → Dp K H1 x d → Same H1 H → (∀ H4, Same H H4 → p d = true → N1 x H4) → (∀ H3, Same H H3 → p d = false → N0 H3) →
      g x (wipe σ vs) H fun σ2 H2 => wipe σ2 vs = wipe σ vs ∧ tt σ2 H2 fun b H3 => if b = true then te σ2 H3 N1 else N0 H3)
    (hd : ∀ H ys, Same H1 H → H D = some (.lst ys) → DpAll K H1 ys (ds.filter p) → Qd H) :
    ∃ W : Nat → Nat → Hp → Prop, (∃ m, W 0 m (upd H1 D (.lst []))) ∧ ∀ i m H, W i m H →
      ((Itl K a).stop i H ∧ Qd H) ∨ ((Itl K a).go i H ∧ ∃ Nx : Hp → Prop, (∀ H', Nx H' → ∃ m', m' < m ∧ W (i + 1) m' H') ∧ ∀ x H', (Itl K a).yld i H x H' → g x (wipe σ vs) H' fun σ2 H2 => wipe σ2 vs = wipe σ vs ∧ tt σ2 H2 fun b H3 =>
        if b = true then te σ2 H3 fun y H4 => ∃ acc, H4 D = some (.lst acc) ∧ acc.length < sizeLine ∧ Nx (upd H4 D (.lst (acc ++ [y]))) else Nx H3) := by
  refine lc_list (xs := xs) (fun i H => Same H1 H ∧ ∃ ys, H D = some (.lst ys) ∧ DpAll K H1 ys ((ds.take i).filter p)) ⟨same_new hD, [], upd_same, .nil⟩ (fun i H _ q => q.1.seq hS) (fun i x H hx q => ?_) fun H q => ?_
  · obtain ⟨sm, ys, hy, ha⟩ := q
    obtain ⟨d, hdi, hdx⟩ := dpAll_get hA hx
    have hi : i < xs.length := (List.getElem?_eq_some_iff.mp hx).1
    have hl : ys.length ≤ i := by
      rw [dpAll_len ha]
      exact Nat.le_trans (List.length_filter_le _ _) (by rw [List.length_take]; exact Nat.min_le_left _ _)
    refine hs i x d H _ _ hdi hdx sm (fun H4 s pd => ⟨ys, s _ _ hy, sizeOk (by omega), same_upd (sm.trans s) hD, ys ++ [x], upd_same, ?_⟩) (fun H3 s pd => ⟨sm.trans s, ys, s _ _ hy, ?_⟩)
    · rw [List.take_add_one, hdi, List.filter_append]
      simp only [Option.toList, List.filter, pd]
      exact dpAll_app ha (.cons hdx .nil)
    · rw [List.take_add_one, hdi, List.filter_append]
      simp only [Option.toList, List.filter, pd, List.append_nil]
      exact ha
  · obtain ⟨sm, ys, hy, ha⟩ := q
    rw [List.take_of_length_le (by rw [dpAll_len hA]; exact Nat.le_refl _)] at ha
    exact hd H ys sm hy ha
/-! ### lists that range makes -/
theorem range_ints {n : Nat} {p : Int → Bool} : (List.range n).filterMap (fun (i : Nat) => if p (i : Int) = true then some (PyData.int (i : Int)) else none) = (((List.range n).map fun (k : Nat) => (k : Int)).filter p).map PyData.int := by
  induction n with
  | zero => rfl
  | succ n ih =>
    rw [List.range_succ, List.filterMap_append, ih, List.map_append, List.filter_append, List.map_append]
    cases h : p (n : Int) <;> simp [h]
theorem list_ints {ns : List Int} {p : Int → Bool} : (List.range ns.length).filterMap (fun (i : Nat) => (ns[i]?).bind fun k => if p k = true then some (PyData.int k) else none) = (ns.filter p).map PyData.int := by
  have h : ∀ m, m ≤ ns.length → (List.range m).filterMap (fun (i : Nat) => (ns[i]?).bind fun k => if p k = true then some (PyData.int k) else none) = ((ns.take m).filter p).map PyData.int := by
    intro m
    induction m with
    | zero => intro _; rfl
    | succ m ih =>
      intro hm
      have hlt : m < ns.length := hm
      have g : ns[m]? = some ns[m] := List.getElem?_eq_getElem hlt
      rw [List.range_succ, List.filterMap_append, ih (Nat.le_of_succ_le hm), List.take_add_one, g, List.filter_append, List.map_append]
      congr 1
      rw [List.filterMap_cons, g]
      cases h : p ns[m] <;> simp [h]
  rw [h _ (Nat.le_refl _), List.take_length]
theorem lcN_range0 {n : Nat} {g : TG} {tt : TT} {te : TE} {vs : List Nat} {σ : L2.St} {H1 : Hp} {D : Addr} {Qd : Hp → Prop} (f : Nat → Option PyData) (hD : H1 D = none) (hn : n ≤ 1000000)
    (hs : ∀ (i : Nat) (H : Hp) (N1 : V → Hp → Prop) (N0 : Hp → Prop), i < n → Same H1 H → (∀ y H4 e, Same H H4 → f i = some e → NewV H H4 y e → N1 y H4) → (∀ H3, Same H H3 → f i = none → N0 H3) →
      g (.int (i : Int)) (wipe σ vs) H fun σ2 H2 => wipe σ2 vs = wipe σ vs ∧ tt σ2 H2 fun b H3 => if b = true then te σ2 H3 N1 else N0 H3)
    (hd : ∀ H, Same H1 H → LB H1 H D ((List.range n).filterMap f) → Qd H) :
    ∃ W : Nat → Nat → Hp → Prop, (∃ m, W 0 m (upd H1 D (.lst []))) ∧ ∀ i m H, W i m H →
      ((Itr 0 (n : Int).toNat).stop i H ∧ Qd H) ∨ ((Itr 0 (n : Int).toNat).go i H ∧ ∃ Nx : Hp → Prop, (∀ H', Nx H' → ∃ m', m' < m ∧ W (i + 1) m' H') ∧ ∀ x H', (Itr 0 (n : Int).toNat).yld i H x H' → g x (wipe σ vs) H' fun σ2 H2 => wipe σ2 vs = wipe σ vs ∧ tt σ2 H2 fun b H3 =>
        if b = true then te σ2 H3 fun y H4 => ∃ acc, H4 D = some (.lst acc) ∧ acc.length < sizeLine ∧ Nx (upd H4 D (.lst (acc ++ [y]))) else Nx H3) := by
  rw [Int.toNat_natCast]
  refine lcN_range (lo := 0) f hD hn (fun i H N1 N0 hi sm k1 k0 => ?_) hd
  rw [Int.zero_add]
  exact hs i H N1 N0 hi sm k1 k0
/-- whether a pair that stands as data has n -/
def inR (n : Int) : PyData → Bool
  | .tuple [.int a, .int b] => decide (a ≤ n) && decide (n ≤ b)
  | _ => false
theorem inR_eP (n : Int) (r : Int × Int) : inR n (eP r) = (decide (r.1 ≤ n) && decide (n ≤ r.2)) := rfl
theorem eqv_nil (ds : List PyData) : PyData.eqv (.list ds) (.list []) = ds.isEmpty := by
  rw [PyData.eqv]
  cases ds <;> simp [PyData.eqvAll]
theorem any_filter {p : PyData → Bool} : ∀ ds : List PyData, (!(ds.filter p).isEmpty) = ds.any p
  | [] => rfl
  | d :: ds => by
    rw [List.filter_cons, List.any_cons]
    cases h : p d
    · simp only [Bool.false_eq_true, if_false, Bool.false_or]
      exact any_filter ds
    · simp
theorem sh_filter {n : Nat} {p : PyData → Bool} {R : List (Int × Int)} : Sh (n + 2) (.list ((R.map eP).filter p)) := Sh.list fun d hd => by
  obtain ⟨r, _, rfl⟩ := List.mem_map.mp (List.mem_filter.mp hd).1
  exact Sh.eP r
theorem sh_nil {n : Nat} : Sh (n + 1) (.list []) := Sh.list fun d hd => by simp at hd
theorem get_map {α : Type} {f : α → PyData} {l : List α} {i : Nat} {d : PyData} (h : (l.map f)[i]? = some d) : ∃ r, l[i]? = some r ∧ d = f r := by
  rw [List.getElem?_map] at h
  cases e : l[i]? with
  | none =>
    rw [e] at h
    cases h
  | some r =>
    rw [e] at h
    exact ⟨r, rfl, (Option.some.inj h).symm⟩
/-! ### rules with the written part by name (within a comprehension the rules' own X.K would name what is bound there) -/
section
variable {X : Cx} {tg l : Expr} {tl : TE}
theorem ixL (K : PySem.W.Frag) (h : X.K = K := by rfl) : IxR X (rIxL K) := by subst h; exact ix_list
theorem ixT (K : PySem.W.Frag) (h : X.K = K := by rfl) : IxR X (rIxT K) := by subst h; exact ix_tup
def rLenQ (K : PySem.W.Frag) : List V → Hp → VK → Prop := fun xs H Q => ∃ p ys, xs = [.ref p] ∧ (SqL K H p ys ∨ SqT K H p ys) ∧ Q (.int ys.length) H
theorem lenQ (K : PySem.W.Frag) (h : X.K = K := by rfl) : CallR X (.builtin "len") (rLenQ K) := by subst h; exact call_len_seq
theorem inQ (K : PySem.W.Frag) (h : X.K = K := by rfl) : OpR X (compareOp .In) (rIn K false) := by subst h; exact op_in_seq
theorem notInQ (K : PySem.W.Frag) (h : X.K = K := by rfl) : OpR X (compareOp .NotIn) (rIn K true) := by subst h; exact op_notIn_seq
theorem eqD (K : PySem.W.Frag) (hu : X.A.units + 64 < cLine) (h : X.K = K := by rfl) : OpR X (compareOp .Eq) (rEqD K) := by subst h; exact op_eqD hu
theorem neD (K : PySem.W.Frag) (hu : X.A.units + 64 < cLine) (h : X.K = K := by rfl) : OpR X (compareOp .NotEq) (rNeD K) := by subst h; exact op_neD hu
theorem piL (K : PySem.W.Frag) (hl : PE X l tl) (h : X.K = K := by rfl) : PI X tg l (iList K tl) := by subst h; exact pi_list hl
theorem piT (K : PySem.W.Frag) (hl : PE X l tl) (h : X.K = K := by rfl) : PI X tg l (iTup K tl) := by subst h; exact pi_tup hl
theorem sumQ (K : PySem.W.Frag) (hc : X.calm = true) (h : X.K = K := by rfl) : CallR X (.builtin "sum") (rSum K) := by subst h; exact cr_sum hc
theorem allQ (K : PySem.W.Frag) (hc : X.calm = true) (h : X.K = K := by rfl) : CallR X (.builtin "all") (rAll K) := by subst h; exact cr_all hc
def rListOf (K : PySem.W.Frag) : List V → Hp → VK → Prop := fun xs H Q => ∃ p ys, xs = [.ref p] ∧ (SqL K H p ys ∨ SqT K H p ys) ∧ ∀ l, H l = none → Q (.ref l) (upd H l (.lst ys))
theorem listOf (K : PySem.W.Frag) (h : X.K = K := by rfl) : CallR X (.type "list") (rListOf K) := by subst h; exact call_list_of
def rTupOf (K : PySem.W.Frag) : List V → Hp → VK → Prop := fun xs H Q => ∃ p ys, xs = [.ref p] ∧ ((SqL K H p ys ∧ ∀ l, H l = none → Q (.ref l) (upd H l (.tup ys))) ∨ (SqT K H p ys ∧ Q (.ref p) H))
theorem tupOf (K : PySem.W.Frag) (h : X.K = K := by rfl) : CallR X (.type "tuple") (rTupOf K) := by subst h; exact call_tuple_of
theorem slL (K : PySem.W.Frag) (h : X.K = K := by rfl) : SlR X (rSlL K) := by subst h; exact sl_list
theorem mtIndex (K : PySem.W.Frag) (h : X.K = K := by rfl) : MtR X "list.index" (rIndex K) := by subst h; exact mt_index
theorem pgT (K : PySem.W.Frag) {es : List Expr} {k : Nat} {t : TGs} {n : Nat} {pos : Pos} (hc : X.calm = true) (hg : PGs X es t) (h : X.K = K := by rfl)
    (hn : (assignEach es X.env).length = n := by rfl) (hst : (assignEach es X.env).findIdx? (·.1) = none := by rfl) : PG X (.Tuple es k pos) (gTup K n t) := by subst h; exact pg_tup hc hg hn hst
theorem piEnum (K : PySem.W.Frag) {e : Expr} {ta : TA} {p pos tpos : Pos} {elts : List Expr} {kk : Nat} (hg : Gl X "enumerate") (hm : X.mg "enumerate" = none) (ha : PA X [e] ta) (h : X.K = K := by rfl) (hs : starEach [e] X.env = [(false, eval e X.env)] := by rfl) :
    PI X (.Tuple elts kk tpos) (.Call (.Name "enumerate" p) [e] [] pos) (iEnum K ta) := by subst h; exact pi_enum hg hm ha hs
end
theorem DnAll.unsnoc {F : Hp} : ∀ {vs : List V} {ds : List PyData} {d : PyData}, DnAll F vs (ds ++ [d]) → ∃ us x, vs = us ++ [x] ∧ DnAll F us ds ∧ Dn F x d
  | _, [], d, .cons h .nil => ⟨[], _, rfl, .nil, h⟩
  | _, e :: ds, d, .cons h a => by
    obtain ⟨us, x, rfl, h1, h2⟩ := DnAll.unsnoc a
    exact ⟨_ :: us, x, rfl, .cons h h1, h2⟩
theorem LB.last {H0 H : Hp} {o : Addr} {ds : List PyData} {d : PyData} (h : LB H0 H o (ds ++ [d])) : ∃ xi x, H o = some (.lst (xi ++ [x])) ∧ Dn (fr H0 H) x d := by
  obtain ⟨h0, xs, h1, h2⟩ := h
  obtain ⟨us, x, rfl, h3, h4⟩ := h2.unsnoc
  exact ⟨us, x, h1, Dn.mono del_same h4⟩
theorem LB.setLast {H0 H H4 : Hp} {o : Addr} {ds : List PyData} {d e : PyData} {y : V} {xi : List V} {x : V} (h : LB H0 H o (ds ++ [d])) (hx : H o = some (.lst (xi ++ [x]))) (s0 : Same H0 H) (s : Same H H4) (n : NewV H H4 y e) : LB H0 (upd H4 o (.lst (xi ++ [y]))) o (ds ++ [e]) := by
  obtain ⟨h0, xs, h1, h2⟩ := h
  obtain ⟨us, x', rfl, h3, h4⟩ := h2.unsnoc
  have e1 := HO.lst.inj (Option.some.inj (hx.symm.trans h1))
  obtain ⟨rfl, _⟩ : xi = us ∧ x = x' := by simpa using e1
  have lb : LB H0 (upd H o (.lst xi)) o ds := by
    refine ⟨h0, xi, upd_same, h3.mono fun b u q => ?_⟩
    by_cases c : b = o
    · subst c
      rw [del_self] at q
      cases q
    · rw [del_ne c] at q ⊢
      obtain ⟨q1, q2⟩ := fr_some q
      rw [fr_new q1, upd_ne c]
      exact q2
  have s4 : Same (upd H o (.lst xi)) (upd H4 o (.lst xi)) := fun b u q => by
    by_cases c : b = o
    · subst c
      rw [upd_same] at q ⊢
      exact q
    · rw [upd_ne c] at q ⊢
      exact s _ _ q
  have nv : NewV (upd H o (.lst xi)) (upd H4 o (.lst xi)) y e := by
    refine Dn.mono (fun b u q => ?_) n
    obtain ⟨q1, q2⟩ := fr_some q
    have c : b ≠ o := fun z => by
      subst z
      rw [hx] at q1
      cases q1
    rw [fr_new (by rw [upd_ne c]; exact q1), upd_ne c]
    exact q2
  obtain ⟨ys, k1, k2, k3⟩ := lb.snoc (same_upd s0 h0) s4 nv
  rw [upd_same] at k1
  obtain rfl := HO.lst.inj (Option.some.inj k1)
  rw [upd_upd] at k3
  exact k3
theorem ixN_last (n : Nat) : ixN (n + 1) (-1) = some n := by
  unfold ixN
  rw [if_neg (by omega), if_pos (by omega)]
  congr 1
  omega
theorem set_last (xs : List V) (x y : V) : (xs ++ [x]).set xs.length y = xs ++ [y] := by
  rw [List.set_append_right _ _ (Nat.le_refl _), Nat.sub_self]
  rfl
theorem len_snoc (xs : List V) (x : V) : (xs ++ [x]).length = xs.length + 1 := by simp
theorem map_get {α : Type} {f : α → V} {l : List α} {i : Nat} {d : V} (h : (l.map f)[i]? = some d) : ∃ r, l[i]? = some r ∧ d = f r := by
  rw [List.getElem?_map] at h
  cases e : l[i]? with
  | none =>
    rw [e] at h
    cases h
  | some r =>
    rw [e] at h
    exact ⟨r, rfl, (Option.some.inj h).symm⟩
/-! ### small words -/
theorem bT {p : Prop} [Decidable p] (h : p) : V.bl (decide p) = V.bl true := congrArg V.bl (decide_eq_true h)
theorem bF {p : Prop} [Decidable p] (h : ¬ p) : V.bl (decide p) = V.bl false := congrArg V.bl (decide_eq_false h)
theorem itT {c A B : Prop} [Decidable c] (hc : c) (h : A) : if c then A else B := by
  rw [if_pos hc]
  exact h
theorem itF {c A B : Prop} [Decidable c] (hc : ¬ c) (h : B) : if c then A else B := by
  rw [if_neg hc]
  exact h
theorem for_enum {K : PySem.W.Frag} {a : Addr} {xs : List V} {g : TG} {tb : TS} {D : Ends} {σ : L2.St} {H : Hp} (Pv : Nat → L2.St → Hp → Prop) (h0 : Pv 0 σ H) (hl : ∀ i σ H, i ≤ xs.length → Pv i σ H → SqL K H a xs)
    (hs : ∀ i x t σ H, xs[i]? = some x → H t = none → Pv i σ H → g (.ref t) σ (upd H t (.tup [.int (i : Nat), x])) fun σ2 H2 => tb { D with nx := Pv (i + 1), ct := Pv (i + 1), bk := D.nx } σ2 H2) (hd : ∀ σ H, Pv xs.length σ H → D.nx σ H) :
    ∃ W : Nat → Nat → L2.St → Hp → Prop, (∃ m, W 0 m σ H) ∧ ∀ i m σ H, W i m σ H →
      ((Ite K a).stop i H ∧ D.nx σ H) ∨ ((Ite K a).go i H ∧ ∃ N : L2.St → Hp → Prop, (∀ σ' H', N σ' H' → ∃ m', m' < m ∧ W (i + 1) m' σ' H') ∧ ∀ x H', (Ite K a).yld i H x H' → g x σ H' fun σ2 H2 => tb { D with nx := N, ct := N, bk := D.nx } σ2 H2) := by
  refine ⟨fun i m σ H => m = xs.length - i ∧ i ≤ xs.length ∧ Pv i σ H, ⟨xs.length, by simp, Nat.zero_le _, h0⟩, ?_⟩
  rintro i m σ H ⟨rfl, hi, p⟩
  have q := hl i σ H hi p
  by_cases hlt : i < xs.length
  · refine .inr ⟨⟨xs, xs[i], q, by simp [hlt]⟩, Pv (i + 1), fun σ' H' p' => ⟨xs.length - (i + 1), by omega, rfl, hlt, p'⟩, fun x H' y => ?_⟩
    obtain ⟨t, z, rfl, nt, rfl, fz⟩ := y
    exact hs i z t σ H (fz xs q) nt p
  · have e : i = xs.length := by omega
    subst e
    exact .inl ⟨⟨xs, q, Nat.le_refl _⟩, hd σ H p⟩
theorem pe_gI {X : Cx} {x : Str} {pos : Pos} {i : Int} (hg : Gl X x) (h : ∃ t, X.mg x = some (.int i t)) (hdb : (x == ("__debug__" : Str)) = false := by decide) : PE X (.Name x pos) (tC (.int i)) := by
  obtain ⟨t, h⟩ := h
  exact pe_glob hg h ⟨_, rfl⟩ hdb
theorem seq_join {t u : TS} {D : Ends} {σ : L2.St} {H : Hp} (J : L2.St → Hp → Prop) (hu : ∀ σ' H', J σ' H' → u D σ' H') (ht : ∀ N : L2.St → Hp → Prop, (∀ σ' H', J σ' H' → N σ' H') → t { D with nx := N } σ H) : tSeq t u D σ H := ht _ hu
theorem ixN_at {n j : Nat} (hj : j < n) : ixN n (j : Int) = some j := by
  unfold ixN
  rw [if_pos (by omega), if_pos (by omega)]
  rfl
theorem LB.ints {H0 H : Hp} {o : Addr} {ns : List Int} (h : LB H0 H o (ns.map PyData.int)) : H o = some (.lst (ns.map V.int)) := by
  obtain ⟨h0, xs, h1, h2⟩ := h
  have e := dpAll_ints (K := []) h2.dp
  rw [e] at h1
  exact h1
/-- the state of the dice -/
def DiceOk (D : List Int) : Prop := 2 ≤ D.length ∧ D.length ≤ 100 ∧ ∀ x ∈ D, 0 ≤ x
/-! ### expressions that change nothing: what they are worth -/
theorem NewV.but {dd : Addr} {o : HO} {H H1 H2 : Hp} {v : V} {d : PyData} (h : NewV H H1 v d) (hd : H dd = some o) (e : SameBut dd H1 H2) : NewV H H2 v d := Dn.mono (fun b u q => by
  obtain ⟨q1, q2⟩ := fr_some q
  rw [fr_new q1]
  refine e b u (fun z => ?_) q2
  subst z
  rw [hd] at q1
  cases q1) h
theorem dpAll_take {K : PySem.W.Frag} {H : Hp} : ∀ (n : Nat) {vs : List V} {ds : List PyData}, DpAll K H vs ds → DpAll K H (vs.take n) (ds.take n)
  | 0, _, _, _ => .nil
  | _ + 1, _, _, .nil => .nil
  | n + 1, _, _, .cons h a => .cons h (dpAll_take n a)
theorem dpAll_drop {K : PySem.W.Frag} {H : Hp} : ∀ (n : Nat) {vs : List V} {ds : List PyData}, DpAll K H vs ds → DpAll K H (vs.drop n) (ds.drop n)
  | 0, _, _, h => h
  | _ + 1, _, _, .nil => .nil
  | n + 1, _, _, .cons _ a => dpAll_drop n a
theorem dpAll_rev {K : PySem.W.Frag} {H : Hp} : ∀ {vs : List V} {ds : List PyData}, DpAll K H vs ds → DpAll K H vs.reverse ds.reverse
  | _, _, .nil => .nil
  | _, _, .cons h a => by
    rw [List.reverse_cons, List.reverse_cons]
    exact dpAll_app (dpAll_rev a) (.cons h .nil)
theorem cut_to (xs : List V) (k : Nat) : cutV xs none (some (k : Int)) = xs.take k := by
  unfold cutV
  rw [HT.sIx_none, HT.sIx_nat, List.drop_zero, Nat.sub_zero]
  by_cases h : k ≤ xs.length
  · rw [Nat.min_eq_left h]
  · rw [Nat.min_eq_right (by omega), List.take_of_length_le (Nat.le_refl _), List.take_of_length_le (by omega)]
theorem cut_from (xs : List V) (k : Nat) : cutV xs (some (k : Int)) none = xs.drop k := by
  unfold cutV
  rw [HT.sIx_none, HT.sIx_nat]
  by_cases h : k ≤ xs.length
  · rw [Nat.min_eq_left h]
    exact List.take_of_length_le (by rw [List.length_drop]; exact Nat.le_refl _)
  · rw [Nat.min_eq_right (by omega), List.drop_of_length_le (Nat.le_refl _), List.drop_of_length_le (by omega)]
    simp
/-- in every heap over G the expression gives the data d, and leaves what stands -/
def Ev (K : PySem.W.Frag) (G : Hp) (σ : L2.St) (t : TE) (d : PyData) : Prop := ∀ (H : Hp) (Q : VK), Same G H → (∀ H' v, Same H H' → Dp K H' v d → Q v H') → t σ H Q
def EvB (K : PySem.W.Frag) (G : Hp) (σ : L2.St) (t : TT) (b : Bool) : Prop := ∀ (H : Hp) (Q : Bool → Hp → Prop), Same G H → (∀ H', Same H H' → Q b H') → t σ H Q
section
variable {K : PySem.W.Frag} {G : Hp} {σ : L2.St} {ta tb tc : TE} {tA tB' : TT} {d e : PyData}
theorem Ev.var {i : Nat} {v : V} (h : σ[i]? = some (some v)) (hd : Dp K G v d) : Ev K G σ (tVar i) d := fun H _ s k => ⟨v, h, k H v (Same.refl _) (same_dp s hd)⟩
theorem Ev.int (i : Int) : Ev K G σ (tC (.int i)) (.int i) := fun H _ _ k => k H _ (Same.refl _) (.int i)
theorem Ev.mono {G' : Hp} {t : TE} (h : Ev K G σ t d) (s : Same G G') : Ev K G' σ t d := fun H Q s' k => h H Q (s.trans s') k
theorem Ev.nil : Ev K G σ (tLst tNil) (.list []) := fun H _ _ k => ⟨Nat.zero_le _, fun p np => k _ _ (same_new np) (.lst (SqL.of upd_same) .nil)⟩
theorem Ev.take (k : Nat) {ds : List PyData} (h : Ev K G σ ta (.list ds)) : Ev K G σ (tSl (rSlL K) ta tNoPart (tPart (tC (.int (k : Int))))) (.list (ds.take k)) := fun H Q s c => h H _ s fun H1 v s1 hv => by
  obtain ⟨a, xs, rfl, hS, hA⟩ := dp_list hv
  refine ⟨(k : Int), rfl, a, xs, rfl, hS, fun p np => ?_⟩
  rw [cut_to]
  exact c _ _ (s1.trans (same_new np)) (.lst (SqL.of upd_same) (same_dpAll (same_new np) (dpAll_take k hA)))
theorem Ev.rev {ds : List PyData} (h : Ev K G σ ta (.list ds)) : Ev K G σ (tRevL K ta) (.list ds.reverse) := fun H Q s c => h H _ s fun H1 v s1 hv => by
  obtain ⟨a, xs, rfl, hS, hA⟩ := dp_list hv
  exact ⟨a, xs, rfl, hS, fun p np => c _ _ (s1.trans (same_new np)) (.lst (SqL.of upd_same) (same_dpAll (same_new np) (dpAll_rev hA)))⟩
theorem EvB.ne {n m : Nat} (ha : Ev K G σ ta d) (hb : Ev K G σ tb e) (sd : Sh n d) (se : Sh m e) (hn : n ≤ 64 := by decide) (hm : m ≤ 64 := by decide) : EvB K G σ (tTest (tOp (rNeD K) ta tb)) (!PyData.eqv d e) := fun H Q s k =>
  ha H _ s fun H1 v1 s1 d1 => hb H1 _ (s.trans s1) fun H2 v2 s2 d2 => ⟨d, e, same_dp s2 d1, d2, sd.shaped hn, se.shaped hm, _, rfl, k H2 (s1.trans s2)⟩
theorem EvB.eq {n m : Nat} (ha : Ev K G σ ta d) (hb : Ev K G σ tb e) (sd : Sh n d) (se : Sh m e) (hn : n ≤ 64 := by decide) (hm : m ≤ 64 := by decide) : Ev K G σ (tOp (rEqD K) ta tb) (.bool (PyData.eqv d e)) := fun H Q s k =>
  ha H _ s fun H1 v1 s1 d1 => hb H1 _ (s.trans s1) fun H2 v2 s2 d2 => ⟨d, e, same_dp s2 d1, d2, sd.shaped hn, se.shaped hm, k H2 _ (s1.trans s2) (.bl _)⟩
theorem EvB.or {a b : Bool} (ha : EvB K G σ tA a) (hb : EvB K G σ tB' b) : EvB K G σ (tOr tA tB') (a || b) := fun H Q s k =>
  ha H _ s fun H1 s1 => by
    cases a
    · exact iteF (hb H1 _ (s.trans s1) fun H2 s2 => k H2 (s1.trans s2))
    · exact iteT (k H1 s1)
theorem EvB.and {a b : Bool} (ha : EvB K G σ tA a) (hb : EvB K G σ tB' b) : EvB K G σ (tAnd tA tB') (a && b) := fun H Q s k =>
  ha H _ s fun H1 s1 => by
    cases a
    · exact iteF (k H1 s1)
    · exact iteT (hb H1 _ (s.trans s1) fun H2 s2 => k H2 (s1.trans s2))
theorem EvB.not {a : Bool} (ha : EvB K G σ tA a) : EvB K G σ (tNot tA) (!a) := fun H _ s k => ha H _ s fun H1 s1 => k H1 s1
theorem EvB.val {a : Bool} {t : TE} (h : Ev K G σ t (.bool a)) : EvB K G σ (L2.tB t) a := fun H _ s k => h H _ s fun H1 v s1 hv => ⟨a, dp_bool hv, k H1 s1⟩
/-- an if whose test is false -/
theorem EvB.pass {t1 : TS} {D : Ends} {H : Hp} (h : EvB K G σ tA false) (s : Same G H) (k : ∀ H', Same H H' → D.nx σ H') : tIfS tA t1 tNext D σ H := h H _ s fun H' s' => iteF (k H' s')
end
theorem list_map {α : Type} (l : List α) (g : α → PyData) : (List.range l.length).filterMap (fun (i : Nat) => (l[i]?).bind fun k => some (g k)) = l.map g := by
  have h : ∀ m, m ≤ l.length → (List.range m).filterMap (fun (i : Nat) => (l[i]?).bind fun k => some (g k)) = (l.take m).map g := by
    intro m
    induction m with
    | zero => intro _; rfl
    | succ m ih =>
      intro hm
      have hlt : m < l.length := hm
      have e : l[m]? = some l[m] := List.getElem?_eq_getElem hlt
      rw [List.range_succ, List.filterMap_append, ih (Nat.le_of_succ_le hm), List.take_add_one, e, List.map_append]
      congr 1
      rw [List.filterMap_cons, e]
      rfl
  rw [h _ (Nat.le_refl _), List.take_length]
theorem yesT {σ : L2.St} {H : Hp} {A B : Hp → Prop} (h : A H) : tYes σ H fun b H3 => if b = true then A H3 else B H3 := by
  show if true = true then A H else B H
  rw [if_pos rfl]
  exact h
/-! ### defs -/
section
variable {P : Program} {w : World} {K : PySem.W.Frag} {mg : Str → Option Value} {base : Heap}
/-- a def of the program's top: what stands under its name -/
structure Df (K : PySem.W.Frag) (mg : Str → Option Value) (x : Str) (st : Stmt) (ps : List Str) : Prop where
  ex : ∃ (f : Addr) (fd : FuncData), Fun K x x st f fd ∧ mg x = some (.ref f) ∧ Binds K fd ps []
/-- a def that keeps a promise, called by its name -/
structure Cl (P : Program) (w : World) (K : PySem.W.Frag) (mg : Str → Option Value) (base : Heap) (k : Nat) (x : Str) (sp : Sp) : Prop where
  ex : ∃ (f : Addr) (fd : FuncData) (ps : List Str), FnOk P w K mg base CX0 k f fd ps sp ∧ mg x = some (.ref f) ∧ PySem.W.keepIn K (.ref f) = true ∧ Binds K fd ps []
theorem Df.cl {x : Str} {st : Stmt} {N ps : List Str} {k : Nat} {sp : Sp} (F : Df K mg x st ps) (S : FnScope N ps (defScope st)) (len : ∀ vs H Q E, sp vs H Q E → vs.length = ps.length)
    (hbody : ∀ (f : Addr) (cdv : Value) (A : Around) (outer : List Env) (s : Shared) (H : Hp) (vs : List V) (Q : VK) (E : XK), Room k (A.deeper (envOfC x (defScope st) s.heap.objs.size f cdv)) → sp vs H Q E →
      ∃ t, PSs (cxOf CX0 P w K mg base N x (defScope st) f cdv A outer s H E).nox (defBody st) t ∧ t { nx := fun _ H' => Q .non H', rt := Q } (start N vs) H) : Cl P w K mg base (k + 1) x sp := by
  obtain ⟨f, fd, F0, g, b⟩ := F.ex
  exact ⟨f, fd, ps, F0.ok S len (fun cdv A outer s H vs Q E hr h => hbody f cdv A outer s H vs Q E hr h), g, F0.kp, b⟩
theorem Cl.imp {x : Str} {k : Nat} {sp sp' : Sp} (c : Cl P w K mg base k x sp) (h : ∀ vs H Q E, sp' vs H Q E → sp vs H Q E) : Cl P w K mg base k x sp' := by
  obtain ⟨f, fd, ps, F, a, b, d⟩ := c.ex
  exact ⟨f, fd, ps, F.imp h, a, b, d⟩
end
section
variable {X : Cx} {k j : Nat} {x : Str} {sp : Sp} {p pos : Pos} {e : Expr} {es : List Expr} {t : TA}
theorem pe_k (c : Cl X.prog X.w X.K X.mg X.base k x sp) (hr : Room j X.A) (ha : PA X (e :: es) t) (hk : k ≤ j := by decide) (hg : Gl X x := by rfl)
    (hdb : (x == ("__debug__" : Str)) = false := by decide) (he : starEach (e :: es) X.env = (false, eval e X.env) :: starEach es X.env := by rfl) (hpl : (backTo pos (starEach es X.env)).any (·.1) = false := by rfl) :
    PE X (.Call (.Name x p) (e :: es) [] pos) (tCall sp [] E0 t) := by
  obtain ⟨f, fd, ps, F, hm, kp, b⟩ := c.ex
  exact pe_call F (hr.mono hk) hg hm kp b .nil pass0 ha hdb he hpl
end
end Sg
/-! Signsets: more about data: heaps without the dice, parts of what was told, membership. -/
namespace Sg
open PySem PySem.Spec PyProof.Rows L2

/-! ### rising lists -/
theorem rising_ext : ∀ {a b : List Int}, a.Pairwise (· < ·) → b.Pairwise (· < ·) → (∀ k, k ∈ a ↔ k ∈ b) → a = b
  | [], [], _, _, _ => rfl
  | [], y :: b, _, _, h => absurd ((h y).mpr (by simp)) (by simp)
  | x :: a, [], _, _, h => absurd ((h x).mp (by simp)) (by simp)
  | x :: a, y :: b, ha, hb, h => by
    rw [List.pairwise_cons] at ha hb
    have e : x = y := by
      rcases List.mem_cons.mp ((h x).mp (by simp)) with q | q
      · exact q
      · rcases List.mem_cons.mp ((h y).mpr (by simp)) with r | r
        · exact r.symm
        · have h1 := hb.1 x q
          have h2 := ha.1 y r
          omega
    subst e
    rw [rising_ext ha.2 hb.2 fun k => ⟨fun m => ?_, fun m => ?_⟩]
    · rcases List.mem_cons.mp ((h k).mp (List.mem_cons_of_mem _ m)) with q | q
      · have := ha.1 k m
        omega
      · exact q
    · rcases List.mem_cons.mp ((h k).mpr (List.mem_cons_of_mem _ m)) with q | q
      · have := hb.1 k m
        omega
      · exact q
theorem sep_two {R : List (Int × Int)} (h : R.Pairwise fun a b => a.2 + 1 < b.1) {r q : Int × Int} (hr : r ∈ R) (hq : q ∈ R) : r = q ∨ r.2 + 1 < q.1 ∨ q.2 + 1 < r.1 := by
  obtain ⟨i, hi, rfl⟩ := List.getElem_of_mem hr
  obtain ⟨j, hj, rfl⟩ := List.getElem_of_mem hq
  rw [List.pairwise_iff_getElem] at h
  rcases Nat.lt_trichotomy i j with c | c | c
  · exact .inr (.inl (h i j hi hj c))
  · subst c
    exact .inl rfl
  · exact .inr (.inr (h j i hj hi c))
theorem told_firsts {ns : List Int} (h : ns.Pairwise (· < ·)) : (told ns).map (·.1) = ns.filter fun k => !decide (k - 1 ∈ ns) := by
  have t := told_ti h
  refine rising_ext ?_ (h.filter _) fun k => ?_
  · rw [List.pairwise_map]
    refine List.Pairwise.imp_of_mem (fun {a b} ha hb c => ?_) t.sep
    have := t.le a ha
    omega
  · rw [List.mem_map, List.mem_filter, Bool.not_eq_true', decide_eq_false_iff_not, ← t.has k, ← t.has (k - 1), has_iff, has_iff]
    constructor
    · rintro ⟨r, hr, rfl⟩
      refine ⟨⟨r, hr, Int.le_refl _, t.le r hr⟩, ?_⟩
      rintro ⟨q, hq, h1, h2⟩
      rcases sep_two t.sep hr hq with e | e | e
      · rw [← e] at h1
        omega
      · have := t.le r hr
        omega
      · omega
    · rintro ⟨⟨r, hr, h1, h2⟩, h3⟩
      refine ⟨r, hr, ?_⟩
      by_cases c : r.1 = k
      · exact c
      · exact absurd ⟨r, hr, by omega, by omega⟩ h3
theorem told_lasts {ns : List Int} (h : ns.Pairwise (· < ·)) : (told ns).map (·.2) = ns.filter fun k => !decide (k + 1 ∈ ns) := by
  have t := told_ti h
  refine rising_ext ?_ (h.filter _) fun k => ?_
  · rw [List.pairwise_map]
    refine List.Pairwise.imp_of_mem (fun {a b} ha hb c => ?_) t.sep
    have := t.le b hb
    omega
  · rw [List.mem_map, List.mem_filter, Bool.not_eq_true', decide_eq_false_iff_not, ← t.has k, ← t.has (k + 1), has_iff, has_iff]
    constructor
    · rintro ⟨r, hr, rfl⟩
      refine ⟨⟨r, hr, t.le r hr, Int.le_refl _⟩, ?_⟩
      rintro ⟨q, hq, h1, h2⟩
      rcases sep_two t.sep hr hq with e | e | e
      · rw [← e] at h2
        omega
      · omega
      · have := t.le r hr
        omega
    · rintro ⟨⟨r, hr, h1, h2⟩, h3⟩
      refine ⟨r, hr, ?_⟩
      by_cases c : r.2 = k
      · exact c
      · exact absurd ⟨r, hr, by omega, by omega⟩ h3

/-! ### no list of fewer ranges has the same signs -/
theorem nodup_len : ∀ {a b : List Int}, a.Nodup → (∀ x ∈ a, x ∈ b) → a.length ≤ b.length
  | [], b, _, _ => Nat.zero_le _
  | x :: a, b, hn, hs => by
    rw [List.nodup_cons] at hn
    have hx : x ∈ b := hs x (by simp)
    have ih := nodup_len (b := b.erase x) hn.2 fun y hy => (List.mem_erase_of_ne fun z => hn.1 (by rw [← z]; exact hy)).mpr (hs y (List.mem_cons_of_mem _ hy))
    rw [List.length_erase_of_mem hx] at ih
    have : 0 < b.length := List.length_pos_of_mem hx
    rw [List.length_cons]
    omega
theorem told_first_mem {ns : List Int} (h : ns.Pairwise (· < ·)) {r : Int × Int} (hr : r ∈ told ns) : r.1 ∈ ns ∧ r.1 - 1 ∉ ns := by
  have m : r.1 ∈ (told ns).map (·.1) := List.mem_map.mpr ⟨r, hr, rfl⟩
  rw [told_firsts h, List.mem_filter, Bool.not_eq_true', decide_eq_false_iff_not] at m
  exact m
theorem told_fewest {ns : List Int} (h : ns.Pairwise (· < ·)) {O : List (Int × Int)} (hO : ∀ k, k ∈ ns ↔ has O k = true) : (told ns).length ≤ O.length := by
  have t := told_ti h
  have e := nodup_len (a := (told ns).map (·.1)) (b := O.map (·.1)) ?_ ?_
  · rw [List.length_map, List.length_map] at e
    exact e
  · rw [told_firsts h]
    exact (h.filter _).imp fun {a b} c => by omega
  · intro x hx
    obtain ⟨r, hr, rfl⟩ := List.mem_map.mp hx
    obtain ⟨m1, m2⟩ := told_first_mem h hr
    obtain ⟨o, ho, h1, h2⟩ := has_iff.mp ((hO _).mp m1)
    refine List.mem_map.mpr ⟨o, ho, ?_⟩
    by_cases c : o.1 = r.1
    · exact c
    · exact absurd ((hO _).mpr (has_iff.mpr ⟨o, ho, by omega, by omega⟩)) m2

/-! ### membership -/
theorem inV_ints (k : Int) : ∀ ns : List Int, inV (.int k) (ns.map V.int) = decide (k ∈ ns)
  | [] => rfl
  | n :: ns => by
    have ih := inV_ints k ns
    unfold inV at ih ⊢
    rw [List.map_cons, List.any_cons, ih]
    have e : eqV (.int n) (.int k) = decide (n = k) := by
      show (n == k) = _
      by_cases h : n = k <;> simp [h]
    rw [e]
    by_cases h : n = k
    · simp [h]
    · by_cases h2 : k ∈ ns
      · simp [h2]
      · simp [h, h2]
        exact fun z => h z.symm
theorem flat_ints (ns : List Int) : (ns.map V.int).all flatV = true := by
  rw [List.all_eq_true]
  intro x hx
  obtain ⟨n, _, rfl⟩ := List.mem_map.mp hx
  rfl
theorem dpAll_bools {K : PySem.W.Frag} {H : Hp} : ∀ {vs : List V} {bs : List Bool}, DpAll K H vs (bs.map PyData.bool) → vs = bs.map V.bl
  | _, [], .nil => rfl
  | _, n :: ns, .cons h a => by
    rw [dp_bool h, dpAll_bools a]
    rfl
theorem rIx_of {K : PySem.W.Frag} {H : Hp} {Q : VK} {a : Addr} {xs : List V} {i : Nat} {v : V} (hq : SqL K H a xs ∨ SqT K H a xs) (hi : xs[i]? = some v) (q : Q v H) : rIx K (.ref a) (.int (i : Int)) H Q := by
  rcases hq with h | h
  · exact .inl ⟨a, xs, i, v, rfl, rfl, h, atI_nat hi, q⟩
  · exact .inr (.inl ⟨a, xs, i, v, rfl, rfl, h, atI_nat hi, q⟩)

/-! ### heaps without one address -/
theorem sb_same {d : Addr} {H H' : Hp} (e : SameBut d H H') : Same (del H d) (del H' d) := fun b o h => by
  by_cases c : b = d
  · subst c
    rw [del_self] at h
    cases h
  · rw [del_ne c] at h ⊢
    exact e b o c h
theorem NewV.del {d : Addr} {o : HO} {H H' : Hp} {v : V} {e : PyData} (h : NewV H H' v e) (hd : H d = some o) : NewV (del H d) (Sg.del H' d) v e := Dn.mono (fun b u q => by
  obtain ⟨q1, q2⟩ := fr_some q
  have c : b ≠ d := fun z => by
    subst z
    rw [hd] at q1
    cases q1
  rw [fr_new (by rw [del_ne c]; exact q1), del_ne c]
  exact q2) h
theorem NewV.undel {d : Addr} {H H' : Hp} {v : V} {e : PyData} (h : NewV (Sg.del H d) (Sg.del H' d) v e) : NewV H H' v e := Dn.mono (fun b u q => by
  obtain ⟨q1, q2⟩ := fr_some q
  by_cases c : b = d
  · subst c
    rw [del_self] at q2
    cases q2
  · rw [del_ne c] at q1 q2
    rw [fr_new q1]
    exact q2) h
theorem del_upd {d o : Addr} {x : HO} {H : Hp} (n : o ≠ d) : del (upd H o x) d = upd (del H d) o x := by
  funext b
  by_cases c : b = d
  · subst c
    rw [del_self, upd_ne n.symm, del_self]
  · rw [del_ne c]
    by_cases c2 : b = o
    · subst c2
      rw [upd_same, upd_same]
    · rw [upd_ne c2, upd_ne c2, del_ne c]
theorem del_upd_self {d : Addr} {x : HO} {H : Hp} : del (upd H d x) d = del H d := by
  funext b
  by_cases c : b = d
  · subst c
    rw [del_self, del_self]
  · rw [del_ne c, del_ne c, upd_ne c]

theorem LB.mk {H0 H : Hp} {o : Addr} {xs : List V} {ds : List PyData} (s : Same H0 H) (no : H o = none) (ha : DnAll (fr H0 H) xs ds) : LB H0 (upd H o (.lst xs)) o ds := by
  refine ⟨s.free no, xs, upd_same, ha.mono fun b u q => ?_⟩
  obtain ⟨q1, q2⟩ := fr_some q
  have c : b ≠ o := ne_of_none q2 no
  rw [del_ne c, fr_new q1, upd_ne c]
  exact q2
theorem LB.push {H0 H : Hp} {o : Addr} {ds : List PyData} {y : V} {e : PyData} (h : LB H0 H o ds) (hy : Dn (del (fr H0 H) o) y e) : ∃ xs, H o = some (.lst xs) ∧ xs.length = ds.length ∧ LB H0 (upd H o (.lst (xs ++ [y]))) o (ds ++ [e]) := by
  obtain ⟨h0, xs, h1, h2⟩ := h
  have up : Same (del (fr H0 H) o) (del (fr H0 (upd H o (.lst (xs ++ [y])))) o) := fun b u q => by
    by_cases c : b = o
    · subst c
      rw [del_self] at q
      cases q
    · rw [del_ne c] at q ⊢
      obtain ⟨q1, q2⟩ := fr_some q
      rw [fr_new q1, upd_ne c]
      exact q2
  exact ⟨xs, h1, h2.len, h0, xs ++ [y], upd_same, DnAll.snoc (h2.mono up) (Dn.mono up hy)⟩
theorem dec_allIn {n : Nat} {R : List (Int × Int)} (hk : Ok n R) (k : Int) : decide (k ∈ allIn n R) = has R k := by
  cases e : has R k
  · exact decide_eq_false fun z => by rw [(mem_allIn hk).mp z] at e; cases e
  · exact decide_eq_true ((mem_allIn hk).mpr e)

/-! ### the parts of what was told -/
mutual
theorem Dn.func {F : Hp} : ∀ {d e : PyData} {v : V}, Dn F v d → Dn F v e → d = e
  | .none, _, _, .non, h => by cases h; rfl
  | .bool b, _, _, .bl _, h => by cases h; rfl
  | .int i, _, _, .int _, h => by cases h; rfl
  | .str x, _, _, .str _, h => by cases h; rfl
  | .list ds, _, _, .lst h a, h2 => by
    cases h2 with
    | lst h' a' =>
      rw [h] at h'
      cases h'
      rw [DnAll.func a a']
    | tup h' a' =>
      rw [h] at h'
      cases h'
  | .tuple ds, _, _, .tup h a, h2 => by
    cases h2 with
    | tup h' a' =>
      rw [h] at h'
      cases h'
      rw [DnAll.func a a']
    | lst h' a' =>
      rw [h] at h'
      cases h'
theorem DnAll.func {F : Hp} : ∀ {ds es : List PyData} {vs : List V}, DnAll F vs ds → DnAll F vs es → ds = es
  | [], _, _, .nil, h => by cases h; rfl
  | d :: ds, _, _, .cons h a, h2 => by
    cases h2 with
    | cons h' a' => rw [Dn.func h h', DnAll.func a a']
end
theorem part_ne {F : Hp} {f p : Addr} {ps xs : List V} {ds : List PyData} (hf : F f = some (.lst ps)) (ha : DnAll F ps ds) (hm : V.ref p ∈ ps) : p ≠ f := fun z => by
  subst z
  obtain ⟨i, hi⟩ := List.getElem?_of_mem hm
  obtain ⟨d, hd, hn⟩ := ha.get hi
  have e := Dn.func (.lst hf ha) hn
  have h1 := List.sizeOf_lt_of_mem (List.mem_of_getElem? hd)
  rw [← e] at h1
  simp at h1
  omega
/-- lists that are new over G, to be made longer -/
def Parts (G H : Hp) (ps : List V) (b : Nat) : Prop := ∀ v ∈ ps, ∃ p xs, v = .ref p ∧ G p = none ∧ H p = some (.lst xs) ∧ xs.length ≤ b
theorem Parts.same {G H H' : Hp} {ps : List V} {b : Nat} (h : Parts G H ps b) (s : Same H H') : Parts G H' ps b := fun v hv => by
  obtain ⟨p, xs, h1, h2, h3, h4⟩ := h v hv
  exact ⟨p, xs, h1, h2, s _ _ h3, h4⟩
theorem Parts.push {G H : Hp} {ps : List V} {b : Nat} {p : Addr} {xs : List V} {y : V} (h : Parts G H ps b) (hl : xs.length ≤ b) : Parts G (upd H p (.lst (xs ++ [y]))) ps (b + 1) := fun v hv => by
  obtain ⟨q, ys, h1, h2, h3, h4⟩ := h v hv
  by_cases c : q = p
  · subst c
    exact ⟨q, _, h1, h2, upd_same, by rw [List.length_append]; simp; omega⟩
  · exact ⟨q, ys, h1, h2, by rw [upd_ne c]; exact h3, by omega⟩
theorem Parts.of {G H : Hp} {ps : List V} {ds : List PyData} {b : Nat} (ha : DnAll (fr G H) ps ds) (hd : ∀ d ∈ ds, ∃ es, d = .list es ∧ es.length ≤ b) : Parts G H ps b := fun v hv => by
  obtain ⟨i, hi⟩ := List.getElem?_of_mem hv
  obtain ⟨d, hd', hn⟩ := ha.get hi
  obtain ⟨es, rfl, hl⟩ := hd d (List.mem_of_getElem? hd')
  cases hn with
  | lst h a =>
    obtain ⟨q1, q2⟩ := fr_some h
    exact ⟨_, _, rfl, q1, q2, by rw [a.len]; exact hl⟩
end Sg
/-! Signsets: isinstance over data; what _law_alike looks at. -/
namespace Sg
open PySem PySem.Spec PyProof.Rows L2
def tyN : PyData → String
  | .none => "NoneType"
  | .bool _ => "bool"
  | .int _ => "int"
  | .str _ => "str"
  | .list _ => "list"
  | .tuple _ => "tuple"
  | .dict _ => "dict"
def isN (n t : String) : Bool := t == n || (n == "int" && t == "bool")
/-- isinstance of data with a built-in class -/
def isT (n : String) (d : PyData) : Bool := isN n (tyN d)
theorem kitN : ∀ t ∈ ["NoneType", "bool", "int", "str", "list", "tuple"], ∀ n ∈ ["bool", "int", "str", "tuple", "list"], kitB t n = some (isN n t) := by decide +kernel
theorem dp_ty {K : PySem.W.Frag} {H : Hp} {v : V} {d : PyData} (h : Dp K H v d) : TyX K H v (.type (tyN d)) := by
  cases h with
  | non => exact .base .non
  | bl b => exact .base (.bl b)
  | int i => exact .base (.int i)
  | str x => exact .base (.str x)
  | lst h _ =>
    rcases h with (h | ⟨o, h⟩) | ⟨o, its, n, h, c, _⟩
    · exact .base (.lst h)
    · exact .base (.frz h)
    · exact .kList h c
  | tup h _ =>
    rcases h with (h | ⟨o, h⟩) | ⟨o, its, n, h, c, _⟩
    · exact .base (.tup h)
    · exact .fTuple h
    · exact .kTuple h c
def rIsD (K : PySem.W.Frag) : List V → Hp → VK → Prop := fun xs H Q => ∃ (x : V) (n : String) (d : PyData), xs = [x, .ty n] ∧ n ∈ ["bool", "int", "str", "tuple", "list"] ∧ Dp K H x d ∧ Q (.bl (isT n d)) H
theorem isD {X : Cx} (K : PySem.W.Frag) (h : X.K = K := by rfl) : CallR X (.builtin "isinstance") (rIsD K) := by
  subst h
  intro pins s σ H xs us Q I r h
  obtain ⟨x, n, d, rfl, hn, hd, q⟩ := h
  refine call_isi pins s σ H _ us Q I r ⟨x, .ty n, .type (tyN d), .type n, isT n d, rfl, .ty n, dp_ty hd, ?_, q⟩
  refine kit_ty (kitN _ ?_ n hn)
  cases d with
  | dict kvs => cases hd
  | none => simp [tyN]
  | bool b => simp [tyN]
  | int i => simp [tyN]
  | str x => simp [tyN]
  | list ds => simp [tyN]
  | tuple ds => simp [tyN]
theorem isT_bool {d : PyData} (h : isT "bool" d = true) : ∃ b, d = .bool b := by
  cases d <;> simp [isT, isN, tyN] at h
  exact ⟨_, rfl⟩
theorem isT_int {d : PyData} (h : isT "int" d = true) (h2 : ¬ isT "bool" d = true) : ∃ b, d = .int b := by
  cases d <;> simp [isT, isN, tyN] at h h2
  exact ⟨_, rfl⟩
theorem isT_str {d : PyData} (h : isT "str" d = true) : ∃ b, d = .str b := by
  cases d <;> simp [isT, isN, tyN] at h
  exact ⟨_, rfl⟩
theorem ixQ {X : Cx} (K : PySem.W.Frag) (h : X.K = K := by rfl) : IxR X (rIx K) := by subst h; exact ix_seq
/-- data of at most n storeys, its lists of at most 100,000 items -/
def Al : Nat → PyData → Prop
  | _, .none => True
  | _, .bool _ => True
  | _, .int _ => True
  | _, .str _ => True
  | n + 1, .list ds => ds.length ≤ 100000 ∧ ∀ d ∈ ds, Al n d
  | n + 1, .tuple ds => ds.length ≤ 100000 ∧ ∀ d ∈ ds, Al n d
  | _, _ => False
theorem Al.int {n : Nat} (i : Int) : Al n (.int i) := by cases n <;> trivial
theorem Al.bool {n : Nat} (i : Bool) : Al n (.bool i) := by cases n <;> trivial
theorem Al.str {n : Nat} (i : Str) : Al n (.str i) := by cases n <;> trivial
theorem Al.eP {n : Nat} (r : Int × Int) : Al (n + 1) (eP r) := ⟨by simp, fun d hd => by
  simp at hd
  rcases hd with rfl | rfl <;> exact Al.int _⟩
theorem Al.eI {n : Nat} {ns : List Int} (h : ns.length ≤ 100000) : Al (n + 1) (eI ns) := ⟨by rw [List.length_map]; exact h, fun d hd => by
  obtain ⟨r, _, rfl⟩ := List.mem_map.mp hd
  exact Al.int r⟩
theorem Al.eR {n : Nat} {R : List (Int × Int)} (h : R.length ≤ 100000) : Al (n + 2) (eR R) := ⟨by rw [List.length_map]; exact h, fun d hd => by
  obtain ⟨r, _, rfl⟩ := List.mem_map.mp hd
  exact Al.eP r⟩
end Sg
/-! Signsets: set(xs) of a list of ints, sorted(s) of such a set of any size: rules of our own. -/
namespace Sg
open PySem PySem.Spec PyProof.Rows L2
section
variable {P : Program} {w : World} {A : Around} {E : Value → Shared → Prop} {s : Shared}
abbrev newSet (w : World) : Obj := { cls := .type "set", dict := none, data := .set #[] 0 (.fresh 0 0 (!w.params.followText "set-order")) }
/-- set(l), l a list of ints -/
theorem setOf_list {l : Addr} {items : Array Value} (ns : List Int) {Q : Value → Shared → Prop} (hh : A.handled = none) (hl : s.heap.IsList l items) (hit : IntsAre items.toList ns) (hb : ns.length + 1 < scanBound)
    (h : ∀ (h' : Heap) (tk c : Nat), SetR w h' s.heap.objs.size (fun j => decide (j ∈ ns)) c → c ≤ ns.length → (∀ b o, s.heap.get? b = some o → h'.get? b = some o) → Q (.ref s.heap.objs.size) { s with heap := h', toks := tk }) :
    wpAny (model P w) A (call (.type "set") [.ref l]) Q E s := by
  have hisz : items.size = ns.length := by
    have q := IntsAre.length hit
    rw [Array.length_toList] at q
    exact q
  obtain ⟨c, tl, hmro⟩ := PySem.F.called_set.mro
  have hmade := PySem.F.called_set.made
  have hsub := PySem.F.called_set.sub
  refine wpAny_call (codeAny_of_tree ?_)
  show wpAny _ _ (callAny (.type "set") _) _ _ _
  refine wpAny_pure ⟨Code.quiet_builtin _ (by decide +kernel), codeAny_builtin PySem.F.entry_type_call ?_⟩
  rw [Around.under_plain (weight_type_call_type "set" [.ref l] []) rfl]
  have h1 := PySem.F.called_set.notType
  have h2 := PySem.F.called_set.canCreate
  have hct := PySem.F.typeCall_set_1 (.ref l)
  repeat (any_goals (first | assumption | wp_step))
  refine codeAny_mono (code_set_led1 (.ref l) (E := E) (Q₁ := fun obj s₁ => obj = .ref s.heap.objs.size ∧ s₁ = { s with heap := s.heap.push (newSet w) }) ⟨rfl, rfl⟩) fun r s₁ hr => ?_
  cases r with
  | error e => exact hr
  | ok fl =>
    cases fl with
    | ret obj =>
      obtain ⟨rfl, rfl⟩ := hr
      have hS : (s.heap.push (newSet w)).get? s.heap.objs.size = some (newSet w) := Heap.get?_push_size _ rfl
      have hT : Shared.TypeIs { s with heap := s.heap.push (newSet w) } (.ref s.heap.objs.size) "set" := ⟨_, hS, rfl⟩
      have hli := PySem.F.called_set.init.lookup
      have hbi := PySem.F.called_set.init.bind (.ref s.heap.objs.size)
      repeat (any_goals (first | assumption | wp_step))
      refine codeAny_mono (codeAny_call_builtin (R := wants (fun r s₂ => r = .none ∧ ∃ h' tk c, s₂ = { s with heap := h', toks := tk } ∧ SetR w h' s.heap.objs.size (fun j => decide (j ∈ ns)) c ∧ c ≤ ns.length ∧
          (∀ b o, s.heap.get? b = some o → h'.get? b = some o)) E) PySem.F.called_set.init.plain PySem.F.entry_set_init (check_set_init_1 hT ?_)) fun r₂ s₂ hr₂ => ?_
      · obtain ⟨ol, hol, hcl, nl, hdl⟩ := hl
        obtain ⟨ocls, odict, odata, oslots⟩ := ol
        simp only at hcl hdl
        subst hcl; subst hdl
        have hol' : (s.heap.push (newSet w)).get? l = some { cls := .type "list", dict := odict, data := .seq items nl, slots := oslots } := Heap.get?_push_of_some _ hol
        have hsls := PySem.F.sub_list_set
        have hslf := PySem.F.sub_list_frozenset
        have hne : (Value.type "list" == Value.type "dict") = false := by decide
        have hl1 : (s.heap.push (newSet w)).IsList l items := ⟨_, hol', rfl, nl, rfl⟩
        unfold Builtin.«set.__init__» noKeywords Builtin.Frozenset.updateFrom
        generalize hPI : pyIter = PI
        wp_walk
        subst hPI
        refine wpAny_pyIter_list hl1 ?_
        refine wpAny_bind (wpAny_runValue ?_)
        have hlS : l < s.heap.objs.size := Heap.lt_size hol
        have hh3 : A.in1.in1.in1.handled = none := by simp [hh]
        have hz : (s.heap.push (newSet w)).objs.size = s.heap.objs.size + 1 := Heap.size_push ..
        have hneI : l ≠ (s.heap.push (newSet w)).objs.size := by
          rw [hz]
          exact Nat.ne_of_lt (Nat.lt_succ_of_lt hlS)
        have hSf : s.heap.objs.size ∉ [(s.heap.push (newSet w)).objs.size, l] := by
          rw [hz]
          intro m
          rcases List.mem_cons.mp m with e | m
          · exact absurd e (Nat.ne_of_lt (Nat.lt_succ_self _))
          · exact absurd (List.mem_singleton.mp m) (Nat.ne_of_gt hlS)
        have hval : ∀ (i : Nat) (v : Value), items[i]? = some v → ∃ k t, ns[i]? = some k ∧ v = .int k t := fun i v hv => by
          have hi : i < ns.length := by rw [← hisz]; exact (Array.getElem?_eq_some_iff.mp hv).1
          obtain ⟨t, e⟩ := PyProof.Rows.IntsAre.int_at hit i v (by rw [Array.getElem?_toList]; exact hv)
          refine ⟨ns[i], t, List.getElem?_eq_getElem hi, ?_⟩
          rw [e, List.getD_eq_getElem?_getD, List.getElem?_eq_getElem hi] <;> rfl
        refine set_update_ints ((Walks.list hh3 _ l hneI items).toS) s.heap.objs.size hSf ns hisz hb hval (items.size - 0) 0 _ (by omega) (Nat.zero_le _)
          ⟨⟨_, Heap.get?_push_size _ rfl, rfl, rfl⟩, (hl1.push _)⟩ ?hS0 ?hR
        case hS0 => exact ⟨0, Nat.le_refl 0, setR_new_at (Heap.get?_push_of_some _ hS)⟩
        case hR =>
          intro s' c' hm hc' hS'
          obtain ⟨h', g2, d', tk', os'⟩ := s'
          have eg : g2 = s.gens := hm.gens
          have ed : d' = s.drawn := hm.drawn
          have eo : os' = s.os := hm.os
          subst eg; subst ed; subst eo
          show wpAny _ _ _ _ _ _
          refine wpAny_pure ?_
          show wpAny _ _ (ret Value.none) _ _ _
          rw [hisz] at hc'
          refine wpAny_pure ⟨rfl, h', tk', c', rfl, hS', hc', fun b o e => ?_⟩
          have hb0 : b < s.heap.objs.size := Heap.lt_size e
          refine hm.heap b o (fun m => ?_) (Heap.get?_push_of_some _ (Heap.get?_push_of_some _ e))
          rcases List.mem_cons.mp m with z | m
          · exact absurd z (Nat.ne_of_lt hb0)
          · have z := List.mem_singleton.mp m
            rw [hz] at z
            exact absurd z (Nat.ne_of_lt (Nat.lt_succ_of_lt hb0))
      · cases r₂ with
        | error e => exact hr₂
        | ok fl₂ =>
          cases fl₂ with
          | ret r =>
            obtain ⟨rfl, h', tk, c', rfl, hS', hc', hk'⟩ := hr₂
            repeat (any_goals (first | assumption | wp_step))
            exact h _ _ _ hS' hc' hk'
          | _ => exact hr₂.elim
    | _ => exact hr.elim
/-- sorted(a), a a set of ints of any size -/
theorem sorted_any {a : Addr} {S : Int → Bool} {n : Nat} {Q : Value → Shared → Prop} (R : SetR w s.heap a S n) (hh : A.handled = none)
    (hQ : ∀ s' p (out : List Value) (c : Nat) (ns : List Int), (∀ b o, s.heap.get? b = some o → s'.heap.get? b = some o) → s'.gens = s.gens → s'.os = s.os → s.heap.objs.size ≤ p →
      s'.heap.get? p = some (seqObj "list" out.toArray c) → IntsAre out ns → ns.Pairwise (· < ·) → (∀ k, k ∈ ns ↔ S k = true) → ns.length = n → Q (.ref p) s') :
    wpAny (model P w) A (call (.builtin "sorted") [.ref a]) Q E s := by
  obtain ⟨o, es, ep, t, ho, hex, hd, g, nd, hm, hb, hf, hn, hr, hl⟩ := R
  refine Calls.call_function_entry kind_sorted plain_sorted entry_sorted (args_sorted1 _) ?_
  unfold Builtin.«sorted»
  refine wpAny_bind (m := checkCount "sorted" 1 1 _) (wpAny_pure ?_)
  refine wpAny_bind (collect_set (A := A.in1) hh ⟨o, ho, hex.1, hd⟩ hf hb hr hl fun s1 vs k1 hz g1 o1 pm => ?_)
  have hvl : vs.length = n := by rw [pm.length_eq, List.length_map, Array.length_toList]; exact hn
  have hI : IntsAre vs (vs.map Builtin.Re.reRawOf) := ints_of vs fun v hv => by
    obtain ⟨e, he, q⟩ := List.mem_map.mp (pm.mem_iff.mp hv)
    obtain ⟨k, tk, h1, _⟩ := g e he
    exact ⟨k, tk, by rw [← q]; exact h1⟩
  have pk : (vs.map Builtin.Re.reRawOf).Perm (es.toList.map keyOf) := by
    have q := pm.map Builtin.Re.reRawOf
    rw [List.map_map] at q
    exact q
  have hzz : vs.length ≤ sizeLine := by
    rw [hvl, ← hn]
    exact Nat.le_trans (Nat.le_of_lt hb) (by decide)
  refine wpAny_bind (wpAny_newList ?_ hzz)
  have hoL : (s1.heap.push (seqObj "list" vs.toArray 0)).get? s1.heap.objs.size = some (seqObj "list" vs.toArray 0) := Heap.get?_push_size _ rfl
  refine wpAny_bind (wpAny_holding (wpAny_call_entry slot_list_sort ⟨_, hoL, rfl⟩ entry_list_sort (SrtO.list_sort_ord SrtO.swo_int hoL hzz (fun h2 => SrtO.ints_sortable hI h2) fun out a1 a2 => ⟨_, rfl, ?_⟩) (args_list_sort _)))
  obtain ⟨b1, b2, b3⟩ := SrtO.ints_out hI a1 a2
  obtain ⟨c, hc⟩ := sortedHeap_at (vs := vs) (out := out.toArray) hoL
  have pn : (out.map SrtO.iv).Perm (es.toList.map keyOf) := b2.trans pk
  refine wpAny_pure ⟨_, rfl, hQ _ s1.heap.objs.size out c _ (fun b u e => ?_) g1 o1 hz hc b1 (lt_of_le_nodup _ b3 (pn.nodup_iff.mpr nd)) (fun k => by rw [pn.mem_iff, ← hm k]) ?_⟩
  · have q := k1 b u e
    have hlt := Heap.lt_size q
    show (sortedHeap (s1.heap.push (seqObj "list" vs.toArray 0)) s1.heap.objs.size vs out.toArray).get? b = some u
    rw [sortedHeap_old (Nat.ne_of_lt hlt) (by rw [size_push']; exact Nat.lt_succ_of_lt hlt)]
    exact Heap.get?_push_of_some _ q
  · rw [pn.length_eq, List.length_map, Array.length_toList]; exact hn
end
section
variable {X : Cx}
def rSetI (K : PySem.W.Frag) (w : World) : List V → Hp → VK → Prop := fun vs H Q => ∃ (a : Addr) (ns : List Int), vs = [.ref a] ∧ SqL K H a (ns.map V.int) ∧ ns.length + 1 < scanBound ∧ ∀ p c, H p = none → c ≤ ns.length → Q (.ref p) (upd H p (SetO w p (fun j => decide (j ∈ ns)) c))
theorem setI (K : PySem.W.Frag) (w : World) (hc : X.calm = true) (h : X.K = K := by rfl) (h2 : X.w = w := by rfl) : CallR X (.type "set") (rSetI K w) := by
  subst h h2
  intro pins s σ H vs us Q I r h
  obtain ⟨a, ns, rfl, hs, hb, q⟩ := h
  obtain ⟨its, rv, hl, hz⟩ := I.list hs
  rw [Vals.ref1 r]
  have hi := ints_of_vals rv
  refine setOf_list (items := its.toArray) ns (I.ok.hd hc) hl.isList hi hb fun h' tk c hS hcl hk => ?_
  have hn : H s.heap.objs.size = none := I.hok.fresh (Nat.le_refl _)
  exact ⟨.ref _, upd H s.heap.objs.size (SetO X.w s.heap.objs.size (fun j => decide (j ∈ ns)) c), I.laid (t' := tk) hk (Nat.le_refl _) (setO_new hS), rfl, q _ c hn hcl⟩
def rSortedA (w : World) : List V → Hp → VK → Prop := fun vs H Q => ∃ (a : Addr) (S : Int → Bool) (n : Nat), vs = [V.ref a] ∧ H a = some (SetO w a S n) ∧ n ≤ 1000000 ∧
  ∀ (ns : List Int) (p : Addr), ns.Pairwise (· < ·) → (∀ k : Int, k ∈ ns ↔ S k = true) → ns.length = n → H p = none → Q (.ref p) (upd H p (.lst (ns.map V.int)))
theorem sortedA (w : World) (hc : X.calm = true) (h2 : X.w = w := by rfl) : CallR X (.builtin "sorted") (rSortedA w) := by
  subst h2
  intro pins s σ H vs us Q I r h
  obtain ⟨a, S, n, rfl, ha, h64, q⟩ := h
  have R := setO_get I ha
  rw [Vals.ref1 r]
  refine sorted_any R (I.ok.hd hc) fun s' p out c ns k g o hp hg hi hs hm hl => ?_
  have hlen : (ns.map V.int).length ≤ sizeLine := by
    rw [List.length_map, hl]
    exact Nat.le_of_lt (sizeOk h64)
  have hn : H p = none := I.hok.fresh hp
  have J : Inv X pins σ (upd H p (.lst (ns.map V.int))) { s with heap := s'.heap, gens := s'.gens, drawn := s'.drawn, toks := s'.toks } :=
    I.call (ch := []) (Un.laid k hp hn) (I.hok.laid k hp ⟨hlen, out, c, vals_of_ints hi, hg⟩) (by rw [g]; exact I.bare) (fun _ z => nomatch z)
  have e : s' = { s with heap := s'.heap, gens := s'.gens, drawn := s'.drawn, toks := s'.toks } := by
    cases s'
    cases s
    cases o
    rfl
  rw [e]
  exact ⟨.ref p, _, J, rfl, q ns p hs hm hl hn⟩
end
end Sg
namespace Sg
open PySem PySem.Spec PyProof.Rows L2
def topS (i : Nat) : Stmt := PySem.Challenge.pw_signsets_k05_found_by_halving.main.body.getD i (.Pass ⟨0, 0, 0, 0⟩)
abbrev s_need_size : Stmt := topS 8
abbrev n_need_size : List Str := ["size"]
theorem sc_need_size : FnScope n_need_size ["size"] (defScope s_need_size) := ⟨rfl, rfl, rfl, by decide +kernel, rfl, by decide +kernel, by decide +kernel⟩
abbrev s_need_set : Stmt := topS 9
abbrev n_need_set : List Str := ["size", "ranges", "number", "at", "first", "last"]
theorem sc_need_set : FnScope n_need_set ["size", "ranges", "number"] (defScope s_need_set) := ⟨rfl, rfl, rfl, by decide +kernel, rfl, by decide +kernel, by decide +kernel⟩
abbrev s_need_number : Stmt := topS 10
abbrev n_need_number : List Str := ["size", "number"]
theorem sc_need_number : FnScope n_need_number ["size", "number"] (defScope s_need_number) := ⟨rfl, rfl, rfl, by decide +kernel, rfl, by decide +kernel, by decide +kernel⟩
abbrev s_has : Stmt := topS 11
abbrev n_has : List Str := ["ranges", "number", "pair"]
theorem sc_has : FnScope n_has ["ranges", "number"] (defScope s_has) := ⟨rfl, rfl, rfl, by decide +kernel, rfl, by decide +kernel, by decide +kernel⟩
abbrev s_all_in : Stmt := topS 12
abbrev n_all_in : List Str := ["size", "ranges", "number"]
theorem sc_all_in : FnScope n_all_in ["size", "ranges"] (defScope s_all_in) := ⟨rfl, rfl, rfl, by decide +kernel, rfl, by decide +kernel, by decide +kernel⟩
abbrev s_told : Stmt := topS 13
abbrev n_told : List Str := ["numbers", "found", "number"]
theorem sc_told : FnScope n_told ["numbers"] (defScope s_told) := ⟨rfl, rfl, rfl, by decide +kernel, rfl, by decide +kernel, by decide +kernel⟩
abbrev s_members : Stmt := topS 14
abbrev n_members : List Str := ["size", "ranges"]
theorem sc_members : FnScope n_members ["size", "ranges"] (defScope s_members) := ⟨rfl, rfl, rfl, by decide +kernel, rfl, by decide +kernel, by decide +kernel⟩
abbrev s_plain : Stmt := topS 15
abbrev n_plain : List Str := ["size", "ranges"]
theorem sc_plain : FnScope n_plain ["size", "ranges"] (defScope s_plain) := ⟨rfl, rfl, rfl, by decide +kernel, rfl, by decide +kernel, by decide +kernel⟩
abbrev s_inside : Stmt := topS 16
abbrev n_inside : List Str := ["size", "ranges", "number", "some", "low", "high", "looks", "middle"]
theorem sc_inside : FnScope n_inside ["size", "ranges", "number"] (defScope s_inside) := ⟨rfl, rfl, rfl, by decide +kernel, rfl, by decide +kernel, by decide +kernel⟩
abbrev s__law_dice : Stmt := topS 18
abbrev n__law_dice : List Str := ["_law_script", "_law_k", "_law_found", "_law_cell"]
theorem sc__law_dice : FnScope n__law_dice ["_law_script", "_law_k"] (defScope s__law_dice) := ⟨rfl, rfl, rfl, by decide +kernel, rfl, by decide +kernel, by decide +kernel⟩
abbrev s__law_off : Stmt := topS 19
abbrev n__law_off : List Str := ["_law_d", "_law_most", "_law_found"]
theorem sc__law_off : FnScope n__law_off ["_law_d", "_law_most"] (defScope s__law_off) := ⟨rfl, rfl, rfl, by decide +kernel, rfl, by decide +kernel, by decide +kernel⟩
abbrev s__law_alike : Stmt := topS 20
abbrev n__law_alike : List Str := ["_law_found", "_law_due", "_law_k"]
theorem sc__law_alike : FnScope n__law_alike ["_law_found", "_law_due"] (defScope s__law_alike) := ⟨rfl, rfl, rfl, by decide +kernel, rfl, by decide +kernel, by decide +kernel⟩
abbrev s__law_size : Stmt := topS 21
abbrev n__law_size : List Str := ["_law_d"]
theorem sc__law_size : FnScope n__law_size ["_law_d"] (defScope s__law_size) := ⟨rfl, rfl, rfl, by decide +kernel, rfl, by decide +kernel, by decide +kernel⟩
abbrev s__law_set : Stmt := topS 22
abbrev n__law_set : List Str := ["_law_d", "_law_size_here", "_law_most", "_law_wide", "_law_found", "_law_turn", "_law_first"]
theorem sc__law_set : FnScope n__law_set ["_law_d", "_law_size_here", "_law_most"] (defScope s__law_set) := ⟨rfl, rfl, rfl, by decide +kernel, rfl, by decide +kernel, by decide +kernel⟩
abbrev s__law_members : Stmt := topS 23
abbrev n__law_members : List Str := ["_law_size_here", "_law_ranges", "_law_found", "_law_first", "_law_last"]
theorem sc__law_members : FnScope n__law_members ["_law_size_here", "_law_ranges"] (defScope s__law_members) := ⟨rfl, rfl, rfl, by decide +kernel, rfl, by decide +kernel, by decide +kernel⟩
abbrev s__law_told : Stmt := topS 24
abbrev n__law_told : List Str := ["_law_numbers", "_law_firsts", "_law_number", "_law_lasts", "_law_k"]
theorem sc__law_told : FnScope n__law_told ["_law_numbers"] (defScope s__law_told) := ⟨rfl, rfl, rfl, by decide +kernel, rfl, by decide +kernel, by decide +kernel⟩
abbrev s_law : Stmt := topS 25
abbrev n_law : List Str := ["_law_script", "_law_d", "_law_size_here", "_law_ranges", "_law_numbers", "_law_some", "_law_most", "_law_wide", "_law_number", "_law_left", "_law_looks", "_law_found", "_law_at", "_law_is_less", "_law_one", "_law_answer"]
theorem sc_law : FnScope n_law ["_law_script"] (defScope s_law) := ⟨rfl, rfl, rfl, by decide +kernel, rfl, by decide +kernel, by decide +kernel⟩
structure Tx (K : PySem.W.Frag) (mg : Str → Option Value) : Prop where
  d_need_size : Df K mg "need_size" s_need_size ["size"]
  d_need_set : Df K mg "need_set" s_need_set ["size", "ranges", "number"]
  d_need_number : Df K mg "need_number" s_need_number ["size", "number"]
  d_has : Df K mg "has" s_has ["ranges", "number"]
  d_all_in : Df K mg "all_in" s_all_in ["size", "ranges"]
  d_told : Df K mg "told" s_told ["numbers"]
  d_members : Df K mg "members" s_members ["size", "ranges"]
  d_plain : Df K mg "plain" s_plain ["size", "ranges"]
  d_inside : Df K mg "inside" s_inside ["size", "ranges", "number"]
  d__law_dice : Df K mg "_law_dice" s__law_dice ["_law_script", "_law_k"]
  d__law_off : Df K mg "_law_off" s__law_off ["_law_d", "_law_most"]
  d__law_alike : Df K mg "_law_alike" s__law_alike ["_law_found", "_law_due"]
  d__law_size : Df K mg "_law_size" s__law_size ["_law_d"]
  d__law_set : Df K mg "_law_set" s__law_set ["_law_d", "_law_size_here", "_law_most"]
  d__law_members : Df K mg "_law_members" s__law_members ["_law_size_here", "_law_ranges"]
  d__law_told : Df K mg "_law_told" s__law_told ["_law_numbers"]
  c_MOST_SIZE : ∃ t, mg "MOST_SIZE" = some (.int 64 t)
  c_MOST_RANGES : ∃ t, mg "MOST_RANGES" = some (.int 40 t)
  z_range : mg "range" = none
  z_enumerate : mg "enumerate" = none
  z_len : mg "len" = none
  z_min : mg "min" = none
  z_abs : mg "abs" = none
  z_isinstance : mg "isinstance" = none
  z_bool : mg "bool" = none
  z_int : mg "int" = none
  z_str : mg "str" = none
  z_tuple : mg "tuple" = none
  z_list : mg "list" = none
  z_all : mg "all" = none
  z_sorted : mg "sorted" = none
  z_set : mg "set" = none
section
variable {P : Program} {w : World} {K : PySem.W.Frag} {mg : Str → Option Value} {base : Heap}
def spNeedSize : Sp := fun vs H Q _ => ∃ n : Int, vs = [.int n] ∧ 1 ≤ n ∧ n ≤ 64 ∧ Q .non H
theorem ok_need_size (T : Tx K mg) : Cl P w K mg base 1 "need_size" spNeedSize := by
  refine T.d_need_size.cl sc_need_size (fun vs H Q E h => ?_) (fun f cdv A outer s H vs Q E hr h => ?_)
  · obtain ⟨n, rfl, _⟩ := h
    rfl
  obtain ⟨n, rfl, h1, h2, q⟩ := h
  refine ⟨_, (pss_one (ps_if (pt_not (pt_chain op_le op_le pe_int (pv 0) (pe_gI (by rfl) T.c_MOST_SIZE))) (pss_one ps_never) pss_nil)), ?_⟩
  refine ⟨_, rfl, _, _, rfl, rfl, true, bT h1, iteT ⟨_, _, rfl, rfl, true, bT h2, iteF ?_⟩⟩
  exact q
def spNeedSet (K : PySem.W.Frag) : Sp := fun vs H Q _ => ∃ (n : Int) (v : V) (R : List (Int × Int)) (num : Int), vs = [.int n, v, .int num] ∧ Dp K H v (eR R) ∧ Ok n R ∧ ∀ H', Same H H' → Q .non H'
theorem ok_need_set (T : Tx K mg) : Cl P w K mg base 1 "need_set" (spNeedSet K) := by
  refine T.d_need_set.cl sc_need_set (fun vs H Q E h => ?_) (fun f cdv A outer s H vs Q E hr h => ?_)
  · obtain ⟨n, v, R, num, rfl, _⟩ := h
    rfl
  obtain ⟨n, v, R, num, rfl, hD, hk, q⟩ := h
  obtain ⟨a, xs, rfl, hS, hA⟩ := dp_list hD
  have hxl : xs.length = R.length := by rw [dpAll_len hA, List.length_map]
  refine ⟨_, (pss_one (ps_for PassesOwn.never rfl (piEnum K (by rfl) T.z_enumerate (pa_cons (pv 1) pa_nil)) (pgT K (by rfl) (pgs_cons (pg_name (i := 3) sc_need_set.nd rfl (by first | exact Or.inl rfl | exact Or.inr rfl)) (pgs_cons (pgT K (by rfl) (pgs_cons (pg_name (i := 4) sc_need_set.nd rfl (by first | exact Or.inl rfl | exact Or.inr rfl)) (pgs_cons (pg_name (i := 5) sc_need_set.nd rfl (by first | exact Or.inl rfl | exact Or.inr rfl)) pgs_nil))) pgs_nil)))
      (pss_one (ps_if (PW.pt (pw_or (pt_cmpR op_ge (pv 3) (pe_gI (by rfl) T.c_MOST_RANGES) (nomark _)) (pw_or1 (pt_not (pt_chain3 op_le op_le op_lt pe_int (pv 4) (pv 5) (pv 0)))))) (pss_one ps_never) pss_nil)))), ?_⟩
  refine ⟨_, rfl, a, xs, rfl, hS, for_enum (xs := xs) (fun i σ H1 => ∃ y3 y4 y5, σ = [some (.int n), some (.ref a), some (.int num), y3, y4, y5] ∧ Same H H1) ⟨none, none, none, rfl, Same.refl _⟩ (fun i σ H1 _ p => ?_) (fun i x t σ H1 hx nt p => ?_) (fun σ H1 p => ?_)⟩
  · obtain ⟨_, _, _, _, sm⟩ := p
    exact sm.seq hS
  · obtain ⟨y3, y4, y5, rfl, sm⟩ := p
    obtain ⟨d, hd, hx'⟩ := dpAll_get hA hx
    obtain ⟨r, hr', rfl⟩ := get_map hd
    obtain ⟨u, rfl, hT⟩ := dp_pair hx'
    have s2 : Same H (upd H1 t (.tup [.int (i : Nat), .ref u])) := sm.trans (same_new nt)
    have hm : r ∈ R := List.mem_of_getElem? hr'
    obtain ⟨k1, k2, k3⟩ := hk.2 r hm
    have hi : i < R.length := (List.getElem?_eq_some_iff.mp hr').1
    have h40 := hk.1
    refine ⟨t, _, rfl, SqT.of upd_same, rfl, _, _, rfl, _, _, rfl, u, _, rfl, same_tup s2 hT, rfl, _, _, rfl, _, _, rfl, rfl, rfl, ?_⟩
    refine ⟨_, rfl, _, _, rfl, rfl, false, bF (by omega), iteF ⟨_, rfl, _, _, rfl, rfl, true, bT k1, iteT ⟨_, rfl, _, _, rfl, rfl, true, bT k2, iteT ⟨_, rfl, _, _, rfl, rfl, true, bT k3, iteF ?_⟩⟩⟩⟩
    exact ⟨_, _, _, rfl, s2⟩
  · obtain ⟨y3, y4, y5, rfl, sm⟩ := p
    exact q H1 sm
def spHas (K : PySem.W.Frag) : Sp := fun vs H Q _ => ∃ (v : V) (R : List (Int × Int)) (n : Int), vs = [v, .int n] ∧ Dp K H v (eR R) ∧ R.length ≤ 1000 ∧ ∀ H', Same H H' → Q (.bl (has R n)) H'
theorem ok_has (T : Tx K mg) : Cl P w K mg base 1 "has" (spHas K) := by
  refine T.d_has.cl sc_has (fun vs H Q E h => ?_) (fun f cdv A outer s H vs Q E hr h => ?_)
  · obtain ⟨v, R, n, rfl, _⟩ := h
    rfl
  obtain ⟨v, R, n, rfl, hD, hl, q⟩ := h
  obtain ⟨a, xs, rfl, hS, hA⟩ := dp_list hD
  have hxl : xs.length = R.length := by rw [dpAll_len hA, List.length_map]
  refine ⟨_, (pss_one (ps_ret (pe_cmpR (neD K hr.units) (pe_lc (own := [("pair", 2)]) (g := (gName 2)) (tt := _) (by rfl) sc_has.nd (piL K (pv 0)) (blkOk_by (own := [("pair", 2)]) (N := n_has) (sc := defScope s_has) (by decide +kernel)) (fun _ _ _ _ _ => (pg_name (i := 2) sc_has.nd rfl (by first | exact Or.inl rfl | exact Or.inr rfl))) (fun _ _ _ _ _ => (pts_one (pt_chain op_le op_le (pe_ix (ixT K) (pv 2) pe_int (fun _ _ => rfl)) (pv 1) (pe_ix (ixT K) (pv 2) pe_int (fun _ _ => rfl))))) (fun _ _ _ _ _ => (pv 2))) (pe_lst pa_nil) (nomark _)))), ?_⟩
  refine ⟨_, rfl, a, rfl, ⟨_, hS⟩, fun D hDn => lcO_list (K := K) (xs := xs) (ds := R.map eP) (inR n) hS hA hDn (by omega) (fun i x d H1 N1 N0 hd hx sm k1 k0 => ?_) (fun H1 ys sm hy ha => ?_)⟩
  · obtain ⟨r, hr', rfl⟩ := get_map hd
    obtain ⟨t, rfl, hT⟩ := dp_pair hx
    have hT1 := same_tup sm hT
    refine ⟨rfl, _, rfl, t, _, _, _, rfl, rfl, hT1, rfl, _, rfl, _, _, rfl, rfl, _, rfl, ite2 (fun c => ?_) (fun c => ?_)⟩
    · have c1 : r.1 ≤ n := of_decide_eq_true c
      refine ⟨_, rfl, t, _, _, _, rfl, rfl, hT1, rfl, _, _, rfl, rfl, _, rfl, ite2 (fun e => ?_) (fun e => ?_)⟩
      · have e1 : n ≤ r.2 := of_decide_eq_true e
        exact ⟨_, rfl, k1 H1 (Same.refl _) (by rw [inR_eP, decide_eq_true c1, decide_eq_true e1]; rfl)⟩
      · have e1 : ¬ n ≤ r.2 := fun z => e (decide_eq_true z)
        exact k0 H1 (Same.refl _) (by rw [inR_eP, decide_eq_false e1, Bool.and_false])
    · have c1 : ¬ r.1 ≤ n := fun z => c (decide_eq_true z)
      exact ⟨_, rfl, iteF (k0 H1 (Same.refl _) (by rw [inR_eP, decide_eq_false c1, Bool.false_and]))⟩
  · refine ⟨Nat.zero_le _, fun p hp => ⟨_, _, .lst (SqL.of (same_new hp _ _ hy)) (same_dpAll (sm.trans (same_new hp)) ha), .lst (SqL.of upd_same) .nil, (sh_filter (n := 0)).shaped, (sh_nil (n := 0)).shaped, ?_⟩⟩
    have e : (!PyData.eqv (.list ((R.map eP).filter (inR n))) (.list [])) = has R n := by
      rw [eqv_nil, any_filter, List.any_map]
      rfl
    rw [e]
    exact q _ (sm.trans (same_new hp))
def spAllIn (K : PySem.W.Frag) : Sp := fun vs H Q _ => ∃ (n : Nat) (v : V) (R : List (Int × Int)), vs = [.int n, v] ∧ Dp K H v (eR R) ∧ R.length ≤ 1000 ∧ n ≤ 1000 ∧ ∀ H' p, Same H H' → NewV H H' p (eI (allIn n R)) → Q p H'
theorem ok_all_in (T : Tx K mg) : Cl P w K mg base 2 "all_in" (spAllIn K) := by
  refine T.d_all_in.cl sc_all_in (fun vs H Q E h => ?_) (fun f cdv A outer s H vs Q E hr h => ?_)
  · obtain ⟨n, v, R, rfl, _⟩ := h
    rfl
  obtain ⟨n, v, R, rfl, hD, hl, hn, q⟩ := h
  refine ⟨_, (pss_one (ps_ret (pe_lc (own := [("number", 2)]) (g := (gName 2)) (tt := _) (by rfl) sc_all_in.nd (pi_range1 (by rfl) T.z_range (pa_cons (pv 0) pa_nil)) (blkOk_by (own := [("number", 2)]) (N := n_all_in) (sc := defScope s_all_in) (by decide +kernel)) (fun _ _ _ _ _ => (pg_name (i := 2) sc_all_in.nd rfl (by first | exact Or.inl rfl | exact Or.inr rfl))) (fun _ _ _ _ _ => (pts_one (pt_val (pe_k (ok_has T) hr (pa_cons (pv 1) (pa_cons (pv 2) pa_nil)))))) (fun _ _ _ _ _ => (pv 2))))), ?_⟩
  refine ⟨_, rfl, (n : Int), rfl, by omega, by omega, fun D hDn => lcN_range0 (fun i => if has R (i : Int) = true then some (.int (i : Int)) else none) hDn (by omega) (fun i H1 N1 N0 hi sm k1 k0 => ?_) (fun H1 sm lb => ?_)⟩
  · refine ⟨rfl, _, rfl, _, rfl, v, R, i, rfl, same_dp sm hD, hl, fun H2 s2 => ⟨_, rfl, ?_⟩⟩
    cases e : has R (i : Int) with
    | true => exact iteT ⟨_, rfl, k1 _ H2 _ s2 (by rw [e]; rfl) (.int _)⟩
    | false => exact iteF (k0 H2 s2 (by rw [e]; rfl))
  · rw [range_ints] at lb
    exact q H1 _ sm lb.newV
end
section
variable {P : Program} {w : World} {K : PySem.W.Frag} {mg : Str → Option Value} {base : Heap}
def spTold (K : PySem.W.Frag) : Sp := fun vs H Q _ => ∃ (v : V) (ns : List Int), vs = [v] ∧ Dp K H v (eI ns) ∧ ns.length ≤ 1000 ∧ ∀ H' p, Same H H' → NewV H H' p (eR (told ns)) → Q p H'
theorem ok_told (T : Tx K mg) : Cl P w K mg base 1 "told" (spTold K) := by
  refine T.d_told.cl sc_told (fun vs H Q E h => ?_) (fun f cdv A outer s H vs Q E hr h => ?_)
  · obtain ⟨v, ns, rfl, _⟩ := h
    rfl
  obtain ⟨v, ns, rfl, hD, hl, q⟩ := h
  obtain ⟨a, xs, rfl, hS, hA⟩ := dp_list hD
  obtain rfl := dpAll_ints hA
  refine ⟨_, (pss_cons (ps_set (i := 1) sc_told.nd rfl (by first | exact Or.inl rfl | exact Or.inr rfl) (pe_lst pa_nil))
      (pss_cons (ps_for PassesOwn.never rfl (piL K (pv 0)) (pg_name (i := 2) sc_told.nd rfl (by first | exact Or.inl rfl | exact Or.inr rfl))
      (pss_one (ps_if (PW.pt (pw_and (pt_cmpR (neD K hr.units) (pv 1) (pe_lst pa_nil) (nomark _)) (pw_and1 (pt_cmpR op_eq (pe_ix (ixT K) (pe_ix (ixL K) (pv 1) (pe_un un_neg pe_int) (fun _ _ => rfl)) pe_int (fun _ _ => rfl)) (pe_op op_sub (pv 2) pe_int) (nomark _))))) (pss_one (ps_asg (pe_tup (pa_cons (pe_ix (ixT K) (pe_ix (ixL K) (pv 1) (pe_un un_neg pe_int) (fun _ _ => rfl)) pe_int (fun _ _ => rfl)) (pa_cons (pv 2) pa_nil))) (pg_sub (pv 1) (pe_un un_neg pe_int) set_list))) (pss_one (ps_expr (pe_bm PySem.F.plainAttrs_list PySem.F.slot_list_append PySem.F.type_list_append mt_append (pv 1) (pa_cons (pe_tup (pa_cons (pv 2) (pa_cons (pv 2) pa_nil))) pa_nil)))))))
      (pss_one (ps_ret (pv 1))))), ?_⟩
  refine ⟨Nat.zero_le _, fun o no => ?_⟩
  refine ⟨_, rfl, a, rfl, ⟨_, (same_new no).seq hS⟩, for_list (xs := ns.map V.int) (fun i σ H1 => ∃ y2, σ = [some (.ref a), some (.ref o), y2] ∧ Same H H1 ∧ LB H H1 o ((told (ns.take i)).map eP)) ⟨none, rfl, same_new no, LB.nil no⟩ (fun i σ H1 _ p => ?_) (fun i x σ H1 hx p => ?_) (fun σ H1 p => ?_)⟩
  · obtain ⟨_, _, sm, _⟩ := p
    exact sm.seq hS
  · obtain ⟨y2, rfl, sm, lb⟩ := p
    obtain ⟨n, hn, rfl⟩ : ∃ n, ns[i]? = some n ∧ x = .int n := by
      rw [List.getElem?_map] at hx
      cases e : ns[i]? with
      | none => rw [e] at hx; cases hx
      | some n => rw [e] at hx; exact ⟨n, rfl, (Option.some.inj hx).symm⟩
    have hi : i < ns.length := (List.getElem?_eq_some_iff.mp hn).1
    have et : told (ns.take (i + 1)) = toldStep (told (ns.take i)) n := by
      rw [List.take_add_one, hn]
      exact told_snoc _ _
    have hlen : (told (ns.take i)).length ≤ i := Nat.le_trans (told_len _) (by rw [List.length_take]; exact Nat.min_le_left _ _)
    rw [et]
    obtain ⟨xs, ho, hxl⟩ := lb.at
    rw [List.length_map] at hxl
    have app : ∀ H2, Same H1 H2 → toldStep (told (ns.take i)) n = told (ns.take i) ++ [(n, n)] →
        ∀ D : Ends, (∀ σ' H', (∃ y2, σ' = [some (V.ref a), some (.ref o), y2] ∧ Same H H' ∧ LB H H' o ((toldStep (told (ns.take i)) n).map eP)) → D.nx σ' H') →
        (∃ v, [some (V.ref a), some (V.ref o), some (V.int n)][1]? = some (some v) ∧ tyV K "list" v H2 ∧ ∃ v1, [some (V.ref a), some (V.ref o), some (V.int n)][2]? = some (some v1) ∧ ∃ v2, [some (V.ref a), some (V.ref o), some (V.int n)][2]? = some (some v2) ∧ ([v1, v2] : List V).length ≤ sizeLine ∧ ∀ p, H2 p = none → rAppend v [.ref p] (upd H2 p (.tup [v1, v2])) fun _ H' => D.nx [some (.ref a), some (.ref o), some (.int n)] H') := fun H2 s2 e D k => by
      refine ⟨_, rfl, .inl ⟨rfl, _, SqL.of (s2 _ _ ho)⟩, _, rfl, _, rfl, by show 2 ≤ sizeLine; decide, fun p np => ?_⟩
      have s3 : Same H1 (upd H2 p (.tup [.int n, .int n])) := s2.trans (same_new np)
      obtain ⟨ys, h1, h2, h3⟩ := lb.snoc sm s3 ((new_pair np).mono s2 (Same.refl _))
      refine ⟨o, ys, _, rfl, rfl, h1, sizeOk (by rw [h2, List.length_map]; omega), k _ _ ⟨_, rfl, same_upd (sm.trans s3) lb.1, ?_⟩⟩
      rw [e, List.map_append]
      exact h3
    refine ⟨_, rfl, Nat.zero_le _, fun p np => ⟨.list ((told (ns.take i)).map eP), .list [], (lb.same (same_new np)).newV.dp, .lst (SqL.of upd_same) .nil, (Sh.eR (n := 0) _).shaped, (sh_nil (n := 0)).shaped, _, rfl, ?_⟩⟩
    rw [eqv_nil]
    have s1 : Same H1 (upd H1 p (.lst [])) := same_new np
    rcases List.eq_nil_or_concat (told (ns.take i)) with e | ⟨ini, r, e⟩
    · have e2 : toldStep (told (ns.take i)) n = told (ns.take i) ++ [(n, n)] := by rw [e]; rfl
      refine itF (by rw [e]; simp) (iteF ?_)
      exact app _ s1 e2 _ fun σ' H' h => h
    · rw [List.concat_eq_append] at e
      refine itT (by rw [e]; simp) ?_
      rw [e, List.map_append] at lb
      obtain ⟨xi, x, hoo, hd⟩ := lb.last
      obtain ⟨t, rfl, hT⟩ := dp_pair (K := K) (r := r) (NewV.dp hd)
      refine ⟨_, rfl, 1, rfl, o, _, -1, _, rfl, rfl, SqL.of (s1 _ _ hoo), atI_last _ _, t, _, 1, _, rfl, rfl, same_tup s1 hT, rfl, _, rfl, _, _, rfl, rfl, rfl, _, rfl, ite2 (fun c => ?_) (fun c => ?_)⟩
      · have c1 : r.2 = n - 1 := V.int.inj (of_decide_eq_true c)
        have e2 : toldStep (told (ns.take i)) n = ini ++ [(r.1, n)] := by
          unfold toldStep
          rw [e]
          simp [c1]
        refine ⟨_, rfl, 1, rfl, o, _, -1, _, rfl, rfl, SqL.of (s1 _ _ hoo), atI_last _ _, t, _, 0, _, rfl, rfl, same_tup s1 hT, rfl, _, rfl, by show 2 ≤ sizeLine; decide, fun p2 np2 => ?_⟩
        have s2 := s1.trans (same_new (o := .tup [.int r.1, .int n]) np2)
        refine ⟨_, rfl, 1, rfl, o, _, -1, _, rfl, rfl, s2 _ _ hoo, (by rw [len_snoc]; exact ixN_last _), ?_⟩
        rw [set_last, e2, List.map_append]
        exact ⟨_, rfl, same_upd (sm.trans s2) lb.1, lb.setLast hoo sm s2 ((new_pair np2).mono s1 (Same.refl _))⟩
      · have c1 : ¬ r.2 = n - 1 := fun z => c (decide_eq_true (congrArg V.int z))
        have e2 : toldStep (told (ns.take i)) n = told (ns.take i) ++ [(n, n)] := by
          unfold toldStep
          rw [e]
          simp [c1]
        exact app _ s1 e2 _ fun σ' H' h => h
  · obtain ⟨y2, rfl, sm, lb⟩ := p
    rw [List.length_map, List.take_length] at lb
    exact ⟨_, rfl, q H1 _ sm lb.newV⟩
def spMembers (K : PySem.W.Frag) : Sp := fun vs H Q _ => ∃ (n : Nat) (v : V) (R : List (Int × Int)), vs = [.int n, v] ∧ 1 ≤ n ∧ n ≤ 64 ∧ Dp K H v (eR R) ∧ Ok n R ∧ ∀ H' p, Same H H' → NewV H H' p (eI (allIn n R)) → Q p H'
theorem ok_members (T : Tx K mg) : Cl P w K mg base 3 "members" (spMembers K) := by
  refine T.d_members.cl sc_members (fun vs H Q E h => ?_) (fun f cdv A outer s H vs Q E hr h => ?_)
  · obtain ⟨n, v, R, rfl, _⟩ := h
    rfl
  obtain ⟨n, v, R, rfl, h1, h2, hD, hk, q⟩ := h
  refine ⟨_, (pss_cons (ps_expr (pe_k (ok_need_size T) hr (pa_cons (pv 0) pa_nil)))
      (pss_cons (ps_expr (pe_k (ok_need_set T) hr (pa_cons (pv 0) (pa_cons (pv 1) (pa_cons pe_int pa_nil)))))
      (pss_one (ps_ret (pe_k (ok_all_in T) hr (pa_cons (pv 0) (pa_cons (pv 1) pa_nil))))))), ?_⟩
  refine ⟨_, rfl, _, rfl, by omega, by omega, _, rfl, _, rfl, n, v, R, 0, rfl, hD, hk, fun H1 s1 => ⟨_, rfl, _, rfl, n, v, R, rfl, same_dp s1 hD, Nat.le_trans hk.1 (by decide), by omega, fun H2 p s2 nv => ?_⟩⟩
  exact q H2 p (s1.trans s2) (nv.mono s1 (Same.refl _))
def spPlain (K : PySem.W.Frag) : Sp := fun vs H Q _ => ∃ (n : Nat) (v : V) (R : List (Int × Int)), vs = [.int n, v] ∧ 1 ≤ n ∧ n ≤ 64 ∧ Dp K H v (eR R) ∧ Ok n R ∧ ∀ H' p, Same H H' → NewV H H' p (eR (TR n (has R))) → Q p H'
theorem ok_plain (T : Tx K mg) : Cl P w K mg base 4 "plain" (spPlain K) := by
  refine T.d_plain.cl sc_plain (fun vs H Q E h => ?_) (fun f cdv A outer s H vs Q E hr h => ?_)
  · obtain ⟨n, v, R, rfl, _⟩ := h
    rfl
  obtain ⟨n, v, R, rfl, h1, h2, hD, hk, q⟩ := h
  refine ⟨_, (pss_one (ps_ret (pe_k (ok_told T) hr (pa_cons (pe_k (ok_members T) hr (pa_cons (pv 0) (pa_cons (pv 1) pa_nil))) pa_nil)))), ?_⟩
  refine ⟨_, rfl, _, rfl, n, v, R, rfl, h1, h2, hD, hk, fun H1 p s1 nv => ⟨p, _, rfl, nv.dp, Nat.le_trans (allIn_len n _) (by omega), fun H2 p2 s2 nv2 => ?_⟩⟩
  exact q H2 p2 (s1.trans s2) (nv2.mono s1 (Same.refl _))
def spNeedNumber : Sp := fun vs H Q _ => ∃ (n k : Int), vs = [.int n, .int k] ∧ 0 ≤ k ∧ k < n ∧ Q .non H
theorem ok_need_number (T : Tx K mg) : Cl P w K mg base 1 "need_number" spNeedNumber := by
  refine T.d_need_number.cl sc_need_number (fun vs H Q E h => ?_) (fun f cdv A outer s H vs Q E hr h => ?_)
  · obtain ⟨n, k, rfl, _⟩ := h
    rfl
  obtain ⟨n, k, rfl, h1, h2, q⟩ := h
  refine ⟨_, (pss_one (ps_if (pt_not (pt_chain op_le op_lt pe_int (pv 1) (pv 0))) (pss_one ps_never) pss_nil)), ?_⟩
  refine ⟨_, rfl, _, _, rfl, rfl, true, bT h1, iteT ⟨_, rfl, _, _, rfl, rfl, true, bT h2, iteF ?_⟩⟩
  exact q
def spInside (K : PySem.W.Frag) : Sp := fun vs H Q _ => ∃ (n : Nat) (v : V) (R : List (Int × Int)) (k : Int), vs = [.int n, v, .int k] ∧ 1 ≤ n ∧ n ≤ 64 ∧ Dp K H v (eR R) ∧ Ok n R ∧ 0 ≤ k ∧ k < (n : Int) ∧
  ∀ H' p, Same H H' → NewV H H' p (.tuple [.bool (HV (TR n (has R)) k 0 (TR n (has R)).length).1, eR (HV (TR n (has R)) k 0 (TR n (has R)).length).2]) → Q p H'
theorem ok_inside (T : Tx K mg) : Cl P w K mg base 5 "inside" (spInside K) := by
  refine T.d_inside.cl sc_inside (fun vs H Q E h => ?_) (fun f cdv A outer s H vs Q E hr h => ?_)
  · obtain ⟨n, v, R, k, rfl, _⟩ := h
    rfl
  obtain ⟨n, v, R, k, rfl, h1, h2, hD, hk, k0, k1, q⟩ := h
  refine ⟨_, (pss_cons (ps_set (i := 3) sc_inside.nd rfl (by first | exact Or.inl rfl | exact Or.inr rfl) (pe_k (ok_plain T) hr (pa_cons (pv 0) (pa_cons (pv 1) pa_nil))))
      (pss_cons (ps_expr (pe_k (ok_need_number T) hr (pa_cons (pv 0) (pa_cons (pv 2) pa_nil))))
      (pss_cons (ps_set (i := 4) sc_inside.nd rfl (by first | exact Or.inl rfl | exact Or.inr rfl) pe_int)
      (pss_cons (ps_set (i := 5) sc_inside.nd rfl (by first | exact Or.inl rfl | exact Or.inr rfl) (pe_callB (lenQ K) (by rfl) T.z_len (by decide +kernel) (pa_cons (pv 3) pa_nil)))
      (pss_cons (ps_set (i := 6) sc_inside.nd rfl (by first | exact Or.inl rfl | exact Or.inr rfl) (pe_lst pa_nil))
      (pss_cons (ps_while PassesOwn.never (pt_cmpR op_lt (pv 4) (pv 5) (nomark _))
      (pss_cons (ps_set (i := 7) sc_inside.nd rfl (by first | exact Or.inl rfl | exact Or.inr rfl) (pe_op op_fdiv (pe_op op_add (pv 4) (pv 5)) pe_int))
      (pss_cons (ps_expr (pe_bm PySem.F.plainAttrs_list PySem.F.slot_list_append PySem.F.type_list_append mt_append (pv 6) (pa_cons (pe_ix (ixL K) (pv 3) (pv 7) (fun _ _ => rfl)) pa_nil)))
      (pss_one (ps_if (pt_cmpR op_lt (pv 2) (pe_ix (ixT K) (pe_ix (ixL K) (pv 3) (pv 7) (fun _ _ => rfl)) pe_int (fun _ _ => rfl)) (nomark _)) (pss_one (ps_set (i := 5) sc_inside.nd rfl (by first | exact Or.inl rfl | exact Or.inr rfl) (pv 7))) (pss_one (ps_if (pt_cmpR op_gt (pv 2) (pe_ix (ixT K) (pe_ix (ixL K) (pv 3) (pv 7) (fun _ _ => rfl)) pe_int (fun _ _ => rfl)) (nomark _)) (pss_one (ps_set (i := 4) sc_inside.nd rfl (by first | exact Or.inl rfl | exact Or.inr rfl) (pe_op op_add (pv 7) pe_int))) (pss_one (ps_ret (pe_tup (pa_cons pe_bl (pa_cons (pv 6) pa_nil))))))))))))
      (pss_one (ps_ret (pe_tup (pa_cons pe_bl (pa_cons (pv 6) pa_nil))))))))))), ?_⟩
  refine ⟨_, rfl, _, rfl, n, v, R, rfl, h1, h2, hD, hk, fun H1 p1 s1 n1 => ?_⟩
  have h40 := (TR_ok h2 (has R)).1
  generalize TR n (has R) = TT at *
  obtain ⟨a3, x3, rfl, f3, h3, d3⟩ := newV_list n1
  have xl : x3.length = TT.length := by rw [d3.len, List.length_map]
  refine ⟨_, rfl, _, rfl, _, _, rfl, k0, k1, ?_⟩
  refine ⟨_, rfl, a3, x3, rfl, .inl (SqL.of h3), ?_⟩
  refine ⟨Nat.zero_le _, fun o no => ?_⟩
  have no' := s1.free no
  have fin : ∀ (b : Bool) (H' : Hp) (L : List (Int × Int)), HV TT k 0 TT.length = (b, L) → Same H1 H' → LB H H' o (L.map eP) → ∀ t, H' t = none → Q (.ref t) (upd H' t (.tup [.bl b, .ref o])) := fun b H' L e sm lb t nt => by
    refine q _ _ (s1.trans (sm.trans (same_new nt))) ?_
    rw [e]
    refine .tup (xs := [.bl b, .ref o]) ?_ (.cons (.bl b) (.cons (lb.newV.mono (Same.refl _) (same_new nt)) .nil))
    rw [fr_new ((s1.trans sm).free nt)]
    exact upd_same
  refine ⟨fun m σ H2 => ∃ (lo hi : Nat) (L : List (Int × Int)) (y7 : Option V), m = hi - lo ∧ σ = [some (.int n), some v, some (.int k), some (.ref a3), some (.int lo), some (.int hi), some (.ref o), y7] ∧ Same H1 H2 ∧ LB H H2 o (L.map eP) ∧ hi ≤ TT.length ∧ L.length + (hi - lo) ≤ 1000 ∧ HV TT k 0 TT.length = ((HV TT k lo hi).1, L ++ (HV TT k lo hi).2),
    ⟨TT.length, 0, TT.length, [], none, rfl, by rw [← xl]; rfl, same_new no, LB.nil no', Nat.le_refl _, by simp; omega, by simp⟩, fun m σ H2 hW => ?_⟩
  obtain ⟨lo, hi, L, y7, rfl, rfl, sm, lb, hhi, hLl, hHV⟩ := hW
  refine ⟨_, rfl, _, rfl, _, _, rfl, rfl, _, rfl, ite2 (fun c => ?_) (fun c => ?_)⟩
  · have c1 : lo < hi := by
      have z : (lo : Int) < (hi : Int) := of_decide_eq_true c
      omega
    have hmid : (lo + hi) / 2 < TT.length := by omega
    obtain ⟨r, hr'⟩ : ∃ r, TT[(lo + hi) / 2]? = some r := ⟨_, List.getElem?_eq_getElem hmid⟩
    have gx : x3[(lo + hi) / 2]? = some x3[(lo + hi) / 2] := List.getElem?_eq_getElem (by omega)
    obtain ⟨dd, hdd, hdn⟩ := d3.get gx
    rw [List.getElem?_map, hr'] at hdd
    obtain rfl := Option.some.inj hdd
    have hdn2 : Dn (del (fr H H2) o) x3[(lo + hi) / 2] (eP r) := Dn.mono (fun b u z => by
      obtain ⟨z1, z2⟩ := fr_some z
      have nb : b ≠ o := ne_of_none z2 no
      rw [del_ne nb, fr_new z1]
      exact sm _ _ z2) hdn
    obtain ⟨t, et, hT⟩ := dp_pair (K := K) (same_dp fr_same hdn.dp)
    obtain ⟨xs, ho, hxsl, lb2⟩ := lb.push hdn2
    rw [et] at gx lb2
    rw [List.length_map] at hxsl
    have em : ((lo : Int) + (hi : Int)) / 2 = (((lo + hi) / 2 : Nat) : Int) := by omega
    have step := HV_step (k := k) c1 hr'
    refine ⟨fun σ' H' => ∃ (lo' hi' : Nat) (L' : List (Int × Int)) (y7 : Option V), hi' - lo' < hi - lo ∧ σ' = [some (.int n), some v, some (.int k), some (.ref a3), some (.int lo'), some (.int hi'), some (.ref o), y7] ∧ Same H1 H' ∧ LB H H' o (L'.map eP) ∧ hi' ≤ TT.length ∧ L'.length + (hi' - lo') ≤ 1000 ∧ HV TT k 0 TT.length = ((HV TT k lo' hi').1, L' ++ (HV TT k lo' hi').2), fun σ' H' hN => ?_, ?_⟩
    · obtain ⟨lo', hi', L', y, z, z2⟩ := hN
      exact ⟨_, z, lo', hi', L', y, rfl, z2⟩
    refine ⟨_, rfl, _, rfl, _, _, rfl, rfl, _, _, rfl, rfl, ⟨by decide, by decide⟩, ?_⟩
    dsimp only
    rw [em]
    have b1 : lo ≤ (lo + hi) / 2 := by omega
    have b2 : (lo + hi) / 2 < hi := by omega
    clear hdn hdn2 et em
    generalize (lo + hi) / 2 = mid at *
    refine ⟨_, rfl, .inl ⟨rfl, _, SqL.of ho⟩, _, rfl, _, rfl, a3, x3, _, _, rfl, rfl, SqL.of (sm _ _ h3), atI_nat gx, o, xs, _, rfl, rfl, ho, sizeOk (by omega), ?_⟩
    have s3 : Same H1 (upd H2 o (.lst (xs ++ [.ref t]))) := same_upd sm no
    have lb3 : LB H (upd H2 o (.lst (xs ++ [.ref t]))) o ((L ++ [r]).map eP) := by
      rw [List.map_append]
      exact lb2
    generalize upd H2 o (.lst (xs ++ [.ref t])) = H3 at s3 lb3
    refine ⟨_, rfl, _, rfl, _, rfl, a3, x3, _, _, rfl, rfl, SqL.of (s3 _ _ h3), atI_nat gx, t, _, 0, _, rfl, rfl, same_tup s3 hT, rfl, _, _, rfl, rfl, _, rfl, ite2 (fun e => ?_) (fun e => ?_)⟩
    · have e1 : k < r.1 := of_decide_eq_true e
      rw [if_pos e1] at step
      refine ⟨_, rfl, lo, mid, L ++ [r], _, by omega, rfl, s3, lb3, by omega, by simp; omega, ?_⟩
      rw [hHV, step]
      simp
    · have e1 : ¬ k < r.1 := fun z => e (decide_eq_true z)
      rw [if_neg e1] at step
      refine ⟨_, rfl, _, rfl, _, rfl, a3, x3, _, _, rfl, rfl, SqL.of (s3 _ _ h3), atI_nat gx, t, _, 1, _, rfl, rfl, same_tup s3 hT, rfl, _, _, rfl, rfl, _, rfl, ite2 (fun g => ?_) (fun g => ?_)⟩
      · have g1 : r.2 < k := of_decide_eq_true g
        rw [if_pos g1] at step
        refine ⟨_, rfl, _, _, rfl, rfl, mid + 1, hi, L ++ [r], _, by omega, rfl, s3, lb3, hhi, by simp; omega, ?_⟩
        rw [hHV, step]
        simp
      · have g1 : ¬ r.2 < k := fun z => g (decide_eq_true z)
        rw [if_neg g1] at step
        refine ⟨_, rfl, by show 2 ≤ sizeLine; decide, fun tp ntp => fin true H3 (L ++ [r]) ?_ s3 lb3 tp ntp⟩
        rw [hHV, step]
  · have c1 : ¬ lo < hi := fun z => c (decide_eq_true (show (lo : Int) < (hi : Int) by omega))
    rw [HV_end c1, List.append_nil] at hHV
    exact ⟨_, rfl, by show 2 ≤ sizeLine; decide, fun tp ntp => fin false H2 L hHV sm lb tp ntp⟩
end
section
variable {P : Program} {w : World} {K : PySem.W.Frag} {mg : Str → Option Value} {base : Heap}
def spDice (K : PySem.W.Frag) : Sp := fun vs H Q _ => ∃ (a : Addr) (ns : List Int) (k : Int), vs = [.ref a, .int k] ∧ SqL K H a (ns.map V.int) ∧ ns.length ≤ 63 ∧ 0 ≤ k ∧ ∀ H' p D, Same H H' → H p = none → H' p = some (.lst (D.map V.int)) → DiceOk D → Q (.ref p) H'
theorem ok__law_dice (T : Tx K mg) : Cl P w K mg base 1 "_law_dice" (spDice K) := by
  refine T.d__law_dice.cl sc__law_dice (fun vs H Q E h => ?_) (fun f cdv A outer s H vs Q E hr h => ?_)
  · obtain ⟨a, ns, k, rfl, _⟩ := h
    rfl
  obtain ⟨a, ns, k, rfl, hS, h63, h0, q⟩ := h
  refine ⟨_, (pss_cons (ps_set (i := 2) sc__law_dice.nd rfl (by first | exact Or.inl rfl | exact Or.inr rfl) (pv 1))
      (pss_cons (ps_for PassesOwn.never rfl (piL K (pv 0)) (pg_name (i := 3) sc__law_dice.nd rfl (by first | exact Or.inl rfl | exact Or.inr rfl))
      (pss_one (ps_set (i := 2) sc__law_dice.nd rfl (by first | exact Or.inl rfl | exact Or.inr rfl) (pe_op op_mod (pe_op op_add (pe_op op_mul (pv 2) pe_int) (pe_callB call_abs (by rfl) T.z_abs (by decide +kernel) (pa_cons (pv 3) pa_nil))) pe_int))))
      (pss_one (ps_ret (pe_op op_cat (pe_lst (pa_cons (pv 2) (pa_cons pe_int pa_nil))) (pe_lc (own := [("_law_cell", 3)]) (g := (gName 3)) (tt := _) (by rfl) sc__law_dice.nd (piL K (pv 0)) (blkOk_by (own := [("_law_cell", 3)]) (N := n__law_dice) (sc := defScope s__law_dice) (by decide +kernel)) (fun _ _ _ _ _ => (pg_name (i := 3) sc__law_dice.nd rfl (by first | exact Or.inl rfl | exact Or.inr rfl))) (fun _ _ _ _ _ => (pts_one (pt_cmpR op_ge (pv 3) (pe_op op_pow pe_int pe_int) (nomark _)))) (fun _ _ _ _ _ => (pv 3)))))))), ?_⟩
  refine ⟨_, rfl, _, rfl, a, rfl, ⟨_, hS⟩, for_list (xs := ns.map V.int) (fun i σ H1 => ∃ f y3, σ = [some (.ref a), some (.int k), some (.int f), y3] ∧ 0 ≤ f ∧ H1 = H) ⟨k, none, rfl, h0, rfl⟩ (fun i σ H1 _ p => ?_) (fun i x σ H1 hx p => ?_) (fun σ H1 p => ?_)⟩
  · obtain ⟨_, _, _, _, rfl⟩ := p
    exact hS
  · obtain ⟨g, y3, rfl, hg, rfl⟩ := p
    obtain ⟨c, hc, rfl⟩ := map_get hx
    refine ⟨_, rfl, _, _, rfl, rfl, .inr ⟨by decide, by decide⟩, _, rfl, _, rfl, _, _, rfl, rfl, _, _, rfl, rfl, (by show (0 : Int) < 2147483647; decide), ?_⟩
    exact ⟨_, _, rfl, Int.emod_nonneg _ (by decide), rfl⟩
  · obtain ⟨g, y3, rfl, hg, rfl⟩ := p
    refine ⟨_, rfl, by show 2 ≤ sizeLine; decide, fun p np => ?_⟩
    have s1 : Same H1 (upd H1 p (.lst [.int g, .int 0])) := same_new np
    refine ⟨_, rfl, a, rfl, ⟨_, s1.seq hS⟩, fun D hD => lcN_list (fun i => (ns[i]?).bind fun k => if decide ((10 : Int) ^ (18 : Int).toNat ≤ k) = true then some (.int k) else none) (s1.seq hS) hD (by rw [List.length_map]; omega) (fun i x H3 N1 N0 hx s3 k1 k0 => ?_) (fun H3 s3 lb => ?_)⟩
    · obtain ⟨c, hc, rfl⟩ := map_get hx
      refine ⟨rfl, _, rfl, _, _, rfl, rfl, ⟨by decide, by decide, by decide⟩, _, _, rfl, rfl, _, rfl, ite2 (fun e => ?_) (fun e => ?_)⟩
      · exact ⟨_, rfl, k1 _ H3 _ (Same.refl _) (by rw [hc, Option.bind_some, if_pos e]) (.int _)⟩
      · exact k0 H3 (Same.refl _) (by rw [hc, Option.bind_some, if_neg e])
    · rw [List.length_map, list_ints (p := fun k => decide ((10 : Int) ^ (18 : Int).toNat ≤ k))] at lb
      have hl := List.length_filter_le (fun k => decide ((10 : Int) ^ (18 : Int).toNat ≤ k)) ns
      refine ⟨p, D, _, _, rfl, rfl, s3 _ _ upd_same, lb.ints, ?_, fun r nr => ?_⟩
      · rw [List.length_map]
        exact Nat.le_of_lt (sizeOk (by simp only [List.length_cons, List.length_nil]; omega))
      · refine q _ r (g :: 0 :: ns.filter fun k => decide ((10 : Int) ^ (18 : Int).toNat ≤ k)) (s1.trans (s3.trans (same_new nr))) (s1.free (s3.free nr)) upd_same ⟨by simp, by rw [List.length_cons, List.length_cons]; omega, fun x hx => ?_⟩
        rcases List.mem_cons.mp hx with e | hx
        · rw [e]
          exact hg
        · rcases List.mem_cons.mp hx with e | hx
          · rw [e]
            exact Int.le_refl _
          · have := of_decide_eq_true (List.mem_filter.mp hx).2
            exact Int.le_trans (by decide) this
def spOff : Sp := fun vs H Q _ => ∃ (d : Addr) (m : Int) (D : List Int), vs = [.ref d, .int m] ∧ 0 < m ∧ m < 1073741824 ∧ H d = some (.lst (D.map V.int)) ∧ DiceOk D ∧ ∀ r D', 0 ≤ r → r < m → DiceOk D' → Q (.int r) (upd H d (.lst (D'.map V.int)))
theorem ok__law_off (T : Tx K mg) : Cl P w K mg base 1 "_law_off" spOff := by
  refine T.d__law_off.cl sc__law_off (fun vs H Q E h => ?_) (fun f cdv A outer s H vs Q E hr h => ?_)
  · obtain ⟨d, m, D, rfl, _⟩ := h
    rfl
  obtain ⟨d, m, D, rfl, hm, hm2, hH, hk, q⟩ := h
  refine ⟨_, (pss_cons (ps_if (PW.pt (pw_and (pt_cmpR op_eq (pe_ix (ixL K) (pv 0) pe_int (fun _ _ => rfl)) pe_int (nomark _)) (pw_and1 (pt_cmpR op_gt (pe_callB (lenQ K) (by rfl) T.z_len (by decide +kernel) (pa_cons (pv 0) pa_nil)) pe_int (nomark _))))) (pss_one (ps_asg (pe_bm PySem.F.plainAttrs_list PySem.F.slot_list_pop PySem.F.type_list_pop mt_popAt (pv 0) (pa_cons pe_int pa_nil)) (pg_sub (pv 0) pe_int set_list))) pss_nil)
      (pss_cons (ps_if (pt_cmpR op_gt (pe_ix (ixL K) (pv 0) pe_int (fun _ _ => rfl)) pe_int (nomark _)) (pss_cons (ps_set (i := 2) sc__law_off.nd rfl (by first | exact Or.inl rfl | exact Or.inr rfl) (pe_op op_mod (pe_ix (ixL K) (pv 0) pe_int (fun _ _ => rfl)) (pv 1)))
      (pss_cons (ps_asg (pe_op op_fdiv (pe_ix (ixL K) (pv 0) pe_int (fun _ _ => rfl)) (pv 1)) (pg_sub (pv 0) pe_int set_list))
      (pss_one (ps_ret (pv 2))))) pss_nil)
      (pss_cons (ps_asg (pe_op op_mod (pe_op op_add (pe_op op_mul (pe_ix (ixL K) (pv 0) pe_int (fun _ _ => rfl)) pe_int) pe_int) pe_int) (pg_sub (pv 0) pe_int set_list))
      (pss_one (ps_ret (pe_op op_mod (pe_op op_fdiv (pe_ix (ixL K) (pv 0) pe_int (fun _ _ => rfl)) pe_int) (pv 1))))))), ?_⟩
  refine seq_join (fun σ' H' => ∃ x0 x1 r, σ' = [some (.ref d), some (.int m), none] ∧ H' d = some (.lst ((x0 :: x1 :: r : List Int).map V.int)) ∧ DiceOk (x0 :: x1 :: r) ∧ ∀ o, upd H' d o = upd H d o) (fun σ' H' hJ => ?_) (fun N hN => ?_)
  · obtain ⟨x0, x1, r, rfl, h1, ⟨k1, k2, k3⟩, hu⟩ := hJ
    have n0 : 0 ≤ x0 := k3 x0 (by simp)
    have n1 : 0 ≤ x1 := k3 x1 (by simp)
    have ix0 : atI ((x0 :: x1 :: r : List Int).map V.int) 0 = some (.int x0) := atI_nat (j := 0) rfl
    have ix1 : atI ((x0 :: x1 :: r : List Int).map V.int) 1 = some (.int x1) := atI_nat (j := 1) rfl
    have jx0 : ixN ((x0 :: x1 :: r : List Int).map V.int).length 0 = some 0 := ixN_at (j := 0) (by simp)
    have jx1 : ixN ((x0 :: x1 :: r : List Int).map V.int).length 1 = some 1 := ixN_at (j := 1) (by simp)
    refine ⟨_, rfl, d, _, 1, _, rfl, rfl, SqL.of h1, ix1, _, _, rfl, rfl, _, rfl, ite2 (fun c => ?_) (fun c => ?_)⟩
    · refine ⟨_, rfl, d, _, 1, _, rfl, rfl, SqL.of h1, ix1, _, rfl, _, _, rfl, rfl, hm, ?_⟩
      refine ⟨_, rfl, d, _, 1, _, rfl, rfl, SqL.of h1, ix1, _, rfl, _, _, rfl, rfl, ⟨hm, hm2⟩, _, rfl, d, _, 1, 1, rfl, rfl, h1, jx1, ?_⟩
      refine ⟨_, rfl, ?_⟩
      rw [hu]
      refine q (x1 % m) (x0 :: (x1 / m) :: r) (Int.emod_nonneg _ (by omega)) (Int.emod_lt_of_pos _ hm) ⟨by simp, by simpa using k2, fun x hx => ?_⟩
      rcases List.mem_cons.mp hx with e | hx
      · rw [e]
        exact n0
      · rcases List.mem_cons.mp hx with e | hx
        · rw [e]
          exact Int.ediv_nonneg n1 (by omega)
        · exact k3 x (by simp [hx])
    · refine ⟨_, rfl, d, _, 0, _, rfl, rfl, SqL.of h1, ix0, _, _, rfl, rfl, .inr ⟨by decide, by decide⟩, _, _, rfl, rfl, _, _, rfl, rfl, (by show (0 : Int) < 2147483647; decide), _, rfl, d, _, 0, 0, rfl, rfl, h1, jx0, ?_⟩
      refine ⟨_, rfl, d, (((x0 * 48271 + 11) % 2147483647 :: x1 :: r : List Int).map V.int), 0, _, rfl, rfl, SqL.of upd_same, atI_nat (j := 0) rfl, _, _, rfl, rfl, ⟨by decide, by decide⟩, _, rfl, _, _, rfl, rfl, hm, ?_⟩
      rw [hu]
      refine q _ ((x0 * 48271 + 11) % 2147483647 :: x1 :: r) (Int.emod_nonneg _ (by omega)) (Int.emod_lt_of_pos _ hm) ⟨by simp, by simpa using k2, fun x hx => ?_⟩
      rcases List.mem_cons.mp hx with e | hx
      · rw [e]
        exact Int.emod_nonneg _ (by decide)
      · exact k3 x (List.mem_cons_of_mem _ hx)
  · obtain ⟨k1, k2, k3⟩ := hk
    match D, hH, k1, k2, k3 with
    | x0 :: x1 :: r, hH, k1, k2, k3 =>
      have ix1 : atI ((x0 :: x1 :: r : List Int).map V.int) 1 = some (.int x1) := atI_nat (j := 1) rfl
      refine ⟨_, rfl, d, _, 1, _, rfl, rfl, SqL.of hH, ix1, rfl, _, rfl, ite2 (fun c => ?_) (fun c => ?_)⟩
      · refine ⟨_, rfl, d, _, rfl, .inl (SqL.of hH), _, _, rfl, rfl, _, rfl, ite2 (fun e => ?_) (fun e => ?_)⟩
        · have e1 : (2 : Int) < (((x0 :: x1 :: r : List Int).map V.int).length : Nat) := of_decide_eq_true e
          match r, hH, k1, k2, k3, e1 with
          | [], _, _, _, _, e1 => exact absurd e1 (by simp)
          | x2 :: r, hH, k1, k2, k3, e1 =>
            have jx2 : ixN ((x0 :: x1 :: x2 :: r : List Int).map V.int).length 2 = some 2 := ixN_at (j := 2) (by simp)
            refine ⟨_, rfl, .inl ⟨rfl, _, SqL.of hH⟩, d, _, 2, 2, .int x2, rfl, rfl, hH, by decide, by decide, (ixN_seq jx2).1, rfl, _, rfl, d, ((x0 :: x1 :: r : List Int).map V.int), 1, 1, rfl, rfl, upd_same, ixN_at (j := 1) (by simp), ?_⟩
            refine hN _ _ ⟨x0, x2, r, rfl, upd_same, ⟨by simp, by simp at k2 ⊢; omega, fun x hx => k3 x ?_⟩, fun o => by rw [upd_upd, upd_upd]⟩
            rcases List.mem_cons.mp hx with e | hx
            · simp [e]
            · rcases List.mem_cons.mp hx with e | hx
              · simp [e]
              · simp [hx]
        · exact hN _ _ ⟨x0, x1, r, rfl, hH, ⟨k1, k2, k3⟩, fun o => rfl⟩
      · exact iteF (hN _ _ ⟨x0, x1, r, rfl, hH, ⟨k1, k2, k3⟩, fun o => rfl⟩)
def spSize : Sp := fun vs H Q _ => ∃ (d : Addr) (D : List Int), vs = [.ref d] ∧ H d = some (.lst (D.map V.int)) ∧ DiceOk D ∧ ∀ (n : Nat) H' D', 1 ≤ n → n ≤ 64 → SameBut d H H' → H' d = some (.lst (D'.map V.int)) → DiceOk D' → Q (.int n) H'
theorem ok__law_size (T : Tx K mg) : Cl P w K mg base 2 "_law_size" spSize := by
  refine T.d__law_size.cl sc__law_size (fun vs H Q E h => ?_) (fun f cdv A outer s H vs Q E hr h => ?_)
  · obtain ⟨d, D, rfl, _⟩ := h
    rfl
  obtain ⟨d, D, rfl, hH, hk, q⟩ := h
  refine ⟨_, (pss_one (ps_ret (pe_ix (ixL K) (pe_lst (pa_cons pe_int (pa_cons pe_int (pa_cons pe_int (pa_cons (pe_op op_add pe_int (pe_k (ok__law_off T) hr (pa_cons (pv 0) (pa_cons pe_int pa_nil)))) pa_nil))))) (pe_k (ok__law_off T) hr (pa_cons (pv 0) (pa_cons pe_int pa_nil))) (fun _ _ => rfl)))), ?_⟩
  refine ⟨_, rfl, d, 64, D, rfl, by decide, by decide, hH, hk, fun r D1 r0 r1 k1 => ⟨_, _, rfl, rfl, by show 4 ≤ sizeLine; decide, fun p np => ?_⟩⟩
  have npd : d ≠ p := ne_of_none upd_same np
  refine ⟨_, rfl, d, 4, D1, rfl, by decide, by decide, by rw [upd_ne npd]; exact upd_same, k1, fun r2 D2 r20 r21 k2 => ?_⟩
  have hp : upd (upd (upd H d (.lst (D1.map V.int))) p (.lst [.int 8, .int 20, .int 64, .int (1 + r)])) d (.lst (D2.map V.int)) p = some (.lst [.int 8, .int 20, .int 64, .int (1 + r)]) := by
    rw [upd_ne npd.symm]
    exact upd_same
  have sb : SameBut d H (upd (upd (upd H d (.lst (D1.map V.int))) p (.lst [.int 8, .int 20, .int 64, .int (1 + r)])) d (.lst (D2.map V.int))) := (SameBut.upd.trans (SameBut.of (same_new np))).trans SameBut.upd
  have fin : ∀ n : Nat, 1 ≤ n → n ≤ 64 → Q (.int n) (upd (upd (upd H d (.lst (D1.map V.int))) p (.lst [.int 8, .int 20, .int 64, .int (1 + r)])) d (.lst (D2.map V.int))) := fun n a b => q n _ D2 a b sb upd_same k2
  have c : r2 = 0 ∨ r2 = 1 ∨ r2 = 2 ∨ r2 = 3 := by omega
  rcases c with rfl | rfl | rfl | rfl
  · exact ⟨p, _, 0, .int 8, rfl, rfl, SqL.of hp, rfl, fin 8 (by decide) (by decide)⟩
  · exact ⟨p, _, 1, .int 20, rfl, rfl, SqL.of hp, rfl, fin 20 (by decide) (by decide)⟩
  · exact ⟨p, _, 2, .int 64, rfl, rfl, SqL.of hp, rfl, fin 64 (by decide) (by decide)⟩
  · have e : (1 : Int) + r = ((1 + r).toNat : Nat) := by omega
    refine ⟨p, _, 3, .int (1 + r), rfl, rfl, SqL.of hp, rfl, ?_⟩
    have g := fin (1 + r).toNat (by omega) (by omega)
    rw [← e] at g
    exact g
def spSet : Sp := fun vs H Q _ => ∃ (d : Addr) (D : List Int) (n m : Nat), vs = [.ref d, .int n, .int m] ∧ 1 ≤ n ∧ n ≤ 64 ∧ m ≤ 40 ∧ H d = some (.lst (D.map V.int)) ∧ DiceOk D ∧
  ∀ H' D' v R, SameBut d H H' → H' d = some (.lst (D'.map V.int)) → DiceOk D' → NewV H H' v (eR R) → Ok n R → R.length ≤ m → Q v H'
theorem ok__law_set (T : Tx K mg) : Cl P w K mg base 2 "_law_set" spSet := by
  refine T.d__law_set.cl sc__law_set (fun vs H Q E h => ?_) (fun f cdv A outer s H vs Q E hr h => ?_)
  · obtain ⟨d, D, n, m, rfl, _⟩ := h
    rfl
  obtain ⟨d, D, n, m, rfl, hn1, hn, hm, hH, hk, q⟩ := h
  refine ⟨_, (pss_cons (ps_set (i := 3) sc__law_set.nd rfl (by first | exact Or.inl rfl | exact Or.inr rfl) (pe_ix (ixL K) (pe_lst (pa_cons pe_int (pa_cons pe_int (pa_cons (pv 1) pa_nil)))) (pe_k (ok__law_off T) hr (pa_cons (pv 0) (pa_cons pe_int pa_nil))) (fun _ _ => rfl)))
      (pss_cons (ps_set (i := 4) sc__law_set.nd rfl (by first | exact Or.inl rfl | exact Or.inr rfl) (pe_lst pa_nil))
      (pss_cons (ps_for PassesOwn.never rfl (pi_range1 (by rfl) T.z_range (pa_cons (pe_k (ok__law_off T) hr (pa_cons (pv 0) (pa_cons (pe_op op_add (pv 2) pe_int) pa_nil))) pa_nil)) (pg_name (i := 5) sc__law_set.nd rfl (by first | exact Or.inl rfl | exact Or.inr rfl))
      (pss_cons (ps_set (i := 6) sc__law_set.nd rfl (by first | exact Or.inl rfl | exact Or.inr rfl) (pe_k (ok__law_off T) hr (pa_cons (pv 0) (pa_cons (pv 1) pa_nil))))
      (pss_one (ps_expr (pe_bm PySem.F.plainAttrs_list PySem.F.slot_list_append PySem.F.type_list_append mt_append (pv 4) (pa_cons (pe_tup (pa_cons (pv 6) (pa_cons (pe_callB (call_min2 rfl) (by rfl) T.z_min (by decide +kernel) (pa_cons (pe_op op_sub (pv 1) pe_int) (pa_cons (pe_op op_add (pv 6) (pe_k (ok__law_off T) hr (pa_cons (pv 0) (pa_cons (pv 3) pa_nil)))) pa_nil))) pa_nil))) pa_nil))))))
      (pss_one (ps_ret (pv 4)))))), ?_⟩
  -- the widths
  refine ⟨_, rfl, by show 3 ≤ sizeLine; decide, fun p np => ?_⟩
  have npd : d ≠ p := ne_of_none hH np
  refine ⟨_, rfl, d, 3, D, rfl, by decide, by decide, by rw [upd_ne npd]; exact hH, hk, fun r D1 r0 r1 k1 => ?_⟩
  have hp : upd (upd H p (.lst [.int 1, .int 3, .int n])) d (.lst (D1.map V.int)) p = some (.lst [.int 1, .int 3, .int n]) := by
    rw [upd_ne npd.symm]
    exact upd_same
  obtain ⟨wd, hw, w1, w2⟩ : ∃ wd : Int, atI [V.int 1, .int 3, .int n] r = some (.int wd) ∧ 0 < wd ∧ wd ≤ 64 := by
    have c : r = 0 ∨ r = 1 ∨ r = 2 := by omega
    rcases c with rfl | rfl | rfl
    · exact ⟨1, rfl, by decide, by decide⟩
    · exact ⟨3, rfl, by decide, by decide⟩
    · exact ⟨n, rfl, by omega, by omega⟩
  refine ⟨p, _, r, _, rfl, rfl, SqL.of hp, hw, ?_⟩
  have sb1 : SameBut d H (upd (upd H p (.lst [.int 1, .int 3, .int n])) d (.lst (D1.map V.int))) := (SameBut.of (same_new np)).trans SameBut.upd
  generalize hH1 : upd (upd H p (.lst [.int 1, .int 3, .int n])) d (.lst (D1.map V.int)) = H1 at sb1
  have hd1 : H1 d = some (.lst (D1.map V.int)) := by rw [← hH1]; exact upd_same
  -- found = []
  refine ⟨Nat.zero_le _, fun o no => ?_⟩
  have ndo : d ≠ o := ne_of_none hd1 no
  have no' : H o = none := by
    cases e : H o with
    | none => rfl
    | some u =>
      have := sb1 o u ndo.symm e
      rw [no] at this
      cases this
  -- the turns
  refine ⟨_, rfl, _, rfl, _, _, rfl, rfl, d, (m : Int) + 1, D1, rfl, by omega, by omega, by rw [upd_ne ndo]; exact hd1, k1, fun t D2 t0 t1 k2 => ?_⟩
  refine ⟨t, rfl, by omega, by omega, for_range (lo := 0) (n := t.toNat) (fun i σ H2 => ∃ (y5 y6 : Option V) (D3 : List Int) (R : List (Int × Int)), σ = [some (.ref d), some (.int n), some (.int m), some (.int wd), some (.ref o), y5, y6] ∧ SameBut d H H2 ∧ H2 d = some (.lst (D3.map V.int)) ∧ DiceOk D3 ∧ LB (del H d) (del H2 d) o (R.map eP) ∧ R.length = i ∧ (∀ r ∈ R, 0 ≤ r.1 ∧ r.1 ≤ r.2 ∧ r.2 < (n : Int))) ?_ (fun i σ H2 hi p => ?_) (fun σ H2 p => ?_)⟩
  · refine ⟨none, none, D2, [], rfl, (sb1.trans (SameBut.of (same_new no))).trans SameBut.upd, upd_same, k2, ⟨?_, [], ?_, .nil⟩, rfl, fun r hr => by simp at hr⟩
    · rw [del_ne ndo.symm]
      exact no'
    · rw [del_ne ndo.symm, upd_ne ndo.symm]
      exact upd_same
  · obtain ⟨y5, y6, D3, R, rfl, sb, hd, k3, lb, hRl, hR⟩ := p
    -- first
    refine ⟨_, rfl, _, rfl, d, (n : Int), D3, rfl, by omega, by omega, hd, k3, fun fi D4 f0 f1 k4 => ?_⟩
    have tyo : ∀ H3 : Hp, (∀ b o', b ≠ d → H2 b = some o' → H3 b = some o') → ∃ xs, H3 o = some (.lst xs) ∧ xs.length = R.length := fun H3 e => by
      obtain ⟨xs, h1, h2⟩ := lb.at
      rw [List.length_map] at h2
      rw [del_ne ndo.symm] at h1
      exact ⟨xs, e _ _ ndo.symm h1, h2⟩
    obtain ⟨xs4, ho4, hx4⟩ := tyo (upd H2 d (.lst (D4.map V.int))) fun b u nb e => by
      rw [upd_ne nb]
      exact e
    refine ⟨_, rfl, .inl ⟨rfl, _, SqL.of ho4⟩, _, rfl, _, rfl, _, _, rfl, rfl, _, rfl, _, rfl, _, rfl, d, wd, D4, rfl, w1, by omega, upd_same, k4, fun wi D5 u0 u1 k5 => ?_⟩
    refine ⟨_, _, rfl, rfl, _, _, rfl, by show 2 ≤ sizeLine; decide, fun tp ntp => ?_⟩
    rw [upd_upd] at ntp ⊢
    have ntd : d ≠ tp := ne_of_none upd_same ntp
    -- the new pair: (fi, la)
    generalize hla : (if fi + wi < (n : Int) - 1 then fi + wi else (n : Int) - 1) = la
    have l1 : fi ≤ la := by rw [← hla]; split <;> omega
    have l2 : la < n := by rw [← hla]; split <;> omega
    have sX : Same (del H2 d) (del (upd (upd H2 d (.lst (D5.map V.int))) tp (.tup [.int fi, .int la])) d) := fun b u e => by
      by_cases c : b = d
      · subst c
        rw [del_self] at e
        cases e
      · rw [del_ne c] at e ⊢
        have ct : b ≠ tp := fun z => by
          subst z
          rw [upd_ne c, e] at ntp
          cases ntp
        rw [upd_ne ct, upd_ne c]
        exact e
    have nvX : NewV (del H2 d) (del (upd (upd H2 d (.lst (D5.map V.int))) tp (.tup [.int fi, .int la])) d) (.ref tp) (eP (fi, la)) := by
      refine .tup (xs := [.int fi, .int la]) ?_ (.cons (.int _) (.cons (.int _) .nil))
      rw [fr_new (by rw [del_ne ntd.symm]; rw [upd_ne ntd.symm] at ntp; exact ntp), del_ne ntd.symm]
      exact upd_same
    have s0 : Same (del H d) (del H2 d) := fun b u e => by
      by_cases c : b = d
      · subst c
        rw [del_self] at e
        cases e
      · rw [del_ne c] at e ⊢
        exact sb b u c e
    obtain ⟨ys, z1, z2, z3⟩ := lb.snoc s0 sX nvX
    rw [del_ne ndo.symm] at z1
    refine ⟨o, ys, _, rfl, rfl, z1, sizeOk (by rw [z2, List.length_map]; omega), ?_⟩
    have nto : tp ≠ o := fun z => by
      subst z
      rw [upd_ne ntd.symm] at ntp
      obtain ⟨xs, h1, _⟩ := lb.at
      rw [del_ne ntd.symm, ntp] at h1
      cases h1
    refine ⟨_, _, D5, R ++ [(fi, la)], rfl, fun b u nb e => ?_, ?_, k5, ?_, by simp [hRl], fun r hr => ?_⟩
    · have nbo : b ≠ o := ne_of_none e no'
      have e2 := sb b u nb e
      have nbt : b ≠ tp := fun z => by
        subst z
        rw [upd_ne nb, e2] at ntp
        cases ntp
      rw [upd_ne nbo, upd_ne nbt, upd_ne nb]
      exact e2
    · rw [upd_ne ndo, upd_ne ntd]
      exact upd_same
    · rw [List.map_append]
      have e : del (upd (upd (upd H2 d (.lst (D5.map V.int))) tp (.tup [.int fi, .int la])) o (.lst (ys ++ [.ref tp]))) d = upd (del (upd (upd H2 d (.lst (D5.map V.int))) tp (.tup [.int fi, .int la])) d) o (.lst (ys ++ [.ref tp])) := by
        funext b
        by_cases c : b = d
        · subst c
          rw [del_self, upd_ne ndo, del_self]
        · rw [del_ne c]
          by_cases c2 : b = o
          · subst c2
            rw [upd_same, upd_same]
          · rw [upd_ne c2, upd_ne c2, del_ne c]
      rw [e]
      exact z3
    · rcases List.mem_append.mp hr with h | h
      · exact hR r h
      · obtain rfl := List.mem_singleton.mp h
        exact ⟨f0, l1, l2⟩
  · obtain ⟨y5, y6, D3, R, rfl, sb, hd, k3, lb, hRl, hR⟩ := p
    refine ⟨_, rfl, q H2 D3 _ R sb hd k3 ?_ ⟨by omega, hR⟩ (by omega)⟩
    have nv := lb.newV
    refine Dn.mono (fun b u e => ?_) nv
    obtain ⟨e1, e2⟩ := fr_some e
    by_cases c : b = d
    · subst c
      rw [del_self] at e2
      cases e2
    · rw [del_ne c] at e1 e2
      rw [fr_new e1]
      exact e2
end
section
variable {P : Program} {w : World} {K : PySem.W.Frag} {mg : Str → Option Value} {base : Heap}
/-- the same data twice, of fewer than n storeys: it is told True -/
def spAlike (K : PySem.W.Frag) : Nat → Sp
  | 0 => fun _ _ _ _ => False
  | n + 1 => fun vs H Q _ => ∃ (v u : V) (d : PyData), vs = [v, u] ∧ Dp K H v d ∧ Dp K H u d ∧ Al n d ∧ ∀ H', Same H H' → Q (.bl true) H'
theorem ok_alike_n (T : Tx K mg) : ∀ n : Nat, Cl P w K mg base n "_law_alike" (spAlike K n)
  | 0 => by
    obtain ⟨f, fd, F, g, b⟩ := T.d__law_alike.ex
    exact ⟨f, fd, _, ⟨fun vs H Q E h => h.elim, fun A outer s H args us vs Q E _ _ _ _ h => h.elim⟩, g, F.kp, b⟩
  | n + 1 => by
    have ih := ok_alike_n T n
    refine T.d__law_alike.cl sc__law_alike (fun vs H Q E h => ?_) (fun f cdv A outer s H vs Q E hr h => ?_)
    · obtain ⟨v, u, d, rfl, _⟩ := h
      rfl
    obtain ⟨v, u, d, rfl, hv, hu, al, q⟩ := h
    refine ⟨_, (pss_cons (ps_if (pt_cmpR op_isN (pv 1) pe_non (nomark _)) (pss_one (ps_ret (pe_cmpR op_isN (pv 0) pe_non (nomark _)))) pss_nil)
      (pss_cons (ps_if (pt_val (pe_callB (isD K) (by rfl) T.z_isinstance (by decide +kernel) (pa_cons (pv 1) (pa_cons (pe_bltn (v := .ty "bool") (by rfl) T.z_bool (by decide +kernel) rfl) pa_nil)))) (pss_one (ps_ret (pe_and (pe_callB (isD K) (by rfl) T.z_isinstance (by decide +kernel) (pa_cons (pv 0) (pa_cons (pe_bltn (v := .ty "bool") (by rfl) T.z_bool (by decide +kernel) rfl) pa_nil))) (pe_one (pe_cmpR op_eq (pv 0) (pv 1) (nomark _)))))) pss_nil)
      (pss_cons (ps_if (pt_val (pe_callB (isD K) (by rfl) T.z_isinstance (by decide +kernel) (pa_cons (pv 1) (pa_cons (pe_bltn (v := .ty "int") (by rfl) T.z_int (by decide +kernel) rfl) pa_nil)))) (pss_one (ps_ret (pe_and (pe_callB (isD K) (by rfl) T.z_isinstance (by decide +kernel) (pa_cons (pv 0) (pa_cons (pe_bltn (v := .ty "int") (by rfl) T.z_int (by decide +kernel) rfl) pa_nil))) (pe_and (pe_not (pe_callB (isD K) (by rfl) T.z_isinstance (by decide +kernel) (pa_cons (pv 0) (pa_cons (pe_bltn (v := .ty "bool") (by rfl) T.z_bool (by decide +kernel) rfl) pa_nil)))) (pe_one (pe_cmpR op_eq (pv 0) (pv 1) (nomark _))))))) pss_nil)
      (pss_cons (ps_if (pt_val (pe_callB (isD K) (by rfl) T.z_isinstance (by decide +kernel) (pa_cons (pv 1) (pa_cons (pe_bltn (v := .ty "str") (by rfl) T.z_str (by decide +kernel) rfl) pa_nil)))) (pss_one (ps_ret (pe_and (pe_callB (isD K) (by rfl) T.z_isinstance (by decide +kernel) (pa_cons (pv 0) (pa_cons (pe_bltn (v := .ty "str") (by rfl) T.z_str (by decide +kernel) rfl) pa_nil))) (pe_one (pe_cmpR op_eq (pv 0) (pv 1) (nomark _)))))) pss_nil)
      (pss_cons (ps_if (PW.pt (pw_or (pt_cmpR op_ne (pe_callB (isD K) (by rfl) T.z_isinstance (by decide +kernel) (pa_cons (pv 1) (pa_cons (pe_bltn (v := .ty "tuple") (by rfl) T.z_tuple (by decide +kernel) rfl) pa_nil))) (pe_callB (isD K) (by rfl) T.z_isinstance (by decide +kernel) (pa_cons (pv 0) (pa_cons (pe_bltn (v := .ty "tuple") (by rfl) T.z_tuple (by decide +kernel) rfl) pa_nil))) (nomark _)) (pw_or1 (pt_cmpR op_ne (pe_callB (isD K) (by rfl) T.z_isinstance (by decide +kernel) (pa_cons (pv 1) (pa_cons (pe_bltn (v := .ty "list") (by rfl) T.z_list (by decide +kernel) rfl) pa_nil))) (pe_callB (isD K) (by rfl) T.z_isinstance (by decide +kernel) (pa_cons (pv 0) (pa_cons (pe_bltn (v := .ty "list") (by rfl) T.z_list (by decide +kernel) rfl) pa_nil))) (nomark _))))) (pss_one (ps_ret pe_bl)) pss_nil)
      (pss_cons (ps_if (pt_cmpR op_ne (pe_callB (lenQ K) (by rfl) T.z_len (by decide +kernel) (pa_cons (pv 0) pa_nil)) (pe_callB (lenQ K) (by rfl) T.z_len (by decide +kernel) (pa_cons (pv 1) pa_nil)) (nomark _)) (pss_one (ps_ret pe_bl)) pss_nil)
      (pss_one (ps_ret (pe_callB (allQ K rfl) (by rfl) T.z_all (by decide +kernel) (pa_cons (pe_lc (own := [("_law_k", 2)]) (g := (gName 2)) (tt := tYes) (by rfl) sc__law_alike.nd (pi_range1 (by rfl) T.z_range (pa_cons (pe_callB (lenQ K) (by rfl) T.z_len (by decide +kernel) (pa_cons (pv 1) pa_nil)) pa_nil)) (blkOk_by (own := [("_law_k", 2)]) (N := n__law_alike) (sc := defScope s__law_alike) (by decide +kernel)) (fun _ _ _ _ _ => (pg_name (i := 2) sc__law_alike.nd rfl (by first | exact Or.inl rfl | exact Or.inr rfl))) (fun _ _ _ _ _ => pts_nil) (fun _ _ _ _ _ => (pe_k ih hr (pa_cons (pe_ix (ixQ K) (pv 0) (pv 2) (fun _ _ => rfl)) (pa_cons (pe_ix (ixQ K) (pv 1) (pv 2) (fun _ _ => rfl)) pa_nil)) (Nat.le_refl _)))) pa_nil)))))))))), ?_⟩
    have mB : "bool" ∈ ["bool", "int", "str", "tuple", "list"] := by decide
    have mI : "int" ∈ ["bool", "int", "str", "tuple", "list"] := by decide
    have mS : "str" ∈ ["bool", "int", "str", "tuple", "list"] := by decide
    have mT : "tuple" ∈ ["bool", "int", "str", "tuple", "list"] := by decide
    have mL : "list" ∈ ["bool", "int", "str", "tuple", "list"] := by decide
    refine ⟨_, rfl, rfl, _, rfl, ite2 (fun c => ?_) (fun c => ?_)⟩
    · have c1 : u = .non := of_decide_eq_true c
      subst c1
      cases hu
      cases hv
      exact ⟨_, rfl, rfl, q H (Same.refl _)⟩
    have nd : tyN d ≠ "NoneType" := fun z => c (by
      cases hu <;> first | rfl | (simp [tyN] at z))
    clear c
    refine ⟨_, rfl, _, "bool", d, rfl, mB, hu, _, rfl, ite2 (fun c => ?_) (fun c => ?_)⟩
    · refine ⟨_, rfl, _, "bool", d, rfl, mB, hv, _, rfl, itT c ⟨_, rfl, _, rfl, ?_⟩⟩
      obtain ⟨b, rfl⟩ := isT_bool c
      cases hu
      cases hv
      exact ⟨rfl, by rw [decide_eq_true rfl]; exact q H (Same.refl _)⟩
    refine ⟨_, rfl, _, "int", d, rfl, mI, hu, _, rfl, ite2 (fun c2 => ?_) (fun c2 => ?_)⟩
    · refine ⟨_, rfl, _, "int", d, rfl, mI, hv, _, rfl, itT c2 ⟨_, rfl, _, "bool", d, rfl, mB, hv, _, rfl, _, rfl, itT (by rw [Bool.not_eq_true', ← Bool.not_eq_true]; exact c) ⟨_, rfl, _, rfl, ?_⟩⟩⟩
      obtain ⟨b, rfl⟩ := isT_int c2 c
      cases hu
      cases hv
      exact ⟨rfl, by rw [decide_eq_true rfl]; exact q H (Same.refl _)⟩
    refine ⟨_, rfl, _, "str", d, rfl, mS, hu, _, rfl, ite2 (fun c3 => ?_) (fun c3 => ?_)⟩
    · refine ⟨_, rfl, _, "str", d, rfl, mS, hv, _, rfl, itT c3 ⟨_, rfl, _, rfl, ?_⟩⟩
      obtain ⟨b, rfl⟩ := isT_str c3
      cases hu
      cases hv
      exact ⟨rfl, by rw [decide_eq_true rfl]; exact q H (Same.refl _)⟩
    refine ⟨_, rfl, _, "tuple", d, rfl, mT, hu, _, rfl, _, "tuple", d, rfl, mT, hv, rfl, _, rfl, itF (by simp) ?_⟩
    refine ⟨_, rfl, _, "list", d, rfl, mL, hu, _, rfl, _, "list", d, rfl, mL, hv, rfl, _, rfl, itF (by simp) ?_⟩
    obtain ⟨a, b, xs, ys, ds, rfl, rfl, hx, hy, ax, ay, m, rfl, hlen, hal⟩ : ∃ (a b : Addr) (xs ys : List V) (ds : List PyData), v = .ref a ∧ u = .ref b ∧ (SqL K H a xs ∨ SqT K H a xs) ∧ (SqL K H b ys ∨ SqT K H b ys) ∧ DpAll K H xs ds ∧ DpAll K H ys ds ∧ ∃ m, n = m + 1 ∧ ds.length ≤ 100000 ∧ ∀ d ∈ ds, Al m d := by
      cases hu with
      | non => exact absurd rfl nd
      | bl b => exact absurd rfl c
      | int i => exact absurd rfl c2
      | str x => exact absurd rfl c3
      | lst h a =>
        cases hv with
        | lst h' a' =>
          cases n with
          | zero => exact al.elim
          | succ m => exact ⟨_, _, _, _, _, rfl, rfl, .inl h', .inl h, a', a, m, rfl, al.1, al.2⟩
      | tup h a =>
        cases hv with
        | tup h' a' =>
          cases n with
          | zero => exact al.elim
          | succ m => exact ⟨_, _, _, _, _, rfl, rfl, .inr h', .inr h, a', a, m, rfl, al.1, al.2⟩
    have lx := dpAll_len ax
    have ly := dpAll_len ay
    refine ⟨_, rfl, a, xs, rfl, hx, _, rfl, b, ys, rfl, hy, rfl, _, rfl, itF (by rw [lx, ly]; simp) ?_⟩
    refine ⟨_, rfl, b, ys, rfl, hy, (ys.length : Int), rfl, by omega, by omega, fun D hD => lcN_range0 (n := ys.length) (fun _ => some (.bool true)) hD (by omega) (fun i H1 N1 N0 hi sm k1 k0 => ?_) (fun H1 sm lb => ?_)⟩
    · have gx : xs[i]? = some xs[i] := List.getElem?_eq_getElem (by omega)
      have gy : ys[i]? = some ys[i] := List.getElem?_eq_getElem hi
      obtain ⟨d1, e1, p1⟩ := dpAll_get ax gx
      obtain ⟨d2, e2, p2⟩ := dpAll_get ay gy
      rw [e1] at e2
      obtain rfl := Option.some.inj e2
      have hx1 : SqL K H1 a xs ∨ SqT K H1 a xs := hx.imp sm.seq (same_tup sm)
      have hy1 : SqL K H1 b ys ∨ SqT K H1 b ys := hy.imp sm.seq (same_tup sm)
      refine ⟨rfl, yesT ⟨_, rfl, _, rfl, rIx_of hx1 gx ⟨_, rfl, _, rfl, rIx_of hy1 gy ?_⟩⟩⟩
      exact ⟨_, _, d1, rfl, same_dp sm p1, same_dp sm p2, hal d1 (List.mem_of_getElem? e1), fun H2 s2 => k1 _ H2 _ s2 rfl (.bl true)⟩
    · have e : (List.range ys.length).filterMap (fun _ => some (PyData.bool true)) = (List.replicate ys.length true).map PyData.bool := by
        rw [List.filterMap_eq_map', List.map_const', List.length_range, List.map_replicate]
      rw [e] at lb
      obtain ⟨_, zs, h1, h2⟩ := lb
      have e2 := dpAll_bools (K := K) h2.dp
      subst e2
      refine ⟨D, _, rfl, SqL.of h1, ?_⟩
      have e3 : (List.replicate ys.length true).all id = true := by simp
      rw [e3]
      exact q H1 sm
theorem ok__law_alike (T : Tx K mg) : Cl P w K mg base 6 "_law_alike" (spAlike K 6) := ok_alike_n T 6
end
section
variable {P : Program} {w : World} {K : PySem.W.Frag} {mg : Str → Option Value} {base : Heap}
theorem rg_map (a b : Int) : rgV a b = ((List.range (b - a).toNat).map fun (i : Nat) => a + (i : Int)).map V.int := by
  unfold rgV
  rw [List.map_map]
  rfl
theorem ok__law_members (T : Tx K mg) : Cl P w K mg base 1 "_law_members" (spMembers K) := by
  refine T.d__law_members.cl sc__law_members (fun vs H Q E h => ?_) (fun f cdv A outer s H vs Q E hr h => ?_)
  · obtain ⟨n, v, R, rfl, _⟩ := h
    rfl
  obtain ⟨n, v, R, rfl, h1, h2, hD, hk, q⟩ := h
  obtain ⟨a, xs, rfl, hS, hA⟩ := dp_list hD
  have hxl : xs.length = R.length := by rw [dpAll_len hA, List.length_map]
  have h40 := hk.1
  refine ⟨_, (pss_cons (ps_set (i := 2) sc__law_members.nd rfl (by first | exact Or.inl rfl | exact Or.inr rfl) (pe_lst pa_nil))
      (pss_cons (ps_for PassesOwn.never rfl (piL K (pv 1)) (pgT K (by rfl) (pgs_cons (pg_name (i := 3) sc__law_members.nd rfl (by first | exact Or.inl rfl | exact Or.inr rfl)) (pgs_cons (pg_name (i := 4) sc__law_members.nd rfl (by first | exact Or.inl rfl | exact Or.inr rfl)) pgs_nil)))
      (pss_one (ps_set (i := 2) sc__law_members.nd rfl (by first | exact Or.inl rfl | exact Or.inr rfl) (pe_op op_cat (pv 2) (pe_listRg (by rfl) (by rfl) T.z_list (prg_2 (by rfl) T.z_range (pv 3) (pe_op op_add (pv 4) pe_int)))))))
      (pss_one (ps_ret (pe_callB (sortedA w (by rfl)) (by rfl) T.z_sorted (by decide +kernel) (pa_cons (pe_callTy (setI K w (by rfl)) (by rfl) T.z_set (by decide +kernel) (pa_cons (pv 2) pa_nil)) pa_nil)))))), ?_⟩
  refine ⟨Nat.zero_le _, fun o no => ?_⟩
  refine ⟨_, rfl, a, rfl, ⟨_, (same_new no).seq hS⟩, for_list (xs := xs) (fun i σ H1 => ∃ (o : Addr) (ms : List Int) (y3 y4 : Option V), σ = [some (.int n), some (.ref a), some (.ref o), y3, y4] ∧ Same H H1 ∧ H1 o = some (.lst (ms.map V.int)) ∧ ms.length ≤ 64 * i ∧ ∀ k, k ∈ ms ↔ has (R.take i) k = true)
    ⟨o, [], none, none, rfl, same_new no, upd_same, by simp, by simp [has]⟩ (fun i σ H1 _ p => ?_) (fun i x σ H1 hx p => ?_) (fun σ H1 p => ?_)⟩
  · obtain ⟨_, _, _, _, _, sm, _⟩ := p
    exact sm.seq hS
  · obtain ⟨o, ms, y3, y4, rfl, sm, ho, hl, hm⟩ := p
    obtain ⟨d, hd, hx'⟩ := dpAll_get hA hx
    obtain ⟨r, hr', rfl⟩ := get_map hd
    obtain ⟨t, rfl, hT⟩ := dp_pair hx'
    obtain ⟨k1, k2, k3⟩ := hk.2 r (List.mem_of_getElem? hr')
    have hi : i < R.length := (List.getElem?_eq_some_iff.mp hr').1
    refine ⟨t, _, rfl, same_tup sm hT, rfl, _, _, rfl, _, _, rfl, rfl, ?_⟩
    refine ⟨_, rfl, _, rfl, _, rfl, _, _, rfl, rfl, r.1, r.2 + 1, rfl, rfl, RgOk.of_le k1 (by omega) (by omega) (by omega), fun g ng => ?_⟩
    have s2 := sm.trans (same_new (o := .lst (rgV r.1 (r.2 + 1))) ng)
    have hlen : (rgV r.1 (r.2 + 1)).length ≤ 64 := by
      rw [rgV_length]
      omega
    refine ⟨o, g, _, _, rfl, rfl, same_new ng _ _ ho, upd_same, Nat.le_of_lt (sizeOk (by rw [List.length_map]; omega)), fun p np => ?_⟩
    refine ⟨p, ms ++ (List.range (r.2 + 1 - r.1).toNat).map fun (i : Nat) => r.1 + (i : Int), _, _, rfl, s2.trans (same_new np), ?_, ?_, fun k => ?_⟩
    · rw [upd_same, List.map_append, rg_map]
    · rw [List.length_append, List.length_map, List.length_range]
      omega
    · rw [List.mem_append, hm k, List.take_add_one, hr', has_append, Bool.or_eq_true]
      have e : has (some r).toList k = true ↔ r.1 ≤ k ∧ k ≤ r.2 := by rw [has_iff]; simp
      rw [e, List.mem_map]
      constructor
      · rintro (z | ⟨j, hj, rfl⟩)
        · exact .inl z
        · have := List.mem_range.mp hj
          exact .inr ⟨by omega, by omega⟩
      · rintro (z | ⟨z1, z2⟩)
        · exact .inl z
        · exact .inr ⟨(k - r.1).toNat, List.mem_range.mpr (by omega), by omega⟩
  · obtain ⟨o, ms, y3, y4, rfl, sm, ho, hl, hm⟩ := p
    rw [hxl, List.take_length] at hm
    refine ⟨_, rfl, o, ms, rfl, SqL.of ho, by unfold scanBound; omega, fun g c ng hc => ?_⟩
    refine ⟨g, _, c, rfl, upd_same, by omega, fun ns p hp hmem hcl np => ?_⟩
    have e : ns = allIn n R := by
      refine rising_ext hp (rising_filter _) fun k => ?_
      rw [hmem k, decide_eq_true_iff, hm k, mem_allIn hk]
    subst e
    exact q _ _ (sm.trans ((same_new ng).trans (same_new np))) (newV_ints (sm.free (same_new ng |>.free np)) upd_same)
def spLTold (K : PySem.W.Frag) : Sp := fun vs H Q _ => ∃ (v : V) (ns : List Int), vs = [v] ∧ Dp K H v (eI ns) ∧ ns.Pairwise (· < ·) ∧ ns.length ≤ 1000 ∧ ∀ H' p, Same H H' → NewV H H' p (eR (told ns)) → Q p H'
theorem ok__law_told (T : Tx K mg) : Cl P w K mg base 1 "_law_told" (spLTold K) := by
  refine T.d__law_told.cl sc__law_told (fun vs H Q E h => ?_) (fun f cdv A outer s H vs Q E hr h => ?_)
  · obtain ⟨v, ns, rfl, _⟩ := h
    rfl
  obtain ⟨v, ns, rfl, hD, hp, hl, q⟩ := h
  obtain ⟨a, xs, rfl, hS, hA⟩ := dp_list hD
  obtain rfl := dpAll_ints hA
  refine ⟨_, (pss_cons (ps_set (i := 1) sc__law_told.nd rfl (by first | exact Or.inl rfl | exact Or.inr rfl) (pe_lc (own := [("_law_number", 2)]) (g := (gName 2)) (tt := _) (by rfl) sc__law_told.nd (piL K (pv 0)) (blkOk_by (own := [("_law_number", 2)]) (N := n__law_told) (sc := defScope s__law_told) (by decide +kernel)) (fun _ _ _ _ _ => (pg_name (i := 2) sc__law_told.nd rfl (by first | exact Or.inl rfl | exact Or.inr rfl))) (fun _ _ _ _ _ => (pts_one (pt_cmpR (notInQ K) (pe_op op_sub (pv 2) pe_int) (pv 0) (by rfl)))) (fun _ _ _ _ _ => (pv 2))))
      (pss_cons (ps_set (i := 3) sc__law_told.nd rfl (by first | exact Or.inl rfl | exact Or.inr rfl) (pe_lc (own := [("_law_number", 2)]) (g := (gName 2)) (tt := _) (by rfl) sc__law_told.nd (piL K (pv 0)) (blkOk_by (own := [("_law_number", 2)]) (N := n__law_told) (sc := defScope s__law_told) (by decide +kernel)) (fun _ _ _ _ _ => (pg_name (i := 2) sc__law_told.nd rfl (by first | exact Or.inl rfl | exact Or.inr rfl))) (fun _ _ _ _ _ => (pts_one (pt_cmpR (notInQ K) (pe_op op_add (pv 2) pe_int) (pv 0) (by rfl)))) (fun _ _ _ _ _ => (pv 2))))
      (pss_one (ps_ret (pe_lc (own := [("_law_k", 4)]) (g := (gName 4)) (tt := tYes) (by rfl) sc__law_told.nd (pi_range1 (by rfl) T.z_range (pa_cons (pe_callB (lenQ K) (by rfl) T.z_len (by decide +kernel) (pa_cons (pv 1) pa_nil)) pa_nil)) (blkOk_by (own := [("_law_k", 4)]) (N := n__law_told) (sc := defScope s__law_told) (by decide +kernel)) (fun _ _ _ _ _ => (pg_name (i := 4) sc__law_told.nd rfl (by first | exact Or.inl rfl | exact Or.inr rfl))) (fun _ _ _ _ _ => pts_nil) (fun _ _ _ _ _ => (pe_tup (pa_cons (pe_ix (ixL K) (pv 1) (pv 4) (fun _ _ => rfl)) (pa_cons (pe_ix (ixL K) (pv 3) (pv 4) (fun _ _ => rfl)) pa_nil))))))))), ?_⟩
  refine ⟨_, rfl, a, rfl, ⟨_, hS⟩, fun D1 n1 => lcN_list (fun i => (ns[i]?).bind fun k => if (!decide (k - 1 ∈ ns)) = true then some (.int k) else none) hS n1 (by rw [List.length_map]; omega) (fun i x H1 N1 N0 hx sm k1 k0 => ?_) (fun H1 s1 lb1 => ?_)⟩
  · obtain ⟨k, hk, rfl⟩ := map_get hx
    refine ⟨rfl, _, rfl, _, _, rfl, rfl, _, rfl, a, _, rfl, .inl (sm.seq hS), rfl, flat_ints ns, _, rfl, ite2 (fun c => ?_) (fun c => ?_)⟩
    · rw [if_pos rfl, inV_ints] at c
      exact ⟨_, rfl, k1 _ H1 _ (Same.refl _) (by rw [hk, Option.bind_some, if_pos c]) (.int _)⟩
    · rw [if_pos rfl, inV_ints] at c
      exact k0 H1 (Same.refl _) (by rw [hk, Option.bind_some, if_neg c])
  rw [List.length_map, list_ints (p := fun k => !decide (k - 1 ∈ ns)), ← told_firsts hp] at lb1
  refine ⟨_, rfl, a, rfl, ⟨_, s1.seq hS⟩, fun D2 n2 => lcN_list (fun i => (ns[i]?).bind fun k => if (!decide (k + 1 ∈ ns)) = true then some (.int k) else none) (s1.seq hS) n2 (by rw [List.length_map]; omega) (fun i x H2 N1 N0 hx sm k1 k0 => ?_) (fun H2 s2 lb2 => ?_)⟩
  · obtain ⟨k, hk, rfl⟩ := map_get hx
    refine ⟨rfl, _, rfl, _, _, rfl, rfl, _, rfl, a, _, rfl, .inl (sm.seq (s1.seq hS)), rfl, flat_ints ns, _, rfl, ite2 (fun c => ?_) (fun c => ?_)⟩
    · rw [if_pos rfl, inV_ints] at c
      exact ⟨_, rfl, k1 _ H2 _ (Same.refl _) (by rw [hk, Option.bind_some, if_pos c]) (.int _)⟩
    · rw [if_pos rfl, inV_ints] at c
      exact k0 H2 (Same.refl _) (by rw [hk, Option.bind_some, if_neg c])
  rw [List.length_map, list_ints (p := fun k => !decide (k + 1 ∈ ns)), ← told_lasts hp] at lb2
  have f1 := (lb1.same s2).ints
  have f2 := lb2.ints
  have hl1 : (((told ns).map (·.1)).map V.int).length = (told ns).length := by rw [List.length_map, List.length_map]
  have hle := told_len ns
  refine ⟨_, rfl, D1, _, rfl, .inl (SqL.of f1), _, rfl, by omega, by omega, fun D3 n3 => lcN_range0 (fun i => ((told ns)[i]?).bind fun r => some (eP r)) n3 (by omega) (fun i H3 N1 N0 hi sm k1 k0 => ?_) (fun H3 s3 lb3 => ?_)⟩
  · rw [hl1] at hi
    have g : (told ns)[i]? = some (told ns)[i] := List.getElem?_eq_getElem hi
    have g1 : (((told ns).map (·.1)).map V.int)[i]? = some (.int (told ns)[i].1) := by
      rw [List.getElem?_map, List.getElem?_map, g]
      rfl
    have g2 : (((told ns).map (·.2)).map V.int)[i]? = some (.int (told ns)[i].2) := by
      rw [List.getElem?_map, List.getElem?_map, g]
      rfl
    refine ⟨rfl, yesT ⟨_, rfl, _, rfl, D1, _, _, _, rfl, rfl, SqL.of (sm _ _ f1), atI_nat g1, _, rfl, _, rfl, D2, _, _, _, rfl, rfl, SqL.of (sm _ _ f2), atI_nat g2, by show 2 ≤ sizeLine; decide, fun t nt => ?_⟩⟩
    exact k1 _ _ _ (same_new nt) (by rw [g]; rfl) (new_pair nt)
  · rw [hl1, list_map] at lb3
    exact q H3 _ (s1.trans (s2.trans s3)) (lb3.newV.mono (s1.trans s2) (Same.refl _))
end
section
variable {P : Program} {w : World} {K : PySem.W.Frag} {mg : Str → Option Value} {base : Heap}
def spLaw (K : PySem.W.Frag) : Sp := fun vs H Q _ => ∃ (a : Addr) (ns : List Int), vs = [.ref a] ∧ SqL K H a (ns.map V.int) ∧ ns.length ≤ 63 ∧ ∀ H', Q (.bl true) H'
/-- the ranges that are left behind a look -/
theorem ivl_less {lo hi mid : Nat} (h1 : lo ≤ mid) (h2 : mid < hi) : ((ivl lo hi).filter fun x => decide (x ≠ (mid : Int)) && (decide (x < (mid : Int)) == true)) = ivl lo mid := by
  refine rising_ext ((ivl_rising lo hi).filter _) (ivl_rising lo mid) fun x => ?_
  rw [List.mem_filter, mem_ivl, mem_ivl, Bool.and_eq_true, decide_eq_true_iff, beq_iff_eq, decide_eq_true_iff]
  omega
theorem ivl_more {lo hi mid : Nat} (h1 : lo ≤ mid) (h2 : mid < hi) : ((ivl lo hi).filter fun x => decide (x ≠ (mid : Int)) && (decide (x < (mid : Int)) == false)) = ivl (mid + 1) hi := by
  refine rising_ext ((ivl_rising lo hi).filter _) (ivl_rising (mid + 1) hi) fun x => ?_
  rw [List.mem_filter, mem_ivl, mem_ivl, Bool.and_eq_true, decide_eq_true_iff, beq_iff_eq, decide_eq_false_iff_not]
  omega
theorem ivl_cons {lo hi : Nat} (h : lo < hi) : (ivl lo hi).map V.int = V.int lo :: (ivl (lo + 1) hi).map V.int := by
  have e : ivl lo hi = (lo : Int) :: ivl (lo + 1) hi := by
    refine rising_ext (ivl_rising lo hi) (List.pairwise_cons.mpr ⟨fun x hx => ?_, ivl_rising _ _⟩) fun x => ?_
    · have := mem_ivl.mp hx
      omega
    · rw [List.mem_cons, mem_ivl, mem_ivl]
      omega
  rw [e]
  rfl
theorem ivl_snoc {lo hi : Nat} (h : lo < hi) : (ivl lo hi).map V.int = (ivl lo (hi - 1)).map V.int ++ [V.int ((hi : Int) - 1)] := by
  have e : ivl lo hi = ivl lo (hi - 1) ++ [(hi : Int) - 1] := by
    refine rising_ext (ivl_rising lo hi) (List.pairwise_append.mpr ⟨ivl_rising _ _, by simp, fun x hx y hy => ?_⟩) fun x => ?_
    · have := mem_ivl.mp hx
      have := List.mem_singleton.mp hy
      omega
    · rw [List.mem_append, List.mem_singleton, mem_ivl, mem_ivl]
      omega
  rw [e, List.map_append]
  rfl
theorem seq_const {v : V} {i : Nat} {u : TS} {D : Ends} {σ : L2.St} {H : Hp} (h : u D (σ.set i (some v)) H) : tSeq (tAsg (tC v) (gName i)) u D σ H := h
set_option maxHeartbeats 8000000 in
theorem ok_law (T : Tx K mg) {f : Addr} {fd : FuncData} (F : Fun K "law" "law" s_law f fd) : FnOk P w K mg base CX0 8 f fd ["_law_script"] (spLaw K) := by
  refine F.ok sc_law (fun vs H Q E h => ?_) (fun cdv A outer s H vs Q E hr h => ?_)
  · obtain ⟨a, ns, rfl, _⟩ := h
    rfl
  obtain ⟨a, ns, rfl, hS, h63, q⟩ := h
  refine ⟨_, (pss_cons (ps_set (i := 1) sc_law.nd rfl (by first | exact Or.inl rfl | exact Or.inr rfl) (pe_k (ok__law_dice T) hr (pa_cons (pv 0) (pa_cons pe_int pa_nil))))
      (pss_cons (ps_set (i := 2) sc_law.nd rfl (by first | exact Or.inl rfl | exact Or.inr rfl) (pe_k (ok__law_size T) hr (pa_cons (pv 1) pa_nil)))
      (pss_cons (ps_set (i := 3) sc_law.nd rfl (by first | exact Or.inl rfl | exact Or.inr rfl) (pe_k (ok__law_set T) hr (pa_cons (pv 1) (pa_cons (pv 2) (pa_cons pe_int pa_nil)))))
      (pss_cons (ps_set (i := 4) sc_law.nd rfl (by first | exact Or.inl rfl | exact Or.inr rfl) (pe_k (ok__law_members T) hr (pa_cons (pv 2) (pa_cons (pv 3) pa_nil))))
      (pss_cons (ps_set (i := 5) sc_law.nd rfl (by first | exact Or.inl rfl | exact Or.inr rfl) (pe_k (ok__law_told T) hr (pa_cons (pv 4) pa_nil)))
      (pss_cons (ps_set (i := 6) sc_law.nd rfl (by first | exact Or.inl rfl | exact Or.inr rfl) pe_int)
      (pss_cons (ps_set (i := 7) sc_law.nd rfl (by first | exact Or.inl rfl | exact Or.inr rfl) pe_int)
      (pss_cons (ps_while PassesOwn.never (pt_cmpR op_le (pv 7) (pe_callB (lenQ K) (by rfl) T.z_len (by decide +kernel) (pa_cons (pv 5) pa_nil)) (nomark _))
      (pss_cons (ps_set (i := 7) sc_law.nd rfl (by first | exact Or.inl rfl | exact Or.inr rfl) (pe_op op_mul (pv 7) pe_int))
      (pss_one (ps_set (i := 6) sc_law.nd rfl (by first | exact Or.inl rfl | exact Or.inr rfl) (pe_op op_add (pv 6) pe_int)))))
      (pss_cons (ps_for PassesOwn.never rfl (pi_range1 (by rfl) T.z_range (pa_cons (pv 2) pa_nil)) (pg_name (i := 8) sc_law.nd rfl (by first | exact Or.inl rfl | exact Or.inr rfl))
      (pss_cons (ps_set (i := 9) sc_law.nd rfl (by first | exact Or.inl rfl | exact Or.inr rfl) (pe_listRg (by rfl) (by rfl) T.z_list (prg_1 (by rfl) T.z_range (pe_callB (lenQ K) (by rfl) T.z_len (by decide +kernel) (pa_cons (pv 5) pa_nil)))))
      (pss_cons (ps_set (i := 10) sc_law.nd rfl (by first | exact Or.inl rfl | exact Or.inr rfl) (pe_lst pa_nil))
      (pss_cons (ps_set (i := 11) sc_law.nd rfl (by first | exact Or.inl rfl | exact Or.inr rfl) pe_bl)
      (pss_cons (ps_while PassesOwn.never (PW.pt (pw_and (pt_cmpR (neD K hr.units) (pv 9) (pe_lst pa_nil) (nomark _)) (pw_and1 (pt_not (pt_val (pv 11))))))
      (pss_cons (ps_set (i := 12) sc_law.nd rfl (by first | exact Or.inl rfl | exact Or.inr rfl) (pe_op op_fdiv (pe_op op_add (pe_op op_add (pe_ix (ixL K) (pv 9) pe_int (fun _ _ => rfl)) (pe_ix (ixL K) (pv 9) (pe_un un_neg pe_int) (fun _ _ => rfl))) pe_int) pe_int))
      (pss_cons (ps_expr (pe_bm PySem.F.plainAttrs_list PySem.F.slot_list_append PySem.F.type_list_append mt_append (pv 10) (pa_cons (pe_ix (ixL K) (pv 5) (pv 12) (fun _ _ => rfl)) pa_nil)))
      (pss_cons (ps_set (i := 11) sc_law.nd rfl (by first | exact Or.inl rfl | exact Or.inr rfl) (pe_chain op_le op_le (pe_ix (ixT K) (pe_ix (ixL K) (pv 5) (pv 12) (fun _ _ => rfl)) pe_int (fun _ _ => rfl)) (pv 8) (pe_ix (ixT K) (pe_ix (ixL K) (pv 5) (pv 12) (fun _ _ => rfl)) pe_int (fun _ _ => rfl))))
      (pss_cons (ps_set (i := 13) sc_law.nd rfl (by first | exact Or.inl rfl | exact Or.inr rfl) (pe_cmpR op_lt (pv 8) (pe_ix (ixT K) (pe_ix (ixL K) (pv 5) (pv 12) (fun _ _ => rfl)) pe_int (fun _ _ => rfl)) (nomark _)))
      (pss_one (ps_setLc (i := 9) (own := [("_law_one", 14)]) (g := (gName 14)) (tt := _) (by rfl) sc_law.nd rfl rfl (sw_true rfl rfl rfl (by decide +kernel)) (piL K (pv 9)) (blkOk_by (own := [("_law_one", 14)]) (N := n_law) (sc := defScope s_law) (by decide +kernel)) (fun _ _ _ _ _ => (pg_name (i := 14) sc_law.nd rfl (by first | exact Or.inl rfl | exact Or.inr rfl))) (fun _ _ _ _ _ => (pts_one (PW.pt (pw_and (pt_cmpR op_ne (pv 14) (pv 12) (nomark _)) (pw_and1 (pt_cmpR op_eq (pe_cmpR op_lt (pv 14) (pv 12) (nomark _)) (pv 13) (nomark _))))))) (fun _ _ _ _ _ => (pv 14)))))))))
      (pss_cons (ps_set (i := 15) sc_law.nd rfl (by first | exact Or.inl rfl | exact Or.inr rfl) (pe_k (ok_inside T) hr (pa_cons (pv 2) (pa_cons (pv 3) (pa_cons (pv 8) pa_nil)))))
      (pss_cons (ps_if (PW.pt (pw_or (pt_not (pt_val (pe_k (ok__law_alike T) hr (pa_cons (pv 15) (pa_cons (pe_tup (pa_cons (pe_cmpR (inQ K) (pv 8) (pv 4) (by rfl)) (pa_cons (pv 10) pa_nil))) pa_nil))))) (pw_or (pt_cmpR op_gt (pe_callB (lenQ K) (by rfl) T.z_len (by decide +kernel) (pa_cons (pv 10) pa_nil)) (pv 6) (nomark _)) (pw_or1 (pt_cmpR op_ne (pv 11) (pe_cmpR (inQ K) (pv 8) (pv 4) (by rfl)) (nomark _)))))) (pss_one (ps_ret pe_bl)) pss_nil)
      (pss_one (ps_expr (pe_bm PySem.F.plainAttrs_list PySem.F.slot_list_append PySem.F.type_list_append mt_append (pe_ix (ixT K) (pv 15) pe_int (fun _ _ => rfl)) (pa_cons (pe_tup pa_nil) pa_nil)))))))))))
      (pss_one (ps_ret pe_bl))))))))))), ?_⟩
  refine ⟨_, rfl, a, ns, 0, rfl, hS, h63, Int.le_refl 0, fun H1 d D s1 nd hd k1 => ?_⟩
  refine ⟨_, rfl, d, D, rfl, hd, k1, fun n H2 D2 hn1 hn2 sb2 hd2 k2 => ?_⟩
  refine ⟨_, rfl, _, rfl, d, D2, n, 40, rfl, hn1, hn2, by decide, hd2, k2, fun H3 D3 v3 R sb3 hd3 k3 nv3 oR lR => ?_⟩
  refine ⟨_, rfl, _, rfl, n, v3, R, rfl, hn1, hn2, nv3.dp, oR, fun H4 p4 s4 nv4 => ?_⟩
  have rp : (allIn n R).Pairwise (· < ·) := rising_filter _
  refine ⟨_, rfl, p4, _, rfl, nv4.dp, rp, Nat.le_trans (allIn_len n _) (by omega), fun H5 p5 s5 nv5 => ?_⟩
  have ti : TI (told (allIn n R)) (allIn n R) := told_ti rp
  have hTT : told (allIn n R) = TR n (has R) := rfl
  have h40 := (TR_ok hn2 (has R)).1
  have hHas : ∀ k, (HV (TR n (has R)) k 0 (TR n (has R)).length).1 = decide (k ∈ allIn n R) := fun k => by
    rw [← hTT, HV_has ti.sep ti.le, told_has rp]
  rw [hTT] at nv5 ti
  generalize hg : TR n (has R) = TT at *
  obtain ⟨a4, x4, rfl, f4, h4, d4⟩ := newV_list nv4
  obtain rfl := dpAll_ints (K := K) d4.dp
  obtain ⟨a5, x5, rfl, f5, h5, d5⟩ := newV_list nv5
  have xl : x5.length = TT.length := by rw [d5.len, List.length_map]
  have h45 := s5 _ _ h4
  have p3 : Dp K H5 v3 (eR R) := (nv3.mono (Same.refl _) (s4.trans s5)).dp
  have hA5 : DpAll K H5 x5 (TT.map eP) := same_dpAll fr_same d5.dp
  -- the halvings
  refine ⟨fun m σ H6 => ∃ (j : Nat), m = TT.length + 1 - 2 ^ j ∧ σ = [some (.ref a), some (.ref d), some (.int n), some v3, some (.ref a4), some (.ref a5), some (.int j), some (.int ((2 ^ j : Nat) : Int)), none, none, none, none, none, none, none, none] ∧ H6 = H5, ⟨_, 0, rfl, rfl, rfl⟩, fun m σ H6 hW => ?_⟩
  obtain ⟨j, rfl, rfl, rfl⟩ := hW
  refine ⟨_, rfl, _, rfl, a5, x5, rfl, .inl (SqL.of h5), _, _, rfl, rfl, _, rfl, ite2 (fun c => ?_) (fun c => ?_)⟩
  · have c1 : ((2 ^ j : Nat) : Int) ≤ (x5.length : Int) := of_decide_eq_true c
    have p2 : 2 ^ (j + 1) = 2 * 2 ^ j := by rw [Nat.pow_succ, Nat.mul_comm]
    have pp : 0 < 2 ^ j := Nat.pow_pos (by decide)
    refine ⟨fun σ' H' => σ' = [some (.ref a), some (.ref d), some (.int n), some v3, some (.ref a4), some (.ref a5), some (.int ((j + 1 : Nat) : Int)), some (.int ((2 ^ (j + 1) : Nat) : Int)), none, none, none, none, none, none, none, none] ∧ H' = H6, fun σ' H' hN => ⟨_, ?_, j + 1, rfl, hN⟩, ?_⟩
    · omega
    refine ⟨_, rfl, _, _, rfl, rfl, .inr ⟨by decide, by decide⟩, _, rfl, _, _, rfl, rfl, ?_, rfl⟩
    have e : (((2 ^ j : Nat) : Int) * 2) = ((2 ^ (j + 1) : Nat) : Int) := by rw [p2]; omega
    dsimp only
    rw [e]
    rfl
  have c1 : ¬ ((2 ^ j : Nat) : Int) ≤ (x5.length : Int) := fun z => c (decide_eq_true z)
  have hj : TT.length < 2 ^ j := by omega
  clear c
  -- each sign
  refine ⟨_, rfl, (n : Int), rfl, by omega, by omega, ?_⟩
  rw [Int.toNat_natCast]
  refine for_range (lo := 0) (n := n) (fun i σ G => ∃ y8 y9 y10 y11 y12 y13 y14 y15 : Option V, σ = [some (.ref a), some (.ref d), some (.int n), some v3, some (.ref a4), some (.ref a5), some (.int j), some (.int ((2 ^ j : Nat) : Int)), y8, y9, y10, y11, y12, y13, y14, y15] ∧ Same H6 G) ⟨_, _, _, _, _, _, _, _, rfl, Same.refl _⟩ (fun i σ G hi p => ?_) (fun σ G p => q G)
  obtain ⟨y8, y9, y10, y11, y12, y13, y14, y15, rfl, sm⟩ := p
  rw [Int.zero_add]
  refine ⟨_, rfl, a5, x5, rfl, .inl (SqL.of (sm _ _ h5)), _, rfl, RgOk.of_le (by decide) (by omega) (by decide) (by omega), fun l0 nl0 => ?_⟩
  refine ⟨Nat.zero_le _, fun o no => ?_⟩
  have e0 : rgV 0 (x5.length : Int) = (ivl 0 TT.length).map V.int := by
    unfold rgV ivl
    rw [List.map_map, xl]
    simp
  rw [e0] at no ⊢
  have sG : Same G (upd (upd G l0 (.lst ((ivl 0 TT.length).map V.int))) o (.lst [])) := (same_new nl0).trans (same_new no)
  have nGo : G o = none := (same_new nl0).free no
  have hl0 : upd (upd G l0 (.lst ((ivl 0 TT.length).map V.int))) o (.lst []) l0 = some (.lst ((ivl 0 TT.length).map V.int)) := same_new no _ _ upd_same
  have ho0 : upd (upd G l0 (.lst ((ivl 0 TT.length).map V.int))) o (.lst []) o = some (.lst []) := upd_same
  generalize upd (upd G l0 (.lst ((ivl 0 TT.length).map V.int))) o (.lst []) = G0 at sG hl0 ho0
  -- the looks
  refine seq_const (v := .bl false) (i := 11) ?_
  refine seq_join (t := tWhile _ _) (fun σ' H' => ∃ (y9 y12 y13 y14 : Option V) (xs : List V), σ' = [some (.ref a), some (.ref d), some (.int n), some v3, some (.ref a4), some (.ref a5), some (.int j), some (.int ((2 ^ j : Nat) : Int)), some (.int (i : Int)), y9, some (.ref o), some (.bl (HV TT (i : Int) 0 TT.length).1), y12, y13, y14, y15] ∧ Same G H' ∧ H' o = some (.lst xs) ∧ DpAll K H6 xs ((HV TT (i : Int) 0 TT.length).2.map eP)) (fun σ' H' hJ => ?_) (fun N hN => ?_)
  · obtain ⟨y9', y12', y13', y14', xs, rfl, sH, ho, hxs⟩ := hJ
    have sH6 := sm.trans sH
    have hlen := HV_le (T := TT) (k := (i : Int)) TT.length 0 TT.length (by omega) (Nat.le_refl _)
    have hlog := HV_len (T := TT) (k := (i : Int)) j 0 TT.length (Nat.le_refl _) (by omega)
    have hxl : xs.length = (HV TT (i : Int) 0 TT.length).2.length := by rw [dpAll_len hxs, List.length_map]
    refine ⟨_, rfl, _, rfl, _, rfl, n, v3, R, (i : Int), rfl, hn1, hn2, same_dp sH6 p3, oR, by omega, by omega, fun H7 p7 s7 nv7 => ?_⟩
    rw [hg] at nv7
    -- the same answer
    have hH := hHas (i : Int)
    generalize HV TT (i : Int) 0 TT.length = hv at *
    refine ⟨_, rfl, _, rfl, _, rfl, a4, _, rfl, .inl (SqL.of ((sH6.trans s7) _ _ h45)), rfl, flat_ints _, _, rfl, by show 2 ≤ sizeLine; decide, fun tp ntp => ?_⟩
    rw [if_neg Bool.false_ne_true, inV_ints, ← hH]
    have s8 : Same H7 (upd H7 tp (.tup [.bl hv.1, .ref o])) := same_new ntp
    have pd : Dp K (upd H7 tp (.tup [.bl hv.1, .ref o])) (.ref tp) (.tuple [.bool hv.1, eR hv.2]) := .tup (SqT.of upd_same) (.cons (.bl _) (.cons (.lst (SqL.of (s8 _ _ (s7 _ _ ho))) (same_dpAll (sH6.trans (s7.trans s8)) hxs)) .nil))
    refine ⟨_, _, _, rfl, (nv7.mono (Same.refl _) s8).dp, pd, ⟨by show 2 ≤ 100000; decide, fun z hz => ?_⟩, fun H9 s9 => ⟨_, rfl, iteF ?_⟩⟩
    · simp at hz
      rcases hz with rfl | rfl
      · exact Al.bool _
      · exact Al.eR (by omega)
    have t9 := s7.trans (s8.trans s9)
    refine ⟨_, rfl, o, xs, rfl, .inl (SqL.of (t9 _ _ ho)), _, rfl, _, _, rfl, rfl, false, bF (by rw [hxl]; omega), iteF ?_⟩
    refine ⟨_, rfl, _, rfl, _, rfl, a4, _, rfl, .inl (SqL.of ((sH6.trans t9) _ _ h45)), rfl, flat_ints _, rfl, _, rfl, itF ?_ ?_⟩
    · rw [if_neg Bool.false_ne_true, inV_ints, ← hH]
      simp
    -- the answer is changed
    cases nv7 with
    | tup z1 z2 =>
      cases z2 with
      | cons z3 z4 =>
        cases z4 with
        | cons z5 z6 =>
          cases z6
          cases z3
          cases z5 with
          | lst w1 w2 =>
            rename_i ta lk lx
            obtain ⟨w3, w4⟩ := fr_some w1
            obtain ⟨w5, w6⟩ := fr_some z1
            have s79 := s8.trans s9
            have hlk := s79 _ _ w4
            refine ⟨_, rfl, ta, _, 1, _, rfl, rfl, SqT.of (s79 _ _ w6), rfl, .inl ⟨rfl, _, SqL.of hlk⟩, Nat.zero_le _, fun t2 nt2 => ?_⟩
            refine ⟨lk, lx, _, rfl, rfl, same_new nt2 _ _ hlk, sizeOk (by rw [w2.len, List.length_map]; omega), ?_⟩
            exact ⟨_, _, _, _, _, _, _, _, rfl, same_upd ((sH6.trans t9).trans (same_new nt2)) (sH6.free w3)⟩
  · refine ⟨fun m σ' H' => ∃ (lo hi : Nat) (fo : Bool) (l : Addr) (xs : List V) (L : List (Int × Int)) (y12 y13 y14 : Option V), m = (if fo then 0 else hi - lo + 1) ∧ σ' = [some (.ref a), some (.ref d), some (.int n), some v3, some (.ref a4), some (.ref a5), some (.int j), some (.int ((2 ^ j : Nat) : Int)), some (.int (i : Int)), some (.ref l), some (.ref o), some (.bl fo), y12, y13, y14, y15] ∧ Same G H' ∧ H' o = some (.lst xs) ∧ l ≠ o ∧ H' l = some (.lst ((ivl lo hi).map V.int)) ∧ DpAll K H6 xs (L.map eP) ∧ hi ≤ TT.length ∧ L.length + (hi - lo) ≤ 1000 ∧ (if fo then HV TT (i : Int) 0 TT.length = (true, L) else HV TT (i : Int) 0 TT.length = ((HV TT (i : Int) lo hi).1, L ++ (HV TT (i : Int) lo hi).2)),
      ⟨_, 0, TT.length, false, l0, [], [], _, _, _, rfl, rfl, sG, ho0, ne_of_none upd_same no, hl0, .nil, Nat.le_refl _, by simp; omega, by simp⟩, fun m σ' H' hW => ?_⟩
    obtain ⟨lo, hi', fo, l, xs, L, y12', y13', y14', rfl, rfl, sH, ho, nlo, hl, hxs, hhi, hLl, hHV⟩ := hW
    have hxsl : xs.length = L.length := by rw [dpAll_len hxs, List.length_map]
    have sH6 := sm.trans sH
    refine ⟨_, rfl, Nat.zero_le _, fun p np => ⟨eI (ivl lo hi'), .list [], .lst (SqL.of (same_new np _ _ hl)) (dpAll_ofInts _), .lst (SqL.of upd_same) .nil, (Sh.eI (n := 0) _).shaped, (sh_nil (n := 0)).shaped, _, rfl, ?_⟩⟩
    have sp : Same H' (upd H' p (.lst [])) := same_new np
    have ho2 := sp _ _ ho
    have hl2 := sp _ _ hl
    have sG2 := sH.trans sp
    generalize upd H' p (.lst []) = H2' at sp ho2 hl2 sG2
    have e1 : PyData.eqv (eI (ivl lo hi')) (.list []) = (ivl lo hi').isEmpty := by
      show PyData.eqv (.list _) _ = _
      rw [eqv_nil]
      cases ivl lo hi' <;> rfl
    rw [e1]
    by_cases c : lo < hi'
    · have ne : (ivl lo hi').isEmpty = false := by
        cases h : ivl lo hi' with
        | nil => have := ivl_len lo hi'; rw [h] at this; simp at this; omega
        | cons x r => rfl
      refine itT (by rw [ne]; rfl) ⟨_, rfl, fo, rfl, ?_⟩
      cases fo with
      | true => exact iteF (hN _ _ ⟨_, _, _, _, xs, by rw [if_pos rfl] at hHV; rw [hHV], sG2, ho2, by rw [if_pos rfl] at hHV; rw [hHV]; exact hxs⟩)
      | false =>
        rw [if_neg Bool.false_ne_true] at hHV
        refine iteT ?_
        -- a look
        have hmid : (lo + hi') / 2 < TT.length := by omega
        obtain ⟨r, hr'⟩ : ∃ r, TT[(lo + hi') / 2]? = some r := ⟨_, List.getElem?_eq_getElem hmid⟩
        have gx : x5[(lo + hi') / 2]? = some x5[(lo + hi') / 2] := List.getElem?_eq_getElem (by omega)
        obtain ⟨dd, hdd, hdn⟩ := dpAll_get hA5 gx
        rw [List.getElem?_map, hr'] at hdd
        obtain rfl := Option.some.inj hdd
        obtain ⟨t, et, hT⟩ := dp_pair hdn
        rw [et] at gx hdn
        have step := HV_step (k := (i : Int)) c hr'
        have em : ((lo : Int) + ((hi' : Int) - 1) + 1) / 2 = (((lo + hi') / 2 : Nat) : Int) := by omega
        have s26 := sm.trans sG2
        refine ⟨fun σ3 H3' => ∃ (lo' hi2 : Nat) (fo : Bool) (l : Addr) (xs : List V) (L : List (Int × Int)) (y12 y13 y14 : Option V), (if fo then 0 else hi2 - lo' + 1) < (if false then 0 else hi' - lo + 1) ∧ σ3 = [some (.ref a), some (.ref d), some (.int n), some v3, some (.ref a4), some (.ref a5), some (.int j), some (.int ((2 ^ j : Nat) : Int)), some (.int (i : Int)), some (.ref l), some (.ref o), some (.bl fo), y12, y13, y14, y15] ∧ Same G H3' ∧ H3' o = some (.lst xs) ∧ l ≠ o ∧ H3' l = some (.lst ((ivl lo' hi2).map V.int)) ∧ DpAll K H6 xs (L.map eP) ∧ hi2 ≤ TT.length ∧ L.length + (hi2 - lo') ≤ 1000 ∧ (if fo then HV TT (i : Int) 0 TT.length = (true, L) else HV TT (i : Int) 0 TT.length = ((HV TT (i : Int) lo' hi2).1, L ++ (HV TT (i : Int) lo' hi2).2)), fun σ3 H3' h3 => ?_, ?_⟩
        · obtain ⟨lo', hi2, fo, l, xs, L, y, y', y'', z, z2⟩ := h3
          exact ⟨_, z, lo', hi2, fo, l, xs, L, y, y', y'', rfl, z2⟩
        have hl3 := hl2
        rw [ivl_cons c] at hl3
        have hl4 := hl2
        rw [ivl_snoc c] at hl4
        refine ⟨_, rfl, l, _, 0, _, rfl, rfl, SqL.of hl3, atI_nat (j := 0) rfl, _, rfl, 1, rfl, l, _, -1, _, rfl, rfl, SqL.of hl4, atI_last _ _, _, _, rfl, rfl, _, _, rfl, rfl, _, _, rfl, rfl, ⟨by decide, by decide⟩, ?_⟩
        dsimp only
        rw [em]
        have b1 : lo ≤ (lo + hi') / 2 := by omega
        have b2 : (lo + hi') / 2 < hi' := by omega
        clear et em hl3 hl4
        generalize (lo + hi') / 2 = mid at *
        refine ⟨_, rfl, .inl ⟨rfl, _, SqL.of ho2⟩, _, rfl, _, rfl, a5, x5, _, _, rfl, rfl, SqL.of (s26 _ _ h5), atI_nat gx, o, xs, _, rfl, rfl, ho2, sizeOk (by omega), ?_⟩
        have sG3 : Same G (upd H2' o (.lst (xs ++ [.ref t]))) := same_upd sG2 nGo
        have ho3 : upd H2' o (.lst (xs ++ [.ref t])) o = some (.lst (xs ++ [.ref t])) := upd_same
        have hl3 : upd H2' o (.lst (xs ++ [.ref t])) l = some (.lst ((ivl lo hi').map V.int)) := by rw [upd_ne nlo]; exact hl2
        generalize upd H2' o (.lst (xs ++ [.ref t])) = H3 at sG3 ho3 hl3
        have s36 := sm.trans sG3
        have hx3 : DpAll K H6 (xs ++ [.ref t]) ((L ++ [r]).map eP) := by
          rw [List.map_append]
          exact dpAll_app hxs (.cons hdn .nil)
        -- found
        refine ⟨_, rfl, _, rfl, a5, x5, _, _, rfl, rfl, SqL.of (s36 _ _ h5), atI_nat gx, t, _, 0, _, rfl, rfl, same_tup s36 hT, rfl, _, rfl, _, _, rfl, rfl, _, rfl, ?_⟩
        have fnd : ∀ N' : VK, N' (.bl (decide (r.1 ≤ (i : Int)) && decide ((i : Int) ≤ r.2))) H3 →
            (if decide (r.1 ≤ (i : Int)) = true then (tOp (rIxT K) (tOp (rIxL K) (tVar 5) (tVar 12)) (tC (.int 1))) [some (.ref a), some (.ref d), some (.int n), some v3, some (.ref a4), some (.ref a5), some (.int j), some (.int ((2 ^ j : Nat) : Int)), some (.int (i : Int)), some (.ref l), some (.ref o), some (.bl false), some (.int (mid : Int)), y13', y14', y15] H3 (fun w' H4 => (rI0 fun i j => .bl (decide (i ≤ j))) (.int (i : Int)) w' H4 N') else N' (.bl false) H3) := fun N' hN' => by
          refine ite2 (fun z => ?_) (fun z => ?_)
          · refine ⟨_, rfl, _, rfl, a5, x5, _, _, rfl, rfl, SqL.of (s36 _ _ h5), atI_nat gx, t, _, 1, _, rfl, rfl, same_tup s36 hT, rfl, _, _, rfl, rfl, ?_⟩
            rw [z, Bool.true_and] at hN'
            exact hN'
          · rw [Bool.eq_false_iff.mpr z, Bool.false_and] at hN'
            exact hN'
        refine fnd _ ?_
        refine ⟨_, rfl, _, rfl, _, rfl, a5, x5, _, _, rfl, rfl, SqL.of (s36 _ _ h5), atI_nat gx, t, _, 0, _, rfl, rfl, same_tup s36 hT, rfl, _, _, rfl, rfl, ?_⟩
        -- what is left
        refine ⟨_, rfl, l, rfl, ⟨_, SqL.of hl3⟩, fun l' nl' => lcN_list (fun z => ((ivl lo hi')[z]?).bind fun x => if (decide (x ≠ (mid : Int)) && (decide (x < (mid : Int)) == decide ((i : Int) < r.1))) = true then some (.int x) else none) (SqL.of hl3) nl' (by rw [List.length_map, ivl_len]; omega) (fun z x H4 N1 N0 hx s4 c1 c0 => ?_) (fun H4 s4 lb => ?_)⟩
        · obtain ⟨x, hx', rfl⟩ := map_get hx
          refine ⟨rfl, _, rfl, _, rfl, rfl, _, rfl, ?_⟩
          by_cases h1 : x = (mid : Int)
          · refine itF (by rw [h1]; simp) (iteF (c0 H4 (Same.refl _) (by rw [hx', Option.bind_some, h1]; simp)))
          · refine itT (by simp [h1]) ?_
            refine ⟨_, rfl, _, rfl, _, _, rfl, rfl, _, rfl, rfl, _, rfl, ?_⟩
            by_cases h2 : decide (x < (mid : Int)) = decide ((i : Int) < r.1)
            · refine itT (decide_eq_true (congrArg V.bl h2)) ⟨_, rfl, c1 _ H4 _ (Same.refl _) (by rw [hx', Option.bind_some, h2]; simp [h1]) (.int _)⟩
            · refine itF (fun z => h2 (V.bl.inj (of_decide_eq_true z))) (c0 H4 (Same.refl _) (by rw [hx', Option.bind_some]; simp [h1]; intro z; exact absurd z (by simpa using h2)))
        · rw [List.length_map, list_ints (p := fun x => decide (x ≠ (mid : Int)) && (decide (x < (mid : Int)) == decide ((i : Int) < r.1)))] at lb
          have hl' := lb.ints
          have nlo' : l' ≠ o := ne_of_none ho3 nl' |>.symm
          by_cases h1 : (i : Int) < r.1
          · rw [if_pos h1] at step
            rw [decide_eq_true h1, ivl_less b1 b2] at hl'
            have hf : (decide (r.1 ≤ (i : Int)) && decide ((i : Int) ≤ r.2)) = false := by rw [decide_eq_false (by omega), Bool.false_and]
            refine ⟨lo, mid, false, l', xs ++ [.ref t], L ++ [r], _, _, _, by simp; omega, by rw [hf]; rfl, sG3.trans s4, s4 _ _ ho3, nlo', hl', hx3, by omega, by simp; omega, ?_⟩
            rw [if_neg Bool.false_ne_true, hHV, step]
            simp
          · rw [if_neg h1] at step
            rw [decide_eq_false h1, ivl_more b1 b2] at hl'
            by_cases h2 : r.2 < (i : Int)
            · rw [if_pos h2] at step
              have hf : (decide (r.1 ≤ (i : Int)) && decide ((i : Int) ≤ r.2)) = false := by rw [decide_eq_false (show ¬ (i : Int) ≤ r.2 by omega), Bool.and_false]
              refine ⟨mid + 1, hi', false, l', xs ++ [.ref t], L ++ [r], _, _, _, by simp; omega, by rw [hf]; rfl, sG3.trans s4, s4 _ _ ho3, nlo', hl', hx3, hhi, by simp; omega, ?_⟩
              rw [if_neg Bool.false_ne_true, hHV, step]
              simp
            · rw [if_neg h2] at step
              have hf : (decide (r.1 ≤ (i : Int)) && decide ((i : Int) ≤ r.2)) = true := by rw [decide_eq_true (show r.1 ≤ (i : Int) by omega), decide_eq_true (show (i : Int) ≤ r.2 by omega)]; rfl
              refine ⟨mid + 1, hi', true, l', xs ++ [.ref t], L ++ [r], _, _, _, by simp, by rw [hf]; rfl, sG3.trans s4, s4 _ _ ho3, nlo', hl', hx3, hhi, by simp; omega, ?_⟩
              rw [if_pos rfl, hHV, step]
    · have ne : (ivl lo hi').isEmpty = true := by
        have : ivl lo hi' = [] := List.eq_nil_of_length_eq_zero (by rw [ivl_len]; omega)
        rw [this]
        rfl
      refine itF (by rw [ne]; simp) (iteF (hN _ _ ?_))
      cases fo with
      | true =>
        rw [if_pos rfl] at hHV
        exact ⟨_, _, _, _, xs, by rw [hHV], sG2, ho2, by rw [hHV]; exact hxs⟩
      | false =>
        rw [if_neg Bool.false_ne_true, HV_end c, List.append_nil] at hHV
        exact ⟨_, _, _, _, xs, by rw [hHV], sG2, ho2, by rw [hHV]; exact hxs⟩
end
/-! ### what the top has left, by names -/
def dd_need_size : He.DefD := ⟨("need_size", none), "need_size", "need_size", defArgs s_need_size, defBody s_need_size, defScope s_need_size, [], []⟩
def dd_need_set : He.DefD := ⟨("need_set", none), "need_set", "need_set", defArgs s_need_set, defBody s_need_set, defScope s_need_set, [], []⟩
def dd_need_number : He.DefD := ⟨("need_number", none), "need_number", "need_number", defArgs s_need_number, defBody s_need_number, defScope s_need_number, [], []⟩
def dd_has : He.DefD := ⟨("has", none), "has", "has", defArgs s_has, defBody s_has, defScope s_has, [], []⟩
def dd_all_in : He.DefD := ⟨("all_in", none), "all_in", "all_in", defArgs s_all_in, defBody s_all_in, defScope s_all_in, [], []⟩
def dd_told : He.DefD := ⟨("told", none), "told", "told", defArgs s_told, defBody s_told, defScope s_told, [], []⟩
def dd_members : He.DefD := ⟨("members", none), "members", "members", defArgs s_members, defBody s_members, defScope s_members, [], []⟩
def dd_plain : He.DefD := ⟨("plain", none), "plain", "plain", defArgs s_plain, defBody s_plain, defScope s_plain, [], []⟩
def dd_inside : He.DefD := ⟨("inside", none), "inside", "inside", defArgs s_inside, defBody s_inside, defScope s_inside, [], []⟩
def dd__law_dice : He.DefD := ⟨("_law_dice", none), "_law_dice", "_law_dice", defArgs s__law_dice, defBody s__law_dice, defScope s__law_dice, [], []⟩
def dd__law_off : He.DefD := ⟨("_law_off", none), "_law_off", "_law_off", defArgs s__law_off, defBody s__law_off, defScope s__law_off, [], []⟩
def dd__law_alike : He.DefD := ⟨("_law_alike", none), "_law_alike", "_law_alike", defArgs s__law_alike, defBody s__law_alike, defScope s__law_alike, [], []⟩
def dd__law_size : He.DefD := ⟨("_law_size", none), "_law_size", "_law_size", defArgs s__law_size, defBody s__law_size, defScope s__law_size, [], []⟩
def dd__law_set : He.DefD := ⟨("_law_set", none), "_law_set", "_law_set", defArgs s__law_set, defBody s__law_set, defScope s__law_set, [], []⟩
def dd__law_members : He.DefD := ⟨("_law_members", none), "_law_members", "_law_members", defArgs s__law_members, defBody s__law_members, defScope s__law_members, [], []⟩
def dd__law_told : He.DefD := ⟨("_law_told", none), "_law_told", "_law_told", defArgs s__law_told, defBody s__law_told, defScope s__law_told, [], []⟩
def dd_law : He.DefD := ⟨("law", none), "law", "law", defArgs s_law, defBody s_law, defScope s_law, [], []⟩
def hfn : List He.DefD := [dd_need_size, dd_need_set, dd_need_number, dd_has, dd_all_in, dd_told, dd_members, dd_plain, dd_inside, dd__law_dice, dd__law_off, dd__law_alike, dd__law_size, dd__law_set, dd__law_members, dd__law_told, dd_law]
def hfa : List He.Fa := [.glo "need_size", .glo "need_set", .glo "need_number", .glo "has", .glo "all_in", .glo "told", .glo "members", .glo "plain", .glo "inside", .glo "_law_dice", .glo "_law_off", .glo "_law_alike", .glo "_law_size", .glo "_law_set", .glo "_law_members", .glo "_law_told", .glo "law", .int "MOST_SIZE" 64, .int "MOST_RANGES" 40, .free "range", .free "enumerate", .free "len", .free "min", .free "abs", .free "isinstance", .free "bool", .free "int", .free "str", .free "tuple", .free "list", .free "all", .free "sorted", .free "set"]
abbrev hR : PySem.W.OpenRow := PySem.W.OpenLaw.row PySem.Challenge.rw_signsets_k05_found_by_halving
abbrev hhk : PySem.W.Hook := He.hookD 4 hfa hfn
def hob (s : PySem.W.SharedT) : He.AlD := He.obsDG 4 hfa hfn (HandSHeadRun.getT s)
theorem hob_eq (s : PySem.W.SharedT) : hob s = hhk.obs s.abs := He.obsDG_eq (HandSHeadRun.getT_eq s)
def hn0 : List Str := ["SetError", "BadSize", "BadSet", "BadNumber", "MOST_SIZE", "MOST_RANGES", "need_size", "need_set", "need_number", "has", "all_in", "told", "members", "plain", "inside", "_law_dice", "_law_off", "_law_alike", "_law_size", "_law_set", "_law_members", "_law_told"]
def hnames : List Str := hn0
set_option maxHeartbeats 0 in
theorem hrun (w : World) : HandSHeadRun.RunEq hR (PySem.W.view hR.prog [25]) hhk hob 2000 hnames w := by
  intro os
  kernel_rfl
theorem fun_of {K : PySem.W.Frag} {x qual : Str} {st : Stmt} {f : Addr} {fd : FuncData} {kws : List (Str × V)} (F : FunD K x qual (defArgs st) (defBody st) (defScope st) [] kws f fd) : Fun K x qual st f fd := by
  obtain ⟨oc, od, dV, kV, doc, pm, an, cdv, ct, osl, rfl, lk, hcd, hD, hK⟩ := F.ex
  rcases hD with ⟨_, rfl⟩ | ⟨e, _⟩
  · exact ⟨⟨oc, od, kV, doc, pm, an, cdv, ct, osl, rfl, lk, hcd⟩, F.kp⟩
  · exact absurd rfl e
section
variable {K : PySem.W.Frag} {h : Heap} {mg : Str → Option Value}
theorem hd_need_size (X : K.In h) (G : h.Ns mainGlobals mg) (c : He.SaysD hfa hfn K) : Df K mg "need_size" s_need_size ["size"] := by
  obtain ⟨fd, F⟩ := c.def_ 0 (d := dd_need_size) rfl
  exact ⟨_, fd, fun_of F, He.glo_ok X G (c.fact 0 (f := .glo "need_size") rfl), F.bindsN fun _ _ _ _ _ _ us hl => match us, hl with | [_], _ => rfl⟩
theorem hd_need_set (X : K.In h) (G : h.Ns mainGlobals mg) (c : He.SaysD hfa hfn K) : Df K mg "need_set" s_need_set ["size", "ranges", "number"] := by
  obtain ⟨fd, F⟩ := c.def_ 1 (d := dd_need_set) rfl
  exact ⟨_, fd, fun_of F, He.glo_ok X G (c.fact 1 (f := .glo "need_set") rfl), F.bindsN fun _ _ _ _ _ _ us hl => match us, hl with | [_, _, _], _ => rfl⟩
theorem hd_need_number (X : K.In h) (G : h.Ns mainGlobals mg) (c : He.SaysD hfa hfn K) : Df K mg "need_number" s_need_number ["size", "number"] := by
  obtain ⟨fd, F⟩ := c.def_ 2 (d := dd_need_number) rfl
  exact ⟨_, fd, fun_of F, He.glo_ok X G (c.fact 2 (f := .glo "need_number") rfl), F.bindsN fun _ _ _ _ _ _ us hl => match us, hl with | [_, _], _ => rfl⟩
theorem hd_has (X : K.In h) (G : h.Ns mainGlobals mg) (c : He.SaysD hfa hfn K) : Df K mg "has" s_has ["ranges", "number"] := by
  obtain ⟨fd, F⟩ := c.def_ 3 (d := dd_has) rfl
  exact ⟨_, fd, fun_of F, He.glo_ok X G (c.fact 3 (f := .glo "has") rfl), F.bindsN fun _ _ _ _ _ _ us hl => match us, hl with | [_, _], _ => rfl⟩
theorem hd_all_in (X : K.In h) (G : h.Ns mainGlobals mg) (c : He.SaysD hfa hfn K) : Df K mg "all_in" s_all_in ["size", "ranges"] := by
  obtain ⟨fd, F⟩ := c.def_ 4 (d := dd_all_in) rfl
  exact ⟨_, fd, fun_of F, He.glo_ok X G (c.fact 4 (f := .glo "all_in") rfl), F.bindsN fun _ _ _ _ _ _ us hl => match us, hl with | [_, _], _ => rfl⟩
theorem hd_told (X : K.In h) (G : h.Ns mainGlobals mg) (c : He.SaysD hfa hfn K) : Df K mg "told" s_told ["numbers"] := by
  obtain ⟨fd, F⟩ := c.def_ 5 (d := dd_told) rfl
  exact ⟨_, fd, fun_of F, He.glo_ok X G (c.fact 5 (f := .glo "told") rfl), F.bindsN fun _ _ _ _ _ _ us hl => match us, hl with | [_], _ => rfl⟩
theorem hd_members (X : K.In h) (G : h.Ns mainGlobals mg) (c : He.SaysD hfa hfn K) : Df K mg "members" s_members ["size", "ranges"] := by
  obtain ⟨fd, F⟩ := c.def_ 6 (d := dd_members) rfl
  exact ⟨_, fd, fun_of F, He.glo_ok X G (c.fact 6 (f := .glo "members") rfl), F.bindsN fun _ _ _ _ _ _ us hl => match us, hl with | [_, _], _ => rfl⟩
theorem hd_plain (X : K.In h) (G : h.Ns mainGlobals mg) (c : He.SaysD hfa hfn K) : Df K mg "plain" s_plain ["size", "ranges"] := by
  obtain ⟨fd, F⟩ := c.def_ 7 (d := dd_plain) rfl
  exact ⟨_, fd, fun_of F, He.glo_ok X G (c.fact 7 (f := .glo "plain") rfl), F.bindsN fun _ _ _ _ _ _ us hl => match us, hl with | [_, _], _ => rfl⟩
theorem hd_inside (X : K.In h) (G : h.Ns mainGlobals mg) (c : He.SaysD hfa hfn K) : Df K mg "inside" s_inside ["size", "ranges", "number"] := by
  obtain ⟨fd, F⟩ := c.def_ 8 (d := dd_inside) rfl
  exact ⟨_, fd, fun_of F, He.glo_ok X G (c.fact 8 (f := .glo "inside") rfl), F.bindsN fun _ _ _ _ _ _ us hl => match us, hl with | [_, _, _], _ => rfl⟩
theorem hd__law_dice (X : K.In h) (G : h.Ns mainGlobals mg) (c : He.SaysD hfa hfn K) : Df K mg "_law_dice" s__law_dice ["_law_script", "_law_k"] := by
  obtain ⟨fd, F⟩ := c.def_ 9 (d := dd__law_dice) rfl
  exact ⟨_, fd, fun_of F, He.glo_ok X G (c.fact 9 (f := .glo "_law_dice") rfl), F.bindsN fun _ _ _ _ _ _ us hl => match us, hl with | [_, _], _ => rfl⟩
theorem hd__law_off (X : K.In h) (G : h.Ns mainGlobals mg) (c : He.SaysD hfa hfn K) : Df K mg "_law_off" s__law_off ["_law_d", "_law_most"] := by
  obtain ⟨fd, F⟩ := c.def_ 10 (d := dd__law_off) rfl
  exact ⟨_, fd, fun_of F, He.glo_ok X G (c.fact 10 (f := .glo "_law_off") rfl), F.bindsN fun _ _ _ _ _ _ us hl => match us, hl with | [_, _], _ => rfl⟩
theorem hd__law_alike (X : K.In h) (G : h.Ns mainGlobals mg) (c : He.SaysD hfa hfn K) : Df K mg "_law_alike" s__law_alike ["_law_found", "_law_due"] := by
  obtain ⟨fd, F⟩ := c.def_ 11 (d := dd__law_alike) rfl
  exact ⟨_, fd, fun_of F, He.glo_ok X G (c.fact 11 (f := .glo "_law_alike") rfl), F.bindsN fun _ _ _ _ _ _ us hl => match us, hl with | [_, _], _ => rfl⟩
theorem hd__law_size (X : K.In h) (G : h.Ns mainGlobals mg) (c : He.SaysD hfa hfn K) : Df K mg "_law_size" s__law_size ["_law_d"] := by
  obtain ⟨fd, F⟩ := c.def_ 12 (d := dd__law_size) rfl
  exact ⟨_, fd, fun_of F, He.glo_ok X G (c.fact 12 (f := .glo "_law_size") rfl), F.bindsN fun _ _ _ _ _ _ us hl => match us, hl with | [_], _ => rfl⟩
theorem hd__law_set (X : K.In h) (G : h.Ns mainGlobals mg) (c : He.SaysD hfa hfn K) : Df K mg "_law_set" s__law_set ["_law_d", "_law_size_here", "_law_most"] := by
  obtain ⟨fd, F⟩ := c.def_ 13 (d := dd__law_set) rfl
  exact ⟨_, fd, fun_of F, He.glo_ok X G (c.fact 13 (f := .glo "_law_set") rfl), F.bindsN fun _ _ _ _ _ _ us hl => match us, hl with | [_, _, _], _ => rfl⟩
theorem hd__law_members (X : K.In h) (G : h.Ns mainGlobals mg) (c : He.SaysD hfa hfn K) : Df K mg "_law_members" s__law_members ["_law_size_here", "_law_ranges"] := by
  obtain ⟨fd, F⟩ := c.def_ 14 (d := dd__law_members) rfl
  exact ⟨_, fd, fun_of F, He.glo_ok X G (c.fact 14 (f := .glo "_law_members") rfl), F.bindsN fun _ _ _ _ _ _ us hl => match us, hl with | [_, _], _ => rfl⟩
theorem hd__law_told (X : K.In h) (G : h.Ns mainGlobals mg) (c : He.SaysD hfa hfn K) : Df K mg "_law_told" s__law_told ["_law_numbers"] := by
  obtain ⟨fd, F⟩ := c.def_ 15 (d := dd__law_told) rfl
  exact ⟨_, fd, fun_of F, He.glo_ok X G (c.fact 15 (f := .glo "_law_told") rfl), F.bindsN fun _ _ _ _ _ _ us hl => match us, hl with | [_], _ => rfl⟩
theorem hd_law (X : K.In h) (G : h.Ns mainGlobals mg) (c : He.SaysD hfa hfn K) : Df K mg "law" s_law ["_law_script"] := by
  obtain ⟨fd, F⟩ := c.def_ 16 (d := dd_law) rfl
  exact ⟨_, fd, fun_of F, He.glo_ok X G (c.fact 16 (f := .glo "law") rfl), F.bindsN fun _ _ _ _ _ _ us hl => match us, hl with | [_], _ => rfl⟩
theorem hd_tx (X : K.In h) (G : h.Ns mainGlobals mg) (c : He.SaysD hfa hfn K) : Tx K mg := ⟨hd_need_size X G c, hd_need_set X G c, hd_need_number X G c, hd_has X G c, hd_all_in X G c, hd_told X G c, hd_members X G c, hd_plain X G c, hd_inside X G c, hd__law_dice X G c, hd__law_off X G c, hd__law_alike X G c, hd__law_size X G c, hd__law_set X G c, hd__law_members X G c, hd__law_told X G c, He.int_ok X G (c.fact 17 (f := .int "MOST_SIZE" 64) rfl), He.int_ok X G (c.fact 18 (f := .int "MOST_RANGES" 40) rfl), He.free_ok X G (c.fact 19 (f := .free "range") rfl), He.free_ok X G (c.fact 20 (f := .free "enumerate") rfl), He.free_ok X G (c.fact 21 (f := .free "len") rfl), He.free_ok X G (c.fact 22 (f := .free "min") rfl), He.free_ok X G (c.fact 23 (f := .free "abs") rfl), He.free_ok X G (c.fact 24 (f := .free "isinstance") rfl), He.free_ok X G (c.fact 25 (f := .free "bool") rfl), He.free_ok X G (c.fact 26 (f := .free "int") rfl), He.free_ok X G (c.fact 27 (f := .free "str") rfl), He.free_ok X G (c.fact 28 (f := .free "tuple") rfl), He.free_ok X G (c.fact 29 (f := .free "list") rfl), He.free_ok X G (c.fact 30 (f := .free "all") rfl), He.free_ok X G (c.fact 31 (f := .free "sorted") rfl), He.free_ok X G (c.fact 32 (f := .free "set") rfl)⟩
end
theorem hfacts {P : Program} {w : World} {K : PySem.W.Frag} {h : Heap} {mg : Str → Option Value} {f : Addr} (X : K.In h) (G : h.Ns mainGlobals mg) (hfa0 : mg ("law" : Str) = some (.ref f)) (c : He.SaysD hfa hfn K) :
    ∃ fd : FuncData, (∀ (s : Shared) (v : Value), BindsTo s fd ⟨[v], []⟩ [("_law_script", v)]) ∧ ∀ base : Heap, K.In base → base.Ns mainGlobals mg → FnOk P w K mg base CX0 8 f fd ["_law_script"] (spLaw K) := by
  obtain ⟨fd, F⟩ := c.def_ 16 (d := dd_law) rfl
  have e := hfa0.symm.trans (He.glo_ok X G (c.fact 16 (f := .glo "law") rfl))
  cases e
  have b := FunD.bindsA (ps := ["_law_script"]) F fun _ _ _ _ _ _ us hl => match us, hl with | [_], _ => rfl
  exact ⟨fd, fun s v => b s [v] rfl, fun base _ _ => ok_law (hd_tx X G c) (fun_of F)⟩
end Sg
open PySem PySem.W PySem.Calls PyProof.Rows
set_option maxHeartbeats 0 in
theorem PySem.Challenge.cw_signsets_k05_found_by_halving_holds : PySem.Challenge.rw_signsets_k05_found_by_halving.Holds := by
  w_on; o_law
  refine HandSHeadRun.head_any (r := OpenLaw.row PySem.Challenge.rw_signsets_k05_found_by_halving) (q := view (OpenLaw.row PySem.Challenge.rw_signsets_k05_found_by_halving).prog [25]) (H := Sg.hhk) (ob := Sg.hob) (M := 2000) (loose := Sg.hnames) (d := HandSHeadRun.topDef (OpenLaw.row PySem.Challenge.rw_signsets_k05_found_by_halving).prog 25) (kwd := []) Sg.hob_eq
    (by kernel_rfl) (fun s => by kernel_rfl) Sg.hrun (by kernel_rfl) (by kernel_rfl) (by kernel_rfl) (by rfl) (by first | assumption | decide +kernel) (by decide +kernel) ⟨rfl, rfl, rfl, rfl, rfl, by decide +kernel⟩ ?hw ?hc
  case hw => w_witness2
  case hc =>
    refine L2.walk_ofE (l := PySem.Challenge.rw_signsets_k05_found_by_halving) (n := 63) (k := 8) (x := "_law_script") (CX := L2.CX0) rfl (by decide) (by kernel_rfl) ⟨rfl, by decide, by decide⟩ ?F (fun _ _ _ _ z => z)
    intro w mg fa h Y G hmg0
    obtain ⟨K, KX, c⟩ := Y
    have hmg : mg ("law" : PySem.Str) = some (.ref fa) := by
      have e : (HandSHeadRun.topDef (OpenLaw.row PySem.Challenge.rw_signsets_k05_found_by_halving).prog 25).name = ("law" : PySem.Str) := by kernel_rfl
      rw [← e]
      exact hmg0
    obtain ⟨fd, hb, hF⟩ := Sg.hfacts (P := (PySem.Challenge.rw_signsets_k05_found_by_halving).prog) (w := w) KX G hmg c
    exact ⟨K, fd, Sg.spLaw K, KX, hb, fun H a ns hl _ hS => ⟨a, ns, rfl, hS, hl, fun _ => rfl⟩, hF⟩
