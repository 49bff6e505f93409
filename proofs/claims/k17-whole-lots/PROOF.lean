import PyProof.Rows.All
import Wide.All
import OpenK.AllK
import Wide.FinOn
import HandS.ForMost
import HandS.Evl
import HandS.IsInst
import HandS.TupAny
import HandS.Strs
import HandS.Zip
import HandS.Style
import HandS.Flow
import HandS.Conv
import HandS.ExcIs
import HandS.ExcOwn
import HandS.WordsExc
import HandS.SortInts
import KE.GoesMore
import HandS.SetFor
import HandS.Walk
import KE.KStateDown
import HandS.Defaults
import HandS.Head0
import HandS.Head1
import HandS.Head2
import HandS.HeadEnd
import HandS.HeadHook1
import HandS.HeadHook2
import PySem.Challenge.RW_eightlots_k17_whole_lots_filled_at_gaps
set_option maxRecDepth 100000
set_option linter.all false
/-! The mathematics of the law, in plain Lean: lots as numbers below 2 ^ 24, what they lack as numbers below 2 ^ 12. -/
namespace K17
/-! ### maps that respect xor -/
def lin (f : Nat → Nat) : Nat → Nat → Nat
  | 0, _ => 0
  | k + 1, n => lin f k n ^^^ (if n.testBit k then f k else 0)
theorem xor4 (a b c d : Nat) : (a ^^^ b) ^^^ (c ^^^ d) = (a ^^^ c) ^^^ (b ^^^ d) := by
  rw [Nat.xor_assoc, Nat.xor_assoc, ← Nat.xor_assoc b c d, Nat.xor_comm b c, Nat.xor_assoc c b d]
theorem if_xor (a b : Bool) (x : Nat) : (if (a ^^ b) then x else 0) = (if a then x else 0) ^^^ (if b then x else 0) := by
  cases a <;> cases b <;> simp
theorem lin_xor (f : Nat → Nat) (a b : Nat) : ∀ k, lin f k (a ^^^ b) = lin f k a ^^^ lin f k b
  | 0 => by simp [lin]
  | k + 1 => by
    show lin f k (a ^^^ b) ^^^ _ = (lin f k a ^^^ _) ^^^ (lin f k b ^^^ _)
    rw [lin_xor f a b k, xor4, Nat.testBit_xor, if_xor]
theorem lin_zero (f : Nat → Nat) : ∀ k, lin f k 0 = 0
  | 0 => rfl
  | k + 1 => by simp [lin, lin_zero f k]
theorem lin_comp {g : Nat → Nat} (h0 : g 0 = 0) (hg : ∀ a b, g (a ^^^ b) = g a ^^^ g b) (f : Nat → Nat) (n : Nat) : ∀ k, g (lin f k n) = lin (fun i => g (f i)) k n
  | 0 => h0
  | k + 1 => by
    show g (lin f k n ^^^ _) = lin _ k n ^^^ _
    rw [hg, lin_comp h0 hg f n k]
    cases n.testBit k <;> simp [h0]
theorem lin_congr {f g : Nat → Nat} (n : Nat) : ∀ k, (∀ i, i < k → f i = g i) → lin f k n = lin g k n
  | 0, _ => rfl
  | k + 1, h => by
    show lin f k n ^^^ _ = lin g k n ^^^ _
    rw [lin_congr n k fun i hi => h i (Nat.lt_succ_of_lt hi), h k (Nat.lt_succ_self k)]
theorem lin_add (f g : Nat → Nat) (n : Nat) : ∀ k, lin f k n ^^^ lin g k n = lin (fun i => f i ^^^ g i) k n
  | 0 => by simp [lin]
  | k + 1 => by
    show (lin f k n ^^^ _) ^^^ (lin g k n ^^^ _) = lin _ k n ^^^ _
    rw [xor4, lin_add f g n k]
    cases n.testBit k <;> simp
theorem lin_id (n : Nat) : ∀ k, lin (2 ^ ·) k n = n % 2 ^ k
  | 0 => by simp [lin, Nat.mod_one]
  | k + 1 => by
    show lin (2 ^ ·) k n ^^^ _ = _
    rw [lin_id n k]
    apply Nat.eq_of_testBit_eq
    intro i
    rw [Nat.testBit_xor, Nat.testBit_mod_two_pow, Nat.testBit_mod_two_pow]
    by_cases h : i = k
    · subst h
      cases hb : n.testBit i <;> simp [Nat.testBit_two_pow_self, hb]
    · have e1 : decide (i < k + 1) = decide (i < k) := by
        by_cases q : i < k
        · simp [q, Nat.lt_succ_of_lt q]
        · simp [q]; omega
      have e2 : (2 ^ k).testBit i = false := Nat.testBit_two_pow_of_ne (Ne.symm h)
      rw [e1]
      cases n.testBit k <;> simp [e2]
theorem lin_fold (f : Nat → Nat) (n : Nat) : ∀ k, ((List.range k).filter (n.testBit ·)).foldl (fun a i => a ^^^ f i) 0 = lin f k n
  | 0 => rfl
  | k + 1 => by
    rw [List.range_succ, List.filter_append, List.foldl_append, lin_fold f n k]
    show _ = lin f k n ^^^ _
    cases h : n.testBit k <;> simp [h]
theorem lin_lt {f : Nat → Nat} {m : Nat} (n : Nat) : ∀ k, (∀ i, i < k → f i < 2 ^ m) → lin f k n < 2 ^ m
  | 0, _ => Nat.two_pow_pos m
  | k + 1, h => by
    refine Nat.xor_lt_two_pow (lin_lt n k fun i hi => h i (Nat.lt_succ_of_lt hi)) ?_
    split
    · exact h k (Nat.lt_succ_self k)
    · exact Nat.two_pow_pos m
/-! ### lots -/
def lotOf (n : Nat) : List Nat := (List.range 24).filter (n.testBit ·)
theorem mem_lotOf {n i : Nat} : i ∈ lotOf n ↔ i < 24 ∧ n.testBit i = true := by
  unfold lotOf
  rw [List.mem_filter, List.mem_range]
def mkK (p : Nat → Bool) : Nat → Nat
  | 0 => 0
  | k + 1 => mkK p k ^^^ (if p k then 2 ^ k else 0)
theorem mkK_bit (p : Nat → Bool) (i : Nat) : ∀ k, (mkK p k).testBit i = (decide (i < k) && p i)
  | 0 => by simp [mkK]
  | k + 1 => by
    show (mkK p k ^^^ _).testBit i = _
    rw [Nat.testBit_xor, mkK_bit p i k]
    by_cases h : i = k
    · subst h
      cases hp : p i <;> simp [hp, Nat.testBit_two_pow_self]
    · have e2 : (2 ^ k).testBit i = false := Nat.testBit_two_pow_of_ne (Ne.symm h)
      have e1 : decide (i < k + 1) = decide (i < k) := by
        by_cases q : i < k
        · simp [q, Nat.lt_succ_of_lt q]
        · simp [q]; omega
      rw [e1]
      cases p k <;> simp [e2]
theorem mkK_lt (p : Nat → Bool) : ∀ k, mkK p k < 2 ^ k
  | 0 => Nat.zero_lt_one
  | k + 1 => by
    refine Nat.xor_lt_two_pow (Nat.lt_of_lt_of_le (mkK_lt p k) (Nat.pow_le_pow_right (by decide) (Nat.le_succ k))) ?_
    split
    · exact Nat.pow_lt_pow_right (by decide) (Nat.lt_succ_self k)
    · exact Nat.two_pow_pos _
def mk (p : Nat → Bool) : Nat := mkK p 24
theorem mk_lt (p : Nat → Bool) : mk p < 2 ^ 24 := mkK_lt p 24
theorem lotOf_mk (p : Nat → Bool) : lotOf (mk p) = (List.range 24).filter p := by
  unfold lotOf mk
  apply List.filter_congr
  intro i hi
  rw [mkK_bit]
  simp [List.mem_range.mp hi]
theorem bits_ext {a b : Nat} (ha : a < 2 ^ 24) (hb : b < 2 ^ 24) (h : ∀ i, i < 24 → a.testBit i = b.testBit i) : a = b := by
  apply Nat.eq_of_testBit_eq
  intro i
  by_cases hi : i < 24
  · exact h i hi
  · have e : 2 ^ 24 ≤ 2 ^ i := Nat.pow_le_pow_right (by decide) (Nat.le_of_not_lt hi)
    rw [Nat.testBit_lt_two_pow (Nat.lt_of_lt_of_le ha e), Nat.testBit_lt_two_pow (Nat.lt_of_lt_of_le hb e)]
theorem lotOf_inj {a b : Nat} (ha : a < 2 ^ 24) (hb : b < 2 ^ 24) (h : lotOf a = lotOf b) : a = b := by
  refine bits_ext ha hb fun i hi => ?_
  have q : (i ∈ lotOf a) ↔ (i ∈ lotOf b) := by rw [h]
  rw [mem_lotOf, mem_lotOf] at q
  cases h1 : a.testBit i <;> cases h2 : b.testBit i <;> simp [h1, h2, hi] at q ⊢
theorem outs_bit (n g i : Nat) : (n ^^^ (n &&& g)).testBit i = (n.testBit i && !g.testBit i) := by
  rw [Nat.testBit_xor, Nat.testBit_and]
  cases n.testBit i <;> cases g.testBit i <;> rfl
theorem lotOf_out (n g : Nat) : (lotOf n).filter (fun i => !(decide (i ∈ lotOf g))) = lotOf (n ^^^ (n &&& g)) := by
  unfold lotOf
  rw [List.filter_filter]
  apply List.filter_congr
  intro i hi
  rw [outs_bit]
  have e : decide (i ∈ List.filter (g.testBit ·) (List.range 24)) = g.testBit i := by
    have q := List.mem_range.mp hi
    cases h : g.testBit i
    · exact decide_eq_false fun z => by simp [List.mem_filter, h] at z
    · exact decide_eq_true (by simp [List.mem_filter, h, q])
  rw [e, Bool.and_comm]
/-! ### counting bits -/
def cnt : Nat → Nat → Nat
  | 0, _ => 0
  | k + 1, n => cnt k n + (n / 2 ^ k) % 2
def oddb : Nat → Nat → Bool
  | 0, _ => false
  | k + 1, n => oddb k n ^^ n.testBit k
theorem bit_mod (n k : Nat) : (n / 2 ^ k) % 2 = (if n.testBit k then 1 else 0) := by
  rw [Nat.testBit_eq_decide_div_mod_eq]
  by_cases h : n / 2 ^ k % 2 = 1
  · simp [h]
  · simp [h]; omega
theorem cnt_odd (n : Nat) : ∀ k, oddb k n = decide (cnt k n % 2 = 1)
  | 0 => by simp [oddb, cnt]
  | k + 1 => by
    show (oddb k n ^^ n.testBit k) = decide ((cnt k n + (n / 2 ^ k) % 2) % 2 = 1)
    rw [cnt_odd n k, bit_mod]
    cases n.testBit k
    · simp
    · by_cases h : cnt k n % 2 = 1
      · have : ¬ ((cnt k n + 1) % 2 = 1) := by omega
        simp [h, this]
      · have : (cnt k n + 1) % 2 = 1 := by omega
        simp [h, this]
theorem oddb_xor (a b : Nat) : ∀ k, oddb k (a ^^^ b) = (oddb k a ^^ oddb k b)
  | 0 => rfl
  | k + 1 => by
    show (oddb k (a ^^^ b) ^^ (a ^^^ b).testBit k) = ((oddb k a ^^ a.testBit k) ^^ (oddb k b ^^ b.testBit k))
    rw [oddb_xor a b k, Nat.testBit_xor]
    cases oddb k a <;> cases oddb k b <;> cases a.testBit k <;> cases b.testBit k <;> rfl
theorem oddb_zero : ∀ k, oddb k 0 = false
  | 0 => rfl
  | k + 1 => by simp [oddb, oddb_zero k]
theorem cnt_len (n : Nat) : ∀ k, ((List.range k).filter (n.testBit ·)).length = cnt k n
  | 0 => rfl
  | k + 1 => by
    rw [List.range_succ, List.filter_append, List.length_append, cnt_len n k]
    show _ = cnt k n + _
    rw [bit_mod]
    cases h : n.testBit k <;> simp [h]
theorem lotOf_len (n : Nat) : (lotOf n).length = cnt 24 n := cnt_len n 24
theorem cnt_done {n j : Nat} (h : n / 2 ^ j = 0) : ∀ k, cnt (j + k) n = cnt j n
  | 0 => rfl
  | k + 1 => by
    show cnt (j + k) n + (n / 2 ^ (j + k)) % 2 = cnt j n
    rw [cnt_done h k, Nat.pow_add, ← Nat.div_div_eq_div_mul, h]
    simp
/-! ### what lamps lack -/
def PRODS : List (List Nat) := [[0, 0, 0, 0], [0, 1, 2, 3], [0, 2, 3, 1], [0, 3, 1, 2]]
def FACTS : List (List Nat) := [[1, 1, 1, 1, 0, 0], [3, 2, 1, 0, 1, 0], [2, 3, 1, 0, 0, 1]]
def prod (a b : Nat) : Nat := (PRODS.getD a []).getD b 0
def lackP (lamp : Nat) (i : Nat) : Nat := (List.range i).foldl (fun found other => 2 * found + (if ((other == lamp / 4) != (lamp % 4 == 0)) then 1 else 0)) 0
def lackQ (lamp : Nat) (i : Nat) : Nat := (FACTS.take i).foldl (fun found row => 4 * found + prod (row.getD (lamp / 4) 0) (lamp % 4)) (lackP lamp 6)
def lackL (lamp : Nat) : Nat := lackQ lamp 3
def lackN (n : Nat) : Nat := lin lackL 24 n
theorem lackL_lt : ∀ i, i < 24 → lackL i < 2 ^ 12 := by decide +kernel
theorem lackN_lt (n : Nat) : lackN n < 2 ^ 12 := lin_lt n 24 lackL_lt
theorem lackN_xor (a b : Nat) : lackN (a ^^^ b) = lackN a ^^^ lackN b := lin_xor lackL a b 24
theorem lackN_zero : lackN 0 = 0 := lin_zero lackL 24
theorem lackN_lamp : ∀ i, i < 24 → lackN (2 ^ i) = lackL i := by decide +kernel
theorem lackN_fold (n : Nat) : (lotOf n).foldl (fun a i => a ^^^ lackL i) 0 = lackN n := lin_fold lackL n 24
/-! ### the code -/
def BASE : List Nat := [255, 3855, 61455, 983055, 15728655, 5844995, 9654277, 9777200, 3756112, 3355392, 5592320, 1118494]
def dbl (S : List Nat) (b : Nat) : List Nat := S ++ S.map (fun a => a ^^^ b)
def rightsL : List Nat := BASE.foldl dbl [0]
theorem xor_canc (a b : Nat) : (a ^^^ b) ^^^ b = a := by rw [Nat.xor_assoc, Nat.xor_self, Nat.xor_zero]
theorem mem_dbl {S : List Nat} {b x : Nat} : x ∈ dbl S b ↔ x ∈ S ∨ x ^^^ b ∈ S := by
  unfold dbl
  rw [List.mem_append, List.mem_map]
  constructor
  · rintro (h | ⟨a, h, rfl⟩)
    · exact .inl h
    · exact .inr (by rw [xor_canc]; exact h)
  · rintro (h | h)
    · exact .inl h
    · exact .inr ⟨_, h, xor_canc x b⟩
structure Closed (S : List Nat) : Prop where
  zero : 0 ∈ S
  xor : ∀ a b, a ∈ S → b ∈ S → a ^^^ b ∈ S
theorem Closed.dbl {S : List Nat} (h : Closed S) (b : Nat) : Closed (dbl S b) where
  zero := mem_dbl.mpr (.inl h.zero)
  xor := fun x y hx hy => by
    rw [mem_dbl] at hx hy ⊢
    rcases hx with hx | hx <;> rcases hy with hy | hy
    · exact .inl (h.xor _ _ hx hy)
    · exact .inr (by rw [Nat.xor_assoc]; exact h.xor _ _ hx hy)
    · refine .inr ?_
      have e : (x ^^^ y) ^^^ b = (x ^^^ b) ^^^ y := by rw [Nat.xor_assoc, Nat.xor_comm y b, ← Nat.xor_assoc]
      rw [e]
      exact h.xor _ _ hx hy
    · refine .inl ?_
      have e : x ^^^ y = (x ^^^ b) ^^^ (y ^^^ b) := by rw [xor4, Nat.xor_self, Nat.xor_zero]
      rw [e]
      exact h.xor _ _ hx hy
theorem closed_fold : ∀ (B S : List Nat), Closed S → Closed (B.foldl K17.dbl S)
  | [], _, h => h
  | b :: B, S, h => closed_fold B (dbl S b) (h.dbl b)
theorem rights_closed : Closed rightsL := closed_fold BASE [0] ⟨by simp, fun a b ha hb => by simp at ha hb; simp [ha, hb]⟩
theorem fold_all {P : Nat → Prop} (hx : ∀ a b, P a → P b → P (a ^^^ b)) : ∀ (B S : List Nat), (∀ b ∈ B, P b) → (∀ a ∈ S, P a) → ∀ x ∈ B.foldl dbl S, P x
  | [], _, _, hS, x, h => hS x h
  | b :: B, S, hB, hS, x, h => fold_all hx B (dbl S b) (fun c hc => hB c (List.mem_cons_of_mem _ hc)) (fun a ha => by
      rcases mem_dbl.mp ha with q | q
      · exact hS a q
      · have := hx _ _ (hS _ q) (hB b List.mem_cons_self)
        rwa [xor_canc] at this) x h
theorem rights_all {P : Nat → Prop} (hx : ∀ a b, P a → P b → P (a ^^^ b)) (h0 : P 0) (hB : ∀ b ∈ BASE, P b) : ∀ x ∈ rightsL, P x :=
  fold_all hx BASE [0] hB fun a ha => by
    have : a = 0 := by simpa using ha
    rw [this]; exact h0
theorem rights_lt : ∀ x ∈ rightsL, x < 2 ^ 24 := rights_all (fun _ _ ha hb => Nat.xor_lt_two_pow ha hb) (by decide) (by decide +kernel)
theorem rights_lack : ∀ x ∈ rightsL, lackN x = 0 := rights_all (fun a b ha hb => by rw [lackN_xor, ha, hb]; rfl) lackN_zero (by decide +kernel)
def GCOL : List Nat := [2418817, 7481474, 12077188, 2001032, 6054032, 13017248, 6996160, 0, 9857280, 11184640, 13421568, 0, 15790080, 0, 0, 0, 16711680, 0, 0, 0, 0, 0, 0, 0]
def MCOL : List Nat := [12582912, 10485760, 786432, 655360, 49152, 40960, 14680064, 917504, 57344, 6711296, 11296896, 13953152]
def backM (v : Nat) : Nat := lin (fun i => MCOL.getD i 0) 12 v
theorem lin_mem {S : List Nat} (h : Closed S) {f : Nat → Nat} (n : Nat) : ∀ k, (∀ i, i < k → f i ∈ S) → lin f k n ∈ S
  | 0, _ => h.zero
  | k + 1, hf => h.xor _ _ (lin_mem h n k fun i hi => hf i (Nat.lt_succ_of_lt hi)) (by
      cases n.testBit k
      · exact h.zero
      · exact hf k (Nat.lt_succ_self k))
theorem unit_split : ∀ i, i < 24 → 2 ^ i = backM (lackL i) ^^^ GCOL.getD i 0 := by decide +kernel
theorem gcol_mem : ∀ i, i < 24 → GCOL.getD i 0 ∈ rightsL := by decide +kernel
theorem rights_iff {n : Nat} (hn : n < 2 ^ 24) : n ∈ rightsL ↔ lackN n = 0 := by
  refine ⟨rights_lack n, fun h => ?_⟩
  have e : n = lin (fun i => GCOL.getD i 0) 24 n := by
    have h1 : lin (2 ^ ·) 24 n = n := by rw [lin_id, Nat.mod_eq_of_lt hn]
    rw [lin_congr n 24 unit_split, ← lin_add, ← lin_comp (g := backM) (lin_zero _ 12) (fun a b => lin_xor _ a b 12) lackL n 24] at h1
    have h2 : lin lackL 24 n = 0 := h
    have h3 : backM 0 = 0 := lin_zero _ 12
    rw [h2, h3, Nat.zero_xor] at h1
    exact h1.symm
  rw [e]
  exact lin_mem rights_closed n 24 gcol_mem
def indep : List Nat → List Nat → Bool
  | _, [] => true
  | S, b :: B => !(S.contains b) && indep (dbl S b) B
theorem nodup_fold : ∀ (B S : List Nat), Closed S → S.Nodup → indep S B = true → (B.foldl dbl S).Nodup
  | [], _, _, h, _ => h
  | b :: B, S, hc, h, hi => by
    have q : (!(S.contains b) && indep (dbl S b) B) = true := hi
    rw [Bool.and_eq_true] at q
    obtain ⟨q1, q2⟩ := q
    have nb : b ∉ S := by
      intro z
      have : S.contains b = true := List.contains_iff_mem.mpr z
      rw [this] at q1
      cases q1
    refine nodup_fold B (dbl S b) (hc.dbl b) ?_ q2
    unfold dbl
    rw [List.nodup_append]
    refine ⟨h, ?_, ?_⟩
    · refine List.Pairwise.map _ (fun x y (hxy : x ≠ y) => ?_) h
      intro z
      apply hxy
      rw [← xor_canc x b, z, xor_canc]
    · intro x hx y hy z
      subst z
      obtain ⟨a, ha, e⟩ := List.mem_map.mp hy
      apply nb
      have : a ^^^ x = b := by rw [← e, ← Nat.xor_assoc, Nat.xor_self, Nat.zero_xor]
      rw [← this]
      exact hc.xor _ _ ha hx
theorem rights_nodup : rightsL.Nodup := nodup_fold BASE [0] ⟨by simp, fun a b ha hb => by simp at ha hb; simp [ha, hb]⟩ (by simp) (by decide +kernel)
theorem rights_heavy_all : rightsL.all (fun x => x == 0 || Nat.ble 8 (cnt 24 x)) = true := by decide +kernel
theorem rights_heavy {x : Nat} (h : x ∈ rightsL) (h0 : x ≠ 0) : 8 ≤ cnt 24 x := by
  have q := List.all_eq_true.mp rights_heavy_all x h
  rw [Bool.or_eq_true] at q
  rcases q with q | q
  · exact absurd (beq_iff_eq.mp q) h0
  · exact Nat.le_of_ble_eq_true q
theorem and_xor_l (a b c : Nat) : (a ^^^ b) &&& c = (a &&& c) ^^^ (b &&& c) := Nat.and_xor_distrib_right
theorem and_xor_r (a b c : Nat) : c &&& (a ^^^ b) = (c &&& a) ^^^ (c &&& b) := Nat.and_xor_distrib_left
theorem rights_even {x y : Nat} (hx : x ∈ rightsL) (hy : y ∈ rightsL) : oddb 24 (x &&& y) = false := by
  have base : ∀ b ∈ BASE, ∀ c ∈ BASE, oddb 24 (b &&& c) = false := by decide +kernel
  have one : ∀ c ∈ BASE, ∀ a ∈ rightsL, oddb 24 (a &&& c) = false := fun c hc => rights_all (fun a b ha hb => by rw [and_xor_l, oddb_xor, ha, hb]; rfl) (by rw [Nat.zero_and]; exact oddb_zero 24) fun b hb => base b hb c hc
  exact rights_all (P := fun z => oddb 24 (x &&& z) = false) (fun a b ha hb => by rw [and_xor_r, oddb_xor, ha, hb]; rfl) (by rw [Nat.and_zero]; exact oddb_zero 24) (fun c hc => one c hc x hx) y hy
/-! ### the tally -/
def tallyL : List Nat := (List.range 12).foldl (fun S _ => S ++ S.map (fun a => a + 1)) [0]
theorem tally_eq : tallyL = (List.range 4096).map (cnt 12) := by decide +kernel
theorem tally_at {i : Nat} (h : i < 4096) : tallyL[i]? = some (cnt 12 i) := by
  rw [tally_eq, List.getElem?_map, List.getElem?_range h]
  rfl
theorem tally_len : tallyL.length = 4096 := by rw [tally_eq, List.length_map, List.length_range]
theorem cnt_congr {a b : Nat} : ∀ k, (∀ i, i < k → a.testBit i = b.testBit i) → cnt k a = cnt k b
  | 0, _ => rfl
  | k + 1, h => by
    show cnt k a + _ = cnt k b + _
    rw [cnt_congr k fun i hi => h i (Nat.lt_succ_of_lt hi), bit_mod, bit_mod, h k (Nat.lt_succ_self k)]
theorem cnt_split (n m : Nat) : ∀ k, cnt (m + k) n = cnt m n + cnt k (n / 2 ^ m)
  | 0 => rfl
  | k + 1 => by
    show cnt (m + k) n + (n / 2 ^ (m + k)) % 2 = cnt m n + (cnt k (n / 2 ^ m) + _)
    rw [cnt_split n m k, Nat.pow_add, ← Nat.div_div_eq_div_mul, Nat.add_assoc]
def many (n : Nat) : Nat := cnt 12 (n &&& 4095) + cnt 12 (n >>> 12)
theorem many_eq (n : Nat) : many n = cnt 24 n := by
  unfold many
  have e : cnt 24 n = cnt 12 n + cnt 12 (n / 2 ^ 12) := cnt_split n 12 12
  have e1 : n &&& 4095 = n % 2 ^ 12 := Nat.and_two_pow_sub_one_eq_mod n 12
  have e2 : cnt 12 (n % 2 ^ 12) = cnt 12 n := cnt_congr 12 fun i hi => by rw [Nat.testBit_mod_two_pow]; simp [hi]
  rw [e, e1, e2, Nat.shiftRight_eq_div_pow]
theorem many_lo {n : Nat} : n &&& 4095 < 4096 := Nat.and_lt_two_pow n (n := 12) (by decide)
theorem many_hi {n : Nat} (h : n < 2 ^ 24) : n >>> 12 < 4096 := by
  rw [Nat.shiftRight_eq_div_pow]
  exact Nat.div_lt_of_lt_mul (by omega)
/-! ### the program's way: rows of gaps, what is brought down -/
/-- bit, what it lacks, lot -/
abbrev Row := Nat × Nat × Nat
def downStep (st : Nat × Nat) (r : Row) : Nat × Nat := if st.1 &&& r.1 ≠ 0 then (st.1 ^^^ r.2.1, st.2 ^^^ r.2.2) else st
def down (rows : List Row) (st : Nat × Nat) : Nat × Nat := rows.foldl downStep st
def hb (n : Nat) : Nat := 2 ^ n.log2
def rowsStep (rows : List Row) (lamp : Nat) : List Row :=
  if (down rows (lackL lamp, 2 ^ lamp)).1 ≠ 0 then rows ++ [(hb (down rows (lackL lamp, 2 ^ lamp)).1, (down rows (lackL lamp, 2 ^ lamp)).1, (down rows (lackL lamp, 2 ^ lamp)).2)] else rows
def rowsG (ls : List Nat) : List Row := ls.foldl rowsStep []
def outs (n g : Nat) : Nat := n ^^^ (n &&& g)
def rowsOf (g : Nat) : List Row := rowsG (lotOf g)
def askedM (n g : Nat) : Nat × Nat := down (rowsOf g) (lackN (outs n g), outs n g)
def bitStep (b : Nat) (r : Row) : Nat := if oddb 12 (b &&& r.2.1) then b ^^^ r.1 else b
def bitsM (rows : List Row) (l : Nat) : Nat := rows.reverse.foldl bitStep (hb l)
def barM (bits : Nat) : Nat := mk fun i => oddb 12 (bits &&& lackL i)
theorem and_lt_l {a k : Nat} (b : Nat) (h : a < 2 ^ k) : a &&& b < 2 ^ k := Nat.lt_of_le_of_lt Nat.and_le_left h
theorem and_pow (x j : Nat) : x &&& 2 ^ j = if x.testBit j then 2 ^ j else 0 := by
  apply Nat.eq_of_testBit_eq
  intro i
  rw [Nat.testBit_and]
  by_cases h : i = j
  · subst h
    cases h2 : x.testBit i <;> simp [Nat.testBit_two_pow_self]
  · have e2 : (2 ^ j).testBit i = false := Nat.testBit_two_pow_of_ne (Ne.symm h)
    cases x.testBit j <;> simp [e2]
theorem and_pow_zero {x j : Nat} : x &&& 2 ^ j = 0 ↔ x.testBit j = false := by
  rw [and_pow]
  have := Nat.two_pow_pos j
  cases x.testBit j <;> simp <;> omega
theorem hb_bit {n : Nat} (h : n ≠ 0) : n.testBit n.log2 = true := by
  rw [Nat.testBit_eq_decide_div_mod_eq]
  have h1 := Nat.log2_self_le h
  have h2 : n < 2 ^ (n.log2 + 1) := Nat.lt_log2_self
  have e : n / 2 ^ n.log2 = 1 := by
    apply Nat.div_eq_of_lt_le
    · rw [Nat.one_mul]; exact h1
    · rw [Nat.pow_succ, Nat.mul_comm] at h2; exact h2
  rw [e]
  rfl
theorem log2_lt {n k : Nat} (h : n ≠ 0) (hn : n < 2 ^ k) : n.log2 < k := (Nat.log2_lt h).mpr hn
structure RowOk (g : Nat) (r : Row) : Prop where
  bit : ∃ j, j < 12 ∧ r.1 = 2 ^ j ∧ r.2.1.testBit j = true
  own : r.2.1 < 2 ^ 12
  lack : lackN r.2.2 = r.2.1
  sub : outs r.2.2 g = 0
  lt : r.2.2 < 2 ^ 24
structure RowsOk (g : Nat) (rows : List Row) : Prop where
  each : ∀ r ∈ rows, RowOk g r
  ord : rows.Pairwise fun r s => s.2.1 &&& r.1 = 0
theorem outs_xor (a b g : Nat) : outs (a ^^^ b) g = outs a g ^^^ outs b g := by
  unfold outs
  rw [and_xor_l, xor4]
theorem down_inv {g : Nat} : ∀ (rows : List Row) (st : Nat × Nat), (∀ r ∈ rows, RowOk g r) → lackN st.2 = st.1 → st.2 < 2 ^ 24 → st.1 < 2 ^ 12 →
    lackN (down rows st).2 = (down rows st).1 ∧ outs (down rows st).2 g = outs st.2 g ∧ (down rows st).2 < 2 ^ 24 ∧ (down rows st).1 < 2 ^ 12
  | [], st, _, h, h2, h3 => ⟨h, rfl, h2, h3⟩
  | r :: rows, st, hr, h, h2, h3 => by
    have ok := hr r List.mem_cons_self
    have step : lackN (downStep st r).2 = (downStep st r).1 ∧ outs (downStep st r).2 g = outs st.2 g ∧ (downStep st r).2 < 2 ^ 24 ∧ (downStep st r).1 < 2 ^ 12 := by
      unfold downStep
      split
      · refine ⟨?_, ?_, Nat.xor_lt_two_pow h2 ok.lt, Nat.xor_lt_two_pow h3 ok.own⟩
        · show lackN (st.2 ^^^ r.2.2) = st.1 ^^^ r.2.1
          rw [lackN_xor, h, ok.lack]
        · show outs (st.2 ^^^ r.2.2) g = outs st.2 g
          rw [outs_xor, ok.sub, Nat.xor_zero]
      · exact ⟨h, rfl, h2, h3⟩
    have ih := down_inv rows (downStep st r) (fun s hs => hr s (List.mem_cons_of_mem _ hs)) step.1 step.2.2.1 step.2.2.2
    exact ⟨ih.1, ih.2.1.trans step.2.1, ih.2.2⟩
theorem down_beta {β : Nat → Bool} (hx : ∀ a b, β (a ^^^ b) = (β a ^^ β b)) : ∀ (rows : List Row) (st : Nat × Nat), (∀ r ∈ rows, β r.2.1 = false) → β (down rows st).1 = β st.1
  | [], _, _ => rfl
  | r :: rows, st, h => by
    have e : β (downStep st r).1 = β st.1 := by
      unfold downStep
      split
      · show β (st.1 ^^^ r.2.1) = β st.1
        rw [hx, h r List.mem_cons_self]
        cases β st.1 <;> rfl
      · rfl
    exact (down_beta hx rows (downStep st r) fun s hs => h s (List.mem_cons_of_mem _ hs)).trans e
theorem down_keep {b : Nat} : ∀ (rows : List Row) (st : Nat × Nat), (∀ s ∈ rows, s.2.1 &&& b = 0) → st.1 &&& b = 0 → (down rows st).1 &&& b = 0
  | [], _, _, h => h
  | r :: rows, st, hs, h => by
    refine down_keep rows (downStep st r) (fun s z => hs s (List.mem_cons_of_mem _ z)) ?_
    unfold downStep
    split
    · show (st.1 ^^^ r.2.1) &&& b = 0
      rw [and_xor_l, h, hs r List.mem_cons_self]
      rfl
    · exact h
theorem down_clear {g : Nat} : ∀ (rows : List Row) (st : Nat × Nat), (∀ r ∈ rows, RowOk g r) → (rows.Pairwise fun r s => s.2.1 &&& r.1 = 0) → ∀ r ∈ rows, (down rows st).1 &&& r.1 = 0
  | [], _, _, _, r, h => by cases h
  | r :: rows, st, ok, ord, q, hq => by
    rw [List.pairwise_cons] at ord
    rcases List.mem_cons.mp hq with rfl | hq
    · refine down_keep rows (downStep st q) ord.1 ?_
      obtain ⟨j, _, e, hj⟩ := (ok q List.mem_cons_self).bit
      unfold downStep
      split
      · rename_i z
        show (st.1 ^^^ q.2.1) &&& q.1 = 0
        rw [e] at z ⊢
        rw [and_pow_zero, Nat.testBit_xor, hj]
        cases h : st.1.testBit j
        · exact absurd (and_pow_zero.mpr h) z
        · rfl
      · rename_i z
        exact Decidable.of_not_not z
    · exact down_clear rows (downStep st r) (fun s hs => ok s (List.mem_cons_of_mem _ hs)) ord.2 q hq
theorem outs_pow {g i : Nat} (h : g.testBit i = true) : outs (2 ^ i) g = 0 := by
  unfold outs
  rw [Nat.and_comm, and_pow, h]
  simp
theorem rows_inv {g : Nat} : ∀ (ls : List Nat) (rows : List Row), (∀ i ∈ ls, i < 24 ∧ g.testBit i = true) → RowsOk g rows → RowsOk g (ls.foldl rowsStep rows)
  | [], _, _, h => h
  | i :: ls, rows, hl, h => by
    obtain ⟨hi, hg⟩ := hl i List.mem_cons_self
    refine rows_inv ls (rowsStep rows i) (fun k hk => hl k (List.mem_cons_of_mem _ hk)) ?_
    unfold rowsStep
    have d := down_inv rows (lackL i, 2 ^ i) h.each (lackN_lamp i hi) (Nat.pow_lt_pow_right (by decide) hi) (lackL_lt i hi)
    split
    · rename_i z
      refine ⟨fun r hr => ?_, ?_⟩
      · rcases List.mem_append.mp hr with hr | hr
        · exact h.each r hr
        · have e := List.mem_singleton.mp hr
          subst e
          exact ⟨⟨_, log2_lt z d.2.2.2, rfl, hb_bit z⟩, d.2.2.2, d.1, d.2.1.trans (outs_pow hg), d.2.2.1⟩
      · rw [List.pairwise_append]
        refine ⟨h.ord, List.pairwise_singleton _ _, fun r hr s hs => ?_⟩
        have e := List.mem_singleton.mp hs
        subst e
        exact down_clear rows (lackL i, 2 ^ i) h.each h.ord r hr
    · exact h
theorem rowsOf_ok (g : Nat) : RowsOk g (rowsOf g) := rows_inv (lotOf g) [] (fun i hi => mem_lotOf.mp hi) ⟨fun r hr => absurd hr List.not_mem_nil, List.Pairwise.nil⟩
theorem rows_mono : ∀ (ls : List Nat) (rows : List Row), ∀ r ∈ rows, r ∈ ls.foldl rowsStep rows
  | [], _, _, h => h
  | i :: ls, rows, r, h => rows_mono ls (rowsStep rows i) r (by
      unfold rowsStep
      split
      · exact List.mem_append_left _ h
      · exact h)
theorem rows_beta {β : Nat → Bool} (h0 : β 0 = false) (hx : ∀ a b, β (a ^^^ b) = (β a ^^ β b)) : ∀ (ls : List Nat) (rows : List Row), (∀ r ∈ ls.foldl rowsStep rows, β r.2.1 = false) → ∀ i ∈ ls, β (lackL i) = false
  | [], _, _, i, h => by cases h
  | k :: ls, rows, hr, i, hi => by
    rcases List.mem_cons.mp hi with rfl | hi
    · have all : ∀ r ∈ rowsStep rows i, β r.2.1 = false := fun r z => hr r (rows_mono ls (rowsStep rows i) r z)
      have e := down_beta hx rows (lackL i, 2 ^ i) fun r z => all r (by
        unfold rowsStep
        split
        · exact List.mem_append_left _ z
        · exact z)
      have e' : β (down rows (lackL i, 2 ^ i)).1 = β (lackL i) := e
      rw [← e']
      by_cases z : (down rows (lackL i, 2 ^ i)).1 = 0
      · rw [z]; exact h0
      · refine all (hb (down rows (lackL i, 2 ^ i)).1, (down rows (lackL i, 2 ^ i)).1, (down rows (lackL i, 2 ^ i)).2) ?_
        unfold rowsStep
        rw [if_pos z]
        exact List.mem_append_right _ (List.mem_singleton.mpr rfl)
    · exact rows_beta h0 hx ls (rowsStep rows k) hr i hi
theorem oddb_pow {j k : Nat} (h : j < k) : oddb k (2 ^ j) = true := by
  induction k with
  | zero => omega
  | succ k ih =>
    show (oddb k (2 ^ j) ^^ (2 ^ j).testBit k) = true
    by_cases e : j = k
    · subst e
      have z : ∀ m, m ≤ j → oddb m (2 ^ j) = false := by
        intro m
        induction m with
        | zero => intro _; rfl
        | succ m im =>
          intro hm
          show (oddb m (2 ^ j) ^^ (2 ^ j).testBit m) = false
          rw [im (by omega), Nat.testBit_two_pow_of_ne (by omega)]
          rfl
      rw [z j (Nat.le_refl _), Nat.testBit_two_pow_self]
      rfl
    · rw [ih (by omega), Nat.testBit_two_pow_of_ne e]
      rfl
theorem bits_inv {g l : Nat} (hl : l ≠ 0) (hl2 : l < 2 ^ 12) : ∀ (rows : List Row), (∀ r ∈ rows, RowOk g r) → (rows.Pairwise fun r s => s.2.1 &&& r.1 = 0) → (∀ r ∈ rows, l &&& r.1 = 0) →
    (∀ r ∈ rows, oddb 12 (bitsM rows l &&& r.2.1) = false) ∧ oddb 12 (bitsM rows l &&& l) = true
  | [], _, _, _ => by
    refine ⟨fun r h => absurd h List.not_mem_nil, ?_⟩
    show oddb 12 (hb l &&& l) = true
    unfold hb
    rw [Nat.and_comm, and_pow, hb_bit hl]
    exact oddb_pow (log2_lt hl hl2)
  | r :: rows, ok, ord, cl => by
    rw [List.pairwise_cons] at ord
    have ih := bits_inv hl hl2 rows (fun s hs => ok s (List.mem_cons_of_mem _ hs)) ord.2 fun s hs => cl s (List.mem_cons_of_mem _ hs)
    have e : bitsM (r :: rows) l = bitStep (bitsM rows l) r := by
      unfold bitsM
      rw [List.reverse_cons, List.foldl_append]
      rfl
    obtain ⟨j, hj, ej, hjb⟩ := (ok r List.mem_cons_self).bit
    rw [e]
    unfold bitStep
    by_cases z : oddb 12 (bitsM rows l &&& r.2.1) = true
    · rw [if_pos z]
      refine ⟨fun s hs => ?_, ?_⟩
      · rcases List.mem_cons.mp hs with rfl | hs
        · rw [and_xor_l, oddb_xor, z, ej, Nat.and_comm (2 ^ j), and_pow, hjb]
          show (true ^^ oddb 12 (2 ^ j)) = false
          rw [oddb_pow hj]
          rfl
        · rw [and_xor_l, oddb_xor, ih.1 s hs, Nat.and_comm r.1, ord.1 s hs, oddb_zero]
          rfl
      · rw [and_xor_l, oddb_xor, ih.2, Nat.and_comm r.1, cl r List.mem_cons_self, oddb_zero]
        rfl
    · rw [if_neg z]
      refine ⟨fun s hs => ?_, ih.2⟩
      rcases List.mem_cons.mp hs with rfl | hs
      · exact Bool.eq_false_iff.mpr z
      · exact ih.1 s hs
/-- the lot of the lamps that have the k-th bit in what they lack -/
def hmask (k : Nat) : Nat := mk fun i => (lackL i).testBit k
theorem hmask_lack : ∀ k, k < 12 → lackN (hmask k) = 0 := by decide +kernel
theorem bar_lin (bits : Nat) : ∀ k, mk (fun i => oddb k (bits &&& lackL i)) = lin hmask k bits
  | 0 => by
    apply bits_ext (mk_lt _) (show (0 : Nat) < 2 ^ 24 by decide)
    intro i hi
    unfold mk
    rw [mkK_bit]
    simp [oddb, lin]
  | k + 1 => by
    show _ = lin hmask k bits ^^^ _
    rw [← bar_lin bits k]
    apply bits_ext (mk_lt _)
    · refine Nat.xor_lt_two_pow (mk_lt _) ?_
      split
      · exact mk_lt _
      · decide
    intro i hi
    unfold hmask mk
    rw [mkK_bit, Nat.testBit_xor, mkK_bit]
    show (decide (i < 24) && (oddb k (bits &&& lackL i) ^^ (bits &&& lackL i).testBit k)) = _
    rw [Nat.testBit_and]
    cases bits.testBit k
    · simp [hi]
    · show _ = (_ ^^ (mkK _ 24).testBit i)
      rw [mkK_bit]
      simp [hi]
theorem lin_all0 {f : Nat → Nat} (n : Nat) : ∀ k, (∀ i, i < k → f i = 0) → lin f k n = 0
  | 0, _ => rfl
  | k + 1, h => by
    show lin f k n ^^^ _ = 0
    rw [lin_all0 n k fun i hi => h i (Nat.lt_succ_of_lt hi), h k (Nat.lt_succ_self k)]
    simp
theorem bar_right (bits : Nat) : lackN (barM bits) = 0 := by
  unfold barM
  rw [bar_lin]
  rw [lin_comp (g := lackN) lackN_zero lackN_xor hmask bits 12]
  exact lin_all0 bits 12 hmask_lack
theorem bar_share {β : Nat → Bool} (h0 : β 0 = false) (hx : ∀ a b, β (a ^^^ b) = (β a ^^ β b)) (n : Nat) : ∀ k, k ≤ 24 → oddb k (mk (fun i => β (lackL i)) &&& n) = β (lin lackL k n)
  | 0, _ => h0.symm
  | k + 1, hk => by
    show (oddb k (mk (fun i => β (lackL i)) &&& n) ^^ (mk (fun i => β (lackL i)) &&& n).testBit k) = β (lin lackL k n ^^^ _)
    rw [bar_share h0 hx n k (by omega), hx, Nat.testBit_and]
    unfold mk
    rw [mkK_bit]
    have : k < 24 := by omega
    cases n.testBit k
    · simp [h0]
    · simp [this]
theorem lin_beta {β : Nat → Bool} (h0 : β 0 = false) (hx : ∀ a b, β (a ^^^ b) = (β a ^^ β b)) (n : Nat) : ∀ k, (∀ i, i < k → n.testBit i = true → β (lackL i) = false) → β (lin lackL k n) = false
  | 0, _ => h0
  | k + 1, h => by
    show β (lin lackL k n ^^^ _) = false
    rw [hx, lin_beta h0 hx n k fun i hi => h i (Nat.lt_succ_of_lt hi)]
    cases e : n.testBit k
    · simp [h0]
    · simp [h k (Nat.lt_succ_self k) e]
/-- the lot is filled: what is told is a right lot that fills it -/
theorem filled_ok {n g : Nat} (hn : n < 2 ^ 24) (h : (askedM n g).1 = 0) : (askedM n g).2 < 2 ^ 24 ∧ lackN (askedM n g).2 = 0 ∧ outs (askedM n g).2 g = outs n g := by
  have hk : outs n g < 2 ^ 24 := by
    unfold outs
    exact Nat.xor_lt_two_pow hn (and_lt_l _ hn)
  have d := down_inv (g := g) (rowsOf g) (lackN (outs n g), outs n g) (rowsOf_ok g).each rfl hk (lackN_lt _)
  have e : outs (outs n g) g = outs n g := by
    refine bits_ext ?_ hk fun i _ => ?_
    · unfold outs at hk ⊢
      exact Nat.xor_lt_two_pow hk (and_lt_l _ hk)
    · show ((outs n g) ^^^ ((outs n g) &&& g)).testBit i = _
      rw [outs_bit]
      show ((n ^^^ (n &&& g)).testBit i && !g.testBit i) = (n ^^^ (n &&& g)).testBit i
      rw [outs_bit]
      cases n.testBit i <;> cases g.testBit i <;> rfl
  exact ⟨d.2.2.1, d.1.trans h, d.2.1.trans e⟩
/-- the lot is not filled: what is told is a bar -/
theorem barred_ok {n g : Nat} (hn : n < 2 ^ 24) (h : (askedM n g).1 ≠ 0) :
    barM (bitsM (rowsOf g) (askedM n g).1) < 2 ^ 24 ∧ lackN (barM (bitsM (rowsOf g) (askedM n g).1)) = 0 ∧ barM (bitsM (rowsOf g) (askedM n g).1) &&& g = 0 ∧ oddb 24 (barM (bitsM (rowsOf g) (askedM n g).1) &&& n) = true := by
  have hk : outs n g < 2 ^ 24 := by
    unfold outs
    exact Nat.xor_lt_two_pow hn (and_lt_l _ hn)
  have ok := rowsOf_ok g
  have d := down_inv (g := g) (rowsOf g) (lackN (outs n g), outs n g) ok.each rfl hk (lackN_lt _)
  have cl : ∀ r ∈ rowsOf g, (askedM n g).1 &&& r.1 = 0 := down_clear (rowsOf g) (lackN (outs n g), outs n g) ok.each ok.ord
  obtain ⟨b1, b2⟩ := bits_inv h d.2.2.2 (rowsOf g) ok.each ok.ord cl
  generalize hB : bitsM (rowsOf g) (askedM n g).1 = B at b1 b2 ⊢
  have h0 : (fun v => oddb 12 (B &&& v)) 0 = false := by
    show oddb 12 (B &&& 0) = false
    rw [Nat.and_zero]
    exact oddb_zero 12
  have hx : ∀ a b, (fun v => oddb 12 (B &&& v)) (a ^^^ b) = ((fun v => oddb 12 (B &&& v)) a ^^ (fun v => oddb 12 (B &&& v)) b) := fun a b => by
    show oddb 12 (B &&& (a ^^^ b)) = _
    rw [and_xor_r, oddb_xor]
  have gap : ∀ i, i < 24 → g.testBit i = true → oddb 12 (B &&& lackL i) = false := fun i hi hg => rows_beta (β := fun v => oddb 12 (B &&& v)) h0 hx (lotOf g) [] b1 i (mem_lotOf.mpr ⟨hi, hg⟩)
  refine ⟨mk_lt _, bar_right B, ?_, ?_⟩
  · refine bits_ext (and_lt_l _ (mk_lt _)) (by decide) fun i hi => ?_
    rw [Nat.testBit_and, Nat.zero_testBit]
    unfold barM mk
    rw [mkK_bit]
    cases hg : g.testBit i
    · simp
    · rw [gap i hi hg]
      simp
  · have s := bar_share (β := fun v => oddb 12 (B &&& v)) h0 hx n 24 (Nat.le_refl _)
    have s' : oddb 24 (barM B &&& n) = oddb 12 (B &&& lackN n) := s
    rw [s']
    have e : n = outs n g ^^^ (n &&& g) := by
      unfold outs
      rw [xor_canc]
    have e1 : oddb 12 (B &&& lackN (n &&& g)) = false := lin_beta (β := fun v => oddb 12 (B &&& v)) h0 hx (n &&& g) 24 fun i hi hb => gap i hi (by
      rw [Nat.testBit_and] at hb
      cases q : g.testBit i
      · rw [q, Bool.and_false] at hb; cases hb
      · rfl)
    have e2 : oddb 12 (B &&& (askedM n g).1) = oddb 12 (B &&& lackN (outs n g)) := down_beta (β := fun v => oddb 12 (B &&& v)) hx (rowsOf g) (lackN (outs n g), outs n g) b1
    have e3 : lackN n = lackN (outs n g) ^^^ lackN (n &&& g) := by
      rw [← lackN_xor, ← e]
    rw [e3, and_xor_r, oddb_xor, e1, ← e2, b2]
    rfl
end K17
set_option Elab.async false
set_option linter.all false
set_option maxRecDepth 100000
set_option maxHeartbeats 4000000
/-! The walk's own words over HandS.Evl: values told by a predicate that stays when the heap grows. -/
namespace KW
open PySem PySem.Spec PyProof.Rows L2 Evl
abbrev VP := V → Hp → Prop
/-- stays when the heap grows -/
def Mo (P : VP) : Prop := ∀ v H H', Ex H H' → P v H → P v H'
def is (x : V) : VP := fun v _ => v = x
theorem mo_is {x : V} : Mo (is x) := fun _ _ _ _ h => h
def IsT (K : PySem.W.Frag) (xs : List V) : VP := fun v H => ∃ a, v = .ref a ∧ SqT K H a xs
def IsL (K : PySem.W.Frag) (xs : List V) : VP := fun v H => ∃ a, v = .ref a ∧ SqL K H a xs
theorem mo_T {K : PySem.W.Frag} {xs : List V} : Mo (IsT K xs) := fun _ _ _ e ⟨a, h1, h2⟩ => ⟨a, h1, ex_t e h2⟩
theorem mo_L {K : PySem.W.Frag} {xs : List V} : Mo (IsL K xs) := fun _ _ _ e ⟨a, h1, h2⟩ => ⟨a, h1, ex_l e h2⟩
/-- what is returned: some value of which P stands -/
def Ret (P : VP) (H : Hp) (Q : VK) : Prop := ∀ v H2, Ex H H2 → P v H2 → Q v H2
def ni (l : List Nat) : List V := l.map fun (n : Nat) => V.int (n : Int)
def EvP (te : TE) (σ : L2.St) (H : Hp) (P : VP) : Prop := ∀ H1, Ex H H1 → ∀ Q : VK, (∀ v H2, Ex H1 H2 → P v H2 → Q v H2) → te σ H1 Q
def EvAP (ta : TA) (σ : L2.St) (H : Hp) (P : List V → Hp → Prop) : Prop := ∀ H1, Ex H H1 → ∀ Q : List V → Hp → Prop, (∀ vs H2, Ex H1 H2 → P vs H2 → Q vs H2) → ta σ H1 Q
section
variable {K : PySem.W.Frag} {σ : L2.St} {H H' : Hp} {ta tb te tx : TE} {t u : TT} {x y z v : V} {r : R2} {P P1 P2 : VP}
theorem EvP.mono (e : Ex H H') (h : EvP te σ H P) : EvP te σ H' P := fun H1 a Q q => h H1 (e.trans a) Q q
theorem ep_ev (h : Ev te σ H v) : EvP te σ H (is v) := fun H1 e Q q => h H1 e Q fun H2 e2 => q v H2 e2 rfl
theorem ev_ep (h : EvP te σ H (is v)) : Ev te σ H v := fun H1 e Q q => h H1 e Q fun w H2 e2 hw => by
  rw [show w = v from hw]
  exact q H2 e2
theorem ep_imp (h : EvP te σ H P) (hi : ∀ v H1, Ex H H1 → P v H1 → P1 v H1) : EvP te σ H P1 := fun H1 e Q q => h H1 e Q fun v H2 e2 hv => q v H2 e2 (hi v H2 (e.trans e2) hv)
theorem ep_evi (h : Ev te σ H v) (hi : ∀ H1, Ex H H1 → P v H1) : EvP te σ H P := fun H1 e Q q => h H1 e Q fun H2 e2 => q v H2 e2 (hi H2 (e.trans e2))
theorem ep_L {xs : List V} (h : EvL te σ H xs) : EvP te σ H (IsL K xs) := fun H1 e Q q => h H1 e Q fun p H2 _ e2 hp => q (.ref p) H2 e2 ⟨p, rfl, sq_of hp⟩
theorem ep_U {xs : List V} (h : EvU te σ H xs) : EvP te σ H (IsT K xs) := fun H1 e Q q => h H1 e Q fun p H2 _ e2 hp => q (.ref p) H2 e2 ⟨p, rfl, st_of hp⟩
theorem ep_if {b : Bool} (h : EvT t σ H b) (h1 : b = true → EvP ta σ H P) (h2 : b = false → EvP tb σ H P) : EvP (tIf t ta tb) σ H P := fun H1 e Q q => h H1 e _ fun H2 e2 => by
  cases b with
  | true =>
    show ta σ H2 Q
    exact h1 rfl H2 (e.trans e2) Q fun v H3 e3 => q v H3 (e2.trans e3)
  | false =>
    show tb σ H2 Q
    exact h2 rfl H2 (e.trans e2) Q fun v H3 e3 => q v H3 (e2.trans e3)
/-- two operands told by predicates -/
theorem ep_op (ha : EvP ta σ H P1) (m1 : Mo P1) (hb : EvP tb σ H P2) (hr : ∀ x y H1, Ex H H1 → P1 x H1 → P2 y H1 → ∀ Q : VK, (∀ v H2, Ex H1 H2 → P v H2 → Q v H2) → r x y H1 Q) : EvP (tOp r ta tb) σ H P := fun H1 e Q q =>
  ha H1 e _ fun x H2 e2 hx => hb H2 (e.trans e2) _ fun y H3 e3 hy => hr x y H3 ((e.trans e2).trans e3) (m1 _ _ _ e3 hx) hy Q fun v H4 e4 => q v H4 ((e2.trans e3).trans e4)
theorem ea_nilP : EvAP tNil σ H (fun vs _ => vs = []) := fun H1 _ _ q => q [] H1 (Ex.refl H1) rfl
theorem ea_consP {tr : TA} {Pr : List V → Hp → Prop} (h : EvP te σ H P) (m : Mo P) (hr : EvAP tr σ H Pr) : EvAP (tCons te tr) σ H (fun vs H2 => ∃ x xs, vs = x :: xs ∧ P x H2 ∧ Pr xs H2) := fun H1 e _ q =>
  h H1 e _ fun x H2 e2 hx => hr H2 (e.trans e2) _ fun xs H3 e3 hxs => q _ H3 (e2.trans e3) ⟨x, xs, rfl, m _ _ _ e3 hx, hxs⟩
theorem ea1 (h : EvP te σ H P) (m : Mo P) : EvAP (tCons te tNil) σ H (fun vs H2 => ∃ x, vs = [x] ∧ P x H2) := fun H1 e _ q =>
  h H1 e _ fun x H2 e2 hx => q _ H2 e2 ⟨x, rfl, hx⟩
theorem ea2 (h1 : EvP ta σ H P1) (m1 : Mo P1) (h2 : EvP tb σ H P2) : EvAP (tCons ta (tCons tb tNil)) σ H (fun vs H2 => ∃ x y, vs = [x, y] ∧ P1 x H2 ∧ P2 y H2) := fun H1 e _ q =>
  h1 H1 e _ fun x H2 e2 hx => h2 H2 (e.trans e2) _ fun y H3 e3 hy => q _ H3 (e2.trans e3) ⟨x, y, rfl, m1 _ _ _ e3 hx, hy⟩
theorem ea3 {tc : TE} {P3 : VP} (h1 : EvP ta σ H P1) (m1 : Mo P1) (h2 : EvP tb σ H P2) (m2 : Mo P2) (h3 : EvP tc σ H P3) : EvAP (tCons ta (tCons tb (tCons tc tNil))) σ H (fun vs H2 => ∃ x y z, vs = [x, y, z] ∧ P1 x H2 ∧ P2 y H2 ∧ P3 z H2) := fun H1 e _ q =>
  h1 H1 e _ fun x H2 e2 hx => h2 H2 (e.trans e2) _ fun y H3 e3 hy => h3 H3 ((e.trans e2).trans e3) _ fun z H4 e4 hz => q _ H4 ((e2.trans e3).trans e4) ⟨x, y, z, rfl, m1 _ _ _ (e3.trans e4) hx, m2 _ _ _ e4 hy, hz⟩
/-- a built-in or a def called on arguments told by predicates -/
theorem ep_cb {rr : List V → Hp → VK → Prop} {tr : TA} {Pa : List V → Hp → Prop} (h : EvAP tr σ H Pa) (hr : ∀ vs H1, Ex H H1 → Pa vs H1 → ∀ Q : VK, (∀ v H2, Ex H1 H2 → P v H2 → Q v H2) → rr vs H1 Q) : EvP (tCB rr tr) σ H P := fun H1 e Q q =>
  h H1 e _ fun vs H2 e2 hv => hr vs H2 (e.trans e2) hv Q fun v H3 e3 => q v H3 (e2.trans e3)
theorem ep_call {sp : Sp} {dvs : List V} {E : XK} {tr : TA} {Pa : List V → Hp → Prop} (h : EvAP tr σ H Pa) (hr : ∀ vs H1, Ex H H1 → Pa vs H1 → ∀ Q : VK, Ret P H1 Q → sp (vs ++ dvs) H1 Q E) : EvP (tCall sp dvs E tr) σ H P := fun H1 e Q q =>
  h H1 e _ fun vs H2 e2 hv => hr vs H2 (e.trans e2) hv Q fun v H3 e3 => q v H3 (e2.trans e3)
theorem ea_of {tr : TA} {vs : List V} (h : EvA tr σ H vs) : EvAP tr σ H (fun us _ => us = vs) := fun H1 e Q q => h H1 e Q fun H2 e2 => q vs H2 e2 rfl
/-! ### statements -/
variable {D : Ends} {tu tw tz : TS} {g : TG}
theorem s_asgP {i : Nat} (h : EvP te σ H P) (k : ∀ v H1, Ex H H1 → P v H1 → D.nx (σ.set i (some v)) H1) : tAsg te (gName i) D σ H := h H (Ex.refl H) _ fun v H1 e hv => k v H1 e hv
theorem q_asgP {i : Nat} (h : EvP te σ H P) (k : ∀ v H1, Ex H H1 → P v H1 → tz D (σ.set i (some v)) H1) : tSeq (tAsg te (gName i)) tz D σ H := s_asgP (D := { D with nx := tz D }) h k
theorem s_retP (h : EvP te σ H P) (k : Ret P H D.rt) : tRet te D σ H := h H (Ex.refl H) _ fun v H1 e hv => k v H1 e hv
theorem s_par {i j : Nat} {ta : TA} {Pa : List V → Hp → Prop} (h : EvAP ta σ H Pa) (k : ∀ vs H1, Ex H H1 → Pa vs H1 → ∃ v w, vs = [v, w] ∧ D.nx ((σ.set i (some v)).set j (some w)) H1) : tPar i j ta D σ H :=
  h H (Ex.refl H) _ fun vs H1 e hv => k vs H1 e hv
theorem q_par {i j : Nat} {ta : TA} {Pa : List V → Hp → Prop} (h : EvAP ta σ H Pa) (k : ∀ vs H1, Ex H H1 → Pa vs H1 → ∃ v w, vs = [v, w] ∧ tz D ((σ.set i (some v)).set j (some w)) H1) : tSeq (tPar i j ta) tz D σ H := s_par (D := { D with nx := tz D }) h k
theorem q_par3 {i j l : Nat} {ta : TA} {Pa : List V → Hp → Prop} (h : EvAP ta σ H Pa) (k : ∀ vs H1, Ex H H1 → Pa vs H1 → ∃ u v w, vs = [u, v, w] ∧ tz D (((σ.set i (some u)).set j (some v)).set l (some w)) H1) : tSeq (tPar3 i j l ta) tz D σ H :=
  h H (Ex.refl H) _ fun vs H1 e hv => k vs H1 e hv
/-- a, b, .. = a tuple -/
theorem q_tup {n : Nat} {gs : TGs} {Pt : List V → Hp → Prop} (h : EvP te σ H (fun v H1 => ∃ a xs, v = .ref a ∧ SqT K H1 a xs ∧ xs.length = n ∧ Pt xs H1)) (k : ∀ xs H1, Ex H H1 → xs.length = n → Pt xs H1 → gs xs σ H1 fun σ2 H2 => tz D σ2 H2) : tSeq (tAsg te (gTup K n gs)) tz D σ H :=
  h H (Ex.refl H) _ fun v H1 e ⟨a, xs, ev, hs, hl, hp⟩ => ⟨a, xs, ev, hs, hl, k xs H1 e hl hp⟩
theorem q_ret_if {b : Bool} (h : EvT t σ H b) (h1 : b = true → ∀ H1, Ex H H1 → tu { D with nx := tz D } σ H1) (h2 : b = false → ∀ H1, Ex H H1 → tz D σ H1) : tSeq (tIfS t tu tNext) tz D σ H := q_when h h1 h2
/-! ### truth, membership, tuples -/
theorem et_int {i : Int} (h : Ev te σ H (.int i)) : EvT (fun σ H Q => te σ H fun x H' => ∃ k, TruV K x H' k ∧ Q k H') σ H (i != 0) := fun H1 e _ q => h H1 e _ fun H2 e2 => ⟨_, rfl, q H2 e2⟩
theorem eqV_int (a b : Int) : eqV (.int a) (.int b) = decide (a = b) := by
  unfold eqV
  first
    | rfl
    | (by_cases h : a = b <;> simp [h])
theorem flat_ni (l : List Nat) : (ni l).all flatV = true := by
  unfold ni
  rw [List.all_map]
  exact List.all_eq_true.mpr fun _ _ => rfl
theorem inV_ni (l : List Nat) (n : Nat) : inV (.int (n : Int)) (ni l) = decide (n ∈ l) := by
  unfold inV ni
  rw [List.any_map]
  induction l with
  | nil => rfl
  | cons a r ih =>
    rw [List.any_cons, ih]
    show (eqV (.int (a : Int)) (.int (n : Int)) || _) = _
    rw [eqV_int]
    by_cases h : a = n
    · subst h
      simp
    · have h1 : ¬ (a : Int) = (n : Int) := by omega
      have h2 : ¬ n = a := fun q => h q.symm
      simp [h1, h2]
theorem ev_inT {n : Nat} {p : Addr} {l : List Nat} (ha : Ev ta σ H (.int (n : Int))) (hb : Ev tb σ H (.ref p)) (hs : SqT K H p (ni l)) : Ev (tOp (rIn K false) ta tb) σ H (.bl (decide (n ∈ l))) := by
  rw [← inV_ni]
  exact ev_op ha hb (rv_isT hs rfl (flat_ni l))
theorem ev_niT {n : Nat} {p : Addr} {l : List Nat} (ha : Ev ta σ H (.int (n : Int))) (hb : Ev tb σ H (.ref p)) (hs : SqT K H p (ni l)) : Ev (tOp (rIn K true) ta tb) σ H (.bl (!decide (n ∈ l))) := by
  rw [← inV_ni]
  exact ev_op ha hb (rv_niT hs rfl (flat_ni l))
/-- tuple(a new list) -/
def rTupleOf (K : PySem.W.Frag) : List V → Hp → VK → Prop := fun xs H Q => ∃ p ys, xs = [.ref p] ∧ ((SqL K H p ys ∧ ∀ l, H l = none → Q (.ref l) (upd H l (.tup ys))) ∨ (SqT K H p ys ∧ Q (.ref p) H))
theorem eu_tuple {xs : List V} (h : EvL te σ H xs) : EvU (tCB (rTupleOf K) (tCons te tNil)) σ H xs := fun H1 e Q q =>
  h H1 e _ fun p H2 hn e2 h2 => ⟨p, xs, rfl, .inl ⟨sq_of h2, fun l hl => q l _ (fresh_back e2 hl) (e2.trans (Ex.new hl)) upd_same⟩⟩
theorem ev_lenL {xs : List V} (h : EvL te σ H xs) : Ev (tCB (rLenS K) (tCons te tNil)) σ H (.int (xs.length : Int)) := ev_lenN h
theorem ep_len {xs : List V} (h : EvP te σ H (fun v H1 => ∃ a, v = .ref a ∧ (SqL K H1 a xs ∨ SqT K H1 a xs))) : Ev (tCB (rLenS K) (tCons te tNil)) σ H (.int (xs.length : Int)) := fun H1 e Q q =>
  h H1 e _ fun v H2 e2 ⟨a, ev, ha⟩ => ⟨a, xs, by rw [ev], ha, q H2 e2⟩
theorem bitXor_nat (a b : Nat) : Builtin.bitXor (a : Int) (b : Int) = ((a ^^^ b : Nat) : Int) := by
  rw [Bits.bitXor_pp (by omega) (by omega)] <;> simp
theorem bitAnd_nat (a b : Nat) : Builtin.bitAnd (a : Int) (b : Int) = ((a &&& b : Nat) : Int) := by
  rw [bitAnd_pp (by omega) (by omega)] <;> simp
end
end KW
set_option Elab.async false
set_option linter.all false
set_option maxRecDepth 100000
set_option maxHeartbeats 4000000
/-! Rules that the hand layer lacks: enumerate of a tuple, set of a list of ints, a tuple turned round, an own error made with nothing. -/
namespace KR
open PySem PySem.Spec PyProof.Rows L2
/-! ### set(a list of ints) -/
abbrev sObj (w : World) : Obj := { cls := .type "set", dict := none, data := .set #[] 0 (.fresh 0 0 (!w.params.followText "set-order")) }
abbrev sHp (w : World) (s : Shared) : Heap := s.heap.push (sObj w)
section
variable {P : Program} {w : World} {A : Around} {E : Value → Shared → Prop} {s : Shared}
set_option maxHeartbeats 6400000 in
theorem set_of_ints {l : Addr} {its : Array Value} (ns : List Int) {Q : Value → Shared → Prop} (hh : A.handled = none) (hl : s.heap.IsList l its) (hi : IntsAre its.toList ns) (hb : ns.length + 1 < scanBound)
    (h : ∀ (g : Heap) (tk c : Nat), SetR w g s.heap.objs.size (fun j => decide (j ∈ ns)) c → c ≤ ns.length → (∀ b o, s.heap.get? b = some o → g.get? b = some o) → Q (.ref s.heap.objs.size) { s with heap := g, toks := tk }) :
    wpAny (model P w) A (call (.type "set") [.ref l]) Q E s := by
  have hz : its.size = ns.length := by have q := IntsAre.length hi; rw [Array.length_toList] at q; exact q
  obtain ⟨c0, t0, hmr⟩ := F.called_set.mro
  have e1 := F.called_set.made; have e2 := F.called_set.sub; have e3 := F.called_set.notType
  have e4 := F.called_set.canCreate; have e5 := F.typeCall_set_1 (.ref l)
  refine wpAny_call (codeAny_of_tree ?_); show wpAny _ _ (callAny (.type "set") _) _ _ _
  refine wpAny_pure ⟨Code.quiet_builtin _ (by decide +kernel), codeAny_builtin F.entry_type_call ?_⟩; rw [Around.under_plain (weight_type_call_type "set" [.ref l] []) rfl]
  repeat (any_goals (first | assumption | wp_step))
  refine codeAny_mono (code_set_led1 (.ref l) (E := E) (Q₁ := fun obj s1 => obj = .ref s.heap.objs.size ∧ s1 = { s with heap := sHp w s }) ⟨rfl, rfl⟩) fun r s1 hr => ?_
  match r, hr with
  | .error e, hr => exact hr
  | .ok .next, hr => exact hr.elim
  | .ok .brk, hr => exact hr.elim
  | .ok .cont, hr => exact hr.elim
  | .ok (.ret obj), hr =>
    obtain ⟨rfl, rfl⟩ := hr
    have hS : (sHp w s).get? s.heap.objs.size = some (sObj w) := Heap.get?_push_size _ rfl
    have hT : Shared.TypeIs { s with heap := sHp w s } (.ref s.heap.objs.size) "set" := ⟨_, hS, rfl⟩
    have f1 := F.called_set.init.lookup; have f2 := F.called_set.init.bind (.ref s.heap.objs.size)
    repeat (any_goals (first | assumption | wp_step))
    refine codeAny_mono (codeAny_call_builtin (R := wants (fun r s2 => r = .none ∧ ∃ g tk c, s2 = { s with heap := g, toks := tk } ∧ SetR w g s.heap.objs.size (fun j => decide (j ∈ ns)) c ∧ c ≤ ns.length ∧ ∀ b o, s.heap.get? b = some o → g.get? b = some o) E)
      F.called_set.init.plain F.entry_set_init (check_set_init_1 hT ?_)) fun r2 s2 hr2 => ?_
    · obtain ⟨⟨oc, od, odt, osl⟩, hol, hcl, nl, hdl⟩ := hl
      simp only at hcl hdl; subst hcl hdl
      have hol2 : (sHp w s).get? l = some { cls := .type "list", dict := od, data := .seq its nl, slots := osl } := Heap.get?_push_of_some _ hol
      have g1 := F.sub_list_set; have g2 := F.sub_list_frozenset
      have g3 : (Value.type "list" == Value.type "dict") = false := by decide
      have hl1 : (sHp w s).IsList l its := ⟨_, hol2, rfl, nl, rfl⟩
      unfold Builtin.«set.__init__» noKeywords Builtin.Frozenset.updateFrom; generalize hPI : pyIter = PI
      wp_walk
      subst hPI
      refine wpAny_pyIter_list hl1 (wpAny_bind (wpAny_runValue ?_))
      have hlS : l < s.heap.objs.size := Heap.lt_size hol
      have hA : A.in1.in1.in1.handled = none := by simp [hh]
      have hsz : (sHp w s).objs.size = s.heap.objs.size + 1 := Heap.size_push ..
      have n1 : l ≠ (sHp w s).objs.size := by rw [hsz]; exact Nat.ne_of_lt (Nat.lt_succ_of_lt hlS)
      have n2 : s.heap.objs.size ∉ [(sHp w s).objs.size, l] := by
        rw [hsz]; simp only [List.mem_cons, List.mem_singleton, List.not_mem_nil, or_false, not_or]; exact ⟨Nat.ne_of_lt (Nat.lt_succ_self _), Nat.ne_of_gt hlS⟩
      have hv : ∀ (i : Nat) (v : Value), its[i]? = some v → ∃ k t, ns[i]? = some k ∧ v = .int k t := fun i v q => by
        have hlt : i < ns.length := by rw [← hz]; exact (Array.getElem?_eq_some_iff.mp q).1
        obtain ⟨t, e⟩ := IntsAre.int_at hi i v (by rw [Array.getElem?_toList]; exact q)
        exact ⟨ns[i], t, List.getElem?_eq_getElem hlt, by rw [e, List.getD_eq_getElem?_getD, List.getElem?_eq_getElem hlt] <;> rfl⟩
      refine set_update_ints ((Walks.list hA _ l n1 its).toS) s.heap.objs.size n2 ns hz hb hv (its.size - 0) 0 _ (by omega) (Nat.zero_le _) ⟨⟨_, Heap.get?_push_size _ rfl, rfl, rfl⟩, hl1.push _⟩ ⟨0, Nat.le_refl 0, setR_new_at (Heap.get?_push_of_some _ hS)⟩ ?_
      intro s' c' hm hc' hS'
      obtain ⟨g, gg, dr, tk, os⟩ := s'
      obtain rfl : gg = s.gens := hm.gens
      obtain rfl : dr = s.drawn := hm.drawn
      obtain rfl : os = s.os := hm.os
      show wpAny _ _ _ _ _ _
      refine wpAny_pure ?_
      show wpAny _ _ (ret Value.none) _ _ _
      rw [hz] at hc'
      refine wpAny_pure ⟨rfl, g, tk, c', rfl, hS', hc', fun b o e => ?_⟩
      have hb0 : b < s.heap.objs.size := Heap.lt_size e
      refine hm.heap b o ?_ (Heap.get?_push_of_some _ (Heap.get?_push_of_some _ e))
      rw [hsz]; simp only [List.mem_cons, List.mem_singleton, List.not_mem_nil, or_false, not_or]; exact ⟨Nat.ne_of_lt hb0, Nat.ne_of_lt (Nat.lt_succ_of_lt hb0)⟩
    · match r2, hr2 with
      | .error e, hr2 => exact hr2
      | .ok .next, hr2 => exact hr2.elim
      | .ok .brk, hr2 => exact hr2.elim
      | .ok .cont, hr2 => exact hr2.elim
      | .ok (.ret r), hr2 =>
        obtain ⟨rfl, g, tk, c, rfl, a1, a2, a3⟩ := hr2
        repeat (any_goals (first | assumption | wp_step))
        exact h _ _ _ a1 a2 a3
end
def rSetI (K : PySem.W.Frag) (w : World) : List V → Hp → VK → Prop := fun vs H Q => ∃ (a : Addr) (ns : List Int), vs = [V.ref a] ∧ SqL K H a (ns.map V.int) ∧ ns.length ≤ 60 ∧
  ∀ (p : Addr) (c : Nat), H p = none → c ≤ ns.length → Q (.ref p) (upd H p (SetO w p (fun j => decide (j ∈ ns)) c))
section
variable {X : Cx}
theorem cr_setI (hc : X.calm = true) : CallR X (.type "set") (rSetI X.K X.w) := by
  intro pins s σ H vs us Q I r h
  obtain ⟨a, ns, rfl, hq, hl, q⟩ := h
  rw [Vals.ref1 r]
  obtain ⟨its, rv, pl, _⟩ := I.list hq
  refine set_of_ints ns (I.ok.hd hc) pl.isList (by simpa using RZ.intsAre_vals rv) (by unfold scanBound; omega) fun g tk c R hcn k => ?_
  exact ⟨.ref _, _, I.laid (t' := tk) k (Nat.le_refl _) (setO_new R), rfl, q _ c (I.hok.fresh (Nat.le_refl _)) hcn⟩
/-! ### t[::-1] -/
def tRevT (K : PySem.W.Frag) (te : TE) : TE := fun σ H Q => te σ H fun x H1 => ∃ a xs, x = .ref a ∧ SqT K H1 a xs ∧ ∀ p, H1 p = none → Q (.ref p) (upd H1 p (.tup xs.reverse))
end
section
variable {prog : Program} {w : World} {A : Around} {E : Value → Shared → Prop} {s : Shared}
theorem adjust_back (n : Nat) : Builtin.Slice.sliceAdjust none none (-1) (n : Int) = ((n : Int) - 1, -1) := rfl
theorem places_back (n : Nat) : Builtin.Slice.slicePlaces ((n : Int) - 1) (-1) (-1) = n := by
  unfold Builtin.Slice.slicePlaces
  have h1 : ¬ ((-1 : Int) > 0) := by omega
  simp only [h1, if_false]
  split
  · have e : ((n : Int) - 1 - -1 - 1) / (- -1) + 1 = (n : Int) := by rw [show (- -1 : Int) = 1 by decide, Int.ediv_one]; omega
    rw [e, Int.toNat_natCast]
  · omega
theorem pick_back (xs : Array Value) : ((List.range xs.size).filterMap fun (m : Nat) => xs[(((xs.size : Int) - 1) + (m : Int) * (-1)).toNat]?).toArray = xs.toList.reverse.toArray := by
  have e0 : (fun (m : Nat) => xs[(((xs.size : Int) - 1) + (m : Int) * (-1)).toNat]?) = ((xs[·]?) ∘ fun (m : Nat) => (((xs.size : Int) - 1) + (m : Int) * (-1)).toNat) := rfl
  have e1 : ((List.range xs.size).map fun (m : Nat) => (((xs.size : Int) - 1) + (m : Int) * (-1)).toNat) = (List.range xs.size).map fun k => xs.size - 1 - k := List.map_congr_left fun k hk => by
    have := List.mem_range.mp hk
    omega
  rw [e0, ← List.filterMap_map, e1]
  rw [PySem.W.krv_range, List.filterMap_reverse, PySem.W.krv_all]
theorem item_back {t sl : Addr} {its : Array Value} {vs : Value} {Q : Value → Shared → Prop} (ht : IsTup s.heap t its) (hs : s.heap.IsSliceOf sl .none .none vs) (ps : IsPart vs (some (-1)))
    (h : Q (.ref s.heap.objs.size) { s with heap := s.heap.push { cls := .type "tuple", data := .seq its.toList.reverse.toArray } }) (hsz : its.size ≤ sizeLine) : wpAny (model prog w) A (getItem (.ref t) (.ref sl)) Q E s := by
  have hok : sizeOk (.seq its.toList.reverse.toArray) := by
    show its.toList.reverse.toArray.size ≤ sizeLine
    rw [List.size_toArray, List.length_reverse, Array.length_toList]; exact hsz
  obtain ⟨os, hos, hcs, hds⟩ := id hs
  have hTs : s.TypeIs (.ref sl) "slice" := ⟨os, hos, hcs⟩
  unfold getItem
  try with_reducible refine wpAny_holding ?_
  first | refine wpAny_bind (wpAny_pure ?_) | skip
  refine wpAny_bind (wpAny_sequenceKey ht.typeIs (by decide) (wpAny_bind (wpAny_callSpecial?_slot (name := Str.ofString "__getitem__") ht.typeIs PyProof.Rows.slot_tuple_getitem (wpAny_call_entry PyProof.Rows.slot_tuple_getitem ht.typeIs entry_tuple_getitem ?_ (args_tuple_getitem _ _)))))
  show wpAny _ _ (Builtin.Tuple.tupleItemsOf (.ref t) >>= _) _ _ s
  refine wpAny_bind (tupleItemsOf_ ht (wpAny_bind (wpAny_typeOf hTs ?_)))
  rw [if_pos (by decide)]
  refine wpAny_bind ?_
  unfold Builtin.Slice.sliceApplied Builtin.Slice.sliceFields
  refine wpAny_bind (wpAny_bind (wpAny_field hos hds (x := .none) rfl (wpAny_bind (wpAny_field hos hds (x := .none) rfl (wpAny_bind (wpAny_field hos hds (x := vs) rfl (wpAny_pure ?_)))))))
  refine wpAny_bind (HT.slicePart_ ps ?_)
  show wpAny _ _ (if ((-1 : Int) == 0) = true then _ else _) _ _ s
  rw [if_neg (by decide)]
  refine wpAny_bind (slicePart_none (wpAny_bind (slicePart_none (wpAny_bind (wpAny_pure ?_)))))
  show wpAny _ _ (match Builtin.Slice.sliceAdjust none none (-1) (its.size : Int) with | (lo, hi) => pure (lo, (-1 : Int), Builtin.Slice.slicePlaces lo hi (-1))) _ _ s
  rw [adjust_back]
  show wpAny _ _ (pure ((its.size : Int) - 1, (-1 : Int), Builtin.Slice.slicePlaces ((its.size : Int) - 1) (-1) (-1))) _ _ s
  rw [places_back]
  refine wpAny_pure ?_
  have hno : ¬ ((((its.size : Int) - 1) == 0 && (-1 : Int) == 1 && its.size == its.size) = true) := by simp
  show wpAny _ _ (if (((its.size : Int) - 1) == 0 && (-1 : Int) == 1 && its.size == its.size) = true then _ else _) _ _ s
  rw [if_neg hno, pick_back]
  first
    | exact wpAny_bind (m := Builtin.Tuple.tupleExact _) (wpAny_newObj_type (wpAny_pure ⟨_, rfl, wpAny_pure h⟩) hok)
    | exact wpAny_bind (wpAny_bind (m := Builtin.Tuple.tupleExact _) (wpAny_newObj_type (wpAny_pure (wpAny_pure ⟨_, rfl, wpAny_pure h⟩)) hok))
    | exact wpAny_bind (wpAny_bind (m := Builtin.Tuple.tupleExact _) (wpAny_newObj_type (wpAny_pure ⟨_, rfl, wpAny_pure h⟩) hok))
end
section
variable {X : Cx}
theorem pe_revT {e : Expr} {te : TE} {k : Nat} {p1 p2 p3 pos : Pos} (he : PE X e te) : PE X (.Subscript e (.Slice none none (some (.UnaryOp .USub (.Constant (.int 1) k p1) p2)) p3) pos) (tRevT X.K te) := by
  refine ⟨fun pins s σ H Q I h => Subscript_ (thn (he.run pins s σ H _ I h) fun v s1 ⟨x, H1, I1, r1, a, xs, ex, hx, q⟩ => ?_)⟩
  subst ex
  cases r1
  have st : PO X (some (.UnaryOp .USub (.Constant (.int 1) k p1) p2)) (tPart (tUn (rU fun i => .int (-i)) (tC (.int 1)))) := po_some (pe_un un_neg pe_int)
  refine wpAny_Slice (thn (po_none.run pins s1 σ H1 (fun o G => o = none ∧ G = H1) I1 ⟨rfl, rfl⟩) fun vl s2 ⟨l, H2, I2, pl, el, e2⟩ => ?_)
  subst el e2
  refine thn (po_none.run pins s2 σ H2 (fun o G => o = none ∧ G = H2) I2 ⟨rfl, rfl⟩) fun vu s3 ⟨u, H3, I3, pu, eu, e3⟩ => ?_
  subst eu e3
  refine thn (st.run pins s3 σ H3 (fun o G => o = some (-1) ∧ G = H3) I3 ⟨1, rfl, -1, rfl, rfl, rfl⟩) fun vs s4 ⟨o, H4, I4, ps, eo, e4⟩ => ?_
  subst eo e4
  cases pl
  cases pu
  have I5 : Inv X pins σ H4 { s4 with heap := s4.heap.push { cls := .type "slice", data := .fields #[Value.none, Value.none, vs] } } := I4.kept (t' := s4.toks) fun b ob q => Heap.get?_push_of_some _ q
  obtain ⟨its, r, ht, hz⟩ := I5.tuple hx
  let sv : Shared := { s4 with heap := s4.heap.push { cls := .type "slice", data := .fields #[Value.none, Value.none, vs] } }
  show wpAny _ X.A (subscriptTail e (.Slice none none (some (.UnaryOp .USub (.Constant (.int 1) k p1) p2)) p3) (.ref a) (.ref s4.heap.objs.size)) _ _ sv
  refine tail_any (ops := [.ref a, .ref s4.heap.objs.size]) ht.typeIs (PyProof.Rows.slot_tuple_getitem.lookup) ?_ (by with_unfolding_all rfl)
  refine item_back ht (Heap.IsSliceOf.new _ .none .none vs) ps ?_ (by rw [List.size_toArray, ← r.length]; exact hz)
  refine ⟨.ref _, _, I5.laid (t' := s4.toks) (o := .tup xs.reverse) (fun b ob q => Heap.get?_push_of_some _ q) (Nat.le_refl _) ?_, rfl, q _ (I5.hok.fresh (Nat.le_refl _))⟩
  exact ⟨by rw [List.length_reverse]; exact hz, _, r.reverse, ⟨_, Heap.get?_push_size _ rfl, rfl, 0, rfl⟩⟩
end
end KR
set_option Elab.async false
set_option linter.all false
set_option maxRecDepth 100000
set_option maxHeartbeats 4000000
/-! Rules that the hand layer lacks, further: enumerate of a tuple; an own error made with nothing. -/
namespace KR
open PySem PySem.Spec PyProof.Rows L2
abbrev tItO (t : Addr) : Obj := { cls := .type "tuple_iterator", data := .fields #[.ref t, .int 0 0] }
abbrev enO (a : Addr) : Obj := { cls := .type "enumerate", data := .fields #[.none, .bool false, .ref a, rawInt 0, .none, .none] }
theorem meets_enum_tup (l : Addr) (its : Array Value) (n : Nat) (dct : Option Addr) (sl : Array (Option Value)) :
    Meets (Builtin.«enumerate.__new__» ⟨[.type "enumerate", .ref l], []⟩) (fun _ R s => s.heap.get? l = some { cls := .type "tuple", dict := dct, data := .seq its n, slots := sl } ∧
      R (.ok (.ret (.ref (s.heap.push (tItO l)).objs.size))) { s with heap := (s.heap.push (tItO l)).push (enO s.heap.objs.size) }) :=
  .of_wp fun prog w A R s h => by
    obtain ⟨hp, g, d, tk, os⟩ := s; obtain ⟨hl, h⟩ := h
    have hsub := sub_enumerate
    have hL : Heap.IsTuple (Shared.heap ⟨hp, g, d, tk, os⟩) l its := ⟨_, hl, rfl, n, rfl⟩
    wp_walk using AutoSeq1.wpAny_loadPart' hl
    refine wpAny_stack_any fun st => wpAny_pure ?_
    split
    · rename_i c _ _ _ _ _
      cases (c == Value.type "enumerate") <;> (wp_walk using AutoSeq1.wpAny_loadPart' hl, wpAny_pyIter_tuple hL; exact ⟨_, rfl, h⟩)
    · wp_walk using AutoSeq1.wpAny_loadPart' hl, wpAny_pyIter_tuple hL
      exact ⟨_, rfl, h⟩
section
variable {prog : Program} {w : World} {A : Around} {E : Value → Shared → Prop} {s : Shared}
theorem call_enum_tup {l : Addr} {its : Array Value} {Q : Value → Shared → Prop} (hL : s.heap.IsTuple l its)
    (h : ∀ g, IsEnum g (s.heap.objs.size + 1) s.heap.objs.size 0 .none → g.IsTupleIter s.heap.objs.size l 0 → g.objs.size = s.heap.objs.size + 2 → (∀ b o, s.heap.get? b = some o → g.get? b = some o) → Q (.ref (s.heap.objs.size + 1)) { s with heap := g }) :
    wpAny (model prog w) A (call (.type "enumerate") [.ref l]) Q E s := by
  obtain ⟨⟨c, dct, dt, sl⟩, hl, hc, n, hd⟩ := hL
  dsimp only at hc hd; subst hc hd
  refine callType_new F.called_enumerate (by decide) (F.typeCall_enumerate_1 _) (F.newCall_enumerate_1 _) (fun obj => F.args_object_init_2 obj _) F.entry_enumerate_new (meets_enum_tup l its n dct sl) ⟨hl, ?_⟩
  have hz : (s.heap.push (tItO l)).objs.size = s.heap.objs.size + 1 := Heap.size_push ..
  show _ ∧ _
  rw [hz]
  have he : IsEnum ((s.heap.push (tItO l)).push (enO s.heap.objs.size)) (s.heap.objs.size + 1) s.heap.objs.size 0 .none := by
    have q := Heap.get?_push_size (s.heap.push (tItO l)) (o := enO s.heap.objs.size) rfl
    rw [hz] at q; exact q
  exact ⟨⟨_, he, rfl⟩, h _ he ⟨_, Heap.get?_push_of_some _ (Heap.get?_push_size _ rfl), rfl, rfl⟩ (by rw [Heap.size_push, hz]) fun b o x => Heap.get?_push_of_some _ (Heap.get?_push_of_some _ x)⟩
end
/-- the tuple at a as it stands at each turn, each item in a new pair -/
def IteT (K : PySem.W.Frag) (a : Addr) : It :=
  ⟨fun i H => ∃ (xs : List V) (x : V), SqT K H a xs ∧ xs[i]? = some x, fun i H v G => ∃ T x, v = .ref T ∧ H T = none ∧ G = upd H T (.tup [.int (i : Nat), x]) ∧ ∀ xs, SqT K H a xs → xs[i]? = some x, fun i H => ∃ xs : List V, SqT K H a xs ∧ xs.length ≤ i⟩
theorem turn_enumT {P : Program} {w : World} {K : PySem.W.Frag} {elts : List Expr} {kk : Nat} {tpos : Pos} (a e it : Addr) :
    Turn P w K (.Tuple elts kk tpos) (IteT K a) [e, it] e (fun i h => (∃ old, IsEnum h e it ((i : Nat) : Int) old) ∧ h.IsTupleIter it a i ∧ e ≠ it ∧ e ≠ a ∧ a ≠ it) where
  mem := by simp
  obj := fun i h ⟨⟨old, he⟩, ⟨o, ho, _, hd⟩, _⟩ b hb => by
    rcases (by simpa using hb : b = e ∨ b = it) with rfl | rfl
    · exact ⟨_, he, fun v q => nomatch q⟩
    · exact ⟨o, ho, fun v q => by rw [hd] at q; cases q⟩
  keep := fun i h h' ⟨⟨old, he⟩, hi, hne⟩ k => ⟨⟨old, k e (by simp) _ he⟩, hi.at fun o q => k it (by simp) o q, hne⟩
  item := by
    intro X hP hw hK hc i pins s σ H E I hf st hg
    subst hP hw hK
    obtain ⟨⟨old, he⟩, hit, n1, n2, n3⟩ := st
    obtain ⟨xs, x, hq, hx⟩ := hg
    obtain ⟨its, rv, p, hz⟩ := I.tuple hq
    obtain ⟨u, hu, ru⟩ := rv.get hx
    have hel : e < s.heap.objs.size := Heap.lt_size he
    have hil : it < s.heap.objs.size := by obtain ⟨_, q, _⟩ := hit; exact Heap.lt_size q
    have hsz : i < its.toArray.size := by rw [List.size_toArray]; exact (List.getElem?_eq_some_iff.mp hu).1
    refine wpAny_pyNext_enum_itemD (Draws.tuple (A := X.A.in1) (by simp [I.ok.hd hc]) it a n3 its.toArray) he ⟨hit, p⟩ hsz n1 (by simp [n1, n2]) fun y g tk hy ho hst hT hsz2 hk => ?_
    have ey : y = u := by
      have q : its.toArray[i]? = some y := hy
      rw [List.getElem?_toArray, hu] at q
      exact (Option.some.inj q).symm
    subst ey
    refine ⟨_, rfl, wpAny_letOwnedTupleGo_enum (s := { s with heap := g, toks := tk + 1 }) ho fun g2 he' sb => ?_⟩
    have hT2 : g2.get? s.heap.objs.size = some { cls := .type "tuple", data := .seq #[.int i tk, y] } := (sb.2 _ (Nat.ne_of_gt hel)).trans hT
    have new : ObjOk X.prog X.w (upd H s.heap.objs.size (.tup [.int (i : Nat), x])) g2 s.heap.objs.size (.tup [.int (i : Nat), x]) :=
      ⟨by show 2 ≤ sizeLine; decide, [.int i tk, y], .cons ⟨_, rfl⟩ (.cons ru .nil), ⟨_, hT2, rfl, _, rfl⟩⟩
    have I1 : Inv X pins σ (upd H s.heap.objs.size (.tup [.int (i : Nat), x])) { s with heap := g2, toks := tk + 1 } :=
      I.turnedNew (ch := [e, it]) (fun b ob hb q => (sb.2 b (fun z => hb (by simp [z]))).trans (hk b ob (fun z => hb (by simp [z])) (fun z => hb (by simp [z])) q)) hf (Nat.le_refl _) new
    refine ⟨.ref s.heap.objs.size, _, I1, rfl, ⟨_, x, rfl, I.hok.fresh (Nat.le_refl _), rfl, fun ys hy => by rw [I.tuple_inj hy hq]; exact hx⟩, ⟨⟨y, ?_⟩, hst.1.at fun o q => (sb.2 it (Ne.symm n1)).trans q, n1, n2, n3⟩, fun b hb => ?_⟩
    · rw [show ((i + 1 : Nat) : Int) = (i : Int) + 1 by omega]; exact he'
    · have hb' : b < s.heap.objs.size := by
        rcases (by simpa using hb : b = e ∨ b = it) with z | z
        · rw [z]; exact hel
        · rw [z]; exact hil
      rw [upd_ne (Nat.ne_of_lt hb')]
      exact (hf b hb).1
  done := by
    intro X hP hw hK hc i pins s σ H E I hf st hg
    subst hP hw hK
    obtain ⟨⟨old, he⟩, hit, n1, n2, n3⟩ := st
    obtain ⟨xs, hq, hx⟩ := hg
    obtain ⟨its, rv, p, hz⟩ := I.tuple hq
    obtain ⟨f0, f1, f2, f3, f4, f5⟩ := hf it (by simp)
    have hl := rv.length
    have T := hit
    unfold pyNext
    have hT : s.TypeIs (.ref e) "enumerate" := ⟨_, he, rfl⟩
    refine wpAny_bind (wpAny_attempt (wpAny_callSpecial?_slot (name := Str.ofString "__next__") hT F.slot_enumerate_next (wpAny_call_entry F.slot_enumerate_next hT F.entry_enumerate_next ?_ (F.args_enumerate_next_1 _))))
    show wpAny _ _ (field (.ref e) 2 >>= _) _ _ _
    refine wpAny_bind (wpAny_field he rfl (x := .ref it) rfl (wpAny_bind (wpAny_nextOf_tuple_end (by simp [I.ok.hd hc]) hit p (by simp; omega) fun g x he2 hx2 => ?_)))
    obtain ⟨o, ho, hcl⟩ := hx2
    refine wpAny_bind (wpAny_isInstance (T := "StopIteration") (b := true) ⟨o, ho, hcl⟩ isSubtype_stop (wpAny_pure ?_))
    exact ⟨rfl, I.turned (t' := s.toks) (fun b o hb q => he2 b o hb q) f0 f1 f3 f4 f5⟩
  self := fun A i s Q E st h => let ⟨⟨_, he⟩, _⟩ := st; wpAny_pyIter_enum he h
def iEnumT (K : PySem.W.Frag) (ta : TA) : TI := fun σ H R => ta σ H fun vs H1 => ∃ a xs, vs = [.ref a] ∧ SqT K H1 a xs ∧ R (IteT K a) H1
theorem pi_enumT {X : Cx} {e : Expr} {ta : TA} {p pos tpos : Pos} {elts : List Expr} {kk : Nat} (hg : Gl X "enumerate") (hm : X.mg "enumerate" = none) (ha : PA X [e] ta) (hs : starEach [e] X.env = [(false, eval e X.env)] := by rfl) :
    PI X (.Tuple elts kk tpos) (.Call (.Name "enumerate" p) [e] [] pos) (iEnumT X.K ta) := by
  refine ⟨fun pins s σ H R I h => Call_ (ld_blt I hg hm boot_enumerate (PyProof.Rows.callWith_type1 (thn (ha.run pos pins s σ H _ I h) fun us s1 ⟨vs, H1, I1, r1, a, xs, ex, hq, q⟩ => ?_) hs rfl))⟩
  subst ex
  rw [Vals.ref1 r1]
  obtain ⟨its, rv, p', hz⟩ := I1.tuple hq
  have hal : a < s1.heap.objs.size := by obtain ⟨o, ho, _⟩ := id p'; exact Heap.lt_size ho
  refine call_enum_tup (show s1.heap.IsTuple a its.toArray from p') fun g he hit hsz hk => wpAny_pyIter_enum he ?_
  have I2 : Inv X pins σ H1 { s1 with heap := g } := I1.kept (t' := s1.toks) hk
  refine ⟨s1.heap.objs.size + 1, [s1.heap.objs.size + 1, s1.heap.objs.size], _, _, H1, rfl, I2, turn_enumT a (s1.heap.objs.size + 1) s1.heap.objs.size, ⟨⟨.none, he⟩, hit, Nat.succ_ne_self _, Ne.symm (Nat.ne_of_lt (Nat.lt_succ_of_lt hal)), Nat.ne_of_lt hal⟩, fun b hb => ?_, q⟩
  have hle : s1.heap.objs.size ≤ b := by
    rcases (by simpa using hb : b = s1.heap.objs.size + 1 ∨ b = s1.heap.objs.size) with z | z
    · rw [z]; exact Nat.le_add_right _ _
    · rw [z]; exact Nat.le_refl _
  exact I1.fpOk hle (I1.hok.fresh hle)
/-- X(), X an own exception class without own __init__ -/
theorem pmk_own0 {X : Cx} {C : Addr} {bmB : List Value} {B newId initId : String} {x : Str} {p pos : Pos} (F : ExcBaseFacts B newId initId bmB) (q : PySem.W.excIn X.K C bmB newId = true) (gC : X.mg x = some (.ref C))
    (kC : PySem.W.keepIn X.K (.ref C) = true) (r : Raises X (.ref C)) (hg : Gl X x) (hdb : (x == ("__debug__" : Str)) = false := by decide) : PMk X (.Call (.Name x p) [] [] pos) (fun _ H Q => Q (.ref C) none H) := by
  intro pins s σ H Q I h
  refine wpAny_Call_Name_kw (ld_glob I hg gC (PySem.W.callWith_K0 I.kIn kC ?_) hdb)
  obtain ⟨bm, N, nm, qn, bs, hdct, sn, sub, ab, col, dd, k0, k1, k2, k3, k5, mN, hC, hN, hni, T⟩ := exc_obj I.kIn q
  exact wpAny_call_exc_subT F T hC hN hni (fun g e hm => mk_of I hm r h (I.hok.gone hm.new)) (Nat.zero_le _)
end KR
set_option Elab.async false
set_option linter.all false
set_option maxRecDepth 100000
set_option maxHeartbeats 4000000
/-! The walk's own words, further: types of values, isinstance, comprehensions. -/
namespace KW
open PySem PySem.Spec PyProof.Rows L2 Evl KR
section
variable {K : PySem.W.Frag} {σ : L2.St} {H H' : Hp} {ta tb te tx : TE} {t u : TT} {x y z v : V} {r : R2} {P P1 P2 : VP}
/-! ### types -/
theorem ty_T {a : Addr} {xs : List V} (h : SqT K H a xs) : TyX K H (.ref a) (.type "tuple") := by
  rcases h with (h | ⟨o, h⟩) | ⟨o, its, n, h, hc, _⟩
  · exact .base (.tup h)
  · exact .fTuple h
  · exact .kTuple h hc
theorem ty_L {a : Addr} {xs : List V} (h : SqL K H a xs) : TyX K H (.ref a) (.type "list") := by
  rcases h with (h | ⟨o, h⟩) | ⟨o, its, n, h, hc, _⟩
  · exact .base (.lst h)
  · exact .base (.frz h)
  · exact .kList h hc
theorem ev_isi {T tn : String} {b : Bool} (ha : Ev ta σ H x) (ht : ∀ H1, Ex H H1 → TyX K H1 x (.type tn)) (hk : kitB tn T = some b) : Ev (tCB (rIsi K) (tCons ta (tCons (tC (.ty T)) tNil))) σ H (.bl b) := fun H1 e Q q =>
  ha H1 e _ fun H2 e2 => ⟨x, .ty T, .type tn, .type T, b, rfl, .ty T, ht H2 (e.trans e2), kit_ty hk, q H2 e2⟩
/-- isinstance(x, (list, tuple)) -/
theorem ev_isi2 {tn : String} {b : Bool} (ha : Ev ta σ H x) (ht : ∀ H1, Ex H H1 → TyX K H1 x (.type tn)) (hk : PySem.W.kitAny K (.type tn) [.type "list", .type "tuple"] = some b) :
    Ev (tCB (rIsiT K) (tCons ta (tCons (tTup (tCons (tC (.ty "list")) (tCons (tC (.ty "tuple")) tNil))) tNil))) σ H (.bl b) := fun H1 e Q q =>
  ha H1 e _ fun H2 e2 => ⟨(by show 2 ≤ sizeLine; decide), fun p hp =>
    ⟨x, p, [.ty "list", .ty "tuple"], .type tn, [.type "list", .type "tuple"], b, rfl, upd_same, .cons (.ty _) (.cons (.ty _) .nil), ht _ ((e.trans e2).trans (Ex.new hp)), hk, q _ (e2.trans (Ex.new hp))⟩⟩
theorem kit2_int : PySem.W.kitAny K (.type "int") [.type "list", .type "tuple"] = some false := kitAny_cons (b := false) (kit_ty (by decide +kernel)) (fun _ => kitAny_cons (b := false) (kit_ty (by decide +kernel)) (fun _ => kitAny_nil) (fun z => nomatch z)) (fun z => nomatch z)
theorem kit2_bool : PySem.W.kitAny K (.type "bool") [.type "list", .type "tuple"] = some false := kitAny_cons (b := false) (kit_ty (by decide +kernel)) (fun _ => kitAny_cons (b := false) (kit_ty (by decide +kernel)) (fun _ => kitAny_nil) (fun z => nomatch z)) (fun z => nomatch z)
theorem kit2_str : PySem.W.kitAny K (.type "str") [.type "list", .type "tuple"] = some false := kitAny_cons (b := false) (kit_ty (by decide +kernel)) (fun _ => kitAny_cons (b := false) (kit_ty (by decide +kernel)) (fun _ => kitAny_nil) (fun z => nomatch z)) (fun z => nomatch z)
theorem kit2_list : PySem.W.kitAny K (.type "list") [.type "list", .type "tuple"] = some true := kitAny_cons (b := true) (kit_ty (by decide +kernel)) (fun z => nomatch z) (fun _ => rfl)
theorem kit2_tuple : PySem.W.kitAny K (.type "tuple") [.type "list", .type "tuple"] = some true := kitAny_cons (b := false) (kit_ty (by decide +kernel)) (fun _ => kitAny_cons (b := true) (kit_ty (by decide +kernel)) (fun z => nomatch z) (fun _ => rfl)) (fun z => nomatch z)
/-! ### comprehensions of flat things -/
theorem given_map {α : Type} (l : List α) (p : α → Bool) (gv : α → V) : ∀ n, n ≤ l.length → given n (fun i => ((l[i]?).map p).getD false) (fun i => ((l[i]?).map gv).getD .non) = ((l.take n).filter p).map gv
  | 0, _ => rfl
  | n + 1, h => by
    have ih := given_map l p gv n (Nat.le_of_succ_le h)
    have hx : l[n]? = some l[n] := List.getElem?_eq_getElem h
    have e : ((l.take (n + 1)).filter p).map gv = ((l.take n).filter p).map gv ++ ([l[n]].filter p).map gv := by
      rw [List.take_add_one, hx]
      show ((l.take n ++ [l[n]]).filter p).map gv = _
      rw [List.filter_append, List.map_append]
    rw [e, ← ih]
    cases hp : p l[n] with
    | true =>
      rw [given_yes (by simp only [hx, Option.map_some, hp, Option.getD_some]), List.filter_cons_of_pos hp]
      simp only [hx, Option.map_some, Option.getD_some, List.filter_nil, List.map_cons, List.map_nil]
    | false =>
      rw [given_no (by simp only [hx, Option.map_some, hp, Option.getD_some]), List.filter_cons_of_neg (by rw [hp]; exact Bool.false_ne_true)]
      simp only [List.filter_nil, List.map_nil, List.append_nil]
theorem given_all {α : Type} (l : List α) (p : α → Bool) (gv : α → V) : given l.length (fun i => ((l[i]?).map p).getD false) (fun i => ((l[i]?).map gv).getD .non) = (l.filter p).map gv := by
  rw [given_map l p gv l.length (Nat.le_refl _), List.take_length]
/-- over a tuple -/
theorem el_T {α : Type} {a : Addr} {l : List α} {em : α → V} {tl : TE} {j : Nat} {vs : List Nat} (p : α → Bool) (gv : α → V) (h : Ev tl σ H (.ref a)) (hx : SqT K H a (l.map em)) (hz : l.length ≤ 40000) (hw : ∀ x, wipe ((wipe σ vs).set j (some x)) vs = wipe σ vs)
    (ht : ∀ (x : α) H1, Ex H H1 → x ∈ l → EvT t ((wipe σ vs).set j (some (em x))) H1 (p x)) (he : ∀ (x : α) H1, Ex H H1 → x ∈ l → p x = true → Ev te ((wipe σ vs).set j (some (em x))) H1 (gv x)) :
    EvL (tLc (iTup K tl) (gName j) t te vs) σ H ((l.filter p).map gv) := by
  rw [← given_all]
  intro H0 e Q q
  have hlen : (l.map em).length = l.length := List.length_map ..
  refine h H0 e _ fun H1 e1 => ⟨a, rfl, ⟨_, ex_t (e.trans e1) hx⟩, fun Dl hD => lc_tup (xs := l.map em) (Cw H1 _ _ Dl) ⟨hD, Ex.new hD, upd_same⟩ (fun i G _ c => ex_t ((e.trans e1).trans c.2.1) hx) (fun i y G hi c => ⟨hw y, ?_⟩)
    (fun G c => q Dl G (fresh_back e1 c.1) (e1.trans c.2.1) (by rw [← hlen]; exact c.2.2))⟩
  have hil : i < l.length := by rw [← hlen]; exact (List.getElem?_eq_some_iff.mp hi).1
  have hx2 : l[i]? = some l[i] := List.getElem?_eq_getElem hil
  have ey : y = em l[i] := by rw [List.getElem?_map, hx2] at hi; exact (Option.some.inj hi).symm
  subst ey
  refine cw_turn c (by omega) ?_ fun hf => ?_
  · have e2 : ((l[i]?).map p).getD false = p l[i] := by rw [hx2]; rfl
    simp only [e2]
    exact ht _ H1 (e.trans e1) (List.getElem_mem hil)
  · have e2 : ((l[i]?).map gv).getD .non = gv l[i] := by rw [hx2]; rfl
    simp only [e2]
    exact he _ H1 (e.trans e1) (List.getElem_mem hil) (by simpa [hx2] using hf)
/-- over a list that stands -/
theorem el_L {α : Type} {a : Addr} {l : List α} {em : α → V} {tl : TE} {j : Nat} {vs : List Nat} (p : α → Bool) (gv : α → V) (h : Ev tl σ H (.ref a)) (hx : SqL K H a (l.map em)) (hz : l.length ≤ 40000) (hw : ∀ x, wipe ((wipe σ vs).set j (some x)) vs = wipe σ vs)
    (ht : ∀ (x : α) H1, Ex H H1 → x ∈ l → EvT t ((wipe σ vs).set j (some (em x))) H1 (p x)) (he : ∀ (x : α) H1, Ex H H1 → x ∈ l → p x = true → Ev te ((wipe σ vs).set j (some (em x))) H1 (gv x)) :
    EvL (tLc (iList K tl) (gName j) t te vs) σ H ((l.filter p).map gv) := by
  rw [← given_all]
  intro H0 e Q q
  have hlen : (l.map em).length = l.length := List.length_map ..
  refine h H0 e _ fun H1 e1 => ⟨a, rfl, ⟨_, ex_l (e.trans e1) hx⟩, fun Dl hD => lc_list (xs := l.map em) (Cw H1 _ _ Dl) ⟨hD, Ex.new hD, upd_same⟩ (fun i G _ c => ex_l ((e.trans e1).trans c.2.1) hx) (fun i y G hi c => ⟨hw y, ?_⟩)
    (fun G c => q Dl G (fresh_back e1 c.1) (e1.trans c.2.1) (by rw [← hlen]; exact c.2.2))⟩
  have hil : i < l.length := by rw [← hlen]; exact (List.getElem?_eq_some_iff.mp hi).1
  have hx2 : l[i]? = some l[i] := List.getElem?_eq_getElem hil
  have ey : y = em l[i] := by rw [List.getElem?_map, hx2] at hi; exact (Option.some.inj hi).symm
  subst ey
  refine cw_turn c (by omega) ?_ fun hf => ?_
  · have e2 : ((l[i]?).map p).getD false = p l[i] := by rw [hx2]; rfl
    simp only [e2]
    exact ht _ H1 (e.trans e1) (List.getElem_mem hil)
  · have e2 : ((l[i]?).map gv).getD .non = gv l[i] := by rw [hx2]; rfl
    simp only [e2]
    exact he _ H1 (e.trans e1) (List.getElem_mem hil) (by simpa [hx2] using hf)
/-- over range(n), n written -/
theorem el_R {n : Nat} {ta : TA} {j : Nat} {vs : List Nat} (p : Nat → Bool) (gv : Nat → V) (h : EvA ta σ H [.int (n : Int)]) (hn : n ≤ 40000) (hw : ∀ x, wipe ((wipe σ vs).set j (some x)) vs = wipe σ vs)
    (ht : ∀ (i : Nat) H1, Ex H H1 → i < n → EvT t ((wipe σ vs).set j (some (.int (i : Int)))) H1 (p i)) (he : ∀ (i : Nat) H1, Ex H H1 → i < n → p i = true → Ev te ((wipe σ vs).set j (some (.int (i : Int)))) H1 (gv i)) :
    EvL (tLc (iRng1 ta) (gName j) t te vs) σ H (((List.range n).filter p).map gv) := by
  have q := el_lcR1 (te := te) (t := t) (ta := ta) (vs := vs) (j := j) p gv h ⟨by omega, by omega⟩ hw (fun i H1 e hi => ht i H1 e (by omega)) fun i H1 e hi hp => he i H1 e (by omega) hp
  have e : ((List.range n).filter p).map gv = given (n : Int).toNat p gv := by rw [Int.toNat_natCast]; rfl
  rw [e]
  exact q
theorem et_yes : EvT tYes σ H true := fun H1 _ _ q => q H1 (Ex.refl H1)
theorem filter_true {α : Type} (l : List α) : l.filter (fun _ => true) = l := List.filter_eq_self.mpr fun _ _ => rfl
theorem ev_all {bs : List Bool} (h : EvL te σ H (bs.map V.bl)) : Ev (tCB (rAll K) (tCons te tNil)) σ H (.bl (bs.all id)) := fun H1 e Q q =>
  h H1 e _ fun p H2 _ e2 hp => ⟨p, bs, rfl, sq_of hp, q H2 e2⟩
theorem ev_sum {ns : List Int} (h : EvL te σ H (ns.map V.int)) : Ev (tCB (rSum K) (tCons te tNil)) σ H (.int ns.sum) := fun H1 e Q q =>
  h H1 e _ fun p H2 _ e2 hp => ⟨p, ns, rfl, sq_of hp, q H2 e2⟩
theorem ni_eq (l : List Nat) : ni l = (l.map (fun (n : Nat) => (n : Int))).map V.int := by unfold ni; rw [List.map_map]; rfl
theorem ni_len (l : List Nat) : (ni l).length = l.length := List.length_map ..
theorem ni_app (l m : List Nat) : ni (l ++ m) = ni l ++ ni m := List.map_append ..
theorem ni_at {l : List Nat} {i n : Nat} (h : l[i]? = some n) : (ni l)[i]? = some (.int (n : Int)) := by unfold ni; rw [List.getElem?_map, h]; rfl
/-- a scalar: what a lot or a bent lot holds -/
def sc : V → Bool
  | .int _ => true
  | .bl _ => true
  | .str _ => true
  | _ => false
def isN : V → Bool
  | .int _ => true
  | _ => false
def tyName : V → String
  | .int _ => "int"
  | .bl _ => "bool"
  | .str _ => "str"
  | _ => "NoneType"
theorem ty_sc (h : sc x = true) : TyX K H x (.type (tyName x)) := by
  cases x with
  | int i => exact .base (.int i)
  | bl b => exact .base (.bl b)
  | str s => exact .base (.str s)
  | _ => cases h
/-! ### comprehensions over pairs -/
theorem walk_zipT {a b : Addr} {xs ys : List V} {n : Nat} (hn : n = min xs.length ys.length) : Walk (RZ.ItzT K a b) n (fun H => SqT K H a xs ∧ SqT K H b ys) (YPair (fun i => xs[i]?) (fun i => ys[i]?)) := by
  subst hn
  refine ⟨fun i G hi q => ⟨xs, ys, xs[i]'(by omega), ys[i]'(by omega), q.1, q.2, by simp [show i < xs.length by omega], by simp [show i < ys.length by omega]⟩, fun _ q => ⟨xs, ys, q.1, q.2, by omega⟩, fun i G v G2 _ q c => ?_⟩
  obtain ⟨T, x, z, h1, h2, h3, h4, h5⟩ := c
  exact ⟨T, x, z, h1, h2, h3, h4 xs q.1, h5 ys q.2⟩
theorem walk_enumT {a : Addr} {xs : List V} : Walk (IteT K a) xs.length (fun H => SqT K H a xs) (YPair (fun i => some (.int (i : Nat))) (fun i => xs[i]?)) := by
  refine ⟨fun i _ hi q => ⟨xs, xs[i], q, by simp [hi]⟩, fun _ q => ⟨xs, q, Nat.le_refl _⟩, fun i G v G2 _ q c => ?_⟩
  obtain ⟨T, x, h1, h2, h3, h4⟩ := c
  exact ⟨T, .int (i : Nat), x, h1, h2, h3, rfl, h4 xs q⟩
theorem lc_pair {J : It} {n : Nat} {G : Hp → Prop} {X Y : Nat → Option V} (wk : Walk J n G (YPair X Y)) (mG : ∀ H H', Ex H H' → G H → G H') {H1 : Hp} (hG : G H1) {j j2 : Nat} {vs : List Nat} (v : Nat → V) (hn : n ≤ 40000)
    (hw : ∀ x y, wipe (((wipe σ vs).set j (some x)).set j2 (some y)) vs = wipe σ vs) (hel : ∀ i x y H2, Ex H1 H2 → i < n → X i = some x → Y i = some y → Ev te (((wipe σ vs).set j (some x)).set j2 (some y)) H2 (v i))
    {Q : VK} (q : ∀ D H2, H1 D = none → Ex H1 H2 → H2 D = some (.lst ((List.range n).map v)) → Q (.ref D) H2) (D : Addr) (hD : H1 D = none) :
    ∃ W : Nat → Nat → Hp → Prop, (∃ m, W 0 m (upd H1 D (.lst []))) ∧ ∀ i m H, W i m H → (J.stop i H ∧ Q (.ref D) H) ∨ (J.go i H ∧ ∃ Nx : Hp → Prop, (∀ H', Nx H' → ∃ m', m' < m ∧ W (i + 1) m' H') ∧
      ∀ x H', J.yld i H x H' → gTup K 2 (gCons (gName j) (gCons (gName j2) gNil)) x (wipe σ vs) H' fun σ2 H2 => wipe σ2 vs = wipe σ vs ∧ tYes σ2 H2 fun b H3 => if b = true then te σ2 H3 fun y H4 => ∃ acc, H4 D = some (.lst acc) ∧ acc.length < sizeLine ∧ Nx (upd H4 D (.lst (acc ++ [y]))) else Nx H3) := by
  refine lc_it wk (fun i G' => H1 D = none ∧ Ex H1 G' ∧ G' D = some (.lst ((List.range i).map v))) ⟨hD, Ex.new hD, upd_same⟩ (fun i G' _ c => mG _ _ c.2.1 hG) (fun i z G' G2 hi c hy => ?_) (fun G' c => q D G' c.1 c.2.1 c.2.2)
  obtain ⟨T, x, y, rfl, hT, rfl, hx, hy2⟩ := hy
  obtain ⟨c1, c2, c3⟩ := c
  have hTD : D ≠ T := fun z => by rw [← z, c3] at hT; cases hT
  refine ⟨T, [x, y], rfl, .inl (.inl upd_same), rfl, x, [y], rfl, y, [], rfl, rfl, hw x y, ?_⟩
  refine hel i x y _ (c2.trans (Ex.new hT)) hi hx hy2 _ (Ex.refl _) _ fun H4 e4 => ⟨(List.range i).map v, e4 D _ (by rw [upd_ne hTD]; exact c3), by rw [List.length_map, List.length_range]; exact sz_lt (by omega), c1, Ex.mut ((c2.trans (Ex.new hT)).trans e4) c1, ?_⟩
  rw [upd_same, List.range_succ, List.map_append]
  rfl
theorem el_zipT {tr : TA} {xs ys : List V} {n j j2 : Nat} {vs : List Nat} (hn : n = min xs.length ys.length) (h4 : n ≤ 40000) (h : EvAP tr σ H (fun us H1 => ∃ a b, us = [.ref a, .ref b] ∧ SqT K H1 a xs ∧ SqT K H1 b ys)) (v : Nat → V)
    (hw : ∀ x y, wipe (((wipe σ vs).set j (some x)).set j2 (some y)) vs = wipe σ vs) (hel : ∀ i x y H2, Ex H H2 → i < n → xs[i]? = some x → ys[i]? = some y → Ev te (((wipe σ vs).set j (some x)).set j2 (some y)) H2 (v i)) :
    EvL (tLc (RZ.iZipA K tr) (gTup K 2 (gCons (gName j) (gCons (gName j2) gNil))) tYes te vs) σ H ((List.range n).map v) := fun H1 e Q q =>
  h H1 e _ fun us H2 e2 ⟨a, b, eu, ha, hb⟩ => ⟨a, b, xs, ys, eu, .inr ⟨ha, hb, fun D hD => lc_pair (walk_zipT hn) (fun _ _ e' c => ⟨ex_t e' c.1, ex_t e' c.2⟩) ⟨ha, hb⟩ v h4 hw (fun i x y H3 e3 => hel i x y H3 ((e.trans e2).trans e3)) (fun D' H3 hD' e3 hp => q D' H3 (fresh_back e2 hD') (e2.trans e3) hp) D hD⟩⟩
theorem el_zipL {tr : TA} {xs ys : List V} {n j j2 : Nat} {vs : List Nat} (hn : n = min xs.length ys.length) (h4 : n ≤ 40000) (h : EvAP tr σ H (fun us H1 => ∃ a b, us = [.ref a, .ref b] ∧ SqL K H1 a xs ∧ SqL K H1 b ys)) (v : Nat → V)
    (hw : ∀ x y, wipe (((wipe σ vs).set j (some x)).set j2 (some y)) vs = wipe σ vs) (hel : ∀ i x y H2, Ex H H2 → i < n → xs[i]? = some x → ys[i]? = some y → Ev te (((wipe σ vs).set j (some x)).set j2 (some y)) H2 (v i)) :
    EvL (tLc (RZ.iZipA K tr) (gTup K 2 (gCons (gName j) (gCons (gName j2) gNil))) tYes te vs) σ H ((List.range n).map v) := fun H1 e Q q =>
  h H1 e _ fun us H2 e2 ⟨a, b, eu, ha, hb⟩ => ⟨a, b, xs, ys, eu, .inl ⟨ha, hb, fun D hD => lc_pair (walk_zip hn) (fun _ _ e' c => ⟨ex_l e' c.1, ex_l e' c.2⟩) ⟨ha, hb⟩ v h4 hw (fun i x y H3 e3 => hel i x y H3 ((e.trans e2).trans e3)) (fun D' H3 hD' e3 hp => q D' H3 (fresh_back e2 hD') (e2.trans e3) hp) D hD⟩⟩
/-! ### slices of tuples -/
theorem ep_slT {tl th : TO} {a : Addr} {xs : List V} {lo hi : Option Int} (h : Ev te σ H (.ref a)) (h1 : EvO tl σ H lo) (h2 : EvO th σ H hi) (hs : SqT K H a xs) : EvP (tSl (rSlA K) te tl th) σ H (IsT K (cutV xs lo hi)) := fun H1 e Q q =>
  h H1 e _ fun H2 e2 => h1 H2 (e.trans e2) _ fun H3 e3 => h2 H3 ((e.trans e2).trans e3) _ fun H4 e4 => ⟨a, xs, rfl, ex_t (((e.trans e2).trans e3).trans e4) hs, fun hw => q _ H4 ((e2.trans e3).trans e4) ⟨a, rfl, by
      have e5 : cutV xs lo hi = xs := by
        unfold cutV
        rw [hw.1, hw.2, List.drop_zero, Nat.sub_zero, List.take_length]
      rw [e5]; exact ex_t (((e.trans e2).trans e3).trans e4) hs⟩, fun _ p hp => q _ _ (((e2.trans e3).trans e4).trans (Ex.new hp)) ⟨p, rfl, st_of upd_same⟩⟩
theorem cut_from1 (xs : List V) : cutV xs (some 1) none = xs.drop 1 := by
  unfold cutV
  rw [show HT.sIx xs.length 0 (some 1) = min 1 xs.length from HT.sIx_nat _ 0 1, HT.sIx_none]
  cases xs with
  | nil => rfl
  | cons x r =>
    rw [show min 1 (x :: r).length = 1 by rw [List.length_cons]; omega]
    exact List.take_of_length_le (by simp)
theorem ep_revT {a : Addr} {xs : List V} (h : Ev te σ H (.ref a)) (hs : SqT K H a xs) : EvU (tRevT K te) σ H xs.reverse := fun H1 e Q q =>
  h H1 e _ fun H2 e2 => ⟨a, xs, rfl, ex_t (e.trans e2) hs, fun p hp => q p _ (fresh_back e2 hp) (e2.trans (Ex.new hp)) upd_same⟩
theorem el_revL {a : Addr} {xs : List V} (h : Ev te σ H (.ref a)) (hs : SqL K H a xs) : EvL (tRevL K te) σ H xs.reverse := fun H1 e Q q =>
  h H1 e _ fun H2 e2 => ⟨a, xs, rfl, ex_l (e.trans e2) hs, fun p hp => q p _ (fresh_back e2 hp) (e2.trans (Ex.new hp)) upd_same⟩
end
end KW
set_option Elab.async false
set_option linter.all false
set_option maxRecDepth 100000
set_option maxHeartbeats 4000000
/-! Rules with the written part told (within a comprehension's block). -/
namespace KW
open PySem PySem.Spec PyProof.Rows L2 Evl
section
variable {X : Cx} {K : PySem.W.Frag}
theorem kop_in_seq (h : X.K = K) : OpR X (compareOp .In) (rIn K false) := by subst h; exact op_in_seq
theorem kop_notIn_seq (h : X.K = K) : OpR X (compareOp .NotIn) (rIn K true) := by subst h; exact op_notIn_seq
theorem kix_tup (h : X.K = K) : IxR X (rIxT K) := by subst h; exact ix_tup
theorem kix_list (h : X.K = K) : IxR X (rIxL K) := by subst h; exact ix_list
theorem kop_catA (h : X.K = K) : OpR X (binaryOp .Add) (rCatA K) := by subst h; exact op_catA
theorem kcall_tuple_of (h : X.K = K) : CallR X (.type "tuple") (rTupleOf K) := by subst h; exact call_tuple_of
theorem kcall_isi (h : X.K = K) : CallR X (.builtin "isinstance") (rIsi K) := by subst h; exact call_isi
theorem kcall_list_of (h : X.K = K) : CallR X (.type "list") (rListS K) := by subst h; exact call_list_of
theorem kcall_len_seq (h : X.K = K) : CallR X (.builtin "len") (rLenS K) := by subst h; exact call_len_seq
theorem kpt_truth (h : X.K = K) {a : Expr} {ta : TE} (ha : PE X a ta) (he : ∀ whole, isTrue a X.env whole = (do let v ← whole; standAt a.pos; holding [v] (truthy v))) :
    PT X a (fun σ H Q => ta σ H fun x H' => ∃ k, TruV K x H' k ∧ Q k H') := by subst h; exact pt_truth ha he
end
end KW
set_option Elab.async false
set_option linter.all false
set_option maxRecDepth 100000
set_option maxHeartbeats 4000000
/-! The text by places: each def, its names by slot. Printed by gen.py. -/
namespace KT
open PySem PySem.Spec PyProof.Rows L2 Evl KW
def topS (i : Nat) : Stmt := PySem.Challenge.pw_eightlots_k17_whole_lots_filled_at_gaps.main.body.getD i (.Pass ⟨0, 0, 0, 0⟩)
structure Cal (P : Program) (w : World) (K : PySem.W.Frag) (mg : Str → Option Value) (base : Heap) (CX : CXT) (k : Nat) (x : Str) (ps : List Str) (sp : Sp) : Prop where
  ex : ∃ f fd, FnOk P w K mg base CX k f fd ps sp ∧ mg x = some (.ref f) ∧ PySem.W.keepIn K (.ref f) = true ∧ Binds K fd ps []

structure Txt (K : PySem.W.Frag) (mg : Str → Option Value) : Prop where
  n_len : mg "len" = none
  n_int : mg "int" = none
  n_bool : mg "bool" = none
  n_tuple : mg "tuple" = none
  n_list : mg "list" = none
  n_all : mg "all" = none
  n_sum : mg "sum" = none
  n_sorted : mg "sorted" = none
  n_abs : mg "abs" = none
  n_min : mg "min" = none
  n_isinstance : mg "isinstance" = none
  n_set : mg "set" = none
  n_range : mg "range" = none
  n_zip : mg "zip" = none
  n_enumerate : mg "enumerate" = none
  n_str : mg "str" = none
  n_ValueError : mg "ValueError" = none
  LAMPS : ∃ t, mg "LAMPS" = some (.int 24 t)
  PRODUCTS : ∃ (a : Addr) (ps : List Addr), mg "PRODUCTS" = some (.ref a) ∧ (∀ H, SqT K H a (ps.map V.ref)) ∧ ps.length = K17.PRODS.length ∧ ∀ (i : Nat) (r : List Nat), K17.PRODS[i]? = some r → ∃ p, ps[i]? = some p ∧ ∀ H, SqT K H p (ni r)
  FACTORS : ∃ (a : Addr) (ps : List Addr), mg "FACTORS" = some (.ref a) ∧ (∀ H, SqT K H a (ps.map V.ref)) ∧ ps.length = K17.FACTS.length ∧ ∀ (i : Nat) (r : List Nat), K17.FACTS[i]? = some r → ∃ p, ps[i]? = some p ∧ ∀ H, SqT K H p (ni r)
abbrev s_tupled : Stmt := topS 3
abbrev N_tupled : List Str := ["thing", "part"]
theorem sc_tupled : FnScope N_tupled ["thing"] (defScope s_tupled) := ⟨rfl, rfl, rfl, by decide +kernel, rfl, by decide +kernel, by decide +kernel⟩
abbrev s_is_number : Stmt := topS 4
abbrev N_is_number : List Str := ["thing"]
theorem sc_is_number : FnScope N_is_number ["thing"] (defScope s_is_number) := ⟨rfl, rfl, rfl, by decide +kernel, rfl, by decide +kernel, by decide +kernel⟩
abbrev s_is_count : Stmt := topS 5
abbrev N_is_count : List Str := ["thing"]
theorem sc_is_count : FnScope N_is_count ["thing"] (defScope s_is_count) := ⟨rfl, rfl, rfl, by decide +kernel, rfl, by decide +kernel, by decide +kernel⟩
abbrev s_is_below : Stmt := topS 6
abbrev N_is_below : List Str := ["thing", "many"]
theorem sc_is_below : FnScope N_is_below ["thing", "many"] (defScope s_is_below) := ⟨rfl, rfl, rfl, by decide +kernel, rfl, by decide +kernel, by decide +kernel⟩
abbrev s_ascends : Stmt := topS 7
abbrev N_ascends : List Str := ["thing", "near", "far"]
theorem sc_ascends : FnScope N_ascends ["thing"] (defScope s_ascends) := ⟨rfl, rfl, rfl, by decide +kernel, rfl, by decide +kernel, by decide +kernel⟩
abbrev s_is_number_set : Stmt := topS 8
abbrev N_is_number_set : List Str := ["thing", "many", "part"]
theorem sc_is_number_set : FnScope N_is_number_set ["thing", "many"] (defScope s_is_number_set) := ⟨rfl, rfl, rfl, by decide +kernel, rfl, by decide +kernel, by decide +kernel⟩
abbrev s_set_of : Stmt := topS 9
abbrev N_set_of : List Str := ["things"]
theorem sc_set_of : FnScope N_set_of ["things"] (defScope s_set_of) := ⟨rfl, rfl, rfl, by decide +kernel, rfl, by decide +kernel, by decide +kernel⟩
abbrev s_sign_product : Stmt := topS 12
abbrev N_sign_product : List Str := ["one", "other"]
theorem sc_sign_product : FnScope N_sign_product ["one", "other"] (defScope s_sign_product) := ⟨rfl, rfl, rfl, by decide +kernel, rfl, by decide +kernel, by decide +kernel⟩
abbrev s_lack_of : Stmt := topS 16
abbrev N_lack_of : List Str := ["lamp", "column", "line", "found", "other", "row"]
theorem sc_lack_of : FnScope N_lack_of ["lamp"] (defScope s_lack_of) := ⟨rfl, rfl, rfl, by decide +kernel, rfl, by decide +kernel, by decide +kernel⟩
abbrev s_lack_in : Stmt := topS 17
abbrev N_lack_in : List Str := ["lot", "found", "lamp"]
theorem sc_lack_in : FnScope N_lack_in ["lot"] (defScope s_lack_in) := ⟨rfl, rfl, rfl, by decide +kernel, rfl, by decide +kernel, by decide +kernel⟩
abbrev s_summed : Stmt := topS 18
abbrev N_summed : List Str := ["one", "other", "lamp"]
theorem sc_summed : FnScope N_summed ["one", "other"] (defScope s_summed) := ⟨rfl, rfl, rfl, by decide +kernel, rfl, by decide +kernel, by decide +kernel⟩
abbrev s_is_odd : Stmt := topS 19
abbrev N_is_odd : List Str := ["number", "found", "left"]
theorem sc_is_odd : FnScope N_is_odd ["number"] (defScope s_is_odd) := ⟨rfl, rfl, rfl, by decide +kernel, rfl, by decide +kernel, by decide +kernel⟩
abbrev s_brought_down : Stmt := topS 20
abbrev N_brought_down : List Str := ["rows", "lack", "lot", "bit", "own", "some"]
theorem sc_brought_down : FnScope N_brought_down ["rows", "lack", "lot"] (defScope s_brought_down) := ⟨rfl, rfl, rfl, by decide +kernel, rfl, by decide +kernel, by decide +kernel⟩
abbrev s_highest_bit : Stmt := topS 21
abbrev N_highest_bit : List Str := ["number", "found"]
theorem sc_highest_bit : FnScope N_highest_bit ["number"] (defScope s_highest_bit) := ⟨rfl, rfl, rfl, by decide +kernel, rfl, by decide +kernel, by decide +kernel⟩
abbrev s_rows_of_gaps : Stmt := topS 22
abbrev N_rows_of_gaps : List Str := ["gaps", "found", "lamp", "lack", "some"]
theorem sc_rows_of_gaps : FnScope N_rows_of_gaps ["gaps"] (defScope s_rows_of_gaps) := ⟨rfl, rfl, rfl, by decide +kernel, rfl, by decide +kernel, by decide +kernel⟩
abbrev s_outside : Stmt := topS 23
abbrev N_outside : List Str := ["lot", "gaps", "lamp"]
theorem sc_outside : FnScope N_outside ["lot", "gaps"] (defScope s_outside) := ⟨rfl, rfl, rfl, by decide +kernel, rfl, by decide +kernel, by decide +kernel⟩
abbrev s_gaps_asked : Stmt := topS 24
abbrev N_gaps_asked : List Str := ["lot", "gaps", "own", "holes", "rows", "kept", "lack", "found"]
theorem sc_gaps_asked : FnScope N_gaps_asked ["lot", "gaps"] (defScope s_gaps_asked) := ⟨rfl, rfl, rfl, by decide +kernel, rfl, by decide +kernel, by decide +kernel⟩
abbrev s_filled : Stmt := topS 25
abbrev N_filled : List Str := ["lot", "gaps", "_", "lack", "found"]
theorem sc_filled : FnScope N_filled ["lot", "gaps"] (defScope s_filled) := ⟨rfl, rfl, rfl, by decide +kernel, rfl, by decide +kernel, by decide +kernel⟩
abbrev s_is_filled : Stmt := topS 26
abbrev N_is_filled : List Str := ["lot", "gaps", "thing", "own", "holes"]
theorem sc_is_filled : FnScope N_is_filled ["lot", "gaps", "thing"] (defScope s_is_filled) := ⟨rfl, rfl, rfl, by decide +kernel, rfl, by decide +kernel, by decide +kernel⟩
abbrev s_fill_bar : Stmt := topS 27
abbrev N_fill_bar : List Str := ["lot", "gaps", "rows", "lack", "_", "bits", "bit", "own", "lamp"]
theorem sc_fill_bar : FnScope N_fill_bar ["lot", "gaps"] (defScope s_fill_bar) := ⟨rfl, rfl, rfl, by decide +kernel, rfl, by decide +kernel, by decide +kernel⟩
abbrev s_is_fill_bar : Stmt := topS 28
abbrev N_is_fill_bar : List Str := ["lot", "gaps", "thing", "own", "holes", "lamp"]
theorem sc_is_fill_bar : FnScope N_is_fill_bar ["lot", "gaps", "thing"] (defScope s_is_fill_bar) := ⟨rfl, rfl, rfl, by decide +kernel, rfl, by decide +kernel, by decide +kernel⟩
abbrev s__law_box : Stmt := topS 30
abbrev N__law_box : List Str := ["_law_script", "_law_k", "_law_cell_so"]
theorem sc__law_box : FnScope N__law_box ["_law_script", "_law_k"] (defScope s__law_box) := ⟨rfl, rfl, rfl, by decide +kernel, rfl, by decide +kernel, by decide +kernel⟩
abbrev s__law_take : Stmt := topS 31
abbrev N__law_take : List Str := ["_law_tin", "_law_below_so", "_law_drawn", "_law_once_so", "_law_wide_so", "_law_twice_so"]
theorem sc__law_take : FnScope N__law_take ["_law_tin", "_law_below_so"] (defScope s__law_take) := ⟨rfl, rfl, rfl, by decide +kernel, rfl, by decide +kernel, by decide +kernel⟩
abbrev s__law_cells : Stmt := topS 32
abbrev N__law_cells : List Str := ["_law_script", "_law_most_so", "_law_cells_so", "_law_k", "_law_cell_so", "_law_at_so"]
theorem sc__law_cells : FnScope N__law_cells ["_law_script", "_law_most_so"] (defScope s__law_cells) := ⟨rfl, rfl, rfl, by decide +kernel, rfl, by decide +kernel, by decide +kernel⟩
abbrev s__law_of : Stmt := topS 33
abbrev N__law_of : List Str := ["_law_tin", "_law_goods_so"]
theorem sc__law_of : FnScope N__law_of ["_law_tin", "_law_goods_so"] (defScope s__law_of) := ⟨rfl, rfl, rfl, by decide +kernel, rfl, by decide +kernel, by decide +kernel⟩
abbrev s__law_pick : Stmt := topS 34
abbrev N__law_pick : List Str := ["_law_tin", "_law_goods_so", "_law_count_so", "_law_pool_so", "_law_found", "_law_lap"]
theorem sc__law_pick : FnScope N__law_pick ["_law_tin", "_law_goods_so", "_law_count_so"] (defScope s__law_pick) := ⟨rfl, rfl, rfl, by decide +kernel, rfl, by decide +kernel, by decide +kernel⟩
abbrev s__law_lists : Stmt := topS 35
abbrev N__law_lists : List Str := ["_law_matter", "_law_bit"]
theorem sc__law_lists : FnScope N__law_lists ["_law_matter"] (defScope s__law_lists) := ⟨rfl, rfl, rfl, by decide +kernel, rfl, by decide +kernel, by decide +kernel⟩
abbrev s__law_same : Stmt := topS 36
abbrev N__law_same : List Str := ["_law_got", "_law_due", "_law_mine", "_law_its"]
theorem sc__law_same : FnScope N__law_same ["_law_got", "_law_due"] (defScope s__law_same) := ⟨rfl, rfl, rfl, by decide +kernel, rfl, by decide +kernel, by decide +kernel⟩
abbrev s__law_is_set : Stmt := topS 37
abbrev N__law_is_set : List Str := ["_law_own", "_law_below_so", "_law_bit", "_law_k"]
theorem sc__law_is_set : FnScope N__law_is_set ["_law_own", "_law_below_so"] (defScope s__law_is_set) := ⟨rfl, rfl, rfl, by decide +kernel, rfl, by decide +kernel, by decide +kernel⟩
abbrev s__law_signs_product : Stmt := topS 38
abbrev N__law_signs_product : List Str := ["_law_one_so", "_law_two_so", "_law_found"]
theorem sc__law_signs_product : FnScope N__law_signs_product ["_law_one_so", "_law_two_so"] (defScope s__law_signs_product) := ⟨rfl, rfl, rfl, by decide +kernel, rfl, by decide +kernel, by decide +kernel⟩
abbrev s__law_word_by : Stmt := topS 39
abbrev N__law_word_by : List Str := ["_law_one_so", "_law_two_so", "_law_three_so", "_law_fourth_so", "_law_fifth_so", "_law_sixth_so"]
theorem sc__law_word_by : FnScope N__law_word_by ["_law_one_so", "_law_two_so", "_law_three_so"] (defScope s__law_word_by) := ⟨rfl, rfl, rfl, by decide +kernel, rfl, by decide +kernel, by decide +kernel⟩
abbrev s__law_is_lot : Stmt := topS 40
abbrev N__law_is_lot : List Str := ["_law_own"]
theorem sc__law_is_lot : FnScope N__law_is_lot ["_law_own"] (defScope s__law_is_lot) := ⟨rfl, rfl, rfl, by decide +kernel, rfl, by decide +kernel, by decide +kernel⟩
abbrev s__law_bits : Stmt := topS 41
abbrev N__law_bits : List Str := ["_law_lot_so", "_law_own"]
theorem sc__law_bits : FnScope N__law_bits ["_law_lot_so"] (defScope s__law_bits) := ⟨rfl, rfl, rfl, by decide +kernel, rfl, by decide +kernel, by decide +kernel⟩
abbrev s__law_lot : Stmt := topS 42
abbrev N__law_lot : List Str := ["_law_number_so", "_law_own"]
theorem sc__law_lot : FnScope N__law_lot ["_law_number_so"] (defScope s__law_lot) := ⟨rfl, rfl, rfl, by decide +kernel, rfl, by decide +kernel, by decide +kernel⟩
abbrev s__law_lot_sum : Stmt := topS 43
abbrev N__law_lot_sum : List Str := ["_law_one_so", "_law_two_so", "_law_own"]
theorem sc__law_lot_sum : FnScope N__law_lot_sum ["_law_one_so", "_law_two_so"] (defScope s__law_lot_sum) := ⟨rfl, rfl, rfl, by decide +kernel, rfl, by decide +kernel, by decide +kernel⟩
abbrev s__law_base : Stmt := topS 44
abbrev N__law_base : List Str := ["_law_found", "_law_row_so", "_law_word_so", "_law_lot_so", "_law_column_so", "_law_sign_so", "_law_k", "_law_own"]
theorem sc__law_base : FnScope N__law_base [] (defScope s__law_base) := ⟨rfl, rfl, rfl, by decide +kernel, rfl, by decide +kernel, by decide +kernel⟩
abbrev s__law_tally : Stmt := topS 45
abbrev N__law_tally : List Str := ["_law_found", "_law_lap", "_law_own"]
theorem sc__law_tally : FnScope N__law_tally [] (defScope s__law_tally) := ⟨rfl, rfl, rfl, by decide +kernel, rfl, by decide +kernel, by decide +kernel⟩
abbrev s__law_many : Stmt := topS 46
abbrev N__law_many : List Str := ["_law_tally_so", "_law_number_so"]
theorem sc__law_many : FnScope N__law_many ["_law_tally_so", "_law_number_so"] (defScope s__law_many) := ⟨rfl, rfl, rfl, by decide +kernel, rfl, by decide +kernel, by decide +kernel⟩
abbrev s__law_rights : Stmt := topS 47
abbrev N__law_rights : List Str := ["_law_found", "_law_lot_so", "_law_bits_so", "_law_own"]
theorem sc__law_rights : FnScope N__law_rights [] (defScope s__law_rights) := ⟨rfl, rfl, rfl, by decide +kernel, rfl, by decide +kernel, by decide +kernel⟩
abbrev s__law_board : Stmt := topS 48
abbrev N__law_board : List Str := ["_law_rights_so", "_law_tally_so", "_law_own"]
theorem sc__law_board : FnScope N__law_board [] (defScope s__law_board) := ⟨rfl, rfl, rfl, by decide +kernel, rfl, by decide +kernel, by decide +kernel⟩
abbrev s__law_some_lot : Stmt := topS 49
abbrev N__law_some_lot : List Str := ["_law_tin", "_law_most_so"]
theorem sc__law_some_lot : FnScope N__law_some_lot ["_law_tin", "_law_most_so"] (defScope s__law_some_lot) := ⟨rfl, rfl, rfl, by decide +kernel, rfl, by decide +kernel, by decide +kernel⟩
abbrev s__law_heard : Stmt := topS 50
abbrev N__law_heard : List Str := ["_law_door", "_law_lot_here", "_law_gaps", "slip"]
theorem sc__law_heard : FnScope N__law_heard ["_law_door", "_law_lot_here", "_law_gaps"] (defScope s__law_heard) := ⟨rfl, rfl, rfl, by decide +kernel, rfl, by decide +kernel, by decide +kernel⟩
abbrev s__law_bent : Stmt := topS 51
abbrev N__law_bent : List Str := ["_law_tin", "_law_own", "_law_lamp", "_law_things"]
theorem sc__law_bent : FnScope N__law_bent ["_law_tin", "_law_own"] (defScope s__law_bent) := ⟨rfl, rfl, rfl, by decide +kernel, rfl, by decide +kernel, by decide +kernel⟩
abbrev s__law_is_one : Stmt := topS 52
abbrev N__law_is_one : List Str := ["_law_goods", "_law_own"]
theorem sc__law_is_one : FnScope N__law_is_one ["_law_goods", "_law_own"] (defScope s__law_is_one) := ⟨rfl, rfl, rfl, by decide +kernel, rfl, by decide +kernel, by decide +kernel⟩
abbrev s__law_told_right : Stmt := topS 53
abbrev N__law_told_right : List Str := ["_law_told", "_law_goods"]
theorem sc__law_told_right : FnScope N__law_told_right ["_law_told", "_law_goods"] (defScope s__law_told_right) := ⟨rfl, rfl, rfl, by decide +kernel, rfl, by decide +kernel, by decide +kernel⟩
abbrev s__law_right : Stmt := topS 54
abbrev N__law_right : List Str := ["_law_tin", "_law_board_here", "_law_rights_here", "_law_eights", "_law_tally_here", "_law_gaps", "_law_lot_here", "_law_soft", "_law_holes", "_law_bits_here", "_law_shut", "_law_open_so", "_law_fills", "_law_bars", "_law_told", "_law_bar", "_law_some", "_law_things", "_law_got", "_law_own"]
theorem sc__law_right : FnScope N__law_right ["_law_tin", "_law_board_here"] (defScope s__law_right) := ⟨rfl, rfl, rfl, by decide +kernel, rfl, by decide +kernel, by decide +kernel⟩
abbrev s__law_by_hand_right : Stmt := topS 55
abbrev N__law_by_hand_right : List Str := ["_law_five", "_law_gaps", "_law_eight", "_law_bar", "_law_got", "_law_due", "_law_own"]
theorem sc__law_by_hand_right : FnScope N__law_by_hand_right [] (defScope s__law_by_hand_right) := ⟨rfl, rfl, rfl, by decide +kernel, rfl, by decide +kernel, by decide +kernel⟩
abbrev s_law : Stmt := topS 56
abbrev N_law : List Str := ["_law_script"]
theorem sc_law : FnScope N_law ["_law_script"] (defScope s_law) := ⟨rfl, rfl, rfl, by decide +kernel, rfl, by decide +kernel, by decide +kernel⟩
end KT
set_option Elab.async false
set_option linter.all false
set_option maxRecDepth 100000
set_option maxHeartbeats 4000000
/-! The walk: plain.py. -/
namespace KD
open PySem PySem.Spec PyProof.Rows L2 Evl KW KR KT
section
variable {P : Program} {w : World} {K : PySem.W.Frag} {mg : Str → Option Value} {base : Heap} {f : Addr} {fd : FuncData}
theorem kII : kitB "int" "int" = some true := by decide +kernel
theorem kIB : kitB "int" "bool" = some false := by decide +kernel
theorem kBI : kitB "bool" "int" = some true := by decide +kernel
theorem kBB : kitB "bool" "bool" = some true := by decide +kernel
theorem kSI : kitB "str" "int" = some false := by decide +kernel
theorem kSB : kitB "str" "bool" = some false := by decide +kernel
theorem kTT : kitB "tuple" "tuple" = some true := by decide +kernel
theorem kLT : kitB "list" "tuple" = some false := by decide +kernel
theorem kNT : kitB "NoneType" "tuple" = some false := by decide +kernel
def spIsNumber : Sp := fun vs H Q _ => ∃ x, vs = [x] ∧ sc x = true ∧ RetV (.bl (isN x)) H Q
theorem ok_is_number (F : Fun K "is_number" "is_number" s_is_number f fd) (T : Txt K mg) : FnOk P w K mg base CX0 1 f fd ["thing"] spIsNumber := by
  refine F.ok sc_is_number (fun vs H Q E h => ?_) (fun cdv A outer s H vs Q E hr h => ?_)
  · obtain ⟨x, rfl, _⟩ := h; rfl
  · obtain ⟨x, rfl, hx, q⟩ := h
    refine ⟨_, (pss_one (ps_ret (pe_and (pe_callB call_isi (by rfl) T.n_isinstance (by decide +kernel) (pa_cons (pv 0) (pa_cons (pe_bltn (v := .ty "int") (by rfl) T.n_int (by decide +kernel) rfl) pa_nil))) (pe_one (pe_not (pe_callB call_isi (by rfl) T.n_isinstance (by decide +kernel) (pa_cons (pv 0) (pa_cons (pe_bltn (v := .ty "bool") (by rfl) T.n_bool (by decide +kernel) rfl) pa_nil)))))))), ?_⟩
    cases x with
    | int i => exact s_ret (ev_andV (a := true) (b := true) (ev_isi (ev_var rfl) (fun _ _ => ty_sc hx) kII) fun _ => ev_notV (a := false) (ev_isi (ev_var rfl) (fun _ _ => ty_sc hx) kIB)) q
    | bl b => exact s_ret (ev_andV (a := true) (b := false) (ev_isi (ev_var rfl) (fun _ _ => ty_sc hx) kBI) fun _ => ev_notV (a := true) (ev_isi (ev_var rfl) (fun _ _ => ty_sc hx) kBB)) q
    | str z => exact s_ret (ev_andV (a := false) (b := true) (ev_isi (ev_var rfl) (fun _ _ => ty_sc hx) kSI) fun z => nomatch z) q
    | _ => cases hx
def isC : V → Bool
  | .int i => decide (0 ≤ i)
  | _ => false
def spIsCount : Sp := fun vs H Q _ => ∃ x, vs = [x] ∧ sc x = true ∧ RetV (.bl (isC x)) H Q
theorem ok_is_count (F : Fun K "is_count" "is_count" s_is_count f fd) (C1 : Cal P w K mg base CX0 1 "is_number" ["thing"] spIsNumber) : FnOk P w K mg base CX0 2 f fd ["thing"] spIsCount := by
  obtain ⟨f1, fd1, G_is_number, m_is_number, k_is_number, b_is_number⟩ := C1.ex
  refine F.ok sc_is_count (fun vs H Q E h => ?_) (fun cdv A outer s H vs Q E hr h => ?_)
  · obtain ⟨x, rfl, _⟩ := h; rfl
  · obtain ⟨x, rfl, hx, q⟩ := h
    refine ⟨_, (pss_one (ps_ret (pe_and (pe_call G_is_number (hr.mono (by decide)) (by rfl) m_is_number k_is_number b_is_number .nil pass0 (pa_cons (pv 0) pa_nil)) (pe_one (pe_cmpR op_ge (pv 0) pe_int (nomark _)))))), ?_⟩
    have e : isC x = (isN x && isC x) := by cases x <;> rfl
    rw [e] at q
    refine s_ret (ev_andV (ev_call (ea_cons (ev_var rfl) ea_nil) fun H1 e1 Q1 q1 E1 => ⟨x, rfl, hx, q1⟩) fun hn => ?_) q
    cases x with
    | int i => exact ev_is (ev_op (ev_var rfl) ev_c rv_I0) rfl
    | _ => cases hn
def isB (m : Int) : V → Bool
  | .int i => decide (0 ≤ i) && decide (i < m)
  | _ => false
def spIsBelow : Sp := fun vs H Q _ => ∃ x m, vs = [x, .int m] ∧ sc x = true ∧ RetV (.bl (isB m x)) H Q
theorem ok_is_below (F : Fun K "is_below" "is_below" s_is_below f fd) (C1 : Cal P w K mg base CX0 2 "is_count" ["thing"] spIsCount) : FnOk P w K mg base CX0 3 f fd ["thing", "many"] spIsBelow := by
  obtain ⟨f1, fd1, G_is_count, m_is_count, k_is_count, b_is_count⟩ := C1.ex
  refine F.ok sc_is_below (fun vs H Q E h => ?_) (fun cdv A outer s H vs Q E hr h => ?_)
  · obtain ⟨x, m, rfl, _⟩ := h; rfl
  · obtain ⟨x, m, rfl, hx, q⟩ := h
    refine ⟨_, (pss_one (ps_ret (pe_and (pe_call G_is_count (hr.mono (by decide)) (by rfl) m_is_count k_is_count b_is_count .nil pass0 (pa_cons (pv 0) pa_nil)) (pe_one (pe_cmpR op_lt (pv 0) (pv 1) (nomark _)))))), ?_⟩
    have e : isB m x = (isC x && isB m x) := by
      cases x with
      | int i =>
        show (decide (0 ≤ i) && decide (i < m)) = (decide (0 ≤ i) && (decide (0 ≤ i) && decide (i < m)))
        cases decide (0 ≤ i) <;> rfl
      | _ => rfl
    rw [e] at q
    refine s_ret (ev_andV (ev_call (ea_cons (ev_var rfl) ea_nil) fun H1 e1 Q1 q1 E1 => ⟨x, rfl, hx, q1⟩) fun hn => ?_) q
    cases x with
    | int i =>
      have hn' : decide (0 ≤ i) = true := hn
      refine ev_is (ev_op (ev_var rfl) (ev_var rfl) rv_I0) ?_
      show V.bl (decide (i < m)) = V.bl (decide (0 ≤ i) && decide (i < m))
      rw [hn', Bool.true_and]
    | _ => cases hn
/-- what is read: a thing of any kind -/
inductive Thing where
  | non | tup (xs : List V) | lst (xs : List V)
def ThOk (K : PySem.W.Frag) : Thing → VP
  | .non, v, _ => v = .non
  | .tup xs, v, H => ∃ a, v = .ref a ∧ SqT K H a xs ∧ xs.all sc = true ∧ xs.length ≤ 1000
  | .lst xs, v, H => ∃ a, v = .ref a ∧ SqL K H a xs ∧ xs.all sc = true ∧ xs.length ≤ 1000
theorem mo_th {t : Thing} : Mo (ThOk K t) := fun v H H' e h => by
  cases t with
  | non => exact h
  | tup xs => obtain ⟨a, h1, h2, h3⟩ := h; exact ⟨a, h1, ex_t e h2, h3⟩
  | lst xs => obtain ⟨a, h1, h2, h3⟩ := h; exact ⟨a, h1, ex_l e h2, h3⟩
/-- the members ascend -/
def asc : List Int → Bool
  | x :: y :: r => decide (x < y) && asc (y :: r)
  | _ => true
def spAscends (K : PySem.W.Frag) : Sp := fun vs H Q _ => ∃ a ns, vs = [.ref a] ∧ SqT K H a (ns.map V.int) ∧ ns.length ≤ 1000 ∧ RetV (.bl (asc ns)) H Q
def ascB (ns : List Int) : List Bool := (List.range (ns.length - 1)).map fun i => decide (ns.getD i 0 < ns.getD (i + 1) 0)
theorem asc_all : ∀ ns : List Int, (ascB ns).all id = asc ns
  | [] => rfl
  | [_] => rfl
  | x :: y :: r => by
    have ih := asc_all (y :: r)
    unfold ascB at ih ⊢
    show (((List.range (r.length + 1)).map fun i => decide ((x :: y :: r).getD i 0 < (x :: y :: r).getD (i + 1) 0)).all id) = (decide (x < y) && asc (y :: r))
    rw [List.range_succ_eq_map, List.map_cons, List.all_cons, ← ih, List.map_map]
    rfl
theorem ok_ascends (F : Fun K "ascends" "ascends" s_ascends f fd) (T : Txt K mg) : FnOk P w K mg base CX0 1 f fd ["thing"] (spAscends K) := by
  refine F.ok sc_ascends (fun vs H Q E h => ?_) (fun cdv A outer s H vs Q E hr h => ?_)
  · obtain ⟨a, ns, rfl, _⟩ := h; rfl
  · obtain ⟨a, ns, rfl, hs, hl, q⟩ := h
    refine ⟨_, (pss_one (ps_ret (pe_callB (cr_all rfl) (by rfl) T.n_all (by decide +kernel) (pa_cons (pe_lc (own := [("near", 1), ("far", 2)]) (g := gTup K 2 (gCons (gName 1) (gCons (gName 2) gNil))) rfl sc_ascends.nd (RZ.pi_zipA (by rfl) T.n_zip (pa_cons (pv 0) (pa_cons (pe_slice sl_tupA (pv 0) (po_some pe_int) po_none) pa_nil))) (blkOk_by (N := N_ascends) (sc := defScope s_ascends) (by decide +kernel)) (fun _ _ _ _ _ => (pg_tup (by rfl) (pgs_cons (pg_name (i := 1) sc_ascends.nd rfl (Or.inl rfl)) (pgs_cons (pg_name (i := 2) sc_ascends.nd rfl (Or.inl rfl)) pgs_nil)))) (fun _ _ _ _ _ => pts_nil) (fun _ _ _ _ _ => (pe_cmpR op_lt (pv 1) (pv 2) (nomark _)))) pa_nil)))), ?_⟩
    rw [← asc_all] at q
    refine s_ret (v := .bl ((ascB ns).all id)) ?_ q
    have e0 : (ascB ns).map V.bl = (List.range (ns.length - 1)).map fun i => V.bl (decide (ns.getD i 0 < ns.getD (i + 1) 0)) := by
      unfold ascB
      rw [List.map_map]
      rfl
    refine ev_all (bs := ascB ns) ?_
    rw [e0]
    refine el_zipT (xs := ns.map V.int) (ys := (ns.drop 1).map V.int) (by rw [List.length_map, List.length_map, List.length_drop]; omega) (by omega) ?_ _ (fun _ _ => rfl) fun i x y H2 _ hi hx hy => ?_
    · intro H1 e1 Q1 q1
      refine ea2 (ep_ev (ev_var rfl)) mo_is (ep_slT (K := K) (ev_var rfl) (eo_some ev_c) eo_none hs) H1 e1 _ fun us H2 e2 hu => q1 us H2 e2 ?_
      obtain ⟨x, y, rfl, rfl, b, rfl, hb⟩ := hu
      rw [cut_from1, ← List.map_drop] at hb
      exact ⟨a, b, rfl, ex_t (e1.trans e2) hs, hb⟩
    · have i1 : i < ns.length := by omega
      have i2 : i + 1 < ns.length := by omega
      have ex : x = .int (ns.getD i 0) := by
        rw [List.getElem?_map, List.getElem?_eq_getElem i1] at hx
        rw [List.getD_eq_getElem?_getD, List.getElem?_eq_getElem i1]
        exact (Option.some.inj hx).symm
      have ey : y = .int (ns.getD (i + 1) 0) := by
        rw [List.getElem?_map, List.getElem?_drop, Nat.add_comm 1 i, List.getElem?_eq_getElem i2] at hy
        rw [List.getD_eq_getElem?_getD, List.getElem?_eq_getElem i2]
        exact (Option.some.inj hy).symm
      subst ex ey
      exact ev_op (ev_var rfl) (ev_var rfl) rv_I0
end
end KD
set_option Elab.async false
set_option linter.all false
set_option maxRecDepth 100000
set_option maxHeartbeats 4000000
/-! The walk: plain.py further, signs.py, what lots lack. -/
namespace KD
open PySem PySem.Spec PyProof.Rows L2 Evl KW KR KT
section
variable {P : Program} {w : World} {K : PySem.W.Frag} {mg : Str → Option Value} {base : Heap} {f : Addr} {fd : FuncData}
def vI : V → Int
  | .int i => i
  | _ => 0
def numSet : Thing → Bool
  | .tup xs => xs.all (isB 24) && asc (xs.map vI)
  | _ => false
theorem vI_ints {m : Int} : ∀ {xs : List V}, xs.all (isB m) = true → (xs.map vI).map V.int = xs
  | [], _ => rfl
  | x :: r, h => by
    rw [List.all_cons, Bool.and_eq_true] at h
    have ih := vI_ints h.2
    cases x with
    | int i => show V.int i :: (r.map vI).map V.int = _; rw [ih]
    | _ => cases h.1
def spNumSet (K : PySem.W.Frag) : Sp := fun vs H Q _ => ∃ t v, vs = [v, .int 24] ∧ ThOk K t v H ∧ RetV (.bl (numSet t)) H Q
theorem ok_is_number_set (F : Fun K "is_number_set" "is_number_set" s_is_number_set f fd) (T : Txt K mg) (C1 : Cal P w K mg base CX0 3 "is_below" ["thing", "many"] spIsBelow) (C2 : Cal P w K mg base CX0 1 "ascends" ["thing"] (spAscends K)) :
    FnOk P w K mg base CX0 4 f fd ["thing", "many"] (spNumSet K) := by
  obtain ⟨f1, fd1, G_is_below, m_is_below, k_is_below, b_is_below⟩ := C1.ex
  obtain ⟨f2, fd2, G_ascends, m_ascends, k_ascends, b_ascends⟩ := C2.ex
  refine F.ok sc_is_number_set (fun vs H Q E h => ?_) (fun cdv A outer s H vs Q E hr h => ?_)
  · obtain ⟨t, v, rfl, _⟩ := h; rfl
  · obtain ⟨t, v, rfl, ht, q⟩ := h
    refine ⟨_, (pss_cons (ps_if (PW.pt (pw_or (pt_not (pt_val (pe_callB call_isi (by rfl) T.n_isinstance (by decide +kernel) (pa_cons (pv 0) (pa_cons (pe_bltn (v := .ty "tuple") (by rfl) T.n_tuple (by decide +kernel) rfl) pa_nil))))) (pw_or1 (pt_not (pt_val (pe_callB (cr_all rfl) (by rfl) T.n_all (by decide +kernel) (pa_cons (pe_lc (own := [("part", 2)]) (g := gName 2) rfl sc_is_number_set.nd (pi_tup (pv 0)) (blkOk_by (N := N_is_number_set) (sc := defScope s_is_number_set) (by decide +kernel)) (fun _ _ _ _ _ => (pg_name (i := 2) sc_is_number_set.nd rfl (Or.inl rfl))) (fun _ _ _ _ _ => pts_nil) (fun _ _ _ _ _ => (pe_call G_is_below (hr.mono (by decide)) (by rfl) m_is_below k_is_below b_is_below .nil pass0 (pa_cons (pv 2) (pa_cons (pv 1) pa_nil))))) pa_nil))))))) (pss_one (ps_ret pe_bl)) pss_nil)
      (pss_one (ps_ret (pe_call G_ascends (hr.mono (by decide)) (by rfl) m_ascends k_ascends b_ascends .nil pass0 (pa_cons (pv 0) pa_nil))))), ?_⟩
    cases t with
    | non =>
      obtain rfl : v = .non := ht
      exact q_when (b := true) (et_or (a := true) (b := true) (et_not (a := false) (et_B (ev_isi (tn := "NoneType") (ev_var rfl) (fun _ _ => .base .non) kNT))) (fun z => nomatch z)) (fun _ H1 e1 => s_ret ev_c fun H2 e2 => q H2 (e1.trans e2)) (fun z => nomatch z)
    | lst xs =>
      obtain ⟨a, rfl, hs, _⟩ := ht
      exact q_when (b := true) (et_or (a := true) (b := true) (et_not (a := false) (et_B (ev_isi (tn := "list") (ev_var rfl) (fun _ e => ty_L (ex_l e hs)) kLT))) (fun z => nomatch z)) (fun _ H1 e1 => s_ret ev_c fun H2 e2 => q H2 (e1.trans e2)) (fun z => nomatch z)
    | tup xs =>
      obtain ⟨a, rfl, hs, hsc, hl⟩ := ht
      have e0 : (xs.map (isB 24)).all id = xs.all (isB 24) := by rw [List.all_map]; rfl
      refine q_when (b := !(xs.all (isB 24))) (et_or (a := false) (et_not (a := true) (et_B (ev_isi (tn := "tuple") (ev_var rfl) (fun _ e => ty_T (ex_t e hs)) kTT))) (fun _ => et_not (et_B (ev_is (ev_all (bs := xs.map (isB 24)) ?_) (by rw [e0]))))) (fun hb H1 e1 => s_ret ev_c fun H2 e2 => ?_) (fun hb H1 e1 => ?_)
      · have z := el_T (te := tCall spIsBelow ([] ++ []) E0 (tCons (tVar 2) (tCons (tVar 1) tNil))) (t := tYes) (K := K) (σ := start N_is_number_set [V.ref a, V.int 24]) (H := H) (tl := tVar 0) (j := 2) (vs := [2]) (l := xs) (em := id) (fun _ => true) (fun x => V.bl (isB 24 x)) (ev_var rfl) (by rw [List.map_id]; exact hs) (by omega) (fun _ => rfl) (fun _ _ _ _ => et_yes)
          (fun x H1 e1 hx _ => ev_call (ea_cons (ev_var rfl) (ea_cons (ev_var rfl) ea_nil)) fun H2 e2 Q2 q2 E2 => ⟨x, 24, rfl, List.all_eq_true.mp hsc x hx, q2⟩)
        rw [filter_true] at z
        rw [List.map_map]
        exact z
      · have e1' : xs.all (isB 24) = false := by simpa using hb
        have z : numSet (.tup xs) = false := by show (xs.all (isB 24) && _) = false; rw [e1']; rfl
        rw [z] at q
        exact q H2 (e1.trans e2)
      · have e1' : xs.all (isB 24) = true := by simpa using hb
        have z : numSet (.tup xs) = asc (xs.map vI) := by show (xs.all (isB 24) && _) = _; rw [e1']; rfl
        rw [z] at q
        refine s_ret (ev_call (ea_cons (ev_var rfl) ea_nil) fun H2 e2 Q2 q2 E2 => ⟨a, xs.map vI, rfl, ?_, by rw [List.length_map]; exact hl, q2⟩) fun H2 e2 => q H2 (e1.trans e2)
        rw [vI_ints e1']
        exact ex_t (e1.trans e2) hs
/-! ### set_of -/
def spSetOf (K : PySem.W.Frag) : Sp := fun vs H Q _ => ∃ (a : Addr) (ns : List Int), vs = [.ref a] ∧ SqL K H a (ns.map V.int) ∧ ns.length ≤ 60 ∧ ∀ ms : List Int, ms.Pairwise (· < ·) → (∀ k, k ∈ ms ↔ k ∈ ns) → Ret (IsT K (ms.map V.int)) H Q
theorem ok_set_of (F : Fun K "set_of" "set_of" s_set_of f fd) (T : Txt K mg) : FnOk P w K mg base CX0 1 f fd ["things"] (spSetOf K) := by
  refine F.ok sc_set_of (fun vs H Q E h => ?_) (fun cdv A outer s H vs Q E hr h => ?_)
  · obtain ⟨a, ns, rfl, _⟩ := h; rfl
  · obtain ⟨a, ns, rfl, hs, hl, q⟩ := h
    refine ⟨_, (pss_one (ps_ret (pe_callTy call_tuple_of (by rfl) T.n_tuple (by decide +kernel) (pa_cons (pe_callB (cr_sortedSet rfl) (by rfl) T.n_sorted (by decide +kernel) (pa_cons (pe_callTy (cr_setI rfl) (by rfl) T.n_set (by decide +kernel) (pa_cons (pv 0) pa_nil)) pa_nil)) pa_nil)))), ?_⟩
    refine ⟨_, rfl, a, ns, rfl, hs, hl, fun p c hp hc => ⟨p, _, c, rfl, upd_same, by omega, fun ms r hup hmem hlen hr2 => ⟨r, ms.map V.int, rfl, .inl ⟨.inl (.inl upd_same), fun l hl2 => ?_⟩⟩⟩⟩
    exact q ms hup (fun k => by rw [hmem k, decide_eq_true_eq]) _ _ (((Ex.new hp).trans (Ex.new hr2)).trans (Ex.new hl2)) ⟨l, rfl, st_of upd_same⟩
/-! ### tupled -/
def spTupI : Sp := fun vs H Q _ => ∃ i : Int, vs = [.int i] ∧ RetV (.int i) H Q
theorem fnFalse {CX : CXT} {ps : List Str} : FnOk P w K mg base CX 0 f fd ps (fun _ _ _ _ => False) := ⟨fun _ _ _ _ h => h.elim, fun _ _ _ _ _ _ _ _ _ _ _ _ _ h => h.elim⟩
theorem ok_tupledI (F : Fun K "tupled" "tupled" s_tupled f fd) (T : Txt K mg) (m_tupled : mg "tupled" = some (.ref f)) (b_tupled : Binds K fd ["thing"] []) : FnOk P w K mg base CX0 1 f fd ["thing"] spTupI := by
  have G_tupled : FnOk P w K mg base CX0 0 f fd ["thing"] (fun _ _ _ _ => False) := fnFalse
  have k_tupled := F.kp
  refine F.ok sc_tupled (fun vs H Q E h => ?_) (fun cdv A outer s H vs Q E hr h => ?_)
  · obtain ⟨i, rfl, _⟩ := h; rfl
  · obtain ⟨i, rfl, q⟩ := h
    refine ⟨_, (pss_one (ps_ret (pe_ifExp (pt_val (pe_callB call_isiT (by rfl) T.n_isinstance (by decide +kernel) (pa_cons (pv 0) (pa_cons (pe_tup (pa_cons (pe_bltn (v := .ty "list") (by rfl) T.n_list (by decide +kernel) rfl) (pa_cons (pe_bltn (v := .ty "tuple") (by rfl) T.n_tuple (by decide +kernel) rfl) pa_nil))) pa_nil)))) (pe_callTy call_tuple_of (by rfl) T.n_tuple (by decide +kernel) (pa_cons (pe_lc (own := [("part", 1)]) (g := gName 1) rfl sc_tupled.nd (pi_tup (pv 0)) (blkOk_by (N := N_tupled) (sc := defScope s_tupled) (by decide +kernel)) (fun _ _ _ _ _ => (pg_name (i := 1) sc_tupled.nd rfl (Or.inl rfl))) (fun _ _ _ _ _ => pts_nil) (fun _ _ _ _ _ => (pe_call G_tupled (hr.mono (by decide)) (by rfl) m_tupled k_tupled b_tupled .nil pass0 (pa_cons (pv 1) pa_nil)))) pa_nil)) (pv 0)))), ?_⟩
    exact s_ret (ev_if (b := false) (et_B (ev_isi2 (ev_var rfl) (fun _ _ => .base (.int i)) kit2_int)) (fun z => nomatch z) (fun _ => ev_var rfl)) q
def spTup (K : PySem.W.Frag) : Sp := fun vs H Q _ => ∃ (a : Addr) (l : List Nat), vs = [.ref a] ∧ (SqL K H a (ni l) ∨ SqT K H a (ni l)) ∧ l.length ≤ 1000 ∧ Ret (IsT K (ni l)) H Q
theorem ok_tupled (F : Fun K "tupled" "tupled" s_tupled f fd) (T : Txt K mg) (m_tupled : mg "tupled" = some (.ref f)) (b_tupled : Binds K fd ["thing"] []) : FnOk P w K mg base CX0 2 f fd ["thing"] (spTup K) := by
  have G_tupled : FnOk P w K mg base CX0 1 f fd ["thing"] spTupI := ok_tupledI F T m_tupled b_tupled
  have k_tupled := F.kp
  refine F.ok sc_tupled (fun vs H Q E h => ?_) (fun cdv A outer s H vs Q E hr h => ?_)
  · obtain ⟨a, l, rfl, _⟩ := h; rfl
  · obtain ⟨a, l, rfl, hs | hs, hl, q⟩ := h
    · refine ⟨_, (pss_one (ps_ret (pe_ifExp (pt_val (pe_callB call_isiT (by rfl) T.n_isinstance (by decide +kernel) (pa_cons (pv 0) (pa_cons (pe_tup (pa_cons (pe_bltn (v := .ty "list") (by rfl) T.n_list (by decide +kernel) rfl) (pa_cons (pe_bltn (v := .ty "tuple") (by rfl) T.n_tuple (by decide +kernel) rfl) pa_nil))) pa_nil)))) (pe_callTy call_tuple_of (by rfl) T.n_tuple (by decide +kernel) (pa_cons (pe_lc (own := [("part", 1)]) (g := gName 1) rfl sc_tupled.nd (pi_list (pv 0)) (blkOk_by (N := N_tupled) (sc := defScope s_tupled) (by decide +kernel)) (fun _ _ _ _ _ => (pg_name (i := 1) sc_tupled.nd rfl (Or.inl rfl))) (fun _ _ _ _ _ => pts_nil) (fun _ _ _ _ _ => (pe_call G_tupled (hr.mono (by decide)) (by rfl) m_tupled k_tupled b_tupled .nil pass0 (pa_cons (pv 1) pa_nil)))) pa_nil)) (pv 0)))), ?_⟩
      refine s_retP (ep_if (b := true) (et_B (ev_isi2 (ev_var rfl) (fun _ e => ty_L (ex_l e hs)) kit2_list)) (fun _ => ?_) (fun z => nomatch z)) q
      have z := el_L (te := tCall spTupI ([] ++ []) E0 (tCons (tVar 1) tNil)) (t := tYes) (K := K) (σ := start N_tupled [V.ref a]) (H := H) (tl := tVar 0) (j := 1) (vs := [1]) (l := l) (em := fun (n : Nat) => V.int (n : Int)) (fun _ => true) (fun n => V.int (n : Int)) (ev_var rfl) hs (by omega) (fun _ => rfl) (fun _ _ _ _ => et_yes)
        (fun x H1 e1 hx _ => ev_call (ea_cons (ev_var rfl) ea_nil) fun H2 e2 Q2 q2 E2 => ⟨_, rfl, q2⟩)
      rw [filter_true] at z
      exact ep_U (eu_tuple z)
    · refine ⟨_, (pss_one (ps_ret (pe_ifExp (pt_val (pe_callB call_isiT (by rfl) T.n_isinstance (by decide +kernel) (pa_cons (pv 0) (pa_cons (pe_tup (pa_cons (pe_bltn (v := .ty "list") (by rfl) T.n_list (by decide +kernel) rfl) (pa_cons (pe_bltn (v := .ty "tuple") (by rfl) T.n_tuple (by decide +kernel) rfl) pa_nil))) pa_nil)))) (pe_callTy call_tuple_of (by rfl) T.n_tuple (by decide +kernel) (pa_cons (pe_lc (own := [("part", 1)]) (g := gName 1) rfl sc_tupled.nd (pi_tup (pv 0)) (blkOk_by (N := N_tupled) (sc := defScope s_tupled) (by decide +kernel)) (fun _ _ _ _ _ => (pg_name (i := 1) sc_tupled.nd rfl (Or.inl rfl))) (fun _ _ _ _ _ => pts_nil) (fun _ _ _ _ _ => (pe_call G_tupled (hr.mono (by decide)) (by rfl) m_tupled k_tupled b_tupled .nil pass0 (pa_cons (pv 1) pa_nil)))) pa_nil)) (pv 0)))), ?_⟩
      refine s_retP (ep_if (b := true) (et_B (ev_isi2 (ev_var rfl) (fun _ e => ty_T (ex_t e hs)) kit2_tuple)) (fun _ => ?_) (fun z => nomatch z)) q
      have z := el_T (te := tCall spTupI ([] ++ []) E0 (tCons (tVar 1) tNil)) (t := tYes) (K := K) (σ := start N_tupled [V.ref a]) (H := H) (tl := tVar 0) (j := 1) (vs := [1]) (l := l) (em := fun (n : Nat) => V.int (n : Int)) (fun _ => true) (fun n => V.int (n : Int)) (ev_var rfl) hs (by omega) (fun _ => rfl) (fun _ _ _ _ => et_yes)
        (fun x H1 e1 hx _ => ev_call (ea_cons (ev_var rfl) ea_nil) fun H2 e2 Q2 q2 E2 => ⟨_, rfl, q2⟩)
      rw [filter_true] at z
      exact ep_U (eu_tuple z)
end
end KD
set_option Elab.async false
set_option linter.all false
set_option maxRecDepth 100000
set_option maxHeartbeats 4000000
/-! The walk: what lots lack, sums of lots, bits. -/
namespace KD
open PySem PySem.Spec PyProof.Rows L2 Evl KW KR KT
section
variable {K : PySem.W.Frag} {σ : L2.St} {H : Hp} {ta tb te tx : TE} {t : TT}
/-- over a tuple, no test -/
theorem el_Tm {α : Type} {a : Addr} {l : List α} {em : α → V} {tl : TE} {j : Nat} {vs : List Nat} (gv : α → V) (h : Ev tl σ H (.ref a)) (hx : SqT K H a (l.map em)) (hz : l.length ≤ 40000) (hw : ∀ x, wipe ((wipe σ vs).set j (some x)) vs = wipe σ vs)
    (he : ∀ (x : α) H1, Ex H H1 → x ∈ l → Ev te ((wipe σ vs).set j (some (em x))) H1 (gv x)) : EvL (tLc (iTup K tl) (gName j) tYes te vs) σ H (l.map gv) := by
  have z := el_T (te := te) (t := tYes) (fun _ => true) gv h hx hz hw (fun _ _ _ _ => et_yes) fun x H1 e hx _ => he x H1 e hx
  rw [filter_true] at z
  exact z
theorem el_Lm {α : Type} {a : Addr} {l : List α} {em : α → V} {tl : TE} {j : Nat} {vs : List Nat} (gv : α → V) (h : Ev tl σ H (.ref a)) (hx : SqL K H a (l.map em)) (hz : l.length ≤ 40000) (hw : ∀ x, wipe ((wipe σ vs).set j (some x)) vs = wipe σ vs)
    (he : ∀ (x : α) H1, Ex H H1 → x ∈ l → Ev te ((wipe σ vs).set j (some (em x))) H1 (gv x)) : EvL (tLc (iList K tl) (gName j) tYes te vs) σ H (l.map gv) := by
  have z := el_L (te := te) (t := tYes) (fun _ => true) gv h hx hz hw (fun _ _ _ _ => et_yes) fun x H1 e hx _ => he x H1 e hx
  rw [filter_true] at z
  exact z
theorem el_Rm {n : Nat} {ta : TA} {j : Nat} {vs : List Nat} (gv : Nat → V) (h : EvA ta σ H [.int (n : Int)]) (hn : n ≤ 40000) (hw : ∀ x, wipe ((wipe σ vs).set j (some x)) vs = wipe σ vs)
    (he : ∀ (i : Nat) H1, Ex H H1 → i < n → Ev te ((wipe σ vs).set j (some (.int (i : Int)))) H1 (gv i)) : EvL (tLc (iRng1 ta) (gName j) tYes te vs) σ H ((List.range n).map gv) := by
  have z := el_R (te := te) (t := tYes) (fun _ => true) gv h hn hw (fun _ _ _ _ => et_yes) fun x H1 e hx _ => he x H1 e hx
  rw [filter_true] at z
  exact z
theorem el_cat {xs ys : List V} (h1 : EvL ta σ H xs) (h2 : EvL tb σ H ys) (hz : xs.length + ys.length ≤ 100000) : EvL (tOp rCat ta tb) σ H (xs ++ ys) := fun H1 e Q q =>
  h1 H1 e _ fun p H2 _ e2 hp => h2 H2 (e.trans e2) _ fun r H3 _ e3 hr => ⟨p, r, xs, ys, rfl, rfl, e3 p _ hp, hr, sz_of hz, fun d hd => q d _ (fresh_back (e2.trans e3) hd) ((e2.trans e3).trans (Ex.new hd)) upd_same⟩
theorem vdec (a b : Nat) : decide (V.int (a : Int) = V.int (b : Int)) = (a == b) := by
  by_cases h : a = b
  · subst h; simp
  · have : ¬ V.int (a : Int) = V.int (b : Int) := fun z => h (by have := V.int.inj z; omega)
    simp [h, this]
theorem bdec (a b : Bool) : decide (V.bl a = V.bl b) = (a == b) := by
  cases a <;> cases b <;> decide
theorem ev_intb {b : Bool} (h : Ev ta σ H (.bl b)) : Ev (tCB (fun xs H Q => (∃ i, xs = [V.int i] ∧ Q (.int i) H) ∨ ∃ k, xs = [V.bl k] ∧ Q (.int (if k then 1 else 0)) H) (tCons ta tNil)) σ H (.int (if b then 1 else 0)) := fun H1 e Q q =>
  h H1 e _ fun H2 e2 => .inr ⟨b, rfl, q H2 e2⟩
theorem ev_inti {i : Int} (h : Ev ta σ H (.int i)) : Ev (tCB (fun xs H Q => (∃ i, xs = [V.int i] ∧ Q (.int i) H) ∨ ∃ k, xs = [V.bl k] ∧ Q (.int (if k then 1 else 0)) H) (tCons ta tNil)) σ H (.int i) := fun H1 e Q q =>
  h H1 e _ fun H2 e2 => .inl ⟨i, rfl, q H2 e2⟩
end
section
variable {P : Program} {w : World} {K : PySem.W.Frag} {mg : Str → Option Value} {base : Heap} {f : Addr} {fd : FuncData}
def spProd : Sp := fun vs H Q _ => ∃ a b : Nat, vs = [.int (a : Int), .int (b : Int)] ∧ a < 4 ∧ b < 4 ∧ RetV (.int (K17.prod a b : Int)) H Q
theorem prod_row : ∀ a, a < 4 → ∃ r, K17.PRODS[a]? = some r ∧ ∀ b, b < 4 → r[b]? = some (K17.prod a b) := by decide +kernel
theorem ok_sign_product (F : Fun K "sign_product" "sign_product" s_sign_product f fd) (T : Txt K mg) : FnOk P w K mg base CX0 1 f fd ["one", "other"] spProd := by
  obtain ⟨a_PRODUCTS, ps, m_PRODUCTS, hP, hPl, hPr⟩ := T.PRODUCTS
  refine F.ok sc_sign_product (fun vs H Q E h => ?_) (fun cdv A outer s H vs Q E hr h => ?_)
  · obtain ⟨a, b, rfl, _⟩ := h; rfl
  · obtain ⟨a, b, rfl, ha, hb, q⟩ := h
    refine ⟨_, (pss_one (ps_ret (pe_ix ix_tup (pe_ix ix_tup (pe_glob (v := .ref a_PRODUCTS) (by rfl) m_PRODUCTS rfl) (pv 0) (fun _ _ => rfl)) (pv 1) (fun _ _ => rfl)))), ?_⟩
    obtain ⟨r, hr1, hr2⟩ := prod_row a ha
    obtain ⟨p, hp, hs⟩ := hPr a r hr1
    exact s_ret (ev_op (ev_op ev_c (ev_var rfl) (rv_ixT (hP _) (atI_nat (by rw [List.getElem?_map, hp]; rfl)))) (ev_var rfl) (rv_ixT (hs _) (atI_nat (ni_at (hr2 b hb))))) q
def spLackOf : Sp := fun vs H Q _ => ∃ i : Nat, vs = [.int (i : Int)] ∧ i < 24 ∧ RetV (.int (K17.lackL i : Int)) H Q
theorem fact_row : ∀ k, k < 3 → ∃ r, K17.FACTS[k]? = some r ∧ ∀ c, c < 6 → r[c]? = some (r.getD c 0) ∧ r.getD c 0 < 4 := by decide +kernel
theorem lackP_succ (i k : Nat) : K17.lackP i (k + 1) = 2 * K17.lackP i k + (if ((k == i / 4) != (i % 4 == 0)) then 1 else 0) := by
  unfold K17.lackP
  rw [List.range_succ, List.foldl_append]
  rfl
theorem lackQ_succ (i k : Nat) (r : List Nat) (h : K17.FACTS[k]? = some r) : K17.lackQ i (k + 1) = 4 * K17.lackQ i k + K17.prod (r.getD (i / 4) 0) (i % 4) := by
  unfold K17.lackQ
  rw [List.take_add_one, h, List.foldl_append]
  rfl
theorem ok_lack_of (F : Fun K "lack_of" "lack_of" s_lack_of f fd) (T : Txt K mg) (C1 : Cal P w K mg base CX0 1 "sign_product" ["one", "other"] spProd) : FnOk P w K mg base CX0 2 f fd ["lamp"] spLackOf := by
  obtain ⟨f1, fd1, G_sign_product, m_sign_product, k_sign_product, b_sign_product⟩ := C1.ex
  obtain ⟨a_FACTORS, ps, m_FACTORS, hF, hFl, hFr⟩ := T.FACTORS
  refine F.ok sc_lack_of (fun vs H Q E h => ?_) (fun cdv A outer s H vs Q E hr h => ?_)
  · obtain ⟨i, rfl, _⟩ := h; rfl
  · obtain ⟨i, rfl, hi, q⟩ := h
    refine ⟨_, (pss_cons (ps_par3 (i := 1) (j := 2) (l := 3) (by rfl) sc_lack_of.nd rfl rfl rfl (by decide) (by decide) (by decide) rfl rfl rfl (pa_cons (pe_op op_fdiv (pv 0) pe_int) (pa_cons (pe_op op_mod (pv 0) pe_int) (pa_cons pe_int pa_nil))) (by rfl))
      (pss_cons (ps_for PassesOwn.never rfl (pi_range1 (by rfl) T.n_range (pa_cons pe_int pa_nil)) (pg_name (i := 4) sc_lack_of.nd rfl (Or.inl rfl)) (pss_one (ps_set (i := 3) sc_lack_of.nd rfl (Or.inl rfl) (pe_op op_add (pe_op op_mul pe_int (pv 3)) (pe_callTy call_int1 (by rfl) T.n_int (by decide +kernel) (pa_cons (pe_cmpR op_ne (pe_cmpR op_eq (pv 4) (pv 1) (nomark _)) (pe_cmpR op_eq (pv 2) pe_int (nomark _)) (nomark _)) pa_nil))))))
      (pss_cons (ps_for PassesOwn.never rfl (pi_tup (pe_glob (v := .ref a_FACTORS) (by rfl) m_FACTORS rfl)) (pg_name (i := 5) sc_lack_of.nd rfl (Or.inl rfl)) (pss_one (ps_set (i := 3) sc_lack_of.nd rfl (Or.inl rfl) (pe_op op_add (pe_op op_mul pe_int (pv 3)) (pe_call G_sign_product (hr.mono (by decide)) (by rfl) m_sign_product k_sign_product b_sign_product .nil pass0 (pa_cons (pe_ix ix_tup (pv 5) (pv 1) (fun _ _ => rfl)) (pa_cons (pv 2) pa_nil)))))))
      (pss_one (ps_ret (pv 3)))))), ?_⟩
    refine q_par3 (ea_of (ea_cons (ev_is (w := V.int ((i / 4 : Nat) : Int)) (ev_op (ev_var rfl) ev_c (rv_I (C := CDiv) ⟨by decide, by decide⟩)) (by congr 1)) (ea_cons (ev_is (w := V.int ((i % 4 : Nat) : Int)) (ev_op (ev_var rfl) ev_c (rv_I (by decide))) (by congr 1)) (ea_cons (ev_c (v := V.int (0 : Int))) ea_nil)))) fun us H1 e1 eu => ⟨_, _, _, eu, ?_⟩
    refine q_forR1 (n := 6) (ea_cons ev_c ea_nil) (by decide) (fun k σ G => ∃ o, σ = [some (.int (i : Int)), some (.int ((i / 4 : Nat) : Int)), some (.int ((i % 4 : Nat) : Int)), some (.int (K17.lackP i k : Int)), o, none] ∧ Ex H1 G) (fun G e => ⟨none, rfl, e⟩) (fun k σ G hk hp => ?_) (fun σ G hp => ?_)
    · obtain ⟨o, rfl, e2⟩ := hp
      refine s_asg (ev_is (w := V.int (K17.lackP i (k + 1) : Int)) (ev_op (ev_op ev_c (ev_var rfl) (rv_I (C := CMul) (.inl ⟨by decide, by decide⟩))) (ev_intb (ev_op (ev_op (ev_var rfl) (ev_var rfl) (rv_eq rfl)) (ev_op (ev_var rfl) ev_c (rv_eq rfl)) (rv_ne rfl))) rv_I0) ?_) fun G2 e3 => ⟨_, rfl, e2.trans e3⟩
      have e0 : decide (V.int ((i % 4 : Nat) : Int) = V.int (0 : Int)) = (i % 4 == 0) := vdec (i % 4) 0
      rw [vdec, e0, bdec, lackP_succ]
      show V.int (2 * (K17.lackP i k : Int) + (if (!((k == i / 4) == (i % 4 == 0))) = true then 1 else 0)) = _
      have e4 : (!((k == i / 4) == (i % 4 == 0))) = ((k == i / 4) != (i % 4 == 0)) := rfl
      rw [e4]
      cases ((k == i / 4) != (i % 4 == 0)) <;> (congr 1)
    · obtain ⟨o, rfl, e2⟩ := hp
      have hlen : (ps.map V.ref).length = 3 := by rw [List.length_map, hFl]; rfl
      refine q_forT ev_c (hF _) (fun k σ G => ∃ o r, σ = [some (.int (i : Int)), some (.int ((i / 4 : Nat) : Int)), some (.int ((i % 4 : Nat) : Int)), some (.int (K17.lackQ i k : Int)), o, r] ∧ Ex H1 G) (fun G2 e => ⟨o, none, rfl, e2.trans e⟩) (fun _ _ G _ _ => hF G) (fun k x σ G hx hp => ?_) (fun σ G hp => ?_)
      · obtain ⟨o, r0, rfl, e3⟩ := hp
        have hk : k < 3 := by rw [← hlen]; exact (List.getElem?_eq_some_iff.mp hx).1
        obtain ⟨r, hr1, hr2⟩ := fact_row k hk
        obtain ⟨p, hp, hs⟩ := hFr k r hr1
        have ex : x = .ref p := by
          rw [List.getElem?_map, hp] at hx
          exact (Option.some.inj hx).symm
        subst ex
        have h6 : i / 4 < 6 := by omega
        refine s_asg (ev_is (w := V.int (K17.lackQ i (k + 1) : Int)) (ev_op (ev_op ev_c (ev_var rfl) (rv_I (C := CMul) (.inl ⟨by decide, by decide⟩))) (ev_call (ea_cons (ev_op (ev_var rfl) (ev_var rfl) (rv_ixT (hs _) (atI_nat (ni_at (hr2 (i / 4) h6).1)))) (ea_cons (ev_var rfl) ea_nil)) fun H2 e4 Q2 q2 E2 => ⟨_, _, rfl, (hr2 (i / 4) h6).2, Nat.mod_lt _ (by decide), q2⟩) rv_I0) ?_) fun G2 e4 => ⟨_, _, rfl, e3.trans e4⟩
        rw [lackQ_succ i k r hr1]
        congr 1
      · obtain ⟨o, r0, rfl, e3⟩ := hp
        rw [hlen]
        exact s_ret (ev_var rfl) fun G2 e4 => q G2 ((e1.trans e3).trans e4)
def spLackIn (K : PySem.W.Frag) : Sp := fun vs H Q _ => ∃ (a : Addr) (n : Nat), vs = [.ref a] ∧ SqT K H a (ni (K17.lotOf n)) ∧ RetV (.int (K17.lackN n : Int)) H Q
theorem lotOf_lt {n i x : Nat} (h : (K17.lotOf n)[i]? = some x) : x < 24 := (K17.mem_lotOf.mp (List.mem_of_getElem? h)).1
theorem lotOf_len24 (n : Nat) : (K17.lotOf n).length ≤ 24 := by
  unfold K17.lotOf
  have := List.length_filter_le (fun x => n.testBit x) (List.range 24)
  rw [List.length_range] at this
  exact this
theorem ok_lack_in (F : Fun K "lack_in" "lack_in" s_lack_in f fd) (C1 : Cal P w K mg base CX0 2 "lack_of" ["lamp"] spLackOf) : FnOk P w K mg base CX0 3 f fd ["lot"] (spLackIn K) := by
  obtain ⟨f1, fd1, G_lack_of, m_lack_of, k_lack_of, b_lack_of⟩ := C1.ex
  refine F.ok sc_lack_in (fun vs H Q E h => ?_) (fun cdv A outer s H vs Q E hr h => ?_)
  · obtain ⟨a, n, rfl, _⟩ := h; rfl
  · obtain ⟨a, n, rfl, hs, q⟩ := h
    refine ⟨_, (pss_cons (ps_set (i := 1) sc_lack_in.nd rfl (Or.inl rfl) pe_int)
      (pss_cons (ps_for PassesOwn.never rfl (pi_tup (pv 0)) (pg_name (i := 2) sc_lack_in.nd rfl (Or.inl rfl)) (pss_one (ps_set (i := 1) sc_lack_in.nd rfl (Or.inl rfl) (pe_op op_xor (pv 1) (pe_call G_lack_of (hr.mono (by decide)) (by rfl) m_lack_of k_lack_of b_lack_of .nil pass0 (pa_cons (pv 2) pa_nil))))))
      (pss_one (ps_ret (pv 1))))), ?_⟩
    refine q_asg ev_c fun H1 e1 => ?_
    refine q_forT (ev_var rfl) (ex_t e1 hs) (fun k σ G => ∃ o, σ = [some (.ref a), some (.int (((K17.lotOf n).take k).foldl (fun a i => a ^^^ K17.lackL i) 0 : Nat)), o] ∧ Ex H1 G) (fun G e => ⟨none, rfl, e⟩) (fun _ _ G _ ⟨_, _, e2⟩ => ex_t (e1.trans e2) hs) (fun k x σ G hx hp => ?_) (fun σ G hp => ?_)
    · obtain ⟨o, rfl, e2⟩ := hp
      unfold ni at hx
      rw [List.getElem?_map] at hx
      obtain ⟨y, hy, rfl⟩ := Option.map_eq_some_iff.mp hx
      refine s_asg (ev_is (ev_op (ev_var rfl) (ev_call (ea_cons (ev_var rfl) ea_nil) fun H2 e4 Q2 q2 E2 => ⟨_, rfl, lotOf_lt hy, q2⟩) rv_I0) (by rw [bitXor_nat])) fun G2 e3 => ⟨some (.int (y : Int)), ?_, e2.trans e3⟩
      rw [List.take_add_one, hy, List.foldl_append]
      rfl
    · obtain ⟨o, rfl, e2⟩ := hp
      rw [ni_len, List.take_length, K17.lackN_fold]
      exact s_ret (ev_var rfl) fun G2 e4 => q G2 ((e1.trans e2).trans e4)
/-! ### sums of lots -/
theorem asc_ext : ∀ {l m : List Int}, l.Pairwise (· < ·) → m.Pairwise (· < ·) → (∀ k, k ∈ l ↔ k ∈ m) → l = m
  | [], [], _, _, _ => rfl
  | [], b :: m, _, _, h => absurd ((h b).mpr List.mem_cons_self) List.not_mem_nil
  | a :: l, [], _, _, h => absurd ((h a).mp List.mem_cons_self) List.not_mem_nil
  | a :: l, b :: m, h1, h2, h => by
    rw [List.pairwise_cons] at h1 h2
    have hab : a = b := by
      rcases List.mem_cons.mp ((h a).mp List.mem_cons_self) with q | q
      · exact q
      · rcases List.mem_cons.mp ((h b).mpr List.mem_cons_self) with q2 | q2
        · exact q2.symm
        · have := h1.1 b q2
          have := h2.1 a q
          omega
    subst hab
    have := asc_ext h1.2 h2.2 fun k => by
      constructor
      · intro hk
        rcases List.mem_cons.mp ((h k).mp (List.mem_cons_of_mem _ hk)) with q | q
        · subst q
          have := h1.1 k hk
          omega
        · exact q
      · intro hk
        rcases List.mem_cons.mp ((h k).mpr (List.mem_cons_of_mem _ hk)) with q | q
        · subst q
          have := h2.1 k hk
          omega
        · exact q
    rw [this]
theorem lotOf_up (n : Nat) : ((K17.lotOf n).map fun (k : Nat) => (k : Int)).Pairwise (· < ·) := by
  unfold K17.lotOf
  refine List.Pairwise.map _ (fun a b (h : a < b) => by show (a : Int) < (b : Int); omega) (List.Pairwise.filter _ List.pairwise_lt_range)
def spSummed (K : PySem.W.Frag) : Sp := fun vs H Q _ => ∃ (p q : Addr) (a b : Nat), vs = [.ref p, .ref q] ∧ SqT K H p (ni (K17.lotOf a)) ∧ SqT K H q (ni (K17.lotOf b)) ∧ Ret (IsT K (ni (K17.lotOf (a ^^^ b)))) H Q
theorem sum_mem (a b : Nat) (k : Int) : k ∈ ((K17.lotOf (a ^^^ b)).map fun (n : Nat) => (n : Int)) ↔ k ∈ (((K17.lotOf a).filter (fun i => !decide (i ∈ K17.lotOf b)) ++ (K17.lotOf b).filter (fun i => !decide (i ∈ K17.lotOf a))).map fun (n : Nat) => (n : Int)) := by
  rw [List.mem_map, List.mem_map]
  have key : ∀ n, n ∈ K17.lotOf (a ^^^ b) ↔ n ∈ ((K17.lotOf a).filter (fun i => !decide (i ∈ K17.lotOf b)) ++ (K17.lotOf b).filter (fun i => !decide (i ∈ K17.lotOf a))) := fun n => by
    rw [List.mem_append, List.mem_filter, List.mem_filter, K17.mem_lotOf, Nat.testBit_xor]
    have ha := @K17.mem_lotOf a n
    have hb := @K17.mem_lotOf b n
    by_cases hn : n < 24
    · cases h1 : a.testBit n <;> cases h2 : b.testBit n <;> simp [ha, hb, h1, h2, hn]
    · simp [ha, hb, hn]
  constructor
  · rintro ⟨n, hn, rfl⟩; exact ⟨n, (key n).mp hn, rfl⟩
  · rintro ⟨n, hn, rfl⟩; exact ⟨n, (key n).mpr hn, rfl⟩
theorem el_out {σ : L2.St} {H : Hp} {a b : Addr} {l m : List Nat} {i k j : Nat} (ha : SqT K H a (ni l)) (hb : SqT K H b (ni m)) (h1 : σ[i]? = some (some (.ref a))) (h2 : (wipe σ [j])[k]? = some (some (.ref b))) (hl : l.length ≤ 40000) (hj : j < σ.length) (hjk : j ≠ k) :
    EvL (tLc (iTup K (tVar i)) (gName j) (tTest (tOp (rIn K true) (tVar j) (tVar k))) (tVar j) [j]) σ H (ni (l.filter fun x => !decide (x ∈ m))) := by
  have hj2 : j < (wipe σ [j]).length := by rw [wipe_length]; exact hj
  refine el_T (l := l) (em := fun (n : Nat) => V.int (n : Int)) (fun x => !decide (x ∈ m)) (fun n => V.int (n : Int)) (ev_var h1) ha hl (fun x => ?_) (fun x H1 e hx => et_test (ev_niT (ev_var ?_) (ev_var ?_) (ex_t e hb))) (fun x H1 e hx _ => ev_var ?_)
  · show ((σ.set j none).set j (some x)).set j none = σ.set j none
    rw [List.set_set, List.set_set]
  · rw [List.getElem?_set_self hj2]
  · rw [List.getElem?_set_ne hjk]; exact h2
  · rw [List.getElem?_set_self hj2]
theorem ok_summed (F : Fun K "summed" "summed" s_summed f fd) (C1 : Cal P w K mg base CX0 1 "set_of" ["things"] (spSetOf K)) : FnOk P w K mg base CX0 2 f fd ["one", "other"] (spSummed K) := by
  obtain ⟨f1, fd1, G_set_of, m_set_of, k_set_of, b_set_of⟩ := C1.ex
  refine F.ok sc_summed (fun vs H Q E h => ?_) (fun cdv A outer s H vs Q E hr h => ?_)
  · obtain ⟨p, q, a, b, rfl, _⟩ := h; rfl
  · obtain ⟨p, q, a, b, rfl, hp, hq, k⟩ := h
    refine ⟨_, (pss_one (ps_ret (pe_call G_set_of (hr.mono (by decide)) (by rfl) m_set_of k_set_of b_set_of .nil pass0 (pa_cons (pe_op op_cat (pe_lc (own := [("lamp", 2)]) (g := gName 2) rfl sc_summed.nd (pi_tup (pv 0)) (blkOk_by (N := N_summed) (sc := defScope s_summed) (by decide +kernel)) (fun _ _ _ _ _ => (pg_name (i := 2) sc_summed.nd rfl (Or.inl rfl))) (fun _ _ _ _ _ => (pts_one (pt_cmpR (kop_notIn_seq (K := K) rfl) (pv 2) (pv 1) (by rfl)))) (fun _ _ _ _ _ => (pv 2))) (pe_lc (own := [("lamp", 2)]) (g := gName 2) rfl sc_summed.nd (pi_tup (pv 1)) (blkOk_by (N := N_summed) (sc := defScope s_summed) (by decide +kernel)) (fun _ _ _ _ _ => (pg_name (i := 2) sc_summed.nd rfl (Or.inl rfl))) (fun _ _ _ _ _ => (pts_one (pt_cmpR (kop_notIn_seq (K := K) rfl) (pv 2) (pv 0) (by rfl)))) (fun _ _ _ _ _ => (pv 2)))) pa_nil)))), ?_⟩
    have l1 := el_out (K := K) (σ := start N_summed [V.ref p, V.ref q]) (i := 0) (k := 1) (j := 2) hp hq rfl rfl (Nat.le_trans (lotOf_len24 a) (by decide)) (by show 2 < 3; decide) (by decide)
    have l2 := el_out (K := K) (σ := start N_summed [V.ref p, V.ref q]) (i := 1) (k := 0) (j := 2) hq hp rfl rfl (Nat.le_trans (lotOf_len24 b) (by decide)) (by show 2 < 3; decide) (by decide)
    have b1 := Nat.le_trans (List.length_filter_le (fun i => !decide (i ∈ K17.lotOf b)) (K17.lotOf a)) (lotOf_len24 a)
    have b2 := Nat.le_trans (List.length_filter_le (fun i => !decide (i ∈ K17.lotOf a)) (K17.lotOf b)) (lotOf_len24 b)
    refine s_retP (ep_call (ea1 (ep_L (K := K) (el_cat l1 l2 (by rw [ni_len, ni_len]; omega))) mo_L) fun vs H1 e1 ⟨x, hx, d, hd, hs⟩ Q1 q1 => ?_) k
    subst hx hd
    rw [← ni_app, ni_eq] at hs
    refine ⟨d, _, rfl, hs, by rw [List.length_map, List.length_append]; omega, fun ms hup hmem => ?_⟩
    have em : ms = (K17.lotOf (a ^^^ b)).map fun (n : Nat) => (n : Int) := asc_ext hup (lotOf_up _) fun z => by rw [hmem z, sum_mem]
    subst em
    rw [← ni_eq]
    exact q1
def spOutside (K : PySem.W.Frag) : Sp := fun vs H Q _ => ∃ (p q : Addr) (a b : Nat), vs = [.ref p, .ref q] ∧ SqT K H p (ni (K17.lotOf a)) ∧ SqT K H q (ni (K17.lotOf b)) ∧ Ret (IsT K (ni (K17.lotOf (K17.outs a b)))) H Q
theorem ok_outside (F : Fun K "outside" "outside" s_outside f fd) (T : Txt K mg) : FnOk P w K mg base CX0 1 f fd ["lot", "gaps"] (spOutside K) := by
  refine F.ok sc_outside (fun vs H Q E h => ?_) (fun cdv A outer s H vs Q E hr h => ?_)
  · obtain ⟨p, q, a, b, rfl, _⟩ := h; rfl
  · obtain ⟨p, q, a, b, rfl, hp, hq, k⟩ := h
    refine ⟨_, (pss_one (ps_ret (pe_callTy call_tuple_of (by rfl) T.n_tuple (by decide +kernel) (pa_cons (pe_lc (own := [("lamp", 2)]) (g := gName 2) rfl sc_outside.nd (pi_tup (pv 0)) (blkOk_by (N := N_outside) (sc := defScope s_outside) (by decide +kernel)) (fun _ _ _ _ _ => (pg_name (i := 2) sc_outside.nd rfl (Or.inl rfl))) (fun _ _ _ _ _ => (pts_one (pt_cmpR (kop_notIn_seq (K := K) rfl) (pv 2) (pv 1) (by rfl)))) (fun _ _ _ _ _ => (pv 2))) pa_nil)))), ?_⟩
    have l1 := el_out (K := K) (σ := start N_outside [V.ref p, V.ref q]) (i := 0) (k := 1) (j := 2) hp hq rfl rfl (Nat.le_trans (lotOf_len24 a) (by decide)) (by show 2 < 3; decide) (by decide)
    rw [K17.lotOf_out] at l1
    exact s_retP (ep_U (eu_tuple l1)) k
/-! ### bits -/
def spIsOdd : Sp := fun vs H Q _ => ∃ n : Nat, vs = [.int (n : Int)] ∧ n < 4096 ∧ RetV (.bl (K17.oddb 12 n)) H Q
theorem ok_is_odd (F : Fun K "is_odd" "is_odd" s_is_odd f fd) : FnOk P w K mg base CX0 1 f fd ["number"] spIsOdd := by
  refine F.ok sc_is_odd (fun vs H Q E h => ?_) (fun cdv A outer s H vs Q E hr h => ?_)
  · obtain ⟨n, rfl, _⟩ := h; rfl
  · obtain ⟨n, rfl, hn, q⟩ := h
    refine ⟨_, (pss_cons (ps_par (i := 1) (j := 2) (by rfl) sc_is_odd.nd rfl rfl (by decide) rfl rfl (pa_cons pe_int (pa_cons (pv 0) pa_nil)) (by rfl))
      (pss_cons (ps_while PassesOwn.never (pt_cmpR op_gt (pv 2) pe_int (nomark _)) (pss_one (ps_par (i := 1) (j := 2) (by rfl) sc_is_odd.nd rfl rfl (by decide) rfl rfl (pa_cons (pe_op op_add (pv 1) (pe_op op_mod (pv 2) pe_int)) (pa_cons (pe_op op_fdiv (pv 2) pe_int) pa_nil)) (by rfl))))
      (pss_one (ps_ret (pe_cmpR op_eq (pe_op op_mod (pv 1) pe_int) pe_int (nomark _)))))), ?_⟩
    refine q_par (ea_of (ea_cons (ev_c (v := V.int ((0 : Nat) : Int))) (ea_cons (ev_var rfl) ea_nil))) fun us H1 e1 eu => ⟨_, _, eu, ?_⟩
    refine q_while (fun m σ G => ∃ j, σ = [some (.int (n : Int)), some (.int (K17.cnt j n : Int)), some (.int ((n / 2 ^ j : Nat) : Int))] ∧ m = n / 2 ^ j ∧ j ≤ 12 ∧ Ex H1 G) n ⟨0, by rw [Nat.pow_zero, Nat.div_one]; rfl, by rw [Nat.pow_zero, Nat.div_one], by decide, Ex.refl _⟩ fun m σ G hW => ?_
    obtain ⟨j, rfl, rfl, hj, e2⟩ := hW
    refine ⟨decide (0 < n / 2 ^ j), et_test (ev_is (ev_op (ev_var rfl) ev_c rv_I0) (by congr 1; exact decide_eq_decide.mpr (by omega))), fun hb G2 e3 => ?_, fun hb G2 e3 => ?_⟩
    · have hpos : 0 < n / 2 ^ j := of_decide_eq_true hb
      have hj12 : j < 12 := by
        refine Decidable.byContradiction fun z => ?_
        have : j = 12 := by omega
        subst this
        rw [Nat.div_eq_of_lt (by omega)] at hpos
        omega
      refine ⟨fun σ' G' => ∃ j', j' = j + 1 ∧ σ' = [some (.int (n : Int)), some (.int (K17.cnt j' n : Int)), some (.int ((n / 2 ^ j' : Nat) : Int))] ∧ Ex H1 G', fun σ' G' hN => ?_, ?_⟩
      · obtain ⟨j', rfl, rfl, e4⟩ := hN
        refine ⟨n / 2 ^ (j + 1), ?_, j + 1, rfl, rfl, hj12, e4⟩
        rw [Nat.pow_succ, ← Nat.div_div_eq_div_mul]
        omega
      · refine s_par (ea_of (ea_cons (ev_is (w := V.int (K17.cnt (j + 1) n : Int)) (ev_op (ev_var rfl) (ev_op (ev_var rfl) ev_c (rv_I (by decide))) rv_I0) (by congr 1)) (ea_cons (ev_is (w := V.int ((n / 2 ^ (j + 1) : Nat) : Int)) (ev_op (ev_var rfl) ev_c (rv_I (C := CDiv) ⟨by decide, by decide⟩)) ?_) ea_nil))) fun us H2 e4 eu => ⟨_, _, eu, j + 1, rfl, rfl, (e2.trans e3).trans e4⟩
        congr 1
        rw [Nat.pow_succ, ← Nat.div_div_eq_div_mul]
        rfl
    · have hz : n / 2 ^ j = 0 := by
        exact Nat.eq_zero_of_not_pos (of_decide_eq_false hb)
      have e5 : K17.cnt 12 n = K17.cnt j n := by
        have := K17.cnt_done hz (12 - j)
        rw [Nat.add_sub_cancel' hj] at this
        exact this
      rw [K17.cnt_odd, e5] at q
      refine s_ret (ev_is (ev_op (ev_op (ev_var rfl) ev_c (rv_I (by decide))) ev_c (rv_eq rfl)) ?_) fun G3 e4 => q G3 (((e1.trans e2).trans e3).trans e4)
      congr 1
      exact decide_eq_decide.mpr ⟨fun z => by have := V.int.inj z; omega, fun z => by congr 1; omega⟩
def spHigh : Sp := fun vs H Q _ => ∃ n : Nat, vs = [.int (n : Int)] ∧ n ≠ 0 ∧ RetV (.int (K17.hb n : Int)) H Q
theorem ok_highest_bit (F : Fun K "highest_bit" "highest_bit" s_highest_bit f fd) : FnOk P w K mg base CX0 1 f fd ["number"] spHigh := by
  refine F.ok sc_highest_bit (fun vs H Q E h => ?_) (fun cdv A outer s H vs Q E hr h => ?_)
  · obtain ⟨n, rfl, _⟩ := h; rfl
  · obtain ⟨n, rfl, hn, q⟩ := h
    refine ⟨_, (pss_cons (ps_set (i := 1) sc_highest_bit.nd rfl (Or.inl rfl) pe_int)
      (pss_cons (ps_while PassesOwn.never (pt_cmpR op_le (pe_op op_mul pe_int (pv 1)) (pv 0) (nomark _)) (pss_one (ps_set (i := 1) sc_highest_bit.nd rfl (Or.inl rfl) (pe_op op_mul pe_int (pv 1)))))
      (pss_one (ps_ret (pv 1))))), ?_⟩
    refine q_asg (ev_c (v := V.int (1 : Int))) fun H1 e1 => ?_
    refine q_while (fun m σ G => ∃ j, σ = [some (.int (n : Int)), some (.int ((2 ^ j : Nat) : Int))] ∧ m = n - 2 ^ j ∧ 2 ^ j ≤ n ∧ Ex H1 G) (n - 2 ^ 0) ⟨0, rfl, rfl, by rw [Nat.pow_zero]; omega, Ex.refl _⟩ fun m σ G hW => ?_
    obtain ⟨j, rfl, rfl, hj, e2⟩ := hW
    have hp2 := Nat.two_pow_pos j
    refine ⟨decide (2 * 2 ^ j ≤ n), et_test (ev_is (ev_op (ev_op ev_c (ev_var rfl) (rv_I (C := CMul) (.inl ⟨by decide, by decide⟩))) (ev_var rfl) rv_I0) (by congr 1; exact decide_eq_decide.mpr (by omega))), fun hb G2 e3 => ?_, fun hb G2 e3 => ?_⟩
    · have hle : 2 * 2 ^ j ≤ n := of_decide_eq_true hb
      refine ⟨fun σ' G' => σ' = [some (.int (n : Int)), some (.int ((2 ^ (j + 1) : Nat) : Int))] ∧ Ex H1 G', fun σ' G' hN => ⟨n - 2 ^ (j + 1), ?_, j + 1, hN.1, rfl, ?_, hN.2⟩, ?_⟩
      · rw [Nat.pow_succ]; omega
      · rw [Nat.pow_succ]; omega
      · refine s_asg (ev_is (w := V.int ((2 ^ (j + 1) : Nat) : Int)) (ev_op ev_c (ev_var rfl) (rv_I (C := CMul) (.inl ⟨by decide, by decide⟩))) ?_) fun G3 e4 => ⟨rfl, (e2.trans e3).trans e4⟩
        congr 1
        rw [Nat.pow_succ]
        omega
    · have hlt : ¬ 2 * 2 ^ j ≤ n := of_decide_eq_false hb
      have e5 : K17.hb n = 2 ^ j := by
        unfold K17.hb
        congr 1
        refine (Nat.log2_eq_iff hn).mpr ⟨hj, ?_⟩
        rw [Nat.pow_succ]
        omega
      rw [e5] at q
      exact s_ret (ev_var rfl) fun G3 e4 => q G3 (((e1.trans e2).trans e3).trans e4)
end
end KD
set_option Elab.async false
set_option linter.all false
set_option maxRecDepth 100000
set_option maxHeartbeats 4000000
/-! The walk: rows of gaps. -/
namespace KD
open PySem PySem.Spec PyProof.Rows L2 Evl KW KR KT
section
variable {P : Program} {w : World} {K : PySem.W.Frag} {mg : Str → Option Value} {base : Heap} {f : Addr} {fd : FuncData}
theorem ep_calln {σ : L2.St} {H : Hp} {P : VP} {sp : Sp} {E : XK} {tr : TA} {Pa : List V → Hp → Prop} (h : EvAP tr σ H Pa) (hr : ∀ vs H1, Ex H H1 → Pa vs H1 → ∀ Q : VK, Ret P H1 Q → sp vs H1 Q E) : EvP (tCall sp ([] : List V) E tr) σ H P :=
  ep_call h fun vs H1 e hv Q q => by rw [List.append_nil]; exact hr vs H1 e hv Q q
theorem ep_tup2 {σ : L2.St} {H : Hp} {P1 P2 : VP} {ta tb : TE} (h1 : EvP ta σ H P1) (m1 : Mo P1) (h2 : EvP tb σ H P2) (m2 : Mo P2) : EvP (tTup (tCons ta (tCons tb tNil))) σ H (fun v H1 => ∃ a xs, v = .ref a ∧ SqT K H1 a xs ∧ xs.length = 2 ∧ ∃ x y, xs = [x, y] ∧ P1 x H1 ∧ P2 y H1) := fun H1 e Q q =>
  h1 H1 e _ fun x H2 e2 hx => h2 H2 (e.trans e2) _ fun y H3 e3 hy => ⟨(by show 2 ≤ sizeLine; decide), fun p hp => q _ _ ((e2.trans e3).trans (Ex.new hp)) ⟨p, [x, y], rfl, st_of upd_same, rfl, x, y, rfl, m1 _ _ _ (e3.trans (Ex.new hp)) hx, m2 _ _ _ (Ex.new hp) hy⟩⟩
def IsRow (K : PySem.W.Frag) (r : K17.Row) : VP := fun v H => ∃ p m, v = .ref p ∧ SqT K H p [.int (r.1 : Int), .int (r.2.1 : Int), .ref m] ∧ SqT K H m (ni (K17.lotOf r.2.2))
def RowsIn (K : PySem.W.Frag) (rows : List K17.Row) (ps : List V) (H : Hp) : Prop := ps.length = rows.length ∧ ∀ (i : Nat) (r : K17.Row), rows[i]? = some r → ∃ x, ps[i]? = some x ∧ IsRow K r x H
def IsRows (K : PySem.W.Frag) (rows : List K17.Row) : VP := fun v H => ∃ a ps, v = .ref a ∧ SqL K H a ps ∧ RowsIn K rows ps H
theorem mo_row {r : K17.Row} : Mo (IsRow K r) := fun _ _ _ e ⟨p, m, h1, h2, h3⟩ => ⟨p, m, h1, ex_t e h2, ex_t e h3⟩
theorem mo_rin {rows : List K17.Row} {ps : List V} {H H' : Hp} (e : Ex H H') (h : RowsIn K rows ps H) : RowsIn K rows ps H' := ⟨h.1, fun i r hr => by
  obtain ⟨x, h1, h2⟩ := h.2 i r hr
  exact ⟨x, h1, mo_row _ _ _ e h2⟩⟩
theorem mo_rows {rows : List K17.Row} : Mo (IsRows K rows) := fun _ _ _ e ⟨a, ps, h1, h2, h3⟩ => ⟨a, ps, h1, ex_l e h2, mo_rin e h3⟩
theorem sqT_upd {H : Hp} {o p : Addr} {xs ys : List V} {u : HO} (h : SqT K H p xs) (ho : H o = some (.lst ys)) : SqT K (upd H o u) p xs := by
  rcases h with (h | ⟨z, h⟩) | h
  · refine .inl (.inl ?_)
    rw [upd_ne (ne_of h ho (fun z => nomatch z))]; exact h
  · refine .inl (.inr ⟨z, ?_⟩)
    rw [upd_ne (ne_of h ho (fun z => nomatch z))]; exact h
  · exact .inr h
theorem rin_upd {H : Hp} {o : Addr} {ys : List V} {u : HO} {rows : List K17.Row} {ps : List V} (h : RowsIn K rows ps H) (ho : H o = some (.lst ys)) : RowsIn K rows ps (upd H o u) := ⟨h.1, fun i r hr => by
  obtain ⟨x, h1, p, m, h2, h3, h4⟩ := h.2 i r hr
  exact ⟨x, h1, p, m, h2, sqT_upd h3 ho, sqT_upd h4 ho⟩⟩
theorem rin_snoc {H : Hp} {rows : List K17.Row} {ps : List V} {r : K17.Row} {x : V} (h : RowsIn K rows ps H) (hx : IsRow K r x H) : RowsIn K (rows ++ [r]) (ps ++ [x]) H := by
  refine ⟨by rw [List.length_append, List.length_append, h.1]; rfl, fun i q hq => ?_⟩
  by_cases hi : i < rows.length
  · rw [List.getElem?_append_left hi] at hq
    obtain ⟨y, h1, h2⟩ := h.2 i q hq
    exact ⟨y, by rw [List.getElem?_append_left (by rw [h.1]; exact hi)]; exact h1, h2⟩
  · have e : i = rows.length := by
      have := (List.getElem?_eq_some_iff.mp hq).1
      rw [List.length_append] at this
      simp at this
      omega
    subst e
    rw [List.getElem?_append_right (Nat.le_refl _), Nat.sub_self] at hq
    have eq : r = q := Option.some.inj hq
    subst eq
    exact ⟨x, by rw [← h.1, List.getElem?_append_right (Nat.le_refl _), Nat.sub_self]; rfl, hx⟩
/-- what brought_down hands back -/
def IsPair (K : PySem.W.Frag) (st : Nat × Nat) : VP := fun v H => ∃ t m, v = .ref t ∧ SqT K H t [.int (st.1 : Int), .ref m] ∧ SqT K H m (ni (K17.lotOf st.2))
def spDown (K : PySem.W.Frag) : Sp := fun vs H Q _ => ∃ (v : V) (p : Addr) (rows : List K17.Row) (l m : Nat), vs = [v, .int (l : Int), .ref p] ∧ IsRows K rows v H ∧ SqT K H p (ni (K17.lotOf m)) ∧ Ret (IsPair K (K17.down rows (l, m))) H Q
theorem vne (a : Nat) : (!decide (V.int (a : Int) = V.int (0 : Int))) = decide (a ≠ 0) := by
  by_cases h : a = 0
  · subst h; rfl
  · have : ¬ V.int (a : Int) = V.int (0 : Int) := fun z => h (by have := V.int.inj z; omega)
    simp [h, this]
theorem ok_brought_down (F : Fun K "brought_down" "brought_down" s_brought_down f fd) (C1 : Cal P w K mg base CX0 2 "summed" ["one", "other"] (spSummed K)) : FnOk P w K mg base CX0 3 f fd ["rows", "lack", "lot"] (spDown K) := by
  obtain ⟨f1, fd1, G_summed, m_summed, k_summed, b_summed⟩ := C1.ex
  refine F.ok sc_brought_down (fun vs H Q E h => ?_) (fun cdv A outer s H vs Q E hr h => ?_)
  · obtain ⟨v, p, rows, l, m, rfl, _⟩ := h; rfl
  · obtain ⟨v, p, rows, l, m, rfl, ⟨a, ps, rfl, hl, hrows⟩, hp, q⟩ := h
    refine ⟨_, (pss_cons (ps_for PassesOwn.never rfl (pi_list (pv 0)) (pg_tup (by rfl) (pgs_cons (pg_name (i := 3) sc_brought_down.nd rfl (Or.inl rfl)) (pgs_cons (pg_name (i := 4) sc_brought_down.nd rfl (Or.inl rfl)) (pgs_cons (pg_name (i := 5) sc_brought_down.nd rfl (Or.inl rfl)) pgs_nil)))) (pss_one (ps_if (pt_cmpR op_ne (pe_op op_and (pv 1) (pv 3)) pe_int (nomark _)) (pss_one (ps_par (i := 1) (j := 2) (by rfl) sc_brought_down.nd rfl rfl (by decide) rfl rfl (pa_cons (pe_op op_xor (pv 1) (pv 4)) (pa_cons (pe_call G_summed (hr.mono (by decide)) (by rfl) m_summed k_summed b_summed .nil pass0 (pa_cons (pv 2) (pa_cons (pv 5) pa_nil))) pa_nil)) (by rfl))) pss_nil)))
      (pss_one (ps_ret (pe_tup (pa_cons (pv 1) (pa_cons (pv 2) pa_nil)))))), ?_⟩
    refine q_forL (ev_var rfl) hl (fun k σ G => ∃ p b o s, σ = [some (.ref a), some (.int ((K17.down (rows.take k) (l, m)).1 : Int)), some (.ref p), b, o, s] ∧ SqT K G p (ni (K17.lotOf (K17.down (rows.take k) (l, m)).2)) ∧ Ex H G) (fun G e => ⟨p, none, none, none, rfl, ex_t e hp, e⟩) (fun _ _ G _ ⟨_, _, _, _, _, _, e⟩ => ex_l e hl) (fun k x σ G hx hP => ?_) (fun σ G hP => ?_)
    · obtain ⟨p1, b, o, s1, rfl, hp1, e1⟩ := hP
      have hk : k < rows.length := by rw [← hrows.1]; exact (List.getElem?_eq_some_iff.mp hx).1
      obtain ⟨x', hx', p2, m2, rfl, h2, h3⟩ := hrows.2 k rows[k] (List.getElem?_eq_getElem hk)
      obtain rfl : x = .ref p2 := Option.some.inj (hx.symm.trans hx')
      have e0 : K17.down (rows.take (k + 1)) (l, m) = K17.downStep (K17.down (rows.take k) (l, m)) rows[k] := by
        unfold K17.down
        rw [List.take_add_one, List.getElem?_eq_getElem hk, List.foldl_append]
        rfl
      refine ⟨p2, _, rfl, ex_t e1 h2, rfl, _, _, rfl, _, _, rfl, _, _, rfl, rfl, ?_⟩
      generalize K17.down (rows.take k) (l, m) = st at *
      refine s_when (b := decide (st.1 &&& rows[k].1 ≠ 0)) (et_test (ev_is (ev_op (ev_op (ev_var rfl) (ev_var rfl) rv_I0) ev_c (rv_ne rfl)) (by rw [bitAnd_nat, vne]))) (fun hb H1 e2 => ?_) (fun hb H1 e2 => ?_)
      · refine s_par (ea2 (ep_ev (ev_is (w := V.int ((st.1 ^^^ rows[k].2.1 : Nat) : Int)) (ev_op (ev_var rfl) (ev_var rfl) rv_I0) (by rw [bitXor_nat]))) mo_is (ep_calln (ea_of (ea_cons (ev_var rfl) (ea_cons (ev_var rfl) ea_nil))) fun us H2 e3 eu Q2 q2 => ⟨p1, m2, st.2, rows[k].2.2, eu, ex_t (e2.trans e3) hp1, ex_t ((e1.trans e2).trans e3) h3, q2⟩)) fun us H2 e3 hu => ?_
        obtain ⟨x, y, rfl, rfl, d, rfl, hd⟩ := hu
        refine ⟨_, _, rfl, d, some (.int (rows[k].1 : Int)), some (.int (rows[k].2.1 : Int)), some (.ref m2), ?_, ?_, (e1.trans e2).trans e3⟩
        · rw [e0]
          unfold K17.downStep
          rw [if_pos (of_decide_eq_true hb)]
          rfl
        · rw [e0]
          unfold K17.downStep
          rw [if_pos (of_decide_eq_true hb)]
          exact hd
      · refine ⟨p1, some (.int (rows[k].1 : Int)), some (.int (rows[k].2.1 : Int)), some (.ref m2), ?_, ?_, e1.trans e2⟩
        · rw [e0]
          unfold K17.downStep
          rw [if_neg (of_decide_eq_false hb)]
          rfl
        · rw [e0]
          unfold K17.downStep
          rw [if_neg (of_decide_eq_false hb)]
          exact ex_t e2 hp1
    · obtain ⟨p1, b, o, s1, rfl, hp1, e1⟩ := hP
      rw [hrows.1, List.take_length] at hp1 ⊢
      exact s_retP (ep_imp (ep_U (K := K) (eu_tup (ea_cons (ev_var rfl) (ea_cons (ev_var rfl) ea_nil)) (by show 2 ≤ 100000; decide))) fun v H2 e2 ⟨t, hv, ht⟩ => ⟨t, p1, hv, ht, ex_t e2 hp1⟩) fun v H2 e2 hv => q v H2 (e1.trans e2) hv
theorem lot_pow : ∀ i, i < 24 → K17.lotOf (2 ^ i) = [i] := by decide +kernel
theorem rows_len : ∀ (ls : List Nat) (rows : List K17.Row), (ls.foldl K17.rowsStep rows).length ≤ rows.length + ls.length
  | [], _ => Nat.le_refl _
  | i :: ls, rows => by
    refine Nat.le_trans (rows_len ls (K17.rowsStep rows i)) ?_
    have : (K17.rowsStep rows i).length ≤ rows.length + 1 := by
      unfold K17.rowsStep
      split
      · rw [List.length_append]; exact Nat.le_refl _
      · omega
    rw [List.length_cons]
    omega
def spRowsOf (K : PySem.W.Frag) : Sp := fun vs H Q _ => ∃ (p : Addr) (g : Nat), vs = [.ref p] ∧ SqT K H p (ni (K17.lotOf g)) ∧ Ret (IsRows K (K17.rowsOf g)) H Q
theorem ok_rows_of_gaps (F : Fun K "rows_of_gaps" "rows_of_gaps" s_rows_of_gaps f fd) (C1 : Cal P w K mg base CX0 3 "brought_down" ["rows", "lack", "lot"] (spDown K)) (C2 : Cal P w K mg base CX0 2 "lack_of" ["lamp"] spLackOf) (C3 : Cal P w K mg base CX0 1 "highest_bit" ["number"] spHigh) :
    FnOk P w K mg base CX0 4 f fd ["gaps"] (spRowsOf K) := by
  obtain ⟨f1, fd1, G_brought_down, m_brought_down, k_brought_down, b_brought_down⟩ := C1.ex
  obtain ⟨f2, fd2, G_lack_of, m_lack_of, k_lack_of, b_lack_of⟩ := C2.ex
  obtain ⟨f3, fd3, G_highest_bit, m_highest_bit, k_highest_bit, b_highest_bit⟩ := C3.ex
  refine F.ok sc_rows_of_gaps (fun vs H Q E h => ?_) (fun cdv A outer s H vs Q E hr h => ?_)
  · obtain ⟨p, g, rfl, _⟩ := h; rfl
  · obtain ⟨p, g, rfl, hp, q⟩ := h
    refine ⟨_, (pss_cons (ps_set (i := 1) sc_rows_of_gaps.nd rfl (Or.inl rfl) (pe_lst pa_nil))
      (pss_cons (ps_for PassesOwn.never rfl (pi_tup (pv 0)) (pg_name (i := 2) sc_rows_of_gaps.nd rfl (Or.inl rfl)) (pss_cons (ps_asg (pe_call G_brought_down (hr.mono (by decide)) (by rfl) m_brought_down k_brought_down b_brought_down .nil pass0 (pa_cons (pv 1) (pa_cons (pe_call G_lack_of (hr.mono (by decide)) (by rfl) m_lack_of k_lack_of b_lack_of .nil pass0 (pa_cons (pv 2) pa_nil)) (pa_cons (pe_tup (pa_cons (pv 2) pa_nil)) pa_nil)))) (pg_tup (by rfl) (pgs_cons (pg_name (i := 3) sc_rows_of_gaps.nd rfl (Or.inl rfl)) (pgs_cons (pg_name (i := 4) sc_rows_of_gaps.nd rfl (Or.inl rfl)) pgs_nil))))
      (pss_one (ps_if (pt_cmpR op_ne (pv 3) pe_int (nomark _)) (pss_one (ps_expr (pe_bm PySem.F.plainAttrs_list PySem.F.slot_list_append PySem.F.type_list_append mt_append (pv 1) (pa_cons (pe_tup (pa_cons (pe_call G_highest_bit (hr.mono (by decide)) (by rfl) m_highest_bit k_highest_bit b_highest_bit .nil pass0 (pa_cons (pv 3) pa_nil)) (pa_cons (pv 3) (pa_cons (pv 4) pa_nil)))) pa_nil)))) pss_nil))))
      (pss_one (ps_ret (pv 1))))), ?_⟩
    refine q_asgL (el_lst ea_nil (Nat.zero_le _)) fun o H1 no e1 ho => ?_
    refine q_forT (ev_var rfl) (ex_t e1 hp) (fun k σ G => ∃ x l s ps, σ = [some (.ref p), some (.ref o), x, l, s] ∧ Ex H G ∧ G o = some (.lst ps) ∧ RowsIn K (((K17.lotOf g).take k).foldl K17.rowsStep []) ps G) (fun G e => ⟨none, none, none, [], rfl, e1.trans e, e o _ ho, rfl, fun i r hr => by simp at hr⟩) (fun _ _ G _ ⟨_, _, _, _, _, e, _⟩ => ex_t e hp) (fun k x σ G hx hP => ?_) (fun σ G hP => ?_)
    · obtain ⟨x0, l0, s0, ps, rfl, e2, hG, hrows⟩ := hP
      unfold ni at hx
      rw [List.getElem?_map] at hx
      obtain ⟨y, hy, rfl⟩ := Option.map_eq_some_iff.mp hx
      have hy24 := lotOf_lt hy
      have e0 : ((K17.lotOf g).take (k + 1)).foldl K17.rowsStep [] = K17.rowsStep (((K17.lotOf g).take k).foldl K17.rowsStep []) y := by
        rw [List.take_add_one, hy, List.foldl_append]
        rfl
      rw [e0]
      have hlen : ps.length ≤ 24 := by
        have q1 := rows_len ((K17.lotOf g).take k) []
        have q2 := List.length_take_le k (K17.lotOf g)
        have q3 := lotOf_len24 g
        have q4 : ((K17.lotOf g).take k).length ≤ (K17.lotOf g).length := by rw [List.length_take]; omega
        rw [hrows.1]
        have q5 : ([] : List K17.Row).length = 0 := rfl
        omega
      generalize ((K17.lotOf g).take k).foldl K17.rowsStep [] = rows at *
      refine q_tup (K := K) (Pt := fun xs H1 => ∃ m, xs = [.int ((K17.down rows (K17.lackL y, 2 ^ y)).1 : Int), .ref m] ∧ SqT K H1 m (ni (K17.lotOf (K17.down rows (K17.lackL y, 2 ^ y)).2))) (ep_imp (ep_calln (P := IsPair K (K17.down rows (K17.lackL y, 2 ^ y))) (ea3 (ep_ev (ev_var rfl)) mo_is (ep_ev (ev_call (ea_cons (ev_var rfl) ea_nil) fun H2 e4 Q2 q2 E2 => ⟨y, rfl, hy24, q2⟩)) mo_is (ep_U (K := K) (eu_tup (ea_cons (ev_var rfl) ea_nil) (by show 1 ≤ 100000; decide)))) fun us H2 e3 hu Q2 q2 => ?_) fun v H2 e3 ⟨t, m, hv, h1, h2⟩ => ⟨t, _, hv, h1, rfl, m, rfl, h2⟩) fun xs H2 e3 _ hxs => ?_
      · obtain ⟨x, y1, z, rfl, rfl, rfl, t, rfl, ht⟩ := hu
        refine ⟨_, t, rows, K17.lackL y, 2 ^ y, rfl, ⟨o, ps, rfl, .inl (.inl (e3 o _ hG)), mo_rin e3 hrows⟩, ?_, q2⟩
        rw [lot_pow y hy24]
        exact ht
      · obtain ⟨m, rfl, hm⟩ := hxs
        have hd := K17.down rows (K17.lackL y, 2 ^ y)
        refine ⟨_, _, rfl, _, _, rfl, rfl, ?_⟩
        have hG2 : H2 o = some (.lst ps) := e3 o _ hG
        refine s_when (b := decide ((K17.down rows (K17.lackL y, 2 ^ y)).1 ≠ 0)) (et_test (ev_is (ev_op (ev_var rfl) ev_c (rv_ne rfl)) (by rw [vne]))) (fun hb H3 e4 => ?_) (fun hb H3 e4 => ?_)
        · have hne := of_decide_eq_true hb
          refine s_appU (K := K) (e4 o _ hG2) (ev_var rfl) (eu_tup (ea_cons (ev_call (ea_cons (ev_var rfl) ea_nil) fun H2 e4 Q2 q2 E2 => ⟨_, rfl, hne, q2⟩) (ea_cons (ev_var rfl) (ea_cons (ev_var rfl) ea_nil))) (by show 3 ≤ 100000; decide)) (by omega) fun d H4 nd e5 hd4 => ?_
          have hG4 : H4 o = some (.lst ps) := e5 o _ (e4 o _ hG2)
          refine ⟨_, _, _, ps ++ [.ref d], rfl, Ex.mut (((e2.trans e3).trans e4).trans e5) no, upd_same, ?_⟩
          unfold K17.rowsStep
          rw [if_pos hne]
          refine rin_upd (rin_snoc (mo_rin ((e3.trans e4).trans e5) hrows) ⟨d, m, rfl, st_of hd4, ex_t (e4.trans e5) hm⟩) hG4
        · refine ⟨_, _, _, ps, rfl, (e2.trans e3).trans e4, e4 o _ hG2, ?_⟩
          unfold K17.rowsStep
          rw [if_neg (of_decide_eq_false hb)]
          exact mo_rin (e3.trans e4) hrows
    · obtain ⟨x0, l0, s0, ps, rfl, e2, hG, hrows⟩ := hP
      rw [ni_len, List.take_length] at hrows
      exact s_retP (ep_evi (P := IsRows K (K17.rowsOf g)) (ev_var rfl) fun H2 e3 => ⟨o, ps, rfl, .inl (.inl (e3 o _ hG)), mo_rin e3 hrows⟩) fun v H2 e3 hv => q v H2 (e2.trans e3) hv
/-- a lot told as a list or as a tuple -/
def IsLot (K : PySem.W.Frag) (n : Nat) : VP := fun v H => ∃ a, v = .ref a ∧ (SqL K H a (ni (K17.lotOf n)) ∨ SqT K H a (ni (K17.lotOf n)))
theorem mo_lot {n : Nat} : Mo (IsLot K n) := fun _ _ _ e ⟨a, h1, h2⟩ => ⟨a, h1, h2.elim (fun h => .inl (ex_l e h)) fun h => .inr (ex_t e h)⟩
def IsAsked (K : PySem.W.Frag) (rows : List K17.Row) (st : Nat × Nat) (xs : List V) (H : Hp) : Prop := ∃ a m, xs = [.ref a, .int (st.1 : Int), .ref m] ∧ IsRows K rows (.ref a) H ∧ SqT K H m (ni (K17.lotOf st.2))
def spAsked (K : PySem.W.Frag) : Sp := fun vs H Q _ => ∃ (v u : V) (n g : Nat), vs = [v, u] ∧ IsLot K n v H ∧ IsLot K g u H ∧ Ret (fun v H => ∃ t xs, v = .ref t ∧ SqT K H t xs ∧ xs.length = 3 ∧ IsAsked K (K17.rowsOf g) (K17.askedM n g) xs H) H Q
theorem sp_tup {v : V} {n : Nat} {H : Hp} {Q : VK} {E : XK} (h : IsLot K n v H) (q : Ret (IsT K (ni (K17.lotOf n))) H Q) : spTup K [v] H Q E := by
  obtain ⟨a, rfl, h⟩ := h
  exact ⟨a, _, rfl, h, Nat.le_trans (lotOf_len24 n) (by decide), q⟩
theorem ok_gaps_asked (F : Fun K "gaps_asked" "gaps_asked" s_gaps_asked f fd) (C1 : Cal P w K mg base CX0 2 "tupled" ["thing"] (spTup K)) (C2 : Cal P w K mg base CX0 4 "rows_of_gaps" ["gaps"] (spRowsOf K)) (C3 : Cal P w K mg base CX0 1 "outside" ["lot", "gaps"] (spOutside K))
    (C4 : Cal P w K mg base CX0 3 "brought_down" ["rows", "lack", "lot"] (spDown K)) (C5 : Cal P w K mg base CX0 3 "lack_in" ["lot"] (spLackIn K)) : FnOk P w K mg base CX0 5 f fd ["lot", "gaps"] (spAsked K) := by
  obtain ⟨f1, fd1, G_tupled, m_tupled, k_tupled, b_tupled⟩ := C1.ex
  obtain ⟨f2, fd2, G_rows_of_gaps, m_rows_of_gaps, k_rows_of_gaps, b_rows_of_gaps⟩ := C2.ex
  obtain ⟨f3, fd3, G_outside, m_outside, k_outside, b_outside⟩ := C3.ex
  obtain ⟨f4, fd4, G_brought_down, m_brought_down, k_brought_down, b_brought_down⟩ := C4.ex
  obtain ⟨f5, fd5, G_lack_in, m_lack_in, k_lack_in, b_lack_in⟩ := C5.ex
  refine F.ok sc_gaps_asked (fun vs H Q E h => ?_) (fun cdv A outer s H vs Q E hr h => ?_)
  · obtain ⟨v, u, n, g, rfl, _⟩ := h; rfl
  · obtain ⟨v, u, n, g, rfl, hv, hu, q⟩ := h
    refine ⟨_, (pss_cons (ps_par (i := 2) (j := 3) (by rfl) sc_gaps_asked.nd rfl rfl (by decide) rfl rfl (pa_cons (pe_call G_tupled (hr.mono (by decide)) (by rfl) m_tupled k_tupled b_tupled .nil pass0 (pa_cons (pv 0) pa_nil)) (pa_cons (pe_call G_tupled (hr.mono (by decide)) (by rfl) m_tupled k_tupled b_tupled .nil pass0 (pa_cons (pv 1) pa_nil)) pa_nil)) (by rfl))
      (pss_cons (ps_par (i := 4) (j := 5) (by rfl) sc_gaps_asked.nd rfl rfl (by decide) rfl rfl (pa_cons (pe_call G_rows_of_gaps (hr.mono (by decide)) (by rfl) m_rows_of_gaps k_rows_of_gaps b_rows_of_gaps .nil pass0 (pa_cons (pv 3) pa_nil)) (pa_cons (pe_call G_outside (hr.mono (by decide)) (by rfl) m_outside k_outside b_outside .nil pass0 (pa_cons (pv 2) (pa_cons (pv 3) pa_nil))) pa_nil)) (by rfl))
      (pss_cons (ps_asg (pe_call G_brought_down (hr.mono (by decide)) (by rfl) m_brought_down k_brought_down b_brought_down .nil pass0 (pa_cons (pv 4) (pa_cons (pe_call G_lack_in (hr.mono (by decide)) (by rfl) m_lack_in k_lack_in b_lack_in .nil pass0 (pa_cons (pv 5) pa_nil)) (pa_cons (pv 5) pa_nil)))) (pg_tup (by rfl) (pgs_cons (pg_name (i := 6) sc_gaps_asked.nd rfl (Or.inl rfl)) (pgs_cons (pg_name (i := 7) sc_gaps_asked.nd rfl (Or.inl rfl)) pgs_nil))))
      (pss_one (ps_ret (pe_tup (pa_cons (pv 4) (pa_cons (pv 6) (pa_cons (pv 7) pa_nil))))))))), ?_⟩
    refine q_par (ea2 (P1 := IsT K (ni (K17.lotOf n))) (P2 := IsT K (ni (K17.lotOf g))) (ep_calln (ea_of (ea_cons (ev_var rfl) ea_nil)) fun us H1 e1 eu Q1 q1 => by rw [eu]; exact sp_tup (mo_lot _ _ _ e1 hv) q1) mo_T (ep_calln (ea_of (ea_cons (ev_var rfl) ea_nil)) fun us H1 e1 eu Q1 q1 => by rw [eu]; exact sp_tup (mo_lot _ _ _ e1 hu) q1)) fun us H1 e1 hx => ?_
    obtain ⟨x, y, rfl, ⟨p, rfl, hp⟩, r, rfl, hr2⟩ := hx
    refine ⟨_, _, rfl, ?_⟩
    refine q_par (ea2 (P1 := IsRows K (K17.rowsOf g)) (P2 := IsT K (ni (K17.lotOf (K17.outs n g)))) (ep_calln (ea_of (ea_cons (ev_var rfl) ea_nil)) fun us H2 e2 eu Q1 q1 => ⟨r, g, eu, ex_t e2 hr2, q1⟩) mo_rows (ep_calln (ea_of (ea_cons (ev_var rfl) (ea_cons (ev_var rfl) ea_nil))) fun us H2 e2 eu Q1 q1 => ⟨p, r, n, g, eu, ex_t e2 hp, ex_t e2 hr2, q1⟩)) fun us H2 e2 hx => ?_
    obtain ⟨x, y, rfl, ⟨a, ps, rfl, ha, hps⟩, m, rfl, hm⟩ := hx
    refine ⟨_, _, rfl, ?_⟩
    refine q_tup (K := K) (Pt := fun xs H1 => ∃ m, xs = [.int ((K17.askedM n g).1 : Int), .ref m] ∧ SqT K H1 m (ni (K17.lotOf (K17.askedM n g).2))) (ep_imp (ep_calln (P := IsPair K (K17.askedM n g)) (ea_of (ea_cons (ev_var rfl) (ea_cons (ev_call (ea_cons (ev_var rfl) ea_nil) fun H3 e3 Q2 q2 E2 => ⟨m, _, rfl, ex_t e3 hm, q2⟩) (ea_cons (ev_var rfl) ea_nil)))) fun us H3 e3 hu Q2 q2 => ⟨_, m, _, _, _, hu, ⟨a, ps, rfl, ex_l e3 ha, mo_rin e3 hps⟩, ex_t e3 hm, q2⟩) fun v H3 e3 ⟨t, m, hv, h1, h2⟩ => ⟨t, _, hv, h1, rfl, m, rfl, h2⟩) fun xs H3 e3 _ hxs => ?_
    obtain ⟨m2, rfl, hm2⟩ := hxs
    refine ⟨_, _, rfl, _, _, rfl, rfl, ?_⟩
    exact s_retP (ep_imp (ep_U (K := K) (eu_tup (ea_cons (ev_var rfl) (ea_cons (ev_var rfl) (ea_cons (ev_var rfl) ea_nil))) (by show 3 ≤ 100000; decide))) fun v H4 e4 ⟨t, hv, ht⟩ => ⟨t, _, hv, ht, rfl, a, m2, rfl, ⟨a, ps, rfl, ex_l (e3.trans e4) ha, mo_rin (e3.trans e4) hps⟩, ex_t e4 hm2⟩) fun v H4 e4 hv => q v H4 (((e1.trans e2).trans e3).trans e4) hv
end
end KD
set_option Elab.async false
set_option linter.all false
set_option maxRecDepth 100000
set_option maxHeartbeats 4000000
/-! The walk: filled, fill_bar, is_filled, is_fill_bar. -/
namespace KD
open PySem PySem.Spec PyProof.Rows L2 Evl KW KR KT
/-! ### data compared -/
def dI (l : List Int) : List PyData := l.map PyData.int
theorem eqvAll_ints : ∀ l m : List Int, PyData.eqvAll (dI l) (dI m) = decide (l = m)
  | [], [] => by simp [dI, PyData.eqvAll]
  | [], b :: m => by simp [dI, PyData.eqvAll]
  | a :: l, [] => by simp [dI, PyData.eqvAll]
  | a :: l, b :: m => by
    have ih := eqvAll_ints l m
    unfold dI at ih ⊢
    rw [List.map_cons, List.map_cons, PyData.eqvAll, ih, PyData.eqv]
    by_cases h : a = b
    · subst h; simp
    · simp [h]
theorem canAll_ints : ∀ l : List Int, PyData.canLayAll0 (dI l) = true
  | [] => rfl
  | a :: l => by
    have ih := canAll_ints l
    unfold dI at ih ⊢
    rw [List.map_cons, PyData.canLayAll0, ih]
    rfl
theorem depAll_ints : ∀ l : List Int, PyData.depthAll (dI l) ≤ 1
  | [] => by simp [dI, PyData.depthAll]
  | a :: l => by
    have ih := depAll_ints l
    unfold dI at ih ⊢
    rw [List.map_cons, PyData.depthAll]
    have : (PyData.int a).depth ≤ 1 := by simp [PyData.depth]
    omega
theorem shaped_tup (l : List Int) : SeqAt.shaped (.tuple (dI l)) = true := by
  unfold SeqAt.shaped
  rw [Bool.and_eq_true]
  refine ⟨by rw [PyData.canLay0]; exact canAll_ints l, decide_eq_true ?_⟩
  have := depAll_ints l
  rw [PyData.depth]
  omega
theorem shaped_lst (l : List Int) : SeqAt.shaped (.list (dI l)) = true := by
  unfold SeqAt.shaped
  rw [Bool.and_eq_true]
  refine ⟨by rw [PyData.canLay0]; exact canAll_ints l, decide_eq_true ?_⟩
  have := depAll_ints l
  rw [PyData.depth]
  omega
section
variable {K : PySem.W.Frag} {σ : L2.St} {H : Hp} {ta tb te tx : TE} {t : TT}
theorem dp_all : ∀ l : List Int, DpAll K H (l.map V.int) (dI l)
  | [] => .nil
  | a :: l => .cons (.int a) (dp_all l)
def vi (l : List Nat) : List Int := l.map fun (n : Nat) => (n : Int)
theorem vi_inj {l m : List Nat} (h : vi l = vi m) : l = m := by
  unfold vi at h
  induction l generalizing m with
  | nil =>
    cases m with
    | nil => rfl
    | cons b m => cases h
  | cons a l ih =>
    cases m with
    | nil => cases h
    | cons b m =>
      rw [List.map_cons, List.map_cons] at h
      injection h with h1 h2
      rw [ih h2]
      have : a = b := by omega
      rw [this]
theorem dp_T {a : Addr} {l : List Nat} (h : SqT K H a (ni l)) : Dp K H (.ref a) (.tuple (dI (vi l))) := .tup h (by rw [ni_eq]; exact dp_all _)
theorem dp_L {a : Addr} {l : List Nat} (h : SqL K H a (ni l)) : Dp K H (.ref a) (.list (dI (vi l))) := .lst h (by rw [ni_eq]; exact dp_all _)
theorem ev_eqTT {l m : List Nat} (ha : EvP ta σ H (IsT K (ni l))) (hb : EvP tb σ H (IsT K (ni m))) : Ev (tOp (rEqD K) ta tb) σ H (.bl (decide (l = m))) := ev_ep (ep_op ha mo_T hb fun x y H1 e ⟨a, hx, h1⟩ ⟨b, hy, h2⟩ Q q => by
  subst hx hy
  refine ⟨_, _, dp_T h1, dp_T h2, shaped_tup _, shaped_tup _, q _ H1 (Ex.refl _) ?_⟩
  show V.bl _ = V.bl _
  rw [PyData.eqv, eqvAll_ints]
  congr 1
  exact decide_eq_decide.mpr ⟨vi_inj, fun z => by rw [z]⟩)
theorem ev_neTT {l m : List Nat} (ha : EvP ta σ H (IsT K (ni l))) (hb : EvP tb σ H (IsT K (ni m))) : Ev (tOp (rNeD K) ta tb) σ H (.bl (!decide (l = m))) := ev_ep (ep_op ha mo_T hb fun x y H1 e ⟨a, hx, h1⟩ ⟨b, hy, h2⟩ Q q => by
  subst hx hy
  refine ⟨_, _, dp_T h1, dp_T h2, shaped_tup _, shaped_tup _, q _ H1 (Ex.refl _) ?_⟩
  show V.bl _ = V.bl _
  rw [PyData.eqv, eqvAll_ints]
  congr 2
  exact decide_eq_decide.mpr ⟨vi_inj, fun z => by rw [z]⟩)
theorem ev_eqLL {l m : List Nat} (ha : EvP ta σ H (IsL K (ni l))) (hb : EvP tb σ H (IsL K (ni m))) : Ev (tOp (rEqD K) ta tb) σ H (.bl (decide (l = m))) := ev_ep (ep_op ha mo_L hb fun x y H1 e ⟨a, hx, h1⟩ ⟨b, hy, h2⟩ Q q => by
  subst hx hy
  refine ⟨_, _, dp_L h1, dp_L h2, shaped_lst _, shaped_lst _, q _ H1 (Ex.refl _) ?_⟩
  show V.bl _ = V.bl _
  rw [PyData.eqv, eqvAll_ints]
  congr 1
  exact decide_eq_decide.mpr ⟨vi_inj, fun z => by rw [z]⟩)
theorem ev_neLL {l m : List Nat} (ha : EvP ta σ H (IsL K (ni l))) (hb : EvP tb σ H (IsL K (ni m))) : Ev (tOp (rNeD K) ta tb) σ H (.bl (!decide (l = m))) := ev_ep (ep_op ha mo_L hb fun x y H1 e ⟨a, hx, h1⟩ ⟨b, hy, h2⟩ Q q => by
  subst hx hy
  refine ⟨_, _, dp_L h1, dp_L h2, shaped_lst _, shaped_lst _, q _ H1 (Ex.refl _) ?_⟩
  show V.bl _ = V.bl _
  rw [PyData.eqv, eqvAll_ints]
  congr 2
  exact decide_eq_decide.mpr ⟨vi_inj, fun z => by rw [z]⟩)
end
/-- what the top has of the class NoWay -/
structure ExcT (K : PySem.W.Frag) (mg : Str → Option Value) (C : Addr) : Prop where
  gP : mg "NoWay" = some (.ref C)
  xP : PySem.W.excIn K C [.type "ValueError", .type "Exception", .type "BaseException", .type "object"] "ValueError.__new__" = true
  kP : PySem.W.keepIn K (.ref C) = true
  bP : PySem.W.subIn K (.ref C) (.type "BaseException") = some true
  tP : PySem.W.typeIn K (.ref C) = some (.type "type")
  eP : PySem.W.exmOne K (.ref C) (.ref C) = some true
  exc : ExcC K C
  kE : PySem.W.kitOne K (.ref C) (.type "ValueError") = some true
section
variable {P : Program} {w : World} {K : PySem.W.Frag} {mg : Str → Option Value} {base : Heap} {f : Addr} {fd : FuncData} {C : Addr}
def spFilled (K : PySem.W.Frag) (C : Addr) : Sp := fun vs H Q E => ∃ (v u : V) (n g : Nat), vs = [v, u] ∧ IsLot K n v H ∧ IsLot K g u H ∧ ((K17.askedM n g).1 = 0 → Ret (IsT K (ni (K17.lotOf (K17.askedM n g).2))) H Q) ∧ ((K17.askedM n g).1 ≠ 0 → ∀ H', Ex H H' → E (.ref C) none H')
theorem ok_filled (F : Fun K "filled" "filled" s_filled f fd) (X : ExcT K mg C) (C1 : Cal P w K mg base CX0 5 "gaps_asked" ["lot", "gaps"] (spAsked K)) : FnOk P w K mg base (L2.CX P w) 6 f fd ["lot", "gaps"] (spFilled K C) := by
  obtain ⟨f1, fd1, G_gaps_asked, m_gaps_asked, k_gaps_asked, b_gaps_asked⟩ := C1.ex
  refine F.okX sc_filled (fun vs H Q E h => ?_) (fun cdv A outer s H vs Q E hr h => ?_)
  · obtain ⟨v, u, n, g, rfl, _⟩ := h; rfl
  · obtain ⟨v, u, n, g, rfl, hv, hu, q, qe⟩ := h
    refine ⟨_, (pss_cons (ps_asg (pe_call G_gaps_asked (hr.mono (by decide)) (by rfl) m_gaps_asked k_gaps_asked b_gaps_asked .nil pass0 (pa_cons (pv 0) (pa_cons (pv 1) pa_nil))) (pg_tup (by rfl) (pgs_cons (pg_name (i := 2) sc_filled.nd rfl (Or.inl rfl)) (pgs_cons (pg_name (i := 3) sc_filled.nd rfl (Or.inl rfl)) (pgs_cons (pg_name (i := 4) sc_filled.nd rfl (Or.inl rfl)) pgs_nil)))))
      (pss_cons (ps_if (pt_cmpR op_ne (pv 3) pe_int (nomark _)) (pss_one (ps_raise rfl (takes_of rfl rfl rfl rfl) (pmk_own0 PySem.F.excBase_ValueError X.xP X.gP X.kP (raises_own X.bP X.tP) (by rfl)))) pss_nil)
      (pss_one (ps_ret (pv 4))))), ?_⟩
    refine q_tup (K := K) (Pt := IsAsked K (K17.rowsOf g) (K17.askedM n g)) (ep_calln (ea_of (ea_cons (ev_var rfl) (ea_cons (ev_var rfl) ea_nil))) fun us H1 e1 eu Q1 q1 => ⟨v, u, n, g, eu, mo_lot _ _ _ e1 hv, mo_lot _ _ _ e1 hu, q1⟩) fun xs H1 e1 _ hxs => ?_
    obtain ⟨a, m, rfl, hrows, hm⟩ := hxs
    refine ⟨_, _, rfl, _, _, rfl, _, _, rfl, rfl, ?_⟩
    refine q_when (b := decide ((K17.askedM n g).1 ≠ 0)) (et_test (ev_is (ev_op (ev_var rfl) ev_c (rv_ne rfl)) (by rw [vne]))) (fun hb H2 e2 => qe (of_decide_eq_true hb) H2 (e1.trans e2)) (fun hb H2 e2 => ?_)
    have hz : (K17.askedM n g).1 = 0 := Decidable.of_not_not (of_decide_eq_false hb)
    exact s_ret (ev_var rfl) fun H3 e3 => q hz _ H3 ((e1.trans e2).trans e3) ⟨m, rfl, ex_t (e2.trans e3) hm⟩
def spFillBar (K : PySem.W.Frag) (C : Addr) : Sp := fun vs H Q E => ∃ (v u : V) (n g : Nat), vs = [v, u] ∧ IsLot K n v H ∧ IsLot K g u H ∧ ((K17.askedM n g).1 ≠ 0 → Ret (IsT K (ni (K17.lotOf (K17.barM (K17.bitsM (K17.rowsOf g) (K17.askedM n g).1))))) H Q) ∧ ((K17.askedM n g).1 = 0 → ∀ H', Ex H H' → E (.ref C) none H')
theorem veq0 (a : Nat) : decide (V.int (a : Int) = V.int (0 : Int)) = decide (a = 0) := by
  rw [show (0 : Int) = ((0 : Nat) : Int) from rfl, vdec]
  by_cases h : a = 0 <;> simp [h]
theorem rin_rev {rows : List K17.Row} {ps : List V} {H : Hp} (h : RowsIn K rows ps H) : RowsIn K rows.reverse ps.reverse H := by
  refine ⟨by rw [List.length_reverse, List.length_reverse, h.1], fun i r hr => ?_⟩
  have hi : i < rows.length := by
    have := (List.getElem?_eq_some_iff.mp hr).1
    rwa [List.length_reverse] at this
  rw [List.getElem?_reverse hi] at hr
  obtain ⟨x, h1, h2⟩ := h.2 _ r hr
  exact ⟨x, by rw [List.getElem?_reverse (by rw [h.1]; exact hi), h.1]; exact h1, h2⟩
theorem and_12 {a b : Nat} (h : b < 2 ^ 12) : a &&& b < 4096 := Nat.lt_of_le_of_lt Nat.and_le_right h
theorem ok_fill_bar (F : Fun K "fill_bar" "fill_bar" s_fill_bar f fd) (T : Txt K mg) (X : ExcT K mg C) (C1 : Cal P w K mg base CX0 5 "gaps_asked" ["lot", "gaps"] (spAsked K)) (C2 : Cal P w K mg base CX0 1 "highest_bit" ["number"] spHigh) (C3 : Cal P w K mg base CX0 1 "is_odd" ["number"] spIsOdd) (C4 : Cal P w K mg base CX0 2 "lack_of" ["lamp"] spLackOf) :
    FnOk P w K mg base (L2.CX P w) 6 f fd ["lot", "gaps"] (spFillBar K C) := by
  obtain ⟨f1, fd1, G_gaps_asked, m_gaps_asked, k_gaps_asked, b_gaps_asked⟩ := C1.ex
  obtain ⟨f2, fd2, G_highest_bit, m_highest_bit, k_highest_bit, b_highest_bit⟩ := C2.ex
  obtain ⟨f3, fd3, G_is_odd, m_is_odd, k_is_odd, b_is_odd⟩ := C3.ex
  obtain ⟨f4, fd4, G_lack_of, m_lack_of, k_lack_of, b_lack_of⟩ := C4.ex
  obtain ⟨tl, m_LAMPS⟩ := T.LAMPS
  refine F.okX sc_fill_bar (fun vs H Q E h => ?_) (fun cdv A outer s H vs Q E hr h => ?_)
  · obtain ⟨v, u, n, g, rfl, _⟩ := h; rfl
  · obtain ⟨v, u, n, g, rfl, hv, hu, q, qe⟩ := h
    refine ⟨_, (pss_cons (ps_asg (pe_call G_gaps_asked (hr.mono (by decide)) (by rfl) m_gaps_asked k_gaps_asked b_gaps_asked .nil pass0 (pa_cons (pv 0) (pa_cons (pv 1) pa_nil))) (pg_tup (by rfl) (pgs_cons (pg_name (i := 2) sc_fill_bar.nd rfl (Or.inl rfl)) (pgs_cons (pg_name (i := 3) sc_fill_bar.nd rfl (Or.inl rfl)) (pgs_cons (pg_name (i := 4) sc_fill_bar.nd rfl (Or.inl rfl)) pgs_nil)))))
      (pss_cons (ps_if (pt_cmpR op_eq (pv 3) pe_int (nomark _)) (pss_one (ps_raise rfl (takes_of rfl rfl rfl rfl) (pmk_own0 PySem.F.excBase_ValueError X.xP X.gP X.kP (raises_own X.bP X.tP) (by rfl)))) pss_nil)
      (pss_cons (ps_set (i := 5) sc_fill_bar.nd rfl (Or.inr rfl) (pe_call G_highest_bit (hr.mono (by decide)) (by rfl) m_highest_bit k_highest_bit b_highest_bit .nil pass0 (pa_cons (pv 3) pa_nil)))
      (pss_cons (ps_for (passes_of rfl) rfl (pi_list (pe_revL (pv 2))) (pg_tup (by rfl) (pgs_cons (pg_name (i := 6) sc_fill_bar.nd rfl (Or.inl rfl)) (pgs_cons (pg_name (i := 7) sc_fill_bar.nd rfl (Or.inl rfl)) (pgs_cons (pg_name (i := 4) sc_fill_bar.nd rfl (Or.inl rfl)) pgs_nil)))) (pss_one (ps_set (i := 5) sc_fill_bar.nd rfl (Or.inr rfl) (pe_ifExp (pt_val (pe_call G_is_odd (hr.mono (by decide)) (by rfl) m_is_odd k_is_odd b_is_odd .nil pass0 (pa_cons (pe_op op_and (pv 5) (pv 7)) pa_nil))) (pe_op op_xor (pv 5) (pv 6)) (pv 5)))))
      (pss_one (ps_ret (pe_callTy call_tuple_of (by rfl) T.n_tuple (by decide +kernel) (pa_cons (pe_lc (own := [("lamp", 8)]) (g := gName 8) rfl sc_fill_bar.nd (pi_range1 (by rfl) T.n_range (pa_cons (pe_glob (v := .int 24) (by rfl) m_LAMPS ⟨_, rfl⟩) pa_nil)) (blkOk_by (N := N_fill_bar) (sc := defScope s_fill_bar) (by decide +kernel)) (fun _ _ _ _ _ => (pg_name (i := 8) sc_fill_bar.nd rfl (Or.inl rfl))) (fun _ _ _ _ _ => (pts_one (pt_val (pe_call G_is_odd (hr.mono (by decide)) (by rfl) m_is_odd k_is_odd b_is_odd .nil pass0 (pa_cons (pe_op op_and (pv 5) (pe_call G_lack_of (hr.mono (by decide)) (by rfl) m_lack_of k_lack_of b_lack_of .nil pass0 (pa_cons (pv 8) pa_nil))) pa_nil))))) (fun _ _ _ _ _ => (pv 8))) pa_nil)))))))), ?_⟩
    refine q_tup (K := K) (Pt := IsAsked K (K17.rowsOf g) (K17.askedM n g)) (ep_calln (ea_of (ea_cons (ev_var rfl) (ea_cons (ev_var rfl) ea_nil))) fun us H1 e1 eu Q1 q1 => ⟨v, u, n, g, eu, mo_lot _ _ _ e1 hv, mo_lot _ _ _ e1 hu, q1⟩) fun xs H1 e1 _ hxs => ?_
    obtain ⟨a, m, rfl, ⟨_, ps, ea, hps, hrows⟩, hm⟩ := hxs
    cases ea
    refine ⟨_, _, rfl, _, _, rfl, _, _, rfl, rfl, ?_⟩
    refine q_when (b := decide ((K17.askedM n g).1 = 0)) (et_test (ev_is (ev_op (ev_var rfl) ev_c (rv_eq rfl)) (by rw [veq0]))) (fun hb H2 e2 => qe (of_decide_eq_true hb) H2 (e1.trans e2)) (fun hb H2 e2 => ?_)
    have hz := of_decide_eq_false hb
    have hok := K17.rowsOf_ok g
    unfold K17.bitsM at q
    generalize (K17.askedM n g).1 = l at *
    generalize K17.rowsOf g = rows at *
    refine q_asg (ev_call (ea_cons (ev_var rfl) ea_nil) fun H2 e4 Q2 q2 E2 => ⟨_, rfl, hz, q2⟩) fun H3 e3 => ?_
    refine q_forNL (el_revL (ev_var rfl) (ex_l (e2.trans e3) hps)) (fun r k σ G => ∃ o4 o6 o7, σ = [some v, some u, some (.ref a), some (.int (l : Int)), o4, some (.int ((rows.reverse.take k).foldl K17.bitStep (K17.hb l) : Nat)), o6, o7, none] ∧ Ex H1 G ∧ G r = some (.lst ps.reverse)) (fun r G nr e hr => ⟨_, _, _, rfl, (e2.trans e3).trans e, hr⟩) (fun r _ _ G _ ⟨_, _, _, _, _, h⟩ => .inl (.inl h)) (fun r k x σ G hx hP => ?_) (fun r σ G hP => ?_)
    · obtain ⟨o4, o6, o7, rfl, e4, hG⟩ := hP
      have hk : k < rows.reverse.length := by rw [← (rin_rev hrows).1]; exact (List.getElem?_eq_some_iff.mp hx).1
      have hrk : rows.reverse[k]? = some rows.reverse[k] := List.getElem?_eq_getElem hk
      obtain ⟨x', hx', p, m2, rfl, h2, h3⟩ := (rin_rev hrows).2 k rows.reverse[k] hrk
      obtain rfl : x = .ref p := Option.some.inj (hx.symm.trans hx')
      have hown := (hok.each _ (List.mem_reverse.mp (List.getElem_mem hk))).own
      have e0 : (rows.reverse.take (k + 1)).foldl K17.bitStep (K17.hb l) = K17.bitStep ((rows.reverse.take k).foldl K17.bitStep (K17.hb l)) rows.reverse[k] := by
        rw [List.take_add_one, hrk, List.foldl_append]
        rfl
      rw [e0]
      generalize (rows.reverse.take k).foldl K17.bitStep (K17.hb l) = b at *
      generalize rows.reverse[k] = r1 at *
      refine ⟨p, _, rfl, ex_t e4 h2, rfl, _, _, rfl, _, _, rfl, _, _, rfl, rfl, ?_⟩
      refine s_asg (v := .int (K17.bitStep b r1 : Int)) (ev_if (b := K17.oddb 12 (b &&& r1.2.1)) (et_B (ev_call (ea_cons (ev_is (ev_op (ev_var rfl) (ev_var rfl) rv_I0) (by rw [bitAnd_nat])) ea_nil) fun H2 e5 Q2 q2 E2 => ⟨_, rfl, and_12 hown, q2⟩)) (fun hb => ev_is (ev_op (ev_var rfl) (ev_var rfl) rv_I0) ?_) (fun hb => ev_is (ev_var rfl) ?_)) fun G2 e5 => ⟨some (.ref m2), some (.int (r1.1 : Int)), some (.int (r1.2.1 : Int)), rfl, e4.trans e5, e5 _ _ hG⟩
      · rw [bitXor_nat]
        unfold K17.bitStep
        rw [if_pos hb]
      · unfold K17.bitStep
        rw [if_neg (by rw [hb]; exact Bool.false_ne_true)]
    · obtain ⟨o4, o6, o7, rfl, e4, hG⟩ := hP
      rw [(rin_rev hrows).1, List.take_length]
      generalize rows.reverse.foldl K17.bitStep (K17.hb l) = b at *
      have q' := q hz
      unfold K17.barM at q'
      rw [K17.lotOf_mk] at q'
      refine s_retP (ep_U (eu_tuple (el_R (n := 24) (fun i => K17.oddb 12 (b &&& K17.lackL i)) (fun i => V.int (i : Int)) (ea_cons ev_c ea_nil) (by decide) (fun _ => rfl) (fun i G2 e5 hi => et_B (ev_call (ea_cons (ev_is (ev_op (ev_var rfl) (ev_call (ea_cons (ev_var rfl) ea_nil) fun H2 e5 Q2 q2 E2 => ⟨_, rfl, hi, q2⟩) rv_I0) (by rw [bitAnd_nat])) ea_nil) fun H2 e5 Q2 q2 E2 => ⟨_, rfl, and_12 (K17.lackL_lt i hi), q2⟩)) (fun i G2 e5 hi _ => ev_var rfl)))) fun v1 G2 e5 hv1 => q' v1 G2 (e1.trans (e4.trans e5)) hv1
/-! ### told things judged -/
def maskT : Thing → Nat
  | .tup xs => K17.mk fun i => xs.any fun v => decide (vI v = (i : Int))
  | _ => 0
theorem asc_pw : ∀ l : List Int, asc l = true → l.Pairwise (· < ·)
  | [], _ => .nil
  | [a], _ => List.pairwise_singleton _ _
  | a :: b :: r, h => by
    have h' : (decide (a < b) && asc (b :: r)) = true := h
    rw [Bool.and_eq_true] at h'
    have ih := asc_pw (b :: r) h'.2
    have hab := of_decide_eq_true h'.1
    rw [List.pairwise_cons]
    refine ⟨fun x hx => ?_, ih⟩
    rw [List.pairwise_cons] at ih
    rcases List.mem_cons.mp hx with rfl | hx
    · exact hab
    · have := ih.1 x hx; omega
theorem maskT_lt (t : Thing) : maskT t < 2 ^ 24 := by
  cases t with
  | tup xs => exact K17.mk_lt _
  | _ => show (0 : Nat) < 2 ^ 24; decide
theorem numSet_lot {xs : List V} (h : numSet (.tup xs) = true) : xs = ni (K17.lotOf (maskT (.tup xs))) := by
  have h' : (xs.all (isB 24) && asc (xs.map vI)) = true := h
  rw [Bool.and_eq_true] at h'
  have e := vI_ints h'.1
  rw [ni_eq, ← e]
  congr 1
  rw [e]
  refine asc_ext (asc_pw _ h'.2) (lotOf_up _) fun k => ?_
  show _ ↔ k ∈ (K17.lotOf (K17.mk fun i => xs.any fun v => decide (vI v = (i : Int)))).map fun (n : Nat) => (n : Int)
  rw [K17.lotOf_mk, List.mem_map, List.mem_map]
  constructor
  · rintro ⟨v, hv, rfl⟩
    have hb := List.all_eq_true.mp h'.1 v hv
    cases v with
    | int i =>
      have hb' : (decide (0 ≤ i) && decide (i < 24)) = true := hb
      rw [Bool.and_eq_true] at hb'
      have h0 := of_decide_eq_true hb'.1
      have h1 := of_decide_eq_true hb'.2
      have ei : ((i.toNat : Nat) : Int) = i := by omega
      refine ⟨i.toNat, ?_, ei⟩
      rw [List.mem_filter, List.mem_range]
      refine ⟨by omega, List.any_eq_true.mpr ⟨_, hv, decide_eq_true ?_⟩⟩
      show i = _
      omega
    | _ => cases hb
  · rintro ⟨n, hn, rfl⟩
    rw [List.mem_filter] at hn
    obtain ⟨v, hv, hd⟩ := List.any_eq_true.mp hn.2
    exact ⟨v, hv, of_decide_eq_true hd⟩
def fillQ (n g : Nat) (t : Thing) : Bool := numSet t && (K17.lackN (maskT t) == 0 && K17.outs (maskT t) g == K17.outs n g)
def barQ (n g : Nat) (t : Thing) : Bool := numSet t && (K17.lackN (maskT t) == 0 && (K17.outs (maskT t) g == maskT t && K17.oddb 24 (maskT t &&& n)))
theorem outs_lt {n g : Nat} (h : n < 2 ^ 24) : K17.outs n g < 2 ^ 24 := Nat.xor_lt_two_pow h (K17.and_lt_l _ h)
theorem th_lot {t : Thing} {v : V} {H : Hp} (ht : ThOk K t v H) (h : numSet t = true) : ∃ a, v = .ref a ∧ SqT K H a (ni (K17.lotOf (maskT t))) := by
  cases t with
  | tup xs =>
    obtain ⟨a, hv, hs, _⟩ := ht
    refine ⟨a, hv, ?_⟩
    rw [← numSet_lot h]
    exact hs
  | _ => cases h
def spIsFilled (K : PySem.W.Frag) : Sp := fun vs H Q _ => ∃ (v u x : V) (n g : Nat) (t : Thing), vs = [v, u, x] ∧ n < 2 ^ 24 ∧ IsLot K n v H ∧ IsLot K g u H ∧ ThOk K t x H ∧ RetV (.bl (fillQ n g t)) H Q
theorem ok_is_filled (F : Fun K "is_filled" "is_filled" s_is_filled f fd) (T : Txt K mg) (C1 : Cal P w K mg base CX0 2 "tupled" ["thing"] (spTup K)) (C2 : Cal P w K mg base CX0 4 "is_number_set" ["thing", "many"] (spNumSet K)) (C3 : Cal P w K mg base CX0 3 "lack_in" ["lot"] (spLackIn K)) (C4 : Cal P w K mg base CX0 1 "outside" ["lot", "gaps"] (spOutside K)) :
    FnOk P w K mg base CX0 5 f fd ["lot", "gaps", "thing"] (spIsFilled K) := by
  obtain ⟨f1, fd1, G_tupled, m_tupled, k_tupled, b_tupled⟩ := C1.ex
  obtain ⟨f2, fd2, G_is_number_set, m_is_number_set, k_is_number_set, b_is_number_set⟩ := C2.ex
  obtain ⟨f3, fd3, G_lack_in, m_lack_in, k_lack_in, b_lack_in⟩ := C3.ex
  obtain ⟨f4, fd4, G_outside, m_outside, k_outside, b_outside⟩ := C4.ex
  obtain ⟨tl, m_LAMPS⟩ := T.LAMPS
  refine F.ok sc_is_filled (fun vs H Q E h => ?_) (fun cdv A outer s H vs Q E hr h => ?_)
  · obtain ⟨v, u, x, n, g, t, rfl, _⟩ := h; rfl
  · obtain ⟨v, u, x, n, g, t, rfl, hn, hv, hu, ht, q⟩ := h
    refine ⟨_, (pss_cons (ps_par (i := 3) (j := 4) (by rfl) sc_is_filled.nd rfl rfl (by decide) rfl rfl (pa_cons (pe_call G_tupled (hr.mono (by decide)) (by rfl) m_tupled k_tupled b_tupled .nil pass0 (pa_cons (pv 0) pa_nil)) (pa_cons (pe_call G_tupled (hr.mono (by decide)) (by rfl) m_tupled k_tupled b_tupled .nil pass0 (pa_cons (pv 1) pa_nil)) pa_nil)) (by rfl))
      (pss_cons (ps_if (PW.pt (pw_or (pt_not (pt_val (pe_call G_is_number_set (hr.mono (by decide)) (by rfl) m_is_number_set k_is_number_set b_is_number_set .nil pass0 (pa_cons (pv 2) (pa_cons (pe_glob (v := .int 24) (by rfl) m_LAMPS ⟨_, rfl⟩) pa_nil))))) (pw_or1 (pt_cmpR op_ne (pe_call G_lack_in (hr.mono (by decide)) (by rfl) m_lack_in k_lack_in b_lack_in .nil pass0 (pa_cons (pv 2) pa_nil)) pe_int (nomark _))))) (pss_one (ps_ret pe_bl)) pss_nil)
      (pss_one (ps_ret (pe_cmpR (op_eqD hr.units) (pe_call G_outside (hr.mono (by decide)) (by rfl) m_outside k_outside b_outside .nil pass0 (pa_cons (pv 2) (pa_cons (pv 4) pa_nil))) (pe_call G_outside (hr.mono (by decide)) (by rfl) m_outside k_outside b_outside .nil pass0 (pa_cons (pv 3) (pa_cons (pv 4) pa_nil))) (nomark _)))))), ?_⟩
    refine q_par (ea2 (P1 := IsT K (ni (K17.lotOf n))) (P2 := IsT K (ni (K17.lotOf g))) (ep_calln (ea_of (ea_cons (ev_var rfl) ea_nil)) fun us H1 e1 eu Q1 q1 => by rw [eu]; exact sp_tup (mo_lot _ _ _ e1 hv) q1) mo_T (ep_calln (ea_of (ea_cons (ev_var rfl) ea_nil)) fun us H1 e1 eu Q1 q1 => by rw [eu]; exact sp_tup (mo_lot _ _ _ e1 hu) q1)) fun us H1 e1 hx => ?_
    obtain ⟨x1, y1, rfl, ⟨p, rfl, hp⟩, r, rfl, hr2⟩ := hx
    refine ⟨_, _, rfl, ?_⟩
    refine q_when (b := !numSet t || !(K17.lackN (maskT t) == 0)) (et_or (et_not (et_B (ev_call (ea_cons (ev_var rfl) (ea_cons ev_c ea_nil)) fun H2 e2 Q2 q2 E2 => ⟨t, x, rfl, mo_th _ _ _ (e1.trans e2) ht, q2⟩))) fun hb => ?_) (fun hb H2 e2 => s_ret ev_c fun H3 e3 => ?_) (fun hb H2 e2 => ?_)
    · have hs : numSet t = true := by simpa using hb
      obtain ⟨a, rfl, ha⟩ := th_lot ht hs
      refine et_test (ev_is (ev_op (ev_call (ea_cons (ev_var rfl) ea_nil) fun H2 e2 Q2 q2 E2 => ⟨a, _, rfl, ex_t (e1.trans e2) ha, q2⟩) ev_c (rv_ne rfl)) ?_)
      rw [vne]
      congr 1
      by_cases z : K17.lackN (maskT t) = 0 <;> simp [z]
    · have e4 : fillQ n g t = false := by
        unfold fillQ
        cases h1 : numSet t
        · rfl
        · cases h2 : (K17.lackN (maskT t) == 0)
          · rfl
          · rw [h1, h2] at hb; cases hb
      rw [e4] at q
      exact q H3 ((e1.trans e2).trans e3)
    · have h1 : numSet t = true := by cases h : numSet t <;> simp [h] at hb ⊢
      have h2 : (K17.lackN (maskT t) == 0) = true := by rw [h1] at hb; simpa using hb
      obtain ⟨a, rfl, ha⟩ := th_lot ht h1
      have e4 : fillQ n g t = decide (K17.lotOf (K17.outs (maskT t) g) = K17.lotOf (K17.outs n g)) := by
        unfold fillQ
        rw [h1, h2]
        by_cases z : K17.outs (maskT t) g = K17.outs n g
        · simp [z]
        · have z2 : ¬ K17.lotOf (K17.outs (maskT t) g) = K17.lotOf (K17.outs n g) := fun y => z (K17.lotOf_inj (outs_lt (maskT_lt t)) (outs_lt hn) y)
          simp [z, z2]
      rw [e4] at q
      exact s_ret (ev_eqTT (ep_calln (ea_of (ea_cons (ev_var rfl) (ea_cons (ev_var rfl) ea_nil))) fun us H3 e3 eu Q3 q3 => ⟨a, r, maskT t, g, eu, ex_t ((e1.trans e2).trans e3) ha, ex_t (e2.trans e3) hr2, q3⟩) (ep_calln (ea_of (ea_cons (ev_var rfl) (ea_cons (ev_var rfl) ea_nil))) fun us H3 e3 eu Q3 q3 => ⟨p, r, n, g, eu, ex_t (e2.trans e3) hp, ex_t (e2.trans e3) hr2, q3⟩)) fun H3 e3 => q H3 ((e1.trans e2).trans e3)
def spIsFillBar (K : PySem.W.Frag) : Sp := fun vs H Q _ => ∃ (v u x : V) (n g : Nat) (t : Thing), vs = [v, u, x] ∧ n < 2 ^ 24 ∧ IsLot K n v H ∧ IsLot K g u H ∧ ThOk K t x H ∧ RetV (.bl (barQ n g t)) H Q
theorem lot_both (a b : Nat) : (K17.lotOf a).filter (fun i => decide (i ∈ K17.lotOf b)) = K17.lotOf (a &&& b) := by
  unfold K17.lotOf
  rw [List.filter_filter]
  refine List.filter_congr fun i hi => ?_
  have hi2 := List.mem_range.mp hi
  rw [Nat.testBit_and]
  have e : decide (i ∈ List.filter (fun x => b.testBit x) (List.range 24)) = b.testBit i := by
    cases h : b.testBit i
    · exact decide_eq_false fun z => by simp [List.mem_filter, h] at z
    · exact decide_eq_true (by simp [List.mem_filter, h, hi2])
  rw [e, Bool.and_comm]
theorem ok_is_fill_bar (F : Fun K "is_fill_bar" "is_fill_bar" s_is_fill_bar f fd) (T : Txt K mg) (C1 : Cal P w K mg base CX0 2 "tupled" ["thing"] (spTup K)) (C2 : Cal P w K mg base CX0 4 "is_number_set" ["thing", "many"] (spNumSet K)) (C3 : Cal P w K mg base CX0 3 "lack_in" ["lot"] (spLackIn K)) (C4 : Cal P w K mg base CX0 1 "outside" ["lot", "gaps"] (spOutside K)) :
    FnOk P w K mg base CX0 5 f fd ["lot", "gaps", "thing"] (spIsFillBar K) := by
  obtain ⟨f1, fd1, G_tupled, m_tupled, k_tupled, b_tupled⟩ := C1.ex
  obtain ⟨f2, fd2, G_is_number_set, m_is_number_set, k_is_number_set, b_is_number_set⟩ := C2.ex
  obtain ⟨f3, fd3, G_lack_in, m_lack_in, k_lack_in, b_lack_in⟩ := C3.ex
  obtain ⟨f4, fd4, G_outside, m_outside, k_outside, b_outside⟩ := C4.ex
  obtain ⟨tl, m_LAMPS⟩ := T.LAMPS
  refine F.ok sc_is_fill_bar (fun vs H Q E h => ?_) (fun cdv A outer s H vs Q E hr h => ?_)
  · obtain ⟨v, u, x, n, g, t, rfl, _⟩ := h; rfl
  · obtain ⟨v, u, x, n, g, t, rfl, hn, hv, hu, ht, q⟩ := h
    refine ⟨_, (pss_cons (ps_asg (pe_tup (pa_cons (pe_call G_tupled (hr.mono (by decide)) (by rfl) m_tupled k_tupled b_tupled .nil pass0 (pa_cons (pv 0) pa_nil)) (pa_cons (pe_call G_tupled (hr.mono (by decide)) (by rfl) m_tupled k_tupled b_tupled .nil pass0 (pa_cons (pv 1) pa_nil)) pa_nil))) (pg_tup (by rfl) (pgs_cons (pg_name (i := 3) sc_is_fill_bar.nd rfl (Or.inr rfl)) (pgs_cons (pg_name (i := 4) sc_is_fill_bar.nd rfl (Or.inl rfl)) pgs_nil))))
      (pss_cons (ps_if (PW.pt (pw_or (pt_not (pt_val (pe_call G_is_number_set (hr.mono (by decide)) (by rfl) m_is_number_set k_is_number_set b_is_number_set .nil pass0 (pa_cons (pv 2) (pa_cons (pe_glob (v := .int 24) (by rfl) m_LAMPS ⟨_, rfl⟩) pa_nil))))) (pw_or (pt_cmpR op_ne (pe_call G_lack_in (hr.mono (by decide)) (by rfl) m_lack_in k_lack_in b_lack_in .nil pass0 (pa_cons (pv 2) pa_nil)) pe_int (nomark _)) (pw_or1 (pt_cmpR (op_neD hr.units) (pe_call G_outside (hr.mono (by decide)) (by rfl) m_outside k_outside b_outside .nil pass0 (pa_cons (pv 2) (pa_cons (pv 4) pa_nil))) (pv 2) (nomark _)))))) (pss_one (ps_ret pe_bl)) pss_nil)
      (pss_one (ps_ret (pe_cmpR op_eq (pe_op op_mod (pe_callB call_len_seq (by rfl) T.n_len (by decide +kernel) (pa_cons (pe_lc (own := [("lamp", 5)]) (g := gName 5) rfl sc_is_fill_bar.nd (pi_tup (pv 2)) (blkOk_by (N := N_is_fill_bar) (sc := defScope s_is_fill_bar) (by decide +kernel)) (fun _ _ _ _ _ => (pg_name (i := 5) sc_is_fill_bar.nd rfl (Or.inl rfl))) (fun _ _ _ _ _ => (pts_one (pt_cmpR (kop_in_seq (K := K) rfl) (pv 5) (pv 3) (by rfl)))) (fun _ _ _ _ _ => (pv 5))) pa_nil)) pe_int) pe_int (nomark _)))))), ?_⟩
    refine q_tup (K := K) (Pt := fun xs H1 => ∃ x y, xs = [x, y] ∧ IsT K (ni (K17.lotOf n)) x H1 ∧ IsT K (ni (K17.lotOf g)) y H1) (ep_tup2 (ep_calln (ea_of (ea_cons (ev_var rfl) ea_nil)) fun us H1 e1 eu Q1 q1 => by rw [eu]; exact sp_tup (mo_lot _ _ _ e1 hv) q1) mo_T (ep_calln (ea_of (ea_cons (ev_var rfl) ea_nil)) fun us H1 e1 eu Q1 q1 => by rw [eu]; exact sp_tup (mo_lot _ _ _ e1 hu) q1) mo_T) fun us H1 e1 _ hx => ?_
    obtain ⟨x1, y1, rfl, ⟨p, rfl, hp⟩, r, rfl, hr2⟩ := hx
    refine ⟨_, _, rfl, _, _, rfl, rfl, ?_⟩
    refine q_when (b := !numSet t || (!(K17.lackN (maskT t) == 0) || !(K17.outs (maskT t) g == maskT t))) (et_or (et_not (et_B (ev_call (ea_cons (ev_var rfl) (ea_cons ev_c ea_nil)) fun H2 e2 Q2 q2 E2 => ⟨t, x, rfl, mo_th _ _ _ (e1.trans e2) ht, q2⟩))) fun hb => ?_) (fun hb H2 e2 => s_ret ev_c fun H3 e3 => ?_) (fun hb H2 e2 => ?_)
    · have hs : numSet t = true := by simpa using hb
      obtain ⟨a, rfl, ha⟩ := th_lot ht hs
      refine et_or (et_test (ev_is (ev_op (ev_call (ea_cons (ev_var rfl) ea_nil) fun H2 e2 Q2 q2 E2 => ⟨a, _, rfl, ex_t (e1.trans e2) ha, q2⟩) ev_c (rv_ne rfl)) ?_)) fun _ => et_test (ev_is (ev_neTT (ep_calln (ea_of (ea_cons (ev_var rfl) (ea_cons (ev_var rfl) ea_nil))) fun us H3 e3 eu Q3 q3 => ⟨a, r, maskT t, g, eu, ex_t (e1.trans e3) ha, ex_t e3 hr2, q3⟩) (ep_evi (ev_var rfl) fun H3 e3 => ⟨a, rfl, ex_t (e1.trans e3) ha⟩)) ?_)
      · rw [vne]
        congr 1
        by_cases z : K17.lackN (maskT t) = 0 <;> simp [z]
      · congr 1
        by_cases z : K17.outs (maskT t) g = maskT t
        · simp [z]
        · have z2 : ¬ K17.lotOf (K17.outs (maskT t) g) = K17.lotOf (maskT t) := fun y => z (K17.lotOf_inj (outs_lt (maskT_lt t)) (maskT_lt t) y)
          simp [z, z2]
    · have e4 : barQ n g t = false := by
        unfold barQ
        cases h1 : numSet t
        · rfl
        · cases h2 : (K17.lackN (maskT t) == 0)
          · rfl
          · cases h3 : (K17.outs (maskT t) g == maskT t)
            · rfl
            · rw [h1, h2, h3] at hb; cases hb
      rw [e4] at q
      exact q H3 ((e1.trans e2).trans e3)
    · have h1 : numSet t = true := by cases h : numSet t <;> simp [h] at hb ⊢
      have h2 : (K17.lackN (maskT t) == 0) = true := by
        rw [h1] at hb
        cases h : (K17.lackN (maskT t) == 0)
        · rw [h] at hb; cases hb
        · rfl
      have h3 : (K17.outs (maskT t) g == maskT t) = true := by
        rw [h1, h2] at hb
        cases h : (K17.outs (maskT t) g == maskT t)
        · rw [h] at hb; cases hb
        · rfl
      obtain ⟨a, rfl, ha⟩ := th_lot ht h1
      have e4 : barQ n g t = K17.oddb 24 (maskT t &&& n) := by
        unfold barQ
        rw [h1, h2, h3]
        rfl
      rw [e4, K17.cnt_odd] at q
      have el : ((ni ((K17.lotOf (maskT t)).filter fun i => decide (i ∈ K17.lotOf n))).length : Int) = ((K17.cnt 24 (maskT t &&& n) : Nat) : Int) := by rw [ni_len, lot_both, K17.lotOf_len]
      refine s_ret (ev_is (ev_op (ev_op (ev_lenL (el_T (l := K17.lotOf (maskT t)) (em := fun (n : Nat) => V.int (n : Int)) (fun i => decide (i ∈ K17.lotOf n)) (fun i => V.int (i : Int)) (ev_var rfl) (ex_t (e1.trans e2) ha) (Nat.le_trans (lotOf_len24 _) (by decide)) (fun _ => rfl) (fun x H3 e3 _ => et_test (ev_inT (ev_var rfl) (ev_var rfl) (ex_t (e2.trans e3) hp))) (fun x H3 e3 _ _ => ev_var rfl))) ev_c (rv_I (by decide))) ev_c (rv_eq rfl)) ?_) fun H3 e3 => q H3 ((e1.trans e2).trans e3)
      have el2 : ((((K17.lotOf (maskT t)).filter fun i => decide (i ∈ K17.lotOf n)).map fun (n : Nat) => V.int (n : Int)).length : Int) = ((K17.cnt 24 (maskT t &&& n) : Nat) : Int) := el
      rw [el2]
      congr 1
      exact decide_eq_decide.mpr ⟨fun z => by have := V.int.inj z; omega, fun z => by congr 1; omega⟩
end
end KD
set_option Elab.async false
set_option linter.all false
set_option maxRecDepth 100000
set_option maxHeartbeats 4000000
/-! The walk: the law's own small defs. -/
namespace KD
open PySem PySem.Spec PyProof.Rows L2 Evl KW KR KT
section
variable {K : PySem.W.Frag} {σ : L2.St} {H : Hp} {ta tb te tx : TE} {t : TT}
theorem ev_eqLI {l m : List Int} (ha : EvP ta σ H (IsL K (l.map V.int))) (hb : EvP tb σ H (IsL K (m.map V.int))) : Ev (tOp (rEqD K) ta tb) σ H (.bl (decide (l = m))) := ev_ep (ep_op ha mo_L hb fun x y H1 e ⟨a, hx, h1⟩ ⟨b, hy, h2⟩ Q q => by
  subst hx hy
  refine ⟨_, _, .lst h1 (dp_all l), .lst h2 (dp_all m), shaped_lst _, shaped_lst _, q _ H1 (Ex.refl _) ?_⟩
  show V.bl _ = V.bl _
  rw [PyData.eqv, eqvAll_ints])
theorem el_listT {xs : List V} (h : EvP te σ H (IsT K xs)) : EvL (tCB (rListS K) (tCons te tNil)) σ H xs := fun H1 e Q q =>
  h H1 e _ fun v H2 e2 ⟨a, ev, ha⟩ => ⟨a, xs, by rw [ev], .inr ha, fun l hl => q l _ (fresh_back e2 hl) (e2.trans (Ex.new hl)) upd_same⟩
end
section
variable {P : Program} {w : World} {K : PySem.W.Frag} {mg : Str → Option Value} {base : Heap} {f : Addr} {fd : FuncData} {C : Addr}
/-! ### lists for tuples -/
theorem ok__law_listsI (F : Fun K "_law_lists" "_law_lists" s__law_lists f fd) (T : Txt K mg) (m__law_lists : mg "_law_lists" = some (.ref f)) (b__law_lists : Binds K fd ["_law_matter"] []) : FnOk P w K mg base CX0 1 f fd ["_law_matter"] spTupI := by
  have G__law_lists : FnOk P w K mg base CX0 0 f fd ["_law_matter"] (fun _ _ _ _ => False) := fnFalse
  have k__law_lists := F.kp
  refine F.ok sc__law_lists (fun vs H Q E h => ?_) (fun cdv A outer s H vs Q E hr h => ?_)
  · obtain ⟨i, rfl, _⟩ := h; rfl
  · obtain ⟨i, rfl, q⟩ := h
    refine ⟨_, (pss_one (ps_ret (pe_ifExp (pt_val (pe_callB call_isiT (by rfl) T.n_isinstance (by decide +kernel) (pa_cons (pv 0) (pa_cons (pe_tup (pa_cons (pe_bltn (v := .ty "list") (by rfl) T.n_list (by decide +kernel) rfl) (pa_cons (pe_bltn (v := .ty "tuple") (by rfl) T.n_tuple (by decide +kernel) rfl) pa_nil))) pa_nil)))) (pe_lc (own := [("_law_bit", 1)]) (g := gName 1) rfl sc__law_lists.nd (pi_tup (pv 0)) (blkOk_by (N := N__law_lists) (sc := defScope s__law_lists) (by decide +kernel)) (fun _ _ _ _ _ => (pg_name (i := 1) sc__law_lists.nd rfl (Or.inl rfl))) (fun _ _ _ _ _ => pts_nil) (fun _ _ _ _ _ => (pe_call G__law_lists (hr.mono (by decide)) (by rfl) m__law_lists k__law_lists b__law_lists .nil pass0 (pa_cons (pv 1) pa_nil)))) (pv 0)))), ?_⟩
    exact s_ret (ev_if (b := false) (et_B (ev_isi2 (ev_var rfl) (fun _ _ => .base (.int i)) kit2_int)) (fun z => nomatch z) (fun _ => ev_var rfl)) q
/-- a list that was not there before -/
def IsLn (K : PySem.W.Frag) (H0 : Hp) (xs : List V) : VP := fun v G => ∃ p, v = .ref p ∧ H0 p = none ∧ SqL K G p xs
theorem mo_Ln {H0 : Hp} {xs : List V} : Mo (IsLn K H0 xs) := fun _ _ _ e ⟨p, h1, h2, h3⟩ => ⟨p, h1, h2, ex_l e h3⟩
theorem ep_Ln {σ : L2.St} {H : Hp} {te : TE} {xs : List V} (h : EvL te σ H xs) : EvP te σ H (IsLn K H xs) := fun H1 e Q q => h H1 e Q fun p H2 hn e2 hp => q (.ref p) H2 e2 ⟨p, rfl, fresh_back e hn, sq_of hp⟩
def spLists (K : PySem.W.Frag) : Sp := fun vs H Q _ => ∃ (a : Addr) (l : List Nat), vs = [.ref a] ∧ SqT K H a (ni l) ∧ l.length ≤ 1000 ∧ Ret (IsLn K H (ni l)) H Q
theorem ok__law_lists (F : Fun K "_law_lists" "_law_lists" s__law_lists f fd) (T : Txt K mg) (m__law_lists : mg "_law_lists" = some (.ref f)) (b__law_lists : Binds K fd ["_law_matter"] []) : FnOk P w K mg base CX0 2 f fd ["_law_matter"] (spLists K) := by
  have G__law_lists : FnOk P w K mg base CX0 1 f fd ["_law_matter"] spTupI := ok__law_listsI F T m__law_lists b__law_lists
  have k__law_lists := F.kp
  refine F.ok sc__law_lists (fun vs H Q E h => ?_) (fun cdv A outer s H vs Q E hr h => ?_)
  · obtain ⟨a, l, rfl, _⟩ := h; rfl
  · obtain ⟨a, l, rfl, hs, hl, q⟩ := h
    refine ⟨_, (pss_one (ps_ret (pe_ifExp (pt_val (pe_callB call_isiT (by rfl) T.n_isinstance (by decide +kernel) (pa_cons (pv 0) (pa_cons (pe_tup (pa_cons (pe_bltn (v := .ty "list") (by rfl) T.n_list (by decide +kernel) rfl) (pa_cons (pe_bltn (v := .ty "tuple") (by rfl) T.n_tuple (by decide +kernel) rfl) pa_nil))) pa_nil)))) (pe_lc (own := [("_law_bit", 1)]) (g := gName 1) rfl sc__law_lists.nd (pi_tup (pv 0)) (blkOk_by (N := N__law_lists) (sc := defScope s__law_lists) (by decide +kernel)) (fun _ _ _ _ _ => (pg_name (i := 1) sc__law_lists.nd rfl (Or.inl rfl))) (fun _ _ _ _ _ => pts_nil) (fun _ _ _ _ _ => (pe_call G__law_lists (hr.mono (by decide)) (by rfl) m__law_lists k__law_lists b__law_lists .nil pass0 (pa_cons (pv 1) pa_nil)))) (pv 0)))), ?_⟩
    refine s_retP (ep_if (b := true) (et_B (ev_isi2 (ev_var rfl) (fun _ e => ty_T (ex_t e hs)) kit2_tuple)) (fun _ => ?_) (fun z => nomatch z)) q
    exact ep_Ln (el_Tm (l := l) (em := fun (n : Nat) => V.int (n : Int)) (fun n => V.int (n : Int)) (ev_var rfl) hs (by omega) (fun _ => rfl) (fun x H1 e1 hx => ev_call (ea_cons (ev_var rfl) ea_nil) fun H2 e2 Q2 q2 E2 => ⟨_, rfl, q2⟩))
/-! ### a told value a set -/
def spIsSet (K : PySem.W.Frag) : Sp := fun vs H Q _ => ∃ t v, vs = [v, .int 24] ∧ ThOk K t v H ∧ RetV (.bl (numSet t)) H Q
theorem vI_isN : ∀ {xs : List V}, xs.all isN = true → (xs.map vI).map V.int = xs
  | [], _ => rfl
  | x :: r, h => by
    rw [List.all_cons, Bool.and_eq_true] at h
    have ih := vI_isN h.2
    cases x with
    | int i => show V.int i :: (r.map vI).map V.int = _; rw [ih]
    | _ => cases h.1
theorem flat_ints (l : List Int) : (l.map V.int).all flatV = true := by
  rw [List.all_map]
  exact List.all_eq_true.mpr fun _ _ => rfl
theorem inV_ints (l : List Int) (k : Int) : inV (.int k) (l.map V.int) = decide (k ∈ l) := by
  unfold inV
  rw [List.any_map]
  induction l with
  | nil => rfl
  | cons a r ih =>
    rw [List.any_cons, ih]
    show (eqV (.int a) (.int k) || _) = _
    rw [eqV_int]
    by_cases h : a = k
    · subst h; simp
    · have h2 : ¬ k = a := fun q => h q.symm
      simp [h, h2]
theorem isB_isN {m : Int} {x : V} (h : isB m x = true) : isN x = true := by
  cases x with
  | int i => rfl
  | _ => cases h
theorem set_same (ns : List Int) : decide (vi ((List.range 24).filter fun (k : Nat) => decide ((k : Int) ∈ ns)) = ns) = numSet (.tup (ns.map V.int)) := by
  have el : ns.map V.int |>.map vI |> (· = ns) := by
    rw [List.map_map]
    exact List.map_id ns
  cases hq : numSet (.tup (ns.map V.int)) with
  | true =>
    have h1 := numSet_lot hq
    refine decide_eq_true ?_
    have h2 : ns = vi (K17.lotOf (maskT (.tup (ns.map V.int)))) := by
      rw [ni_eq] at h1
      have h3 : (ns.map V.int).map vI = ((vi (K17.lotOf (maskT (.tup (ns.map V.int))))).map V.int).map vI := by
        have := congrArg (List.map vI) h1
        exact this
      rw [el, List.map_map] at h3
      exact h3.trans (List.map_id _)
    have h4 : ((List.range 24).filter fun (k : Nat) => decide ((k : Int) ∈ ns)) = K17.lotOf (maskT (.tup (ns.map V.int))) := by
      unfold K17.lotOf
      refine List.filter_congr fun k hk => ?_
      have hk2 := List.mem_range.mp hk
      generalize maskT (.tup (ns.map V.int)) = m at *
      have h5 : ((k : Int) ∈ ns) ↔ k ∈ K17.lotOf m := by
        rw [h2]
        unfold vi
        rw [List.mem_map]
        constructor
        · rintro ⟨j, hj, e⟩
          have : j = k := by omega
          rwa [this] at hj
        · intro hj; exact ⟨k, hj, rfl⟩
      rw [K17.mem_lotOf] at h5
      cases hb : m.testBit k
      · exact decide_eq_false fun z => by have := (h5.mp z).2; rw [hb] at this; cases this
      · exact decide_eq_true (h5.mpr ⟨hk2, hb⟩)
    rw [h4]
    exact h2.symm
  | false =>
    refine decide_eq_false fun z => ?_
    have h1 : numSet (.tup (ns.map V.int)) = true := by
      show ((ns.map V.int).all (isB 24) && asc ((ns.map V.int).map vI)) = true
      rw [Bool.and_eq_true]
      constructor
      · rw [List.all_map]
        refine List.all_eq_true.mpr fun k hk => ?_
        rw [← z] at hk
        unfold vi at hk
        obtain ⟨j, hj, rfl⟩ := List.mem_map.mp hk
        rw [List.mem_filter, List.mem_range] at hj
        show (decide (0 ≤ (j : Int)) && decide ((j : Int) < 24)) = true
        have h6 := hj.1
        rw [decide_eq_true (by omega), decide_eq_true (by omega)]
        rfl
      · rw [el]
        have up : ns.Pairwise (· < ·) := by
          rw [← z]
          unfold vi
          exact List.Pairwise.map _ (fun a b (h : a < b) => by show (a : Int) < (b : Int); omega) (List.Pairwise.filter _ List.pairwise_lt_range)
        clear z hq el
        induction ns with
        | nil => rfl
        | cons a r ih =>
          cases r with
          | nil => rfl
          | cons b r =>
            rw [List.pairwise_cons] at up
            show (decide (a < b) && asc (b :: r)) = true
            rw [ih up.2, decide_eq_true (up.1 b List.mem_cons_self)]
            rfl
    rw [hq] at h1
    cases h1
theorem ok__law_is_set (F : Fun K "_law_is_set" "_law_is_set" s__law_is_set f fd) (T : Txt K mg) : FnOk P w K mg base CX0 1 f fd ["_law_own", "_law_below_so"] (spIsSet K) := by
  refine F.ok sc__law_is_set (fun vs H Q E h => ?_) (fun cdv A outer s H vs Q E hr h => ?_)
  · obtain ⟨t, v, rfl, _⟩ := h; rfl
  · obtain ⟨t, v, rfl, ht, q⟩ := h
    refine ⟨_, (pss_cons (ps_if (PW.pt (pw_or (pt_not (pt_val (pe_callB call_isi (by rfl) T.n_isinstance (by decide +kernel) (pa_cons (pv 0) (pa_cons (pe_bltn (v := .ty "tuple") (by rfl) T.n_tuple (by decide +kernel) rfl) pa_nil))))) (pw_or1 (pt_not (pt_val (pe_callB (cr_all rfl) (by rfl) T.n_all (by decide +kernel) (pa_cons (pe_lc (own := [("_law_bit", 2)]) (g := gName 2) rfl sc__law_is_set.nd (pi_tup (pv 0)) (blkOk_by (N := N__law_is_set) (sc := defScope s__law_is_set) (by decide +kernel)) (fun _ _ _ _ _ => (pg_name (i := 2) sc__law_is_set.nd rfl (Or.inl rfl))) (fun _ _ _ _ _ => pts_nil) (fun _ _ _ _ _ => (pe_and (pe_callB ((kcall_isi (K := K) rfl)) (by rfl) T.n_isinstance (by decide +kernel) (pa_cons (pv 2) (pa_cons (pe_bltn (v := .ty "int") (by rfl) T.n_int (by decide +kernel) rfl) pa_nil))) (pe_one (pe_not (pe_callB ((kcall_isi (K := K) rfl)) (by rfl) T.n_isinstance (by decide +kernel) (pa_cons (pv 2) (pa_cons (pe_bltn (v := .ty "bool") (by rfl) T.n_bool (by decide +kernel) rfl) pa_nil)))))))) pa_nil))))))) (pss_one (ps_ret pe_bl)) pss_nil)
      (pss_one (ps_ret (pe_cmpR (op_eqD hr.units) (pe_lc (own := [("_law_k", 3)]) (g := gName 3) rfl sc__law_is_set.nd (pi_range1 (by rfl) T.n_range (pa_cons (pv 1) pa_nil)) (blkOk_by (N := N__law_is_set) (sc := defScope s__law_is_set) (by decide +kernel)) (fun _ _ _ _ _ => (pg_name (i := 3) sc__law_is_set.nd rfl (Or.inl rfl))) (fun _ _ _ _ _ => (pts_one (pt_cmpR (kop_in_seq (K := K) rfl) (pv 3) (pv 0) (by rfl)))) (fun _ _ _ _ _ => (pv 3))) (pe_callTy call_list_of (by rfl) T.n_list (by decide +kernel) (pa_cons (pv 0) pa_nil)) (nomark _))))), ?_⟩
    cases t with
    | non =>
      obtain rfl : v = .non := ht
      exact q_when (b := true) (et_or (a := true) (b := true) (et_not (a := false) (et_B (ev_isi (tn := "NoneType") (ev_var rfl) (fun _ _ => .base .non) kNT))) (fun z => nomatch z)) (fun _ H1 e1 => s_ret ev_c fun H2 e2 => q H2 (e1.trans e2)) (fun z => nomatch z)
    | lst xs =>
      obtain ⟨a, rfl, hs, _⟩ := ht
      exact q_when (b := true) (et_or (a := true) (b := true) (et_not (a := false) (et_B (ev_isi (tn := "list") (ev_var rfl) (fun _ e => ty_L (ex_l e hs)) kLT))) (fun z => nomatch z)) (fun _ H1 e1 => s_ret ev_c fun H2 e2 => q H2 (e1.trans e2)) (fun z => nomatch z)
    | tup xs =>
      obtain ⟨a, rfl, hs, hsc, hl⟩ := ht
      have e0 : (xs.map isN).all id = xs.all isN := by rw [List.all_map]; rfl
      refine q_when (b := !(xs.all isN)) (et_or (a := false) (et_not (a := true) (et_B (ev_isi (tn := "tuple") (ev_var rfl) (fun _ e => ty_T (ex_t e hs)) kTT))) (fun _ => et_not (et_B (ev_is (ev_all (bs := xs.map isN) ?_) (by rw [e0]))))) (fun hb H1 e1 => s_ret ev_c fun H2 e2 => ?_) (fun hb H1 e1 => ?_)
      · rw [List.map_map]
        refine el_Tm (l := xs) (em := id) (fun x => V.bl (isN x)) (ev_var rfl) (by rw [List.map_id]; exact hs) (by omega) (fun _ => rfl) fun x H1 e1 hx => ?_
        have hx1 := List.all_eq_true.mp hsc x hx
        cases x with
        | int i => exact ev_andV (a := true) (b := true) (ev_isi (tn := "int") (ev_var rfl) (fun _ _ => .base (.int i)) kII) fun _ => ev_notV (a := false) (ev_isi (tn := "int") (ev_var rfl) (fun _ _ => .base (.int i)) kIB)
        | bl b => exact ev_andV (a := true) (b := false) (ev_isi (tn := "bool") (ev_var rfl) (fun _ _ => .base (.bl b)) kBI) fun _ => ev_notV (a := true) (ev_isi (tn := "bool") (ev_var rfl) (fun _ _ => .base (.bl b)) kBB)
        | str z => exact ev_andV (a := false) (b := true) (ev_isi (tn := "str") (ev_var rfl) (fun _ _ => .base (.str z)) kSI) fun z => nomatch z
        | _ => cases hx1
      · have e1' : xs.all isN = false := by simpa using hb
        have z : numSet (.tup xs) = false := by
          show (xs.all (isB 24) && _) = false
          cases h : xs.all (isB 24)
          · rfl
          · have : xs.all isN = true := List.all_eq_true.mpr fun x hx => isB_isN (List.all_eq_true.mp h x hx)
            rw [e1'] at this
            cases this
        rw [z] at q
        exact q H2 (e1.trans e2)
      · have e1' : xs.all isN = true := by simpa using hb
        have ex := vI_isN e1'
        have z := set_same (xs.map vI)
        rw [ex] at z
        rw [← z] at q
        have hs' : SqT K H1 a ((xs.map vI).map V.int) := by rw [ex]; exact ex_t e1 hs
        refine s_ret (ev_eqLI (K := K) ?_ (ep_L (el_listT (ep_evi (P := IsT K ((xs.map vI).map V.int)) (ev_var rfl) fun H2 e2 => ⟨a, rfl, ex_t e2 hs'⟩)))) fun H2 e2 => q H2 (e1.trans e2)
        have l1 := el_R (te := tVar 3) (t := tTest (tOp (rIn K false) (tVar 3) (tVar 0))) (σ := (L2.start N__law_is_set [V.ref a, V.int 24])) (H := H1) (n := 24) (ta := tCons (tVar 1) tNil) (j := 3) (vs := [3]) (fun k => decide ((k : Int) ∈ xs.map vI)) (fun k => V.int (k : Int)) (ea_cons (ev_var rfl) ea_nil) (by decide) (fun _ => rfl) (fun i H2 e2 hi => et_test (by rw [← inV_ints]; exact ev_op (ev_var rfl) (ev_var rfl) (rv_isT (ex_t e2 hs') rfl (flat_ints _)))) (fun i H2 e2 hi _ => ev_var rfl)
        have e3 : ((List.range 24).filter (fun (k : Nat) => decide ((k : Int) ∈ xs.map vI))).map (fun (k : Nat) => V.int (k : Int)) = (vi ((List.range 24).filter fun (k : Nat) => decide ((k : Int) ∈ xs.map vI))).map V.int := by
          unfold vi
          rw [List.map_map]
          rfl
        rw [e3] at l1
        exact ep_L l1
def spIsLot (K : PySem.W.Frag) : Sp := fun vs H Q _ => ∃ t v, vs = [v] ∧ ThOk K t v H ∧ RetV (.bl (numSet t)) H Q
theorem ok__law_is_lot (F : Fun K "_law_is_lot" "_law_is_lot" s__law_is_lot f fd) (C1 : Cal P w K mg base CX0 1 "_law_is_set" ["_law_own", "_law_below_so"] (spIsSet K)) : FnOk P w K mg base CX0 2 f fd ["_law_own"] (spIsLot K) := by
  obtain ⟨f1, fd1, G__law_is_set, m__law_is_set, k__law_is_set, b__law_is_set⟩ := C1.ex
  refine F.ok sc__law_is_lot (fun vs H Q E h => ?_) (fun cdv A outer s H vs Q E hr h => ?_)
  · obtain ⟨t, v, rfl, _⟩ := h; rfl
  · obtain ⟨t, v, rfl, ht, q⟩ := h
    refine ⟨_, (pss_one (ps_ret (pe_call G__law_is_set (hr.mono (by decide)) (by rfl) m__law_is_set k__law_is_set b__law_is_set .nil pass0 (pa_cons (pv 0) (pa_cons pe_int pa_nil))))), ?_⟩
    exact s_ret (ev_call (ea_cons (ev_var rfl) (ea_cons ev_c ea_nil)) fun H1 e1 Q1 q1 E1 => ⟨t, v, rfl, mo_th _ _ _ e1 ht, q1⟩) q
/-! ### bits -/
theorem sum_bits (n : Nat) : ∀ k, (((List.range k).filter (n.testBit ·)).map fun i => ((2 ^ i : Nat) : Int)).sum = ((n % 2 ^ k : Nat) : Int)
  | 0 => by simp [Nat.mod_one]
  | k + 1 => by
    rw [List.range_succ, List.filter_append, List.map_append, List.sum_append, sum_bits n k]
    have e : n % 2 ^ (k + 1) = n % 2 ^ k + (if n.testBit k then 2 ^ k else 0) := by
      rw [Nat.pow_succ, Nat.mod_mul, K17.bit_mod]
      cases n.testBit k <;> simp
    rw [e]
    cases h : n.testBit k <;> simp [h]
def spBits (K : PySem.W.Frag) : Sp := fun vs H Q _ => ∃ (a : Addr) (n : Nat), vs = [.ref a] ∧ SqT K H a (ni (K17.lotOf n)) ∧ n < 2 ^ 24 ∧ RetV (.int (n : Int)) H Q
theorem ok__law_bits (F : Fun K "_law_bits" "_law_bits" s__law_bits f fd) (T : Txt K mg) : FnOk P w K mg base CX0 1 f fd ["_law_lot_so"] (spBits K) := by
  refine F.ok sc__law_bits (fun vs H Q E h => ?_) (fun cdv A outer s H vs Q E hr h => ?_)
  · obtain ⟨a, n, rfl, _⟩ := h; rfl
  · obtain ⟨a, n, rfl, hs, hn, q⟩ := h
    refine ⟨_, (pss_one (ps_ret (pe_callB (cr_sum rfl) (by rfl) T.n_sum (by decide +kernel) (pa_cons (pe_lc (own := [("_law_own", 1)]) (g := gName 1) rfl sc__law_bits.nd (pi_tup (pv 0)) (blkOk_by (N := N__law_bits) (sc := defScope s__law_bits) (by decide +kernel)) (fun _ _ _ _ _ => (pg_name (i := 1) sc__law_bits.nd rfl (Or.inl rfl))) (fun _ _ _ _ _ => pts_nil) (fun _ _ _ _ _ => (pe_op op_shl pe_int (pv 1)))) pa_nil)))), ?_⟩
    have e : ((K17.lotOf n).map fun i => ((2 ^ i : Nat) : Int)).sum = (n : Int) := by
      have := sum_bits n 24
      rw [Nat.mod_eq_of_lt hn] at this
      exact this
    rw [← e] at q
    refine s_ret (ev_sum (ns := (K17.lotOf n).map fun i => ((2 ^ i : Nat) : Int)) ?_) q
    rw [List.map_map]
    refine el_Tm (l := K17.lotOf n) (em := fun (n : Nat) => V.int (n : Int)) (V.int ∘ fun i => ((2 ^ i : Nat) : Int)) (ev_var rfl) hs (Nat.le_trans (lotOf_len24 n) (by decide)) (fun _ => rfl) (fun x H1 e1 hx => ev_is (ev_op ev_c (ev_var rfl) (rv_I (C := CPow) ⟨by omega, by have := (K17.mem_lotOf.mp hx).1; omega, by decide⟩)) ?_)
    show V.int (1 * 2 ^ ((x : Int)).toNat) = V.int ((2 ^ x : Nat) : Int)
    rw [Int.toNat_natCast, Int.one_mul]
    congr 1
def spLot (K : PySem.W.Frag) : Sp := fun vs H Q _ => ∃ n : Nat, vs = [.int (n : Int)] ∧ Ret (IsT K (ni (K17.lotOf n))) H Q
theorem tru_bit (n i : Nat) : ((Builtin.bitAnd ((n : Int) / 2 ^ ((i : Int)).toNat) 1) != 0) = n.testBit i := by
  have e : ((n : Int) / 2 ^ ((i : Int)).toNat) = ((n / 2 ^ i : Nat) : Int) := by
    rw [Int.toNat_natCast, Int.natCast_ediv, Int.natCast_pow]
    rfl
  have e1 : (1 : Int) = ((1 : Nat) : Int) := rfl
  rw [e, e1, bitAnd_nat, Nat.and_one_is_mod, K17.bit_mod]
  cases n.testBit i <;> rfl
theorem ok__law_lot (F : Fun K "_law_lot" "_law_lot" s__law_lot f fd) (T : Txt K mg) : FnOk P w K mg base CX0 1 f fd ["_law_number_so"] (spLot K) := by
  refine F.ok sc__law_lot (fun vs H Q E h => ?_) (fun cdv A outer s H vs Q E hr h => ?_)
  · obtain ⟨n, rfl, _⟩ := h; rfl
  · obtain ⟨n, rfl, q⟩ := h
    refine ⟨_, (pss_one (ps_ret (pe_callTy call_tuple_of (by rfl) T.n_tuple (by decide +kernel) (pa_cons (pe_lc (own := [("_law_own", 1)]) (g := gName 1) rfl sc__law_lot.nd (pi_range1 (by rfl) T.n_range (pa_cons pe_int pa_nil)) (blkOk_by (N := N__law_lot) (sc := defScope s__law_lot) (by decide +kernel)) (fun _ _ _ _ _ => (pg_name (i := 1) sc__law_lot.nd rfl (Or.inl rfl))) (fun _ _ _ _ _ => (pts_one (kpt_truth (K := K) rfl (pe_op op_and (pe_op op_shr (pv 0) (pv 1)) pe_int) (by intro _; rfl)))) (fun _ _ _ _ _ => (pv 1))) pa_nil)))), ?_⟩
    exact s_retP (ep_U (eu_tuple (el_R (n := 24) (fun i => n.testBit i) (fun i => V.int (i : Int)) (ea_cons ev_c ea_nil) (by decide) (fun _ => rfl) (fun i H1 e1 hi => et_is (et_int (ev_op (ev_op (ev_var rfl) (ev_var rfl) (rv_I (by omega))) ev_c rv_I0)) (tru_bit n i)) (fun i H1 e1 hi _ => ev_var rfl)))) q
def spLotSum (K : PySem.W.Frag) : Sp := fun vs H Q _ => ∃ (p q : Addr) (a b : Nat), vs = [.ref p, .ref q] ∧ SqT K H p (ni (K17.lotOf a)) ∧ SqT K H q (ni (K17.lotOf b)) ∧ Ret (IsT K (ni (K17.lotOf (a ^^^ b)))) H Q
theorem ok__law_lot_sum (F : Fun K "_law_lot_sum" "_law_lot_sum" s__law_lot_sum f fd) (T : Txt K mg) : FnOk P w K mg base CX0 1 f fd ["_law_one_so", "_law_two_so"] (spLotSum K) := by
  refine F.ok sc__law_lot_sum (fun vs H Q E h => ?_) (fun cdv A outer s H vs Q E hr h => ?_)
  · obtain ⟨p, q, a, b, rfl, _⟩ := h; rfl
  · obtain ⟨p, q, a, b, rfl, hp, hq, k⟩ := h
    refine ⟨_, (pss_one (ps_ret (pe_callTy call_tuple_of (by rfl) T.n_tuple (by decide +kernel) (pa_cons (pe_lc (own := [("_law_own", 2)]) (g := gName 2) rfl sc__law_lot_sum.nd (pi_range1 (by rfl) T.n_range (pa_cons pe_int pa_nil)) (blkOk_by (N := N__law_lot_sum) (sc := defScope s__law_lot_sum) (by decide +kernel)) (fun _ _ _ _ _ => (pg_name (i := 2) sc__law_lot_sum.nd rfl (Or.inl rfl))) (fun _ _ _ _ _ => (pts_one (pt_cmpR op_ne (pe_cmpR (kop_in_seq (K := K) rfl) (pv 2) (pv 0) (by rfl)) (pe_cmpR (kop_in_seq (K := K) rfl) (pv 2) (pv 1) (by rfl)) (nomark _)))) (fun _ _ _ _ _ => (pv 2))) pa_nil)))), ?_⟩
    refine s_retP (ep_U (eu_tuple (el_R (n := 24) (fun i => (a ^^^ b).testBit i) (fun i => V.int (i : Int)) (ea_cons ev_c ea_nil) (by decide) (fun _ => rfl) (fun i H1 e1 hi => et_test (ev_is (ev_op (ev_inT (ev_var rfl) (ev_var rfl) (ex_t e1 hp)) (ev_inT (ev_var rfl) (ev_var rfl) (ex_t e1 hq)) (rv_ne rfl)) ?_)) (fun i H1 e1 hi _ => ev_var rfl)))) k
    rw [bdec]
    have h1 : decide (i ∈ K17.lotOf a) = a.testBit i := by
      cases h : a.testBit i
      · exact decide_eq_false fun z => by have := (K17.mem_lotOf.mp z).2; rw [h] at this; cases this
      · exact decide_eq_true (K17.mem_lotOf.mpr ⟨hi, h⟩)
    have h2 : decide (i ∈ K17.lotOf b) = b.testBit i := by
      cases h : b.testBit i
      · exact decide_eq_false fun z => by have := (K17.mem_lotOf.mp z).2; rw [h] at this; cases this
      · exact decide_eq_true (K17.mem_lotOf.mpr ⟨hi, h⟩)
    rw [h1, h2, Nat.testBit_xor]
    cases a.testBit i <;> cases b.testBit i <;> rfl
def spIsOne (K : PySem.W.Frag) : Sp := fun vs H Q _ => ∃ (g : Addr) (v : V) (l : List Nat) (t : Thing), vs = [.ref g, v] ∧ SqL K H g (ni l) ∧ ThOk K t v H ∧ RetV (.bl (numSet t && decide (maskT t ∈ l))) H Q
theorem ev_inL {σ : L2.St} {H : Hp} {ta tb : TE} {n : Nat} {p : Addr} {l : List Nat} (ha : Ev ta σ H (.int (n : Int))) (hb : Ev tb σ H (.ref p)) (hs : SqL K H p (ni l)) : Ev (tOp (rIn K false) ta tb) σ H (.bl (decide (n ∈ l))) := by
  rw [← inV_ni]
  exact ev_op ha hb (rv_isL hs rfl (flat_ni l))
theorem ok__law_is_one (F : Fun K "_law_is_one" "_law_is_one" s__law_is_one f fd) (C1 : Cal P w K mg base CX0 2 "_law_is_lot" ["_law_own"] (spIsLot K)) (C2 : Cal P w K mg base CX0 1 "_law_bits" ["_law_lot_so"] (spBits K)) : FnOk P w K mg base CX0 3 f fd ["_law_goods", "_law_own"] (spIsOne K) := by
  obtain ⟨f1, fd1, G__law_is_lot, m__law_is_lot, k__law_is_lot, b__law_is_lot⟩ := C1.ex
  obtain ⟨f2, fd2, G__law_bits, m__law_bits, k__law_bits, b__law_bits⟩ := C2.ex
  refine F.ok sc__law_is_one (fun vs H Q E h => ?_) (fun cdv A outer s H vs Q E hr h => ?_)
  · obtain ⟨g, v, l, t, rfl, _⟩ := h; rfl
  · obtain ⟨g, v, l, t, rfl, hg, ht, q⟩ := h
    refine ⟨_, (pss_one (ps_ret (pe_and (pe_call G__law_is_lot (hr.mono (by decide)) (by rfl) m__law_is_lot k__law_is_lot b__law_is_lot .nil pass0 (pa_cons (pv 1) pa_nil)) (pe_one (pe_cmpR op_in_seq (pe_call G__law_bits (hr.mono (by decide)) (by rfl) m__law_bits k__law_bits b__law_bits .nil pass0 (pa_cons (pv 1) pa_nil)) (pv 0) (by rfl)))))), ?_⟩
    refine s_ret (ev_andV (ev_call (ea_cons (ev_var rfl) ea_nil) fun H1 e1 Q1 q1 E1 => ⟨t, v, rfl, mo_th _ _ _ e1 ht, q1⟩) fun hb => ?_) q
    obtain ⟨a, rfl, ha⟩ := th_lot ht hb
    exact ev_inL (ev_call (ea_cons (ev_var rfl) ea_nil) fun H1 e1 Q1 q1 E1 => ⟨a, _, rfl, ex_t e1 ha, maskT_lt t, q1⟩) (ev_var rfl) hg
def spMany (K : PySem.W.Frag) : Sp := fun vs H Q _ => ∃ (a : Addr) (n : Nat), vs = [.ref a, .int (n : Int)] ∧ SqL K H a (ni K17.tallyL) ∧ n < 2 ^ 24 ∧ RetV (.int (K17.many n : Int)) H Q
theorem ev_tally {σ : L2.St} {H : Hp} {ta tb : TE} {a : Addr} {n : Nat} (ha : Ev ta σ H (.ref a)) (hb : Ev tb σ H (.int (n : Int))) (hs : SqL K H a (ni K17.tallyL)) (hn : n < 2 ^ 24) :
    Ev (tOp (rI0 fun i j => .int (i + j)) (tOp (rIxL K) ta (tOp (rI0 fun i j => .int (Builtin.bitAnd i j)) tb (tC (.int 4095)))) (tOp (rIxL K) ta (tOp (rI (fun _ j => 0 ≤ j) fun i j => .int (i / 2 ^ j.toNat)) tb (tC (.int 12))))) σ H (.int (K17.many n : Int)) := by
  have e1 : Builtin.bitAnd (n : Int) 4095 = ((n &&& 4095 : Nat) : Int) := bitAnd_nat n 4095
  have e2 : (n : Int) / (2 : Int) ^ (12 : Int).toNat = ((n >>> 12 : Nat) : Int) := by
    rw [Nat.shiftRight_eq_div_pow, Int.natCast_ediv]
    rfl
  refine ev_is (ev_op (ev_op ha (ev_is (ev_op hb ev_c rv_I0) (by rw [e1])) (rv_ixL hs (atI_nat (ni_at (K17.tally_at K17.many_lo))))) (ev_op ha (ev_is (ev_op hb ev_c (rv_I (by decide))) (by rw [e2])) (rv_ixL hs (atI_nat (ni_at (K17.tally_at (K17.many_hi hn)))))) rv_I0) ?_
  unfold K17.many
  congr 1
theorem ok__law_many (F : Fun K "_law_many" "_law_many" s__law_many f fd) : FnOk P w K mg base CX0 1 f fd ["_law_tally_so", "_law_number_so"] (spMany K) := by
  refine F.ok sc__law_many (fun vs H Q E h => ?_) (fun cdv A outer s H vs Q E hr h => ?_)
  · obtain ⟨a, n, rfl, _⟩ := h; rfl
  · obtain ⟨a, n, rfl, hs, hn, q⟩ := h
    refine ⟨_, (pss_one (ps_ret (pe_op op_add (pe_ix ix_list (pv 0) (pe_op op_and (pv 1) pe_int) (fun _ _ => rfl)) (pe_ix ix_list (pv 0) (pe_op op_shr (pv 1) pe_int) (fun _ _ => rfl))))), ?_⟩
    exact s_ret (ev_tally (ev_var rfl) (ev_var rfl) hs hn) q
end
end KD
set_option Elab.async false
set_option linter.all false
set_option maxRecDepth 100000
set_option maxHeartbeats 4000000
/-! The walk: the law's board, what it hears, what it holds for the same. -/
namespace KD
open PySem PySem.Spec PyProof.Rows L2 Evl KW KR KT
/-! ### things one by one -/
def AllIn {α : Type} (R : α → VP) (ms : List α) (ys : List V) (H : Hp) : Prop := ys.length = ms.length ∧ ∀ (i : Nat) (m : α), ms[i]? = some m → ∃ y, ys[i]? = some y ∧ R m y H
section
variable {α : Type} {R : α → VP} {ms : List α} {ys : List V} {H H' : Hp}
theorem AllIn.nil : AllIn R [] [] H := ⟨rfl, fun i m h => by simp at h⟩
theorem AllIn.mono (mR : ∀ m, Mo (R m)) (e : Ex H H') (h : AllIn R ms ys H) : AllIn R ms ys H' := ⟨h.1, fun i m hm => by
  obtain ⟨y, h1, h2⟩ := h.2 i m hm
  exact ⟨y, h1, mR m _ _ _ e h2⟩⟩
theorem AllIn.cons {m : α} {y : V} (hy : R m y H) (h : AllIn R ms ys H) : AllIn R (m :: ms) (y :: ys) H := ⟨by rw [List.length_cons, List.length_cons, h.1], fun i q hq => by
  cases i with
  | zero =>
    have e : m = q := Option.some.inj hq
    subst e
    exact ⟨y, rfl, hy⟩
  | succ i => exact h.2 i q hq⟩
theorem AllIn.append {ms2 : List α} {ys2 : List V} (h : AllIn R ms ys H) (h2 : AllIn R ms2 ys2 H) : AllIn R (ms ++ ms2) (ys ++ ys2) H := ⟨by rw [List.length_append, List.length_append, h.1, h2.1], fun i q hq => by
  by_cases hi : i < ms.length
  · rw [List.getElem?_append_left hi] at hq
    obtain ⟨y, h3, h4⟩ := h.2 i q hq
    exact ⟨y, by rw [List.getElem?_append_left (by rw [h.1]; exact hi)]; exact h3, h4⟩
  · have hle : ms.length ≤ i := Nat.le_of_not_lt hi
    rw [List.getElem?_append_right hle] at hq
    obtain ⟨y, h3, h4⟩ := h2.2 _ q hq
    exact ⟨y, by rw [List.getElem?_append_right (by rw [h.1]; exact hle), h.1]; exact h3, h4⟩⟩
theorem AllIn.upd (sR : ∀ m v G l zs u, R m v G → G l = some (.lst zs) → R m v (L2.upd G l u)) {l : Addr} {zs : List V} {u : HO} (hl : H l = some (.lst zs)) (h : AllIn R ms ys H) : AllIn R ms ys (L2.upd H l u) := ⟨h.1, fun i m hm => by
  obtain ⟨y, h1, h2⟩ := h.2 i m hm
  exact ⟨y, h1, sR m _ _ _ _ _ h2 hl⟩⟩
end
section
variable {K : PySem.W.Frag} {σ : L2.St} {H : Hp} {ta tb te tx tl : TE} {t : TT} {D : Ends} {tu tz : TS} {g : TG}
def IsLots (K : PySem.W.Frag) (n : Nat) : VP := IsT K (ni (K17.lotOf n))
theorem st_T {xs : List V} {v : V} {G : Hp} {l : Addr} {zs : List V} {u : HO} (h : IsT K xs v G) (hl : G l = some (.lst zs)) : IsT K xs v (upd G l u) := by
  obtain ⟨a, h1, h2⟩ := h
  exact ⟨a, h1, sqT_upd h2 hl⟩
theorem ea_all {α : Type} {R : α → VP} : EvAP tNil σ H (fun vs G => AllIn R [] vs G) := fun H1 _ _ q => q [] H1 (Ex.refl H1) .nil
theorem ea_consAll {α : Type} {R : α → VP} {m : α} {ms : List α} {tr : TA} (mR : ∀ m, Mo (R m)) (h : EvP te σ H (R m)) (hr : EvAP tr σ H (fun vs G => AllIn R ms vs G)) : EvAP (tCons te tr) σ H (fun vs G => AllIn R (m :: ms) vs G) := fun H1 e _ q =>
  h H1 e _ fun x H2 e2 hx => hr H2 (e.trans e2) _ fun xs H3 e3 hxs => q _ H3 (e2.trans e3) (.cons (mR m _ _ _ e3 hx) hxs)
theorem ep_tupAll {α : Type} {R : α → VP} {ms : List α} {tr : TA} (mR : ∀ m, Mo (R m)) (h : EvAP tr σ H (fun vs G => AllIn R ms vs G)) (hl : ms.length ≤ 100000) : EvP (tTup tr) σ H (fun v G => ∃ a ys, v = .ref a ∧ SqT K G a ys ∧ AllIn R ms ys G) := fun H1 e Q q =>
  h H1 e _ fun xs H2 e2 hx => ⟨by rw [hx.1]; exact sz_of hl, fun p hp => q _ _ (e2.trans (Ex.new hp)) ⟨p, xs, rfl, st_of upd_same, hx.mono mR (Ex.new hp)⟩⟩
/-- for over a tuple, over a list told by a predicate -/
theorem q_forTP {Px : List V → Hp → Prop} (h : EvP tl σ H (fun v G => ∃ a xs, v = .ref a ∧ SqT K G a xs ∧ Px xs G)) (k : ∀ a xs H1, Ex H H1 → SqT K H1 a xs → Px xs H1 → ∃ Pv : Nat → L2.St → Hp → Prop, Pv 0 σ H1 ∧ (∀ i σ' G, Pv i σ' G → SqT K G a xs) ∧
    (∀ i x σ' G, xs[i]? = some x → Pv i σ' G → g x σ' G fun σ2 G2 => tu { D with nx := Pv (i + 1), ct := Pv (i + 1), bk := tz D } σ2 G2) ∧ ∀ σ' G, Pv xs.length σ' G → tz D σ' G) : tSeq (tFor (iTup K tl) g tu) tz D σ H :=
  h H (Ex.refl H) _ fun v H1 e ⟨a, xs, ev, hs, hx⟩ => by
    obtain ⟨Pv, h0, hm, hstep, hd⟩ := k a xs H1 e hs hx
    exact ⟨a, ev, ⟨xs, hs⟩, for_tup (D := { D with nx := tz D }) Pv h0 (fun i σ' G _ p => hm i σ' G p) hstep hd⟩
theorem q_forLP {Px : List V → Hp → Prop} (h : EvP tl σ H (fun v G => ∃ a xs, v = .ref a ∧ SqL K G a xs ∧ Px xs G)) (k : ∀ a xs H1, Ex H H1 → SqL K H1 a xs → Px xs H1 → ∃ Pv : Nat → L2.St → Hp → Prop, Pv 0 σ H1 ∧ (∀ i σ' G, Pv i σ' G → SqL K G a xs) ∧
    (∀ i x σ' G, xs[i]? = some x → Pv i σ' G → g x σ' G fun σ2 G2 => tu { D with nx := Pv (i + 1), ct := Pv (i + 1), bk := tz D } σ2 G2) ∧ ∀ σ' G, Pv xs.length σ' G → tz D σ' G) : tSeq (tFor (iList K tl) g tu) tz D σ H :=
  h H (Ex.refl H) _ fun v H1 e ⟨a, xs, ev, hs, hx⟩ => by
    obtain ⟨Pv, h0, hm, hstep, hd⟩ := k a xs H1 e hs hx
    exact ⟨a, ev, ⟨xs, hs⟩, for_list (D := { D with nx := tz D }) Pv h0 (fun i σ' G _ p => hm i σ' G p) hstep hd⟩
/-- for i, x in enumerate(a tuple) -/
theorem q_enumT {tr : TA} {xs : List V} {j j2 : Nat} (h : EvAP tr σ H (fun us G => ∃ a, us = [.ref a] ∧ SqT K G a xs)) (k : ∀ H1, Ex H H1 → ∃ Pv : Nat → L2.St → Hp → Prop, Pv 0 σ H1 ∧ (∀ i σ' G, Pv i σ' G → Ex H1 G) ∧
    (∀ i x σ' G G', xs[i]? = some x → Pv i σ' G → Ex G G' → tu { D with nx := Pv (i + 1), ct := Pv (i + 1), bk := tz D } ((σ'.set j (some (.int (i : Int)))).set j2 (some x)) G') ∧ ∀ σ' G, Pv xs.length σ' G → tz D σ' G) :
    tSeq (tFor (iEnumT K tr) (gTup K 2 (gCons (gName j) (gCons (gName j2) gNil))) tu) tz D σ H := h H (Ex.refl H) _ fun us H1 e ⟨a, eu, ha⟩ => by
  obtain ⟨Pv, h0, hm, hs, hd⟩ := k H1 e
  refine ⟨a, xs, eu, ha, for_it (D := { D with nx := tz D }) walk_enumT Pv h0 (fun i σ' G _ p => ex_t (hm i σ' G p) ha) (fun i v σ' G G' hi p hy => ?_) hd⟩
  obtain ⟨T, x, y, rfl, hT, rfl, hx, hy2⟩ := hy
  obtain rfl : V.int (i : Nat) = x := Option.some.inj hx
  exact ⟨T, _, rfl, .inl (.inl upd_same), rfl, _, _, rfl, _, _, rfl, rfl, hs i y σ' G _ hy2 p (Ex.new hT)⟩
/-- for i, x in enumerate(a list) -/
theorem q_enumL {tr : TA} {xs : List V} {j j2 : Nat} (h : EvAP tr σ H (fun us G => ∃ a, us = [.ref a] ∧ SqL K G a xs)) (k : ∀ H1, Ex H H1 → ∃ Pv : Nat → L2.St → Hp → Prop, Pv 0 σ H1 ∧ (∀ a i σ' G, SqL K H1 a xs → Pv i σ' G → SqL K G a xs) ∧
    (∀ i x σ' G G', xs[i]? = some x → Pv i σ' G → Ex G G' → tu { D with nx := Pv (i + 1), ct := Pv (i + 1), bk := tz D } ((σ'.set j (some (.int (i : Int)))).set j2 (some x)) G') ∧ ∀ σ' G, Pv xs.length σ' G → tz D σ' G) :
    tSeq (tFor (iEnum K tr) (gTup K 2 (gCons (gName j) (gCons (gName j2) gNil))) tu) tz D σ H := h H (Ex.refl H) _ fun us H1 e ⟨a, eu, ha⟩ => by
  obtain ⟨Pv, h0, hm, hs, hd⟩ := k H1 e
  refine ⟨a, xs, eu, ha, for_it (D := { D with nx := tz D }) walk_enum Pv h0 (fun i σ' G _ p => hm a i σ' G ha p) (fun i v σ' G G' hi p hy => ?_) hd⟩
  obtain ⟨T, x, y, rfl, hT, rfl, hx, hy2⟩ := hy
  obtain rfl : V.int (i : Nat) = x := Option.some.inj hx
  exact ⟨T, _, rfl, .inl (.inl upd_same), rfl, _, _, rfl, _, _, rfl, rfl, hs i y σ' G _ hy2 p (Ex.new hT)⟩
theorem ep_catA {xs ys : List V} (ha : EvP ta σ H (IsT K xs)) (hb : EvP tb σ H (IsT K ys)) (hz : xs.length + ys.length ≤ 100000) : EvP (tOp (rCatA K) ta tb) σ H (IsT K (xs ++ ys)) := ep_op ha mo_T hb fun x y H1 e ⟨a, hx, h1⟩ ⟨b, hy, h2⟩ Q q =>
  ⟨a, b, xs, ys, hx, hy, h1, h2, sz_of hz, fun e0 => q _ H1 (Ex.refl _) ⟨b, rfl, by rw [e0]; exact h2⟩, fun _ e0 => q _ H1 (Ex.refl _) ⟨a, rfl, by rw [e0, List.append_nil]; exact h1⟩, fun _ _ p hp => q _ _ (Ex.new hp) ⟨p, rfl, st_of upd_same⟩⟩
theorem el_catV {a : Addr} {xs ys : List V} (h1 : Ev ta σ H (.ref a)) (ha : H a = some (.lst xs)) (h2 : EvL tb σ H ys) (hz : xs.length + ys.length ≤ 100000) : EvL (tOp rCat ta tb) σ H (xs ++ ys) := fun H1 e Q q =>
  h1 H1 e _ fun H2 e2 => h2 H2 (e.trans e2) _ fun r H3 _ e3 hr => ⟨a, r, xs, ys, rfl, rfl, e3 a _ (e2 a _ (e a _ ha)), hr, sz_of hz, fun d hd => q d _ (fresh_back (e2.trans e3) hd) ((e2.trans e3).trans (Ex.new hd)) upd_same⟩
/-- a comprehension whose things are told by a predicate -/
theorem lc_rel {α : Type} {J : It} {n : Nat} {G : Hp → Prop} {X : Nat → V} {R : α → VP} (wk : Walk J n G (fun i H x H' => H' = H ∧ x = X i)) (mG : ∀ H H', Ex H H' → G H → G H') {H1 : Hp} (hG : G H1) {j : Nat} {vs : List Nat} (ms : List α) (hms : ms.length = n) (mR : ∀ m, Mo (R m))
    (sR : ∀ m v G l zs u, R m v G → G l = some (.lst zs) → R m v (L2.upd G l u)) (hn : n ≤ 40000) (hw : ∀ x, wipe ((wipe σ vs).set j (some x)) vs = wipe σ vs) (hel : ∀ i m H2, Ex H1 H2 → ms[i]? = some m → EvP te ((wipe σ vs).set j (some (X i))) H2 (R m))
    {Q : VK} (q : ∀ D H2 ys, H1 D = none → Ex H1 H2 → H2 D = some (.lst ys) → AllIn R ms ys H2 → Q (.ref D) H2) (D : Addr) (hD : H1 D = none) :
    ∃ W : Nat → Nat → Hp → Prop, (∃ m, W 0 m (upd H1 D (.lst []))) ∧ ∀ i m H, W i m H → (J.stop i H ∧ Q (.ref D) H) ∨ (J.go i H ∧ ∃ Nx : Hp → Prop, (∀ H', Nx H' → ∃ m', m' < m ∧ W (i + 1) m' H') ∧
      ∀ x H', J.yld i H x H' → gName j x (wipe σ vs) H' fun σ2 H2 => wipe σ2 vs = wipe σ vs ∧ tYes σ2 H2 fun b H3 => if b = true then te σ2 H3 fun y H4 => ∃ acc, H4 D = some (.lst acc) ∧ acc.length < sizeLine ∧ Nx (upd H4 D (.lst (acc ++ [y]))) else Nx H3) := by
  refine lc_it wk (fun i G' => H1 D = none ∧ Ex H1 G' ∧ ∃ ys, G' D = some (.lst ys) ∧ AllIn R (ms.take i) ys G') ⟨hD, Ex.new hD, [], upd_same, .nil⟩ (fun i G' _ c => mG _ _ c.2.1 hG) (fun i x G' G2 hi c hy => ?_) (fun G' c => ?_)
  · obtain ⟨rfl, rfl⟩ := hy
    obtain ⟨c1, c2, ys, c3, c4⟩ := c
    have him : i < ms.length := by rw [hms]; exact hi
    refine ⟨hw _, hel i ms[i] _ c2 (List.getElem?_eq_getElem him) _ (Ex.refl _) _ fun y H4 e4 hy => ⟨ys, e4 D _ c3, ?_, c1, Ex.mut (c2.trans e4) c1, ys ++ [y], upd_same, ?_⟩⟩
    · rw [c4.1, List.length_take]; exact sz_lt (by omega)
    · rw [List.take_add_one, List.getElem?_eq_getElem him]
      exact (AllIn.append (c4.mono mR e4) (.cons hy .nil)).upd sR (e4 D _ c3)
  · obtain ⟨c1, c2, ys, c3, c4⟩ := c
    rw [← hms, List.take_length] at c4
    exact q D G' ys c1 c2 c3 c4
def EvLS (te : TE) (σ : L2.St) (H : Hp) (S : List V → Hp → Prop) : Prop := ∀ H1, Ex H H1 → ∀ Q : VK, (∀ p H2 ys, H1 p = none → Ex H1 H2 → H2 p = some (.lst ys) → S ys H2 → Q (.ref p) H2) → te σ H1 Q
theorem q_asgLS {i : Nat} {S : List V → Hp → Prop} (h : EvLS te σ H S) (k : ∀ p H1 ys, H p = none → Ex H H1 → H1 p = some (.lst ys) → S ys H1 → tz D (σ.set i (some (.ref p))) H1) : tSeq (tAsg te (gName i)) tz D σ H := h H (Ex.refl H) _ k
theorem walk_range2 {lo : Int} {n : Nat} : Walk (Itr lo n) n (fun _ => True) (fun i H x H' => H' = H ∧ x = .int (lo + (i : Int))) := walk_range
theorem es_R2 {α : Type} {R : α → VP} {tr : TA} {lo hi : Int} {n j : Nat} {vs : List Nat} (h : EvA tr σ H [.int lo, .int hi]) (hb : -(2 ^ 62) ≤ lo ∧ lo < 2 ^ 62 ∧ -(2 ^ 62) ≤ hi ∧ hi < 2 ^ 62) (hn : (hi - lo).toNat = n) (ms : List α) (hms : ms.length = n) (mR : ∀ m, Mo (R m)) (sR : ∀ m v G l zs u, R m v G → G l = some (.lst zs) → R m v (L2.upd G l u)) (h4 : n ≤ 40000)
    (hw : ∀ x, wipe ((wipe σ vs).set j (some x)) vs = wipe σ vs) (hel : ∀ (i : Nat) m H2, Ex H H2 → ms[i]? = some m → EvP te ((wipe σ vs).set j (some (.int (lo + (i : Int))))) H2 (R m)) : EvLS (tLc (iRng2 tr) (gName j) tYes te vs) σ H (fun ys G => AllIn R ms ys G) := fun H1 e Q q =>
  h H1 e _ fun H2 e2 => ⟨lo, hi, rfl, hb, fun D hD => by
    rw [hn]
    exact lc_rel walk_range2 (fun _ _ _ z => z) trivial ms hms mR sR h4 hw (fun i m H3 e3 hm => hel i m H3 ((e.trans e2).trans e3) hm) (fun D' H3 ys nD e3 hD' hall => q D' H3 ys (fresh_back e2 nD) (e2.trans e3) hD' hall) D hD⟩
theorem es_L {α β : Type} {R : α → VP} {l : List β} {em : β → V} {j : Nat} {vs : List Nat} (h : EvP tl σ H (IsL K (l.map em))) (f : β → α) (mR : ∀ m, Mo (R m)) (sR : ∀ m v G l zs u, R m v G → G l = some (.lst zs) → R m v (L2.upd G l u)) (h4 : l.length ≤ 40000)
    (hw : ∀ x, wipe ((wipe σ vs).set j (some x)) vs = wipe σ vs) (hel : ∀ x H2, Ex H H2 → x ∈ l → EvP te ((wipe σ vs).set j (some (em x))) H2 (R (f x))) : EvLS (tLc (iList K tl) (gName j) tYes te vs) σ H (fun ys G => AllIn R (l.map f) ys G) := fun H1 e Q q =>
  h H1 e _ fun v H2 e2 ⟨a, ev, ha⟩ => ⟨a, ev, ⟨_, ha⟩, fun D hD => by
    have wk : Walk (Itl K a) l.length (fun G => SqL K G a (l.map em)) (fun i G x G' => G' = G ∧ x = ((l[i]?).map em).getD .non) := by
      have w0 := @walk_list K a (l.map em)
      rw [List.length_map] at w0
      refine w0.mono (fun _ z => z) fun i G x G' hi hG hy => ⟨hy.1, ?_⟩
      have := hy.2
      rw [List.getElem?_map] at this
      rw [this]
      rfl
    refine lc_rel wk (fun _ _ e' z => ex_l e' z) ha (l.map f) (List.length_map ..) mR sR h4 hw (fun i m H3 e3 hm => ?_) (fun D' H3 ys nD e3 hD' hall => q D' H3 ys (fresh_back e2 nD) (e2.trans e3) hD' hall) D hD
    rw [List.getElem?_map] at hm
    obtain ⟨x, hx, rfl⟩ := Option.map_eq_some_iff.mp hm
    rw [hx]
    exact hel x H3 ((e.trans e2).trans e3) (List.mem_of_getElem? hx)⟩
end
section
variable {P : Program} {w : World} {K : PySem.W.Frag} {mg : Str → Option Value} {base : Heap} {f : Addr} {fd : FuncData} {C : Addr}
/-! ### words of signs -/
def spF (a b : Nat) : Nat := (if (a &&& 1) != 0 then b else 0) ^^^ (if (a &&& 2) != 0 then 2 * b else 0)
def spG (a b : Nat) : Nat := if spF a b > 3 then spF a b ^^^ 7 else spF a b
def spSP : Sp := fun vs H Q _ => ∃ a b : Nat, vs = [.int (a : Int), .int (b : Int)] ∧ b < 1000 ∧ RetV (.int (spG a b : Int)) H Q
theorem bne_nat (n : Nat) : (((n : Nat) : Int) != 0) = (n != 0) := by
  by_cases h : n = 0
  · subst h; rfl
  · have h2 : (n : Int) ≠ 0 := by omega
    rw [bne_iff_ne.mpr h2, bne_iff_ne.mpr h]
theorem ok__law_signs_product (F : Fun K "_law_signs_product" "_law_signs_product" s__law_signs_product f fd) : FnOk P w K mg base CX0 1 f fd ["_law_one_so", "_law_two_so"] spSP := by
  refine F.ok sc__law_signs_product (fun vs H Q E h => ?_) (fun cdv A outer s H vs Q E hr h => ?_)
  · obtain ⟨a, b, rfl, _⟩ := h; rfl
  · obtain ⟨a, b, rfl, hb, q⟩ := h
    refine ⟨_, (pss_cons (ps_set (i := 2) sc__law_signs_product.nd rfl (Or.inl rfl) (pe_op op_xor (pe_ifExp (pt_truth (pe_op op_and (pv 0) pe_int) (by intro _; rfl)) (pv 1) pe_int) (pe_ifExp (pt_truth (pe_op op_and (pv 0) pe_int) (by intro _; rfl)) (pe_op op_mul pe_int (pv 1)) pe_int)))
      (pss_one (ps_ret (pe_ifExp (pt_cmpR op_gt (pv 2) pe_int (nomark _)) (pe_op op_xor (pv 2) pe_int) (pv 2))))), ?_⟩
    have t1 : (Builtin.bitAnd (a : Int) 1 != 0) = ((a &&& 1) != 0) := by rw [show (1 : Int) = ((1 : Nat) : Int) from rfl, bitAnd_nat, bne_nat]
    have t2 : (Builtin.bitAnd (a : Int) 2 != 0) = ((a &&& 2) != 0) := by rw [show (2 : Int) = ((2 : Nat) : Int) from rfl, bitAnd_nat, bne_nat]
    refine q_asg (v := .int (spF a b : Int)) (ev_is (ev_op (ev_if (v := .int ((if (a &&& 1) != 0 then b else 0 : Nat) : Int)) (et_is (et_int (ev_op (ev_var rfl) ev_c rv_I0)) t1) (fun h => ev_is (ev_var rfl) (by rw [if_pos h])) (fun h => ev_is ev_c (by rw [h]; rfl)))
      (ev_if (v := .int ((if (a &&& 2) != 0 then 2 * b else 0 : Nat) : Int)) (et_is (et_int (ev_op (ev_var rfl) ev_c rv_I0)) t2) (fun h => ev_is (ev_op ev_c (ev_var rfl) (rv_I (C := CMul) (.inl ⟨by decide, by decide⟩))) (by rw [if_pos h]; rfl)) (fun h => ev_is ev_c (by rw [h]; rfl))) rv_I0) (by rw [bitXor_nat]; rfl)) fun H1 e1 => ?_
    refine s_ret (ev_if (b := decide (spF a b > 3)) (et_test (ev_is (ev_op (ev_var rfl) ev_c rv_I0) (by congr 1; exact decide_eq_decide.mpr (by omega)))) (fun h => ev_is (ev_op (ev_var rfl) ev_c rv_I0) ?_) (fun h => ev_is (ev_var rfl) ?_)) fun H2 e2 => q H2 (e1.trans e2)
    · rw [show (7 : Int) = ((7 : Nat) : Int) from rfl, bitXor_nat]
      unfold spG
      rw [if_pos (of_decide_eq_true h)]
    · unfold spG
      rw [if_neg (of_decide_eq_false h)]
def wordM (a b c : Nat) : List Nat := [a, b, c, a ^^^ b ^^^ c, spG 3 a ^^^ spG 2 b ^^^ c, spG 2 a ^^^ spG 3 b ^^^ c]
def spWordBy (K : PySem.W.Frag) : Sp := fun vs H Q _ => ∃ a b c : Nat, vs = [.int (a : Int), .int (b : Int), .int (c : Int)] ∧ a < 1000 ∧ b < 1000 ∧ Ret (IsT K (ni (wordM a b c))) H Q
theorem ok__law_word_by (F : Fun K "_law_word_by" "_law_word_by" s__law_word_by f fd) (C1 : Cal P w K mg base CX0 1 "_law_signs_product" ["_law_one_so", "_law_two_so"] spSP) : FnOk P w K mg base CX0 2 f fd ["_law_one_so", "_law_two_so", "_law_three_so"] (spWordBy K) := by
  obtain ⟨f1, fd1, G__law_signs_product, m__law_signs_product, k__law_signs_product, b__law_signs_product⟩ := C1.ex
  refine F.ok sc__law_word_by (fun vs H Q E h => ?_) (fun cdv A outer s H vs Q E hr h => ?_)
  · obtain ⟨a, b, c, rfl, _⟩ := h; rfl
  · obtain ⟨a, b, c, rfl, ha, hb, q⟩ := h
    refine ⟨_, (pss_cons (ps_set (i := 3) sc__law_word_by.nd rfl (Or.inl rfl) (pe_op op_xor (pe_op op_xor (pv 0) (pv 1)) (pv 2)))
      (pss_cons (ps_set (i := 4) sc__law_word_by.nd rfl (Or.inl rfl) (pe_op op_xor (pe_op op_xor (pe_call G__law_signs_product (hr.mono (by decide)) (by rfl) m__law_signs_product k__law_signs_product b__law_signs_product .nil pass0 (pa_cons pe_int (pa_cons (pv 0) pa_nil))) (pe_call G__law_signs_product (hr.mono (by decide)) (by rfl) m__law_signs_product k__law_signs_product b__law_signs_product .nil pass0 (pa_cons pe_int (pa_cons (pv 1) pa_nil)))) (pv 2)))
      (pss_cons (ps_set (i := 5) sc__law_word_by.nd rfl (Or.inl rfl) (pe_op op_xor (pe_op op_xor (pe_call G__law_signs_product (hr.mono (by decide)) (by rfl) m__law_signs_product k__law_signs_product b__law_signs_product .nil pass0 (pa_cons pe_int (pa_cons (pv 0) pa_nil))) (pe_call G__law_signs_product (hr.mono (by decide)) (by rfl) m__law_signs_product k__law_signs_product b__law_signs_product .nil pass0 (pa_cons pe_int (pa_cons (pv 1) pa_nil)))) (pv 2)))
      (pss_one (ps_ret (pe_tup (pa_cons (pv 0) (pa_cons (pv 1) (pa_cons (pv 2) (pa_cons (pv 3) (pa_cons (pv 4) (pa_cons (pv 5) pa_nil)))))))))))), ?_⟩
    have call : ∀ {σ : L2.St} {H : Hp} {te : TE} (k b : Nat), b < 1000 → Ev te σ H (.int (b : Int)) → Ev (tCall spSP ([] : List V) E0 (tCons (tC (.int (k : Int))) (tCons te tNil))) σ H (.int (spG k b : Int)) := fun k b hb h => ev_call (ea_cons ev_c (ea_cons h ea_nil)) fun H1 e1 Q1 q1 E1 => ⟨k, b, rfl, hb, q1⟩
    refine q_asg (v := .int ((a ^^^ b ^^^ c : Nat) : Int)) (ev_is (ev_op (ev_op (ev_var rfl) (ev_var rfl) rv_I0) (ev_var rfl) rv_I0) (by rw [bitXor_nat, bitXor_nat])) fun H1 e1 => ?_
    refine q_asg (v := .int ((spG 3 a ^^^ spG 2 b ^^^ c : Nat) : Int)) (ev_is (ev_op (ev_op (call 3 a ha (ev_var rfl)) (call 2 b hb (ev_var rfl)) rv_I0) (ev_var rfl) rv_I0) (by rw [bitXor_nat, bitXor_nat])) fun H2 e2 => ?_
    refine q_asg (v := .int ((spG 2 a ^^^ spG 3 b ^^^ c : Nat) : Int)) (ev_is (ev_op (ev_op (call 2 a ha (ev_var rfl)) (call 3 b hb (ev_var rfl)) rv_I0) (ev_var rfl) rv_I0) (by rw [bitXor_nat, bitXor_nat])) fun H3 e3 => ?_
    exact s_retP (ep_U (eu_tup (ea_cons (ev_var rfl) (ea_cons (ev_var rfl) (ea_cons (ev_var rfl) (ea_cons (ev_var rfl) (ea_cons (ev_var rfl) (ea_cons (ev_var rfl) ea_nil)))))) (by show 6 ≤ 100000; decide))) fun v H4 e4 hv => q v H4 (((e1.trans e2).trans e3).trans e4) hv
/-! ### the tally -/
def spTally (K : PySem.W.Frag) : Sp := fun vs H Q _ => vs = [] ∧ Ret (IsL K (ni K17.tallyL)) H Q
def tallyS (k : Nat) : List Nat := (List.range k).foldl (fun S _ => S ++ S.map (fun a => a + 1)) [0]
theorem tallyS_succ (k : Nat) : tallyS (k + 1) = tallyS k ++ (tallyS k).map (fun a => a + 1) := by
  unfold tallyS
  rw [List.range_succ, List.foldl_append]
  rfl
theorem tallyS_len : ∀ k, (tallyS k).length = 2 ^ k
  | 0 => rfl
  | k + 1 => by
    rw [tallyS_succ, List.length_append, List.length_map, tallyS_len k, Nat.pow_succ]
    omega
theorem ok__law_tally (F : Fun K "_law_tally" "_law_tally" s__law_tally f fd) (T : Txt K mg) : FnOk P w K mg base CX0 1 f fd [] (spTally K) := by
  refine F.ok sc__law_tally (fun vs H Q E h => ?_) (fun cdv A outer s H vs Q E hr h => ?_)
  · obtain ⟨rfl, _⟩ := h; rfl
  · obtain ⟨rfl, q⟩ := h
    refine ⟨_, (pss_cons (ps_set (i := 0) sc__law_tally.nd rfl (Or.inl rfl) (pe_lst (pa_cons pe_int pa_nil)))
      (pss_cons (ps_for PassesOwn.never rfl (pi_range1 (by rfl) T.n_range (pa_cons pe_int pa_nil)) (pg_name (i := 1) sc__law_tally.nd rfl (Or.inl rfl)) (pss_one (ps_set (i := 0) sc__law_tally.nd rfl (Or.inl rfl) (pe_op op_cat (pv 0) (pe_lc (own := [("_law_own", 2)]) (g := gName 2) rfl sc__law_tally.nd (pi_list (pv 0)) (blkOk_by (N := N__law_tally) (sc := defScope s__law_tally) (by decide +kernel)) (fun _ _ _ _ _ => (pg_name (i := 2) sc__law_tally.nd rfl (Or.inl rfl))) (fun _ _ _ _ _ => pts_nil) (fun _ _ _ _ _ => (pe_op op_add (pv 2) pe_int)))))))
      (pss_one (ps_ret (pv 0))))), ?_⟩
    refine q_asgL (el_lst (ea_cons ev_c ea_nil) (by show 1 ≤ 100000; decide)) fun o H1 no e1 ho => ?_
    refine q_forR1 (n := 12) (ea_cons ev_c ea_nil) (by decide) (fun k σ G => ∃ o l, σ = [some (.ref o), l, none] ∧ G o = some (.lst (ni (tallyS k))) ∧ Ex H1 G) (fun G e => ⟨o, none, rfl, e _ _ ho, e⟩) (fun k σ G hk hp => ?_) (fun σ G hp => ?_)
    · obtain ⟨o1, l, rfl, hG, e2⟩ := hp
      have b := tallyS_len k
      have b2 : 2 ^ k ≤ 2 ^ 12 := Nat.pow_le_pow_right (by decide) (by omega)
      refine s_asgL (el_catV (ev_var rfl) hG (el_Lm (l := tallyS k) (em := fun (n : Nat) => V.int (n : Int)) (fun n => V.int ((n + 1 : Nat) : Int)) (ev_var rfl) (.inl (.inl hG)) (by omega) (fun _ => rfl) fun x H2 e3 hx => ev_is (ev_op (ev_var rfl) ev_c rv_I0) (by congr 1)) (by rw [ni_len, List.length_map]; omega)) fun p H2 np e3 hp => ⟨p, _, rfl, ?_, e2.trans e3⟩
      rw [hp, tallyS_succ, ni_app]
      unfold ni
      rw [List.map_map]
      rfl
    · obtain ⟨o1, l, rfl, hG, e2⟩ := hp
      exact s_ret (ev_var rfl) fun G2 e3 => q _ G2 ((e1.trans e2).trans e3) ⟨o1, rfl, .inl (.inl (e3 _ _ hG))⟩
/-! ### the base -/
def spBase (K : PySem.W.Frag) : Sp := fun vs H Q _ => vs = [] ∧ Ret (fun v G => ∃ a ys, v = .ref a ∧ SqL K G a ys ∧ AllIn (IsLots K) K17.BASE ys G) H Q
def ROWS3 : List (List Nat) := [[1, 0, 0], [2, 0, 0], [0, 1, 0], [0, 2, 0], [0, 0, 1], [0, 0, 2]]
def lotW (ws : List Nat) : Nat → List Nat
  | 0 => []
  | k + 1 => lotW ws k ++ (if 0 < ws.getD k 0 then [4 * k, 4 * k + ws.getD k 0] else [])
theorem lotW_len (ws : List Nat) : ∀ k, (lotW ws k).length ≤ 2 * k
  | 0 => Nat.le_refl _
  | k + 1 => by
    unfold lotW
    rw [List.length_append]
    have := lotW_len ws k
    split
    · simp only [List.length_cons, List.length_nil]; omega
    · simp only [List.length_nil]; omega
theorem base_words : ∀ i, i < 6 → ∃ a b c, ROWS3[i]? = some [a, b, c] ∧ a < 4 ∧ b < 4 ∧ ∃ m, (K17.BASE.drop 5)[i]? = some m ∧ lotW (wordM a b c) 6 = K17.lotOf m := by
  intro i hi
  match i, hi with
  | 0, _ => exact ⟨1, 0, 0, rfl, by decide, by decide, _, rfl, by decide +kernel⟩
  | 1, _ => exact ⟨2, 0, 0, rfl, by decide, by decide, _, rfl, by decide +kernel⟩
  | 2, _ => exact ⟨0, 1, 0, rfl, by decide, by decide, _, rfl, by decide +kernel⟩
  | 3, _ => exact ⟨0, 2, 0, rfl, by decide, by decide, _, rfl, by decide +kernel⟩
  | 4, _ => exact ⟨0, 0, 1, rfl, by decide, by decide, _, rfl, by decide +kernel⟩
  | 5, _ => exact ⟨0, 0, 2, rfl, by decide, by decide, _, rfl, by decide +kernel⟩
theorem base_cols : ∀ i, i < 5 → ∃ m, (K17.BASE.take 5)[i]? = some m ∧ [0, 1, 2, 3] ++ (List.range 4).map (fun o => 4 * (1 + i) + o) = K17.lotOf m := by decide +kernel
theorem base_last : K17.lotOf 1118494 = [1, 2, 3, 4, 8, 12, 16, 20] := by decide +kernel
end
end KD
set_option Elab.async false
set_option linter.all false
set_option maxRecDepth 100000
set_option maxHeartbeats 4000000
/-! The walk: the law's board. -/
namespace KD
open PySem PySem.Spec PyProof.Rows L2 Evl KW KR KT
section
variable {P : Program} {w : World} {K : PySem.W.Frag} {mg : Str → Option Value} {base : Heap} {f : Addr} {fd : FuncData} {C : Addr}
theorem ep_catAll {σ : L2.St} {H : Hp} {ta : TE} {tr : TA} {α : Type} {R : α → VP} {ms ms2 : List α} {a : Addr} {ys : List V} (h1 : Ev ta σ H (.ref a)) (ha : H a = some (.lst ys)) (hall : AllIn R ms ys H) (h2 : EvAP tr σ H (fun vs G => AllIn R ms2 vs G)) (mR : ∀ m, Mo (R m)) (hz : ys.length + ms2.length ≤ 100000) :
    EvP (tOp rCat ta (tLst tr)) σ H (fun v G => ∃ b zs, v = .ref b ∧ SqL K G b zs ∧ AllIn R (ms ++ ms2) zs G) := fun H1 e Q q =>
  h1 H1 e _ fun H2 e2 => h2 H2 (e.trans e2) _ fun vs H3 e3 hv => ⟨by rw [hv.1]; exact sz_of (by omega), fun p hp => by
    have ep : Ex H3 (upd H3 p (.lst vs)) := Ex.new hp
    have e4 : Ex H (upd H3 p (.lst vs)) := ((e.trans e2).trans e3).trans ep
    exact ⟨a, p, ys, vs, rfl, rfl, e4 a _ ha, upd_same, by rw [hv.1]; exact sz_of hz, fun d hd => q _ _ (((e2.trans e3).trans ep).trans (Ex.new hd)) ⟨d, ys ++ vs, rfl, .inl (.inl upd_same), (hall.mono mR (e4.trans (Ex.new hd))).append (hv.mono mR (ep.trans (Ex.new hd)))⟩⟩⟩
def scBase : Scope := { kind := .function, names := [(Str.ofString ".0", .local), (Str.ofString "_law_k", .cell), (Str.ofString "tuple", .globalImplicit), (Str.ofString "range", .globalImplicit)], isGenerator := false, isCoroutine := false, more := [] }
theorem mo_lots {m : Nat} : Mo (IsLots K m) := mo_T
theorem st_lots (m : Nat) (v : V) (G : Hp) (l : Addr) (zs : List V) (u : HO) (h : IsLots K m v G) (hl : G l = some (.lst zs)) : IsLots K m v (upd G l u) := st_T h hl
theorem ok__law_base (F : Fun K "_law_base" "_law_base" s__law_base f fd) (T : Txt K mg) (C1 : Cal P w K mg base CX0 2 "_law_word_by" ["_law_one_so", "_law_two_so", "_law_three_so"] (spWordBy K)) : FnOk P w K mg base CX0 3 f fd [] (spBase K) := by
  obtain ⟨f1, fd1, G__law_word_by, m__law_word_by, k__law_word_by, b__law_word_by⟩ := C1.ex
  refine F.ok sc__law_base (fun vs H Q E h => ?_) (fun cdv A outer s H vs Q E hr h => ?_)
  · obtain ⟨rfl, _⟩ := h; rfl
  · obtain ⟨rfl, q⟩ := h
    refine ⟨_, (pss_cons (ps_setLc (i := 0) (own := [("_law_k", 6)]) (g := gName 6) rfl sc__law_base.nd rfl rfl (sw_true rfl rfl rfl (by decide +kernel)) (pi_range2 (by rfl) T.n_range (pa_cons pe_int (pa_cons pe_int pa_nil))) (blkOk_by (N := N__law_base) (sc := defScope s__law_base) (by decide +kernel)) (fun _ _ _ _ _ => (pg_name (i := 6) sc__law_base.nd rfl (Or.inr rfl))) (fun _ _ _ _ _ => pts_nil) (fun _ _ _ _ _ => (pe_op (kop_catA (K := K) rfl) (pe_tup (pa_cons pe_int (pa_cons pe_int (pa_cons pe_int (pa_cons pe_int pa_nil))))) (pe_callTy ((kcall_tuple_of (K := K) rfl)) (by rfl) T.n_tuple (by decide +kernel) (pa_cons (pe_lc (own := [("_law_own", 7)]) (g := gName 7) rfl sc__law_base.nd (pi_range1 (by rfl) T.n_range (pa_cons pe_int pa_nil)) (blkOk_by (N := N__law_base) (sc := scBase) (by decide +kernel)) (fun _ _ _ _ _ => (pg_name (i := 7) sc__law_base.nd rfl (Or.inl rfl))) (fun _ _ _ _ _ => pts_nil) (fun _ _ _ _ _ => (pe_op op_add (pe_op op_mul pe_int (pv 6)) (pv 7)))) pa_nil)))))
      (pss_cons (ps_for PassesOwn.never rfl (pi_tup (pe_tup (pa_cons (pe_tup (pa_cons pe_int (pa_cons pe_int (pa_cons pe_int pa_nil)))) (pa_cons (pe_tup (pa_cons pe_int (pa_cons pe_int (pa_cons pe_int pa_nil)))) (pa_cons (pe_tup (pa_cons pe_int (pa_cons pe_int (pa_cons pe_int pa_nil)))) (pa_cons (pe_tup (pa_cons pe_int (pa_cons pe_int (pa_cons pe_int pa_nil)))) (pa_cons (pe_tup (pa_cons pe_int (pa_cons pe_int (pa_cons pe_int pa_nil)))) (pa_cons (pe_tup (pa_cons pe_int (pa_cons pe_int (pa_cons pe_int pa_nil)))) pa_nil)))))))) (pg_name (i := 1) sc__law_base.nd rfl (Or.inl rfl)) (pss_cons (ps_par (i := 2) (j := 3) (by rfl) sc__law_base.nd rfl rfl (by decide) rfl rfl (pa_cons (pe_call G__law_word_by (hr.mono (by decide)) (by rfl) m__law_word_by k__law_word_by b__law_word_by .nil pass0 (pa_cons (pe_ix ix_tup (pv 1) pe_int (fun _ _ => rfl)) (pa_cons (pe_ix ix_tup (pv 1) pe_int (fun _ _ => rfl)) (pa_cons (pe_ix ix_tup (pv 1) pe_int (fun _ _ => rfl)) pa_nil)))) (pa_cons (pe_tup pa_nil) pa_nil)) (by rfl))
      (pss_cons (ps_for PassesOwn.never rfl (pi_enumT (by rfl) T.n_enumerate (pa_cons (pv 2) pa_nil)) (pg_tup (by rfl) (pgs_cons (pg_name (i := 4) sc__law_base.nd rfl (Or.inl rfl)) (pgs_cons (pg_name (i := 5) sc__law_base.nd rfl (Or.inl rfl)) pgs_nil))) (pss_one (ps_set (i := 3) sc__law_base.nd rfl (Or.inl rfl) (pe_op op_catA (pv 3) (pe_ifExp (pt_cmpR op_gt (pv 5) pe_int (nomark _)) (pe_tup (pa_cons (pe_op op_mul pe_int (pv 4)) (pa_cons (pe_op op_add (pe_op op_mul pe_int (pv 4)) (pv 5)) pa_nil))) (pe_tup pa_nil))))))
      (pss_one (ps_expr (pe_bm PySem.F.plainAttrs_list PySem.F.slot_list_append PySem.F.type_list_append mt_append (pv 0) (pa_cons (pv 3) pa_nil)))))))
      (pss_one (ps_ret (pe_op op_cat (pv 0) (pe_lst (pa_cons (pe_tup (pa_cons pe_int (pa_cons pe_int (pa_cons pe_int (pa_cons pe_int (pa_cons pe_int (pa_cons pe_int (pa_cons pe_int (pa_cons pe_int pa_nil))))))))) pa_nil))))))), ?_⟩
    refine q_asgLS (es_R2 (n := 5) (R := IsLots K) (ea_cons ev_c (ea_cons ev_c ea_nil)) ⟨by decide, by decide, by decide, by decide⟩ rfl (K17.BASE.take 5) rfl (fun _ => mo_lots) st_lots (by decide) (fun _ => rfl) (fun i m H2 e2 hm => ?_)) (fun D H1 ys nD e1 hD hall => ?_)
    · have hi : i < 5 := by
        have := (List.getElem?_eq_some_iff.mp hm).1
        exact this
      obtain ⟨m', hm', e⟩ := base_cols i hi
      obtain rfl : m = m' := Option.some.inj (hm.symm.trans hm')
      unfold IsLots
      rw [← e, ni_app]
      refine ep_catA (ep_U (eu_tup (ea_cons ev_c (ea_cons ev_c (ea_cons ev_c (ea_cons ev_c ea_nil)))) (by show 4 ≤ 100000; decide))) (ep_U (eu_tuple ?_)) (by rw [ni_len, ni_len, List.length_map, List.length_range]; decide)
      have z := el_Rm (n := 4) (te := tOp (rI0 fun i j => V.int (i + j)) (tOp (rI CMul fun i j => V.int (i * j)) (tC (V.int 4)) (tVar 6)) (tVar 7)) (ta := tCons (tC (V.int 4)) tNil) (σ := (wipe (L2.start N__law_base []) [6]).set 6 (some (V.int (1 + (i : Int))))) (H := H2) (j := 7) (vs := [7]) (fun o => V.int ((4 * (1 + i) + o : Nat) : Int)) (ea_cons ev_c ea_nil) (by decide) (fun _ => rfl) (fun o H3 e3 ho => ev_is (ev_op (ev_op ev_c (ev_var rfl) (rv_I (C := CMul) (.inl ⟨by decide, by decide⟩))) (ev_var rfl) rv_I0) (by congr 1))
      unfold ni
      rw [List.map_map]
      exact z
    · refine q_forTP (Px := fun xs G => AllIn (fun r => IsT K (ni r)) ROWS3 xs G) (ep_tupAll (fun _ => mo_T) (ea_consAll (fun _ => mo_T) (ep_U (eu_tup (ea_cons ev_c (ea_cons ev_c (ea_cons ev_c ea_nil))) (by show 3 ≤ 100000; decide))) (ea_consAll (fun _ => mo_T) (ep_U (eu_tup (ea_cons ev_c (ea_cons ev_c (ea_cons ev_c ea_nil))) (by show 3 ≤ 100000; decide)))
        (ea_consAll (fun _ => mo_T) (ep_U (eu_tup (ea_cons ev_c (ea_cons ev_c (ea_cons ev_c ea_nil))) (by show 3 ≤ 100000; decide))) (ea_consAll (fun _ => mo_T) (ep_U (eu_tup (ea_cons ev_c (ea_cons ev_c (ea_cons ev_c ea_nil))) (by show 3 ≤ 100000; decide)))
        (ea_consAll (fun _ => mo_T) (ep_U (eu_tup (ea_cons ev_c (ea_cons ev_c (ea_cons ev_c ea_nil))) (by show 3 ≤ 100000; decide))) (ea_consAll (fun _ => mo_T) (ep_U (eu_tup (ea_cons ev_c (ea_cons ev_c (ea_cons ev_c ea_nil))) (by show 3 ≤ 100000; decide))) ea_all)))))) (by decide)) fun a xs H2 e2 hs hx => ?_
      refine ⟨fun k σ G => ∃ r w l c s ys, σ = [some (.ref D), r, w, l, c, s, none, none] ∧ Ex H G ∧ SqT K G a xs ∧ AllIn (fun r => IsT K (ni r)) ROWS3 xs G ∧ G D = some (.lst ys) ∧ AllIn (IsLots K) (K17.BASE.take (5 + k)) ys G, ⟨none, none, none, none, none, ys, rfl, e1.trans e2, hs, hx, e2 _ _ hD, hall.mono (fun _ => mo_lots) e2⟩, fun i σ' G ⟨_, _, _, _, _, _, _, _, h, _⟩ => h, fun k x σ G hxk hP => ?_, fun σ G hP => ?_⟩
      · obtain ⟨r0, w0, l0, c0, s0, ys, rfl, e3, hs3, hx3, hG, hall3⟩ := hP
        have hk : k < 6 := by
          have := (List.getElem?_eq_some_iff.mp hxk).1
          rw [hx3.1] at this
          exact this
        obtain ⟨wa, wb, wc, hrow, hwa, hwb, m, hm, hlot⟩ := base_words k hk
        obtain ⟨x', hx', p, rfl, hp⟩ := hx3.2 k _ hrow
        obtain rfl : x = .ref p := Option.some.inj (hxk.symm.trans hx')
        have at0 : ∀ {G' : Hp} {σ : L2.St} {i : Nat} {v : Nat}, Ex G G' → σ[1]? = some (some (.ref p)) → [wa, wb, wc][i]? = some v → Ev (tOp (rIxT K) (tVar 1) (tC (V.int (i : Int)))) σ G' (.int (v : Int)) := fun e h1 h2 => ev_op (ev_var h1) ev_c (rv_ixT (ex_t e hp) (atI_nat (ni_at h2)))
        refine q_par (ea2 (P1 := IsT K (ni (wordM wa wb wc))) (P2 := IsT K (ni [])) (ep_calln (ea_of (ea_cons (at0 (i := 0) (Ex.refl _) rfl rfl) (ea_cons (at0 (i := 1) (Ex.refl _) rfl rfl) (ea_cons (at0 (i := 2) (Ex.refl _) rfl rfl) ea_nil)))) fun us H3 e4 eu Q2 q2 => ⟨wa, wb, wc, eu, by omega, by omega, q2⟩) mo_T (ep_U (eu_tup ea_nil (by show 0 ≤ 100000; decide)))) fun us H3 e4 hu => ?_
        obtain ⟨x1, y1, rfl, ⟨pw, rfl, hpw⟩, pl, rfl, hpl⟩ := hu
        refine ⟨_, _, rfl, ?_⟩
        refine q_enumT (xs := ni (wordM wa wb wc)) (fun H4 e5 Q4 q4 => ⟨_, rfl, q4 _ H4 (Ex.refl _) ⟨pw, rfl, ex_t e5 hpw⟩⟩) fun H4 e5 => ?_
        refine ⟨fun j σ G' => ∃ pl c s, σ = [some (.ref D), some (.ref p), some (.ref pw), some (.ref pl), c, s, none, none] ∧ Ex H4 G' ∧ SqT K G' pl (ni (lotW (wordM wa wb wc) j)), ⟨pl, c0, s0, rfl, Ex.refl _, ex_t e5 hpl⟩, fun j σ G' ⟨_, _, _, _, e, _⟩ => e, fun j x σ G' G2 hx hP e6 => ?_, fun σ G' hP => ?_⟩
        · obtain ⟨pl2, c2, s2, rfl, e7, hpl2⟩ := hP
          unfold ni at hx
          rw [List.getElem?_map] at hx
          obtain ⟨sg, hsg, rfl⟩ := Option.map_eq_some_iff.mp hx
          have hj : j < 6 := (List.getElem?_eq_some_iff.mp hsg).1
          have hgd : (wordM wa wb wc).getD j 0 = sg := by rw [List.getD_eq_getElem?_getD, hsg]; rfl
          have hll := lotW_len (wordM wa wb wc) j
          refine s_asgP (P := IsT K (ni (lotW (wordM wa wb wc) (j + 1)))) (ep_imp (ep_catA (ys := ni (if 0 < sg then [4 * j, 4 * j + sg] else [])) (ep_evi (P := IsT K (ni (lotW (wordM wa wb wc) j))) (ev_var rfl) fun H5 e8 => ⟨pl2, rfl, ex_t (e6.trans e8) hpl2⟩) (ep_if (b := decide (0 < sg)) (et_test (ev_is (ev_op (ev_var rfl) ev_c rv_I0) (by congr 1; exact decide_eq_decide.mpr (by omega)))) (fun hb => ?_) (fun hb => ?_)) ?_) fun v H5 e8 hv => ?_) fun v H5 e8 hv => ?_
          · rw [if_pos (of_decide_eq_true hb)]
            exact ep_U (eu_tup (ea_cons (ev_is (ev_op ev_c (ev_var rfl) (rv_I (C := CMul) (.inl ⟨by decide, by decide⟩))) (by congr 1)) (ea_cons (ev_is (ev_op (ev_op ev_c (ev_var rfl) (rv_I (C := CMul) (.inl ⟨by decide, by decide⟩))) (ev_var rfl) rv_I0) (by congr 1)) ea_nil)) (by show 2 ≤ 100000; decide))
          · rw [if_neg (of_decide_eq_false hb)]
            exact ep_U (eu_tup ea_nil (by show 0 ≤ 100000; decide))
          · rw [ni_len, ni_len]
            have : (if 0 < sg then [4 * j, 4 * j + sg] else []).length ≤ 2 := by split <;> simp
            omega
          · show IsT K (ni (lotW (wordM wa wb wc) j ++ (if 0 < (wordM wa wb wc).getD j 0 then [4 * j, 4 * j + (wordM wa wb wc).getD j 0] else []))) v H5
            rw [hgd, ni_app]
            exact hv
          · obtain ⟨pv, rfl, hpv⟩ := hv
            exact ⟨pv, _, _, rfl, (e7.trans e6).trans e8, hpv⟩
        · obtain ⟨pl2, c2, s2, rfl, e7, hpl2⟩ := hP
          have e9 : Ex G G' := (e4.trans e5).trans e7
          have hG2 : G' D = some (.lst ys) := e9 _ _ hG
          refine s_app (K := K) hG2 (ev_var rfl) (ev_var rfl) (by rw [hall3.1, List.length_take]; omega) fun H5 e10 => ?_
          have hG5 : H5 D = some (.lst ys) := e10 _ _ hG2
          refine ⟨_, _, _, _, _, ys ++ [.ref pl2], rfl, Ex.mut (e3.trans (e9.trans e10)) nD, sqT_upd (ex_t (e9.trans e10) hs3) hG5, AllIn.upd (R := fun r => IsT K (ni r)) (fun _ _ _ _ _ _ => st_T) hG5 (hx3.mono (fun _ => mo_T) (e9.trans e10)), upd_same, ?_⟩
          have e11 : K17.BASE.take (5 + (k + 1)) = K17.BASE.take (5 + k) ++ [m] := by
            rw [show 5 + (k + 1) = (5 + k) + 1 by omega, List.take_add_one]
            rw [List.getElem?_drop] at hm
            rw [hm]
            rfl
          rw [e11]
          refine ((hall3.mono (fun _ => mo_lots) (e9.trans e10)).append (.cons ⟨pl2, rfl, ?_⟩ .nil)).upd st_lots hG5
          have e12 : ni (K17.lotOf m) = ni (lotW (wordM wa wb wc) 6) := by rw [hlot]
          rw [e12]
          exact ex_t e10 hpl2
      · obtain ⟨r0, w0, l0, c0, s0, ys, rfl, e3, hs3, hx3, hG, hall3⟩ := hP
        rw [hx3.1] at hall3
        have e13 : K17.BASE = K17.BASE.take (5 + 6) ++ [1118494] := rfl
        refine s_retP (ep_catAll (K := K) (R := IsLots K) (ms2 := [1118494]) (ev_var rfl) hG hall3 (ea_consAll (fun _ => mo_lots) (ep_imp (ep_U (K := K) (eu_tup (ea_cons ev_c (ea_cons ev_c (ea_cons ev_c (ea_cons ev_c (ea_cons ev_c (ea_cons ev_c (ea_cons ev_c (ea_cons ev_c ea_nil)))))))) (by show 8 ≤ 100000; decide))) fun v H2 _ hv => ?_) ea_all) (fun _ => mo_lots) (by rw [hall3.1]; decide)) fun v H2 e14 hv => q v H2 (e3.trans e14) hv
        unfold IsLots
        rw [base_last]
        exact hv
/-! ### all right lots -/
def rightsS (k : Nat) : List Nat := (K17.BASE.take k).foldl K17.dbl [0]
theorem rightsS_succ {k b : Nat} (h : K17.BASE[k]? = some b) : rightsS (k + 1) = rightsS k ++ (rightsS k).map (fun a => a ^^^ b) := by
  unfold rightsS
  rw [List.take_add_one, h, List.foldl_append]
  rfl
theorem dbl_len (b : Nat) (S : List Nat) : (K17.dbl S b).length = 2 * S.length := by
  unfold K17.dbl
  rw [List.length_append, List.length_map]
  omega
theorem foldl_len : ∀ (B S : List Nat), (B.foldl K17.dbl S).length = 2 ^ B.length * S.length
  | [], S => by simp
  | b :: B, S => by
    rw [List.foldl_cons, foldl_len B, dbl_len, List.length_cons, Nat.pow_succ, Nat.mul_assoc]
theorem rightsS_len (k : Nat) : (rightsS k).length ≤ 4096 := by
  unfold rightsS
  rw [foldl_len]
  have : (K17.BASE.take k).length ≤ 12 := by
    rw [List.length_take]
    exact Nat.min_le_right _ _
  have := Nat.pow_le_pow_right (n := 2) (by decide) this
  simp only [List.length_cons, List.length_nil]
  omega
def spRights (K : PySem.W.Frag) : Sp := fun vs H Q _ => vs = [] ∧ Ret (IsL K (ni K17.rightsL)) H Q
theorem base_lt : ∀ b ∈ K17.BASE, b < 2 ^ 24 := by decide +kernel
theorem ok__law_rights (F : Fun K "_law_rights" "_law_rights" s__law_rights f fd) (C1 : Cal P w K mg base CX0 3 "_law_base" [] (spBase K)) (C2 : Cal P w K mg base CX0 1 "_law_bits" ["_law_lot_so"] (spBits K)) : FnOk P w K mg base CX0 4 f fd [] (spRights K) := by
  obtain ⟨f1, fd1, G__law_base, m__law_base, k__law_base, b__law_base⟩ := C1.ex
  obtain ⟨f2, fd2, G__law_bits, m__law_bits, k__law_bits, b__law_bits⟩ := C2.ex
  refine F.ok sc__law_rights (fun vs H Q E h => ?_) (fun cdv A outer s H vs Q E hr h => ?_)
  · obtain ⟨rfl, _⟩ := h; rfl
  · obtain ⟨rfl, q⟩ := h
    refine ⟨_, (pss_cons (ps_set (i := 0) sc__law_rights.nd rfl (Or.inl rfl) (pe_lst (pa_cons pe_int pa_nil)))
      (pss_cons (ps_for PassesOwn.never rfl (pi_list (pe_call0 G__law_base (hr.mono (by decide)) (by rfl) m__law_base k__law_base b__law_base .nil pass0)) (pg_name (i := 1) sc__law_rights.nd rfl (Or.inl rfl)) (pss_cons (ps_set (i := 2) sc__law_rights.nd rfl (Or.inr rfl) (pe_call G__law_bits (hr.mono (by decide)) (by rfl) m__law_bits k__law_bits b__law_bits .nil pass0 (pa_cons (pv 1) pa_nil)))
      (pss_one (ps_set (i := 0) sc__law_rights.nd rfl (Or.inl rfl) (pe_op op_cat (pv 0) (pe_lc (own := [("_law_own", 3)]) (g := gName 3) rfl sc__law_rights.nd (pi_list (pv 0)) (blkOk_by (N := N__law_rights) (sc := defScope s__law_rights) (by decide +kernel)) (fun _ _ _ _ _ => (pg_name (i := 3) sc__law_rights.nd rfl (Or.inl rfl))) (fun _ _ _ _ _ => pts_nil) (fun _ _ _ _ _ => (pe_op op_xor (pv 3) (pv 2)))))))))
      (pss_one (ps_ret (pv 0))))), ?_⟩
    refine q_asgL (el_lst (ea_cons ev_c ea_nil) (by show 1 ≤ 100000; decide)) fun o H1 no e1 ho => ?_
    refine q_forLP (Px := fun ys G => AllIn (IsLots K) K17.BASE ys G) (ep_calln (ea_of ea_nil) fun us H2 e2 eu Q2 q2 => ⟨eu, q2⟩) fun a ys H2 e2 ha hall => ?_
    refine ⟨fun k σ G => ∃ o l b, σ = [some (.ref o), l, b, none] ∧ G o = some (.lst (ni (rightsS k))) ∧ Ex H2 G, ⟨o, none, none, rfl, e2 _ _ ho, Ex.refl _⟩, fun i σ' G ⟨_, _, _, _, _, e⟩ => ex_l e ha, fun k x σ G hxk hP => ?_, fun σ G hP => ?_⟩
    · obtain ⟨o1, l0, b0, rfl, hG, e3⟩ := hP
      have hk : k < K17.BASE.length := by
        have := (List.getElem?_eq_some_iff.mp hxk).1
        rwa [hall.1] at this
      have hb : K17.BASE[k]? = some K17.BASE[k] := List.getElem?_eq_getElem hk
      obtain ⟨x', hx', p, rfl, hp⟩ := hall.2 k _ hb
      obtain rfl : x = .ref p := Option.some.inj (hxk.symm.trans hx')
      have hblt := base_lt _ (List.getElem_mem hk)
      have hlen := rightsS_len k
      have e0 := rightsS_succ hb
      generalize K17.BASE[k] = b at *
      refine q_asg (ev_call (ea_cons (ev_var rfl) ea_nil) fun H3 e4 Q3 q3 E3 => ⟨p, b, rfl, ex_t (e3.trans e4) hp, hblt, q3⟩) fun H3 e4 => ?_
      refine s_asgL (el_catV (ev_var rfl) (e4 _ _ hG) (el_Lm (l := rightsS k) (em := fun (n : Nat) => V.int (n : Int)) (fun n => V.int ((n ^^^ b : Nat) : Int)) (ev_var rfl) (.inl (.inl (e4 _ _ hG))) (by omega) (fun _ => rfl) fun x H5 e5 hx => ev_is (ev_op (ev_var rfl) (ev_var rfl) rv_I0) (by rw [bitXor_nat])) (by rw [ni_len, List.length_map]; omega)) fun p2 H4 np e5 hp2 => ⟨p2, _, _, rfl, ?_, (e3.trans e4).trans e5⟩
      rw [hp2, e0, ni_app]
      unfold ni
      rw [List.map_map]
      rfl
    · obtain ⟨o1, l0, b0, rfl, hG, e3⟩ := hP
      rw [hall.1] at hG
      have e4 : rightsS K17.BASE.length = K17.rightsL := rfl
      rw [e4] at hG
      exact s_ret (ev_var rfl) fun G2 e5 => q _ G2 (((e1.trans e2).trans e3).trans e5) ⟨o1, rfl, .inl (.inl (e5 _ _ hG))⟩
def IsBoard (K : PySem.W.Frag) : VP := fun v G => ∃ t r e y, v = .ref t ∧ SqT K G t [.ref r, e, .ref y] ∧ SqL K G r (ni K17.rightsL) ∧ SqL K G y (ni K17.tallyL)
theorem mo_board : Mo (IsBoard K) := fun _ _ _ e ⟨t, r, x, y, h1, h2, h3, h4⟩ => ⟨t, r, x, y, h1, ex_t e h2, ex_l e h3, ex_l e h4⟩
def spBoard (K : PySem.W.Frag) : Sp := fun vs H Q _ => vs = [] ∧ Ret (IsBoard K) H Q
theorem ok__law_board (F : Fun K "_law_board" "_law_board" s__law_board f fd) (C1 : Cal P w K mg base CX0 4 "_law_rights" [] (spRights K)) (C2 : Cal P w K mg base CX0 1 "_law_tally" [] (spTally K)) : FnOk P w K mg base CX0 5 f fd [] (spBoard K) := by
  obtain ⟨f1, fd1, G__law_rights, m__law_rights, k__law_rights, b__law_rights⟩ := C1.ex
  obtain ⟨f2, fd2, G__law_tally, m__law_tally, k__law_tally, b__law_tally⟩ := C2.ex
  refine F.ok sc__law_board (fun vs H Q E h => ?_) (fun cdv A outer s H vs Q E hr h => ?_)
  · obtain ⟨rfl, _⟩ := h; rfl
  · obtain ⟨rfl, q⟩ := h
    refine ⟨_, (pss_cons (ps_asg (pe_tup (pa_cons (pe_call0 G__law_rights (hr.mono (by decide)) (by rfl) m__law_rights k__law_rights b__law_rights .nil pass0) (pa_cons (pe_call0 G__law_tally (hr.mono (by decide)) (by rfl) m__law_tally k__law_tally b__law_tally .nil pass0) pa_nil))) (pg_tup (by rfl) (pgs_cons (pg_name (i := 0) sc__law_board.nd rfl (Or.inl rfl)) (pgs_cons (pg_name (i := 1) sc__law_board.nd rfl (Or.inr rfl)) pgs_nil))))
      (pss_one (ps_ret (pe_tup (pa_cons (pv 0) (pa_cons (pe_lc (own := [("_law_own", 2)]) (g := gName 2) rfl sc__law_board.nd (pi_list (pv 0)) (blkOk_by (N := N__law_board) (sc := defScope s__law_board) (by decide +kernel)) (fun _ _ _ _ _ => (pg_name (i := 2) sc__law_board.nd rfl (Or.inl rfl))) (fun _ _ _ _ _ => (pts_one (pt_cmpR op_eq (pe_op op_add (pe_ix (kix_list (K := K) rfl) (pv 1) (pe_op op_and (pv 2) pe_int) (fun _ _ => rfl)) (pe_ix (kix_list (K := K) rfl) (pv 1) (pe_op op_shr (pv 2) pe_int) (fun _ _ => rfl))) pe_int (nomark _)))) (fun _ _ _ _ _ => (pv 2))) (pa_cons (pv 1) pa_nil))))))), ?_⟩
    refine q_tup (K := K) (Pt := fun xs H1 => ∃ x y, xs = [x, y] ∧ IsL K (ni K17.rightsL) x H1 ∧ IsL K (ni K17.tallyL) y H1) (ep_tup2 (ep_calln (ea_of ea_nil) fun us H2 e2 eu Q2 q2 => ⟨eu, q2⟩) mo_L (ep_calln (ea_of ea_nil) fun us H2 e2 eu Q2 q2 => ⟨eu, q2⟩) mo_L) fun us H1 e1 _ hx => ?_
    obtain ⟨x1, y1, rfl, ⟨r, rfl, hr1⟩, y, rfl, hy⟩ := hx
    refine ⟨_, _, rfl, _, _, rfl, rfl, ?_⟩
    have hlen : K17.rightsL.length ≤ 4096 := rightsS_len 12
    have l1 := el_L (K := K) (te := tVar 2) (t := tTest (tOp rEq (tOp (rI0 fun i j => V.int (i + j)) (tOp (rIxL K) (tVar 1) (tOp (rI0 fun i j => V.int (Builtin.bitAnd i j)) (tVar 2) (tC (V.int 4095)))) (tOp (rIxL K) (tVar 1) (tOp (rI (fun _ j => 0 ≤ j) fun i j => V.int (i / 2 ^ j.toNat)) (tVar 2) (tC (V.int 12))))) (tC (V.int 8)))) (σ := [some (V.ref r), some (V.ref y), none]) (H := H1) (tl := tVar 0) (j := 2) (vs := [2]) (l := K17.rightsL) (em := fun (n : Nat) => V.int (n : Int)) (fun n => decide (V.int (K17.many n : Int) = V.int (8 : Int))) (fun n => V.int (n : Int)) (ev_var rfl) hr1 (by omega) (fun _ => rfl)
      (fun x H2 e2 hx => et_test (ev_op (ev_tally (ev_var rfl) (ev_var rfl) (ex_l e2 hy) (K17.rights_lt x hx)) ev_c (rv_eq rfl))) (fun x H2 e2 hx _ => ev_var rfl)
    exact s_retP (P := IsBoard K) (fun H2 e2 Q2 q2 => ⟨_, rfl, l1 H2 e2 _ fun d H3 nd e3 hd => ⟨_, rfl, (by show 3 ≤ sizeLine; decide), fun p hp => q2 _ _ (e3.trans (Ex.new hp)) ⟨p, r, .ref d, y, rfl, st_of upd_same, ex_l ((e2.trans e3).trans (Ex.new hp)) hr1, ex_l ((e2.trans e3).trans (Ex.new hp)) hy⟩⟩⟩) fun v H2 e2 hv => q v H2 (e1.trans e2) hv
end
end KD
set_option Elab.async false
set_option linter.all false
set_option maxRecDepth 100000
set_option maxHeartbeats 4000000
/-! The walk: what the law hears, what it holds for the same. -/
namespace KD
open PySem PySem.Spec PyProof.Rows L2 Evl KW KR KT
/-- isinstance of the exception held, its class read off what was raised -/
theorem call_isE2 {X : Cx} {a D : Addr} {oe : Obj} {pn : List (Addr × Obj)} {cls : Value} {d : Option Addr} {K : PySem.W.Frag} (hK : X.K = K) (C : ExcC K D) (hz : Zc cls d oe) (hf : ∃ vs, oe.data = .fields vs) : CallR (X.suite a ((a, oe) :: pn)) (.builtin "isinstance") (fun xs H Q => (cls = .ref D ∧ d = none) ∧ rIsE K D a xs H Q) := by
  subst hK
  intro pins s σ H xs us Q I r h
  obtain ⟨⟨e1, e2⟩, h⟩ := h
  subst e1 e2
  exact call_isE C hz hf pins s σ H xs us Q I r h
section
variable {P : Program} {w : World} {K : PySem.W.Frag} {mg : Str → Option Value} {base : Heap} {f : Addr} {fd : FuncData} {C : Addr}
def Told (K : PySem.W.Frag) : Option Nat → VP
  | some m => IsT K (ni (K17.lotOf m))
  | none => is (.str "none")
theorem mo_told {o : Option Nat} : Mo (Told K o) := by
  cases o with
  | none => exact mo_is
  | some m => exact mo_T
def toldF (n g : Nat) : Option Nat := if (K17.askedM n g).1 = 0 then some (K17.askedM n g).2 else none
def toldB (n g : Nat) : Option Nat := if (K17.askedM n g).1 = 0 then none else some (K17.barM (K17.bitsM (K17.rowsOf g) (K17.askedM n g).1))
def toldM (door n g : Nat) : Option Nat := if door = 0 then toldF n g else toldB n g
def spHeard (K : PySem.W.Frag) : Sp := fun vs H Q _ => ∃ (v u : V) (door n g : Nat), vs = [.int (door : Int), v, u] ∧ IsLot K n v H ∧ IsLot K g u H ∧ Ret (Told K (toldM door n g)) H Q
theorem ok__law_heard (F : Fun K "_law_heard" "_law_heard" s__law_heard f fd) (T : Txt K mg) (X : ExcT K mg C) (C1 : Cal P w K mg base (L2.CX P w) 6 "filled" ["lot", "gaps"] (spFilled K C)) (C2 : Cal P w K mg base (L2.CX P w) 6 "fill_bar" ["lot", "gaps"] (spFillBar K C)) : FnOk P w K mg base CX0 7 f fd ["_law_door", "_law_lot_here", "_law_gaps"] (spHeard K) := by
  obtain ⟨f1, fd1, G_filled, m_filled, k_filled, b_filled⟩ := C1.ex
  obtain ⟨f2, fd2, G_fill_bar, m_fill_bar, k_fill_bar, b_fill_bar⟩ := C2.ex
  refine F.ok sc__law_heard (fun vs H Q E h => ?_) (fun cdv A outer s H vs Q E hr h => ?_)
  · obtain ⟨v, u, door, n, g, rfl, _⟩ := h; rfl
  · obtain ⟨v, u, door, n, g, rfl, hv, hu, q⟩ := h
    have hr1 := hr
    refine ⟨_, (pss_one (ps_try_as (i := 3)
      (tb := fun W => tRet (tIf (tTest (tOp rEq (tVar 0) (tC (.int 0)))) (tCallS (spFilled K C) (WE W) (tCons (tVar 1) (tCons (tVar 2) tNil))) (tCallS (spFillBar K C) (WE W) (tCons (tVar 1) (tCons (tVar 2) tNil)))))
      (ts := fun a cls d => tRet (tIf (tB (tCB (fun xs H Q => (cls = .ref C ∧ d = none) ∧ rIsE K C a xs H Q) (tCons (tVar 3) (tCons (tC (.ty "ValueError")) tNil)))) (tC (.str "none")) (tC .non)))
      (Wout := fun _ _ _ _ => False) rfl rfl sc__law_heard.nd rfl rfl ⟨rfl, by decide, Or.inl X.gP⟩ takes0
      (fun W pn xe tk _ => pss_one (ps_ret (pe_ifExp (pt_cmpR op_eq (pv 0) pe_int (nomark _)) (by exact (pe_callS G_filled hr1 rfl m_filled k_filled b_filled (fun σ => passAt tk σ) (by exact (pa_cons (pv 1) (pa_cons (pv 2) pa_nil))))) (by exact (pe_callS G_fill_bar hr1 rfl m_fill_bar k_fill_bar b_fill_bar (fun σ => passAt tk σ) (by exact (pa_cons (pv 1) (pa_cons (pv 2) pa_nil))))))))
      (fun a oe cls d pn hz hf => pss_one (ps_ret (pe_ifExp (pt_val (pe_callB (call_isE2 (K := K) rfl X.exc hz hf) (by rfl) T.n_isinstance (by decide +kernel) (pa_cons (pv 3) (pa_cons (pe_bltn (v := .ty "ValueError") (by rfl) T.n_ValueError (by decide +kernel) rfl) pa_nil)))) pe_str pe_non))))), ?_⟩
    refine (et_test (ev_is (ev_op (ev_var rfl) ev_c (rv_eq rfl)) (by rw [veq0 door]))) H (Ex.refl H) _ fun H1 e1 => ?_
    by_cases hd : door = 0
    · rw [show decide (door = 0) = true from decide_eq_true hd]
      have e0 : toldM door n g = toldF n g := if_pos hd
      rw [e0] at q
      refine ⟨_, rfl, _, rfl, v, u, n, g, rfl, mo_lot _ _ _ e1 hv, mo_lot _ _ _ e1 hu, fun hz v2 H2 e2 h2 => q v2 H2 (e1.trans e2) ?_, fun hz H2 e2 => ⟨true, X.eP, fun _ a0 _ => ?_, fun z => nomatch z⟩⟩
      · rw [show toldF n g = some _ from if_pos hz]
        exact h2
      · have z := q (.str "none") H2 (e1.trans e2) (by rw [show toldF n g = none from if_neg hz]; rfl)
        exact ⟨_, rfl, ⟨rfl, rfl⟩, .ty "ValueError", .type "ValueError", true, rfl, fun u r => by cases r; rfl, X.kE, true, rfl, z⟩
    · rw [show decide (door = 0) = false from decide_eq_false hd]
      have e0 : toldM door n g = toldB n g := if_neg hd
      rw [e0] at q
      refine ⟨_, rfl, _, rfl, v, u, n, g, rfl, mo_lot _ _ _ e1 hv, mo_lot _ _ _ e1 hu, fun hz v2 H2 e2 h2 => q v2 H2 (e1.trans e2) ?_, fun hz H2 e2 => ⟨true, X.eP, fun _ a0 _ => ?_, fun z => nomatch z⟩⟩
      · rw [show toldB n g = some _ from if_neg hz]
        exact h2
      · have z := q (.str "none") H2 (e1.trans e2) (by rw [show toldB n g = none from if_pos hz]; rfl)
        exact ⟨_, rfl, ⟨rfl, rfl⟩, .ty "ValueError", .type "ValueError", true, rfl, fun u r => by cases r; rfl, X.kE, true, rfl, z⟩
/-! ### what is told judged right -/
theorem numSet_of (n : Nat) : numSet (.tup (ni (K17.lotOf n))) = true := by
  rw [ni_eq, ← set_same]
  refine decide_eq_true ?_
  show vi _ = vi _
  congr 1
  unfold K17.lotOf
  refine List.filter_congr fun k hk => ?_
  have hk2 := List.mem_range.mp hk
  have e : ((k : Int) ∈ ((List.range 24).filter (n.testBit ·)).map (fun (n : Nat) => (n : Int))) ↔ n.testBit k = true := by
    rw [List.mem_map]
    constructor
    · rintro ⟨j, hj, e⟩
      have : j = k := by omega
      rw [this, List.mem_filter] at hj
      exact hj.2
    · intro h
      exact ⟨k, List.mem_filter.mpr ⟨hk, h⟩, rfl⟩
  cases hb : n.testBit k
  · exact decide_eq_false fun z => by have := e.mp z; rw [hb] at this; cases this
  · exact decide_eq_true (e.mpr hb)
theorem maskT_of {n : Nat} (h : n < 2 ^ 24) : maskT (.tup (ni (K17.lotOf n))) = n := by
  have z := numSet_lot (numSet_of n)
  have z2 := congrArg (List.map vI) z
  have e : ∀ l : List Nat, (ni l).map vI = vi l := fun l => by unfold ni vi; rw [List.map_map]; rfl
  rw [e, e] at z2
  exact (K17.lotOf_inj h (maskT_lt _) (vi_inj z2)).symm
theorem th_of {n : Nat} {a : Addr} {H : Hp} (h : SqT K H a (ni (K17.lotOf n))) : ThOk K (.tup (ni (K17.lotOf n))) (.ref a) H := ⟨a, rfl, h, by
  unfold ni
  rw [List.all_map]
  exact List.all_eq_true.mpr fun _ _ => rfl, by rw [ni_len]; exact Nat.le_trans (lotOf_len24 n) (by decide)⟩
theorem shaped_none : SeqAt.shaped (.str "none") = true := by decide +kernel
def spToldRight (K : PySem.W.Frag) : Sp := fun vs H Q _ => ∃ (v : V) (a : Addr) (l : List Nat) (o : Option Nat), vs = [v, .ref a] ∧ Told K o v H ∧ SqL K H a (ni l) ∧ ((∃ m, o = some m ∧ m < 2 ^ 24 ∧ m ∈ l) ∨ (o = none ∧ l = [])) ∧ RetV (.bl true) H Q
theorem ok__law_told_right (F : Fun K "_law_told_right" "_law_told_right" s__law_told_right f fd) (C1 : Cal P w K mg base CX0 3 "_law_is_one" ["_law_goods", "_law_own"] (spIsOne K)) : FnOk P w K mg base CX0 4 f fd ["_law_told", "_law_goods"] (spToldRight K) := by
  obtain ⟨f1, fd1, G__law_is_one, m__law_is_one, k__law_is_one, b__law_is_one⟩ := C1.ex
  refine F.ok sc__law_told_right (fun vs H Q E h => ?_) (fun cdv A outer s H vs Q E hr h => ?_)
  · obtain ⟨v, a, l, o, rfl, _⟩ := h; rfl
  · obtain ⟨v, a, l, o, rfl, hv, ha, ho, q⟩ := h
    refine ⟨_, (pss_one (ps_ret (pe_ifExp (pt_cmpR (op_neD hr.units) (pv 1) (pe_lst pa_nil) (nomark _)) (pe_call G__law_is_one (hr.mono (by decide)) (by rfl) m__law_is_one k__law_is_one b__law_is_one .nil pass0 (pa_cons (pv 1) (pa_cons (pv 0) pa_nil))) (pe_cmpR (op_eqD hr.units) (pv 0) pe_str (nomark _))))), ?_⟩
    refine s_ret (ev_if (b := !decide (l = [])) (et_test (ev_neLL (K := K) (m := []) (ep_evi (ev_var rfl) fun H1 e1 => ⟨a, rfl, ex_l e1 ha⟩) (ep_L (el_lst ea_nil (by decide))))) (fun hb => ?_) (fun hb => ?_)) q
    · rcases ho with ⟨m, rfl, hm, hml⟩ | ⟨_, e⟩
      · obtain ⟨p, rfl, hp⟩ := hv
        refine ev_call (ea_cons (ev_var rfl) (ea_cons (ev_var rfl) ea_nil)) fun H1 e1 Q1 q1 E1 => ⟨a, _, l, .tup (ni (K17.lotOf m)), rfl, ex_l e1 ha, th_of (ex_t e1 hp), ?_⟩
        rw [numSet_of, maskT_of hm, decide_eq_true hml]
        exact q1
      · rw [e] at hb; cases hb
    · rcases ho with ⟨m, rfl, hm, hml⟩ | ⟨rfl, e⟩
      · have : l = [] := by simpa using hb
        rw [this] at hml; cases hml
      · obtain rfl : v = .str "none" := hv
        refine ev_op (ev_var rfl) ev_c (rv_val fun H1 e1 Q1 q1 => ⟨_, _, .str "none", .str "none", shaped_none, shaped_none, ?_⟩)
        rw [show PyData.eqv (.str "none") (.str "none") = true by simp [PyData.eqv]]
        exact q1
/-! ### the same -/
mutual
theorem dp_mono {H H' : Hp} (e : Ex H H') : ∀ (d : PyData) (v : V), Dp K H v d → Dp K H' v d
  | .none, _, h => by cases h; exact .non
  | .bool b, _, h => by cases h; exact .bl b
  | .int i, _, h => by cases h; exact .int i
  | .str x, _, h => by cases h; exact .str x
  | .list ds, _, h => by
    cases h with
    | lst h1 h2 => exact .lst (ex_l e h1) (dpAll_mono e ds _ h2)
  | .tuple ds, _, h => by
    cases h with
    | tup h1 h2 => exact .tup (ex_t e h1) (dpAll_mono e ds _ h2)
  | .dict _, _, h => by cases h
theorem dpAll_mono {H H' : Hp} (e : Ex H H') : ∀ (ds : List PyData) (vs : List V), DpAll K H vs ds → DpAll K H' vs ds
  | [], _, h => by cases h; exact .nil
  | d :: ds, _, h => by
    cases h with
    | cons h1 h2 => exact .cons (dp_mono e d _ h1) (dpAll_mono e ds _ h2)
end
theorem dpAll_len {H : Hp} : ∀ {ds : List PyData} {vs : List V}, DpAll K H vs ds → vs.length = ds.length
  | [], _, h => by cases h; rfl
  | d :: ds, _, h => by
    cases h with
    | cons h1 h2 => rw [List.length_cons, List.length_cons, dpAll_len h2]
theorem dpAll_at {H : Hp} : ∀ {ds : List PyData} {vs : List V} {i : Nat} {v : V}, DpAll K H vs ds → vs[i]? = some v → ∃ d, ds[i]? = some d ∧ Dp K H v d
  | [], _, _, _, h, hi => by cases h; simp at hi
  | d :: ds, [], i, v, h, hi => by simp at hi
  | d :: ds, v0 :: vs, i, v, h, hi => by
    cases h with
    | cons h1 h2 =>
      cases i with
      | zero => cases hi; exact ⟨d, rfl, h1⟩
      | succ i =>
        obtain ⟨d', hd', hp⟩ := dpAll_at h2 (show _ = some v from hi)
        exact ⟨d', hd', hp⟩
def Leaf (d : PyData) : Prop := (∃ b, d = .bool b) ∨ (∃ i, d = .int i) ∨ d = .str "none"
def Deep (D : PyData → Prop) (d : PyData) : Prop := Leaf d ∨ ∃ ds : List PyData, (d = .list ds ∨ d = .tuple ds) ∧ ds.length ≤ 1000 ∧ ∀ e ∈ ds, D e
def spSame (K : PySem.W.Frag) (D : PyData → Prop) : Sp := fun vs H Q _ => ∃ x y d, vs = [x, y] ∧ Dp K H x d ∧ Dp K H y d ∧ D d ∧ RetV (.bl true) H Q
theorem kTL : kitB "tuple" "list" = some false := by decide +kernel
theorem kLL : kitB "list" "list" = some true := by decide +kernel
theorem kit2b_int : PySem.W.kitAny K (.type "int") [.type "bool", .type "str"] = some false := kitAny_cons (b := false) (kit_ty (by decide +kernel)) (fun _ => kitAny_cons (b := false) (kit_ty (by decide +kernel)) (fun _ => kitAny_nil) (fun z => nomatch z)) (fun z => nomatch z)
theorem kit2b_bool : PySem.W.kitAny K (.type "bool") [.type "bool", .type "str"] = some true := kitAny_cons (b := true) (kit_ty (by decide +kernel)) (fun z => nomatch z) (fun _ => rfl)
theorem kit2b_str : PySem.W.kitAny K (.type "str") [.type "bool", .type "str"] = some true := kitAny_cons (b := false) (kit_ty (by decide +kernel)) (fun _ => kitAny_cons (b := true) (kit_ty (by decide +kernel)) (fun z => nomatch z) (fun _ => rfl)) (fun z => nomatch z)
theorem ev_isi2b {σ : L2.St} {H : Hp} {ta : TE} {x : V} {tn : String} {b : Bool} (ha : Ev ta σ H x) (ht : ∀ H1, Ex H H1 → TyX K H1 x (.type tn)) (hk : PySem.W.kitAny K (.type tn) [.type "bool", .type "str"] = some b) :
    Ev (tCB (rIsiT K) (tCons ta (tCons (tTup (tCons (tC (.ty "bool")) (tCons (tC (.ty "str")) tNil))) tNil))) σ H (.bl b) := fun H1 e Q q =>
  ha H1 e _ fun H2 e2 => ⟨(by show 2 ≤ sizeLine; decide), fun p hp =>
    ⟨x, p, [.ty "bool", .ty "str"], .type tn, [.type "bool", .type "str"], b, rfl, upd_same, .cons (.ty _) (.cons (.ty _) .nil), ht _ ((e.trans e2).trans (Ex.new hp)), hk, q _ (e2.trans (Ex.new hp))⟩⟩
theorem ev_isN {σ : L2.St} {H : Hp} {ta : TE} {x : V} (ha : Ev ta σ H x) : Ev (tOp (fun x y H Q => y = V.non ∧ Q (.bl (decide (x = .non))) H) ta (tC .non)) σ H (.bl (decide (x = .non))) := ev_op ha ev_c (rv_val fun H1 e1 Q q => ⟨rfl, q⟩)
theorem ev_lenT {σ : L2.St} {H : Hp} {ta : TE} {p : Addr} {xs : List V} (ha : Ev ta σ H (.ref p)) (h : SqT K H p xs) : Ev (tCB (rLenS K) (tCons ta tNil)) σ H (.int (xs.length : Int)) := ep_len (ep_evi ha fun H1 e1 => ⟨p, rfl, .inr (ex_t e1 h)⟩)
theorem ok__law_same1 {k : Nat} {D : PyData → Prop} (F : Fun K "_law_same" "_law_same" s__law_same f fd) (T : Txt K mg) (m__law_same : mg "_law_same" = some (.ref f)) (b__law_same : Binds K fd ["_law_got", "_law_due"] []) (G__law_same : FnOk P w K mg base CX0 k f fd ["_law_got", "_law_due"] (spSame K D)) : FnOk P w K mg base CX0 (k + 1) f fd ["_law_got", "_law_due"] (spSame K (Deep D)) := by
  have k__law_same := F.kp
  refine F.ok sc__law_same (fun vs H Q E h => ?_) (fun cdv A outer s H vs Q E hr h => ?_)
  · obtain ⟨x, y, d, rfl, _⟩ := h; rfl
  · obtain ⟨x, y, d, rfl, hx, hy, hd, q⟩ := h
    refine ⟨_, (pss_cons (ps_if (pt_val (pe_callB call_isiT (by rfl) T.n_isinstance (by decide +kernel) (pa_cons (pv 1) (pa_cons (pe_tup (pa_cons (pe_bltn (v := .ty "list") (by rfl) T.n_list (by decide +kernel) rfl) (pa_cons (pe_bltn (v := .ty "tuple") (by rfl) T.n_tuple (by decide +kernel) rfl) pa_nil))) pa_nil)))) (pss_cons (ps_if (PW.pt (pw_or (pt_cmpR op_ne (pe_callB call_isi (by rfl) T.n_isinstance (by decide +kernel) (pa_cons (pv 0) (pa_cons (pe_bltn (v := .ty "list") (by rfl) T.n_list (by decide +kernel) rfl) pa_nil))) (pe_callB call_isi (by rfl) T.n_isinstance (by decide +kernel) (pa_cons (pv 1) (pa_cons (pe_bltn (v := .ty "list") (by rfl) T.n_list (by decide +kernel) rfl) pa_nil))) (nomark _)) (pw_or1 (pt_cmpR op_ne (pe_callB call_isi (by rfl) T.n_isinstance (by decide +kernel) (pa_cons (pv 0) (pa_cons (pe_bltn (v := .ty "tuple") (by rfl) T.n_tuple (by decide +kernel) rfl) pa_nil))) (pe_callB call_isi (by rfl) T.n_isinstance (by decide +kernel) (pa_cons (pv 1) (pa_cons (pe_bltn (v := .ty "tuple") (by rfl) T.n_tuple (by decide +kernel) rfl) pa_nil))) (nomark _))))) (pss_one (ps_ret pe_bl)) pss_nil)
      (pss_one (ps_ret (pe_and (pe_cmpR op_eq (pe_callB call_len_seq (by rfl) T.n_len (by decide +kernel) (pa_cons (pv 0) pa_nil)) (pe_callB call_len_seq (by rfl) T.n_len (by decide +kernel) (pa_cons (pv 1) pa_nil)) (nomark _)) (pe_one (pe_callB (cr_all rfl) (by rfl) T.n_all (by decide +kernel) (pa_cons (pe_lc (own := [("_law_mine", 2), ("_law_its", 3)]) (g := gTup K 2 (gCons (gName 2) (gCons (gName 3) gNil))) rfl sc__law_same.nd (RZ.pi_zipA (by rfl) T.n_zip (pa_cons (pv 0) (pa_cons (pv 1) pa_nil))) (blkOk_by (N := N__law_same) (sc := defScope s__law_same) (by decide +kernel)) (fun _ _ _ _ _ => (pg_tup (by rfl) (pgs_cons (pg_name (i := 2) sc__law_same.nd rfl (Or.inl rfl)) (pgs_cons (pg_name (i := 3) sc__law_same.nd rfl (Or.inl rfl)) pgs_nil)))) (fun _ _ _ _ _ => pts_nil) (fun _ _ _ _ _ => (pe_call G__law_same hr (by rfl) m__law_same k__law_same b__law_same .nil pass0 (pa_cons (pv 2) (pa_cons (pv 3) pa_nil))))) pa_nil))))))) pss_nil)
      (pss_cons (ps_if (PW.pt (pw_or (pt_cmpR op_isN (pv 1) pe_non (nomark _)) (pw_or1 (pt_val (pe_callB call_isiT (by rfl) T.n_isinstance (by decide +kernel) (pa_cons (pv 1) (pa_cons (pe_tup (pa_cons (pe_bltn (v := .ty "bool") (by rfl) T.n_bool (by decide +kernel) rfl) (pa_cons (pe_bltn (v := .ty "str") (by rfl) T.n_str (by decide +kernel) rfl) pa_nil))) pa_nil))))))) (pss_one (ps_ret (pe_and (pe_cmpR (op_eqD hr.units) (pv 0) (pv 1) (nomark _)) (pe_and (pe_cmpR op_eq (pe_callB call_isi (by rfl) T.n_isinstance (by decide +kernel) (pa_cons (pv 0) (pa_cons (pe_bltn (v := .ty "bool") (by rfl) T.n_bool (by decide +kernel) rfl) pa_nil))) (pe_callB call_isi (by rfl) T.n_isinstance (by decide +kernel) (pa_cons (pv 1) (pa_cons (pe_bltn (v := .ty "bool") (by rfl) T.n_bool (by decide +kernel) rfl) pa_nil))) (nomark _)) (pe_one (pe_cmpR op_eq (pe_cmpR op_isN (pv 0) pe_non (nomark _)) (pe_cmpR op_isN (pv 1) pe_non (nomark _)) (nomark _))))))) pss_nil)
      (pss_one (ps_ret (pe_and (pe_callB call_isi (by rfl) T.n_isinstance (by decide +kernel) (pa_cons (pv 0) (pa_cons (pe_bltn (v := .ty "int") (by rfl) T.n_int (by decide +kernel) rfl) pa_nil))) (pe_and (pe_not (pe_callB call_isi (by rfl) T.n_isinstance (by decide +kernel) (pa_cons (pv 0) (pa_cons (pe_bltn (v := .ty "bool") (by rfl) T.n_bool (by decide +kernel) rfl) pa_nil)))) (pe_one (pe_cmpR (op_eqD hr.units) (pv 0) (pv 1) (nomark _))))))))), ?_⟩
    rcases hd with (⟨b, rfl⟩ | ⟨i, rfl⟩ | rfl) | ⟨ds, hds, hl, hall⟩
    · cases hx
      cases hy
      refine q_when (b := false) (et_B (ev_isi2 (ev_var rfl) (fun _ _ => .base (.bl b)) kit2_bool)) (fun z => nomatch z) fun _ H1 e1 => ?_
      refine q_when (b := true) (et_or (a := false) (b := true) (et_test (ev_is (ev_isN (ev_var rfl)) (by congr 1))) fun _ => et_B (ev_isi2b (ev_var rfl) (fun _ _ => .base (.bl b)) kit2b_bool)) (fun _ H2 e2 => ?_) (fun z => nomatch z)
      refine s_ret (ev_andV (a := true) (b := true) (ev_op (ev_var rfl) (ev_var rfl) (rv_val fun H1 e1 Q1 q1 => ⟨_, _, .bl b, .bl b, by cases b <;> decide +kernel, by cases b <;> decide +kernel, by rw [show PyData.eqv (.bool b) (.bool b) = true by simp [PyData.eqv]]; exact q1⟩)) fun _ => ?_) fun H3 e3 => q H3 ((e1.trans e2).trans e3)
      exact ev_andV (a := true) (b := true) (ev_is (ev_op (ev_isi (tn := "bool") (ev_var rfl) (fun _ _ => .base (.bl b)) kBB) (ev_isi (tn := "bool") (ev_var rfl) (fun _ _ => .base (.bl b)) kBB) (rv_eq rfl)) (by rw [bdec]; rfl)) fun _ => ev_is (ev_op (ev_isN (ev_var rfl)) (ev_isN (ev_var rfl)) (rv_eq rfl)) (by rw [bdec]; rfl)
    · cases hx
      cases hy
      refine q_when (b := false) (et_B (ev_isi2 (ev_var rfl) (fun _ _ => .base (.int i)) kit2_int)) (fun z => nomatch z) fun _ H1 e1 => ?_
      refine q_when (b := false) (et_or (a := false) (b := false) (et_test (ev_is (ev_isN (ev_var rfl)) (by congr 1))) fun _ => et_B (ev_isi2b (ev_var rfl) (fun _ _ => .base (.int i)) kit2b_int)) (fun z => nomatch z) fun _ H2 e2 => ?_
      refine s_ret (ev_andV (a := true) (b := true) (ev_isi (tn := "int") (ev_var rfl) (fun _ _ => .base (.int i)) kII) fun _ => ev_andV (a := true) (b := true) (ev_notV (a := false) (ev_isi (tn := "int") (ev_var rfl) (fun _ _ => .base (.int i)) kIB)) fun _ => ?_) fun H3 e3 => q H3 ((e1.trans e2).trans e3)
      exact ev_op (ev_var rfl) (ev_var rfl) (rv_val fun H1 e1 Q1 q1 => ⟨_, _, .int i, .int i, by unfold SeqAt.shaped; simp [PyData.canLay0, PyData.depth], by unfold SeqAt.shaped; simp [PyData.canLay0, PyData.depth], by rw [show PyData.eqv (.int i) (.int i) = true by simp [PyData.eqv]]; exact q1⟩)
    · cases hx
      cases hy
      refine q_when (b := false) (et_B (ev_isi2 (ev_var rfl) (fun _ _ => .base (.str _)) kit2_str)) (fun z => nomatch z) fun _ H1 e1 => ?_
      refine q_when (b := true) (et_or (a := false) (b := true) (et_test (ev_is (ev_isN (ev_var rfl)) (by congr 1))) fun _ => et_B (ev_isi2b (ev_var rfl) (fun _ _ => .base (.str _)) kit2b_str)) (fun _ H2 e2 => ?_) (fun z => nomatch z)
      refine s_ret (ev_andV (a := true) (b := true) (ev_op (ev_var rfl) (ev_var rfl) (rv_val fun H1 e1 Q1 q1 => ⟨_, _, .str _, .str _, shaped_none, shaped_none, by rw [show PyData.eqv (.str "none") (.str "none") = true by simp [PyData.eqv]]; exact q1⟩)) fun _ => ?_) fun H3 e3 => q H3 ((e1.trans e2).trans e3)
      exact ev_andV (a := true) (b := true) (ev_is (ev_op (ev_isi (tn := "str") (ev_var rfl) (fun _ _ => .base (.str _)) kSB) (ev_isi (tn := "str") (ev_var rfl) (fun _ _ => .base (.str _)) kSB) (rv_eq rfl)) (by rw [bdec]; rfl)) fun _ => ev_is (ev_op (ev_isN (ev_var rfl)) (ev_isN (ev_var rfl)) (rv_eq rfl)) (by rw [bdec]; rfl)
    · have one : ∀ {σ : L2.St} {xs ys : List V} {H2 H3 : Hp} {i : Nat} {x y : V}, DpAll K H2 xs ds → DpAll K H2 ys ds → Ex H2 H3 → xs[i]? = some x → ys[i]? = some y → σ[2]? = some (some x) → σ[3]? = some (some y) → Ev (tCall (spSame K D) ([] : List V) E0 (tCons (tVar 2) (tCons (tVar 3) tNil))) σ H3 (.bl true) := fun h1 h2 e3 hxi hyi s2 s3 =>
        ev_call (ea_cons (ev_var s2) (ea_cons (ev_var s3) ea_nil)) fun H4 e4 Q4 q4 E4 => by
          obtain ⟨d1, hd1, hp1⟩ := dpAll_at h1 hxi
          obtain ⟨d2, hd2, hp2⟩ := dpAll_at h2 hyi
          obtain rfl : d1 = d2 := Option.some.inj (hd1.symm.trans hd2)
          exact ⟨_, _, d1, rfl, dp_mono (e3.trans e4) _ _ hp1, dp_mono (e3.trans e4) _ _ hp2, hall _ (List.mem_of_getElem? hd1), q4⟩
      have trues : ∀ n : Nat, ((List.range n).map fun _ => true).all id = true := fun n => List.all_eq_true.mpr fun b hb => by
        obtain ⟨_, _, e⟩ := List.mem_map.mp hb
        rw [← e]
        rfl
      rcases hds with rfl | rfl
      · cases hx with
        | @lst a xs _ hxs hxd =>
        cases hy with
        | @lst b ys _ hys hyd =>
        have lx := dpAll_len hxd
        have ly := dpAll_len hyd
        refine q_when (b := true) (et_B (ev_isi2 (ev_var rfl) (fun _ e => ty_L (ex_l e hys)) kit2_list)) (fun _ H1 e1 => ?_) (fun z => nomatch z)
        refine q_when (b := false) (et_or (a := false) (b := false) (et_test (ev_is (ev_op (ev_isi (tn := "list") (ev_var rfl) (fun _ e => ty_L (ex_l (e1.trans e) hxs)) kLL) (ev_isi (tn := "list") (ev_var rfl) (fun _ e => ty_L (ex_l (e1.trans e) hys)) kLL) (rv_ne rfl)) (by rw [bdec]; rfl))) fun _ => et_test (ev_is (ev_op (ev_isi (tn := "list") (ev_var rfl) (fun _ e => ty_L (ex_l (e1.trans e) hxs)) kLT) (ev_isi (tn := "list") (ev_var rfl) (fun _ e => ty_L (ex_l (e1.trans e) hys)) kLT) (rv_ne rfl)) (by rw [bdec]; rfl))) (fun z => nomatch z) fun _ H2 e2 => ?_
        have e12 := e1.trans e2
        refine s_ret (ev_andV (a := true) (b := true) (ev_is (ev_op (ev_len (ev_var rfl) (ex_l e12 hxs)) (ev_len (ev_var rfl) (ex_l e12 hys)) (rv_eq rfl)) (by rw [lx, ly]; simp)) fun _ => ?_) fun H3 e3 => q H3 (e12.trans e3)
        have z := el_zipL (K := K) (te := tCall (spSame K D) ([] : List V) E0 (tCons (tVar 2) (tCons (tVar 3) tNil))) (σ := L2.start N__law_same [V.ref a, V.ref b]) (H := H2) (tr := tCons (tVar 0) (tCons (tVar 1) tNil)) (xs := xs) (ys := ys) (j := 2) (j2 := 3) (vs := [2, 3]) (n := ds.length) (by rw [lx, ly, Nat.min_self]) (by omega) (fun H3 e3 Q3 q3 => ⟨_, rfl, _, rfl, q3 _ H3 (Ex.refl _) ⟨a, b, rfl, ex_l (e12.trans e3) hxs, ex_l (e12.trans e3) hys⟩⟩) (fun _ => V.bl true) (fun _ _ => rfl) (fun i x y H3 e3 hi hxi hyi => one hxd hyd (e12.trans e3) hxi hyi rfl rfl)
        exact ev_is (ev_all (bs := (List.range ds.length).map fun _ => true) (by rw [List.map_map]; exact z)) (by rw [trues])
      · cases hx with
        | @tup a xs _ hxs hxd =>
        cases hy with
        | @tup b ys _ hys hyd =>
        have lx := dpAll_len hxd
        have ly := dpAll_len hyd
        refine q_when (b := true) (et_B (ev_isi2 (ev_var rfl) (fun _ e => ty_T (ex_t e hys)) kit2_tuple)) (fun _ H1 e1 => ?_) (fun z => nomatch z)
        refine q_when (b := false) (et_or (a := false) (b := false) (et_test (ev_is (ev_op (ev_isi (tn := "tuple") (ev_var rfl) (fun _ e => ty_T (ex_t (e1.trans e) hxs)) kTL) (ev_isi (tn := "tuple") (ev_var rfl) (fun _ e => ty_T (ex_t (e1.trans e) hys)) kTL) (rv_ne rfl)) (by rw [bdec]; rfl))) fun _ => et_test (ev_is (ev_op (ev_isi (tn := "tuple") (ev_var rfl) (fun _ e => ty_T (ex_t (e1.trans e) hxs)) kTT) (ev_isi (tn := "tuple") (ev_var rfl) (fun _ e => ty_T (ex_t (e1.trans e) hys)) kTT) (rv_ne rfl)) (by rw [bdec]; rfl))) (fun z => nomatch z) fun _ H2 e2 => ?_
        have e12 := e1.trans e2
        refine s_ret (ev_andV (a := true) (b := true) (ev_is (ev_op (ev_lenT (ev_var rfl) (ex_t e12 hxs)) (ev_lenT (ev_var rfl) (ex_t e12 hys)) (rv_eq rfl)) (by rw [lx, ly]; simp)) fun _ => ?_) fun H3 e3 => q H3 (e12.trans e3)
        have z := el_zipT (K := K) (te := tCall (spSame K D) ([] : List V) E0 (tCons (tVar 2) (tCons (tVar 3) tNil))) (σ := L2.start N__law_same [V.ref a, V.ref b]) (H := H2) (tr := tCons (tVar 0) (tCons (tVar 1) tNil)) (xs := xs) (ys := ys) (j := 2) (j2 := 3) (vs := [2, 3]) (n := ds.length) (by rw [lx, ly, Nat.min_self]) (by omega) (fun H3 e3 Q3 q3 => ⟨_, rfl, _, rfl, q3 _ H3 (Ex.refl _) ⟨a, b, rfl, ex_t (e12.trans e3) hxs, ex_t (e12.trans e3) hys⟩⟩) (fun _ => V.bl true) (fun _ _ => rfl) (fun i x y H3 e3 hi hxi hyi => one hxd hyd (e12.trans e3) hxi hyi rfl rfl)
        exact ev_is (ev_all (bs := (List.range ds.length).map fun _ => true) (by rw [List.map_map]; exact z)) (by rw [trues])
def DD : Nat → PyData → Prop
  | 0 => fun _ => False
  | k + 1 => Deep (DD k)
theorem ok__law_same (F : Fun K "_law_same" "_law_same" s__law_same f fd) (T : Txt K mg) (m__law_same : mg "_law_same" = some (.ref f)) (b__law_same : Binds K fd ["_law_got", "_law_due"] []) : ∀ k, FnOk P w K mg base CX0 k f fd ["_law_got", "_law_due"] (spSame K (DD k))
  | 0 => ⟨fun _ _ _ _ ⟨_, _, _, _, _, _, h, _⟩ => h.elim, fun _ _ _ _ _ _ _ _ _ _ _ _ _ ⟨_, _, _, _, _, _, h, _⟩ => h.elim⟩
  | k + 1 => ok__law_same1 F T m__law_same b__law_same (ok__law_same F T m__law_same b__law_same k)
end
end KD
set_option Elab.async false
set_option linter.all false
set_option maxRecDepth 100000
set_option maxHeartbeats 4000000
/-! The walk: the tin that numbers are drawn from. -/
namespace KD
open PySem PySem.Spec PyProof.Rows L2 Evl KW KR KT
/-- all but t stays -/
def ExB (t : Addr) (H H' : Hp) : Prop := ∀ a o, a ≠ t → H a = some o → H' a = some o
def Tin (n : Nat) (t : Addr) (H : Hp) : Prop := ∃ x y z : Int, H t = some (.lst [.int x, .int y, .int z]) ∧ 0 ≤ z ∧ z ≤ (n : Int)
section
variable {K : PySem.W.Frag} {H H' H'' : Hp} {t a : Addr} {xs : List V} {n m : Nat}
theorem exB_refl : ExB t H H := fun _ _ _ h => h
theorem exB_of (e : Ex H H') : ExB t H H' := fun a o _ h => e a o h
theorem ExB.trans (e : ExB t H H') (e2 : ExB t H' H'') : ExB t H H'' := fun a o n h => e2 a o n (e a o n h)
theorem ExB.at {o : HO} (h : H' t = H' t) (e : ExB t H H') : ExB t H (upd H' t o) := fun a u n q => by rw [upd_ne n]; exact e a u n q
/-- what was not there may change -/
theorem ExB.mut {p : Addr} {o : HO} (e : ExB t H H') (h : H p = none) : ExB t H (upd H' p o) := fun a u n q => by
  by_cases z : a = p
  · subst z; rw [h] at q; cases q
  · rw [upd_ne z]; exact e a u n q
theorem tin_ex (e : Ex H H') (h : Tin n t H) : Tin n t H' := by
  obtain ⟨x, y, z, h1, h2⟩ := h
  exact ⟨x, y, z, e _ _ h1, h2⟩
theorem tin_le (h : Tin n t H) (hl : n ≤ m) : Tin m t H := by
  obtain ⟨x, y, z, h1, h2, h3⟩ := h
  exact ⟨x, y, z, h1, h2, by omega⟩
theorem tin_upd {p : Addr} {o : HO} (hp : p ≠ t) (h : Tin n t H) : Tin n t (upd H p o) := by
  obtain ⟨x, y, z, h1, h2⟩ := h
  exact ⟨x, y, z, by rw [upd_ne (Ne.symm hp)]; exact h1, h2⟩
theorem tin_new {p : Addr} (h : Tin n t H) (hp : H p = none) : p ≠ t := by
  rintro rfl
  obtain ⟨x, y, z, h1, _⟩ := h
  rw [hp] at h1; cases h1
theorem tin_tup (h : Tin n t H) (hs : SqT K H a xs) : SqT K H' a xs ∨ (a ≠ t) := by
  by_cases z : a = t
  · subst z
    obtain ⟨x, y, z, h1, _⟩ := h
    rcases hs with (h | ⟨o, h⟩) | h
    · rw [h1] at h; cases h
    · rw [h1] at h; cases h
    · exact .inl (.inr h)
  · exact .inr z
theorem t_B (e : ExB t H H') (h : Tin n t H) (hs : SqT K H a xs) : SqT K H' a xs := by
  rcases tin_tup (H' := H') h hs with q | q
  · exact q
  · rcases hs with (h | ⟨o, h⟩) | h
    · exact .inl (.inl (e _ _ q h))
    · exact .inl (.inr ⟨o, e _ _ q h⟩)
    · exact .inr h
theorem l_B (e : ExB t H H') (hn : a ≠ t) (hs : SqL K H a xs) : SqL K H' a xs := by
  rcases hs with (h | ⟨o, h⟩) | h
  · exact .inl (.inl (e _ _ hn h))
  · exact .inl (.inr ⟨o, e _ _ hn h⟩)
  · exact .inr h
theorem IsT_B {v : V} (e : ExB t H H') (h : Tin n t H) (hs : IsT K xs v H) : IsT K xs v H' := by
  obtain ⟨a, e1, h1⟩ := hs
  exact ⟨a, e1, t_B e h h1⟩
/-- a thing; where it is a list, one that was not there before -/
def ThF (K : PySem.W.Frag) (H0 : Hp) : VP := fun v H => ∃ th, ThOk K th v H ∧ ((∃ xs, th = .lst xs) → ∀ b, v = .ref b → H0 b = none)
theorem mo_thF {H0 : Hp} : Mo (ThF K H0) := fun _ _ _ e ⟨th, h1, h2⟩ => ⟨th, mo_th _ _ _ e h1, h2⟩
theorem thF_B {H0 : Hp} {v : V} {m : Nat} (h0 : Tin m t H0) (e : ExB t H H') (h : Tin n t H) (hs : ThF K H0 v H) : ThF K H0 v H' := by
  obtain ⟨th, h1, h2⟩ := hs
  refine ⟨th, ?_, h2⟩
  cases th with
  | non => exact h1
  | tup xs =>
    obtain ⟨a, e1, h3, h4⟩ := h1
    exact ⟨a, e1, t_B e h h3, h4⟩
  | lst xs =>
    obtain ⟨a, e1, h3, h4⟩ := h1
    have := h2 ⟨xs, rfl⟩ a e1
    exact ⟨a, e1, l_B e (tin_new h0 this) h3, h4⟩
theorem thF_le {H0 H0' : Hp} {v : V} (hs : ThF K H0 v H) (hl : ∀ b, H0 b = none → H0' b = none) : ThF K H0' v H := by
  obtain ⟨th, h1, h2⟩ := hs
  exact ⟨th, h1, fun z b hb => hl b (h2 z b hb)⟩
theorem none_B {p : Addr} (h : Tin n t H) (e : ExB t H H') (h' : Tin m t H') (hp : H' p = none) : H p = none := by
  cases hq : H p with
  | none => rfl
  | some o =>
    have := e p o (tin_new h' hp) hq
    rw [hp] at this; cases this
end
def RetB (t : Addr) (m : Nat) (P : VP) (H : Hp) (Q : VK) : Prop := ∀ v H2, ExB t H H2 → Tin m t H2 → P v H2 → Q v H2
def EvB (te : TE) (σ : L2.St) (H : Hp) (t : Addr) (m : Nat) (P : VP) : Prop := ∀ H1, Ex H H1 → ∀ Q : VK, RetB t m P H1 Q → te σ H1 Q
section
variable {K : PySem.W.Frag} {σ : L2.St} {H H' : Hp} {ta tb te tx : TE} {u : TT} {x y v : V} {r : R2} {P P1 P2 : VP} {t : Addr} {n m : Nat} {D : Ends} {tz tu tw : TS}
theorem eb_call {sp : Sp} {dvs : List V} {E : XK} {tr : TA} {Pa : List V → Hp → Prop} (h : EvAP tr σ H Pa) (hr : ∀ vs H1, Ex H H1 → Pa vs H1 → ∀ Q : VK, RetB t m P H1 Q → sp (vs ++ dvs) H1 Q E) : EvB (tCall sp dvs E tr) σ H t m P := fun H1 e Q q =>
  h H1 e _ fun vs H2 e2 hv => hr vs H2 (e.trans e2) hv Q fun v H3 e3 => q v H3 ((exB_of e2).trans e3)
theorem q_asgB {i : Nat} (h : EvB te σ H t m P) (k : ∀ v H1, ExB t H H1 → Tin m t H1 → P v H1 → tz D (σ.set i (some v)) H1) : tSeq (tAsg te (gName i)) tz D σ H := h H (Ex.refl H) _ k
theorem s_retB (h : EvB te σ H t m P) (k : RetB t m P H D.rt) : tRet te D σ H := h H (Ex.refl H) _ k
theorem eb_ev (h : Ev te σ H v) (ht : Tin m t H) (hp : ∀ H1, Ex H H1 → P v H1) : EvB te σ H t m P := fun H1 e Q q => h H1 e _ fun H2 e2 => q v H2 (exB_of e2) (tin_ex (e.trans e2) ht) (hp H2 (e.trans e2))
theorem eb_ep (h : EvP te σ H P) (ht : Tin m t H) : EvB te σ H t m P := fun H1 e Q q => h H1 e _ fun v H2 e2 hv => q v H2 (exB_of e2) (tin_ex (e.trans e2) ht) hv
theorem eb_imp (h : EvB te σ H t n P) (hm : n ≤ m) (hi : ∀ v H1, P v H1 → P1 v H1) : EvB te σ H t m P1 := fun H1 e Q q => h H1 e Q fun v H2 e2 h2 hv => q v H2 e2 (tin_le h2 hm) (hi v H2 hv)
theorem eb_if {b : Bool} (h : EvT u σ H b) (h1 : b = true → EvB ta σ H t m P) (h2 : b = false → EvB tb σ H t m P) : EvB (tIf u ta tb) σ H t m P := fun H1 e Q q => h H1 e _ fun H2 e2 => by
  cases b with
  | true =>
    show ta σ H2 Q
    exact h1 rfl H2 (e.trans e2) Q fun v H3 e3 => q v H3 ((exB_of e2).trans e3)
  | false =>
    show tb σ H2 Q
    exact h2 rfl H2 (e.trans e2) Q fun v H3 e3 => q v H3 ((exB_of e2).trans e3)
/-- a list displayed of things told by predicates -/
theorem es_lst {α : Type} {R : α → VP} {ms : List α} {tr : TA} (mR : ∀ m, Mo (R m)) (h : EvAP tr σ H (fun vs G => AllIn R ms vs G)) (hl : ms.length ≤ 100000) : EvLS (tLst tr) σ H (fun ys G => AllIn R ms ys G) := fun H1 e Q q =>
  h H1 e _ fun xs H2 e2 hx => ⟨by rw [hx.1]; exact sz_of hl, fun p hp => q p _ xs (fresh_back e2 hp) (e2.trans (Ex.new hp)) upd_same (hx.mono mR (Ex.new hp))⟩
theorem el_listL {xs : List V} (h : EvL te σ H xs) : EvL (tCB (rListS K) (tCons te tNil)) σ H xs := fun H1 e Q q =>
  h H1 e _ fun p H2 hn e2 h2 => ⟨p, xs, rfl, .inl (sq_of h2), fun l hl => q l _ (fresh_back e2 hl) (e2.trans (Ex.new hl)) upd_same⟩
/-- for i, x in enumerate(a list), what is known of its place kept -/
theorem q_enumLa {tr : TA} {xs : List V} {j j2 : Nat} {Pa : Addr → Prop} (h : EvAP tr σ H (fun us G => ∃ a, us = [.ref a] ∧ SqL K G a xs ∧ Pa a)) (k : ∀ a H1, Ex H H1 → SqL K H1 a xs → Pa a → ∃ Pv : Nat → L2.St → Hp → Prop, Pv 0 σ H1 ∧ (∀ i σ' G, Pv i σ' G → SqL K G a xs) ∧
    (∀ i x σ' G G', xs[i]? = some x → Pv i σ' G → Ex G G' → tu { D with nx := Pv (i + 1), ct := Pv (i + 1), bk := tz D } ((σ'.set j (some (.int (i : Int)))).set j2 (some x)) G') ∧ ∀ σ' G, Pv xs.length σ' G → tz D σ' G) :
    tSeq (tFor (iEnum K tr) (gTup K 2 (gCons (gName j) (gCons (gName j2) gNil))) tu) tz D σ H := h H (Ex.refl H) _ fun us H1 e ⟨a, eu, ha, hpa⟩ => by
  obtain ⟨Pv, h0, hm, hs, hd⟩ := k a H1 e ha hpa
  refine ⟨a, xs, eu, ha, for_it (D := { D with nx := tz D }) walk_enum Pv h0 (fun i σ' G _ p => hm i σ' G p) (fun i v σ' G G' hi p hy => ?_) hd⟩
  obtain ⟨T, x, y, rfl, hT, rfl, hx, hy2⟩ := hy
  obtain rfl : V.int (i : Nat) = x := Option.some.inj hx
  exact ⟨T, _, rfl, .inl (.inl upd_same), rfl, _, _, rfl, _, _, rfl, rfl, hs i y σ' G _ hy2 p (Ex.new hT)⟩
end
section
variable {P : Program} {w : World} {K : PySem.W.Frag} {mg : Str → Option Value} {base : Heap} {f : Addr} {fd : FuncData} {C : Addr}
/-! ### the tin -/
def spBox (K : PySem.W.Frag) : Sp := fun vs H Q _ => ∃ (a : Addr) (ns : List Int), vs = [.ref a, .int 0] ∧ SqL K H a (ns.map V.int) ∧ Ret (fun v G => ∃ t, v = .ref t ∧ Tin 0 t G) H Q
theorem ok__law_box (F : Fun K "_law_box" "_law_box" s__law_box f fd) (T : Txt K mg) : FnOk P w K mg base CX0 1 f fd ["_law_script", "_law_k"] (spBox K) := by
  refine F.ok sc__law_box (fun vs H Q E h => ?_) (fun cdv A outer s H vs Q E hr h => ?_)
  · obtain ⟨a, ns, rfl, _⟩ := h; rfl
  · obtain ⟨a, ns, rfl, hs, q⟩ := h
    refine ⟨_, (pss_cons (ps_set (i := 2) sc__law_box.nd rfl (Or.inl rfl) (pe_ifExp (pt_cmpR op_lt (pv 1) (pe_callB call_len_seq (by rfl) T.n_len (by decide +kernel) (pa_cons (pv 0) pa_nil)) (nomark _)) (pe_ix ix_list (pv 0) (pv 1) (fun _ _ => rfl)) pe_int))
      (pss_one (ps_ret (pe_lst (pa_cons (pe_op op_mul (pe_callB call_abs (by rfl) T.n_abs (by decide +kernel) (pa_cons (pv 2) pa_nil)) (pe_callTy call_int1 (by rfl) T.n_int (by decide +kernel) (pa_cons (pe_cmpR op_ge (pe_callB call_abs (by rfl) T.n_abs (by decide +kernel) (pa_cons (pv 2) pa_nil)) (pe_op op_pow pe_int pe_int) (nomark _)) pa_nil))) (pa_cons (pe_op op_add (pe_op op_add (pe_op op_mod (pe_callTy call_int1 (by rfl) T.n_int (by decide +kernel) (pa_cons (pv 2) pa_nil)) pe_int) (pe_op op_mul pe_int (pv 1))) pe_int) (pa_cons pe_int pa_nil))))))), ?_⟩
    have hc : ∃ c : Int, Ev (tIf (tTest (tOp (rI0 fun i j => V.bl (decide (i < j))) (tVar 1) (tCB (rLenS K) (tCons (tVar 0) tNil)))) (tOp (rIxL K) (tVar 0) (tVar 1)) (tC (.int 0))) (L2.start N__law_box [V.ref a, V.int 0]) H (.int c) := by
      cases ns with
      | nil => exact ⟨0, ev_if (b := false) (et_test (ev_is (ev_op (ev_var rfl) (ev_len (ev_var rfl) hs) rv_I0) rfl)) (fun z => nomatch z) fun _ => ev_c⟩
      | cons c r => exact ⟨c, ev_if (b := true) (et_test (ev_is (ev_op (ev_var rfl) (ev_len (ev_var rfl) hs) rv_I0) (by congr 1; exact decide_eq_true (by rw [List.length_map, List.length_cons]; omega)))) (fun _ => ev_op (ev_var rfl) (ev_var rfl) (rv_ixL hs (atI_nat (j := 0) rfl))) fun z => nomatch z⟩
    obtain ⟨c, hc⟩ := hc
    refine q_asg hc fun H1 e1 => ?_
    have abs : Ev (tCB (fun xs H Q => ∃ i, xs = [V.int i] ∧ Q (V.int (if i < 0 then -i else i)) H) (tCons (tVar 2) tNil)) ((L2.start N__law_box [V.ref a, V.int 0]).set 2 (some (V.int c))) H1 (.int (if c < 0 then -c else c)) := ev_cb (ea_cons (ev_var rfl) ea_nil) fun H2 e2 Q2 q2 => ⟨c, rfl, q2 H2 (Ex.refl _)⟩
    refine s_retL (el_lst (ea_cons (ev_op abs (ev_intb (ev_op abs (ev_op ev_c ev_c (rv_I (C := CPow) ⟨by decide, by decide, by decide⟩)) rv_I0)) (rv_I (C := CMul) (.inr ?_))) (ea_cons (ev_op (ev_op (ev_op (ev_inti (ev_var rfl)) ev_c (rv_I (by decide))) (ev_op ev_c (ev_var rfl) (rv_I (C := CMul) (.inl ⟨by decide, by decide⟩))) rv_I0) ev_c rv_I0) (ea_cons ev_c ea_nil))) (by show 3 ≤ 100000; decide)) fun p H2 hp e2 h2 => q _ H2 (e1.trans e2) ⟨p, rfl, _, _, _, h2, by decide, by decide⟩
    have bit : ∀ k : Bool, -(2 ^ 64) < (if k = true then (1 : Int) else 0) ∧ (if k = true then (1 : Int) else 0) < 2 ^ 64 := fun k => by cases k <;> decide
    exact bit _
def spTake : Sp := fun vs H Q _ => ∃ (t : Addr) (n b : Nat), vs = [.ref t, .int (b : Int)] ∧ 1 ≤ b ∧ b < 1000000 ∧ Tin n t H ∧ n ≤ 1000000000000 ∧ RetB t (n + 1) (fun v _ => ∃ r : Nat, v = .int (r : Int) ∧ r < b) H Q
theorem ok__law_take (F : Fun K "_law_take" "_law_take" s__law_take f fd) (T : Txt K mg) : FnOk P w K mg base CX0 1 f fd ["_law_tin", "_law_below_so"] spTake := by
  refine F.ok sc__law_take (fun vs H Q E h => ?_) (fun cdv A outer s H vs Q E hr h => ?_)
  · obtain ⟨t, n, b, rfl, _⟩ := h; rfl
  · obtain ⟨t, n, b, rfl, hb, hb2, ⟨x, y, z, ht, hz, hz2⟩, hn, q⟩ := h
    refine ⟨_, (pss_cons (ps_if (pt_cmpR op_gt (pe_ix ix_list (pv 0) pe_int (fun _ _ => rfl)) pe_int (nomark _)) (pss_cons (ps_set (i := 2) sc__law_take.nd rfl (Or.inl rfl) (pe_op op_mod (pe_callTy call_int1 (by rfl) T.n_int (by decide +kernel) (pa_cons (pe_ix ix_list (pv 0) pe_int (fun _ _ => rfl)) pa_nil)) (pv 1)))
      (pss_cons (ps_asg (pe_op op_fdiv (pe_ix ix_list (pv 0) pe_int (fun _ _ => rfl)) (pv 1)) (pg_sub (pv 0) pe_int set_list))
      (pss_one (ps_ret (pv 2))))) pss_nil)
      (pss_cons (ps_asg (pe_op op_add (pe_ix ix_list (pv 0) pe_int (fun _ _ => rfl)) pe_int) (pg_sub (pv 0) pe_int set_list))
      (pss_cons (ps_set (i := 3) sc__law_take.nd rfl (Or.inl rfl) (pe_op op_mod (pe_callTy call_int1 (by rfl) T.n_int (by decide +kernel) (pa_cons (pe_op op_mul (pe_op op_add (pe_ix ix_list (pv 0) pe_int (fun _ _ => rfl)) (pe_op op_mul pe_int (pe_ix ix_list (pv 0) pe_int (fun _ _ => rfl)))) (pe_op op_add pe_int (pe_ix ix_list (pv 0) pe_int (fun _ _ => rfl)))) pa_nil)) pe_int))
      (pss_cons (ps_set (i := 4) sc__law_take.nd rfl (Or.inl rfl) (pe_op op_add (pe_op op_mod (pe_callTy call_int1 (by rfl) T.n_int (by decide +kernel) (pa_cons (pv 3) pa_nil)) pe_int) pe_int))
      (pss_cons (ps_set (i := 5) sc__law_take.nd rfl (Or.inl rfl) (pe_op op_mod (pe_callTy call_int1 (by rfl) T.n_int (by decide +kernel) (pa_cons (pe_op op_mul (pe_op op_add (pe_op op_add (pv 3) (pe_ix ix_list (pv 0) pe_int (fun _ _ => rfl))) (pe_op op_fdiv (pe_ix ix_list (pv 0) pe_int (fun _ _ => rfl)) pe_int)) (pv 4)) pa_nil)) pe_int))
      (pss_one (ps_ret (pe_op op_mod (pe_callTy call_int1 (by rfl) T.n_int (by decide +kernel) (pa_cons (pe_op op_fdiv (pe_op op_mod (pe_callTy call_int1 (by rfl) T.n_int (by decide +kernel) (pa_cons (pe_op op_add (pe_op op_mul (pv 5) pe_int) (pv 3)) pa_nil)) pe_int) pe_int) pa_nil)) (pv 1))))))))), ?_⟩
    have ix : ∀ {σ : L2.St} {G : Hp} {xs : List V} {i : Nat} {v : V}, G t = some (.lst xs) → σ[0]? = some (some (.ref t)) → xs[i]? = some v → Ev (tOp (rIxL K) (tVar 0) (tC (.int (i : Int)))) σ G v := fun h1 h2 h3 => ev_op (ev_var h2) ev_c (rv_ixL (sq_of h1) (atI_nat h3))
    have md : ∀ e : Int, ∃ r : Nat, e % (b : Int) = (r : Int) ∧ r < b := fun e => ⟨(e % (b : Int)).toNat, by have := Int.emod_nonneg e (b := (b : Int)) (by omega); omega, by have := Int.emod_nonneg e (b := (b : Int)) (by omega); have := Int.emod_lt_of_pos e (b := (b : Int)) (by omega); omega⟩
    refine q_when (b := decide (x > 0)) (et_test (ev_op (ix (i := 0) ht rfl rfl) ev_c rv_I0)) (fun hb0 H1 e1 => ?_) (fun hb0 H1 e1 => ?_)
    · obtain ⟨r, hr1, hr2⟩ := md x
      refine q_asg (v := .int (r : Int)) (ev_is (ev_op (ev_inti (ix (i := 0) (e1 _ _ ht) rfl rfl)) (ev_var rfl) (rv_I (by omega))) (by rw [hr1])) fun H2 e2 => ?_
      have ht2 := e2 _ _ (e1 _ _ ht)
      refine q_setL (j := 0) ht2 (ev_op (ix (i := 0) ht2 rfl rfl) (ev_var rfl) (rv_I (C := CDiv) ⟨by omega, by omega⟩)) (ev_var rfl) ev_c (by show 0 < 3; decide) fun H3 e3 => ?_
      exact s_ret (ev_var rfl) fun H4 e4 => q _ H4 (((exB_of ((e1.trans e2).trans e3)).at rfl).trans (exB_of e4)) ⟨_, y, z, e4 _ _ upd_same, hz, by omega⟩ ⟨r, rfl, hr2⟩
    · have ht1 := e1 _ _ ht
      refine q_setL (j := 2) ht1 (ev_op (ix (i := 2) ht1 rfl rfl) ev_c rv_I0) (ev_var rfl) ev_c (by show 2 < 3; decide) fun H2 e2 => ?_
      have ht2 : (upd H2 t (.lst [V.int x, .int y, .int (z + 1)])) t = some (.lst [V.int x, .int y, .int (z + 1)]) := upd_same
      have eB : ExB t H (upd H2 t (.lst [V.int x, .int y, .int (z + 1)])) := (exB_of (e1.trans e2)).at rfl
      show tSeq _ _ _ _ (upd H2 t (.lst [V.int x, .int y, .int (z + 1)]))
      generalize upd H2 t (.lst [V.int x, .int y, .int (z + 1)]) = G at *
      refine q_asg (ev_op (ev_inti (ev_op (ev_op (ix (i := 1) ht2 rfl rfl) (ev_op ev_c (ix (i := 2) ht2 rfl rfl) (rv_I (C := CMul) (.inl ⟨by decide, by decide⟩))) rv_I0) (ev_op ev_c (ix (i := 2) ht2 rfl rfl) rv_I0) (rv_I (C := CMul) (.inr ⟨by omega, by omega⟩)))) ev_c (rv_I (by decide))) fun H3 e3 => ?_
      generalize (y + 48271 * (z + 1)) * (39373 + (z + 1)) % 2147483647 = o1
      have ht3 := e3 _ _ ht2
      refine q_asg (ev_op (ev_op (ev_inti (ev_var rfl)) ev_c (rv_I (by decide))) ev_c rv_I0) fun H4 e4 => ?_
      have hw : 0 ≤ o1 % 40009 + 7 ∧ o1 % 40009 + 7 < 100000 := by omega
      generalize o1 % 40009 + 7 = o2 at *
      have ht4 := e4 _ _ ht3
      refine q_asg (ev_op (ev_inti (ev_op (ev_op (ev_op (ev_var rfl) (ix (i := 2) ht4 rfl rfl) rv_I0) (ev_op (ix (i := 1) ht4 rfl rfl) ev_c (rv_I (C := CDiv) ⟨by decide, by decide⟩)) rv_I0) (ev_var rfl) (rv_I (C := CMul) (.inr ⟨by omega, by omega⟩)))) ev_c (rv_I (by decide))) fun H5 e5 => ?_
      generalize (o1 + (z + 1) + y / 1000003) * o2 % 2147483629 = o3
      obtain ⟨r, hr1, hr2⟩ := md ((o3 * 48271 + o1) % 2147483587 / 64)
      refine s_ret (v := .int (r : Int)) (ev_is (ev_op (ev_inti (ev_op (ev_op (ev_inti (ev_op (ev_op (ev_var rfl) ev_c (rv_I (C := CMul) (.inr ⟨by decide, by decide⟩))) (ev_var rfl) rv_I0)) ev_c (rv_I (by decide))) ev_c (rv_I (C := CDiv) ⟨by decide, by decide⟩))) (ev_var rfl) (rv_I (by omega))) (by rw [hr1])) fun H6 e6 => ?_
      have e7 : Ex G H6 := ((e3.trans e4).trans e5).trans e6
      exact q _ H6 (eB.trans (exB_of e7)) ⟨x, y, z + 1, e7 _ _ ht2, by omega, by omega⟩ ⟨r, rfl, hr2⟩
def spOf (K : PySem.W.Frag) : Sp := fun vs H Q _ => ∃ (t g : Addr) (n : Nat) (xs : List V), vs = [.ref t, .ref g] ∧ SqL K H g xs ∧ (∀ H2, ExB t H H2 → SqL K H2 g xs) ∧ 1 ≤ xs.length ∧ xs.length < 1000000 ∧ Tin n t H ∧ n ≤ 1000000000000 ∧ RetB t (n + 1) (fun v _ => v ∈ xs) H Q
theorem ok__law_of (F : Fun K "_law_of" "_law_of" s__law_of f fd) (T : Txt K mg) (C1 : Cal P w K mg base CX0 1 "_law_take" ["_law_tin", "_law_below_so"] spTake) : FnOk P w K mg base CX0 2 f fd ["_law_tin", "_law_goods_so"] (spOf K) := by
  obtain ⟨f1, fd1, G__law_take, m__law_take, k__law_take, b__law_take⟩ := C1.ex
  refine F.ok sc__law_of (fun vs H Q E h => ?_) (fun cdv A outer s H vs Q E hr h => ?_)
  · obtain ⟨t, g, n, xs, rfl, _⟩ := h; rfl
  · obtain ⟨t, g, n, xs, rfl, hg, hne, h1, h2, ht, hn, q⟩ := h
    refine ⟨_, (pss_one (ps_ret (pe_ix ix_list (pv 1) (pe_call G__law_take (hr.mono (by decide)) (by rfl) m__law_take k__law_take b__law_take .nil pass0 (pa_cons (pv 0) (pa_cons (pe_callB call_len_seq (by rfl) T.n_len (by decide +kernel) (pa_cons (pv 1) pa_nil)) pa_nil))) (fun _ _ => rfl)))), ?_⟩
    refine ⟨_, rfl, (ea_cons (ev_var rfl) (ea_cons (ev_len (ev_var rfl) hg) ea_nil)) H (Ex.refl H) _ fun H1 e1 => ⟨t, n, xs.length, rfl, h1, h2, tin_ex e1 ht, hn, fun v H2 e2 ht2 hv => ?_⟩⟩
    obtain ⟨r, rfl, hr⟩ := hv
    have eB := (exB_of e1).trans e2
    exact ⟨g, xs, _, xs[r], rfl, rfl, hne _ eB, atI_nat (List.getElem?_eq_getElem hr), q _ H2 eB ht2 (List.getElem_mem hr)⟩
/-! ### the cells -/
def spCells (K : PySem.W.Frag) : Sp := fun vs H Q _ => ∃ (a : Addr) (ns : List Int), vs = [.ref a, .int 1] ∧ SqL K H a (ns.map V.int) ∧ Ret (fun v G => ∃ (b : Addr) (ms : List Int), v = .ref b ∧ SqL K G b (ms.map V.int)) H Q
theorem cut_ints (ns : List Int) (lo hi : Option Int) : ∃ ms : List Int, cutV (ns.map V.int) lo hi = ms.map V.int := by
  unfold cutV
  rw [← List.map_drop, ← List.map_take]
  exact ⟨_, rfl⟩
theorem ok__law_cells (F : Fun K "_law_cells" "_law_cells" s__law_cells f fd) (T : Txt K mg) : FnOk P w K mg base CX0 1 f fd ["_law_script", "_law_most_so"] (spCells K) := by
  refine F.ok sc__law_cells (fun vs H Q E h => ?_) (fun cdv A outer s H vs Q E hr h => ?_)
  · obtain ⟨a, ns, rfl, _⟩ := h; rfl
  · obtain ⟨a, ns, rfl, hs, q⟩ := h
    refine ⟨_, (pss_cons (ps_set (i := 2) sc__law_cells.nd rfl (Or.inl rfl) (pe_orT (pe_callTy call_list_of (by rfl) T.n_list (by decide +kernel) (pa_cons (pe_slice sl_list (pv 0) po_none (po_some (pv 1))) pa_nil)) (pe_one (pe_lst (pa_cons pe_int pa_nil)))))
      (pss_cons (ps_for PassesOwn.never rfl (pi_enum (by rfl) T.n_enumerate (pa_cons (pe_slice sl_list (pv 0) (po_some (pv 1)) (po_some pe_int)) pa_nil)) (pg_tup (by rfl) (pgs_cons (pg_name (i := 3) sc__law_cells.nd rfl (Or.inl rfl)) (pgs_cons (pg_name (i := 4) sc__law_cells.nd rfl (Or.inl rfl)) pgs_nil))) (pss_cons (ps_set (i := 5) sc__law_cells.nd rfl (Or.inl rfl) (pe_op op_mod (pe_callTy call_int1 (by rfl) T.n_int (by decide +kernel) (pa_cons (pv 3) pa_nil)) (pv 1)))
      (pss_one (ps_asg (pe_op op_add (pe_ix ix_list (pv 2) (pv 5) (fun _ _ => rfl)) (pe_op op_mul (pv 4) (pe_op op_add (pv 3) pe_int))) (pg_sub (pv 2) (pv 5) set_list)))))
      (pss_one (ps_ret (pv 2))))), ?_⟩
    obtain ⟨ms, hms⟩ := cut_ints ns none (some 1)
    have l1 : EvL (tCB (rListS K) (tCons (tSl (rSlL K) (tVar 0) tNoPart (tPart (tVar 1))) tNil)) (L2.start N__law_cells [V.ref a, V.int 1]) H (ms.map V.int) := by
      rw [← hms]
      exact el_listL (el_sl (ev_var rfl) eo_none (eo_some (ev_var rfl)) hs)
    have hl1 : ms.length ≤ 1 := by
      have := congrArg List.length hms
      rw [List.length_map] at this
      unfold cutV at this
      rw [List.length_take, show HT.sIx (ns.map V.int).length (ns.map V.int).length (some 1) = min 1 (ns.map V.int).length from HT.sIx_nat _ _ 1] at this
      omega
    have l2 : ∃ m : Int, EvL (tOrT K (tCB (rListS K) (tCons (tSl (rSlL K) (tVar 0) tNoPart (tPart (tVar 1))) tNil)) (tLst (tCons (tC (.int 0)) tNil))) (L2.start N__law_cells [V.ref a, V.int 1]) H [.int m] := by
      match ms, hl1, l1 with
      | [], _, l1 =>
        refine ⟨0, fun H1 e Q q => l1 H1 e _ fun p H2 hn e2 h2 => ⟨false, .inl ⟨[], sq_of h2, rfl⟩, ?_⟩⟩
        exact (el_lst (ea_cons ev_c ea_nil) (by show 1 ≤ 100000; decide)) H2 (Ex.refl H2) _ fun p2 H3 hn2 e3 h3 => q p2 H3 (fresh_back e2 hn2) (e2.trans e3) h3
      | [m], _, l1 => exact ⟨m, fun H1 e Q q => l1 H1 e _ fun p H2 hn e2 h2 => ⟨true, .inl ⟨[.int m], sq_of h2, rfl⟩, q p H2 hn e2 h2⟩⟩
      | _ :: _ :: _, hl, _ => exact absurd hl (by simp)
    obtain ⟨m, l2⟩ := l2
    refine q_asgL l2 fun p H1 np e1 hp => ?_
    obtain ⟨ks, hks⟩ := cut_ints ns (some 1) (some 63)
    have hkl : ks.length ≤ 63 := by
      have := congrArg List.length hks
      rw [List.length_map] at this
      unfold cutV at this
      rw [List.length_take, show HT.sIx (ns.map V.int).length (ns.map V.int).length (some 63) = min 63 (ns.map V.int).length from HT.sIx_nat _ _ 63] at this
      omega
    refine q_enumLa (K := K) (xs := ks.map V.int) (Pa := fun a' => a' ≠ p) (fun H2 e2 Q2 q2 => (el_sl (K := K) (σ := (L2.start N__law_cells [V.ref a, V.int 1]).set 2 (some (V.ref p))) (ev_var rfl) (eo_some (ev_var rfl)) (eo_some ev_c) (ex_l (e1.trans e2) hs)) H2 (Ex.refl H2) _ fun p2 H3 hn e3 h3 => q2 [.ref p2] H3 e3 ⟨p2, rfl, sq_of (by rw [← hks]; exact h3), fun z => by rw [z, e2 _ _ hp] at hn; cases hn⟩) fun a' H2 e2 ha' hne => ?_
    refine ⟨fun i σ G => ∃ m : Int, ∃ c d e, σ = [some (.ref a), some (.int 1), some (.ref p), c, d, e] ∧ G p = some (.lst [.int m]) ∧ SqL K G a' (ks.map V.int) ∧ Ex H G, ⟨m, none, none, none, rfl, e2 _ _ hp, ha', e1.trans e2⟩, fun i σ' G ⟨_, _, _, _, _, _, h, _⟩ => h, fun i x σ' G G' hx hP e3 => ?_, fun σ' G hP => ?_⟩
    · obtain ⟨m, c, d, e, rfl, hG, ha2, eH⟩ := hP
      have hi : i < ks.length := by
        have := (List.getElem?_eq_some_iff.mp hx).1
        rwa [List.length_map] at this
      rw [List.getElem?_map] at hx
      obtain ⟨k0, _, rfl⟩ := Option.map_eq_some_iff.mp hx
      refine q_asg (v := .int ((0 : Nat) : Int)) (ev_is (ev_op (ev_inti (ev_var rfl)) (ev_var rfl) (rv_I (by decide))) (by congr 1; exact Int.emod_one _)) fun H3 e4 => ?_
      have e34 := e3.trans e4
      have hG3 := e34 _ _ hG
      refine s_setL (j := 0) hG3 (ev_op (ev_op (ev_var rfl) (ev_var rfl) (rv_ixL (sq_of hG3) (atI_nat (j := 0) rfl))) (ev_op (ev_var rfl) (ev_op (ev_var rfl) ev_c rv_I0) (rv_I (C := CMul) (.inr ⟨by omega, by omega⟩))) rv_I0) (ev_var rfl) (ev_var rfl) (by show 0 < 1; decide) fun H5 e5 => ?_
      exact ⟨_, _, _, _, rfl, upd_same, l_B ((exB_of (e34.trans e5)).at rfl) hne ha2, ((eH.trans e34).trans e5).mut np⟩
    · obtain ⟨m, c, d, e, rfl, hG, ha2, eH⟩ := hP
      exact s_ret (ev_var rfl) fun G2 e5 => q _ G2 (eH.trans e5) ⟨p, [m], rfl, sq_of (e5 _ _ hG)⟩
end
end KD
set_option Elab.async false
set_option linter.all false
set_option maxRecDepth 100000
set_option maxHeartbeats 4000000
/-! The walk: picks, some lot, bent lots. -/
namespace KD
open PySem PySem.Spec PyProof.Rows L2 Evl KW KR KT
theorem seqIx_nat {n r : Nat} (h : r < n) : seqIndex? (r : Int) n = some r := by
  unfold seqIndex?
  have h1 : ¬ (r : Int) < 0 := by omega
  have h2 : (r : Int) < (n : Int) := by omega
  simp only [h1, if_false]
  have h3 : (0 : Int) ≤ (r : Int) := by omega
  simp [h3, h2]
theorem ni_erase (l : List Nat) (r : Nat) : (ni l).eraseIdx r = ni (l.eraseIdx r) := by
  unfold ni
  induction l generalizing r with
  | nil => rfl
  | cons a l ih =>
    cases r with
    | zero => rfl
    | succ r =>
      show V.int (a : Int) :: (List.map _ l).eraseIdx r = V.int (a : Int) :: List.map _ (l.eraseIdx r)
      rw [ih]
theorem erase_perm : ∀ {l : List Nat} {r : Nat} (h : r < l.length), (l[r] :: l.eraseIdx r).Perm l
  | a :: l, 0, _ => .refl _
  | a :: l, r + 1, h => by
    have ih := erase_perm (l := l) (r := r) (by simpa using h)
    exact ((List.Perm.swap a (l[r]'(by simpa using h)) (l.eraseIdx r))).trans (ih.cons a)
theorem pick_perm {ms rest l : List Nat} {r : Nat} (hr : r < rest.length) (h : (ms ++ rest).Perm l) : ((ms ++ [rest[r]]) ++ rest.eraseIdx r).Perm l := by
  rw [List.append_assoc]
  exact ((erase_perm hr).append_left ms).trans h
section
variable {P : Program} {w : World} {K : PySem.W.Frag} {mg : Str → Option Value} {base : Heap} {f : Addr} {fd : FuncData} {C : Addr}
def spPick (K : PySem.W.Frag) : Sp := fun vs H Q _ => ∃ (t g : Addr) (n c : Nat) (l : List Nat), vs = [.ref t, .ref g, .int (c : Int)] ∧ SqL K H g (ni l) ∧ l.length ≤ 1000 ∧ c ≤ 1000 ∧ Tin n t H ∧ n ≤ 1000000000 ∧
  RetB t (n + 1000) (fun v G => ∃ (a : Addr) (ms rest : List Nat), v = .ref a ∧ a ≠ t ∧ SqL K G a (ni ms) ∧ (ms ++ rest).Perm l ∧ ms.length ≤ c) H Q
theorem ok__law_pick (F : Fun K "_law_pick" "_law_pick" s__law_pick f fd) (T : Txt K mg) (C1 : Cal P w K mg base CX0 1 "_law_take" ["_law_tin", "_law_below_so"] spTake) : FnOk P w K mg base CX0 2 f fd ["_law_tin", "_law_goods_so", "_law_count_so"] (spPick K) := by
  obtain ⟨f1, fd1, G__law_take, m__law_take, k__law_take, b__law_take⟩ := C1.ex
  refine F.ok sc__law_pick (fun vs H Q E h => ?_) (fun cdv A outer s H vs Q E hr h => ?_)
  · obtain ⟨t, g, n, c, l, rfl, _⟩ := h; rfl
  · obtain ⟨t, g, n, c, l, rfl, hg, hl, hc, ht, hn, q⟩ := h
    refine ⟨_, (pss_cons (ps_par (i := 3) (j := 4) (by rfl) sc__law_pick.nd rfl rfl (by decide) rfl rfl (pa_cons (pe_callTy call_list_of (by rfl) T.n_list (by decide +kernel) (pa_cons (pv 1) pa_nil)) (pa_cons (pe_lst pa_nil) pa_nil)) (by rfl))
      (pss_cons (ps_for PassesOwn.never rfl (pi_range1 (by rfl) T.n_range (pa_cons (pe_callB (call_min2 rfl) (by rfl) T.n_min (by decide +kernel) (pa_cons (pe_callTy call_int1 (by rfl) T.n_int (by decide +kernel) (pa_cons (pv 2) pa_nil)) (pa_cons (pe_callB call_len_seq (by rfl) T.n_len (by decide +kernel) (pa_cons (pv 3) pa_nil)) pa_nil))) pa_nil)) (pg_name (i := 5) sc__law_pick.nd rfl (Or.inl rfl)) (pss_one (ps_expr (pe_bm PySem.F.plainAttrs_list PySem.F.slot_list_append PySem.F.type_list_append mt_append (pv 4) (pa_cons (pe_bm PySem.F.plainAttrs_list PySem.F.slot_list_pop PySem.F.type_list_pop mt_popAt (pv 3) (pa_cons (pe_call G__law_take (hr.mono (by decide)) (by rfl) m__law_take k__law_take b__law_take .nil pass0 (pa_cons (pv 0) (pa_cons (pe_callB call_len_seq (by rfl) T.n_len (by decide +kernel) (pa_cons (pv 3) pa_nil)) pa_nil))) pa_nil)) pa_nil)))))
      (pss_one (ps_ret (pv 4))))), ?_⟩
    refine q_par (Pa := fun us G => ∃ p q, us = [V.ref p, V.ref q] ∧ H p = none ∧ H q = none ∧ p ≠ q ∧ G p = some (.lst (ni l)) ∧ G q = some (.lst [])) (fun H1 e Q1 q1 => (el_list (ev_var rfl) hg) H1 e _ fun p H2 hp e2 h2 => (el_lst ea_nil (by decide)) H2 (Ex.refl H2) _ fun q2 H3 hq e3 h3 => q1 _ H3 (e2.trans e3) ⟨p, q2, rfl, fresh_back e hp, fresh_back (e.trans e2) hq, fun z => (by rw [← z, h2] at hq; cases hq), e3 _ _ h2, h3⟩) fun us H1 e1 hx => ?_
    obtain ⟨p, p2, rfl, np, np2, hne, hp, hp2⟩ := hx
    refine ⟨_, _, rfl, ?_⟩
    have hpt := tin_new ht np
    have hpt2 := tin_new ht np2
    have cnt : EvA (tCons (tCB (fun xs H Q => ∃ i j, xs = [V.int i, V.int j] ∧ Q (V.int (if j < i then j else i)) H) (tCons (tCB (fun xs H Q => (∃ i, xs = [V.int i] ∧ Q (.int i) H) ∨ ∃ k, xs = [V.bl k] ∧ Q (.int (if k then 1 else 0)) H) (tCons (tVar 2) tNil)) (tCons (tCB (rLenS K) (tCons (tVar 3) tNil)) tNil))) tNil) ((((L2.start N__law_pick [V.ref t, V.ref g, V.int (c : Int)]).set 3 (some (V.ref p)))).set 4 (some (V.ref p2))) H1 [V.int ((min c l.length : Nat) : Int)] := ea_cons (ev_is (ev_cb (ea_cons (ev_inti (ev_var rfl)) (ea_cons (ev_len (ev_var rfl) (sq_of hp)) ea_nil)) fun H2 e2 Q2 q2 => ⟨_, _, rfl, q2 H2 (Ex.refl _)⟩) (by
        congr 1
        rw [ni_len]
        split <;> omega)) ea_nil
    refine q_forR1 cnt ⟨by omega, by omega⟩ (fun k σ G => ∃ ms rest lap, σ = [some (.ref t), some (.ref g), some (.int (c : Int)), some (.ref p), some (.ref p2), lap] ∧ G p = some (.lst (ni rest)) ∧ G p2 = some (.lst (ni ms)) ∧ ms.length = k ∧ (ms ++ rest).Perm l ∧ ExB t H G ∧ Tin (n + k) t G) (fun H2 e2 => ⟨[], l, none, rfl, e2 _ _ hp, e2 _ _ hp2, rfl, .refl _, exB_of (e1.trans e2), tin_ex (e1.trans e2) ht⟩) (fun k σ G hk hP => ?_) (fun σ G hP => ?_)
    · obtain ⟨ms, rest, lap, rfl, hGp, hGp2, hml, hperm, eB, hT⟩ := hP
      have hlen := hperm.length_eq
      rw [List.length_append] at hlen
      have hrl : 1 ≤ rest.length := by omega
      refine ⟨_, rfl, Or.inl ⟨rfl, _, sq_of hGp2⟩, _, rfl, Or.inl ⟨rfl, _, sq_of hGp⟩, ?_⟩
      show tCall spTake [] E0 _ _ G _
      refine (ea_cons (ev_var rfl) (ea_cons (ev_len (ev_var rfl) (sq_of hGp)) ea_nil)) G (Ex.refl G) _ fun G1 e2 => ⟨t, n + k, (ni rest).length, rfl, by rw [ni_len]; omega, by rw [ni_len]; omega, tin_ex e2 hT, by omega, fun v G2 e3 hT2 hv => ?_⟩
      obtain ⟨r, rfl, hr⟩ := hv
      rw [ni_len] at hr
      have eG := (exB_of e2).trans e3
      have hGp' := eG _ _ hpt hGp
      have hGp2' := eG _ _ hpt2 hGp2
      refine ⟨p, ni rest, _, r, .int ((rest[r] : Nat) : Int), rfl, rfl, hGp', by omega, by omega, seqIx_nat (by rw [ni_len]; exact hr), ni_at (List.getElem?_eq_getElem hr), ?_⟩
      refine ⟨p2, ni ms, _, rfl, rfl, by rw [upd_ne (Ne.symm hne)]; exact hGp2', by rw [ni_len]; exact sz_lt (by omega), ?_⟩
      refine ⟨ms ++ [rest[r]], rest.eraseIdx r, _, rfl, by rw [upd_ne hne, upd_same, ni_erase], by rw [upd_same, ni_app]; rfl, by rw [List.length_append, hml]; rfl, pick_perm hr hperm, ((eB.trans eG).mut np).mut np2, ?_⟩
      exact tin_upd hpt2 (tin_upd hpt hT2)
    · obtain ⟨ms, rest, lap, rfl, hGp, hGp2, hml, hperm, eB, hT⟩ := hP
      exact s_ret (ev_var rfl) fun G2 e5 => q _ G2 (eB.trans (exB_of e5)) (tin_le (tin_ex e5 hT) (by omega)) ⟨p2, ms, rest, rfl, hpt2, sq_of (e5 _ _ hGp2), hperm, by omega⟩
/-! ### some lot -/
theorem rg24 : rgV 0 24 = ni (List.range 24) := by decide +kernel
theorem lot_sorted {ms rest : List Nat} {ns : List Int} (h : (ms ++ rest).Perm (List.range 24)) (hp : ns.Perm (vi ms)) (hs : ns.Pairwise (· ≤ ·)) : ns = vi (K17.lotOf (K17.mk fun i => decide (i ∈ ms))) := by
  have hnd : (ms ++ rest).Nodup := h.nodup_iff.mpr List.nodup_range
  have hnd1 : ms.Nodup := (List.nodup_append.mp hnd).1
  have hlt : ∀ x ∈ ms, x < 24 := fun x hx => List.mem_range.mp (h.mem_iff.mp (List.mem_append.mpr (.inl hx)))
  have hnd2 : (vi ms).Nodup := by
    unfold vi
    exact List.Pairwise.map _ (fun a b (h : a ≠ b) => by show (a : Int) ≠ (b : Int); omega) hnd1
  have hnd3 : ns.Nodup := hp.nodup_iff.mpr hnd2
  have hst : ns.Pairwise (· < ·) := by
    refine List.Pairwise.imp₂ (fun a b h1 h2 => ?_) hs hnd3
    exact Int.lt_iff_le_and_ne.mpr ⟨h1, h2⟩
  refine asc_ext hst (lotOf_up _) fun k => ?_
  rw [hp.mem_iff, K17.lotOf_mk]
  unfold vi
  rw [List.mem_map, List.mem_map]
  constructor
  · rintro ⟨x, hx, rfl⟩
    exact ⟨x, List.mem_filter.mpr ⟨List.mem_range.mpr (hlt x hx), decide_eq_true hx⟩, rfl⟩
  · rintro ⟨x, hx, rfl⟩
    exact ⟨x, of_decide_eq_true (List.mem_filter.mp hx).2, rfl⟩
def spSomeLot (K : PySem.W.Frag) : Sp := fun vs H Q _ => ∃ (t : Addr) (n c : Nat), vs = [.ref t, .int (c : Int)] ∧ c ≤ 24 ∧ Tin n t H ∧ n ≤ 100000000 ∧ RetB t (n + 2000) (fun v G => ∃ g, g < 2 ^ 24 ∧ IsT K (ni (K17.lotOf g)) v G) H Q
theorem ok__law_some_lot (F : Fun K "_law_some_lot" "_law_some_lot" s__law_some_lot f fd) (T : Txt K mg) (C1 : Cal P w K mg base CX0 1 "_law_take" ["_law_tin", "_law_below_so"] spTake) (C2 : Cal P w K mg base CX0 2 "_law_pick" ["_law_tin", "_law_goods_so", "_law_count_so"] (spPick K)) : FnOk P w K mg base CX0 3 f fd ["_law_tin", "_law_most_so"] (spSomeLot K) := by
  obtain ⟨f1, fd1, G__law_take, m__law_take, k__law_take, b__law_take⟩ := C1.ex
  obtain ⟨f2, fd2, G__law_pick, m__law_pick, k__law_pick, b__law_pick⟩ := C2.ex
  refine F.ok sc__law_some_lot (fun vs H Q E h => ?_) (fun cdv A outer s H vs Q E hr h => ?_)
  · obtain ⟨t, n, c, rfl, _⟩ := h; rfl
  · obtain ⟨t, n, c, rfl, hc, ht, hn, q⟩ := h
    refine ⟨_, (pss_one (ps_ret (pe_callTy call_tuple_of (by rfl) T.n_tuple (by decide +kernel) (pa_cons (pe_callB cr_sortedI (by rfl) T.n_sorted (by decide +kernel) (pa_cons (pe_call G__law_pick (hr.mono (by decide)) (by rfl) m__law_pick k__law_pick b__law_pick .nil pass0 (pa_cons (pv 0) (pa_cons (pe_listRg rfl (by rfl) T.n_list (prg_1 (by rfl) T.n_range pe_int)) (pa_cons (pe_call G__law_take (hr.mono (by decide)) (by rfl) m__law_take k__law_take b__law_take .nil pass0 (pa_cons (pv 0) (pa_cons (pe_op op_add (pv 1) pe_int) pa_nil))) pa_nil)))) pa_nil)) pa_nil)))), ?_⟩
    have rg : RgOk 0 24 := RgOk.of_le (by decide) (by decide) (by decide) (by decide)
    -- the inner call: pick
    have pk : EvB (tCall (spPick K) [] E0 (tCons (tVar 0) (tCons (tLstRg (tRg1 (tC (.int 24)))) (tCons (tCall spTake [] E0 (tCons (tVar 0) (tCons (tOp (rI0 fun i j => V.int (i + j)) (tVar 1) (tC (.int 1))) tNil))) tNil)))) (L2.start N__law_some_lot [V.ref t, V.int (c : Int)]) H t (n + 1001) (fun v G => ∃ (a : Addr) (ms rest : List Nat), v = .ref a ∧ a ≠ t ∧ SqL K G a (ni ms) ∧ (ms ++ rest).Perm (List.range 24) ∧ ms.length ≤ 24) := by
      intro H1 e1 Q1 q1
      refine ⟨_, rfl, _, rfl, rg, fun p hp => ?_⟩
      have hpt := tin_new (tin_ex e1 ht) hp
      have e2 := Ex.new (o := HO.lst (rgV 0 24)) hp
      have hp2 : (upd H1 p (.lst (rgV 0 24))) p = some (.lst (ni (List.range 24))) := by rw [upd_same, rg24]
      generalize upd H1 p (.lst (rgV 0 24)) = G at *
      show tCall spTake [] E0 _ _ G _
      refine (ea_cons (ev_var rfl) (ea_cons (ev_is (w := .int ((c + 1 : Nat) : Int)) (ev_op (ev_var rfl) ev_c rv_I0) rfl) ea_nil)) G (Ex.refl G) _ fun G1 e3 => ⟨t, n, c + 1, rfl, by omega, by omega, tin_ex ((e1.trans e2).trans e3) ht, by omega, fun v G2 e4 hT2 hv => ?_⟩
      obtain ⟨r, rfl, hr⟩ := hv
      refine ⟨t, p, n + 1, r, List.range 24, rfl, l_B ((exB_of e3).trans e4) hpt (sq_of hp2), by decide, by omega, hT2, by omega, fun v G3 e5 hT3 hv => ?_⟩
      obtain ⟨a, ms, rest, rfl, hat, hs, hperm, hl⟩ := hv
      exact q1 _ G3 ((((exB_of e2).trans (exB_of e3)).trans e4).trans e5) (tin_le hT3 (by omega)) ⟨a, ms, rest, rfl, hat, hs, hperm, by omega⟩
    refine pk H (Ex.refl H) _ fun v G e1 hT hv => ?_
    obtain ⟨a, ms, rest, rfl, hat, hs, hperm, hl⟩ := hv
    refine ⟨a, vi ms, rfl, by rw [show (vi ms).map V.int = ni ms from (ni_eq ms).symm]; exact hs, fun ns p hp hso np => ⟨p, _, rfl, .inl ⟨sq_of upd_same, fun b nb => ?_⟩⟩⟩
    rw [lot_sorted hperm hp hso] at nb ⊢
    have e2 := Ex.new (o := HO.lst ((vi (K17.lotOf (K17.mk fun i => decide (i ∈ ms)))).map V.int)) np
    have e3 := (e2.trans (Ex.new (o := HO.tup ((vi (K17.lotOf (K17.mk fun i => decide (i ∈ ms)))).map V.int)) nb))
    refine q _ _ (e1.trans (exB_of e3)) (tin_le (tin_ex e3 hT) (by omega)) ⟨_, K17.mk_lt _, b, rfl, st_of (by rw [upd_same, ni_eq]; rfl)⟩
/-! ### bent lots -/
theorem sc_ni (l : List Nat) : (ni l).all sc = true := by
  unfold ni
  rw [List.all_map]
  exact List.all_eq_true.mpr fun _ _ => rfl
theorem thF_T {H0 : Hp} {v : V} {xs : List V} {H : Hp} (h : IsT K xs v H) (hs : xs.all sc = true) (hl : xs.length ≤ 1000) : ThF K H0 v H := by
  obtain ⟨a, e, h1⟩ := h
  exact ⟨.tup xs, ⟨a, e, h1, hs, hl⟩, fun ⟨_, z⟩ => nomatch z⟩
def spBent (K : PySem.W.Frag) : Sp := fun vs H Q _ => ∃ (t a : Addr) (n m : Nat), vs = [.ref t, .ref a] ∧ SqT K H a (ni (K17.lotOf m)) ∧ Tin n t H ∧ n ≤ 100000000 ∧ RetB t (n + 2) (ThF K H) H Q
theorem all_cut {xs : List V} {lo hi : Option Int} (h : xs.all sc = true) : (cutV xs lo hi).all sc = true := by
  unfold cutV
  exact List.all_eq_true.mpr fun x hx => List.all_eq_true.mp h x (List.mem_of_mem_drop (List.mem_of_mem_take hx))
theorem ok__law_bent (F : Fun K "_law_bent" "_law_bent" s__law_bent f fd) (T : Txt K mg) (C1 : Cal P w K mg base CX0 1 "_law_take" ["_law_tin", "_law_below_so"] spTake) (C2 : Cal P w K mg base CX0 2 "_law_of" ["_law_tin", "_law_goods_so"] (spOf K)) (C3 : Cal P w K mg base CX0 1 "_law_lot_sum" ["_law_one_so", "_law_two_so"] (spLotSum K)) : FnOk P w K mg base CX0 3 f fd ["_law_tin", "_law_own"] (spBent K) := by
  obtain ⟨f1, fd1, G__law_take, m__law_take, k__law_take, b__law_take⟩ := C1.ex
  obtain ⟨f2, fd2, G__law_of, m__law_of, k__law_of, b__law_of⟩ := C2.ex
  obtain ⟨f3, fd3, G__law_lot_sum, m__law_lot_sum, k__law_lot_sum, b__law_lot_sum⟩ := C3.ex
  refine F.ok sc__law_bent (fun vs H Q E h => ?_) (fun cdv A outer s H vs Q E hr h => ?_)
  · obtain ⟨t, a, n, m, rfl, _⟩ := h; rfl
  · obtain ⟨t, a, n, m, rfl, ha, ht, hn, q⟩ := h
    refine ⟨_, (pss_cons (ps_set (i := 2) sc__law_bent.nd rfl (Or.inl rfl) (pe_call G__law_take (hr.mono (by decide)) (by rfl) m__law_take k__law_take b__law_take .nil pass0 (pa_cons (pv 0) (pa_cons pe_int pa_nil))))
      (pss_cons (ps_set (i := 3) sc__law_bent.nd rfl (Or.inl rfl) (pe_lst (pa_cons (pe_call G__law_lot_sum (hr.mono (by decide)) (by rfl) m__law_lot_sum k__law_lot_sum b__law_lot_sum .nil pass0 (pa_cons (pv 1) (pa_cons (pe_tup (pa_cons (pv 2) pa_nil)) pa_nil))) (pa_cons (pe_op op_catA (pv 1) (pe_tup (pa_cons (pv 2) pa_nil))) (pa_cons (pe_slice sl_tupA (pv 1) (po_some pe_int) po_none) (pa_cons (pe_callTy call_list_of (by rfl) T.n_list (by decide +kernel) (pa_cons (pv 1) pa_nil)) (pa_cons (pe_op op_catA (pe_slice sl_tupA (pv 1) po_none (po_some (pe_un un_neg pe_int))) (pe_tup (pa_cons pe_bl pa_nil))) (pa_cons (pe_op op_catA (pe_slice sl_tupA (pv 1) po_none (po_some (pe_un un_neg pe_int))) (pe_tup (pa_cons pe_str pa_nil))) (pa_cons (pe_revT (pv 1)) (pa_cons (pe_op op_catA (pv 1) (pe_tup (pa_cons pe_int pa_nil))) pa_nil))))))))))
      (pss_one (ps_ret (pe_call G__law_of (hr.mono (by decide)) (by rfl) m__law_of k__law_of b__law_of .nil pass0 (pa_cons (pv 0) (pa_cons (pv 3) pa_nil))))))), ?_⟩
    refine q_asgB (t := t) (m := n + 1) (eb_call (ea_of (ea_cons (ev_var rfl) (ea_cons ev_c ea_nil))) fun vs H1 e1 ev Q1 q1 => ⟨t, n, 24, by rw [ev]; rfl, by decide, by decide, tin_ex e1 ht, by omega, q1⟩) fun v H1 e1 ht1 hv => ?_
    obtain ⟨r, rfl, hr⟩ := hv
    have ha1 := t_B e1 ht ha
    have hlen := lotOf_len24 m
    have hs0 := sc_ni (K17.lotOf m)
    have own : ∀ {H2 : Hp}, Ex H1 H2 → EvP (tVar 1) ((L2.start N__law_bent [V.ref t, V.ref a]).set 2 (some (V.int (r : Int)))) H2 (IsT K (ni (K17.lotOf m))) := fun e => ep_evi (ev_var rfl) fun H3 e3 => ⟨a, rfl, ex_t (e.trans e3) ha1⟩
    have T1 : ∀ {σ : L2.St} {H2 : Hp} {te : TE} {xs : List V}, EvP te σ H2 (IsT K xs) → xs.all sc = true → xs.length ≤ 1000 → EvP te σ H2 (ThF K H) := fun h hs hl => ep_imp h fun v H3 e3 hv => thF_T hv hs hl
    have ap : ∀ {xs ys : List V}, xs.all sc = true → ys.all sc = true → (xs ++ ys).all sc = true := fun h1 h2 => by rw [List.all_append, h1, h2]; rfl
    have cutl : ∀ lo hi, (cutV (ni (K17.lotOf m)) lo hi).length ≤ 24 := fun lo hi => Nat.le_trans (cutV_length _ _ _) (by rw [ni_len]; exact hlen)
    have z : ∀ H2, Ex H1 H2 → SqT K H2 a (ni (K17.lotOf m)) := fun H2 e => ex_t e ha1
    have rf := Ex.refl H1
    have tup1 : ∀ {te : TE} {x : V}, Ev te ((L2.start N__law_bent [V.ref t, V.ref a]).set 2 (some (V.int (r : Int)))) H1 x → EvP (tTup (tCons te tNil)) ((L2.start N__law_bent [V.ref t, V.ref a]).set 2 (some (V.int (r : Int)))) H1 (IsT K [x]) := fun h => ep_U (eu_tup (ea_cons h ea_nil) (by show 1 ≤ 100000; decide))
    refine q_asgLS (es_lst (R := fun (_ : Unit) => ThF K H) (ms := [(), (), (), (), (), (), (), ()]) (fun _ => mo_thF)
      (ea_consAll (fun _ => mo_thF) (T1 (xs := ni (K17.lotOf (m ^^^ 2 ^ r))) (ep_call (ea2 (own rf) mo_T (tup1 (ev_var rfl))) fun us H2 e2 hu Q2 q2 => ?_) (sc_ni _) (by rw [ni_len]; exact Nat.le_trans (lotOf_len24 _) (by decide)))
      (ea_consAll (fun _ => mo_thF) (T1 (ep_catA (own rf) (tup1 (ev_var rfl)) (by rw [ni_len]; simp; omega)) (ap hs0 rfl) (by rw [List.length_append, ni_len]; simp; omega))
      (ea_consAll (fun _ => mo_thF) (T1 (ep_slT (ev_var rfl) (eo_some ev_c) eo_none ha1) (all_cut hs0) (Nat.le_trans (cutl _ _) (by decide)))
      (ea_consAll (fun _ => mo_thF) (fun H2 e2 Q2 q2 => (el_listT (own rf)) H2 e2 _ fun p H3 hp e3 h3 => q2 (.ref p) H3 e3 ⟨.lst (ni (K17.lotOf m)), ⟨p, rfl, sq_of h3, hs0, by rw [ni_len]; omega⟩, fun _ b hb => none_B ht e1 ht1 (fresh_back e2 (by rw [← V.ref.inj hb]; exact hp))⟩)
      (ea_consAll (fun _ => mo_thF) (T1 (ep_catA (ep_slT (ev_var rfl) eo_none (eo_some (ev_un ev_c ru_neg)) ha1) (tup1 ev_c) (by have := cutl none (some (-1)); simp; omega)) (ap (all_cut hs0) rfl) (by rw [List.length_append]; have := cutl none (some (-1)); simp; omega))
      (ea_consAll (fun _ => mo_thF) (T1 (ep_catA (ep_slT (ev_var rfl) eo_none (eo_some (ev_un ev_c ru_neg)) ha1) (tup1 ev_c) (by have := cutl none (some (-1)); simp; omega)) (ap (all_cut hs0) rfl) (by rw [List.length_append]; have := cutl none (some (-1)); simp; omega))
      (ea_consAll (fun _ => mo_thF) (T1 (ep_U (ep_revT (ev_var rfl) ha1)) (by rw [List.all_reverse]; exact hs0) (by rw [List.length_reverse, ni_len]; omega))
      (ea_consAll (fun _ => mo_thF) (T1 (ep_catA (own rf) (tup1 ev_c) (by rw [ni_len]; simp; omega)) (ap hs0 rfl) (by rw [List.length_append, ni_len]; simp; omega)) ea_all)))))))) (by decide)) fun p H2 ys np e2 hp hall => ?_
    · obtain ⟨x, y, rfl, ⟨p, rfl, hp⟩, p2, rfl, hp2⟩ := hu
      refine ⟨p, p2, m, 2 ^ r, rfl, hp, ?_, fun v H3 e3 hv => q2 v H3 e3 hv⟩
      rw [lot_pow r hr]
      exact hp2
    · have hpt := tin_new ht1 np
      refine s_retB (t := t) (m := n + 2) (P := ThF K H) (eb_call (ea_of (ea_cons (ev_var rfl) (ea_cons (ev_var rfl) ea_nil))) fun vs H3 e3 ev Q3 q3 => ⟨t, p, n + 1, ys, by rw [ev]; rfl, sq_of (e3 _ _ hp), fun H5 e5 => l_B e5 hpt (sq_of (e3 _ _ hp)), by rw [hall.1]; decide, by rw [hall.1]; decide, tin_ex (e2.trans e3) ht1, by omega, fun v H4 e4 h4 hv => q3 v H4 e4 h4 ?_⟩) fun v H3 e3 h3 hv => q v H3 ((e1.trans (exB_of e2)).trans e3) h3 hv
      obtain ⟨i, hi⟩ := List.getElem?_of_mem hv
      have hi8 : i < 8 := by
        have := (List.getElem?_eq_some_iff.mp hi).1
        rwa [hall.1] at this
      obtain ⟨y, hy, hth⟩ := hall.2 i () (List.getElem?_eq_some_iff.mpr ⟨hi8, rfl⟩)
      obtain rfl : v = y := Option.some.inj (hi.symm.trans hy)
      exact thF_B ht ((exB_of e3).trans e4) (tin_ex e2 ht1) hth
end
end KD
set_option Elab.async false
set_option linter.all false
set_option maxRecDepth 100000
set_option maxHeartbeats 4000000
/-! The plain law: which right lots fill, which bar. -/
namespace K17
def openM (g : Nat) : Nat := 16777215 ^^^ g
theorem and_open {n : Nat} (g : Nat) (hn : n < 2 ^ 24) : n &&& openM g = outs n g := by
  have hk : outs n g < 2 ^ 24 := by
    unfold outs
    exact Nat.xor_lt_two_pow hn (and_lt_l _ hn)
  refine bits_ext (and_lt_l _ hn) hk fun i hi => ?_
  unfold outs openM
  rw [outs_bit, Nat.testBit_and, Nat.testBit_xor, show (16777215 : Nat) = 2 ^ 24 - 1 from rfl, Nat.testBit_two_pow_sub_one, decide_eq_true hi, Bool.true_xor]
def fillsM (n g : Nat) : List Nat := rightsL.filter fun o => o &&& openM g == n &&& openM g
def barsM (n g : Nat) : List Nat := rightsL.filter fun o => (o &&& g == 0) && (many (o &&& n) &&& 1 == 1)
theorem fills_mem {n g o : Nat} (hn : n < 2 ^ 24) : o ∈ fillsM n g ↔ o ∈ rightsL ∧ outs o g = outs n g := by
  unfold fillsM
  rw [List.mem_filter]
  refine and_congr_right fun ho => ?_
  rw [and_open g (rights_lt o ho), and_open g hn, beq_iff_eq]
theorem many_odd (x : Nat) : (many x &&& 1 == 1) = oddb 24 x := by
  rw [many_eq, cnt_odd, Nat.and_one_is_mod]
  rfl
theorem bars_mem {n g o : Nat} : o ∈ barsM n g ↔ o ∈ rightsL ∧ o &&& g = 0 ∧ oddb 24 (o &&& n) = true := by
  unfold barsM
  rw [List.mem_filter, Bool.and_eq_true, beq_iff_eq, many_odd]
theorem fill_bar_no {n g x o : Nat} (hx : x ∈ rightsL) (hx2 : outs x g = outs n g) (ho : o ∈ rightsL) (ho2 : o &&& g = 0) (ho3 : oddb 24 (o &&& n) = true) : False := by
  have e : ∀ y : Nat, o &&& outs y g = o &&& y := fun y => by
    unfold outs
    rw [and_xor_r, show o &&& (y &&& g) = (o &&& g) &&& y by rw [Nat.and_comm y g, Nat.and_assoc], ho2, Nat.zero_and, Nat.xor_zero]
  have e2 : o &&& n = o &&& x := by rw [← e n, ← hx2, e]
  rw [e2, rights_even ho hx] at ho3
  cases ho3
theorem cnt_and (a b : Nat) : ∀ k, cnt k (a &&& b) ≤ cnt k b
  | 0 => Nat.le_refl _
  | k + 1 => by
    have ih := cnt_and a b k
    show cnt k (a &&& b) + _ ≤ cnt k b + _
    rw [bit_mod, bit_mod, Nat.testBit_and]
    cases a.testBit k <;> cases b.testBit k <;> simp <;> omega
theorem fills_few {n g : Nat} (hn : n < 2 ^ 24) (hg : cnt 24 g < 8) : (fillsM n g).length ≤ 1 := by
  have hnd : (fillsM n g).Nodup := rights_nodup.filter _
  have one : ∀ a ∈ fillsM n g, ∀ b ∈ fillsM n g, a = b := fun a ha b hb => by
    have ha' := (fills_mem hn).mp ha
    have hb' := (fills_mem hn).mp hb
    have hx : a ^^^ b ∈ rightsL := rights_closed.2 a b ha'.1 hb'.1
    by_cases z : a ^^^ b = 0
    · rw [← xor_canc a b, z, Nat.zero_xor]
    · have h8 := rights_heavy hx z
      have e : a ^^^ b = (a ^^^ b) &&& g := by
        have e1 : outs a g ^^^ outs b g = 0 := by rw [ha'.2, hb'.2, Nat.xor_self]
        have e2 : outs a g ^^^ outs b g = (a ^^^ b) ^^^ ((a ^^^ b) &&& g) := by
          unfold outs
          rw [and_xor_l]
          refine Nat.eq_of_testBit_eq fun i => ?_
          simp only [Nat.testBit_xor]
          cases a.testBit i <;> cases b.testBit i <;> cases (a &&& g).testBit i <;> cases (b &&& g).testBit i <;> rfl
        rw [e2] at e1
        have := xor_canc (a ^^^ b) ((a ^^^ b) &&& g)
        rw [e1, Nat.zero_xor] at this
        exact this.symm
      have := cnt_and (a ^^^ b) g 24
      rw [← e] at this
      omega
  match h : fillsM n g, hnd, one with
  | [], _, _ => exact Nat.zero_le _
  | [_], _, _ => exact Nat.le_refl _
  | a :: b :: r, hnd, one =>
    have := one a List.mem_cons_self b (List.mem_cons_of_mem _ List.mem_cons_self)
    rw [List.nodup_cons] at hnd
    exact absurd (by rw [this]; exact List.mem_cons_self) hnd.1
theorem fills_case {n g : Nat} (hn : n < 2 ^ 24) (h : (askedM n g).1 = 0) : (askedM n g).2 < 2 ^ 24 ∧ (askedM n g).2 ∈ fillsM n g ∧ barsM n g = [] := by
  obtain ⟨h1, h2, h3⟩ := filled_ok hn h
  have hr := (rights_iff h1).mpr h2
  refine ⟨h1, (fills_mem hn).mpr ⟨hr, h3⟩, List.eq_nil_iff_forall_not_mem.mpr fun o ho => ?_⟩
  obtain ⟨b1, b2, b3⟩ := bars_mem.mp ho
  exact fill_bar_no hr h3 b1 b2 b3
theorem bars_case {n g : Nat} (hn : n < 2 ^ 24) (h : (askedM n g).1 ≠ 0) : barM (bitsM (rowsOf g) (askedM n g).1) < 2 ^ 24 ∧ barM (bitsM (rowsOf g) (askedM n g).1) ∈ barsM n g ∧ fillsM n g = [] := by
  obtain ⟨h1, h2, h3, h4⟩ := barred_ok hn h
  have hr := (rights_iff h1).mpr h2
  refine ⟨h1, bars_mem.mpr ⟨hr, h3, h4⟩, List.eq_nil_iff_forall_not_mem.mpr fun x hx => ?_⟩
  obtain ⟨b1, b2⟩ := (fills_mem hn).mp hx
  exact fill_bar_no b1 b2 hr h3 h4
end K17
namespace KD
open K17
def ToldOk (o : Option Nat) (l : List Nat) : Prop := (∃ m, o = some m ∧ m < 2 ^ 24 ∧ m ∈ l) ∨ (o = none ∧ l = [])
theorem toldF_ok {n g : Nat} (hn : n < 2 ^ 24) : ToldOk (toldF n g) (fillsM n g) := by
  by_cases h : (askedM n g).1 = 0
  · obtain ⟨h1, h2, _⟩ := fills_case hn h
    exact .inl ⟨_, if_pos h, h1, h2⟩
  · exact .inr ⟨if_neg h, (bars_case hn h).2.2⟩
theorem toldB_ok {n g : Nat} (hn : n < 2 ^ 24) : ToldOk (toldB n g) (barsM n g) := by
  by_cases h : (askedM n g).1 = 0
  · exact .inr ⟨if_pos h, (fills_case hn h).2.2⟩
  · obtain ⟨h1, h2, _⟩ := bars_case hn h
    exact .inl ⟨_, if_neg h, h1, h2⟩
theorem one_of {n g : Nat} (hn : n < 2 ^ 24) : (decide (fillsM n g = []) == decide (barsM n g = [])) = false := by
  by_cases h : (askedM n g).1 = 0
  · obtain ⟨_, h2, h3⟩ := fills_case hn h
    have : ¬ fillsM n g = [] := fun z => by rw [z] at h2; cases h2
    rw [decide_eq_false this, decide_eq_true h3]
    rfl
  · obtain ⟨_, h2, h3⟩ := bars_case hn h
    have : ¬ barsM n g = [] := fun z => by rw [z] at h2; cases h2
    rw [decide_eq_false this, decide_eq_true h3]
    rfl
theorem fillQ_eq {n g : Nat} (hn : n < 2 ^ 24) (t : Thing) : fillQ n g t = (numSet t && decide (maskT t ∈ fillsM n g)) := by
  unfold fillQ
  congr 1
  rw [Bool.eq_iff_iff, Bool.and_eq_true, beq_iff_eq, beq_iff_eq, decide_eq_true_eq, fills_mem hn, rights_iff (maskT_lt t)]
theorem barQ_eq {n g : Nat} (t : Thing) : barQ n g t = (numSet t && decide (maskT t ∈ barsM n g)) := by
  unfold barQ
  congr 1
  rw [Bool.eq_iff_iff, Bool.and_eq_true, Bool.and_eq_true, beq_iff_eq, beq_iff_eq, decide_eq_true_eq, bars_mem, rights_iff (maskT_lt t)]
  have e : outs (maskT t) g = maskT t ↔ maskT t &&& g = 0 := by
    unfold outs
    generalize maskT t &&& g = b
    constructor
    · intro h
      have := xor_canc b (maskT t)
      rw [Nat.xor_comm b, h, Nat.xor_self] at this
      exact this.symm
    · intro h
      rw [h, Nat.xor_zero]
  rw [e]
end KD
set_option Elab.async false
set_option linter.all false
set_option maxRecDepth 100000
set_option maxHeartbeats 4000000
/-! The walk: words for the law's own question. -/
namespace KD
open PySem PySem.Spec PyProof.Rows L2 Evl KW KR KT
section
variable {K : PySem.W.Frag} {σ : L2.St} {H H' : Hp} {ta tb tc td te tl : TE} {u : TT} {t : Addr} {n m : Nat} {D : Ends} {tz tu tw : TS}
theorem l_B3 {a : Addr} {xs : List V} (e : ExB t H H') (h : Tin n t H) (hs : SqL K H a xs) (hl : xs.length ≠ 3) : SqL K H' a xs := by
  by_cases z : a = t
  · subst z
    obtain ⟨x, y, z, h1, _⟩ := h
    rcases hs with (h | ⟨o, h⟩) | h
    · rw [h1] at h; cases h; exact absurd rfl hl
    · rw [h1] at h; cases h
    · exact .inr h
  · exact l_B e z hs
def IsSome (K : PySem.W.Frag) : VP := fun v G => ∃ g, g < 2 ^ 24 ∧ IsT K (ni (K17.lotOf g)) v G
/-- take(tin, 2) == 0 -/
theorem bt_take (ht : Tin n t H) (hn : n ≤ 100000000000) (hσ : σ[0]? = some (some (.ref t))) : ∀ H1, Ex H H1 → ∀ Q : Bool → Hp → Prop, (∀ b H2, ExB t H1 H2 → Tin (n + 1) t H2 → Q b H2) → tTest (tOp rEq (tCall spTake ([] : List V) E0 (tCons (tVar 0) (tCons (tC (.int 2)) tNil))) (tC (.int 0))) σ H1 Q := fun H1 e Q q =>
  ⟨_, hσ, t, n, 2, rfl, by decide, by decide, tin_ex e ht, by omega, fun v H2 e2 h2 ⟨r, hv, _⟩ => by
    subst hv
    exact ⟨rfl, _, rfl, q _ H2 e2 h2⟩⟩
theorem eb_ifB {P : VP} (h : ∀ H1, Ex H H1 → ∀ Q : Bool → Hp → Prop, (∀ b H2, ExB t H1 H2 → Tin n t H2 → Q b H2) → u σ H1 Q) (h1 : ∀ H1, ExB t H H1 → Tin n t H1 → EvB ta σ H1 t m P) (h2 : ∀ H1, ExB t H H1 → Tin n t H1 → EvB tb σ H1 t m P) : EvB (tIf u ta tb) σ H t m P := fun H1 e Q q =>
  h H1 e _ fun b H2 e2 t2 => by
    cases b with
    | true =>
      show ta σ H2 Q
      exact h1 H2 ((exB_of e).trans e2) t2 H2 (Ex.refl H2) Q fun v H3 e3 => q v H3 (e2.trans e3)
    | false =>
      show tb σ H2 Q
      exact h2 H2 ((exB_of e).trans e2) t2 H2 (Ex.refl H2) Q fun v H3 e3 => q v H3 (e2.trans e3)
theorem q_ifB {P : VP} {i : Nat} {old : V} (h : ∀ H1, Ex H H1 → ∀ Q : Bool → Hp → Prop, (∀ b H2, ExB t H1 H2 → Tin n t H2 → Q b H2) → u σ H1 Q) (h1 : ∀ H1, ExB t H H1 → Tin n t H1 → EvP te σ H1 P) (ho : σ.set i (some old) = σ) (h2 : ∀ H1, ExB t H H1 → Tin n t H1 → P old H1)
    (k : ∀ v H1, ExB t H H1 → Tin n t H1 → P v H1 → tz D (σ.set i (some v)) H1) : tSeq (tIfS u (tAsg te (gName i)) tNext) tz D σ H :=
  h H (Ex.refl H) _ fun b H2 e2 t2 => by
    cases b with
    | true =>
      show tAsg te (gName i) { D with nx := tz D } σ H2
      exact s_asgP (D := { D with nx := tz D }) (h1 H2 e2 t2) fun v H3 e3 hv => k v H3 (e2.trans (exB_of e3)) (tin_ex e3 t2) hv
    | false =>
      show tz D σ H2
      have z := k old H2 e2 t2 (h2 H2 e2 t2)
      rw [ho] at z
      exact z
theorem ep_tup4 {P1 P2 : VP} {v3 v4 : V} (h1 : EvP ta σ H P1) (m1 : Mo P1) (h2 : EvP tb σ H P2) (m2 : Mo P2) (h3 : Ev tc σ H v3) (h4 : Ev td σ H v4) : EvP (tTup (tCons ta (tCons tb (tCons tc (tCons td tNil))))) σ H (fun v H1 => ∃ a xs, v = .ref a ∧ SqT K H1 a xs ∧ xs.length = 4 ∧ ∃ x y, xs = [x, y, v3, v4] ∧ P1 x H1 ∧ P2 y H1) := fun H1 e Q q =>
  h1 H1 e _ fun x H2 e2 hx => h2 H2 (e.trans e2) _ fun y H3 e3 hy => h3 H3 ((e.trans e2).trans e3) _ fun H4 e4 => h4 H4 (((e.trans e2).trans e3).trans e4) _ fun H5 e5 => ⟨(by show 4 ≤ sizeLine; decide), fun p hp =>
    q _ _ ((((e2.trans e3).trans e4).trans e5).trans (Ex.new hp)) ⟨p, _, rfl, st_of upd_same, rfl, x, y, rfl, m1 _ _ _ (((e3.trans e4).trans e5).trans (Ex.new hp)) hx, m2 _ _ _ ((e4.trans e5).trans (Ex.new hp)) hy⟩⟩
/-- data displayed -/
def DpR (K : PySem.W.Frag) (d : PyData) : VP := fun v G => Dp K G v d
theorem mo_dp : ∀ d, Mo (DpR K d) := fun d _ _ _ e h => dp_mono e d _ h
theorem dpAll_of : ∀ {ds : List PyData} {ys : List V}, AllIn (DpR K) ds ys H → DpAll K H ys ds
  | [], [], _ => .nil
  | [], y :: ys, h => absurd h.1 (by simp)
  | d :: ds, [], h => absurd h.1 (by simp)
  | d :: ds, y :: ys, h => by
    obtain ⟨y', h1, h2⟩ := h.2 0 d rfl
    cases h1
    exact .cons h2 (dpAll_of ⟨by have := h.1; simpa using this, fun i q hq => h.2 (i + 1) q hq⟩)
theorem ep_lstD {tr : TA} {ds : List PyData} (h : EvAP tr σ H (fun vs G => AllIn (DpR K) ds vs G)) (hl : ds.length ≤ 100000) : EvP (tLst tr) σ H (DpR K (.list ds)) := fun H1 e Q q =>
  es_lst mo_dp h hl H1 e Q fun p H2 ys hn e2 hp hall => q _ H2 e2 (.lst (sq_of hp) (dpAll_of hall))
theorem ep_D {xs : List V} {ds : List PyData} (h : EvL te σ H xs) (hd : ∀ G, DpAll K G xs ds) : EvP te σ H (DpR K (.list ds)) := ep_imp (ep_L (K := K) h) fun v G e ⟨a, ev, ha⟩ => by
  subst ev
  exact .lst ha (hd G)
theorem dp_bools (G : Hp) : ∀ bs : List Bool, DpAll K G (bs.map V.bl) (bs.map PyData.bool)
  | [] => .nil
  | b :: bs => .cons (.bl b) (dp_bools G bs)
/-- a comprehension over a list whose items are told -/
theorem el_A {α : Type} {R : α → VP} {ms : List α} {zs : List V} {a : Addr} {j : Nat} {vs : List Nat} (gv : α → V) (h : Ev tl σ H (.ref a)) (hx : SqL K H a zs) (hall : AllIn R ms zs H) (mR : ∀ m, Mo (R m)) (hz : zs.length ≤ 40000) (hw : ∀ x, wipe ((wipe σ vs).set j (some x)) vs = wipe σ vs)
    (he : ∀ m x H1, Ex H H1 → R m x H1 → Ev te ((wipe σ vs).set j (some x)) H1 (gv m)) : EvL (tLc (iList K tl) (gName j) tYes te vs) σ H (ms.map gv) := by
  have z := el_lcL (te := te) (t := tYes) (K := K) (σ := σ) (H := H) (tl := tl) (a := a) (xs := zs) (j := j) (vs := vs) (fun i => ((ms[i]?).map fun _ => true).getD false) (fun i => ((ms[i]?).map gv).getD .non) h hx hz hw (fun i x H1 e hi => ?_) (fun i x H1 e hi _ => ?_)
  · rw [hall.1] at z
    rw [given_all ms (fun _ => true) gv, filter_true] at z
    exact z
  · have hil : i < ms.length := by rw [← hall.1]; exact (List.getElem?_eq_some_iff.mp hi).1
    simp only [List.getElem?_eq_getElem hil, Option.map_some, Option.getD_some]
    exact et_yes
  · have hil : i < ms.length := by rw [← hall.1]; exact (List.getElem?_eq_some_iff.mp hi).1
    obtain ⟨y, hy, hR⟩ := hall.2 i _ (List.getElem?_eq_getElem hil)
    obtain rfl : x = y := Option.some.inj (hi.symm.trans hy)
    simp only [List.getElem?_eq_getElem hil, Option.map_some, Option.getD_some]
    exact he _ _ H1 e (mR _ _ _ _ e hR)
theorem things_of : ∀ zs : List V, (∀ z ∈ zs, ∃ th, ThOk K th z H) → ∃ ths, AllIn (ThOk K) ths zs H
  | [], _ => ⟨[], .nil⟩
  | z :: zs, h => by
    obtain ⟨th, h1⟩ := h z List.mem_cons_self
    obtain ⟨ths, h2⟩ := things_of zs fun y hy => h y (List.mem_cons_of_mem _ hy)
    exact ⟨th :: ths, .cons h1 h2⟩
/-- a comprehension over a list, the tin drawn from at each turn -/
theorem lc_bent {s : Addr} {ys : List V} {j : Nat} {vs : List Nat} (ht : Tin n t H) (hs : H s = some (.lst ys)) (hst : s ≠ t) (h : Ev tl σ H (.ref s)) (hz : ys.length ≤ 40000) (hw : ∀ x, wipe ((wipe σ vs).set j (some x)) vs = wipe σ vs)
    (hel : ∀ (i : Nat) x H1, ExB t H H1 → Tin (n + 2 * i) t H1 → i < ys.length → ys[i]? = some x → EvB te ((wipe σ vs).set j (some x)) H1 t (n + 2 * (i + 1)) (ThF K H1)) :
    EvB (tLc (iList K tl) (gName j) tYes te vs) σ H t (n + 2 * ys.length) (fun v G => ∃ p zs, v = .ref p ∧ H p = none ∧ G p = some (.lst zs) ∧ zs.length = ys.length ∧ ∀ z ∈ zs, ThF K H z G) := fun H1 e Q q =>
  h H1 e _ fun H2 e2 => ⟨s, rfl, ⟨ys, sq_of (e2 _ _ (e _ _ hs))⟩, fun Dl hD => by
    have e12 := e.trans e2
    have ht2 := tin_ex e12 ht
    have hDt := tin_new ht2 hD
    refine lc_it (walk_list (K := K) (a := s) (xs := ys)) (fun i G => ExB t H2 G ∧ Tin (n + 2 * i) t G ∧ SqL K G s ys ∧ ∃ zs, G Dl = some (.lst zs) ∧ zs.length = i ∧ ∀ z ∈ zs, ThF K (upd H2 Dl (.lst [])) z G)
      ⟨exB_of (Ex.new hD), tin_ex (Ex.new hD) ht2, sq_of (Ex.new hD _ _ (e12 _ _ hs)), [], upd_same, rfl, fun z hz => by cases hz⟩ (fun i G _ c => c.2.2.1) (fun i x G G2 hi c hy => ?_) (fun G c => ?_)
    · obtain ⟨e3, t3, s3, zs, hG, hl, hall⟩ := c
      obtain ⟨rfl, hx⟩ := hy
      refine ⟨hw x, ?_⟩
      refine hel i x _ ((exB_of e12).trans e3) t3 hi hx _ (Ex.refl _) _ fun y H4 e4 t4 hy => ⟨zs, e4 _ _ hDt hG, by rw [hl]; exact sz_lt (by omega), ?_⟩
      have hG4 := e4 _ _ hDt hG
      have hsD : s ≠ Dl := fun z => by rw [← z, e12 _ _ hs] at hD; cases hD
      have h0 : Tin n t (upd H2 Dl (.lst [])) := tin_ex (Ex.new hD) ht2
      have up : ∀ {z : V}, ThF K (upd H2 Dl (.lst [])) z H4 → ThF K (upd H2 Dl (.lst [])) z (upd H4 Dl (.lst (zs ++ [y]))) := fun {z} hz => by
        obtain ⟨th, h1, h2⟩ := hz
        refine ⟨th, ?_, h2⟩
        cases th with
        | non => exact h1
        | tup xs =>
          obtain ⟨b, e1, h3, h4⟩ := h1
          exact ⟨b, e1, sqT_upd h3 hG4, h4⟩
        | lst xs =>
          obtain ⟨b, e1, h3, h4⟩ := h1
          have hb : b ≠ Dl := fun q => by
            have := h2 ⟨xs, rfl⟩ b e1
            rw [q, upd_same] at this
            cases this
          exact ⟨b, e1, l_B (t := Dl) (fun c o hc hq => by rw [upd_ne hc]; exact hq) hb h3, h4⟩
      refine ⟨(e3.trans e4).mut hD, tin_upd hDt t4, l_B (t := Dl) (fun c o hc hq => by rw [upd_ne hc]; exact hq) hsD (l_B e4 hst s3), zs ++ [y], upd_same, by rw [List.length_append, hl]; rfl, fun z hz => up ?_⟩
      rcases List.mem_append.mp hz with hz | hz
      · exact thF_B h0 e4 t3 (hall z hz)
      · obtain rfl : z = y := by simpa using hz
        refine thF_le hy fun b hb => ?_
        have hbD : b ≠ Dl := fun q => by rw [q, hG] at hb; cases hb
        rw [upd_ne hbD]
        exact none_B ht2 e3 t3 hb
    · obtain ⟨e3, t3, s3, zs, hG, hl, hall⟩ := c
      refine q _ G ((exB_of e2).trans e3) t3 ⟨Dl, zs, rfl, fresh_back e12 hD, hG, hl, fun z hz => thF_le (hall z hz) fun b hb => ?_⟩
      by_cases hbD : b = Dl
      · rw [hbD]; exact fresh_back e12 hD
      · rw [upd_ne hbD] at hb
        exact fresh_back e12 hb⟩
end
end KD
set_option Elab.async false
set_option linter.all false
set_option maxRecDepth 100000
set_option maxHeartbeats 1000000
/-! The walk: the law's own question. -/
namespace KD
open PySem PySem.Spec PyProof.Rows L2 Evl KW KR KT
theorem rights_len : K17.rightsL.length = 4096 := by decide +kernel
theorem tally_len3 : (ni K17.tallyL).length ≠ 3 := by rw [ni_len]; decide +kernel
theorem rights_len3 : (ni K17.rightsL).length ≠ 3 := by rw [ni_len, rights_len]; decide
theorem cut_ni (l : List Nat) (lo hi : Option Int) : ∃ ms : List Nat, cutV (ni l) lo hi = ni ms ∧ ∀ m ∈ ms, m ∈ l := by
  unfold cutV ni
  rw [← List.map_drop, ← List.map_take]
  exact ⟨_, rfl, fun m hm => List.mem_of_mem_drop (List.mem_of_mem_take hm)⟩
theorem cut_to (xs : List V) (k : Nat) : (cutV xs none (some (k : Int))).length ≤ k := by
  unfold cutV
  rw [List.length_take, HT.sIx_nat]
  omega
theorem cut_last (xs : List V) : (cutV xs (some (-1)) none).length ≤ 1 := by
  unfold cutV
  rw [List.length_take, HT.sIx_none, show HT.sIx xs.length 0 (some (-1)) = ((-1 : Int) + (xs.length : Int)).toNat by show (if (-1 : Int) < 0 then ((-1 : Int) + (xs.length : Int)).toNat else min (-1 : Int).toNat xs.length) = _; rw [if_pos (by decide)]]
  omega
def toldD : Option Nat → PyData
  | some m => .tuple (dI (vi (K17.lotOf m)))
  | none => .str "none"
theorem dd_told (o : Option Nat) : DD 2 (toldD o) := by
  cases o with
  | none => exact .inl (.inr (.inr rfl))
  | some m => exact .inr ⟨_, .inr rfl, by unfold dI vi; rw [List.length_map, List.length_map]; exact Nat.le_trans (lotOf_len24 m) (by decide), fun e he => by
      unfold dI at he
      obtain ⟨i, _, rfl⟩ := List.mem_map.mp he
      exact .inl (.inr (.inl ⟨i, rfl⟩))⟩
theorem dd_tolds (os : List (Option Nat)) (h : os.length ≤ 1000) : DD 3 (.list (os.map toldD)) := .inr ⟨_, .inl rfl, by rw [List.length_map]; exact h, fun e he => by
  obtain ⟨o, _, rfl⟩ := List.mem_map.mp he
  exact dd_told o⟩
theorem dd_bools (bs : List Bool) (h : bs.length ≤ 1000) : DD 2 (.list (bs.map PyData.bool)) := .inr ⟨_, .inl rfl, by rw [List.length_map]; exact h, fun e he => by
  obtain ⟨b, _, rfl⟩ := List.mem_map.mp he
  exact .inl (.inl ⟨b, rfl⟩)⟩
theorem dd_two {d e : PyData} (h1 : DD 2 d) (h2 : DD 2 e) : DD 3 (.list [d, e]) := .inr ⟨_, .inl rfl, by show 2 ≤ 1000; decide, fun x hx => by
  rcases List.mem_cons.mp hx with rfl | hx
  · exact h1
  · rcases List.mem_cons.mp hx with rfl | hx
    · exact h2
    · cases hx⟩
theorem hw1 {σ : L2.St} {j : Nat} {x : V} : wipe ((wipe σ [j]).set j (some x)) [j] = wipe σ [j] := by
  show ((σ.set j none).set j (some x)).set j none = σ.set j none
  rw [List.set_set, List.set_set]
theorem band_eq0 (a b : Nat) : V.bl (decide (V.int (Builtin.bitAnd (a : Int) (b : Int)) = V.int 0)) = V.bl (a &&& b == 0) := by
  rw [bitAnd_nat]
  exact congrArg V.bl (vdec (a &&& b) 0)
theorem band_one (a : Nat) : V.bl (decide (V.int (Builtin.bitAnd (a : Int) 1) = V.int 1)) = V.bl (a &&& 1 == 1) := by
  rw [show Builtin.bitAnd (a : Int) 1 = ((a &&& 1 : Nat) : Int) from bitAnd_nat a 1]
  exact congrArg V.bl (vdec (a &&& 1) 1)
theorem band_two (a b c d : Nat) : V.bl (decide (V.int (Builtin.bitAnd (a : Int) (b : Int)) = V.int (Builtin.bitAnd (c : Int) (d : Int)))) = V.bl (a &&& b == c &&& d) := by
  rw [bitAnd_nat, bitAnd_nat, vdec]
theorem band_v (a b : Nat) : V.int (Builtin.bitAnd (a : Int) (b : Int)) = V.int ((a &&& b : Nat) : Int) := by rw [bitAnd_nat]
abbrev sg (t tt r e y gp lt sf hl bi sh op fl br td bd so th go : Option V) : L2.St := [t, tt, r, e, y, gp, lt, sf, hl, bi, sh, op, fl, br, td, bd, so, th, go, none]
section
variable {P : Program} {w : World} {K : PySem.W.Frag} {mg : Str → Option Value} {base : Heap} {f : Addr} {fd : FuncData} {C : Addr}
theorem told_dp {o : Option Nat} {v : V} {G : Hp} (h : Told K o v G) : DpR K (toldD o) v G := by
  cases o with
  | none =>
    obtain rfl : v = .str "none" := h
    exact .str _
  | some m =>
    obtain ⟨a, rfl, ha⟩ := h
    exact dp_T ha
def spRight (K : PySem.W.Frag) : Sp := fun vs H Q _ => ∃ (t : Addr) (b : V), vs = [.ref t, b] ∧ Tin 0 t H ∧ IsBoard K b H ∧ ∀ H2, Q (.bl true) H2
theorem ok__law_right (F : Fun K "_law_right" "_law_right" s__law_right f fd) (T : Txt K mg)
    (C1 : Cal P w K mg base CX0 1 "_law_take" ["_law_tin", "_law_below_so"] spTake) (C2 : Cal P w K mg base CX0 2 "_law_of" ["_law_tin", "_law_goods_so"] (spOf K)) (C3 : Cal P w K mg base CX0 3 "_law_some_lot" ["_law_tin", "_law_most_so"] (spSomeLot K))
    (C4 : Cal P w K mg base CX0 1 "_law_lot" ["_law_number_so"] (spLot K)) (C5 : Cal P w K mg base CX0 2 "_law_lists" ["_law_matter"] (spLists K)) (C6 : Cal P w K mg base CX0 1 "_law_bits" ["_law_lot_so"] (spBits K)) (C7 : Cal P w K mg base CX0 1 "_law_many" ["_law_tally_so", "_law_number_so"] (spMany K))
    (C8 : Cal P w K mg base CX0 7 "_law_heard" ["_law_door", "_law_lot_here", "_law_gaps"] (spHeard K)) (C9 : Cal P w K mg base CX0 4 "_law_told_right" ["_law_told", "_law_goods"] (spToldRight K)) (C10 : Cal P w K mg base CX0 3 "_law_same" ["_law_got", "_law_due"] (spSame K (DD 3)))
    (C11 : Cal P w K mg base CX0 3 "_law_bent" ["_law_tin", "_law_own"] (spBent K)) (C12 : Cal P w K mg base CX0 5 "is_filled" ["lot", "gaps", "thing"] (spIsFilled K)) (C13 : Cal P w K mg base CX0 5 "is_fill_bar" ["lot", "gaps", "thing"] (spIsFillBar K)) (C14 : Cal P w K mg base CX0 3 "_law_is_one" ["_law_goods", "_law_own"] (spIsOne K)) :
    FnOk P w K mg base CX0 8 f fd ["_law_tin", "_law_board_here"] (spRight K) := by
  obtain ⟨f1, fd1, G__law_take, m__law_take, k__law_take, b__law_take⟩ := C1.ex
  obtain ⟨f2, fd2, G__law_of, m__law_of, k__law_of, b__law_of⟩ := C2.ex
  obtain ⟨f3, fd3, G__law_some_lot, m__law_some_lot, k__law_some_lot, b__law_some_lot⟩ := C3.ex
  obtain ⟨f4, fd4, G__law_lot, m__law_lot, k__law_lot, b__law_lot⟩ := C4.ex
  obtain ⟨f5, fd5, G__law_lists, m__law_lists, k__law_lists, b__law_lists⟩ := C5.ex
  obtain ⟨f6, fd6, G__law_bits, m__law_bits, k__law_bits, b__law_bits⟩ := C6.ex
  obtain ⟨f7, fd7, G__law_many, m__law_many, k__law_many, b__law_many⟩ := C7.ex
  obtain ⟨f8, fd8, G__law_heard, m__law_heard, k__law_heard, b__law_heard⟩ := C8.ex
  obtain ⟨f9, fd9, G__law_told_right, m__law_told_right, k__law_told_right, b__law_told_right⟩ := C9.ex
  obtain ⟨f10, fd10, G__law_same, m__law_same, k__law_same, b__law_same⟩ := C10.ex
  obtain ⟨f11, fd11, G__law_bent, m__law_bent, k__law_bent, b__law_bent⟩ := C11.ex
  obtain ⟨f12, fd12, G_is_filled, m_is_filled, k_is_filled, b_is_filled⟩ := C12.ex
  obtain ⟨f13, fd13, G_is_fill_bar, m_is_fill_bar, k_is_fill_bar, b_is_fill_bar⟩ := C13.ex
  obtain ⟨f14, fd14, G__law_is_one, m__law_is_one, k__law_is_one, b__law_is_one⟩ := C14.ex
  refine F.ok sc__law_right (fun vs H Q E h => ?_) (fun cdv A outer s H vs Q E hr h => ?_)
  · obtain ⟨t, b, rfl, _⟩ := h; rfl
  · obtain ⟨t, b, rfl, ht, ⟨tt, r, e, y, rfl, hb, hrg, hty⟩, q⟩ := h
    refine ⟨_, (pss_cons (ps_asg (pv 1) (pg_tup (by rfl) (pgs_cons (pg_name (i := 2) sc__law_right.nd rfl (Or.inl rfl)) (pgs_cons (pg_name (i := 3) sc__law_right.nd rfl (Or.inl rfl)) (pgs_cons (pg_name (i := 4) sc__law_right.nd rfl (Or.inr rfl)) pgs_nil)))))
      (pss_cons (ps_set (i := 5) sc__law_right.nd rfl (Or.inr rfl) (pe_call G__law_some_lot (hr.mono (by decide)) (by rfl) m__law_some_lot k__law_some_lot b__law_some_lot .nil pass0 (pa_cons (pv 0) (pa_cons (pe_call G__law_of (hr.mono (by decide)) (by rfl) m__law_of k__law_of b__law_of .nil pass0 (pa_cons (pv 0) (pa_cons (pe_lst (pa_cons pe_int (pa_cons pe_int (pa_cons pe_int pa_nil)))) pa_nil))) pa_nil))))
      (pss_cons (ps_set (i := 6) sc__law_right.nd rfl (Or.inr rfl) (pe_ifExp (pt_cmpR op_eq (pe_call G__law_take (hr.mono (by decide)) (by rfl) m__law_take k__law_take b__law_take .nil pass0 (pa_cons (pv 0) (pa_cons pe_int pa_nil))) pe_int (nomark _)) (pe_call G__law_lot (hr.mono (by decide)) (by rfl) m__law_lot k__law_lot b__law_lot .nil pass0 (pa_cons (pe_call G__law_of (hr.mono (by decide)) (by rfl) m__law_of k__law_of b__law_of .nil pass0 (pa_cons (pv 0) (pa_cons (pv 2) pa_nil))) pa_nil)) (pe_call G__law_some_lot (hr.mono (by decide)) (by rfl) m__law_some_lot k__law_some_lot b__law_some_lot .nil pass0 (pa_cons (pv 0) (pa_cons pe_int pa_nil)))))
      (pss_cons (ps_if (pt_cmpR op_eq (pe_call G__law_take (hr.mono (by decide)) (by rfl) m__law_take k__law_take b__law_take .nil pass0 (pa_cons (pv 0) (pa_cons pe_int pa_nil))) pe_int (nomark _)) (pss_one (ps_set (i := 6) sc__law_right.nd rfl (Or.inr rfl) (pe_callTy call_tuple_of (by rfl) T.n_tuple (by decide +kernel) (pa_cons (pe_lc (own := [("_law_own", 19)]) (g := gName 19) rfl sc__law_right.nd (pi_tup (pv 6)) (blkOk_by (N := N__law_right) (sc := defScope s__law_right) (by decide +kernel)) (fun _ _ _ _ _ => (pg_name (i := 19) sc__law_right.nd rfl (Or.inl rfl))) (fun _ _ _ _ _ => (pts_one (pt_cmpR (kop_notIn_seq (K := K) rfl) (pv 19) (pv 5) (by rfl)))) (fun _ _ _ _ _ => (pv 19))) pa_nil)))) pss_nil)
      (pss_cons (ps_asg (pe_tup (pa_cons (pe_call G__law_lists (hr.mono (by decide)) (by rfl) m__law_lists k__law_lists b__law_lists .nil pass0 (pa_cons (pv 6) pa_nil)) (pa_cons (pe_call G__law_lists (hr.mono (by decide)) (by rfl) m__law_lists k__law_lists b__law_lists .nil pass0 (pa_cons (pv 5) pa_nil)) (pa_cons (pe_call G__law_bits (hr.mono (by decide)) (by rfl) m__law_bits k__law_bits b__law_bits .nil pass0 (pa_cons (pv 6) pa_nil)) (pa_cons (pe_call G__law_bits (hr.mono (by decide)) (by rfl) m__law_bits k__law_bits b__law_bits .nil pass0 (pa_cons (pv 5) pa_nil)) pa_nil))))) (pg_tup (by rfl) (pgs_cons (pg_name (i := 7) sc__law_right.nd rfl (Or.inr rfl)) (pgs_cons (pg_name (i := 8) sc__law_right.nd rfl (Or.inr rfl)) (pgs_cons (pg_name (i := 9) sc__law_right.nd rfl (Or.inr rfl)) (pgs_cons (pg_name (i := 10) sc__law_right.nd rfl (Or.inr rfl)) pgs_nil))))))
      (pss_cons (ps_set (i := 11) sc__law_right.nd rfl (Or.inr rfl) (pe_op op_xor pe_int (pv 10)))
      (pss_cons (ps_set (i := 12) sc__law_right.nd rfl (Or.inr rfl) (pe_lc (own := [("_law_own", 19)]) (g := gName 19) rfl sc__law_right.nd (pi_list (pv 2)) (blkOk_by (N := N__law_right) (sc := defScope s__law_right) (by decide +kernel)) (fun _ _ _ _ _ => (pg_name (i := 19) sc__law_right.nd rfl (Or.inl rfl))) (fun _ _ _ _ _ => (pts_one (pt_cmpR op_eq (pe_op op_and (pv 19) (pv 11)) (pe_op op_and (pv 9) (pv 11)) (nomark _)))) (fun _ _ _ _ _ => (pv 19))))
      (pss_cons (ps_set (i := 13) sc__law_right.nd rfl (Or.inr rfl) (pe_lc (own := [("_law_own", 19)]) (g := gName 19) rfl sc__law_right.nd (pi_list (pv 2)) (blkOk_by (N := N__law_right) (sc := defScope s__law_right) (by decide +kernel)) (fun _ _ _ _ _ => (pg_name (i := 19) sc__law_right.nd rfl (Or.inl rfl))) (fun _ _ _ _ _ => (pts_one (PW.pt (pw_and (pt_cmpR op_eq (pe_op op_and (pv 19) (pv 10)) pe_int (nomark _)) (pw_and1 (pt_cmpR op_eq (pe_op op_and (pe_call G__law_many (hr.mono (by decide)) (by rfl) m__law_many k__law_many b__law_many .nil pass0 (pa_cons (pv 4) (pa_cons (pe_op op_and (pv 19) (pv 9)) pa_nil))) pe_int) pe_int (nomark _))))))) (fun _ _ _ _ _ => (pv 19))))
      (pss_cons (ps_if (PW.pt (pw_or (pt_cmpR op_eq (pe_cmpR (op_eqD hr.units) (pv 12) (pe_lst pa_nil) (nomark _)) (pe_cmpR (op_eqD hr.units) (pv 13) (pe_lst pa_nil) (nomark _)) (nomark _)) (pw_or1 (PW.pt (pw_and (pt_cmpR op_lt (pe_callB call_len_seq (by rfl) T.n_len (by decide +kernel) (pa_cons (pv 5) pa_nil)) pe_int (nomark _)) (pw_and1 (pt_cmpR op_gt (pe_callB call_len_seq (by rfl) T.n_len (by decide +kernel) (pa_cons (pv 12) pa_nil)) pe_int (nomark _)))))))) (pss_one (ps_ret pe_bl)) pss_nil)
      (pss_cons (ps_par (i := 14) (j := 15) (by rfl) sc__law_right.nd rfl rfl (by decide) rfl rfl (pa_cons (pe_call G__law_heard (hr.mono (by decide)) (by rfl) m__law_heard k__law_heard b__law_heard .nil pass0 (pa_cons pe_int (pa_cons (pv 7) (pa_cons (pv 5) pa_nil)))) (pa_cons (pe_call G__law_heard (hr.mono (by decide)) (by rfl) m__law_heard k__law_heard b__law_heard .nil pass0 (pa_cons pe_int (pa_cons (pv 6) (pa_cons (pv 8) pa_nil)))) pa_nil)) (by rfl))
      (pss_cons (ps_if (PW.pt (pw_or (pt_not (pt_val (pe_call G__law_told_right (hr.mono (by decide)) (by rfl) m__law_told_right k__law_told_right b__law_told_right .nil pass0 (pa_cons (pv 14) (pa_cons (pv 12) pa_nil))))) (pw_or1 (pt_not (pt_val (pe_call G__law_told_right (hr.mono (by decide)) (by rfl) m__law_told_right k__law_told_right b__law_told_right .nil pass0 (pa_cons (pv 15) (pa_cons (pv 13) pa_nil)))))))) (pss_one (ps_ret pe_bl)) pss_nil)
      (pss_cons (ps_if (pt_not (pt_val (pe_call G__law_same (hr.mono (by decide)) (by rfl) m__law_same k__law_same b__law_same .nil pass0 (pa_cons (pe_lst (pa_cons (pe_call G__law_heard (hr.mono (by decide)) (by rfl) m__law_heard k__law_heard b__law_heard .nil pass0 (pa_cons pe_int (pa_cons (pv 6) (pa_cons (pv 8) pa_nil)))) (pa_cons (pe_call G__law_heard (hr.mono (by decide)) (by rfl) m__law_heard k__law_heard b__law_heard .nil pass0 (pa_cons pe_int (pa_cons (pv 7) (pa_cons (pv 5) pa_nil)))) pa_nil))) (pa_cons (pe_lst (pa_cons (pv 14) (pa_cons (pv 15) pa_nil))) pa_nil))))) (pss_one (ps_ret pe_bl)) pss_nil)
      (pss_cons (ps_setLc (i := 16) (own := [("_law_own", 19)]) (g := gName 19) rfl sc__law_right.nd rfl rfl (sw_true rfl rfl rfl (by decide +kernel)) (pi_list (pe_op op_cat (pe_op op_cat (pe_op op_cat (pe_slice sl_list (pv 12) po_none (po_some pe_int)) (pe_slice sl_list (pv 12) (po_some (pe_un un_neg pe_int)) po_none)) (pe_slice sl_list (pv 13) po_none (po_some pe_int))) (pe_slice sl_list (pv 13) (po_some (pe_un un_neg pe_int)) po_none))) (blkOk_by (N := N__law_right) (sc := defScope s__law_right) (by decide +kernel)) (fun _ _ _ _ _ => (pg_name (i := 19) sc__law_right.nd rfl (Or.inl rfl))) (fun _ _ _ _ _ => pts_nil) (fun _ _ _ _ _ => (pe_call G__law_lot (hr.mono (by decide)) (by rfl) m__law_lot k__law_lot b__law_lot .nil pass0 (pa_cons (pv 19) pa_nil))))
      (pss_cons (ps_set (i := 17) sc__law_right.nd rfl (Or.inl rfl) (pe_op op_cat (pe_op op_cat (pv 16) (pe_lc (own := [("_law_own", 19)]) (g := gName 19) rfl sc__law_right.nd (pi_list (pv 16)) (blkOk_by (N := N__law_right) (sc := defScope s__law_right) (by decide +kernel)) (fun _ _ _ _ _ => (pg_name (i := 19) sc__law_right.nd rfl (Or.inl rfl))) (fun _ _ _ _ _ => pts_nil) (fun _ _ _ _ _ => (pe_call G__law_bent (hr.mono (by decide)) (by rfl) m__law_bent k__law_bent b__law_bent .nil pass0 (pa_cons (pv 0) (pa_cons (pv 19) pa_nil)))))) (pe_lst (pa_cons (pv 6) (pa_cons (pv 5) (pa_cons (pe_tup pa_nil) (pa_cons pe_non (pa_cons (pe_tupRg rfl (by rfl) T.n_tuple (prg_1 (by rfl) T.n_range pe_int)) (pa_cons (pe_call G__law_lot (hr.mono (by decide)) (by rfl) m__law_lot k__law_lot b__law_lot .nil pass0 (pa_cons (pe_call G__law_of (hr.mono (by decide)) (by rfl) m__law_of k__law_of b__law_of .nil pass0 (pa_cons (pv 0) (pa_cons (pv 2) pa_nil))) pa_nil)) pa_nil)))))))))
      (pss_cons (ps_set (i := 18) sc__law_right.nd rfl (Or.inl rfl) (pe_lst (pa_cons (pe_lc (own := [("_law_own", 19)]) (g := gName 19) rfl sc__law_right.nd (pi_list (pv 17)) (blkOk_by (N := N__law_right) (sc := defScope s__law_right) (by decide +kernel)) (fun _ _ _ _ _ => (pg_name (i := 19) sc__law_right.nd rfl (Or.inl rfl))) (fun _ _ _ _ _ => pts_nil) (fun _ _ _ _ _ => (pe_call G_is_filled (hr.mono (by decide)) (by rfl) m_is_filled k_is_filled b_is_filled .nil pass0 (pa_cons (pv 7) (pa_cons (pv 5) (pa_cons (pv 19) pa_nil)))))) (pa_cons (pe_lc (own := [("_law_own", 19)]) (g := gName 19) rfl sc__law_right.nd (pi_list (pv 17)) (blkOk_by (N := N__law_right) (sc := defScope s__law_right) (by decide +kernel)) (fun _ _ _ _ _ => (pg_name (i := 19) sc__law_right.nd rfl (Or.inl rfl))) (fun _ _ _ _ _ => pts_nil) (fun _ _ _ _ _ => (pe_call G_is_fill_bar (hr.mono (by decide)) (by rfl) m_is_fill_bar k_is_fill_bar b_is_fill_bar .nil pass0 (pa_cons (pv 6) (pa_cons (pv 8) (pa_cons (pv 19) pa_nil)))))) pa_nil))))
      (pss_one (ps_ret (pe_call G__law_same (hr.mono (by decide)) (by rfl) m__law_same k__law_same b__law_same .nil pass0 (pa_cons (pv 18) (pa_cons (pe_lst (pa_cons (pe_lc (own := [("_law_own", 19)]) (g := gName 19) rfl sc__law_right.nd (pi_list (pv 17)) (blkOk_by (N := N__law_right) (sc := defScope s__law_right) (by decide +kernel)) (fun _ _ _ _ _ => (pg_name (i := 19) sc__law_right.nd rfl (Or.inl rfl))) (fun _ _ _ _ _ => pts_nil) (fun _ _ _ _ _ => (pe_call G__law_is_one (hr.mono (by decide)) (by rfl) m__law_is_one k__law_is_one b__law_is_one .nil pass0 (pa_cons (pv 12) (pa_cons (pv 19) pa_nil))))) (pa_cons (pe_lc (own := [("_law_own", 19)]) (g := gName 19) rfl sc__law_right.nd (pi_list (pv 17)) (blkOk_by (N := N__law_right) (sc := defScope s__law_right) (by decide +kernel)) (fun _ _ _ _ _ => (pg_name (i := 19) sc__law_right.nd rfl (Or.inl rfl))) (fun _ _ _ _ _ => pts_nil) (fun _ _ _ _ _ => (pe_call G__law_is_one (hr.mono (by decide)) (by rfl) m__law_is_one k__law_is_one b__law_is_one .nil pass0 (pa_cons (pv 13) (pa_cons (pv 19) pa_nil))))) pa_nil))) pa_nil)))))))))))))))))))), ?_⟩
    -- the board taken apart
    refine q_tup (K := K) (Pt := fun xs _ => xs = [.ref r, e, .ref y]) (ep_evi (ev_var rfl) fun H1 e1 => ⟨tt, _, rfl, ex_t e1 hb, rfl, rfl⟩) fun xs H1 e1 _ hxs => ?_
    subst hxs
    refine ⟨_, _, rfl, _, _, rfl, _, _, rfl, rfl, ?_⟩
    -- the gaps
    show tSeq _ _ _ (sg (some (.ref t)) (some (.ref tt)) (some (.ref r)) (some e) (some (.ref y)) none none none none none none none none none none none none none none) H1
    refine q_asgB (t := t) (m := 2001) (P := IsSome K) (fun H2 e2 Q2 q2 => ?_) fun v H2 e2 t2 hv => ?_
    · refine ⟨_, rfl, ?_⟩
      show tCall (spOf K) [] E0 _ _ H2 _
      refine ⟨_, rfl, (el_lst (ea_cons ev_c (ea_cons ev_c (ea_cons ev_c ea_nil))) (by show 3 ≤ 100000; decide)) H2 (Ex.refl H2) _ fun p H3 hp e3 h3 => ?_⟩
      have t0 := tin_ex (e1.trans e2) ht
      refine ⟨t, p, 0, [.int 5, .int 8, .int 14], rfl, sq_of h3, fun H4 e4 => l_B e4 (tin_new t0 hp) (sq_of h3), by decide, by decide, tin_ex e3 t0, by decide, fun v H4 e4 t4 hv => ?_⟩
      have : ∃ c : Nat, v = .int (c : Int) ∧ c ≤ 24 := by
        rcases List.mem_cons.mp hv with rfl | hv
        · exact ⟨5, rfl, by decide⟩
        · rcases List.mem_cons.mp hv with rfl | hv
          · exact ⟨8, rfl, by decide⟩
          · rcases List.mem_cons.mp hv with rfl | hv
            · exact ⟨14, rfl, by decide⟩
            · cases hv
      obtain ⟨c, rfl, hc⟩ := this
      exact ⟨t, 1, c, rfl, hc, t4, by decide, fun v H5 e5 t5 hv => q2 v H5 (((exB_of e3).trans e4).trans e5) t5 hv⟩
    obtain ⟨g, hg, pg, rfl, hgs⟩ := hv
    show tSeq _ _ _ (sg (some (.ref t)) (some (.ref tt)) (some (.ref r)) (some e) (some (.ref y)) (some (.ref pg)) none none none none none none none none none none none none none) H2
    have hrg2 : SqL K H2 r (ni K17.rightsL) := l_B3 e2 (tin_ex e1 ht) (ex_l e1 hrg) rights_len3
    have hty2 : SqL K H2 y (ni K17.tallyL) := l_B3 e2 (tin_ex e1 ht) (ex_l e1 hty) tally_len3
    have of_rights : ∀ {σ : L2.St} {G : Hp} {n : Nat}, Tin n t G → n ≤ 1000000 → SqL K G r (ni K17.rightsL) → σ[0]? = some (some (.ref t)) → σ[2]? = some (some (.ref r)) → EvB (tCall (spLot K) ([] : List V) E0 (tCons (tCall (spOf K) ([] : List V) E0 (tCons (tVar 0) (tCons (tVar 2) tNil))) tNil)) σ G t (n + 1) (IsSome K) := fun {σ G n} hT hn hR s0 s2 G1 e3 Q3 q3 => by
      show tCall (spOf K) [] E0 _ _ G1 _
      refine ⟨_, s0, _, s2, t, r, n, _, rfl, ex_l e3 hR, fun G2 e4 => l_B3 e4 (tin_ex e3 hT) (ex_l e3 hR) rights_len3, by rw [ni_len, rights_len]; decide, by rw [ni_len, rights_len]; decide, tin_ex e3 hT, by omega, fun v G2 e4 t4 hv => ?_⟩
      unfold ni at hv
      obtain ⟨m, hm, rfl⟩ := List.mem_map.mp hv
      exact ⟨m, rfl, fun v2 G3 e5 h5 => q3 v2 G3 (e4.trans (exB_of e5)) (tin_ex e5 t4) ⟨m, K17.rights_lt m hm, h5⟩⟩
    -- the lot
    refine q_asgB (t := t) (m := 5000) (P := IsSome K) (eb_ifB (n := 2002) (bt_take t2 (by decide) rfl) (fun H3 e3 t3 => eb_imp (of_rights t3 (by decide) (l_B3 e3 t2 hrg2 rights_len3) rfl rfl) (by decide) fun _ _ h => h) (fun H3 e3 t3 H4 e4 Q4 q4 => ⟨_, rfl, t, 2002, 24, rfl, by decide, tin_ex e4 t3, by decide, fun v H5 e5 t5 hv => q4 v H5 e5 (tin_le t5 (by decide)) hv⟩)) fun v H3 e3 t3 hv => ?_
    obtain ⟨n0, hn0, pl0, rfl, hl0⟩ := hv
    show tSeq _ _ _ (sg (some (.ref t)) (some (.ref tt)) (some (.ref r)) (some e) (some (.ref y)) (some (.ref pg)) (some (.ref pl0)) none none none none none none none none none none none none) H3
    have hgs3 := t_B e3 t2 hgs
    -- the lot cut
    refine q_ifB (t := t) (n := 5001) (i := 6) (old := .ref pl0) (P := IsSome K) (bt_take t3 (by decide) rfl) (fun H4 e4 t4 => ?_) rfl (fun H4 e4 t4 => ⟨n0, hn0, pl0, rfl, t_B e4 t3 hl0⟩) fun v H4 e4 t4 hv => ?_
    · refine ep_imp (ep_U (K := K) (eu_tuple (el_T (l := K17.lotOf n0) (em := fun (n : Nat) => V.int (n : Int)) (fun i => !decide (i ∈ K17.lotOf g)) (fun i => V.int (i : Int)) (ev_var rfl) (t_B e4 t3 hl0) (Nat.le_trans (lotOf_len24 _) (by decide)) (fun _ => hw1) (fun x H5 e5 _ => et_test (ev_niT (ev_var rfl) (ev_var rfl) (ex_t e5 (t_B e4 t3 hgs3)))) (fun x H5 e5 _ _ => ev_var rfl)))) fun v H5 e5 hv => ?_
      rw [K17.lotOf_out] at hv
      exact ⟨K17.outs n0 g, outs_lt hn0, hv⟩
    obtain ⟨n, hn, pl, rfl, hl⟩ := hv
    show tSeq _ _ _ (sg (some (.ref t)) (some (.ref tt)) (some (.ref r)) (some e) (some (.ref y)) (some (.ref pg)) (some (.ref pl)) none none none none none none none none none none none none) H4
    have hgs4 := t_B e4 t3 hgs3
    have hrg4 : SqL K H4 r (ni K17.rightsL) := l_B3 (e3.trans e4) t2 hrg2 rights_len3
    have hty4 : SqL K H4 y (ni K17.tallyL) := l_B3 (e3.trans e4) t2 hty2 tally_len3
    -- lists for tuples, bits
    refine q_tup (K := K) (Pt := fun xs G => ∃ x z, xs = [x, z, .int (n : Int), .int (g : Int)] ∧ IsLn K H4 (ni (K17.lotOf n)) x G ∧ IsLn K H4 (ni (K17.lotOf g)) z G) (ep_tup4
      (ep_calln (ea_of (ea_cons (ev_var rfl) ea_nil)) fun us H5 e5 eu Q5 q5 => ⟨pl, _, eu, ex_t e5 hl, Nat.le_trans (lotOf_len24 _) (by decide), fun v H6 e6 ⟨p, h1, h2, h3⟩ => q5 v H6 e6 ⟨p, h1, fresh_back e5 h2, h3⟩⟩) mo_Ln
      (ep_calln (ea_of (ea_cons (ev_var rfl) ea_nil)) fun us H5 e5 eu Q5 q5 => ⟨pg, _, eu, ex_t e5 hgs4, Nat.le_trans (lotOf_len24 _) (by decide), fun v H6 e6 ⟨p, h1, h2, h3⟩ => q5 v H6 e6 ⟨p, h1, fresh_back e5 h2, h3⟩⟩) mo_Ln
      (ev_call (ea_cons (ev_var rfl) ea_nil) fun H5 e5 Q5 q5 E5 => ⟨pl, n, rfl, ex_t e5 hl, hn, q5⟩) (ev_call (ea_cons (ev_var rfl) ea_nil) fun H5 e5 Q5 q5 E5 => ⟨pg, g, rfl, ex_t e5 hgs4, hg, q5⟩)) fun us H5 e5 _ hx => ?_
    obtain ⟨x1, y1, rfl, ⟨ps, rfl, nps, hps⟩, ph, rfl, nph, hph⟩ := hx
    refine ⟨_, _, rfl, _, _, rfl, _, _, rfl, _, _, rfl, rfl, ?_⟩
    show tSeq _ _ _ (sg (some (.ref t)) (some (.ref tt)) (some (.ref r)) (some e) (some (.ref y)) (some (.ref pg)) (some (.ref pl)) (some (.ref ps)) (some (.ref ph)) (some (.int (n : Int))) (some (.int (g : Int))) none none none none none none none none) H5
    refine q_asg (v := .int ((K17.openM g : Nat) : Int)) (ev_is (ev_op ev_c (ev_var rfl) rv_I0) (by rw [show (16777215 : Int) = ((16777215 : Nat) : Int) from rfl, bitXor_nat]; rfl)) fun H6 e6 => ?_
    have e46 := e5.trans e6
    show tSeq _ _ _ (sg (some (.ref t)) (some (.ref tt)) (some (.ref r)) (some e) (some (.ref y)) (some (.ref pg)) (some (.ref pl)) (some (.ref ps)) (some (.ref ph)) (some (.int (n : Int))) (some (.int (g : Int))) (some (.int ((K17.openM g : Nat) : Int))) none none none none none none none) H6
    -- the fills
    refine q_asgL (xs := ni (K17.fillsM n g)) (el_L (l := K17.rightsL) (em := fun (n : Nat) => V.int (n : Int)) (fun o => o &&& K17.openM g == n &&& K17.openM g) (fun (o : Nat) => V.int (o : Int)) (ev_var rfl) (ex_l e46 hrg4) (by rw [rights_len]; decide) (fun _ => hw1)
      (fun o H7 e7 _ => et_test (ev_is (ev_op (ev_op (ev_var rfl) (ev_var rfl) rv_I0) (ev_op (ev_var rfl) (ev_var rfl) rv_I0) (rv_eq rfl)) (band_two _ _ _ _))) (fun o H7 e7 _ _ => ev_var rfl)) fun pf H7 nf e7 hf => ?_
    have e47 := e46.trans e7
    show tSeq _ _ _ (sg (some (.ref t)) (some (.ref tt)) (some (.ref r)) (some e) (some (.ref y)) (some (.ref pg)) (some (.ref pl)) (some (.ref ps)) (some (.ref ph)) (some (.int (n : Int))) (some (.int (g : Int))) (some (.int ((K17.openM g : Nat) : Int))) (some (.ref pf)) none none none none none none) H7
    -- the bars
    refine q_asgL (xs := ni (K17.barsM n g)) (el_L (l := K17.rightsL) (em := fun (n : Nat) => V.int (n : Int)) (fun o => (o &&& g == 0) && (K17.many (o &&& n) &&& 1 == 1)) (fun (o : Nat) => V.int (o : Int)) (ev_var rfl) (ex_l e47 hrg4) (by rw [rights_len]; decide) (fun _ => hw1)
      (fun o H8 e8 ho => et_and (et_test (ev_is (ev_op (ev_op (ev_var rfl) (ev_var rfl) rv_I0) ev_c (rv_eq rfl)) (band_eq0 _ _))) fun _ => et_test (ev_is (ev_op (ev_op (ev_call (ea_cons (ev_var rfl) (ea_cons (ev_is (ev_op (ev_var rfl) (ev_var rfl) rv_I0) (band_v _ _)) ea_nil)) fun H9 e9 Q9 q9 E9 => ⟨y, o &&& n, rfl, ex_l ((e47.trans e8).trans e9) hty4, K17.and_lt_l _ (K17.rights_lt o ho), q9⟩) ev_c rv_I0) ev_c (rv_eq rfl)) (band_one _))) (fun o H8 e8 _ _ => ev_var rfl)) fun pb H8 nb e8 hpb => ?_
    have e48 := e47.trans e8
    show tSeq _ _ _ (sg (some (.ref t)) (some (.ref tt)) (some (.ref r)) (some e) (some (.ref y)) (some (.ref pg)) (some (.ref pl)) (some (.ref ps)) (some (.ref ph)) (some (.int (n : Int))) (some (.int (g : Int))) (some (.int ((K17.openM g : Nat) : Int))) (some (.ref pf)) (some (.ref pb)) none none none none none) H8
    have hf8 := e8 _ _ hf
    have t8 := tin_ex e48 t4
    -- one of the two is empty
    refine q_when (b := false || (decide (((ni (K17.lotOf g)).length : Int) < 8) && decide (((ni (K17.fillsM n g)).length : Int) > 1))) (et_or (a := false) (et_test (ev_is (ev_op (ev_eqLL (K := K) (l := K17.fillsM n g) (m := []) (ep_evi (ev_var rfl) fun H9 e9 => ⟨pf, rfl, sq_of (e9 _ _ hf8)⟩) (ep_L (el_lst ea_nil (by decide)))) (ev_eqLL (K := K) (l := K17.barsM n g) (m := []) (ep_evi (ev_var rfl) fun H9 e9 => ⟨pb, rfl, sq_of (e9 _ _ hpb)⟩) (ep_L (el_lst ea_nil (by decide)))) (rv_eq rfl)) (by rw [bdec, one_of hn]))) fun _ => et_and (et_test (ev_op (ev_lenT (ev_var rfl) (ex_t e48 hgs4)) ev_c rv_I0)) fun _ => et_test (ev_op (ev_len (ev_var rfl) (sq_of hf8)) ev_c rv_I0)) (fun hb H9 e9 => ?_) (fun hb H9 e9 => ?_)
    · exfalso
      rw [Bool.false_or, Bool.and_eq_true] at hb
      have h1 := of_decide_eq_true hb.1
      have h2 := of_decide_eq_true hb.2
      rw [ni_len, K17.lotOf_len] at h1
      rw [ni_len] at h2
      have := K17.fills_few (g := g) hn (by omega)
      omega
    have e89 := e48.trans e9
    have hf9 := e9 _ _ hf8
    have hb9 := e9 _ _ hpb
    -- what is told
    have soft : ∀ {G : Hp}, Ex H5 G → IsLot K n (.ref ps) G := fun e => ⟨ps, rfl, .inl (ex_l e hps)⟩
    have holes : ∀ {G : Hp}, Ex H5 G → IsLot K g (.ref ph) G := fun e => ⟨ph, rfl, .inl (ex_l e hph)⟩
    have lot : ∀ {G : Hp}, Ex H4 G → IsLot K n (.ref pl) G := fun e => ⟨pl, rfl, .inr (ex_t e hl)⟩
    have gaps : ∀ {G : Hp}, Ex H4 G → IsLot K g (.ref pg) G := fun e => ⟨pg, rfl, .inr (ex_t e hgs4)⟩
    have e59 : Ex H5 H9 := ((e6.trans e7).trans e8).trans e9
    refine q_par (ea2 (P1 := Told K (toldM 0 n g)) (P2 := Told K (toldM 1 n g)) (ep_calln (ea_of (ea_cons ev_c (ea_cons (ev_var rfl) (ea_cons (ev_var rfl) ea_nil)))) fun us G eG eu Q5 q5 => ⟨.ref ps, .ref pg, 0, n, g, eu, soft (e59.trans eG), gaps (e89.trans eG), q5⟩) mo_told
      (ep_calln (ea_of (ea_cons ev_c (ea_cons (ev_var rfl) (ea_cons (ev_var rfl) ea_nil)))) fun us G eG eu Q5 q5 => ⟨.ref pl, .ref ph, 1, n, g, eu, lot (e89.trans eG), holes (e59.trans eG), q5⟩)) fun us Ha ea hx => ?_
    obtain ⟨v1, v2, rfl, hv1, hv2⟩ := hx
    refine ⟨_, _, rfl, ?_⟩
    show tSeq _ _ _ (sg (some (.ref t)) (some (.ref tt)) (some (.ref r)) (some e) (some (.ref y)) (some (.ref pg)) (some (.ref pl)) (some (.ref ps)) (some (.ref ph)) (some (.int (n : Int))) (some (.int (g : Int))) (some (.int ((K17.openM g : Nat) : Int))) (some (.ref pf)) (some (.ref pb)) (some v1) (some v2) none none none) Ha
    have hfa := ea _ _ hf9
    have hba := ea _ _ hb9
    refine q_when (b := false) (et_or (a := false) (b := false) (et_not (a := true) (et_B (ev_call (ea_cons (ev_var rfl) (ea_cons (ev_var rfl) ea_nil)) fun G eG Q5 q5 E5 => ⟨v1, pf, K17.fillsM n g, toldM 0 n g, rfl, mo_told _ _ _ eG hv1, sq_of (eG _ _ hfa), toldF_ok hn, q5⟩))) fun _ => et_not (a := true) (et_B (ev_call (ea_cons (ev_var rfl) (ea_cons (ev_var rfl) ea_nil)) fun G eG Q5 q5 E5 => ⟨v2, pb, K17.barsM n g, toldM 1 n g, rfl, mo_told _ _ _ eG hv2, sq_of (eG _ _ hba), toldB_ok hn, q5⟩))) (fun z => nomatch z) fun _ Hb eb => ?_
    have e4b := (e89.trans ea).trans eb
    have e5b := (e59.trans ea).trans eb
    refine q_when (b := false) (et_not (a := true) (et_B (ev_ep (ep_calln (Pa := fun vs G => ∃ x y, vs = [x, y] ∧ DpR K (.list [toldD (toldM 0 n g), toldD (toldM 1 n g)]) x G ∧ DpR K (.list [toldD (toldM 0 n g), toldD (toldM 1 n g)]) y G) (ea2
      (ep_lstD (K := K) (ds := [toldD (toldM 0 n g), toldD (toldM 1 n g)]) (ea_consAll mo_dp (ep_imp (P := Told K (toldM 0 n g)) (ep_calln (ea_of (ea_cons ev_c (ea_cons (ev_var rfl) (ea_cons (ev_var rfl) ea_nil)))) fun us G eG eu Q5 q5 => ⟨.ref pl, .ref ph, 0, n, g, eu, lot (e4b.trans eG), holes (e5b.trans eG), q5⟩) fun v G eG hv => told_dp hv)
        (ea_consAll mo_dp (ep_imp (P := Told K (toldM 1 n g)) (ep_calln (ea_of (ea_cons ev_c (ea_cons (ev_var rfl) (ea_cons (ev_var rfl) ea_nil)))) fun us G eG eu Q5 q5 => ⟨.ref ps, .ref pg, 1, n, g, eu, soft (e5b.trans eG), gaps (e4b.trans eG), q5⟩) fun v G eG hv => told_dp hv) ea_all)) (by show 2 ≤ 100000; decide)) (mo_dp _)
      (ep_lstD (K := K) (ds := [toldD (toldM 0 n g), toldD (toldM 1 n g)]) (ea_consAll mo_dp (ep_evi (ev_var rfl) fun G eG => told_dp (mo_told _ _ _ (eb.trans eG) hv1)) (ea_consAll mo_dp (ep_evi (ev_var rfl) fun G eG => told_dp (mo_told _ _ _ (eb.trans eG) hv2)) ea_all)) (by show 2 ≤ 100000; decide)))
      fun us G eG hu Q5 q5 => by
        obtain ⟨x, y, rfl, hx, hy⟩ := hu
        exact ⟨x, y, _, rfl, hx, hy, dd_two (dd_told _) (dd_told _), fun G2 e2' => q5 _ G2 e2' rfl⟩)))) (fun z => nomatch z) fun _ Hc ec => ?_
    have e4c := e4b.trans ec
    have e5c := e5b.trans ec
    have hfc := ec _ _ (eb _ _ hfa)
    have hbc := ec _ _ (eb _ _ hba)
    -- some lots
    obtain ⟨l1, hl1, _⟩ := cut_ni (K17.fillsM n g) none (some 2)
    obtain ⟨l2, hl2, _⟩ := cut_ni (K17.fillsM n g) (some (-1)) none
    obtain ⟨l3, hl3, _⟩ := cut_ni (K17.barsM n g) none (some 3)
    obtain ⟨l4, hl4, _⟩ := cut_ni (K17.barsM n g) (some (-1)) none
    have k1 : l1.length ≤ 2 := by rw [← ni_len, ← hl1]; exact cut_to _ 2
    have k2 : l2.length ≤ 1 := by rw [← ni_len, ← hl2]; exact cut_last _
    have k3 : l3.length ≤ 3 := by rw [← ni_len, ← hl3]; exact cut_to _ 3
    have k4 : l4.length ≤ 1 := by rw [← ni_len, ← hl4]; exact cut_last _
    have hL : EvL (tOp rCat (tOp rCat (tOp rCat (tSl (rSlL K) (tVar 12) tNoPart (tPart (tC (.int 2)))) (tSl (rSlL K) (tVar 12) (tPart (tUn (rU fun i => V.int (-i)) (tC (.int 1)))) tNoPart)) (tSl (rSlL K) (tVar 13) tNoPart (tPart (tC (.int 3))))) (tSl (rSlL K) (tVar 13) (tPart (tUn (rU fun i => V.int (-i)) (tC (.int 1)))) tNoPart)) (sg (some (.ref t)) (some (.ref tt)) (some (.ref r)) (some e) (some (.ref y)) (some (.ref pg)) (some (.ref pl)) (some (.ref ps)) (some (.ref ph)) (some (.int (n : Int))) (some (.int (g : Int))) (some (.int ((K17.openM g : Nat) : Int))) (some (.ref pf)) (some (.ref pb)) (some v1) (some v2) none none none) Hc (ni (((l1 ++ l2) ++ l3) ++ l4)) := by
      rw [ni_app, ni_app, ni_app, ← hl1, ← hl2, ← hl3, ← hl4]
      refine el_cat (el_cat (el_cat (el_sl (ev_var rfl) eo_none (eo_some ev_c) (sq_of hfc)) (el_sl (ev_var rfl) (eo_some (ev_un ev_c ru_neg)) eo_none (sq_of hfc)) ?_) (el_sl (ev_var rfl) eo_none (eo_some ev_c) (sq_of hbc)) ?_) (el_sl (ev_var rfl) (eo_some (ev_un ev_c ru_neg)) eo_none (sq_of hbc)) ?_
      · rw [hl1, hl2, ni_len, ni_len]; omega
      · rw [hl1, hl2, hl3, List.length_append, ni_len, ni_len, ni_len]; omega
      · rw [hl1, hl2, hl3, hl4, List.length_append, List.length_append, ni_len, ni_len, ni_len, ni_len]; omega
    have kL : (((l1 ++ l2) ++ l3) ++ l4).length ≤ 7 := by rw [List.length_append, List.length_append, List.length_append]; omega
    have hL2 := hL
    generalize ((l1 ++ l2) ++ l3) ++ l4 = L at hL2 kL
    have hwi : ∀ x : V, wipe ((wipe (sg (some (.ref t)) (some (.ref tt)) (some (.ref r)) (some e) (some (.ref y)) (some (.ref pg)) (some (.ref pl)) (some (.ref ps)) (some (.ref ph)) (some (.int (n : Int))) (some (.int (g : Int))) (some (.int ((K17.openM g : Nat) : Int))) (some (.ref pf)) (some (.ref pb)) (some v1) (some v2) none none none) [19]).set 19 (some x)) [19] = wipe (sg (some (.ref t)) (some (.ref tt)) (some (.ref r)) (some e) (some (.ref y)) (some (.ref pg)) (some (.ref pl)) (some (.ref ps)) (some (.ref ph)) (some (.int (n : Int))) (some (.int (g : Int))) (some (.int ((K17.openM g : Nat) : Int))) (some (.ref pf)) (some (.ref pb)) (some v1) (some v2) none none none) [19] := fun _ => hw1
    refine q_asgLS (es_L (K := K) (R := IsLots K) (l := L) (em := fun (n : Nat) => V.int (n : Int)) (ep_L hL2) (fun m => m) (fun _ => mo_lots) st_lots (by omega) hwi (fun m G eG _ => ep_calln (ea_of (ea_cons (ev_var rfl) ea_nil)) fun us G2 eG2 eu Q5 q5 => ⟨m, eu, q5⟩)) fun pm Hd ys nm ed hm hall => ?_
    rw [show L.map (fun m => m) = L from List.map_id' L] at hall
    show tSeq _ _ _ (sg (some (.ref t)) (some (.ref tt)) (some (.ref r)) (some e) (some (.ref y)) (some (.ref pg)) (some (.ref pl)) (some (.ref ps)) (some (.ref ph)) (some (.int (n : Int))) (some (.int (g : Int))) (some (.int ((K17.openM g : Nat) : Int))) (some (.ref pf)) (some (.ref pb)) (some v1) (some v2) (some (.ref pm)) none none) Hd
    have e4d := e4c.trans ed
    have td := tin_ex e4d t4
    have hmt := tin_new (tin_ex e4c t4) nm
    have kys : ys.length ≤ 7 := by rw [hall.1]; exact kL
    -- all things
    refine q_asgB (t := t) (m := 6000) (P := fun v G => ∃ p zs, v = .ref p ∧ G p = some (.lst zs) ∧ zs.length ≤ 20 ∧ ∀ z ∈ zs, ∃ th, ThOk K th z G) (fun Ha ea Qa qa => ?_) fun v He ee te hv => ?_
    · have ta := tin_ex ea td
      refine ⟨_, rfl, ?_⟩
      refine (lc_bent (K := K) (t := t) (n := 5001) (j := 19) (vs := [19]) (σ := (sg (some (.ref t)) (some (.ref tt)) (some (.ref r)) (some e) (some (.ref y)) (some (.ref pg)) (some (.ref pl)) (some (.ref ps)) (some (.ref ph)) (some (.int (n : Int))) (some (.int (g : Int))) (some (.int ((K17.openM g : Nat) : Int))) (some (.ref pf)) (some (.ref pb)) (some v1) (some v2) (some (.ref pm)) none none)) ta (ea _ _ hm) hmt (ev_var rfl) (by omega) (fun _ => hw1) (fun i x H1 e1 t1 hi hx => ?_)) Ha (Ex.refl Ha) _ fun v Hb eb tb hv => ?_
      · have him : i < L.length := by rw [← hall.1]; exact hi
        obtain ⟨x', hx', a, rfl, ha⟩ := hall.2 i _ (List.getElem?_eq_getElem him)
        obtain rfl : x = .ref a := Option.some.inj (hx.symm.trans hx')
        exact eb_call (ea_of (ea_cons (ev_var rfl) (ea_cons (ev_var rfl) ea_nil))) fun vs H2 e2 ev Q5 q5 => ⟨t, a, 5001 + 2 * i, L[i], by rw [ev]; rfl, ex_t e2 (t_B e1 ta (ex_t ea ha)), tin_ex e2 t1, by omega, fun v H3 e3 t3 h3 => q5 v H3 e3 t3 (thF_le h3 fun b hb => fresh_back e2 hb)⟩
      · obtain ⟨p2, zs, rfl, np2, hp2, hlen, hz⟩ := hv
        have hmb := eb _ _ hmt (ea _ _ hm)
        refine ⟨pm, p2, ys, zs, rfl, rfl, hmb, hp2, sz_of (by omega), fun d hd => ?_⟩
        have e1 := Ex.new (o := HO.lst (ys ++ zs)) hd
        have hd1 : (upd Hb d (.lst (ys ++ zs))) d = some (.lst (ys ++ zs)) := upd_same
        generalize upd Hb d (.lst (ys ++ zs)) = G1 at *
        refine ⟨_, rfl, _, rfl, by decide, fun a1 ha1 => ?_⟩
        have e2 := Ex.new (o := HO.tup []) ha1
        have h1 : (upd G1 a1 (.tup [])) a1 = some (.tup []) := upd_same
        generalize upd G1 a1 (.tup []) = G2 at *
        refine ⟨_, rfl, RgOk.of_le (by decide) (by decide) (by decide) (by decide), fun a2 ha2 => ?_⟩
        have e3 := Ex.new (o := HO.tup (rgV 0 24)) ha2
        have h2 : (upd G2 a2 (.tup (rgV 0 24))) a2 = some (.tup (ni (List.range 24))) := by rw [upd_same, rg24]
        generalize upd G2 a2 (.tup (rgV 0 24)) = G3 at *
        have tb3 := tin_ex ((e1.trans e2).trans e3) tb
        have e4b : ExB t H4 Hb := (exB_of (e4d.trans ea)).trans eb
        have hr3 : SqL K G3 r (ni K17.rightsL) := ex_l ((e1.trans e2).trans e3) (l_B3 e4b t4 hrg4 rights_len3)
        show tCall (spLot K) [] E0 _ _ G3 _
        refine (of_rights tb3 (by omega) hr3 rfl rfl) G3 (Ex.refl G3) _ fun v G4 e5 t5 hv => ?_
        obtain ⟨m, _, hv⟩ := hv
        refine ⟨sz_of (by show 6 ≤ 100000; decide), fun a3 ha3 => ?_⟩
        have e6 := Ex.new (o := HO.lst [.ref pl, .ref pg, .ref a1, .non, .ref a2, v]) ha3
        have h3 : (upd G4 a3 (.lst [V.ref pl, .ref pg, .ref a1, .non, .ref a2, v])) a3 = some (.lst [.ref pl, .ref pg, .ref a1, .non, .ref a2, v]) := upd_same
        show rCat (.ref d) (.ref a3) (upd G4 a3 (.lst [V.ref pl, .ref pg, .ref a1, .non, .ref a2, v])) Qa
        generalize upd G4 a3 (.lst [V.ref pl, .ref pg, .ref a1, .non, .ref a2, v]) = G5 at *
        have hdt : d ≠ t := tin_new tb hd
        have eB : ExB t Hb G5 := ((exB_of ((e1.trans e2).trans e3)).trans e5).trans (exB_of e6)
        have hd5 : G5 d = some (.lst (ys ++ zs)) := e6 _ _ (e5 _ _ hdt ((e2.trans e3) _ _ hd1))
        refine ⟨d, a3, _, _, rfl, rfl, hd5, h3, sz_of (by rw [List.length_append]; show (ys.length + zs.length) + 6 ≤ 100000; omega), fun d2 hd2 => ?_⟩
        have e7 := Ex.new (o := HO.lst ((ys ++ zs) ++ [.ref pl, .ref pg, .ref a1, .non, .ref a2, v])) hd2
        refine qa _ _ ((eb.trans eB).trans (exB_of e7)) (tin_le (tin_ex (e6.trans e7) t5) (by omega)) ⟨d2, _, rfl, upd_same, by rw [List.length_append, List.length_append]; show (ys.length + zs.length) + 6 ≤ 20; omega, fun z hz2 => ?_⟩
        have toTh : ∀ {th : Thing} {G' : Hp}, Ex G5 G' → ThOk K th z G5 → ∃ th, ThOk K th z G' := fun e h => ⟨_, mo_th _ _ _ e h⟩
        have tT : ∀ {xs : List V} {a : Addr}, SqT K G5 a xs → xs.all sc = true → xs.length ≤ 1000 → ThOk K (.tup xs) (.ref a) G5 := fun h1 h2 h3 => ⟨_, rfl, h1, h2, h3⟩
        rcases List.mem_append.mp hz2 with hz2 | hz2
        · rcases List.mem_append.mp hz2 with hz2 | hz2
          · obtain ⟨i, hi⟩ := List.getElem?_of_mem hz2
            have him : i < L.length := by rw [← hall.1]; exact (List.getElem?_eq_some_iff.mp hi).1
            obtain ⟨x', hx', a, rfl, ha⟩ := hall.2 i _ (List.getElem?_eq_getElem him)
            obtain rfl : z = .ref a := Option.some.inj (hi.symm.trans hx')
            exact toTh e7 (tT (t_B (eb.trans eB) ta (ex_t ea ha)) (sc_ni _) (by rw [ni_len]; exact Nat.le_trans (lotOf_len24 _) (by decide)))
          · obtain ⟨th, h4, _⟩ := thF_B ta eB tb (hz z hz2)
            exact toTh e7 h4
        · have lots : ∀ {a : Addr} {k : Nat}, SqT K H4 a (ni (K17.lotOf k)) → SqT K G5 a (ni (K17.lotOf k)) := fun h => t_B (e4b.trans eB) t4 h
          have len : ∀ k : Nat, (ni (K17.lotOf k)).length ≤ 1000 := fun k => by rw [ni_len]; exact Nat.le_trans (lotOf_len24 _) (by decide)
          have e53 : ExB t G3 G5 := e5.trans (exB_of e6)
          have t3' := tb3
          rcases List.mem_cons.mp hz2 with rfl | hz2
          · exact toTh e7 (tT (lots hl) (sc_ni _) (len _))
          rcases List.mem_cons.mp hz2 with rfl | hz2
          · exact toTh e7 (tT (lots hgs4) (sc_ni _) (len _))
          rcases List.mem_cons.mp hz2 with rfl | hz2
          · exact toTh e7 (tT (t_B e53 tb3 (ex_t e3 (st_of h1))) rfl (by decide))
          rcases List.mem_cons.mp hz2 with rfl | hz2
          · exact ⟨.non, rfl⟩
          rcases List.mem_cons.mp hz2 with rfl | hz2
          · exact toTh e7 (tT (t_B e53 tb3 (st_of h2)) (sc_ni _) (by rw [ni_len]; decide))
          rcases List.mem_cons.mp hz2 with rfl | hz2
          · obtain ⟨a, rfl, ha⟩ := hv
            exact toTh e7 (tT (ex_t e6 ha) (sc_ni _) (len _))
          · cases hz2
    · obtain ⟨pt, zs, rfl, hpt, hlen, hz⟩ := hv
      obtain ⟨ths, hths⟩ := things_of zs hz
      have kth : ths.length ≤ 20 := by rw [← hths.1]; exact hlen
      show tSeq _ _ _ (sg (some (.ref t)) (some (.ref tt)) (some (.ref r)) (some e) (some (.ref y)) (some (.ref pg)) (some (.ref pl)) (some (.ref ps)) (some (.ref ph)) (some (.int (n : Int))) (some (.int (g : Int))) (some (.int ((K17.openM g : Nat) : Int))) (some (.ref pf)) (some (.ref pb)) (some v1) (some v2) (some (.ref pm)) (some (.ref pt)) none) He
      have e4e : ExB t H4 He := (exB_of e4d).trans ee
      have e5e : ExB t H5 He := (exB_of (e5c.trans ed)).trans ee
      have t5 := tin_ex e5 t4
      have sft : IsLot K n (.ref ps) He := ⟨ps, rfl, .inl (l_B e5e (tin_new t4 nps) hps)⟩
      have hls : IsLot K g (.ref ph) He := ⟨ph, rfl, .inl (l_B e5e (tin_new t4 nph) hph)⟩
      have lt : IsLot K n (.ref pl) He := ⟨pl, rfl, .inr (t_B e4e t4 hl)⟩
      have gp : IsLot K g (.ref pg) He := ⟨pg, rfl, .inr (t_B e4e t4 hgs4)⟩
      have tc := tin_ex e4c t4
      have ece : ExB t Hc He := (exB_of ed).trans ee
      have hfe : He pf = some (.lst (ni (K17.fillsM n g))) := ece _ _ (tin_new (tin_ex e46 t4) nf) hfc
      have hbe : He pb = some (.lst (ni (K17.barsM n g))) := ece _ _ (tin_new (tin_ex e47 t4) nb) hbc
      have mth : ∀ th, Mo (ThOk K th) := fun _ => mo_th
      -- what the program says, what is due
      have lc : ∀ {σ : L2.St} {G : Hp} {te : TE} (b : Thing → Bool), Ex He G → σ[17]? = some (some (.ref pt)) → (∀ th x G2, Ex G G2 → ThOk K th x G2 → Ev te ((wipe σ [19]).set 19 (some x)) G2 (.bl (b th))) → EvP (tLc (iList K (tVar 17)) (gName 19) tYes te [19]) σ G (DpR K (.list ((ths.map b).map PyData.bool))) := fun {σ G te} b eG h17 he => by
        refine ep_D (xs := (ths.map b).map V.bl) ?_ fun G2 => dp_bools G2 _
        rw [List.map_map]
        exact el_A (K := K) (R := ThOk K) (V.bl ∘ b) (ev_var h17) (sq_of (eG _ _ hpt)) (hths.mono mth eG) mth (by omega) (fun _ => hw1) he
      refine q_asgP (P := DpR K (.list [.list ((ths.map fun th => numSet th && decide (maskT th ∈ K17.fillsM n g)).map PyData.bool), .list ((ths.map fun th => numSet th && decide (maskT th ∈ K17.barsM n g)).map PyData.bool)])) (ep_lstD (ea_consAll mo_dp
        (lc _ (Ex.refl He) rfl fun th x G eG hx => ev_call (ea_cons (ev_var rfl) (ea_cons (ev_var rfl) (ea_cons (ev_var rfl) ea_nil))) fun G2 eG2 Q5 q5 E5 => ⟨.ref ps, .ref pg, x, n, g, th, rfl, hn, mo_lot _ _ _ (eG.trans eG2) sft, mo_lot _ _ _ (eG.trans eG2) gp, mo_th _ _ _ eG2 hx, by rw [fillQ_eq hn]; exact q5⟩) (ea_consAll mo_dp
        (lc _ (Ex.refl He) rfl fun th x G eG hx => ev_call (ea_cons (ev_var rfl) (ea_cons (ev_var rfl) (ea_cons (ev_var rfl) ea_nil))) fun G2 eG2 Q5 q5 E5 => ⟨.ref pl, .ref ph, x, n, g, th, rfl, hn, mo_lot _ _ _ (eG.trans eG2) lt, mo_lot _ _ _ (eG.trans eG2) hls, mo_th _ _ _ eG2 hx, by rw [barQ_eq]; exact q5⟩) ea_all)) (by show 2 ≤ 100000; decide)) fun v3 Hf ef hv3 => ?_
      show tRet _ _ (sg (some (.ref t)) (some (.ref tt)) (some (.ref r)) (some e) (some (.ref y)) (some (.ref pg)) (some (.ref pl)) (some (.ref ps)) (some (.ref ph)) (some (.int (n : Int))) (some (.int (g : Int))) (some (.int ((K17.openM g : Nat) : Int))) (some (.ref pf)) (some (.ref pb)) (some v1) (some v2) (some (.ref pm)) (some (.ref pt)) (some v3)) Hf
      refine s_retP (P := is (.bl true)) (ep_calln (Pa := fun vs G => ∃ x y, vs = [x, y] ∧ DpR K (.list [.list ((ths.map fun th => numSet th && decide (maskT th ∈ K17.fillsM n g)).map PyData.bool), .list ((ths.map fun th => numSet th && decide (maskT th ∈ K17.barsM n g)).map PyData.bool)]) x G ∧ DpR K (.list [.list ((ths.map fun th => numSet th && decide (maskT th ∈ K17.fillsM n g)).map PyData.bool), .list ((ths.map fun th => numSet th && decide (maskT th ∈ K17.barsM n g)).map PyData.bool)]) y G) (ea2 (ep_evi (ev_var rfl) fun G eG => mo_dp _ _ _ _ eG hv3) (mo_dp _) (ep_lstD (ea_consAll mo_dp
        (lc _ ef rfl fun th x G eG hx => ev_call (ea_cons (ev_var rfl) (ea_cons (ev_var rfl) ea_nil)) fun G2 eG2 Q5 q5 E5 => ⟨pf, x, K17.fillsM n g, th, rfl, sq_of (((ef.trans eG).trans eG2) _ _ hfe), mo_th _ _ _ eG2 hx, q5⟩) (ea_consAll mo_dp
        (lc _ ef rfl fun th x G eG hx => ev_call (ea_cons (ev_var rfl) (ea_cons (ev_var rfl) ea_nil)) fun G2 eG2 Q5 q5 E5 => ⟨pb, x, K17.barsM n g, th, rfl, sq_of (((ef.trans eG).trans eG2) _ _ hbe), mo_th _ _ _ eG2 hx, q5⟩) ea_all)) (by show 2 ≤ 100000; decide)))
        fun us G eG hu Q5 q5 => by
          obtain ⟨x, y, rfl, hx, hy⟩ := hu
          exact ⟨x, y, _, rfl, hx, hy, dd_two (dd_bools _ (by rw [List.length_map]; omega)) (dd_bools _ (by rw [List.length_map]; omega)), fun G2 e2' => q5 _ G2 e2' rfl⟩) fun v G eG hv => by
        rw [show v = .bl true from hv]
        exact q G
end
end KD
set_option Elab.async false
set_option linter.all false
set_option maxRecDepth 100000
set_option maxHeartbeats 1000000
/-! The walk: by hand; the law. -/
namespace KD
open PySem PySem.Spec PyProof.Rows L2 Evl KW KR KT
abbrev mFive : Nat := 65814
abbrev mGaps : Nat := 15728768
abbrev mEight : Nat := 15728880
abbrev mBar : Nat := 365392
abbrev mThree : Nat := 112
abbrev mHoles : Nat := 1057
abbrev mFour : Nat := 1048688
theorem l_five : ni (K17.lotOf mFive) = [.int 1, .int 2, .int 4, .int 8, .int 16] := by decide +kernel
theorem l_gaps : ni (K17.lotOf mGaps) = [.int 7, .int 20, .int 21, .int 22, .int 23] := by decide +kernel
theorem l_eight : ni (K17.lotOf mEight) = [.int 4, .int 5, .int 6, .int 7, .int 20, .int 21, .int 22, .int 23] := by decide +kernel
theorem l_bar : ni (K17.lotOf mBar) = [.int 4, .int 6, .int 8, .int 9, .int 12, .int 15, .int 16, .int 18] := by decide +kernel
theorem l_three : ni (K17.lotOf mThree) = [.int 4, .int 5, .int 6] := by decide +kernel
theorem l_holes : ni (K17.lotOf mHoles) = [.int 0, .int 5, .int 10] := by decide +kernel
theorem l_four : ni (K17.lotOf mFour) = [.int 4, .int 5, .int 6, .int 20] := by decide +kernel
theorem l_none : ni (K17.lotOf 0) = [] := by decide +kernel
theorem t_1 : toldM 0 mThree mGaps = some mEight := by decide +kernel
theorem t_2 : toldM 0 mFive mHoles = none := by decide +kernel
theorem t_3 : toldM 1 mThree mGaps = none := by decide +kernel
theorem t_4 : toldM 0 mFive 0 = none := by decide +kernel
abbrev mTold : Nat := 1118494
theorem t_5 : toldM 1 mFive mHoles = some mTold := by decide +kernel
theorem q_1 : barQ mFive mHoles (.tup (ni (K17.lotOf mBar))) = true := by decide +kernel
theorem q_3 : barQ mFive mHoles (.tup (ni (K17.lotOf mTold))) = true := by decide +kernel
theorem q_2 : barQ mFive mHoles (.tup (ni (K17.lotOf mEight))) = false := by decide +kernel
theorem q_4 : fillQ mFour mGaps (.tup (ni (K17.lotOf mEight))) = true := by decide +kernel
theorem q_5 : fillQ mFour mGaps (.tup (ni (K17.lotOf 0))) = false := by decide +kernel
theorem q_6 : fillQ mFour mGaps (.tup (ni (K17.lotOf mBar))) = false := by decide +kernel
theorem q_7 : fillQ 0 mGaps (.tup (ni (K17.lotOf 0))) = true := by decide +kernel
section
variable {K : PySem.W.Frag} {σ : L2.St} {H : Hp} {ta tb te tl : TE} {D : Ends} {tz : TS}
theorem dpAll_app {G : Hp} : ∀ {ys : List V} {ds : List PyData} {ys2 : List V} {ds2 : List PyData}, DpAll K G ys ds → DpAll K G ys2 ds2 → DpAll K G (ys ++ ys2) (ds ++ ds2)
  | _, _, _, _, .nil, h2 => h2
  | _, _, _, _, .cons h1 h, h2 => .cons h1 (dpAll_app h h2)
/-- a comprehension over a tuple whose items are told -/
theorem el_TA {α : Type} {R : α → VP} {ms : List α} {j : Nat} {vs : List Nat} (gv : α → V) (h : EvP tl σ H (fun v G => ∃ a ys, v = .ref a ∧ SqT K G a ys ∧ AllIn R ms ys G)) (mR : ∀ m, Mo (R m)) (hz : ms.length ≤ 40000) (hw : ∀ x, wipe ((wipe σ vs).set j (some x)) vs = wipe σ vs)
    (he : ∀ m x H1, Ex H H1 → m ∈ ms → R m x H1 → Ev te ((wipe σ vs).set j (some x)) H1 (gv m)) : EvL (tLc (iTup K tl) (gName j) tYes te vs) σ H (ms.map gv) := fun H1 e Q q =>
  h H1 e _ fun v H2 e2 ⟨a, ys, ev, hs, hall⟩ => by
    subst ev
    have mem : ∀ z ∈ ys.zip ms, z.2 ∈ ms ∧ R z.2 z.1 H2 := fun z hz2 => by
      obtain ⟨i, hi⟩ := List.getElem?_of_mem hz2
      rw [List.getElem?_zip_eq_some] at hi
      obtain ⟨y, hy, hR⟩ := hall.2 i _ hi.2
      rw [hi.1] at hy
      rw [Option.some.inj hy]
      exact ⟨List.mem_of_getElem? hi.2, hR⟩
    have l1 := el_T (K := K) (te := te) (t := tYes) (σ := σ) (H := H2) (tl := tC (.ref a)) (a := a) (l := ys.zip ms) (em := Prod.fst) (j := j) (vs := vs) (fun _ => true) (fun z => gv z.2) ev_c (by rw [List.map_fst_zip (by rw [hall.1]; exact Nat.le_refl _)]; exact hs) (by rw [List.length_zip, hall.1, Nat.min_self]; exact hz) hw (fun _ _ _ _ => et_yes) (fun z H3 e3 hz2 _ => he z.2 z.1 H3 ((e.trans e2).trans e3) (mem z hz2).1 (mR _ _ _ _ e3 (mem z hz2).2))
    rw [filter_true, show (ys.zip ms).map (fun z => gv z.2) = ms.map gv by rw [show (fun z : V × α => gv z.2) = gv ∘ Prod.snd from rfl, ← List.map_map, List.map_snd_zip (by rw [hall.1]; exact Nat.le_refl _)]] at l1
    exact l1 H2 (Ex.refl H2) Q fun p H3 hn e3 hp => q p H3 (fresh_back e2 hn) (e2.trans e3) hp
end
section
variable {P : Program} {w : World} {K : PySem.W.Frag} {mg : Str → Option Value} {base : Heap} {f : Addr} {fd : FuncData} {C : Addr}
theorem lot_T {n : Nat} {v : V} {G : Hp} (h : IsT K (ni (K17.lotOf n)) v G) : IsLot K n v G := by
  obtain ⟨a, e, h⟩ := h
  exact ⟨a, e, .inr h⟩
theorem th_T {n : Nat} {v : V} {G : Hp} (h : IsT K (ni (K17.lotOf n)) v G) : ThOk K (.tup (ni (K17.lotOf n))) v G := by
  obtain ⟨a, e, h⟩ := h
  subst e
  exact th_of h
def spHand (K : PySem.W.Frag) : Sp := fun vs H Q _ => vs = [] ∧ RetV (.bl true) H Q
abbrev sh (a b c d e f : Option V) : L2.St := [a, b, c, d, e, f, none]
def dDue : List PyData := [toldD (some mEight), toldD none, toldD none, toldD none]
theorem dd_due (bs : List Bool) (hb : bs.length ≤ 100) : DD 3 (.list (dDue ++ bs.map PyData.bool)) := .inr ⟨_, .inl rfl, by rw [List.length_append, List.length_map]; show 4 + bs.length ≤ 1000; omega, fun e he => by
  rcases List.mem_append.mp he with he | he
  · rcases List.mem_cons.mp he with rfl | he
    · exact dd_told (some mEight)
    rcases List.mem_cons.mp he with rfl | he
    · exact dd_told none
    rcases List.mem_cons.mp he with rfl | he
    · exact dd_told none
    rcases List.mem_cons.mp he with rfl | he
    · exact dd_told none
    · cases he
  · obtain ⟨b, _, rfl⟩ := List.mem_map.mp he
    exact .inl (.inl ⟨b, rfl⟩)⟩
theorem ok__law_by_hand_right (F : Fun K "_law_by_hand_right" "_law_by_hand_right" s__law_by_hand_right f fd) (C1 : Cal P w K mg base CX0 7 "_law_heard" ["_law_door", "_law_lot_here", "_law_gaps"] (spHeard K)) (C2 : Cal P w K mg base CX0 3 "_law_same" ["_law_got", "_law_due"] (spSame K (DD 3)))
    (C3 : Cal P w K mg base CX0 5 "is_filled" ["lot", "gaps", "thing"] (spIsFilled K)) (C4 : Cal P w K mg base CX0 5 "is_fill_bar" ["lot", "gaps", "thing"] (spIsFillBar K)) : FnOk P w K mg base CX0 8 f fd [] (spHand K) := by
  obtain ⟨f1, fd1, G__law_heard, m__law_heard, k__law_heard, b__law_heard⟩ := C1.ex
  obtain ⟨f2, fd2, G__law_same, m__law_same, k__law_same, b__law_same⟩ := C2.ex
  obtain ⟨f3, fd3, G_is_filled, m_is_filled, k_is_filled, b_is_filled⟩ := C3.ex
  obtain ⟨f4, fd4, G_is_fill_bar, m_is_fill_bar, k_is_fill_bar, b_is_fill_bar⟩ := C4.ex
  refine F.ok sc__law_by_hand_right (fun vs H Q E h => ?_) (fun cdv A outer s H vs Q E hr h => ?_)
  · obtain ⟨rfl, _⟩ := h; rfl
  · obtain ⟨rfl, q⟩ := h
    refine ⟨_, (pss_cons (ps_asg (pe_tup (pa_cons (pe_tup (pa_cons pe_int (pa_cons pe_int (pa_cons pe_int (pa_cons pe_int (pa_cons pe_int pa_nil)))))) (pa_cons (pe_tup (pa_cons pe_int (pa_cons pe_int (pa_cons pe_int (pa_cons pe_int (pa_cons pe_int pa_nil)))))) (pa_cons (pe_tup (pa_cons pe_int (pa_cons pe_int (pa_cons pe_int (pa_cons pe_int (pa_cons pe_int (pa_cons pe_int (pa_cons pe_int (pa_cons pe_int pa_nil))))))))) (pa_cons (pe_tup (pa_cons pe_int (pa_cons pe_int (pa_cons pe_int (pa_cons pe_int (pa_cons pe_int (pa_cons pe_int (pa_cons pe_int (pa_cons pe_int pa_nil))))))))) pa_nil))))) (pg_tup (by rfl) (pgs_cons (pg_name (i := 0) sc__law_by_hand_right.nd rfl (Or.inr rfl)) (pgs_cons (pg_name (i := 1) sc__law_by_hand_right.nd rfl (Or.inr rfl)) (pgs_cons (pg_name (i := 2) sc__law_by_hand_right.nd rfl (Or.inl rfl)) (pgs_cons (pg_name (i := 3) sc__law_by_hand_right.nd rfl (Or.inl rfl)) pgs_nil))))))
      (pss_cons (ps_set (i := 4) sc__law_by_hand_right.nd rfl (Or.inl rfl) (pe_lst (pa_cons (pe_call G__law_heard (hr.mono (by decide)) (by rfl) m__law_heard k__law_heard b__law_heard .nil pass0 (pa_cons pe_int (pa_cons (pe_tup (pa_cons pe_int (pa_cons pe_int (pa_cons pe_int pa_nil)))) (pa_cons (pv 1) pa_nil)))) (pa_cons (pe_call G__law_heard (hr.mono (by decide)) (by rfl) m__law_heard k__law_heard b__law_heard .nil pass0 (pa_cons pe_int (pa_cons (pv 0) (pa_cons (pe_tup (pa_cons pe_int (pa_cons pe_int (pa_cons pe_int pa_nil)))) pa_nil)))) (pa_cons (pe_call G__law_heard (hr.mono (by decide)) (by rfl) m__law_heard k__law_heard b__law_heard .nil pass0 (pa_cons pe_int (pa_cons (pe_tup (pa_cons pe_int (pa_cons pe_int (pa_cons pe_int pa_nil)))) (pa_cons (pv 1) pa_nil)))) (pa_cons (pe_call G__law_heard (hr.mono (by decide)) (by rfl) m__law_heard k__law_heard b__law_heard .nil pass0 (pa_cons pe_int (pa_cons (pv 0) (pa_cons (pe_tup pa_nil) pa_nil)))) pa_nil))))))
      (pss_cons (ps_set (i := 5) sc__law_by_hand_right.nd rfl (Or.inl rfl) (pe_lst (pa_cons (pv 2) (pa_cons pe_str (pa_cons pe_str (pa_cons pe_str pa_nil))))))
      (pss_cons (ps_set (i := 4) sc__law_by_hand_right.nd rfl (Or.inl rfl) (pe_op op_cat (pv 4) (pe_lc (own := [("_law_own", 6)]) (g := gName 6) rfl sc__law_by_hand_right.nd (pi_tup (pe_tup (pa_cons (pv 3) (pa_cons (pv 2) (pa_cons (pe_call G__law_heard (hr.mono (by decide)) (by rfl) m__law_heard k__law_heard b__law_heard .nil pass0 (pa_cons pe_int (pa_cons (pv 0) (pa_cons (pe_tup (pa_cons pe_int (pa_cons pe_int (pa_cons pe_int pa_nil)))) pa_nil)))) pa_nil))))) (blkOk_by (N := N__law_by_hand_right) (sc := defScope s__law_by_hand_right) (by decide +kernel)) (fun _ _ _ _ _ => (pg_name (i := 6) sc__law_by_hand_right.nd rfl (Or.inl rfl))) (fun _ _ _ _ _ => pts_nil) (fun _ _ _ _ _ => (pe_call G_is_fill_bar (hr.mono (by decide)) (by rfl) m_is_fill_bar k_is_fill_bar b_is_fill_bar .nil pass0 (pa_cons (pv 0) (pa_cons (pe_tup (pa_cons pe_int (pa_cons pe_int (pa_cons pe_int pa_nil)))) (pa_cons (pv 6) pa_nil))))))))
      (pss_cons (ps_set (i := 4) sc__law_by_hand_right.nd rfl (Or.inl rfl) (pe_op op_cat (pe_op op_cat (pv 4) (pe_lc (own := [("_law_own", 6)]) (g := gName 6) rfl sc__law_by_hand_right.nd (pi_tup (pe_tup (pa_cons (pv 2) (pa_cons (pe_tup pa_nil) (pa_cons (pv 3) pa_nil))))) (blkOk_by (N := N__law_by_hand_right) (sc := defScope s__law_by_hand_right) (by decide +kernel)) (fun _ _ _ _ _ => (pg_name (i := 6) sc__law_by_hand_right.nd rfl (Or.inl rfl))) (fun _ _ _ _ _ => pts_nil) (fun _ _ _ _ _ => (pe_call G_is_filled (hr.mono (by decide)) (by rfl) m_is_filled k_is_filled b_is_filled .nil pass0 (pa_cons (pe_tup (pa_cons pe_int (pa_cons pe_int (pa_cons pe_int (pa_cons pe_int pa_nil))))) (pa_cons (pv 1) (pa_cons (pv 6) pa_nil))))))) (pe_lst (pa_cons (pe_call G_is_filled (hr.mono (by decide)) (by rfl) m_is_filled k_is_filled b_is_filled .nil pass0 (pa_cons (pe_tup pa_nil) (pa_cons (pv 1) (pa_cons (pe_tup pa_nil) pa_nil)))) pa_nil))))
      (pss_one (ps_ret (pe_call G__law_same (hr.mono (by decide)) (by rfl) m__law_same k__law_same b__law_same .nil pass0 (pa_cons (pv 4) (pa_cons (pe_op op_cat (pv 5) (pe_lst (pa_cons pe_bl (pa_cons pe_bl (pa_cons pe_bl (pa_cons pe_bl (pa_cons pe_bl (pa_cons pe_bl (pa_cons pe_bl pa_nil))))))))) pa_nil)))))))))), ?_⟩
    have mT : ∀ m, Mo (IsLots K m) := fun _ => mo_lots
    have tF : ∀ {σ : L2.St} {G : Hp}, EvP (tTup (tCons (tC (.int 1)) (tCons (tC (.int 2)) (tCons (tC (.int 4)) (tCons (tC (.int 8)) (tCons (tC (.int 16)) tNil)))))) σ G (IsLots K mFive) := fun {_ _} => by unfold IsLots; rw [l_five]; exact (ep_U (K := K) (eu_tup (ea_cons ev_c (ea_cons ev_c (ea_cons ev_c (ea_cons ev_c (ea_cons ev_c ea_nil))))) (by show 5 ≤ 100000; decide)))
    have tG : ∀ {σ : L2.St} {G : Hp}, EvP (tTup (tCons (tC (.int 7)) (tCons (tC (.int 20)) (tCons (tC (.int 21)) (tCons (tC (.int 22)) (tCons (tC (.int 23)) tNil)))))) σ G (IsLots K mGaps) := fun {_ _} => by unfold IsLots; rw [l_gaps]; exact (ep_U (K := K) (eu_tup (ea_cons ev_c (ea_cons ev_c (ea_cons ev_c (ea_cons ev_c (ea_cons ev_c ea_nil))))) (by show 5 ≤ 100000; decide)))
    have tE : ∀ {σ : L2.St} {G : Hp}, EvP (tTup (tCons (tC (.int 4)) (tCons (tC (.int 5)) (tCons (tC (.int 6)) (tCons (tC (.int 7)) (tCons (tC (.int 20)) (tCons (tC (.int 21)) (tCons (tC (.int 22)) (tCons (tC (.int 23)) tNil))))))))) σ G (IsLots K mEight) := fun {_ _} => by unfold IsLots; rw [l_eight]; exact (ep_U (K := K) (eu_tup (ea_cons ev_c (ea_cons ev_c (ea_cons ev_c (ea_cons ev_c (ea_cons ev_c (ea_cons ev_c (ea_cons ev_c (ea_cons ev_c ea_nil)))))))) (by show 8 ≤ 100000; decide)))
    have tB : ∀ {σ : L2.St} {G : Hp}, EvP (tTup (tCons (tC (.int 4)) (tCons (tC (.int 6)) (tCons (tC (.int 8)) (tCons (tC (.int 9)) (tCons (tC (.int 12)) (tCons (tC (.int 15)) (tCons (tC (.int 16)) (tCons (tC (.int 18)) tNil))))))))) σ G (IsLots K mBar) := fun {_ _} => by unfold IsLots; rw [l_bar]; exact (ep_U (K := K) (eu_tup (ea_cons ev_c (ea_cons ev_c (ea_cons ev_c (ea_cons ev_c (ea_cons ev_c (ea_cons ev_c (ea_cons ev_c (ea_cons ev_c ea_nil)))))))) (by show 8 ≤ 100000; decide)))
    have t3 : ∀ {σ : L2.St} {G : Hp}, EvP (tTup (tCons (tC (.int 4)) (tCons (tC (.int 5)) (tCons (tC (.int 6)) tNil)))) σ G (IsLots K mThree) := fun {_ _} => by unfold IsLots; rw [l_three]; exact (ep_U (K := K) (eu_tup (ea_cons ev_c (ea_cons ev_c (ea_cons ev_c ea_nil))) (by show 3 ≤ 100000; decide)))
    have tH : ∀ {σ : L2.St} {G : Hp}, EvP (tTup (tCons (tC (.int 0)) (tCons (tC (.int 5)) (tCons (tC (.int 10)) tNil)))) σ G (IsLots K mHoles) := fun {_ _} => by unfold IsLots; rw [l_holes]; exact (ep_U (K := K) (eu_tup (ea_cons ev_c (ea_cons ev_c (ea_cons ev_c ea_nil))) (by show 3 ≤ 100000; decide)))
    have t4 : ∀ {σ : L2.St} {G : Hp}, EvP (tTup (tCons (tC (.int 4)) (tCons (tC (.int 5)) (tCons (tC (.int 6)) (tCons (tC (.int 20)) tNil))))) σ G (IsLots K mFour) := fun {_ _} => by unfold IsLots; rw [l_four]; exact (ep_U (K := K) (eu_tup (ea_cons ev_c (ea_cons ev_c (ea_cons ev_c (ea_cons ev_c ea_nil)))) (by show 4 ≤ 100000; decide)))
    have t0 : ∀ {σ : L2.St} {G : Hp}, EvP (tTup tNil) σ G (IsLots K 0) := fun {_ _} => by unfold IsLots; rw [l_none]; exact (ep_U (K := K) (eu_tup ea_nil (by show 0 ≤ 100000; decide)))
    refine q_tup (K := K) (Pt := fun xs G => AllIn (IsLots K) [mFive, mGaps, mEight, mBar] xs G) (fun H1 e1 Q1 q1 => ep_tupAll (K := K) (ms := [mFive, mGaps, mEight, mBar]) mT (ea_consAll mT tF (ea_consAll mT tG (ea_consAll mT tE (ea_consAll mT tB ea_all)))) (by decide) H1 e1 Q1 fun v G eG ⟨a, ys, h1, h2, h3⟩ => q1 v G eG ⟨a, ys, h1, h2, h3.1, h3⟩) fun xs H1 e1 hx4 hx => ?_
    obtain ⟨x0, hx0, p0, rfl, h0⟩ := hx.2 0 _ rfl
    obtain ⟨x1, hx1, p1, rfl, h1⟩ := hx.2 1 _ rfl
    obtain ⟨x2, hx2, p2, rfl, h2⟩ := hx.2 2 _ rfl
    obtain ⟨x3, hx3, p3, rfl, h3⟩ := hx.2 3 _ rfl
    match xs, hx4, hx0, hx1, hx2, hx3 with
    | [_, _, _, _], _, rfl, rfl, rfl, rfl =>
    refine ⟨_, _, rfl, _, _, rfl, _, _, rfl, _, _, rfl, rfl, ?_⟩
    show tSeq _ _ _ (sh (some (.ref p0)) (some (.ref p1)) (some (.ref p2)) (some (.ref p3)) none none) H1
    have v0 : ∀ {σ : L2.St} {G : Hp} {i : Nat}, Ex H1 G → σ[i]? = some (some (.ref p0)) → EvP (tVar i) σ G (IsLots K mFive) := fun e h => ep_evi (ev_var h) fun G2 e2 => ⟨p0, rfl, ex_t (e.trans e2) h0⟩
    have v1 : ∀ {σ : L2.St} {G : Hp} {i : Nat}, Ex H1 G → σ[i]? = some (some (.ref p1)) → EvP (tVar i) σ G (IsLots K mGaps) := fun e h => ep_evi (ev_var h) fun G2 e2 => ⟨p1, rfl, ex_t (e.trans e2) h1⟩
    have v2 : ∀ {σ : L2.St} {G : Hp} {i : Nat}, Ex H1 G → σ[i]? = some (some (.ref p2)) → EvP (tVar i) σ G (IsLots K mEight) := fun e h => ep_evi (ev_var h) fun G2 e2 => ⟨p2, rfl, ex_t (e.trans e2) h2⟩
    have v3 : ∀ {σ : L2.St} {G : Hp} {i : Nat}, Ex H1 G → σ[i]? = some (some (.ref p3)) → EvP (tVar i) σ G (IsLots K mBar) := fun e h => ep_evi (ev_var h) fun G2 e2 => ⟨p3, rfl, ex_t (e.trans e2) h3⟩
    have heard : ∀ {σ : L2.St} {G : Hp} {ta tb : TE} (d n g : Nat), EvP ta σ G (IsLots K n) → EvP tb σ G (IsLots K g) → EvP (tCall (spHeard K) ([] : List V) E0 (tCons (tC (.int (d : Int))) (tCons ta (tCons tb tNil)))) σ G (Told K (toldM d n g)) := fun d n g ha hb =>
      ep_calln (ea3 (P1 := is (.int (d : Int))) (ep_ev ev_c) mo_is ha mo_lots hb) fun us G2 e2 hu Q5 q5 => by
        obtain ⟨x, y, z, rfl, rfl, hy, hz⟩ := hu
        exact ⟨y, z, d, n, g, rfl, lot_T hy, lot_T hz, q5⟩
    have hD : ∀ {σ : L2.St} {G : Hp} {te : TE} {o o' : Option Nat}, EvP te σ G (Told K o) → o = o' → EvP te σ G (DpR K (toldD o')) := fun h e => by
      subst e
      exact ep_imp h fun v G2 e2 hv => told_dp hv
    have fb : ∀ {σ : L2.St} {G : Hp} {ta tb tc : TE} (n g m : Nat) (b : Bool), n < 2 ^ 24 → EvP ta σ G (IsLots K n) → EvP tb σ G (IsLots K g) → EvP tc σ G (IsLots K m) → barQ n g (.tup (ni (K17.lotOf m))) = b → Ev (tCall (spIsFillBar K) ([] : List V) E0 (tCons ta (tCons tb (tCons tc tNil)))) σ G (.bl b) := fun n g m b hn ha hb hc e =>
      ev_ep (ep_calln (ea3 ha mo_lots hb mo_lots hc) fun us G2 e2 hu Q5 q5 => by
        obtain ⟨x, y, z, rfl, hx, hy, hz⟩ := hu
        exact ⟨x, y, z, n, g, _, rfl, hn, lot_T hx, lot_T hy, th_T hz, by rw [e]; exact fun G3 e3 => q5 _ G3 e3 rfl⟩)
    have ff : ∀ {σ : L2.St} {G : Hp} {ta tb tc : TE} (n g m : Nat) (b : Bool), n < 2 ^ 24 → EvP ta σ G (IsLots K n) → EvP tb σ G (IsLots K g) → EvP tc σ G (IsLots K m) → fillQ n g (.tup (ni (K17.lotOf m))) = b → Ev (tCall (spIsFilled K) ([] : List V) E0 (tCons ta (tCons tb (tCons tc tNil)))) σ G (.bl b) := fun n g m b hn ha hb hc e =>
      ev_ep (ep_calln (ea3 ha mo_lots hb mo_lots hc) fun us G2 e2 hu Q5 q5 => by
        obtain ⟨x, y, z, rfl, hx, hy, hz⟩ := hu
        exact ⟨x, y, z, n, g, _, rfl, hn, lot_T hx, lot_T hy, th_T hz, by rw [e]; exact fun G3 e3 => q5 _ G3 e3 rfl⟩)
    -- what is heard
    refine q_asgLS (es_lst (R := DpR K) (ms := dDue) mo_dp (ea_consAll mo_dp (hD (heard 0 mThree mGaps t3 (v1 (Ex.refl _) rfl)) t_1) (ea_consAll mo_dp (hD (heard 0 mFive mHoles (v0 (Ex.refl _) rfl) tH) t_2) (ea_consAll mo_dp (hD (heard 1 mThree mGaps t3 (v1 (Ex.refl _) rfl)) t_3) (ea_consAll mo_dp (hD (heard 0 mFive 0 (v0 (Ex.refl _) rfl) t0) t_4) ea_all)))) (by decide)) fun a1 H2 ys1 _ e2 ha1 hall1 => ?_
    show tSeq _ _ _ (sh (some (.ref p0)) (some (.ref p1)) (some (.ref p2)) (some (.ref p3)) (some (.ref a1)) none) H2
    -- what is due
    refine q_asgLS (es_lst (R := DpR K) (ms := dDue) mo_dp (ea_consAll mo_dp (ep_imp (v2 e2 rfl) fun v G eG hv => told_dp (o := some mEight) hv) (ea_consAll mo_dp (ep_evi ev_c fun G eG => told_dp (o := none) rfl) (ea_consAll mo_dp (ep_evi ev_c fun G eG => told_dp (o := none) rfl) (ea_consAll mo_dp (ep_evi ev_c fun G eG => told_dp (o := none) rfl) ea_all)))) (by decide)) fun a2 H3 ys2 _ e3 ha2 hall2 => ?_
    show tSeq _ _ _ (sh (some (.ref p0)) (some (.ref p1)) (some (.ref p2)) (some (.ref p3)) (some (.ref a1)) (some (.ref a2))) H3
    have l1 := hall1.1
    have l2 := hall2.1
    have e13 := e2.trans e3
    -- bars judged
    have hold : ∀ {σ : L2.St} {G : Hp} {i m : Nat} {x : V}, IsLots K m x G → σ[i]? = some (some x) → EvP (tVar i) σ G (IsLots K m) := fun hx h => ep_evi (ev_var h) fun G2 e2 => mo_lots _ _ _ e2 hx
    refine q_asgL (el_catV (ev_var rfl) (e3 _ _ ha1) (el_TA (K := K) (R := IsLots K) (ms := [mBar, mEight, mTold]) (fun m => V.bl (barQ mFive mHoles (.tup (ni (K17.lotOf m))))) (ep_tupAll mT (ea_consAll mT (v3 e13 rfl) (ea_consAll mT (v2 e13 rfl) (ea_consAll mT (ep_imp (heard 1 mFive mHoles (v0 e13 rfl) tH) fun v G eG hv => by rw [t_5] at hv; exact hv) ea_all))) (by decide)) mT (by decide) (fun _ => hw1) (fun m x G eG _ hx => fb mFive mHoles m _ (by decide) (v0 (e13.trans eG) rfl) tH (hold hx rfl) rfl)) (by rw [l1]; decide)) fun a3 H4 _ e4 ha3 => ?_
    show tSeq _ _ _ (sh (some (.ref p0)) (some (.ref p1)) (some (.ref p2)) (some (.ref p3)) (some (.ref a3)) (some (.ref a2))) H4
    have e14 := e13.trans e4
    -- fills judged
    have c2 : EvL (tOp rCat (tOp rCat (tVar 4) (tLc (iTup K (tTup (tCons (tVar 2) (tCons (tTup tNil) (tCons (tVar 3) tNil))))) (gName 6) tYes (tCall (spIsFilled K) ([] : List V) E0 (tCons (tTup (tCons (tC (.int 4)) (tCons (tC (.int 5)) (tCons (tC (.int 6)) (tCons (tC (.int 20)) tNil))))) (tCons (tVar 1) (tCons (tVar 6) tNil)))) [6])) (tLst (tCons (tCall (spIsFilled K) ([] : List V) E0 (tCons (tTup tNil) (tCons (tVar 1) (tCons (tTup tNil) tNil)))) tNil))) (sh (some (.ref p0)) (some (.ref p1)) (some (.ref p2)) (some (.ref p3)) (some (.ref a3)) (some (.ref a2))) H4 (((ys1 ++ [mBar, mEight, mTold].map fun m => V.bl (barQ mFive mHoles (.tup (ni (K17.lotOf m))))) ++ [mEight, 0, mBar].map fun m => V.bl (fillQ mFour mGaps (.tup (ni (K17.lotOf m))))) ++ [V.bl true]) := by
      refine el_cat (el_catV (ev_var rfl) ha3 (el_TA (K := K) (R := IsLots K) (ms := [mEight, 0, mBar]) (fun m => V.bl (fillQ mFour mGaps (.tup (ni (K17.lotOf m))))) (ep_tupAll mT (ea_consAll mT (v2 e14 rfl) (ea_consAll mT t0 (ea_consAll mT (v3 e14 rfl) ea_all))) (by decide)) mT (by decide) (fun _ => hw1) (fun m x G eG _ hx => ff mFour mGaps m _ (by decide) t4 (v1 (e14.trans eG) rfl) (hold hx rfl) rfl)) ?_) (el_lst (ea_cons (ff 0 mGaps 0 _ (by decide) t0 (v1 e14 rfl) t0 q_7) ea_nil) (by show 1 ≤ 100000; decide)) ?_
      · rw [List.length_append, l1]; decide
      · rw [List.length_append, List.length_append, l1]; decide
    refine q_asgL c2 fun a4 H5 _ e5 ha4 => ?_
    show tRet _ _ (sh (some (.ref p0)) (some (.ref p1)) (some (.ref p2)) (some (.ref p3)) (some (.ref a4)) (some (.ref a2))) H5
    have e35 := e4.trans e5
    have ex1 : ((ys1 ++ [mBar, mEight, mTold].map fun m => V.bl (barQ mFive mHoles (.tup (ni (K17.lotOf m))))) ++ [mEight, 0, mBar].map fun m => V.bl (fillQ mFour mGaps (.tup (ni (K17.lotOf m))))) ++ [V.bl true] = ys1 ++ [true, false, true, true, false, false, true].map V.bl := by
      rw [List.append_assoc, List.append_assoc]
      refine congrArg (fun z => ys1 ++ z) ?_
      show [V.bl _, V.bl _, V.bl _, V.bl _, V.bl _, V.bl _, V.bl true] = _
      rw [q_1, q_2, q_3, q_4, q_5, q_6]
      rfl
    rw [ex1] at ha4
    have d1 : DpR K (.list (dDue ++ [true, false, true, true, false, false, true].map PyData.bool)) (.ref a4) H5 := .lst (sq_of ha4) (dpAll_app (dpAll_of (hall1.mono mo_dp (e3.trans e35))) (dp_bools H5 _))
    refine s_retP (P := is (.bl true)) (ep_calln (Pa := fun vs G => ∃ x y, vs = [x, y] ∧ DpR K (.list (dDue ++ [true, false, true, true, false, false, true].map PyData.bool)) x G ∧ DpR K (.list (dDue ++ [true, false, true, true, false, false, true].map PyData.bool)) y G) (ea2 (ep_evi (ev_var rfl) fun G eG => mo_dp _ _ _ _ eG d1) (mo_dp _)
      (ep_imp (ep_L (K := K) (el_catV (xs := ys2) (ys := [true, false, true, true, false, false, true].map V.bl) (ev_var rfl) (e35 _ _ ha2) (el_lst (ea_cons ev_c (ea_cons ev_c (ea_cons ev_c (ea_cons ev_c (ea_cons ev_c (ea_cons ev_c (ea_cons ev_c ea_nil))))))) (by show 7 ≤ 100000; decide)) (by rw [l2]; decide))) fun v G eG ⟨a, ev, ha⟩ => by
        subst ev
        exact .lst ha (dpAll_app (dpAll_of (hall2.mono mo_dp (e35.trans eG))) (dp_bools G _))))
      fun us G eG hu Q5 q5 => by
        obtain ⟨x, y, rfl, hx, hy⟩ := hu
        exact ⟨x, y, _, rfl, hx, hy, dd_due _ (by decide), fun G2 e2' => q5 _ G2 e2' rfl⟩) fun v G eG hv => by
      rw [show v = .bl true from hv]
      exact q G (((e1.trans e13).trans (e4.trans e5)).trans eG)
/-! ### the law -/
def spLaw (K : PySem.W.Frag) : Sp := fun vs H Q _ => ∃ (a : Addr) (ns : List Int), vs = [.ref a] ∧ SqL K H a (ns.map V.int) ∧ ∀ H2, Q (.bl true) H2
theorem ok_law (F : Fun K "law" "law" s_law f fd) (C1 : Cal P w K mg base CX0 8 "_law_by_hand_right" [] (spHand K)) (C2 : Cal P w K mg base CX0 8 "_law_right" ["_law_tin", "_law_board_here"] (spRight K)) (C3 : Cal P w K mg base CX0 1 "_law_box" ["_law_script", "_law_k"] (spBox K))
    (C4 : Cal P w K mg base CX0 1 "_law_cells" ["_law_script", "_law_most_so"] (spCells K)) (C5 : Cal P w K mg base CX0 5 "_law_board" [] (spBoard K)) : FnOk P w K mg base CX0 9 f fd ["_law_script"] (spLaw K) := by
  obtain ⟨f1, fd1, G__law_by_hand_right, m__law_by_hand_right, k__law_by_hand_right, b__law_by_hand_right⟩ := C1.ex
  obtain ⟨f2, fd2, G__law_right, m__law_right, k__law_right, b__law_right⟩ := C2.ex
  obtain ⟨f3, fd3, G__law_box, m__law_box, k__law_box, b__law_box⟩ := C3.ex
  obtain ⟨f4, fd4, G__law_cells, m__law_cells, k__law_cells, b__law_cells⟩ := C4.ex
  obtain ⟨f5, fd5, G__law_board, m__law_board, k__law_board, b__law_board⟩ := C5.ex
  refine F.ok sc_law (fun vs H Q E h => ?_) (fun cdv A outer s H vs Q E hr h => ?_)
  · obtain ⟨a, ns, rfl, _⟩ := h; rfl
  · obtain ⟨a, ns, rfl, hs, q⟩ := h
    refine ⟨_, (pss_one (ps_ret (pe_and (pe_call0 G__law_by_hand_right (hr.mono (by decide)) (by rfl) m__law_by_hand_right k__law_by_hand_right b__law_by_hand_right .nil pass0) (pe_one (pe_call G__law_right (hr.mono (by decide)) (by rfl) m__law_right k__law_right b__law_right .nil pass0 (pa_cons (pe_call G__law_box (hr.mono (by decide)) (by rfl) m__law_box k__law_box b__law_box .nil pass0 (pa_cons (pe_call G__law_cells (hr.mono (by decide)) (by rfl) m__law_cells k__law_cells b__law_cells .nil pass0 (pa_cons (pv 0) (pa_cons pe_int pa_nil))) (pa_cons pe_int pa_nil))) (pa_cons (pe_call0 G__law_board (hr.mono (by decide)) (by rfl) m__law_board k__law_board b__law_board .nil pass0) pa_nil))))))), ?_⟩
    have hand : Ev (tCall (spHand K) ([] : List V) E0 tNil) (L2.start N_law [V.ref a]) H (.bl true) := ev_call ea_nil fun G eG Q5 q5 E5 => ⟨rfl, q5⟩
    refine hand H (Ex.refl H) _ fun H1 e1 => ⟨true, rfl, ?_⟩
    rw [if_pos (rfl : true = true)]
    show tCall (spRight K) [] E0 _ _ H1 _
    refine (ea2 (P1 := fun v G => ∃ t, v = .ref t ∧ Tin 0 t G) (P2 := IsBoard K) (ep_calln (ea2 (P1 := fun v G => ∃ (b : Addr) (ms : List Int), v = .ref b ∧ SqL K G b (ms.map V.int)) (P2 := is (.int 0)) (ep_calln (ea_of (ea_cons (ev_var rfl) (ea_cons ev_c ea_nil))) fun us G eG eu Q5 q5 => ⟨a, ns, eu, ex_l (e1.trans eG) hs, q5⟩) (fun _ _ _ e ⟨b, ms, h1, h2⟩ => ⟨b, ms, h1, ex_l e h2⟩) (ep_ev ev_c)) fun us G eG hu Q5 q5 => ?_) (fun _ _ _ e ⟨t, h1, h2⟩ => ⟨t, h1, tin_ex e h2⟩) (ep_calln (ea_of ea_nil) fun us G eG eu Q5 q5 => ⟨eu, q5⟩)) H1 (Ex.refl H1) _ fun us G eG hu => ?_
    · obtain ⟨x, y, rfl, ⟨b, ms, rfl, hb⟩, rfl⟩ := hu
      exact ⟨b, ms, rfl, hb, q5⟩
    · obtain ⟨x, y, rfl, ⟨t, rfl, ht⟩, hb⟩ := hu
      exact ⟨t, y, rfl, ht, hb, q⟩
end
end KD
set_option Elab.async false
set_option linter.all false
set_option maxRecDepth 100000
set_option maxHeartbeats 1000000
/-! What the top leaves; the defs joined. Printed by end.py. -/
namespace KZ
open PySem PySem.Spec PyProof.Rows L2 KT
/-! ### what is asked of the top -/
def dOf (x : Str) (st : Stmt) : He.DefD := ⟨(x, none), x, x, defArgs st, defBody st, defScope st, [], []⟩
def dfA : List He.DefD := [dOf "tupled" s_tupled, dOf "is_number" s_is_number, dOf "is_count" s_is_count, dOf "is_below" s_is_below, dOf "ascends" s_ascends, dOf "is_number_set" s_is_number_set, dOf "set_of" s_set_of, dOf "sign_product" s_sign_product, dOf "lack_of" s_lack_of, dOf "lack_in" s_lack_in, dOf "summed" s_summed, dOf "is_odd" s_is_odd, dOf "brought_down" s_brought_down, dOf "highest_bit" s_highest_bit, dOf "rows_of_gaps" s_rows_of_gaps, dOf "outside" s_outside, dOf "gaps_asked" s_gaps_asked, dOf "filled" s_filled, dOf "is_filled" s_is_filled, dOf "fill_bar" s_fill_bar, dOf "is_fill_bar" s_is_fill_bar, dOf "_law_box" s__law_box, dOf "_law_take" s__law_take, dOf "_law_cells" s__law_cells]
def dfB : List He.DefD := [dOf "_law_of" s__law_of, dOf "_law_pick" s__law_pick, dOf "_law_lists" s__law_lists, dOf "_law_same" s__law_same, dOf "_law_is_set" s__law_is_set, dOf "_law_signs_product" s__law_signs_product, dOf "_law_word_by" s__law_word_by, dOf "_law_is_lot" s__law_is_lot, dOf "_law_bits" s__law_bits, dOf "_law_lot" s__law_lot, dOf "_law_lot_sum" s__law_lot_sum, dOf "_law_base" s__law_base, dOf "_law_tally" s__law_tally, dOf "_law_many" s__law_many, dOf "_law_rights" s__law_rights, dOf "_law_board" s__law_board, dOf "_law_some_lot" s__law_some_lot, dOf "_law_heard" s__law_heard, dOf "_law_bent" s__law_bent, dOf "_law_is_one" s__law_is_one, dOf "_law_told_right" s__law_told_right, dOf "_law_right" s__law_right, dOf "_law_by_hand_right" s__law_by_hand_right, dOf "law" s_law]
def dfs : List He.DefD := dfA ++ dfB
def faA : List He.Fa := [.glo "tupled", .glo "is_number", .glo "is_count", .glo "is_below", .glo "ascends", .glo "is_number_set", .glo "set_of", .glo "sign_product", .glo "lack_of", .glo "lack_in", .glo "summed", .glo "is_odd", .glo "brought_down", .glo "highest_bit", .glo "rows_of_gaps", .glo "outside", .glo "gaps_asked", .glo "filled", .glo "is_filled", .glo "fill_bar", .glo "is_fill_bar", .glo "_law_box", .glo "_law_take", .glo "_law_cells"]
def faB : List He.Fa := [.glo "_law_of", .glo "_law_pick", .glo "_law_lists", .glo "_law_same", .glo "_law_is_set", .glo "_law_signs_product", .glo "_law_word_by", .glo "_law_is_lot", .glo "_law_bits", .glo "_law_lot", .glo "_law_lot_sum", .glo "_law_base", .glo "_law_tally", .glo "_law_many", .glo "_law_rights", .glo "_law_board", .glo "_law_some_lot", .glo "_law_heard", .glo "_law_bent", .glo "_law_is_one", .glo "_law_told_right", .glo "_law_right", .glo "_law_by_hand_right", .glo "law"]
def faC : List He.Fa := [.free "len", .free "int", .free "bool", .free "tuple", .free "list", .free "all", .free "sum", .free "sorted", .free "abs", .free "min", .free "isinstance", .free "set", .free "range", .free "zip", .free "enumerate", .free "str", .free "ValueError"]
def faD : List He.Fa := [.int "LAMPS" 24, .glo "PRODUCTS", .glo "FACTORS", .glo "NoWay", .exc "NoWay", .exm "NoWay" "NoWay" true, .noat "NoWay" "__getattr__"]
def fas : List He.Fa := faA ++ (faB ++ (faC ++ faD))
/-- the tuple at a holds these -/
def tupAt (K : PySem.W.Frag) (a : Addr) (vs : List V) : Bool :=
  match K.lookup a with
  | some ob =>
    match ob.cls, ob.data with
    | .type c, .seq xs _ => (c == "tuple") && (Nat.ble xs.size 1000 && He.relAll vs xs.toList)
    | _, _ => false
  | none => false
theorem tupAt_ok {K : PySem.W.Frag} {a : Addr} {vs : List V} (h : tupAt K a vs = true) (H : Hp) : SqT K H a vs := by
  unfold tupAt at h
  cases hq : K.lookup a with
  | none => rw [hq] at h; cases h
  | some ob =>
    rw [hq] at h
    obtain ⟨cl, dc, da, ss⟩ := ob
    cases cl with
    | type c =>
      cases da with
      | seq xs m =>
        have h' : ((c == "tuple") && (Nat.ble xs.size 1000 && He.relAll vs xs.toList)) = true := h
        rw [Bool.and_eq_true, Bool.and_eq_true] at h'
        obtain ⟨ha, hb, hc⟩ := h'
        refine .inr ⟨_, xs, m, hq, congrArg Value.type (eq_of_beq ha), rfl, Nat.le_trans (Nat.le_of_ble_eq_true hb) (by decide), He.relAll_ok hc⟩
      | _ => cases h
    | _ => cases da <;> cases h
/-- the i-th thing that the tuple at a holds, if it is an object -/
def itemAt (K : PySem.W.Frag) (a : Addr) (i : Nat) : Addr :=
  match K.lookup a with
  | some ob =>
    match ob.data with
    | .seq xs _ =>
      match xs.toList[i]? with
      | some (.ref b) => b
      | _ => 0
    | _ => 0
  | none => 0
def rowsAt (K : PySem.W.Frag) (a : Addr) (n : Nat) : List Addr := (List.range n).map (itemAt K a)
def tableB (K : PySem.W.Frag) (a : Addr) (rows : List (List Nat)) : Bool := tupAt K a ((rowsAt K a rows.length).map V.ref) && (List.range rows.length).all fun i => tupAt K (itemAt K a i) (KW.ni (rows.getD i []))
theorem table_ok {K : PySem.W.Frag} {a : Addr} {rows : List (List Nat)} (h : tableB K a rows = true) : ∃ ps : List Addr, (∀ H, SqT K H a (ps.map V.ref)) ∧ ps.length = rows.length ∧ ∀ (i : Nat) (r : List Nat), rows[i]? = some r → ∃ q, ps[i]? = some q ∧ ∀ H, SqT K H q (KW.ni r) := by
  unfold tableB at h
  rw [Bool.and_eq_true] at h
  refine ⟨rowsAt K a rows.length, tupAt_ok h.1, by unfold rowsAt; rw [List.length_map, List.length_range], fun i r hr => ?_⟩
  have hi : i < rows.length := (List.getElem?_eq_some_iff.mp hr).1
  refine ⟨itemAt K a i, by unfold rowsAt; rw [List.getElem?_map, List.getElem?_range hi]; rfl, ?_⟩
  have z := List.all_eq_true.mp h.2 i (List.mem_range.mpr hi)
  rw [List.getD_eq_getElem?_getD, hr] at z
  exact tupAt_ok z
/-- what is asked of the class of errors besides -/
def excB (K : PySem.W.Frag) (a : Addr) : Bool :=
  He.eqO (PySem.W.findIn K (.ref a) "__getattribute__") (some (some (.builtin "BaseException.__getattribute__"))) &&
  (PySem.W.hasDictIn K a &&
  (He.eqO (PySem.W.findIn K (.ref a) "__class__") (some (some (.builtin "object.__class__"))) &&
  (He.eqO (PySem.W.specialIn K (.builtin "object.__class__") "__get__") (some (some (.builtin "getset_descriptor.__get__"))) &&
  (decide (PySem.W.takesIn K (.builtin "object.__class__") = some true) &&
  (decide (PySem.W.mroIn K a (.type "object") = some true) &&
  decide (PySem.W.kitOne K (.ref a) (.type "ValueError") = some true))))))
def exB (K : PySem.W.Frag) : Bool := excB K (He.ga K "NoWay") && (tableB K (He.ga K "PRODUCTS") K17.PRODS && tableB K (He.ga K "FACTORS") K17.FACTS)
/-- the Hook: the kit's facts, and these -/
def hk (n : Nat) : PySem.W.Hook where
  α := He.AlD × Bool
  obs := fun sh => (fun K => (He.obsD fas dfs K, exB K)) (He.frG sh.heap.get? (He.asD sh.heap.get? n))
  val := fun _ => (He.valD dfs, true)
  says := fun _ hp => ∃ K : PySem.W.Frag, K.In hp ∧ (He.SaysD fas dfs K ∧ exB K = true)
  of := fun _ _ eq => ⟨_, He.frG_in, congrArg Prod.fst eq, congrArg Prod.snd eq⟩
  keeps := fun _ _ _ ⟨K, kin, rest⟩ kp => ⟨K, kin.keeps kp, rest⟩
def ob (n : Nat) (sh : PySem.W.SharedT) : He.AlD × Bool := (fun K => (He.obsD fas dfs K, exB K)) (He.frG (HandSHeadRun.getT sh) (He.asD (HandSHeadRun.getT sh) n))
theorem ob_eq (n : Nat) (sh : PySem.W.SharedT) : ob n sh = (hk n).obs sh.abs := by
  have eq : HandSHeadRun.getT sh = sh.abs.heap.get? := funext (HandSHeadRun.getT_eq sh)
  unfold ob
  rw [eq]
  rfl
section
variable {P : Program} {w : World} {K : PySem.W.Frag} {h : Heap} {mg : Str → Option Value} {base : Heap}
theorem fun_of {x : Str} {st : Stmt} {f : Addr} {fd : FuncData} (F : FunD K x x (defArgs st) (defBody st) (defScope st) [] [] f fd) : Fun K x x st f fd := by
  obtain ⟨c1, c2, c3, c4, c5, c6, c7, c8, c9, c10, e1, e2, e3, e4, _⟩ := F.ex
  rcases e4 with ⟨_, z⟩ | ⟨z, _⟩
  · subst z
    exact ⟨⟨c1, c2, c4, c5, c6, c7, c8, c9, c10, e1, e2, e3⟩, F.kp⟩
  · exact absurd rfl z
theorem def_at (c : He.SaysD fas dfs K) {x : Str} {st : Stmt} (i : Nat) (hi : dfs[i]? = some (dOf x st)) : ∃ fd, Fun K x x st (He.ga K x) fd := by
  obtain ⟨fd, F⟩ := c.def_ i hi
  exact ⟨fd, fun_of F⟩

theorem txt_of (X : K.In h) (G : h.Ns mainGlobals mg) (c : He.SaysD fas dfs K) (cx : exB K = true) : Txt K mg := by
  have hx : excB K (He.ga K "NoWay") = true ∧ (tableB K (He.ga K "PRODUCTS") K17.PRODS = true ∧ tableB K (He.ga K "FACTORS") K17.FACTS = true) := by
    unfold exB at cx
    rwa [Bool.and_eq_true, Bool.and_eq_true] at cx
  obtain ⟨q1, q2, q3, q4⟩ := table_ok hx.2.1
  obtain ⟨r1, r2, r3, r4⟩ := table_ok hx.2.2
  exact {
    n_len := He.free_ok X G (c.fact 48 (f := .free "len") rfl)
    n_int := He.free_ok X G (c.fact 49 (f := .free "int") rfl)
    n_bool := He.free_ok X G (c.fact 50 (f := .free "bool") rfl)
    n_tuple := He.free_ok X G (c.fact 51 (f := .free "tuple") rfl)
    n_list := He.free_ok X G (c.fact 52 (f := .free "list") rfl)
    n_all := He.free_ok X G (c.fact 53 (f := .free "all") rfl)
    n_sum := He.free_ok X G (c.fact 54 (f := .free "sum") rfl)
    n_sorted := He.free_ok X G (c.fact 55 (f := .free "sorted") rfl)
    n_abs := He.free_ok X G (c.fact 56 (f := .free "abs") rfl)
    n_min := He.free_ok X G (c.fact 57 (f := .free "min") rfl)
    n_isinstance := He.free_ok X G (c.fact 58 (f := .free "isinstance") rfl)
    n_set := He.free_ok X G (c.fact 59 (f := .free "set") rfl)
    n_range := He.free_ok X G (c.fact 60 (f := .free "range") rfl)
    n_zip := He.free_ok X G (c.fact 61 (f := .free "zip") rfl)
    n_enumerate := He.free_ok X G (c.fact 62 (f := .free "enumerate") rfl)
    n_str := He.free_ok X G (c.fact 63 (f := .free "str") rfl)
    n_ValueError := He.free_ok X G (c.fact 64 (f := .free "ValueError") rfl)
    LAMPS := He.int_ok X G (c.fact 65 (f := .int "LAMPS" 24) rfl)
    PRODUCTS := ⟨_, q1, He.glo_ok X G (c.fact 66 (f := .glo "PRODUCTS") rfl), q2, q3, q4⟩
    FACTORS := ⟨_, r1, He.glo_ok X G (c.fact 67 (f := .glo "FACTORS") rfl), r2, r3, r4⟩ }
theorem exc_of (X : K.In h) (G : h.Ns mainGlobals mg) (c : He.SaysD fas dfs K) (cx : exB K = true) : KD.ExcT K mg (He.ga K "NoWay") := by
  have hx : excB K (He.ga K "NoWay") = true := by
    unfold exB at cx
    rw [Bool.and_eq_true] at cx
    exact cx.1
  unfold excB at hx
  simp only [Bool.and_eq_true] at hx
  obtain ⟨h1, h2, h3, h4, h5, h6, h7⟩ := hx
  have e := He.exc_ok (c.fact 69 (f := .exc "NoWay") rfl)
  exact { gP := He.glo_ok X G (c.fact 68 (f := .glo "NoWay") rfl), xP := e.1, kP := e.2.1, bP := e.2.2.1, tP := e.2.2.2, eP := He.exm_ok (c.fact 70 (f := .exm "NoWay" "NoWay" true) rfl), kE := of_decide_eq_true h7, exc := ⟨He.eqO_ok h1, He.noat_ok (c.fact 71 (f := .noat "NoWay" "__getattr__") rfl), e.2.2.1, h2, He.eqO_ok h3, He.eqO_ok h4, of_decide_eq_true h5, of_decide_eq_true h6⟩ }
theorem joined {f : Addr} (X : K.In h) (G : h.Ns mainGlobals mg) (hfa : mg "law" = some (.ref f)) (c : He.SaysD fas dfs K) (cx : exB K = true) : ∃ fd : FuncData, (∀ (s : Shared) (v : Value), BindsTo s fd ⟨[v], []⟩ [("_law_script", v)]) ∧ ∀ base : Heap, K.In base → base.Ns mainGlobals mg → FnOk P w K mg base CX0 9 f fd ["_law_script"] (KD.spLaw K) := by
  have T := txt_of X G c cx
  have E := exc_of X G c cx
  -- not called: 
  obtain ⟨d_tupled, F_tupled⟩ := def_at c (x := "tupled") (st := s_tupled) 0 rfl
  have m_tupled : mg "tupled" = some (.ref (He.ga K "tupled")) := He.glo_ok X G (c.fact 0 (f := .glo "tupled") rfl)
  have b_tupled : Binds K d_tupled ["thing"] [] := F_tupled.binds fun _ _ _ _ _ _ us hl => match us, hl with | [_], _ => rfl
  obtain ⟨d_set_of, F_set_of⟩ := def_at c (x := "set_of") (st := s_set_of) 6 rfl
  have m_set_of : mg "set_of" = some (.ref (He.ga K "set_of")) := He.glo_ok X G (c.fact 6 (f := .glo "set_of") rfl)
  have b_set_of : Binds K d_set_of ["things"] [] := F_set_of.binds fun _ _ _ _ _ _ us hl => match us, hl with | [_], _ => rfl
  obtain ⟨d_summed, F_summed⟩ := def_at c (x := "summed") (st := s_summed) 10 rfl
  have m_summed : mg "summed" = some (.ref (He.ga K "summed")) := He.glo_ok X G (c.fact 10 (f := .glo "summed") rfl)
  have b_summed : Binds K d_summed ["one", "other"] [] := F_summed.binds fun _ _ _ _ _ _ us hl => match us, hl with | [_, _], _ => rfl
  obtain ⟨d_brought_down, F_brought_down⟩ := def_at c (x := "brought_down") (st := s_brought_down) 12 rfl
  have m_brought_down : mg "brought_down" = some (.ref (He.ga K "brought_down")) := He.glo_ok X G (c.fact 12 (f := .glo "brought_down") rfl)
  have b_brought_down : Binds K d_brought_down ["rows", "lack", "lot"] [] := F_brought_down.binds fun _ _ _ _ _ _ us hl => match us, hl with | [_, _, _], _ => rfl
  obtain ⟨d_sign_product, F_sign_product⟩ := def_at c (x := "sign_product") (st := s_sign_product) 7 rfl
  have m_sign_product : mg "sign_product" = some (.ref (He.ga K "sign_product")) := He.glo_ok X G (c.fact 7 (f := .glo "sign_product") rfl)
  have b_sign_product : Binds K d_sign_product ["one", "other"] [] := F_sign_product.binds fun _ _ _ _ _ _ us hl => match us, hl with | [_, _], _ => rfl
  obtain ⟨d_lack_of, F_lack_of⟩ := def_at c (x := "lack_of") (st := s_lack_of) 8 rfl
  have m_lack_of : mg "lack_of" = some (.ref (He.ga K "lack_of")) := He.glo_ok X G (c.fact 8 (f := .glo "lack_of") rfl)
  have b_lack_of : Binds K d_lack_of ["lamp"] [] := F_lack_of.binds fun _ _ _ _ _ _ us hl => match us, hl with | [_], _ => rfl
  obtain ⟨d_highest_bit, F_highest_bit⟩ := def_at c (x := "highest_bit") (st := s_highest_bit) 13 rfl
  have m_highest_bit : mg "highest_bit" = some (.ref (He.ga K "highest_bit")) := He.glo_ok X G (c.fact 13 (f := .glo "highest_bit") rfl)
  have b_highest_bit : Binds K d_highest_bit ["number"] [] := F_highest_bit.binds fun _ _ _ _ _ _ us hl => match us, hl with | [_], _ => rfl
  obtain ⟨d_rows_of_gaps, F_rows_of_gaps⟩ := def_at c (x := "rows_of_gaps") (st := s_rows_of_gaps) 14 rfl
  have m_rows_of_gaps : mg "rows_of_gaps" = some (.ref (He.ga K "rows_of_gaps")) := He.glo_ok X G (c.fact 14 (f := .glo "rows_of_gaps") rfl)
  have b_rows_of_gaps : Binds K d_rows_of_gaps ["gaps"] [] := F_rows_of_gaps.binds fun _ _ _ _ _ _ us hl => match us, hl with | [_], _ => rfl
  obtain ⟨d_outside, F_outside⟩ := def_at c (x := "outside") (st := s_outside) 15 rfl
  have m_outside : mg "outside" = some (.ref (He.ga K "outside")) := He.glo_ok X G (c.fact 15 (f := .glo "outside") rfl)
  have b_outside : Binds K d_outside ["lot", "gaps"] [] := F_outside.binds fun _ _ _ _ _ _ us hl => match us, hl with | [_, _], _ => rfl
  obtain ⟨d_lack_in, F_lack_in⟩ := def_at c (x := "lack_in") (st := s_lack_in) 9 rfl
  have m_lack_in : mg "lack_in" = some (.ref (He.ga K "lack_in")) := He.glo_ok X G (c.fact 9 (f := .glo "lack_in") rfl)
  have b_lack_in : Binds K d_lack_in ["lot"] [] := F_lack_in.binds fun _ _ _ _ _ _ us hl => match us, hl with | [_], _ => rfl
  obtain ⟨d_gaps_asked, F_gaps_asked⟩ := def_at c (x := "gaps_asked") (st := s_gaps_asked) 16 rfl
  have m_gaps_asked : mg "gaps_asked" = some (.ref (He.ga K "gaps_asked")) := He.glo_ok X G (c.fact 16 (f := .glo "gaps_asked") rfl)
  have b_gaps_asked : Binds K d_gaps_asked ["lot", "gaps"] [] := F_gaps_asked.binds fun _ _ _ _ _ _ us hl => match us, hl with | [_, _], _ => rfl
  obtain ⟨d_filled, F_filled⟩ := def_at c (x := "filled") (st := s_filled) 17 rfl
  have m_filled : mg "filled" = some (.ref (He.ga K "filled")) := He.glo_ok X G (c.fact 17 (f := .glo "filled") rfl)
  have b_filled : Binds K d_filled ["lot", "gaps"] [] := F_filled.binds fun _ _ _ _ _ _ us hl => match us, hl with | [_, _], _ => rfl
  obtain ⟨d_is_odd, F_is_odd⟩ := def_at c (x := "is_odd") (st := s_is_odd) 11 rfl
  have m_is_odd : mg "is_odd" = some (.ref (He.ga K "is_odd")) := He.glo_ok X G (c.fact 11 (f := .glo "is_odd") rfl)
  have b_is_odd : Binds K d_is_odd ["number"] [] := F_is_odd.binds fun _ _ _ _ _ _ us hl => match us, hl with | [_], _ => rfl
  obtain ⟨d_fill_bar, F_fill_bar⟩ := def_at c (x := "fill_bar") (st := s_fill_bar) 19 rfl
  have m_fill_bar : mg "fill_bar" = some (.ref (He.ga K "fill_bar")) := He.glo_ok X G (c.fact 19 (f := .glo "fill_bar") rfl)
  have b_fill_bar : Binds K d_fill_bar ["lot", "gaps"] [] := F_fill_bar.binds fun _ _ _ _ _ _ us hl => match us, hl with | [_, _], _ => rfl
  obtain ⟨d__law_heard, F__law_heard⟩ := def_at c (x := "_law_heard") (st := s__law_heard) 41 rfl
  have m__law_heard : mg "_law_heard" = some (.ref (He.ga K "_law_heard")) := He.glo_ok X G (c.fact 41 (f := .glo "_law_heard") rfl)
  have b__law_heard : Binds K d__law_heard ["_law_door", "_law_lot_here", "_law_gaps"] [] := F__law_heard.binds fun _ _ _ _ _ _ us hl => match us, hl with | [_, _, _], _ => rfl
  obtain ⟨d__law_same, F__law_same⟩ := def_at c (x := "_law_same") (st := s__law_same) 27 rfl
  have m__law_same : mg "_law_same" = some (.ref (He.ga K "_law_same")) := He.glo_ok X G (c.fact 27 (f := .glo "_law_same") rfl)
  have b__law_same : Binds K d__law_same ["_law_got", "_law_due"] [] := F__law_same.binds fun _ _ _ _ _ _ us hl => match us, hl with | [_, _], _ => rfl
  obtain ⟨d_is_number, F_is_number⟩ := def_at c (x := "is_number") (st := s_is_number) 1 rfl
  have m_is_number : mg "is_number" = some (.ref (He.ga K "is_number")) := He.glo_ok X G (c.fact 1 (f := .glo "is_number") rfl)
  have b_is_number : Binds K d_is_number ["thing"] [] := F_is_number.binds fun _ _ _ _ _ _ us hl => match us, hl with | [_], _ => rfl
  obtain ⟨d_is_count, F_is_count⟩ := def_at c (x := "is_count") (st := s_is_count) 2 rfl
  have m_is_count : mg "is_count" = some (.ref (He.ga K "is_count")) := He.glo_ok X G (c.fact 2 (f := .glo "is_count") rfl)
  have b_is_count : Binds K d_is_count ["thing"] [] := F_is_count.binds fun _ _ _ _ _ _ us hl => match us, hl with | [_], _ => rfl
  obtain ⟨d_is_below, F_is_below⟩ := def_at c (x := "is_below") (st := s_is_below) 3 rfl
  have m_is_below : mg "is_below" = some (.ref (He.ga K "is_below")) := He.glo_ok X G (c.fact 3 (f := .glo "is_below") rfl)
  have b_is_below : Binds K d_is_below ["thing", "many"] [] := F_is_below.binds fun _ _ _ _ _ _ us hl => match us, hl with | [_, _], _ => rfl
  obtain ⟨d_ascends, F_ascends⟩ := def_at c (x := "ascends") (st := s_ascends) 4 rfl
  have m_ascends : mg "ascends" = some (.ref (He.ga K "ascends")) := He.glo_ok X G (c.fact 4 (f := .glo "ascends") rfl)
  have b_ascends : Binds K d_ascends ["thing"] [] := F_ascends.binds fun _ _ _ _ _ _ us hl => match us, hl with | [_], _ => rfl
  obtain ⟨d_is_number_set, F_is_number_set⟩ := def_at c (x := "is_number_set") (st := s_is_number_set) 5 rfl
  have m_is_number_set : mg "is_number_set" = some (.ref (He.ga K "is_number_set")) := He.glo_ok X G (c.fact 5 (f := .glo "is_number_set") rfl)
  have b_is_number_set : Binds K d_is_number_set ["thing", "many"] [] := F_is_number_set.binds fun _ _ _ _ _ _ us hl => match us, hl with | [_, _], _ => rfl
  obtain ⟨d_is_filled, F_is_filled⟩ := def_at c (x := "is_filled") (st := s_is_filled) 18 rfl
  have m_is_filled : mg "is_filled" = some (.ref (He.ga K "is_filled")) := He.glo_ok X G (c.fact 18 (f := .glo "is_filled") rfl)
  have b_is_filled : Binds K d_is_filled ["lot", "gaps", "thing"] [] := F_is_filled.binds fun _ _ _ _ _ _ us hl => match us, hl with | [_, _, _], _ => rfl
  obtain ⟨d_is_fill_bar, F_is_fill_bar⟩ := def_at c (x := "is_fill_bar") (st := s_is_fill_bar) 20 rfl
  have m_is_fill_bar : mg "is_fill_bar" = some (.ref (He.ga K "is_fill_bar")) := He.glo_ok X G (c.fact 20 (f := .glo "is_fill_bar") rfl)
  have b_is_fill_bar : Binds K d_is_fill_bar ["lot", "gaps", "thing"] [] := F_is_fill_bar.binds fun _ _ _ _ _ _ us hl => match us, hl with | [_, _, _], _ => rfl
  obtain ⟨d__law_by_hand_right, F__law_by_hand_right⟩ := def_at c (x := "_law_by_hand_right") (st := s__law_by_hand_right) 46 rfl
  have m__law_by_hand_right : mg "_law_by_hand_right" = some (.ref (He.ga K "_law_by_hand_right")) := He.glo_ok X G (c.fact 46 (f := .glo "_law_by_hand_right") rfl)
  have b__law_by_hand_right : Binds K d__law_by_hand_right [] [] := F__law_by_hand_right.binds fun _ _ _ _ _ _ us hl => match us, hl with | [], _ => rfl
  obtain ⟨d__law_take, F__law_take⟩ := def_at c (x := "_law_take") (st := s__law_take) 22 rfl
  have m__law_take : mg "_law_take" = some (.ref (He.ga K "_law_take")) := He.glo_ok X G (c.fact 22 (f := .glo "_law_take") rfl)
  have b__law_take : Binds K d__law_take ["_law_tin", "_law_below_so"] [] := F__law_take.binds fun _ _ _ _ _ _ us hl => match us, hl with | [_, _], _ => rfl
  obtain ⟨d__law_of, F__law_of⟩ := def_at c (x := "_law_of") (st := s__law_of) 24 rfl
  have m__law_of : mg "_law_of" = some (.ref (He.ga K "_law_of")) := He.glo_ok X G (c.fact 24 (f := .glo "_law_of") rfl)
  have b__law_of : Binds K d__law_of ["_law_tin", "_law_goods_so"] [] := F__law_of.binds fun _ _ _ _ _ _ us hl => match us, hl with | [_, _], _ => rfl
  obtain ⟨d__law_pick, F__law_pick⟩ := def_at c (x := "_law_pick") (st := s__law_pick) 25 rfl
  have m__law_pick : mg "_law_pick" = some (.ref (He.ga K "_law_pick")) := He.glo_ok X G (c.fact 25 (f := .glo "_law_pick") rfl)
  have b__law_pick : Binds K d__law_pick ["_law_tin", "_law_goods_so", "_law_count_so"] [] := F__law_pick.binds fun _ _ _ _ _ _ us hl => match us, hl with | [_, _, _], _ => rfl
  obtain ⟨d__law_some_lot, F__law_some_lot⟩ := def_at c (x := "_law_some_lot") (st := s__law_some_lot) 40 rfl
  have m__law_some_lot : mg "_law_some_lot" = some (.ref (He.ga K "_law_some_lot")) := He.glo_ok X G (c.fact 40 (f := .glo "_law_some_lot") rfl)
  have b__law_some_lot : Binds K d__law_some_lot ["_law_tin", "_law_most_so"] [] := F__law_some_lot.binds fun _ _ _ _ _ _ us hl => match us, hl with | [_, _], _ => rfl
  obtain ⟨d__law_lot, F__law_lot⟩ := def_at c (x := "_law_lot") (st := s__law_lot) 33 rfl
  have m__law_lot : mg "_law_lot" = some (.ref (He.ga K "_law_lot")) := He.glo_ok X G (c.fact 33 (f := .glo "_law_lot") rfl)
  have b__law_lot : Binds K d__law_lot ["_law_number_so"] [] := F__law_lot.binds fun _ _ _ _ _ _ us hl => match us, hl with | [_], _ => rfl
  obtain ⟨d__law_lists, F__law_lists⟩ := def_at c (x := "_law_lists") (st := s__law_lists) 26 rfl
  have m__law_lists : mg "_law_lists" = some (.ref (He.ga K "_law_lists")) := He.glo_ok X G (c.fact 26 (f := .glo "_law_lists") rfl)
  have b__law_lists : Binds K d__law_lists ["_law_matter"] [] := F__law_lists.binds fun _ _ _ _ _ _ us hl => match us, hl with | [_], _ => rfl
  obtain ⟨d__law_bits, F__law_bits⟩ := def_at c (x := "_law_bits") (st := s__law_bits) 32 rfl
  have m__law_bits : mg "_law_bits" = some (.ref (He.ga K "_law_bits")) := He.glo_ok X G (c.fact 32 (f := .glo "_law_bits") rfl)
  have b__law_bits : Binds K d__law_bits ["_law_lot_so"] [] := F__law_bits.binds fun _ _ _ _ _ _ us hl => match us, hl with | [_], _ => rfl
  obtain ⟨d__law_many, F__law_many⟩ := def_at c (x := "_law_many") (st := s__law_many) 37 rfl
  have m__law_many : mg "_law_many" = some (.ref (He.ga K "_law_many")) := He.glo_ok X G (c.fact 37 (f := .glo "_law_many") rfl)
  have b__law_many : Binds K d__law_many ["_law_tally_so", "_law_number_so"] [] := F__law_many.binds fun _ _ _ _ _ _ us hl => match us, hl with | [_, _], _ => rfl
  obtain ⟨d__law_is_set, F__law_is_set⟩ := def_at c (x := "_law_is_set") (st := s__law_is_set) 28 rfl
  have m__law_is_set : mg "_law_is_set" = some (.ref (He.ga K "_law_is_set")) := He.glo_ok X G (c.fact 28 (f := .glo "_law_is_set") rfl)
  have b__law_is_set : Binds K d__law_is_set ["_law_own", "_law_below_so"] [] := F__law_is_set.binds fun _ _ _ _ _ _ us hl => match us, hl with | [_, _], _ => rfl
  obtain ⟨d__law_is_lot, F__law_is_lot⟩ := def_at c (x := "_law_is_lot") (st := s__law_is_lot) 31 rfl
  have m__law_is_lot : mg "_law_is_lot" = some (.ref (He.ga K "_law_is_lot")) := He.glo_ok X G (c.fact 31 (f := .glo "_law_is_lot") rfl)
  have b__law_is_lot : Binds K d__law_is_lot ["_law_own"] [] := F__law_is_lot.binds fun _ _ _ _ _ _ us hl => match us, hl with | [_], _ => rfl
  obtain ⟨d__law_is_one, F__law_is_one⟩ := def_at c (x := "_law_is_one") (st := s__law_is_one) 43 rfl
  have m__law_is_one : mg "_law_is_one" = some (.ref (He.ga K "_law_is_one")) := He.glo_ok X G (c.fact 43 (f := .glo "_law_is_one") rfl)
  have b__law_is_one : Binds K d__law_is_one ["_law_goods", "_law_own"] [] := F__law_is_one.binds fun _ _ _ _ _ _ us hl => match us, hl with | [_, _], _ => rfl
  obtain ⟨d__law_told_right, F__law_told_right⟩ := def_at c (x := "_law_told_right") (st := s__law_told_right) 44 rfl
  have m__law_told_right : mg "_law_told_right" = some (.ref (He.ga K "_law_told_right")) := He.glo_ok X G (c.fact 44 (f := .glo "_law_told_right") rfl)
  have b__law_told_right : Binds K d__law_told_right ["_law_told", "_law_goods"] [] := F__law_told_right.binds fun _ _ _ _ _ _ us hl => match us, hl with | [_, _], _ => rfl
  obtain ⟨d__law_lot_sum, F__law_lot_sum⟩ := def_at c (x := "_law_lot_sum") (st := s__law_lot_sum) 34 rfl
  have m__law_lot_sum : mg "_law_lot_sum" = some (.ref (He.ga K "_law_lot_sum")) := He.glo_ok X G (c.fact 34 (f := .glo "_law_lot_sum") rfl)
  have b__law_lot_sum : Binds K d__law_lot_sum ["_law_one_so", "_law_two_so"] [] := F__law_lot_sum.binds fun _ _ _ _ _ _ us hl => match us, hl with | [_, _], _ => rfl
  obtain ⟨d__law_bent, F__law_bent⟩ := def_at c (x := "_law_bent") (st := s__law_bent) 42 rfl
  have m__law_bent : mg "_law_bent" = some (.ref (He.ga K "_law_bent")) := He.glo_ok X G (c.fact 42 (f := .glo "_law_bent") rfl)
  have b__law_bent : Binds K d__law_bent ["_law_tin", "_law_own"] [] := F__law_bent.binds fun _ _ _ _ _ _ us hl => match us, hl with | [_, _], _ => rfl
  obtain ⟨d__law_right, F__law_right⟩ := def_at c (x := "_law_right") (st := s__law_right) 45 rfl
  have m__law_right : mg "_law_right" = some (.ref (He.ga K "_law_right")) := He.glo_ok X G (c.fact 45 (f := .glo "_law_right") rfl)
  have b__law_right : Binds K d__law_right ["_law_tin", "_law_board_here"] [] := F__law_right.binds fun _ _ _ _ _ _ us hl => match us, hl with | [_, _], _ => rfl
  obtain ⟨d__law_box, F__law_box⟩ := def_at c (x := "_law_box") (st := s__law_box) 21 rfl
  have m__law_box : mg "_law_box" = some (.ref (He.ga K "_law_box")) := He.glo_ok X G (c.fact 21 (f := .glo "_law_box") rfl)
  have b__law_box : Binds K d__law_box ["_law_script", "_law_k"] [] := F__law_box.binds fun _ _ _ _ _ _ us hl => match us, hl with | [_, _], _ => rfl
  obtain ⟨d__law_cells, F__law_cells⟩ := def_at c (x := "_law_cells") (st := s__law_cells) 23 rfl
  have m__law_cells : mg "_law_cells" = some (.ref (He.ga K "_law_cells")) := He.glo_ok X G (c.fact 23 (f := .glo "_law_cells") rfl)
  have b__law_cells : Binds K d__law_cells ["_law_script", "_law_most_so"] [] := F__law_cells.binds fun _ _ _ _ _ _ us hl => match us, hl with | [_, _], _ => rfl
  obtain ⟨d__law_signs_product, F__law_signs_product⟩ := def_at c (x := "_law_signs_product") (st := s__law_signs_product) 29 rfl
  have m__law_signs_product : mg "_law_signs_product" = some (.ref (He.ga K "_law_signs_product")) := He.glo_ok X G (c.fact 29 (f := .glo "_law_signs_product") rfl)
  have b__law_signs_product : Binds K d__law_signs_product ["_law_one_so", "_law_two_so"] [] := F__law_signs_product.binds fun _ _ _ _ _ _ us hl => match us, hl with | [_, _], _ => rfl
  obtain ⟨d__law_word_by, F__law_word_by⟩ := def_at c (x := "_law_word_by") (st := s__law_word_by) 30 rfl
  have m__law_word_by : mg "_law_word_by" = some (.ref (He.ga K "_law_word_by")) := He.glo_ok X G (c.fact 30 (f := .glo "_law_word_by") rfl)
  have b__law_word_by : Binds K d__law_word_by ["_law_one_so", "_law_two_so", "_law_three_so"] [] := F__law_word_by.binds fun _ _ _ _ _ _ us hl => match us, hl with | [_, _, _], _ => rfl
  obtain ⟨d__law_base, F__law_base⟩ := def_at c (x := "_law_base") (st := s__law_base) 35 rfl
  have m__law_base : mg "_law_base" = some (.ref (He.ga K "_law_base")) := He.glo_ok X G (c.fact 35 (f := .glo "_law_base") rfl)
  have b__law_base : Binds K d__law_base [] [] := F__law_base.binds fun _ _ _ _ _ _ us hl => match us, hl with | [], _ => rfl
  obtain ⟨d__law_rights, F__law_rights⟩ := def_at c (x := "_law_rights") (st := s__law_rights) 38 rfl
  have m__law_rights : mg "_law_rights" = some (.ref (He.ga K "_law_rights")) := He.glo_ok X G (c.fact 38 (f := .glo "_law_rights") rfl)
  have b__law_rights : Binds K d__law_rights [] [] := F__law_rights.binds fun _ _ _ _ _ _ us hl => match us, hl with | [], _ => rfl
  obtain ⟨d__law_tally, F__law_tally⟩ := def_at c (x := "_law_tally") (st := s__law_tally) 36 rfl
  have m__law_tally : mg "_law_tally" = some (.ref (He.ga K "_law_tally")) := He.glo_ok X G (c.fact 36 (f := .glo "_law_tally") rfl)
  have b__law_tally : Binds K d__law_tally [] [] := F__law_tally.binds fun _ _ _ _ _ _ us hl => match us, hl with | [], _ => rfl
  obtain ⟨d__law_board, F__law_board⟩ := def_at c (x := "_law_board") (st := s__law_board) 39 rfl
  have m__law_board : mg "_law_board" = some (.ref (He.ga K "_law_board")) := He.glo_ok X G (c.fact 39 (f := .glo "_law_board") rfl)
  have b__law_board : Binds K d__law_board [] [] := F__law_board.binds fun _ _ _ _ _ _ us hl => match us, hl with | [], _ => rfl
  obtain ⟨d_law, F_law⟩ := def_at c (x := "law") (st := s_law) 47 rfl
  have m_law : mg "law" = some (.ref (He.ga K "law")) := He.glo_ok X G (c.fact 47 (f := .glo "law") rfl)
  have b_law : Binds K d_law ["_law_script"] [] := F_law.binds fun _ _ _ _ _ _ us hl => match us, hl with | [_], _ => rfl
  have e0 := hfa.symm.trans m_law
  cases e0
  refine ⟨d_law, fun s v => ?_, fun base _ _ => ?_⟩
  · obtain ⟨c1, c2, c3, c4, c5, c6, c7, c8, c9, e1, _⟩ := F_law.ex
    subst e1
    exact .of_eq rfl
  · have c_tupled : Cal P w K mg base CX0 2 "tupled" ["thing"] (KD.spTup K) := ⟨⟨_, _, KD.ok_tupled F_tupled T m_tupled b_tupled, m_tupled, F_tupled.kp, b_tupled⟩⟩
    have c_set_of : Cal P w K mg base CX0 1 "set_of" ["things"] (KD.spSetOf K) := ⟨⟨_, _, KD.ok_set_of F_set_of T, m_set_of, F_set_of.kp, b_set_of⟩⟩
    have c_summed : Cal P w K mg base CX0 2 "summed" ["one", "other"] (KD.spSummed K) := ⟨⟨_, _, KD.ok_summed F_summed c_set_of, m_summed, F_summed.kp, b_summed⟩⟩
    have c_brought_down : Cal P w K mg base CX0 3 "brought_down" ["rows", "lack", "lot"] (KD.spDown K) := ⟨⟨_, _, KD.ok_brought_down F_brought_down c_summed, m_brought_down, F_brought_down.kp, b_brought_down⟩⟩
    have c_sign_product : Cal P w K mg base CX0 1 "sign_product" ["one", "other"] KD.spProd := ⟨⟨_, _, KD.ok_sign_product F_sign_product T, m_sign_product, F_sign_product.kp, b_sign_product⟩⟩
    have c_lack_of : Cal P w K mg base CX0 2 "lack_of" ["lamp"] KD.spLackOf := ⟨⟨_, _, KD.ok_lack_of F_lack_of T c_sign_product, m_lack_of, F_lack_of.kp, b_lack_of⟩⟩
    have c_highest_bit : Cal P w K mg base CX0 1 "highest_bit" ["number"] KD.spHigh := ⟨⟨_, _, KD.ok_highest_bit F_highest_bit, m_highest_bit, F_highest_bit.kp, b_highest_bit⟩⟩
    have c_rows_of_gaps : Cal P w K mg base CX0 4 "rows_of_gaps" ["gaps"] (KD.spRowsOf K) := ⟨⟨_, _, KD.ok_rows_of_gaps F_rows_of_gaps c_brought_down c_lack_of c_highest_bit, m_rows_of_gaps, F_rows_of_gaps.kp, b_rows_of_gaps⟩⟩
    have c_outside : Cal P w K mg base CX0 1 "outside" ["lot", "gaps"] (KD.spOutside K) := ⟨⟨_, _, KD.ok_outside F_outside T, m_outside, F_outside.kp, b_outside⟩⟩
    have c_lack_in : Cal P w K mg base CX0 3 "lack_in" ["lot"] (KD.spLackIn K) := ⟨⟨_, _, KD.ok_lack_in F_lack_in c_lack_of, m_lack_in, F_lack_in.kp, b_lack_in⟩⟩
    have c_gaps_asked : Cal P w K mg base CX0 5 "gaps_asked" ["lot", "gaps"] (KD.spAsked K) := ⟨⟨_, _, KD.ok_gaps_asked F_gaps_asked c_tupled c_rows_of_gaps c_outside c_brought_down c_lack_in, m_gaps_asked, F_gaps_asked.kp, b_gaps_asked⟩⟩
    have c_filled : Cal P w K mg base (L2.CX P w) 6 "filled" ["lot", "gaps"] (KD.spFilled K (He.ga K "NoWay")) := ⟨⟨_, _, KD.ok_filled F_filled E c_gaps_asked, m_filled, F_filled.kp, b_filled⟩⟩
    have c_is_odd : Cal P w K mg base CX0 1 "is_odd" ["number"] KD.spIsOdd := ⟨⟨_, _, KD.ok_is_odd F_is_odd, m_is_odd, F_is_odd.kp, b_is_odd⟩⟩
    have c_fill_bar : Cal P w K mg base (L2.CX P w) 6 "fill_bar" ["lot", "gaps"] (KD.spFillBar K (He.ga K "NoWay")) := ⟨⟨_, _, KD.ok_fill_bar F_fill_bar T E c_gaps_asked c_highest_bit c_is_odd c_lack_of, m_fill_bar, F_fill_bar.kp, b_fill_bar⟩⟩
    have c__law_heard : Cal P w K mg base CX0 7 "_law_heard" ["_law_door", "_law_lot_here", "_law_gaps"] (KD.spHeard K) := ⟨⟨_, _, KD.ok__law_heard F__law_heard T E c_filled c_fill_bar, m__law_heard, F__law_heard.kp, b__law_heard⟩⟩
    have c__law_same : Cal P w K mg base CX0 3 "_law_same" ["_law_got", "_law_due"] (KD.spSame K (KD.DD 3)) := ⟨⟨_, _, KD.ok__law_same F__law_same T m__law_same b__law_same 3, m__law_same, F__law_same.kp, b__law_same⟩⟩
    have c_is_number : Cal P w K mg base CX0 1 "is_number" ["thing"] KD.spIsNumber := ⟨⟨_, _, KD.ok_is_number F_is_number T, m_is_number, F_is_number.kp, b_is_number⟩⟩
    have c_is_count : Cal P w K mg base CX0 2 "is_count" ["thing"] KD.spIsCount := ⟨⟨_, _, KD.ok_is_count F_is_count c_is_number, m_is_count, F_is_count.kp, b_is_count⟩⟩
    have c_is_below : Cal P w K mg base CX0 3 "is_below" ["thing", "many"] KD.spIsBelow := ⟨⟨_, _, KD.ok_is_below F_is_below c_is_count, m_is_below, F_is_below.kp, b_is_below⟩⟩
    have c_ascends : Cal P w K mg base CX0 1 "ascends" ["thing"] (KD.spAscends K) := ⟨⟨_, _, KD.ok_ascends F_ascends T, m_ascends, F_ascends.kp, b_ascends⟩⟩
    have c_is_number_set : Cal P w K mg base CX0 4 "is_number_set" ["thing", "many"] (KD.spNumSet K) := ⟨⟨_, _, KD.ok_is_number_set F_is_number_set T c_is_below c_ascends, m_is_number_set, F_is_number_set.kp, b_is_number_set⟩⟩
    have c_is_filled : Cal P w K mg base CX0 5 "is_filled" ["lot", "gaps", "thing"] (KD.spIsFilled K) := ⟨⟨_, _, KD.ok_is_filled F_is_filled T c_tupled c_is_number_set c_lack_in c_outside, m_is_filled, F_is_filled.kp, b_is_filled⟩⟩
    have c_is_fill_bar : Cal P w K mg base CX0 5 "is_fill_bar" ["lot", "gaps", "thing"] (KD.spIsFillBar K) := ⟨⟨_, _, KD.ok_is_fill_bar F_is_fill_bar T c_tupled c_is_number_set c_lack_in c_outside, m_is_fill_bar, F_is_fill_bar.kp, b_is_fill_bar⟩⟩
    have c__law_by_hand_right : Cal P w K mg base CX0 8 "_law_by_hand_right" [] (KD.spHand K) := ⟨⟨_, _, KD.ok__law_by_hand_right F__law_by_hand_right c__law_heard c__law_same c_is_filled c_is_fill_bar, m__law_by_hand_right, F__law_by_hand_right.kp, b__law_by_hand_right⟩⟩
    have c__law_take : Cal P w K mg base CX0 1 "_law_take" ["_law_tin", "_law_below_so"] KD.spTake := ⟨⟨_, _, KD.ok__law_take F__law_take T, m__law_take, F__law_take.kp, b__law_take⟩⟩
    have c__law_of : Cal P w K mg base CX0 2 "_law_of" ["_law_tin", "_law_goods_so"] (KD.spOf K) := ⟨⟨_, _, KD.ok__law_of F__law_of T c__law_take, m__law_of, F__law_of.kp, b__law_of⟩⟩
    have c__law_pick : Cal P w K mg base CX0 2 "_law_pick" ["_law_tin", "_law_goods_so", "_law_count_so"] (KD.spPick K) := ⟨⟨_, _, KD.ok__law_pick F__law_pick T c__law_take, m__law_pick, F__law_pick.kp, b__law_pick⟩⟩
    have c__law_some_lot : Cal P w K mg base CX0 3 "_law_some_lot" ["_law_tin", "_law_most_so"] (KD.spSomeLot K) := ⟨⟨_, _, KD.ok__law_some_lot F__law_some_lot T c__law_take c__law_pick, m__law_some_lot, F__law_some_lot.kp, b__law_some_lot⟩⟩
    have c__law_lot : Cal P w K mg base CX0 1 "_law_lot" ["_law_number_so"] (KD.spLot K) := ⟨⟨_, _, KD.ok__law_lot F__law_lot T, m__law_lot, F__law_lot.kp, b__law_lot⟩⟩
    have c__law_lists : Cal P w K mg base CX0 2 "_law_lists" ["_law_matter"] (KD.spLists K) := ⟨⟨_, _, KD.ok__law_lists F__law_lists T m__law_lists b__law_lists, m__law_lists, F__law_lists.kp, b__law_lists⟩⟩
    have c__law_bits : Cal P w K mg base CX0 1 "_law_bits" ["_law_lot_so"] (KD.spBits K) := ⟨⟨_, _, KD.ok__law_bits F__law_bits T, m__law_bits, F__law_bits.kp, b__law_bits⟩⟩
    have c__law_many : Cal P w K mg base CX0 1 "_law_many" ["_law_tally_so", "_law_number_so"] (KD.spMany K) := ⟨⟨_, _, KD.ok__law_many F__law_many, m__law_many, F__law_many.kp, b__law_many⟩⟩
    have c__law_is_set : Cal P w K mg base CX0 1 "_law_is_set" ["_law_own", "_law_below_so"] (KD.spIsSet K) := ⟨⟨_, _, KD.ok__law_is_set F__law_is_set T, m__law_is_set, F__law_is_set.kp, b__law_is_set⟩⟩
    have c__law_is_lot : Cal P w K mg base CX0 2 "_law_is_lot" ["_law_own"] (KD.spIsLot K) := ⟨⟨_, _, KD.ok__law_is_lot F__law_is_lot c__law_is_set, m__law_is_lot, F__law_is_lot.kp, b__law_is_lot⟩⟩
    have c__law_is_one : Cal P w K mg base CX0 3 "_law_is_one" ["_law_goods", "_law_own"] (KD.spIsOne K) := ⟨⟨_, _, KD.ok__law_is_one F__law_is_one c__law_is_lot c__law_bits, m__law_is_one, F__law_is_one.kp, b__law_is_one⟩⟩
    have c__law_told_right : Cal P w K mg base CX0 4 "_law_told_right" ["_law_told", "_law_goods"] (KD.spToldRight K) := ⟨⟨_, _, KD.ok__law_told_right F__law_told_right c__law_is_one, m__law_told_right, F__law_told_right.kp, b__law_told_right⟩⟩
    have c__law_lot_sum : Cal P w K mg base CX0 1 "_law_lot_sum" ["_law_one_so", "_law_two_so"] (KD.spLotSum K) := ⟨⟨_, _, KD.ok__law_lot_sum F__law_lot_sum T, m__law_lot_sum, F__law_lot_sum.kp, b__law_lot_sum⟩⟩
    have c__law_bent : Cal P w K mg base CX0 3 "_law_bent" ["_law_tin", "_law_own"] (KD.spBent K) := ⟨⟨_, _, KD.ok__law_bent F__law_bent T c__law_take c__law_of c__law_lot_sum, m__law_bent, F__law_bent.kp, b__law_bent⟩⟩
    have c__law_right : Cal P w K mg base CX0 8 "_law_right" ["_law_tin", "_law_board_here"] (KD.spRight K) := ⟨⟨_, _, KD.ok__law_right F__law_right T c__law_take c__law_of c__law_some_lot c__law_lot c__law_lists c__law_bits c__law_many c__law_heard c__law_told_right c__law_same c__law_bent c_is_filled c_is_fill_bar c__law_is_one, m__law_right, F__law_right.kp, b__law_right⟩⟩
    have c__law_box : Cal P w K mg base CX0 1 "_law_box" ["_law_script", "_law_k"] (KD.spBox K) := ⟨⟨_, _, KD.ok__law_box F__law_box T, m__law_box, F__law_box.kp, b__law_box⟩⟩
    have c__law_cells : Cal P w K mg base CX0 1 "_law_cells" ["_law_script", "_law_most_so"] (KD.spCells K) := ⟨⟨_, _, KD.ok__law_cells F__law_cells T, m__law_cells, F__law_cells.kp, b__law_cells⟩⟩
    have c__law_signs_product : Cal P w K mg base CX0 1 "_law_signs_product" ["_law_one_so", "_law_two_so"] KD.spSP := ⟨⟨_, _, KD.ok__law_signs_product F__law_signs_product, m__law_signs_product, F__law_signs_product.kp, b__law_signs_product⟩⟩
    have c__law_word_by : Cal P w K mg base CX0 2 "_law_word_by" ["_law_one_so", "_law_two_so", "_law_three_so"] (KD.spWordBy K) := ⟨⟨_, _, KD.ok__law_word_by F__law_word_by c__law_signs_product, m__law_word_by, F__law_word_by.kp, b__law_word_by⟩⟩
    have c__law_base : Cal P w K mg base CX0 3 "_law_base" [] (KD.spBase K) := ⟨⟨_, _, KD.ok__law_base F__law_base T c__law_word_by, m__law_base, F__law_base.kp, b__law_base⟩⟩
    have c__law_rights : Cal P w K mg base CX0 4 "_law_rights" [] (KD.spRights K) := ⟨⟨_, _, KD.ok__law_rights F__law_rights c__law_base c__law_bits, m__law_rights, F__law_rights.kp, b__law_rights⟩⟩
    have c__law_tally : Cal P w K mg base CX0 1 "_law_tally" [] (KD.spTally K) := ⟨⟨_, _, KD.ok__law_tally F__law_tally T, m__law_tally, F__law_tally.kp, b__law_tally⟩⟩
    have c__law_board : Cal P w K mg base CX0 5 "_law_board" [] (KD.spBoard K) := ⟨⟨_, _, KD.ok__law_board F__law_board c__law_rights c__law_tally, m__law_board, F__law_board.kp, b__law_board⟩⟩
    exact KD.ok_law F_law c__law_by_hand_right c__law_right c__law_box c__law_cells c__law_board
end
end KZ
set_option Elab.async false
set_option linter.all false
set_option maxRecDepth 100000
set_option maxHeartbeats 0
/-! The head by one run; the statement. Printed by fin.py. -/
namespace KZ
open PySem PySem.Spec PyProof.Rows L2 KT
def looseA : List Str := ["NoWay", "tupled", "is_number", "is_count", "is_below", "ascends", "is_number_set", "set_of", "PRODUCTS", "sign_product", "LAMPS", "FACTORS", "lack_of", "lack_in", "summed", "is_odd", "brought_down", "highest_bit", "rows_of_gaps", "outside", "gaps_asked", "filled", "is_filled", "fill_bar", "is_fill_bar"]
def looseB : List Str := ["_law_box", "_law_take", "_law_cells", "_law_of", "_law_pick", "_law_lists", "_law_same", "_law_is_set", "_law_signs_product", "_law_word_by", "_law_is_lot", "_law_bits", "_law_lot", "_law_lot_sum", "_law_base", "_law_tally", "_law_many", "_law_rights", "_law_board", "_law_some_lot", "_law_heard", "_law_bent", "_law_is_one", "_law_told_right", "_law_right", "_law_by_hand_right"]
def loose : List Str := looseA ++ looseB
abbrev Rw : PySem.W.OpenRow := PySem.W.OpenLaw.row PySem.Challenge.rw_eightlots_k17_whole_lots_filled_at_gaps
theorem run (w : World) : HandSHeadRun.RunEq Rw (PySem.W.view Rw.prog [56]) (hk 3) (ob 3) 4000 loose w := by
  intro os
  kernel_rfl
end KZ
set_option Elab.async false
set_option linter.all false
set_option maxRecDepth 100000
set_option maxHeartbeats 0
open PySem PySem.W PySem.Calls PyProof.Rows
theorem PySem.Challenge.cw_eightlots_k17_whole_lots_filled_at_gaps_holds : PySem.Challenge.rw_eightlots_k17_whole_lots_filled_at_gaps.Holds := by
  w_on; o_law
  refine HandSHeadRun.head_any (r := OpenLaw.row PySem.Challenge.rw_eightlots_k17_whole_lots_filled_at_gaps) (q := view (OpenLaw.row PySem.Challenge.rw_eightlots_k17_whole_lots_filled_at_gaps).prog [56]) (H := KZ.hk 3) (ob := KZ.ob 3) (M := 4000) (loose := KZ.loose) (d := HandSHeadRun.topDef (OpenLaw.row PySem.Challenge.rw_eightlots_k17_whole_lots_filled_at_gaps).prog 56) (kwd := []) (KZ.ob_eq 3)
    (by kernel_rfl) (fun s => by kernel_rfl) KZ.run (by kernel_rfl) (by kernel_rfl) (by kernel_rfl) (by rfl) (by first | assumption | decide +kernel) (by decide +kernel) ⟨rfl, rfl, rfl, rfl, rfl, by decide +kernel⟩ ?hw ?hc
  case hw => w_witness2
  case hc =>
    refine L2.walk_ofE (l := PySem.Challenge.rw_eightlots_k17_whole_lots_filled_at_gaps) (n := 63) (k := 9) (x := "_law_script") (CX := L2.CX0) rfl (by decide) (by kernel_rfl) ⟨rfl, by decide, by decide⟩ ?F (fun _ _ _ _ z => z)
    intro w mg fa h Y G hmg0
    obtain ⟨K, kin, c, cx⟩ := Y
    have hmg : mg ("law" : PySem.Str) = some (.ref fa) := by
      have en : (HandSHeadRun.topDef (OpenLaw.row PySem.Challenge.rw_eightlots_k17_whole_lots_filled_at_gaps).prog 56).name = ("law" : PySem.Str) := by kernel_rfl
      rw [← en]
      exact hmg0
    obtain ⟨fd, hb, hF⟩ := KZ.joined (P := (PySem.Challenge.rw_eightlots_k17_whole_lots_filled_at_gaps).prog) (w := w) kin G hmg c cx
    exact ⟨K, fd, KD.spLaw K, kin, hb, fun H a ns _ _ hS => ⟨a, ns, rfl, hS, fun _ => rfl⟩, hF⟩
