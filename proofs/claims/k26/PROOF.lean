import PyProof.Rows.All
import Wide.All
import OpenK.AllK
import Wide.FinOn
import HandS.ForMost
import HandS.ForExc
import HandS.ExcInit
import HandS.IsInst
import HandS.Deep
import HandS.TupSets
import HandS.TupAny
import HandS.TupMul
import HandS.Zip
import HandS.NoneIn
import HandS.Codes
import HandS.Defaults
import KE.KDictList
import KE.DataMinMax
import KE.KDictPairs
import KE.KDictKeyed
import KE.KDictCopyH
import KE.KDictZip
import PySem.Challenge.RW_wishdeeds_k26_whole_made_deeds_of_made_d
import HandS.Walk
import HandS.Conv
/-! # Rows made of rows: the plain law (no program in sight) -/
set_option linter.all false
namespace K26
/-- the cell of a table -/
def cell (t : List Int) (i : Int) : Int := t.getD i.toNat 0
/-- a row of things of a width -/
def Row (n : Int) (w : Nat) (r : List Int) : Prop := r.length = w ∧ ∀ x ∈ r, 0 ≤ x ∧ x < n
def ap0 (t : List Int) (w : Nat) : List Int := List.replicate w (cell t 0)
def ap1 (t r : List Int) : List Int := r.map (cell t)
def ap2 (n : Int) (t r s : List Int) : List Int := List.zipWith (fun a b => cell t (a * n + b)) r s
/-- a deed by its places and its table -/
abbrev Deed := Nat × List Int
def ValidD (n : Int) (d : Deed) : Prop := Row n (n.toNat ^ d.1) d.2
/-- what is made -/
inductive Made (n : Int) (D : List Deed) (R0 : List (List Int)) (w : Nat) : List Int → Prop
  | given (r : List Int) : r ∈ R0 → Made n D R0 w r
  | d0 (t : List Int) : (0, t) ∈ D → Made n D R0 w (ap0 t w)
  | d1 (t r : List Int) : (1, t) ∈ D → Made n D R0 w r → Made n D R0 w (ap1 t r)
  | d2 (t r s : List Int) : (2, t) ∈ D → Made n D R0 w r → Made n D R0 w s → Made n D R0 w (ap2 n t r s)
/-- closed under the deeds -/
structure Closed (n : Int) (D : List Deed) (w : Nat) (S : List Int → Prop) : Prop where
  c0 : ∀ t, (0, t) ∈ D → S (ap0 t w)
  c1 : ∀ t r, (1, t) ∈ D → S r → S (ap1 t r)
  c2 : ∀ t r s, (2, t) ∈ D → S r → S s → S (ap2 n t r s)
theorem Made.closed (n : Int) (D : List Deed) (R0 : List (List Int)) (w : Nat) : Closed n D w (Made n D R0 w) := ⟨fun t h => .d0 t h, fun t r h m => .d1 t r h m, fun t r s h m m' => .d2 t r s h m m'⟩
theorem Made.least {n : Int} {D : List Deed} {R0 : List (List Int)} {w : Nat} {S : List Int → Prop} (c : Closed n D w S) (g : ∀ r ∈ R0, S r) {r : List Int} (m : Made n D R0 w r) : S r := by
  induction m with
  | given r h => exact g r h
  | d0 t h => exact c.c0 t h
  | d1 t r h _ ih => exact c.c1 t r h ih
  | d2 t r s h _ _ ih1 ih2 => exact c.c2 t r s h ih1 ih2
theorem cell_in {n : Int} {m : Nat} {t : List Int} (h : Row n m t) {i : Int} (h0 : 0 ≤ i) (h1 : i < (m : Int)) : 0 ≤ cell t i ∧ cell t i < n := by
  have hl : i.toNat < t.length := by rw [h.1]; omega
  unfold cell
  rw [List.getD_eq_getElem?_getD, List.getElem?_eq_getElem hl]
  exact h.2 _ (List.getElem_mem hl)
theorem spot_in {n a b : Int} (ha : 0 ≤ a ∧ a < n) (hb : 0 ≤ b ∧ b < n) : 0 ≤ a * n + b ∧ a * n + b < n * n := by
  have h1 : 0 ≤ a * n := Int.mul_nonneg ha.1 (by omega)
  have h2 : (a + 1) * n ≤ n * n := Int.mul_le_mul_of_nonneg_right (by omega) (by omega)
  rw [Int.add_mul, Int.one_mul] at h2
  omega
theorem ap0_row {n : Int} {t : List Int} {w : Nat} (h : Row n 1 t) : Row n w (ap0 t w) := by
  refine ⟨List.length_replicate .., fun x hx => ?_⟩
  rw [List.eq_of_mem_replicate hx]
  exact cell_in h (Int.le_refl 0) (by decide)
theorem ap1_row {n : Int} {t r : List Int} {w m : Nat} (hm : (m : Int) = n) (h : Row n m t) (hr : Row n w r) : Row n w (ap1 t r) := by
  refine ⟨by unfold ap1; rw [List.length_map]; exact hr.1, fun x hx => ?_⟩
  obtain ⟨y, hy, rfl⟩ := List.mem_map.mp hx
  exact cell_in h (hr.2 y hy).1 (by rw [hm]; exact (hr.2 y hy).2)
theorem ap2_get {n : Int} {t r s : List Int} {i : Nat} : (ap2 n t r s)[i]? = match r[i]?, s[i]? with | some a, some b => some (cell t (a * n + b)) | _, _ => none := by
  unfold ap2
  rw [List.getElem?_zipWith]
  cases r[i]? <;> cases s[i]? <;> rfl
theorem ap2_row {n : Int} {t r s : List Int} {w m : Nat} (hm : (m : Int) = n * n) (h : Row n m t) (hr : Row n w r) (hs : Row n w s) : Row n w (ap2 n t r s) := by
  refine ⟨by unfold ap2; rw [List.length_zipWith, hr.1, hs.1, Nat.min_self], fun x hx => ?_⟩
  unfold ap2 at hx
  rw [← List.map_uncurry_zip_eq_zipWith] at hx
  obtain ⟨⟨a, b⟩, hp, rfl⟩ := List.mem_map.mp hx
  have ha := hr.2 a (List.of_mem_zip hp).1
  have hb := hs.2 b (List.of_mem_zip hp).2
  have q := spot_in ha hb
  exact cell_in h q.1 (by rw [hm]; exact q.2)
theorem made_row {n : Int} {D : List Deed} {R0 : List (List Int)} {w : Nat} (hn : 0 ≤ n) (hD : ∀ d ∈ D, ValidD n d) (h0 : ∀ r ∈ R0, Row n w r) {r : List Int} (m : Made n D R0 w r) : Row n w r := by
  have e : ((n.toNat : Nat) : Int) = n := Int.toNat_of_nonneg hn
  refine Made.least (S := Row n w) ⟨fun t h => ?_, fun t r h hr => ?_, fun t r s h hr hs => ?_⟩ h0 m
  · exact ap0_row (by have q := hD _ h; simpa [ValidD] using q)
  · exact ap1_row (m := n.toNat) e (by have q := hD _ h; simpa [ValidD] using q) hr
  · refine ap2_row (m := n.toNat ^ 2) ?_ (hD _ h) hr hs
    rw [Nat.pow_two, Int.natCast_mul, e]

/-! ### a row read at other places -/
def pull (φ : List Nat) (r : List Int) : List Int := φ.map fun k => r.getD k 0
theorem pull_replicate {φ : List Nat} {w : Nat} {c : Int} (h : ∀ k ∈ φ, k < w) : pull φ (List.replicate w c) = List.replicate φ.length c := by
  refine List.eq_replicate_iff.mpr ⟨by unfold pull; rw [List.length_map], fun b hb => ?_⟩
  obtain ⟨k, hk, rfl⟩ := List.mem_map.mp hb
  rw [List.getD_eq_getElem?_getD, List.getElem?_replicate, if_pos (h k hk)]
  rfl
theorem pull_ap1 {φ : List Nat} {w : Nat} {t r : List Int} (hr : r.length = w) (h : ∀ k ∈ φ, k < w) : pull φ (ap1 t r) = ap1 t (pull φ r) := by
  unfold pull ap1
  rw [List.map_map]
  refine List.map_congr_left fun k hk => ?_
  have hl : k < r.length := by rw [hr]; exact h k hk
  show (r.map (cell t)).getD k 0 = cell t (r.getD k 0)
  rw [List.getD_eq_getElem?_getD, List.getD_eq_getElem?_getD, List.getElem?_map, List.getElem?_eq_getElem hl]
  rfl
theorem pull_ap2 {φ : List Nat} {w : Nat} {n : Int} {t r s : List Int} (hr : r.length = w) (hs : s.length = w) (h : ∀ k ∈ φ, k < w) : pull φ (ap2 n t r s) = ap2 n t (pull φ r) (pull φ s) := by
  unfold pull
  refine List.ext_getElem? fun i => ?_
  rw [ap2_get, List.getElem?_map, List.getElem?_map, List.getElem?_map]
  cases e : φ[i]? with
  | none => rfl
  | some k =>
    have hk := h k (List.mem_of_getElem? e)
    have h1 : k < r.length := by rw [hr]; exact hk
    have h2 : k < s.length := by rw [hs]; exact hk
    show some ((ap2 n t r s).getD k 0) = some (cell t (r.getD k 0 * n + s.getD k 0))
    rw [List.getD_eq_getElem?_getD, List.getD_eq_getElem?_getD, List.getD_eq_getElem?_getD, ap2_get, List.getElem?_eq_getElem h1, List.getElem?_eq_getElem h2]
    rfl
/-- the main law: what is made, read at other places, lies in each closed set that has the givens read so -/
theorem made_pull {n : Int} {D : List Deed} {R0 : List (List Int)} {w w' : Nat} {S : List Int → Prop} {φ : List Nat} (hn : 0 ≤ n) (hD : ∀ d ∈ D, ValidD n d) (h0 : ∀ r ∈ R0, Row n w r) (hl : φ.length = w') (hφ : ∀ k ∈ φ, k < w)
    (c : Closed n D w' S) (g : ∀ r ∈ R0, S (pull φ r)) {r : List Int} (m : Made n D R0 w r) : S (pull φ r) := by
  induction m with
  | given r h => exact g r h
  | d0 t h =>
    unfold ap0
    rw [pull_replicate hφ, hl]
    exact c.c0 t h
  | d1 t r h m ih =>
    rw [pull_ap1 (made_row hn hD h0 m).1 hφ]
    exact c.c1 t _ h ih
  | d2 t r s h m m' ih1 ih2 =>
    rw [pull_ap2 (made_row hn hD h0 m).1 (made_row hn hD h0 m').1 hφ]
    exact c.c2 t _ _ h ih1 ih2

/-! ### argument rows -/
def upTo (n : Nat) : List Int := (List.range n).map fun (k : Nat) => (k : Int)
/-- of one place -/
def arg1 (n : Nat) : List Int := upTo n
/-- of two places -/
def argA (n : Nat) : List Int := (upTo (n * n)).map fun i => i / n
def argB (n : Nat) : List Int := (upTo (n * n)).map fun i => i % n
def args1 (n : Nat) : List (List Int) := [arg1 n]
def args2 (n : Nat) : List (List Int) := [argA n, argB n]
theorem ints_len (n : Nat) : (upTo n).length = n := by unfold upTo; rw [List.length_map, List.length_range]
theorem ints_get {n k : Nat} (h : k < n) : (upTo n)[k]? = some (k : Int) := by
  unfold upTo
  rw [List.getElem?_map, List.getElem?_range h]
  rfl
theorem mem_ints {n : Nat} {x : Int} (h : x ∈ upTo n) : 0 ≤ x ∧ x < n := by
  obtain ⟨k, hk, rfl⟩ := List.mem_map.mp h
  have := List.mem_range.mp hk
  omega
theorem arg1_row (n : Nat) : Row n n (arg1 n) := ⟨ints_len n, fun x hx => mem_ints hx⟩
theorem argA_row (n : Nat) : Row n (n * n) (argA n) := by
  refine ⟨by unfold argA; rw [List.length_map, ints_len], fun x hx => ?_⟩
  obtain ⟨i, hi, rfl⟩ := List.mem_map.mp hx
  have q := mem_ints hi
  have hn : (0 : Int) < n := by
    rcases Nat.eq_zero_or_pos n with e | e
    · subst e; simp at q; omega
    · omega
  refine ⟨Int.ediv_nonneg q.1 (by omega), Int.ediv_lt_of_lt_mul hn ?_⟩
  have := q.2
  rw [Int.natCast_mul] at this
  exact this
theorem argB_row (n : Nat) : Row n (n * n) (argB n) := by
  refine ⟨by unfold argB; rw [List.length_map, ints_len], fun x hx => ?_⟩
  obtain ⟨i, hi, rfl⟩ := List.mem_map.mp hx
  have q := mem_ints hi
  have hn : (0 : Int) < n := by
    rcases Nat.eq_zero_or_pos n with e | e
    · subst e; simp at q; omega
    · omega
  exact ⟨Int.emod_nonneg _ (by omega), Int.emod_lt_of_pos _ hn⟩
theorem args1_rows (n : Nat) : ∀ r ∈ args1 n, Row n n r := fun r h => by
  rw [List.mem_singleton.mp h]
  exact arg1_row n
theorem args2_rows (n : Nat) : ∀ r ∈ args2 n, Row n (n * n) r := fun r h => by
  rcases List.mem_cons.mp h with e | h
  · rw [e]; exact argA_row n
  · rw [List.mem_singleton.mp h]; exact argB_row n

/-! ### deeds put into one another -/
theorem pull_ap1_eq {t r : List Int} : pull (r.map Int.toNat) t = ap1 t r := by
  unfold pull ap1
  rw [List.map_map]
  rfl
theorem pull_ap2_eq {n : Int} {t r s : List Int} : pull (List.zipWith (fun a b => (a * n + b).toNat) r s) t = ap2 n t r s := by
  unfold pull ap2
  rw [List.map_zipWith]
  rfl
theorem getD_ints {n k : Nat} (h : k < n) : (upTo n).getD k 0 = (k : Int) := by
  rw [List.getD_eq_getElem?_getD, ints_get h]
  rfl
theorem getD_argA {n k : Nat} (h : k < n * n) : (argA n).getD k 0 = (k : Int) / n := by
  unfold argA
  rw [List.getD_eq_getElem?_getD, List.getElem?_map, ints_get h]
  rfl
theorem getD_argB {n k : Nat} (h : k < n * n) : (argB n).getD k 0 = (k : Int) % n := by
  unfold argB
  rw [List.getD_eq_getElem?_getD, List.getElem?_map, ints_get h]
  rfl
/-- a made deed of one place: a closed set of rows is closed under it -/
theorem put1 {n : Nat} {D : List Deed} {w : Nat} {S : List Int → Prop} (hD : ∀ d ∈ D, ValidD n d) (c : Closed n D w S) {t r : List Int} (ht : Made n D (args1 n) n t) (hr : Row n w r) (sr : S r) : S (ap1 t r) := by
  rw [← pull_ap1_eq]
  have hφ : ∀ k ∈ r.map Int.toNat, k < n := fun k hk => by
    obtain ⟨x, hx, rfl⟩ := List.mem_map.mp hk
    have := hr.2 x hx
    omega
  refine made_pull (w := n) (by omega) hD (args1_rows n) (by rw [List.length_map]; exact hr.1) hφ c (fun a ha => ?_) ht
  rw [List.mem_singleton.mp ha]
  have e : pull (r.map Int.toNat) (arg1 n) = r := by
    unfold pull
    rw [List.map_map]
    conv => rhs; rw [← List.map_id r]
    refine List.map_congr_left fun x hx => ?_
    have q := hr.2 x hx
    show (upTo n).getD x.toNat 0 = x
    rw [getD_ints (by omega)]
    omega
  rw [e]
  exact sr
theorem div_spot {n a b : Int} (hb : 0 ≤ b ∧ b < n) : (a * n + b) / n = a := by
  rw [Int.add_comm, Int.add_mul_ediv_right _ _ (by omega), Int.ediv_eq_zero_of_lt hb.1 hb.2, Int.zero_add]
theorem mod_spot {n a b : Int} (hb : 0 ≤ b ∧ b < n) : (a * n + b) % n = b := by
  rw [Int.add_comm, Int.add_mul_emod_self_right, Int.emod_eq_of_lt hb.1 hb.2]
/-- a made deed of two places -/
theorem put2 {n : Nat} {D : List Deed} {w : Nat} {S : List Int → Prop} (hD : ∀ d ∈ D, ValidD n d) (c : Closed n D w S) {t r s : List Int} (ht : Made n D (args2 n) (n * n) t) (hr : Row n w r) (hs : Row n w s) (sr : S r) (ss : S s) : S (ap2 n t r s) := by
  rw [← pull_ap2_eq]
  have hlen : (List.zipWith (fun a b => (a * (n : Int) + b).toNat) r s).length = w := by rw [List.length_zipWith, hr.1, hs.1, Nat.min_self]
  have at_ : ∀ {x y : Int}, x ∈ r → y ∈ s → (x * n + y).toNat < n * n ∧ (((x * n + y).toNat : Nat) : Int) = x * n + y := fun {x y} hx hy => by
    have q := spot_in (hr.2 x hx) (hs.2 y hy)
    refine ⟨?_, Int.toNat_of_nonneg q.1⟩
    have e : ((n * n : Nat) : Int) = (n : Int) * n := Int.natCast_mul n n
    omega
  have hφ : ∀ k ∈ List.zipWith (fun a b => (a * (n : Int) + b).toNat) r s, k < n * n := fun k hk => by
    rw [← List.map_uncurry_zip_eq_zipWith] at hk
    obtain ⟨⟨x, y⟩, hp, rfl⟩ := List.mem_map.mp hk
    exact (at_ (List.of_mem_zip hp).1 (List.of_mem_zip hp).2).1
  have look : ∀ (f : Int → Int → Int) (a : List Int), (∀ x ∈ r, ∀ y ∈ s, a.getD (x * n + y).toNat 0 = f x y) → pull (List.zipWith (fun a b => (a * (n : Int) + b).toNat) r s) a = List.zipWith f r s := fun f a h => by
    unfold pull
    rw [List.map_zipWith]
    refine List.ext_getElem? fun i => ?_
    rw [List.getElem?_zipWith, List.getElem?_zipWith]
    cases e1 : r[i]? with
    | none => rfl
    | some x =>
      cases e2 : s[i]? with
      | none => rfl
      | some y => exact congrArg some (h x (List.mem_of_getElem? e1) y (List.mem_of_getElem? e2))
  refine made_pull (w := n * n) (by omega) hD (args2_rows n) hlen hφ c (fun a ha => ?_) ht
  have hl : r.length = s.length := hr.1.trans hs.1.symm
  rcases List.mem_cons.mp ha with e | ha
  · subst e
    rw [look (fun x _ => x) _ fun x hx y hy => by
      obtain ⟨a1, a2⟩ := at_ hx hy
      rw [getD_argA a1, a2, div_spot (hs.2 y hy)]]
    have e : List.zipWith (fun x (_ : Int) => x) r s = r := by
      refine List.ext_getElem? fun i => ?_
      rw [List.getElem?_zipWith]
      cases e1 : r[i]? with
      | none => rfl
      | some x =>
        have h1 := (List.getElem?_eq_some_iff.mp e1).1
        rw [List.getElem?_eq_getElem (show i < s.length by omega)]
    rw [e]
    exact sr
  · rw [List.mem_singleton.mp ha]
    rw [look (fun _ y => y) _ fun x hx y hy => by
      obtain ⟨a1, a2⟩ := at_ hx hy
      rw [getD_argB a1, a2, mod_spot (hs.2 y hy)]]
    have e : List.zipWith (fun (_ : Int) y => y) r s = s := by
      refine List.ext_getElem? fun i => ?_
      rw [List.getElem?_zipWith]
      cases e1 : r[i]? with
      | none =>
        have h1 := List.getElem?_eq_none_iff.mp e1
        rw [List.getElem?_eq_none (show s.length ≤ i by omega)]
      | some x =>
        have h1 := (List.getElem?_eq_some_iff.mp e1).1
        rw [List.getElem?_eq_getElem (show i < s.length by omega)]
    rw [e]
    exact ss

/-! ### a house of some made deeds -/
/-- the deeds that are added are made: nothing more is made -/
theorem closed_more {n : Nat} {D : List Deed} {w : Nat} {R0 : List (List Int)} {one two : List Int} (hD : ∀ d ∈ D, ValidD n d) (h0 : ∀ r ∈ R0, Row n w r) (h1 : Made n D (args1 n) n one) (h2 : Made n D (args2 n) (n * n) two) :
    Closed n [(1, one), (2, two)] w (Made n D R0 w) := by
  have row : ∀ {r}, Made n D R0 w r → Row n w r := fun m => made_row (by omega) hD h0 m
  refine ⟨fun t h => ?_, fun t r h m => ?_, fun t r s h m m' => ?_⟩
  · simp at h
  · have e : t = one := by simpa using h
    subst e
    exact put1 hD (Made.closed n D R0 w) h1 (row m) m
  · have e : t = two := by simpa using h
    subst e
    exact put2 hD (Made.closed n D R0 w) h2 (row m) (row m') m m'
theorem lesser {n : Nat} {D : List Deed} {w : Nat} {R0 : List (List Int)} {one two : List Int} (hD : ∀ d ∈ D, ValidD n d) (h0 : ∀ r ∈ R0, Row n w r) (h1 : Made n D (args1 n) n one) (h2 : Made n D (args2 n) (n * n) two)
    {r : List Int} (m : Made n [(1, one), (2, two)] R0 w r) : Made n D R0 w r := Made.least (closed_more hD h0 h1 h2) (fun r h => .given r h) m
theorem wider {n : Nat} {D : List Deed} {w : Nat} {R0 : List (List Int)} {one two : List Int} (hD : ∀ d ∈ D, ValidD n d) (h0 : ∀ r ∈ R0, Row n w r) (h1 : Made n D (args1 n) n one) (h2 : Made n D (args2 n) (n * n) two)
    (r : List Int) : Made n (D ++ [(1, one), (2, two)]) R0 w r ↔ Made n D R0 w r := by
  constructor
  · intro m
    have c := closed_more (R0 := R0) hD h0 h1 h2
    refine Made.least ⟨fun t h => ?_, fun t r h q => ?_, fun t r s h q q' => ?_⟩ (fun r h => .given r h) m
    · rcases List.mem_append.mp h with h | h
      · exact .d0 t h
      · exact c.c0 t h
    · rcases List.mem_append.mp h with h | h
      · exact .d1 t r h q
      · exact c.c1 t r h q
    · rcases List.mem_append.mp h with h | h
      · exact .d2 t r s h q q'
      · exact c.c2 t r s h q q'
  · intro m
    exact Made.least ⟨fun t h => .d0 t (List.mem_append_left _ h), fun t r h q => .d1 t r (List.mem_append_left _ h) q, fun t r s h q q' => .d2 t r s (List.mem_append_left _ h) q q'⟩ (fun r h => .given r h) m
end K26

set_option Elab.async false
set_option linter.all false
set_option maxRecDepth 100000
set_option maxHeartbeats 4000000
/-! # Rules of my own -/
namespace K26
open PySem PySem.Spec PyProof.Rows L2
section
variable {X : Cx}

/-! ### t * 1 is t itself -/
theorem tupleMulOne (l : Addr) (items : Array Value) (n : Nat) (sl : Array (Option Value)) (dd : Option Addr) (u : Tok) :
    Meets (Builtin.«tuple.__mul__» ⟨[.ref l, .int 1 u], []⟩) (fun _ R s => s.heap.get? l = some { cls := .type "tuple", dict := dd, data := .seq items n, slots := sl } ∧
      R (.ok (.ret (Value.ref l))) s) :=
  .of_wp fun prog w A R s h => by
    obtain ⟨hp, g, d, tk, os⟩ := s
    obtain ⟨hl, h⟩ := h
    have f1 := AutoSeq1.idx_int
    wp_walk using wpAny_loadPart' hl
    exact ⟨_, rfl, h⟩
def rRepT1 (K : PySem.W.Frag) : R2 := fun x y H Q => ∃ l xs, x = .ref l ∧ y = .int 1 ∧ SqT K H l xs ∧ Q (.ref l) H
theorem op_repT1 : OpR X (binaryOp .Mult) (rRepT1 X.K) := by
  intro pins s σ H x y v u Q I rx ry h
  obtain ⟨l, xs, rfl, rfl, hT, q⟩ := h
  cases rx
  obtain ⟨t, rfl⟩ := ry
  obtain ⟨its, r, ⟨⟨cls, dd, data, sl⟩, ho, hc, n, hd⟩, hs⟩ := I.tuple hT
  simp only at hc hd
  subst hc hd
  exact wpAny_binaryOp_repeat_ref (U := "int") (T := "tuple") (by decide) ⟨_, ho, rfl⟩ (fun s' => typeIs_int s' 1 t) noFill_tuple_mul F.fills_int_mul F.slot_int_rmul repeat_tuple F.slot_int_index.lookup
    (call_meets F.slot_int_rmul (typeIs_int s 1 t) F.entry_int_rmul (F.args_int_rmul_2 _ _) (int_rmul_tuple 1 t l its.toArray n dd sl)
      ⟨ho, rfl, ⟨_, ho, rfl⟩, call_meets F.slot_tuple_mul ⟨_, ho, rfl⟩ F.entry_tuple_mul (F.args_tuple_mul_2 _ _) (tupleMulOne l its.toArray n sl dd t) ⟨ho, .ref l, H, I, rfl, q⟩⟩)
/-- (c,) * k, 1 <= k <= 1000 -/
def rRepC (K : PySem.W.Frag) : R2 := fun x y H Q => ∃ l k c, x = .ref l ∧ y = .int k ∧ SqT K H l [c] ∧ 1 ≤ k ∧ k ≤ 1000 ∧ (k = 1 → Q (.ref l) H) ∧ ∀ p, H p = none → Q (.ref p) (upd H p (.tup (List.replicate k.toNat c)))
theorem flat_one (c : V) : ∀ m : Nat, (List.replicate m [c]).flatten = List.replicate m c
  | 0 => rfl
  | m + 1 => by
    rw [List.replicate_succ, List.flatten_cons, flat_one c m]
    rfl
theorem op_repC : OpR X (binaryOp .Mult) (rRepC X.K) := by
  intro pins s σ H x y v u Q I rx ry h
  obtain ⟨l, k, c, rfl, rfl, hT, h1, h2, q1, q⟩ := h
  by_cases e : k = 1
  · subst e
    exact op_repT1 pins s σ H _ _ v u Q I rx ry ⟨l, _, rfl, rfl, hT, q1 rfl⟩
  · exact op_repT pins s σ H _ _ v u Q I rx ry ⟨l, k, _, rfl, rfl, hT, by simp, by omega, h2, by simp, fun p hp => by rw [flat_one]; exact q p hp⟩

/-! ### xs + ys of lists that are read -/
def rCatS (K : PySem.W.Frag) : R2 := fun x y H Q => ∃ l b xs zs, x = .ref l ∧ y = .ref b ∧ SqL K H l xs ∧ SqL K H b zs ∧ xs.length + zs.length ≤ sizeLine ∧ ∀ p, H p = none → Q (.ref p) (upd H p (.lst (xs ++ zs)))
theorem op_catS : OpR X (binaryOp .Add) (rCatS X.K) := by
  intro pins s σ H x y v u Q I rx ry h
  obtain ⟨l, b, xs, zs, rfl, rfl, hx, hz, hl, q⟩ := h
  cases rx
  cases ry
  obtain ⟨its, r, ⟨⟨cls, dd, data, sl⟩, n, ho, hc, _, hd⟩, _⟩ := I.list hx
  obtain ⟨its2, r2, ⟨⟨cls2, dd2, data2, sl2⟩, n2, ho2, hc2, _, hd2⟩, _⟩ := I.list hz
  simp only at hc hd hc2 hd2
  subst hc hd hc2 hd2
  have e1 := r.length
  have e2 := r2.length
  refine concat_meets ⟨_, ho, rfl⟩ ⟨_, ho2, rfl⟩ noFill_list_add seq_list_add PySem.F.slot_list_add PySem.F.entry_list_add (PySem.F.args_list_add_2 _ _)
    (list_addW l b its.toArray its2.toArray n n2 dd dd2 sl sl2 (by rw [List.size_toArray, List.size_toArray]; omega)) ⟨ho, ho2, ?_⟩
  rw [show its.toArray ++ its2.toArray = (its ++ its2).toArray from by simp]
  exact ⟨.ref _, _, I.lnew (t' := s.toks) (r.append r2) (by rw [List.length_append]; exact hl), rfl, q _ I.fresh⟩

/-! ### sum, min, max of a tuple of ints: some int; one of them -/
def rSumT (K : PySem.W.Frag) : List V → Hp → VK → Prop := fun vs H Q => ∃ (a : Addr) (ns : List Int), vs = [V.ref a] ∧ SqT K H a (ns.map V.int) ∧ ∀ z : Int, Q (.int z) H
def rPickT (K : PySem.W.Frag) : List V → Hp → VK → Prop := fun vs H Q => ∃ (a : Addr) (ns : List Int), vs = [V.ref a] ∧ SqT K H a (ns.map V.int) ∧ 0 < ns.length ∧ ∀ m, m ∈ ns → Q (.int m) H
section
variable {A : Around} {P0 : Program} {w0 : World} {E : Value → Shared → Prop} {s : Shared} {l : Addr} {xs : Array (Int × Tok)}
theorem iterTupInts {Q : Value → Shared → Prop} (hl : s.heap.IsTuple l (intItems xs))
    (h : ∀ s2 : Shared, s2 = { s with heap := s.heap.push { cls := .type "tuple_iterator", data := .fields #[.ref l, .int 0 0] } } → (s2.heap.IsTupleIter s.heap.objs.size l 0 ∧ s2.heap.IsTuple l (intItems xs)) →
      (∀ b ∈ [s.heap.objs.size, l], b < s2.heap.objs.size) → l ≠ s.heap.objs.size → (∀ b o, s.heap.get? b = some o → s2.heap.get? b = some o) → Q (.ref s.heap.objs.size) s2) :
    wpAny (model P0 w0) A (pyIter (.ref l)) Q E s := by
  have hlt : l < s.heap.objs.size := by
    obtain ⟨_, e, _⟩ := hl
    exact Heap.lt_size e
  refine wpAny_pyIter_tuple hl (h _ rfl ⟨⟨_, Heap.get?_push_size _ rfl, rfl, rfl⟩, hl.push _⟩ (fun b hb => ?_) (Nat.ne_of_lt hlt) fun b o e => Heap.get?_push_of_some _ e)
  show b < (s.heap.push _).objs.size
  rw [Heap.size_push]
  have hb' : b = s.heap.objs.size ∨ b = l := by simpa using hb
  rcases hb' with e | e
  · rw [e]; exact Nat.lt_succ_self _
  · rw [e]; exact Nat.lt_succ_of_lt hlt
theorem sumTup {Q : Value → Shared → Prop} (hh : A.handled = none) (hl : s.heap.IsTuple l (intItems xs))
    (h : ∀ z h' tk t', (∀ b o, s.heap.get? b = some o → h'.get? b = some o) → Q (.int z t') { s with heap := h', toks := tk }) : wpAny (model P0 w0) A (call (.builtin "sum") [.ref l]) Q E s := by
  refine call_sum_walkG (iterTupInts hl fun s2 e st hfp hne hk0 => ?_)
  subst e
  refine ⟨_, _, _, _, _, _, numAt xs, rfl, Walks.tuple (A := A.in1) hh _ l hne (intItems xs), st, hfp, (fun _ _ => intItems_at), fun h' tk t' hk => ?_⟩
  refine h _ h' tk t' fun b o e => hk b o (fun hm => ?_) (hk0 b o e)
  have e1 : b = s.heap.objs.size := by simpa using hm
  rw [e1] at e
  exact absurd (Heap.lt_size e) (Nat.lt_irrefl _)
theorem maxTup {Q : Value → Shared → Prop} (hh : A.handled = none) (hl : s.heap.IsTuple l (intItems xs)) (hne : 0 < xs.size)
    (h : ∀ (i : Nat) v h' tk, (intItems xs)[i]? = some v → (∀ b o, s.heap.get? b = some o → h'.get? b = some o) → Q v { s with heap := h', toks := tk }) : wpAny (model P0 w0) A (call (.builtin "max") [.ref l]) Q E s := by
  refine call_max_walk (iterTupInts hl fun s2 e st hfp hne2 hk0 => ?_)
  subst e
  refine ⟨_, _, _, _, _, _, _, rfl, Walks.tuple (A := A.in1) hh _ l hne2 (intItems xs), st, hfp, by simpa [intItems] using hne, CmpOf.ints_gt (numAt xs) (fun _ _ => intItems_at), fun v h' tk hP hk => ?_⟩
  refine h _ v h' tk hP fun b o e => hk b o (fun hm => ?_) (hk0 b o e)
  have e1 : b = s.heap.objs.size := by simpa using hm
  rw [e1] at e
  exact absurd (Heap.lt_size e) (Nat.lt_irrefl _)
theorem minTup {Q : Value → Shared → Prop} (hh : A.handled = none) (hl : s.heap.IsTuple l (intItems xs)) (hne : 0 < xs.size)
    (h : ∀ (i : Nat) v h' tk, (intItems xs)[i]? = some v → (∀ b o, s.heap.get? b = some o → h'.get? b = some o) → Q v { s with heap := h', toks := tk }) : wpAny (model P0 w0) A (call (.builtin "min") [.ref l]) Q E s := by
  refine call_min_walk (iterTupInts hl fun s2 e st hfp hne2 hk0 => ?_)
  subst e
  refine ⟨_, _, _, _, _, _, _, rfl, Walks.tuple (A := A.in1) hh _ l hne2 (intItems xs), st, hfp, by simpa [intItems] using hne, CmpOf.ints_lt (numAt xs) (fun _ _ => intItems_at), fun v h' tk hP hk => ?_⟩
  refine h _ v h' tk hP fun b o e => hk b o (fun hm => ?_) (hk0 b o e)
  have e1 : b = s.heap.objs.size := by simpa using hm
  rw [e1] at e
  exact absurd (Heap.lt_size e) (Nat.lt_irrefl _)
end
theorem tupInts {pins : List (Addr × Obj)} {σ : L2.St} {H : Hp} {s : Shared} {a : Addr} {ns : List Int} (I : Inv X pins σ H s) (h : SqT X.K H a (ns.map V.int)) :
    ∃ xs : Array (Int × Tok), s.heap.IsTuple a (intItems xs) ∧ xs.size = ns.length ∧ ∀ (i : Nat) (v : Value), (intItems xs)[i]? = some v → ∃ m t, m ∈ ns ∧ v = Value.int m t := by
  obtain ⟨its, rv, ⟨o, ho, hc, n, hd⟩, _⟩ := I.tuple h
  have hi := rv.ints
  obtain ⟨xs, e⟩ := hi.allInts.items
  have hn : numsOf (intItems xs).toList = ns := by rw [← e]; exact hi.numsOf
  rw [nums_intItems] at hn
  rw [e] at hd
  refine ⟨xs, ⟨o, ho, hc, n, hd⟩, by rw [← hn, List.length_map, Array.length_toList], fun i v hv => ?_⟩
  obtain ⟨t, rfl⟩ := intItems_at hv
  refine ⟨numAt xs i, t, ?_, rfl⟩
  have hlt : i < xs.size := by
    have := (Array.getElem?_eq_some_iff.mp hv).1
    simpa [intItems] using this
  rw [← hn, numAt_eq]
  exact PySem.getD_mem (by rw [List.length_map, Array.length_toList]; exact hlt)
theorem cr_sumT (hc : X.calm = true) : CallR X (.builtin "sum") (rSumT X.K) := by
  intro pins s σ H vs us Q I r h
  obtain ⟨a, ns, rfl, hs, q⟩ := h
  obtain ⟨xs, ht, _, _⟩ := tupInts I hs
  rw [Vals.ref1 r]
  exact sumTup (I.ok.hd hc) ht fun z h' tk t' hk => ⟨.int z, H, I.kept hk, ⟨_, rfl⟩, q z⟩
theorem cr_maxT (hc : X.calm = true) : CallR X (.builtin "max") (rPickT X.K) := by
  intro pins s σ H vs us Q I r h
  obtain ⟨a, ns, rfl, hs, hne, q⟩ := h
  obtain ⟨xs, ht, hz, hm⟩ := tupInts I hs
  rw [Vals.ref1 r]
  refine maxTup (I.ok.hd hc) ht (by omega) fun i v h' tk hv hk => ?_
  obtain ⟨m, t, h1, rfl⟩ := hm i v hv
  exact ⟨.int m, H, I.kept hk, ⟨_, rfl⟩, q m h1⟩
theorem cr_minT (hc : X.calm = true) : CallR X (.builtin "min") (rPickT X.K) := by
  intro pins s σ H vs us Q I r h
  obtain ⟨a, ns, rfl, hs, hne, q⟩ := h
  obtain ⟨xs, ht, hz, hm⟩ := tupInts I hs
  rw [Vals.ref1 r]
  refine minTup (I.ok.hd hc) ht (by omega) fun i v h' tk hv hk => ?_
  obtain ⟨m, t, h1, rfl⟩ := hm i v hv
  exact ⟨.int m, H, I.kept hk, ⟨_, rfl⟩, q m h1⟩

/-! ### list(d.values()) -/
def rValsL : V → Hp → VK → Prop := fun x H Q => ∃ (d : Addr) (kvs : List (Key × V)), x = .ref d ∧ H d = some (.dK kvs) ∧ ∀ p, H p = none → Q (.ref p) (upd H p (.lst (kvs.map (·.2))))
def tListVals (te : TE) : TE := fun σ H Q => te σ H fun x H1 => rValsL x H1 Q
theorem vals_at : ∀ {kvs : List (Key × V)} {vs : List (Key × Value)}, KV kvs vs → Vals (kvs.map (·.2)) (vs.map (·.2))
  | _, _, .nil => .nil
  | _, _, .cons r t => .cons r.2 (vals_at t)
theorem pe_listVals {e : Expr} {te : TE} {p apos cpos pos : Pos} (hc : X.calm = true) (he : PE X e te) (hg : Gl X "list") (hm : X.mg "list" = none) (hv : bootBuiltins "list" = some (.type "list"))
    (hbase : attributeBase e "values" X.env (eval e X.env) = eval e X.env := by rfl) (hline : (apos.endLine == cpos.line) = true := by rfl)
    (hs : starEach [.Call (.Attribute e "values" apos) [] [] cpos] X.env = (false, eval (.Call (.Attribute e "values" apos) [] [] cpos) X.env) :: starEach [] X.env := by rfl) :
    PE X (.Call (.Name "list" p) [.Call (.Attribute e "values" apos) [] [] cpos] [] pos) (tListVals te) := by
  refine ⟨fun pins s σ H Q I hq => wpAny_Call_Name_kw (ld_blt I hg hm hv (PyProof.Rows.callWith_type1 ?_ hs rfl))⟩
  rw [hs]
  show wpAny _ _ (spliced ((false, eval (.Call (.Attribute e "values" apos) [] [] cpos) X.env) :: backTo pos (starEach [] X.env))) _ _ s
  refine Calls.spliced_cons (wpAny_Call_method (id := "dict.values") (T := "dict") hbase rfl hline F.plainAttrs_dict F.slot_dict_values F.type_dict_values (thn (he.run pins s σ H _ I hq) fun u s1 hx => ?_))
  obtain ⟨x, H1, I1, rx, d, kvs, ex, hd, q⟩ := hx
  subst ex
  obtain rfl : u = Value.ref d := rx
  obtain ⟨hz, hs0, vs, kv, hdo⟩ := I1.hok d _ hd
  obtain ⟨ep, hat⟩ := hdo.dictAt
  have lk : kvs.length = vs.length := Paired.length kv
  refine ⟨hdo.typeIs, hdo.mapOf.noDict, ?_⟩
  show wpAny _ _ (callWith cpos (.builtin "dict.values") [.ref d] [] []) _ X.xe s1
  refine method_meetsIn F.slot_dict_values F.entry_dict_values rfl (PySem.evalArgs_none ⟨rfl, hdo.typeIs, F.args_dict_values_1 _, _, meets_dict_values (mixKind X.prog X.w) d hs0, ⟨vs, hdo⟩, ?_⟩)
  refine Calls.spliced_nil ?_
  have I2 : Inv X pins σ H1 { s1 with heap := s1.heap.push { cls := .type "dict_values", data := .fields #[.ref d] } } := I1.kept (t' := s1.toks) fun b ob y => Heap.get?_push_of_some _ y
  refine PySem.W.kdl_call (PySem.W.kdl_values (knd := mixKind X.prog X.w) (r := s1.heap.objs.size) (d := d) (kvs := vs) (ep := ep)) (I1.ok.hd hc) ⟨⟨_, Heap.get?_push_size _ rfl, rfl, rfl⟩, hat.push _⟩ (by omega) fun h' tk acc c' hk hD hacc => ?_
  have hv2 : acc.toList = vs.map (·.2) := PySem.W.kdl_vals_eq acc.toList (by rw [Array.length_toList]; exact hacc.1) fun j v e => hacc.2 j v (by rw [← Array.getElem?_toList]; exact e)
  refine ⟨V.ref (s1.heap.push { cls := .type "dict_values", data := .fields #[.ref d] }).objs.size, upd H1 _ (.lst (kvs.map (·.2))), I2.laid (t' := tk) hk (Nat.le_refl _) ⟨by rw [List.length_map]; exact hz, acc.toList, c', by rw [hv2]; exact vals_at kv, by rw [Array.toArray_toList]; exact hD⟩, rfl, q _ (I2.hok.fresh (Nat.le_refl _))⟩

/-! ### dict([(k, v), ..]), the keys tuples, all unlike -/
def rDictT (K : PySem.W.Frag) : List V → Hp → VK → Prop := fun vs H Q => ∃ (a : Addr) (L : List (Addr × List Key × Addr × V)), vs = [V.ref a] ∧ SqL K H a (L.map fun q => V.ref q.1) ∧
  (∀ q ∈ L, H q.1 = some (.tup [.ref q.2.2.1, q.2.2.2]) ∧ H q.2.2.1 = some (.tup (q.2.1.map kV))) ∧ (L.map (·.2.1)).Nodup ∧ ∀ p, H p = none → Q (.ref p) (upd H p (.dT (L.map fun q => (q.2.1, q.2.2.2))))
theorem pairs_at {pins : List (Addr × Obj)} {σ : L2.St} {H : Hp} {s : Shared} (I : Inv X pins σ H s) : ∀ {L : List (Addr × List Key × Addr × V)}, (∀ q ∈ L, H q.1 = some (.tup [.ref q.2.2.1, q.2.2.2]) ∧ H q.2.2.1 = some (.tup (q.2.1.map kV))) →
    ∃ ws : List Value, Paired (fun q w => RelV q.2.2.2 w ∧ PairAt s.heap q.1 (.ref q.2.2.1) w) L ws
  | [], _ => ⟨[], .nil⟩
  | q :: L, h => by
    obtain ⟨ws, r⟩ := pairs_at I (L := L) fun q hq => h q (List.mem_cons_of_mem _ hq)
    obtain ⟨h1, _⟩ := h q List.mem_cons_self
    obtain ⟨_, its, rv, ⟨o, e1, e2, n, e3⟩⟩ := I.hok q.1 _ h1
    cases rv with
    | cons ra rt =>
      cases rt with
      | cons rb rn =>
        cases rn
        rename_i u v
        obtain rfl : u = Value.ref q.2.2.1 := ra
        exact ⟨v :: ws, .cons ⟨rb, .inl ⟨o, e1, e2, n, e3⟩⟩ r⟩
theorem paired_get {α β : Type} {F : α → β → Prop} : ∀ {xs : List α} {ys : List β}, Paired F xs ys → ∀ {i : Nat} {x : α} {y : β}, xs[i]? = some x → ys[i]? = some y → F x y
  | _, _, .nil, i, x, y, h, _ => by simp at h
  | _, _, .cons r t, 0, x, y, h, h' => by
    have e := Option.some.inj h
    have e' := Option.some.inj h'
    subst e e'
    exact r
  | _, _, .cons r t, i + 1, x, y, h, h' => paired_get t (i := i) h h'
def trip (L : List (Addr × List Key × Addr × V)) (ws : List Value) : List (List Key × Addr × Value) := List.zipWith (fun q w => (q.2.1, q.2.2.1, w)) L ws
theorem trip_keys : ∀ {L : List (Addr × List Key × Addr × V)} {ws : List Value}, L.length = ws.length → (trip L ws).map (·.1) = L.map (·.2.1)
  | [], [], _ => rfl
  | q :: L, w :: ws, h => by
    have ih := trip_keys (L := L) (ws := ws) (by simpa using h)
    show q.2.1 :: (trip L ws).map (·.1) = q.2.1 :: L.map (·.2.1)
    rw [ih]
  | [], _ :: _, h => by simp at h
  | _ :: _, [], h => by simp at h
theorem trip_rel {H H' : Hp} {h : Heap} (kp : ∀ b o, H b = some o → H' b = some o) : ∀ {L : List (Addr × List Key × Addr × V)} {ws : List Value}, (∀ q ∈ L, H q.2.2.1 = some (.tup (q.2.1.map kV))) → Paired (fun q w => RelV q.2.2.2 w ∧ PairAt h q.1 (.ref q.2.2.1) w) L ws →
    Paired (fun (p : List Key × V) (q : List Key × Addr × Value) => p.1 = q.1 ∧ H' q.2.1 = some (.tup (p.1.map kV)) ∧ RelV p.2 q.2.2) (L.map fun q => (q.2.1, q.2.2.2)) (trip L ws)
  | _, _, _, .nil => .nil
  | _, _, hh, .cons r t => .cons ⟨rfl, kp _ _ (hh _ List.mem_cons_self), r.1⟩ (trip_rel kp (fun q hq => hh q (List.mem_cons_of_mem _ hq)) t)
theorem call_dictT (hc : X.calm = true) (hu : X.A.units + 8 < cLine) : CallR X (.type "dict") (rDictT X.K) := by
  intro pins s σ H vs us Q I r h
  obtain ⟨a, L, rfl, hs, hL, hn, q⟩ := h
  obtain ⟨its, rv, ⟨o, n, ho, hcl, hdn, hdt⟩, hz⟩ := I.list hs
  rw [Vals.ref1 r]
  obtain ⟨ws, hp⟩ := pairs_at I hL
  have l1 : L.length = ws.length := Paired.length hp
  have l2 : its.length = L.length := by rw [← rv.length, List.length_map]
  rw [List.length_map] at hz
  have lt : (trip L ws).length = L.length := by unfold trip; rw [List.length_zipWith, l1, Nat.min_self]
  have key : ∀ q ∈ L, (tupleKind (mixKind X.prog X.w)).is s.heap q.2.1 q.2.2.1 := fun q hq => key_of I.hok (hL q hq).2
  have mem3 : ∀ x ∈ trip L ws, ∃ q ∈ L, x.1 = q.2.1 ∧ x.2.1 = q.2.2.1 := fun x hx => by
    unfold trip at hx
    rw [← List.map_uncurry_zip_eq_zipWith] at hx
    obtain ⟨⟨q, w⟩, hm, rfl⟩ := List.mem_map.mp hx
    exact ⟨q, (List.of_mem_zip hm).1, rfl, rfl⟩
  have ei : its = (L.map (·.1)).map Value.ref := refs_at (by rw [List.map_map]; exact rv)
  have lz : (List.zipWith (fun (q : Addr × List Key × Addr × V) (w : Value) => (Value.ref q.2.2.1, w)) L ws).length = L.length := by rw [List.length_zipWith, l1, Nat.min_self]
  have split : ∀ {i : Nat} {k v : Value}, (List.zipWith (fun (q : Addr × List Key × Addr × V) (w : Value) => (Value.ref q.2.2.1, w)) L ws)[i]? = some (k, v) → ∃ q, L[i]? = some q ∧ ws[i]? = some v ∧ k = Value.ref q.2.2.1 := fun {i k v} e => by
    rw [List.getElem?_zipWith] at e
    cases e1 : L[i]? with
    | none => rw [e1] at e; cases e
    | some q =>
      cases e2 : ws[i]? with
      | none => rw [e1, e2] at e; cases e
      | some w =>
        rw [e1, e2] at e
        have e3 := Option.some.inj e
        cases e3
        exact ⟨q, rfl, rfl, rfl⟩
  have ok : PlainSeq "list" s.heap a its.toArray ∧ PairItems s.heap its.toArray (fun j => ((L[j]?).map (·.1)).getD 0) (List.zipWith (fun (q : Addr × List Key × Addr × V) (w : Value) => (Value.ref q.2.2.1, w)) L ws) := by
    refine ⟨⟨o, n, ho, hcl, hdn, hdt⟩, by rw [List.size_toArray, l2, lz], fun j k v e => ?_⟩
    obtain ⟨q, e1, e2, rfl⟩ := split e
    have e4 : ((L[j]?).map (·.1)).getD 0 = q.1 := by rw [e1]; rfl
    dsimp only
    rw [e4]
    refine ⟨?_, (paired_get hp e1 e2).2⟩
    rw [ei]
    simp [e1]
  refine PySem.call_dict_pairsH (knd := tupleKind (mixKind X.prog X.w)) (ps := trip L ws) (PairArg.list a its.toArray _ _) (I.ok.hd hc) (tupleKind_room_in1 (A := X.A.in1) (show X.A.units + 1 + 1 < cLine by omega)) ok
    ⟨by rw [lt, lz], fun i k v e => ?_⟩ (fun h' hk x hx => ?_) (by rw [lz]; exact hz) fun h' tk hd' hk => ?_
  · obtain ⟨q, e1, e2, rfl⟩ := split e
    refine ⟨q.2.1, q.2.2.1, ?_, rfl⟩
    unfold trip
    rw [List.getElem?_zipWith, e1, e2]
  · obtain ⟨q, hq, e1, e2⟩ := mem3 x hx
    rw [e1, e2]
    exact tupleKind_stays.stays (fun b o2 _ _ e3 _ => hk b o2 (Nat.ne_of_lt (Heap.lt_size e3)) (by simp) e3) (key q hq)
  · rw [storedAllH_nil_of_nodup _ (by rw [trip_keys l1]; exact hn)] at hd'
    have hm : (s.heap.objs.size == sysModules) = false := beq_eq_false_iff_ne.mpr (Nat.ne_of_gt I.big)
    have kp : ∀ b o, s.heap.get? b = some o → h'.get? b = some o := fun b o e => hk b o (by simp) e
    have hnew : H s.heap.objs.size = none := I.hok.fresh (Nat.le_refl _)
    obtain ⟨od, es, ep, f1, f2, f3, f4, _, f5⟩ := hd'
    exact ⟨.ref s.heap.objs.size, upd H s.heap.objs.size (.dT (L.map fun q => (q.2.1, q.2.2.2))), I.laid (t' := tk) kp (Nat.le_refl _)
      (show ObjOk X.prog X.w _ _ _ (.dT (L.map fun q => (q.2.1, q.2.2.2))) from ⟨by rw [List.length_map]; exact hz, hm, trip L ws, trip_rel (fun b u e => by rw [upd_ne (ne_of_none e hnew)]; exact e) (fun q hq => (hL q hq).2) hp, od, es, ep, f1, f2, f3, f4, f5⟩), rfl, q _ hnew⟩

/-! ### W.__init__(self, ..), W an own class over ValueError without an __init__ of its own -/
structure BaseIni (K : PySem.W.Frag) (W : Addr) : Prop where
  ga : PySem.W.specialIn K (.ref W) "__getattribute__" = some (some (.builtin "type.__getattribute__"))
  rd : PySem.W.readsIn K W (.type "type") = true
  ini : PySem.W.findCls K (.ref W) (.type "type") "__init__" = some (.val (.builtin "ValueError.__init__"))
theorem pe_baseIni {pl : Sem Bool} {x : Str} {W : Addr} {e : Expr} {es : List Expr} {ta : TA} {p1 p2 pos : Pos} (B : BaseIni X.K W) (hg : Gl X x) (hm : X.mg x = some (.ref W)) (ha : PA X (e :: es) ta)
    (hdb : (x == ("__debug__" : Str)) = false := by decide)
    (hc : eval (.Call (.Attribute (.Name x p1) "__init__" p2) (e :: es) [] pos) X.env = (eval (.Name x p1) X.env >>= fun ov => standAt p2.atName >>= fun _ => holding [ov] (getMethod ov "__init__" pl) >>= fun z =>
      callWith pos z.1 z.2 (backTo pos (starEach (e :: es) X.env)) (backToKw pos (keywordEach [] X.env))) := by rfl)
    (he : starEach (e :: es) X.env = (false, eval e X.env) :: starEach es X.env := by rfl) (hpl : (backTo pos (starEach es X.env)).any (·.1) = false := by rfl) :
    PE X (.Call (.Attribute (.Name x p1) "__init__" p2) (e :: es) [] pos) (tVeI X.K ta) := by
  refine ⟨fun pins s σ H Q I h => PySem.W.methodCall_KW (ld_glob I hg hm ?_ hdb) hc⟩
  refine PySem.W.method_cls I.kIn B.ga (PySem.W.cls_value I.kIn B.rd B.ini (by decide +kernel) ?_)
  show wpAny _ _ (callWith pos (Value.builtin "ValueError.__init__") [] (backTo pos (starEach (e :: es) X.env)) []) _ _ _
  refine PyProof.Rows.callWith_method1 (thn (ha.run pos pins _ σ H _ (I.tok _) h) fun us s1 hx => ?_) he hpl
  obtain ⟨vs, H1, I1, r1, a, C, ws, ev, hl, T, ea, q⟩ := hx
  subst ev
  cases r1 with
  | @cons _ u0 _ ur ra rw' =>
    obtain rfl : u0 = Value.ref a := ra
    exact oinit_ok T I1 ea (by rw [← Paired.length rw', sizeLine_eq]; omega) fun s' J => ⟨.non, H1, J, rfl, q⟩

/-! ### tuples glued, repeated: some tuple, all else as it was -/
theorem same_new {H : Hp} {p : Addr} {o : HO} (h : H p = none) : Same H (upd H p o) := fun b u e => by
  rw [upd_ne (ne_of_none e h)]
  exact e
theorem same_put {H H' : Hp} {p : Addr} {o : HO} (h : H p = none) (s : Same H H') : Same H (upd H' p o) := fun b u e => by
  rw [upd_ne (ne_of_none e h)]
  exact s b u e
def rCatU : R2 := fun x y H Q => ∃ a b xs ys, x = .ref a ∧ y = .ref b ∧ H a = some (.tup xs) ∧ H b = some (.tup ys) ∧ xs.length + ys.length ≤ sizeLine ∧ ∀ c H', Same H H' → H' c = some (.tup (xs ++ ys)) → Q (.ref c) H'
theorem op_catU : OpR X (binaryOp .Add) rCatU := by
  intro pins s σ H x y v u Q I rx ry h
  obtain ⟨a, b, xs, ys, rfl, rfl, ha, hb, hl, q⟩ := h
  exact op_catA pins s σ H _ _ v u Q I rx ry ⟨a, b, xs, ys, rfl, rfl, SqT.of ha, SqT.of hb, hl, fun e => q b H (Same.refl H) (by rw [e]; exact hb), fun _ e => q a H (Same.refl H) (by rw [e, List.append_nil]; exact ha), fun _ _ p hp => q p _ (same_new hp) upd_same⟩
def rRepU : R2 := fun x y H Q => ∃ l k c, x = .ref l ∧ y = .int k ∧ H l = some (.tup [c]) ∧ 1 ≤ k ∧ k ≤ 1000 ∧ ∀ p H', Same H H' → H' p = some (.tup (List.replicate k.toNat c)) → Q (.ref p) H'
theorem op_repU : OpR X (binaryOp .Mult) rRepU := by
  intro pins s σ H x y v u Q I rx ry h
  obtain ⟨l, k, c, rfl, rfl, hl, h1, h2, q⟩ := h
  exact op_repC pins s σ H _ _ v u Q I rx ry ⟨l, k, c, rfl, rfl, SqT.of hl, h1, h2, fun e => q l H (Same.refl H) (by rw [e]; exact hl), fun p hp => q p _ (same_new hp) upd_same⟩
end
end K26

set_option Elab.async false
set_option linter.all false
set_option maxRecDepth 100000
set_option maxHeartbeats 4000000
/-! # The text by places, what is called by name, what the top says -/
namespace K26
open PySem PySem.Spec PyProof.Rows L2
def top (i : Nat) : Stmt := PySem.Challenge.pw_wishdeeds_k26_whole_made_deeds_of_made_d.main.body.getD i (.Pass ⟨0, 0, 0, 0⟩)
/-- a def of the module, under its name -/
structure DefAt (K : PySem.W.Frag) (mg : Str → Option Value) (x : Str) (st : Stmt) (ps : List Str) : Prop where
  ex : ∃ (f : Addr) (fd : FuncData), L2.Fun K x x st f fd ∧ mg x = some (.ref f) ∧ Binds K fd ps []
/-- a method of the class at C -/
structure MetAt (K : PySem.W.Frag) (C : Addr) (m qual : Str) (st : Stmt) (ps : List Str) : Prop where
  ex : ∃ (f : Addr) (fd : FuncData), L2.Fun K m qual st f fd ∧ Meth K C m f ∧ Binds K fd ps []
/-- the __init__ of the class at C, which is made by the name x -/
structure IniAt (K : PySem.W.Frag) (mg : Str → Option Value) (x : Str) (C : Addr) (qual : Str) (st : Stmt) (ps : List Str) : Prop where
  ex : ∃ (f : Addr) (fd : FuncData), L2.Fun K "__init__" qual st f fd ∧ Mk K C f ∧ mg x = some (.ref C) ∧ Binds K fd ps []
section
variable (P : Program) (w : World) (K : PySem.W.Frag) (mg : Str → Option Value) (base : Heap) (CX : CXT)
/-- what keeps a promise, called by its name -/
structure Cal (k : Nat) (x : Str) (sp : Sp) : Prop where
  ex : ∃ (f : Addr) (fd : FuncData) (ps : List Str), FnOk P w K mg base CX k f fd ps sp ∧ mg x = some (.ref f) ∧ PySem.W.keepIn K (.ref f) = true ∧ Binds K fd ps []
structure Met (k : Nat) (C : Addr) (m : Str) (sp : Sp) : Prop where
  ex : ∃ (f : Addr) (fd : FuncData) (ps : List Str), FnOk P w K mg base CX k f fd ps sp ∧ Meth K C m f ∧ Binds K fd ps []
structure Mak (k : Nat) (x : Str) (C : Addr) (sp : Sp) : Prop where
  ex : ∃ (f : Addr) (fd : FuncData) (ps : List Str), FnOk P w K mg base CX k f fd ps sp ∧ Mk K C f ∧ mg x = some (.ref C) ∧ Binds K fd ps []
end
section
variable {P : Program} {w : World} {K : PySem.W.Frag} {mg : Str → Option Value} {base : Heap}
theorem cal_of {x : Str} {st : Stmt} {N ps : List Str} {k : Nat} {sp : Sp} (D : DefAt K mg x st ps) (S : FnScope N ps (defScope st)) (len : ∀ vs H Q E, sp vs H Q E → vs.length = ps.length)
    (hbody : ∀ (f : Addr) (cdv : Value) (A : Around) (outer : List Env) (s : Shared) (H : Hp) (vs : List V) (Q : VK) (E : XK), Room k (A.deeper (envOfC x (defScope st) s.heap.objs.size f cdv)) → sp vs H Q E →
      ∃ t, PSs (cxOf CX0 P w K mg base N x (defScope st) f cdv A outer s H E).nox (defBody st) t ∧ t { nx := fun _ H' => Q .non H', rt := Q } (start N vs) H) : Cal P w K mg base CX0 (k + 1) x sp := by
  obtain ⟨f, fd, F, hm, b⟩ := D.ex
  exact ⟨f, fd, ps, F.ok S len (hbody f), hm, F.kp, b⟩
theorem cal_ofX {x : Str} {st : Stmt} {N ps : List Str} {k : Nat} {sp : Sp} (D : DefAt K mg x st ps) (S : FnScope N ps (defScope st)) (len : ∀ vs H Q E, sp vs H Q E → vs.length = ps.length)
    (hbody : ∀ (f : Addr) (cdv : Value) (A : Around) (outer : List Env) (s : Shared) (H : Hp) (vs : List V) (Q : VK) (E : XK), Room k (A.deeper (envOfC x (defScope st) s.heap.objs.size f cdv)) → sp vs H Q E →
      ∃ t, PSs (cxOf (L2.CX P w) P w K mg base N x (defScope st) f cdv A outer s H E) (defBody st) t ∧ t { nx := fun _ H' => Q .non H', rt := Q } (start N vs) H) : Cal P w K mg base (L2.CX P w) (k + 1) x sp := by
  obtain ⟨f, fd, F, hm, b⟩ := D.ex
  exact ⟨f, fd, ps, F.okX S len (hbody f), hm, F.kp, b⟩
theorem met_of {C : Addr} {m qual : Str} {st : Stmt} {N ps : List Str} {k : Nat} {sp : Sp} (D : MetAt K C m qual st ps) (S : FnScope N ps (defScope st)) (len : ∀ vs H Q E, sp vs H Q E → vs.length = ps.length)
    (hbody : ∀ (f : Addr) (cdv : Value) (A : Around) (outer : List Env) (s : Shared) (H : Hp) (vs : List V) (Q : VK) (E : XK), Room k (A.deeper (envOfC qual (defScope st) s.heap.objs.size f cdv)) → sp vs H Q E →
      ∃ t, PSs (cxOf CX0 P w K mg base N qual (defScope st) f cdv A outer s H E).nox (defBody st) t ∧ t { nx := fun _ H' => Q .non H', rt := Q } (start N vs) H) : Met P w K mg base CX0 (k + 1) C m sp := by
  obtain ⟨f, fd, F, hm, b⟩ := D.ex
  exact ⟨f, fd, ps, F.ok S len (hbody f), hm, b⟩
theorem met_ofX {C : Addr} {m qual : Str} {st : Stmt} {N ps : List Str} {k : Nat} {sp : Sp} (D : MetAt K C m qual st ps) (S : FnScope N ps (defScope st)) (len : ∀ vs H Q E, sp vs H Q E → vs.length = ps.length)
    (hbody : ∀ (f : Addr) (cdv : Value) (A : Around) (outer : List Env) (s : Shared) (H : Hp) (vs : List V) (Q : VK) (E : XK), Room k (A.deeper (envOfC qual (defScope st) s.heap.objs.size f cdv)) → sp vs H Q E →
      ∃ t, PSs (cxOf (L2.CX P w) P w K mg base N qual (defScope st) f cdv A outer s H E) (defBody st) t ∧ t { nx := fun _ H' => Q .non H', rt := Q } (start N vs) H) : Met P w K mg base (L2.CX P w) (k + 1) C m sp := by
  obtain ⟨f, fd, F, hm, b⟩ := D.ex
  exact ⟨f, fd, ps, F.okX S len (hbody f), hm, b⟩
theorem mak_of {x : Str} {C : Addr} {qual : Str} {st : Stmt} {N ps : List Str} {k : Nat} {sp : Sp} (D : IniAt K mg x C qual st ps) (S : FnScope N ps (defScope st)) (len : ∀ vs H Q E, sp vs H Q E → vs.length = ps.length)
    (hbody : ∀ (f : Addr) (cdv : Value) (A : Around) (outer : List Env) (s : Shared) (H : Hp) (vs : List V) (Q : VK) (E : XK), Room k (A.deeper (envOfC qual (defScope st) s.heap.objs.size f cdv)) → sp vs H Q E →
      ∃ t, PSs (cxOf CX0 P w K mg base N qual (defScope st) f cdv A outer s H E).nox (defBody st) t ∧ t { nx := fun _ H' => Q .non H', rt := Q } (start N vs) H) : Mak P w K mg base CX0 (k + 1) x C sp := by
  obtain ⟨f, fd, F, hm, hx, b⟩ := D.ex
  exact ⟨f, fd, ps, F.ok S len (hbody f), hm, hx, b⟩
end
section
variable {X : Cx} {CX : CXT} {E : XK} {k j : Nat} {C : Addr} {x m : Str} {sp : Sp} {p pos apos : Pos} {e o : Expr} {es : List Expr} {ta : TE} {t : TA}
theorem pe_cl (c : Cal X.prog X.w X.K X.mg X.base CX k x sp) (hr : Room j X.A) (hk : k ≤ j) (hx : Passes CX X E) (hg : Gl X x) (ha : PA X (e :: es) t)
    (hdb : (x == ("__debug__" : Str)) = false := by decide) (he : starEach (e :: es) X.env = (false, eval e X.env) :: starEach es X.env := by rfl) (hpl : (backTo pos (starEach es X.env)).any (·.1) = false := by rfl) :
    PE X (.Call (.Name x p) (e :: es) [] pos) (tCall sp [] E t) := by
  obtain ⟨f, fd, ps, F, hm, kp, b⟩ := c.ex
  exact pe_call F (hr.mono hk) hg hm kp b .nil hx ha hdb he hpl
theorem pe_ml {pl : Sem Bool} (c : Met X.prog X.w X.K X.mg X.base CX k C m sp) (cl : Cls X.K C) (hr : Room j X.A) (hk : k ≤ j) (hx : Passes CX X E) (he : PE X o ta) (ha : PA X (e :: es) t)
    (hst : starEach (e :: es) X.env = (false, eval e X.env) :: starEach es X.env := by rfl) (hpl : (backTo pos (starEach es X.env)).any (·.1) = false := by rfl)
    (ht : eval (.Call (.Attribute o m apos) (e :: es) [] pos) X.env = (do
      let ov ← eval o X.env
      standAt apos.atName
      let (f, first) ← holding [ov] (getMethod ov m pl)
      callWith pos f first (backTo pos (starEach (e :: es) X.env)) (backToKw pos (keywordEach [] X.env))) := by rfl) :
    PE X (.Call (.Attribute o m apos) (e :: es) [] pos) (tMeth C m sp [] E ta t) := by
  obtain ⟨f, fd, ps, F, hm, b⟩ := c.ex
  exact pe_meth (pl := pl) he cl hm F (hr.mono hk) b .nil hx ha hst hpl ht
theorem pe_ml0 {pl : Sem Bool} (c : Met X.prog X.w X.K X.mg X.base CX k C m sp) (cl : Cls X.K C) (hr : Room j X.A) (hk : k ≤ j) (hx : Passes CX X E) (he : PE X o ta)
    (ht : eval (.Call (.Attribute o m apos) [] [] pos) X.env = (do
      let ov ← eval o X.env
      standAt apos.atName
      let (f, first) ← holding [ov] (getMethod ov m pl)
      callWith pos f first (backTo pos (starEach [] X.env)) (backToKw pos (keywordEach [] X.env))) := by rfl) :
    PE X (.Call (.Attribute o m apos) [] [] pos) (tMeth C m sp [] E ta tNil) := by
  obtain ⟨f, fd, ps, F, hm, b⟩ := c.ex
  exact pe_meth0 (pl := pl) he cl hm F (hr.mono hk) b .nil hx ht
theorem pe_mkl (c : Mak X.prog X.w X.K X.mg X.base CX k x C sp) (hr : Room j X.A) (hk : k + 1 ≤ j) (hx : Passes CX X E) (hg : Gl X x) (ha : PA X (e :: es) t)
    (hdb : (x == ("__debug__" : Str)) = false := by decide) (he : starEach (e :: es) X.env = (false, eval e X.env) :: starEach es X.env := by rfl) (hpl : (backTo pos (starEach es X.env)).any (·.1) = false := by rfl) :
    PE X (.Call (.Name x p) (e :: es) [] pos) (tMake C sp [] E t) := by
  obtain ⟨f, fd, ps, F, M, hm, b⟩ := c.ex
  exact pe_make M F (hr.mono hk) hg hm b .nil hx ha hdb he hpl
end
/-- what the module does not bind, and its constants -/
structure Zs (mg : Str → Option Value) : Prop where
  isi : mg "isinstance" = none
  int : mg "int" = none
  bool : mg "bool" = none
  str : mg "str" = none
  len : mg "len" = none
  all : mg "all" = none
  tuple : mg "tuple" = none
  range : mg "range" = none
  list : mg "list" = none
  enum : mg "enumerate" = none
  zip : mg "zip" = none
  sorted : mg "sorted" = none
  dict : mg "dict" = none
  sum : mg "sum" = none
  min : mg "min" = none
  max : mg "max" = none
  cThings : ∃ t, mg "MOST_THINGS" = some (.int 9 t)
  cDeeds : ∃ t, mg "MOST_DEEDS" = some (.int 6 t)
  cPlaces : ∃ t, mg "MOST_PLACES" = some (.int 3 t)
  cSmall : ∃ t, mg "SMALL" = some (.str "abcdefghijklmnopqrstuvwxyz" t)
  cWide : ∃ t, mg "MOST_WIDE" = some (.int 81 t)
/-- a constant of the module -/
theorem pe_cst {X : Cx} {x : Str} {pos : Pos} {i : Int} (hg : Gl X x) (hm : ∃ t, X.mg x = some (.int i t)) (hd : (x == ("__debug__" : Str)) = false := by decide) : PE X (.Name x pos) (tC (.int i)) := by
  obtain ⟨t, e⟩ := hm
  exact pe_glob hg e ⟨t, rfl⟩ hd
theorem pe_cstS {X : Cx} {x : Str} {pos : Pos} {z : Str} (hg : Gl X x) (hm : ∃ t, X.mg x = some (.str z t)) (hd : (x == ("__debug__" : Str)) = false := by decide) : PE X (.Name x pos) (tC (.str z)) := by
  obtain ⟨t, e⟩ := hm
  exact pe_glob hg e ⟨t, rfl⟩ hd
/-- a built-in type as a value -/
theorem pe_ty {X : Cx} {x : Str} {pos : Pos} (n : String) (hg : Gl X x) (hm : X.mg x = none) (hv : bootBuiltins x = some (.type n)) (hn : x ≠ "__name__" := by decide) (hd : (x == ("__debug__" : Str)) = false := by decide) : PE X (.Name x pos) (tC (.ty n)) :=
  pe_bltn hg hm hv rfl hn hd
/-! ### is_whole, is_thing -/
abbrev sWhole : Stmt := top 12
abbrev sThing : Stmt := top 13
def spWhole : Sp := fun vs H Q _ => ∃ i : Int, vs = [.int i] ∧ Q (.bl true) H
section
variable {P : Program} {w : World} {K : PySem.W.Frag} {mg : Str → Option Value} {base : Heap}
theorem sc_whole : FnScope ["thing"] ["thing"] (defScope sWhole) := ⟨rfl, rfl, rfl, by decide +kernel, rfl, by decide +kernel, by decide +kernel⟩
theorem isi_int {K : PySem.W.Frag} {H : Hp} (i : Int) {b : Bool} {n : String} (h : kitB "int" n = some b) : ∃ (t u : Value), ClsV (.ty n) u ∧ TyX K H (.int i) t ∧ PySem.W.kitOne K t u = some b :=
  ⟨.type "int", .type n, .ty n, .base (.int i), kit_ty h⟩
theorem c_whole (Z : Zs mg) (D : DefAt K mg "is_whole" sWhole ["thing"]) : Cal P w K mg base CX0 1 "is_whole" spWhole := by
  refine cal_of D sc_whole (fun vs H Q E h => ?_) (fun f cdv A outer s H vs Q E hr h => ?_)
  · obtain ⟨i, rfl, _⟩ := h
    rfl
  · obtain ⟨i, rfl, q⟩ := h
    refine ⟨_, pss_one (ps_ret (pe_and (pe_callB call_isi (by rfl) Z.isi (by decide +kernel) (pa_cons (pv 0) (pa_cons (pe_ty "int" (by rfl) Z.int (by decide +kernel)) pa_nil)))
      (pe_one (pe_not (pe_callB call_isi (by rfl) Z.isi (by decide +kernel) (pa_cons (pv 0) (pa_cons (pe_ty "bool" (by rfl) Z.bool (by decide +kernel)) pa_nil))))))), ?_⟩
    refine ⟨_, rfl, ?_⟩
    refine ⟨_, _, _, _, true, rfl, .ty _, .base (.int i), kit_ty (by decide +kernel), _, rfl, iteT ?_⟩
    exact ⟨_, rfl, _, _, _, _, false, rfl, .ty _, .base (.int i), kit_ty (by decide +kernel), _, rfl, q⟩
end
end K26

set_option Elab.async false
set_option linter.all false
set_option maxRecDepth 100000
set_option maxHeartbeats 4000000
/-! # Houses: small defs -/
namespace K26
open PySem PySem.Spec PyProof.Rows L2
abbrev sName : Stmt := top 14
abbrev sRow : Stmt := top 15
theorem ret_bl {Q : VK} {H : Hp} {b c : Bool} (e : b = c) (q : Q (.bl c) H) : Q (.bl b) H := by rw [e]; exact q
def spThing : Sp := fun vs H Q _ => ∃ i n : Int, vs = [.int i, .int n] ∧ (0 ≤ i ∧ i < n) ∧ Q (.bl true) H
/-- a row that stands at a -/
def RowAt (H : Hp) (a : Addr) (r : List Int) : Prop := H a = some (.tup (r.map V.int))
def spRow : Sp := fun vs H Q _ => ∃ (a : Addr) (r : List Int) (wd : Nat) (n : Int), vs = [.ref a, .int wd, .int n] ∧ RowAt H a r ∧ Row n wd r ∧ wd ≤ 1000 ∧ ∀ H', Same H H' → Q (.bl true) H'
theorem get_map_int {r : List Int} {i : Nat} {x : V} (h : (r.map V.int)[i]? = some x) : ∃ z, r[i]? = some z ∧ x = .int z := by
  rw [List.getElem?_map] at h
  cases e : r[i]? with
  | none => rw [e] at h; cases h
  | some z => rw [e] at h; exact ⟨z, rfl, (Option.some.inj h).symm⟩
section
variable {P : Program} {w : World} {K : PySem.W.Frag} {mg : Str → Option Value} {base : Heap}
theorem sc_thing : FnScope ["thing", "size"] ["thing", "size"] (defScope sThing) := ⟨rfl, rfl, rfl, by decide +kernel, rfl, by decide +kernel, by decide +kernel⟩
theorem c_thing (D : DefAt K mg "is_thing" sThing ["thing", "size"]) (cW : Cal P w K mg base CX0 1 "is_whole" spWhole) : Cal P w K mg base CX0 2 "is_thing" spThing := by
  refine cal_of D sc_thing (fun vs H Q E h => ?_) (fun f cdv A outer s H vs Q E hr h => ?_)
  · obtain ⟨i, n, rfl, _⟩ := h
    rfl
  · obtain ⟨i, n, rfl, hi, q⟩ := h
    refine ⟨_, pss_one (ps_ret (pe_and (pe_cl cW hr (by decide) pass0 (by rfl) (pa_cons (pv 0) pa_nil)) (pe_one (pe_chain op_le op_lt pe_int (pv 0) (pv 1))))), ?_⟩
    refine ⟨_, rfl, i, rfl, _, rfl, iteT ?_⟩
    refine ⟨_, rfl, _, _, rfl, rfl, _, rfl, ?_⟩
    rw [decide_eq_true hi.1]
    exact iteT ⟨_, rfl, _, _, rfl, rfl, ret_bl (decide_eq_true hi.2) q⟩
theorem sc_row : FnScope ["row", "wide", "size", "one"] ["row", "wide", "size"] (defScope sRow) := ⟨rfl, rfl, rfl, by decide +kernel, rfl, by decide +kernel, by decide +kernel⟩
theorem c_row (Z : Zs mg) (D : DefAt K mg "is_row" sRow ["row", "wide", "size"]) (cT : Cal P w K mg base CX0 2 "is_thing" spThing) : Cal P w K mg base CX0 3 "is_row" spRow := by
  refine cal_of D sc_row (fun vs H Q E h => ?_) (fun f cdv A outer s H vs Q E hr h => ?_)
  · obtain ⟨a, r, wd, n, rfl, _⟩ := h
    rfl
  · obtain ⟨a, r, wd, n, rfl, ha, hrow, hw, q⟩ := h
    refine ⟨_, pss_one (ps_ret (pe_and (pe_callB call_isi (by rfl) Z.isi (by decide +kernel) (pa_cons (pv 0) (pa_cons (pe_ty "tuple" (by rfl) Z.tuple (by decide +kernel)) pa_nil)))
      (pe_and (pe_cmpR op_eq (pe_callB call_len_seq (by rfl) Z.len PySem.boot_len (pa_cons (pv 0) pa_nil)) (pv 1) (nomark _))
      (pe_one (pe_callB (cr_all rfl) (by rfl) Z.all (by decide +kernel) (pa_cons (pe_lc (own := [("one", 3)]) (g := gName 3) (tt := tYes) (by rfl) sc_row.nd (pi_tup (pv 0)) (blkOk_by (own := [("one", 3)]) (N := ["row", "wide", "size", "one"]) (sc := defScope sRow) (by decide +kernel))
        (fun _ _ _ _ _ => pg_name (i := 3) sc_row.nd rfl (Or.inl rfl)) (fun _ _ _ _ _ => pts_nil) (fun _ _ _ _ _ => pe_cl cT hr (by decide) pass0 (by rfl) (pa_cons (pv 3) (pa_cons (pv 2) pa_nil)))) pa_nil)))))), ?_⟩
    refine ⟨_, rfl, _, _, _, _, true, rfl, .ty _, .base (.tup ha), kit_ty (by decide +kernel), _, rfl, iteT ?_⟩
    refine ⟨_, rfl, a, _, rfl, .inr (SqT.of ha), _, rfl, rfl, _, rfl, ?_⟩
    rw [List.length_map, hrow.1, decide_eq_true rfl]
    refine iteT ⟨_, rfl, a, rfl, ⟨_, SqT.of ha⟩, fun D nD => ?_⟩
    refine lc_tup (K := K) (a := a) (xs := r.map V.int) (fun i H' => H' D = some (.lst ((List.replicate i true).map V.bl)) ∧ Same H H') ⟨upd_same, same_new nD⟩ (fun i H' _ h => SqT.of (h.2 _ _ ha)) (fun i x H' hx h => ?_) fun H' h => ?_
    · obtain ⟨z, hz, rfl⟩ := get_map_int hx
      refine ⟨rfl, _, rfl, _, rfl, z, n, rfl, hrow.2 z (List.mem_of_getElem? hz), _, h.1, ?_, ?_, ?_⟩
      · rw [List.length_map, List.length_replicate]
        have := (List.getElem?_eq_some_iff.mp hz).1
        have := hrow.1
        exact small1000 (by omega)
      · rw [upd_same, List.replicate_succ', List.map_append]
        rfl
      · exact same_put nD h.2
    · refine ⟨_, _, rfl, SqL.of h.1, ?_⟩
      have e : (List.replicate ((r.map V.int).length) true).all id = true := by simp
      rw [e]
      exact q _ h.2

/-! ### is_name -/
def small : Str := "abcdefghijklmnopqrstuvwxyz"
def NameOk (z : Str) : Prop := (2 ≤ z.length ∧ z.length ≤ 8) ∧ ∀ c ∈ z.cps.toList, c ∈ small.cps.toList
def spName : Sp := fun vs H Q _ => ∃ z : Str, vs = [.str z] ∧ NameOk z ∧ ∀ H', Same H H' → Q (.bl true) H'
theorem sc_name : FnScope ["word", "sign"] ["word"] (defScope sName) := ⟨rfl, rfl, rfl, by decide +kernel, rfl, by decide +kernel, by decide +kernel⟩
theorem c_name (Z : Zs mg) (D : DefAt K mg "is_name" sName ["word"]) : Cal P w K mg base CX0 1 "is_name" spName := by
  refine cal_of D sc_name (fun vs H Q E h => ?_) (fun f cdv A outer s H vs Q E hr h => ?_)
  · obtain ⟨z, rfl, _⟩ := h
    rfl
  · obtain ⟨z, rfl, ⟨⟨h2, h8⟩, hs⟩, q⟩ := h
    have hz : z.length ≤ sizeLine := by rw [sizeLine_eq]; omega
    refine ⟨_, pss_one (ps_ret (pe_and (pe_callB call_isi (by rfl) Z.isi (by decide +kernel) (pa_cons (pv 0) (pa_cons (pe_ty "str" (by rfl) Z.str (by decide +kernel)) pa_nil)))
      (pe_and (pe_chain op_le op_le pe_int (pe_callB call_len_str (by rfl) Z.len PySem.boot_len (pa_cons (pv 0) pa_nil)) pe_int)
      (pe_one (pe_callB (cr_all rfl) (by rfl) Z.all (by decide +kernel) (pa_cons (pe_lc (own := [("sign", 1)]) (g := gName 1) (tt := tYes) (by rfl) sc_name.nd (pi_str (pv 0)) (blkOk_by (own := [("sign", 1)]) (N := ["word", "sign"]) (sc := defScope sName) (by decide +kernel))
        (fun _ _ _ _ _ => pg_name (i := 1) sc_name.nd rfl (Or.inl rfl)) (fun _ _ _ _ _ => pts_nil) (fun _ _ _ _ _ => pe_cmpR op_in_sign (pv 1) (pe_cstS (by rfl) Z.cSmall) (by rfl))) pa_nil)))))), ?_⟩
    refine ⟨_, rfl, _, _, _, _, true, rfl, .ty _, .base (.str z), kit_ty (by decide +kernel), _, rfl, iteT ?_⟩
    refine ⟨_, rfl, z, rfl, hz, _, _, rfl, rfl, _, rfl, ?_⟩
    rw [decide_eq_true (by omega : (2 : Int) ≤ (z.length : Nat))]
    refine iteT ⟨_, _, rfl, rfl, _, rfl, ?_⟩
    rw [decide_eq_true (by omega : ((z.length : Nat) : Int) ≤ 8)]
    refine iteT ⟨_, rfl, z, rfl, fun D nD => ?_⟩
    refine lc_it walk_str (fun i H' => H' D = some (.lst ((List.replicate i true).map V.bl)) ∧ Same H H') ⟨upd_same, same_new nD⟩ (fun i H' _ h => trivial) (fun i x H' H2 hi h hx => ?_) fun H' h => ?_
    · obtain ⟨rfl, c, hc, rfl⟩ := hx
      refine ⟨rfl, _, rfl, c, _, rfl, rfl, _, h.1, ?_, ?_, ?_⟩
      · rw [List.length_map, List.length_replicate]
        have e : z.length = z.cps.size := rfl
        exact small1000 (by omega)
      · have e : decide (c ∈ ("abcdefghijklmnopqrstuvwxyz" : Str).cps.toList) = true := decide_eq_true (hs c (by
          have := Array.mem_of_getElem? hc
          simpa using this))
        rw [upd_same, List.replicate_succ', List.map_append, e]
        rfl
      · exact same_put nD h.2
    · refine ⟨_, _, rfl, SqL.of h.1, ?_⟩
      have e : (List.replicate z.cps.size true).all id = true := by simp
      rw [e]
      exact q _ h.2
/-! ### cells, things_at -/
abbrev sCells : Stmt := top 16
abbrev sAt : Stmt := top 18
def spCells : Sp := fun vs H Q _ => ∃ n p : Nat, vs = [.int n, .int p] ∧ n ≤ 9 ∧ p ≤ 3 ∧ Q (.int ((n ^ p : Nat) : Int)) H
theorem sc_cells : FnScope ["size", "places", "found", "k"] ["size", "places"] (defScope sCells) := ⟨rfl, rfl, rfl, by decide +kernel, rfl, by decide +kernel, by decide +kernel⟩
theorem c_cells (Z : Zs mg) (D : DefAt K mg "cells" sCells ["size", "places"]) : Cal P w K mg base CX0 1 "cells" spCells := by
  refine cal_of D sc_cells (fun vs H Q E h => ?_) (fun f cdv A outer s H vs Q E hr h => ?_)
  · obtain ⟨n, p, rfl, _⟩ := h
    rfl
  · obtain ⟨n, p, rfl, hn, hp, q⟩ := h
    refine ⟨_, pss_cons (ps_set (i := 2) sc_cells.nd rfl (.inl rfl) pe_int) (pss_cons (ps_for PassesOwn.never rfl (pi_range1 (by rfl) Z.range (pa_cons (pv 1) pa_nil)) (pg_name (i := 3) sc_cells.nd rfl (Or.inl rfl))
      (pss_one (ps_set (i := 2) sc_cells.nd rfl (.inl rfl) (pe_op op_mul (pv 2) (pv 0))))) (pss_one (ps_ret (pv 2)))), ?_⟩
    refine ⟨_, rfl, _, rfl, by omega, by omega, ?_⟩
    refine for_range (fun i σ H' => (∃ v, σ = [some (.int n), some (.int p), some (.int ((n ^ i : Nat) : Int)), v]) ∧ H' = H) ⟨⟨_, rfl⟩, rfl⟩ (fun i σ H' hi h => ?_) fun σ H' h => ?_
    · obtain ⟨⟨v, rfl⟩, rfl⟩ := h
      refine ⟨_, rfl, _, rfl, _, _, rfl, rfl, .inr (by omega), ⟨some (.int (0 + (i : Nat))), ?_⟩, rfl⟩
      have e : ((n ^ i : Nat) : Int) * (n : Int) = ((n ^ (i + 1) : Nat) : Int) := by rw [Nat.pow_succ, Int.natCast_mul]
      rw [← e]
      rfl
    · obtain ⟨⟨v, rfl⟩, rfl⟩ := h
      exact ⟨_, rfl, by simpa using q⟩
/-- the things of a spot, a digit more each time -/
def dg (n : Nat) : Nat → Int × List Int → Int × List Int
  | 0, z => z
  | i + 1, z => ((dg n i z).1 / n, (dg n i z).1 % n :: (dg n i z).2)
def thAt (n p : Nat) (s : Int) : List Int := (dg n p (s, [])).2
def spAt : Sp := fun vs H Q _ => ∃ (s : Int) (n p : Nat), vs = [.int s, .int p, .int n] ∧ 1 ≤ n ∧ n ≤ 9 ∧ p ≤ 3 ∧ ∀ a H', Same H H' → RowAt H' a (thAt n p s) → Q (.ref a) H'
theorem dg_len (n : Nat) (s : Int) : ∀ i, (dg n i (s, [])).2.length = i
  | 0 => rfl
  | i + 1 => by
    show (_ :: (dg n i (s, [])).2).length = i + 1
    rw [List.length_cons, dg_len n s i]
theorem sc_at : FnScope ["spot", "places", "size", "found", "k"] ["spot", "places", "size"] (defScope sAt) := ⟨rfl, rfl, rfl, by decide +kernel, rfl, by decide +kernel, by decide +kernel⟩
theorem c_at (Z : Zs mg) (D : DefAt K mg "things_at" sAt ["spot", "places", "size"]) : Cal P w K mg base CX0 1 "things_at" spAt := by
  refine cal_of D sc_at (fun vs H Q E h => ?_) (fun f cdv A outer s H vs Q E hr h => ?_)
  · obtain ⟨s0, n, p, rfl, _⟩ := h
    rfl
  · obtain ⟨s0, n, p, rfl, hn, hn9, hp, q⟩ := h
    refine ⟨_, pss_cons (ps_set (i := 3) sc_at.nd rfl (.inl rfl) (pe_tup pa_nil)) (pss_cons (ps_for PassesOwn.never rfl (pi_range1 (by rfl) Z.range (pa_cons (pv 1) pa_nil)) (pg_name (i := 4) sc_at.nd rfl (Or.inl rfl))
      (pss_cons (ps_set (i := 3) sc_at.nd rfl (.inl rfl) (pe_op op_catU (pe_tup (pa_cons (pe_op op_mod (pv 0) (pv 2)) pa_nil)) (pv 3)))
      (pss_one (ps_set (i := 0) sc_at.nd rfl (.inl rfl) (pe_op op_fdiv (pv 0) (pv 2)))))) (pss_one (ps_ret (pv 3)))), ?_⟩
    refine ⟨Nat.zero_le _, fun a0 na => ?_⟩
    refine ⟨_, rfl, _, rfl, by omega, by omega, ?_⟩
    refine for_range (fun i σ H' => ∃ a v, σ = [some (.int (dg n i (s0, [])).1), some (.int p), some (.int n), some (.ref a), v] ∧ RowAt H' a (dg n i (s0, [])).2 ∧ Same H H') ⟨a0, _, rfl, upd_same, same_new na⟩ (fun i σ H' hi h => ?_) fun σ H' h => ?_
    · obtain ⟨a, v, rfl, ha, hs⟩ := h
      refine ⟨_, rfl, _, rfl, _, _, rfl, rfl, by omega, (by show 1 ≤ sizeLine; decide), fun b nb => ?_⟩
      have hl := dg_len n s0 i
      refine ⟨_, rfl, b, a, _, _, rfl, rfl, upd_same, by rw [upd_ne (ne_of_none ha nb)]; exact ha, by rw [List.length_map, hl, sizeLine_eq]; show 1 + i ≤ 16777216; omega, fun c H2 s2 hc => ?_⟩
      exact ⟨_, rfl, _, rfl, _, _, rfl, rfl, ⟨by omega, by omega⟩, c, _, rfl, hc, (hs.trans (same_new nb)).trans s2⟩
    · obtain ⟨a, v, rfl, ha, hs⟩ := h
      exact ⟨_, rfl, q a H' hs (by simpa [thAt] using ha)⟩
end
end K26

set_option Elab.async false
set_option linter.all false
set_option maxRecDepth 100000
set_option maxHeartbeats 4000000
/-! # Houses: deeds, the class -/
namespace K26
open PySem PySem.Spec PyProof.Rows L2
abbrev sDeed : Stmt := top 19
abbrev sHInit : Stmt := inClass (top 20) 0
abbrev sHThings : Stmt := inClass (top 20) 1
abbrev sHDeeds : Stmt := inClass (top 20) 2
abbrev sHNames : Stmt := inClass (top 20) 3
/-- a deed as it stands: its tuple at a, its table's at ta -/
structure Dd where
  a : Addr
  nm : Str
  p : Nat
  ta : Addr
  t : List Int
def DdAt (H : Hp) (d : Dd) : Prop := H d.a = some (.tup [.str d.nm, .int d.p, .ref d.ta]) ∧ RowAt H d.ta d.t
def DdOk (n : Nat) (d : Dd) : Prop := NameOk d.nm ∧ d.p ≤ 3 ∧ Row n (n ^ d.p) d.t
theorem DdAt.same {H H' : Hp} {d : Dd} (s : Same H H') (h : DdAt H d) : DdAt H' d := ⟨s _ _ h.1, s _ _ h.2⟩
def spDeed : Sp := fun vs H Q _ => ∃ (d : Dd) (n : Nat), vs = [.ref d.a, .int n] ∧ (1 ≤ n ∧ n ≤ 9) ∧ DdAt H d ∧ DdOk n d ∧ ∀ H', Same H H' → Q (.bl true) H'
theorem pow_small {n p : Nat} (hn : n ≤ 9) (hp : p ≤ 3) : n ^ p ≤ 1000 := Nat.le_trans (Nat.pow_le_pow_left hn p) (Nat.le_trans (Nat.pow_le_pow_right (by decide) hp) (by decide))
section
variable {P : Program} {w : World} {K : PySem.W.Frag} {mg : Str → Option Value} {base : Heap}
theorem sc_deed : FnScope ["deed", "size", "name", "places", "table"] ["deed", "size"] (defScope sDeed) := ⟨rfl, rfl, rfl, by decide +kernel, rfl, by decide +kernel, by decide +kernel⟩
theorem c_deed (Z : Zs mg) (D : DefAt K mg "is_deed" sDeed ["deed", "size"]) (cW : Cal P w K mg base CX0 1 "is_whole" spWhole) (cN : Cal P w K mg base CX0 1 "is_name" spName) (cC : Cal P w K mg base CX0 1 "cells" spCells) (cR : Cal P w K mg base CX0 3 "is_row" spRow) :
    Cal P w K mg base CX0 4 "is_deed" spDeed := by
  refine cal_of D sc_deed (fun vs H Q E h => ?_) (fun f cdv A outer s H vs Q E hr h => ?_)
  · obtain ⟨d, n, rfl, _⟩ := h
    rfl
  · obtain ⟨d, n, rfl, hn, hd, ⟨hnm, hp, ht⟩, q⟩ := h
    refine ⟨_, pss_cons (ps_if (PW.pt (pw_or (pt_not (pt_val (pe_callB call_isi (by rfl) Z.isi (by decide +kernel) (pa_cons (pv 0) (pa_cons (pe_ty "tuple" (by rfl) Z.tuple (by decide +kernel)) pa_nil)))))
        (pw_or (pt_cmpR op_ne (pe_callB call_len_seq (by rfl) Z.len PySem.boot_len (pa_cons (pv 0) pa_nil)) pe_int (nomark _))
        (pw_or1 (pt_not (pt_val (pe_cl cN hr (by decide) pass0 (by rfl) (pa_cons (pe_ix ix_tup (pv 0) pe_int (fun _ _ => rfl)) pa_nil)))))))) (pss_one ps_never) pss_nil)
      (pss_cons (ps_asg (pv 0) (pg_tup (by rfl) (pgs_cons (pg_name (i := 2) sc_deed.nd rfl (.inl rfl)) (pgs_cons (pg_name (i := 3) sc_deed.nd rfl (.inl rfl)) (pgs_cons (pg_name (i := 4) sc_deed.nd rfl (.inl rfl)) pgs_nil)))))
      (pss_cons (ps_if (PW.pt (pw_or (pt_not (pt_val (pe_cl cW hr (by decide) pass0 (by rfl) (pa_cons (pv 3) pa_nil))))
        (pw_or1 (pt_not (pt_chain op_le op_le pe_int (pv 3) (pe_cst (by rfl) Z.cPlaces)))))) (pss_one ps_never) pss_nil)
      (pss_one (ps_ret (pe_cl cR hr (by decide) pass0 (by rfl) (pa_cons (pv 4) (pa_cons (pe_cl cC hr (by decide) pass0 (by rfl) (pa_cons (pv 1) (pa_cons (pv 3) pa_nil))) (pa_cons (pv 1) pa_nil)))))))), ?_⟩
    -- the shape
    refine ⟨_, rfl, _, _, _, _, true, rfl, .ty _, .base (.tup hd.1), kit_ty (by decide +kernel), _, rfl, ?_⟩
    refine iteF ⟨_, rfl, d.a, _, rfl, .inr (SqT.of hd.1), rfl, _, rfl, ?_⟩
    refine iteF ⟨_, rfl, d.a, _, 0, .str d.nm, rfl, rfl, SqT.of hd.1, atI_nat rfl, d.nm, rfl, hnm, fun H1 s1 => ⟨_, rfl, ?_⟩⟩
    refine iteF ?_
    have hd1 := hd.same s1
    refine ⟨_, rfl, d.a, _, rfl, SqT.of hd1.1, rfl, _, _, rfl, _, _, rfl, _, _, rfl, rfl, ?_⟩
    -- the places
    refine ⟨_, rfl, _, rfl, _, rfl, ?_⟩
    refine iteF ⟨_, rfl, _, _, rfl, rfl, _, rfl, ?_⟩
    rw [decide_eq_true (by omega : (0 : Int) ≤ (d.p : Nat))]
    refine iteT ⟨_, _, rfl, rfl, _, rfl, ?_⟩
    rw [decide_eq_true (by omega : ((d.p : Nat) : Int) ≤ 3)]
    refine iteF ?_
    refine ⟨_, rfl, _, rfl, _, rfl, n, d.p, rfl, hn.2, hp, _, rfl, d.ta, d.t, n ^ d.p, (n : Int), rfl, hd1.2, ht, pow_small hn.2 hp, fun H2 s2 => q H2 (s1.trans s2)⟩
/-! ### the class House -/
structure HTxt (K : PySem.W.Frag) (C : Addr) : Prop where
  cl : Cls K C
  nS : NoAttr K C "size"
  nB : NoAttr K C "by_name"
theorem ksb : ¬ (("size" : Str) = "by_name") := by decide +kernel
def hfs (n : Nat) (d : Addr) : List (Str × V) := putF "by_name" (.ref d) (putF "size" (.int n) [])
theorem hfs_size (n : Nat) (d : Addr) : (hfs n d).lookup ("size" : Str) = some (.int n) := by
  unfold hfs
  rw [lookup_putF, if_neg ksb, lookup_putF, if_pos rfl]
theorem hfs_by (n : Nat) (d : Addr) : (hfs n d).lookup ("by_name" : Str) = some (.ref d) := by
  unfold hfs
  rw [lookup_putF, if_pos rfl]
theorem hfs_no (n : Nat) (d : Addr) {m : Str} (h1 : ¬ m = "by_name") (h2 : ¬ m = "size") : (hfs n d).lookup m = none := by
  unfold hfs
  rw [lookup_putF, if_neg h1, lookup_putF, if_neg h2]
  rfl
def kvD (x : Dd) : Key × V := (Sum.inr x.nm, V.ref x.a)
/-- a house stands at h -/
def HouseAt (C : Addr) (H : Hp) (h : Addr) (n : Nat) (ds : List Dd) : Prop := ∃ dx d, H h = some (.ins C dx (hfs n d)) ∧ H d = some (.dK (ds.map kvD)) ∧ ∀ x ∈ ds, DdAt H x
theorem HouseAt.same {C : Addr} {H H' : Hp} {h : Addr} {n : Nat} {ds : List Dd} (s : Same H H') (x : HouseAt C H h n ds) : HouseAt C H' h n ds := by
  obtain ⟨dx, d, h1, h2, h3⟩ := x
  exact ⟨dx, d, s _ _ h1, s _ _ h2, fun y hy => (h3 y hy).same s⟩
def refsD (ds : List Dd) : List V := ds.map fun x => V.ref x.a
theorem get_refsD {ds : List Dd} {i : Nat} {v : V} (h : (refsD ds)[i]? = some v) : ∃ y, ds[i]? = some y ∧ v = V.ref y.a := by
  unfold refsD at h
  rw [List.getElem?_map] at h
  cases e : ds[i]? with
  | none => rw [e] at h; cases h
  | some y => rw [e] at h; exact ⟨y, rfl, (Option.some.inj h).symm⟩
def spHInit (C : Addr) : Sp := fun vs H Q _ => ∃ (x dx l : Addr) (n : Nat) (ds : List Dd), vs = [.ref x, .int n, .ref l] ∧ H x = some (.ins C dx []) ∧ (1 ≤ n ∧ n ≤ 9) ∧ H l = some (.lst (refsD ds)) ∧ (∀ d ∈ ds, DdAt H d ∧ DdOk n d) ∧ ds.length ≤ 6 ∧ (ds.map (·.nm)).Nodup ∧
  ∀ H', (∀ b o, H b = some o → b ≠ x → H' b = some o) → HouseAt C H' x n ds → Q .non H'
theorem take_more {α : Type} {l : List α} {i : Nat} {x : α} (h : l[i]? = some x) : l.take (i + 1) = l.take i ++ [x] := by
  rw [List.take_add_one, h]
  rfl
theorem valV_fresh {ds : List Dd} {i : Nat} {x : Dd} (hn : (ds.map (·.nm)).Nodup) (h : ds[i]? = some x) : valV ((ds.take i).map kvD) (Sum.inr x.nm : Key) = none := by
  have key : ∀ y ∈ ds.take i, ¬ y.nm = x.nm := fun y hy e => by
    obtain ⟨j, hj⟩ := List.getElem?_of_mem hy
    have hji : j < i := by
      have := (List.getElem?_eq_some_iff.mp hj).1
      rw [List.length_take] at this
      omega
    rw [List.getElem?_take_of_lt hji] at hj
    have a1 : (ds.map (·.nm))[j]? = some x.nm := by rw [List.getElem?_map, hj]; exact congrArg some e
    have a2 : (ds.map (·.nm))[i]? = some x.nm := by rw [List.getElem?_map, h]; rfl
    have := nd_ix hn a1 a2
    omega
  unfold valV
  have e : ((ds.take i).map kvD).find? (fun kv => decide (kv.1 = (Sum.inr x.nm : Key))) = none := by
    rw [List.find?_eq_none]
    intro kv hkv
    obtain ⟨y, hy, rfl⟩ := List.mem_map.mp hkv
    have := key y hy
    simpa [kvD] using this
  rw [e]
  rfl
theorem sc_hinit : FnScope ["self", "size", "deeds", "found", "at", "deed"] ["self", "size", "deeds"] (defScope sHInit) := ⟨rfl, rfl, rfl, by decide +kernel, rfl, by decide +kernel, by decide +kernel⟩
theorem c_hinit (Z : Zs mg) {C : Addr} (T : HTxt K C) (D : IniAt K mg "House" C "House.__init__" sHInit ["self", "size", "deeds"]) (cW : Cal P w K mg base CX0 1 "is_whole" spWhole) (cD : Cal P w K mg base CX0 4 "is_deed" spDeed) : Mak P w K mg base CX0 5 "House" C (spHInit C) := by
  refine mak_of D sc_hinit (fun vs H Q E h => ?_) (fun f cdv A outer s H vs Q E hr h => ?_)
  · obtain ⟨x, dx, l, n, ds, rfl, _⟩ := h
    rfl
  · obtain ⟨x, dx, l, n, ds, rfl, hx, hn, hl, hds, h6, hnd, q⟩ := h
    have hu := hu_of hr
    refine ⟨_, pss_cons (ps_if (PW.pt (pw_or (pt_not (pt_val (pe_cl cW hr (by decide) pass0 (by rfl) (pa_cons (pv 1) pa_nil)))) (pw_or1 (pt_not (pt_chain op_le op_le pe_int (pv 1) (pe_cst (by rfl) Z.cThings)))))) (pss_one ps_never) pss_nil)
      (pss_cons (ps_if (PW.pt (pw_or (pt_not (pt_val (pe_callB call_isi (by rfl) Z.isi (by decide +kernel) (pa_cons (pv 2) (pa_cons (pe_ty "list" (by rfl) Z.list (by decide +kernel)) pa_nil)))))
        (pw_or1 (pt_cmpR op_gt (pe_callB call_len_seq (by rfl) Z.len PySem.boot_len (pa_cons (pv 2) pa_nil)) (pe_cst (by rfl) Z.cDeeds) (nomark _))))) (pss_one ps_never) pss_nil)
      (pss_cons (ps_set (i := 3) sc_hinit.nd rfl (.inl rfl) pe_dnewK)
      (pss_cons (ps_for PassesOwn.never rfl (pi_enum (by rfl) Z.enum (pa_cons (pv 2) pa_nil)) (pg_tup rfl (pgs_cons (pg_name (i := 4) sc_hinit.nd rfl (.inl rfl)) (pgs_cons (pg_name (i := 5) sc_hinit.nd rfl (.inl rfl)) pgs_nil)))
        (pss_cons (ps_if (PW.pt (pw_or (pt_not (pt_val (pe_cl cD hr (by decide) pass0 (by rfl) (pa_cons (pv 5) (pa_cons (pv 1) pa_nil))))) (pw_or1 (pt_cmp (pc_din hu (pe_ix ix_tup (pv 5) pe_int (fun _ _ => rfl)) (pv 3)))))) (pss_one ps_never) pss_nil)
        (pss_one (ps_dput hu (pv 3) (pe_ix ix_tup (pv 5) pe_int (fun _ _ => rfl)) (pv 5) rfl))))
      (pss_cons (ps_fld (pv 0) (pv 1) rfl) (pss_one (ps_fld (pv 0) (pv 3) rfl)))))), ?_⟩
    -- the size
    refine ⟨_, rfl, _, rfl, _, rfl, ?_⟩
    refine iteF ⟨_, rfl, _, _, rfl, rfl, _, rfl, ?_⟩
    rw [decide_eq_true (by omega : (1 : Int) ≤ (n : Nat))]
    refine iteT ⟨_, _, rfl, rfl, _, rfl, ?_⟩
    rw [decide_eq_true (by omega : ((n : Nat) : Int) ≤ 9)]
    refine iteF ?_
    -- the list
    refine ⟨_, rfl, _, _, _, _, true, rfl, .ty _, .base (.lst hl), kit_ty (by decide +kernel), _, rfl, ?_⟩
    have hlen : (refsD ds).length = ds.length := List.length_map _
    refine iteF ⟨_, rfl, l, _, rfl, .inl (SqL.of hl), _, _, rfl, rfl, _, rfl, ?_⟩
    rw [decide_eq_false (by rw [hlen]; omega : ¬ ((6 : Int) < ((refsD ds).length : Nat)))]
    refine iteF ?_
    -- found = {}; the loop
    intro d nd
    refine ⟨_, rfl, l, refsD ds, rfl, SqL.of (same_new nd _ _ hl), for_it (walk_enum (xs := refsD ds)) (fun i σ H' => (∃ v4 v5, σ = [some (.ref x), some (.int n), some (.ref l), some (.ref d), v4, v5]) ∧ Same H H' ∧ H' d = some (.dK ((ds.take i).map kvD)))
      ⟨⟨_, _, rfl⟩, same_new nd, upd_same⟩ (fun i σ H' _ h => SqL.of (h.2.1 _ _ hl)) (fun i y σ H' H2 hi h hy => ?_) fun σ H' h => ?_⟩
    · obtain ⟨⟨v4, v5, rfl⟩, s1, hd⟩ := h
      obtain ⟨Tp, a1, a2, rfl, nT, rfl, e1, e2⟩ := hy
      have e1 : a1 = V.int (i : Nat) := (Option.some.inj e1).symm
      subst e1
      obtain ⟨y, hy, rfl⟩ := get_refsD e2
      obtain ⟨hyA, hyO⟩ := hds y (List.mem_of_getElem? hy)
      refine ⟨Tp, _, rfl, SqT.of upd_same, rfl, _, _, rfl, _, _, rfl, rfl, ?_⟩
      have s2 := s1.trans (same_new (o := .tup [.int (i : Nat), .ref y.a]) nT)
      refine ⟨_, rfl, _, rfl, y, n, rfl, hn, hyA.same s2, hyO, fun H3 s3 => ⟨_, rfl, ?_⟩⟩
      have s4 := s2.trans s3
      have hd3 : H3 d = some (.dK ((ds.take i).map kvD)) := s3 _ _ (same_new nT _ _ hd)
      have hyB := hyA.same s4
      refine iteF ⟨_, rfl, y.a, _, 0, .str y.nm, rfl, rfl, SqT.of hyB.1, atI_nat rfl, _, rfl, d, _, rfl, DGet.k (k := Sum.inr y.nm) hd3, _, rfl, ?_⟩
      rw [valV_fresh hnd hy]
      refine iteF ⟨_, rfl, _, rfl, _, rfl, y.a, _, 0, .str y.nm, rfl, rfl, SqT.of hyB.1, atI_nat rfl, d, _, rfl, DPut.k (k := Sum.inr y.nm) hd3 ?_, ?_⟩
      · rw [List.length_map, List.length_take]
        exact small1000 (by omega)
      · refine ⟨⟨_, _, rfl⟩, fun b o e => ?_, ?_⟩
        · rw [upd_ne (ne_of_none e nd)]
          exact s4 b o e
        · rw [upd_same, putK_new _ (valV_fresh hnd hy), take_more hy, List.map_append]
          rfl
    · obtain ⟨⟨v4, v5, rfl⟩, s1, hd⟩ := h
      rw [hlen, List.take_length] at hd
      have hx1 := s1 _ _ hx
      have ndx : d ≠ x := ne_of hd hx1 (by intro z; cases z)
      refine ⟨_, rfl, _, rfl, x, C, dx, [], rfl, hx1, T.cl, T.nS, (by show 0 < 1000; decide), _, rfl, _, rfl, x, C, dx, _, rfl, upd_same, T.cl, T.nB, (by show 1 < 1000; decide), ?_⟩
      refine q _ (fun b o e hb => by rw [upd_ne hb, upd_ne hb]; exact s1 b o e) ⟨dx, d, upd_same, by rw [upd_ne ndx, upd_ne ndx]; exact hd, fun y hy => ?_⟩
      have hyA := (hds y hy).1.same s1
      have n1 : y.a ≠ x := ne_of hyA.1 hx1 (by intro z; cases z)
      have n2 : y.ta ≠ x := ne_of hyA.2 hx1 (by intro z; cases z)
      exact ⟨by rw [upd_ne n1, upd_ne n1]; exact hyA.1, by show upd (upd H' x _) x _ y.ta = _; rw [upd_ne n2, upd_ne n2]; exact hyA.2⟩
/-! ### things, deeds, names -/
def spThings (C : Addr) : Sp := fun vs H Q _ => ∃ (h : Addr) (n : Nat) (ds : List Dd), vs = [.ref h] ∧ HouseAt C H h n ds ∧ Q (.int n) H
def spDeeds (C : Addr) : Sp := fun vs H Q _ => ∃ (h : Addr) (n : Nat) (ds : List Dd), vs = [.ref h] ∧ HouseAt C H h n ds ∧ ∀ p H', Same H H' → H p = none → H' p = some (.lst (refsD ds)) → Q (.ref p) H'
def spNames (C : Addr) : Sp := fun vs H Q _ => ∃ (h : Addr) (n : Nat) (ds : List Dd), vs = [.ref h] ∧ HouseAt C H h n ds ∧ ∀ p H', Same H H' → H' p = some (.lst (ds.map fun x => V.str x.nm)) → Q (.ref p) H'
theorem sc_hthings : FnScope ["self"] ["self"] (defScope sHThings) := ⟨rfl, rfl, rfl, by decide +kernel, rfl, by decide +kernel, by decide +kernel⟩
theorem c_things {C : Addr} (T : HTxt K C) (D : MetAt K C "things" "House.things" sHThings ["self"]) : Met P w K mg base CX0 1 C "things" (spThings C) := by
  refine met_of D sc_hthings (fun vs H Q E h => ?_) (fun f cdv A outer s H vs Q E hr h => ?_)
  · obtain ⟨x, n, ds, rfl, _⟩ := h
    rfl
  · obtain ⟨x, n, ds, rfl, ⟨dx, d, h1, h2, h3⟩, q⟩ := h
    exact ⟨_, pss_one (ps_ret (pe_fld (pv 0) rfl)), ⟨_, rfl, x, C, dx, _, _, rfl, h1, T.cl, T.nS, hfs_size _ _, q⟩⟩
theorem sc_hdeeds : FnScope ["self"] ["self"] (defScope sHDeeds) := ⟨rfl, rfl, rfl, by decide +kernel, rfl, by decide +kernel, by decide +kernel⟩
theorem c_deeds (Z : Zs mg) {C : Addr} (T : HTxt K C) (D : MetAt K C "deeds" "House.deeds" sHDeeds ["self"]) : Met P w K mg base CX0 1 C "deeds" (spDeeds C) := by
  refine met_of D sc_hdeeds (fun vs H Q E h => ?_) (fun f cdv A outer s H vs Q E hr h => ?_)
  · obtain ⟨x, n, ds, rfl, _⟩ := h
    rfl
  · obtain ⟨x, n, ds, rfl, ⟨dx, d, h1, h2, h3⟩, q⟩ := h
    refine ⟨_, pss_one (ps_ret (pe_listVals rfl (pe_fld (pv 0) rfl) (by rfl) Z.list (by decide +kernel))), ⟨_, rfl, x, C, dx, _, _, rfl, h1, T.cl, T.nB, hfs_by _ _, d, _, rfl, h2, fun p hp => q p _ (same_new hp) hp ?_⟩⟩
    rw [upd_same, List.map_map]
    rfl
theorem sc_hnames : FnScope ["self"] ["self"] (defScope sHNames) := ⟨rfl, rfl, rfl, by decide +kernel, rfl, by decide +kernel, by decide +kernel⟩
theorem c_names (Z : Zs mg) {C : Addr} (T : HTxt K C) (D : MetAt K C "names" "House.names" sHNames ["self"]) : Met P w K mg base CX0 1 C "names" (spNames C) := by
  refine met_of D sc_hnames (fun vs H Q E h => ?_) (fun f cdv A outer s H vs Q E hr h => ?_)
  · obtain ⟨x, n, ds, rfl, _⟩ := h
    rfl
  · obtain ⟨x, n, ds, rfl, ⟨dx, d, h1, h2, h3⟩, q⟩ := h
    refine ⟨_, pss_one (ps_ret (pe_callTy (call_list_dK rfl) (by rfl) Z.list (by decide +kernel) (pa_cons (pe_fld (pv 0) rfl) pa_nil))), ⟨_, rfl, x, C, dx, _, _, rfl, h1, T.cl, T.nB, hfs_by _ _, d, _, rfl, h2, fun p hp => q p _ (same_new hp) ?_⟩⟩
    rw [upd_same, List.map_map]
    rfl
end
end K26

set_option Elab.async false
set_option linter.all false
set_option maxRecDepth 100000
set_option maxHeartbeats 4000000
/-! # Rows in lists; check_rows, put_together -/
namespace K26
open PySem PySem.Spec PyProof.Rows L2
abbrev sChk : Stmt := top 22
abbrev sPut : Stmt := top 23
/-! ### rows at addresses -/
def RowsAt (H : Hp) (as : List Addr) (rs : List (List Int)) : Prop := Paired (fun a r => RowAt H a r) as rs
/-- a list of rows stands at l -/
def LRows (H : Hp) (l : Addr) (rs : List (List Int)) : Prop := ∃ as, H l = some (.lst (as.map V.ref)) ∧ RowsAt H as rs
theorem RowsAt.same {H H' : Hp} (s : Same H H') : ∀ {as : List Addr} {rs : List (List Int)}, RowsAt H as rs → RowsAt H' as rs
  | _, _, .nil => .nil
  | _, _, .cons h t => .cons (s _ _ h) (RowsAt.same s t)
/-- .. where just what is no row may have changed -/
theorem RowsAt.keep {H H' : Hp} (s : ∀ a r, RowAt H a r → RowAt H' a r) : ∀ {as : List Addr} {rs : List (List Int)}, RowsAt H as rs → RowsAt H' as rs
  | _, _, .nil => .nil
  | _, _, .cons h t => .cons (s _ _ h) (RowsAt.keep s t)
theorem RowsAt.snoc {H : Hp} {a : Addr} {r : List Int} (h : RowAt H a r) : ∀ {as : List Addr} {rs : List (List Int)}, RowsAt H as rs → RowsAt H (as ++ [a]) (rs ++ [r])
  | _, _, .nil => .cons h .nil
  | _, _, .cons k t => .cons k (RowsAt.snoc h t)
theorem RowsAt.get {H : Hp} : ∀ {as : List Addr} {rs : List (List Int)} {i : Nat} {a : Addr}, RowsAt H as rs → as[i]? = some a → ∃ r, rs[i]? = some r ∧ RowAt H a r
  | _, _, _, _, .nil, e => by simp at e
  | _, _, 0, a, .cons h _, e => by
    have e' := Option.some.inj e
    subst e'
    exact ⟨_, rfl, h⟩
  | _, _, i + 1, a, .cons _ t, e => RowsAt.get (i := i) t e
theorem RowsAt.at {H : Hp} : ∀ {as : List Addr} {rs : List (List Int)} {i : Nat} {r : List Int}, RowsAt H as rs → rs[i]? = some r → ∃ a, as[i]? = some a ∧ RowAt H a r
  | _, _, _, _, .nil, e => by simp at e
  | _, _, 0, a, .cons h _, e => by
    have e' := Option.some.inj e
    subst e'
    exact ⟨_, rfl, h⟩
  | _, _, i + 1, a, .cons _ t, e => RowsAt.at (i := i) t e
theorem RowsAt.len {H : Hp} {as : List Addr} {rs : List (List Int)} (h : RowsAt H as rs) : as.length = rs.length := Paired.length h
theorem RowsAt.take {H : Hp} : ∀ {as : List Addr} {rs : List (List Int)} (i : Nat), RowsAt H as rs → RowsAt H (as.take i) (rs.take i)
  | _, _, _, .nil => by rw [List.take_nil, List.take_nil]; exact .nil
  | _, _, 0, .cons _ _ => .nil
  | _, _, i + 1, .cons h t => .cons h (RowsAt.take i t)
theorem LRows.same {H H' : Hp} {l : Addr} {rs : List (List Int)} (s : Same H H') (h : LRows H l rs) : LRows H' l rs := by
  obtain ⟨as, h1, h2⟩ := h
  exact ⟨as, s _ _ h1, h2.same s⟩
theorem get_refs {as : List Addr} {i : Nat} {v : V} (h : (as.map V.ref)[i]? = some v) : ∃ a, as[i]? = some a ∧ v = V.ref a := by
  rw [List.getElem?_map] at h
  cases e : as[i]? with
  | none => rw [e] at h; cases h
  | some y => rw [e] at h; exact ⟨y, rfl, (Option.some.inj h).symm⟩
/-- a row stays a row where something else was written -/
theorem RowAt.off {H : Hp} {a p : Addr} {r : List Int} {o u : HO} (h : RowAt H a r) (hp : H p = some u) (hu : ∀ xs, u ≠ .tup xs) : RowAt (upd H p o) a r := by
  have n : a ≠ p := ne_of h hp (fun e => hu _ e.symm)
  show upd H p o a = _
  rw [upd_ne n]
  exact h
/-! ### rows as data -/
def rowD (r : List Int) : PyData := .tuple (r.map PyData.int)
theorem dp_ints {K : PySem.W.Frag} {H : Hp} : ∀ ns : List Int, DpAll K H (ns.map V.int) (ns.map PyData.int)
  | [] => .nil
  | n :: ns => .cons (.int n) (dp_ints ns)
theorem dp_row {K : PySem.W.Frag} {H : Hp} {a : Addr} {r : List Int} (h : RowAt H a r) : Dp K H (.ref a) (rowD r) := .tup (SqT.of h) (dp_ints r)
theorem dp_rows {K : PySem.W.Frag} {H : Hp} : ∀ {as : List Addr} {rs : List (List Int)}, RowsAt H as rs → DpAll K H (as.map V.ref) (rs.map rowD)
  | _, _, .nil => .nil
  | _, _, .cons h t => .cons (dp_row h) (dp_rows t)
theorem dp_lrows {K : PySem.W.Frag} {H : Hp} {l : Addr} {rs : List (List Int)} (h : LRows H l rs) : Dp K H (.ref l) (.list (rs.map rowD)) := by
  obtain ⟨as, h1, h2⟩ := h
  exact .lst (SqL.of h1) (dp_rows h2)
theorem ints_lay : ∀ ns : List Int, PyData.canLayAll0 (ns.map PyData.int) = true
  | [] => by simp [PyData.canLayAll0]
  | n :: ns => by simp [PyData.canLayAll0, PyData.canLay0, ints_lay ns]
theorem ints_deep : ∀ ns : List Int, PyData.depthAll (ns.map PyData.int) = 0
  | [] => by simp [PyData.depthAll]
  | n :: ns => by simp [PyData.depthAll, PyData.depth, ints_deep ns]
theorem row_lay (r : List Int) : (rowD r).canLay0 = true := by simp only [rowD, PyData.canLay0]; exact ints_lay r
theorem row_deep (r : List Int) : (rowD r).depth = 1 := by simp [rowD, PyData.depth, ints_deep r]
theorem rows_lay : ∀ rs : List (List Int), PyData.canLayAll0 (rs.map rowD) = true
  | [] => by simp [PyData.canLayAll0]
  | r :: rs => by simp [PyData.canLayAll0, row_lay r, rows_lay rs]
theorem rows_deep : ∀ rs : List (List Int), PyData.depthAll (rs.map rowD) ≤ 1
  | [] => by simp [PyData.depthAll]
  | r :: rs => by
    have h1 := rows_deep rs
    have h2 := row_deep r
    simp only [List.map_cons, PyData.depthAll]
    omega
theorem row_shaped (r : List Int) : SeqAt.shaped (rowD r) = true := by
  show ((rowD r).canLay0 && decide ((rowD r).depth ≤ 64)) = true
  rw [row_lay, row_deep]
  rfl
theorem rows_shaped (rs : List (List Int)) : SeqAt.shaped (.list (rs.map rowD)) = true := by
  have h1 := rows_deep rs
  have h2 : PyData.depth (.list (rs.map rowD)) ≤ 64 := by
    simp only [PyData.depth]
    omega
  show (PyData.canLay0 (.list (rs.map rowD)) && decide (PyData.depth (.list (rs.map rowD)) ≤ 64)) = true
  rw [Bool.and_eq_true]
  exact ⟨by simp only [PyData.canLay0]; exact rows_lay rs, decide_eq_true h2⟩
theorem ints_eqv : ∀ ns ms : List Int, PyData.eqvAll (ns.map PyData.int) (ms.map PyData.int) = decide (ns = ms)
  | [], [] => by simp [PyData.eqvAll]
  | [], _ :: _ => by simp [PyData.eqvAll]
  | _ :: _, [] => by simp [PyData.eqvAll]
  | n :: ns, m :: ms => by
    have ih := ints_eqv ns ms
    simp only [List.map_cons, PyData.eqvAll, PyData.eqv, ih]
    by_cases h : n = m
    · subst h
      simp
    · simp [h]
theorem row_eqv (r s : List Int) : PyData.eqv (rowD r) (rowD s) = decide (r = s) := by
  simp only [rowD, PyData.eqv]
  exact ints_eqv r s
theorem rowsAll_eqv : ∀ rs ss : List (List Int), PyData.eqvAll (rs.map rowD) (ss.map rowD) = decide (rs = ss)
  | [], [] => by simp [PyData.eqvAll]
  | [], _ :: _ => by simp [PyData.eqvAll]
  | _ :: _, [] => by simp [PyData.eqvAll]
  | r :: rs, s :: ss => by
    have ih := rowsAll_eqv rs ss
    simp only [List.map_cons, PyData.eqvAll, row_eqv, ih]
    by_cases h : r = s
    · subst h
      simp
    · simp [h]
theorem rows_eqv (rs ss : List (List Int)) : PyData.eqv (.list (rs.map rowD)) (.list (ss.map rowD)) = decide (rs = ss) := by
  simp only [PyData.eqv]
  exact rowsAll_eqv rs ss
theorem any_eqv (rs : List (List Int)) (r : List Int) : (rs.map rowD).any (fun z => PyData.eqv z (rowD r)) = decide (r ∈ rs) := by
  rw [List.any_map, Bool.eq_iff_iff, List.any_eq_true, decide_eq_true_iff]
  constructor
  · rintro ⟨x, hx, h⟩
    have h' : PyData.eqv (rowD x) (rowD r) = true := h
    rw [row_eqv, decide_eq_true_iff] at h'
    rw [← h']
    exact hx
  · intro h
    refine ⟨r, h, ?_⟩
    show PyData.eqv (rowD r) (rowD r) = true
    rw [row_eqv, decide_eq_true rfl]
/-- the cell of a table that stands as a tuple -/
theorem at_cell {t : List Int} {i : Int} (h0 : 0 ≤ i) (h1 : i < (t.length : Nat)) : atI (t.map V.int) i = some (V.int (cell t i)) := by
  have e : i = ((i.toNat : Nat) : Int) := by omega
  rw [e]
  refine atI_nat ?_
  have hl : i.toNat < t.length := by omega
  rw [List.getElem?_map, List.getElem?_eq_getElem hl]
  unfold cell
  rw [List.getD_eq_getElem?_getD]
  have e2 : (((i.toNat : Nat) : Int)).toNat = i.toNat := by omega
  rw [e2, List.getElem?_eq_getElem hl]
  rfl
/-! ### zip of two tuples -/
theorem walk_zipT {K : PySem.W.Frag} {a b : Addr} {xs ys : List V} {n : Nat} (h1 : xs.length = n) (h2 : ys.length = n) : Walk (RZ.ItzT K a b) n (fun H => SqT K H a xs ∧ SqT K H b ys) (YPair (fun i => xs[i]?) (fun i => ys[i]?)) := by
  subst h1
  refine ⟨fun i H hi q => ⟨xs, ys, xs[i], ys[i]'(by omega), q.1, q.2, by simp [hi], by simp [h2, hi]⟩, fun H q => ⟨xs, ys, q.1, q.2, .inl (Nat.le_refl _)⟩, fun i H v H' hi q y => ?_⟩
  obtain ⟨T, x, z, e1, e2, e3, e4, e5⟩ := y
  exact ⟨T, x, z, e1, e2, e3, e4 xs q.1, e5 ys q.2⟩
def spChk : Sp := fun vs H Q _ => ∃ (l : Addr) (rs : List (List Int)) (wd n : Nat), vs = [.ref l, .int wd, .int n] ∧ LRows H l rs ∧ wd ≤ 1000 ∧ (∀ r ∈ rs, Row n wd r) ∧ ∀ H', Same H H' → Q .non H'
section
variable {P : Program} {w : World} {K : PySem.W.Frag} {mg : Str → Option Value} {base : Heap}
theorem isi_list {K : PySem.W.Frag} {H : Hp} {l : Addr} {xs : List V} (h : H l = some (.lst xs)) : ∃ t u, ClsV (.ty "list") u ∧ TyX K H (.ref l) t ∧ PySem.W.kitOne K t u = some true :=
  ⟨_, _, .ty _, .base (.lst h), kit_ty (by decide +kernel)⟩
theorem sc_chk : FnScope ["rows", "wide", "size", "at", "row"] ["rows", "wide", "size"] (defScope sChk) := ⟨rfl, rfl, rfl, by decide +kernel, rfl, by decide +kernel, by decide +kernel⟩
theorem c_chk (Z : Zs mg) (D : DefAt K mg "check_rows" sChk ["rows", "wide", "size"]) (cR : Cal P w K mg base CX0 3 "is_row" spRow) : Cal P w K mg base CX0 4 "check_rows" spChk := by
  refine cal_of D sc_chk (fun vs H Q E h => ?_) (fun f cdv A outer s H vs Q E hr h => ?_)
  · obtain ⟨l, rs, wd, n, rfl, _⟩ := h
    rfl
  · obtain ⟨l, rs, wd, n, rfl, ⟨as, hl, ha⟩, hw, hrs, q⟩ := h
    refine ⟨_, pss_cons (ps_if (pt_not (pt_val (pe_callB call_isi (by rfl) Z.isi (by decide +kernel) (pa_cons (pv 0) (pa_cons (pe_ty "list" (by rfl) Z.list (by decide +kernel)) pa_nil))))) (pss_one ps_never) pss_nil)
      (pss_one (ps_for PassesOwn.never rfl (pi_enum (by rfl) Z.enum (pa_cons (pv 0) pa_nil)) (pg_tup rfl (pgs_cons (pg_name (i := 3) sc_chk.nd rfl (.inl rfl)) (pgs_cons (pg_name (i := 4) sc_chk.nd rfl (.inl rfl)) pgs_nil)))
        (pss_one (ps_if (pt_not (pt_val (pe_cl cR hr (by decide) pass0 (by rfl) (pa_cons (pv 4) (pa_cons (pv 1) (pa_cons (pv 2) pa_nil)))))) (pss_one ps_never) pss_nil)))), ?_⟩
    obtain ⟨t, u, k1, k2, k3⟩ := isi_list (K := K) hl
    refine ⟨_, rfl, _, _, _, _, true, rfl, k1, k2, k3, _, rfl, ?_⟩
    refine iteF ⟨_, rfl, l, as.map V.ref, rfl, SqL.of hl, for_it (walk_enum (xs := as.map V.ref)) (fun i σ H' => (∃ v3 v4, σ = [some (.ref l), some (.int wd), some (.int n), v3, v4]) ∧ Same H H')
      ⟨⟨_, _, rfl⟩, Same.refl H⟩ (fun i σ H' _ h => SqL.of (h.2 _ _ hl)) (fun i y σ H' H2 hi h hy => ?_) fun σ H' h => q _ h.2⟩
    obtain ⟨⟨v3, v4, rfl⟩, s1⟩ := h
    obtain ⟨Tp, a1, a2, rfl, nT, rfl, e1, e2⟩ := hy
    have e1 : a1 = V.int (i : Nat) := (Option.some.inj e1).symm
    subst e1
    obtain ⟨a, ea, rfl⟩ := get_refs e2
    obtain ⟨r, er, hr'⟩ := ha.get ea
    have s2 := s1.trans (same_new (o := .tup [.int (i : Nat), .ref a]) nT)
    refine ⟨Tp, _, rfl, SqT.of upd_same, rfl, _, _, rfl, _, _, rfl, rfl, ?_⟩
    refine ⟨_, rfl, _, rfl, _, rfl, a, r, wd, n, rfl, s2 _ _ hr', hrs r (List.mem_of_getElem? er), hw, fun H3 s3 => ⟨_, rfl, ?_⟩⟩
    exact iteF ⟨⟨_, _, rfl⟩, s2.trans s3⟩
/-! ### put_together -/
def spPut : Sp := fun vs H Q _ => ∃ (ta l : Addr) (t : List Int) (n wd : Nat), vs = [.ref ta, .int n, .ref l, .int wd] ∧ RowAt H ta t ∧ n ≤ 9 ∧ wd ≤ 1000 ∧
  ((∃ r, LRows H l [r] ∧ Row n wd r ∧ n ≤ t.length ∧ ∀ a H', Same H H' → RowAt H' a (ap1 t r) → Q (.ref a) H') ∨
   ∃ r s, LRows H l [r, s] ∧ Row n wd r ∧ Row n wd s ∧ n * n ≤ t.length ∧ ∀ a H', Same H H' → RowAt H' a (ap2 n t r s) → Q (.ref a) H')
theorem lrows1 {H : Hp} {l : Addr} {r : List Int} (h : LRows H l [r]) : ∃ a, H l = some (.lst [.ref a]) ∧ RowAt H a r := by
  obtain ⟨as, h1, h2⟩ := h
  cases h2 with
  | cons h t =>
    cases t
    exact ⟨_, h1, h⟩
theorem lrows2 {H : Hp} {l : Addr} {r s : List Int} (h : LRows H l [r, s]) : ∃ a b, H l = some (.lst [.ref a, .ref b]) ∧ RowAt H a r ∧ RowAt H b s := by
  obtain ⟨as, h1, h2⟩ := h
  cases h2 with
  | cons h t =>
    cases t with
    | cons h' t' =>
      cases t'
      exact ⟨_, _, h1, h, h'⟩
theorem sc_put : FnScope ["table", "size", "rows", "wide", "one", "other", "things"] ["table", "size", "rows", "wide"] (defScope sPut) := ⟨rfl, rfl, rfl, by decide +kernel, rfl, by decide +kernel, by decide +kernel⟩
theorem c_put (Z : Zs mg) (D : DefAt K mg "put_together" sPut ["table", "size", "rows", "wide"]) : Cal P w K mg base CX0 1 "put_together" spPut := by
  refine cal_of D sc_put (fun vs H Q E h => ?_) (fun f cdv A outer s H vs Q E hr h => ?_)
  · obtain ⟨ta, l, t, n, wd, rfl, _⟩ := h
    rfl
  · obtain ⟨ta, l, t, n, wd, rfl, ht, hn, hw, q⟩ := h
    refine ⟨_, pss_cons (ps_if (pt_cmpR (op_eqD hr.units) (pv 2) (pe_lst pa_nil) (nomark _)) (pss_one ps_never) pss_nil)
      (pss_cons (ps_if (pt_cmpR op_eq (pe_callB call_len_seq (by rfl) Z.len PySem.boot_len (pa_cons (pv 2) pa_nil)) pe_int (nomark _))
        (pss_one (ps_ret (pe_callTy call_tuple_of (by rfl) Z.tuple (by decide +kernel) (pa_cons (pe_lc (own := [("one", 4)]) (g := gName 4) (tt := tYes) (by rfl) sc_put.nd (pi_tup (pe_ix ix_list (pv 2) pe_int (fun _ _ => rfl)))
          (blkOk_by (own := [("one", 4)]) (N := ["table", "size", "rows", "wide", "one", "other", "things"]) (sc := defScope sPut) (by decide +kernel)) (fun _ _ _ _ _ => pg_name (i := 4) sc_put.nd rfl (Or.inl rfl)) (fun _ _ _ _ _ => pts_nil)
          (fun _ _ _ _ _ => pe_ix (r := rIxT K) ix_tup (pv 0) (pv 4) (fun _ _ => rfl))) pa_nil)))) pss_nil)
      (pss_cons (ps_if (pt_cmpR op_eq (pe_callB call_len_seq (by rfl) Z.len PySem.boot_len (pa_cons (pv 2) pa_nil)) pe_int (nomark _))
        (pss_one (ps_ret (pe_callTy call_tuple_of (by rfl) Z.tuple (by decide +kernel) (pa_cons (pe_lc (own := [("one", 4), ("other", 5)]) (g := gTup K 2 (gCons (gName 4) (gCons (gName 5) gNil))) (tt := tYes) (by rfl) sc_put.nd
          (RZ.pi_zipA (by rfl) Z.zip (pa_cons (pe_ix ix_list (pv 2) pe_int (fun _ _ => rfl)) (pa_cons (pe_ix ix_list (pv 2) pe_int (fun _ _ => rfl)) pa_nil)))
          (blkOk_by (own := [("one", 4), ("other", 5)]) (N := ["table", "size", "rows", "wide", "one", "other", "things"]) (sc := defScope sPut) (by decide +kernel))
          (fun _ _ _ _ _ => pg_tup rfl (pgs_cons (pg_name (i := 4) sc_put.nd rfl (Or.inl rfl)) (pgs_cons (pg_name (i := 5) sc_put.nd rfl (Or.inl rfl)) pgs_nil))) (fun _ _ _ _ _ => pts_nil)
          (fun _ _ _ _ _ => pe_ix (r := rIxT K) ix_tup (pv 0) (pe_op op_add (pe_op op_mul (pv 4) (pv 1)) (pv 5)) (fun _ _ => rfl))) pa_nil)))) pss_nil)
      (pss_one ps_never))), ?_⟩
    rcases q with ⟨r, hl, hrr, htl, q⟩ | ⟨r, s2, hl, hrr, hss, htl, q⟩
    · -- one row
      obtain ⟨a, h1, h2⟩ := lrows1 hl
      refine ⟨_, rfl, Nat.zero_le _, fun e ne => ⟨_, _, dp_lrows (hl.same (same_new ne)), .lst (SqL.of upd_same) .nil, rows_shaped _, rows_shaped [], _, rfl, ?_⟩⟩
      have e0 : PyData.eqv (.list ([r].map rowD)) (.list []) = false := (rows_eqv [r] []).trans (by simp)
      rw [e0]
      have hl' := hl.same (same_new (o := .lst []) ne)
      obtain ⟨a', h1', h2'⟩ := lrows1 hl'
      refine iteF ⟨_, rfl, l, _, rfl, .inl (SqL.of h1'), rfl, _, rfl, ?_⟩
      refine iteT ⟨_, rfl, l, _, 0, .ref a', rfl, rfl, SqL.of h1', atI_nat rfl, a', rfl, ⟨_, SqT.of h2'⟩, fun D nD => ?_⟩
      have s0 : Same H (upd H e (.lst [])) := same_new ne
      refine lc_tup (K := K) (a := a') (xs := r.map V.int) (fun i H' => H' D = some (.lst (((ap1 t r).take i).map V.int)) ∧ Same (upd H e (.lst [])) H') ⟨upd_same, same_new nD⟩ (fun i H' _ h => SqT.of (h.2 _ _ h2')) (fun i x H' hx h => ?_) fun H' h => ?_
      · obtain ⟨z, hz, rfl⟩ := get_map_int hx
        have hzr := hrr.2 z (List.mem_of_getElem? hz)
        refine ⟨rfl, _, rfl, _, rfl, ta, _, z, _, rfl, rfl, SqT.of (h.2 _ _ (s0 _ _ ht)), at_cell hzr.1 (by omega), _, h.1, ?_, ?_, ?_⟩
        · rw [List.length_map, List.length_take]
          have := (List.getElem?_eq_some_iff.mp hz).1
          have := hrr.1
          exact small1000 (by omega)
        · have e2 : (ap1 t r)[i]? = some (cell t z) := by unfold ap1; rw [List.getElem?_map, hz]; rfl
          rw [upd_same, take_more e2, List.map_append]
          rfl
        · exact same_put nD h.2
      · refine ⟨D, _, rfl, .inl ⟨SqL.of h.1, fun c hc => q c _ ((s0.trans h.2).trans (same_new hc)) ?_⟩⟩
        show upd H' c _ c = _
        rw [upd_same]
        have e3 : (ap1 t r).take (r.map V.int).length = ap1 t r := by
          rw [List.length_map]
          exact List.take_of_length_le (by unfold ap1; rw [List.length_map]; exact Nat.le_refl _)
        rw [e3]
    · -- two rows
      refine ⟨_, rfl, Nat.zero_le _, fun e ne => ⟨_, _, dp_lrows (hl.same (same_new ne)), .lst (SqL.of upd_same) .nil, rows_shaped _, rows_shaped [], _, rfl, ?_⟩⟩
      have e0 : PyData.eqv (.list ([r, s2].map rowD)) (.list []) = false := (rows_eqv [r, s2] []).trans (by simp)
      rw [e0]
      have s0 : Same H (upd H e (.lst [])) := same_new ne
      obtain ⟨a, b, h1, h2, h3⟩ := lrows2 (hl.same s0)
      refine iteF ⟨_, rfl, l, _, rfl, .inl (SqL.of h1), rfl, _, rfl, ?_⟩
      refine iteF ⟨_, rfl, l, _, rfl, .inl (SqL.of h1), rfl, _, rfl, ?_⟩
      refine iteT ⟨_, rfl, l, _, 0, .ref a, rfl, rfl, SqL.of h1, atI_nat rfl, _, rfl, l, _, 1, .ref b, rfl, rfl, SqL.of h1, atI_nat rfl, a, b, r.map V.int, s2.map V.int, rfl, .inr ⟨SqT.of h2, SqT.of h3, fun D nD => ?_⟩⟩
      refine lc_it (walk_zipT (n := wd) (by rw [List.length_map]; exact hrr.1) (by rw [List.length_map]; exact hss.1)) (fun i H' => H' D = some (.lst (((ap2 n t r s2).take i).map V.int)) ∧ Same (upd H e (.lst [])) H') ⟨upd_same, same_new nD⟩
        (fun i H' _ h => ⟨SqT.of (h.2 _ _ h2), SqT.of (h.2 _ _ h3)⟩) (fun i x H' H2 hi h hy => ?_) fun H' h => ?_
      · obtain ⟨Tp, a1, a2, rfl, nT, rfl, e1, e2⟩ := hy
        obtain ⟨z, hz, rfl⟩ := get_map_int e1
        obtain ⟨y, hy, rfl⟩ := get_map_int e2
        have hzr := hrr.2 z (List.mem_of_getElem? hz)
        have hyr := hss.2 y (List.mem_of_getElem? hy)
        have sp := spot_in hzr hyr
        have hnn : ((n * n : Nat) : Int) = (n : Int) * n := Int.natCast_mul n n
        have nDT : D ≠ Tp := ne_of_none h.1 nT
        refine ⟨Tp, _, rfl, SqT.of upd_same, rfl, _, _, rfl, _, _, rfl, rfl, rfl, ?_⟩
        refine ⟨_, rfl, _, rfl, _, rfl, z, n, rfl, rfl, .inl (by omega), _, rfl, _, y, rfl, rfl, ta, _, _, _, rfl, rfl, SqT.of ((h.2.trans (same_new nT)) _ _ (s0 _ _ ht)), at_cell sp.1 (by omega), _, by rw [upd_ne nDT]; exact h.1, ?_, ?_, ?_⟩
        · rw [List.length_map, List.length_take]
          exact small1000 (by omega)
        · have e2 : (ap2 n t r s2)[i]? = some (cell t (z * n + y)) := by rw [ap2_get, hz, hy]
          rw [upd_same, take_more e2, List.map_append]
          rfl
        · exact same_put nD (h.2.trans (same_new nT))
      · refine ⟨D, _, rfl, .inl ⟨SqL.of h.1, fun c hc => q c _ ((s0.trans h.2).trans (same_new hc)) ?_⟩⟩
        show upd H' c _ c = _
        rw [upd_same]
        have e3 : (ap2 n t r s2).take wd = ap2 n t r s2 := List.take_of_length_le (by unfold ap2; rw [List.length_zipWith, hrr.1, hss.1, Nat.min_self]; exact Nat.le_refl _)
        rw [e3]
end
end K26

set_option linter.all false
/-! # The growing of rows: the plain part -/
namespace K26
/-- rows made so far: of what may be made, unlike, not too many -/
structure Good (M : List Int → Prop) (most : Nat) (rs : List (List Int)) : Prop where
  mem : ∀ r ∈ rs, M r
  nd : rs.Nodup
  len : rs.length ≤ most
/-- more may be made than are let -/
def TooBig (M : List Int → Prop) (most : Nat) : Prop := ∃ L : List (List Int), L.Nodup ∧ (∀ r ∈ L, M r) ∧ L.length = most + 1
def adds (rs : List (List Int)) (v : List Int) : List (List Int) := if v ∈ rs then rs else rs ++ [v]
/-- rs stands at the head of rs' -/
def Pre (rs rs' : List (List Int)) : Prop := ∃ t, rs' = rs ++ t
theorem Pre.refl (rs : List (List Int)) : Pre rs rs := ⟨[], by simp⟩
theorem Pre.trans {a b c : List (List Int)} (h : Pre a b) (k : Pre b c) : Pre a c := by
  obtain ⟨t, rfl⟩ := h
  obtain ⟨u, rfl⟩ := k
  exact ⟨t ++ u, by rw [List.append_assoc]⟩
theorem Pre.mem {a b : List (List Int)} (h : Pre a b) {r : List Int} (m : r ∈ a) : r ∈ b := by
  obtain ⟨t, rfl⟩ := h
  exact List.mem_append_left _ m
theorem Pre.get {a b : List (List Int)} (h : Pre a b) {i : Nat} {r : List Int} (e : a[i]? = some r) : b[i]? = some r := by
  obtain ⟨t, rfl⟩ := h
  rw [List.getElem?_append_left (List.getElem?_eq_some_iff.mp e).1]
  exact e
theorem Pre.get' {a b : List (List Int)} (h : Pre a b) {i : Nat} {r : List Int} (hi : i < a.length) (e : b[i]? = some r) : a[i]? = some r := by
  obtain ⟨t, rfl⟩ := h
  rw [List.getElem?_append_left hi] at e
  exact e
theorem Pre.len {a b : List (List Int)} (h : Pre a b) : a.length ≤ b.length := by
  obtain ⟨t, rfl⟩ := h
  rw [List.length_append]
  exact Nat.le_add_right _ _
theorem adds_pre (rs : List (List Int)) (v : List Int) : Pre rs (adds rs v) := by
  unfold adds
  split
  · exact Pre.refl rs
  · exact ⟨[v], rfl⟩
theorem adds_mem (rs : List (List Int)) (v : List Int) : v ∈ adds rs v := by
  unfold adds
  split
  · assumption
  · simp
theorem nodup_snoc {α : Type} {l : List α} {x : α} (h : l.Nodup) (hx : x ∉ l) : (l ++ [x]).Nodup := by
  rw [List.nodup_append]
  refine ⟨h, by simp, fun a ha b hb e => ?_⟩
  rw [List.mem_singleton.mp hb] at e
  exact hx (e ▸ ha)
theorem adds_good {M : List Int → Prop} {most : Nat} {rs : List (List Int)} {v : List Int} (g : Good M most rs) (m : M v) (h : v ∈ rs ∨ rs.length ≠ most) : Good M most (adds rs v) := by
  unfold adds
  by_cases hv : v ∈ rs
  · rw [if_pos hv]
    exact g
  · rw [if_neg hv]
    have hl : rs.length ≠ most := h.resolve_left hv
    have := g.len
    refine ⟨fun r hr => ?_, nodup_snoc g.nd hv, by rw [List.length_append, List.length_singleton]; omega⟩
    rcases List.mem_append.mp hr with hr | hr
    · exact g.mem r hr
    · rw [List.mem_singleton.mp hr]
      exact m
theorem adds_big {M : List Int → Prop} {most : Nat} {rs : List (List Int)} {v : List Int} (g : Good M most rs) (m : M v) (hv : v ∉ rs) (hl : rs.length = most) : TooBig M most := by
  refine ⟨rs ++ [v], nodup_snoc g.nd hv, fun r hr => ?_, by rw [List.length_append, List.length_singleton, hl]⟩
  rcases List.mem_append.mp hr with hr | hr
  · exact g.mem r hr
  · rw [List.mem_singleton.mp hr]
    exact m
/-- what one turn with row number k is to bring, of one deed -/
def Step1 (n : Int) (d : Deed) (k : Nat) (r : List Int) (rs rs' : List (List Int)) : Prop := (d.1 = 1 → ap1 d.2 r ∈ rs') ∧ (d.1 = 2 → ∀ i s, i ≤ k → rs[i]? = some s → ap2 n d.2 r s ∈ rs' ∧ ap2 n d.2 s r ∈ rs')
theorem Step1.mono {n : Int} {d : Deed} {k : Nat} {r : List Int} {rs a b : List (List Int)} (h : Step1 n d k r rs a) (p : Pre a b) : Step1 n d k r rs b :=
  ⟨fun e => p.mem (h.1 e), fun e i s hi hs => ⟨p.mem (h.2 e i s hi hs).1, p.mem (h.2 e i s hi hs).2⟩⟩
/-- all is brought of the rows below k -/
def Done (n : Int) (D : List Deed) (rs : List (List Int)) (k : Nat) : Prop := ∀ d ∈ D, (d.1 = 1 → ∀ i r, i < k → rs[i]? = some r → ap1 d.2 r ∈ rs) ∧ (d.1 = 2 → ∀ i j r s, i < k → j < k → rs[i]? = some r → rs[j]? = some s → ap2 n d.2 r s ∈ rs)
theorem done0 {n : Int} {D : List Deed} {rs : List (List Int)} : Done n D rs 0 := fun d _ => ⟨fun _ i r h => absurd h (Nat.not_lt_zero i), fun _ i j r s h => absurd h (Nat.not_lt_zero i)⟩
theorem done_step {n : Int} {D : List Deed} {rs rs' : List (List Int)} {k : Nat} {r : List Int} (hd : Done n D rs k) (hk : rs[k]? = some r) (p : Pre rs rs') (st : ∀ d ∈ D, Step1 n d k r rs rs') : Done n D rs' (k + 1) := by
  have hkl : k < rs.length := (List.getElem?_eq_some_iff.mp hk).1
  intro d hd'
  obtain ⟨a1, a2⟩ := hd d hd'
  obtain ⟨b1, b2⟩ := st d hd'
  constructor
  · intro e i x hi hx
    have hx' := p.get' (by omega) hx
    by_cases hik : i = k
    · subst hik
      rw [hk] at hx'
      cases hx'
      exact b1 e
    · exact p.mem (a1 e i x (by omega) hx')
  · intro e i j x y hi hj hx hy
    have hx' := p.get' (by omega) hx
    have hy' := p.get' (by omega) hy
    by_cases hik : i = k
    · subst hik
      rw [hk] at hx'
      cases hx'
      exact (b2 e j y (by omega) hy').1
    · by_cases hjk : j = k
      · subst hjk
        rw [hk] at hy'
        cases hy'
        exact (b2 e i x (by omega) hx').2
      · exact p.mem (a2 e i j x y (by omega) (by omega) hx' hy')
/-- what is done up to the end is closed -/
theorem done_closed {n : Int} {D : List Deed} {rs : List (List Int)} {w : Nat} (h : Done n D rs rs.length) (h0 : ∀ t, (0, t) ∈ D → ap0 t w ∈ rs) : Closed n D w (fun r => r ∈ rs) := by
  refine ⟨h0, fun t r hd hr => ?_, fun t r s hd hr hs => ?_⟩
  · obtain ⟨i, hi⟩ := List.getElem?_of_mem hr
    exact (h _ hd).1 rfl i r (List.getElem?_eq_some_iff.mp hi).1 hi
  · obtain ⟨i, hi⟩ := List.getElem?_of_mem hr
    obtain ⟨j, hj⟩ := List.getElem?_of_mem hs
    exact (h _ hd).2 rfl i j r s (List.getElem?_eq_some_iff.mp hi).1 (List.getElem?_eq_some_iff.mp hj).1 hi hj
theorem nodup_len : ∀ {a b : List (List Int)}, a.Nodup → (∀ x ∈ a, x ∈ b) → a.length ≤ b.length
  | [], _, _, _ => Nat.zero_le _
  | x :: a, b, nd, h => by
    have hn := List.nodup_cons.mp nd
    have hx := h x List.mem_cons_self
    have ih := nodup_len (a := a) (b := b.erase x) hn.2 fun y hy => (List.mem_erase_of_ne (fun e : y = x => hn.1 (by rw [← e]; exact hy))).mpr (h y (List.mem_cons_of_mem _ hy))
    rw [List.length_erase_of_mem hx] at ih
    have : 0 < b.length := List.length_pos_of_mem hx
    rw [List.length_cons]
    omega
/-- no more than these -/
theorem not_big {M : List Int → Prop} {most : Nat} {L : List (List Int)} (hL : L.length ≤ most) (h : ∀ r, M r → r ∈ L) : ¬ TooBig M most := by
  rintro ⟨B, nd, mem, len⟩
  have := nodup_len nd fun r hr => h r (mem r hr)
  omega
end K26

set_option Elab.async false
set_option linter.all false
set_option maxRecDepth 100000
set_option maxHeartbeats 4000000
/-! # TooMany; the class Growing: __init__, put, use -/
namespace K26
open PySem PySem.Spec PyProof.Rows L2
abbrev sTooMany : Stmt := inClass (top 6) 0
abbrev sGInit : Stmt := inClass (top 25) 0
abbrev sGPut : Stmt := inClass (top 25) 1
abbrev sGUse : Stmt := inClass (top 25) 2
/-- the error's class, at C; its __init__ at f; its base at W -/
structure TMTxt (K : PySem.W.Frag) (mg : Str → Option Value) (C W : Addr) : Prop where
  o : OexC K C
  gC : mg "TooMany" = some (.ref C)
  gW : mg "WishError" = some (.ref W)
  bW : BaseIni K W
  nM : PySem.W.findIn K (.ref C) "many" = some none
  te : PySem.W.exmOne K (.ref C) (.ref C) = some true
  ini : ∃ (f : Addr) (fd : FuncData), L2.Fun K "__init__" "TooMany.__init__" sTooMany f fd ∧ PySem.W.findIn K (.ref C) "__init__" = some (some (.ref f)) ∧ PySem.W.typeIn K (.ref f) = some (.type "function") ∧ Binds K fd ["self", "many"] []
def spTM (C : Addr) : Sp := fun vs H Q _ => ∃ (a : Addr) (m : Int), vs = [.ref a, .int m] ∧ H a = some (exo a C none) ∧ ∀ dx, H dx = none → dx ≠ a → Q .non (upd (upd H dx (exd dx [("many", .int m)])) a (exo a C (some dx)))
section
variable {P : Program} {w : World} {K : PySem.W.Frag} {mg : Str → Option Value} {base : Heap}
theorem sc_tm : FnScope ["self", "many"] ["self", "many"] (defScope sTooMany) := ⟨rfl, rfl, rfl, by decide +kernel, rfl, by decide +kernel, by decide +kernel⟩
theorem ok_tm {C W f : Addr} {fd : FuncData} (T : TMTxt K mg C W) (F : L2.Fun K "__init__" "TooMany.__init__" sTooMany f fd) : FnOk P w K mg base CX0 1 f fd ["self", "many"] (spTM C) := by
  refine F.ok sc_tm (fun vs H Q E h => ?_) (fun cdv A outer s H vs Q E hr h => ?_)
  · obtain ⟨a, m, rfl, _⟩ := h
    rfl
  · obtain ⟨a, m, rfl, ha, q⟩ := h
    refine ⟨_, pss_cons (ps_expr (pe_baseIni T.bW (by rfl) T.gW (pa_cons (pv 0) (pa_cons pe_str pa_nil)))) (pss_one (ps_ost (pv 0) (pv 1))), ?_⟩
    refine ⟨_, rfl, a, C, _, rfl, (by show 1 ≤ 1000; decide), T.o, ha, ?_⟩
    exact ⟨_, rfl, _, rfl, a, C, rfl, T.o, T.nM, .inl ⟨ha, fun dx h1 h2 => q dx h1 h2⟩⟩
/-- raise TooMany(e) -/
theorem ps_tooMany {X : Cx} {C W : Addr} {Wx : WX} {e : Expr} {te : TE} {p pos pos2 : Pos} {j : Nat} (hc : X.calm = true) (T : TMTxt X.K X.mg C W) (hr : Room j X.A) (hj : 2 ≤ j) (tk : Takes X Wx) (he : PE X e te) (hg : Gl X "TooMany" := by rfl)
    (hst : starEach (e :: []) X.env = (false, eval e X.env) :: starEach [] X.env := by rfl) (hpl : (backTo pos (starEach [] X.env)).any (·.1) = false := by rfl) :
    PS X (.Raise (some (.Call (.Name "TooMany" p) [e] [] pos)) none pos2) (fun _ σ H => tMkO C (spTM C) [] (tCons te tNil) σ H fun cls d H' => Wx cls d σ H') := by
  obtain ⟨f, fd, F, iC, tI, b⟩ := T.ini
  have pm := pmk_oex (pos := pos) (p := p) T.o iC tI (ok_tm (P := X.prog) (w := X.w) (base := X.base) T F) (hr.mono hj) b .nil pass0 hg T.gC (pa_cons he pa_nil hst) (by decide) hst hpl
  exact ps_raise (pos := pos2) hc tk pm
theorem tm_end {C : Addr} {H : Hp} {Q : XK} {E : XK} {m : Int} (h : ∀ d H', Same H H' → Q (.ref C) d H') : ([V.int m] : List V).length ≤ 1000 ∧ ∀ a, H a = none → spTM C (.ref a :: ([V.int m] ++ [])) (upd H a (exo a C none))
    (fun v H2 => v = .non ∧ ∃ (d : Addr) (fs : List (Str × V)), H2 a = some (exo a C (some d)) ∧ H2 d = some (exd d fs) ∧ H d = none ∧ Q (.ref C) (some d) (upd (del H2 a) d (.xd fs))) E := by
  refine ⟨by show 1 ≤ 1000; decide, fun a na => ⟨a, m, rfl, upd_same, fun dx n1 n2 => ⟨rfl, dx, _, upd_same, by rw [upd_ne n2]; exact upd_same, ?_, ?_⟩⟩⟩
  · rw [upd_ne n2] at n1
    exact n1
  · rw [upd_ne n2] at n1
    refine h _ _ fun b o e => ?_
    have h1 : b ≠ dx := ne_of_none e n1
    have h2 : b ≠ a := ne_of_none e na
    rw [upd_ne h1, del_ne h2, upd_ne h2, upd_ne h1, upd_ne h2]
    exact e
/-! ### the class Growing -/
structure GA where
  g : Addr
  hs : Addr
  dn : Addr
  rl : Addr
  sl : Addr
  wd : Nat
  most : Nat
def gfs (x : GA) : List (Str × V) := putF "steps" (.ref x.sl) (putF "rows" (.ref x.rl) (putF "numbers" (.ref x.dn) (putF "most" (.int x.most) (putF "wide" (.int x.wd) (putF "house" (.ref x.hs) [])))))
theorem gfs_look (x : GA) (f : Str) : (gfs x).lookup f = if f = "steps" then some (.ref x.sl) else if f = "rows" then some (.ref x.rl) else if f = "numbers" then some (.ref x.dn) else if f = "most" then some (.int x.most) else if f = "wide" then some (.int x.wd) else if f = "house" then some (.ref x.hs) else none := by
  unfold gfs
  simp only [lookup_putF]
  rfl
theorem g_steps (x : GA) : (gfs x).lookup ("steps" : Str) = some (.ref x.sl) := by rw [gfs_look, if_pos rfl]
theorem g_rows (x : GA) : (gfs x).lookup ("rows" : Str) = some (.ref x.rl) := by rw [gfs_look, if_neg (by decide +kernel), if_pos rfl]
theorem g_numbers (x : GA) : (gfs x).lookup ("numbers" : Str) = some (.ref x.dn) := by rw [gfs_look, if_neg (by decide +kernel), if_neg (by decide +kernel), if_pos rfl]
theorem g_most (x : GA) : (gfs x).lookup ("most" : Str) = some (.int x.most) := by rw [gfs_look, if_neg (by decide +kernel), if_neg (by decide +kernel), if_neg (by decide +kernel), if_pos rfl]
theorem g_wide (x : GA) : (gfs x).lookup ("wide" : Str) = some (.int x.wd) := by rw [gfs_look, if_neg (by decide +kernel), if_neg (by decide +kernel), if_neg (by decide +kernel), if_neg (by decide +kernel), if_pos rfl]
theorem g_house (x : GA) : (gfs x).lookup ("house" : Str) = some (.ref x.hs) := by rw [gfs_look, if_neg (by decide +kernel), if_neg (by decide +kernel), if_neg (by decide +kernel), if_neg (by decide +kernel), if_neg (by decide +kernel), if_pos rfl]
theorem g_no (x : GA) {m : Str} (h : (["steps", "rows", "numbers", "most", "wide", "house"] : List Str).all (fun y => !decide (m = y)) = true) : (gfs x).lookup m = none := by
  simp only [List.all_cons, List.all_nil, Bool.and_true, Bool.and_eq_true, Bool.not_eq_true', decide_eq_false_iff_not] at h
  obtain ⟨h1, h2, h3, h4, h5, h6⟩ := h
  rw [gfs_look, if_neg h1, if_neg h2, if_neg h3, if_neg h4, if_neg h5, if_neg h6]
structure GTxt (K : PySem.W.Frag) (C : Addr) : Prop where
  cl : Cls K C
  n1 : NoAttr K C "house"
  n2 : NoAttr K C "wide"
  n3 : NoAttr K C "most"
  n4 : NoAttr K C "numbers"
  n5 : NoAttr K C "rows"
  n6 : NoAttr K C "steps"
/-- a Growing stands, with the rows rs -/
structure GAt (C : Addr) (H : Hp) (x : GA) (rs : List (List Int)) : Prop where
  ob : ∃ dx, H x.g = some (.ins C dx (gfs x))
  nm : ∃ kvs : List (List Key × V), H x.dn = some (.dT kvs) ∧ kvs.map (·.1) = rs.map (List.map Sum.inl)
  rw : LRows H x.rl rs
  st : ∃ ss : List V, H x.sl = some (.lst ss) ∧ ss.length = rs.length
  ne : x.rl ≠ x.sl
/-- nothing else is changed -/
def But (x : GA) (H H' : Hp) : Prop := ∀ b o, H b = some o → b ≠ x.dn → b ≠ x.rl → b ≠ x.sl → H' b = some o
theorem But.of {x : GA} {H H' : Hp} (s : Same H H') : But x H H' := fun b o e _ _ _ => s b o e
theorem But.trans {x : GA} {H H1 H2 : Hp} (a : But x H H1) (b : But x H1 H2) : But x H H2 := fun c o e h1 h2 h3 => b c o (a c o e h1 h2 h3) h1 h2 h3
theorem GAt.same {C : Addr} {H H' : Hp} {x : GA} {rs : List (List Int)} (s : Same H H') (h : GAt C H x rs) : GAt C H' x rs := by
  obtain ⟨⟨dx, h1⟩, ⟨kvs, h2, h3⟩, h4, ⟨ss, h5, h6⟩, h7⟩ := h
  exact ⟨⟨dx, s _ _ h1⟩, ⟨kvs, s _ _ h2, h3⟩, h4.same s, ⟨ss, s _ _ h5, h6⟩, h7⟩
/-- rows, tuples, houses are not changed -/
theorem But.tup {C : Addr} {x : GA} {H H' : Hp} {rs : List (List Int)} (g : GAt C H x rs) (b : But x H H') {a : Addr} {o : HO} (h : H a = some o) (h1 : ∀ kvs, o ≠ .dT kvs) (h2 : ∀ ys, o ≠ .lst ys) : H' a = some o := by
  obtain ⟨_, ⟨kvs, e2, _⟩, ⟨as, e4, _⟩, ⟨ss, e5, _⟩, _⟩ := g
  exact b a o h (ne_of h e2 (h1 _)) (ne_of h e4 (h2 _)) (ne_of h e5 (h2 _))
theorem But.row {C : Addr} {x : GA} {H H' : Hp} {rs : List (List Int)} (g : GAt C H x rs) (b : But x H H') {a : Addr} {r : List Int} (h : RowAt H a r) : RowAt H' a r := b.tup g h (fun _ => by intro z; cases z) (fun _ => by intro z; cases z)
theorem But.dd {C : Addr} {x : GA} {H H' : Hp} {rs : List (List Int)} (g : GAt C H x rs) (b : But x H H') {d : Dd} (h : DdAt H d) : DdAt H' d := ⟨b.tup g h.1 (fun _ => by intro z; cases z) (fun _ => by intro z; cases z), b.row g h.2⟩
theorem But.house {C CH : Addr} {x : GA} {H H' : Hp} {rs : List (List Int)} (g : GAt C H x rs) (b : But x H H') {h : Addr} {n : Nat} {ds : List Dd} (hh : HouseAt CH H h n ds) : HouseAt CH H' h n ds := by
  obtain ⟨dx, d, h1, h2, h3⟩ := hh
  exact ⟨dx, d, b.tup g h1 (fun _ => by intro z; cases z) (fun _ => by intro z; cases z), b.tup g h2 (fun _ => by intro z; cases z) (fun _ => by intro z; cases z), fun y hy => b.dd g (h3 y hy)⟩
theorem valV_none_iff {κ : Type} [DecidableEq κ] {kvs : List (κ × V)} {k : κ} : valV kvs k = none ↔ k ∉ kvs.map (·.1) := by
  unfold valV
  rw [Option.map_eq_none_iff, List.find?_eq_none]
  constructor
  · intro h hm
    obtain ⟨p, hp, e⟩ := List.mem_map.mp hm
    have := h p hp
    simp [e] at this
  · intro h p hp
    have : ¬ p.1 = k := fun e => h (List.mem_map.mpr ⟨p, hp, e⟩)
    simpa using this
theorem inl_inj : ∀ {r s : List Int}, r.map (Sum.inl : Int → Key) = s.map Sum.inl → r = s
  | [], [], _ => rfl
  | [], _ :: _, h => by cases h
  | _ :: _, [], h => by cases h
  | a :: r, b :: s, h => by
    have h1 : (Sum.inl a : Key) = Sum.inl b := (List.cons.inj h).1
    have h2 := inl_inj (r := r) (s := s) (List.cons.inj h).2
    rw [Sum.inl.inj h1, h2]
theorem keys_mem {rs : List (List Int)} {r : List Int} : r.map (Sum.inl : Int → Key) ∈ rs.map (List.map Sum.inl) ↔ r ∈ rs := by
  constructor
  · intro h
    obtain ⟨s, hs, e⟩ := List.mem_map.mp h
    rw [← inl_inj e]
    exact hs
  · exact fun h => List.mem_map.mpr ⟨r, h, rfl⟩
theorem key_tup (r : List Int) : (r.map (Sum.inl : Int → Key)).map kV = r.map V.int := by
  rw [List.map_map]
  rfl
/-- put's promise: where the row is there nothing; else too many, or the row more -/
def spPutM (C Ct : Addr) : Sp := fun vs H Q E => ∃ (x : GA) (a b : Addr) (r : List Int) (rs : List (List Int)), vs = [.ref x.g, .ref a, .ref b] ∧ GAt C H x rs ∧ RowAt H a r ∧ rs.length ≤ 1000 ∧
  (r ∉ rs → rs.length = x.most → ∀ d H', Same H H' → E (.ref Ct) d H') ∧ ((r ∈ rs ∨ rs.length ≠ x.most) → ∀ H', But x H H' → GAt C H' x (adds rs r) → Q .non H')
theorem sc_gput : FnScope ["self", "row", "step"] ["self", "row", "step"] (defScope sGPut) := ⟨rfl, rfl, rfl, by decide +kernel, rfl, by decide +kernel, by decide +kernel⟩
theorem c_gput (Z : Zs mg) {C Ct W : Addr} (T : GTxt K C) (TM : TMTxt K mg Ct W) (D : MetAt K C "put" "Growing.put" sGPut ["self", "row", "step"]) : Met P w K mg base (L2.CX P w) 3 C "put" (spPutM C Ct) := by
  refine met_ofX D sc_gput (fun vs H Q E h => ?_) (fun f cdv A outer s H vs Q E hr h => ?_)
  · obtain ⟨x, a, b, r, rs, rfl, _⟩ := h
    rfl
  · obtain ⟨x, a, b, r, rs, rfl, G, ha, hz, qE, q⟩ := h
    have hu := hu_of hr
    refine ⟨_, pss_one (ps_if (pt_cmp (pc_dnotin hu (pv 1) (pe_fld (pv 0) rfl)))
      (pss_cons (ps_if (pt_cmpR op_eq (pe_callB call_len_seq (by rfl) Z.len PySem.boot_len (pa_cons (pe_fld (pv 0) rfl) pa_nil)) (pe_fld (pv 0) rfl) (nomark _)) (pss_one (ps_tooMany rfl TM hr (by decide) (takes_of rfl rfl rfl rfl) (pe_fld (pv 0) rfl))) pss_nil)
      (pss_cons (ps_dput hu (pe_fld (pv 0) rfl) (pv 1) (pe_callB call_len_seq (by rfl) Z.len PySem.boot_len (pa_cons (pe_fld (pv 0) rfl) pa_nil)) rfl)
      (pss_cons (ps_expr (pe_bm PySem.F.plainAttrs_list PySem.F.slot_list_append PySem.F.type_list_append mt_append (pe_fld (pv 0) rfl) (pa_cons (pv 1) pa_nil)))
      (pss_one (ps_expr (pe_bm PySem.F.plainAttrs_list PySem.F.slot_list_append PySem.F.type_list_append mt_append (pe_fld (pv 0) rfl) (pa_cons (pv 2) pa_nil))))))) pss_nil), ?_⟩
    obtain ⟨⟨dx, h1⟩, ⟨kvs, h2, hk⟩, ⟨as, h3, hra⟩, ⟨ss, h4, hss⟩, hne⟩ := id G
    have hak : H a = some (.tup ((r.map (Sum.inl : Int → Key)).map kV)) := by rw [key_tup]; exact ha
    refine ⟨_, rfl, _, rfl, x.g, C, dx, _, _, rfl, h1, T.cl, T.n4, g_numbers x, x.dn, _, rfl, DGet.t (k := r.map Sum.inl) h2 hak, _, rfl, ?_⟩
    cases ev : valV kvs (r.map Sum.inl) with
    | some v =>
      have hm : r ∈ rs := by
        by_cases h : r ∈ rs
        · exact h
        · have : valV kvs (r.map Sum.inl) = none := valV_none_iff.mpr (by rw [hk]; exact fun z => h (keys_mem.mp z))
          rw [this] at ev
          cases ev
      refine iteF ?_
      refine q (.inl hm) H (But.of (Same.refl H)) ?_
      unfold adds
      rw [if_pos hm]
      exact G
    | none =>
      have hm : r ∉ rs := fun h => by
        have := valV_none_iff.mp ev
        rw [hk] at this
        exact this (keys_mem.mpr h)
      have hal : (as.map V.ref).length = rs.length := by rw [List.length_map, hra.len]
      refine iteT ⟨_, rfl, x.g, C, dx, _, _, rfl, h1, T.cl, T.n5, g_rows x, x.rl, _, rfl, .inl (SqL.of h3), _, rfl, x.g, C, dx, _, _, rfl, h1, T.cl, T.n3, g_most x, rfl, _, rfl, ?_⟩
      by_cases hl : rs.length = x.most
      · have e : decide (V.int (((as.map V.ref).length : Nat) : Int) = V.int (x.most : Nat)) = true := decide_eq_true (by rw [hal, hl])
        rw [e]
        exact iteT ⟨_, rfl, x.g, C, dx, _, _, rfl, h1, T.cl, T.n3, g_most x, tm_end fun d H' s' => qE hm hl d H' s'⟩
      · have e : decide (V.int (((as.map V.ref).length : Nat) : Int) = V.int (x.most : Nat)) = false := decide_eq_false (by rw [hal]; intro z; exact hl (by injection z with z; omega))
        rw [e]
        have nd1 : x.dn ≠ x.g := ne_of h2 h1 (by intro z; cases z)
        have nd2 : x.dn ≠ x.rl := ne_of h2 h3 (by intro z; cases z)
        have nd3 : x.dn ≠ x.sl := ne_of h2 h4 (by intro z; cases z)
        have nd4 : x.rl ≠ x.g := ne_of h3 h1 (by intro z; cases z)
        have nd5 : x.sl ≠ x.g := ne_of h4 h1 (by intro z; cases z)
        have kl : kvs.length = rs.length := by have := congrArg List.length hk; rw [List.length_map, List.length_map] at this; exact this
        refine iteF ⟨_, rfl, x.g, C, dx, _, _, rfl, h1, T.cl, T.n5, g_rows x, x.rl, _, rfl, .inl (SqL.of h3), _, rfl, x.g, C, dx, _, _, rfl, h1, T.cl, T.n4, g_numbers x, _, rfl, x.dn, _, rfl, DPut.t (k := r.map Sum.inl) h2 hak (small1000 (by omega)), ?_⟩
        have h1' : ∀ o, upd H x.dn o x.g = some (.ins C dx (gfs x)) := fun o => by rw [upd_ne nd1.symm]; exact h1
        have h3' : ∀ o, upd H x.dn o x.rl = some (.lst (as.map V.ref)) := fun o => by rw [upd_ne nd2.symm]; exact h3
        refine ⟨_, rfl, x.g, C, dx, _, _, rfl, h1' _, T.cl, T.n5, g_rows x, .inl ⟨rfl, _, SqL.of (h3' _)⟩, _, rfl, x.rl, _, _, rfl, rfl, h3' _, small1000 (by omega), ?_⟩
        refine ⟨_, rfl, x.g, C, dx, _, _, rfl, by rw [upd_ne nd4.symm]; exact h1' _, T.cl, T.n6, g_steps x, .inl ⟨rfl, _, SqL.of (by rw [upd_ne hne.symm, upd_ne nd3.symm]; exact h4)⟩, _, rfl, x.sl, _, _, rfl, rfl, by rw [upd_ne hne.symm, upd_ne nd3.symm]; exact h4, small1000 (by omega), ?_⟩
        have bt : But x H (upd (upd (upd H x.dn (.dT (putK kvs (r.map Sum.inl) (.int (((as.map V.ref).length : Nat) : Int))))) x.rl (.lst (as.map V.ref ++ [.ref a]))) x.sl (.lst (ss ++ [.ref b]))) := fun c o e a1 a2 a3 => by
          rw [upd_ne a3, upd_ne a2, upd_ne a1]
          exact e
        refine q (.inr hl) _ bt ?_
        unfold adds
        rw [if_neg hm]
        refine ⟨⟨dx, bt.tup G h1 (fun _ => by intro z; cases z) (fun _ => by intro z; cases z)⟩, ⟨_, by rw [upd_ne nd3, upd_ne nd2]; exact upd_same, by rw [putK_new _ ev, List.map_append, hk, List.map_append]; rfl⟩, ⟨as ++ [a], by rw [upd_ne hne, upd_same, List.map_append]; rfl, ?_⟩, ⟨_, upd_same, by rw [List.length_append, List.length_append, hss]; rfl⟩, hne⟩
        exact RowsAt.snoc (bt.row G ha) (RowsAt.keep (fun c s hc => bt.row G hc) hra)
end
end K26

set_option Elab.async false
set_option linter.all false
set_option maxRecDepth 100000
set_option maxHeartbeats 4000000
/-! # The class Growing: __init__, use -/
namespace K26
open PySem PySem.Spec PyProof.Rows L2
section
variable {P : Program} {w : World} {K : PySem.W.Frag} {mg : Str → Option Value} {base : Heap}
/-- what is raised in a def leaves it -/
theorem passE {N : List Str} {q : Str} {sc : Scope} {f : Addr} {cd : Value} {A : Around} {outer : List Env} {s : Shared} {H : Hp} {E : XK} : Passes (L2.CX P w) (cxOf (L2.CX P w) P w K mg base N q sc f cd A outer s H E) E :=
  passes_call (W := fun cls d _ H => E cls d H) (takes_of rfl rfl rfl rfl) (fun _ _ _ _ h => h)
def spGInit (C : Addr) : Sp := fun vs H Q _ => ∃ (g dx hs : Addr) (wd most : Nat), vs = [.ref g, .ref hs, .int wd, .int most] ∧ H g = some (.ins C dx []) ∧
  ∀ dn rl sl H', H dn = none → H rl = none → H sl = none → (∀ b o, H b = some o → b ≠ g → H' b = some o) → GAt C H' ⟨g, hs, dn, rl, sl, wd, most⟩ [] → Q .non H'
theorem sc_ginit : FnScope ["self", "house", "wide", "most"] ["self", "house", "wide", "most"] (defScope sGInit) := ⟨rfl, rfl, rfl, by decide +kernel, rfl, by decide +kernel, by decide +kernel⟩
theorem c_ginit {C : Addr} (T : GTxt K C) (D : IniAt K mg "Growing" C "Growing.__init__" sGInit ["self", "house", "wide", "most"]) : Mak P w K mg base CX0 1 "Growing" C (spGInit C) := by
  refine mak_of D sc_ginit (fun vs H Q E h => ?_) (fun f cdv A outer s H vs Q E hr h => ?_)
  · obtain ⟨g, dx, hs, wd, most, rfl, _⟩ := h
    rfl
  · obtain ⟨g, dx, hs, wd, most, rfl, hg, q⟩ := h
    refine ⟨_, pss_cons (ps_fld (pv 0) (pv 1) rfl) (pss_cons (ps_fld (pv 0) (pv 2) rfl) (pss_cons (ps_fld (pv 0) (pv 3) rfl) (pss_cons (ps_fld (pv 0) pe_dnewT rfl) (pss_cons (ps_fld (pv 0) (pe_lst pa_nil) rfl) (pss_one (ps_fld (pv 0) (pe_lst pa_nil) rfl)))))), ?_⟩
    refine ⟨_, rfl, _, rfl, g, C, dx, [], rfl, hg, T.cl, T.n1, (by show 0 < 1000; decide), ?_⟩
    refine ⟨_, rfl, _, rfl, g, C, dx, _, rfl, upd_same, T.cl, T.n2, (by show 1 < 1000; decide), ?_⟩
    refine ⟨_, rfl, _, rfl, g, C, dx, _, rfl, upd_same, T.cl, T.n3, (by show 2 < 1000; decide), ?_⟩
    intro dn nd
    have e1 : g ≠ dn := ne_of_none upd_same nd
    refine ⟨_, rfl, g, C, dx, _, rfl, by rw [upd_ne e1]; exact upd_same, T.cl, T.n4, (by show 3 < 1000; decide), ?_⟩
    refine ⟨Nat.zero_le _, fun rl nr => ?_⟩
    have e2 : g ≠ rl := ne_of_none upd_same nr
    refine ⟨_, rfl, g, C, dx, _, rfl, by rw [upd_ne e2]; exact upd_same, T.cl, T.n5, (by show 4 < 1000; decide), ?_⟩
    refine ⟨Nat.zero_le _, fun sl ns => ?_⟩
    have e3 : g ≠ sl := ne_of_none upd_same ns
    refine ⟨_, rfl, g, C, dx, _, rfl, by rw [upd_ne e3]; exact upd_same, T.cl, T.n6, (by show 5 < 1000; decide), ?_⟩
    have nd0 : H dn = none := by
      rw [upd_ne e1.symm, upd_ne e1.symm, upd_ne e1.symm] at nd
      exact nd
    rw [upd_ne e2.symm] at nr
    have e4 : dn ≠ rl := ne_of_none upd_same nr
    have nr0 : H rl = none := by
      rw [upd_ne e4.symm, upd_ne e2.symm, upd_ne e2.symm, upd_ne e2.symm] at nr
      exact nr
    rw [upd_ne e3.symm] at ns
    have e6 : rl ≠ sl := ne_of_none upd_same ns
    rw [upd_ne e6.symm, upd_ne e3.symm] at ns
    have e5 : dn ≠ sl := ne_of_none upd_same ns
    have ns0 : H sl = none := by
      rw [upd_ne e5.symm, upd_ne e3.symm, upd_ne e3.symm, upd_ne e3.symm] at ns
      exact ns
    refine q dn rl sl _ nd0 nr0 ns0 (fun b o e hb => ?_) ⟨⟨dx, upd_same⟩, ⟨[], ?_, rfl⟩, ⟨[], ?_, .nil⟩, ⟨[], ?_, rfl⟩, e6⟩
    · have b1 := ne_of_none e nd0
      have b2 := ne_of_none e nr0
      have b3 := ne_of_none e ns0
      rw [upd_ne hb, upd_ne b3, upd_ne hb, upd_ne b2, upd_ne hb, upd_ne b1, upd_ne hb, upd_ne hb, upd_ne hb]
      exact e
    · show upd _ g _ dn = _
      rw [upd_ne e1.symm, upd_ne e5, upd_ne e1.symm, upd_ne e4, upd_ne e1.symm, upd_same]
    · show upd _ g _ rl = _
      rw [upd_ne e2.symm, upd_ne e6, upd_ne e2.symm, upd_same]
      rfl
    · show upd _ g _ sl = _
      rw [upd_ne e3.symm, upd_same]
/-! ### use -/
/-- what a row v that is made brings -/
def Out (C Ct : Addr) (x : GA) (H : Hp) (rs : List (List Int)) (v : List Int) (Q : VK) (E : XK) : Prop :=
  (v ∉ rs → rs.length = x.most → ∀ d H', Same H H' → E (.ref Ct) d H') ∧ ((v ∈ rs ∨ rs.length ≠ x.most) → ∀ H', But x H H' → GAt C H' x (adds rs v) → Q .non H')
def spUse (C CH Ct : Addr) : Sp := fun vs H Q E => ∃ (x : GA) (d : Dd) (sp : Addr) (rs : List (List Int)) (n : Nat) (ds : List Dd), vs = [.ref x.g, .ref d.a, .ref sp] ∧ GAt C H x rs ∧ rs.length ≤ 1000 ∧ HouseAt CH H x.hs n ds ∧ (1 ≤ n ∧ n ≤ 9) ∧ x.wd ≤ 1000 ∧
  DdAt H d ∧ (∀ r ∈ rs, Row n x.wd r) ∧ Row n (n ^ d.p) d.t ∧
  ((∃ (i : Nat) (r : List Int), H sp = some (.tup [.int i]) ∧ rs[i]? = some r ∧ d.p = 1 ∧ Out C Ct x H rs (ap1 d.t r) Q E) ∨
   ∃ (i j : Nat) (r s : List Int), H sp = some (.tup [.int i, .int j]) ∧ rs[i]? = some r ∧ rs[j]? = some s ∧ d.p = 2 ∧ Out C Ct x H rs (ap2 n d.t r s) Q E)
abbrev nUse : List Str := ["self", "deed", "spots", "name", "places", "table", "rows", "spot"]
theorem sc_guse : FnScope nUse ["self", "deed", "spots"] (defScope sGUse) := ⟨rfl, rfl, rfl, by decide +kernel, rfl, by decide +kernel, by decide +kernel⟩
theorem Out.same {C Ct : Addr} {x : GA} {H H1 : Hp} {rs : List (List Int)} {v : List Int} {Q : VK} {E : XK} (s : Same H H1) (o : Out C Ct x H rs v Q E) : Out C Ct x H1 rs v Q E :=
  ⟨fun h1 h2 d H' s' => o.1 h1 h2 d H' (s.trans s'), fun h H' b g => o.2 h H' ((But.of s).trans b) g⟩
theorem c_guse (Z : Zs mg) {C CH Ct : Addr} (T : GTxt K C) (TH : HTxt K CH) (D : MetAt K C "use" "Growing.use" sGUse ["self", "deed", "spots"]) (cP : Met P w K mg base (L2.CX P w) 3 C "put" (spPutM C Ct)) (cPT : Cal P w K mg base CX0 1 "put_together" spPut)
    (cTh : Met P w K mg base CX0 1 CH "things" (spThings CH)) : Met P w K mg base (L2.CX P w) 4 C "use" (spUse C CH Ct) := by
  refine met_ofX D sc_guse (fun vs H Q E h => ?_) (fun f cdv A outer s H vs Q E hr h => ?_)
  · obtain ⟨x, d, sp, rs, n, ds, rfl, _⟩ := h
    rfl
  · obtain ⟨x, d, sp, rs, n, ds, rfl, G, hz, hH, hn, hw, hd, hrs, ht, q⟩ := h
    refine ⟨_, pss_cons (ps_asg (pv 1) (pg_tup (by rfl) (pgs_cons (pg_name (i := 3) sc_guse.nd rfl (.inl rfl)) (pgs_cons (pg_name (i := 4) sc_guse.nd rfl (.inl rfl)) (pgs_cons (pg_name (i := 5) sc_guse.nd rfl (.inl rfl)) pgs_nil)))))
      (pss_cons (ps_setLc (i := 6) (own := [("spot", 7)]) (g := gName 7) (tt := tYes) (te := tOp (rIxL K) (tFld K (tVar 0) "rows") (tVar 7)) (by rfl) sc_guse.nd rfl rfl (sw_true rfl rfl rfl (by decide +kernel)) (pi_tup (pv 2)) (blkOk_by (own := [("spot", 7)]) (N := nUse) (sc := defScope sGUse) (by decide +kernel))
        (fun _ _ _ _ _ => pg_name (i := 7) sc_guse.nd rfl (Or.inl rfl)) (fun _ _ _ _ _ => pts_nil) (fun _ _ _ _ _ => pe_ix (r := rIxL K) ix_list (pe_fld (pv 0) rfl) (pv 7) (fun _ _ => rfl)))
      (pss_one (ps_expr (pe_ml cP T.cl hr (by decide) passE (pv 0) (pa_cons (pe_cl cPT hr (by decide) pass0 (by rfl) (pa_cons (pv 5) (pa_cons (pe_ml0 cTh TH.cl hr (by decide) pass0 (pe_fld (pv 0) rfl)) (pa_cons (pv 6) (pa_cons (pe_fld (pv 0) rfl) pa_nil)))))
        (pa_cons (pe_op op_catU (pe_tup (pa_cons (pv 3) pa_nil)) (pv 2)) pa_nil)))))), ?_⟩
    refine ⟨_, rfl, d.a, _, rfl, SqT.of hd.1, rfl, _, _, rfl, _, _, rfl, _, _, rfl, rfl, ?_⟩
    -- the rows at the spots
    obtain ⟨ix, sel, hsp, hsel, hl2, q⟩ : ∃ (ix : List Nat) (sel : List (List Int)), H sp = some (.tup (ix.map fun i => V.int (i : Nat))) ∧ Paired (fun (i : Nat) r => rs[i]? = some r) ix sel ∧ ix.length ≤ 2 ∧
        ((∃ r, sel = [r] ∧ d.p = 1 ∧ Out C Ct x H rs (ap1 d.t r) Q E) ∨ ∃ r s, sel = [r, s] ∧ d.p = 2 ∧ Out C Ct x H rs (ap2 n d.t r s) Q E) := by
      rcases q with ⟨i, r, h1, h2, h3, h4⟩ | ⟨i, j, r, s, h1, h2, h3, h4, h5⟩
      · exact ⟨[i], [r], h1, .cons h2 .nil, (by show 1 ≤ 2; decide), .inl ⟨r, rfl, h3, h4⟩⟩
      · exact ⟨[i, j], [r, s], h1, .cons h2 (.cons h3 .nil), (by show 2 ≤ 2; decide), .inr ⟨r, s, rfl, h4, h5⟩⟩
    refine ⟨_, rfl, sp, rfl, ⟨_, SqT.of hsp⟩, fun L nL => ?_⟩
    obtain ⟨⟨dx, hg⟩, ⟨kvs, hdn, _⟩, ⟨as, hrl, hra⟩, ⟨ss, hsl, _⟩, hne⟩ := id G
    refine lc_tup (K := K) (a := sp) (xs := ix.map fun i => V.int (i : Nat)) (fun i H' => (∃ bs, H' L = some (.lst (bs.map V.ref)) ∧ RowsAt H' bs (sel.take i)) ∧ Same H H') ⟨⟨[], upd_same, by rw [List.take_zero]; exact .nil⟩, same_new nL⟩ (fun i H' _ h => SqT.of (h.2 _ _ hsp)) (fun i y H' hy h => ?_) fun H1 h => ?_
    · obtain ⟨⟨bs, hL, hb⟩, s1⟩ := h
      rw [List.getElem?_map] at hy
      cases ei : ix[i]? with
      | none => rw [ei] at hy; cases hy
      | some k =>
        rw [ei] at hy
        have ey : y = V.int (k : Nat) := (Option.some.inj hy).symm
        subst ey
        obtain ⟨r, er, hkr⟩ : ∃ r, sel[i]? = some r ∧ rs[k]? = some r := by
          have key : ∀ {a : List Nat} {b : List (List Int)} {i : Nat}, Paired (fun (i : Nat) r => rs[i]? = some r) a b → a[i]? = some k → ∃ r, b[i]? = some r ∧ rs[k]? = some r := by
            intro a b i hp
            induction hp generalizing i with
            | nil => intro e; simp at e
            | cons h t ih =>
              cases i with
              | zero =>
                intro e
                have e' := Option.some.inj e
                subst e'
                exact ⟨_, rfl, h⟩
              | succ i => exact fun e => ih (i := i) e
          exact key hsel ei
        obtain ⟨a, ea, ha⟩ := hra.at hkr
        have hkl : k < as.length := (List.getElem?_eq_some_iff.mp ea).1
        refine ⟨rfl, _, rfl, x.g, C, dx, _, _, rfl, s1 _ _ hg, T.cl, T.n5, g_rows x, _, rfl, x.rl, _, _, .ref a, rfl, rfl, SqL.of (s1 _ _ hrl), atI_nat (by rw [List.getElem?_map, ea]; rfl), _, hL, ?_, ⟨bs ++ [a], by rw [upd_same, List.map_append]; rfl, ?_⟩, same_put nL s1⟩
        · rw [List.length_map, hb.len, List.length_take]
          have := (List.getElem?_eq_some_iff.mp er).1
          have : ix.length = sel.length := Paired.length hsel
          exact small1000 (by omega)
        · rw [take_more er]
          refine RowsAt.snoc ?_ (RowsAt.keep (fun c u hc => hc.off hL (fun _ => by intro z; cases z)) hb)
          exact RowAt.off (s1 _ _ ha) hL (fun _ => by intro z; cases z)
    · obtain ⟨⟨bs, hL, hb⟩, s1⟩ := h
      have hll : (ix.map fun i => V.int (i : Nat)).length = sel.length := by rw [List.length_map]; exact Paired.length hsel
      rw [hll, List.take_length] at hb
      have G1 := G.same s1
      -- self.put(put_together(..), (name,) + spots)
      refine ⟨_, rfl, x.g, dx, _, rfl, s1 _ _ hg, g_no x (by decide +kernel), ?_⟩
      refine ⟨_, rfl, _, rfl, x.g, C, dx, _, _, rfl, s1 _ _ hg, T.cl, T.n1, g_house x, ?_⟩
      obtain ⟨dh, hd2, k1, k2, k3⟩ := id (hH.same s1)
      refine ⟨x.hs, dh, _, rfl, k1, hfs_no _ _ (by decide +kernel) (by decide +kernel), x.hs, n, ds, rfl, hH.same s1, ?_⟩
      refine ⟨_, rfl, _, rfl, x.g, C, dx, _, _, rfl, s1 _ _ hg, T.cl, T.n2, g_wide x, ?_⟩
      have hdp1 : DdAt H1 d := hd.same s1
      have mem : ∀ r ∈ sel, Row n x.wd r := fun r hr => by
        have key : ∀ {a : List Nat} {b : List (List Int)}, Paired (fun (i : Nat) r => rs[i]? = some r) a b → ∀ r ∈ b, r ∈ rs := by
          intro a b hp
          induction hp with
          | nil => intro r hr; cases hr
          | cons h t ih =>
            intro r hr
            rcases List.mem_cons.mp hr with e | hr
            · rw [e]; exact List.mem_of_getElem? h
            · exact ih r hr
        exact hrs r (key hsel r hr)
      -- the row v, made at a in H2
      have go : ∀ (v : List Int), Out C Ct x H rs v Q E → ∀ (a : Addr) (H2 : Hp), Same H1 H2 → RowAt H2 a v → _ := fun v o a H2 s2 ha => (by
          refine ⟨_, rfl, (by show 1 ≤ sizeLine; decide), fun p np => ⟨_, rfl, p, sp, _, _, rfl, rfl, upd_same, by rw [upd_ne (ne_of_none (s2 _ _ (s1 _ _ hsp)) np)]; exact s2 _ _ (s1 _ _ hsp), ?_, fun c H3 s3 hc => ?_⟩⟩
          · rw [List.length_map, sizeLine_eq]
            show 1 + ix.length ≤ 16777216
            omega
          · have s4 : Same H H3 := ((s1.trans s2).trans (same_new np)).trans s3
            have o' := o.same s4
            exact ⟨x, a, c, v, rs, rfl, G.same s4, s3 _ _ (same_new np _ _ ha), hz, o'.1, o'.2⟩ :
        tCons (tOp rCatU (tTup (tCons (tVar 3) tNil)) (tVar 2)) tNil [some (.ref x.g), some (.ref d.a), some (.ref sp), some (.str d.nm), some (.int d.p), some (.ref d.ta), some (.ref L), none] H2 fun xs H3 => spPutM C Ct (.ref x.g :: ((.ref a :: xs) ++ [])) H3 (fun _ H4 => Q .non H4) E)
      refine ⟨d.ta, L, d.t, n, x.wd, rfl, hdp1.2, hn.2, hw, ?_⟩
      rcases q with ⟨r, rfl, hp, o⟩ | ⟨r, s', rfl, hp, o⟩
      · refine .inl ⟨r, ⟨bs, hL, hb⟩, mem r (by simp), ?_, fun a H2 s2 ha => go _ o a H2 s2 ha⟩
        have := ht.1
        rw [hp, Nat.pow_one] at this
        omega
      · refine .inr ⟨r, s', ⟨bs, hL, hb⟩, mem r (by simp), mem s' (by simp), ?_, fun a H2 s2 ha => go _ o a H2 s2 ha⟩
        have := ht.1
        rw [hp, Nat.pow_two] at this
        omega
end
end K26

set_option Elab.async false
set_option linter.all false
set_option maxRecDepth 100000
set_option maxHeartbeats 4000000
/-! # The class Growing: spread_from, grow -/
namespace K26
open PySem PySem.Spec PyProof.Rows L2
abbrev sGFrom : Stmt := inClass (top 25) 3
abbrev sGGrow : Stmt := inClass (top 25) 5
def deedsOf (ds : List Dd) : List Deed := ds.map fun d => (d.p, d.t)
theorem mem_deedsOf {ds : List Dd} {d : Dd} (h : d ∈ ds) : (d.p, d.t) ∈ deedsOf ds := List.mem_map.mpr ⟨d, h, rfl⟩
/-- what stands while rows grow -/
structure Gr (C CH : Addr) (H : Hp) (x : GA) (n : Nat) (ds : List Dd) (M : List Int → Prop) (rs : List (List Int)) : Prop where
  at' : GAt C H x rs
  good : Good M x.most rs
  most : x.most ≤ 1000
  wd : x.wd ≤ 1000
  house : HouseAt CH H x.hs n ds
  n1 : 1 ≤ n
  n9 : n ≤ 9
  tabs : ∀ d ∈ ds, Row n (n ^ d.p) d.t
  few : ∀ d ∈ ds, d.p ≤ 2
  row : ∀ r, M r → Row n x.wd r
  cl : Closed n (deedsOf ds) x.wd M
theorem Gr.next {C CH : Addr} {H H' : Hp} {x : GA} {n : Nat} {ds : List Dd} {M : List Int → Prop} {rs rs' : List (List Int)} (g : Gr C CH H x n ds M rs) (b : But x H H') (a : GAt C H' x rs') (k : Good M x.most rs') : Gr C CH H' x n ds M rs' :=
  ⟨a, k, g.most, g.wd, b.house g.at' g.house, g.n1, g.n9, g.tabs, g.few, g.row, g.cl⟩
theorem Gr.same {C CH : Addr} {H H' : Hp} {x : GA} {n : Nat} {ds : List Dd} {M : List Int → Prop} {rs : List (List Int)} (g : Gr C CH H x n ds M rs) (s : Same H H') : Gr C CH H' x n ds M rs := g.next (But.of s) (g.at'.same s) g.good
theorem Gr.dd {C CH : Addr} {H : Hp} {x : GA} {n : Nat} {ds : List Dd} {M : List Int → Prop} {rs : List (List Int)} (g : Gr C CH H x n ds M rs) {d : Dd} (h : d ∈ ds) : DdAt H d := by
  obtain ⟨_, _, _, _, h3⟩ := g.house
  exact h3 d h
theorem Gr.len {C CH : Addr} {H : Hp} {x : GA} {n : Nat} {ds : List Dd} {M : List Int → Prop} {rs : List (List Int)} (g : Gr C CH H x n ds M rs) : rs.length ≤ 1000 := Nat.le_trans g.good.len g.most
theorem out_of {C CH Ct : Addr} {H : Hp} {x : GA} {n : Nat} {ds : List Dd} {M : List Int → Prop} {rs : List (List Int)} {v : List Int} {Q : VK} {E : XK} (g : Gr C CH H x n ds M rs) (m : M v) (hE : TooBig M x.most → ∀ c H', Same H H' → E (.ref Ct) c H')
    (q : ∀ H', But x H H' → Gr C CH H' x n ds M (adds rs v) → Q .non H') : Out C Ct x H rs v Q E :=
  ⟨fun hv hl c H' s => hE (adds_big g.good m hv hl) c H' s, fun h H' b a => q H' b (g.next b a (adds_good g.good m h))⟩
section
variable {C CH Ct : Addr} {H : Hp} {x : GA} {n : Nat} {ds : List Dd} {M : List Int → Prop} {rs : List (List Int)} {D : Ends} {σ : L2.St} {E : XK} {d : Dd} {r s : List Int} {i j a b : Nat}
/-- self.use(deed, (i,)) -/
theorem use1_ok (h0 : σ[0]? = some (some (.ref x.g))) (h2 : σ[2]? = some (some (.ref d.a))) (ha : σ[a]? = some (some (.int i))) (g : Gr C CH H x n ds M rs) (hd : d ∈ ds) (hr : rs[i]? = some r) (hp : d.p = 1)
    (hE : TooBig M x.most → ∀ c H', Same H H' → E (.ref Ct) c H') (q : ∀ H', But x H H' → Gr C CH H' x n ds M (adds rs (ap1 d.t r)) → D.nx σ H') :
    tDrop (tMeth C "use" (spUse C CH Ct) [] E (tVar 0) (tCons (tVar 2) (tCons (tTup (tCons (tVar a) tNil)) tNil))) D σ H := by
  obtain ⟨dx, hg⟩ := g.at'.ob
  refine ⟨_, h0, x.g, dx, _, rfl, hg, g_no x (by decide +kernel), _, h2, _, ha, (by show 1 ≤ sizeLine; decide), fun p np => ?_⟩
  have g1 := g.same (same_new (o := .tup [.int i]) np)
  have m : M (ap1 d.t r) := g.cl.c1 _ _ (by rw [← hp]; exact mem_deedsOf hd) (g.good.mem r (List.mem_of_getElem? hr))
  refine ⟨x, d, p, rs, n, ds, rfl, g1.at', g.len, g1.house, ⟨g.n1, g.n9⟩, g.wd, g1.dd hd, fun u hu => g.row u (g.good.mem u hu), g.tabs d hd, .inl ⟨i, r, upd_same, hr, hp, ?_⟩⟩
  exact out_of g1 m (fun tb c H' s' => hE tb c H' ((same_new np).trans s')) fun H' bt g2 => q H' ((But.of (same_new np)).trans bt) g2
/-- self.use(deed, (i, j)) -/
theorem use2_ok (h0 : σ[0]? = some (some (.ref x.g))) (h2 : σ[2]? = some (some (.ref d.a))) (ha : σ[a]? = some (some (.int i))) (hb : σ[b]? = some (some (.int j))) (g : Gr C CH H x n ds M rs) (hd : d ∈ ds) (hr : rs[i]? = some r) (hs : rs[j]? = some s) (hp : d.p = 2)
    (hE : TooBig M x.most → ∀ c H', Same H H' → E (.ref Ct) c H') (q : ∀ H', But x H H' → Gr C CH H' x n ds M (adds rs (ap2 n d.t r s)) → D.nx σ H') :
    tDrop (tMeth C "use" (spUse C CH Ct) [] E (tVar 0) (tCons (tVar 2) (tCons (tTup (tCons (tVar a) (tCons (tVar b) tNil))) tNil))) D σ H := by
  obtain ⟨dx, hg⟩ := g.at'.ob
  refine ⟨_, h0, x.g, dx, _, rfl, hg, g_no x (by decide +kernel), _, h2, _, ha, _, hb, (by show 2 ≤ sizeLine; decide), fun p np => ?_⟩
  have g1 := g.same (same_new (o := .tup [.int i, .int j]) np)
  have m : M (ap2 n d.t r s) := g.cl.c2 _ _ _ (by rw [← hp]; exact mem_deedsOf hd) (g.good.mem r (List.mem_of_getElem? hr)) (g.good.mem s (List.mem_of_getElem? hs))
  refine ⟨x, d, p, rs, n, ds, rfl, g1.at', g.len, g1.house, ⟨g.n1, g.n9⟩, g.wd, g1.dd hd, fun u hu => g.row u (g.good.mem u hu), g.tabs d hd, .inr ⟨i, j, r, s, upd_same, hr, hs, hp, ?_⟩⟩
  exact out_of g1 m (fun tb c H' s' => hE tb c H' ((same_new np).trans s')) fun H' bt g2 => q H' ((But.of (same_new np)).trans bt) g2
end
def spFrom (C CH Ct : Addr) : Sp := fun vs H Q E => ∃ (x : GA) (n : Nat) (ds : List Dd) (M : List Int → Prop) (rs : List (List Int)) (k : Nat) (r : List Int), vs = [.ref x.g, .int k] ∧ Gr C CH H x n ds M rs ∧ rs[k]? = some r ∧
  (TooBig M x.most → ∀ c H', But x H H' → E (.ref Ct) c H') ∧ ∀ rs' H', But x H H' → Gr C CH H' x n ds M rs' → Pre rs rs' → (∀ d ∈ deedsOf ds, Step1 n d k r rs rs') → Q .non H'
section
variable {P : Program} {w : World} {K : PySem.W.Frag} {mg : Str → Option Value} {base : Heap}
theorem sc_gfrom : FnScope ["self", "at", "deed", "other"] ["self", "at"] (defScope sGFrom) := ⟨rfl, rfl, rfl, by decide +kernel, rfl, by decide +kernel, by decide +kernel⟩
theorem c_gfrom (Z : Zs mg) {C CH Ct : Addr} (T : GTxt K C) (TH : HTxt K CH) (D : MetAt K C "spread_from" "Growing.spread_from" sGFrom ["self", "at"]) (cU : Met P w K mg base (L2.CX P w) 4 C "use" (spUse C CH Ct)) (cDs : Met P w K mg base CX0 1 CH "deeds" (spDeeds CH)) :
    Met P w K mg base (L2.CX P w) 5 C "spread_from" (spFrom C CH Ct) := by
  refine met_ofX D sc_gfrom (fun vs H Q E h => ?_) (fun f cdv A outer s H vs Q E hr h => ?_)
  · obtain ⟨x, n, ds, M, rs, k, r, rfl, _⟩ := h
    rfl
  · obtain ⟨x, n, ds, M, rs, k, r, rfl, g, hk, hE, q⟩ := h
    have hkl : k < rs.length := (List.getElem?_eq_some_iff.mp hk).1
    have hk1 := g.len
    refine ⟨_, pss_one (ps_for (passes_of rfl) rfl (pi_list (pe_ml0 cDs TH.cl hr (by decide) pass0 (pe_fld (pv 0) rfl))) (pg_name (i := 2) sc_gfrom.nd rfl (.inl rfl))
      (pss_one (ps_if (pt_cmpR op_eq (pe_ix ix_tup (pv 2) pe_int (fun _ _ => rfl)) pe_int (nomark _))
        (pss_one (ps_expr (pe_ml cU T.cl hr (by decide) passE (pv 0) (pa_cons (pv 2) (pa_cons (pe_tup (pa_cons (pv 1) pa_nil)) pa_nil)))))
        (pss_one (ps_if (pt_cmpR op_eq (pe_ix ix_tup (pv 2) pe_int (fun _ _ => rfl)) pe_int (nomark _))
          (pss_cons (ps_for (passes_of rfl) rfl (pi_range1 (by rfl) Z.range (pa_cons (pv 1) pa_nil)) (pg_name (i := 3) sc_gfrom.nd rfl (.inl rfl))
            (pss_cons (ps_expr (pe_ml cU T.cl hr (by decide) passE (pv 0) (pa_cons (pv 2) (pa_cons (pe_tup (pa_cons (pv 1) (pa_cons (pv 3) pa_nil))) pa_nil))))
            (pss_one (ps_expr (pe_ml cU T.cl hr (by decide) passE (pv 0) (pa_cons (pv 2) (pa_cons (pe_tup (pa_cons (pv 3) (pa_cons (pv 1) pa_nil))) pa_nil)))))))
          (pss_one (ps_expr (pe_ml cU T.cl hr (by decide) passE (pv 0) (pa_cons (pv 2) (pa_cons (pe_tup (pa_cons (pv 1) (pa_cons (pv 1) pa_nil))) pa_nil))))))
          (pss_one (ps_if (pt_cmpR op_eq (pe_ix ix_tup (pv 2) pe_int (fun _ _ => rfl)) pe_int (nomark _)) (pss_one ps_never) pss_nil))))))), ?_⟩
    obtain ⟨dx, hg⟩ := g.at'.ob
    obtain ⟨dh, hd2, k1, k2, k3⟩ := id g.house
    refine ⟨_, rfl, x.g, C, dx, _, _, rfl, hg, T.cl, T.n1, g_house x, x.hs, dh, _, rfl, k1, hfs_no _ _ (by decide +kernel) (by decide +kernel), x.hs, n, ds, rfl, g.house, fun l H1 s1 nl hl => ?_⟩
    have g1 := g.same s1
    -- the list of the deeds is none of what grows
    have nl1 : l ≠ x.dn := by
      obtain ⟨_, e, _⟩ := g.at'.nm
      exact fun z => by rw [z, e] at nl; cases nl
    have nl2 : l ≠ x.rl := by
      obtain ⟨_, e, _⟩ := g.at'.rw
      exact fun z => by rw [z, e] at nl; cases nl
    have nl3 : l ≠ x.sl := by
      obtain ⟨_, e, _⟩ := g.at'.st
      exact fun z => by rw [z, e] at nl; cases nl
    have hll : (refsD ds).length = ds.length := List.length_map _
    refine ⟨l, rfl, ⟨_, SqL.of hl⟩, for_list (K := K) (a := l) (xs := refsD ds) (fun i σ H' => (∃ v2 v3, σ = [some (.ref x.g), some (.int k), v2, v3]) ∧ But x H1 H' ∧ ∃ rs', Gr C CH H' x n ds M rs' ∧ Pre rs rs' ∧ ∀ d ∈ ds.take i, Step1 n (d.p, d.t) k r rs rs')
      ⟨⟨_, _, rfl⟩, But.of (Same.refl H1), rs, g1, Pre.refl rs, fun d hd => by rw [List.take_zero] at hd; cases hd⟩ (fun i σ H' _ h => SqL.of (h.2.1 _ _ hl nl1 nl2 nl3)) (fun i y σ H' hy h => ?_) fun σ H' h => ?_⟩
    · obtain ⟨⟨v2, v3, rfl⟩, b1, rs1, g2, p1, st⟩ := h
      obtain ⟨d, hdi, rfl⟩ := get_refsD hy
      have hd := List.mem_of_getElem? hdi
      have hda := (g2.dd hd).1
      have hE1 : TooBig M x.most → ∀ c H'', Same H' H'' → E (.ref Ct) c H'' := fun tb c H'' s' => hE tb c H'' ((But.of s1).trans (b1.trans (But.of s')))
      -- what a turn brings
      have fin : ∀ rs' H'', But x H' H'' → Gr C CH H'' x n ds M rs' → Pre rs1 rs' → Step1 n (d.p, d.t) k r rs rs' → ∀ v, (∃ v2 v3, ([some (.ref x.g), some (.int k), some (.ref d.a), v] : L2.St) = [some (.ref x.g), some (.int k), v2, v3]) ∧ But x H1 H'' ∧ ∃ rs', Gr C CH H'' x n ds M rs' ∧ Pre rs rs' ∧ ∀ d ∈ ds.take (i + 1), Step1 n (d.p, d.t) k r rs rs' := fun rs' H'' b' g' p' s' v => by
        refine ⟨⟨_, _, rfl⟩, b1.trans b', rs', g', p1.trans p', fun d' hd' => ?_⟩
        rw [take_more hdi] at hd'
        rcases List.mem_append.mp hd' with h | h
        · exact (st d' h).mono p'
        · rw [List.mem_singleton.mp h]
          exact s'
      have hk2 := p1.get hk
      refine ⟨_, rfl, d.a, _, 1, .int d.p, rfl, rfl, SqT.of hda, atI_nat rfl, rfl, _, rfl, ?_⟩
      by_cases hp1 : d.p = 1
      · have e : decide (V.int (d.p : Nat) = V.int 1) = true := decide_eq_true (by rw [hp1]; rfl)
        rw [e]
        refine iteT (use1_ok rfl rfl rfl g2 hd hk2 hp1 hE1 fun H'' b' g' => ?_)
        exact fin _ H'' b' g' (adds_pre _ _) ⟨fun _ => adds_mem _ _, fun e2 => by rw [hp1] at e2; cases e2⟩ _
      · have e : decide (V.int (d.p : Nat) = V.int 1) = false := decide_eq_false (fun z => hp1 (by injection z with z; omega))
        rw [e]
        refine iteF ⟨_, rfl, d.a, _, 1, .int d.p, rfl, rfl, SqT.of hda, atI_nat rfl, rfl, _, rfl, ?_⟩
        by_cases hp2 : d.p = 2
        · have e : decide (V.int (d.p : Nat) = V.int 2) = true := decide_eq_true (by rw [hp2]; rfl)
          rw [e]
          refine iteT ⟨_, rfl, _, rfl, by omega, by omega, ?_⟩
          refine for_range (fun j σ H'' => (∃ v3, σ = [some (.ref x.g), some (.int k), some (.ref d.a), v3]) ∧ But x H' H'' ∧ ∃ rs', Gr C CH H'' x n ds M rs' ∧ Pre rs1 rs' ∧ ∀ i s, i < j → rs[i]? = some s → ap2 n d.t r s ∈ rs' ∧ ap2 n d.t s r ∈ rs')
            ⟨⟨_, rfl⟩, But.of (Same.refl H'), rs1, g2, Pre.refl rs1, fun i s hi => absurd hi (Nat.not_lt_zero i)⟩ (fun j σ H'' hj h => ?_) fun σ H'' h => ?_
          · obtain ⟨⟨v3, rfl⟩, b2, rs2, g3, p2, st2⟩ := h
            have hjk : j < k := by simpa using hj
            obtain ⟨s2, hs2⟩ : ∃ s2, rs[j]? = some s2 := ⟨rs[j]'(by omega), List.getElem?_eq_getElem (by omega)⟩
            have hE2 : TooBig M x.most → ∀ c H3, But x H'' H3 → E (.ref Ct) c H3 := fun tb c H3 b' => hE tb c H3 ((But.of s1).trans (b1.trans (b2.trans b')))
            refine use2_ok (i := k) (j := j) rfl rfl rfl (by rw [Int.zero_add]; rfl) g3 hd ((p1.trans p2).get hk) ((p1.trans p2).get hs2) hp2 (fun tb c H3 s' => hE2 tb c H3 (But.of s')) fun H3 b3 g4 => ?_
            have pa := adds_pre rs2 (ap2 n d.t r s2)
            refine use2_ok (i := j) (j := k) rfl rfl (by rw [Int.zero_add]; rfl) rfl g4 hd (pa.get ((p1.trans p2).get hs2)) (pa.get ((p1.trans p2).get hk)) hp2 (fun tb c H4 s' => hE2 tb c H4 (b3.trans (But.of s'))) fun H4 b4 g5 => ?_
            have pb := adds_pre (adds rs2 (ap2 n d.t r s2)) (ap2 n d.t s2 r)
            refine ⟨⟨_, rfl⟩, b2.trans (b3.trans b4), _, g5, p2.trans (pa.trans pb), fun i' s' hi' hs' => ?_⟩
            by_cases hij : i' = j
            · subst hij
              rw [hs2] at hs'
              cases hs'
              exact ⟨pb.mem (adds_mem _ _), adds_mem _ _⟩
            · have z := st2 i' s' (by omega) hs'
              exact ⟨pb.mem (pa.mem z.1), pb.mem (pa.mem z.2)⟩
          · obtain ⟨⟨v3, rfl⟩, b2, rs2, g3, p2, st2⟩ := h
            refine use2_ok (i := k) (j := k) rfl rfl rfl rfl g3 hd ((p1.trans p2).get hk) ((p1.trans p2).get hk) hp2 (fun tb c H3 s' => hE tb c H3 ((But.of s1).trans (b1.trans (b2.trans (But.of s'))))) fun H3 b3 g4 => ?_
            have pa := adds_pre rs2 (ap2 n d.t r r)
            refine fin _ H3 (b2.trans b3) g4 (p2.trans pa) ⟨fun e2 => absurd e2 hp1, fun _ i' s' hi' hs' => ?_⟩ _
            by_cases hik : i' = k
            · subst hik
              rw [hk] at hs'
              cases hs'
              exact ⟨adds_mem _ _, adds_mem _ _⟩
            · have z := st2 i' s' (by simp; omega) hs'
              exact ⟨pa.mem z.1, pa.mem z.2⟩
        · have e : decide (V.int (d.p : Nat) = V.int 2) = false := decide_eq_false (fun z => hp2 (by injection z with z; omega))
          rw [e]
          have hf := g.few d hd
          refine iteF ⟨_, rfl, d.a, _, 1, .int d.p, rfl, rfl, SqT.of hda, atI_nat rfl, rfl, _, rfl, ?_⟩
          have e : decide (V.int (d.p : Nat) = V.int 3) = false := decide_eq_false (fun z => by injection z with z; omega)
          rw [e]
          exact iteF (fin rs1 H' (But.of (Same.refl H')) g2 (Pre.refl rs1) ⟨fun e2 => absurd e2 hp1, fun e2 => absurd e2 hp2⟩ _)
    · obtain ⟨⟨v2, v3, rfl⟩, b1, rs1, g2, p1, st⟩ := h
      rw [hll, List.take_length] at st
      refine q rs1 H' ((But.of s1).trans b1) g2 p1 fun d hd => ?_
      obtain ⟨y, hy, rfl⟩ := List.mem_map.mp hd
      exact st y hy
/-! ### grow -/
def spGrow (C CH Ct : Addr) : Sp := fun vs H Q E => ∃ (x : GA) (n : Nat) (ds : List Dd) (M : List Int → Prop) (rs : List (List Int)), vs = [.ref x.g] ∧ Gr C CH H x n ds M rs ∧
  (TooBig M x.most → ∀ c H', But x H H' → E (.ref Ct) c H') ∧ ∀ rs' H', But x H H' → Gr C CH H' x n ds M rs' → Pre rs rs' → Done n (deedsOf ds) rs' rs'.length → Q .non H'
theorem sc_ggrow : FnScope ["self", "at"] ["self"] (defScope sGGrow) := ⟨rfl, rfl, rfl, by decide +kernel, rfl, by decide +kernel, by decide +kernel⟩
theorem c_ggrow (Z : Zs mg) {C CH Ct : Addr} (T : GTxt K C) (D : MetAt K C "grow" "Growing.grow" sGGrow ["self"]) (cF : Met P w K mg base (L2.CX P w) 5 C "spread_from" (spFrom C CH Ct)) : Met P w K mg base (L2.CX P w) 6 C "grow" (spGrow C CH Ct) := by
  refine met_ofX D sc_ggrow (fun vs H Q E h => ?_) (fun f cdv A outer s H vs Q E hr h => ?_)
  · obtain ⟨x, n, ds, M, rs, rfl, _⟩ := h
    rfl
  · obtain ⟨x, n, ds, M, rs, rfl, g, hE, q⟩ := h
    refine ⟨_, pss_cons (ps_set (i := 1) sc_ggrow.nd rfl (.inl rfl) pe_int) (pss_one (ps_while (passes_of rfl) (pt_cmpR op_lt (pv 1) (pe_callB call_len_seq (by rfl) Z.len PySem.boot_len (pa_cons (pe_fld (pv 0) rfl) pa_nil)) (nomark _))
      (pss_cons (ps_expr (pe_ml cF T.cl hr (by decide) passE (pv 0) (pa_cons (pv 1) pa_nil))) (pss_one (ps_set (i := 1) sc_ggrow.nd rfl (.inl rfl) (pe_op op_add (pv 1) pe_int)))))), ?_⟩
    refine ⟨fun m σ H' => ∃ k : Nat, m = x.most - k ∧ σ = [some (.ref x.g), some (.int k)] ∧ But x H H' ∧ ∃ rs', Gr C CH H' x n ds M rs' ∧ Pre rs rs' ∧ k ≤ rs'.length ∧ Done n (deedsOf ds) rs' k, ⟨_, 0, rfl, rfl, But.of (Same.refl H), rs, g, Pre.refl rs, Nat.zero_le _, done0⟩, ?_⟩
    rintro m σ H' ⟨k, rfl, rfl, b1, rs1, g1, p1, hk, dn⟩
    obtain ⟨dx, hg⟩ := g1.at'.ob
    obtain ⟨as, hrl, hra⟩ := id g1.at'.rw
    have hal : (as.map V.ref).length = rs1.length := by rw [List.length_map, hra.len]
    refine ⟨_, rfl, _, rfl, x.g, C, dx, _, _, rfl, hg, T.cl, T.n5, g_rows x, x.rl, _, rfl, .inl (SqL.of hrl), _, _, rfl, rfl, _, rfl, ?_⟩
    by_cases hlt : k < rs1.length
    · have e : decide ((k : Int) < ((as.map V.ref).length : Nat)) = true := decide_eq_true (by rw [hal]; omega)
      rw [e]
      have hm := g1.good.len
      refine iteT ⟨fun σ' H'' => ∃ k' : Nat, k' = k + 1 ∧ σ' = [some (.ref x.g), some (.int k')] ∧ But x H H'' ∧ ∃ rs', Gr C CH H'' x n ds M rs' ∧ Pre rs rs' ∧ k' ≤ rs'.length ∧ Done n (deedsOf ds) rs' k', ?_, ?_⟩
      · rintro σ' H'' ⟨k', rfl, h⟩
        exact ⟨x.most - (k + 1), by omega, k + 1, rfl, h⟩
      · obtain ⟨r, hr1⟩ : ∃ r, rs1[k]? = some r := ⟨rs1[k], List.getElem?_eq_getElem hlt⟩
        refine ⟨_, rfl, x.g, dx, _, rfl, hg, g_no x (by decide +kernel), _, rfl, x, n, ds, M, rs1, k, r, rfl, g1, hr1, fun tb c H'' b' => hE tb c H'' (b1.trans b'), fun rs2 H'' b2 g2 p2 st => ?_⟩
        refine ⟨_, rfl, _, _, rfl, rfl, k + 1, rfl, rfl, b1.trans b2, rs2, g2, p1.trans p2, ?_, done_step dn hr1 p2 st⟩
        have := p2.len
        omega
    · have e : decide ((k : Int) < ((as.map V.ref).length : Nat)) = false := decide_eq_false (by rw [hal]; omega)
      rw [e]
      have ek : k = rs1.length := by omega
      exact iteF (q rs1 H' b1 g1 p1 (by rw [← ek]; exact dn))
end
end K26

set_option Elab.async false
set_option linter.all false
set_option maxRecDepth 100000
set_option maxHeartbeats 4000000
/-! # grown, spread -/
namespace K26
open PySem PySem.Spec PyProof.Rows L2
abbrev sGrown : Stmt := top 26
abbrev sSpread : Stmt := top 27
theorem but_same {x : GA} {H H1 H2 : Hp} (s : Same H H1) (b : But x H1 H2) (h1 : H x.dn = none) (h2 : H x.rl = none) (h3 : H x.sl = none) : Same H H2 := fun c o e =>
  b c o (s c o e) (fun z => by rw [z, h1] at e; cases e) (fun z => by rw [z, h2] at e; cases e) (fun z => by rw [z, h3] at e; cases e)
/-- what the rows and the house are to be -/
structure Asked (CH : Addr) (H : Hp) (h l : Addr) (n : Nat) (ds : List Dd) (R0 : List (List Int)) (wd most : Nat) : Prop where
  house : HouseAt CH H h n ds
  n1 : 1 ≤ n
  n9 : n ≤ 9
  tabs : ∀ d ∈ ds, Row n (n ^ d.p) d.t
  few : ∀ d ∈ ds, d.p ≤ 2
  rows : LRows H l R0
  row : ∀ r ∈ R0, Row n wd r
  w1 : 1 ≤ wd
  wd : wd ≤ 1000
  most : most ≤ 1000
theorem Asked.same {CH : Addr} {H H' : Hp} {h l : Addr} {n : Nat} {ds : List Dd} {R0 : List (List Int)} {wd most : Nat} (s : Same H H') (a : Asked CH H h l n ds R0 wd most) : Asked CH H' h l n ds R0 wd most :=
  ⟨a.house.same s, a.n1, a.n9, a.tabs, a.few, a.rows.same s, a.row, a.w1, a.wd, a.most⟩
theorem valid_of {n : Nat} {ds : List Dd} (h : ∀ d ∈ ds, Row n (n ^ d.p) d.t) : ∀ d ∈ deedsOf ds, ValidD n d := fun d hd => by
  obtain ⟨y, hy, rfl⟩ := List.mem_map.mp hd
  exact h y hy
def spGrown (C CH Ct : Addr) : Sp := fun vs H Q E => ∃ (h l : Addr) (n : Nat) (ds : List Dd) (R0 : List (List Int)) (wd most : Nat), vs = [.ref h, .ref l, .int wd, .int most] ∧ Asked CH H h l n ds R0 wd most ∧
  (TooBig (Made n (deedsOf ds) R0 wd) most → ∀ c H', Same H H' → E (.ref Ct) c H') ∧
  ∀ (x : GA) (rs : List (List Int)) (H' : Hp), Same H H' → GAt C H' x rs → Good (Made n (deedsOf ds) R0 wd) most rs → (∀ r, Made n (deedsOf ds) R0 wd r → r ∈ rs) → Q (.ref x.g) H'
section
variable {P : Program} {w : World} {K : PySem.W.Frag} {mg : Str → Option Value} {base : Heap}
theorem sc_grown : FnScope ["house", "rows", "wide", "most", "growing", "at", "row", "name", "places", "table"] ["house", "rows", "wide", "most"] (defScope sGrown) := ⟨rfl, rfl, rfl, by decide +kernel, rfl, by decide +kernel, by decide +kernel⟩
theorem c_grown (Z : Zs mg) {C CH Ct : Addr} (T : GTxt K C) (TH : HTxt K CH) (D : DefAt K mg "grown" sGrown ["house", "rows", "wide", "most"]) (cI : Mak P w K mg base CX0 1 "Growing" C (spGInit C)) (cP : Met P w K mg base (L2.CX P w) 3 C "put" (spPutM C Ct))
    (cDs : Met P w K mg base CX0 1 CH "deeds" (spDeeds CH)) (cG : Met P w K mg base (L2.CX P w) 6 C "grow" (spGrow C CH Ct)) : Cal P w K mg base (L2.CX P w) 7 "grown" (spGrown C CH Ct) := by
  refine cal_ofX D sc_grown (fun vs H Q E h => ?_) (fun f cdv A outer s H vs Q E hr h => ?_)
  · obtain ⟨h, l, n, ds, R0, wd, most, rfl, _⟩ := h
    rfl
  · obtain ⟨h, l, n, ds, R0, wd, most, rfl, a, hE, q⟩ := h
    refine ⟨_, pss_cons (ps_set (i := 4) sc_grown.nd rfl (.inl rfl) (pe_mkl cI hr (by decide) pass0 (by rfl) (pa_cons (pv 0) (pa_cons (pv 2) (pa_cons (pv 3) pa_nil)))))
      (pss_cons (ps_for (passes_of rfl) rfl (pi_enum (by rfl) Z.enum (pa_cons (pv 1) pa_nil)) (pg_tup rfl (pgs_cons (pg_name (i := 5) sc_grown.nd rfl (.inl rfl)) (pgs_cons (pg_name (i := 6) sc_grown.nd rfl (.inl rfl)) pgs_nil)))
        (pss_one (ps_expr (pe_ml cP T.cl hr (by decide) passE (pv 4) (pa_cons (pv 6) (pa_cons (pe_tup (pa_cons (pv 5) pa_nil)) pa_nil))))))
      (pss_cons (ps_for (passes_of rfl) rfl (pi_list (pe_ml0 cDs TH.cl hr (by decide) pass0 (pv 0))) (pg_tup rfl (pgs_cons (pg_name (i := 7) sc_grown.nd rfl (.inl rfl)) (pgs_cons (pg_name (i := 8) sc_grown.nd rfl (.inl rfl)) (pgs_cons (pg_name (i := 9) sc_grown.nd rfl (.inl rfl)) pgs_nil))))
        (pss_one (ps_if (pt_cmpR op_eq (pv 8) pe_int (nomark _))
          (pss_one (ps_expr (pe_ml cP T.cl hr (by decide) passE (pv 4) (pa_cons (pe_op op_repU (pe_tup (pa_cons (pe_ix ix_tup (pv 9) pe_int (fun _ _ => rfl)) pa_nil)) (pv 2)) (pa_cons (pe_tup (pa_cons (pv 7) pa_nil)) pa_nil))))) pss_nil)))
      (pss_cons (ps_expr (pe_ml0 cG T.cl hr (by decide) passE (pv 4))) (pss_one (ps_ret (pv 4)))))), ?_⟩
    -- growing = Growing(..)
    refine ⟨_, rfl, _, rfl, _, rfl, fun g dx ng nd ne => ⟨g, dx, h, wd, most, rfl, upd_same, fun dn rl sl H1 n1 n2 n3 fr G => ⟨rfl, ?_⟩⟩⟩
    have s0 : Same H (upd (upd H dx (.own g)) g (.ins C dx [])) := fun b o e => by
      rw [upd_ne (ne_of_none e ng), upd_ne (ne_of_none e nd)]
      exact e
    have s1 : Same H H1 := fun b o e => fr b o (s0 b o e) (ne_of_none e ng)
    have n1 : H dn = none := s0.free n1
    have n2 : H rl = none := s0.free n2
    have n3 : H sl = none := s0.free n3
    generalize hx : (⟨g, h, dn, rl, sl, wd, most⟩ : GA) = x at G
    have xg : x.g = g := by rw [← hx]
    have xh : x.hs = h := by rw [← hx]
    have xd : x.dn = dn := by rw [← hx]
    have xr : x.rl = rl := by rw [← hx]
    have xs : x.sl = sl := by rw [← hx]
    have xw : x.wd = wd := by rw [← hx]
    have xm : x.most = most := by rw [← hx]
    have hrow : ∀ r, Made n (deedsOf ds) R0 wd r → Row n wd r := fun r m => made_row (by omega) (valid_of a.tabs) a.row m
    have g0 : Gr C CH H1 x n ds (Made n (deedsOf ds) R0 wd) [] := ⟨G, ⟨fun r hr => (by cases hr), List.nodup_nil, Nat.zero_le _⟩, by rw [xm]; exact a.most, by rw [xw]; exact a.wd, by rw [xh]; exact a.house.same s1, a.n1, a.n9, a.tabs, a.few, by rw [xw]; exact hrow, by rw [xw]; exact Made.closed _ _ _ _⟩
    have hE1 : ∀ {H2 : Hp}, But x H1 H2 → TooBig (Made n (deedsOf ds) R0 wd) x.most → ∀ c H', But x H2 H' → E (.ref Ct) c H' := fun {H2} b tb c H' b' =>
      hE (by rw [← xm]; exact tb) c H' (but_same s1 (b.trans b') (by rw [xd]; exact n1) (by rw [xr]; exact n2) (by rw [xs]; exact n3))
    obtain ⟨as, hl, hra⟩ := a.rows
    have keepL : ∀ {H2 : Hp}, But x H1 H2 → H2 l = some (.lst (as.map V.ref)) := fun {H2} b => but_same s1 b (by rw [xd]; exact n1) (by rw [xr]; exact n2) (by rw [xs]; exact n3) _ _ hl
    have hal : (as.map V.ref).length = R0.length := by rw [List.length_map, hra.len]
    -- growing.put(row, (at,))
    refine ⟨_, rfl, l, as.map V.ref, rfl, SqL.of (s1 _ _ hl), for_it (walk_enum (xs := as.map V.ref)) (fun i σ H' => (∃ v5 v6, σ = [some (.ref h), some (.ref l), some (.int wd), some (.int most), some (.ref g), v5, v6, none, none, none]) ∧ But x H1 H' ∧ ∃ rs', Gr C CH H' x n ds (Made n (deedsOf ds) R0 wd) rs' ∧ ∀ r ∈ R0.take i, r ∈ rs')
      ⟨⟨_, _, rfl⟩, But.of (Same.refl H1), [], g0, fun r hr => by rw [List.take_zero] at hr; cases hr⟩ (fun i σ H' _ h => SqL.of (keepL h.2.1)) (fun i y σ H' H2 hi h hy => ?_) fun σ H' h' => ?_⟩
    · obtain ⟨⟨v5, v6, rfl⟩, b1, rs1, g1, m1⟩ := h
      obtain ⟨Tp, a1, a2, rfl, nT, rfl, e1, e2⟩ := hy
      have e1 : a1 = V.int (i : Nat) := (Option.some.inj e1).symm
      subst e1
      obtain ⟨b, eb, rfl⟩ := get_refs e2
      obtain ⟨r, er, hb⟩ := hra.get eb
      have sT : Same H' (upd H' Tp (.tup [.int (i : Nat), .ref b])) := same_new nT
      have g2 := g1.same sT
      obtain ⟨dx2, hg2⟩ := g2.at'.ob
      have hb2 : RowAt (upd H' Tp (.tup [.int (i : Nat), .ref b])) b r := sT _ _ (b1.row G (s1 _ _ hb))
      refine ⟨Tp, _, rfl, SqT.of upd_same, rfl, _, _, rfl, _, _, rfl, rfl, ?_⟩
      refine ⟨_, rfl, g, dx2, _, rfl, by rw [← xg]; exact hg2, g_no x (by decide +kernel), _, rfl, _, rfl, (by show 1 ≤ sizeLine; decide), fun p np => ?_⟩
      have sP := same_new (o := .tup [.int (i : Nat)]) np
      have g3 := g2.same sP
      have o := out_of (Ct := Ct) (E := E) (Q := fun v H3 => v = .non → (∃ v5 v6, ([some (.ref h), some (.ref l), some (.int wd), some (.int most), some (.ref g), some (.int (i : Nat)), some (.ref b), none, none, none] : L2.St) = [some (.ref h), some (.ref l), some (.int wd), some (.int most), some (.ref g), v5, v6, none, none, none]) ∧ But x H1 H3 ∧ ∃ rs', Gr C CH H3 x n ds (Made n (deedsOf ds) R0 wd) rs' ∧ ∀ r ∈ R0.take (i + 1), r ∈ rs')
        g3 (.given r (List.mem_of_getElem? er)) (fun tb c H3 s' => hE1 (b1.trans (But.of (sT.trans sP))) tb c H3 (But.of s')) fun H3 b3 g4 _ => ⟨⟨_, _, rfl⟩, b1.trans ((But.of (sT.trans sP)).trans b3), _, g4, fun u hu => by
          rw [take_more er] at hu
          rcases List.mem_append.mp hu with hu | hu
          · exact (adds_pre _ _).mem (m1 u hu)
          · rw [List.mem_singleton.mp hu]
            exact adds_mem _ _⟩
      exact ⟨x, b, p, r, rs1, by rw [xg]; rfl, g3.at', sP _ _ hb2, g3.len, o.1, fun h' H3 b3 a3 => o.2 h' H3 b3 a3 rfl⟩
    · obtain ⟨⟨v5, v6, rfl⟩, b1, rs1, g1, m1⟩ := h'
      rw [hal, List.take_length] at m1
      -- the deeds without places
      obtain ⟨dh, hd2, k1, k2, k3⟩ := id g1.house
      rw [xh] at k1
      refine ⟨_, rfl, h, dh, _, rfl, k1, hfs_no _ _ (by decide +kernel) (by decide +kernel), h, n, ds, rfl, by rw [← xh]; exact g1.house, fun ld H2 s2 nl hld => ?_⟩
      have g2 := g1.same s2
      have nl1 : ld ≠ x.dn := by
        obtain ⟨_, e, _⟩ := g1.at'.nm
        exact fun z => by rw [z, e] at nl; cases nl
      have nl2 : ld ≠ x.rl := by
        obtain ⟨_, e, _⟩ := g1.at'.rw
        exact fun z => by rw [z, e] at nl; cases nl
      have nl3 : ld ≠ x.sl := by
        obtain ⟨_, e, _⟩ := g1.at'.st
        exact fun z => by rw [z, e] at nl; cases nl
      have hll : (refsD ds).length = ds.length := List.length_map _
      refine ⟨ld, rfl, ⟨_, SqL.of hld⟩, for_list (K := K) (a := ld) (xs := refsD ds) (fun i σ H' => (∃ v5 v6 v7 v8 v9, σ = [some (.ref h), some (.ref l), some (.int wd), some (.int most), some (.ref g), v5, v6, v7, v8, v9]) ∧ But x H2 H' ∧ ∃ rs', Gr C CH H' x n ds (Made n (deedsOf ds) R0 wd) rs' ∧ (∀ r ∈ R0, r ∈ rs') ∧ ∀ d ∈ ds.take i, d.p = 0 → ap0 d.t wd ∈ rs')
        ⟨⟨_, _, _, _, _, rfl⟩, But.of (Same.refl H2), rs1, g2, m1, fun d hd => by rw [List.take_zero] at hd; cases hd⟩ (fun i σ H' _ h => SqL.of (h.2.1 _ _ hld nl1 nl2 nl3)) (fun i y σ H' hy h' => ?_) fun σ H3 h' => ?_⟩
      · obtain ⟨⟨v5, v6, v7, v8, v9, rfl⟩, b2, rs2, g3, m2, z2⟩ := h'
        obtain ⟨d, hdi, rfl⟩ := get_refsD hy
        have hd := List.mem_of_getElem? hdi
        have hda := g3.dd hd
        refine ⟨d.a, _, rfl, SqT.of hda.1, rfl, _, _, rfl, _, _, rfl, _, _, rfl, rfl, ?_⟩
        refine ⟨_, rfl, rfl, _, rfl, ?_⟩
        by_cases hp : d.p = 0
        · have e : decide (V.int (d.p : Nat) = V.int 0) = true := decide_eq_true (by rw [hp]; rfl)
          rw [e]
          obtain ⟨dx3, hg3⟩ := g3.at'.ob
          have htl : d.t.length = 1 := by
            have := (a.tabs d hd).1
            rw [hp] at this
            exact this
          refine iteT ⟨_, rfl, g, dx3, _, rfl, by rw [← xg]; exact hg3, g_no x (by decide +kernel), _, rfl, d.ta, _, 0, _, rfl, rfl, SqT.of hda.2, at_cell (by decide) (by rw [htl]; decide), (by show 1 ≤ sizeLine; decide), fun p np => ?_⟩
          refine ⟨_, rfl, p, wd, V.int (cell d.t 0), rfl, rfl, upd_same, by have := a.w1; omega, by have := a.wd; omega, fun c H4 s4 hc => ?_⟩
          refine ⟨_, rfl, (by show 1 ≤ sizeLine; decide), fun u nu => ?_⟩
          have sU : Same H' (upd H4 u (.tup [.str d.nm])) := ((same_new np).trans s4).trans (same_new nu)
          have hc2 : RowAt (upd H4 u (.tup [.str d.nm])) c (ap0 d.t wd) := by
            refine same_new nu _ _ ?_
            rw [hc]
            unfold ap0
            rw [List.map_replicate]
            rfl
          have g4 := g3.same sU
          have o := out_of (Ct := Ct) (E := E) (Q := fun v H5 => v = .non → (∃ v5' v6' v7' v8' v9', ([some (.ref h), some (.ref l), some (.int wd), some (.int most), some (.ref g), v5, v6, some (.str d.nm), some (.int d.p), some (.ref d.ta)] : L2.St) = [some (.ref h), some (.ref l), some (.int wd), some (.int most), some (.ref g), v5', v6', v7', v8', v9']) ∧ But x H2 H5 ∧ ∃ rs', Gr C CH H5 x n ds (Made n (deedsOf ds) R0 wd) rs' ∧ (∀ r ∈ R0, r ∈ rs') ∧ ∀ d ∈ ds.take (i + 1), d.p = 0 → ap0 d.t wd ∈ rs')
            g4 (.d0 d.t (by rw [← hp]; exact mem_deedsOf hd)) (fun tb c H5 s' => hE1 (b1.trans ((But.of s2).trans (b2.trans (But.of sU)))) tb c H5 (But.of s')) fun H5 b5 g5 _ => ⟨⟨_, _, _, _, _, rfl⟩, b2.trans ((But.of sU).trans b5), _, g5, fun r hr => (adds_pre _ _).mem (m2 r hr), fun d' hd' hp' => by
              rw [take_more hdi] at hd'
              rcases List.mem_append.mp hd' with hd' | hd'
              · exact (adds_pre _ _).mem (z2 d' hd' hp')
              · rw [List.mem_singleton.mp hd']
                exact adds_mem _ _⟩
          exact ⟨x, c, u, ap0 d.t wd, rs2, by rw [xg]; rfl, g4.at', hc2, g4.len, o.1, fun h' H5 b5 a5 => o.2 h' H5 b5 a5 rfl⟩
        · have e : decide (V.int (d.p : Nat) = V.int 0) = false := decide_eq_false (fun z => hp (by injection z with z; omega))
          rw [e]
          refine iteF ⟨⟨_, _, _, _, _, rfl⟩, b2, rs2, g3, m2, fun d' hd' hp' => ?_⟩
          rw [take_more hdi] at hd'
          rcases List.mem_append.mp hd' with hd' | hd'
          · exact z2 d' hd' hp'
          · rw [List.mem_singleton.mp hd'] at hp'
            exact absurd hp' hp
      · obtain ⟨⟨v5, v6, v7, v8, v9, rfl⟩, b2, rs2, g3, m2, z2⟩ := h'
        rw [hll, List.take_length] at z2
        obtain ⟨dx3, hg3⟩ := g3.at'.ob
        -- growing.grow(); return growing
        have b12 : But x H1 H3 := b1.trans ((But.of s2).trans b2)
        refine ⟨_, rfl, g, dx3, _, rfl, by rw [← xg]; exact hg3, g_no x (by decide +kernel), x, n, ds, _, rs2, by rw [xg]; rfl, g3, hE1 b12, fun rs3 H4 b4 g4 p4 dn4 => ?_⟩
        refine ⟨_, rfl, ?_⟩
        rw [← xg]
        have gd := g4.good
        rw [xm] at gd
        refine q x rs3 H4 (but_same s1 (b12.trans b4) (by rw [xd]; exact n1) (by rw [xr]; exact n2) (by rw [xs]; exact n3)) g4.at' gd fun r m => ?_
        refine Made.least (S := fun r => r ∈ rs3) (done_closed dn4 fun t ht => ?_) (fun r hr => p4.mem (m2 r hr)) m
        obtain ⟨d, hd, e⟩ := List.mem_map.mp ht
        have e1 : d.p = 0 := congrArg Prod.fst e
        have e2 : d.t = t := congrArg Prod.snd e
        rw [← e2]
        exact p4.mem (z2 d hd e1)
end
end K26

set_option Elab.async false
set_option linter.all false
set_option maxRecDepth 100000
set_option maxHeartbeats 4000000
/-! # spread -/
namespace K26
open PySem PySem.Spec PyProof.Rows L2
/-! ### defs with one default -/
structure DefAtD (K : PySem.W.Frag) (mg : Str → Option Value) (x : Str) (st : Stmt) (f : Addr) (fd : FuncData) : Prop where
  fn : FunD K x x (defArgs st) (defBody st) (defScope st) [.int 200] [] f fd
  mgf : mg x = some (.ref f)
theorem kbn_of {K : PySem.W.Frag} {x qual : Str} {pa : Arguments} {bd : List Stmt} {sc : Scope} {dvs : List V} {f : Addr} {fd : FuncData} {ps ks : List Str} (F : FunD K x qual pa bd sc dvs [] f fd) (n : Nat) (hd : dvs ≠ [])
    (h : ∀ (T : Addr) (kV doc pm : Value) (an : Option Addr) (cdv ct : Value) (us its ws : List Value), us.length = n → its.length = dvs.length → ws.length = ks.length →
      ∃ k, bindArgs (PySem.W.fnOf x qual pa bd sc (.ref T) kV doc pm an cdv ct) ⟨us, ks.zip ws⟩ = seqItems? (.ref T) >>= k ∧ k (some its.toArray) = pure (ps.zip (us ++ ws))) : KBn K fd ps n ks (fun us ws => us ++ ws) (fun vs zs => vs ++ zs) := by
  obtain ⟨oc, od, dV, kV, doc, pm, an, cdv, ct, osl, rfl, lk, hcd, hD, _⟩ := F.ex
  rcases hD with ⟨e, _⟩ | ⟨_, T, o, its, m, rfl, lT, oT, rT⟩
  · exact absurd e hd
  · refine ⟨fun s us ws X l1 l2 => BindsTo.of_looks fun M => ?_, fun r1 r2 => r1.append r2⟩
    obtain ⟨k, e1, e2⟩ := h T kV doc pm an cdv ct us its ws l1 rT.length.symm l2
    rw [e1]
    exact looks_items X lT oT (.of_pure e2)
/-- what is called by name, the last argument by its own -/
structure CalN (P : Program) (w : World) (K : PySem.W.Frag) (mg : Str → Option Value) (base : Heap) (CX : CXT) (k n : Nat) (x : Str) (ks : List Str) (sp : Sp) : Prop where
  ex : ∃ (f : Addr) (fd : FuncData) (ps : List Str), FnOk P w K mg base CX k f fd ps sp ∧ mg x = some (.ref f) ∧ PySem.W.keepIn K (.ref f) = true ∧ KBn K fd ps n ks (fun us ws => us ++ ws) (fun vs zs => vs ++ zs)
theorem pe_cn {X : Cx} {CX : CXT} {E : XK} {k j n : Nat} {x : Str} {ks : List Str} {sp : Sp} {p pos : Pos} {e : Expr} {es : List Expr} {kws : List Keyword} {t tk : TA} (c : CalN X.prog X.w X.K X.mg X.base CX k n x ks sp) (hr : Room j X.A) (hk : k ≤ j) (hx : Passes CX X E) (hg : Gl X x) (ha : PA X (e :: es) t) (hkw : PK X kws tk)
    (hall : (backToKw pos (keywordEach kws X.env)).all (·.1.isSome) = true := by rfl) (hks : (backToKw pos (keywordEach kws X.env)).filterMap (·.1) = ks := by rfl)
    (hdb : (x == ("__debug__" : Str)) = false := by decide) (he : starEach (e :: es) X.env = (false, eval e X.env) :: starEach es X.env := by rfl)
    (hpl : ((backTo pos (starEach (e :: es) X.env)).any (·.1) || (backToKw pos (keywordEach kws X.env)).any (·.1.isNone)) = false := by rfl) :
    PE X (.Call (.Name x p) (e :: es) kws pos) (tCallN n ks.length sp (fun vs zs => vs ++ zs) E t tk) := by
  obtain ⟨f, fd, ps, F, hm, kp, b⟩ := c.ex
  exact pe_callN F (hr.mono hk) hg hm kp b hx ha hkw hall hks hdb he hpl
/-! ### sorted -/
theorem perm_rows {H : Hp} {ys xs : List V} (h : ys.Perm xs) : ∀ {rs : List (List Int)}, Paired (fun v r => ∃ a, v = V.ref a ∧ RowAt H a r) xs rs → ∃ L, Paired (fun v r => ∃ a, v = V.ref a ∧ RowAt H a r) ys L ∧ L.Perm rs := by
  induction h with
  | nil => exact fun p => ⟨_, p, List.Perm.refl _⟩
  | cons x h ih =>
    intro rs p
    cases p with
    | cons hx t =>
      obtain ⟨L, p1, p2⟩ := ih t
      exact ⟨_, .cons hx p1, p2.cons _⟩
  | swap x y l =>
    intro rs p
    cases p with
    | cons hx t =>
      cases t with
      | cons hy t =>
        exact ⟨_, .cons hy (.cons hx t), List.Perm.swap ..⟩
  | trans h1 h2 ih1 ih2 =>
    intro rs p
    obtain ⟨L, p1, q1⟩ := ih2 p
    obtain ⟨L', p2, q2⟩ := ih1 p1
    exact ⟨L', p2, q2.trans q1⟩
theorem paired_refs {H : Hp} : ∀ {as : List Addr} {rs : List (List Int)}, RowsAt H as rs → Paired (fun v r => ∃ a, v = V.ref a ∧ RowAt H a r) (as.map V.ref) rs
  | _, _, .nil => .nil
  | _, _, .cons h t => .cons ⟨_, rfl, h⟩ (paired_refs t)
theorem refs_paired {H : Hp} : ∀ {vs : List V} {rs : List (List Int)}, Paired (fun v r => ∃ a, v = V.ref a ∧ RowAt H a r) vs rs → ∃ as, vs = as.map V.ref ∧ RowsAt H as rs
  | _, _, .nil => ⟨[], rfl, .nil⟩
  | _, _, .cons h t => by
    obtain ⟨a, rfl, ha⟩ := h
    obtain ⟨as, rfl, hr⟩ := refs_paired t
    exact ⟨a :: as, rfl, .cons ha hr⟩
/-- what spread tells: all that is made, unlike, rising -/
structure Sprd (M : List Int → Prop) (L : List (List Int)) : Prop where
  nd : L.Nodup
  mem : ∀ r, r ∈ L ↔ M r
  up : L.Pairwise fun r s => TS.code 9 r ≤ TS.code 9 s
theorem tupI_row {K : PySem.W.Frag} {H : Hp} {a : Addr} {r : List Int} (h : RowAt H a r) : TupI K H (.ref a) r := ⟨a, rfl, SqT.of h⟩
theorem sorted_rows {K : PySem.W.Frag} {H : Hp} : ∀ {as : List Addr} {L : List (List Int)}, RowsAt H as L → (as.map V.ref).Pairwise (fun x y => ∀ n m, TupI K H x n → TupI K H y m → TS.code 9 n ≤ TS.code 9 m) → L.Pairwise fun r s => TS.code 9 r ≤ TS.code 9 s
  | _, _, .nil, _ => List.Pairwise.nil
  | _, _, .cons (a := a) (b := r) (l₁ := as) (l₂ := L) h t, p => by
    rw [List.map_cons, List.pairwise_cons] at p
    refine List.pairwise_cons.mpr ⟨fun s hs => ?_, sorted_rows t p.2⟩
    obtain ⟨i, hi⟩ := List.getElem?_of_mem hs
    obtain ⟨b, hb, hbs⟩ := RowsAt.at t hi
    exact p.1 (.ref b) (List.mem_map.mpr ⟨b, List.mem_of_getElem? hb, rfl⟩) r s (tupI_row h) (tupI_row hbs)
theorem code_inj {B : Int} : ∀ {r s : List Int}, r.length = s.length → TS.Bd B r → TS.Bd B s → TS.code B r = TS.code B s → r = s
  | [], [], _, _, _, _ => rfl
  | [], _ :: _, h, _, _, _ => by cases h
  | _ :: _, [], h, _, _, _ => by cases h
  | d :: r, e :: s, hl, h1, h2, hc => by
    have hl' : r.length = s.length := by simpa using hl
    have hde : d = e := by
      rcases Int.lt_trichotomy d e with h | h | h
      · have := TS.code_lt hl' h1.tail h2.tail h
        omega
      · exact h
      · have := TS.code_lt hl'.symm h2.tail h1.tail h
        omega
    subst hde
    have hrs : TS.code B r = TS.code B s := by
      rcases Int.lt_trichotomy (TS.code B r) (TS.code B s) with h | h | h
      · have := (TS.code_same (B := B) (d := d) hl').mpr h
        omega
      · exact h
      · have := (TS.code_same (B := B) (d := d) hl'.symm).mpr h
        omega
    rw [code_inj hl' h1.tail h2.tail hrs]
theorem row_bd {n wd : Nat} {r : List Int} (hn : n ≤ 9) (h : Row n wd r) : TS.Bd 9 r := fun m hm => by
  have := h.2 m hm
  omega
theorem rise_unique {S : List Int → Prop} (inj : ∀ r s, S r → S s → TS.code 9 r = TS.code 9 s → r = s) : ∀ {L L' : List (List Int)}, L.Nodup → L'.Nodup → (∀ r ∈ L, S r) → (∀ r, r ∈ L ↔ r ∈ L') → L.Pairwise (fun r s => TS.code 9 r ≤ TS.code 9 s) → L'.Pairwise (fun r s => TS.code 9 r ≤ TS.code 9 s) → L = L'
  | [], [], _, _, _, _, _, _ => rfl
  | [], b :: l', _, _, _, h, _, _ => by
    have := (h b).mpr List.mem_cons_self
    cases this
  | a :: l, [], _, _, _, h, _, _ => by
    have := (h a).mp List.mem_cons_self
    cases this
  | a :: l, b :: l', n1, n2, hs, h, p1, p2 => by
    have q1 := List.pairwise_cons.mp p1
    have q2 := List.pairwise_cons.mp p2
    have hb : b ∈ a :: l := (h b).mpr List.mem_cons_self
    have ha : a ∈ b :: l' := (h a).mp List.mem_cons_self
    have le1 : TS.code 9 a ≤ TS.code 9 b := by
      rcases List.mem_cons.mp hb with e | e
      · rw [e]; exact Int.le_refl _
      · exact q1.1 b e
    have le2 : TS.code 9 b ≤ TS.code 9 a := by
      rcases List.mem_cons.mp ha with e | e
      · rw [e]; exact Int.le_refl _
      · exact q2.1 a e
    have e : a = b := inj a b (hs a List.mem_cons_self) (hs b hb) (by omega)
    subst e
    have m1 := List.nodup_cons.mp n1
    have m2 := List.nodup_cons.mp n2
    rw [rise_unique inj m1.2 m2.2 (fun r hr => hs r (List.mem_cons_of_mem _ hr)) (fun r => ?_) q1.2 q2.2]
    constructor
    · intro hr
      rcases List.mem_cons.mp ((h r).mp (List.mem_cons_of_mem _ hr)) with e | e
      · rw [e] at hr
        exact absurd hr m1.1
      · exact e
    · intro hr
      rcases List.mem_cons.mp ((h r).mpr (List.mem_cons_of_mem _ hr)) with e | e
      · rw [e] at hr
        exact absurd hr m2.1
      · exact e
theorem sprd_unique {M M' : List Int → Prop} {n wd : Nat} {L L' : List (List Int)} (hn : n ≤ 9) (hM : ∀ r, M r → Row n wd r) (e : ∀ r, M r ↔ M' r) (h : Sprd M L) (h' : Sprd M' L') : L = L' :=
  rise_unique (S := M) (fun r s hr hs hc => code_inj ((hM r hr).1.trans (hM s hs).1.symm) (row_bd hn (hM r hr)) (row_bd hn (hM s hs)) hc) h.nd h'.nd (fun r hr => (h.mem r).mp hr) (fun r => (h.mem r).trans ((e r).trans (h'.mem r).symm)) h.up h'.up
def spSpread (CH Ct : Addr) : Sp := fun vs H Q E => ∃ (h l : Addr) (n : Nat) (ds : List Dd) (R0 : List (List Int)) (wd most : Nat), vs = [.ref h, .ref l, .int wd, .int most] ∧ Asked CH H h l n ds R0 wd most ∧
  (∀ L : List (List Int), Good (Made n (deedsOf ds) R0 wd) most L → L.length < 64) ∧
  (TooBig (Made n (deedsOf ds) R0 wd) most → ∀ c H', Same H H' → E (.ref Ct) c H') ∧
  ∀ (p : Addr) (L : List (List Int)) (H' : Hp), Same H H' → H p = none → LRows H' p L → L.length ≤ most → Sprd (Made n (deedsOf ds) R0 wd) L → Q (.ref p) H'

section
variable {P : Program} {w : World} {K : PySem.W.Frag} {mg : Str → Option Value} {base : Heap}
theorem sc_spread : FnScope ["house", "rows", "wide", "most"] ["house", "rows", "wide", "most"] (defScope sSpread) := ⟨rfl, rfl, rfl, by decide +kernel, rfl, by decide +kernel, by decide +kernel⟩
theorem ok_spread (Z : Zs mg) {C CH Ct f : Addr} {fd : FuncData} (T : GTxt K C) (TH : HTxt K CH) (D : DefAtD K mg "spread" sSpread f fd) (cK : Cal P w K mg base CX0 4 "check_rows" spChk) (cTh : Met P w K mg base CX0 1 CH "things" (spThings CH)) (cG : Cal P w K mg base (L2.CX P w) 7 "grown" (spGrown C CH Ct)) :
    FnOk P w K mg base (L2.CX P w) 8 f fd ["house", "rows", "wide", "most"] (spSpread CH Ct) := by
  refine D.fn.ok sc_spread (fun vs H Q E h => ?_) (fun cdv A outer s H vs Q E hr h => ?_)
  · obtain ⟨h, l, n, ds, R0, wd, most, rfl, _⟩ := h
    rfl
  · obtain ⟨h, l, n, ds, R0, wd, most, rfl, a, hB, hE, q⟩ := h
    refine ⟨_, pss_cons (ps_expr (pe_cl cK hr (by decide) pass0 (by rfl) (pa_cons (pv 1) (pa_cons (pv 2) (pa_cons (pe_ml0 cTh TH.cl hr (by decide) pass0 (pv 0)) pa_nil)))))
      (pss_one (ps_ret (pe_callB (cr_sortT (d := wd) (B := 9) a.w1) (by rfl) Z.sorted (by decide +kernel) (pa_cons (pe_fld (pe_cl cG hr (by decide) passE (by rfl) (pa_cons (pv 0) (pa_cons (pv 1) (pa_cons (pv 2) (pa_cons (pv 3) pa_nil))))) rfl) pa_nil)))), ?_⟩
    obtain ⟨dh, hd2, k1, k2, k3⟩ := id a.house
    refine ⟨_, rfl, _, rfl, _, rfl, h, dh, _, rfl, k1, hfs_no _ _ (by decide +kernel) (by decide +kernel), h, n, ds, rfl, a.house, l, R0, wd, n, rfl, a.rows, a.wd, a.row, fun H1 s1 => ?_⟩
    refine ⟨_, rfl, _, rfl, _, rfl, _, rfl, h, l, n, ds, R0, wd, most, rfl, a.same s1, fun tb c H' s' => hE tb c H' (s1.trans s'), fun x rs H2 s2 G gd hall => ?_⟩
    obtain ⟨dx, hg⟩ := G.ob
    obtain ⟨as, hrl, hra⟩ := id G.rw
    have hrow : ∀ r, Made n (deedsOf ds) R0 wd r → Row n wd r := fun r m => made_row (by omega) (valid_of a.tabs) a.row m
    refine ⟨x.g, C, dx, _, _, rfl, hg, T.cl, T.n5, g_rows x, x.rl, as.map V.ref, rfl, SqL.of hrl, ?_, fun y hy => ?_, fun ys p hp hup np => ?_⟩
    · rw [List.length_map, hra.len]
      exact hB rs gd
    · obtain ⟨i, hi⟩ := List.getElem?_of_mem hy
      obtain ⟨b, hb, rfl⟩ := get_refs hi
      obtain ⟨r, hr', hbr⟩ := hra.get hb
      have hr2 := hrow r (gd.mem r (List.mem_of_getElem? hr'))
      exact ⟨r, tupI_row hbr, hr2.1, row_bd a.n9 hr2⟩
    · obtain ⟨L, pL, permL⟩ := perm_rows hp (paired_refs hra)
      obtain ⟨bs, rfl, hbs⟩ := refs_paired pL
      have s3 := (s1.trans s2)
      refine q p L _ (s3.trans (same_new np)) (s3.free np) ⟨bs, upd_same, hbs.same (same_new np)⟩ (by rw [permL.length_eq]; exact gd.len) ⟨permL.nodup_iff.mpr gd.nd, fun r => ?_, sorted_rows hbs hup⟩
      rw [permL.mem_iff]
      exact ⟨gd.mem r, hall r⟩
theorem c_spread (Z : Zs mg) {C CH Ct f : Addr} {fd : FuncData} (T : GTxt K C) (TH : HTxt K CH) (D : DefAtD K mg "spread" sSpread f fd) (cK : Cal P w K mg base CX0 4 "check_rows" spChk) (cTh : Met P w K mg base CX0 1 CH "things" (spThings CH)) (cG : Cal P w K mg base (L2.CX P w) 7 "grown" (spGrown C CH Ct)) :
    Cal P w K mg base (L2.CX P w) 8 "spread" (spSpread CH Ct) ∧ CalN P w K mg base (L2.CX P w) 8 3 "spread" ["most"] (spSpread CH Ct) := by
  have F := ok_spread (P := P) (w := w) (base := base) Z T TH D cK cTh cG
  constructor
  · obtain ⟨dsv, hv, b⟩ := D.fn.binds1 (ps := ["house", "rows", "wide", "most"]) 4 1 (by simp) rfl fun T kV doc pm an cdv ct us its h1 h2 => match us, its, h1, h2 with
      | [_, _, _, _], [_], _, _ => ⟨_, rfl, rfl⟩
    cases hv
    exact ⟨f, fd, _, F, D.mgf, D.fn.kp, b⟩
  · exact ⟨f, fd, _, F, D.mgf, D.fn.kp, kbn_of D.fn 3 (by simp) fun T kV doc pm an cdv ct us its ws h1 h2 h3 => match us, its, ws, h1, h2, h3 with
      | [_, _, _], [_], [_], _, _, _ => ⟨_, rfl, rfl⟩⟩
end
end K26

set_option Elab.async false
set_option linter.all false
set_option maxRecDepth 100000
set_option maxHeartbeats 4000000
/-! # leads_out, first_out, is_closed: of deeds of two places that keep the lot -/
namespace K26
open PySem PySem.Spec PyProof.Rows L2
abbrev sLeads : Stmt := top 28
abbrev sFirst : Stmt := top 29
abbrev sClosed : Stmt := top 30
/-- a list of lists of rows -/
def LLRows (H : Hp) (g : Addr) (rss : List (List (List Int))) : Prop := ∃ gs, H g = some (.lst (gs.map V.ref)) ∧ Paired (fun b rs => LRows H b rs) gs rss
theorem pl_same {H H' : Hp} (s : Same H H') : ∀ {gs : List Addr} {rss : List (List (List Int))}, Paired (fun b rs => LRows H b rs) gs rss → Paired (fun b rs => LRows H' b rs) gs rss
  | _, _, .nil => .nil
  | _, _, .cons h t => .cons (h.same s) (pl_same s t)
theorem LLRows.same {H H' : Hp} {g : Addr} {rss : List (List (List Int))} (s : Same H H') (h : LLRows H g rss) : LLRows H' g rss := by
  obtain ⟨gs, h1, h2⟩ := h
  exact ⟨gs, s _ _ h1, pl_same s h2⟩
theorem pl_app {H : Hp} : ∀ {gs gs' : List Addr} {rss rss' : List (List (List Int))}, Paired (fun b rs => LRows H b rs) gs rss → Paired (fun b rs => LRows H b rs) gs' rss' → Paired (fun b rs => LRows H b rs) (gs ++ gs') (rss ++ rss')
  | _, _, _, _, .nil, k => k
  | _, _, _, _, .cons h t, k => .cons h (pl_app t k)
theorem pl_get {H : Hp} : ∀ {gs : List Addr} {rss : List (List (List Int))} {i : Nat} {a : Addr}, Paired (fun b rs => LRows H b rs) gs rss → gs[i]? = some a → ∃ rs, rss[i]? = some rs ∧ LRows H a rs
  | _, _, _, _, .nil, e => by simp at e
  | _, _, 0, a, .cons h _, e => by
    have e' := Option.some.inj e
    subst e'
    exact ⟨_, rfl, h⟩
  | _, _, i + 1, a, .cons _ t, e => pl_get (i := i) t e
/-- new things beside, one list written that was not tracked before -/
theorem same_upd {H0 H : Hp} {p : Addr} {o : HO} (n : H0 p = none) (s : Same H0 H) : Same H0 (upd H p o) := same_put n s
theorem nodup_inl : ∀ {rs : List (List Int)}, rs.Nodup → (rs.map (List.map (Sum.inl : Int → Key))).Nodup
  | [], _ => List.nodup_nil
  | r :: rs, h => by
    have h' := List.nodup_cons.mp h
    exact List.nodup_cons.mpr ⟨fun z => h'.1 (keys_mem.mp z), nodup_inl h'.2⟩
theorem LRows.off {H : Hp} {b p : Addr} {rs : List (List Int)} {ys zs : List V} (h : LRows H b rs) (hp : H p = some (.lst ys)) (ne : b ≠ p) : LRows (upd H p (.lst zs)) b rs := by
  obtain ⟨as, h1, h2⟩ := h
  exact ⟨as, by rw [upd_ne ne]; exact h1, RowsAt.keep (fun a r ha => ha.off hp (fun _ => by intro z; cases z)) h2⟩
theorem pl_off {H : Hp} {p : Addr} {ys zs : List V} (hp : H p = some (.lst ys)) : ∀ {gs : List Addr} {rss : List (List (List Int))}, (∀ b ∈ gs, b ≠ p) → Paired (fun b rs => LRows H b rs) gs rss → Paired (fun b rs => LRows (upd H p (.lst zs)) b rs) gs rss
  | _, _, _, .nil => .nil
  | _, _, n, .cons h t => .cons (h.off hp (n _ List.mem_cons_self)) (pl_off hp (fun b hb => n b (List.mem_cons_of_mem _ hb)) t)
def rowsFrom (L : List (List Int)) (i : Nat) (rss : List (List (List Int))) : Prop := ∀ rs ∈ rss, rs.length = i ∧ ∀ r ∈ rs, r ∈ L
def spLeads (CH : Addr) : Sp := fun vs H Q _ => ∃ (h l : Addr) (n wd : Nat) (ds : List Dd) (d : Dd) (L : List (List Int)), vs = [.ref h, .ref d.a, .ref l, .int wd] ∧ HouseAt CH H h n ds ∧ n ≤ 9 ∧ wd ≤ 1000 ∧ DdAt H d ∧ d.p = 2 ∧ n * n ≤ d.t.length ∧
  LRows H l L ∧ L.Nodup ∧ L.length ≤ 100 ∧ (∀ r ∈ L, Row n wd r) ∧ (∀ r ∈ L, ∀ s ∈ L, ap2 n d.t r s ∈ L) ∧ ∀ H', Same H H' → Q (.bl false) H'
abbrev nLeads : List Str := ["house", "deed", "lot", "wide", "known", "growing", "k", "longer", "rows", "row"]
section
variable {P : Program} {w : World} {K : PySem.W.Frag} {mg : Str → Option Value} {base : Heap}
theorem sc_leads : FnScope nLeads ["house", "deed", "lot", "wide"] (defScope sLeads) := ⟨rfl, rfl, rfl, by decide +kernel, rfl, by decide +kernel, by decide +kernel⟩
theorem c_leads (Z : Zs mg) {CH : Addr} (TH : HTxt K CH) (D : DefAt K mg "leads_out" sLeads ["house", "deed", "lot", "wide"]) (cPT : Cal P w K mg base CX0 1 "put_together" spPut) (cTh : Met P w K mg base CX0 1 CH "things" (spThings CH)) : Cal P w K mg base CX0 2 "leads_out" (spLeads CH) := by
  refine cal_of D sc_leads (fun vs H Q E h => ?_) (fun f cdv A outer s H vs Q E hr h => ?_)
  · obtain ⟨h, l, n, wd, ds, d, L, rfl, _⟩ := h
    rfl
  · obtain ⟨h, l, n, wd, ds, d, L, rfl, hH, hn, hw, hd, hp, htl, ⟨as, hl, hra⟩, hnd, hL, hrow, hcl, q⟩ := h
    have hu := hu_of hr
    have hu8 : (A.deeper (envOfC "leads_out" (defScope sLeads) s.heap.objs.size f cdv)).units + 8 < cLine := by have := hr.units; omega
    refine ⟨_, pss_cons (ps_set (i := 4) sc_leads.nd rfl (.inl rfl) (pe_callTy (call_dictT rfl hu8) (by rfl) Z.dict (by decide +kernel) (pa_cons (pe_lc (own := [("row", 9)]) (g := gName 9) (tt := tYes) (by rfl) sc_leads.nd (pi_list (pv 2)) (blkOk_by (own := [("row", 9)]) (N := nLeads) (sc := defScope sLeads) (by decide +kernel))
        (fun _ _ _ _ _ => pg_name (i := 9) sc_leads.nd rfl (Or.inl rfl)) (fun _ _ _ _ _ => pts_nil) (fun _ _ _ _ _ => pe_tup (pa_cons (pv 9) (pa_cons pe_bl pa_nil)))) pa_nil)))
      (pss_cons (ps_set (i := 5) sc_leads.nd rfl (.inl rfl) (pe_lst (pa_cons (pe_lst pa_nil) pa_nil)))
      (pss_cons (ps_for PassesOwn.never rfl (pi_range1 (by rfl) Z.range (pa_cons (pe_ix ix_tup (pv 1) pe_int (fun _ _ => rfl)) pa_nil)) (pg_name (i := 6) sc_leads.nd rfl (.inl rfl))
        (pss_cons (ps_set (i := 7) sc_leads.nd rfl (.inl rfl) (pe_lst pa_nil))
        (pss_cons (ps_for PassesOwn.never rfl (pi_list (pv 5)) (pg_name (i := 8) sc_leads.nd rfl (.inr rfl))
          (pss_one (ps_expr (pe_bm PySem.F.plainAttrs_list PySem.F.slot_list_extend PySem.F.type_list_extend mt_extend (pv 7) (pa_cons (pe_lc (own := [("row", 9)]) (g := gName 9) (tt := tYes) (by rfl) sc_leads.nd (pi_list (pv 2)) (blkOk_by (own := [("row", 9)]) (N := nLeads) (sc := defScope sLeads) (by decide +kernel))
            (fun _ _ _ _ _ => pg_name (i := 9) sc_leads.nd rfl (Or.inl rfl)) (fun _ _ _ _ _ => pts_nil) (fun _ _ _ _ _ => pe_op op_cat (pv 8) (pe_lst (pa_cons (pv 9) pa_nil)))) pa_nil)))))
        (pss_one (ps_set (i := 5) sc_leads.nd rfl (.inl rfl) (pv 7))))))
      (pss_cons (ps_for PassesOwn.never rfl (pi_list (pv 5)) (pg_name (i := 8) sc_leads.nd rfl (.inr rfl))
        (pss_one (ps_if (pt_cmp (pc_dnotin hu (pe_cl cPT hr (by decide) pass0 (by rfl) (pa_cons (pe_ix ix_tup (pv 1) pe_int (fun _ _ => rfl)) (pa_cons (pe_ml0 cTh TH.cl hr (by decide) pass0 (pv 0)) (pa_cons (pv 8) (pa_cons (pv 3) pa_nil))))) (pv 4))) (pss_one ps_never) pss_nil)))
      (pss_one (ps_ret pe_bl))))), ?_⟩
    have hal : (as.map V.ref).length = L.length := by rw [List.length_map, hra.len]
    -- known
    refine ⟨_, rfl, l, rfl, ⟨_, SqL.of hl⟩, fun D0 nD0 => ?_⟩
    refine lc_list (K := K) (a := l) (xs := as.map V.ref) (fun i H' => (∃ ps : List Addr, H' D0 = some (.lst (ps.map V.ref)) ∧ Paired (fun p a => H' p = some (.tup [.ref a, .bl true])) ps (as.take i)) ∧ Same H H') ⟨⟨[], upd_same, by rw [List.take_zero]; exact .nil⟩, same_new nD0⟩ (fun i H' _ h => SqL.of (h.2 _ _ hl)) (fun i y H' hy h => ?_) fun H1 h1 => ?_
    · obtain ⟨⟨ps, hD, hps⟩, s1⟩ := h
      obtain ⟨a, ea, rfl⟩ := get_refs hy
      refine ⟨rfl, _, rfl, (by show 2 ≤ sizeLine; decide), fun p np => ⟨_, by rw [upd_ne (ne_of_none hD np)]; exact hD, ?_, ⟨ps ++ [p], by rw [upd_same, List.map_append]; rfl, ?_⟩, same_put nD0 (s1.trans (same_new np))⟩⟩
      · rw [List.length_map, Paired.length hps, List.length_take]
        have := (List.getElem?_eq_some_iff.mp ea).1
        rw [List.length_map] at hal
        exact small1000 (by omega)
      · rw [take_more ea]
        have hpD : p ≠ D0 := fun z => by rw [z, hD] at np; cases np
        refine Paired.snoc (Paired.mapP hps fun p' a' e => ?_) (by rw [upd_ne hpD]; exact upd_same)
        have n1 : p' ≠ D0 := ne_of e hD (by intro z; cases z)
        rw [upd_ne n1, upd_ne (ne_of_none e np)]
        exact e
    · obtain ⟨⟨ps, hD, hps⟩, s1⟩ := h1
      rw [hal, List.take_of_length_le (by rw [List.length_map] at hal; omega)] at hps
      -- the four of each entry
      obtain ⟨T4, e1, e2, e3⟩ : ∃ T4 : List (Addr × List Key × Addr × V), T4.map (fun q => V.ref q.1) = ps.map V.ref ∧ T4.map (·.2.1) = L.map (List.map Sum.inl) ∧ ∀ q ∈ T4, H1 q.1 = some (.tup [.ref q.2.2.1, q.2.2.2]) ∧ H1 q.2.2.1 = some (.tup (q.2.1.map kV)) := by
        have key : ∀ {ps as : List Addr} {L : List (List Int)}, Paired (fun p a => H1 p = some (.tup [.ref a, .bl true])) ps as → RowsAt H1 as L → ∃ T4 : List (Addr × List Key × Addr × V), T4.map (fun q => V.ref q.1) = ps.map V.ref ∧ T4.map (·.2.1) = L.map (List.map Sum.inl) ∧ ∀ q ∈ T4, H1 q.1 = some (.tup [.ref q.2.2.1, q.2.2.2]) ∧ H1 q.2.2.1 = some (.tup (q.2.1.map kV)) := by
          intro ps as L h1 h2
          induction h1 generalizing L with
          | nil =>
            cases h2
            exact ⟨[], rfl, rfl, fun q hq => by cases hq⟩
          | @cons p a ps' as' hp t ih =>
            cases h2 with
            | @cons _ r _ L' hr' t' =>
              obtain ⟨T4, e1, e2, e3⟩ := ih t'
              refine ⟨(p, r.map Sum.inl, a, .bl true) :: T4, by rw [List.map_cons, e1, List.map_cons], by rw [List.map_cons, e2, List.map_cons], fun q hq => ?_⟩
              rcases List.mem_cons.mp hq with e | hq
              · rw [e]
                exact ⟨hp, by rw [key_tup]; exact hr'⟩
              · exact e3 q hq
        exact key hps (hra.same s1)
      refine ⟨D0, T4, rfl, SqL.of (by rw [e1]; exact hD), e3, ?_, fun kd nk => ?_⟩
      · rw [e2]
        exact nodup_inl hnd
      -- growing = [[]]
      have sk : Same H (upd H1 kd (.dT (T4.map fun q => (q.2.1, q.2.2.2)))) := s1.trans (same_new nk)
      have hk0 : (upd H1 kd (.dT (T4.map fun q => (q.2.1, q.2.2.2)))) kd = some (.dT (T4.map fun q => (q.2.1, q.2.2.2))) := upd_same
      have hkeys : ∀ r ∈ L, (valV (T4.map fun q => (q.2.1, q.2.2.2)) (r.map (Sum.inl : Int → Key))).isSome = true := fun r hr' => by
        cases ev : valV (T4.map fun q => (q.2.1, q.2.2.2)) (r.map (Sum.inl : Int → Key)) with
        | some _ => rfl
        | none =>
          have := valV_none_iff.mp ev
          rw [List.map_map] at this
          have e : ((fun x : List Key × V => x.1) ∘ fun q : Addr × List Key × Addr × V => (q.2.1, q.2.2.2)) = fun q => q.2.1 := rfl
          rw [e, e2] at this
          exact absurd (keys_mem.mpr hr') this
      generalize upd H1 kd (.dT (T4.map fun q => (q.2.1, q.2.2.2))) = Hk at sk hk0
      generalize (T4.map fun q => (q.2.1, q.2.2.2)) = kvs at hk0 hkeys
      refine ⟨Nat.zero_le _, fun e0 ne0 => ⟨(by show 1 ≤ sizeLine; decide), fun g0 ng0 => ?_⟩⟩
      have he0 : (upd (upd Hk e0 (.lst [])) g0 (.lst [.ref e0])) e0 = some (.lst []) := by
        rw [upd_ne (ne_of_none upd_same ng0), upd_same]
      have sg0 : Same Hk (upd (upd Hk e0 (.lst [])) g0 (.lst [.ref e0])) := (same_new ne0).trans (same_new ng0)
      refine ⟨_, rfl, d.a, _, 1, .int d.p, rfl, rfl, SqT.of ((sk.trans sg0) _ _ hd.1), atI_nat rfl, _, rfl, by omega, by omega, ?_⟩
      refine for_range (fun i σ H' => ∃ g v6 v7 v8, σ = [some (.ref h), some (.ref d.a), some (.ref l), some (.int wd), some (.ref kd), some (.ref g), v6, v7, v8, none] ∧ Same Hk H' ∧ ∃ rss, LLRows H' g rss ∧ rowsFrom L i rss ∧ rss.length ≤ 100 ^ i)
        ⟨g0, _, _, _, rfl, sg0, [[]], ⟨[e0], upd_same, .cons ⟨[], he0, .nil⟩ .nil⟩, fun rs hrs => (by rw [List.mem_singleton.mp hrs]; exact ⟨rfl, fun r hr' => by cases hr'⟩), by simp⟩ (fun i σ H2 hi h2 => ?_) fun σ H2 h2 => ?_
      · obtain ⟨g, v6, v7, v8, rfl, s2, rss, ⟨gs, hg, hgs⟩, hfrom, hlen⟩ := h2
        have hi2 : i < 2 := by
          have : ((d.p : Nat) : Int).toNat = d.p := by simp
          omega
        have h100 : (100 : Nat) ^ i ≤ 100 := by
          rcases i with _ | _ | i
          · decide
          · decide
          · omega
        -- longer = []
        refine ⟨Nat.zero_le _, fun lg nlg => ?_⟩
        have hgl : (gs.map V.ref).length = rss.length := by rw [List.length_map]; exact Paired.length hgs
        have slg := same_new (o := .lst []) nlg
        refine ⟨_, rfl, g, rfl, ⟨_, SqL.of (slg _ _ hg)⟩, for_list (K := K) (a := g) (xs := gs.map V.ref) (fun j σ H' => (∃ v8, σ = [some (.ref h), some (.ref d.a), some (.ref l), some (.int wd), some (.ref kd), some (.ref g), some (.int (0 + (i : Nat))), some (.ref lg), v8, none]) ∧ Same H2 H' ∧
            ∃ bs rss', H' lg = some (.lst (bs.map V.ref)) ∧ Paired (fun b rs => LRows H' b rs) bs rss' ∧ rowsFrom L (i + 1) rss' ∧ rss'.length = j * L.length ∧ ∀ b ∈ bs, b ≠ lg)
          ⟨⟨_, rfl⟩, slg, [], [], upd_same, .nil, (fun rs hrs => by cases hrs), by simp, fun b hb => by cases hb⟩ (fun j σ H' _ h' => SqL.of (h'.2.1 _ _ hg)) (fun j y σ H3 hy h3 => ?_) fun σ H3 h3 => ?_⟩
        · obtain ⟨⟨v8', rfl⟩, s3, bs, rss', hlg, hbs, hfr, hcnt, hne⟩ := h3
          obtain ⟨b, eb, rfl⟩ := get_refs hy
          obtain ⟨rs, ers, ras, hb, hrs⟩ := pl_get hgs eb
          have hj : j < rss.length := (List.getElem?_eq_some_iff.mp ers).1
          obtain ⟨hrl, hrm⟩ := hfrom rs (List.mem_of_getElem? ers)
          have hb3 := s3 _ _ hb
          have sH3 : Same H H3 := (sk.trans s2).trans s3
          have hl3 := sH3 _ _ hl
          have hcnt2 : rss'.length + L.length ≤ 10000 := by
            have : (j + 1) * L.length ≤ 100 * 100 := Nat.mul_le_mul (by omega) hL
            rw [Nat.add_mul, Nat.one_mul] at this
            omega
          -- [rows + [row] for row in lot]
          refine ⟨_, rfl, .inl ⟨rfl, _, SqL.of hlg⟩, _, rfl, l, rfl, ⟨_, SqL.of hl3⟩, fun Dc nDc => ?_⟩
          refine lc_list (K := K) (a := l) (xs := as.map V.ref) (fun m H' => (∃ cs : List Addr, H' Dc = some (.lst (cs.map V.ref)) ∧ Paired (fun b rs => LRows H' b rs) cs ((L.take m).map fun r => rs ++ [r]) ∧ ∀ c ∈ cs, H3 c = none ∧ c ≠ Dc) ∧ Same H3 H')
            ⟨⟨[], upd_same, by rw [List.take_zero]; exact .nil, fun c hc => by cases hc⟩, same_new nDc⟩ (fun m H' _ h' => SqL.of (h'.2 _ _ hl3)) (fun m z H' hz h' => ?_) fun H4 h4 => ?_
          · obtain ⟨⟨cs, hDc, hcs, hfresh⟩, s4⟩ := h'
            obtain ⟨a, ea, rfl⟩ := get_refs hz
            obtain ⟨r, er, har⟩ := hra.get ea
            refine ⟨rfl, _, rfl, _, rfl, (by show 1 ≤ sizeLine; decide), fun e ne => ?_⟩
            have se := same_new (o := .lst [.ref a]) ne
            refine ⟨b, e, _, _, rfl, rfl, se _ _ (s4 _ _ hb3), upd_same, ?_, fun c nc => ?_⟩
            · rw [List.length_map, hrs.len, hrl, sizeLine_eq]
              show i + 1 ≤ 16777216
              omega
            · have sc := same_new (o := .lst (ras.map V.ref ++ [V.ref a])) nc
              have ncD : c ≠ Dc := fun q' => by rw [q', se _ _ hDc] at nc; cases nc
              have ncH : H3 c = none := (s4.trans se).free nc
              refine ⟨cs.map V.ref, sc _ _ (se _ _ hDc), ?_, ⟨cs ++ [c], by rw [upd_same, List.map_append]; rfl, ?_, ?_⟩, same_put nDc (s4.trans (se.trans sc))⟩
              · rw [List.length_map, Paired.length hcs, List.length_map, List.length_take]
                exact small1000 (by omega)
              · rw [take_more er, List.map_append]
                refine pl_off (sc _ _ (se _ _ hDc)) (fun u hu' => ?_) (pl_app (pl_same (se.trans sc) hcs) (.cons ⟨ras ++ [a], by rw [upd_same, List.map_append]; rfl, ?_⟩ .nil))
                · rcases List.mem_append.mp hu' with hu' | hu'
                  · exact (hfresh u hu').2
                  · rw [List.mem_singleton.mp hu']
                    exact ncD
                · exact RowsAt.snoc ((((sH3.trans s4).trans (se.trans sc)) _ _ har)) (hrs.same (s3.trans (s4.trans (se.trans sc))))
              · intro u hu'
                rcases List.mem_append.mp hu' with hu' | hu'
                · exact hfresh u hu'
                · rw [List.mem_singleton.mp hu']
                  exact ⟨ncH, ncD⟩
          · obtain ⟨⟨cs, hDc, hcs, hfresh⟩, s4⟩ := h4
            rw [hal, List.take_length] at hcs
            have hcl' : cs.length = L.length := by rw [Paired.length hcs, List.length_map]
            have hbl : bs.length = rss'.length := Paired.length hbs
            refine ⟨lg, Dc, _, _, rfl, rfl, s4 _ _ hlg, hDc, ?_, ⟨_, rfl⟩, same_put nlg (s3.trans s4), bs ++ cs, rss' ++ L.map (fun r => rs ++ [r]), by rw [upd_same, List.map_append], ?_, ?_, ?_, ?_⟩
            · rw [List.length_map, List.length_map, sizeLine_eq]
              omega
            · refine pl_off (s4 _ _ hlg) (fun u hu' => ?_) (pl_app (pl_same s4 hbs) hcs)
              rcases List.mem_append.mp hu' with hu' | hu'
              · exact hne u hu'
              · exact fun z => by rw [z] at hu'; have := (hfresh lg hu').1; rw [hlg] at this; cases this
            · intro rs2 hrs2
              rcases List.mem_append.mp hrs2 with hrs2 | hrs2
              · exact hfr rs2 hrs2
              · obtain ⟨r, hr', rfl⟩ := List.mem_map.mp hrs2
                refine ⟨by rw [List.length_append, hrl]; rfl, fun u hu' => ?_⟩
                rcases List.mem_append.mp hu' with hu' | hu'
                · exact hrm u hu'
                · rw [List.mem_singleton.mp hu']
                  exact hr'
            · rw [List.length_append, List.length_map, hcnt, Nat.add_mul, Nat.one_mul]
            · intro u hu'
              rcases List.mem_append.mp hu' with hu' | hu'
              · exact hne u hu'
              · exact fun z => by rw [z] at hu'; have := (hfresh lg hu').1; rw [hlg] at this; cases this
        · obtain ⟨⟨v8', rfl⟩, s3, bs, rss', hlg, hbs, hfr, hcnt, hne⟩ := h3
          refine ⟨_, rfl, lg, _, _, _, rfl, s2.trans s3, rss', ⟨bs, hlg, hbs⟩, hfr, ?_⟩
          rw [hcnt, hgl, Nat.pow_succ]
          exact Nat.mul_le_mul hlen hL
      · obtain ⟨g, v6, v7, v8, rfl, s2, rss, ⟨gs, hg, hgs⟩, hfrom, _⟩ := h2
        rw [show ((d.p : Nat) : Int).toNat = 2 by simp [hp]] at hfrom
        refine ⟨_, rfl, g, rfl, ⟨_, SqL.of hg⟩, for_list (K := K) (a := g) (xs := gs.map V.ref) (fun j σ H' => (∃ v8, σ = [some (.ref h), some (.ref d.a), some (.ref l), some (.int wd), some (.ref kd), some (.ref g), v6, v7, v8, none]) ∧ Same H2 H')
          ⟨⟨_, rfl⟩, Same.refl H2⟩ (fun j σ H' _ h' => SqL.of (h'.2 _ _ hg)) (fun j y σ H3 hy h3 => ?_) fun σ H3 h3 => q H3 ((sk.trans s2).trans h3.2)⟩
        obtain ⟨⟨v8', rfl⟩, s3⟩ := h3
        obtain ⟨b, eb, rfl⟩ := get_refs hy
        obtain ⟨rs, ers, hb⟩ := pl_get hgs eb
        obtain ⟨hrl, hrm⟩ := hfrom rs (List.mem_of_getElem? ers)
        obtain ⟨r, s', rfl⟩ : ∃ r s', rs = [r, s'] := by
          match rs, hrl with
          | [r, s'], _ => exact ⟨r, s', rfl⟩
        have sH3 : Same H H3 := (sk.trans s2).trans s3
        have hd3 := hd.same sH3
        obtain ⟨dh, hd2, k1, k2, k3⟩ := id (hH.same sH3)
        have hr1 : r ∈ L := hrm r (by simp)
        have hr2 : s' ∈ L := hrm s' (by simp)
        refine ⟨_, rfl, d.a, _, 2, .ref d.ta, rfl, rfl, SqT.of hd3.1, atI_nat rfl, _, rfl, h, dh, _, rfl, k1, hfs_no _ _ (by decide +kernel) (by decide +kernel), h, n, ds, rfl, hH.same sH3, _, rfl, _, rfl, ?_⟩
        refine ⟨d.ta, b, d.t, n, wd, rfl, hd3.2, hn, hw, .inr ⟨r, s', hb.same s3, hrow r hr1, hrow s' hr2, htl, fun c H4 s4 hc => ?_⟩⟩
        have hv := hcl r hr1 s' hr2
        refine ⟨_, rfl, kd, _, rfl, DGet.t (k := (ap2 n d.t r s').map Sum.inl) (s4 _ _ (s3 _ _ (s2 _ _ hk0))) (by rw [key_tup]; exact hc), _, rfl, ?_⟩
        rw [hkeys _ hv]
        exact iteF ⟨⟨_, rfl⟩, s3.trans s4⟩

/-! ### first_out, is_closed -/
/-- the deeds of a house, of two places all, lead out of a lot by no rows -/
def Keeps (n : Nat) (ds : List Dd) (L : List (List Int)) : Prop := ∀ d ∈ ds, d.p = 2 ∧ n * n ≤ d.t.length ∧ ∀ r ∈ L, ∀ s ∈ L, ap2 n d.t r s ∈ L
def spFirst (CH : Addr) (b : V) : Sp := fun vs H Q _ => ∃ (h l : Addr) (n wd : Nat) (ds : List Dd) (L : List (List Int)), vs = [.ref h, .ref l, .int wd] ∧ HouseAt CH H h n ds ∧ n ≤ 9 ∧ wd ≤ 1000 ∧ Keeps n ds L ∧
  LRows H l L ∧ L.Nodup ∧ L.length ≤ 100 ∧ (∀ r ∈ L, Row n wd r) ∧ ∀ H', Same H H' → Q b H'
theorem sc_first : FnScope ["house", "lot", "wide", "at", "deed"] ["house", "lot", "wide"] (defScope sFirst) := ⟨rfl, rfl, rfl, by decide +kernel, rfl, by decide +kernel, by decide +kernel⟩
theorem c_first (Z : Zs mg) {CH : Addr} (TH : HTxt K CH) (D : DefAt K mg "first_out" sFirst ["house", "lot", "wide"]) (cL : Cal P w K mg base CX0 2 "leads_out" (spLeads CH)) (cDs : Met P w K mg base CX0 1 CH "deeds" (spDeeds CH)) : Cal P w K mg base CX0 3 "first_out" (spFirst CH .non) := by
  refine cal_of D sc_first (fun vs H Q E h => ?_) (fun f cdv A outer s H vs Q E hr h => ?_)
  · obtain ⟨h, l, n, wd, ds, L, rfl, _⟩ := h
    rfl
  · obtain ⟨h, l, n, wd, ds, L, rfl, hH, hn, hw, hk, hl, hnd, hL, hrow, q⟩ := h
    refine ⟨_, pss_cons (ps_for PassesOwn.never rfl (pi_enum (by rfl) Z.enum (pa_cons (pe_ml0 cDs TH.cl hr (by decide) pass0 (pv 0)) pa_nil)) (pg_tup rfl (pgs_cons (pg_name (i := 3) sc_first.nd rfl (.inl rfl)) (pgs_cons (pg_name (i := 4) sc_first.nd rfl (.inl rfl)) pgs_nil)))
      (pss_one (ps_if (pt_val (pe_cl cL hr (by decide) pass0 (by rfl) (pa_cons (pv 0) (pa_cons (pv 4) (pa_cons (pv 1) (pa_cons (pv 2) pa_nil)))))) (pss_one ps_never) pss_nil))) (pss_one (ps_ret pe_non)), ?_⟩
    obtain ⟨dh, hd2, k1, k2, k3⟩ := id hH
    refine ⟨_, rfl, h, dh, _, rfl, k1, hfs_no _ _ (by decide +kernel) (by decide +kernel), h, n, ds, rfl, hH, fun ld H1 s1 _ hld => ?_⟩
    refine ⟨ld, refsD ds, rfl, SqL.of hld, for_it (walk_enum (xs := refsD ds)) (fun i σ H' => (∃ v3 v4, σ = [some (.ref h), some (.ref l), some (.int wd), v3, v4]) ∧ Same H1 H')
      ⟨⟨_, _, rfl⟩, Same.refl H1⟩ (fun i σ H' _ h' => SqL.of (h'.2 _ _ hld)) (fun i y σ H' H2 hi h' hy => ?_) fun σ H' h' => q H' (s1.trans h'.2)⟩
    obtain ⟨⟨v3, v4, rfl⟩, s2⟩ := h'
    obtain ⟨Tp, a1, a2, rfl, nT, rfl, e1, e2⟩ := hy
    have e1 : a1 = V.int (i : Nat) := (Option.some.inj e1).symm
    subst e1
    obtain ⟨d, hdi, rfl⟩ := get_refsD e2
    have hd := List.mem_of_getElem? hdi
    obtain ⟨hp, htl, hcl⟩ := hk d hd
    have s3 := (s1.trans s2).trans (same_new (o := .tup [.int (i : Nat), .ref d.a]) nT)
    refine ⟨Tp, _, rfl, SqT.of upd_same, rfl, _, _, rfl, _, _, rfl, rfl, ?_⟩
    refine ⟨_, rfl, _, rfl, _, rfl, _, rfl, h, l, n, wd, ds, d, L, rfl, hH.same s3, hn, hw, (k3 d hd).same s3, hp, htl, hl.same s3, hnd, hL, hrow, hcl, fun H3 s4 => ⟨_, rfl, ?_⟩⟩
    exact iteF ⟨⟨_, _, rfl⟩, s2.trans ((same_new nT).trans s4)⟩
theorem sc_closed : FnScope ["house", "lot", "wide"] ["house", "lot", "wide"] (defScope sClosed) := ⟨rfl, rfl, rfl, by decide +kernel, rfl, by decide +kernel, by decide +kernel⟩
theorem c_closed (Z : Zs mg) {CH : Addr} (TH : HTxt K CH) (D : DefAt K mg "is_closed" sClosed ["house", "lot", "wide"]) (cK : Cal P w K mg base CX0 4 "check_rows" spChk) (cTh : Met P w K mg base CX0 1 CH "things" (spThings CH)) (cF : Cal P w K mg base CX0 3 "first_out" (spFirst CH .non)) :
    Cal P w K mg base CX0 5 "is_closed" (spFirst CH (.bl true)) := by
  refine cal_of D sc_closed (fun vs H Q E h => ?_) (fun f cdv A outer s H vs Q E hr h => ?_)
  · obtain ⟨h, l, n, wd, ds, L, rfl, _⟩ := h
    rfl
  · obtain ⟨h, l, n, wd, ds, L, rfl, hH, hn, hw, hk, hl, hnd, hL, hrow, q⟩ := h
    refine ⟨_, pss_cons (ps_expr (pe_cl cK hr (by decide) pass0 (by rfl) (pa_cons (pv 1) (pa_cons (pv 2) (pa_cons (pe_ml0 cTh TH.cl hr (by decide) pass0 (pv 0)) pa_nil)))))
      (pss_one (ps_ret (pe_cmpR op_isN (pe_cl cF hr (by decide) pass0 (by rfl) (pa_cons (pv 0) (pa_cons (pv 1) (pa_cons (pv 2) pa_nil)))) pe_non (nomark _)))), ?_⟩
    obtain ⟨dh, hd2, k1, k2, k3⟩ := id hH
    refine ⟨_, rfl, _, rfl, _, rfl, h, dh, _, rfl, k1, hfs_no _ _ (by decide +kernel) (by decide +kernel), h, n, ds, rfl, hH, l, L, wd, n, rfl, hl, hw, hrow, fun H1 s1 => ?_⟩
    exact ⟨_, rfl, _, rfl, _, rfl, h, l, n, wd, ds, L, rfl, hH.same s1, hn, hw, hk, hl.same s1, hnd, hL, hrow, fun H2 s2 => ⟨rfl, q H2 (s1.trans s2)⟩⟩
end
end K26

set_option Elab.async false
set_option linter.all false
set_option maxRecDepth 100000
set_option maxHeartbeats 4000000
/-! # argument_rows, check_places, deeds_made -/
namespace K26
open PySem PySem.Spec PyProof.Rows L2
abbrev sArgs : Stmt := top 33
abbrev sPlaces : Stmt := top 34
abbrev sMade : Stmt := top 35
def argsOf (n p : Nat) : List (List Int) := if p = 1 then args1 n else args2 n
def somes (n p : Nat) : List (List Int) := (upTo (n ^ p)).map (thAt n p)
def colOf (n p : Nat) (k : Nat) : List Int := (somes n p).map fun r => cell r k
theorem thAt1 (n : Nat) (s : Int) : thAt n 1 s = [s % n] := rfl
theorem thAt2 (n : Nat) (s : Int) : thAt n 2 s = [s / n % n, s % n] := rfl
theorem cols1 (n : Nat) : colOf n 1 0 = arg1 n := by
  unfold colOf somes arg1
  rw [List.map_map, Nat.pow_one]
  conv => rhs; rw [← List.map_id (upTo n)]
  refine List.map_congr_left fun s hs => ?_
  have q := mem_ints hs
  show s % n = s
  exact Int.emod_eq_of_lt q.1 q.2
theorem cols2a (n : Nat) : colOf n 2 0 = argA n := by
  unfold colOf somes argA
  rw [List.map_map, Nat.pow_two]
  refine List.map_congr_left fun s hs => ?_
  have q := mem_ints hs
  show s / n % n = s / n
  have hn : (0 : Int) < n := by
    rcases Nat.eq_zero_or_pos n with e | e
    · subst e; simp at q; omega
    · omega
  refine Int.emod_eq_of_lt (Int.ediv_nonneg q.1 (by omega)) (Int.ediv_lt_of_lt_mul hn ?_)
  have := q.2
  rw [Int.natCast_mul] at this
  exact this
theorem cols2b (n : Nat) : colOf n 2 1 = argB n := by
  unfold colOf somes argB
  rw [List.map_map, Nat.pow_two]
  rfl
theorem cols (n p : Nat) (hp : p = 1 ∨ p = 2) : (List.range p).map (colOf n p) = argsOf n p := by
  rcases hp with rfl | rfl
  · show [colOf n 1 0] = args1 n
    rw [cols1]
    rfl
  · show [colOf n 2 0, colOf n 2 1] = args2 n
    rw [cols2a, cols2b]
    rfl
theorem argsOf_rows (n p : Nat) (hp : p = 1 ∨ p = 2) : ∀ r ∈ argsOf n p, Row n (n ^ p) r := by
  rcases hp with rfl | rfl
  · rw [Nat.pow_one]
    exact args1_rows n
  · rw [Nat.pow_two]
    exact args2_rows n
def spArgs : Sp := fun vs H Q _ => ∃ n p : Nat, vs = [.int n, .int p] ∧ 1 ≤ n ∧ n ≤ 9 ∧ (p = 1 ∨ p = 2) ∧ ∀ l H', Same H H' → H l = none → LRows H' l (argsOf n p) → Q (.ref l) H'
/-- the scope of the outer comprehension of argument_rows, as it is written -/
def scK : Scope := { kind := .function, names := [(".0", .local), ("k", .cell), ("tuple", .globalImplicit), ("some", .free)], isGenerator := false, isCoroutine := false }
abbrev nArgs : List Str := ["size", "places", "some", "spot", "k", "things"]
section
variable {P : Program} {w : World} {K : PySem.W.Frag} {mg : Str → Option Value} {base : Heap}
theorem sc_args : FnScope nArgs ["size", "places"] (defScope sArgs) := ⟨rfl, rfl, rfl, by decide +kernel, rfl, by decide +kernel, by decide +kernel⟩
theorem c_args (Z : Zs mg) (D : DefAt K mg "argument_rows" sArgs ["size", "places"]) (cC : Cal P w K mg base CX0 1 "cells" spCells) (cA : Cal P w K mg base CX0 1 "things_at" spAt) : Cal P w K mg base CX0 2 "argument_rows" spArgs := by
  refine cal_of D sc_args (fun vs H Q E h => ?_) (fun f cdv A outer s H vs Q E hr h => ?_)
  · obtain ⟨n, p, rfl, _⟩ := h
    rfl
  · obtain ⟨n, p, rfl, hn, hn9, hp, q⟩ := h
    refine ⟨_, pss_cons (ps_set (i := 2) sc_args.nd rfl (.inr rfl) (pe_lc (own := [("spot", 3)]) (g := gName 3) (tt := tYes) (by rfl) sc_args.nd (pi_range1 (by rfl) Z.range (pa_cons (pe_cl cC hr (by decide) pass0 (by rfl) (pa_cons (pv 0) (pa_cons (pv 1) pa_nil))) pa_nil))
        (blkOk_by (own := [("spot", 3)]) (N := nArgs) (sc := defScope sArgs) (by decide +kernel)) (fun _ _ _ _ _ => pg_name (i := 3) sc_args.nd rfl (Or.inl rfl)) (fun _ _ _ _ _ => pts_nil)
        (fun _ _ _ _ _ => pe_cl cA hr (by decide) pass0 (by rfl) (pa_cons (pv 3) (pa_cons (pv 1) (pa_cons (pv 0) pa_nil))))))
      (pss_one (ps_ret (pe_lc (own := [("k", 4)]) (g := gName 4) (tt := tYes) (te := tCB (fun xs H Q => ∃ p ys, xs = [.ref p] ∧ ((SqL K H p ys ∧ ∀ l, H l = none → Q (.ref l) (upd H l (.tup ys))) ∨ (SqT K H p ys ∧ Q (.ref p) H)))
          (tCons (tLc (iList K (tVar 2)) (gName 5) tYes (tOp (rIxT K) (tVar 5) (tVar 4)) [5]) tNil)) (by rfl) sc_args.nd (pi_range1 (by rfl) Z.range (pa_cons (pv 1) pa_nil))
        (blkOk_by (own := [("k", 4)]) (N := nArgs) (sc := defScope sArgs) (by decide +kernel)) (fun _ _ _ _ _ => pg_name (i := 4) sc_args.nd rfl (Or.inr rfl)) (fun _ _ _ _ _ => pts_nil)
        (fun _ _ _ _ _ => pe_callTy call_tuple_of (by rfl) Z.tuple (by decide +kernel) (pa_cons (pe_lc (own := [("things", 5)]) (g := gName 5) (tt := tYes) (te := tOp (rIxT K) (tVar 5) (tVar 4)) (by rfl) sc_args.nd (pi_list (pv 2))
          (blkOk_by (own := [("things", 5)]) (N := nArgs) (sc := relS scK (defScope sArgs)) (by decide +kernel)) (fun _ _ _ _ _ => pg_name (i := 5) sc_args.nd rfl (Or.inl rfl)) (fun _ _ _ _ _ => pts_nil) (fun _ _ _ _ _ => pe_ix (r := rIxT K) ix_tup (pv 5) (pv 4) (fun _ _ => rfl))) pa_nil))))), ?_⟩
    have hp3 : p ≤ 3 := by omega
    have hnp := pow_small hn9 hp3
    have hsl : (somes n p).length = n ^ p := by unfold somes; rw [List.length_map, ints_len]
    have hsr : ∀ {i : Nat}, i < n ^ p → (somes n p)[i]? = some (thAt n p (i : Nat)) := fun {i} hi => by
      unfold somes
      rw [List.getElem?_map, ints_get hi]
      rfl
    refine ⟨_, rfl, _, rfl, n, p, rfl, hn9, hp3, _, rfl, by omega, by omega, fun D nD => ?_⟩
    refine lc_range (fun i H' => (∃ as : List Addr, H' D = some (.lst (as.map V.ref)) ∧ RowsAt H' as ((somes n p).take i)) ∧ Same H H') ⟨⟨[], upd_same, by rw [List.take_zero]; exact .nil⟩, same_new nD⟩ (fun i H' hi h => ?_) fun H1 h1 => ?_
    · obtain ⟨⟨as, hD, has⟩, s1⟩ := h
      have hi' : i < n ^ p := by rw [Int.toNat_natCast] at hi; exact hi
      refine ⟨rfl, _, rfl, _, rfl, _, rfl, 0 + (i : Nat), n, p, rfl, hn, hn9, hp3, fun a H2 s2 ha => ⟨as.map V.ref, s2 _ _ hD, ?_, ⟨as ++ [a], by rw [upd_same, List.map_append]; rfl, ?_⟩, same_put nD (s1.trans s2)⟩⟩
      · rw [List.length_map, has.len, List.length_take]
        exact small1000 (by omega)
      · rw [take_more (hsr hi')]
        rw [Int.zero_add] at ha
        exact RowsAt.snoc (RowAt.off ha (s2 _ _ hD) (fun _ => by intro z; cases z)) (RowsAt.keep (fun c r hc => RowAt.off (show RowAt H2 c r from s2 _ _ hc) (s2 _ _ hD) (fun _ => by intro z; cases z)) has)
    · obtain ⟨⟨as, hD, has⟩, s1⟩ := h1
      rw [List.take_of_length_le (by rw [hsl, Int.toNat_natCast]; exact Nat.le_refl _)] at has
      have hal : (as.map V.ref).length = n ^ p := by rw [List.length_map, has.len, hsl]
      -- the columns
      refine ⟨_, rfl, _, rfl, by omega, by omega, fun D2 nD2 => ?_⟩
      refine lc_range (fun k H' => (∃ cs : List Addr, H' D2 = some (.lst (cs.map V.ref)) ∧ RowsAt H' cs (((List.range p).map (colOf n p)).take k)) ∧ Same H1 H') ⟨⟨[], upd_same, by rw [List.take_zero]; exact .nil⟩, same_new nD2⟩ (fun k H' hk h => ?_) fun H3 h3 => ?_
      · obtain ⟨⟨cs, hD2, hcs⟩, s2⟩ := h
        have hk' : k < p := by simpa using hk
        refine ⟨rfl, _, rfl, D, rfl, ⟨_, SqL.of (s2 _ _ hD)⟩, fun D3 nD3 => ?_⟩
        refine lc_list (K := K) (a := D) (xs := as.map V.ref) (fun i H'' => H'' D3 = some (.lst (((colOf n p k).take i).map V.int)) ∧ Same H' H'') ⟨upd_same, same_new nD3⟩ (fun i H'' _ h' => SqL.of (h'.2 _ _ (s2 _ _ hD))) (fun i y H'' hy h' => ?_) fun H4 h4 => ?_
        · obtain ⟨a, ea, rfl⟩ := get_refs hy
          obtain ⟨r, er, har⟩ := has.get ea
          have hi : i < n ^ p := by have := (List.getElem?_eq_some_iff.mp er).1; omega
          have hr2 : r = thAt n p (i : Nat) := by rw [hsr hi] at er; exact (Option.some.inj er).symm
          have hrl : r.length = p := by rw [hr2]; exact dg_len n _ p
          refine ⟨rfl, _, rfl, _, rfl, a, _, (0 + (k : Nat) : Int), _, rfl, rfl, SqT.of (h'.2 _ _ (s2 _ _ har)), at_cell (by omega) (by omega), _, h'.1, ?_, ?_, same_put nD3 h'.2⟩
          · rw [List.length_map, List.length_take]
            exact small1000 (by omega)
          · have e2 : (colOf n p k)[i]? = some (cell r k) := by
              unfold colOf
              rw [List.getElem?_map, er]
              rfl
            rw [upd_same, take_more e2, List.map_append, Int.zero_add]
            rfl
        · refine ⟨D3, _, rfl, .inl ⟨SqL.of h4.1, fun c nc => ?_⟩⟩
          have hc : RowAt (upd H4 c (.tup (((colOf n p k).take (as.map V.ref).length).map V.int))) c (colOf n p k) := by
            show upd H4 c _ c = _
            rw [upd_same, List.take_of_length_le (by rw [hal]; unfold colOf; rw [List.length_map, hsl]; exact Nat.le_refl _)]
          have s4 := h4.2.trans (same_new (o := .tup (((colOf n p k).take (as.map V.ref).length).map V.int)) nc)
          have e3 : ((List.range p).map (colOf n p))[k]? = some (colOf n p k) := by rw [List.getElem?_map, List.getElem?_range hk']; rfl
          refine ⟨cs.map V.ref, s4 _ _ hD2, ?_, ⟨cs ++ [c], by rw [upd_same, List.map_append]; rfl, ?_⟩, same_put nD2 (s2.trans s4)⟩
          · rw [List.length_map, hcs.len, List.length_take]
            exact small1000 (by omega)
          · rw [take_more e3]
            exact RowsAt.snoc (RowAt.off hc (s4 _ _ hD2) (fun _ => by intro z; cases z)) (RowsAt.keep (fun u r hu => RowAt.off (show RowAt (upd H4 c (.tup (((colOf n p k).take (as.map V.ref).length).map V.int))) u r from s4 _ _ hu) (s4 _ _ hD2) (fun _ => by intro z; cases z)) hcs)
      · obtain ⟨⟨cs, hD2, hcs⟩, s2⟩ := h3
        rw [List.take_of_length_le (by rw [List.length_map, List.length_range]; simp), cols n p hp] at hcs
        exact q D2 H3 (s1.trans s2) (s1.free nD2) ⟨cs, hD2, hcs⟩
/-! ### check_places, deeds_made -/
def spPlaces (CH : Addr) : Sp := fun vs H Q _ => ∃ (h : Addr) (n p : Nat) (ds : List Dd), vs = [.ref h, .int p] ∧ HouseAt CH H h n ds ∧ n ≤ 9 ∧ (p = 1 ∨ p = 2) ∧ Q .non H
theorem sc_places : FnScope ["house", "places", "wide"] ["house", "places"] (defScope sPlaces) := ⟨rfl, rfl, rfl, by decide +kernel, rfl, by decide +kernel, by decide +kernel⟩
theorem c_places (Z : Zs mg) {CH : Addr} (TH : HTxt K CH) (D : DefAt K mg "check_places" sPlaces ["house", "places"]) (cW : Cal P w K mg base CX0 1 "is_whole" spWhole) (cC : Cal P w K mg base CX0 1 "cells" spCells) (cTh : Met P w K mg base CX0 1 CH "things" (spThings CH)) :
    Cal P w K mg base CX0 2 "check_places" (spPlaces CH) := by
  refine cal_of D sc_places (fun vs H Q E h => ?_) (fun f cdv A outer s H vs Q E hr h => ?_)
  · obtain ⟨h, n, p, ds, rfl, _⟩ := h
    rfl
  · obtain ⟨h, n, p, ds, rfl, hH, hn, hp, q⟩ := h
    refine ⟨_, pss_cons (ps_if (PW.pt (pw_or (pt_not (pt_val (pe_cl cW hr (by decide) pass0 (by rfl) (pa_cons (pv 1) pa_nil)))) (pw_or1 (pt_not (pt_chain op_le op_le pe_int (pv 1) (pe_cst (by rfl) Z.cPlaces)))))) (pss_one ps_never) pss_nil)
      (pss_cons (ps_set (i := 2) sc_places.nd rfl (.inl rfl) (pe_cl cC hr (by decide) pass0 (by rfl) (pa_cons (pe_ml0 cTh TH.cl hr (by decide) pass0 (pv 0)) (pa_cons (pv 1) pa_nil))))
      (pss_one (ps_if (pt_cmpR op_gt (pv 2) (pe_cst (by rfl) Z.cWide) (nomark _)) (pss_one ps_never) pss_nil))), ?_⟩
    obtain ⟨dh, hd2, k1, k2, k3⟩ := id hH
    have h81 : n ^ p ≤ 81 := by
      rcases hp with rfl | rfl
      · rw [Nat.pow_one]; omega
      · exact Nat.le_trans (Nat.pow_le_pow_left hn 2) (by decide)
    refine ⟨_, rfl, _, rfl, _, rfl, ?_⟩
    refine iteF ⟨_, rfl, _, _, rfl, rfl, _, rfl, ?_⟩
    rw [decide_eq_true (by omega : (0 : Int) ≤ (p : Nat))]
    refine iteT ⟨_, _, rfl, rfl, _, rfl, ?_⟩
    rw [decide_eq_true (by omega : ((p : Nat) : Int) ≤ 3)]
    refine iteF ⟨_, rfl, h, dh, _, rfl, k1, hfs_no _ _ (by decide +kernel) (by decide +kernel), h, n, ds, rfl, hH, _, rfl, n, p, rfl, hn, by omega, ?_⟩
    refine ⟨_, rfl, _, _, rfl, rfl, _, rfl, ?_⟩
    rw [decide_eq_false (by omega : ¬ ((81 : Int) < ((n ^ p : Nat) : Int)))]
    exact iteF q
def spMade (CH Ct : Addr) : Sp := fun vs H Q E => ∃ (h : Addr) (n : Nat) (ds : List Dd) (p most : Nat), vs = [.ref h, .int p, .int most] ∧ HouseAt CH H h n ds ∧ (1 ≤ n ∧ n ≤ 9) ∧ (∀ d ∈ ds, Row n (n ^ d.p) d.t) ∧ (∀ d ∈ ds, d.p ≤ 2) ∧ (p = 1 ∨ p = 2) ∧ most < 64 ∧
  (TooBig (Made n (deedsOf ds) (argsOf n p) (n ^ p)) most → ∀ c H', Same H H' → E (.ref Ct) c H') ∧
  ∀ (l : Addr) (L : List (List Int)) (H' : Hp), Same H H' → H l = none → LRows H' l L → L.length ≤ most → Sprd (Made n (deedsOf ds) (argsOf n p) (n ^ p)) L → Q (.ref l) H'
theorem sc_made : FnScope ["house", "places", "most", "rows"] ["house", "places", "most"] (defScope sMade) := ⟨rfl, rfl, rfl, by decide +kernel, rfl, by decide +kernel, by decide +kernel⟩
theorem c_made (Z : Zs mg) {CH Ct f : Addr} {fd : FuncData} (TH : HTxt K CH) (D : DefAtD K mg "deeds_made" sMade f fd) (cP : Cal P w K mg base CX0 2 "check_places" (spPlaces CH)) (cA : Cal P w K mg base CX0 2 "argument_rows" spArgs) (cC : Cal P w K mg base CX0 1 "cells" spCells) (cTh : Met P w K mg base CX0 1 CH "things" (spThings CH))
    (cS : CalN P w K mg base (L2.CX P w) 8 3 "spread" ["most"] (spSpread CH Ct)) : Cal P w K mg base (L2.CX P w) 9 "deeds_made" (spMade CH Ct) := by
  have F : FnOk P w K mg base (L2.CX P w) 9 f fd ["house", "places", "most"] (spMade CH Ct) := by
    refine D.fn.ok sc_made (fun vs H Q E h => ?_) (fun cdv A outer s H vs Q E hr h => ?_)
    · obtain ⟨h, n, ds, p, most, rfl, _⟩ := h
      rfl
    · obtain ⟨h, n, ds, p, most, rfl, hH, hn, ht, hf, hp, hm, hE, q⟩ := h
      refine ⟨_, pss_cons (ps_expr (pe_cl cP hr (by decide) pass0 (by rfl) (pa_cons (pv 0) (pa_cons (pv 1) pa_nil))))
        (pss_cons (ps_set (i := 3) sc_made.nd rfl (.inl rfl) (pe_cl cA hr (by decide) pass0 (by rfl) (pa_cons (pe_ml0 cTh TH.cl hr (by decide) pass0 (pv 0)) (pa_cons (pv 1) pa_nil))))
        (pss_one (ps_ret (pe_cn cS hr (by decide) passE (by rfl) (pa_cons (pv 0) (pa_cons (pv 3) (pa_cons (pe_cl cC hr (by decide) pass0 (by rfl) (pa_cons (pe_ml0 cTh TH.cl hr (by decide) pass0 (pv 0)) (pa_cons (pv 1) pa_nil))) pa_nil))) (pk_cons (pv 2) pk_nil))))), ?_⟩
      obtain ⟨dh, hd2, k1, k2, k3⟩ := id hH
      refine ⟨_, rfl, _, rfl, h, n, p, ds, rfl, hH, hn.2, hp, ?_⟩
      refine ⟨_, rfl, h, dh, _, rfl, k1, hfs_no _ _ (by decide +kernel) (by decide +kernel), h, n, ds, rfl, hH, _, rfl, n, p, rfl, hn.1, hn.2, hp, fun l H1 s1 nl hl => ?_⟩
      refine ⟨_, rfl, _, rfl, _, rfl, h, dh, _, rfl, s1 _ _ k1, hfs_no _ _ (by decide +kernel) (by decide +kernel), h, n, ds, rfl, hH.same s1, _, rfl, n, p, rfl, hn.2, by omega, _, rfl, rfl, rfl, ?_⟩
      have hw1 : 1 ≤ n ^ p := by
        have := Nat.pow_le_pow_left hn.1 p
        rw [Nat.one_pow] at this
        exact this
      exact ⟨h, l, n, ds, argsOf n p, n ^ p, most, rfl, ⟨hH.same s1, hn.1, hn.2, ht, hf, hl, argsOf_rows n p hp, hw1, pow_small hn.2 (by omega), by omega⟩, fun L g => by have := g.len; omega,
        fun tb c H' s' => hE tb c H' (s1.trans s'), fun u L H' s' nu hL hlen hS => q u L H' (s1.trans s') (s1.free nu) hL hlen hS⟩
  obtain ⟨dsv, hv, b⟩ := D.fn.binds1 (ps := ["house", "places", "most"]) 3 1 (by simp) rfl fun T kV doc pm an cdv ct us its h1 h2 => match us, its, h1, h2 with
    | [_, _, _], [_], _, _ => ⟨_, rfl, rfl⟩
  cases hv
  exact ⟨f, fd, _, F, D.mgf, D.fn.kp, b⟩
end
end K26

set_option Elab.async false
set_option linter.all false
set_option maxRecDepth 100000
set_option maxHeartbeats 4000000
/-! # The law's draws; all rows -/
namespace K26
open PySem PySem.Spec PyProof.Rows L2
abbrev sDraw : Stmt := top 37
abbrev sAll : Stmt := top 39
/-- the well stands at wl -/
def WellAt (H : Hp) (wl : Addr) : Prop := ∃ a b c : Int, H wl = some (.lst [.int a, .int b, .int c])
/-- all but the well stands -/
def One (wl : Addr) (H H' : Hp) : Prop := ∀ b o, H b = some o → b ≠ wl → H' b = some o
theorem One.of {wl : Addr} {H H' : Hp} (s : Same H H') : One wl H H' := fun b o e _ => s b o e
theorem One.trans {wl : Addr} {H H1 H2 : Hp} (a : One wl H H1) (b : One wl H1 H2) : One wl H H2 := fun c o e n => b c o (a c o e n) n
theorem WellAt.same {H H' : Hp} {wl : Addr} (s : Same H H') (h : WellAt H wl) : WellAt H' wl := by
  obtain ⟨a, b, c, e⟩ := h
  exact ⟨a, b, c, s _ _ e⟩
/-- what is no list stands -/
theorem One.tup {wl : Addr} {H H' : Hp} (o : One wl H H') (h : WellAt H wl) {a : Addr} {u : HO} (e : H a = some u) (n : ∀ xs, u ≠ .lst xs) : H' a = some u := by
  obtain ⟨x, y, z, w⟩ := h
  exact o a u e (ne_of e w (n _))
theorem One.row {wl : Addr} {H H' : Hp} (o : One wl H H') (h : WellAt H wl) {a : Addr} {r : List Int} (e : RowAt H a r) : RowAt H' a r := o.tup h e (fun _ => by intro z; cases z)
theorem One.dd {wl : Addr} {H H' : Hp} (o : One wl H H') (h : WellAt H wl) {d : Dd} (e : DdAt H d) : DdAt H' d := ⟨o.tup h e.1 (fun _ => by intro z; cases z), o.row h e.2⟩
theorem One.house {wl C : Addr} {H H' : Hp} (o : One wl H H') (h : WellAt H wl) {a : Addr} {n : Nat} {ds : List Dd} (e : HouseAt C H a n ds) : HouseAt C H' a n ds := by
  obtain ⟨dx, d, h1, h2, h3⟩ := e
  exact ⟨dx, d, o.tup h h1 (fun _ => by intro z; cases z), o.tup h h2 (fun _ => by intro z; cases z), fun x hx => o.dd h (h3 x hx)⟩
def spDraw : Sp := fun vs H Q _ => ∃ (wl : Addr) (m : Int), vs = [.ref wl, .int m] ∧ WellAt H wl ∧ 0 < m ∧ m < 1073741824 ∧ ∀ v H', 0 ≤ v → v < m → One wl H H' → WellAt H' wl → Q (.int v) H'
section
variable {P : Program} {w : World} {K : PySem.W.Frag} {mg : Str → Option Value} {base : Heap}
theorem sc_draw : FnScope ["_law_well", "_law_many", "_law_found", "_law_number"] ["_law_well", "_law_many"] (defScope sDraw) := ⟨rfl, rfl, rfl, by decide +kernel, rfl, by decide +kernel, by decide +kernel⟩
theorem c_draw (D : DefAt K mg "_law_draw" sDraw ["_law_well", "_law_many"]) : Cal P w K mg base CX0 1 "_law_draw" spDraw := by
  refine cal_of D sc_draw (fun vs H Q E h => ?_) (fun f cdv A outer s H vs Q E hr h => ?_)
  · obtain ⟨wl, m, rfl, _⟩ := h
    rfl
  · obtain ⟨wl, m, rfl, ⟨a, b, c, hw⟩, h0, hm, q⟩ := h
    refine ⟨_, pss_cons (ps_if (pt_cmpR op_gt (pe_ix ix_list (pv 0) pe_int (fun _ _ => rfl)) pe_int (nomark _))
        (pss_cons (ps_set (i := 2) sc_draw.nd rfl (.inl rfl) (pe_op op_mod (pe_ix ix_list (pv 0) pe_int (fun _ _ => rfl)) (pv 1)))
        (pss_cons (ps_asg (pe_op op_fdiv (pe_ix ix_list (pv 0) pe_int (fun _ _ => rfl)) (pv 1)) (pg_sub (pv 0) pe_int set_list))
        (pss_one (ps_ret (pv 2))))) pss_nil)
      (pss_cons (ps_asg (pe_op op_add (pe_ix ix_list (pv 0) pe_int (fun _ _ => rfl)) pe_int) (pg_sub (pv 0) pe_int set_list))
      (pss_cons (ps_set (i := 3) sc_draw.nd rfl (.inl rfl) (pe_op op_mod (pe_op op_mul (pe_op op_add (pe_op op_add (pe_ix ix_list (pv 0) pe_int (fun _ _ => rfl)) (pe_op op_mul pe_int (pe_ix ix_list (pv 0) pe_int (fun _ _ => rfl)))) pe_int) pe_int) pe_int))
      (pss_cons (ps_set (i := 3) sc_draw.nd rfl (.inl rfl) (pe_op op_mod (pe_op op_mul (pv 3) (pe_op op_add (pe_op op_fdiv (pv 3) pe_int) pe_int)) pe_int))
      (pss_one (ps_ret (pe_op op_mod (pe_op op_mod (pe_op op_mul (pv 3) (pe_op op_add (pe_op op_fdiv (pv 3) pe_int) pe_int)) pe_int) (pv 1))))))), ?_⟩
    have oneU : ∀ {u : HO}, One wl H (upd H wl u) := fun {u} b o e n => by rw [upd_ne n]; exact e
    refine ⟨_, rfl, wl, _, 0, _, rfl, rfl, SqL.of hw, atI_nat rfl, _, _, rfl, rfl, _, rfl, ite2 (fun _ => ?_) (fun _ => ?_)⟩
    · refine ⟨_, rfl, wl, _, 0, _, rfl, rfl, SqL.of hw, atI_nat rfl, _, rfl, _, _, rfl, rfl, h0, ?_⟩
      refine ⟨_, rfl, wl, _, 0, _, rfl, rfl, SqL.of hw, atI_nat rfl, _, rfl, _, _, rfl, rfl, ⟨h0, hm⟩, _, rfl, wl, _, _, 0, rfl, rfl, hw, rfl, ?_⟩
      exact ⟨_, rfl, q _ _ (Int.emod_nonneg _ (by omega)) (Int.emod_lt_of_pos _ h0) oneU ⟨a / m, b, c, upd_same⟩⟩
    · refine ⟨_, rfl, wl, _, 2, _, rfl, rfl, SqL.of hw, atI_nat rfl, _, _, rfl, rfl, _, rfl, wl, _, _, 2, rfl, rfl, hw, rfl, ?_⟩
      have hw2 : (upd H wl (.lst [.int a, .int b, .int (c + 1)])) wl = some (.lst [.int a, .int b, .int (c + 1)]) := upd_same
      refine ⟨_, rfl, wl, _, 1, _, rfl, rfl, SqL.of hw2, atI_nat rfl, _, rfl, wl, _, 2, _, rfl, rfl, SqL.of hw2, atI_nat rfl, _, _, rfl, rfl, .inl (by decide), _, _, rfl, rfl, _, _, rfl, rfl, _, _, rfl, rfl, .inr (by decide), _, _, rfl, rfl, (by show (0 : Int) < 2147483647; decide), ?_⟩
      generalize hN : (b + 104729 * (c + 1) + 1) * 48271 % 2147483647 = N
      have hN0 : 0 ≤ N := by rw [← hN]; exact Int.emod_nonneg _ (by decide)
      have hN1 : N < 2147483647 := by rw [← hN]; exact Int.emod_lt_of_pos _ (by decide)
      refine ⟨_, rfl, _, rfl, _, _, rfl, rfl, ⟨by show (0 : Int) < 1009; decide, by show (1009 : Int) < 1073741824; decide⟩, _, _, rfl, rfl, _, _, rfl, rfl, .inl ⟨by omega, by omega⟩, _, _, rfl, rfl, (by show (0 : Int) < 2147483647; decide), ?_⟩
      generalize hM : N * (N / 1009 + 69621) % 2147483647 = M
      have hM0 : 0 ≤ M := by rw [← hM]; exact Int.emod_nonneg _ (by decide)
      have hM1 : M < 2147483647 := by rw [← hM]; exact Int.emod_lt_of_pos _ (by decide)
      refine ⟨_, rfl, _, rfl, _, _, rfl, rfl, ⟨by show (0 : Int) < 2003; decide, by show (2003 : Int) < 1073741824; decide⟩, _, _, rfl, rfl, _, _, rfl, rfl, .inl ⟨by omega, by omega⟩, _, _, rfl, rfl, (by show (0 : Int) < 2147483399; decide), _, rfl, _, _, rfl, rfl, h0, ?_⟩
      exact q _ _ (Int.emod_nonneg _ (by omega)) (Int.emod_lt_of_pos _ h0) oneU ⟨a, b, c + 1, upd_same⟩

/-! ### all rows of a width -/
def extR (n : Nat) (r : List Int) : List (List Int) := (upTo n).map fun x => r ++ [x]
def allR (n : Nat) : Nat → List (List Int)
  | 0 => [[]]
  | p + 1 => (allR n p).flatMap (extR n)
theorem extR_len (n : Nat) (r : List Int) : (extR n r).length = n := by unfold extR; rw [List.length_map, ints_len]
theorem flat_len (n : Nat) : ∀ L : List (List Int), (L.flatMap (extR n)).length = L.length * n
  | [] => by simp
  | r :: L => by
    rw [List.flatMap_cons, List.length_append, extR_len, flat_len n L, List.length_cons, Nat.add_mul, Nat.one_mul, Nat.add_comm]
theorem allR_len (n : Nat) : ∀ p, (allR n p).length = n ^ p
  | 0 => rfl
  | p + 1 => by
    show ((allR n p).flatMap (extR n)).length = n ^ (p + 1)
    rw [flat_len, allR_len n p, Nat.pow_succ]
theorem allR_row (n : Nat) : ∀ p, ∀ r ∈ allR n p, Row n p r
  | 0, r, h => by
    rw [List.mem_singleton.mp h]
    exact ⟨rfl, fun x hx => by cases hx⟩
  | p + 1, r, h => by
    obtain ⟨s, hs, hr⟩ := List.mem_flatMap.mp h
    obtain ⟨x, hx, rfl⟩ := List.mem_map.mp hr
    have q := allR_row n p s hs
    have y := mem_ints hx
    refine ⟨by rw [List.length_append, q.1]; rfl, fun z hz => ?_⟩
    rcases List.mem_append.mp hz with hz | hz
    · exact q.2 z hz
    · rw [List.mem_singleton.mp hz]
      exact y
def spAllR : Sp := fun vs H Q _ => ∃ n p : Nat, vs = [.int n, .int p] ∧ n ≤ 9 ∧ p ≤ 3 ∧ ∀ l H', Same H H' → H l = none → LRows H' l (allR n p) → Q (.ref l) H'
abbrev nAll : List Str := ["_law_size", "_law_places", "_law_found", "_law_k", "_law_longer", "_law_row", "_law_thing"]
theorem sc_all : FnScope nAll ["_law_size", "_law_places"] (defScope sAll) := ⟨rfl, rfl, rfl, by decide +kernel, rfl, by decide +kernel, by decide +kernel⟩
theorem c_all (Z : Zs mg) (D : DefAt K mg "_law_all" sAll ["_law_size", "_law_places"]) : Cal P w K mg base CX0 1 "_law_all" spAllR := by
  refine cal_of D sc_all (fun vs H Q E h => ?_) (fun f cdv A outer s H vs Q E hr h => ?_)
  · obtain ⟨n, p, rfl, _⟩ := h
    rfl
  · obtain ⟨n, p, rfl, hn, hp, q⟩ := h
    refine ⟨_, pss_cons (ps_set (i := 2) sc_all.nd rfl (.inl rfl) (pe_lst (pa_cons (pe_tup pa_nil) pa_nil)))
      (pss_cons (ps_for PassesOwn.never rfl (pi_range1 (by rfl) Z.range (pa_cons (pv 1) pa_nil)) (pg_name (i := 3) sc_all.nd rfl (.inl rfl))
        (pss_cons (ps_set (i := 4) sc_all.nd rfl (.inl rfl) (pe_lst pa_nil))
        (pss_cons (ps_for PassesOwn.never rfl (pi_list (pv 2)) (pg_name (i := 5) sc_all.nd rfl (.inr rfl))
          (pss_one (ps_expr (pe_bm PySem.F.plainAttrs_list PySem.F.slot_list_extend PySem.F.type_list_extend mt_extend (pv 4) (pa_cons (pe_lc (own := [("_law_thing", 6)]) (g := gName 6) (tt := tYes) (by rfl) sc_all.nd (pi_range1 (by rfl) Z.range (pa_cons (pv 0) pa_nil))
            (blkOk_by (own := [("_law_thing", 6)]) (N := nAll) (sc := defScope sAll) (by decide +kernel)) (fun _ _ _ _ _ => pg_name (i := 6) sc_all.nd rfl (Or.inl rfl)) (fun _ _ _ _ _ => pts_nil) (fun _ _ _ _ _ => pe_op op_catU (pv 5) (pe_tup (pa_cons (pv 6) pa_nil)))) pa_nil)))))
        (pss_one (ps_set (i := 2) sc_all.nd rfl (.inl rfl) (pv 4))))))
      (pss_one (ps_ret (pv 2)))), ?_⟩
    refine ⟨Nat.zero_le _, fun e0 ne0 => ⟨(by show 1 ≤ sizeLine; decide), fun g0 ng0 => ?_⟩⟩
    have sg0 : Same H (upd (upd H e0 (.tup [])) g0 (.lst [.ref e0])) := (same_new ne0).trans (same_new ng0)
    have he0 : RowAt (upd (upd H e0 (.tup [])) g0 (.lst [.ref e0])) e0 [] := by
      show upd _ g0 _ e0 = _
      rw [upd_ne (ne_of_none upd_same ng0), upd_same]
      rfl
    refine ⟨_, rfl, _, rfl, by omega, by omega, ?_⟩
    refine for_range (fun i σ H' => ∃ g v3 v4 v5, σ = [some (.int n), some (.int p), some (.ref g), v3, v4, v5, none] ∧ Same H H' ∧ H g = none ∧ LRows H' g (allR n i))
      ⟨g0, _, _, _, rfl, sg0, (same_new ne0).free ng0, [e0], upd_same, .cons he0 .nil⟩ (fun i σ H2 hi h2 => ?_) fun σ H2 h2 => ?_
    · obtain ⟨g, v3, v4, v5, rfl, s2, fg, gs, hg, hgs⟩ := h2
      have hi3 : i < 3 := by
        rw [Int.toNat_natCast] at hi
        omega
      have hL := allR_len n i
      have hL1 : n ^ i ≤ 1000 := pow_small hn (by omega)
      have hgl : (gs.map V.ref).length = (allR n i).length := by rw [List.length_map, hgs.len]
      have hL2 : n ^ i * n ≤ 10000 := Nat.mul_le_mul hL1 (by omega : n ≤ 10)
      refine ⟨Nat.zero_le _, fun lg nlg => ?_⟩
      have slg := same_new (o := .lst []) nlg
      refine ⟨_, rfl, g, rfl, ⟨_, SqL.of (slg _ _ hg)⟩, for_list (K := K) (a := g) (xs := gs.map V.ref) (fun j σ H' => (∃ v5, σ = [some (.int n), some (.int p), some (.ref g), some (.int (0 + (i : Nat))), some (.ref lg), v5, none]) ∧ Same H2 H' ∧ ∃ bs : List Addr, H' lg = some (.lst (bs.map V.ref)) ∧ RowsAt H' bs (((allR n i).take j).flatMap (extR n)))
        ⟨⟨_, rfl⟩, slg, [], upd_same, by rw [List.take_zero]; exact .nil⟩ (fun j σ H' _ h' => SqL.of (h'.2.1 _ _ hg)) (fun j y σ H3 hy h3 => ?_) fun σ H3 h3 => ?_⟩
      · obtain ⟨⟨v5', rfl⟩, s3, bs, hlg, hbs⟩ := h3
        obtain ⟨b, eb, rfl⟩ := get_refs hy
        obtain ⟨r, er, hb⟩ := hgs.get eb
        have hj : j < (allR n i).length := (List.getElem?_eq_some_iff.mp er).1
        have hb3 := s3 _ _ hb
        have hrl := (allR_row n i r (List.mem_of_getElem? er)).1
        refine ⟨_, rfl, .inl ⟨rfl, _, SqL.of hlg⟩, _, rfl, _, rfl, by omega, by omega, fun Dc nDc => ?_⟩
        refine lc_range (fun m H' => (∃ cs : List Addr, H' Dc = some (.lst (cs.map V.ref)) ∧ RowsAt H' cs ((extR n r).take m)) ∧ Same H3 H') ⟨⟨[], upd_same, by rw [List.take_zero]; exact .nil⟩, same_new nDc⟩ (fun m H' hm h' => ?_) fun H4 h4 => ?_
        · obtain ⟨⟨cs, hDc, hcs⟩, s4⟩ := h'
          have hm' : m < n := by rw [Int.toNat_natCast] at hm; exact hm
          refine ⟨rfl, _, rfl, _, rfl, (by show 1 ≤ sizeLine; decide), fun e ne => ?_⟩
          have se := same_new (o := .tup [.int (0 + (m : Nat))]) ne
          refine ⟨b, e, _, _, rfl, rfl, se _ _ (s4 _ _ hb3), upd_same, ?_, fun c H5 s5 hc => ?_⟩
          · rw [List.length_map, hrl, sizeLine_eq]
            show i + 1 ≤ 16777216
            omega
          · have hDc5 := s5 _ _ (se _ _ hDc)
            refine ⟨cs.map V.ref, hDc5, ?_, ⟨cs ++ [c], by rw [upd_same, List.map_append]; rfl, ?_⟩, same_put nDc (s4.trans (se.trans s5))⟩
            · rw [List.length_map, hcs.len, List.length_take, extR_len]
              exact small1000 (by omega)
            · have e2 : (extR n r)[m]? = some (r ++ [(m : Int)]) := by
                unfold extR
                rw [List.getElem?_map, ints_get hm']
                rfl
              rw [take_more e2]
              refine RowsAt.snoc (RowAt.off (H := H5) ?_ hDc5 (fun _ => by intro z; cases z)) (RowsAt.keep (fun u x hu => RowAt.off (H := H5) (show RowAt H5 u x from (se.trans s5) _ _ hu) hDc5 (fun _ => by intro z; cases z)) hcs)
              show H5 c = _
              rw [hc, List.map_append, Int.zero_add]
              rfl
        · obtain ⟨⟨cs, hDc, hcs⟩, s4⟩ := h4
          rw [Int.toNat_natCast, List.take_of_length_le (by rw [extR_len]; exact Nat.le_refl _)] at hcs
          have hbl : bs.length = j * n := by rw [hbs.len, flat_len, List.length_take]; congr 1; omega
          have hcl : cs.length = n := by rw [hcs.len, extR_len]
          have hjn : j * n ≤ 10000 := Nat.le_trans (Nat.mul_le_mul (by omega : j ≤ n ^ i) (Nat.le_refl n)) hL2
          refine ⟨lg, Dc, _, _, rfl, rfl, s4 _ _ hlg, hDc, ?_, ⟨_, rfl⟩, same_put nlg (s3.trans s4), bs ++ cs, by rw [upd_same, List.map_append], ?_⟩
          · rw [List.length_map, List.length_map, sizeLine_eq]
            omega
          · rw [take_more er, List.flatMap_append]
            have e3 : ([r] : List (List Int)).flatMap (extR n) = extR n r := by simp
            rw [e3]
            have hlg4 := s4 _ _ hlg
            have app : ∀ {H : Hp} {as as' : List Addr} {rs rs' : List (List Int)}, RowsAt H as rs → RowsAt H as' rs' → RowsAt H (as ++ as') (rs ++ rs') := by
              intro H as as' rs rs' h1 h2
              induction h1 with
              | nil => exact h2
              | cons h t ih => exact .cons h ih
            exact app (RowsAt.keep (fun u x hu => RowAt.off (H := H4) (show RowAt H4 u x from s4 _ _ hu) hlg4 (fun _ => by intro z; cases z)) hbs) (RowsAt.keep (fun u x hu => RowAt.off (H := H4) hu hlg4 (fun _ => by intro z; cases z)) hcs)
      · obtain ⟨⟨v5', rfl⟩, s3, bs, hlg, hbs⟩ := h3
        rw [hgl, List.take_length] at hbs
        exact ⟨_, rfl, lg, _, _, _, rfl, s2.trans s3, s2.free nlg, bs, hlg, hbs⟩
    · obtain ⟨g, v3, v4, v5, rfl, s2, fg, hg⟩ := h2
      rw [Int.toNat_natCast] at hg
      exact ⟨_, rfl, q g H2 s2 fg hg⟩
end
end K26

set_option Elab.async false
set_option linter.all false
set_option maxRecDepth 100000
set_option maxHeartbeats 4000000
/-! # Drawn tables -/
namespace K26
open PySem PySem.Spec PyProof.Rows L2
abbrev sTable : Stmt := top 40
abbrev sCalm : Stmt := top 42
def InR (n : Nat) (x : Int) : Prop := 0 ≤ x ∧ x < n
/-- all but the well and one list stands -/
def Two (wl fl : Addr) (H H' : Hp) : Prop := ∀ b o, H b = some o → b ≠ wl → b ≠ fl → H' b = some o
theorem Two.of {wl fl : Addr} {H H' : Hp} (s : One wl H H') : Two wl fl H H' := fun b o e n _ => s b o e n
theorem Two.trans {wl fl : Addr} {H H1 H2 : Hp} (a : Two wl fl H H1) (b : Two wl fl H1 H2) : Two wl fl H H2 := fun c o e n m => b c o (a c o e n m) n m
theorem Two.put {wl fl : Addr} {H : Hp} {o : HO} : Two wl fl H (upd H fl o) := fun b u e _ n => by rw [upd_ne n]; exact e
theorem Two.row {wl fl : Addr} {H H' : Hp} {xs : List V} (o : Two wl fl H H') (h : WellAt H wl) (hf : H fl = some (.lst xs)) {a : Addr} {r : List Int} (e : RowAt H a r) : RowAt H' a r := by
  obtain ⟨x, y, z, w⟩ := h
  exact o a _ e (ne_of e w (by intro q; cases q)) (ne_of e hf (by intro q; cases q))
/-- the list was not there ahead -/
theorem Two.one {wl fl : Addr} {H0 H H' : Hp} (s : One wl H0 H) (n : H0 fl = none) (o : Two wl fl H H') : One wl H0 H' := fun b u e nb => o b u (s b u e nb) nb (fun z => by rw [z, n] at e; cases e)
theorem ints_at {all : List Int} {way : Int} (h0 : 0 ≤ way) (h1 : way < (all.length : Nat)) : ∃ x, x ∈ all ∧ atI (all.map V.int) way = some (.int x) := by
  have hl : way.toNat < all.length := by omega
  refine ⟨all[way.toNat], List.getElem_mem hl, at_of (j := way.toNat) (by omega) ?_⟩
  rw [List.getElem?_map, List.getElem?_eq_getElem hl]
  rfl
def spTable : Sp := fun vs H Q _ => ∃ (wl : Addr) (n p : Nat), vs = [.ref wl, .int n, .int p] ∧ WellAt H wl ∧ 1 ≤ n ∧ n ≤ 9 ∧ p ≤ 3 ∧ ∀ a t H', One wl H H' → WellAt H' wl → RowAt H' a t → Row n (n ^ p) t → Q (.ref a) H'
section
variable {P : Program} {w : World} {K : PySem.W.Frag} {mg : Str → Option Value} {base : Heap}
theorem sc_table : FnScope ["_law_well", "_law_size", "_law_places", "_law_way", "_law_number", "_law_found", "_law_things", "_law_told", "_law_cell"] ["_law_well", "_law_size", "_law_places"] (defScope sTable) := ⟨rfl, rfl, rfl, by decide +kernel, rfl, by decide +kernel, by decide +kernel⟩
theorem c_table (Z : Zs mg) (D : DefAt K mg "_law_table" sTable ["_law_well", "_law_size", "_law_places"]) (cD : Cal P w K mg base CX0 1 "_law_draw" spDraw) (cA : Cal P w K mg base CX0 1 "_law_all" spAllR) : Cal P w K mg base CX0 2 "_law_table" spTable := by
  refine cal_of D sc_table (fun vs H Q E h => ?_) (fun f cdv A outer s H vs Q E hr h => ?_)
  · obtain ⟨wl, n, p, rfl, _⟩ := h
    rfl
  · obtain ⟨wl, n, p, rfl, hw, hn, hn9, hp, q⟩ := h
    refine ⟨_, pss_cons (ps_set (i := 3) sc_table.nd rfl (.inl rfl) (pe_cl cD hr (by decide) pass0 (by rfl) (pa_cons (pv 0) (pa_cons pe_int pa_nil))))
      (pss_cons (ps_set (i := 4) sc_table.nd rfl (.inl rfl) (pe_cl cD hr (by decide) pass0 (by rfl) (pa_cons (pv 0) (pa_cons (pv 1) pa_nil))))
      (pss_cons (ps_set (i := 5) sc_table.nd rfl (.inl rfl) (pe_lst pa_nil))
      (pss_cons (ps_for PassesOwn.never rfl (pi_list (pe_cl cA hr (by decide) pass0 (by rfl) (pa_cons (pv 1) (pa_cons (pv 2) pa_nil)))) (pg_name (i := 6) sc_table.nd rfl (.inl rfl))
        (pss_cons (ps_set (i := 7) sc_table.nd rfl (.inl rfl) (pe_lst (pa_cons (pv 4) (pa_cons (pe_op op_mod (pe_op op_add (pe_callB (cr_sumT rfl) (by rfl) Z.sum (by decide +kernel) (pa_cons (pv 6) pa_nil)) (pv 4)) (pv 1))
          (pa_cons (pe_callB (cr_minT rfl) (by rfl) Z.min (by decide +kernel) (pa_cons (pe_op op_catU (pv 6) (pe_tup (pa_cons (pv 4) pa_nil))) pa_nil))
          (pa_cons (pe_callB (cr_maxT rfl) (by rfl) Z.max (by decide +kernel) (pa_cons (pe_op op_catU (pv 6) (pe_tup (pa_cons (pv 4) pa_nil))) pa_nil)) pa_nil))))))
        (pss_cons (ps_if (pt_cmpR op_gt (pv 2) pe_int (nomark _)) (pss_one (ps_set (i := 7) sc_table.nd rfl (.inl rfl) (pe_op op_cat (pe_slice sl_list (pv 7) po_none (po_some pe_int))
          (pe_lst (pa_cons (pe_callB (cr_minT rfl) (by rfl) Z.min (by decide +kernel) (pa_cons (pv 6) pa_nil)) (pa_cons (pe_callB (cr_maxT rfl) (by rfl) Z.max (by decide +kernel) (pa_cons (pv 6) pa_nil)) (pa_cons (pe_ix ix_tup (pv 6) (pe_op op_mod (pv 4) (pv 2)) (fun _ _ => rfl)) pa_nil))))))) pss_nil)
        (pss_cons (ps_set (i := 8) sc_table.nd rfl (.inl rfl) (pe_cl cD hr (by decide) pass0 (by rfl) (pa_cons (pv 0) (pa_cons (pv 1) pa_nil))))
        (pss_one (ps_expr (pe_bm PySem.F.plainAttrs_list PySem.F.slot_list_append PySem.F.type_list_append mt_append (pv 5) (pa_cons (pe_ix ix_list (pe_op op_cat (pv 7) (pe_op op_rep (pe_lst (pa_cons (pv 8) pa_nil)) pe_int)) (pv 3) (fun _ _ => rfl)) pa_nil))))))))
      (pss_one (ps_ret (pe_callTy call_tuple_of (by rfl) Z.tuple (by decide +kernel) (pa_cons (pv 5) pa_nil))))))), ?_⟩
    -- the way, the number
    refine ⟨_, rfl, wl, 8, rfl, hw, by decide, by decide, fun way H1 w0 w8 o1 hw1 => ?_⟩
    refine ⟨_, rfl, _, rfl, wl, n, rfl, hw1, by omega, by omega, fun num H2 u0 un o2 hw2 => ?_⟩
    have hnum : InR n num := ⟨u0, un⟩
    have o12 := o1.trans o2
    refine ⟨Nat.zero_le _, fun fl nf => ?_⟩
    have sf := same_new (o := .lst []) nf
    have hw3 := hw2.same sf
    refine ⟨_, rfl, _, rfl, n, p, rfl, hn9, hp, fun lr H4 s4 nlr hlr => ?_⟩
    obtain ⟨as, hl, hra⟩ := hlr
    have hw4 := hw3.same s4
    have hf4 : H4 fl = some (.lst []) := s4 _ _ upd_same
    have nlw : lr ≠ wl := by
      obtain ⟨a, b, c, e⟩ := hw3
      exact fun z => by rw [z, e] at nlr; cases nlr
    have nlf : lr ≠ fl := fun z => by rw [z, upd_same] at nlr; cases nlr
    have hal : (as.map V.ref).length = n ^ p := by rw [List.length_map, hra.len, allR_len]
    have hnp := pow_small hn9 hp
    refine ⟨lr, rfl, ⟨_, SqL.of hl⟩, for_list (K := K) (a := lr) (xs := as.map V.ref) (fun i σ H' => (∃ v6 v7 v8, σ = [some (.ref wl), some (.int n), some (.int p), some (.int way), some (.int num), some (.ref fl), v6, v7, v8]) ∧ Two wl fl H4 H' ∧ WellAt H' wl ∧ ∃ ts : List Int, H' fl = some (.lst (ts.map V.int)) ∧ ts.length = i ∧ ∀ x ∈ ts, InR n x)
      ⟨⟨_, _, _, rfl⟩, Two.of (One.of (Same.refl H4)), hw4, [], hf4, rfl, fun x hx => by cases hx⟩ (fun i σ H' _ h' => SqL.of (h'.2.1 _ _ hl nlw nlf)) (fun i y σ H5 hy h5 => ?_) fun σ H5 h5 => ?_⟩
    · obtain ⟨⟨v6, v7, v8, rfl⟩, t5, hw5, ts, hf5, hts, hin⟩ := h5
      obtain ⟨a, ea, rfl⟩ := get_refs hy
      obtain ⟨r, er, har⟩ := hra.get ea
      have hi : i < n ^ p := by have := (List.getElem?_eq_some_iff.mp hy).1; omega
      have hrow := allR_row n p r (List.mem_of_getElem? er)
      have ha5 := t5.row hw4 hf4 har
      have hrl : r.length ≤ 3 := by rw [hrow.1]; exact hp
      -- what follows the told list, at tl in H6
      have tail : ∀ (tl : Addr) (ts2 : List Int) (H6 : Hp), Same H5 H6 → H6 tl = some (.lst (ts2.map V.int)) → tl ≠ wl → 4 ≤ ts2.length → ts2.length ≤ 5 → (∀ x ∈ ts2, InR n x) →
          tSeq (tAsg (tCall spDraw [] E0 (tCons (tVar 0) (tCons (tVar 1) tNil))) (gName 8)) (tDrop (tBM K "list" rAppend (tVar 5) (tCons (tOp (rIxL K) (tOp rCat (tVar 7) (tOp rRep (tLst (tCons (tVar 8) tNil)) (tC (.int 8)))) (tVar 3)) tNil)))
            { nx := fun σ H' => (∃ v6 v7 v8, σ = [some (.ref wl), some (.int n), some (.int p), some (.int way), some (.int num), some (.ref fl), v6, v7, v8]) ∧ Two wl fl H4 H' ∧ WellAt H' wl ∧ ∃ ts : List Int, H' fl = some (.lst (ts.map V.int)) ∧ ts.length = i + 1 ∧ ∀ x ∈ ts, InR n x, rt := Q, bk := fun _ _ => True, ct := fun _ _ => True }
            [some (.ref wl), some (.int n), some (.int p), some (.int way), some (.int num), some (.ref fl), some (.ref a), some (.ref tl), v8] H6 := by
        intro tl ts2 H6 s6 htl ntl l4 l5 hin2
        have hw6 := hw5.same s6
        refine ⟨_, rfl, _, rfl, wl, n, rfl, hw6, by omega, by omega, fun c H7 c0 cn o7 hw7 => ?_⟩
        have nfw : fl ≠ wl := by
          obtain ⟨x, y, z, e⟩ := hw2
          exact fun q' => by rw [q', e] at nf; cases nf
        have hf7 := o7 _ _ (s6 _ _ hf5) nfw
        have htl7 := o7 _ _ htl ntl
        refine ⟨_, rfl, .inl ⟨rfl, _, SqL.of hf7⟩, _, rfl, _, rfl, (by show 1 ≤ sizeLine; decide), fun u nu => ?_⟩
        have su := same_new (o := .lst [.int c]) nu
        refine ⟨u, 8, _, rfl, rfl, upd_same, by decide, by decide, (by show 1 * 8 ≤ sizeLine; decide), fun u2 nu2 => ?_⟩
        have su2 := same_new (o := .lst (List.replicate (8 : Int).toNat [V.int c]).flatten) nu2
        refine ⟨tl, u2, _, _, rfl, rfl, su2 _ _ (su _ _ htl7), upd_same, ?_, fun u3 nu3 => ?_⟩
        · rw [List.length_map, flat_one, List.length_replicate, sizeLine_eq]
          show ts2.length + 8 ≤ 16777216
          omega
        · have su3 := same_new (o := .lst (ts2.map V.int ++ (List.replicate (8 : Int).toNat [V.int c]).flatten)) nu3
          have eall : ts2.map V.int ++ (List.replicate (8 : Int).toNat [V.int c]).flatten = (ts2 ++ List.replicate 8 c).map V.int := by
            rw [flat_one, List.map_append, List.map_replicate]
            rfl
          obtain ⟨x, hx, ex⟩ := ints_at (all := ts2 ++ List.replicate 8 c) (way := way) w0 (by rw [List.length_append, List.length_replicate]; omega)
          have hxr : InR n x := by
            rcases List.mem_append.mp hx with hx | hx
            · exact hin2 x hx
            · rw [List.eq_of_mem_replicate hx]
              exact ⟨c0, cn⟩
          have s8 := (su.trans su2).trans su3
          refine ⟨_, rfl, u3, _, way, .int x, rfl, rfl, SqL.of upd_same, by rw [eall]; exact ex, fl, _, _, rfl, rfl, s8 _ _ hf7, ?_, ?_⟩
          · rw [List.length_map, hts]
            exact small1000 (by omega)
          · refine ⟨⟨_, _, _, rfl⟩, (t5.trans (Two.of ((One.of s6).trans (o7.trans (One.of s8))))).trans Two.put, ?_, ts ++ [x], by rw [upd_same, List.map_append]; rfl, by rw [List.length_append, hts]; rfl, fun z hz => ?_⟩
            · obtain ⟨x', y', z', e⟩ := hw7.same s8
              exact ⟨x', y', z', by rw [upd_ne (Ne.symm nfw)]; exact e⟩
            · rcases List.mem_append.mp hz with hz | hz
              · exact hin z hz
              · rw [List.mem_singleton.mp hz]
                exact hxr
      -- the told list
      refine ⟨_, rfl, _, rfl, a, r, rfl, SqT.of ha5, fun z => ⟨_, rfl, _, _, rfl, rfl, _, rfl, _, _, rfl, rfl, (by show (0 : Int) < n; omega), ?_⟩⟩
      have hz : InR n ((z + num) % n) := ⟨Int.emod_nonneg _ (by omega), Int.emod_lt_of_pos _ (by omega)⟩
      have hpick : ∀ m, m ∈ r ++ [num] → InR n m := fun m hm => by
        rcases List.mem_append.mp hm with hm | hm
        · exact hrow.2 m hm
        · rw [List.mem_singleton.mp hm]
          exact hnum
      have hsz : (r.map V.int).length + ([V.int num] : List V).length ≤ sizeLine := by
        rw [List.length_map, sizeLine_eq]
        show r.length + 1 ≤ 16777216
        omega
      have ecat : r.map V.int ++ [V.int num] = (r ++ [num]).map V.int := by rw [List.map_append]; rfl
      refine ⟨_, rfl, _, rfl, (by show 1 ≤ sizeLine; decide), fun e1 ne1 => ⟨a, e1, _, _, rfl, rfl, (same_new ne1) _ _ ha5, upd_same, hsz, fun c1 H6 s6 hc1 => ⟨c1, r ++ [num], rfl, SqT.of (by rw [← ecat]; exact hc1), by simp, fun m1 hm1 => ?_⟩⟩⟩
      have s56 := (same_new (o := .tup [.int num]) ne1).trans s6
      refine ⟨_, rfl, _, rfl, (by show 1 ≤ sizeLine; decide), fun e2 ne2 => ⟨a, e2, _, _, rfl, rfl, (same_new ne2) _ _ (s56 _ _ ha5), upd_same, hsz, fun c2 H7 s7 hc2 => ⟨c2, r ++ [num], rfl, SqT.of (by rw [← ecat]; exact hc2), by simp, fun m2 hm2 => ?_⟩⟩⟩
      have s57 := (s56.trans (same_new (o := .tup [.int num]) ne2)).trans s7
      refine ⟨(by show 4 ≤ sizeLine; decide), fun tl ntl => ?_⟩
      have st := same_new (o := .lst [.int num, .int ((z + num) % n), .int m1, .int m2]) ntl
      have s58 := s57.trans st
      have ntw : ∀ {u : Addr} {Hx : Hp}, Same H5 Hx → Hx u = none → u ≠ wl := fun {u Hx} sx nx => by
        obtain ⟨x', y', z', e⟩ := hw5.same sx
        exact fun q' => by rw [q', e] at nx; cases nx
      refine ⟨_, rfl, _, _, rfl, rfl, _, rfl, ?_⟩
      by_cases hp0 : 0 < p
      · rw [decide_eq_true (by omega : (0 : Int) < (p : Nat))]
        refine iteT ⟨_, rfl, _, rfl, tl, _, rfl, SqL.of upd_same, fun t2 nt2 => ?_⟩
        have st2 := same_new (o := .lst (cutV [V.int num, V.int ((z + num) % n), V.int m1, V.int m2] none (some 2))) nt2
        have s59 := s58.trans st2
        have hr0 : 0 < r.length := by rw [hrow.1]; exact hp0
        have hpi : (0 : Int) < (p : Nat) := by omega
        have i0 := Int.emod_nonneg num (show ((p : Nat) : Int) ≠ 0 by omega)
        have i1 := Int.emod_lt_of_pos num hpi
        refine ⟨_, rfl, a, r, rfl, SqT.of (s59 _ _ ha5), hr0, fun m3 hm3 => ⟨_, rfl, a, r, rfl, SqT.of (s59 _ _ ha5), hr0, fun m4 hm4 => ?_⟩⟩
        have hcl : num % (p : Nat) < (r.length : Nat) := by rw [hrow.1]; exact i1
        have hc5 := cell_in hrow i0 (by exact i1)
        refine ⟨_, rfl, _, rfl, _, rfl, _, _, rfl, rfl, hpi, a, _, _, _, rfl, rfl, SqT.of (s59 _ _ ha5), at_cell i0 hcl, (by show 3 ≤ sizeLine; decide), fun t3 nt3 => ?_⟩
        have st3 := same_new (o := .lst [.int m3, .int m4, .int (cell r (num % (p : Nat)))]) nt3
        refine ⟨t2, t3, _, _, rfl, rfl, st3 _ _ upd_same, upd_same, (by show 2 + 3 ≤ sizeLine; decide), fun t4 nt4 => ?_⟩
        refine tail t4 [num, (z + num) % n, m3, m4, cell r (num % (p : Nat))] _ ((s59.trans st3).trans (same_new nt4)) upd_same (ntw (s59.trans st3) nt4) (by show 4 ≤ 5; decide) (by show 5 ≤ 5; decide) fun x hx => ?_
        simp only [List.mem_cons, List.not_mem_nil, or_false] at hx
        rcases hx with rfl | rfl | rfl | rfl | rfl
        · exact hnum
        · exact hz
        · exact hrow.2 _ hm3
        · exact hrow.2 _ hm4
        · exact hc5
      · rw [decide_eq_false (by omega : ¬ (0 : Int) < (p : Nat))]
        refine iteF (tail tl [num, (z + num) % n, m1, m2] _ s58 upd_same (ntw s57 ntl) (by show 4 ≤ 4; decide) (by show 4 ≤ 5; decide) fun x hx => ?_)
        simp only [List.mem_cons, List.not_mem_nil, or_false] at hx
        rcases hx with rfl | rfl | rfl | rfl
        · exact hnum
        · exact hz
        · exact hpick _ hm1
        · exact hpick _ hm2
    · obtain ⟨⟨v6, v7, v8, rfl⟩, t5, hw5, ts, hf5, hts, hin⟩ := h5
      refine ⟨_, rfl, fl, _, rfl, .inl ⟨SqL.of hf5, fun c nc => ?_⟩⟩
      have sc := same_new (o := .tup (ts.map V.int)) nc
      refine q c ts _ ((o12.trans (Two.one (One.of (sf.trans s4)) nf t5)).trans (One.of sc)) (hw5.same sc) upd_same ⟨by rw [hts, hal], hin⟩
end
end K26

set_option Elab.async false
set_option linter.all false
set_option maxRecDepth 100000
set_option maxHeartbeats 4000000
/-! # Calm tables -/
namespace K26
open PySem PySem.Spec PyProof.Rows L2
def spCalm : Sp := fun vs H Q _ => ∃ (wl : Addr) (n : Nat), vs = [.ref wl, .int n] ∧ WellAt H wl ∧ 1 ≤ n ∧ n ≤ 9 ∧ ∀ a t H', One wl H H' → WellAt H' wl → RowAt H' a t → Row n (n ^ 2) t → Q (.ref a) H'
abbrev nCalm : List Str := ["_law_well", "_law_size", "_law_way", "_law_number", "_law_found", "_law_one", "_law_other", "_law_some"]
section
variable {P : Program} {w : World} {K : PySem.W.Frag} {mg : Str → Option Value} {base : Heap}
theorem sc_calm : FnScope nCalm ["_law_well", "_law_size"] (defScope sCalm) := ⟨rfl, rfl, rfl, by decide +kernel, rfl, by decide +kernel, by decide +kernel⟩
theorem c_calm (Z : Zs mg) (D : DefAt K mg "_law_calm" sCalm ["_law_well", "_law_size"]) (cD : Cal P w K mg base CX0 1 "_law_draw" spDraw) (cA : Cal P w K mg base CX0 1 "_law_all" spAllR) : Cal P w K mg base CX0 2 "_law_calm" spCalm := by
  refine cal_of D sc_calm (fun vs H Q E h => ?_) (fun f cdv A outer s H vs Q E hr h => ?_)
  · obtain ⟨wl, n, rfl, _⟩ := h
    rfl
  · obtain ⟨wl, n, rfl, hw, hn, hn9, q⟩ := h
    refine ⟨_, pss_cons (ps_set (i := 2) sc_calm.nd rfl (.inl rfl) (pe_cl cD hr (by decide) pass0 (by rfl) (pa_cons (pv 0) (pa_cons pe_int pa_nil))))
      (pss_cons (ps_set (i := 3) sc_calm.nd rfl (.inl rfl) (pe_cl cD hr (by decide) pass0 (by rfl) (pa_cons (pv 0) (pa_cons (pv 1) pa_nil))))
      (pss_cons (ps_set (i := 4) sc_calm.nd rfl (.inl rfl) (pe_lst pa_nil))
      (pss_cons (ps_for PassesOwn.never rfl (pi_list (pe_cl cA hr (by decide) pass0 (by rfl) (pa_cons (pv 1) (pa_cons pe_int pa_nil)))) (pg_tup rfl (pgs_cons (pg_name (i := 5) sc_calm.nd rfl (.inl rfl)) (pgs_cons (pg_name (i := 6) sc_calm.nd rfl (.inl rfl)) pgs_nil)))
        (pss_cons (ps_set (i := 7) sc_calm.nd rfl (.inl rfl) (pe_lst (pa_cons (pe_callB (call_min2 rfl) (by rfl) Z.min (by decide +kernel) (pa_cons (pv 5) (pa_cons (pv 6) pa_nil)))
          (pa_cons (pe_callB (call_max2 rfl) (by rfl) Z.max (by decide +kernel) (pa_cons (pv 5) (pa_cons (pv 6) pa_nil)))
          (pa_cons (pv 5) (pa_cons (pe_op op_mod (pe_op op_add (pv 5) (pv 6)) (pv 1)) (pa_cons (pv 3)
          (pa_cons (pe_callB (call_min2 rfl) (by rfl) Z.min (by decide +kernel) (pa_cons (pv 5) (pa_cons (pe_callB (call_max2 rfl) (by rfl) Z.max (by decide +kernel) (pa_cons (pv 6) (pa_cons (pv 3) pa_nil))) pa_nil))) pa_nil))))))))
        (pss_one (ps_expr (pe_bm PySem.F.plainAttrs_list PySem.F.slot_list_append PySem.F.type_list_append mt_append (pv 4) (pa_cons (pe_ix ix_list (pv 7) (pv 2) (fun _ _ => rfl)) pa_nil))))))
      (pss_one (ps_ret (pe_callTy call_tuple_of (by rfl) Z.tuple (by decide +kernel) (pa_cons (pv 4) pa_nil))))))), ?_⟩
    refine ⟨_, rfl, wl, 6, rfl, hw, by decide, by decide, fun way H1 w0 w6 o1 hw1 => ?_⟩
    refine ⟨_, rfl, _, rfl, wl, n, rfl, hw1, by omega, by omega, fun num H2 u0 un o2 hw2 => ?_⟩
    have hnum : InR n num := ⟨u0, un⟩
    have o12 := o1.trans o2
    refine ⟨Nat.zero_le _, fun fl nf => ?_⟩
    have sf := same_new (o := .lst []) nf
    have hw3 := hw2.same sf
    refine ⟨_, rfl, n, 2, rfl, hn9, by decide, fun lr H4 s4 nlr hlr => ?_⟩
    obtain ⟨as, hl, hra⟩ := hlr
    have hw4 := hw3.same s4
    have hf4 : H4 fl = some (.lst []) := s4 _ _ upd_same
    have nlw : lr ≠ wl := by
      obtain ⟨a, b, c, e⟩ := hw3
      exact fun z => by rw [z, e] at nlr; cases nlr
    have nlf : lr ≠ fl := fun z => by rw [z, upd_same] at nlr; cases nlr
    have nfw : fl ≠ wl := by
      obtain ⟨x, y, z, e⟩ := hw2
      exact fun q' => by rw [q', e] at nf; cases nf
    have hal : (as.map V.ref).length = n ^ 2 := by rw [List.length_map, hra.len, allR_len]
    have hnp := pow_small hn9 (show 2 ≤ 3 by decide)
    refine ⟨lr, rfl, ⟨_, SqL.of hl⟩, for_list (K := K) (a := lr) (xs := as.map V.ref) (fun i σ H' => (∃ v5 v6 v7, σ = [some (.ref wl), some (.int n), some (.int way), some (.int num), some (.ref fl), v5, v6, v7]) ∧ Two wl fl H4 H' ∧ WellAt H' wl ∧ ∃ ts : List Int, H' fl = some (.lst (ts.map V.int)) ∧ ts.length = i ∧ ∀ x ∈ ts, InR n x)
      ⟨⟨_, _, _, rfl⟩, Two.of (One.of (Same.refl H4)), hw4, [], hf4, rfl, fun x hx => by cases hx⟩ (fun i σ H' _ h' => SqL.of (h'.2.1 _ _ hl nlw nlf)) (fun i y σ H5 hy h5 => ?_) fun σ H5 h5 => ?_⟩
    · obtain ⟨⟨v5, v6, v7, rfl⟩, t5, hw5, ts, hf5, hts, hin⟩ := h5
      obtain ⟨a, ea, rfl⟩ := get_refs hy
      obtain ⟨r, er, har⟩ := hra.get ea
      have hi : i < n ^ 2 := by have := (List.getElem?_eq_some_iff.mp hy).1; omega
      have hrow := allR_row n 2 r (List.mem_of_getElem? er)
      have ha5 := t5.row hw4 hf4 har
      obtain ⟨p, o, rfl⟩ : ∃ p o, r = [p, o] := by
        match r, hrow.1 with
        | [p, o], _ => exact ⟨p, o, rfl⟩
      have hp : InR n p := hrow.2 p (by simp)
      have ho : InR n o := hrow.2 o (by simp)
      refine ⟨a, _, rfl, SqT.of ha5, rfl, _, _, rfl, _, _, rfl, rfl, ?_⟩
      refine ⟨_, rfl, _, rfl, _, _, rfl, _, rfl, _, rfl, _, _, rfl, _, rfl, _, rfl, _, rfl, _, _, rfl, rfl, _, rfl, _, _, rfl, rfl, (by show (0 : Int) < n; omega), ?_⟩
      refine ⟨_, rfl, _, rfl, _, rfl, _, rfl, _, _, rfl, _, _, rfl, (by show 6 ≤ sizeLine; decide), fun tl ntl => ?_⟩
      have st := same_new (o := .lst [.int (if o < p then o else p), .int (if o > p then o else p), .int p, .int ((p + o) % n), .int num, .int (if (if num > o then num else o) < p then (if num > o then num else o) else p)]) ntl
      have hsum : InR n ((p + o) % n) := ⟨Int.emod_nonneg _ (by omega), Int.emod_lt_of_pos _ (by omega)⟩
      have pick : ∀ {c : Prop} [Decidable c] {x y : Int}, InR n x → InR n y → InR n (if c then x else y) := fun {c} _ {x y} h1 h2 => by
        by_cases hc : c
        · rw [if_pos hc]; exact h1
        · rw [if_neg hc]; exact h2
      obtain ⟨x, hx, ex⟩ := ints_at (all := [(if o < p then o else p), (if o > p then o else p), p, ((p + o) % n), num, (if (if num > o then num else o) < p then (if num > o then num else o) else p)]) (way := way) w0 (by show way < 6; exact w6)
      have hxr : InR n x := by
        simp only [List.mem_cons, List.not_mem_nil, or_false] at hx
        rcases hx with rfl | rfl | rfl | rfl | rfl | rfl
        · exact pick ho hp
        · exact pick ho hp
        · exact hp
        · exact hsum
        · exact hnum
        · exact pick (pick hnum ho) hp
      have hf6 := st _ _ hf5
      refine ⟨_, rfl, .inl ⟨rfl, _, SqL.of hf6⟩, _, rfl, _, rfl, tl, _, way, .int x, rfl, rfl, SqL.of upd_same, ex, fl, _, _, rfl, rfl, hf6, ?_, ?_⟩
      · rw [List.length_map, hts]
        exact small1000 (by omega)
      · refine ⟨⟨_, _, _, rfl⟩, (t5.trans (Two.of (One.of st))).trans Two.put, ?_, ts ++ [x], by rw [upd_same, List.map_append]; rfl, by rw [List.length_append, hts]; rfl, fun z hz => ?_⟩
        · obtain ⟨x', y', z', e⟩ := hw5.same st
          exact ⟨x', y', z', by rw [upd_ne (Ne.symm nfw)]; exact e⟩
        · rcases List.mem_append.mp hz with hz | hz
          · exact hin z hz
          · rw [List.mem_singleton.mp hz]
            exact hxr
    · obtain ⟨⟨v5, v6, v7, rfl⟩, t5, hw5, ts, hf5, hts, hin⟩ := h5
      refine ⟨_, rfl, fl, _, rfl, .inl ⟨SqL.of hf5, fun c nc => ?_⟩⟩
      have sc := same_new (o := .tup (ts.map V.int)) nc
      exact q c ts _ ((o12.trans (Two.one (One.of (sf.trans s4)) nf t5)).trans (One.of sc)) (hw5.same sc) upd_same ⟨by rw [hts, hal], hin⟩
end
end K26

set_option Elab.async false
set_option linter.all false
set_option maxRecDepth 100000
set_option maxHeartbeats 4000000
/-! # Drawn names -/
namespace K26
open PySem PySem.Spec PyProof.Rows L2
abbrev sNames : Stmt := top 38
/-- new beside the well, one list written that was not there ahead -/
theorem One.put {wl p : Addr} {H H' : Hp} {o : HO} (h : H p = none) (s : One wl H H') : One wl H (upd H' p o) := fun b u e n => by
  rw [upd_ne (ne_of_none e h)]
  exact s b u e n
theorem One.lrows {wl l : Addr} {H H' : Hp} {rs : List (List Int)} (o : One wl H H') (h : WellAt H wl) (n : l ≠ wl) (e : LRows H l rs) : LRows H' l rs := by
  obtain ⟨as, h1, h2⟩ := e
  exact ⟨as, o _ _ h1 n, RowsAt.keep (fun a r ha => o.row h ha) h2⟩
theorem WellAt.ne {wl p : Addr} {H : Hp} (h : WellAt H wl) (n : H p = none) : p ≠ wl := by
  obtain ⟨a, b, c, e⟩ := h
  exact fun z => by rw [z, e] at n; cases n
theorem WellAt.put {wl p : Addr} {H : Hp} {o : HO} (n : p ≠ wl) (h : WellAt H wl) : WellAt (upd H p o) wl := by
  obtain ⟨a, b, c, e⟩ := h
  exact ⟨a, b, c, by rw [upd_ne (Ne.symm n)]; exact e⟩
/-! ### letters -/
def let26 (i : Int) : Nat := 97 + i.toNat
theorem small_cps : small.cps.toList = (List.range 26).map (97 + ·) := by decide +kernel
theorem small_at {i : Int} (h0 : 0 ≤ i) (h1 : i < 26) : atI small.cps.toList i = some (let26 i) := by
  have e : i = ((i.toNat : Nat) : Int) := by omega
  rw [e]
  refine atI_nat ?_
  rw [small_cps, List.getElem?_map, List.getElem?_range (by omega)]
  show some (97 + i.toNat) = some (97 + (((i.toNat : Nat) : Int)).toNat)
  rw [Int.toNat_natCast]
theorem let_small {i : Int} (h0 : 0 ≤ i) (h1 : i < 26) : let26 i ∈ small.cps.toList := by
  rw [small_cps]
  exact List.mem_map.mpr ⟨i.toNat, List.mem_range.mpr (by omega), rfl⟩
def nmOf (st : List Nat) (at_ first : Int) (k : Nat) : List Nat := st.take at_.toNat ++ ([let26 ((first + 5 * (k : Nat)) % 26)] ++ st.drop at_.toNat)
theorem nmOf_inj {st : List Nat} {at_ first : Int} {k j : Nat} (hk : k < 3) (hj : j < 3) (e : nmOf st at_ first k = nmOf st at_ first j) : k = j := by
  have e1 := List.append_cancel_left e
  have e2 : let26 ((first + 5 * (k : Nat)) % 26) = let26 ((first + 5 * (j : Nat)) % 26) := (List.cons.inj e1).1
  unfold let26 at e2
  omega
def nmS (st : List Nat) (at_ first : Int) (k : Nat) : Str := SX.S (nmOf st at_ first k)
def nmsOf (st : List Nat) (at_ first : Int) (m : Nat) : List Str := (List.range m).map (nmS st at_ first)
theorem nmsOf_nodup {st : List Nat} {at_ first : Int} {m : Nat} (hm : m ≤ 3) : (nmsOf st at_ first m).Nodup := by
  unfold nmsOf
  refine List.pairwise_map.mpr (List.Pairwise.imp_of_mem (fun {k j} hk hj ne e => ?_) List.nodup_range)
  have := List.mem_range.mp hk
  have := List.mem_range.mp hj
  exact ne (nmOf_inj (by omega) (by omega) (SX.S_inj e))
theorem nmS_ok {st : List Nat} {at_ first : Int} {k : Nat} (h0 : 0 < st.length) (h7 : st.length ≤ 7) (hs : ∀ c ∈ st, c ∈ small.cps.toList) : NameOk (nmS st at_ first k) := by
  have hl : (nmS st at_ first k).length = st.length + 1 := by
    unfold nmS
    rw [SX.S_len]
    unfold nmOf
    rw [List.length_append, List.length_append, List.length_take, List.length_drop]
    show min at_.toNat st.length + (1 + (st.length - at_.toNat)) = st.length + 1
    omega
  refine ⟨by omega, fun c hc => ?_⟩
  have hc' : c ∈ nmOf st at_ first k := by simpa [nmS] using hc
  unfold nmOf at hc'
  rcases List.mem_append.mp hc' with h | h
  · exact hs c (List.mem_of_mem_take h)
  · rcases List.mem_append.mp h with h | h
    · rw [List.mem_singleton.mp h]
      exact let_small (Int.emod_nonneg _ (by decide)) (Int.emod_lt_of_pos _ (by decide))
    · exact hs c (List.mem_of_mem_drop h)
theorem joinL_ones : ∀ cs : List Nat, TL.joinL [] (cs.map fun c => [c]) = cs
  | [] => rfl
  | [c] => rfl
  | c :: d :: r => by
    show [c] ++ ([] ++ TL.joinL [] ((d :: r).map fun c => [c])) = c :: d :: r
    rw [joinL_ones (d :: r)]
    rfl
theorem join_ones (cs : List Nat) : Txt.join ("" : Str) (cs.map fun c => SX.S [c]) = SX.S cs := by
  have h := SX.join_S [] (cs.map fun c => [c])
  rw [joinL_ones, List.map_map] at h
  exact h
def spNms : Sp := fun vs H Q _ => ∃ (wl : Addr) (m : Nat), vs = [.ref wl, .int m] ∧ WellAt H wl ∧ m ≤ 3 ∧ ∀ l (ns : List Str) H', One wl H H' → WellAt H' wl → H l = none → H' l = some (.lst (ns.map V.str)) → ns.length = m → ns.Nodup → (∀ z ∈ ns, NameOk z) → Q (.ref l) H'
abbrev nNames : List Str := ["_law_well", "_law_many", "_law_letters", "_law_stem", "_law_at", "_law_first", "_law_k"]
section
variable {P : Program} {w : World} {K : PySem.W.Frag} {mg : Str → Option Value} {base : Heap}
theorem sc_nms : FnScope nNames ["_law_well", "_law_many"] (defScope sNames) := ⟨rfl, rfl, rfl, by decide +kernel, rfl, by decide +kernel, by decide +kernel⟩
theorem c_nms (Z : Zs mg) (D : DefAt K mg "_law_names" sNames ["_law_well", "_law_many"]) (cD : Cal P w K mg base CX0 1 "_law_draw" spDraw) : Cal P w K mg base CX0 2 "_law_names" spNms := by
  refine cal_of D sc_nms (fun vs H Q E h => ?_) (fun f cdv A outer s H vs Q E hr h => ?_)
  · obtain ⟨wl, m, rfl, _⟩ := h
    rfl
  · obtain ⟨wl, m, rfl, hw, hm, q⟩ := h
    refine ⟨_, pss_cons (ps_set (i := 2) sc_nms.nd rfl (.inr rfl) pe_str)
      (pss_cons (ps_set (i := 3) sc_nms.nd rfl (.inr rfl) (pe_join pe_str (pe_lc (own := [("_law_k", 6)]) (g := gName 6) (tt := tYes) (te := tOp rIxS (tVar 2) (tCall spDraw [] E0 (tCons (tVar 0) (tCons (tC (.int 26)) tNil)))) (by rfl) sc_nms.nd
          (pi_range1 (by rfl) Z.range (pa_cons (pe_op op_add pe_int (pe_cl cD hr (by decide) pass0 (by rfl) (pa_cons (pv 0) (pa_cons pe_int pa_nil)))) pa_nil))
          (blkOk_by (own := [("_law_k", 6)]) (N := nNames) (sc := defScope sNames) (by decide +kernel)) (fun _ _ _ _ _ => pg_name (i := 6) sc_nms.nd rfl (Or.inl rfl)) (fun _ _ _ _ _ => pts_nil)
          (fun _ _ _ _ _ => pe_ix ix_str (pv 2) (pe_cl cD hr (by decide) pass0 (by rfl) (pa_cons (pv 0) (pa_cons pe_int pa_nil))) (fun _ _ => rfl)))))
      (pss_cons (ps_set (i := 4) sc_nms.nd rfl (.inr rfl) (pe_cl cD hr (by decide) pass0 (by rfl) (pa_cons (pv 0) (pa_cons (pe_op op_add (pe_callB call_len_str (by rfl) Z.len PySem.boot_len (pa_cons (pv 3) pa_nil)) pe_int) pa_nil))))
      (pss_cons (ps_set (i := 5) sc_nms.nd rfl (.inr rfl) (pe_cl cD hr (by decide) pass0 (by rfl) (pa_cons (pv 0) (pa_cons pe_int pa_nil))))
      (pss_one (ps_ret (pe_lc (own := [("_law_k", 6)]) (g := gName 6) (tt := tYes) (by rfl) sc_nms.nd (pi_range1 (by rfl) Z.range (pa_cons (pv 1) pa_nil))
          (blkOk_by (own := [("_law_k", 6)]) (N := nNames) (sc := defScope sNames) (by decide +kernel)) (fun _ _ _ _ _ => pg_name (i := 6) sc_nms.nd rfl (Or.inl rfl)) (fun _ _ _ _ _ => pts_nil)
          (fun _ _ _ _ _ => pe_op op_add_str (pe_op op_add_str (pe_slice C8.sl_txt (pv 3) po_none (po_some (pv 4))) (pe_ix ix_str (pv 2) (pe_op op_mod (pe_op op_add (pv 5) (pe_op op_mul pe_int (pv 6))) pe_int) (fun _ _ => rfl))) (pe_slice C8.sl_txt (pv 3) (po_some (pv 4)) po_none)))))))), ?_⟩
    -- the letters; the stem
    refine ⟨⟨_, rfl⟩, _, rfl, wl, 7, rfl, hw, by decide, by decide, fun v H1 v0 v7 o1 hw1 => ?_⟩
    refine ⟨_, _, rfl, rfl, _, rfl, by omega, by omega, fun D nD => ?_⟩
    have nDw := hw1.ne nD
    have hlen : (((1 : Int) + v).toNat : Nat) ≤ 7 ∧ 0 < ((1 : Int) + v).toNat := by omega
    refine lc_range (fun i H' => (∃ cs : List Nat, H' D = some (.lst ((cs.map fun c => SX.S [c]).map V.str)) ∧ cs.length = i ∧ ∀ c ∈ cs, c ∈ small.cps.toList) ∧ One wl H1 H' ∧ WellAt H' wl) ⟨⟨[], upd_same, rfl, fun c hc => by cases hc⟩, One.of (same_new nD), hw1.same (same_new nD)⟩ (fun i H' hi h => ?_) fun H2 h2 => ?_
    · obtain ⟨⟨cs, hD, hcl, hcs⟩, o2, hw2⟩ := h
      refine ⟨rfl, _, rfl, _, rfl, wl, 26, rfl, hw2, by decide, by decide, fun c H3 c0 c1 o3 hw3 => ?_⟩
      refine ⟨small, c, let26 c, rfl, rfl, (by show (26 : Nat) ≤ sizeLine; decide), small_at c0 c1, _, o3 _ _ hD nDw, ?_, ⟨cs ++ [let26 c], by rw [upd_same, List.map_append, List.map_append]; rfl, by rw [List.length_append, hcl]; rfl, fun z hz => ?_⟩, One.put nD (o2.trans o3), hw3.put nDw⟩
      · rw [List.length_map, List.length_map, hcl]
        exact small1000 (by omega)
      · rcases List.mem_append.mp hz with hz | hz
        · exact hcs z hz
        · rw [List.mem_singleton.mp hz]
          exact let_small c0 c1
    · obtain ⟨⟨st, hD, hsl, hst⟩, o2, hw2⟩ := h2
      refine ⟨_, D, st.map fun c => SX.S [c], rfl, rfl, .inl (SqL.of hD), ?_, ?_⟩
      · have e : (List.map (fun x : Str => x.length) (st.map fun c => SX.S [c])).sum ≤ 7 := by
          rw [List.map_map]
          have e2 : ((fun x : Str => x.length) ∘ fun c => SX.S [c]) = fun _ => 1 := rfl
          rw [e2, List.map_const', List.sum_replicate_nat]
          omega
        rw [show ("" : Str).length = 0 from rfl, Nat.mul_zero]
        omega
      · rw [join_ones]
        have hst7 : st.length ≤ 7 := by omega
        have hst0 : 0 < st.length := by omega
        have hSl : (SX.S st).length = st.length := SX.S_len st
        have hSz : (SX.S st).length ≤ sizeLine := by rw [hSl, sizeLine_eq]; omega
        refine ⟨_, rfl, _, rfl, _, rfl, hSz, _, _, rfl, rfl, wl, _, rfl, hw2, by omega, by omega, fun at_ H3 a0 a1 o3 hw3 => ?_⟩
        refine ⟨_, rfl, wl, 26, rfl, hw3, by decide, by decide, fun first H4 f0 f1 o4 hw4 => ?_⟩
        refine ⟨_, rfl, _, rfl, by omega, by omega, fun D2 nD2 => ?_⟩
        refine lc_range (fun i H' => H' D2 = some (.lst ((nmsOf st at_ first i).map V.str)) ∧ Same H4 H') ⟨upd_same, same_new nD2⟩ (fun i H' hi h => ?_) fun H5 h5 => ?_
        · obtain ⟨hD2, s5⟩ := h
          have hi3 : i < m := by rw [Int.toNat_natCast] at hi; exact hi
          refine ⟨rfl, _, rfl, _, rfl, _, rfl, _, rfl, hSz, ?_⟩
          rw [SX.slice_to a0]
          have hm0 : 0 ≤ (first + 5 * (0 + (i : Nat))) % 26 := Int.emod_nonneg _ (by decide)
          have hm1 : (first + 5 * (0 + (i : Nat))) % 26 < 26 := Int.emod_lt_of_pos _ (by decide)
          have hl1 : (SX.S (st.take at_.toNat)).length ≤ 7 := by rw [SX.S_len, List.length_take]; omega
          have hl2 : (SX.S (st.drop at_.toNat)).length ≤ 7 := by rw [SX.S_len, List.length_drop]; omega
          refine ⟨_, rfl, _, rfl, _, rfl, _, _, rfl, rfl, .inl (by decide), _, _, rfl, rfl, _, _, rfl, rfl, (by show (0 : Int) < 26; decide), small, _, _, rfl, rfl, (by show (26 : Nat) ≤ sizeLine; decide), small_at hm0 hm1, ?_⟩
          refine ⟨_, _, rfl, rfl, ?_, ?_⟩
          · rw [sizeLine_eq]
            show (SX.S (st.take at_.toNat)).length + 1 ≤ 16777216
            omega
          · refine ⟨_, rfl, _, rfl, _, rfl, _, rfl, hSz, ?_⟩
            rw [SX.slice_from a0]
            have e1 : (SX.S (st.take at_.toNat) ++ SX.S [let26 ((first + 5 * (0 + (i : Nat))) % 26)]) ++ SX.S (st.drop at_.toNat) = nmS st at_ first i := by
              rw [SX.S_cat, SX.S_cat, List.append_assoc, Int.zero_add]
              rfl
            have hl3 : (SX.S (st.take at_.toNat) ++ SX.S [let26 ((first + 5 * (0 + (i : Nat))) % 26)]).length ≤ 8 := by
              rw [SX.S_cat, SX.S_len, List.length_append, List.length_take]
              show min at_.toNat st.length + 1 ≤ 8
              omega
            have hl4 := Nat.add_le_add hl3 hl2
            have e2 : (nmsOf st at_ first (i + 1)) = nmsOf st at_ first i ++ [nmS st at_ first i] := by
              unfold nmsOf
              rw [List.range_succ, List.map_append]
              rfl
            refine ⟨_, _, rfl, rfl, Nat.le_trans hl4 (show 8 + 7 ≤ sizeLine by rw [sizeLine_eq]; decide), (nmsOf st at_ first i).map V.str, hD2, ?_, ?_, same_put nD2 s5⟩
            · rw [List.length_map]
              unfold nmsOf
              rw [List.length_map, List.length_range]
              exact small1000 (by omega)
            · rw [upd_same, e2, List.map_append]
              exact congrArg (fun z => some (HO.lst (List.map V.str (nmsOf st at_ first i) ++ [V.str z]))) e1
        · obtain ⟨hD2, s5⟩ := h5
          rw [Int.toNat_natCast] at hD2
          have oo : One wl H4 H5 := One.of s5
          have nHD2 : H D2 = none := by
            cases e : H D2 with
            | none => rfl
            | some u =>
              have nw : D2 ≠ wl := hw4.ne nD2
              have := o4 _ _ (o3 _ _ (o2 _ _ (o1 _ _ e nw) nw) nw) nw
              rw [nD2] at this
              cases this
          refine q D2 _ H5 ((o1.trans o2).trans (o3.trans (o4.trans oo))) (hw4.same s5) nHD2 hD2 ?_ (nmsOf_nodup hm) fun z hz => ?_
          · unfold nmsOf
            rw [List.length_map, List.length_range]
          · unfold nmsOf at hz
            obtain ⟨k, _, rfl⟩ := List.mem_map.mp hz
            exact nmS_ok hst0 hst7 hst
end
end K26

set_option Elab.async false
set_option linter.all false
set_option maxRecDepth 100000
set_option maxHeartbeats 4000000
/-! # Drawn houses -/
namespace K26
open PySem PySem.Spec PyProof.Rows L2
abbrev sSmall : Stmt := top 41
/-- a house is made -/
theorem mk_house {C l : Addr} {H : Hp} {n : Nat} {ds : List Dd} {Q : VK} {E : XK} (hn : 1 ≤ n ∧ n ≤ 9) (hl : H l = some (.lst (refsD ds))) (hds : ∀ d ∈ ds, DdAt H d ∧ DdOk n d) (h6 : ds.length ≤ 6) (hnd : (ds.map (·.nm)).Nodup)
    (q : ∀ x H', Same H H' → H x = none → HouseAt C H' x n ds → Q (.ref x) H') :
    ∀ x dx, H x = none → H dx = none → dx ≠ x → spHInit C (.ref x :: ([.int n, .ref l] ++ [])) (upd (upd H dx (.own x)) x (.ins C dx [])) (fun v H2 => v = .non ∧ Q (.ref x) H2) E := by
  intro x dx nx ndx ne
  have s1 : Same H (upd (upd H dx (.own x)) x (.ins C dx [])) := fun b o e => by
    rw [upd_ne (ne_of_none e nx), upd_ne (ne_of_none e ndx)]
    exact e
  refine ⟨x, dx, l, n, ds, rfl, upd_same, hn, s1 _ _ hl, fun d hd => ⟨(hds d hd).1.same s1, (hds d hd).2⟩, h6, hnd, fun H' s2 hh => ⟨rfl, q x H' (fun b o e => s2 b o (s1 b o e) (ne_of_none e nx)) nx hh⟩⟩
theorem pick_at {all : List Int} {way : Int} {B : Nat} (h0 : 0 ≤ way) (h1 : way < (all.length : Nat)) (h : ∀ x ∈ all, 0 ≤ x ∧ x ≤ (B : Int)) : ∃ p : Nat, p ≤ B ∧ ((p : Nat) : Int) ∈ all ∧ atI (all.map V.int) way = some (.int p) := by
  obtain ⟨x, hx, e⟩ := ints_at h0 h1
  have q := h x hx
  have e2 : ((x.toNat : Nat) : Int) = x := Int.toNat_of_nonneg q.1
  exact ⟨x.toNat, by omega, by rw [e2]; exact hx, by rw [e2]; exact e⟩
def spSmall (CH : Addr) : Sp := fun vs H Q _ => ∃ (wl : Addr), vs = [.ref wl] ∧ WellAt H wl ∧ ∀ h n ds H', One wl H H' → WellAt H' wl → HouseAt CH H' h n ds → 1 ≤ n → n ≤ 5 → (∀ d ∈ ds, DdOk n d) → ds.length ≤ 3 → (ds.map (·.nm)).Nodup → Q (.ref h) H'
abbrev nSmall : List Str := ["_law_well", "_law_size", "_law_names_here", "_law_deeds", "_law_name", "_law_places", "_law_table_here"]
section
variable {P : Program} {w : World} {K : PySem.W.Frag} {mg : Str → Option Value} {base : Heap}
theorem sc_small : FnScope nSmall ["_law_well"] (defScope sSmall) := ⟨rfl, rfl, rfl, by decide +kernel, rfl, by decide +kernel, by decide +kernel⟩
theorem c_small (Z : Zs mg) {CH : Addr} (TH : HTxt K CH) (D : DefAt K mg "_law_small" sSmall ["_law_well"]) (cD : Cal P w K mg base CX0 1 "_law_draw" spDraw) (cN : Cal P w K mg base CX0 2 "_law_names" spNms) (cT : Cal P w K mg base CX0 2 "_law_table" spTable) (cC : Cal P w K mg base CX0 2 "_law_calm" spCalm)
    (cH : Mak P w K mg base CX0 5 "House" CH (spHInit CH)) : Cal P w K mg base CX0 7 "_law_small" (spSmall CH) := by
  refine cal_of D sc_small (fun vs H Q E h => ?_) (fun f cdv A outer s H vs Q E hr h => ?_)
  · obtain ⟨wl, rfl, _⟩ := h
    rfl
  · obtain ⟨wl, rfl, hw, q⟩ := h
    refine ⟨_, pss_cons (ps_set (i := 1) sc_small.nd rfl (.inl rfl) (pe_ix ix_list (pe_lst (pa_cons pe_int (pa_cons pe_int (pa_cons pe_int (pa_cons pe_int (pa_cons pe_int (pa_cons pe_int pa_nil))))))) (pe_cl cD hr (by decide) pass0 (by rfl) (pa_cons (pv 0) (pa_cons pe_int pa_nil))) (fun _ _ => rfl)))
      (pss_cons (ps_set (i := 2) sc_small.nd rfl (.inl rfl) (pe_cl cN hr (by decide) pass0 (by rfl) (pa_cons (pv 0) (pa_cons (pe_cl cD hr (by decide) pass0 (by rfl) (pa_cons (pv 0) (pa_cons pe_int pa_nil))) pa_nil))))
      (pss_cons (ps_set (i := 3) sc_small.nd rfl (.inl rfl) (pe_lst pa_nil))
      (pss_cons (ps_for PassesOwn.never rfl (pi_list (pv 2)) (pg_name (i := 4) sc_small.nd rfl (.inl rfl))
        (pss_cons (ps_set (i := 5) sc_small.nd rfl (.inl rfl) (pe_ix ix_list (pe_lst (pa_cons pe_int (pa_cons pe_int (pa_cons pe_int (pa_cons pe_int (pa_cons pe_int (pa_cons pe_int (pa_cons pe_int pa_nil)))))))) (pe_cl cD hr (by decide) pass0 (by rfl) (pa_cons (pv 0) (pa_cons pe_int pa_nil))) (fun _ _ => rfl)))
        (pss_cons (ps_set (i := 5) sc_small.nd rfl (.inl rfl) (pe_callB (call_min2 rfl) (by rfl) Z.min (by decide +kernel) (pa_cons (pv 5) (pa_cons (pe_ix ix_list (pe_lst (pa_cons pe_int (pa_cons pe_int pa_nil))) (pe_callTy call_int1 (by rfl) Z.int (by decide +kernel) (pa_cons (pe_cmpR op_gt (pv 1) pe_int (nomark _)) pa_nil)) (fun _ _ => rfl)) pa_nil))))
        (pss_cons (ps_set (i := 6) sc_small.nd rfl (.inl rfl) (pe_cl cT hr (by decide) pass0 (by rfl) (pa_cons (pv 0) (pa_cons (pv 1) (pa_cons (pv 5) pa_nil)))))
        (pss_cons (ps_if (PW.pt (pw_and (pt_cmpR op_gt (pv 1) pe_int (nomark _)) (pw_and1 (pt_cmpR op_eq (pv 5) pe_int (nomark _))))) (pss_one (ps_set (i := 6) sc_small.nd rfl (.inl rfl) (pe_cl cC hr (by decide) pass0 (by rfl) (pa_cons (pv 0) (pa_cons (pv 1) pa_nil))))) pss_nil)
        (pss_one (ps_expr (pe_bm PySem.F.plainAttrs_list PySem.F.slot_list_append PySem.F.type_list_append mt_append (pv 3) (pa_cons (pe_tup (pa_cons (pv 4) (pa_cons (pv 5) (pa_cons (pv 6) pa_nil)))) pa_nil)))))))))
      (pss_one (ps_ret (pe_mkl cH hr (by decide) pass0 (by rfl) (pa_cons (pv 1) (pa_cons (pv 3) pa_nil)))))))), ?_⟩
    -- the size
    refine ⟨(by show 6 ≤ sizeLine; decide), fun l0 nl0 => ?_⟩
    have s0 := same_new (o := .lst [.int 2, .int 2, .int 3, .int 4, .int 5, .int 1]) nl0
    have n0w := hw.ne nl0
    refine ⟨_, rfl, wl, 6, rfl, hw.same s0, by decide, by decide, fun v H1 v0 v6 o1 hw1 => ?_⟩
    obtain ⟨n, hn5, hnm, hat⟩ := pick_at (all := [2, 2, 3, 4, 5, 1]) (way := v) (B := 5) v0 v6 (by decide)
    have hn1 : 1 ≤ n := by
      simp only [List.mem_cons, List.not_mem_nil, or_false] at hnm
      omega
    refine ⟨l0, _, v, .int n, rfl, rfl, SqL.of (o1 _ _ upd_same n0w), hat, ?_⟩
    have oA : One wl H H1 := (One.of s0).trans o1
    -- the names
    refine ⟨_, rfl, _, rfl, wl, 4, rfl, hw1, by decide, by decide, fun m H2 m0 m4 o2 hw2 => ?_⟩
    have em : ((m.toNat : Nat) : Int) = m := Int.toNat_of_nonneg m0
    rw [← em]
    refine ⟨wl, m.toNat, rfl, hw2, by omega, fun nl ns H3 o3 hw3 nnl hnl hns hnd hnok => ?_⟩
    have nnw := hw2.ne nnl
    -- deeds = []
    refine ⟨Nat.zero_le _, fun dl ndl => ?_⟩
    have sd := same_new (o := .lst []) ndl
    have ndw := hw3.ne ndl
    have nnd : nl ≠ dl := ne_of_none hnl ndl
    have oB : One wl H H3 := oA.trans (o2.trans o3)
    have hnsl : (ns.map V.str).length = ns.length := List.length_map _
    refine ⟨_, rfl, nl, rfl, ⟨_, SqL.of (sd _ _ hnl)⟩, for_list (K := K) (a := nl) (xs := ns.map V.str) (fun i σ H' => (∃ v4 v5 v6, σ = [some (.ref wl), some (.int n), some (.ref nl), some (.ref dl), v4, v5, v6]) ∧ One wl H3 H' ∧ WellAt H' wl ∧
        ∃ ds : List Dd, H' dl = some (.lst (refsD ds)) ∧ ds.map (·.nm) = ns.take i ∧ ∀ d ∈ ds, DdAt H' d ∧ DdOk n d)
      ⟨⟨_, _, _, rfl⟩, One.of sd, hw3.same sd, [], upd_same, rfl, fun d hd => by cases hd⟩ (fun i σ H' _ h' => SqL.of (h'.2.1 _ _ hnl nnw)) (fun i y σ H4 hy h4 => ?_) fun σ H4 h4 => ?_⟩
    · obtain ⟨⟨v4, v5, v6, rfl⟩, o4, hw4, ds, hdl, hdn, hds⟩ := h4
      obtain ⟨z, hz, rfl⟩ : ∃ z, ns[i]? = some z ∧ y = V.str z := by
        rw [List.getElem?_map] at hy
        cases e : ns[i]? with
        | none => rw [e] at hy; cases hy
        | some z => rw [e] at hy; exact ⟨z, rfl, (Option.some.inj hy).symm⟩
      have hi : i < ns.length := (List.getElem?_eq_some_iff.mp hz).1
      have hdsl : ds.length = i := by
        have := congrArg List.length hdn
        rw [List.length_map, List.length_take] at this
        omega
      -- the places
      refine ⟨(by show 7 ≤ sizeLine; decide), fun l1 nl1 => ?_⟩
      have s1 := same_new (o := .lst [.int 0, .int 1, .int 1, .int 2, .int 2, .int 2, .int 3]) nl1
      have n1w := hw4.ne nl1
      refine ⟨_, rfl, wl, 7, rfl, hw4.same s1, by decide, by decide, fun u H5 u0 u7 o5 hw5 => ?_⟩
      obtain ⟨p0, hp3, hpm, hpt⟩ := pick_at (all := [0, 1, 1, 2, 2, 2, 3]) (way := u) (B := 3) u0 u7 (by decide)
      refine ⟨l1, _, u, .int p0, rfl, rfl, SqL.of (o5 _ _ upd_same n1w), hpt, ?_⟩
      have o45 : One wl H4 H5 := (One.of s1).trans o5
      -- no more than ..
      refine ⟨_, rfl, (by show 2 ≤ sizeLine; decide), fun l2 nl2 => ?_⟩
      have s2 := same_new (o := .lst [.int 3, .int 2]) nl2
      refine ⟨_, rfl, _, _, rfl, rfl, .inr ⟨_, rfl, ?_⟩⟩
      have cap : ∀ b : Bool, ∃ c : Nat, c ≤ 3 ∧ atI [V.int 3, V.int 2] (if b then 1 else 0) = some (V.int c) := fun b => by
        cases b
        · exact ⟨3, by decide, rfl⟩
        · exact ⟨2, by decide, rfl⟩
      obtain ⟨c, hc3, hcat⟩ := cap _
      refine ⟨l2, _, _, _, rfl, rfl, SqL.of upd_same, hcat, ?_⟩
      refine ⟨_, _, rfl, ?_⟩
      obtain ⟨p, hp, ep⟩ : ∃ p : Nat, p ≤ 3 ∧ (if (c : Int) < (p0 : Nat) then (c : Int) else (p0 : Nat)) = (p : Nat) := by
        by_cases hc : (c : Int) < (p0 : Nat)
        · exact ⟨c, hc3, by rw [if_pos hc]⟩
        · exact ⟨p0, hp3, by rw [if_neg hc]⟩
      rw [ep]
      have hw5' := hw5.same s2
      -- the table
      refine ⟨_, rfl, _, rfl, _, rfl, wl, n, p, rfl, hw5', hn1, by omega, hp, fun a t H6 o6 hw6 hat6 hrow6 => ?_⟩
      have o46 : One wl H4 H6 := o45.trans ((One.of s2).trans o6)
      -- what follows the table, at a in H7
      have tail : ∀ (a : Addr) (t : List Int) (H7 : Hp), One wl H4 H7 → WellAt H7 wl → RowAt H7 a t → Row n (n ^ p) t →
          (tDrop (tBM K "list" rAppend (tVar 3) (tCons (tTup (tCons (tVar 4) (tCons (tVar 5) (tCons (tVar 6) tNil)))) tNil)))
            { nx := fun σ H' => (∃ v4 v5 v6, σ = [some (.ref wl), some (.int n), some (.ref nl), some (.ref dl), v4, v5, v6]) ∧ One wl H3 H' ∧ WellAt H' wl ∧ ∃ ds : List Dd, H' dl = some (.lst (refsD ds)) ∧ ds.map (·.nm) = ns.take (i + 1) ∧ ∀ d ∈ ds, DdAt H' d ∧ DdOk n d, rt := Q, bk := fun _ _ => True, ct := fun _ _ => True }
            [some (.ref wl), some (.int n), some (.ref nl), some (.ref dl), some (.str z), some (.int p), some (.ref a)] H7 := by
        intro a t H7 o7 hw7 hat7 hrow7
        have hdl7 := o7 _ _ hdl ndw
        refine ⟨_, rfl, .inl ⟨rfl, _, SqL.of hdl7⟩, _, rfl, _, rfl, _, rfl, (by show 3 ≤ sizeLine; decide), fun tp ntp => ?_⟩
        have st := same_new (o := .tup [.str z, .int p, .ref a]) ntp
        have hdl8 := st _ _ hdl7
        refine ⟨dl, _, _, rfl, rfl, hdl8, ?_, ⟨_, _, _, rfl⟩, ?_, (hw7.same st).put ndw, ds ++ [⟨tp, z, p, a, t⟩], ?_, ?_, fun d hd => ?_⟩
        · unfold refsD
          rw [List.length_map, hdsl]
          exact small1000 (by omega)
        · exact One.put ndl (o4.trans (o7.trans (One.of st)))
        · rw [upd_same]
          unfold refsD
          rw [List.map_append]
          rfl
        · rw [take_more hz, ← hdn, List.map_append]
          rfl
        · have dd7 : ∀ d ∈ ds ++ [⟨tp, z, p, a, t⟩], DdAt (upd H7 tp (.tup [.str z, .int p, .ref a])) d ∧ DdOk n d := fun d hd => by
            rcases List.mem_append.mp hd with hd | hd
            · exact ⟨(o7.dd hw4 (hds d hd).1).same st, (hds d hd).2⟩
            · rw [List.mem_singleton.mp hd]
              exact ⟨⟨upd_same, st _ _ hat7⟩, hnok z (List.mem_of_getElem? hz), hp, hrow7⟩
          obtain ⟨⟨d1, d2⟩, d3⟩ := dd7 d hd
          refine ⟨⟨?_, ?_⟩, d3⟩
          · rw [upd_ne (ne_of d1 hdl8 (by intro q; cases q))]
            exact d1
          · exact RowAt.off d2 hdl8 (fun _ => by intro q; cases q)
      refine ⟨_, rfl, _, _, rfl, rfl, _, rfl, ?_⟩
      by_cases h2 : (2 : Int) < (n : Nat)
      · rw [decide_eq_true h2]
        refine iteT ⟨_, rfl, rfl, _, rfl, ?_⟩
        by_cases hp2 : p = 2
        · have e : decide (V.int (p : Nat) = V.int 2) = true := decide_eq_true (by rw [hp2]; rfl)
          rw [e]
          refine iteT ⟨_, rfl, _, rfl, wl, n, rfl, hw6, hn1, by omega, fun a' t' H8 o8 hw8 hat8 hrow8 => ?_⟩
          exact tail a' t' H8 (o46.trans o8) hw8 hat8 (by rw [hp2]; exact hrow8)
        · have e : decide (V.int (p : Nat) = V.int 2) = false := decide_eq_false (fun z => hp2 (by injection z with z; omega))
          rw [e]
          exact iteF (tail a t H6 o46 hw6 hat6 hrow6)
      · rw [decide_eq_false h2]
        exact iteF (tail a t H6 o46 hw6 hat6 hrow6)
    · obtain ⟨⟨v4, v5, v6, rfl⟩, o4, hw4, ds, hdl, hdn, hds⟩ := h4
      rw [hnsl, List.take_length] at hdn
      have hdsl : ds.length = ns.length := by
        have := congrArg List.length hdn
        rw [List.length_map] at this
        exact this
      refine ⟨_, rfl, _, rfl, mk_house ⟨hn1, by omega⟩ hdl hds (by omega) (by rw [hdn]; exact hnd) fun x H' s' nx hh => ?_⟩
      exact q x n ds H' (oB.trans (o4.trans (One.of s'))) (hw4.same s') hh hn1 hn5 (fun d hd => (hds d hd).2) (by omega) (by rw [hdn]; exact hnd)
end
end K26

set_option Elab.async false
set_option linter.all false
set_option maxRecDepth 100000
set_option maxHeartbeats 4000000
/-! # _law_made, _law_put -/
namespace K26
open PySem PySem.Spec PyProof.Rows L2
abbrev sLMade : Stmt := top 43
abbrev sLPut : Stmt := top 44
def MadeD (n : Nat) (ds : List Dd) (p : Nat) : List Int → Prop := Made n (deedsOf ds) (argsOf n p) (n ^ p)
def spLMade (CH : Addr) : Sp := fun vs H Q _ => ∃ (h : Addr) (n : Nat) (ds : List Dd) (p most : Nat), vs = [.ref h, .int p, .int most] ∧ HouseAt CH H h n ds ∧ (1 ≤ n ∧ n ≤ 9) ∧ (∀ d ∈ ds, Row n (n ^ d.p) d.t) ∧ (∀ d ∈ ds, d.p ≤ 2) ∧ (p = 1 ∨ p = 2) ∧ most < 64 ∧
  (TooBig (MadeD n ds p) most → ∀ H', Same H H' → Q .non H') ∧
  ∀ (l : Addr) (L : List (List Int)) (H' : Hp), Same H H' → H l = none → LRows H' l L → L.length ≤ most → Sprd (MadeD n ds p) L → Q (.ref l) H'
section
variable {P : Program} {w : World} {K : PySem.W.Frag} {mg : Str → Option Value} {base : Heap}
theorem sc_lmade : FnScope ["_law_house", "_law_places", "_law_most", "_law_found"] ["_law_house", "_law_places", "_law_most"] (defScope sLMade) := ⟨rfl, rfl, rfl, by decide +kernel, rfl, by decide +kernel, by decide +kernel⟩
theorem c_lmade {CH Ct W : Addr} (TM : TMTxt K mg Ct W) (D : DefAt K mg "_law_made" sLMade ["_law_house", "_law_places", "_law_most"]) (cM : Cal P w K mg base (L2.CX P w) 9 "deeds_made" (spMade CH Ct)) : Cal P w K mg base CX0 10 "_law_made" (spLMade CH) := by
  refine cal_of D sc_lmade (fun vs H Q E h => ?_) (fun f cdv A outer s H vs Q E hr h => ?_)
  · obtain ⟨h, n, ds, p, most, rfl, _⟩ := h
    rfl
  · obtain ⟨h, n, ds, p, most, rfl, hH, hn, ht, hf, hp, hm, qE, q⟩ := h
    obtain ⟨g, gd, ps, F, hg, kp, b⟩ := cM.ex
    refine ⟨_, pss_cons (ps_set (i := 3) sc_lmade.nd rfl (.inl rfl) pe_non)
      (pss_cons (ps_try_only (tb := fun W => tAsg (tCallS (spMade CH Ct) (WE W) (tCons (tVar 0) (tCons (tVar 1) (tCons (tVar 2) tNil)))) (gName 3)) (ts := fun _ _ _ => tAsg (tC .non) (gName 3)) (Wout := fun _ _ _ _ => False) rfl rfl ⟨rfl, by decide, Or.inl TM.gC⟩ takes0
          (fun W pn xe tk _ => pss_one (ps_set (i := 3) sc_lmade.nd rfl (.inl rfl) (pe_callS F hr rfl hg kp b (fun σ => passAt tk σ) (by exact (pa_cons (pv 0) (pa_cons (pv 1) (pa_cons (pv 2) pa_nil)))))))
          (fun _ _ _ _ _ _ _ => pss_one (ps_set (i := 3) sc_lmade.nd rfl (.inl rfl) pe_non)))
      (pss_one (ps_ret (pv 3)))), ?_⟩
    refine ⟨_, rfl, _, rfl, _, rfl, h, n, ds, p, most, rfl, hH, hn, ht, hf, hp, hm, fun tb c H' s' => ?_, fun l L H' s' nl hl hlen hS => ?_⟩
    · exact ⟨true, TM.te, fun _ a ha => ⟨_, rfl, qE tb H' s'⟩, fun z => nomatch z⟩
    · exact ⟨_, rfl, q l L H' s' nl hl hlen hS⟩
/-! ### _law_put -/
def spotAt (n : Nat) (rs : List (List Int)) (k : Int) : Int := rs.foldl (fun acc r => acc * n + cell r k) 0
def putR (n : Nat) (t : List Int) (wd : Nat) (rs : List (List Int)) : List Int := (upTo wd).map fun k => cell t (spotAt n rs k)
theorem fold_in {n wd : Nat} {k : Int} (h0 : 0 ≤ k) (h1 : k < (wd : Nat)) : ∀ {rs : List (List Int)} {acc : Int} {m : Nat}, (∀ r ∈ rs, Row n wd r) → 0 ≤ acc → acc < ((n ^ m : Nat) : Int) → 0 ≤ rs.foldl (fun acc r => acc * n + cell r k) acc ∧ rs.foldl (fun acc r => acc * n + cell r k) acc < ((n ^ (m + rs.length) : Nat) : Int)
  | [], acc, m, _, a0, a1 => ⟨a0, a1⟩
  | r :: rs, acc, m, hr, a0, a1 => by
    have q := cell_in (hr r List.mem_cons_self) h0 h1
    have b0 : 0 ≤ acc * (n : Int) := Int.mul_nonneg a0 (by omega)
    have b1 : (acc + 1) * (n : Int) ≤ ((n ^ m : Nat) : Int) * n := Int.mul_le_mul_of_nonneg_right (by omega) (by omega)
    rw [Int.add_mul, Int.one_mul, ← Int.natCast_mul, show n ^ m * n = n ^ (m + 1) from (Nat.pow_succ ..).symm] at b1
    have ih := fold_in h0 h1 (rs := rs) (acc := acc * n + cell r k) (m := m + 1) (fun x hx => hr x (List.mem_cons_of_mem _ hx)) (by omega) (by omega)
    rw [List.foldl_cons, List.length_cons, show m + (rs.length + 1) = m + 1 + rs.length by omega]
    exact ih
theorem spot_at_in {n wd : Nat} {k : Int} {rs : List (List Int)} (h0 : 0 ≤ k) (h1 : k < (wd : Nat)) (hr : ∀ r ∈ rs, Row n wd r) : 0 ≤ spotAt n rs k ∧ spotAt n rs k < ((n ^ rs.length : Nat) : Int) := by
  have q := fold_in h0 h1 (acc := 0) (m := 0) hr (Int.le_refl 0) (by simp)
  rw [Nat.zero_add] at q
  exact q
theorem spot_snoc {n : Nat} {rs : List (List Int)} {r : List Int} {k : Int} : spotAt n (rs ++ [r]) k = spotAt n rs k * n + cell r k := by
  unfold spotAt
  rw [List.foldl_append]
  rfl
theorem putR_len {n wd : Nat} {t : List Int} {rs : List (List Int)} : (putR n t wd rs).length = wd := by unfold putR; rw [List.length_map, ints_len]
theorem putR_get {n wd k : Nat} {t : List Int} {rs : List (List Int)} (h : k < wd) : (putR n t wd rs)[k]? = some (cell t (spotAt n rs k)) := by
  unfold putR
  rw [List.getElem?_map, ints_get h]
  rfl
theorem cell_get {r : List Int} {k : Nat} (h : k < r.length) : r[k]? = some (cell r (k : Int)) := by
  unfold cell
  rw [Int.toNat_natCast, List.getD_eq_getElem?_getD, List.getElem?_eq_getElem h]
  rfl
theorem putR1 {n wd : Nat} {t r : List Int} (h : r.length = wd) : putR n t wd [r] = ap1 t r := by
  refine List.ext_getElem? fun i => ?_
  by_cases hi : i < wd
  · rw [putR_get hi]
    unfold ap1
    rw [List.getElem?_map, cell_get (by omega)]
    show some (cell t (0 * (n : Int) + cell r i)) = some (cell t (cell r i))
    rw [Int.zero_mul, Int.zero_add]
  · rw [List.getElem?_eq_none (by rw [putR_len]; omega), List.getElem?_eq_none (by unfold ap1; rw [List.length_map]; omega)]
theorem putR2 {n wd : Nat} {t r s : List Int} (h : r.length = wd) (h' : s.length = wd) : putR n t wd [r, s] = ap2 n t r s := by
  refine List.ext_getElem? fun i => ?_
  by_cases hi : i < wd
  · rw [putR_get hi, ap2_get, cell_get (r := r) (by omega), cell_get (r := s) (by omega)]
    show some (cell t ((0 * (n : Int) + cell r i) * n + cell s i)) = some (cell t (cell r i * n + cell s i))
    rw [Int.zero_mul, Int.zero_add]
  · rw [List.getElem?_eq_none (by rw [putR_len]; omega), List.getElem?_eq_none (by unfold ap2; rw [List.length_zipWith]; omega)]
def spLPut : Sp := fun vs H Q _ => ∃ (ta l : Addr) (t r0 : List Int) (rs : List (List Int)) (n wd : Nat), vs = [.ref ta, .ref l, .int n] ∧ RowAt H ta t ∧ LRows H l (r0 :: rs) ∧ n ≤ 9 ∧ wd ≤ 1000 ∧ (∀ r ∈ r0 :: rs, Row n wd r) ∧ n ^ (r0 :: rs).length ≤ t.length ∧
  ∀ a H', Same H H' → RowAt H' a (putR n t wd (r0 :: rs)) → Q (.ref a) H'
abbrev nLPut : List Str := ["_law_outer", "_law_inner", "_law_size", "_law_found", "_law_k", "_law_spot", "_law_table_here"]
theorem sc_lput : FnScope nLPut ["_law_outer", "_law_inner", "_law_size"] (defScope sLPut) := ⟨rfl, rfl, rfl, by decide +kernel, rfl, by decide +kernel, by decide +kernel⟩
theorem c_lput (Z : Zs mg) (D : DefAt K mg "_law_put" sLPut ["_law_outer", "_law_inner", "_law_size"]) : Cal P w K mg base CX0 1 "_law_put" spLPut := by
  refine cal_of D sc_lput (fun vs H Q E h => ?_) (fun f cdv A outer s H vs Q E hr h => ?_)
  · obtain ⟨ta, l, t, r0, rs, n, wd, rfl, _⟩ := h
    rfl
  · obtain ⟨ta, l, t, r0, rs, n, wd, rfl, hta, ⟨as, hl, hra⟩, hn, hwd, hrow, htl, q⟩ := h
    refine ⟨_, pss_cons (ps_set (i := 3) sc_lput.nd rfl (.inl rfl) (pe_lst pa_nil))
      (pss_cons (ps_for PassesOwn.never rfl (pi_range1 (by rfl) Z.range (pa_cons (pe_callB call_len_seq (by rfl) Z.len PySem.boot_len (pa_cons (pe_ix ix_list (pv 1) pe_int (fun _ _ => rfl)) pa_nil)) pa_nil)) (pg_name (i := 4) sc_lput.nd rfl (.inl rfl))
        (pss_cons (ps_set (i := 5) sc_lput.nd rfl (.inl rfl) pe_int)
        (pss_cons (ps_for PassesOwn.never rfl (pi_list (pv 1)) (pg_name (i := 6) sc_lput.nd rfl (.inl rfl))
          (pss_one (ps_set (i := 5) sc_lput.nd rfl (.inl rfl) (pe_op op_add (pe_op op_mul (pv 5) (pv 2)) (pe_ix ix_tup (pv 6) (pv 4) (fun _ _ => rfl))))))
        (pss_one (ps_expr (pe_bm PySem.F.plainAttrs_list PySem.F.slot_list_append PySem.F.type_list_append mt_append (pv 3) (pa_cons (pe_ix ix_tup (pv 0) (pv 5) (fun _ _ => rfl)) pa_nil)))))))
      (pss_one (ps_ret (pe_callTy call_tuple_of (by rfl) Z.tuple (by decide +kernel) (pa_cons (pv 3) pa_nil))))), ?_⟩
    refine ⟨Nat.zero_le _, fun fl nf => ?_⟩
    have sf := same_new (o := .lst []) nf
    obtain ⟨a0, e0, ha0⟩ := hra.at (i := 0) (r := r0) rfl
    have hl1 := sf _ _ hl
    refine ⟨_, rfl, l, _, 0, .ref a0, rfl, rfl, SqL.of hl1, atI_nat (by rw [List.getElem?_map, e0]; rfl), a0, _, rfl, .inr (SqT.of (sf _ _ ha0)), _, rfl, by omega, ?_, ?_⟩
    · rw [List.length_map, (hrow r0 List.mem_cons_self).1]
      omega
    have hwd0 : (r0.map V.int).length = wd := by rw [List.length_map, (hrow r0 List.mem_cons_self).1]
    refine for_range (fun i σ H' => (∃ v4 v5 v6, σ = [some (.ref ta), some (.ref l), some (.int n), some (.ref fl), v4, v5, v6]) ∧ Same H H' ∧ H' fl = some (.lst (((putR n t wd (r0 :: rs)).take i).map V.int))) ⟨⟨_, _, _, rfl⟩, sf, upd_same⟩ (fun i σ H2 hi h2 => ?_) fun σ H2 h2 => ?_
    · obtain ⟨⟨v4, v5, v6, rfl⟩, s2, hf⟩ := h2
      rw [Int.toNat_natCast, hwd0] at hi
      refine ⟨_, rfl, l, rfl, ⟨_, SqL.of (s2 _ _ hl)⟩, for_list (K := K) (a := l) (xs := as.map V.ref) (fun j σ H' => (∃ v6, σ = [some (.ref ta), some (.ref l), some (.int n), some (.ref fl), some (.int (0 + (i : Nat))), some (.int (spotAt n ((r0 :: rs).take j) (0 + (i : Nat)))), v6]) ∧ H' = H2)
        ⟨⟨_, rfl⟩, rfl⟩ (fun j σ H' _ h' => by rw [h'.2]; exact SqL.of (s2 _ _ hl)) (fun j y σ H3 hy h3 => ?_) fun σ H3 h3 => ?_⟩
      · obtain ⟨⟨v6, rfl⟩, rfl⟩ := h3
        obtain ⟨b, eb, rfl⟩ := get_refs hy
        obtain ⟨r, er, hb⟩ := hra.get eb
        have hr' := hrow r (List.mem_of_getElem? er)
        refine ⟨_, rfl, _, rfl, _, _, rfl, rfl, .inr (by omega), _, rfl, _, rfl, b, _, (0 + (i : Nat) : Int), _, rfl, rfl, SqT.of (s2 _ _ hb), at_cell (by omega) (by rw [hr'.1]; omega), _, _, rfl, rfl, ⟨some (.ref b), ?_⟩, rfl⟩
        rw [take_more er, spot_snoc]
        rfl
      · obtain ⟨⟨v6, rfl⟩, rfl⟩ := h3
        rw [show (as.map V.ref).length = (r0 :: rs).length by rw [List.length_map]; exact hra.len, List.take_length]
        have sp := spot_at_in (n := n) (wd := wd) (k := 0 + (i : Nat)) (rs := r0 :: rs) (by omega) (by omega) hrow
        refine ⟨_, rfl, .inl ⟨rfl, _, SqL.of hf⟩, _, rfl, _, rfl, ta, _, _, _, rfl, rfl, SqT.of (s2 _ _ hta), at_cell sp.1 (by omega), fl, _, _, rfl, rfl, hf, ?_, ⟨_, _, _, rfl⟩, same_put nf s2, ?_⟩
        · rw [List.length_map, List.length_take]
          exact small1000 (by omega)
        · rw [upd_same, take_more (putR_get hi), List.map_append, Int.zero_add]
          rfl
    · obtain ⟨⟨v4, v5, v6, rfl⟩, s2, hf⟩ := h2
      rw [Int.toNat_natCast, hwd0, List.take_of_length_le (by rw [putR_len]; exact Nat.le_refl _)] at hf
      refine ⟨_, rfl, fl, _, rfl, .inl ⟨SqL.of hf, fun c nc => ?_⟩⟩
      exact q c _ (s2.trans (same_new nc)) upd_same
end
end K26

set_option Elab.async false
set_option linter.all false
set_option maxRecDepth 100000
set_option maxHeartbeats 4000000
/-! # _law_put_right -/
namespace K26
open PySem PySem.Spec PyProof.Rows L2
abbrev sPutR : Stmt := top 45
/-! ### all pairs, in order -/
theorem upTo_succ (m : Nat) : upTo (m + 1) = upTo m ++ [(m : Int)] := by
  unfold upTo
  rw [List.range_succ, List.map_append]
  rfl
theorem upTo_mul (m n : Nat) : upTo ((m + 1) * n) = upTo (m * n) ++ (upTo n).map fun b => (m : Int) * n + b := by
  unfold upTo
  rw [Nat.add_mul, Nat.one_mul, List.range_add, List.map_append, List.map_map, List.map_map]
  have e : (List.range n).map ((fun (k : Nat) => (k : Int)) ∘ fun x => m * n + x) = (List.range n).map ((fun b : Int => (m : Int) * n + b) ∘ fun (k : Nat) => (k : Int)) := by
    refine List.map_congr_left fun k _ => ?_
    show ((m * n + k : Nat) : Int) = (m : Int) * n + (k : Int)
    rw [Int.natCast_add, Int.natCast_mul]
  rw [e]
theorem pairs_eq (n : Nat) : ∀ m : Nat, ((upTo m).flatMap fun a => (upTo n).map fun b => [a, b]) = (upTo (m * n)).map fun i => [i / (n : Int), i % (n : Int)]
  | 0 => by rw [Nat.zero_mul]; rfl
  | m + 1 => by
    rw [upTo_succ, List.flatMap_append, pairs_eq n m, upTo_mul, List.map_append]
    congr 1
    rw [List.map_map]
    have e : ([(m : Int)] : List Int).flatMap (fun a => (upTo n).map fun b => [a, b]) = (upTo n).map fun b => [(m : Int), b] := by simp
    rw [e]
    refine List.map_congr_left fun b hb => ?_
    have q := mem_ints hb
    show [(m : Int), b] = [((m : Int) * n + b) / (n : Int), ((m : Int) * n + b) % (n : Int)]
    rw [div_spot q, mod_spot q]
theorem allR2 (n : Nat) : allR n 2 = (upTo (n * n)).map fun i => [i / (n : Int), i % (n : Int)] := by
  have e : allR n 1 = (upTo n).map fun a => [a] := by
    show ([[]] : List (List Int)).flatMap (extR n) = _
    simp [extR]
  show (allR n 1).flatMap (extR n) = _
  rw [e, List.flatMap_map]
  exact pairs_eq n n
theorem allR2_get {n i : Nat} (h : i < n * n) : (allR n 2)[i]? = some [(i : Int) / n, (i : Int) % n] := by
  rw [allR2, List.getElem?_map, ints_get h]
  rfl
theorem about_get {n i : Nat} {f : List Int} (h : i < n * n) : (ap2 n f (argB n) (argA n))[i]? = some (cell f ((i : Int) % n * n + (i : Int) / n)) := by
  rw [ap2_get]
  unfold argA argB
  rw [List.getElem?_map, List.getElem?_map, ints_get h]
  rfl
theorem wider_get {n i : Nat} {o : List Int} (h : i < n * n) : (ap1 o (argA n))[i]? = some (cell o ((i : Int) / n)) := by
  unfold argA ap1
  rw [List.getElem?_map, List.getElem?_map, ints_get h]
  rfl
theorem alike_get {n i : Nat} {f : List Int} (h : i < n) : (ap2 n f (arg1 n) (arg1 n))[i]? = some (cell f ((i : Int) * n + (i : Int))) := by
  rw [ap2_get]
  unfold arg1
  rw [ints_get h]
theorem ap2_len {n : Int} {f r s : List Int} {w : Nat} (h : r.length = w) (h' : s.length = w) : (ap2 n f r s).length = w := by
  unfold ap2
  rw [List.length_zipWith, h, h', Nat.min_self]
theorem div_mod_in {n i : Nat} (hn : 1 ≤ n) (h : i < n * n) : (0 ≤ (i : Int) / n ∧ (i : Int) / n < n) ∧ (0 ≤ (i : Int) % n ∧ (i : Int) % n < n) := by
  refine ⟨⟨Int.ediv_nonneg (by omega) (by omega), Int.ediv_lt_of_lt_mul (by omega) ?_⟩, Int.emod_nonneg _ (by omega), Int.emod_lt_of_pos _ (by omega)⟩
  rw [← Int.natCast_mul]
  omega
/-- a row more -/
theorem lrows_push {H : Hp} {D a : Addr} {as : List Addr} {rs : List (List Int)} {r : List Int} (hD : H D = some (.lst (as.map V.ref))) (h : RowsAt H as rs) (ha : RowAt H a r) : RowsAt (upd H D (.lst (as.map V.ref ++ [V.ref a]))) (as ++ [a]) (rs ++ [r]) :=
  RowsAt.snoc (ha.off hD (fun _ => by intro z; cases z)) (RowsAt.keep (fun c r hc => hc.off hD (fun _ => by intro z; cases z)) h)
theorem two_of {xs : List (List Int)} (h : xs.length = 2) : ∃ r s, xs = [r, s] := by
  match xs, h with
  | [r, s], _ => exact ⟨r, s, rfl⟩
theorem three_of {xs : List (List Int)} (h : xs.length = 3) : ∃ r s t, xs = [r, s, t] := by
  match xs, h with
  | [r, s, t], _ => exact ⟨r, s, t, rfl⟩
theorem lrows3 {H : Hp} {as : List Addr} {r s t : List Int} (h : RowsAt H as [r, s, t]) : ∃ a b c, as = [a, b, c] ∧ RowAt H a r ∧ RowAt H b s ∧ RowAt H c t := by
  cases h with
  | cons h1 t1 =>
    cases t1 with
    | cons h2 t2 =>
      cases t2 with
      | cons h3 t3 =>
        cases t3
        exact ⟨_, _, _, rfl, h1, h2, h3⟩
theorem rows2 {H : Hp} {as : List Addr} {r s : List Int} (h : RowsAt H as [r, s]) : ∃ a b, as = [a, b] ∧ RowAt H a r ∧ RowAt H b s := by
  cases h with
  | cons h1 t1 =>
    cases t1 with
    | cons h2 t2 =>
      cases t2
      exact ⟨_, _, rfl, h1, h2⟩
theorem lrows_at {H : Hp} {l : Addr} {rs : List (List Int)} {c : Int} (h : LRows H l rs) (h0 : 0 ≤ c) (h1 : c < (rs.length : Nat)) : ∃ (as : List Addr) (a : Addr) (r : List Int), H l = some (.lst (as.map V.ref)) ∧ atI (as.map V.ref) c = some (V.ref a) ∧ r ∈ rs ∧ RowAt H a r := by
  obtain ⟨as, h2, h3⟩ := h
  have hl : c.toNat < rs.length := by omega
  obtain ⟨a, ea, ha⟩ := h3.at (i := c.toNat) (List.getElem?_eq_getElem hl)
  refine ⟨as, a, _, h2, at_of (j := c.toNat) (by omega) ?_, List.getElem_mem hl, ha⟩
  rw [List.getElem?_map, ea]
  rfl
theorem lrows_len {H : Hp} {l : Addr} {rs : List (List Int)} (h : LRows H l rs) : ∃ as : List Addr, H l = some (.lst (as.map V.ref)) ∧ (as.map V.ref).length = rs.length := by
  obtain ⟨as, h2, h3⟩ := h
  exact ⟨as, h2, by rw [List.length_map, h3.len]⟩
theorem rows_two {n wd : Nat} {r s : List Int} (hr : Row n wd r) (hs : Row n wd s) : ∀ x ∈ [r, s], Row n wd x := fun x hx => by
  rcases List.mem_cons.mp hx with e | hx
  · rw [e]; exact hr
  · rw [List.mem_singleton.mp hx]; exact hs
theorem rows_one {n wd : Nat} {r : List Int} (hr : Row n wd r) : ∀ x ∈ [r], Row n wd x := fun x hx => by
  rw [List.mem_singleton.mp hx]
  exact hr
theorem tab_two {n : Nat} {t : List Int} (h : Row n (n * n) t) {r s : List Int} : n ^ ([r, s] : List (List Int)).length ≤ t.length := by
  show n ^ 2 ≤ t.length
  rw [Nat.pow_two, h.1]
  exact Nat.le_refl _
theorem tab_one {n : Nat} {t : List Int} (h : Row n n t) {r : List Int} : n ^ ([r] : List (List Int)).length ≤ t.length := by
  show n ^ 1 ≤ t.length
  rw [Nat.pow_one, h.1]
  exact Nat.le_refl _
theorem any_true {rs : List (List Int)} {r : List Int} (h : r ∈ rs) : (rs.map rowD).any (fun z => PyData.eqv z (rowD r)) = true := by rw [any_eqv, decide_eq_true h]
/-- the rows of two lots, put into one another in every way -/
structure PutClosed (n : Nat) (O T : List (List Int)) : Prop where
  o : ∀ r ∈ O, Row n n r
  t : ∀ r ∈ T, Row n (n * n) r
  ttt : ∀ f ∈ T, ∀ s ∈ T, ∀ t ∈ T, ap2 n f s t ∈ T
  ot : ∀ o ∈ O, ∀ f ∈ T, ap1 o f ∈ T
  oo : ∀ o ∈ O, ∀ p ∈ O, ap1 o p ∈ O
  too : ∀ f ∈ T, ∀ o ∈ O, ∀ p ∈ O, ap2 n f o p ∈ O
  about : ∀ f ∈ T, ap2 n f (argB n) (argA n) ∈ T
  alike : ∀ f ∈ T, ap2 n f (arg1 n) (arg1 n) ∈ O
  wider : ∀ o ∈ O, ap1 o (argA n) ∈ T
def spPutR : Sp := fun vs H Q _ => ∃ (wl lo lt : Addr) (n : Nat) (O T : List (List Int)), vs = [.ref wl, .int n, .ref lo, .ref lt] ∧ WellAt H wl ∧ 1 ≤ n ∧ n ≤ 9 ∧ LRows H lo O ∧ LRows H lt T ∧ lo ≠ wl ∧ lt ≠ wl ∧ (0 < O.length ∧ O.length ≤ 1000) ∧ (0 < T.length ∧ T.length ≤ 1000) ∧ PutClosed n O T ∧
  ∀ H', One wl H H' → WellAt H' wl → Q (.bl true) H'
abbrev nPutR : List Str := ["_law_well", "_law_size", "_law_ones", "_law_twos", "_law_first", "_law_second", "_law_third", "_law_one", "_law_other", "_law_some", "_law_about", "_law_alike", "_law_wider", "_law_k", "_law_j"]
section
variable {P : Program} {w : World} {K : PySem.W.Frag} {mg : Str → Option Value} {base : Heap}
theorem sc_putr : FnScope nPutR ["_law_well", "_law_size", "_law_ones", "_law_twos"] (defScope sPutR) := ⟨rfl, rfl, rfl, by decide +kernel, rfl, by decide +kernel, by decide +kernel⟩
/-- what len tells of a list -/
def rLenQ (K : PySem.W.Frag) : List V → Hp → VK → Prop := fun xs H Q => ∃ p ys, xs = [.ref p] ∧ (SqL K H p ys ∨ SqT K H p ys) ∧ Q (.int ys.length) H
/-- a draw of a lot's row -/
abbrev tPick (K : PySem.W.Frag) (i : Nat) : TE := tOp (rIxL K) (tVar i) (tCall spDraw [] E0 (tCons (tVar 0) (tCons (tCB (rLenQ K) (tCons (tVar i) tNil)) tNil)))
theorem c_putr (Z : Zs mg) (D : DefAt K mg "_law_put_right" sPutR ["_law_well", "_law_size", "_law_ones", "_law_twos"]) (cD : Cal P w K mg base CX0 1 "_law_draw" spDraw) (cA : Cal P w K mg base CX0 1 "_law_all" spAllR) (cP : Cal P w K mg base CX0 1 "_law_put" spLPut) :
    Cal P w K mg base CX0 2 "_law_put_right" spPutR := by
  refine cal_of D sc_putr (fun vs H Q E h => ?_) (fun f cdv A outer s H vs Q E hr h => ?_)
  · obtain ⟨wl, lo, lt, n, O, T, rfl, _⟩ := h
    rfl
  · obtain ⟨wl, lo, lt, n, O, T, rfl, hw, hn, hn9, hO, hT, nlo, nlt, hOl, hTl, C, q⟩ := h
    have hu : (A.deeper (envOfC "_law_put_right" (defScope sPutR) s.heap.objs.size f cdv)).units + 65 < cLine := by have := hr.un; omega
    refine ⟨_, pss_cons (ps_asg (pe_lc (own := [("_law_k", 13)]) (g := gName 13) (tt := tYes) (te := tPick K 3) (by rfl) sc_putr.nd (pi_range1 (by rfl) Z.range (pa_cons pe_int pa_nil))
          (blkOk_by (own := [("_law_k", 13)]) (N := nPutR) (sc := defScope sPutR) (by decide +kernel)) (fun _ _ _ _ _ => pg_name (i := 13) sc_putr.nd rfl (Or.inl rfl)) (fun _ _ _ _ _ => pts_nil)
          (fun _ _ _ _ _ => pe_ix (r := rIxL K) ix_list (pv 3) (pe_cl cD hr (by decide) pass0 (by rfl) (pa_cons (pv 0) (pa_cons (pe_callB (r := rLenQ K) call_len_seq (by rfl) Z.len PySem.boot_len (pa_cons (pv 3) pa_nil)) pa_nil))) (fun _ _ => rfl)))
        (pg_unl rfl (pgs_cons (pg_name (i := 4) sc_putr.nd rfl (.inr rfl)) (pgs_cons (pg_name (i := 5) sc_putr.nd rfl (.inl rfl)) (pgs_cons (pg_name (i := 6) sc_putr.nd rfl (.inl rfl)) pgs_nil)))))
      (pss_cons (ps_asg (pe_lc (own := [("_law_k", 13)]) (g := gName 13) (tt := tYes) (te := tPick K 2) (by rfl) sc_putr.nd (pi_range1 (by rfl) Z.range (pa_cons pe_int pa_nil))
          (blkOk_by (own := [("_law_k", 13)]) (N := nPutR) (sc := defScope sPutR) (by decide +kernel)) (fun _ _ _ _ _ => pg_name (i := 13) sc_putr.nd rfl (Or.inl rfl)) (fun _ _ _ _ _ => pts_nil)
          (fun _ _ _ _ _ => pe_ix (r := rIxL K) ix_list (pv 2) (pe_cl cD hr (by decide) pass0 (by rfl) (pa_cons (pv 0) (pa_cons (pe_callB (r := rLenQ K) call_len_seq (by rfl) Z.len PySem.boot_len (pa_cons (pv 2) pa_nil)) pa_nil))) (fun _ _ => rfl)))
        (pg_unl rfl (pgs_cons (pg_name (i := 7) sc_putr.nd rfl (.inr rfl)) (pgs_cons (pg_name (i := 8) sc_putr.nd rfl (.inl rfl)) pgs_nil))))
      (pss_cons (ps_if (PW.pt (pw_or (pt_cmpR (op_notInD hu) (pe_cl cP hr (by decide) pass0 (by rfl) (pa_cons (pv 4) (pa_cons (pe_lst (pa_cons (pv 5) (pa_cons (pv 6) pa_nil))) (pa_cons (pv 1) pa_nil)))) (pv 3) (by rfl))
          (pw_or1 (pt_cmpR (op_notInD hu) (pe_cl cP hr (by decide) pass0 (by rfl) (pa_cons (pv 7) (pa_cons (pe_lst (pa_cons (pv 4) pa_nil)) (pa_cons (pv 1) pa_nil)))) (pv 3) (by rfl))))) (pss_one (ps_ret pe_bl)) pss_nil)
      (pss_cons (ps_if (PW.pt (pw_or (pt_cmpR (op_notInD hu) (pe_cl cP hr (by decide) pass0 (by rfl) (pa_cons (pv 7) (pa_cons (pe_lst (pa_cons (pv 8) pa_nil)) (pa_cons (pv 1) pa_nil)))) (pv 2) (by rfl))
          (pw_or1 (pt_cmpR (op_notInD hu) (pe_cl cP hr (by decide) pass0 (by rfl) (pa_cons (pv 4) (pa_cons (pe_lst (pa_cons (pv 7) (pa_cons (pv 8) pa_nil))) (pa_cons (pv 1) pa_nil)))) (pv 2) (by rfl))))) (pss_one (ps_ret pe_bl)) pss_nil)
      (pss_cons (ps_set (i := 9) sc_putr.nd rfl (.inl rfl) (pe_cl cA hr (by decide) pass0 (by rfl) (pa_cons (pv 1) (pa_cons pe_int pa_nil))))
      (pss_cons (ps_set (i := 10) sc_putr.nd rfl (.inl rfl) (pe_callTy call_tuple_of (by rfl) Z.tuple (by decide +kernel) (pa_cons (pe_lc (own := [("_law_k", 13), ("_law_j", 14)]) (g := gTup K 2 (gCons (gName 14) (gCons (gName 13) gNil))) (tt := tYes) (by rfl) sc_putr.nd (pi_list (pv 9))
          (blkOk_by (own := [("_law_k", 13), ("_law_j", 14)]) (N := nPutR) (sc := defScope sPutR) (by decide +kernel)) (fun _ _ _ _ _ => pg_tup rfl (pgs_cons (pg_name (i := 14) sc_putr.nd rfl (Or.inl rfl)) (pgs_cons (pg_name (i := 13) sc_putr.nd rfl (Or.inl rfl)) pgs_nil))) (fun _ _ _ _ _ => pts_nil)
          (fun _ _ _ _ _ => pe_ix (r := rIxT K) ix_tup (pv 4) (pe_op op_add (pe_op op_mul (pv 13) (pv 1)) (pv 14)) (fun _ _ => rfl))) pa_nil)))
      (pss_cons (ps_set (i := 11) sc_putr.nd rfl (.inl rfl) (pe_callTy call_tuple_of (by rfl) Z.tuple (by decide +kernel) (pa_cons (pe_lc (own := [("_law_k", 13)]) (g := gName 13) (tt := tYes) (by rfl) sc_putr.nd (pi_range1 (by rfl) Z.range (pa_cons (pv 1) pa_nil))
          (blkOk_by (own := [("_law_k", 13)]) (N := nPutR) (sc := defScope sPutR) (by decide +kernel)) (fun _ _ _ _ _ => pg_name (i := 13) sc_putr.nd rfl (Or.inl rfl)) (fun _ _ _ _ _ => pts_nil)
          (fun _ _ _ _ _ => pe_ix (r := rIxT K) ix_tup (pv 4) (pe_op op_add (pe_op op_mul (pv 13) (pv 1)) (pv 13)) (fun _ _ => rfl))) pa_nil)))
      (pss_cons (ps_set (i := 12) sc_putr.nd rfl (.inl rfl) (pe_callTy call_tuple_of (by rfl) Z.tuple (by decide +kernel) (pa_cons (pe_lc (own := [("_law_k", 13), ("_law_j", 14)]) (g := gTup K 2 (gCons (gName 13) (gCons (gName 14) gNil))) (tt := tYes) (by rfl) sc_putr.nd (pi_list (pv 9))
          (blkOk_by (own := [("_law_k", 13), ("_law_j", 14)]) (N := nPutR) (sc := defScope sPutR) (by decide +kernel)) (fun _ _ _ _ _ => pg_tup rfl (pgs_cons (pg_name (i := 13) sc_putr.nd rfl (Or.inl rfl)) (pgs_cons (pg_name (i := 14) sc_putr.nd rfl (Or.inl rfl)) pgs_nil))) (fun _ _ _ _ _ => pts_nil)
          (fun _ _ _ _ _ => pe_ix (r := rIxT K) ix_tup (pv 7) (pv 13) (fun _ _ => rfl))) pa_nil)))
      (pss_one (ps_ret (pe_and (pe_cmpR (op_inD hu) (pv 10) (pv 3) (by rfl)) (pe_and (pe_cmpR (op_inD hu) (pv 11) (pv 2) (by rfl)) (pe_one (pe_cmpR (op_inD hu) (pv 12) (pv 3) (by rfl)))))))))))))), ?_⟩
    -- three of the one lot
    refine ⟨3, rfl, by decide, by decide, fun D1 nD1 => ?_⟩
    have nD1w := hw.ne nD1
    refine lc_range (fun i H' => (∃ (as : List Addr) (rs : List (List Int)), H' D1 = some (.lst (as.map V.ref)) ∧ RowsAt H' as rs ∧ rs.length = i ∧ ∀ r ∈ rs, r ∈ T) ∧ One wl H H' ∧ WellAt H' wl) ⟨⟨[], [], upd_same, .nil, rfl, fun r h => by cases h⟩, One.of (same_new nD1), hw.same (same_new nD1)⟩ (fun i H' hi h => ?_) fun H1 h1 => ?_
    · obtain ⟨⟨as, rs, hD, has, hrl, hrm⟩, o, hw'⟩ := h
      have hi' : i < 3 := hi
      obtain ⟨ts, ht, htl⟩ := lrows_len (o.lrows hw nlt hT)
      refine ⟨rfl, _, rfl, _, rfl, _, rfl, lt, _, rfl, .inl (SqL.of ht), wl, _, rfl, hw', by omega, by omega, fun c H2 c0 c1 o2 hw2 => ?_⟩
      rw [htl] at c1
      obtain ⟨ts2, a, r, ht2, hat, hr', ha⟩ := lrows_at ((o.trans o2).lrows hw nlt hT) c0 c1
      have hD2 := o2 _ _ hD nD1w
      refine ⟨lt, _, c, .ref a, rfl, rfl, SqL.of ht2, hat, _, hD2, ?_, ⟨as ++ [a], rs ++ [r], by rw [upd_same, List.map_append]; rfl, lrows_push hD2 (RowsAt.keep (fun b x hb => o2.row hw' hb) has) ha, by rw [List.length_append, hrl]; rfl, fun x hx => ?_⟩, One.put nD1 (o.trans o2), hw2.put nD1w⟩
      · rw [List.length_map, has.len, hrl]
        exact small1000 (by omega)
      · rcases List.mem_append.mp hx with hx | hx
        · exact hrm x hx
        · rw [List.mem_singleton.mp hx]
          exact hr'
    obtain ⟨⟨as, rs, hD, has, hrl, hrm⟩, oA, hwA⟩ := h1
    obtain ⟨r1, r2, r3, rfl⟩ := three_of hrl
    obtain ⟨a1, a2, a3, rfl, ha1, ha2, ha3⟩ := lrows3 has
    have m1 := hrm r1 (by simp)
    have m2 := hrm r2 (by simp)
    have m3 := hrm r3 (by simp)
    refine ⟨D1, _, rfl, SqL.of hD, rfl, _, _, rfl, _, _, rfl, _, _, rfl, rfl, ?_⟩
    -- two of the other
    refine ⟨2, rfl, by decide, by decide, fun D2 nD2 => ?_⟩
    have nD2w := hwA.ne nD2
    refine lc_range (fun i H' => (∃ (as : List Addr) (rs : List (List Int)), H' D2 = some (.lst (as.map V.ref)) ∧ RowsAt H' as rs ∧ rs.length = i ∧ ∀ r ∈ rs, r ∈ O) ∧ One wl H1 H' ∧ WellAt H' wl) ⟨⟨[], [], upd_same, .nil, rfl, fun r h => by cases h⟩, One.of (same_new nD2), hwA.same (same_new nD2)⟩ (fun i H' hi h => ?_) fun H2 h2 => ?_
    · obtain ⟨⟨as, rs, hD, has, hrl, hrm⟩, o, hw'⟩ := h
      have hi' : i < 2 := hi
      obtain ⟨ts, ht, htl⟩ := lrows_len ((oA.trans o).lrows hw nlo hO)
      refine ⟨rfl, _, rfl, _, rfl, _, rfl, lo, _, rfl, .inl (SqL.of ht), wl, _, rfl, hw', by omega, by omega, fun c H2 c0 c1 o2 hw2 => ?_⟩
      rw [htl] at c1
      obtain ⟨ts2, a, r, ht2, hat, hr', ha⟩ := lrows_at ((oA.trans (o.trans o2)).lrows hw nlo hO) c0 c1
      have hD2 := o2 _ _ hD nD2w
      refine ⟨lo, _, c, .ref a, rfl, rfl, SqL.of ht2, hat, _, hD2, ?_, ⟨as ++ [a], rs ++ [r], by rw [upd_same, List.map_append]; rfl, lrows_push hD2 (RowsAt.keep (fun b x hb => o2.row hw' hb) has) ha, by rw [List.length_append, hrl]; rfl, fun x hx => ?_⟩, One.put nD2 (o.trans o2), hw2.put nD2w⟩
      · rw [List.length_map, has.len, hrl]
        exact small1000 (by omega)
      · rcases List.mem_append.mp hx with hx | hx
        · exact hrm x hx
        · rw [List.mem_singleton.mp hx]
          exact hr'
    obtain ⟨⟨as, rs, hDb, has, hrl, hrm⟩, oB, hwB⟩ := h2
    obtain ⟨p1, p2, rfl⟩ := two_of hrl
    obtain ⟨b1, b2, rfl, hb1, hb2⟩ := rows2 has
    have k1 := hrm p1 (by simp)
    have k2 := hrm p2 (by simp)
    refine ⟨D2, _, rfl, SqL.of hDb, rfl, _, _, rfl, _, _, rfl, rfl, ?_⟩
    -- from here on all stands
    have oAB := oA.trans oB
    have hO2 := oAB.lrows hw nlo hO
    have hT2 := oAB.lrows hw nlt hT
    have ha1 := oB.row hwA ha1
    have ha2 := oB.row hwA ha2
    have ha3 := oB.row hwA ha3
    have R1 := C.t r1 m1
    have R2 := C.t r2 m2
    have R3 := C.t r3 m3
    have P1 := C.o p1 k1
    have P2 := C.o p2 k2
    have hnn : n * n ≤ 1000 := Nat.le_trans (Nat.mul_le_mul hn9 hn9) (by decide)
    have hn1000 : n ≤ 1000 := by omega
    have fin : ∀ H', Same H2 H' → Q (.bl true) H' := fun H' s' => q H' (oAB.trans (One.of s')) (hwB.same s')
    -- first of second, third
    refine ⟨_, rfl, _, rfl, _, rfl, (by show 2 ≤ sizeLine; decide), fun l1 nl1 => ⟨_, rfl, ?_⟩⟩
    have s1 := same_new (o := .lst [.ref a2, .ref a3]) nl1
    refine ⟨a1, _, r1, r2, [r3], n, _, rfl, s1 _ _ ha1, ⟨[a2, a3], upd_same, .cons (s1 _ _ ha2) (.cons (s1 _ _ ha3) .nil)⟩, hn9, hnn, rows_two R2 R3, tab_two R1, fun c1 H3 s2 hc1 => ?_⟩
    rw [putR2 R2.1 R3.1] at hc1
    have s3 := s1.trans s2
    refine ⟨_, rfl, rowD _, _, dp_row hc1, dp_lrows (hT2.same s3), row_shaped _, rows_shaped _, ?_⟩
    rw [any_true (C.ttt _ m1 _ m2 _ m3)]
    refine ⟨_, rfl, iteF ?_⟩
    -- one of first
    refine ⟨_, rfl, _, rfl, (by show 1 ≤ sizeLine; decide), fun l2 nl2 => ⟨_, rfl, ?_⟩⟩
    have s4 := s3.trans (same_new (o := .lst [.ref a1]) nl2)
    refine ⟨b1, _, p1, r1, [], n, _, rfl, s4 _ _ hb1, ⟨[a1], upd_same, .cons (s4 _ _ ha1) .nil⟩, hn9, hnn, rows_one R1, tab_one P1, fun c2 H4 s5 hc2 => ?_⟩
    rw [putR1 R1.1] at hc2
    have s6 := s4.trans s5
    refine ⟨_, rfl, rowD _, _, dp_row hc2, dp_lrows (hT2.same s6), row_shaped _, rows_shaped _, ?_⟩
    rw [any_true (C.ot _ k1 _ m1)]
    refine ⟨_, rfl, iteF ?_⟩
    -- one of other
    refine ⟨_, rfl, _, rfl, (by show 1 ≤ sizeLine; decide), fun l3 nl3 => ⟨_, rfl, ?_⟩⟩
    have s7 := s6.trans (same_new (o := .lst [.ref b2]) nl3)
    refine ⟨b1, _, p1, p2, [], n, _, rfl, s7 _ _ hb1, ⟨[b2], upd_same, .cons (s7 _ _ hb2) .nil⟩, hn9, hn1000, rows_one P2, tab_one P1, fun c3 H5 s8 hc3 => ?_⟩
    rw [putR1 P2.1] at hc3
    have s9 := s7.trans s8
    refine ⟨_, rfl, rowD _, _, dp_row hc3, dp_lrows (hO2.same s9), row_shaped _, rows_shaped _, ?_⟩
    rw [any_true (C.oo _ k1 _ k2)]
    refine ⟨_, rfl, iteF ?_⟩
    -- first of one, other
    refine ⟨_, rfl, _, rfl, _, rfl, (by show 2 ≤ sizeLine; decide), fun l4 nl4 => ⟨_, rfl, ?_⟩⟩
    have s10 := s9.trans (same_new (o := .lst [.ref b1, .ref b2]) nl4)
    refine ⟨a1, _, r1, p1, [p2], n, _, rfl, s10 _ _ ha1, ⟨[b1, b2], upd_same, .cons (s10 _ _ hb1) (.cons (s10 _ _ hb2) .nil)⟩, hn9, hn1000, rows_two P1 P2, tab_two R1, fun c4 H6 s11 hc4 => ?_⟩
    rw [putR2 P1.1 P2.1] at hc4
    have s12 := s10.trans s11
    refine ⟨_, rfl, rowD _, _, dp_row hc4, dp_lrows (hO2.same s12), row_shaped _, rows_shaped _, ?_⟩
    rw [any_true (C.too _ m1 _ k1 _ k2)]
    refine ⟨_, rfl, iteF ?_⟩
    -- all pairs
    refine ⟨_, rfl, n, 2, rfl, hn9, by decide, fun ls H7 s13 _ hls => ?_⟩
    have s14 := s12.trans s13
    obtain ⟨ps, hps, hpr⟩ := hls
    have hpl : (ps.map V.ref).length = n * n := by rw [List.length_map, hpr.len, allR_len, Nat.pow_two]
    -- about
    refine ⟨_, rfl, ls, rfl, ⟨_, SqL.of hps⟩, fun D3 nD3 => ?_⟩
    refine lc_list (K := K) (a := ls) (xs := ps.map V.ref) (fun i H' => H' D3 = some (.lst (((ap2 n r1 (argB n) (argA n)).take i).map V.int)) ∧ Same H7 H') ⟨upd_same, same_new nD3⟩ (fun i H' _ h => SqL.of (h.2 _ _ hps)) (fun i y H' hy h => ?_) fun H8 h8 => ?_
    · obtain ⟨hD3, s'⟩ := h
      obtain ⟨a, ea, rfl⟩ := get_refs hy
      obtain ⟨x, ex, hx⟩ := hpr.get ea
      have hi : i < n * n := by have := (List.getElem?_eq_some_iff.mp hy).1; omega
      rw [allR2_get hi] at ex
      cases ex
      have q1 := div_mod_in hn hi
      have sp := spot_in q1.2 q1.1
      refine ⟨a, _, rfl, SqT.of (s' _ _ hx), rfl, _, _, rfl, _, _, rfl, rfl, rfl, _, rfl, _, rfl, _, rfl, _, _, rfl, rfl, .inr (by omega), _, rfl, _, _, rfl, rfl, a1, _, _, _, rfl, rfl, SqT.of (s' _ _ (s14 _ _ ha1)), at_cell sp.1 (by rw [R1.1, Int.natCast_mul]; exact sp.2), _, hD3, ?_, ?_, same_put nD3 s'⟩
      · rw [List.length_map, List.length_take]
        exact small1000 (by omega)
      · rw [upd_same, take_more (about_get hi), List.map_append]
        rfl
    obtain ⟨hD3, s15⟩ := h8
    refine ⟨D3, _, rfl, .inl ⟨SqL.of hD3, fun c5 nc5 => ?_⟩⟩
    have hc5 : RowAt (upd H8 c5 (.tup (((ap2 n r1 (argB n) (argA n)).take (ps.map V.ref).length).map V.int))) c5 (ap2 n r1 (argB n) (argA n)) := by
      show upd H8 c5 _ c5 = _
      rw [upd_same, hpl, List.take_of_length_le (by rw [ap2_len (argB_row n).1 (argA_row n).1]; exact Nat.le_refl _)]
    have s16 := s15.trans (same_new (o := .tup (((ap2 n r1 (argB n) (argA n)).take (ps.map V.ref).length).map V.int)) nc5)
    generalize upd H8 c5 (.tup (((ap2 n r1 (argB n) (argA n)).take (ps.map V.ref).length).map V.int)) = H9 at hc5 s16
    -- alike
    refine ⟨_, rfl, _, rfl, by omega, by omega, fun D4 nD4 => ?_⟩
    refine lc_range (fun i H' => H' D4 = some (.lst (((ap2 n r1 (arg1 n) (arg1 n)).take i).map V.int)) ∧ Same H9 H') ⟨upd_same, same_new nD4⟩ (fun i H' hi h => ?_) fun H10 h10 => ?_
    · obtain ⟨hD4, s'⟩ := h
      have hi' : i < n := by rw [Int.toNat_natCast] at hi; exact hi
      have sp := spot_in (n := (n : Int)) (a := 0 + (i : Nat)) (b := 0 + (i : Nat)) (by omega) (by omega)
      refine ⟨rfl, _, rfl, _, rfl, _, rfl, _, _, rfl, rfl, .inr (by omega), _, rfl, _, _, rfl, rfl, a1, _, _, _, rfl, rfl, SqT.of (s' _ _ (s16 _ _ (s14 _ _ ha1))), at_cell sp.1 (by rw [R1.1, Int.natCast_mul]; exact sp.2), _, hD4, ?_, ?_, same_put nD4 s'⟩
      · rw [List.length_map, List.length_take]
        exact small1000 (by omega)
      · rw [upd_same, take_more (alike_get hi'), List.map_append, Int.zero_add]
        rfl
    obtain ⟨hD4, s17⟩ := h10
    rw [Int.toNat_natCast, List.take_of_length_le (by rw [ap2_len (arg1_row n).1 (arg1_row n).1]; exact Nat.le_refl _)] at hD4
    refine ⟨D4, _, rfl, .inl ⟨SqL.of hD4, fun c6 nc6 => ?_⟩⟩
    have hc6 : RowAt (upd H10 c6 (.tup ((ap2 n r1 (arg1 n) (arg1 n)).map V.int))) c6 (ap2 n r1 (arg1 n) (arg1 n)) := upd_same
    have s18 := s17.trans (same_new (o := .tup ((ap2 n r1 (arg1 n) (arg1 n)).map V.int)) nc6)
    generalize upd H10 c6 (.tup ((ap2 n r1 (arg1 n) (arg1 n)).map V.int)) = H11 at hc6 s18
    have s19 := s16.trans s18
    -- wider
    refine ⟨_, rfl, ls, rfl, ⟨_, SqL.of (s19 _ _ hps)⟩, fun D5 nD5 => ?_⟩
    refine lc_list (K := K) (a := ls) (xs := ps.map V.ref) (fun i H' => H' D5 = some (.lst (((ap1 p1 (argA n)).take i).map V.int)) ∧ Same H11 H') ⟨upd_same, same_new nD5⟩ (fun i H' _ h => SqL.of (h.2 _ _ (s19 _ _ hps))) (fun i y H' hy h => ?_) fun H12 h12 => ?_
    · obtain ⟨hD5, s'⟩ := h
      obtain ⟨a, ea, rfl⟩ := get_refs hy
      obtain ⟨x, ex, hx⟩ := hpr.get ea
      have hi : i < n * n := by have := (List.getElem?_eq_some_iff.mp hy).1; omega
      rw [allR2_get hi] at ex
      cases ex
      have q1 := (div_mod_in hn hi).1
      refine ⟨a, _, rfl, SqT.of (s' _ _ (s19 _ _ hx)), rfl, _, _, rfl, _, _, rfl, rfl, rfl, _, rfl, _, rfl, b1, _, _, _, rfl, rfl, SqT.of (s' _ _ (s19 _ _ (s14 _ _ hb1))), at_cell q1.1 (by rw [P1.1]; exact q1.2), _, hD5, ?_, ?_, same_put nD5 s'⟩
      · rw [List.length_map, List.length_take]
        exact small1000 (by omega)
      · rw [upd_same, take_more (wider_get hi), List.map_append]
        rfl
    obtain ⟨hD5, s20⟩ := h12
    refine ⟨D5, _, rfl, .inl ⟨SqL.of hD5, fun c7 nc7 => ?_⟩⟩
    have hc7 : RowAt (upd H12 c7 (.tup (((ap1 p1 (argA n)).take (ps.map V.ref).length).map V.int))) c7 (ap1 p1 (argA n)) := by
      show upd H12 c7 _ c7 = _
      rw [upd_same, hpl, List.take_of_length_le (by unfold ap1; rw [List.length_map, (argA_row n).1]; exact Nat.le_refl _)]
    have s21 := s20.trans (same_new (o := .tup (((ap1 p1 (argA n)).take (ps.map V.ref).length).map V.int)) nc7)
    generalize upd H12 c7 (.tup (((ap1 p1 (argA n)).take (ps.map V.ref).length).map V.int)) = H13 at hc7 s21
    have s22 := s14.trans (s19.trans s21)
    -- the answer
    refine ⟨_, rfl, _, rfl, rowD _, _, dp_row (s21 _ _ (s18 _ _ hc5)), dp_lrows (hT2.same s22), row_shaped _, rows_shaped _, ?_⟩
    rw [any_true (C.about _ m1)]
    refine ⟨_, rfl, iteT ⟨_, rfl, _, rfl, rowD _, _, dp_row (s21 _ _ hc6), dp_lrows (hO2.same s22), row_shaped _, rows_shaped _, ?_⟩⟩
    rw [any_true (C.alike _ m1)]
    refine ⟨_, rfl, iteT ⟨_, rfl, _, rfl, rowD _, _, dp_row hc7, dp_lrows (hT2.same s22), row_shaped _, rows_shaped _, ?_⟩⟩
    rw [any_true (C.wider _ k1)]
    exact fin _ s22
end
end K26

set_option Elab.async false
set_option linter.all false
set_option maxRecDepth 100000
set_option maxHeartbeats 4000000
/-! # _law_lesser_right -/
namespace K26
open PySem PySem.Spec PyProof.Rows L2
abbrev sLess : Stmt := top 46
theorem madeD1 {n : Nat} {ds : List Dd} {r : List Int} : MadeD n ds 1 r ↔ Made n (deedsOf ds) (args1 n) n r := by
  unfold MadeD
  rw [Nat.pow_one]
  exact Iff.rfl
theorem madeD2 {n : Nat} {ds : List Dd} {r : List Int} : MadeD n ds 2 r ↔ Made n (deedsOf ds) (args2 n) (n * n) r := by
  unfold MadeD
  rw [Nat.pow_two]
  exact Iff.rfl
theorem less_made {n p : Nat} {ds : List Dd} {one two : List Int} (hp : p = 1 ∨ p = 2) (hD : ∀ d ∈ ds, Row n (n ^ d.p) d.t) (h1 : MadeD n ds 1 one) (h2 : MadeD n ds 2 two) {r : List Int} (m : Made n [(1, one), (2, two)] (argsOf n p) (n ^ p) r) : MadeD n ds p r :=
  lesser (valid_of hD) (argsOf_rows n p hp) (madeD1.mp h1) (madeD2.mp h2) m
theorem more_made {n p : Nat} {ds : List Dd} {one two : List Int} (hp : p = 1 ∨ p = 2) (hD : ∀ d ∈ ds, Row n (n ^ d.p) d.t) (h1 : MadeD n ds 1 one) (h2 : MadeD n ds 2 two) (r : List Int) : Made n (deedsOf ds ++ [(1, one), (2, two)]) (argsOf n p) (n ^ p) r ↔ MadeD n ds p r :=
  wider (valid_of hD) (argsOf_rows n p hp) (madeD1.mp h1) (madeD2.mp h2) r
theorem madeD_row {n p : Nat} {ds : List Dd} (hp : p = 1 ∨ p = 2) (hD : ∀ d ∈ ds, Row n (n ^ d.p) d.t) {r : List Int} (m : MadeD n ds p r) : Row n (n ^ p) r := made_row (by omega) (valid_of hD) (argsOf_rows n p hp) m
theorem mk_same {C x dx : Addr} {H : Hp} (nx : H x = none) (ndx : H dx = none) : Same H (upd (upd H dx (.own x)) x (.ins C dx [])) := fun b o e => by
  rw [upd_ne (ne_of_none e nx), upd_ne (ne_of_none e ndx)]
  exact e
theorem mk_keep {C x dx : Addr} {H H' : Hp} (nx : H x = none) (ndx : H dx = none) (s : ∀ b o, (upd (upd H dx (.own x)) x (.ins C dx [])) b = some o → b ≠ x → H' b = some o) : Same H H' := fun b o e => s b o (mk_same nx ndx b o e) (ne_of_none e nx)
/-- the deed of a name, a number of places, a made table -/
def dOf (a : Addr) (z : Str) (p : Nat) (ta : Addr) (t : List Int) : Dd := ⟨a, z, p, ta, t⟩
theorem one_ok : NameOk "madeone" := ⟨by decide +kernel, by decide +kernel⟩
theorem two_ok : NameOk "madetwo" := ⟨by decide +kernel, by decide +kernel⟩
theorem one_two : ¬ (("madeone" : Str) = "madetwo") := by decide +kernel
/-- a drawn house, and what it makes -/
structure Drawn (CH : Addr) (H : Hp) (wl h lo lt : Addr) (n : Nat) (ds : List Dd) (O T : List (List Int)) : Prop where
  house : HouseAt CH H h n ds
  well : WellAt H wl
  n1 : 1 ≤ n
  n3 : n ≤ 3
  ok : ∀ d ∈ ds, DdOk n d
  p2 : ∀ d ∈ ds, d.p ≤ 2
  len : ds.length ≤ 3
  nd : (ds.map (·.nm)).Nodup
  nm : ∀ d ∈ ds, d.nm ≠ "madeone" ∧ d.nm ≠ "madetwo"
  o : LRows H lo O
  t : LRows H lt T
  nlo : lo ≠ wl
  nlt : lt ≠ wl
  ol : O.length ≤ 16
  tl : T.length ≤ 16
  o0 : 0 < O.length
  t0 : 0 < T.length
  os : Sprd (MadeD n ds 1) O
  ts : Sprd (MadeD n ds 2) T
theorem Drawn.one {CH : Addr} {H H' : Hp} {wl h lo lt : Addr} {n : Nat} {ds : List Dd} {O T : List (List Int)} (o : One wl H H') (w : WellAt H' wl) (x : Drawn CH H wl h lo lt n ds O T) : Drawn CH H' wl h lo lt n ds O T :=
  { x with house := o.house x.well x.house, well := w, o := o.lrows x.well x.nlo x.o, t := o.lrows x.well x.nlt x.t }
theorem Drawn.tabs {CH : Addr} {H : Hp} {wl h lo lt : Addr} {n : Nat} {ds : List Dd} {O T : List (List Int)} (x : Drawn CH H wl h lo lt n ds O T) : ∀ d ∈ ds, Row n (n ^ d.p) d.t := fun d hd => (x.ok d hd).2.2
theorem Drawn.orow {CH : Addr} {H : Hp} {wl h lo lt : Addr} {n : Nat} {ds : List Dd} {O T : List (List Int)} (x : Drawn CH H wl h lo lt n ds O T) {r : List Int} (m : r ∈ O) : Row n (n ^ 1) r := madeD_row (.inl rfl) x.tabs ((x.os.mem r).mp m)
theorem Drawn.trow {CH : Addr} {H : Hp} {wl h lo lt : Addr} {n : Nat} {ds : List Dd} {O T : List (List Int)} (x : Drawn CH H wl h lo lt n ds O T) {r : List Int} (m : r ∈ T) : Row n (n ^ 2) r := madeD_row (.inr rfl) x.tabs ((x.ts.mem r).mp m)
def spLess (CH : Addr) : Sp := fun vs H Q _ => ∃ (wl h lo lt : Addr) (n : Nat) (ds : List Dd) (O T : List (List Int)), vs = [.ref wl, .ref h, .ref lo, .ref lt] ∧ Drawn CH H wl h lo lt n ds O T ∧ ∀ H', One wl H H' → WellAt H' wl → Q (.bl true) H'
abbrev nLess : List Str := ["_law_well", "_law_house", "_law_ones", "_law_twos", "_law_size", "_law_deeds", "_law_lesser", "_law_wider", "_law_table_here"]
section
variable {P : Program} {w : World} {K : PySem.W.Frag} {mg : Str → Option Value} {base : Heap}
theorem sc_less : FnScope nLess ["_law_well", "_law_house", "_law_ones", "_law_twos"] (defScope sLess) := ⟨rfl, rfl, rfl, by decide +kernel, rfl, by decide +kernel, by decide +kernel⟩
theorem c_less (Z : Zs mg) {CH : Addr} (TH : HTxt K CH) (D : DefAt K mg "_law_lesser_right" sLess ["_law_well", "_law_house", "_law_ones", "_law_twos"]) (cD : Cal P w K mg base CX0 1 "_law_draw" spDraw) (cTh : Met P w K mg base CX0 1 CH "things" (spThings CH)) (cDs : Met P w K mg base CX0 1 CH "deeds" (spDeeds CH))
    (cH : Mak P w K mg base CX0 5 "House" CH (spHInit CH)) (cM : Cal P w K mg base CX0 10 "_law_made" (spLMade CH)) : Cal P w K mg base CX0 11 "_law_lesser_right" (spLess CH) := by
  refine cal_of D sc_less (fun vs H Q E h => ?_) (fun f cdv A outer s H vs Q E hr h => ?_)
  · obtain ⟨wl, h, lo, lt, n, ds, O, T, rfl, _⟩ := h
    rfl
  · obtain ⟨wl, h, lo, lt, n, ds, O, T, rfl, X, q⟩ := h
    have hu : (A.deeper (envOfC "_law_lesser_right" (defScope sLess) s.heap.objs.size f cdv)).units + 65 < cLine := by have := hr.un; omega
    refine ⟨_, pss_cons (ps_set (i := 4) sc_less.nd rfl (.inl rfl) (pe_ml0 cTh TH.cl hr (by decide) pass0 (pv 1)))
      (pss_cons (ps_set (i := 5) sc_less.nd rfl (.inl rfl) (pe_lst (pa_cons (pe_tup (pa_cons pe_str (pa_cons pe_int (pa_cons (pe_ix ix_list (pv 2) (pe_cl cD hr (by decide) pass0 (by rfl) (pa_cons (pv 0) (pa_cons (pe_callB call_len_seq (by rfl) Z.len PySem.boot_len (pa_cons (pv 2) pa_nil)) pa_nil))) (fun _ _ => rfl)) pa_nil))))
        (pa_cons (pe_tup (pa_cons pe_str (pa_cons pe_int (pa_cons (pe_ix ix_list (pv 3) (pe_cl cD hr (by decide) pass0 (by rfl) (pa_cons (pv 0) (pa_cons (pe_callB call_len_seq (by rfl) Z.len PySem.boot_len (pa_cons (pv 3) pa_nil)) pa_nil))) (fun _ _ => rfl)) pa_nil)))) pa_nil))))
      (pss_cons (ps_set (i := 6) sc_less.nd rfl (.inl rfl) (pe_cl cM hr (by decide) pass0 (by rfl) (pa_cons (pe_mkl cH hr (by decide) pass0 (by rfl) (pa_cons (pv 4) (pa_cons (pv 5) pa_nil))) (pa_cons pe_int (pa_cons pe_int pa_nil)))))
      (pss_cons (ps_if (PW.pt (pw_or (pt_cmpR op_isN (pv 6) pe_non (nomark _)) (pw_or1 (pt_cmpR (op_neD hr.units) (pe_lc (own := [("_law_table_here", 8)]) (g := gName 8) (tt := tTest (tOp (rNotInD K) (tVar 8) (tVar 3))) (by rfl) sc_less.nd (pi_list (pv 6))
          (blkOk_by (own := [("_law_table_here", 8)]) (N := nLess) (sc := defScope sLess) (by decide +kernel)) (fun _ _ _ _ _ => pg_name (i := 8) sc_less.nd rfl (Or.inl rfl)) (fun _ _ _ _ _ => pts_one (pt_cmpR (op_notInD hu) (pv 8) (pv 3) (by rfl))) (fun _ _ _ _ _ => pv 8)) (pe_lst pa_nil) (nomark _))))) (pss_one (ps_ret pe_bl)) pss_nil)
      (pss_cons (ps_set (i := 7) sc_less.nd rfl (.inl rfl) (pe_mkl cH hr (by decide) pass0 (by rfl) (pa_cons (pv 4) (pa_cons (pe_op op_cat (pe_ml0 cDs TH.cl hr (by decide) pass0 (pv 1)) (pv 5)) pa_nil))))
      (pss_one (ps_ret (pe_and (pe_cmpR (op_eqD hr.units) (pe_cl cM hr (by decide) pass0 (by rfl) (pa_cons (pv 7) (pa_cons pe_int (pa_cons pe_int pa_nil)))) (pv 3) (nomark _))
        (pe_one (pe_cmpR (op_eqD hr.units) (pe_cl cM hr (by decide) pass0 (by rfl) (pa_cons (pv 7) (pa_cons pe_int (pa_cons pe_int pa_nil)))) (pv 2) (nomark _)))))))))), ?_⟩
    obtain ⟨dh, hd2, k1, k2, k3⟩ := id X.house
    refine ⟨_, rfl, h, dh, _, rfl, k1, hfs_no _ _ (by decide +kernel) (by decide +kernel), h, n, ds, rfl, X.house, ?_⟩
    -- two made deeds
    obtain ⟨os, hos, hosl⟩ := lrows_len X.o
    have ol := X.ol
    have o0 := X.o0
    have tl := X.tl
    have t0 := X.t0
    refine ⟨_, rfl, _, rfl, _, rfl, lo, _, rfl, .inl (SqL.of hos), wl, _, rfl, X.well, by omega, by omega, fun c1 H1 c10 c11 o1 hw1 => ?_⟩
    rw [hosl] at c11
    have X1 := X.one o1 hw1
    obtain ⟨os1, a1, r1, ho1, hat1, hr1, ha1⟩ := lrows_at X1.o c10 c11
    refine ⟨lo, _, c1, .ref a1, rfl, rfl, SqL.of ho1, hat1, (by show 3 ≤ sizeLine; decide), fun t1 nt1 => ?_⟩
    have st1 := same_new (o := .tup [.str "madeone", .int 1, .ref a1]) nt1
    have X2 := X1.one (One.of st1) (hw1.same st1)
    have ha1' := st1 _ _ ha1
    have ht1 : upd H1 t1 (.tup [.str "madeone", .int 1, .ref a1]) t1 = some (.tup [.str "madeone", .int 1, .ref a1]) := upd_same
    generalize upd H1 t1 (.tup [.str "madeone", .int 1, .ref a1]) = H2 at st1 X2 ha1' ht1
    obtain ⟨ts, hts, htsl⟩ := lrows_len X2.t
    refine ⟨_, rfl, _, rfl, _, rfl, lt, _, rfl, .inl (SqL.of hts), wl, _, rfl, X2.well, by omega, by omega, fun c2 H3 c20 c21 o3 hw3 => ?_⟩
    rw [htsl] at c21
    have X3 := X2.one o3 hw3
    obtain ⟨ts3, a2, r2, ht3, hat2, hr2, ha2⟩ := lrows_at X3.t c20 c21
    have ha1'' := o3.row X2.well ha1'
    have ht1' := o3.tup X2.well ht1 (fun _ => by intro z; cases z)
    refine ⟨lt, _, c2, .ref a2, rfl, rfl, SqL.of ht3, hat2, (by show 3 ≤ sizeLine; decide), fun t2 nt2 => ?_⟩
    have st2 := same_new (o := .tup [.str "madetwo", .int 2, .ref a2]) nt2
    refine ⟨(by show 2 ≤ sizeLine; decide), fun dl ndl => ?_⟩
    have st3 := st2.trans (same_new (o := .lst [.ref t1, .ref t2]) ndl)
    have oA : One wl H _ := o1.trans ((One.of st1).trans (o3.trans (One.of st3)))
    have X4 := X3.one (One.of st3) (hw3.same st3)
    have da1 := st3 _ _ ht1'
    have da2 : (upd (upd H3 t2 (.tup [.str "madetwo", .int 2, .ref a2])) dl (.lst [.ref t1, .ref t2])) t2 = some (.tup [.str "madetwo", .int 2, .ref a2]) := by
      rw [upd_ne (ne_of_none upd_same ndl), upd_same]
    have ra1 := st3 _ _ ha1''
    have ra2 := st3 _ _ ha2
    have hdl : (upd (upd H3 t2 (.tup [.str "madetwo", .int 2, .ref a2])) dl (.lst [.ref t1, .ref t2])) dl = some (.lst [.ref t1, .ref t2]) := upd_same
    generalize upd (upd H3 t2 (.tup [.str "madetwo", .int 2, .ref a2])) dl (.lst [.ref t1, .ref t2]) = H4 at oA X4 da1 da2 ra1 ra2 hdl
    have m1 : MadeD n ds 1 r1 := (X.os.mem r1).mp hr1
    have m2 : MadeD n ds 2 r2 := (X.ts.mem r2).mp hr2
    have R1 := X.orow hr1
    have R2 := X.trow hr2
    have n1 := X.n1
    have n3 := X.n3
    have xl := X.len
    have ok2 : ∀ d ∈ [dOf t1 "madeone" 1 a1 r1, dOf t2 "madetwo" 2 a2 r2], DdAt H4 d ∧ DdOk n d := fun d hd => by
      rcases List.mem_cons.mp hd with e | hd
      · rw [e]; exact ⟨⟨da1, ra1⟩, one_ok, (by show 1 ≤ 3; decide), R1⟩
      · rw [List.mem_singleton.mp hd]; exact ⟨⟨da2, ra2⟩, two_ok, (by show 2 ≤ 3; decide), R2⟩
    have ps2 : ∀ d ∈ [dOf t1 "madeone" 1 a1 r1, dOf t2 "madetwo" 2 a2 r2], d.p ≤ 2 := fun d hd => by
      rcases List.mem_cons.mp hd with e | hd
      · rw [e]; show 1 ≤ 2; decide
      · rw [List.mem_singleton.mp hd]; exact Nat.le_refl 2
    have nd2 : ([dOf t1 "madeone" 1 a1 r1, dOf t2 "madetwo" 2 a2 r2].map (·.nm)).Nodup := by
      show ([("madeone" : Str), ("madetwo" : Str)] : List Str).Nodup
      refine List.nodup_cons.mpr ⟨fun hm => one_two (List.mem_singleton.mp hm), List.nodup_cons.mpr ⟨List.not_mem_nil, List.nodup_nil⟩⟩
    -- the lesser house
    refine ⟨_, rfl, _, rfl, fun x dx nx ndx nxd => ⟨x, dx, dl, n, [dOf t1 "madeone" 1 a1 r1, dOf t2 "madetwo" 2 a2 r2], rfl, upd_same, ⟨n1, by omega⟩, mk_same nx ndx _ _ hdl, fun d hd => ⟨(ok2 d hd).1.same (mk_same nx ndx), (ok2 d hd).2⟩, (by show 2 ≤ 6; decide), nd2, fun H5 s5' hx => ⟨rfl, ?_⟩⟩⟩
    have s5 := mk_keep nx ndx s5'
    have hless : ∀ r, MadeD n [dOf t1 "madeone" 1 a1 r1, dOf t2 "madetwo" 2 a2 r2] 2 r → r ∈ T := fun r m => (X.ts.mem r).mpr (less_made (.inr rfl) X.tabs m1 m2 m)
    refine ⟨x, n, _, 2, 16, rfl, hx, ⟨n1, by omega⟩, fun d hd => (ok2 d hd).2.2.2, ps2, .inr rfl, by decide, fun big => absurd big (not_big X.tl hless), fun l L H6 s6 nl hl hll hS => ?_⟩
    have s46 := s5.trans s6
    have X6 := X4.one (One.of s46) (X4.well.same s46)
    -- all of it is known
    refine ⟨_, rfl, rfl, _, rfl, ?_⟩
    refine iteF ?_
    obtain ⟨ls, hls, hlr⟩ := id hl
    refine ⟨_, rfl, l, rfl, ⟨_, SqL.of hls⟩, fun D1 nD1 => ?_⟩
    refine lc_list (K := K) (a := l) (xs := ls.map V.ref) (fun i H' => H' D1 = some (.lst []) ∧ Same H6 H') ⟨upd_same, same_new nD1⟩ (fun i H' _ h => SqL.of (h.2 _ _ hls)) (fun i y H' hy h => ?_) fun H7 h7 => ?_
    · obtain ⟨hD1, s'⟩ := h
      obtain ⟨a, ea, rfl⟩ := get_refs hy
      obtain ⟨r, er, ha⟩ := hlr.get ea
      refine ⟨rfl, _, rfl, _, rfl, rowD r, _, dp_row (s' _ _ ha), dp_lrows (X6.t.same s'), row_shaped _, rows_shaped _, ?_⟩
      rw [any_true (hless r ((hS.mem r).mp (List.mem_of_getElem? er)))]
      exact ⟨_, rfl, iteF ⟨hD1, s'⟩⟩
    obtain ⟨hD1, s7⟩ := h7
    refine ⟨Nat.zero_le _, fun e ne => ⟨.list [], .list [], .lst (SqL.of (same_new ne _ _ hD1)) .nil, .lst (SqL.of upd_same) .nil, rows_shaped [], rows_shaped [], ?_⟩⟩
    have e0 : PyData.eqv (.list []) (.list []) = true := (rows_eqv [] []).trans (by simp)
    rw [e0]
    refine ⟨_, rfl, iteF ?_⟩
    have s67 := s7.trans (same_new (o := .lst []) ne)
    have s47 := s46.trans s67
    generalize upd H7 e (.lst []) = H8 at s67 s47
    -- the wider house
    have X8 := X4.one (One.of s47) (X4.well.same s47)
    obtain ⟨dh8, hd8, j1, j2, j3⟩ := id X8.house
    refine ⟨_, rfl, _, rfl, h, dh8, _, rfl, j1, hfs_no _ _ (by decide +kernel) (by decide +kernel), h, n, ds, rfl, X8.house, fun pd H9 s9 npd hpd => ?_⟩
    have s49 := s47.trans s9
    refine ⟨_, rfl, pd, dl, _, _, rfl, rfl, hpd, s49 _ _ hdl, ?_, fun cl ncl => ?_⟩
    · unfold refsD
      rw [List.length_map, sizeLine_eq]
      show ds.length + 2 ≤ 16777216
      omega
    have ecl : refsD ds ++ [V.ref t1, V.ref t2] = refsD (ds ++ [dOf t1 "madeone" 1 a1 r1, dOf t2 "madetwo" 2 a2 r2]) := by
      unfold refsD
      rw [List.map_append]
      rfl
    have scl := same_new (o := .lst (refsD ds ++ [V.ref t1, V.ref t2])) ncl
    have s410 := s49.trans scl
    have hcl : (upd H9 cl (.lst (refsD ds ++ [V.ref t1, V.ref t2]))) cl = some (.lst (refsD (ds ++ [dOf t1 "madeone" 1 a1 r1, dOf t2 "madetwo" 2 a2 r2]))) := by rw [← ecl]; exact upd_same
    generalize upd H9 cl (.lst (refsD ds ++ [V.ref t1, V.ref t2])) = H10 at s410 hcl
    have X10 := X4.one (One.of s410) (X4.well.same s410)
    obtain ⟨dh10, hd10, i1, i2, i3⟩ := id X10.house
    have ok3 : ∀ d ∈ ds ++ [dOf t1 "madeone" 1 a1 r1, dOf t2 "madetwo" 2 a2 r2], DdAt H10 d ∧ DdOk n d := fun d hd => by
      rcases List.mem_append.mp hd with hd | hd
      · exact ⟨i3 d hd, X.ok d hd⟩
      · exact ⟨(ok2 d hd).1.same s410, (ok2 d hd).2⟩
    have ps3 : ∀ d ∈ ds ++ [dOf t1 "madeone" 1 a1 r1, dOf t2 "madetwo" 2 a2 r2], d.p ≤ 2 := fun d hd => by
      rcases List.mem_append.mp hd with hd | hd
      · exact X.p2 d hd
      · exact ps2 d hd
    have nd3 : ((ds ++ [dOf t1 "madeone" 1 a1 r1, dOf t2 "madetwo" 2 a2 r2]).map (·.nm)).Nodup := by
      rw [List.map_append]
      refine List.nodup_append.mpr ⟨X.nd, nd2, fun z hz u hu e => ?_⟩
      obtain ⟨d, hd, rfl⟩ := List.mem_map.mp hz
      have hu' : u = "madeone" ∨ u = "madetwo" := by
        rcases List.mem_cons.mp hu with hu | hu
        · exact .inl hu
        · exact .inr (List.mem_singleton.mp hu)
      rcases hu' with rfl | rfl
      · exact (X.nm d hd).1 e
      · exact (X.nm d hd).2 e
    refine fun y dy ny ndy nyd => ⟨y, dy, cl, n, ds ++ [dOf t1 "madeone" 1 a1 r1, dOf t2 "madetwo" 2 a2 r2], rfl, upd_same, ⟨n1, by omega⟩, mk_same ny ndy _ _ hcl, fun d hd => ⟨(ok3 d hd).1.same (mk_same ny ndy), (ok3 d hd).2⟩, (by rw [List.length_append]; show ds.length + 2 ≤ 6; omega), nd3, fun H11 s11' hy => ⟨rfl, ?_⟩⟩
    have s11 := s410.trans (mk_keep ny ndy s11')
    have edeeds : deedsOf (ds ++ [dOf t1 "madeone" 1 a1 r1, dOf t2 "madetwo" 2 a2 r2]) = deedsOf ds ++ [(1, r1), (2, r2)] := by
      unfold deedsOf
      rw [List.map_append]
      rfl
    have hmore : ∀ p, p = 1 ∨ p = 2 → ∀ r, MadeD n (ds ++ [dOf t1 "madeone" 1 a1 r1, dOf t2 "madetwo" 2 a2 r2]) p r ↔ MadeD n ds p r := fun p hp r => by
      show Made n (deedsOf (ds ++ [dOf t1 "madeone" 1 a1 r1, dOf t2 "madetwo" 2 a2 r2])) (argsOf n p) (n ^ p) r ↔ _
      rw [edeeds]
      exact more_made hp X.tabs m1 m2 r
    have X11 := X4.one (One.of s11) (X4.well.same s11)
    -- what it makes of two places
    refine ⟨_, rfl, y, n, _, 2, 16, rfl, hy, ⟨n1, by omega⟩, fun d hd => (ok3 d hd).2.2.2, ps3, .inr rfl, by decide, fun big => absurd big (not_big X.tl fun r m => (X.ts.mem r).mpr ((hmore 2 (.inr rfl) r).mp m)), fun l2 L2 H12 s12 nl2 hl2 hll2 hS2 => ?_⟩
    obtain rfl : T = L2 := sprd_unique (n := n) (wd := n ^ 2) (by omega) (fun r m => madeD_row (.inr rfl) X.tabs m) (fun r => (hmore 2 (.inr rfl) r).symm) X.ts hS2
    have X12 := X11.one (One.of s12) (X11.well.same s12)
    refine ⟨_, rfl, _, _, dp_lrows hl2, dp_lrows X12.t, rows_shaped _, rows_shaped _, ?_⟩
    rw [rows_eqv, decide_eq_true rfl]
    -- .. and of one
    refine ⟨_, rfl, iteT ⟨_, rfl, y, n, _, 1, 16, rfl, hy.same s12, ⟨n1, by omega⟩, fun d hd => (ok3 d hd).2.2.2, ps3, .inl rfl, by decide, fun big => absurd big (not_big X.ol fun r m => (X.os.mem r).mpr ((hmore 1 (.inl rfl) r).mp m)), fun l3 L3 H13 s13 nl3 hl3 hll3 hS3 => ?_⟩⟩
    obtain rfl : O = L3 := sprd_unique (n := n) (wd := n ^ 1) (by omega) (fun r m => madeD_row (.inl rfl) X.tabs m) (fun r => (hmore 1 (.inl rfl) r).symm) X.os hS3
    have s14 := s11.trans (s12.trans s13)
    have X13 := X12.one (One.of s13) (X12.well.same s13)
    refine ⟨_, rfl, _, _, dp_lrows hl3, dp_lrows X13.o, rows_shaped _, rows_shaped _, ?_⟩
    rw [rows_eqv, decide_eq_true rfl]
    exact q H13 (oA.trans (One.of s14)) X13.well
end
end K26

set_option Elab.async false
set_option linter.all false
set_option maxRecDepth 100000
set_option maxHeartbeats 4000000
/-! # _law_lot_right -/
namespace K26
open PySem PySem.Spec PyProof.Rows L2
abbrev sLot : Stmt := top 47
theorem mem_upTo {n : Nat} {x : Int} (h : 0 ≤ x ∧ x < n) : x ∈ upTo n := List.mem_map.mpr ⟨x.toNat, List.mem_range.mpr (by omega), by omega⟩
theorem row_all {n : Nat} : ∀ {p : Nat} {r : List Int}, p = 1 ∨ p = 2 → Row n p r → r ∈ allR n p := by
  intro p r hp h
  have ext : ∀ {q : Nat} {s : List Int} {x : Int}, s ∈ allR n q → 0 ≤ x ∧ x < n → s ++ [x] ∈ allR n (q + 1) := fun {q s x} hs hx => List.mem_flatMap.mpr ⟨s, hs, List.mem_map.mpr ⟨x, mem_upTo hx, rfl⟩⟩
  rcases hp with rfl | rfl
  · match r, h.1 with
    | [x], _ => exact ext (q := 0) (s := []) (List.mem_singleton.mpr rfl) (h.2 x (by simp))
  · match r, h.1 with
    | [x, y], _ => exact ext (q := 1) (s := [x]) (ext (q := 0) (s := []) (List.mem_singleton.mpr rfl) (h.2 x (by simp))) (h.2 y (by simp))
theorem few_rows {n p : Nat} {L : List (List Int)} (hn : n ≤ 3) (hp : p = 1 ∨ p = 2) (nd : L.Nodup) (h : ∀ r ∈ L, Row n p r) : L.length ≤ 9 := by
  have h1 := nodup_len nd fun r hr => row_all hp (h r hr)
  rw [allR_len] at h1
  refine Nat.le_trans h1 ?_
  rcases hp with rfl | rfl
  · rw [Nat.pow_one]; omega
  · exact Nat.le_trans (Nat.pow_le_pow_left hn 2) (by decide)
/-- the scope of the outer comprehension, as it is written -/
def scJ : Scope := { kind := .function, names := [(".0", .local), ("_law_j", .local), ("tuple", .globalImplicit), ("range", .globalImplicit), ("_law_size", .free), ("_law_well", .free), ("_law_wide", .free)], isGenerator := false, isCoroutine := false }
def spLot (CH : Addr) : Sp := fun vs H Q _ => ∃ (wl h lo lt : Addr) (n : Nat) (ds : List Dd) (O T : List (List Int)), vs = [.ref wl, .ref h, .ref lt] ∧ Drawn CH H wl h lo lt n ds O T ∧ ∀ H', One wl H H' → WellAt H' wl → Q (.bl true) H'
abbrev nLot : List Str := ["_law_well", "_law_house", "_law_twos", "_law_size", "_law_wide", "_law_rows", "_law_lot", "_law_deed", "_law_k", "_law_j"]
section
variable {P : Program} {w : World} {K : PySem.W.Frag} {mg : Str → Option Value} {base : Heap}
theorem sc_lot : FnScope nLot ["_law_well", "_law_house", "_law_twos"] (defScope sLot) := ⟨rfl, rfl, rfl, by decide +kernel, rfl, by decide +kernel, by decide +kernel⟩
theorem c_lot (Z : Zs mg) {CH Ct : Addr} (TH : HTxt K CH) (D : DefAt K mg "_law_lot_right" sLot ["_law_well", "_law_house", "_law_twos"]) (cD : Cal P w K mg base CX0 1 "_law_draw" spDraw) (cTh : Met P w K mg base CX0 1 CH "things" (spThings CH))
    (cH : Mak P w K mg base CX0 5 "House" CH (spHInit CH)) (cS : Cal P w K mg base (L2.CX P w) 8 "spread" (spSpread CH Ct)) (cC : Cal P w K mg base CX0 5 "is_closed" (spFirst CH (.bl true))) : Cal P w K mg base CX0 9 "_law_lot_right" (spLot CH) := by
  refine cal_of D sc_lot (fun vs H Q E h => ?_) (fun f cdv A outer s H vs Q E hr h => ?_)
  · obtain ⟨wl, h, lo, lt, n, ds, O, T, rfl, _⟩ := h
    rfl
  · obtain ⟨wl, h, lo, lt, n, ds, O, T, rfl, X, q⟩ := h
    refine ⟨_, pss_cons (ps_set (i := 3) sc_lot.nd rfl (.inr rfl) (pe_ml0 cTh TH.cl hr (by decide) pass0 (pv 1)))
      (pss_cons (ps_set (i := 4) sc_lot.nd rfl (.inr rfl) (pe_op op_add pe_int (pe_cl cD hr (by decide) pass0 (by rfl) (pa_cons (pv 0) (pa_cons pe_int pa_nil)))))
      (pss_cons (ps_setLc (i := 5) (own := [("_law_j", 9)]) (g := gName 9) (tt := tYes) (te := tCB (fun xs H Q => ∃ p ys, xs = [.ref p] ∧ ((SqL K H p ys ∧ ∀ l, H l = none → Q (.ref l) (upd H l (.tup ys))) ∨ (SqT K H p ys ∧ Q (.ref p) H)))
          (tCons (tLc (iRng1 (tCons (tVar 4) tNil)) (gName 8) tYes (tCall spDraw [] E0 (tCons (tVar 0) (tCons (tVar 3) tNil))) [8]) tNil)) (by rfl) sc_lot.nd rfl rfl rfl (pi_range1 (by rfl) Z.range (pa_cons (pe_op op_add pe_int (pe_cl cD hr (by decide) pass0 (by rfl) (pa_cons (pv 0) (pa_cons pe_int pa_nil)))) pa_nil))
          (blkOk_by (own := [("_law_j", 9)]) (N := nLot) (sc := defScope sLot) (by decide +kernel)) (fun _ _ _ _ _ => pg_name (i := 9) sc_lot.nd rfl (Or.inl rfl)) (fun _ _ _ _ _ => pts_nil)
          (fun _ _ _ _ _ => pe_callTy call_tuple_of (by rfl) Z.tuple (by decide +kernel) (pa_cons (pe_lc (own := [("_law_k", 8)]) (g := gName 8) (tt := tYes) (te := tCall spDraw [] E0 (tCons (tVar 0) (tCons (tVar 3) tNil))) (by rfl) sc_lot.nd (pi_range1 (by rfl) Z.range (pa_cons (pv 4) pa_nil))
            (blkOk_by (own := [("_law_k", 8)]) (N := nLot) (sc := relS scJ (defScope sLot)) (by decide +kernel)) (fun _ _ _ _ _ => pg_name (i := 8) sc_lot.nd rfl (Or.inl rfl)) (fun _ _ _ _ _ => pts_nil) (fun _ _ _ _ _ => pe_cl cD hr (by decide) pass0 (by rfl) (pa_cons (pv 0) (pa_cons (pv 3) pa_nil)))) pa_nil)))
      (pss_cons (ps_set (i := 6) sc_lot.nd rfl (.inl rfl) (pe_cl (E := E0) cS hr (by decide) (passes_call (W := fun _ _ _ _ => False) takes0 (fun _ _ _ _ h => h.elim)) (by rfl) (pa_cons (pv 1) (pa_cons (pv 5) (pa_cons (pv 4) (pa_cons pe_int pa_nil))))))
      (pss_cons (ps_set (i := 7) sc_lot.nd rfl (.inl rfl) (pe_tup (pa_cons pe_str (pa_cons pe_int (pa_cons (pe_ix ix_list (pv 2) (pe_cl cD hr (by decide) pass0 (by rfl) (pa_cons (pv 0) (pa_cons (pe_callB call_len_seq (by rfl) Z.len PySem.boot_len (pa_cons (pv 2) pa_nil)) pa_nil))) (fun _ _ => rfl)) pa_nil)))))
      (pss_one (ps_ret (pe_or (pe_cmpR op_gt (pe_callB call_len_seq (by rfl) Z.len PySem.boot_len (pa_cons (pv 6) pa_nil)) pe_int (nomark _))
        (pe_one (pe_cl cC hr (by decide) pass0 (by rfl) (pa_cons (pe_mkl cH hr (by decide) pass0 (by rfl) (pa_cons (pv 3) (pa_cons (pe_lst (pa_cons (pv 7) pa_nil)) pa_nil))) (pa_cons (pv 6) (pa_cons (pv 4) pa_nil)))))))))))), ?_⟩
    obtain ⟨dh, hd2, k1, k2, k3⟩ := id X.house
    have n1 := X.n1
    have n3 := X.n3
    refine ⟨_, rfl, h, dh, _, rfl, k1, hfs_no _ _ (by decide +kernel) (by decide +kernel), h, n, ds, rfl, X.house, ?_⟩
    -- the width
    refine ⟨_, rfl, wl, 2, rfl, X.well, by decide, by decide, fun v H1 v0 v2 o1 hw1 => ⟨_, _, rfl, rfl, ?_⟩⟩
    obtain ⟨wd, ewd, hwd⟩ : ∃ wd : Nat, 1 + v = (wd : Nat) ∧ (wd = 1 ∨ wd = 2) := ⟨(1 + v).toNat, by omega, by omega⟩
    show gName 4 (V.int (1 + v)) _ H1 _
    rw [ewd]
    -- the rows
    refine ⟨_, rfl, wl, 2, rfl, hw1, by decide, by decide, fun u H2 u0 u2 o2 hw2 => ⟨_, _, rfl, rfl, _, rfl, by omega, by omega, fun D1 nD1 => ?_⟩⟩
    have nD1w := hw2.ne nD1
    have oA := o1.trans o2
    refine lc_range (fun i H' => (∃ (as : List Addr) (rs : List (List Int)), H' D1 = some (.lst (as.map V.ref)) ∧ RowsAt H' as rs ∧ rs.length = i ∧ ∀ r ∈ rs, Row n wd r) ∧ One wl H2 H' ∧ WellAt H' wl) ⟨⟨[], [], upd_same, .nil, rfl, fun r h => by cases h⟩, One.of (same_new nD1), hw2.same (same_new nD1)⟩ (fun i H' hi h => ?_) fun H3 h3 => ?_
    · obtain ⟨⟨as, rs, hD, has, hrl, hrm⟩, o, hw'⟩ := h
      have hi' : i < 2 := by omega
      refine ⟨rfl, _, rfl, _, rfl, by omega, by omega, fun D2 nD2 => ?_⟩
      have nD2w := hw'.ne nD2
      refine lc_range (fun k H'' => (∃ ts : List Int, H'' D2 = some (.lst (ts.map V.int)) ∧ ts.length = k ∧ ∀ x ∈ ts, InR n x) ∧ One wl H' H'' ∧ WellAt H'' wl) ⟨⟨[], upd_same, rfl, fun x h => by cases h⟩, One.of (same_new nD2), hw'.same (same_new nD2)⟩ (fun k H'' hk h => ?_) fun H4 h4 => ?_
      · obtain ⟨⟨ts, hD2, htl, htm⟩, o', hw''⟩ := h
        have hk' : k < 2 := by rw [Int.toNat_natCast] at hk; omega
        refine ⟨rfl, _, rfl, _, rfl, wl, n, rfl, hw'', by omega, by omega, fun c H5 c0 c1 o5 hw5 => ⟨_, o5 _ _ hD2 nD2w, ?_, ⟨ts ++ [c], by rw [upd_same, List.map_append]; rfl, by rw [List.length_append, htl]; rfl, fun x hx => ?_⟩, One.put nD2 (o'.trans o5), hw5.put nD2w⟩⟩
        · rw [List.length_map, htl]
          exact small1000 (by omega)
        · rcases List.mem_append.mp hx with hx | hx
          · exact htm x hx
          · rw [List.mem_singleton.mp hx]
            exact ⟨c0, c1⟩
      · obtain ⟨⟨ts, hD2, htl, htm⟩, o', hw''⟩ := h4
        rw [Int.toNat_natCast] at htl
        refine ⟨D2, _, rfl, .inl ⟨SqL.of hD2, fun c nc => ?_⟩⟩
        have sc := same_new (o := .tup (ts.map V.int)) nc
        have hD4 := sc _ _ (o' _ _ hD nD1w)
        refine ⟨as.map V.ref, hD4, ?_, ⟨as ++ [c], rs ++ [ts], by rw [upd_same, List.map_append]; rfl, lrows_push hD4 (RowsAt.keep (fun b x hb => sc _ _ (o'.row hw' hb)) has) upd_same, by rw [List.length_append, hrl]; rfl, fun x hx => ?_⟩, One.put nD1 (o.trans (o'.trans (One.of sc))), (hw''.same sc).put nD1w⟩
        · rw [List.length_map, has.len, hrl]
          exact small1000 (by omega)
        · rcases List.mem_append.mp hx with hx | hx
          · exact hrm x hx
          · rw [List.mem_singleton.mp hx]
            exact ⟨htl, htm⟩
    obtain ⟨⟨as, rs, hD1, has, hrl, hrm⟩, o3, hw3⟩ := h3
    have oB := oA.trans o3
    have X3 := X.one oB hw3
    -- the lot
    have hrowM : ∀ r, Made n (deedsOf ds) rs wd r → Row n wd r := fun r m => made_row (by omega) (valid_of X.tabs) hrm m
    refine ⟨_, rfl, _, rfl, _, rfl, h, D1, n, ds, rs, wd, 81, rfl, ⟨X3.house, n1, by omega, X.tabs, X.p2, ⟨as, hD1, has⟩, hrm, by omega, by omega, by decide⟩, fun L g => ?_, fun big => ?_, fun p L H4 s4 np hL hlen hS => ?_⟩
    · have := few_rows n3 hwd g.nd fun r hr' => hrowM r (g.mem r hr')
      omega
    · obtain ⟨B, bn, bm, bl⟩ := big
      have := few_rows n3 hwd bn fun r hr' => hrowM r (bm r hr')
      omega
    have hL9 := few_rows n3 hwd hS.nd fun r hr' => hrowM r ((hS.mem r).mp hr')
    have X4 := X3.one (One.of s4) (hw3.same s4)
    have t0 := X.t0
    have tl := X.tl
    have npw := hw3.ne np
    -- the deed
    obtain ⟨ts, hts, htsl⟩ := lrows_len X4.t
    refine ⟨_, rfl, _, rfl, _, rfl, lt, _, rfl, .inl (SqL.of hts), wl, _, rfl, X4.well, by omega, by omega, fun c H5 c0 c1 o5 hw5 => ?_⟩
    rw [htsl] at c1
    have X5 := X4.one o5 hw5
    obtain ⟨ts5, a, r, ht5, hat, hr5, ha⟩ := lrows_at X5.t c0 c1
    have hL5 := o5.lrows X4.well npw hL
    refine ⟨lt, _, c, .ref a, rfl, rfl, SqL.of ht5, hat, (by show 3 ≤ sizeLine; decide), fun t1 nt1 => ?_⟩
    have st1 := same_new (o := .tup [.str "madetwo", .int 2, .ref a]) nt1
    have hL6 := hL5.same st1
    obtain ⟨ls, hls, hlr⟩ := id hL6
    -- it is short, and closed
    refine ⟨_, rfl, p, _, rfl, .inl (SqL.of hls), _, _, rfl, rfl, _, rfl, ?_⟩
    rw [decide_eq_false (by rw [List.length_map, hlr.len]; omega : ¬ ((12 : Int) < ((ls.map V.ref).length : Nat)))]
    refine iteF ⟨_, rfl, _, rfl, (by show 1 ≤ sizeLine; decide), fun dl ndl => ?_⟩
    have sdl := same_new (o := .lst [.ref t1]) ndl
    have s57 := st1.trans sdl
    have m2 : MadeD n ds 2 r := (X.ts.mem r).mp hr5
    have R2 := X.trow hr5
    have ok1 : ∀ d ∈ [dOf t1 "madetwo" 2 a r], DdAt (upd (upd H5 t1 (.tup [.str "madetwo", .int 2, .ref a])) dl (.lst [.ref t1])) d ∧ DdOk n d := fun d hd => by
      rw [List.mem_singleton.mp hd]
      exact ⟨⟨sdl _ _ upd_same, s57 _ _ ha⟩, two_ok, (by show 2 ≤ 3; decide), R2⟩
    refine fun x dx nx ndx nxd => ⟨x, dx, dl, n, [dOf t1 "madetwo" 2 a r], rfl, upd_same, ⟨n1, by omega⟩, mk_same nx ndx _ _ upd_same, fun d hd => ⟨(ok1 d hd).1.same (mk_same nx ndx), (ok1 d hd).2⟩, (by show 1 ≤ 6; decide), List.nodup_cons.mpr ⟨List.not_mem_nil, List.nodup_nil⟩, fun H8 s8' hx => ⟨rfl, ?_⟩⟩
    have s58 := s57.trans (mk_keep nx ndx s8')
    refine ⟨_, rfl, _, rfl, x, p, n, wd, _, L, rfl, hx, by omega, by omega, fun d hd => ?_, hL5.same s58, hS.nd, by omega, fun r' hr' => hrowM r' ((hS.mem r').mp hr'), fun H9 s9 => ?_⟩
    · rw [List.mem_singleton.mp hd]
      refine ⟨rfl, ?_, fun r' hr' s' hs' => ?_⟩
      · show n * n ≤ r.length
        rw [R2.1, Nat.pow_two]
        exact Nat.le_refl _
      · have q1 := (hS.mem r').mp hr'
        have q2 := (hS.mem s').mp hs'
        exact (hS.mem _).mpr (put2 (valid_of X.tabs) (Made.closed n (deedsOf ds) rs wd) (madeD2.mp m2) (hrowM r' q1) (hrowM s' q2) q1 q2)
    · exact q H9 ((oB.trans (One.of s4)).trans (o5.trans (One.of (s58.trans s9)))) (hw5.same (s58.trans s9))
end
end K26

set_option Elab.async false
set_option linter.all false
set_option maxRecDepth 100000
set_option maxHeartbeats 4000000
/-! # _law_right -/
namespace K26
open PySem PySem.Spec PyProof.Rows L2
abbrev sRight : Stmt := top 48
/-! ### plain -/
theorem madeD_closed (n : Nat) (ds : List Dd) (p : Nat) : Closed n (deedsOf ds) (n ^ p) (MadeD n ds p) := Made.closed n (deedsOf ds) (argsOf n p) (n ^ p)
theorem given1 {n : Nat} {ds : List Dd} : MadeD n ds 1 (arg1 n) := .given _ (List.mem_singleton.mpr rfl)
theorem givenA {n : Nat} {ds : List Dd} : MadeD n ds 2 (argA n) := .given _ List.mem_cons_self
theorem givenB {n : Nat} {ds : List Dd} : MadeD n ds 2 (argB n) := .given _ (List.mem_cons_of_mem _ (List.mem_singleton.mpr rfl))
theorem p1r (n : Nat) : Row n (n ^ 1) (arg1 n) := by rw [Nat.pow_one]; exact arg1_row n
theorem pAr (n : Nat) : Row n (n ^ 2) (argA n) := by rw [Nat.pow_two]; exact argA_row n
theorem pBr (n : Nat) : Row n (n ^ 2) (argB n) := by rw [Nat.pow_two]; exact argB_row n
theorem ap1_arg {n : Nat} {t : List Int} (h : t.length = n) : ap1 t (arg1 n) = t := by
  refine List.ext_getElem? fun i => ?_
  by_cases hi : i < n
  · unfold ap1 arg1
    rw [List.getElem?_map, ints_get hi, cell_get (by omega)]
    rfl
  · rw [List.getElem?_eq_none (by unfold ap1 arg1; rw [List.length_map, ints_len]; omega), List.getElem?_eq_none (by omega)]
theorem ap2_args {n : Nat} {t : List Int} (h : t.length = n * n) : ap2 n t (argA n) (argB n) = t := by
  refine List.ext_getElem? fun i => ?_
  by_cases hi : i < n * n
  · rw [ap2_get]
    unfold argA argB
    rw [List.getElem?_map, List.getElem?_map, ints_get hi, cell_get (by omega)]
    show some (cell t ((i : Int) / n * n + (i : Int) % n)) = _
    rw [Int.mul_comm, Int.mul_ediv_add_emod]
  · rw [List.getElem?_eq_none (by rw [ap2_len (argA_row n).1 (argB_row n).1]; omega), List.getElem?_eq_none (by omega)]
theorem deed1_made {n : Nat} {ds : List Dd} (hD : ∀ d ∈ ds, Row n (n ^ d.p) d.t) {d : Dd} (hd : d ∈ ds) (hp : d.p = 1) : MadeD n ds 1 d.t := by
  have h := hD d hd
  rw [hp, Nat.pow_one] at h
  have m : MadeD n ds 1 (ap1 d.t (arg1 n)) := .d1 d.t _ (by rw [← hp]; exact mem_deedsOf hd) given1
  rw [ap1_arg h.1] at m
  exact m
theorem deed2_made {n : Nat} {ds : List Dd} (hD : ∀ d ∈ ds, Row n (n ^ d.p) d.t) {d : Dd} (hd : d ∈ ds) (hp : d.p = 2) : MadeD n ds 2 d.t := by
  have h := hD d hd
  rw [hp, Nat.pow_two] at h
  have m : MadeD n ds 2 (ap2 n d.t (argA n) (argB n)) := .d2 d.t _ _ (by rw [← hp]; exact mem_deedsOf hd) givenA givenB
  rw [ap2_args h.1] at m
  exact m
theorem put_closed {n : Nat} {ds : List Dd} {O T : List (List Int)} (hD : ∀ d ∈ ds, Row n (n ^ d.p) d.t) (hO : Sprd (MadeD n ds 1) O) (hT : Sprd (MadeD n ds 2) T) : PutClosed n O T := by
  have mo : ∀ {r}, r ∈ O → MadeD n ds 1 r := fun {r} h => (hO.mem r).mp h
  have mt : ∀ {r}, r ∈ T → MadeD n ds 2 r := fun {r} h => (hT.mem r).mp h
  have ro : ∀ {r}, MadeD n ds 1 r → Row n (n ^ 1) r := fun {r} h => madeD_row (.inl rfl) hD h
  have rt : ∀ {r}, MadeD n ds 2 r → Row n (n ^ 2) r := fun {r} h => madeD_row (.inr rfl) hD h
  have v := valid_of hD
  have c1 := madeD_closed n ds 1
  have c2 := madeD_closed n ds 2
  refine ⟨fun r h => ?_, fun r h => ?_, fun f hf s hs t ht => ?_, fun o ho f hf => ?_, fun o ho p hp => ?_, fun f hf o ho p hp => ?_, fun f hf => ?_, fun f hf => ?_, fun o ho => ?_⟩
  · have q := ro (mo h)
    rw [Nat.pow_one] at q
    exact q
  · have q := rt (mt h)
    rw [Nat.pow_two] at q
    exact q
  · exact (hT.mem _).mpr (put2 v c2 (madeD2.mp (mt hf)) (rt (mt hs)) (rt (mt ht)) (mt hs) (mt ht))
  · exact (hT.mem _).mpr (put1 v c2 (madeD1.mp (mo ho)) (rt (mt hf)) (mt hf))
  · exact (hO.mem _).mpr (put1 v c1 (madeD1.mp (mo ho)) (ro (mo hp)) (mo hp))
  · exact (hO.mem _).mpr (put2 v c1 (madeD2.mp (mt hf)) (ro (mo ho)) (ro (mo hp)) (mo ho) (mo hp))
  · exact (hT.mem _).mpr (put2 v c2 (madeD2.mp (mt hf)) (pBr n) (pAr n) givenB givenA)
  · exact (hO.mem _).mpr (put2 v c1 (madeD2.mp (mt hf)) (p1r n) (p1r n) given1 given1)
  · exact (hT.mem _).mpr (put1 v c2 (madeD1.mp (mo ho)) (pAr n) givenA)
/-! ### what is in a list -/
theorem in_three {ds : List Dd} (h : inV (V.int 3) (ds.map fun d => V.int d.p) = false) : ∀ d ∈ ds, d.p ≠ 3 := fun d hd e => by
  unfold inV at h
  rw [List.any_eq_false] at h
  have q := h (V.int d.p) (List.mem_map.mpr ⟨d, hd, rfl⟩)
  rw [e] at q
  exact q rfl
def isMade (z : Str) : Bool := inV (V.str z) [V.str "madeone", V.str "madetwo"]
theorem isMade_yes {z : Str} (h : isMade z = true) : z = "madeone" ∨ z = "madetwo" := by
  unfold isMade inV at h
  simp only [List.any_cons, List.any_nil, Bool.or_false, Bool.or_eq_true] at h
  rcases h with h | h
  · exact .inl (eq_of_beq h).symm
  · exact .inr (eq_of_beq h).symm
theorem isMade_no {z : Str} (h : isMade z = false) : z ≠ "madeone" ∧ z ≠ "madetwo" := by
  constructor
  · intro e
    rw [e] at h
    revert h
    decide +kernel
  · intro e
    rw [e] at h
    revert h
    decide +kernel
theorem strs_shaped : ∀ {zs : List Str}, (∀ z ∈ zs, isMade z = true) → PyData.canLayAll0 (zs.map PyData.str) = true ∧ PyData.depthAll (zs.map PyData.str) = 0
  | [], _ => ⟨by simp [PyData.canLayAll0], by simp [PyData.depthAll]⟩
  | z :: zs, h => by
    have ih := strs_shaped (zs := zs) fun x hx => h x (List.mem_cons_of_mem _ hx)
    have hz : PyData.canLay0 (.str z) = true := by
      rcases isMade_yes (h z List.mem_cons_self) with e | e
      · rw [e]; decide +kernel
      · rw [e]; decide +kernel
    constructor
    · simp only [List.map_cons, PyData.canLayAll0, hz, ih.1, Bool.and_self]
    · simp only [List.map_cons, PyData.depthAll, PyData.depth, ih.2, Nat.max_self]
theorem names_shaped {zs : List Str} (h : ∀ z ∈ zs, isMade z = true) : SeqAt.shaped (.list (zs.map PyData.str)) = true := by
  obtain ⟨h1, h2⟩ := strs_shaped h
  have h3 : PyData.depth (.list (zs.map PyData.str)) ≤ 64 := by
    simp only [PyData.depth, h2]
    omega
  show (PyData.canLay0 (.list (zs.map PyData.str)) && decide (PyData.depth (.list (zs.map PyData.str)) ≤ 64)) = true
  rw [Bool.and_eq_true]
  exact ⟨by simp only [PyData.canLay0]; exact h1, decide_eq_true h3⟩
theorem dp_strs {K : PySem.W.Frag} {H : Hp} : ∀ zs : List Str, DpAll K H (zs.map V.str) (zs.map PyData.str)
  | [] => .nil
  | z :: zs => .cons (.str z) (dp_strs zs)
theorem names_eqv (zs : List Str) : PyData.eqv (.list (zs.map PyData.str)) (.list []) = decide (zs = []) := by
  cases zs with
  | nil => simp [PyData.eqv, PyData.eqvAll]
  | cons z zs => simp [PyData.eqv, PyData.eqvAll]
def spRight : Sp := fun vs H Q _ => ∃ (wl : Addr), vs = [.ref wl] ∧ WellAt H wl ∧ ∀ H', One wl H H' → Q (.bl true) H'
abbrev nRight : List Str := ["_law_well", "_law_house", "_law_size", "_law_name", "_law_ones", "_law_twos", "_law_places", "_law_table_here", "_law_deed", "_law_row"]
section
variable {P : Program} {w : World} {K : PySem.W.Frag} {mg : Str → Option Value} {base : Heap}
theorem sc_right : FnScope nRight ["_law_well"] (defScope sRight) := ⟨rfl, rfl, rfl, by decide +kernel, rfl, by decide +kernel, by decide +kernel⟩
theorem c_right (Z : Zs mg) {CH : Addr} (TH : HTxt K CH) (D : DefAt K mg "_law_right" sRight ["_law_well"]) (cSm : Cal P w K mg base CX0 7 "_law_small" (spSmall CH)) (cTh : Met P w K mg base CX0 1 CH "things" (spThings CH)) (cDs : Met P w K mg base CX0 1 CH "deeds" (spDeeds CH)) (cNm : Met P w K mg base CX0 1 CH "names" (spNames CH))
    (cM : Cal P w K mg base CX0 10 "_law_made" (spLMade CH)) (cA : Cal P w K mg base CX0 2 "argument_rows" spArgs) (cP : Cal P w K mg base CX0 2 "_law_put_right" spPutR) (cL : Cal P w K mg base CX0 11 "_law_lesser_right" (spLess CH)) (cO : Cal P w K mg base CX0 9 "_law_lot_right" (spLot CH)) :
    Cal P w K mg base CX0 12 "_law_right" spRight := by
  refine cal_of D sc_right (fun vs H Q E h => ?_) (fun f cdv A outer s H vs Q E hr h => ?_)
  · obtain ⟨wl, rfl, _⟩ := h
    rfl
  · obtain ⟨wl, rfl, hw, q⟩ := h
    have hu : (A.deeper (envOfC "_law_right" (defScope sRight) s.heap.objs.size f cdv)).units + 65 < cLine := by have := hr.un; omega
    refine ⟨_, pss_cons (ps_set (i := 1) sc_right.nd rfl (.inl rfl) (pe_cl cSm hr (by decide) pass0 (by rfl) (pa_cons (pv 0) pa_nil)))
      (pss_cons (ps_set (i := 2) sc_right.nd rfl (.inl rfl) (pe_ml0 cTh TH.cl hr (by decide) pass0 (pv 1)))
      (pss_cons (ps_if (PW.pt (pw_or (pt_cmpR op_gt (pv 2) pe_int (nomark _)) (pw_or1 (pt_cmpR op_in_seq pe_int (pe_lc (own := [("_law_deed", 8)]) (g := gName 8) (tt := tYes) (te := tOp (rIxT K) (tVar 8) (tC (.int 1))) (by rfl) sc_right.nd (pi_list (pe_ml0 cDs TH.cl hr (by decide) pass0 (pv 1)))
          (blkOk_by (own := [("_law_deed", 8)]) (N := nRight) (sc := defScope sRight) (by decide +kernel)) (fun _ _ _ _ _ => pg_name (i := 8) sc_right.nd rfl (Or.inl rfl)) (fun _ _ _ _ _ => pts_nil) (fun _ _ _ _ _ => pe_ix (r := rIxT K) ix_tup (pv 8) pe_int (fun _ _ => rfl))) (by rfl))))) (pss_one (ps_ret pe_bl)) pss_nil)
      (pss_cons (ps_if (pt_cmpR (op_neD hr.units) (pe_lc (own := [("_law_name", 3)]) (g := gName 3) (tt := tTest (tOp (rIn K false) (tVar 3) (tTup (tCons (tC (.str "madeone")) (tCons (tC (.str "madetwo")) tNil))))) (by rfl) sc_right.nd (pi_list (pe_ml0 cNm TH.cl hr (by decide) pass0 (pv 1)))
          (blkOk_by (own := [("_law_name", 3)]) (N := nRight) (sc := defScope sRight) (by decide +kernel)) (fun _ _ _ _ _ => pg_name (i := 3) sc_right.nd rfl (Or.inl rfl)) (fun _ _ _ _ _ => pts_one (pt_cmpR op_in_seq (pv 3) (pe_tup (pa_cons pe_str (pa_cons pe_str pa_nil))) (by rfl))) (fun _ _ _ _ _ => pv 3)) (pe_lst pa_nil) (nomark _)) (pss_one (ps_ret pe_bl)) pss_nil)
      (pss_cons (ps_asg (pe_tup (pa_cons (pe_cl cM hr (by decide) pass0 (by rfl) (pa_cons (pv 1) (pa_cons pe_int (pa_cons pe_int pa_nil)))) (pa_cons (pe_cl cM hr (by decide) pass0 (by rfl) (pa_cons (pv 1) (pa_cons pe_int (pa_cons pe_int pa_nil)))) pa_nil))) (pg_tup rfl (pgs_cons (pg_name (i := 4) sc_right.nd rfl (.inl rfl)) (pgs_cons (pg_name (i := 5) sc_right.nd rfl (.inr rfl)) pgs_nil))))
      (pss_cons (ps_if (PW.pt (pw_or (pt_cmpR op_isN (pv 4) pe_non (nomark _)) (pw_or1 (pt_cmpR op_isN (pv 5) pe_non (nomark _))))) (pss_one (ps_ret pe_bl)) pss_nil)
      (pss_cons (ps_if (PW.pt (pw_or (pt_cmpR (op_notInD hu) (pe_ix ix_list (pe_cl cA hr (by decide) pass0 (by rfl) (pa_cons (pv 2) (pa_cons pe_int pa_nil))) pe_int (fun _ _ => rfl)) (pv 4) (by rfl))
          (pw_or1 (pt_cmpR (op_neD hr.units) (pe_lc (own := [("_law_row", 9)]) (g := gName 9) (tt := tTest (tOp (rNotInD K) (tVar 9) (tVar 5))) (by rfl) sc_right.nd (pi_list (pe_cl cA hr (by decide) pass0 (by rfl) (pa_cons (pv 2) (pa_cons pe_int pa_nil))))
          (blkOk_by (own := [("_law_row", 9)]) (N := nRight) (sc := defScope sRight) (by decide +kernel)) (fun _ _ _ _ _ => pg_name (i := 9) sc_right.nd rfl (Or.inl rfl)) (fun _ _ _ _ _ => pts_one (pt_cmpR (op_notInD hu) (pv 9) (pv 5) (by rfl))) (fun _ _ _ _ _ => pv 9)) (pe_lst pa_nil) (nomark _))))) (pss_one (ps_ret pe_bl)) pss_nil)
      (pss_cons (ps_for PassesOwn.never rfl (pi_list (pe_ml0 cDs TH.cl hr (by decide) pass0 (pv 1))) (pg_tup rfl (pgs_cons (pg_name (i := 3) sc_right.nd rfl (.inl rfl)) (pgs_cons (pg_name (i := 6) sc_right.nd rfl (.inl rfl)) (pgs_cons (pg_name (i := 7) sc_right.nd rfl (.inl rfl)) pgs_nil))))
        (pss_one (ps_if (PW.pt (pw_or (PW.pt (pw_and (pt_cmpR op_eq (pv 6) pe_int (nomark _)) (pw_and1 (pt_cmpR (op_notInD hu) (pv 7) (pv 4) (by rfl))))) (pw_or1 (PW.pt (pw_and (pt_cmpR op_eq (pv 6) pe_int (nomark _)) (pw_and1 (pt_cmpR (op_notInD hu) (pv 7) (pv 5) (by rfl)))))))) (pss_one (ps_ret pe_bl)) pss_nil)))
      (pss_cons (ps_if (PW.pt (pw_or (pt_not (pt_val (pe_cl cP hr (by decide) pass0 (by rfl) (pa_cons (pv 0) (pa_cons (pv 2) (pa_cons (pv 4) (pa_cons (pv 5) pa_nil))))))) (pw_or1 (pt_not (pt_val (pe_cl cL hr (by decide) pass0 (by rfl) (pa_cons (pv 0) (pa_cons (pv 1) (pa_cons (pv 4) (pa_cons (pv 5) pa_nil))))))))))  (pss_one (ps_ret pe_bl)) pss_nil)
      (pss_one (ps_ret (pe_cl cO hr (by decide) pass0 (by rfl) (pa_cons (pv 0) (pa_cons (pv 1) (pa_cons (pv 5) pa_nil)))))))))))))), ?_⟩
    -- the house
    refine ⟨_, rfl, wl, rfl, hw, fun h n ds H1 o1 hw1 hH hn1 hn5 hok hlen hnd => ?_⟩
    obtain ⟨dh, hd2, k1, k2, k3⟩ := id hH
    refine ⟨_, rfl, h, dh, _, rfl, k1, hfs_no _ _ (by decide +kernel) (by decide +kernel), h, n, ds, rfl, hH, ?_⟩
    refine ⟨_, rfl, _, _, rfl, rfl, _, rfl, ?_⟩
    by_cases hn3 : (3 : Int) < (n : Nat)
    · rw [decide_eq_true hn3]
      exact iteT (q H1 o1)
    rw [decide_eq_false hn3]
    refine iteF ⟨_, rfl, h, dh, _, rfl, k1, hfs_no _ _ (by decide +kernel) (by decide +kernel), h, n, ds, rfl, hH, fun ld H2 s2 nld hld => ⟨ld, rfl, ⟨_, SqL.of hld⟩, fun D1 nD1 => ?_⟩⟩
    refine lc_list (K := K) (a := ld) (xs := refsD ds) (fun i H' => H' D1 = some (.lst ((ds.take i).map fun d => V.int d.p)) ∧ Same H2 H') ⟨by rw [List.take_zero]; exact upd_same, same_new nD1⟩ (fun i H' _ h => SqL.of (h.2 _ _ hld)) (fun i y H' hy h' => ?_) fun H3 h3 => ?_
    · obtain ⟨hD1, s'⟩ := h'
      obtain ⟨d, hdi, rfl⟩ := get_refsD hy
      have hda := (k3 d (List.mem_of_getElem? hdi)).same (s2.trans s')
      refine ⟨rfl, _, rfl, d.a, _, 1, .int d.p, rfl, rfl, SqT.of hda.1, atI_nat rfl, _, hD1, ?_, ?_, same_put nD1 s'⟩
      · rw [List.length_map, List.length_take]
        exact small1000 (by omega)
      · rw [upd_same, take_more hdi, List.map_append]
        rfl
    obtain ⟨hD1, s3⟩ := h3
    rw [show (refsD ds).length = ds.length from List.length_map _, List.take_length] at hD1
    have s13 := s2.trans s3
    refine ⟨D1, _, rfl, .inl (SqL.of hD1), rfl, ?_, inV (V.int 3) (ds.map fun d => V.int d.p), rfl, ?_⟩
    · rw [List.all_eq_true]
      intro x hx
      obtain ⟨d, _, rfl⟩ := List.mem_map.mp hx
      rfl
    cases hb : inV (V.int 3) (ds.map fun d => V.int d.p) with
    | true => exact iteT (q H3 (o1.trans (One.of s13)))
    | false =>
      have hp2 : ∀ d ∈ ds, d.p ≤ 2 := fun d hd => by
        have := in_three hb d hd
        have := (hok d hd).2.1
        omega
      -- the names
      have hH3 := hH.same s13
      obtain ⟨dh3, hd3, i1, i2, i3⟩ := id hH3
      refine iteF ⟨_, rfl, h, dh3, _, rfl, i1, hfs_no _ _ (by decide +kernel) (by decide +kernel), h, n, ds, rfl, hH3, fun nl H4 s4 hnl => ⟨nl, rfl, ⟨_, SqL.of hnl⟩, fun D2 nD2 => ?_⟩⟩
      refine lc_list (K := K) (a := nl) (xs := ds.map fun x => V.str x.nm) (fun i H' => (∃ zs : List Str, H' D2 = some (.lst (zs.map V.str)) ∧ (∀ z ∈ zs, isMade z = true) ∧ zs.length ≤ i ∧ (zs = [] → ∀ d ∈ ds.take i, isMade d.nm = false)) ∧ Same H4 H')
        ⟨⟨[], upd_same, fun z hz => (by cases hz), Nat.le_refl 0, fun _ d hd => (by rw [List.take_zero] at hd; cases hd)⟩, same_new nD2⟩ (fun i H' _ h => SqL.of (h.2 _ _ hnl)) (fun i y H' hy h' => ?_) fun H5 h5 => ?_
      · obtain ⟨⟨zs, hD2, hzm, hzl, hz0⟩, s'⟩ := h'
        obtain ⟨d, hdi, rfl⟩ : ∃ d, ds[i]? = some d ∧ y = V.str d.nm := by
          rw [List.getElem?_map] at hy
          cases e : ds[i]? with
          | none => rw [e] at hy; cases hy
          | some d => rw [e] at hy; exact ⟨d, rfl, (Option.some.inj hy).symm⟩
        have hi : i < ds.length := (List.getElem?_eq_some_iff.mp hdi).1
        refine ⟨rfl, _, rfl, (by show 2 ≤ sizeLine; decide), fun t nt => ⟨t, _, rfl, .inr (SqT.of upd_same), rfl, rfl, isMade d.nm, rfl, ?_⟩⟩
        have st := same_new (o := .tup [.str "madeone", .str "madetwo"]) nt
        have hD2t := st _ _ hD2
        cases hm : isMade d.nm with
        | true =>
          refine iteT ⟨_, rfl, zs.map V.str, hD2t, ?_, ⟨zs ++ [d.nm], by rw [upd_same, List.map_append]; rfl, fun z hz => ?_, by rw [List.length_append]; exact Nat.add_le_add_right hzl 1, fun e => ?_⟩, same_put nD2 (s'.trans st)⟩
          · rw [List.length_map]
            exact small1000 (by omega)
          · rcases List.mem_append.mp hz with hz | hz
            · exact hzm z hz
            · rw [List.mem_singleton.mp hz]
              exact hm
          · simp at e
        | false =>
          refine iteF ⟨⟨zs, hD2t, hzm, by omega, fun e d' hd' => ?_⟩, s'.trans st⟩
          rw [take_more hdi] at hd'
          rcases List.mem_append.mp hd' with hd' | hd'
          · exact hz0 e d' hd'
          · rw [List.mem_singleton.mp hd']
            exact hm
      obtain ⟨⟨zs, hD2, hzm, _, hz0⟩, s5⟩ := h5
      rw [show (ds.map fun x => V.str x.nm).length = ds.length from List.length_map _, List.take_length] at hz0
      refine ⟨Nat.zero_le _, fun e ne => ⟨.list (zs.map PyData.str), .list [], .lst (SqL.of (same_new ne _ _ hD2)) (dp_strs zs), .lst (SqL.of upd_same) .nil, names_shaped hzm, rows_shaped [], ?_⟩⟩
      rw [names_eqv]
      have s35 := s4.trans (s5.trans (same_new (o := .lst []) ne))
      generalize upd H5 e (.lst []) = H6 at s35
      have s16 := s13.trans s35
      refine ⟨_, rfl, ?_⟩
      by_cases hz : zs = []
      · rw [decide_eq_true hz]
        have hnm : ∀ d ∈ ds, d.nm ≠ "madeone" ∧ d.nm ≠ "madetwo" := fun d hd => isMade_no (hz0 hz d hd)
        have hH6 := hH.same s16
        have hw6 := hw1.same s16
        have o6 := o1.trans (One.of s16)
        have tabs : ∀ d ∈ ds, Row n (n ^ d.p) d.t := fun d hd => (hok d hd).2.2
        have hn9 : n ≤ 9 := by omega
        -- what is made of one place, of two
        refine iteF ⟨_, rfl, h, n, ds, 1, 16, rfl, hH6, ⟨hn1, hn9⟩, tabs, hp2, .inl rfl, by decide, fun big1 H7 s7 => ?_, fun lo O H7 s7 nlo hlo hlol hSO => ?_⟩
        · refine ⟨_, rfl, h, n, ds, 2, 16, rfl, hH6.same s7, ⟨hn1, hn9⟩, tabs, hp2, .inr rfl, by decide, fun big2 H8 s8 => ?_, fun lt T H8 s8 nlt hlt hltl hST => ?_⟩
          · refine ⟨(by show 2 ≤ sizeLine; decide), fun tp ntp => ⟨tp, _, rfl, SqT.of upd_same, rfl, _, _, rfl, _, _, rfl, rfl, _, rfl, rfl, _, rfl, ?_⟩⟩
            exact iteT (q _ (o6.trans (One.of (s7.trans (s8.trans (same_new ntp))))))
          · refine ⟨(by show 2 ≤ sizeLine; decide), fun tp ntp => ⟨tp, _, rfl, SqT.of upd_same, rfl, _, _, rfl, _, _, rfl, rfl, _, rfl, rfl, _, rfl, ?_⟩⟩
            exact iteT (q _ (o6.trans (One.of (s7.trans (s8.trans (same_new ntp))))))
        · refine ⟨_, rfl, h, n, ds, 2, 16, rfl, hH6.same s7, ⟨hn1, hn9⟩, tabs, hp2, .inr rfl, by decide, fun big2 H8 s8 => ?_, fun lt T H8 s8 nlt hlt hltl hST => ?_⟩
          · refine ⟨(by show 2 ≤ sizeLine; decide), fun tp ntp => ⟨tp, _, rfl, SqT.of upd_same, rfl, _, _, rfl, _, _, rfl, rfl, _, rfl, rfl, _, rfl, ?_⟩⟩
            refine iteF ⟨_, rfl, rfl, _, rfl, ?_⟩
            exact iteT (q _ (o6.trans (One.of (s7.trans (s8.trans (same_new ntp))))))
          · refine ⟨(by show 2 ≤ sizeLine; decide), fun tp ntp => ⟨tp, _, rfl, SqT.of upd_same, rfl, _, _, rfl, _, _, rfl, rfl, _, rfl, rfl, _, rfl, ?_⟩⟩
            refine iteF ⟨_, rfl, rfl, _, rfl, ?_⟩
            refine iteF ?_
            have stp := same_new (o := .tup [.ref lo, .ref lt]) ntp
            have s79 := s7.trans (s8.trans stp)
            generalize upd H8 tp (.tup [.ref lo, .ref lt]) = H9 at stp s79
            have mO : arg1 n ∈ O := (hSO.mem _).mpr given1
            have mA : argA n ∈ T := (hST.mem _).mpr givenA
            have mB : argB n ∈ T := (hST.mem _).mpr givenB
            have X : Drawn CH H9 wl h lo lt n ds O T := ⟨hH6.same s79, hw6.same s79, hn1, by omega, hok, hp2, hlen, hnd, hnm, hlo.same (s8.trans stp), hlt.same stp, hw6.ne nlo, (hw6.same s7).ne nlt, hlol, hltl, List.length_pos_of_mem mO, List.length_pos_of_mem mA, hSO, hST⟩
            have o9 := o6.trans (One.of s79)
            -- the rows of the arguments
            refine ⟨_, rfl, n, 1, rfl, hn1, hn9, .inl rfl, fun la H10 s10 nla hla => ?_⟩
            obtain ⟨a0, ea, ha0⟩ := lrows1 (r := arg1 n) hla
            refine ⟨la, _, 0, .ref a0, rfl, rfl, SqL.of ea, atI_nat rfl, _, rfl, rowD (arg1 n), _, dp_row ha0, dp_lrows (X.o.same s10), row_shaped _, rows_shaped _, ?_⟩
            rw [any_true mO]
            refine ⟨_, rfl, iteF ⟨_, rfl, n, 2, rfl, hn1, hn9, .inr rfl, fun lb H11 s11 nlb hlb => ?_⟩⟩
            have s911 := s10.trans s11
            obtain ⟨bs, hbs, hbr⟩ := id hlb
            refine ⟨lb, rfl, ⟨_, SqL.of hbs⟩, fun D3 nD3 => ?_⟩
            refine lc_list (K := K) (a := lb) (xs := bs.map V.ref) (fun i H' => H' D3 = some (.lst []) ∧ Same H11 H') ⟨upd_same, same_new nD3⟩ (fun i H' _ h => SqL.of (h.2 _ _ hbs)) (fun i y H' hy h' => ?_) fun H12 h12 => ?_
            · obtain ⟨hD3, s'⟩ := h'
              obtain ⟨b, eb, rfl⟩ := get_refs hy
              obtain ⟨r, er, hb'⟩ := hbr.get eb
              have hr' : r ∈ T := by
                have hm := List.mem_of_getElem? er
                rcases List.mem_cons.mp (show r ∈ [argA n, argB n] from hm) with e | e
                · rw [e]; exact mA
                · rw [List.mem_singleton.mp e]; exact mB
              refine ⟨rfl, _, rfl, _, rfl, rowD r, _, dp_row (s' _ _ hb'), dp_lrows (X.t.same (s911.trans s')), row_shaped _, rows_shaped _, ?_⟩
              rw [any_true hr']
              exact ⟨_, rfl, iteF ⟨hD3, s'⟩⟩
            obtain ⟨hD3, s12⟩ := h12
            refine ⟨Nat.zero_le _, fun e ne => ⟨.list [], .list [], .lst (SqL.of (same_new ne _ _ hD3)) .nil, .lst (SqL.of upd_same) .nil, rows_shaped [], rows_shaped [], ?_⟩⟩
            have e0 : PyData.eqv (.list []) (.list []) = true := (rows_eqv [] []).trans (by simp)
            rw [e0]
            refine ⟨_, rfl, iteF ?_⟩
            have s913 := s911.trans (s12.trans (same_new (o := .lst []) ne))
            generalize upd H12 e (.lst []) = H13 at s913
            -- the deeds of the house
            have hH13 := X.house.same s913
            obtain ⟨dh4, hd4, j1, j2, j3⟩ := id hH13
            refine ⟨_, rfl, h, dh4, _, rfl, j1, hfs_no _ _ (by decide +kernel) (by decide +kernel), h, n, ds, rfl, hH13, fun le H14 s14 nle hle => ?_⟩
            refine ⟨le, rfl, ⟨_, SqL.of hle⟩, for_list (K := K) (a := le) (xs := refsD ds) (fun i σ H' => (∃ v3 v6 v7, σ = [some (.ref wl), some (.ref h), some (.int n), v3, some (.ref lo), some (.ref lt), v6, v7, none, none]) ∧ Same H14 H')
              ⟨⟨_, _, _, rfl⟩, Same.refl H14⟩ (fun i σ H' _ h' => SqL.of (h'.2 _ _ hle)) (fun i y σ H' hy h' => ?_) fun σ H15 h15 => ?_⟩
            · obtain ⟨⟨v3, v6, v7, rfl⟩, s'⟩ := h'
              obtain ⟨d, hdi, rfl⟩ := get_refsD hy
              have hd := List.mem_of_getElem? hdi
              have sA := s913.trans (s14.trans s')
              have hda := (j3 d hd).same (s14.trans s')
              refine ⟨d.a, _, rfl, SqT.of hda.1, rfl, _, _, rfl, _, _, rfl, _, _, rfl, rfl, _, rfl, rfl, _, rfl, ?_⟩
              by_cases hp1 : d.p = 1
              · have e1 : decide (V.int (d.p : Nat) = V.int 1) = true := decide_eq_true (by rw [hp1]; rfl)
                rw [e1]
                refine iteT ⟨_, rfl, _, rfl, rowD d.t, _, dp_row hda.2, dp_lrows (X.o.same sA), row_shaped _, rows_shaped _, ?_⟩
                rw [any_true ((hSO.mem _).mpr (deed1_made tabs hd hp1))]
                refine ⟨_, rfl, iteF ⟨_, rfl, rfl, _, rfl, ?_⟩⟩
                have e2 : decide (V.int (d.p : Nat) = V.int 2) = false := decide_eq_false (fun z => by injection z with z; omega)
                rw [e2]
                exact iteF (iteF ⟨⟨_, _, _, rfl⟩, s'⟩)
              · have e1 : decide (V.int (d.p : Nat) = V.int 1) = false := decide_eq_false (fun z => hp1 (by injection z with z; omega))
                rw [e1]
                refine iteF (iteF ⟨_, rfl, rfl, _, rfl, ?_⟩)
                by_cases hp2' : d.p = 2
                · have e2 : decide (V.int (d.p : Nat) = V.int 2) = true := decide_eq_true (by rw [hp2']; rfl)
                  rw [e2]
                  refine iteT ⟨_, rfl, _, rfl, rowD d.t, _, dp_row hda.2, dp_lrows (X.t.same sA), row_shaped _, rows_shaped _, ?_⟩
                  rw [any_true ((hST.mem _).mpr (deed2_made tabs hd hp2'))]
                  exact ⟨_, rfl, iteF ⟨⟨_, _, _, rfl⟩, s'⟩⟩
                · have e2 : decide (V.int (d.p : Nat) = V.int 2) = false := decide_eq_false (fun z => hp2' (by injection z with z; omega))
                  rw [e2]
                  exact iteF (iteF ⟨⟨_, _, _, rfl⟩, s'⟩)
            · obtain ⟨⟨v3, v6, v7, rfl⟩, s15⟩ := h15
              have s915 := s913.trans (s14.trans s15)
              have X15 := X.one (One.of s915) (X.well.same s915)
              refine ⟨_, rfl, _, rfl, _, rfl, _, rfl, wl, lo, lt, n, O, T, rfl, X15.well, hn1, hn9, X15.o, X15.t, X.nlo, X.nlt, ⟨X.o0, by have := X.ol; omega⟩, ⟨X.t0, by have := X.tl; omega⟩, put_closed tabs hSO hST, fun H16 o16 hw16 => ⟨_, rfl, iteF ?_⟩⟩
              have X16 := X15.one o16 hw16
              refine ⟨_, rfl, _, rfl, _, rfl, _, rfl, wl, h, lo, lt, n, ds, O, T, rfl, X16, fun H17 o17 hw17 => ⟨_, rfl, iteF ?_⟩⟩
              have X17 := X16.one o17 hw17
              exact ⟨_, rfl, _, rfl, _, rfl, wl, h, lo, lt, n, ds, O, T, rfl, X17, fun H18 o18 hw18 => q H18 (o9.trans ((One.of s915).trans (o16.trans (o17.trans o18))))⟩
      · rw [decide_eq_false hz]
        exact iteT (q H6 (o1.trans (One.of s16)))
end
end K26

set_option Elab.async false
set_option linter.all false
set_option maxRecDepth 100000
set_option maxHeartbeats 4000000
/-! # law -/
namespace K26
open PySem PySem.Spec PyProof.Rows L2
abbrev sLaw : Stmt := top 49
def spLaw (K : PySem.W.Frag) : Sp := fun vs H Q _ => ∃ (a : Addr) (ns : List Int), vs = [.ref a] ∧ SqL K H a (ns.map V.int) ∧ ns.length ≤ 63 ∧ ∀ H', Q (.bl true) H'
theorem cut_ints {xs : List V} {lo hi : Option Int} (h : ∀ v ∈ xs, ∃ z, v = V.int z) : ∀ v ∈ cutV xs lo hi, ∃ z, v = V.int z := fun v hv => h v (List.mem_of_mem_drop (List.mem_of_mem_take hv))
section
variable {P : Program} {w : World} {K : PySem.W.Frag} {mg : Str → Option Value} {base : Heap}
theorem sc_law : FnScope ["_law_script", "_law_k", "_law_cell"] ["_law_script"] (defScope sLaw) := ⟨rfl, rfl, rfl, by decide +kernel, rfl, by decide +kernel, by decide +kernel⟩
theorem ok_law (Z : Zs mg) {f : Addr} {fd : FuncData} (F : L2.Fun K "law" "law" sLaw f fd) (cR : Cal P w K mg base CX0 12 "_law_right" spRight) : FnOk P w K mg base CX0 13 f fd ["_law_script"] (spLaw K) := by
  refine F.ok sc_law (fun vs H Q E h => ?_) (fun cdv A outer s H vs Q E hr h => ?_)
  · obtain ⟨a, ns, rfl, _⟩ := h
    rfl
  · obtain ⟨a, ns, rfl, hS, hl, q⟩ := h
    refine ⟨_, pss_cons (ps_for PassesOwn.never rfl (pi_enum (by rfl) Z.enum (pa_cons (pe_slice sl_list (pe_op op_catS (pv 0) (pe_lst (pa_cons pe_int pa_nil))) po_none (po_some pe_int)) pa_nil)) (pg_tup rfl (pgs_cons (pg_name (i := 1) sc_law.nd rfl (.inl rfl)) (pgs_cons (pg_name (i := 2) sc_law.nd rfl (.inl rfl)) pgs_nil)))
        (pss_one (ps_if (pt_not (pt_val (pe_cl cR hr (by decide) pass0 (by rfl) (pa_cons (pe_lst (pa_cons (pe_op op_mul (pv 2) (pe_callTy call_int1 (by rfl) Z.int (by decide +kernel) (pa_cons (pe_cmpR op_ge (pv 2) (pe_op op_pow pe_int pe_int) (nomark _)) pa_nil)))
          (pa_cons (pe_op op_add (pe_op op_mod (pv 2) pe_int) (pe_op op_mul pe_int (pv 1))) (pa_cons pe_int pa_nil)))) pa_nil)))) (pss_one (ps_ret pe_bl)) pss_nil)))
      (pss_one (ps_ret pe_bl)), ?_⟩
    refine ⟨_, rfl, (by show 1 ≤ sizeLine; decide), fun l0 nl0 => ?_⟩
    have s0 := same_new (o := .lst [.int 0]) nl0
    refine ⟨a, l0, _, _, rfl, rfl, s0.seq hS, SqL.of upd_same, ?_, fun p np => ?_⟩
    · rw [List.length_map, sizeLine_eq]
      show ns.length + 1 ≤ 16777216
      omega
    have hints : ∀ v ∈ ns.map V.int ++ [V.int 0], ∃ z, v = V.int z := fun v hv => by
      rcases List.mem_append.mp hv with hv | hv
      · obtain ⟨z, _, rfl⟩ := List.mem_map.mp hv
        exact ⟨z, rfl⟩
      · exact ⟨0, List.mem_singleton.mp hv⟩
    refine ⟨_, rfl, p, _, rfl, SqL.of upd_same, fun cl ncl => ?_⟩
    have hcut := cut_ints (lo := none) (hi := some 3) hints
    generalize cutV (ns.map V.int ++ [V.int 0]) none (some 3) = cs at hcut
    refine ⟨cl, cs, rfl, SqL.of upd_same, for_it (walk_enum (xs := cs)) (fun i σ H' => (∃ v1 v2, σ = [some (.ref a), v1, v2]) ∧ H' cl = some (.lst cs)) ⟨⟨_, _, rfl⟩, upd_same⟩ (fun i σ H' _ h => SqL.of h.2) (fun i y σ H' H2 hi h hy => ?_) fun σ H' h => q H'⟩
    obtain ⟨⟨v1, v2, rfl⟩, hcl⟩ := h
    obtain ⟨Tp, x1, x2, rfl, nT, rfl, e1, e2⟩ := hy
    have e1 : x1 = V.int (i : Nat) := (Option.some.inj e1).symm
    subst e1
    obtain ⟨z, rfl⟩ := hcut x2 (List.mem_of_getElem? e2)
    have hcl2 := same_new (o := .tup [.int (i : Nat), .int z]) nT _ _ hcl
    refine ⟨Tp, _, rfl, SqT.of upd_same, rfl, _, _, rfl, _, _, rfl, rfl, ?_⟩
    generalize upd H' Tp (.tup [.int (i : Nat), .int z]) = H3 at hcl2
    refine ⟨_, rfl, _, rfl, _, _, rfl, rfl, ⟨by decide, by decide, by decide⟩, _, _, rfl, rfl, .inr ⟨_, rfl, _, _, rfl, rfl, .inr ?_, ?_⟩⟩
    · split <;> decide
    · refine ⟨_, rfl, _, _, rfl, rfl, (by show (0 : Int) < 2147483647; decide), _, rfl, _, _, rfl, rfl, .inl (by decide), _, _, rfl, rfl, (by show 3 ≤ sizeLine; decide), fun wl nwl => ?_⟩
      refine ⟨wl, rfl, ⟨_, _, _, upd_same⟩, fun H4 o4 => ⟨_, rfl, iteF ⟨⟨_, _, rfl⟩, o4 _ _ (same_new nwl _ _ hcl2) (ne_of_none hcl2 nwl)⟩⟩⟩
end
end K26

set_option Elab.async false
set_option linter.all false
set_option maxRecDepth 100000
set_option maxHeartbeats 4000000
/-! # What the top says, gathered -/
namespace K26
open PySem PySem.Spec PyProof.Rows L2
/-- how a def without defaults binds -/
def BOf (x qual : Str) (st : Stmt) (ps : List Str) : Prop := ∀ (kV doc pm : Value) (an : Option Addr) (cdv ct : Value) (us : List Value), us.length = ps.length → bindArgs (PySem.W.fnOf x qual (defArgs st) (defBody st) (defScope st) .none kV doc pm an cdv ct) ⟨us, []⟩ = pure (ps.zip us)
theorem bWh : BOf "is_whole" "is_whole" sWhole ["thing"] := fun _ _ _ _ _ _ us hl => match us, hl with | [_], _ => rfl
theorem bTh : BOf "is_thing" "is_thing" sThing ["thing", "size"] := fun _ _ _ _ _ _ us hl => match us, hl with | [_, _], _ => rfl
theorem bNm : BOf "is_name" "is_name" sName ["word"] := fun _ _ _ _ _ _ us hl => match us, hl with | [_], _ => rfl
theorem bRw : BOf "is_row" "is_row" sRow ["row", "wide", "size"] := fun _ _ _ _ _ _ us hl => match us, hl with | [_, _, _], _ => rfl
theorem bCe : BOf "cells" "cells" sCells ["size", "places"] := fun _ _ _ _ _ _ us hl => match us, hl with | [_, _], _ => rfl
theorem bAt : BOf "things_at" "things_at" sAt ["spot", "places", "size"] := fun _ _ _ _ _ _ us hl => match us, hl with | [_, _, _], _ => rfl
theorem bDe : BOf "is_deed" "is_deed" sDeed ["deed", "size"] := fun _ _ _ _ _ _ us hl => match us, hl with | [_, _], _ => rfl
theorem bCk : BOf "check_rows" "check_rows" sChk ["rows", "wide", "size"] := fun _ _ _ _ _ _ us hl => match us, hl with | [_, _, _], _ => rfl
theorem bPt : BOf "put_together" "put_together" sPut ["table", "size", "rows", "wide"] := fun _ _ _ _ _ _ us hl => match us, hl with | [_, _, _, _], _ => rfl
theorem bGr : BOf "grown" "grown" sGrown ["house", "rows", "wide", "most"] := fun _ _ _ _ _ _ us hl => match us, hl with | [_, _, _, _], _ => rfl
theorem bLe : BOf "leads_out" "leads_out" sLeads ["house", "deed", "lot", "wide"] := fun _ _ _ _ _ _ us hl => match us, hl with | [_, _, _, _], _ => rfl
theorem bFi : BOf "first_out" "first_out" sFirst ["house", "lot", "wide"] := fun _ _ _ _ _ _ us hl => match us, hl with | [_, _, _], _ => rfl
theorem bCl : BOf "is_closed" "is_closed" sClosed ["house", "lot", "wide"] := fun _ _ _ _ _ _ us hl => match us, hl with | [_, _, _], _ => rfl
theorem bAr : BOf "argument_rows" "argument_rows" sArgs ["size", "places"] := fun _ _ _ _ _ _ us hl => match us, hl with | [_, _], _ => rfl
theorem bPl : BOf "check_places" "check_places" sPlaces ["house", "places"] := fun _ _ _ _ _ _ us hl => match us, hl with | [_, _], _ => rfl
theorem bDr : BOf "_law_draw" "_law_draw" sDraw ["_law_well", "_law_many"] := fun _ _ _ _ _ _ us hl => match us, hl with | [_, _], _ => rfl
theorem bLN : BOf "_law_names" "_law_names" sNames ["_law_well", "_law_many"] := fun _ _ _ _ _ _ us hl => match us, hl with | [_, _], _ => rfl
theorem bLA : BOf "_law_all" "_law_all" sAll ["_law_size", "_law_places"] := fun _ _ _ _ _ _ us hl => match us, hl with | [_, _], _ => rfl
theorem bLT : BOf "_law_table" "_law_table" sTable ["_law_well", "_law_size", "_law_places"] := fun _ _ _ _ _ _ us hl => match us, hl with | [_, _, _], _ => rfl
theorem bLS : BOf "_law_small" "_law_small" sSmall ["_law_well"] := fun _ _ _ _ _ _ us hl => match us, hl with | [_], _ => rfl
theorem bLC : BOf "_law_calm" "_law_calm" sCalm ["_law_well", "_law_size"] := fun _ _ _ _ _ _ us hl => match us, hl with | [_, _], _ => rfl
theorem bLM : BOf "_law_made" "_law_made" sLMade ["_law_house", "_law_places", "_law_most"] := fun _ _ _ _ _ _ us hl => match us, hl with | [_, _, _], _ => rfl
theorem bLP : BOf "_law_put" "_law_put" sLPut ["_law_outer", "_law_inner", "_law_size"] := fun _ _ _ _ _ _ us hl => match us, hl with | [_, _, _], _ => rfl
theorem bPR : BOf "_law_put_right" "_law_put_right" sPutR ["_law_well", "_law_size", "_law_ones", "_law_twos"] := fun _ _ _ _ _ _ us hl => match us, hl with | [_, _, _, _], _ => rfl
theorem bLL : BOf "_law_lesser_right" "_law_lesser_right" sLess ["_law_well", "_law_house", "_law_ones", "_law_twos"] := fun _ _ _ _ _ _ us hl => match us, hl with | [_, _, _, _], _ => rfl
theorem bLO : BOf "_law_lot_right" "_law_lot_right" sLot ["_law_well", "_law_house", "_law_twos"] := fun _ _ _ _ _ _ us hl => match us, hl with | [_, _, _], _ => rfl
theorem bLR : BOf "_law_right" "_law_right" sRight ["_law_well"] := fun _ _ _ _ _ _ us hl => match us, hl with | [_], _ => rfl
theorem bHT : BOf "things" "House.things" sHThings ["self"] := fun _ _ _ _ _ _ us hl => match us, hl with | [_], _ => rfl
theorem bHD : BOf "deeds" "House.deeds" sHDeeds ["self"] := fun _ _ _ _ _ _ us hl => match us, hl with | [_], _ => rfl
theorem bHN : BOf "names" "House.names" sHNames ["self"] := fun _ _ _ _ _ _ us hl => match us, hl with | [_], _ => rfl
theorem bGP : BOf "put" "Growing.put" sGPut ["self", "row", "step"] := fun _ _ _ _ _ _ us hl => match us, hl with | [_, _, _], _ => rfl
theorem bGU : BOf "use" "Growing.use" sGUse ["self", "deed", "spots"] := fun _ _ _ _ _ _ us hl => match us, hl with | [_, _, _], _ => rfl
theorem bGF : BOf "spread_from" "Growing.spread_from" sGFrom ["self", "at"] := fun _ _ _ _ _ _ us hl => match us, hl with | [_, _], _ => rfl
theorem bGG : BOf "grow" "Growing.grow" sGGrow ["self"] := fun _ _ _ _ _ _ us hl => match us, hl with | [_], _ => rfl
theorem bHI : BOf "__init__" "House.__init__" sHInit ["self", "size", "deeds"] := fun _ _ _ _ _ _ us hl => match us, hl with | [_, _, _], _ => rfl
theorem bGI : BOf "__init__" "Growing.__init__" sGInit ["self", "house", "wide", "most"] := fun _ _ _ _ _ _ us hl => match us, hl with | [_, _, _, _], _ => rfl
theorem bTM : BOf "__init__" "TooMany.__init__" sTooMany ["self", "many"] := fun _ _ _ _ _ _ us hl => match us, hl with | [_, _], _ => rfl
section
variable {K : PySem.W.Frag} {mg : Str → Option Value} {h : Heap} {x m qual : Str} {st : Stmt} {ps : List Str} {f C : Addr} {oc : Value} {od an : Option Addr} {osl : Array (Option Value)} {kV doc pm cdv ct : Value}
theorem mk_def (hb : BOf x x st ps) (G : h.Ns mainGlobals mg) (X : K.In h) (a : PySem.W.nsIn K mainGlobals x = some (some (.ref f))) (l : K.lookup f = some ⟨oc, od, .func (PySem.W.fnOf x x (defArgs st) (defBody st) (defScope st) .none kV doc pm an cdv ct), osl⟩)
    (c : PySem.W.codeIn K cdv x = true) (k : PySem.W.keepIn K (.ref f) = true) : DefAt K mg x st ps := ⟨f, _, fun_mk l c k, PySem.W.mg_of X G a, (fun_mk l c k).binds hb⟩
theorem mk_met (hb : BOf m qual st ps) (a : PySem.W.findIn K (.ref C) m = some (some (.ref f))) (i : PySem.W.isFn K (.ref f) = true) (l : K.lookup f = some ⟨oc, od, .func (PySem.W.fnOf m qual (defArgs st) (defBody st) (defScope st) .none kV doc pm an cdv ct), osl⟩)
    (c : PySem.W.codeIn K cdv qual = true) (k : PySem.W.keepIn K (.ref f) = true) : MetAt K C m qual st ps := ⟨f, _, fun_mk l c k, ⟨a, i, k⟩, (fun_mk l c k).binds hb⟩
theorem mk_ini (hb : BOf "__init__" qual st ps) (g : mg x = some (.ref C)) (mk : PySem.W.makesIn K C = true) (kc : PySem.W.keepIn K (.ref C) = true) (a : PySem.W.findIn K (.ref C) "__init__" = some (some (.ref f))) (i : PySem.W.isFn K (.ref f) = true)
    (l : K.lookup f = some ⟨oc, od, .func (PySem.W.fnOf "__init__" qual (defArgs st) (defBody st) (defScope st) .none kV doc pm an cdv ct), osl⟩) (c : PySem.W.codeIn K cdv qual = true) (k : PySem.W.keepIn K (.ref f) = true) : IniAt K mg x C qual st ps :=
  ⟨f, _, fun_mk l c k, ⟨mk, a, i, kc⟩, g, (fun_mk l c k).binds hb⟩
/-- a def with one default, 200 -/
theorem mk_defD {T : Addr} {tc : Value} {td : Option Addr} {tn : Nat} {tt : Tok} {tsl : Array (Option Value)} (G : h.Ns mainGlobals mg) (X : K.In h) (a : PySem.W.nsIn K mainGlobals x = some (some (.ref f))) (l : K.lookup f = some ⟨oc, od, .func (PySem.W.fnOf x x (defArgs st) (defBody st) (defScope st) (.ref T) kV doc pm an cdv ct), osl⟩)
    (t : K.lookup T = some ⟨tc, td, .seq #[.int 200 tt] tn, tsl⟩) (c : PySem.W.codeIn K cdv x = true) (k : PySem.W.keepIn K (.ref f) = true) : ∃ fd, DefAtD K mg x st f fd :=
  ⟨_, ⟨⟨oc, od, _, kV, doc, pm, an, cdv, ct, osl, rfl, l, c, .inr ⟨by simp, T, _, [.int 200 tt], tn, rfl, t, rfl, .cons ⟨tt, rfl⟩ .nil⟩, .inl rfl⟩, k⟩, PySem.W.mg_of X G a⟩
end
section
variable {P : Program} {w : World} {K : PySem.W.Frag} {mg : Str → Option Value} {base : Heap}
theorem law_all {C CH Ct W f fS fM : Addr} {fd fdS fdM : FuncData} (Z : Zs mg) (TH : HTxt K CH) (TG : GTxt K C) (TM : TMTxt K mg Ct W)
    (dWh : DefAt K mg "is_whole" sWhole ["thing"])
    (dTh : DefAt K mg "is_thing" sThing ["thing", "size"])
    (dNm : DefAt K mg "is_name" sName ["word"])
    (dRw : DefAt K mg "is_row" sRow ["row", "wide", "size"])
    (dCe : DefAt K mg "cells" sCells ["size", "places"])
    (dAt : DefAt K mg "things_at" sAt ["spot", "places", "size"])
    (dDe : DefAt K mg "is_deed" sDeed ["deed", "size"])
    (dCk : DefAt K mg "check_rows" sChk ["rows", "wide", "size"])
    (dPt : DefAt K mg "put_together" sPut ["table", "size", "rows", "wide"])
    (dGr : DefAt K mg "grown" sGrown ["house", "rows", "wide", "most"])
    (dLe : DefAt K mg "leads_out" sLeads ["house", "deed", "lot", "wide"])
    (dFi : DefAt K mg "first_out" sFirst ["house", "lot", "wide"])
    (dCl : DefAt K mg "is_closed" sClosed ["house", "lot", "wide"])
    (dAr : DefAt K mg "argument_rows" sArgs ["size", "places"])
    (dPl : DefAt K mg "check_places" sPlaces ["house", "places"])
    (dDr : DefAt K mg "_law_draw" sDraw ["_law_well", "_law_many"])
    (dLN : DefAt K mg "_law_names" sNames ["_law_well", "_law_many"])
    (dLA : DefAt K mg "_law_all" sAll ["_law_size", "_law_places"])
    (dLT : DefAt K mg "_law_table" sTable ["_law_well", "_law_size", "_law_places"])
    (dLS : DefAt K mg "_law_small" sSmall ["_law_well"])
    (dLC : DefAt K mg "_law_calm" sCalm ["_law_well", "_law_size"])
    (dLM : DefAt K mg "_law_made" sLMade ["_law_house", "_law_places", "_law_most"])
    (dLP : DefAt K mg "_law_put" sLPut ["_law_outer", "_law_inner", "_law_size"])
    (dPR : DefAt K mg "_law_put_right" sPutR ["_law_well", "_law_size", "_law_ones", "_law_twos"])
    (dLL : DefAt K mg "_law_lesser_right" sLess ["_law_well", "_law_house", "_law_ones", "_law_twos"])
    (dLO : DefAt K mg "_law_lot_right" sLot ["_law_well", "_law_house", "_law_twos"])
    (dLR : DefAt K mg "_law_right" sRight ["_law_well"])
    (dHT : MetAt K CH "things" "House.things" sHThings ["self"])
    (dHD : MetAt K CH "deeds" "House.deeds" sHDeeds ["self"])
    (dHN : MetAt K CH "names" "House.names" sHNames ["self"])
    (dGP : MetAt K C "put" "Growing.put" sGPut ["self", "row", "step"])
    (dGU : MetAt K C "use" "Growing.use" sGUse ["self", "deed", "spots"])
    (dGF : MetAt K C "spread_from" "Growing.spread_from" sGFrom ["self", "at"])
    (dGG : MetAt K C "grow" "Growing.grow" sGGrow ["self"])
    (dHI : IniAt K mg "House" CH "House.__init__" sHInit ["self", "size", "deeds"])
    (dGI : IniAt K mg "Growing" C "Growing.__init__" sGInit ["self", "house", "wide", "most"])
    (dSp : DefAtD K mg "spread" sSpread fS fdS) (dMd : DefAtD K mg "deeds_made" sMade fM fdM) (F : L2.Fun K "law" "law" sLaw f fd) : FnOk P w K mg base CX0 13 f fd ["_law_script"] (spLaw K) := by
  have cW := c_whole (P := P) (w := w) (base := base) Z dWh
  have cT := c_thing dTh cW
  have cR := c_row Z dRw cT
  have cN := c_name (P := P) (w := w) (base := base) Z dNm
  have cC := c_cells (P := P) (w := w) (base := base) Z dCe
  have cA := c_at (P := P) (w := w) (base := base) Z dAt
  have cD := c_deed Z dDe cW cN cC cR
  have cH := c_hinit Z TH dHI cW cD
  have cTh := c_things (P := P) (w := w) (mg := mg) (base := base) TH dHT
  have cDs := c_deeds (P := P) (w := w) (base := base) Z TH dHD
  have cNs := c_names (P := P) (w := w) (base := base) Z TH dHN
  have cK := c_chk Z dCk cR
  have cPT := c_put (P := P) (w := w) (base := base) Z dPt
  have cGp := c_gput (P := P) (w := w) (base := base) Z TG TM dGP
  have cGi := c_ginit (P := P) (w := w) (base := base) TG dGI
  have cGu := c_guse Z TG TH dGU cGp cPT cTh
  have cGf := c_gfrom Z TG TH dGF cGu cDs
  have cGg := c_ggrow Z TG dGG cGf
  have cGr := c_grown Z TG TH dGr cGi cGp cDs cGg
  obtain ⟨cS, cSn⟩ := c_spread Z TG TH dSp cK cTh cGr
  have cLe := c_leads Z TH dLe cPT cTh
  have cFi := c_first Z TH dFi cLe cDs
  have cCl := c_closed Z TH dCl cK cTh cFi
  have cAr := c_args Z dAr cC cA
  have cPl := c_places Z TH dPl cW cC cTh
  have cMd := c_made Z TH dMd cPl cAr cC cTh cSn
  have cDr := c_draw (P := P) (w := w) (base := base) dDr
  have cLA := c_all (P := P) (w := w) (base := base) Z dLA
  have cLT := c_table Z dLT cDr cLA
  have cLC := c_calm Z dLC cDr cLA
  have cLN := c_nms Z dLN cDr
  have cLS := c_small Z TH dLS cDr cLN cLT cLC cH
  have cLM := c_lmade TM dLM cMd
  have cLP := c_lput (P := P) (w := w) (base := base) Z dLP
  have cPR := c_putr Z dPR cDr cLA cLP
  have cLL := c_less Z TH dLL cDr cTh cDs cH cLM
  have cLO := c_lot Z TH dLO cDr cTh cH cS cCl
  have cLR := c_right Z TH dLR cLS cTh cDs cNs cLM cAr cPR cLL cLO
  exact ok_law Z F cLR
end
end K26

set_option Elab.async false
set_option linter.all false
set_option maxRecDepth 100000
set_option maxHeartbeats 4000000
/-! # The facts of the top, one by one; the walk's end -/
namespace K26
open PySem PySem.Spec PyProof.Rows L2
theorem exm_own {K : PySem.W.Frag} {S : Addr} (h1 : PySem.W.subIn K (.ref S) (.type "BaseException") = some true) (h2 : PySem.W.isClsIn K S = true) (h3 : PySem.W.typeIn K (.ref S) = some (.type "type")) (h4 : PySem.W.subIn K (.ref S) (.ref S) = some true) : PySem.W.exmOne K (.ref S) (.ref S) = some true := by
  have a1 : (PySem.W.subIn K (.ref S) (.type "BaseException") == some true) = true := by rw [h1] <;> rfl
  have a2 : ((PySem.W.clsIn K S).isSome && PySem.W.typeIn K (.ref S) == some (.type "type")) = true := by
    have h5 : (PySem.W.clsIn K S).isSome = true := h2
    rw [h5, h3] <;> rfl
  show (if (PySem.W.subIn K (.ref S) (.type "BaseException") == some true) = true then (if ((PySem.W.clsIn K S).isSome && PySem.W.typeIn K (.ref S) == some (.type "type")) = true then PySem.W.subIn K (.ref S) (.ref S) else none) else none) = some true
  rw [if_pos a1, if_pos a2]
  exact h4
theorem all_mk {l : PySem.W.OpenLaw} {w : World} {K : PySem.W.Frag} {h : Heap} {mg : Str → Option Value} {fa C CH Ct W : Addr} (X : K.In h) (G : h.Ns mainGlobals mg) (hfa : mg "law" = some (.ref fa))
    {nm q : Str} {N : Addr} {bs bm : List Value} {sn : List Str} {sub : List Value} {ab : Bool} {col : Option Bool} {dd : Option Addr} {m0 m1 m2 m3 m5 : Option Value} {t1 t2 t3 t4 t5 : Tok}
    {fT fWh fTh fNm fRw fCe fAt fDe fCk fPt fGr fLe fFi fCl fAr fPl fDr fLN fLA fLT fLS fLC fLM fLP fPR fLL fLO fLR fHT fHD fHN fGP fGU fGF fGG fHI fGI fSp fMd fLa TSp TMd : Addr} {odT anT odWh anWh odTh anTh odNm anNm odRw anRw odCe anCe odAt anAt odDe anDe odCk anCk odPt anPt odGr anGr odLe anLe odFi anFi odCl anCl odAr anAr odPl anPl odDr anDr odLN anLN odLA anLA odLT anLT odLS anLS odLC anLC odLM anLM odLP anLP odPR anPR odLL anLL odLO anLO odLR anLR odHT anHT odHD anHD odHN anHN odGP anGP odGU anGU odGF anGF odGG anGG odHI anHI odGI anGI odSp anSp odMd anMd odLa anLa tdSp tdMd : Option Addr} {slT slWh slTh slNm slRw slCe slAt slDe slCk slPt slGr slLe slFi slCl slAr slPl slDr slLN slLA slLT slLS slLC slLM slLP slPR slLL slLO slLR slHT slHD slHN slGP slGU slGF slGG slHI slGI slSp slMd slLa tslSp tslMd : Array (Option Value)}
    {ocT kVT dcT pmT cdT ctT ocWh kVWh dcWh pmWh cdWh ctWh ocTh kVTh dcTh pmTh cdTh ctTh ocNm kVNm dcNm pmNm cdNm ctNm ocRw kVRw dcRw pmRw cdRw ctRw ocCe kVCe dcCe pmCe cdCe ctCe ocAt kVAt dcAt pmAt cdAt ctAt ocDe kVDe dcDe pmDe cdDe ctDe ocCk kVCk dcCk pmCk cdCk ctCk ocPt kVPt dcPt pmPt cdPt ctPt ocGr kVGr dcGr pmGr cdGr ctGr ocLe kVLe dcLe pmLe cdLe ctLe ocFi kVFi dcFi pmFi cdFi ctFi ocCl kVCl dcCl pmCl cdCl ctCl ocAr kVAr dcAr pmAr cdAr ctAr ocPl kVPl dcPl pmPl cdPl ctPl ocDr kVDr dcDr pmDr cdDr ctDr ocLN kVLN dcLN pmLN cdLN ctLN ocLA kVLA dcLA pmLA cdLA ctLA ocLT kVLT dcLT pmLT cdLT ctLT ocLS kVLS dcLS pmLS cdLS ctLS ocLC kVLC dcLC pmLC cdLC ctLC ocLM kVLM dcLM pmLM cdLM ctLM ocLP kVLP dcLP pmLP cdLP ctLP ocPR kVPR dcPR pmPR cdPR ctPR ocLL kVLL dcLL pmLL cdLL ctLL ocLO kVLO dcLO pmLO cdLO ctLO ocLR kVLR dcLR pmLR cdLR ctLR ocHT kVHT dcHT pmHT cdHT ctHT ocHD kVHD dcHD pmHD cdHD ctHD ocHN kVHN dcHN pmHN cdHN ctHN ocGP kVGP dcGP pmGP cdGP ctGP ocGU kVGU dcGU pmGU cdGU ctGU ocGF kVGF dcGF pmGF cdGF ctGF ocGG kVGG dcGG pmGG cdGG ctGG ocHI kVHI dcHI pmHI cdHI ctHI ocGI kVGI dcGI pmGI cdGI ctGI ocSp kVSp dcSp pmSp cdSp ctSp ocMd kVMd dcMd pmMd cdMd ctMd ocLa kVLa dcLa pmLa cdLa ctLa tcSp tcMd : Value} {tnSp tnMd : Nat} {ttSp ttMd : Tok}
    (aCH : PySem.W.nsIn K mainGlobals "House" = some (some (.ref CH)))
    (aC : PySem.W.nsIn K mainGlobals "Growing" = some (some (.ref C)))
    (aCt : PySem.W.nsIn K mainGlobals "TooMany" = some (some (.ref Ct)))
    (aW : PySem.W.nsIn K mainGlobals "WishError" = some (some (.ref W)))
    (pgCH : PySem.W.plainGet K CH Str.empty = true)
    (hdCH : PySem.W.hasDictIn K CH = true)
    (poCH : PySem.W.plainOver K CH = true)
    (saCH : PySem.W.findIn K (.ref CH) "__setattr__" = some (some (.builtin "object.__setattr__")))
    (mkCH : PySem.W.makesIn K CH = true)
    (kcCH : PySem.W.keepIn K (.ref CH) = true)
    (pgC : PySem.W.plainGet K C Str.empty = true)
    (hdC : PySem.W.hasDictIn K C = true)
    (poC : PySem.W.plainOver K C = true)
    (saC : PySem.W.findIn K (.ref C) "__setattr__" = some (some (.builtin "object.__setattr__")))
    (mkC : PySem.W.makesIn K C = true)
    (kcC : PySem.W.keepIn K (.ref C) = true)
    (nHS : PySem.W.findIn K (.ref CH) "size" = some none)
    (nHB : PySem.W.findIn K (.ref CH) "by_name" = some none)
    (nG0 : PySem.W.findIn K (.ref C) "house" = some none)
    (nG1 : PySem.W.findIn K (.ref C) "wide" = some none)
    (nG2 : PySem.W.findIn K (.ref C) "most" = some none)
    (nG3 : PySem.W.findIn K (.ref C) "numbers" = some none)
    (nG4 : PySem.W.findIn K (.ref C) "rows" = some none)
    (nG5 : PySem.W.findIn K (.ref C) "steps" = some none)
    (xL : K.lookup Ct = some (excClassObj nm q Ct N bs bm true sn sub ab col dd m0 m1 m2 m3 m5 "ValueError.__new__"))
    (rv : PySem.HandSPX.refsVE bm = true)
    (saT : PySem.W.findIn K (.ref Ct) "__setattr__" = some (some (.builtin "object.__setattr__")))
    (eT : PySem.W.subIn K (.ref Ct) (.type "BaseException") = some true)
    (tT : PySem.W.typeIn K (.ref Ct) = some (.type "type"))
    (kT : PySem.W.keepIn K (.ref Ct) = true)
    (iT : PySem.W.isClsIn K Ct = true)
    (sT : PySem.W.subIn K (.ref Ct) (.ref Ct) = some true)
    (nT : PySem.W.findIn K (.ref Ct) "many" = some none)
    (aTi : PySem.W.findIn K (.ref Ct) "__init__" = some (some (.ref fT)))
    (tTi : PySem.W.typeIn K (.ref fT) = some (.type "function"))
    (lT : K.lookup fT = some ⟨ocT, odT, .func (PySem.W.fnOf "__init__" "TooMany.__init__" (defArgs sTooMany) (defBody sTooMany) (defScope sTooMany) (.none) kVT dcT pmT anT cdT ctT), slT⟩)
    (cT : PySem.W.codeIn K cdT "TooMany.__init__" = true)
    (kTi : PySem.W.keepIn K (.ref fT) = true)
    (gaW : PySem.W.specialIn K (.ref W) "__getattribute__" = some (some (.builtin "type.__getattribute__")))
    (rdW : PySem.W.readsIn K W (.type "type") = true)
    (inW : PySem.W.findCls K (.ref W) (.type "type") "__init__" = some (.val (.builtin "ValueError.__init__")))
    (z_isinstance : PySem.W.nsIn K mainGlobals "isinstance" = some none)
    (z_int : PySem.W.nsIn K mainGlobals "int" = some none)
    (z_bool : PySem.W.nsIn K mainGlobals "bool" = some none)
    (z_str : PySem.W.nsIn K mainGlobals "str" = some none)
    (z_len : PySem.W.nsIn K mainGlobals "len" = some none)
    (z_all : PySem.W.nsIn K mainGlobals "all" = some none)
    (z_tuple : PySem.W.nsIn K mainGlobals "tuple" = some none)
    (z_range : PySem.W.nsIn K mainGlobals "range" = some none)
    (z_list : PySem.W.nsIn K mainGlobals "list" = some none)
    (z_enumerate : PySem.W.nsIn K mainGlobals "enumerate" = some none)
    (z_zip : PySem.W.nsIn K mainGlobals "zip" = some none)
    (z_sorted : PySem.W.nsIn K mainGlobals "sorted" = some none)
    (z_dict : PySem.W.nsIn K mainGlobals "dict" = some none)
    (z_sum : PySem.W.nsIn K mainGlobals "sum" = some none)
    (z_min : PySem.W.nsIn K mainGlobals "min" = some none)
    (z_max : PySem.W.nsIn K mainGlobals "max" = some none)
    (k_cThings : PySem.W.nsIn K mainGlobals "MOST_THINGS" = some (some (.int 9 t1)))
    (k_cDeeds : PySem.W.nsIn K mainGlobals "MOST_DEEDS" = some (some (.int 6 t2)))
    (k_cPlaces : PySem.W.nsIn K mainGlobals "MOST_PLACES" = some (some (.int 3 t3)))
    (k_cSmall : PySem.W.nsIn K mainGlobals "SMALL" = some (some (.str "abcdefghijklmnopqrstuvwxyz" t4)))
    (k_cWide : PySem.W.nsIn K mainGlobals "MOST_WIDE" = some (some (.int 81 t5)))
    (aWh : PySem.W.nsIn K mainGlobals "is_whole" = some (some (.ref fWh)))
    (lWh : K.lookup fWh = some ⟨ocWh, odWh, .func (PySem.W.fnOf "is_whole" "is_whole" (defArgs sWhole) (defBody sWhole) (defScope sWhole) (.none) kVWh dcWh pmWh anWh cdWh ctWh), slWh⟩)
    (cWh : PySem.W.codeIn K cdWh "is_whole" = true)
    (kWh : PySem.W.keepIn K (.ref fWh) = true)
    (aTh : PySem.W.nsIn K mainGlobals "is_thing" = some (some (.ref fTh)))
    (lTh : K.lookup fTh = some ⟨ocTh, odTh, .func (PySem.W.fnOf "is_thing" "is_thing" (defArgs sThing) (defBody sThing) (defScope sThing) (.none) kVTh dcTh pmTh anTh cdTh ctTh), slTh⟩)
    (cTh : PySem.W.codeIn K cdTh "is_thing" = true)
    (kTh : PySem.W.keepIn K (.ref fTh) = true)
    (aNm : PySem.W.nsIn K mainGlobals "is_name" = some (some (.ref fNm)))
    (lNm : K.lookup fNm = some ⟨ocNm, odNm, .func (PySem.W.fnOf "is_name" "is_name" (defArgs sName) (defBody sName) (defScope sName) (.none) kVNm dcNm pmNm anNm cdNm ctNm), slNm⟩)
    (cNm : PySem.W.codeIn K cdNm "is_name" = true)
    (kNm : PySem.W.keepIn K (.ref fNm) = true)
    (aRw : PySem.W.nsIn K mainGlobals "is_row" = some (some (.ref fRw)))
    (lRw : K.lookup fRw = some ⟨ocRw, odRw, .func (PySem.W.fnOf "is_row" "is_row" (defArgs sRow) (defBody sRow) (defScope sRow) (.none) kVRw dcRw pmRw anRw cdRw ctRw), slRw⟩)
    (cRw : PySem.W.codeIn K cdRw "is_row" = true)
    (kRw : PySem.W.keepIn K (.ref fRw) = true)
    (aCe : PySem.W.nsIn K mainGlobals "cells" = some (some (.ref fCe)))
    (lCe : K.lookup fCe = some ⟨ocCe, odCe, .func (PySem.W.fnOf "cells" "cells" (defArgs sCells) (defBody sCells) (defScope sCells) (.none) kVCe dcCe pmCe anCe cdCe ctCe), slCe⟩)
    (cCe : PySem.W.codeIn K cdCe "cells" = true)
    (kCe : PySem.W.keepIn K (.ref fCe) = true)
    (aAt : PySem.W.nsIn K mainGlobals "things_at" = some (some (.ref fAt)))
    (lAt : K.lookup fAt = some ⟨ocAt, odAt, .func (PySem.W.fnOf "things_at" "things_at" (defArgs sAt) (defBody sAt) (defScope sAt) (.none) kVAt dcAt pmAt anAt cdAt ctAt), slAt⟩)
    (cAt : PySem.W.codeIn K cdAt "things_at" = true)
    (kAt : PySem.W.keepIn K (.ref fAt) = true)
    (aDe : PySem.W.nsIn K mainGlobals "is_deed" = some (some (.ref fDe)))
    (lDe : K.lookup fDe = some ⟨ocDe, odDe, .func (PySem.W.fnOf "is_deed" "is_deed" (defArgs sDeed) (defBody sDeed) (defScope sDeed) (.none) kVDe dcDe pmDe anDe cdDe ctDe), slDe⟩)
    (cDe : PySem.W.codeIn K cdDe "is_deed" = true)
    (kDe : PySem.W.keepIn K (.ref fDe) = true)
    (aCk : PySem.W.nsIn K mainGlobals "check_rows" = some (some (.ref fCk)))
    (lCk : K.lookup fCk = some ⟨ocCk, odCk, .func (PySem.W.fnOf "check_rows" "check_rows" (defArgs sChk) (defBody sChk) (defScope sChk) (.none) kVCk dcCk pmCk anCk cdCk ctCk), slCk⟩)
    (cCk : PySem.W.codeIn K cdCk "check_rows" = true)
    (kCk : PySem.W.keepIn K (.ref fCk) = true)
    (aPt : PySem.W.nsIn K mainGlobals "put_together" = some (some (.ref fPt)))
    (lPt : K.lookup fPt = some ⟨ocPt, odPt, .func (PySem.W.fnOf "put_together" "put_together" (defArgs sPut) (defBody sPut) (defScope sPut) (.none) kVPt dcPt pmPt anPt cdPt ctPt), slPt⟩)
    (cPt : PySem.W.codeIn K cdPt "put_together" = true)
    (kPt : PySem.W.keepIn K (.ref fPt) = true)
    (aGr : PySem.W.nsIn K mainGlobals "grown" = some (some (.ref fGr)))
    (lGr : K.lookup fGr = some ⟨ocGr, odGr, .func (PySem.W.fnOf "grown" "grown" (defArgs sGrown) (defBody sGrown) (defScope sGrown) (.none) kVGr dcGr pmGr anGr cdGr ctGr), slGr⟩)
    (cGr : PySem.W.codeIn K cdGr "grown" = true)
    (kGr : PySem.W.keepIn K (.ref fGr) = true)
    (aLe : PySem.W.nsIn K mainGlobals "leads_out" = some (some (.ref fLe)))
    (lLe : K.lookup fLe = some ⟨ocLe, odLe, .func (PySem.W.fnOf "leads_out" "leads_out" (defArgs sLeads) (defBody sLeads) (defScope sLeads) (.none) kVLe dcLe pmLe anLe cdLe ctLe), slLe⟩)
    (cLe : PySem.W.codeIn K cdLe "leads_out" = true)
    (kLe : PySem.W.keepIn K (.ref fLe) = true)
    (aFi : PySem.W.nsIn K mainGlobals "first_out" = some (some (.ref fFi)))
    (lFi : K.lookup fFi = some ⟨ocFi, odFi, .func (PySem.W.fnOf "first_out" "first_out" (defArgs sFirst) (defBody sFirst) (defScope sFirst) (.none) kVFi dcFi pmFi anFi cdFi ctFi), slFi⟩)
    (cFi : PySem.W.codeIn K cdFi "first_out" = true)
    (kFi : PySem.W.keepIn K (.ref fFi) = true)
    (aCl : PySem.W.nsIn K mainGlobals "is_closed" = some (some (.ref fCl)))
    (lCl : K.lookup fCl = some ⟨ocCl, odCl, .func (PySem.W.fnOf "is_closed" "is_closed" (defArgs sClosed) (defBody sClosed) (defScope sClosed) (.none) kVCl dcCl pmCl anCl cdCl ctCl), slCl⟩)
    (cCl : PySem.W.codeIn K cdCl "is_closed" = true)
    (kCl : PySem.W.keepIn K (.ref fCl) = true)
    (aAr : PySem.W.nsIn K mainGlobals "argument_rows" = some (some (.ref fAr)))
    (lAr : K.lookup fAr = some ⟨ocAr, odAr, .func (PySem.W.fnOf "argument_rows" "argument_rows" (defArgs sArgs) (defBody sArgs) (defScope sArgs) (.none) kVAr dcAr pmAr anAr cdAr ctAr), slAr⟩)
    (cAr : PySem.W.codeIn K cdAr "argument_rows" = true)
    (kAr : PySem.W.keepIn K (.ref fAr) = true)
    (aPl : PySem.W.nsIn K mainGlobals "check_places" = some (some (.ref fPl)))
    (lPl : K.lookup fPl = some ⟨ocPl, odPl, .func (PySem.W.fnOf "check_places" "check_places" (defArgs sPlaces) (defBody sPlaces) (defScope sPlaces) (.none) kVPl dcPl pmPl anPl cdPl ctPl), slPl⟩)
    (cPl : PySem.W.codeIn K cdPl "check_places" = true)
    (kPl : PySem.W.keepIn K (.ref fPl) = true)
    (aDr : PySem.W.nsIn K mainGlobals "_law_draw" = some (some (.ref fDr)))
    (lDr : K.lookup fDr = some ⟨ocDr, odDr, .func (PySem.W.fnOf "_law_draw" "_law_draw" (defArgs sDraw) (defBody sDraw) (defScope sDraw) (.none) kVDr dcDr pmDr anDr cdDr ctDr), slDr⟩)
    (cDr : PySem.W.codeIn K cdDr "_law_draw" = true)
    (kDr : PySem.W.keepIn K (.ref fDr) = true)
    (aLN : PySem.W.nsIn K mainGlobals "_law_names" = some (some (.ref fLN)))
    (lLN : K.lookup fLN = some ⟨ocLN, odLN, .func (PySem.W.fnOf "_law_names" "_law_names" (defArgs sNames) (defBody sNames) (defScope sNames) (.none) kVLN dcLN pmLN anLN cdLN ctLN), slLN⟩)
    (cLN : PySem.W.codeIn K cdLN "_law_names" = true)
    (kLN : PySem.W.keepIn K (.ref fLN) = true)
    (aLA : PySem.W.nsIn K mainGlobals "_law_all" = some (some (.ref fLA)))
    (lLA : K.lookup fLA = some ⟨ocLA, odLA, .func (PySem.W.fnOf "_law_all" "_law_all" (defArgs sAll) (defBody sAll) (defScope sAll) (.none) kVLA dcLA pmLA anLA cdLA ctLA), slLA⟩)
    (cLA : PySem.W.codeIn K cdLA "_law_all" = true)
    (kLA : PySem.W.keepIn K (.ref fLA) = true)
    (aLT : PySem.W.nsIn K mainGlobals "_law_table" = some (some (.ref fLT)))
    (lLT : K.lookup fLT = some ⟨ocLT, odLT, .func (PySem.W.fnOf "_law_table" "_law_table" (defArgs sTable) (defBody sTable) (defScope sTable) (.none) kVLT dcLT pmLT anLT cdLT ctLT), slLT⟩)
    (cLT : PySem.W.codeIn K cdLT "_law_table" = true)
    (kLT : PySem.W.keepIn K (.ref fLT) = true)
    (aLS : PySem.W.nsIn K mainGlobals "_law_small" = some (some (.ref fLS)))
    (lLS : K.lookup fLS = some ⟨ocLS, odLS, .func (PySem.W.fnOf "_law_small" "_law_small" (defArgs sSmall) (defBody sSmall) (defScope sSmall) (.none) kVLS dcLS pmLS anLS cdLS ctLS), slLS⟩)
    (cLS : PySem.W.codeIn K cdLS "_law_small" = true)
    (kLS : PySem.W.keepIn K (.ref fLS) = true)
    (aLC : PySem.W.nsIn K mainGlobals "_law_calm" = some (some (.ref fLC)))
    (lLC : K.lookup fLC = some ⟨ocLC, odLC, .func (PySem.W.fnOf "_law_calm" "_law_calm" (defArgs sCalm) (defBody sCalm) (defScope sCalm) (.none) kVLC dcLC pmLC anLC cdLC ctLC), slLC⟩)
    (cLC : PySem.W.codeIn K cdLC "_law_calm" = true)
    (kLC : PySem.W.keepIn K (.ref fLC) = true)
    (aLM : PySem.W.nsIn K mainGlobals "_law_made" = some (some (.ref fLM)))
    (lLM : K.lookup fLM = some ⟨ocLM, odLM, .func (PySem.W.fnOf "_law_made" "_law_made" (defArgs sLMade) (defBody sLMade) (defScope sLMade) (.none) kVLM dcLM pmLM anLM cdLM ctLM), slLM⟩)
    (cLM : PySem.W.codeIn K cdLM "_law_made" = true)
    (kLM : PySem.W.keepIn K (.ref fLM) = true)
    (aLP : PySem.W.nsIn K mainGlobals "_law_put" = some (some (.ref fLP)))
    (lLP : K.lookup fLP = some ⟨ocLP, odLP, .func (PySem.W.fnOf "_law_put" "_law_put" (defArgs sLPut) (defBody sLPut) (defScope sLPut) (.none) kVLP dcLP pmLP anLP cdLP ctLP), slLP⟩)
    (cLP : PySem.W.codeIn K cdLP "_law_put" = true)
    (kLP : PySem.W.keepIn K (.ref fLP) = true)
    (aPR : PySem.W.nsIn K mainGlobals "_law_put_right" = some (some (.ref fPR)))
    (lPR : K.lookup fPR = some ⟨ocPR, odPR, .func (PySem.W.fnOf "_law_put_right" "_law_put_right" (defArgs sPutR) (defBody sPutR) (defScope sPutR) (.none) kVPR dcPR pmPR anPR cdPR ctPR), slPR⟩)
    (cPR : PySem.W.codeIn K cdPR "_law_put_right" = true)
    (kPR : PySem.W.keepIn K (.ref fPR) = true)
    (aLL : PySem.W.nsIn K mainGlobals "_law_lesser_right" = some (some (.ref fLL)))
    (lLL : K.lookup fLL = some ⟨ocLL, odLL, .func (PySem.W.fnOf "_law_lesser_right" "_law_lesser_right" (defArgs sLess) (defBody sLess) (defScope sLess) (.none) kVLL dcLL pmLL anLL cdLL ctLL), slLL⟩)
    (cLL : PySem.W.codeIn K cdLL "_law_lesser_right" = true)
    (kLL : PySem.W.keepIn K (.ref fLL) = true)
    (aLO : PySem.W.nsIn K mainGlobals "_law_lot_right" = some (some (.ref fLO)))
    (lLO : K.lookup fLO = some ⟨ocLO, odLO, .func (PySem.W.fnOf "_law_lot_right" "_law_lot_right" (defArgs sLot) (defBody sLot) (defScope sLot) (.none) kVLO dcLO pmLO anLO cdLO ctLO), slLO⟩)
    (cLO : PySem.W.codeIn K cdLO "_law_lot_right" = true)
    (kLO : PySem.W.keepIn K (.ref fLO) = true)
    (aLR : PySem.W.nsIn K mainGlobals "_law_right" = some (some (.ref fLR)))
    (lLR : K.lookup fLR = some ⟨ocLR, odLR, .func (PySem.W.fnOf "_law_right" "_law_right" (defArgs sRight) (defBody sRight) (defScope sRight) (.none) kVLR dcLR pmLR anLR cdLR ctLR), slLR⟩)
    (cLR : PySem.W.codeIn K cdLR "_law_right" = true)
    (kLR : PySem.W.keepIn K (.ref fLR) = true)
    (aHT : PySem.W.findIn K (.ref CH) "things" = some (some (.ref fHT)))
    (iHT : PySem.W.isFn K (.ref fHT) = true)
    (lHT : K.lookup fHT = some ⟨ocHT, odHT, .func (PySem.W.fnOf "things" "House.things" (defArgs sHThings) (defBody sHThings) (defScope sHThings) (.none) kVHT dcHT pmHT anHT cdHT ctHT), slHT⟩)
    (cHT : PySem.W.codeIn K cdHT "House.things" = true)
    (kHT : PySem.W.keepIn K (.ref fHT) = true)
    (aHD : PySem.W.findIn K (.ref CH) "deeds" = some (some (.ref fHD)))
    (iHD : PySem.W.isFn K (.ref fHD) = true)
    (lHD : K.lookup fHD = some ⟨ocHD, odHD, .func (PySem.W.fnOf "deeds" "House.deeds" (defArgs sHDeeds) (defBody sHDeeds) (defScope sHDeeds) (.none) kVHD dcHD pmHD anHD cdHD ctHD), slHD⟩)
    (cHD : PySem.W.codeIn K cdHD "House.deeds" = true)
    (kHD : PySem.W.keepIn K (.ref fHD) = true)
    (aHN : PySem.W.findIn K (.ref CH) "names" = some (some (.ref fHN)))
    (iHN : PySem.W.isFn K (.ref fHN) = true)
    (lHN : K.lookup fHN = some ⟨ocHN, odHN, .func (PySem.W.fnOf "names" "House.names" (defArgs sHNames) (defBody sHNames) (defScope sHNames) (.none) kVHN dcHN pmHN anHN cdHN ctHN), slHN⟩)
    (cHN : PySem.W.codeIn K cdHN "House.names" = true)
    (kHN : PySem.W.keepIn K (.ref fHN) = true)
    (aGP : PySem.W.findIn K (.ref C) "put" = some (some (.ref fGP)))
    (iGP : PySem.W.isFn K (.ref fGP) = true)
    (lGP : K.lookup fGP = some ⟨ocGP, odGP, .func (PySem.W.fnOf "put" "Growing.put" (defArgs sGPut) (defBody sGPut) (defScope sGPut) (.none) kVGP dcGP pmGP anGP cdGP ctGP), slGP⟩)
    (cGP : PySem.W.codeIn K cdGP "Growing.put" = true)
    (kGP : PySem.W.keepIn K (.ref fGP) = true)
    (aGU : PySem.W.findIn K (.ref C) "use" = some (some (.ref fGU)))
    (iGU : PySem.W.isFn K (.ref fGU) = true)
    (lGU : K.lookup fGU = some ⟨ocGU, odGU, .func (PySem.W.fnOf "use" "Growing.use" (defArgs sGUse) (defBody sGUse) (defScope sGUse) (.none) kVGU dcGU pmGU anGU cdGU ctGU), slGU⟩)
    (cGU : PySem.W.codeIn K cdGU "Growing.use" = true)
    (kGU : PySem.W.keepIn K (.ref fGU) = true)
    (aGF : PySem.W.findIn K (.ref C) "spread_from" = some (some (.ref fGF)))
    (iGF : PySem.W.isFn K (.ref fGF) = true)
    (lGF : K.lookup fGF = some ⟨ocGF, odGF, .func (PySem.W.fnOf "spread_from" "Growing.spread_from" (defArgs sGFrom) (defBody sGFrom) (defScope sGFrom) (.none) kVGF dcGF pmGF anGF cdGF ctGF), slGF⟩)
    (cGF : PySem.W.codeIn K cdGF "Growing.spread_from" = true)
    (kGF : PySem.W.keepIn K (.ref fGF) = true)
    (aGG : PySem.W.findIn K (.ref C) "grow" = some (some (.ref fGG)))
    (iGG : PySem.W.isFn K (.ref fGG) = true)
    (lGG : K.lookup fGG = some ⟨ocGG, odGG, .func (PySem.W.fnOf "grow" "Growing.grow" (defArgs sGGrow) (defBody sGGrow) (defScope sGGrow) (.none) kVGG dcGG pmGG anGG cdGG ctGG), slGG⟩)
    (cGG : PySem.W.codeIn K cdGG "Growing.grow" = true)
    (kGG : PySem.W.keepIn K (.ref fGG) = true)
    (aHI : PySem.W.findIn K (.ref CH) "__init__" = some (some (.ref fHI)))
    (iHI : PySem.W.isFn K (.ref fHI) = true)
    (lHI : K.lookup fHI = some ⟨ocHI, odHI, .func (PySem.W.fnOf "__init__" "House.__init__" (defArgs sHInit) (defBody sHInit) (defScope sHInit) (.none) kVHI dcHI pmHI anHI cdHI ctHI), slHI⟩)
    (cHI : PySem.W.codeIn K cdHI "House.__init__" = true)
    (kHI : PySem.W.keepIn K (.ref fHI) = true)
    (aGI : PySem.W.findIn K (.ref C) "__init__" = some (some (.ref fGI)))
    (iGI : PySem.W.isFn K (.ref fGI) = true)
    (lGI : K.lookup fGI = some ⟨ocGI, odGI, .func (PySem.W.fnOf "__init__" "Growing.__init__" (defArgs sGInit) (defBody sGInit) (defScope sGInit) (.none) kVGI dcGI pmGI anGI cdGI ctGI), slGI⟩)
    (cGI : PySem.W.codeIn K cdGI "Growing.__init__" = true)
    (kGI : PySem.W.keepIn K (.ref fGI) = true)
    (aSp : PySem.W.nsIn K mainGlobals "spread" = some (some (.ref fSp)))
    (lSp : K.lookup fSp = some ⟨ocSp, odSp, .func (PySem.W.fnOf "spread" "spread" (defArgs sSpread) (defBody sSpread) (defScope sSpread) (.ref TSp) kVSp dcSp pmSp anSp cdSp ctSp), slSp⟩)
    (tSp : K.lookup TSp = some ⟨tcSp, tdSp, .seq #[.int 200 ttSp] tnSp, tslSp⟩)
    (cSp : PySem.W.codeIn K cdSp "spread" = true)
    (kSp : PySem.W.keepIn K (.ref fSp) = true)
    (aMd : PySem.W.nsIn K mainGlobals "deeds_made" = some (some (.ref fMd)))
    (lMd : K.lookup fMd = some ⟨ocMd, odMd, .func (PySem.W.fnOf "deeds_made" "deeds_made" (defArgs sMade) (defBody sMade) (defScope sMade) (.ref TMd) kVMd dcMd pmMd anMd cdMd ctMd), slMd⟩)
    (tMd : K.lookup TMd = some ⟨tcMd, tdMd, .seq #[.int 200 ttMd] tnMd, tslMd⟩)
    (cMd : PySem.W.codeIn K cdMd "deeds_made" = true)
    (kMd : PySem.W.keepIn K (.ref fMd) = true)
    (aLa : PySem.W.nsIn K mainGlobals "law" = some (some (.ref fLa)))
    (lLa : K.lookup fLa = some ⟨ocLa, odLa, .func (PySem.W.fnOf "law" "law" (defArgs sLaw) (defBody sLaw) (defScope sLaw) (.none) kVLa dcLa pmLa anLa cdLa ctLa), slLa⟩)
    (cLa : PySem.W.codeIn K cdLa "law" = true)
    (kLa : PySem.W.keepIn K (.ref fLa) = true)
    : ∃ fd : FuncData, (∀ (s : Shared) (v : Value), BindsTo s fd ⟨[v], []⟩ [("_law_script", v)]) ∧ ∀ base : Heap, K.In base → base.Ns mainGlobals mg → FnOk l.prog w K mg base CX0 13 fa fd ["_law_script"] (spLaw K) := by
  have e := hfa.symm.trans (PySem.W.mg_of X G aLa)
  cases e
  have Z : Zs mg := { isi := PySem.W.mg_none_of X G z_isinstance, int := PySem.W.mg_none_of X G z_int, bool := PySem.W.mg_none_of X G z_bool, str := PySem.W.mg_none_of X G z_str, len := PySem.W.mg_none_of X G z_len, all := PySem.W.mg_none_of X G z_all, tuple := PySem.W.mg_none_of X G z_tuple, range := PySem.W.mg_none_of X G z_range, list := PySem.W.mg_none_of X G z_list, enum := PySem.W.mg_none_of X G z_enumerate, zip := PySem.W.mg_none_of X G z_zip, sorted := PySem.W.mg_none_of X G z_sorted, dict := PySem.W.mg_none_of X G z_dict, sum := PySem.W.mg_none_of X G z_sum, min := PySem.W.mg_none_of X G z_min, max := PySem.W.mg_none_of X G z_max, cThings := ⟨_, PySem.W.mg_of X G k_cThings⟩, cDeeds := ⟨_, PySem.W.mg_of X G k_cDeeds⟩, cPlaces := ⟨_, PySem.W.mg_of X G k_cPlaces⟩, cSmall := ⟨_, PySem.W.mg_of X G k_cSmall⟩, cWide := ⟨_, PySem.W.mg_of X G k_cWide⟩ }
  have TH : HTxt K CH := ⟨⟨pgCH, hdCH, poCH, saCH⟩, nHS, nHB⟩
  have TG : GTxt K C := ⟨⟨pgC, hdC, poC, saC⟩, nG0, nG1, nG2, nG3, nG4, nG5⟩
  have FT := fun_mk (st := sTooMany) (x := "__init__") (qual := "TooMany.__init__") lT cT kTi
  have TM : TMTxt K mg Ct W := ⟨⟨⟨nm, q, N, bs, bm, sn, sub, ab, col, dd, m0, m1, m2, m3, m5, xL, rv⟩, saT, eT, tT, kT⟩, PySem.W.mg_of X G aCt, PySem.W.mg_of X G aW, ⟨gaW, rdW, inW⟩, nT, exm_own eT iT tT sT, ⟨fT, _, FT, aTi, tTi, FT.binds bTM⟩⟩
  obtain ⟨fdS, DS⟩ := mk_defD (st := sSpread) (x := "spread") G X aSp lSp tSp cSp kSp
  obtain ⟨fdM, DM⟩ := mk_defD (st := sMade) (x := "deeds_made") G X aMd lMd tMd cMd kMd
  have FL := fun_mk (st := sLaw) (x := "law") (qual := "law") lLa cLa kLa
  exact ⟨_, fun s v => .of_eq rfl, fun base _ _ => law_all Z TH TG TM
    (mk_def bWh G X aWh lWh cWh kWh)
    (mk_def bTh G X aTh lTh cTh kTh)
    (mk_def bNm G X aNm lNm cNm kNm)
    (mk_def bRw G X aRw lRw cRw kRw)
    (mk_def bCe G X aCe lCe cCe kCe)
    (mk_def bAt G X aAt lAt cAt kAt)
    (mk_def bDe G X aDe lDe cDe kDe)
    (mk_def bCk G X aCk lCk cCk kCk)
    (mk_def bPt G X aPt lPt cPt kPt)
    (mk_def bGr G X aGr lGr cGr kGr)
    (mk_def bLe G X aLe lLe cLe kLe)
    (mk_def bFi G X aFi lFi cFi kFi)
    (mk_def bCl G X aCl lCl cCl kCl)
    (mk_def bAr G X aAr lAr cAr kAr)
    (mk_def bPl G X aPl lPl cPl kPl)
    (mk_def bDr G X aDr lDr cDr kDr)
    (mk_def bLN G X aLN lLN cLN kLN)
    (mk_def bLA G X aLA lLA cLA kLA)
    (mk_def bLT G X aLT lLT cLT kLT)
    (mk_def bLS G X aLS lLS cLS kLS)
    (mk_def bLC G X aLC lLC cLC kLC)
    (mk_def bLM G X aLM lLM cLM kLM)
    (mk_def bLP G X aLP lLP cLP kLP)
    (mk_def bPR G X aPR lPR cPR kPR)
    (mk_def bLL G X aLL lLL cLL kLL)
    (mk_def bLO G X aLO lLO cLO kLO)
    (mk_def bLR G X aLR lLR cLR kLR)
    (mk_met bHT aHT iHT lHT cHT kHT)
    (mk_met bHD aHD iHD lHD cHD kHD)
    (mk_met bHN aHN iHN lHN cHN kHN)
    (mk_met bGP aGP iGP lGP cGP kGP)
    (mk_met bGU aGU iGU lGU cGU kGU)
    (mk_met bGF aGF iGF lGF cGF kGF)
    (mk_met bGG aGG iGG lGG cGG kGG)
    (mk_ini bHI (PySem.W.mg_of X G aCH) mkCH kcCH aHI iHI lHI cHI kHI)
    (mk_ini bGI (PySem.W.mg_of X G aC) mkC kcC aGI iGI lGI cGI kGI)
    DS DM FL⟩
theorem walk {l : PySem.W.OpenLaw} {q : Program} {loose : List Str} {XP : (Str → Option Value) → Heap → Prop} {YP : World → Heap → Prop} {d : DefRec} {K : Params → PySem.W.Frag} (hn : l.most = some 63) (hdf : d.params.defaults = [])
    (hY : ∀ (w : World) (h : Heap), YP w h → (K w.params).In h)
    (F : ∀ (w : World) (mg : Str → Option Value) (fa : Addr) (h : Heap), (K w.params).In h → h.Ns mainGlobals mg → mg d.name = some (.ref fa) →
      ∃ fd : FuncData, (∀ (s : Shared) (u : Value), BindsTo s fd ⟨[u], []⟩ [("_law_script", u)]) ∧ ∀ base : Heap, (K w.params).In base → base.Ns mainGlobals mg → FnOk l.prog w (K w.params) mg base CX0 13 fa fd ["_law_script"] (spLaw (K w.params))) :
    PySem.W.WalkO q loose XP YP l.row.toRowW d [] (fun f vs => PySem.call f vs) :=
  L2.walk_of (n := 63) (k := 13) (x := "_law_script") (CX := fun _ => CX0) (sp := fun w => spLaw (K w.params)) hn (by decide) hdf ⟨rfl, by decide, by decide⟩ hY F (fun _ _ a ns hl _ hS => ⟨a, ns, rfl, hS, hl, fun _ => rfl⟩) fun _ _ _ _ _ z => z
end K26

set_option Elab.async false
open PySem PySem.W PyProof.Rows in
set_option maxRecDepth 100000 in
set_option maxHeartbeats 0 in
theorem PySem.Challenge.cw_wishdeeds_k26_whole_made_deeds_of_made_d_holds : PySem.Challenge.rw_wishdeeds_k26_whole_made_deeds_of_made_d.Holds := by
  w_on; o_law; k_head; (case hw => w_witness2)
  k_fill
  refine K26.walk (l := PySem.Challenge.rw_wishdeeds_k26_whole_made_deeds_of_made_d) rfl rfl (fun w h Y => PySem.W.kIn_of Y) ?F
  case F =>
    intro w mg fa h KX G hmg
    refine' K26.all_mk KX G hmg ?aCH ?aC ?aCt ?aW ?pgCH ?hdCH ?poCH ?saCH ?mkCH ?kcCH ?pgC ?hdC ?poC ?saC ?mkC ?kcC ?nHS ?nHB ?nG0 ?nG1 ?nG2 ?nG3 ?nG4 ?nG5 ?xL ?rv ?saT ?eT ?tT ?kT ?iT ?sT ?nT ?aTi ?tTi ?lT ?cT ?kTi ?gaW ?rdW ?inW ?z_isinstance ?z_int ?z_bool ?z_str ?z_len ?z_all ?z_tuple ?z_range ?z_list ?z_enumerate ?z_zip ?z_sorted ?z_dict ?z_sum ?z_min ?z_max ?k_cThings ?k_cDeeds ?k_cPlaces ?k_cSmall ?k_cWide ?aWh ?lWh ?cWh ?kWh ?aTh ?lTh ?cTh ?kTh ?aNm ?lNm ?cNm ?kNm ?aRw ?lRw ?cRw ?kRw ?aCe ?lCe ?cCe ?kCe ?aAt ?lAt ?cAt ?kAt ?aDe ?lDe ?cDe ?kDe ?aCk ?lCk ?cCk ?kCk ?aPt ?lPt ?cPt ?kPt ?aGr ?lGr ?cGr ?kGr ?aLe ?lLe ?cLe ?kLe ?aFi ?lFi ?cFi ?kFi ?aCl ?lCl ?cCl ?kCl ?aAr ?lAr ?cAr ?kAr ?aPl ?lPl ?cPl ?kPl ?aDr ?lDr ?cDr ?kDr ?aLN ?lLN ?cLN ?kLN ?aLA ?lLA ?cLA ?kLA ?aLT ?lLT ?cLT ?kLT ?aLS ?lLS ?cLS ?kLS ?aLC ?lLC ?cLC ?kLC ?aLM ?lLM ?cLM ?kLM ?aLP ?lLP ?cLP ?kLP ?aPR ?lPR ?cPR ?kPR ?aLL ?lLL ?cLL ?kLL ?aLO ?lLO ?cLO ?kLO ?aLR ?lLR ?cLR ?kLR ?aHT ?iHT ?lHT ?cHT ?kHT ?aHD ?iHD ?lHD ?cHD ?kHD ?aHN ?iHN ?lHN ?cHN ?kHN ?aGP ?iGP ?lGP ?cGP ?kGP ?aGU ?iGU ?lGU ?cGU ?kGU ?aGF ?iGF ?lGF ?cGF ?kGF ?aGG ?iGG ?lGG ?cGG ?kGG ?aHI ?iHI ?lHI ?cHI ?kHI ?aGI ?iGI ?lGI ?cGI ?kGI ?aSp ?lSp ?tSp ?cSp ?kSp ?aMd ?lMd ?tMd ?cMd ?kMd ?aLa ?lLa ?cLa ?kLa
    (case aCH => k_is)
    (case aC => k_is)
    (case aCt => k_is)
    (case aW => k_is)
    (case pgCH => k_is)
    (case hdCH => k_is)
    (case poCH => k_is)
    (case saCH => k_is)
    (case mkCH => k_is)
    (case kcCH => k_is)
    (case pgC => k_is)
    (case hdC => k_is)
    (case poC => k_is)
    (case saC => k_is)
    (case mkC => k_is)
    (case kcC => k_is)
    (case nHS => k_is)
    (case nHB => k_is)
    (case nG0 => k_is)
    (case nG1 => k_is)
    (case nG2 => k_is)
    (case nG3 => k_is)
    (case nG4 => k_is)
    (case nG5 => k_is)
    (case xL => k_is)
    (case rv => decide +kernel)
    (case saT => k_is)
    (case eT => k_is)
    (case tT => k_is)
    (case kT => k_is)
    (case iT => k_is)
    (case sT => first | rfl | k_is)
    (case nT => k_is)
    (case aTi => k_is)
    (case tTi => k_is)
    (case lT => k_is)
    (case cT => k_is)
    (case kTi => k_is)
    (case gaW => k_is)
    (case rdW => k_is)
    (case inW => k_is)
    (case z_isinstance => k_is)
    (case z_int => k_is)
    (case z_bool => k_is)
    (case z_str => k_is)
    (case z_len => k_is)
    (case z_all => k_is)
    (case z_tuple => k_is)
    (case z_range => k_is)
    (case z_list => k_is)
    (case z_enumerate => k_is)
    (case z_zip => k_is)
    (case z_sorted => k_is)
    (case z_dict => k_is)
    (case z_sum => k_is)
    (case z_min => k_is)
    (case z_max => k_is)
    (case k_cThings => k_is)
    (case k_cDeeds => k_is)
    (case k_cPlaces => k_is)
    (case k_cSmall => k_is)
    (case k_cWide => k_is)
    (case aWh => k_is)
    (case lWh => k_is)
    (case cWh => k_is)
    (case kWh => k_is)
    (case aTh => k_is)
    (case lTh => k_is)
    (case cTh => k_is)
    (case kTh => k_is)
    (case aNm => k_is)
    (case lNm => k_is)
    (case cNm => k_is)
    (case kNm => k_is)
    (case aRw => k_is)
    (case lRw => k_is)
    (case cRw => k_is)
    (case kRw => k_is)
    (case aCe => k_is)
    (case lCe => k_is)
    (case cCe => k_is)
    (case kCe => k_is)
    (case aAt => k_is)
    (case lAt => k_is)
    (case cAt => k_is)
    (case kAt => k_is)
    (case aDe => k_is)
    (case lDe => k_is)
    (case cDe => k_is)
    (case kDe => k_is)
    (case aCk => k_is)
    (case lCk => k_is)
    (case cCk => k_is)
    (case kCk => k_is)
    (case aPt => k_is)
    (case lPt => k_is)
    (case cPt => k_is)
    (case kPt => k_is)
    (case aGr => k_is)
    (case lGr => k_is)
    (case cGr => k_is)
    (case kGr => k_is)
    (case aLe => k_is)
    (case lLe => k_is)
    (case cLe => k_is)
    (case kLe => k_is)
    (case aFi => k_is)
    (case lFi => k_is)
    (case cFi => k_is)
    (case kFi => k_is)
    (case aCl => k_is)
    (case lCl => k_is)
    (case cCl => k_is)
    (case kCl => k_is)
    (case aAr => k_is)
    (case lAr => k_is)
    (case cAr => k_is)
    (case kAr => k_is)
    (case aPl => k_is)
    (case lPl => k_is)
    (case cPl => k_is)
    (case kPl => k_is)
    (case aDr => k_is)
    (case lDr => k_is)
    (case cDr => k_is)
    (case kDr => k_is)
    (case aLN => k_is)
    (case lLN => k_is)
    (case cLN => k_is)
    (case kLN => k_is)
    (case aLA => k_is)
    (case lLA => k_is)
    (case cLA => k_is)
    (case kLA => k_is)
    (case aLT => k_is)
    (case lLT => k_is)
    (case cLT => k_is)
    (case kLT => k_is)
    (case aLS => k_is)
    (case lLS => k_is)
    (case cLS => k_is)
    (case kLS => k_is)
    (case aLC => k_is)
    (case lLC => k_is)
    (case cLC => k_is)
    (case kLC => k_is)
    (case aLM => k_is)
    (case lLM => k_is)
    (case cLM => k_is)
    (case kLM => k_is)
    (case aLP => k_is)
    (case lLP => k_is)
    (case cLP => k_is)
    (case kLP => k_is)
    (case aPR => k_is)
    (case lPR => k_is)
    (case cPR => k_is)
    (case kPR => k_is)
    (case aLL => k_is)
    (case lLL => k_is)
    (case cLL => k_is)
    (case kLL => k_is)
    (case aLO => k_is)
    (case lLO => k_is)
    (case cLO => k_is)
    (case kLO => k_is)
    (case aLR => k_is)
    (case lLR => k_is)
    (case cLR => k_is)
    (case kLR => k_is)
    (case aHT => k_is)
    (case iHT => k_is)
    (case lHT => k_is)
    (case cHT => k_is)
    (case kHT => k_is)
    (case aHD => k_is)
    (case iHD => k_is)
    (case lHD => k_is)
    (case cHD => k_is)
    (case kHD => k_is)
    (case aHN => k_is)
    (case iHN => k_is)
    (case lHN => k_is)
    (case cHN => k_is)
    (case kHN => k_is)
    (case aGP => k_is)
    (case iGP => k_is)
    (case lGP => k_is)
    (case cGP => k_is)
    (case kGP => k_is)
    (case aGU => k_is)
    (case iGU => k_is)
    (case lGU => k_is)
    (case cGU => k_is)
    (case kGU => k_is)
    (case aGF => k_is)
    (case iGF => k_is)
    (case lGF => k_is)
    (case cGF => k_is)
    (case kGF => k_is)
    (case aGG => k_is)
    (case iGG => k_is)
    (case lGG => k_is)
    (case cGG => k_is)
    (case kGG => k_is)
    (case aHI => k_is)
    (case iHI => k_is)
    (case lHI => k_is)
    (case cHI => k_is)
    (case kHI => k_is)
    (case aGI => k_is)
    (case iGI => k_is)
    (case lGI => k_is)
    (case cGI => k_is)
    (case kGI => k_is)
    (case aSp => k_is)
    (case lSp => k_is)
    (case tSp => k_is)
    (case cSp => k_is)
    (case kSp => k_is)
    (case aMd => k_is)
    (case lMd => k_is)
    (case tMd => k_is)
    (case cMd => k_is)
    (case kMd => k_is)
    (case aLa => k_is)
    (case lLa => k_is)
    (case cLa => k_is)
    (case kLa => k_is)

