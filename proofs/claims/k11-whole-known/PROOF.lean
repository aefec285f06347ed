import PyProof.Rows.All
import Wide.All
import OpenK.AllK
import Wide.FinOn
import HandS.ForMost
import HandS.IsInst
import HandS.Style
import HandS.Flow
import HandS.Evl
import HandS.EndBits
import HandS.Wide
import HandS.Walk
import HandS.Lambda
import HandS.Nested
import HandS.NestedK
import HandS.Exc
import HandS.ExcOwn
import HandS.ExcIs
import HandS.WordsExc
import HandS.EndTab
import HandS.CallLocal
import PySem.Challenge.RW_ringdiffer_k11_whole_known
set_option Elab.async false
set_option linter.all false
set_option maxRecDepth 100000
set_option maxHeartbeats 4000000
namespace RD
/-! ### rings: lists of whole numbers, read round -/
def ev (l : List Int) (i : Nat) : Int := l.getD (i % l.length) 0
def dst (a b : Int) : Int := ((a - b).natAbs : Int)
def D (l : List Int) : List Int := (List.range l.length).map fun i => dst (ev l i) (ev l (i + 1))
def itr : Nat → List Int → List Int
  | 0, l => l
  | k + 1, l => D (itr k l)
theorem D_len (l : List Int) : (D l).length = l.length := by
  unfold D
  rw [List.length_map, List.length_range]
theorem itr_len (k : Nat) (l : List Int) : (itr k l).length = l.length := by
  induction k with
  | zero => rfl
  | succ k ih => exact (D_len _).trans ih
theorem D_get {l : List Int} {i : Nat} (h : i < l.length) : (D l)[i]? = some (dst (ev l i) (ev l (i + 1))) := by
  unfold D
  rw [List.getElem?_map, List.getElem?_range h]
  rfl
theorem ev_mod (l : List Int) (i : Nat) : ev l (i % l.length) = ev l i := by
  unfold ev
  rw [Nat.mod_mod]
theorem ev_lt {l : List Int} {i : Nat} (h : i < l.length) : l[i]? = some (ev l i) := by
  unfold ev
  rw [Nat.mod_eq_of_lt h, List.getD_eq_getElem?_getD, List.getElem?_eq_getElem h]
  rfl
theorem ev_D (l : List Int) (i : Nat) : ev (D l) i = dst (ev l i) (ev l (i + 1)) := by
  by_cases h0 : l.length = 0
  · have e : l = [] := List.eq_nil_of_length_eq_zero h0
    subst e
    rfl
  · have hp : 0 < l.length := Nat.pos_of_ne_zero h0
    have hm : i % l.length < l.length := Nat.mod_lt _ hp
    have h1 : ev (D l) i = dst (ev l (i % l.length)) (ev l (i % l.length + 1)) := by
      show (D l).getD (i % (D l).length) 0 = _
      rw [D_len, List.getD_eq_getElem?_getD, D_get hm]
      rfl
    rw [h1, ev_mod]
    have h2 : ev l (i % l.length + 1) = ev l (i + 1) := by
      unfold ev
      rw [Nat.mod_add_mod]
    rw [h2]
theorem ev_ext {l m : List Int} (hl : l.length = m.length) (h : ∀ i, i < l.length → ev l i = ev m i) : l = m := by
  apply List.ext_getElem? 
  intro i
  by_cases hi : i < l.length
  · rw [ev_lt hi, ev_lt (hl ▸ hi), h i hi]
  · rw [List.getElem?_eq_none (by omega), List.getElem?_eq_none (by omega)]
theorem ev_mem {l : List Int} (h : 0 < l.length) (i : Nat) : ev l i ∈ l := by
  have hm : i % l.length < l.length := Nat.mod_lt _ h
  have e := ev_lt hm
  rw [ev_mod] at e
  exact List.mem_of_getElem? e
theorem mem_ev {l : List Int} {x : Int} (h : x ∈ l) : ∃ i, i < l.length ∧ ev l i = x := by
  obtain ⟨i, hi, e⟩ := List.getElem_of_mem h
  refine ⟨i, hi, ?_⟩
  have e2 := ev_lt hi
  rw [List.getElem?_eq_getElem hi, e] at e2
  exact (Option.some.inj e2).symm
theorem itr_D (k : Nat) (l : List Int) : itr k (D l) = D (itr k l) := by
  induction k with
  | zero => rfl
  | succ k ih =>
    show D (itr k (D l)) = D (D (itr k l))
    rw [ih]
theorem itr_add (a b : Nat) (l : List Int) : itr (a + b) l = itr a (itr b l) := by
  induction a with
  | zero => rw [Nat.zero_add]; rfl
  | succ a ih =>
    rw [Nat.succ_add]
    show D (itr (a + b) l) = D (itr a (itr b l))
    rw [ih]
/-! ### bounds -/
def Bd (M : Int) (l : List Int) : Prop := ∀ x, x ∈ l → 0 ≤ x ∧ x ≤ M
def Bin (c : Int) (l : List Int) : Prop := ∀ x, x ∈ l → x = 0 ∨ x = c
theorem Bd.ev {M : Int} {l : List Int} (h : Bd M l) (hl : 0 < l.length) (i : Nat) : 0 ≤ ev l i ∧ ev l i ≤ M := h _ (ev_mem hl i)
theorem Bin.ev {M : Int} {l : List Int} (h : Bin M l) (hl : 0 < l.length) (i : Nat) : RD.ev l i = 0 ∨ RD.ev l i = M := h _ (ev_mem hl i)
theorem dst_nn (a b : Int) : 0 ≤ dst a b := Int.natCast_nonneg _
theorem dst_cases (a b : Int) : (a ≤ b ∧ dst a b = b - a) ∨ (b ≤ a ∧ dst a b = a - b) := by
  unfold dst
  omega
theorem mem_D {l : List Int} {x : Int} (h : x ∈ D l) : ∃ i, 0 < l.length ∧ x = dst (ev l i) (ev l (i + 1)) := by
  unfold D at h
  obtain ⟨i, hi, e⟩ := List.mem_map.mp h
  have := List.mem_range.mp hi
  exact ⟨i, by omega, e.symm⟩
theorem Bd.D {M : Int} {l : List Int} (h : Bd M l) : Bd M (D l) := fun x hx => by
  obtain ⟨i, hl, rfl⟩ := mem_D hx
  have h1 := h.ev hl i
  have h2 := h.ev hl (i + 1)
  rcases dst_cases (RD.ev l i) (RD.ev l (i + 1)) with ⟨_, e⟩ | ⟨_, e⟩ <;> rw [e] <;> omega
theorem Bin.D {c : Int} {l : List Int} (hc : 0 ≤ c) (h : Bin c l) : Bin c (D l) := fun x hx => by
  obtain ⟨i, hl, rfl⟩ := mem_D hx
  have h1 := h.ev hl i
  have h2 := h.ev hl (i + 1)
  rcases dst_cases (RD.ev l i) (RD.ev l (i + 1)) with ⟨_, e⟩ | ⟨_, e⟩ <;> rw [e] <;> omega
theorem Bd.itr {M : Int} {l : List Int} (h : Bd M l) (k : Nat) : Bd M (itr k l) := by
  induction k with
  | zero => exact h
  | succ k ih => exact ih.D
theorem Bin.itr {M : Int} {l : List Int} (hc : 0 ≤ M) (h : Bin M l) (k : Nat) : Bin M (itr k l) := by
  induction k with
  | zero => exact h
  | succ k ih => exact ih.D hc
/-! ### where the greatest number stays, all is 0 or it -/
theorem two_of {M a b : Int} (ha : 0 ≤ a ∧ a ≤ M) (hb : 0 ≤ b ∧ b ≤ M) (h : dst a b = M) : (a = 0 ∧ b = M) ∨ (a = M ∧ b = 0) := by
  rcases dst_cases a b with ⟨_, e⟩ | ⟨_, e⟩ <;> rw [e] at h <;> omega
theorem next_of {M a b : Int} (ha : a = 0 ∨ a = M) (hb : 0 ≤ b ∧ b ≤ M) (h : dst a b = 0 ∨ dst a b = M) : b = 0 ∨ b = M := by
  rcases dst_cases a b with ⟨_, e⟩ | ⟨_, e⟩ <;> rw [e] at h <;> omega
theorem prev_of {M a b : Int} (hb : b = 0 ∨ b = M) (ha : 0 ≤ a ∧ a ≤ M) (h : dst a b = 0 ∨ dst a b = M) : a = 0 ∨ a = M := by
  rcases dst_cases a b with ⟨_, e⟩ | ⟨_, e⟩ <;> rw [e] at h <;> omega
/-- from a row of differences of 0 and M with an M in it: the numbers themselves -/
theorem seg_back {M : Int} {f : Nat → Int} (hb : ∀ i, 0 ≤ f i ∧ f i ≤ M) {i L j : Nat} (hj : j ≤ L) (hM : dst (f (i + j)) (f (i + j + 1)) = M)
    (hs : ∀ j, j ≤ L → dst (f (i + j)) (f (i + j + 1)) = 0 ∨ dst (f (i + j)) (f (i + j + 1)) = M) :
    (∀ j, j ≤ L + 1 → f (i + j) = 0 ∨ f (i + j) = M) ∧ ∃ j, j ≤ L + 1 ∧ f (i + j) = M := by
  have h2 := two_of (hb _) (hb _) hM
  -- upward
  have up : ∀ k, j + k ≤ L + 1 → f (i + (j + k)) = 0 ∨ f (i + (j + k)) = M := by
    intro k
    induction k with
    | zero => intro _; rw [Nat.add_zero]; omega
    | succ k ih =>
      intro hk
      have ih' := ih (by omega)
      have := hs (j + k) (by omega)
      have e : i + (j + k) + 1 = i + (j + (k + 1)) := by omega
      rw [e] at this
      exact next_of ih' (hb _) this
  have down : ∀ k, k ≤ j → f (i + (j - k)) = 0 ∨ f (i + (j - k)) = M := by
    intro k
    induction k with
    | zero => intro _; simp only [Nat.sub_zero]; omega
    | succ k ih =>
      intro hk
      have ih' := ih (by omega)
      have := hs (j - (k + 1)) (by omega)
      have e : i + (j - (k + 1)) + 1 = i + (j - k) := by omega
      rw [e] at this
      exact prev_of ih' (hb _) this
  refine ⟨fun k hk => ?_, ?_⟩
  · by_cases hjk : j ≤ k
    · have := up (k - j) (by omega)
      rw [show j + (k - j) = k by omega] at this
      exact this
    · have := down (j - k) (by omega)
      rw [show j - (j - k) = k by omega] at this
      exact this
  · rcases h2 with ⟨_, h⟩ | ⟨h, _⟩
    · exact ⟨j + 1, by omega, h⟩
    · exact ⟨j, by omega, h⟩
theorem seg_all {M : Int} {l : List Int} (hl : 0 < l.length) (h : Bd M l) : ∀ (k i L : Nat), (∀ j, j ≤ L → ev (itr k l) (i + j) = 0 ∨ ev (itr k l) (i + j) = M) → (∃ j, j ≤ L ∧ ev (itr k l) (i + j) = M) →
    ∀ j, j ≤ L + k → ev l (i + j) = 0 ∨ ev l (i + j) = M
  | 0, i, L, h1, _ => h1
  | k + 1, i, L, h1, h2 => by
    have hp : 0 < (itr k l).length := by rw [itr_len]; exact hl
    obtain ⟨j, hj, e⟩ := h2
    have e1 : ∀ j, ev (itr (k + 1) l) (i + j) = dst (ev (itr k l) (i + j)) (ev (itr k l) (i + j + 1)) := fun j => ev_D _ _
    have hs : ∀ j, j ≤ L → dst (ev (itr k l) (i + j)) (ev (itr k l) (i + j + 1)) = 0 ∨ dst (ev (itr k l) (i + j)) (ev (itr k l) (i + j + 1)) = M := fun j hj => by
      rw [← e1]
      exact h1 j hj
    rw [e1] at e
    obtain ⟨g1, g2⟩ := seg_back (M := M) (f := ev (itr k l)) (fun i => (h.itr k).ev hp i) hj e hs
    have := seg_all hl h k i (L + 1) g1 g2
    intro j hj
    exact this j (by omega)
theorem falls {M : Int} {l : List Int} (hl : 0 < l.length) (h : Bd M l) (hM : 1 ≤ M) : Bin M l ∨ Bd (M - 1) (itr l.length l) := by
  by_cases hx : ∃ x, x ∈ itr l.length l ∧ x = M
  · left
    obtain ⟨x, hx, rfl⟩ := hx
    obtain ⟨i, hi, e⟩ := mem_ev hx
    have := seg_all hl h l.length i 0 (fun j hj => by right; rw [show j = 0 by omega]; exact e) ⟨0, Nat.le_refl _, e⟩
    intro y hy
    obtain ⟨m, hm, rfl⟩ := mem_ev hy
    rw [itr_len] at hi
    -- m is some i + j modulo the length
    have key : ∃ j, j ≤ 0 + l.length ∧ ev l (i + j) = ev l m := by
      by_cases hmi : i ≤ m
      · exact ⟨m - i, by omega, by rw [show i + (m - i) = m by omega]⟩
      · refine ⟨m + l.length - i, by omega, ?_⟩
        rw [show i + (m + l.length - i) = m + l.length by omega]
        unfold ev
        rw [Nat.add_mod_right]
    obtain ⟨j, hj, e2⟩ := key
    rw [← e2]
    exact this j hj
  · right
    intro x hx'
    have := (h.itr l.length) x hx'
    have hne : x ≠ M := fun e => hx ⟨x, hx', e⟩
    omega
theorem bin_in {l : List Int} (hl : 0 < l.length) : ∀ (M : Nat), Bd (M : Int) l → ∃ c : Int, 0 ≤ c ∧ c ≤ M ∧ Bin c (itr (l.length * M) l)
  | 0, h => ⟨0, Int.le_refl _, Int.le_refl _, fun x hx => by
      have := (h.itr (l.length * 0)) x hx
      omega⟩
  | M + 1, h => by
    rcases falls hl h (by omega) with hb | hb
    · exact ⟨((M + 1 : Nat) : Int), by omega, Int.le_refl _, hb.itr (by omega) _⟩
    · have hb' : Bd (M : Int) (itr l.length l) := fun x hx => by
        have := hb x hx
        omega
      obtain ⟨c, h1, h2, h3⟩ := bin_in (l := itr l.length l) (by rw [itr_len]; exact hl) M hb'
      rw [itr_len, ← itr_add] at h3
      refine ⟨c, h1, by omega, ?_⟩
      rw [show l.length * (M + 1) = l.length * M + l.length by rw [Nat.mul_add, Nat.mul_one]]
      exact h3
/-! ### so many rings of 0 and c are there -/
def code : List Int → Nat
  | [] => 0
  | x :: r => (if x = 0 then 0 else 1) + 2 * code r
theorem code_lt : ∀ l : List Int, code l < 2 ^ l.length
  | [] => by decide
  | x :: r => by
    have := code_lt r
    show (if x = 0 then 0 else 1) + 2 * code r < 2 ^ (r.length + 1)
    rw [Nat.pow_succ]
    split <;> omega
theorem code_inj {c : Int} : ∀ {l m : List Int}, Bin c l → Bin c m → l.length = m.length → code l = code m → l = m
  | [], [], _, _, _, _ => rfl
  | [], y :: r, _, _, h, _ => by cases h
  | x :: r, [], _, _, h, _ => by cases h
  | x :: r, y :: q, h1, h2, hl, e => by
    have e' : (if x = 0 then 0 else 1) + 2 * code r = (if y = 0 then 0 else 1) + 2 * code q := e
    have hx := h1 x List.mem_cons_self
    have hy := h2 y List.mem_cons_self
    have ec : code r = code q := by split at e' <;> split at e' <;> omega
    have er := code_inj (l := r) (m := q) (fun z hz => h1 z (List.mem_cons_of_mem _ hz)) (fun z hz => h2 z (List.mem_cons_of_mem _ hz)) (by simpa using hl) ec
    have exy : x = y := by split at e' <;> split at e' <;> omega
    rw [exy, er]
theorem pigeon : ∀ (B : Nat) (l : List Nat), l.Nodup → (∀ x, x ∈ l → x < B) → l.length ≤ B
  | 0, l, _, h => by
    cases l with
    | nil => exact Nat.le_refl _
    | cons x r => exact absurd (h x List.mem_cons_self) (Nat.not_lt_zero _)
  | B + 1, l, hn, h => by
    have h1 := pigeon B (l.erase B) (hn.erase B) (fun x hx => by
      have hx2 := (hn.mem_erase_iff.mp hx)
      have := h x hx2.2
      have := hx2.1
      omega)
    have h2 := List.length_erase (a := B) (l := l)
    split at h2 <;> omega
/-! ### the course -/
structure IsC (l : List Int) (N b : Nat) : Prop where
  lt : b < N
  eq : itr N l = itr b l
  ne : ∀ i j, i < j → j < N → itr i l ≠ itr j l
theorem few {l : List Int} (hl : 0 < l.length) (h12 : l.length ≤ 12) (h : Bd 200 l) {m : Nat} (ne : ∀ i j, i < j → j < m → itr i l ≠ itr j l) : m ≤ 6500 := by
  obtain ⟨c, hc0, _, hb⟩ := bin_in hl 200 h
  refine Nat.le_of_not_lt fun hm => ?_
  -- the codes of the rings from l.length * 200 on
  have hs : l.length * 200 ≤ 2400 := by omega
  let g : Nat → Nat := fun j => code (itr (l.length * 200 + j) l)
  have hg : ∀ j, g j < 4096 := fun j => by
    have := code_lt (itr (l.length * 200 + j) l)
    rw [itr_len] at this
    exact Nat.lt_of_lt_of_le this (Nat.le_trans (Nat.pow_le_pow_right (by decide) h12) (by decide))
  have hB : ∀ j, Bin c (itr (l.length * 200 + j) l) := fun j => by
    rw [Nat.add_comm, itr_add]
    exact hb.itr hc0 j
  have hnd : ((List.range 4097).map g).Nodup := by
    rw [List.Nodup, List.pairwise_map]
    have : (List.range 4097).Pairwise (· < ·) := List.pairwise_lt_range
    refine (this.imp_of_mem ?_)
    intro a b ha hb' hab e
    have hb2 := List.mem_range.mp hb'
    have := code_inj (hB a) (hB b) (by rw [itr_len, itr_len]) e
    exact ne _ _ (by omega) (by omega) this
  have := pigeon 4096 _ hnd (fun x hx => by
    obtain ⟨j, _, rfl⟩ := List.mem_map.mp hx
    exact hg j)
  rw [List.length_map, List.length_range] at this
  omega
theorem IsC.unique {l : List Int} {N b N' b' : Nat} (h : IsC l N b) (h' : IsC l N' b') : N = N' ∧ b = b' := by
  have hN : N = N' := by
    rcases Nat.lt_trichotomy N N' with q | q | q
    · exact absurd h.eq.symm (h'.ne _ _ h.lt q)
    · exact q
    · exact absurd h'.eq.symm (h.ne _ _ h'.lt q)
  subst hN
  refine ⟨rfl, ?_⟩
  have e : itr b l = itr b' l := h.eq.symm.trans h'.eq
  rcases Nat.lt_trichotomy b b' with q | q | q
  · exact absurd e (h.ne _ _ q h'.lt)
  · exact q
  · exact absurd e.symm (h.ne _ _ q h.lt)
theorem IsC.per {l : List Int} {N b : Nat} (h : IsC l N b) {k : Nat} (hk : b ≤ k) : itr (k + (N - b)) l = itr k l := by
  have e1 : k + (N - b) = (k - b) + N := by have := h.lt; omega
  have e2 : k = (k - b) + b := by omega
  rw [e1, itr_add, h.eq, ← itr_add, ← e2]
theorem IsC.pers {l : List Int} {N b : Nat} (h : IsC l N b) {k : Nat} (hk : b ≤ k) (j : Nat) : itr (k + (N - b) * j) l = itr k l := by
  induction j with
  | zero => rfl
  | succ j ih =>
    rw [Nat.mul_succ, ← Nat.add_assoc, h.per (by omega), ih]
theorem IsC.at {l : List Int} {N b : Nat} (h : IsC l N b) {k : Nat} (hk : b ≤ k) : itr (b + (k - b) % (N - b)) l = itr k l := by
  have := h.pers (k := b + (k - b) % (N - b)) (by omega) ((k - b) / (N - b))
  rw [← this]
  congr 1
  have := Nat.mod_add_div (k - b) (N - b)
  omega
end RD
namespace RD
/-- every ring has a course -/
theorem isC_ex {l : List Int} (hl : 0 < l.length) (h12 : l.length ≤ 12) (h : Bd 200 l) : ∃ N b, IsC l N b := by
  have key : ∀ m, (∃ N b, IsC l N b) ∨ ∀ i j, i < j → j < m → itr i l ≠ itr j l := by
    intro m
    induction m with
    | zero => exact .inr fun i j _ hj => absurd hj (Nat.not_lt_zero _)
    | succ m ih =>
      rcases ih with ih | ih
      · exact .inl ih
      · by_cases hx : ∃ i, i < m ∧ itr i l = itr m l
        · obtain ⟨i, hi, e⟩ := hx
          exact .inl ⟨m, i, hi, e.symm, ih⟩
        · refine .inr fun i j hij hj => ?_
          by_cases hjm : j < m
          · exact ih i j hij hjm
          · have ej : j = m := by omega
            rw [ej]
            exact fun e => hx ⟨i, by omega, e⟩
  rcases key 6501 with k | k
  · exact k
  · have := few hl h12 h k
    omega
/-- a course found by reckoning -/
def isCB (l : List Int) (N b : Nat) : Bool := decide (b < N) && decide (itr N l = itr b l) && (List.range N).all fun j => (List.range j).all fun i => decide (itr i l ≠ itr j l)
theorem isC_by {l : List Int} {N b : Nat} (h : isCB l N b = true) : IsC l N b := by
  unfold isCB at h
  simp only [Bool.and_eq_true, decide_eq_true_eq, List.all_eq_true, List.mem_range] at h
  exact ⟨h.1.1, h.1.2, fun i j hij hj => h.2 j hj i hij⟩
end RD
namespace RD
/-! ### doublings: after 2 ^ j steps each number is, but for evens, itself and the one 2 ^ j further on -/
theorem dst_par (a b : Int) : (dst a b - (a + b)) % 2 = 0 := by
  unfold dst
  omega
theorem dbl (l : List Int) : ∀ (j k i : Nat), (ev (itr (k + 2 ^ j) l) i - (ev (itr k l) i + ev (itr k l) (i + 2 ^ j))) % 2 = 0
  | 0, k, i => by
    show (ev (D (itr k l)) i - (ev (itr k l) i + ev (itr k l) (i + 1))) % 2 = 0
    rw [ev_D]
    exact dst_par _ _
  | j + 1, k, i => by
    have h1 := dbl l j (k + 2 ^ j) i
    have h2 := dbl l j k i
    have h3 := dbl l j k (i + 2 ^ j)
    have e : 2 ^ (j + 1) = 2 ^ j + 2 ^ j := by rw [Nat.pow_succ]; omega
    rw [e, ← Nat.add_assoc, ← Nat.add_assoc]
    omega
theorem even_in {l : List Int} {j : Nat} (hl : l.length = 2 ^ j) : ∀ x, x ∈ itr (2 ^ j) l → x % 2 = 0 := by
  intro x hx
  obtain ⟨i, _, rfl⟩ := mem_ev hx
  have h := dbl l j 0 i
  rw [Nat.zero_add] at h
  have e : ev (itr 0 l) (i + 2 ^ j) = ev (itr 0 l) i := by
    show ev l (i + 2 ^ j) = ev l i
    unfold ev
    rw [← hl, Nat.add_mod_right]
  rw [e] at h
  omega
/-! ### multiplied -/
def scal (c : Int) (l : List Int) : List Int := l.map fun x => c * x
theorem scal_len (c : Int) (l : List Int) : (scal c l).length = l.length := List.length_map _
theorem ev_scal (c : Int) (l : List Int) (i : Nat) : ev (scal c l) i = c * ev l i := by
  unfold ev
  rw [scal_len]
  unfold scal
  rw [List.getD_eq_getElem?_getD, List.getD_eq_getElem?_getD, List.getElem?_map]
  cases l[i % l.length]? with
  | none => exact (Int.mul_zero c).symm
  | some x => rfl
theorem dst_mul {c : Int} (hc : 0 ≤ c) (a b : Int) : dst (c * a) (c * b) = c * dst a b := by
  have e : c * a - c * b = c * (a - b) := (Int.mul_sub c a b).symm
  unfold dst
  rw [e, Int.natAbs_mul, Int.natCast_mul, Int.natAbs_of_nonneg hc]
theorem D_scal {c : Int} (hc : 0 ≤ c) (l : List Int) : D (scal c l) = scal c (D l) := by
  refine ev_ext (by rw [D_len, scal_len, scal_len, D_len]) fun i _ => ?_
  rw [ev_D, ev_scal, ev_scal, ev_scal, ev_D, dst_mul hc]
theorem itr_scal {c : Int} (hc : 0 ≤ c) (l : List Int) (k : Nat) : itr k (scal c l) = scal c (itr k l) := by
  induction k with
  | zero => rfl
  | succ k ih =>
    show D (itr k (scal c l)) = scal c (D (itr k l))
    rw [ih, D_scal hc]
theorem scal_scal (c d : Int) (l : List Int) : scal c (scal d l) = scal (c * d) l := by
  unfold scal
  rw [List.map_map]
  congr 1
  funext x
  exact (Int.mul_assoc c d x).symm
theorem halves {l : List Int} (h : ∀ x, x ∈ l → x % 2 = 0) : ∃ m, m.length = l.length ∧ l = scal 2 m := by
  refine ⟨l.map fun x => x / 2, List.length_map _, ?_⟩
  unfold scal
  rw [List.map_map]
  have : l.map ((fun x => 2 * x) ∘ fun x => x / 2) = l.map id := List.map_congr_left fun x hx => by
    have := h x hx
    show 2 * (x / 2) = x
    omega
  rw [this, List.map_id]
theorem often {l : List Int} {j : Nat} (hl : l.length = 2 ^ j) : ∀ q : Nat, ∃ m, m.length = l.length ∧ itr (2 ^ j * q) l = scal (2 ^ q) m
  | 0 => ⟨l, rfl, by
      rw [Nat.mul_zero]
      show l = l.map fun x => 1 * x
      have : l.map (fun x => 1 * x) = l.map id := List.map_congr_left fun x _ => Int.one_mul x
      rw [this, List.map_id]⟩
  | q + 1 => by
    obtain ⟨m, h1, h2⟩ := often hl q
    obtain ⟨m', h3, h4⟩ := halves (even_in (l := m) (j := j) (by rw [h1, hl]))
    rw [itr_len] at h3
    refine ⟨m', by omega, ?_⟩
    have e : 2 ^ j * (q + 1) = 2 ^ j + 2 ^ j * q := by rw [Nat.mul_succ, Nat.add_comm]
    have p0 : (0 : Int) ≤ 2 ^ q := Int.pow_nonneg (by decide)
    rw [e, itr_add, h2, itr_scal p0, h4, scal_scal, Int.pow_succ]
theorem often_mod {l : List Int} {j : Nat} (hl : l.length = 2 ^ j) (q : Nat) : ∀ x, x ∈ itr (2 ^ j * q) l → x % (2 ^ q) = 0 := by
  intro x hx
  obtain ⟨m, _, h⟩ := often hl q
  rw [h] at hx
  obtain ⟨y, _, rfl⟩ := List.mem_map.mp hx
  exact Int.mul_emod_right _ _
def Z (l : List Int) : Prop := ∀ x, x ∈ l → x = 0
theorem Z.D {l : List Int} (h : Z l) : D l = l := by
  by_cases h0 : l.length = 0
  · rw [List.eq_nil_of_length_eq_zero h0]
    rfl
  · have hp : 0 < l.length := Nat.pos_of_ne_zero h0
    refine ev_ext (D_len l) fun i _ => ?_
    rw [ev_D, h _ (ev_mem hp i), h _ (ev_mem hp (i + 1))]
    rfl
theorem Z.stay {l : List Int} {m : Nat} (h : Z (itr m l)) : ∀ k, itr (m + k) l = itr m l
  | 0 => rfl
  | k + 1 => by
    show RD.D (itr (m + k) l) = itr m l
    rw [h.stay k, h.D]
theorem IsC.noughts {l : List Int} {N b m : Nat} (hC : IsC l N b) (hz : Z (itr m l)) : b ≤ m ∧ Z (itr b l) ∧ (0 < b → ¬ Z (itr (b - 1) l)) := by
  have hlt := hC.lt
  have hN : N ≤ m + 1 := Nat.le_of_not_lt fun h => hC.ne m (m + 1) (by omega) h (hz.stay 1).symm
  refine ⟨by omega, ?_, fun hb h => ?_⟩
  · have e := hC.pers (Nat.le_refl b) m
    have hge : m ≤ b + (N - b) * m := by
      have : m ≤ (N - b) * m := Nat.le_mul_of_pos_left m (by omega)
      omega
    have e2 := hz.stay (b + (N - b) * m - m)
    rw [show m + (b + (N - b) * m - m) = b + (N - b) * m by omega, e] at e2
    rw [e2]
    exact hz
  · have e := h.stay 1
    rw [show b - 1 + 1 = b by omega] at e
    exact hC.ne (b - 1) b (by omega) hlt e.symm
theorem zero_in {l : List Int} {j : Nat} (hl : l.length = 2 ^ j) (h : Bd 200 l) : Z (itr (2 ^ j * 8) l) := by
  intro x hx
  have h1 := often_mod hl 8 x hx
  have h2 := (h.itr _) x hx
  have e : (2 : Int) ^ 8 = 256 := by decide
  rw [e] at h1
  omega
end RD
namespace RD
/-! ### signs that bring numbers together to a sum -/
def dot : List Int → List Int → Int
  | s :: ss, x :: xs => s * x + dot ss xs
  | _, _ => 0
def Sgn (ss : List Int) : Prop := ∀ s, s ∈ ss → s = 1 ∨ s = -1
def Sg (l : List Int) (t : Int) : Prop := ∃ ss : List Int, ss.length = l.length ∧ Sgn ss ∧ dot ss l = t
theorem dot_snoc : ∀ {ss l : List Int} {s x : Int}, ss.length = l.length → dot (ss ++ [s]) (l ++ [x]) = dot ss l + s * x
  | [], [], s, x, _ => by
    show s * x + 0 = 0 + s * x
    omega
  | [], y :: l, s, x, h => by cases h
  | a :: ss, [], s, x, h => by cases h
  | a :: ss, y :: l, s, x, h => by
    show a * y + dot (ss ++ [s]) (l ++ [x]) = a * y + dot ss l + s * x
    rw [dot_snoc (Nat.succ.inj h)]
    omega
theorem sg_nil {t : Int} : Sg [] t ↔ t = 0 := by
  constructor
  · rintro ⟨ss, h1, _, h3⟩
    rw [List.eq_nil_of_length_eq_zero h1] at h3
    exact h3.symm
  · rintro rfl
    exact ⟨[], rfl, fun s hs => (by cases hs), rfl⟩
theorem snoc_of {l : List Int} {n : Nat} (h : l.length = n + 1) : ∃ a x, l = a ++ [x] ∧ a.length = n := by
  refine ⟨l.dropLast, l.getLast (fun e => by rw [e] at h; cases h), (List.dropLast_concat_getLast _).symm, ?_⟩
  rw [List.length_dropLast, h]
  rfl
theorem sg_snoc {l : List Int} {x t : Int} : Sg (l ++ [x]) t ↔ Sg l (t - x) ∨ Sg l (t + x) := by
  constructor
  · rintro ⟨ss, h1, h2, h3⟩
    rw [List.length_append] at h1
    obtain ⟨a, s, rfl, ha⟩ := snoc_of (n := l.length) h1
    rw [dot_snoc ha] at h3
    rcases h2 s (List.mem_append_right _ (List.mem_singleton.mpr rfl)) with e | e
    · exact .inl ⟨a, ha, fun z hz => h2 z (List.mem_append_left _ hz), by rw [e] at h3; omega⟩
    · exact .inr ⟨a, ha, fun z hz => h2 z (List.mem_append_left _ hz), by rw [e] at h3; omega⟩
  · have ext : ∀ {a : List Int} {s : Int}, Sgn a → (s = 1 ∨ s = -1) → Sgn (a ++ [s]) := fun ha hs z hz => by
      rcases List.mem_append.mp hz with hz | hz
      · exact ha z hz
      · rw [List.mem_singleton.mp hz]
        exact hs
    rintro (⟨a, h1, h2, h3⟩ | ⟨a, h1, h2, h3⟩)
    · exact ⟨a ++ [1], by rw [List.length_append, List.length_append, h1]; rfl, ext h2 (.inl rfl), by rw [dot_snoc h1, h3]; omega⟩
    · exact ⟨a ++ [-1], by rw [List.length_append, List.length_append, h1]; rfl, ext h2 (.inr rfl), by rw [dot_snoc h1, h3]; omega⟩
theorem take_snoc {l : List Int} {i : Nat} {x : Int} (h : l[i]? = some x) : l.take (i + 1) = l.take i ++ [x] := by
  rw [List.take_add_one, h]
  rfl
/-! ### the ring one comes from: the sums on the way -/
def sums (ss l : List Int) (i : Nat) : Int := dot (ss.take i) (l.take i)
theorem sums_succ {ss l : List Int} {i : Nat} {s x : Int} (h1 : ss[i]? = some s) (h2 : l[i]? = some x) : sums ss l (i + 1) = sums ss l i + s * x := by
  unfold sums
  rw [take_snoc h1, take_snoc h2, dot_snoc]
  have a := (List.getElem?_eq_some_iff.mp h1).1
  have b := (List.getElem?_eq_some_iff.mp h2).1
  rw [List.length_take, List.length_take]
  omega
theorem D_sums {ss l : List Int} {c : Int} (hp : 0 < l.length) (hl : ss.length = l.length) (hs : Sgn ss) (h0 : dot ss l = 0) (hn : ∀ x, x ∈ l → 0 ≤ x) : D ((List.range l.length).map fun i => sums ss l i - c) = l := by
  have hlen : ((List.range l.length).map fun i => sums ss l i - c).length = l.length := by rw [List.length_map, List.length_range]
  have hev : ∀ i, i < l.length → ev ((List.range l.length).map fun i => sums ss l i - c) i = sums ss l i - c := fun i hi => by
    have h1 := ev_lt (l := (List.range l.length).map fun i => sums ss l i - c) (i := i) (by rw [hlen]; exact hi)
    rw [List.getElem?_map, List.getElem?_range hi] at h1
    exact (Option.some.inj h1).symm
  have z0 : sums ss l 0 = 0 := by
    unfold sums
    rw [List.take_zero]
    rfl
  have zn : sums ss l l.length = 0 := by
    unfold sums
    rw [List.take_of_length_le (by omega), List.take_of_length_le (Nat.le_refl _)]
    exact h0
  refine ev_ext (by rw [D_len, hlen]) fun i hi => ?_
  rw [D_len, hlen] at hi
  have hs1 : ss[i]? = some ss[i] := List.getElem?_eq_getElem (by omega)
  have step := sums_succ hs1 (ev_lt hi)
  have hx := hn _ (ev_mem hp i)
  have hsg := hs ss[i] (List.getElem_mem (by omega))
  rw [ev_D, hev i hi]
  have hnext : ev ((List.range l.length).map fun i => sums ss l i - c) (i + 1) = sums ss l (i + 1) - c := by
    by_cases hi2 : i + 1 < l.length
    · exact hev _ hi2
    · have e : i + 1 = l.length := by omega
      have e2 : ev ((List.range l.length).map fun i => sums ss l i - c) (i + 1) = ev ((List.range l.length).map fun i => sums ss l i - c) 0 := by
        unfold ev
        rw [hlen, e, Nat.mod_self, Nat.zero_mod]
      rw [e2, hev 0 hp, e, z0, zn]
  rw [hnext, step]
  generalize sums ss l i = a
  generalize ev l i = x at *
  unfold dst
  rcases hsg with e | e <;> rw [e] <;> omega
theorem D_has {l m : List Int} (hl : 0 < m.length) (h : D m = l) : Sg l 0 := by
  -- each number is the difference, with a sign
  have key : ∀ i, i ≤ m.length → ∃ ss : List Int, ss.length = i ∧ Sgn ss ∧ dot ss (l.take i) = ev m i - ev m 0 := by
    intro i
    induction i with
    | zero => exact fun _ => ⟨[], rfl, fun s hs => (by cases hs), by rw [Int.sub_self]; rfl⟩
    | succ i ih =>
      intro hi
      obtain ⟨ss, h1, h2, h3⟩ := ih (by omega)
      have hg : l[i]? = some (dst (ev m i) (ev m (i + 1))) := by
        rw [← h]
        exact D_get (by omega)
      have hli : (l.take i).length = i := by
        rw [List.length_take, ← h, D_len]
        omega
      have ext : ∀ s, (s = 1 ∨ s = -1) → Sgn (ss ++ [s]) := fun s hs z hz => by
        rcases List.mem_append.mp hz with hz | hz
        · exact h2 z hz
        · rw [List.mem_singleton.mp hz]
          exact hs
      rcases dst_cases (ev m i) (ev m (i + 1)) with ⟨_, e⟩ | ⟨_, e⟩
      · refine ⟨ss ++ [1], by rw [List.length_append, h1]; rfl, ext 1 (.inl rfl), ?_⟩
        rw [take_snoc hg, dot_snoc (by rw [h1, hli]), h3, e]
        omega
      · refine ⟨ss ++ [-1], by rw [List.length_append, h1]; rfl, ext (-1) (.inr rfl), ?_⟩
        rw [take_snoc hg, dot_snoc (by rw [h1, hli]), h3, e]
        omega
  obtain ⟨ss, h1, h2, h3⟩ := key m.length (Nat.le_refl _)
  have hlm : l.length = m.length := by rw [← h, D_len]
  refine ⟨ss, by omega, h2, ?_⟩
  rw [List.take_of_length_le (by omega)] at h3
  rw [h3]
  have e2 : ev m m.length = ev m 0 := by
    unfold ev
    rw [Nat.mod_self, Nat.zero_mod]
  rw [e2, Int.sub_self]
end RD
namespace RD
/-! ### turned -/
def rot (a : Nat) (l : List Int) : List Int := l.drop a ++ l.take a
theorem rot_len {a : Nat} {l : List Int} (h : a ≤ l.length) : (rot a l).length = l.length := by
  unfold rot
  rw [List.length_append, List.length_drop, List.length_take]
  omega
theorem ev_rot {a : Nat} {l : List Int} (h : a < l.length) (i : Nat) : ev (rot a l) i = ev l (i + a) := by
  have hl := rot_len (Nat.le_of_lt h)
  have hp : 0 < l.length := by omega
  have hm : i % l.length < l.length := Nat.mod_lt _ hp
  have e1 : ev (rot a l) i = (rot a l).getD (i % l.length) 0 := by
    unfold ev
    rw [hl]
  have e2 : ev l (i + a) = ev l (i % l.length + a) := by
    unfold ev
    rw [Nat.mod_add_mod]
  rw [e1, e2, List.getD_eq_getElem?_getD]
  unfold rot
  by_cases hc : i % l.length < l.length - a
  · rw [List.getElem?_append_left (by rw [List.length_drop]; exact hc), List.getElem?_drop, Nat.add_comm a]
    rw [ev_lt (show i % l.length + a < l.length by omega)]
    rfl
  · rw [List.getElem?_append_right (by rw [List.length_drop]; omega), List.length_drop, List.getElem?_take, if_pos (by omega)]
    generalize hq : i % l.length + a - l.length = q
    have e0 : i % l.length + a = q + l.length := by omega
    have e3 : ev l (i % l.length + a) = ev l q := by
      rw [e0]
      unfold ev
      rw [Nat.add_mod_right]
    rw [e3, show i % l.length - (l.length - a) = q by omega, ev_lt (show q < l.length by omega)]
    rfl
theorem D_rot {a : Nat} {l : List Int} (h : a < l.length) : D (rot a l) = rot a (D l) := by
  have h2 : a < (D l).length := by rw [D_len]; exact h
  refine ev_ext (by rw [D_len, rot_len (Nat.le_of_lt h), rot_len (Nat.le_of_lt h2), D_len]) fun i _ => ?_
  rw [ev_D, ev_rot h, ev_rot h, ev_rot h2, ev_D, Nat.add_right_comm]
theorem itr_rot {a : Nat} {l : List Int} (h : a < l.length) (k : Nat) : itr k (rot a l) = rot a (itr k l) := by
  induction k with
  | zero => rfl
  | succ k ih =>
    show D (itr k (rot a l)) = rot a (D (itr k l))
    rw [ih, D_rot (by rw [itr_len]; exact h)]
theorem rot_inj {a : Nat} {l m : List Int} (h : a < l.length) (hl : l.length = m.length) (e : rot a l = rot a m) : l = m := by
  refine ev_ext hl fun i hi => ?_
  have h1 := ev_rot h (i + (l.length - a))
  have h2 := ev_rot (hl ▸ h) (i + (l.length - a))
  rw [e] at h1
  rw [h1] at h2
  rw [show i + (l.length - a) + a = i + l.length by omega] at h2
  have g1 : ev l (i + l.length) = ev l i := by
    unfold ev
    rw [Nat.add_mod_right]
  have g2 : ev m (i + l.length) = ev m i := by
    unfold ev
    rw [hl, Nat.add_mod_right]
  rw [g1, g2] at h2
  exact h2
theorem IsC.rot {a : Nat} {l : List Int} {N b : Nat} (h : a < l.length) (hC : IsC l N b) : IsC (rot a l) N b :=
  ⟨hC.lt, by rw [itr_rot h, itr_rot h, hC.eq], fun i j hij hj e => by
    rw [itr_rot h, itr_rot h] at e
    exact hC.ne i j hij hj (rot_inj (by rw [itr_len]; exact h) (by rw [itr_len, itr_len]) e)⟩
theorem mem_rot {a : Nat} {l : List Int} {x : Int} : x ∈ rot a l ↔ x ∈ l := by
  unfold rot
  rw [List.mem_append]
  have e := List.take_append_drop a l
  constructor
  · rintro (h | h)
    · exact List.mem_of_mem_drop h
    · exact List.mem_of_mem_take h
  · intro h
    rw [← e] at h
    rcases List.mem_append.mp h with h | h
    · exact .inr h
    · exact .inl h
/-! ### multiplied -/
theorem scal_inj {c : Int} (hc : 0 < c) {l m : List Int} (e : scal c l = scal c m) : l = m :=
  List.map_inj_right (fun x y z => Int.eq_of_mul_eq_mul_left (by omega) z) |>.mp e
theorem IsC.scal {c : Int} {l : List Int} {N b : Nat} (hc : 0 < c) (hC : IsC l N b) : IsC (scal c l) N b :=
  ⟨hC.lt, by rw [itr_scal (Int.le_of_lt hc), itr_scal (Int.le_of_lt hc), hC.eq], fun i j hij hj e => by
    rw [itr_scal (Int.le_of_lt hc), itr_scal (Int.le_of_lt hc)] at e
    exact hC.ne i j hij hj (scal_inj hc e)⟩
/-! ### raised, taken from the greatest -/
theorem D_map {l : List Int} {f : Int → Int} (hf : ∀ x y, x ∈ l → y ∈ l → dst (f x) (f y) = dst x y) : D (l.map f) = D l := by
  by_cases h0 : l.length = 0
  · rw [List.eq_nil_of_length_eq_zero h0]
    rfl
  · have hp : 0 < l.length := Nat.pos_of_ne_zero h0
    have em : ∀ i, ev (l.map f) i = f (ev l i) := fun i => by
      have hm : i % l.length < l.length := Nat.mod_lt _ hp
      unfold ev
      rw [List.length_map, List.getD_eq_getElem?_getD, List.getD_eq_getElem?_getD, List.getElem?_map, List.getElem?_eq_getElem hm]
      rfl
    refine ev_ext (by rw [D_len, D_len, List.length_map]) fun i _ => ?_
    rw [ev_D, ev_D, em, em, hf _ _ (ev_mem hp _) (ev_mem hp _)]
/-! ### mirrored -/
theorem dst_comm (a b : Int) : dst a b = dst b a := by
  unfold dst
  omega
theorem ev_rev {l : List Int} {i j : Nat} (hp : 0 < l.length) (h : (i + j + 1) % l.length = 0) : ev l.reverse i = ev l j := by
  have hi : i % l.length < l.length := Nat.mod_lt _ hp
  have hj : j % l.length < l.length := Nat.mod_lt _ hp
  have e : l.length - 1 - i % l.length = j % l.length := by
    have h1 : (i % l.length + j % l.length + 1) % l.length = 0 := by
      rw [← h, Nat.add_assoc, Nat.mod_add_mod, ← Nat.add_assoc, Nat.add_right_comm, Nat.add_mod_mod, Nat.add_right_comm]
    have h2 : i % l.length + j % l.length + 1 < 2 * l.length := by omega
    have h3 := Nat.div_add_mod (i % l.length + j % l.length + 1) l.length
    rw [h1] at h3
    have h4 : (i % l.length + j % l.length + 1) / l.length = 1 := by
      refine Nat.div_eq_of_lt_le ?_ (by omega)
      rw [Nat.one_mul]
      refine Nat.le_of_not_lt fun hlt => ?_
      rw [Nat.mod_eq_of_lt hlt] at h1
      omega
    rw [h4] at h3
    omega
  show l.reverse.getD (i % l.reverse.length) 0 = l.getD (j % l.length) 0
  rw [List.length_reverse, List.getD_eq_getElem?_getD, List.getD_eq_getElem?_getD, List.getElem?_reverse hi, e]
theorem itr_rev {l : List Int} (hp : 0 < l.length) : ∀ (k i j : Nat), (i + j + k + 1) % l.length = 0 → ev (itr k l.reverse) i = ev (itr k l) j
  | 0, i, j, h => ev_rev hp h
  | k + 1, i, j, h => by
    show ev (D (itr k l.reverse)) i = ev (D (itr k l)) j
    rw [ev_D, ev_D, itr_rev hp k i (j + 1) (by rw [← h]; congr 1; omega), itr_rev hp k (i + 1) j (by rw [← h]; congr 1; omega), dst_comm]
theorem partner {n : Nat} (hp : 0 < n) (i k : Nat) : ∃ j, (i + j + k + 1) % n = 0 := by
  refine ⟨(i + k + 1) * n - (i + k + 1), ?_⟩
  have h : i + k + 1 ≤ (i + k + 1) * n := Nat.le_mul_of_pos_right _ hp
  rw [show i + ((i + k + 1) * n - (i + k + 1)) + k + 1 = (i + k + 1) * n by omega, Nat.mul_mod_left]
/-- x stands in a round -/
def Per (l : List Int) (k : Nat) : Prop := ∃ p, 0 < p ∧ itr (k + p) l = itr k l
theorem Per.often {l : List Int} {k p : Nat} (h : itr (k + p) l = itr k l) : ∀ j, itr (k + p * j) l = itr k l
  | 0 => rfl
  | j + 1 => by
    have ih := Per.often h j
    rw [show k + p * (j + 1) = p + (k + p * j) by rw [Nat.mul_succ]; omega, itr_add, ih, ← itr_add, Nat.add_comm, h]
theorem IsC.per_iff {l : List Int} {N b : Nat} (hC : IsC l N b) (k : Nat) : Per l k ↔ b ≤ k := by
  have hlt := hC.lt
  constructor
  · rintro ⟨p, hp, e⟩
    refine Nat.le_of_not_lt fun hk => ?_
    have h1 := Per.often e b
    have hge : b ≤ k + p * b := by
      have : b ≤ p * b := Nat.le_mul_of_pos_left b hp
      omega
    have h2 := hC.at hge
    rw [h1] at h2
    have hmod := Nat.mod_lt (k + p * b - b) (show 0 < N - b by omega)
    exact hC.ne k (b + (k + p * b - b) % (N - b)) (by omega) (by omega) h2.symm
  · intro hk
    exact ⟨N - b, by omega, hC.per hk⟩
theorem Per.rev {l : List Int} {k : Nat} (hp : 0 < l.length) (h : Per l k) : Per l.reverse k := by
  obtain ⟨p, hp0, e⟩ := h
  have e2 := Per.often e l.length
  refine ⟨p * l.length, Nat.mul_pos hp0 hp, ?_⟩
  refine ev_ext (by rw [itr_len, itr_len]) fun i _ => ?_
  obtain ⟨j, hj⟩ := partner hp i k
  rw [itr_rev hp k i j hj, itr_rev hp (k + p * l.length) i j (by
    rw [show i + j + (k + p * l.length) + 1 = i + j + k + 1 + p * l.length by omega, Nat.add_mul_mod_self_right]
    exact hj), e2]
theorem IsC.rev {l : List Int} {N b N' b' : Nat} (hp : 0 < l.length) (hC : IsC l N b) (hC' : IsC l.reverse N' b') : b' = b := by
  have h1 := (hC'.per_iff b).mp (((hC.per_iff b).mpr (Nat.le_refl _)).rev hp)
  have h2 := ((hC'.per_iff b').mpr (Nat.le_refl _)).rev (by rw [List.length_reverse]; exact hp)
  rw [List.reverse_reverse] at h2
  have h3 := (hC.per_iff b').mp h2
  omega
theorem mem_rev {l : List Int} (hp : 0 < l.length) (k : Nat) {x : Int} : x ∈ itr k l.reverse ↔ x ∈ itr k l := by
  have hl1 : 0 < (itr k l).length := by rw [itr_len]; exact hp
  have hl2 : 0 < (itr k l.reverse).length := by rw [itr_len, List.length_reverse]; exact hp
  constructor
  · intro h
    obtain ⟨i, _, rfl⟩ := mem_ev h
    obtain ⟨j, hj⟩ := partner hp i k
    rw [itr_rev hp k i j hj]
    exact ev_mem hl1 _
  · intro h
    obtain ⟨i, _, rfl⟩ := mem_ev h
    obtain ⟨j, hj⟩ := partner hp i k
    rw [← itr_rev hp k j i (by rw [← hj]; congr 1; omega)]
    exact ev_mem hl2 _
end RD
namespace RD
/-! ### rings of noughts and ones as the bits of a number -/
def dec (n x : Nat) : List Int := (List.range n).map fun i => if x.testBit i then 1 else 0
def fb (n x : Nat) : Nat := x ^^^ (x / 2 ||| (x % 2) <<< (n - 1))
def gb (n : Nat) : Nat → Nat → Nat
  | 0, x => x
  | k + 1, x => gb n k (fb n x)
theorem dec_len (n x : Nat) : (dec n x).length = n := by
  unfold dec
  rw [List.length_map, List.length_range]
theorem dec_get {n x i : Nat} (h : i < n) : (dec n x)[i]? = some (if x.testBit i then 1 else 0) := by
  unfold dec
  rw [List.getElem?_map, List.getElem?_range h]
  rfl
theorem ev_dec {n x : Nat} (hn : 0 < n) (i : Nat) : ev (dec n x) i = if x.testBit (i % n) then 1 else 0 := by
  unfold ev
  rw [dec_len, List.getD_eq_getElem?_getD, dec_get (Nat.mod_lt i hn)]
  rfl
theorem fb_lt {n x : Nat} (hn : 0 < n) (h : x < 2 ^ n) : fb n x < 2 ^ n := by
  unfold fb
  refine Nat.xor_lt_two_pow h (Nat.or_lt_two_pow (Nat.lt_of_le_of_lt (Nat.div_le_self x 2) h) ?_)
  rw [Nat.shiftLeft_eq]
  have h1 : 2 ^ n = 2 * 2 ^ (n - 1) := by
    rw [← Nat.pow_succ']
    congr 1
    omega
  have h2 : x % 2 < 2 := Nat.mod_lt _ (by decide)
  have h3 : 0 < 2 ^ (n - 1) := Nat.pow_pos (by decide)
  have h4 : (x % 2) * 2 ^ (n - 1) ≤ 1 * 2 ^ (n - 1) := Nat.mul_le_mul_right _ (by omega)
  omega
theorem fb_bit {n x i : Nat} (hn : 0 < n) (h : x < 2 ^ n) (hi : i < n) : (fb n x).testBit i = (x.testBit i ^^ x.testBit ((i + 1) % n)) := by
  unfold fb
  rw [Nat.testBit_xor, Nat.testBit_or, Nat.testBit_shiftLeft, Nat.testBit_div_two]
  congr 1
  by_cases hl : i + 1 < n
  · rw [Nat.mod_eq_of_lt hl, decide_eq_false (by omega)]
    simp
  · have e : i + 1 = n := by omega
    rw [e, Nat.mod_self, Nat.testBit_lt_two_pow h, decide_eq_true (by omega), show i - (n - 1) = 0 by omega]
    simp
theorem D_dec {n x : Nat} (hn : 0 < n) (h : x < 2 ^ n) : D (dec n x) = dec n (fb n x) := by
  unfold D
  rw [dec_len]
  unfold dec
  refine List.map_congr_left fun i hi => ?_
  have hi' := List.mem_range.mp hi
  have e1 := ev_dec (x := x) hn i
  have e2 := ev_dec (x := x) hn (i + 1)
  rw [Nat.mod_eq_of_lt hi'] at e1
  unfold dec at e1 e2
  rw [e1, e2, fb_bit hn h hi']
  cases x.testBit i <;> cases x.testBit ((i + 1) % n) <;> decide
theorem itr_dec {n : Nat} (hn : 0 < n) : ∀ (k x : Nat), x < 2 ^ n → itr k (dec n x) = dec n (gb n k x)
  | 0, _, _ => rfl
  | k + 1, x, h => by
    show D (itr k (dec n x)) = _
    rw [← itr_D, D_dec hn h]
    exact itr_dec hn k _ (fb_lt hn h)
theorem gb_lt {n : Nat} (hn : 0 < n) : ∀ (k x : Nat), x < 2 ^ n → gb n k x < 2 ^ n
  | 0, _, h => h
  | k + 1, x, h => gb_lt hn k _ (fb_lt hn h)
theorem dec_inj {n x y : Nat} (hx : x < 2 ^ n) (hy : y < 2 ^ n) (e : dec n x = dec n y) : x = y := by
  refine Nat.eq_of_testBit_eq fun i => ?_
  by_cases hi : i < n
  · have h1 := dec_get (x := x) hi
    rw [e, dec_get hi] at h1
    have h2 := Option.some.inj h1
    cases hX : x.testBit i <;> cases hY : y.testBit i <;> simp [hX, hY] at h2 ⊢
  · have hp : 2 ^ n ≤ 2 ^ i := Nat.pow_le_pow_right (by decide) (by omega)
    rw [Nat.testBit_lt_two_pow (Nat.lt_of_lt_of_le hx hp), Nat.testBit_lt_two_pow (Nat.lt_of_lt_of_le hy hp)]
theorem dec_bin (n x : Nat) : Bin 1 (dec n x) := fun y hy => by
  unfold dec at hy
  obtain ⟨i, _, rfl⟩ := List.mem_map.mp hy
  split
  · exact .inr rfl
  · exact .inl rfl
theorem dec_bd (n x : Nat) : Bd 200 (dec n x) := fun y hy => by
  rcases dec_bin n x y hy with e | e <;> omega
/-- the round's length divides whatever leads again -/
theorem IsC.dvd {l : List Int} {N b q P : Nat} (hC : IsC l N b) (hP : 0 < P) (h2 : itr (q + P) l = itr q l) : b ≤ q ∧ (N - b) ∣ P := by
  have hlt := hC.lt
  have hbq : b ≤ q := (hC.per_iff q).mp ⟨P, hP, h2⟩
  refine ⟨hbq, ?_⟩
  rw [← hC.at (show b ≤ q + P by omega), ← hC.at hbq] at h2
  have m1 := Nat.mod_lt (q + P - b) (show 0 < N - b by omega)
  have m2 := Nat.mod_lt (q - b) (show 0 < N - b by omega)
  have heq : (q + P - b) % (N - b) = (q - b) % (N - b) := by
    rcases Nat.lt_trichotomy ((q + P - b) % (N - b)) ((q - b) % (N - b)) with k | k | k
    · exact absurd h2 (hC.ne _ _ (by omega) (by omega))
    · exact k
    · exact absurd h2.symm (hC.ne _ _ (by omega) (by omega))
  rw [show q + P - b = (q - b) + P by omega] at heq
  have h3 : ((q - b) + P - (q - b)) % (N - b) = 0 := Nat.sub_mod_eq_zero_of_mod_eq heq
  rw [Nat.add_sub_cancel_left] at h3
  exact Nat.dvd_of_mod_eq_zero h3
/-- a course by few looks -/
def chk (n x b p : Nat) : Bool := decide (0 < p) && decide (gb n (b + p) x = gb n b x) && (decide (b = 0) || decide (gb n (b - 1 + p) x ≠ gb n (b - 1) x)) && ((List.range p).all fun d => decide (d = 0) || decide (p % d ≠ 0) || decide (gb n (b + d) x ≠ gb n b x))
theorem isC_dec {n x b p : Nat} (hn : 0 < n) (h12 : n ≤ 12) (hx : x < 2 ^ n) (h : chk n x b p = true) : IsC (dec n x) (b + p) b := by
  unfold chk at h
  simp only [Bool.and_eq_true, Bool.or_eq_true, decide_eq_true_eq, List.all_eq_true, List.mem_range] at h
  obtain ⟨⟨⟨hp, h1⟩, h2⟩, h3⟩ := h
  obtain ⟨N, b', hC⟩ := isC_ex (l := dec n x) (by rw [dec_len]; exact hn) (by rw [dec_len]; exact h12) (dec_bd n x)
  have hlt := hC.lt
  have e1 : itr (b + p) (dec n x) = itr b (dec n x) := by rw [itr_dec hn _ _ hx, itr_dec hn _ _ hx, h1]
  obtain ⟨hb, ⟨c, hc⟩⟩ := hC.dvd hp e1
  have eb : b' = b := by
    rcases Nat.lt_or_ge b' b with k | k
    · refine absurd ?_ (h2.resolve_left (by omega))
      have g := hC.pers (k := b - 1) (by omega) c
      rw [← hc, itr_dec hn _ _ hx, itr_dec hn _ _ hx] at g
      exact dec_inj (gb_lt hn _ _ hx) (gb_lt hn _ _ hx) g
    · omega
  subst eb
  have ep : N - b' = p := by
    rcases Nat.lt_or_ge (N - b') p with k | k
    · rcases h3 (N - b') k with (z | z) | z
      · omega
      · exact absurd (by rw [hc]; exact Nat.mul_mod_right _ _) z
      · refine absurd ?_ z
        have g := hC.per (k := b') (Nat.le_refl _)
        rw [itr_dec hn _ _ hx, itr_dec hn _ _ hx] at g
        exact dec_inj (gb_lt hn _ _ hx) (gb_lt hn _ _ hx) g
    · have : N - b' ≤ p := Nat.le_of_dvd hp ⟨c, hc⟩
      omega
  rw [← ep, show b' + (N - b') = N by omega]
  exact hC
theorem c1_3 : IsC (dec 3 1) 4 1 := isC_dec (p := 3) (by decide) (by decide) (by decide) (by decide +kernel)
theorem c1_5 : IsC (dec 5 1) 16 1 := isC_dec (p := 15) (by decide) (by decide) (by decide) (by decide +kernel)
theorem c1_6 : IsC (dec 6 1) 8 2 := isC_dec (p := 6) (by decide) (by decide) (by decide) (by decide +kernel)
theorem c1_7 : IsC (dec 7 1) 8 1 := isC_dec (p := 7) (by decide) (by decide) (by decide) (by decide +kernel)
theorem c1_9 : IsC (dec 9 1) 64 1 := isC_dec (p := 63) (by decide) (by decide) (by decide) (by decide +kernel)
theorem c1_10 : IsC (dec 10 1) 32 2 := isC_dec (p := 30) (by decide) (by decide) (by decide) (by decide +kernel)
theorem c1_11 : IsC (dec 11 1) 342 1 := isC_dec (p := 341) (by decide) (by decide) (by decide) (by decide +kernel)
theorem c1_12 : IsC (dec 12 1) 16 4 := isC_dec (p := 12) (by decide) (by decide) (by decide) (by decide +kernel)
end RD
namespace RL
open PySem PySem.Spec PyProof.Rows L2 Evl
/-! ### small rules beside the layer's -/
theorem tyL {K : PySem.W.Frag} {H : Hp} {a : Addr} {xs : List V} (h : SqL K H a xs) : TyX K H (.ref a) (.type "list") := by
  rcases h with (h | ⟨o, h⟩) | ⟨o, its, n, h, hc, _⟩
  · exact .base (.lst h)
  · exact .base (.frz h)
  · exact .kList h hc
theorem op_mulB {X : Cx} : OpR X (binaryOp .Mult) (rI IntMulOk fun i j => .int (i * j)) :=
  opI fun _ _ _ _ _ _ _ hc q => mul_int q hc
theorem mulOk {i j : Int} {a b : Nat} (ha : i.natAbs < 2 ^ a) (hb : j.natAbs < 2 ^ b) (h0 : 0 < a) (h1 : 0 < b) (h : a + b ≤ 100000000) : IntMulOk i j := by
  have x := PySem.Flt.log2_lt_of h0 ha
  have y := PySem.Flt.log2_lt_of h1 hb
  have bb : ∀ z : Int, Builtin.Int.intBits z ≤ z.natAbs.log2 + 1 := fun z => by
    unfold Builtin.Int.intBits
    split <;> omega
  have g1 := bb i
  have g2 := bb j
  have e : bitsLine = 134217728 := by decide
  unfold IntMulOk
  intro z
  rw [Bool.and_eq_true] at z
  have z2 := z.2
  unfold Builtin.Int.intTooBig at z2
  have z3 := of_decide_eq_true z2
  rw [e] at z3
  omega
theorem natAbs_of_bits {z : Int} {n : Nat} (h : Builtin.Int.intBits z ≤ n) : z.natAbs < 2 ^ n := by
  unfold Builtin.Int.intBits at h
  split at h
  · rename_i q
    have q0 : z = 0 := by
      first
        | exact q
        | (simpa using q)
    rw [q0]
    exact Nat.pow_pos (by decide)
  · rename_i q
    have q0 : z ≠ 0 := by
      first
        | exact q
        | (simpa using q)
    exact Nat.lt_of_lt_of_le (Nat.lt_log2_self) (Nat.pow_le_pow_right (by decide) h)
/-! ### data: lists of whole numbers -/
theorem dpAll_ints {K : PySem.W.Frag} {H : Hp} : ∀ ns : List Int, DpAll K H (ns.map V.int) (ns.map PyData.int)
  | [] => .nil
  | n :: r => .cons (.int n) (dpAll_ints r)
theorem dp_ints {K : PySem.W.Frag} {H : Hp} {a : Addr} {ns : List Int} (h : SqL K H a (ns.map V.int)) : Dp K H (.ref a) (.list (ns.map PyData.int)) := .lst h (dpAll_ints ns)
theorem eqvAll_ints : ∀ ns ms : List Int, PyData.eqvAll (ns.map PyData.int) (ms.map PyData.int) = decide (ns = ms)
  | [], [] => by simp [PyData.eqvAll]
  | [], m :: r => by simp [PyData.eqvAll]
  | n :: r, [] => by simp [PyData.eqvAll]
  | n :: r, m :: q => by
    rw [List.map_cons, List.map_cons, PyData.eqvAll, eqvAll_ints r q]
    by_cases h : n = m
    · by_cases h2 : r = q <;> simp [PyData.eqv, h, h2]
    · simp [PyData.eqv, h]
theorem eqv_ints (ns ms : List Int) : PyData.eqv (.list (ns.map PyData.int)) (.list (ms.map PyData.int)) = decide (ns = ms) := by
  rw [PyData.eqv, eqvAll_ints]
theorem canAll_ints : ∀ ns : List Int, PyData.canLayAll0 (ns.map PyData.int) = true
  | [] => by rw [List.map_nil, PyData.canLayAll0]
  | n :: r => by rw [List.map_cons, PyData.canLayAll0, canAll_ints r, PyData.canLay0]; rfl
theorem deepAll_ints : ∀ ns : List Int, PyData.depthAll (ns.map PyData.int) = 0
  | [] => by rw [List.map_nil, PyData.depthAll]
  | n :: r => by rw [List.map_cons, PyData.depthAll, deepAll_ints r, PyData.depth]; rfl
theorem shaped_ints (ns : List Int) : SeqAt.shaped (.list (ns.map PyData.int)) = true := by
  unfold SeqAt.shaped
  rw [PyData.canLay0, PyData.depth, canAll_ints, deepAll_ints]
  rfl
/-! ### a comprehension over a zip of two lists of one length -/
theorem lc_zip {K : PySem.W.Frag} {a b : Addr} {xs ys : List V} {g : TG} {tt : TT} {te : TE} {vs : List Nat} {σ : L2.St} {H1 : Hp} {D : Addr} {Qd : Hp → Prop} (hl : xs.length = ys.length) (Pv : Nat → Hp → Prop) (h0 : Pv 0 (upd H1 D (.lst [])))
    (hq : ∀ i H, i ≤ xs.length → Pv i H → SqL K H a xs ∧ SqL K H b ys)
    (hs : ∀ i x y T H, xs[i]? = some x → ys[i]? = some y → Pv i H → H T = none → g (.ref T) (wipe σ vs) (upd H T (.tup [x, y])) fun σ2 H2 => wipe σ2 vs = wipe σ vs ∧ tt σ2 H2 fun b H3 =>
      if b = true then te σ2 H3 fun y H4 => ∃ acc, H4 D = some (.lst acc) ∧ acc.length < sizeLine ∧ Pv (i + 1) (upd H4 D (.lst (acc ++ [y]))) else Pv (i + 1) H3) (hd : ∀ H, Pv xs.length H → Qd H) :
    ∃ W : Nat → Nat → Hp → Prop, (∃ m, W 0 m (upd H1 D (.lst []))) ∧ ∀ i m H, W i m H →
      ((Itz K a b).stop i H ∧ Qd H) ∨ ((Itz K a b).go i H ∧ ∃ Nx : Hp → Prop, (∀ H', Nx H' → ∃ m', m' < m ∧ W (i + 1) m' H') ∧ ∀ x H', (Itz K a b).yld i H x H' → g x (wipe σ vs) H' fun σ2 H2 => wipe σ2 vs = wipe σ vs ∧ tt σ2 H2 fun b H3 =>
        if b = true then te σ2 H3 fun y H4 => ∃ acc, H4 D = some (.lst acc) ∧ acc.length < sizeLine ∧ Nx (upd H4 D (.lst (acc ++ [y]))) else Nx H3) := by
  refine ⟨fun i m H => m = xs.length - i ∧ i ≤ xs.length ∧ Pv i H, ⟨xs.length, rfl, Nat.zero_le _, h0⟩, ?_⟩
  rintro i m H ⟨rfl, hi, p⟩
  obtain ⟨q1, q2⟩ := hq i H hi p
  by_cases hlt : i < xs.length
  · have gx := List.getElem?_eq_getElem hlt
    have gy := List.getElem?_eq_getElem (hl ▸ hlt)
    refine .inr ⟨⟨xs, ys, _, _, q1, q2, gx, gy⟩, Pv (i + 1), fun H' p' => ⟨xs.length - (i + 1), by omega, rfl, hlt, p'⟩, fun v H' hy => ?_⟩
    obtain ⟨T, x, y, rfl, nT, rfl, fx, fy⟩ := hy
    exact hs i x y T H (fx xs q1) (fy ys q2) p nT
  · exact .inl ⟨⟨xs, ys, q1, q2, .inl (by omega)⟩, hd H (by rw [show xs.length = i by omega]; exact p)⟩
theorem tyes {σ : L2.St} {H : Hp} {A B : Hp → Prop} (h : A H) : tYes σ H (fun b H3 => if b = true then A H3 else B H3) := by
  show (if true = true then A H else B H)
  rw [if_pos rfl]
  exact h
/-! ### heaps -/
theorem fresh_ne {H : Hp} {p q : Addr} {o : HO} (h : H q = none) (hp : H p = some o) : p ≠ q := ne_of_none hp h
theorem upd_fresh {H : Hp} {p q : Addr} {o : HO} (h : upd H p o q = none) : H q = none ∧ q ≠ p := by
  by_cases e : q = p
  · rw [e, upd_same] at h
    cases h
  · rw [upd_ne e] at h
    exact ⟨h, e⟩
theorem map_get {α β : Type} {l : List α} {f : α → β} {i : Nat} {y : β} (h : (l.map f)[i]? = some y) : ∃ x, l[i]? = some x ∧ y = f x := by
  rw [List.getElem?_map] at h
  cases e : l[i]? with
  | none => rw [e] at h; cases h
  | some x =>
    rw [e] at h
    exact ⟨x, rfl, (Option.some.inj h).symm⟩
theorem get_lt {α : Type} {l : List α} {i : Nat} {x : α} (h : l[i]? = some x) : i < l.length := (List.getElem?_eq_some_iff.mp h).1
/-- all/any over a comprehension's truths, the same for all items -/
theorem lc_each {K : PySem.W.Frag} {a : Addr} {xs : List V} {j : Nat} {te : TE} {vs : List Nat} {σ : L2.St} {H1 : Hp} {D : Addr} {Qd : Hp → Prop} (f : Nat → V) (hx : SqL K H1 a xs) (hD : H1 D = none) (hz : xs.length ≤ 40000)
    (hw : ∀ x, wipe ((wipe σ vs).set j (some x)) vs = wipe σ vs) (he : ∀ i x H, Ex H1 H → xs[i]? = some x → Ev te ((wipe σ vs).set j (some x)) H (f i))
    (hd : ∀ H, Ex H1 H → H D = some (.lst ((List.range xs.length).map f)) → Qd H) :
    ∃ W : Nat → Nat → Hp → Prop, (∃ m, W 0 m (upd H1 D (.lst []))) ∧ ∀ i m H, W i m H →
      ((Itl K a).stop i H ∧ Qd H) ∨ ((Itl K a).go i H ∧ ∃ Nx : Hp → Prop, (∀ H', Nx H' → ∃ m', m' < m ∧ W (i + 1) m' H') ∧ ∀ x H', (Itl K a).yld i H x H' → gName j x (wipe σ vs) H' fun σ2 H2 => wipe σ2 vs = wipe σ vs ∧ tYes σ2 H2 fun b H3 =>
        if b = true then te σ2 H3 fun y H4 => ∃ acc, H4 D = some (.lst acc) ∧ acc.length < sizeLine ∧ Nx (upd H4 D (.lst (acc ++ [y]))) else Nx H3) := by
  refine lc_list (xs := xs) (fun i H => Ex H1 H ∧ H D = some (.lst ((List.range i).map f))) ⟨Ex.new hD, upd_same⟩ (fun i H _ p => ex_l p.1 hx) (fun i x H hi p => ?_) (fun H p => hd H p.1 p.2)
  refine ⟨hw x, ?_⟩
  show te _ H _
  refine he i x H p.1 hi H (Ex.refl _) _ fun H2 e2 => ⟨_, e2 _ _ p.2, ?_, ?_, ?_⟩
  · have := get_lt hi
    rw [List.length_map, List.length_range]
    exact sz_lt (by omega)
  · exact Ex.mut (p.1.trans e2) hD
  · rw [upd_same, List.range_succ, List.map_append]
    rfl
theorem all_range {n : Nat} {f : Nat → Bool} (h : ∀ i, i < n → f i = true) : (((List.range n).map f).all id) = true := by
  rw [List.all_eq_true]
  intro b hb
  obtain ⟨i, hi, rfl⟩ := List.mem_map.mp hb
  exact h i (List.mem_range.mp hi)
theorem any_range {n : Nat} {f : Nat → Bool} (h : ∀ i, i < n → f i = false) : (((List.range n).map f).any id) = false := by
  rw [List.any_eq_false]
  intro b hb
  obtain ⟨i, hi, rfl⟩ := List.mem_map.mp hb
  rw [h i (List.mem_range.mp hi)]
  decide
/-! ### what evaluates to what, some more -/
theorem tyX_ex {K : PySem.W.Frag} {H H' : Hp} {x : V} {t : Value} (e : Ex H H') (h : TyX K H x t) : TyX K H' x t := by
  cases h with
  | base b =>
    refine .base ?_
    cases b with
    | non => exact .non
    | bl y => exact .bl y
    | int i => exact .int i
    | str y => exact .str y
    | flt y => exact .flt y
    | lst q => exact .lst (e _ _ q)
    | frz q => exact .frz (e _ _ q)
    | tup q => exact .tup (e _ _ q)
    | dK q => exact .dK (e _ _ q)
    | dT q => exact .dT (e _ _ q)
    | ins q a1 a2 a3 a4 a5 => exact .ins (e _ _ q) a1 a2 a3 a4 a5
  | byt y => exact .byt y
  | set q => exact .set (e _ _ q)
  | kList q c => exact .kList q c
  | kTuple q c => exact .kTuple q c
  | kDict q c => exact .kDict q c
  | fTuple q => exact .fTuple (e _ _ q)
  | fDict q => exact .fDict (e _ _ q)
section
variable {K : PySem.W.Frag} {σ : L2.St} {H H' : Hp} {ta tb tc te tl : TE} {t u : TT} {x y z v : V} {r r' : R2}
theorem ev_isi {ty cv : Value} {c : V} {b : Bool} (ha : Ev ta σ H x) (hx : TyX K H x ty) (hc : ClsV c cv) (hk : PySem.W.kitOne K ty cv = some b) :
    Ev (tCB (rIsi K) (tCons ta (tCons (tC c) tNil))) σ H (.bl b) := fun H1 e Q q =>
  ha H1 e _ fun H2 e2 => ⟨x, c, ty, cv, b, rfl, hc, tyX_ex (e.trans e2) hx, hk, q H2 e2⟩
theorem ev_isiL {xs : List V} {cv : Value} {c : V} {b : Bool} (ha : EvL ta σ H xs) (hc : ClsV c cv) (hk : PySem.W.kitOne K (.type "list") cv = some b) :
    Ev (tCB (rIsi K) (tCons ta (tCons (tC c) tNil))) σ H (.bl b) := fun H1 e Q q =>
  ha H1 e _ fun p H2 _ e2 h2 => ⟨_, c, _, cv, b, rfl, hc, .base (.lst h2), hk, q H2 e2⟩
theorem ev_chain {k k' : Bool} (ha : Ev ta σ H x) (hb : Ev tb σ H y) (hr : RV r x y H (.bl k)) (hc : Ev tc σ H z) (hr' : RV r' y z H (.bl k')) : Ev (tChain r r' ta tb tc) σ H (.bl (k && k')) := fun H1 e Q q =>
  ha H1 e _ fun H2 e2 => hb H2 (e.trans e2) _ fun H3 e3 => hr H3 ((e.trans e2).trans e3) _ fun H4 e4 => ⟨k, rfl, by
    cases k with
    | true =>
      show tc σ H4 _
      exact hc H4 (((e.trans e2).trans e3).trans e4) _ fun H5 e5 => hr' H5 ((((e.trans e2).trans e3).trans e4).trans e5) _ fun H6 e6 => q H6 ((((e2.trans e3).trans e4).trans e5).trans e6)
    | false =>
      show Q (.bl false) H4
      exact q H4 ((e2.trans e3).trans e4)⟩
theorem ev_allN {bs : List Bool} (ha : EvL ta σ H (bs.map V.bl)) : Ev (tCB (rAll K) (tCons ta tNil)) σ H (.bl (bs.all id)) := fun H1 e Q q =>
  ha H1 e _ fun p H2 _ e2 h2 => ⟨p, bs, rfl, sq_of h2, q H2 e2⟩
theorem ev_anyN {bs : List Bool} (ha : EvL ta σ H (bs.map V.bl)) : Ev (tCB (rAny K) (tCons ta tNil)) σ H (.bl (bs.any id)) := fun H1 e Q q =>
  ha H1 e _ fun p H2 _ e2 h2 => ⟨p, bs, rfl, sq_of h2, q H2 e2⟩
theorem el_each {a : Addr} {xs : List V} {j : Nat} {vs : List Nat} (f : Nat → V) (h : Ev tl σ H (.ref a)) (hx : SqL K H a xs) (hz : xs.length ≤ 40000)
    (hw : ∀ x, wipe ((wipe σ vs).set j (some x)) vs = wipe σ vs) (he : ∀ (i : Nat) x H1, Ex H H1 → xs[i]? = some x → Ev te ((wipe σ vs).set j (some x)) H1 (f i)) :
    EvL (tLc (iList K tl) (gName j) tYes te vs) σ H ((List.range xs.length).map f) := fun H0 e Q q => h H0 e _ fun H1 e1 => ⟨a, rfl, ⟨xs, ex_l (e.trans e1) hx⟩, fun Dl hD =>
  lc_each f (ex_l (e.trans e1) hx) hD hz hw (fun i x H2 e2 hi => he i x H2 ((e.trans e1).trans e2) hi) fun H2 e2 h2 => q Dl H2 (fresh_back e1 hD) (e1.trans e2) h2⟩
/-- all of truths over a list's items -/
theorem ev_allEach {a : Addr} {xs : List V} {j : Nat} {vs : List Nat} (h : Ev tl σ H (.ref a)) (hx : SqL K H a xs) (hz : xs.length ≤ 40000)
    (hw : ∀ x, wipe ((wipe σ vs).set j (some x)) vs = wipe σ vs) (he : ∀ (i : Nat) x H1, Ex H H1 → xs[i]? = some x → Ev te ((wipe σ vs).set j (some x)) H1 (.bl true)) :
    Ev (tCB (rAll K) (tCons (tLc (iList K tl) (gName j) tYes te vs) tNil)) σ H (.bl true) := by
  have h1 : EvL (tLc (iList K tl) (gName j) tYes te vs) σ H (((List.range xs.length).map fun _ => true).map V.bl) := by
    rw [List.map_map]
    exact el_each (fun _ => V.bl true) h hx hz hw he
  have h2 := ev_allN (K := K) h1
  rw [all_range fun _ _ => rfl] at h2
  exact h2
theorem ev_anyEach {a : Addr} {xs : List V} {j : Nat} {vs : List Nat} (h : Ev tl σ H (.ref a)) (hx : SqL K H a xs) (hz : xs.length ≤ 40000)
    (hw : ∀ x, wipe ((wipe σ vs).set j (some x)) vs = wipe σ vs) (he : ∀ (i : Nat) x H1, Ex H H1 → xs[i]? = some x → Ev te ((wipe σ vs).set j (some x)) H1 (.bl false)) :
    Ev (tCB (rAny K) (tCons (tLc (iList K tl) (gName j) tYes te vs) tNil)) σ H (.bl false) := by
  have h1 : EvL (tLc (iList K tl) (gName j) tYes te vs) σ H (((List.range xs.length).map fun _ => false).map V.bl) := by
    rw [List.map_map]
    exact el_each (fun _ => V.bl false) h hx hz hw he
  have h2 := ev_anyN (K := K) h1
  rw [any_range fun _ _ => rfl] at h2
  exact h2
end
/-- a ring as it is due -/
structure Ring (ns : List Int) : Prop where
  pos : 1 ≤ ns.length
  few : ns.length ≤ 12
  bd : RD.Bd 200 ns
theorem Ring.D {ns : List Int} (h : Ring ns) : Ring (RD.D ns) := ⟨by rw [RD.D_len]; exact h.pos, by rw [RD.D_len]; exact h.few, h.bd.D⟩
theorem Ring.itr {ns : List Int} (h : Ring ns) (k : Nat) : Ring (RD.itr k ns) := ⟨by rw [RD.itr_len]; exact h.pos, by rw [RD.itr_len]; exact h.few, h.bd.itr k⟩
section
variable {K : PySem.W.Frag} {σ : L2.St} {H H' : Hp} {ta tb tc te tl : TE} {t u : TT} {x y z v : V} {r r' : R2}
theorem ev_ixU {xs : List V} {i : Int} (ha : EvU ta σ H xs) (hb : Ev tb σ H (.int i)) (hv : atI xs i = some v) : Ev (tOp (rIxT K) ta tb) σ H v := fun H1 e Q q =>
  ha H1 e _ fun p H2 _ e2 hp => hb H2 (e.trans e2) _ fun H3 e3 => ⟨p, xs, i, v, rfl, rfl, st_of (e3 _ _ hp), hv, q H3 (e2.trans e3)⟩
theorem ev_ixL {p : Addr} {xs : List V} {i : Int} (ha : Ev ta σ H (.ref p)) (hb : Ev tb σ H (.int i)) (hx : SqL K H p xs) (hv : atI xs i = some v) : Ev (tOp (rIxL K) ta tb) σ H v :=
  ev_op ha hb (rv_ixL hx hv)
theorem ev_sum {p : Addr} {ns : List Int} (ha : Ev ta σ H (.ref p)) (hx : SqL K H p (ns.map V.int)) : Ev (tCB (rSum K) (tCons ta tNil)) σ H (.int ns.sum) := fun H1 e Q q =>
  ha H1 e _ fun H2 e2 => ⟨p, ns, rfl, ex_l (e.trans e2) hx, q H2 e2⟩
def rAbs : List V → Hp → VK → Prop := fun xs H Q => ∃ i, xs = [.int i] ∧ Q (.int (if i < 0 then -i else i)) H
theorem ev_abs {i : Int} (ha : Ev ta σ H (.int i)) : Ev (tCB rAbs (tCons ta tNil)) σ H (.int (if i < 0 then -i else i)) := fun H1 e Q q =>
  ha H1 e _ fun H2 e2 => ⟨i, rfl, q H2 e2⟩
end
def rTupS (K : PySem.W.Frag) : List V → Hp → VK → Prop := fun xs H Q => ∃ p ys, xs = [.ref p] ∧ ((SqL K H p ys ∧ ∀ l, H l = none → Q (.ref l) (upd H l (.tup ys))) ∨ (SqT K H p ys ∧ Q (.ref p) H))
theorem at_mem {l : List Int} {j : Int} (h0 : 0 ≤ j) (h1 : j < (l.length : Int)) : ∃ x, x ∈ l ∧ atI (l.map V.int) j = some (.int x) := by
  have hj : j.toNat < l.length := by omega
  refine ⟨l[j.toNat], List.getElem_mem hj, ?_⟩
  refine at_of (j := j.toNat) (by omega) ?_
  rw [List.getElem?_map, List.getElem?_eq_getElem hj]
  rfl
theorem at_int {l : List Int} {i : Nat} {n : Int} (h : l[i]? = some n) : atI (l.map V.int) (i : Int) = some (.int n) := by
  refine atI_nat ?_
  rw [List.getElem?_map, h]
  rfl
/-- all numbers have few bits -/
def Few (ns : List Int) : Prop := ∃ e : Nat, 0 < e ∧ e ≤ 1048576 ∧ ∀ z, z ∈ ns → z.natAbs < 2 ^ e
theorem few_of {ns : List Int} (h : ∀ z ∈ ns, Builtin.Int.intBits z ≤ 1048576) : Few ns := ⟨1048576, by decide, Nat.le_refl _, fun z hz => natAbs_of_bits (h z hz)⟩
theorem s_forNLn {K : PySem.W.Frag} {σ : L2.St} {H : Hp} {D : Ends} {tu : TS} {xs : List V} {tl : TE} {j : Nat} (h : EvL tl σ H xs) (Pv : Addr → Nat → L2.St → Hp → Prop) (h0 : ∀ p H1, H p = none → Ex H H1 → H1 p = some (.lst xs) → Pv p 0 σ H1)
    (hl : ∀ p i σ' H', i ≤ xs.length → Pv p i σ' H' → SqL K H' p xs) (hs : ∀ p i x σ' H', xs[i]? = some x → Pv p i σ' H' → tu { D with nx := Pv p (i + 1), ct := Pv p (i + 1), bk := D.nx } (σ'.set j (some x)) H')
    (hd : ∀ p σ' H', Pv p xs.length σ' H' → D.nx σ' H') : tFor (iList K tl) (gName j) tu D σ H := s_forNL h Pv h0 hl hs hd
/-! ### lists of whole numbers as values -/
def EvI (K : PySem.W.Frag) (te : TE) (σ : L2.St) (H : Hp) (ns : List Int) : Prop := ∀ H1, Ex H H1 → ∀ Q : VK, (∀ p H2, Ex H1 H2 → SqL K H2 p (ns.map V.int) → Q (.ref p) H2) → te σ H1 Q
section
variable {K : PySem.W.Frag} {σ : L2.St} {H H' : Hp} {ta tb tc te tl : TE} {ns ms : List Int}
theorem ei_var {i : Nat} {a : Addr} (h : σ[i]? = some (some (.ref a))) (hx : SqL K H a (ns.map V.int)) : EvI K (tVar i) σ H ns := fun H1 e Q q => ⟨.ref a, h, q a H1 (Ex.refl _) (ex_l e hx)⟩
theorem ei_L (h : EvL te σ H (ns.map V.int)) : EvI K te σ H ns := fun H1 e Q q => h H1 e _ fun p H2 _ e2 hp => q p H2 e2 (sq_of hp)
theorem ev_eqI (ha : EvI K ta σ H ns) (hb : EvI K tb σ H ms) : Ev (tOp (rEqD K) ta tb) σ H (.bl (decide (ns = ms))) := fun H1 e Q q =>
  ha H1 e _ fun p H2 e2 hp => hb H2 (e.trans e2) _ fun r H3 e3 hr => ⟨_, _, dp_ints (ex_l e3 hp), dp_ints hr, shaped_ints _, shaped_ints _, by rw [eqv_ints]; exact q H3 (e2.trans e3)⟩
theorem ev_neI (ha : EvI K ta σ H ns) (hb : EvI K tb σ H ms) : Ev (tOp (rNeD K) ta tb) σ H (.bl (!decide (ns = ms))) := fun H1 e Q q =>
  ha H1 e _ fun p H2 e2 hp => hb H2 (e.trans e2) _ fun r H3 e3 hr => ⟨_, _, dp_ints (ex_l e3 hp), dp_ints hr, shaped_ints _, shaped_ints _, by rw [eqv_ints]; exact q H3 (e2.trans e3)⟩
theorem ev_eqI1 (ha : EvI K ta σ H ns) (hb : EvI K tb σ H ms) (h : ns = ms) : Ev (tOp (rEqD K) ta tb) σ H (.bl true) := ev_is (ev_eqI ha hb) (by rw [decide_eq_true h])
theorem ev_neI0 (ha : EvI K ta σ H ns) (hb : EvI K tb σ H ms) (h : ns = ms) : Ev (tOp (rNeD K) ta tb) σ H (.bl false) := ev_is (ev_neI ha hb) (by rw [decide_eq_true h]; rfl)
theorem EvI.mono (e : Ex H H') (h : EvI K te σ H ns) : EvI K te σ H' ns := fun H1 a Q q => h H1 (e.trans a) Q q
theorem ev_isiI {cv : Value} {c : V} {b : Bool} (ha : EvI K ta σ H ns) (hc : ClsV c cv) (hk : PySem.W.kitOne K (.type "list") cv = some b) : Ev (tCB (rIsi K) (tCons ta (tCons (tC c) tNil))) σ H (.bl b) := fun H1 e Q q =>
  ha H1 e _ fun p H2 e2 h2 => ⟨_, c, _, cv, b, rfl, hc, tyL h2, hk, q H2 e2⟩
end
theorem ring_by {ms : List Int} (h : (decide (1 ≤ ms.length) && decide (ms.length ≤ 12) && (ms.all fun x => decide (0 ≤ x) && decide (x ≤ 200))) = true) : Ring ms := by
  simp only [Bool.and_eq_true, decide_eq_true_eq] at h
  refine ⟨h.1.1, h.1.2, fun x hx => ?_⟩
  have g := List.all_eq_true.mp h.2 x hx
  simp only [Bool.and_eq_true, decide_eq_true_eq] at g
  exact g
theorem rv_notB {H : Hp} {a b : Bool} : RV rNotB (.bl a) (.bl b) H (.bl (!decide (a = b))) := rv_val fun _ _ _ q => ⟨a, b, rfl, rfl, q⟩
theorem rv_isB {H : Hp} {a b : Bool} : RV rIsB (.bl a) (.bl b) H (.bl (decide (a = b))) := rv_val fun _ _ _ q => ⟨a, b, rfl, rfl, q⟩
section
variable {K : PySem.W.Frag} {σ : L2.St} {H : Hp} {te tl : TE} {ns : List Int} {j : Nat} {vs : List Nat}
/-- a comprehension over a list of whole numbers, wherever it comes from -/
theorem el_eachI (f : Nat → V) (h : EvI K tl σ H ns) (hz : ns.length ≤ 40000) (hw : ∀ x, wipe ((wipe σ vs).set j (some x)) vs = wipe σ vs)
    (he : ∀ (i : Nat) n H1, Ex H H1 → ns[i]? = some n → Ev te ((wipe σ vs).set j (some (.int n))) H1 (f i)) : EvL (tLc (iList K tl) (gName j) tYes te vs) σ H ((List.range ns.length).map f) := fun H0 e Q q =>
  h H0 e _ fun a H1 e1 hx => ⟨a, rfl, ⟨_, hx⟩, fun Dl hD => by
    have hl : (ns.map V.int).length = ns.length := List.length_map _
    refine lc_each (xs := ns.map V.int) f hx hD (by omega) hw (fun i x H2 e2 hi => ?_) fun H2 e2 h2 => ?_
    · obtain ⟨n, hn, rfl⟩ := map_get hi
      exact he i n H2 ((e.trans e1).trans e2) hn
    · rw [hl] at h2
      exact q Dl H2 (fresh_back e1 hD) (e1.trans e2) h2⟩
theorem ev_anyEI (h : EvI K tl σ H ns) (hz : ns.length ≤ 40000) (hw : ∀ x, wipe ((wipe σ vs).set j (some x)) vs = wipe σ vs)
    (he : ∀ (i : Nat) n H1, Ex H H1 → ns[i]? = some n → Ev te ((wipe σ vs).set j (some (.int n))) H1 (.bl false)) : Ev (tCB (rAny K) (tCons (tLc (iList K tl) (gName j) tYes te vs) tNil)) σ H (.bl false) := by
  have h1 : EvL (tLc (iList K tl) (gName j) tYes te vs) σ H (((List.range ns.length).map fun _ => false).map V.bl) := by
    rw [List.map_map]
    exact el_eachI (fun _ => V.bl false) h hz hw he
  have h2 := ev_anyN (K := K) h1
  rw [any_range fun _ _ => rfl] at h2
  exact h2
/-- a new list of whole numbers by an element that is a function of the item -/
theorem el_mapI (g : Int → Int) (h : EvI K tl σ H ns) (hz : ns.length ≤ 40000) (hw : ∀ x, wipe ((wipe σ vs).set j (some x)) vs = wipe σ vs)
    (he : ∀ n H1, Ex H H1 → n ∈ ns → Ev te ((wipe σ vs).set j (some (.int n))) H1 (.int (g n))) : EvL (tLc (iList K tl) (gName j) tYes te vs) σ H ((ns.map g).map V.int) := by
  have h1 := el_eachI (vs := vs) (te := te) (fun i => V.int (g (ns.getD i 0))) h hz hw (fun i n H1 e1 hi => by
    rw [List.getD_eq_getElem?_getD, hi]
    exact he n H1 e1 (List.mem_of_getElem? hi))
  have e : (List.range ns.length).map (fun i => V.int (g (ns.getD i 0))) = (ns.map g).map V.int := by
    apply List.ext_getElem?
    intro i
    by_cases hi : i < ns.length
    · simp [List.getElem?_map, List.getElem?_range hi, List.getElem?_eq_getElem hi]
    · rw [List.getElem?_eq_none (by rw [List.length_map, List.length_range]; omega), List.getElem?_eq_none (by rw [List.length_map, List.length_map]; omega)]
  rw [e] at h1
  exact h1
theorem et_yes : EvT tYes σ H true := fun H1 _ _ q => q H1 (Ex.refl _)
theorem given_all (n : Nat) (v : Nat → V) : given n (fun _ => true) v = (List.range n).map v := by
  unfold given
  congr 1
  exact List.filter_eq_self.mpr fun _ _ => rfl
end
/-! ### loops whose turns leave all that stood -/
section
variable {K : PySem.W.Frag} {σ : L2.St} {H : Hp} {D : Ends} {tu tz : TS} {j : Nat}
theorem m_forL {xs : List V} {tl : TE} (h : EvL tl σ H xs) (Pv : Nat → L2.St → Prop) (h0 : Pv 0 σ)
    (hs : ∀ (i : Nat) x σ' H' (N : L2.St → Hp → Prop), xs[i]? = some x → Ex H H' → Pv i σ' → (∀ σ2 H2, Ex H' H2 → Pv (i + 1) σ2 → N σ2 H2) → tu { D with nx := N, ct := N, bk := D.nx } (σ'.set j (some x)) H')
    (hd : ∀ σ' H', Ex H H' → Pv xs.length σ' → D.nx σ' H') : tFor (iList K tl) (gName j) tu D σ H :=
  s_forNL h (fun p i σ' H' => Pv i σ' ∧ Ex H H' ∧ H' p = some (.lst xs)) (fun p H1 np e1 h1 => ⟨h0, e1, h1⟩) (fun p i σ' H' _ q => sq_of q.2.2)
    (fun p i x σ' H' hx q => hs i x σ' H' _ hx q.2.1 q.1 fun σ2 H2 e2 q2 => ⟨q2, q.2.1.trans e2, e2 _ _ q.2.2⟩) (fun p σ' H' q => hd σ' H' q.2.1 q.1)
theorem n_forL {xs : List V} {tl : TE} (h : EvL tl σ H xs) (Pv : Nat → L2.St → Prop) (h0 : Pv 0 σ)
    (hs : ∀ (i : Nat) x σ' H' (N : L2.St → Hp → Prop), xs[i]? = some x → Ex H H' → Pv i σ' → (∀ σ2 H2, Ex H' H2 → Pv (i + 1) σ2 → N σ2 H2) → tu { D with nx := N, ct := N, bk := tz D } (σ'.set j (some x)) H')
    (hd : ∀ σ' H', Ex H H' → Pv xs.length σ' → tz D σ' H') : tSeq (tFor (iList K tl) (gName j) tu) tz D σ H := m_forL (D := { D with nx := tz D }) h Pv h0 hs hd
/-- a written list of tuples -/
def EvTs (ta : TA) (σ : L2.St) (H : Hp) (ps : List (List V)) : Prop := ∀ H1, Ex H H1 → ∀ Q : List V → Hp → Prop, (∀ (as : List Addr) H2, Ex H1 H2 → as.length = ps.length → (∀ (i : Nat) a, as[i]? = some a → ∃ p, ps[i]? = some p ∧ H2 a = some (.tup p)) → Q (as.map V.ref) H2) → ta σ H1 Q
theorem ets_nil : EvTs tNil σ H [] := fun H1 _ Q q => q [] H1 (Ex.refl _) rfl fun i a h => by simp at h
theorem ets_cons {te : TE} {ta : TA} {p : List V} {ps : List (List V)} (h : EvU te σ H p) (hr : EvTs ta σ H ps) : EvTs (tCons te ta) σ H (p :: ps) := fun H1 e Q q =>
  h H1 e _ fun a H2 na e2 ha => hr H2 (e.trans e2) _ fun as H3 e3 hl has => q (a :: as) H3 (e2.trans e3) (by rw [List.length_cons, List.length_cons, hl]) fun i b hb => by
    cases i with
    | zero =>
      cases hb
      exact ⟨p, rfl, e3 _ _ ha⟩
    | succ i => exact has i b hb
/-- for a, b in [(..), ..] -/
theorem m_forT2 {ps : List (List V)} {ta : TA} {i1 i2 : Nat} (h : EvTs ta σ H ps) (hz : ps.length ≤ 1000) (h2 : ∀ p, p ∈ ps → p.length = 2) (Pv : Nat → L2.St → Prop) (h0 : Pv 0 σ)
    (hs : ∀ (i : Nat) x y σ' H' (N : L2.St → Hp → Prop), ps[i]? = some [x, y] → Ex H H' → Pv i σ' → (∀ σ2 H2, Ex H' H2 → Pv (i + 1) σ2 → N σ2 H2) → tu { D with nx := N, ct := N, bk := D.nx } ((σ'.set i1 (some x)).set i2 (some y)) H')
    (hd : ∀ σ' H', Ex H H' → Pv ps.length σ' → D.nx σ' H') : tFor (iList K (tLst ta)) (gTup K 2 (gCons (gName i1) (gCons (gName i2) gNil))) tu D σ H := by
  refine h H (Ex.refl _) _ fun as H1 e1 hl has => ⟨by rw [List.length_map, hl]; exact sz_of (by omega), fun l nl => ?_⟩
  have e2 := Ex.new (o := .lst (as.map V.ref)) nl
  have hl2 : upd H1 l (.lst (as.map V.ref)) l = some (.lst (as.map V.ref)) := upd_same
  generalize upd H1 l (.lst (as.map V.ref)) = H2 at e2 hl2
  refine ⟨l, rfl, ⟨_, sq_of hl2⟩, for_list (xs := as.map V.ref) (fun i σ' H' => Pv i σ' ∧ Ex H2 H') ⟨h0, Ex.refl _⟩ (fun i σ' H' _ q => sq_of (q.2 _ _ hl2)) (fun i x σ' H' hx q => ?_) (fun σ' H' q => ?_)⟩
  · obtain ⟨a, ha, rfl⟩ := map_get hx
    obtain ⟨p, hp, hpa⟩ := has i a ha
    have hp2 := h2 p (List.mem_of_getElem? hp)
    match p, hp, hp2, hpa with
    | [x, y], hp, _, hpa =>
      exact ⟨a, _, rfl, st_of (q.2 _ _ (e2 _ _ hpa)), rfl, x, _, rfl, y, _, rfl, rfl, hs i x y σ' H' _ hp ((e1.trans e2).trans q.2) q.1 fun σ2 H3 e3 q3 => ⟨q3, q.2.trans e3⟩⟩
  · obtain ⟨q1, q2⟩ := q
    rw [List.length_map, hl] at q1
    exact hd σ' H' ((e1.trans e2).trans q2) q1
theorem n_forT2 {ps : List (List V)} {ta : TA} {i1 i2 : Nat} (h : EvTs ta σ H ps) (hz : ps.length ≤ 1000) (h2 : ∀ p, p ∈ ps → p.length = 2) (Pv : Nat → L2.St → Prop) (h0 : Pv 0 σ)
    (hs : ∀ (i : Nat) x y σ' H' (N : L2.St → Hp → Prop), ps[i]? = some [x, y] → Ex H H' → Pv i σ' → (∀ σ2 H2, Ex H' H2 → Pv (i + 1) σ2 → N σ2 H2) → tu { D with nx := N, ct := N, bk := tz D } ((σ'.set i1 (some x)).set i2 (some y)) H')
    (hd : ∀ σ' H', Ex H H' → Pv ps.length σ' → tz D σ' H') : tSeq (tFor (iList K (tLst ta)) (gTup K 2 (gCons (gName i1) (gCons (gName i2) gNil))) tu) tz D σ H := m_forT2 (D := { D with nx := tz D }) h hz h2 Pv h0 hs hd
end
theorem s_par {σ : L2.St} {H : Hp} {D : Ends} {ta : TA} {i j : Nat} {v w : V} (h : EvA ta σ H [v, w]) (k : ∀ H1, Ex H H1 → D.nx ((σ.set i (some v)).set j (some w)) H1) : tPar i j ta D σ H := h H (Ex.refl _) _ fun H1 e => ⟨v, w, rfl, k H1 e⟩
theorem q_par {σ : L2.St} {H : Hp} {D : Ends} {tz : TS} {ta : TA} {i j : Nat} {v w : V} (h : EvA ta σ H [v, w]) (k : ∀ H1, Ex H H1 → tz D ((σ.set i (some v)).set j (some w)) H1) : tSeq (tPar i j ta) tz D σ H := s_par (D := { D with nx := tz D }) h k
def rMin2 : List V → Hp → VK → Prop := fun xs H Q => ∃ i j, xs = [.int i, .int j] ∧ Q (.int (if j < i then j else i)) H
theorem ev_min2 {σ : L2.St} {H : Hp} {ta tb : TE} {i j : Int} (ha : Ev ta σ H (.int i)) (hb : Ev tb σ H (.int j)) : Ev (tCB rMin2 (tCons ta (tCons tb tNil))) σ H (.int (if j < i then j else i)) := fun H1 e Q q =>
  ha H1 e _ fun H2 e2 => hb H2 (e.trans e2) _ fun H3 e3 => ⟨i, j, rfl, q H3 (e2.trans e3)⟩
theorem cut_lo2 (xs : List V) (k : Nat) : cutV xs (some (k : Int)) none = xs.drop k := by
  unfold cutV
  rw [HT.sIx_nat, HT.sIx_none]
  by_cases hk : k ≤ xs.length
  · rw [Nat.min_eq_left hk, List.take_of_length_le (by rw [List.length_drop]; exact Nat.le_refl _)]
  · rw [Nat.min_eq_right (by omega), Nat.sub_self, List.take_zero, List.drop_of_length_le (by omega)]
theorem cut_hi2 (xs : List V) (k : Nat) : cutV xs none (some (k : Int)) = xs.take k := by
  unfold cutV
  rw [HT.sIx_none, HT.sIx_nat, List.drop_zero, Nat.sub_zero]
  by_cases hk : k ≤ xs.length
  · rw [Nat.min_eq_left hk]
  · rw [Nat.min_eq_right (by omega), List.take_of_length_le (Nat.le_refl _), List.take_of_length_le (by omega)]
/-- xs[k:] + xs[:k] -/
theorem el_turn {K : PySem.W.Frag} {σ : L2.St} {H : Hp} {te ta tb tc : TE} {ns : List Int} {k : Nat} (ha : EvI K te σ H ns) (hb : EvI K tc σ H ns) (h1 : Ev ta σ H (.int (k : Int))) (h2 : Ev tb σ H (.int (k : Int))) (hz : ns.length ≤ 1000) :
    EvL (tOp rCat (tSl (rSlL K) te (tPart ta) tNoPart) (tSl (rSlL K) tc tNoPart (tPart tb))) σ H ((ns.drop k ++ ns.take k).map V.int) := fun H1 e Q q =>
  ha H1 e _ fun a H2 e2 hp => h1 H2 (e.trans e2) _ fun H3 e3 => ⟨(k : Int), rfl, a, _, rfl, ex_l e3 hp, fun x nx => by
    have e4 := Ex.new (o := .lst (cutV (ns.map V.int) (some (k : Int)) none)) nx
    have hx4 : upd H3 x (.lst (cutV (ns.map V.int) (some (k : Int)) none)) x = some (.lst (cutV (ns.map V.int) (some (k : Int)) none)) := upd_same
    generalize upd H3 x (.lst (cutV (ns.map V.int) (some (k : Int)) none)) = H4 at e4 hx4
    refine hb H4 (((e.trans e2).trans e3).trans e4) _ fun b H5 e5 hq => h2 H5 ((((e.trans e2).trans e3).trans e4).trans e5) _ fun H6 e6 => ⟨(k : Int), rfl, b, _, rfl, ex_l e6 hq, fun y ny => ?_⟩
    have e7 := Ex.new (o := .lst (cutV (ns.map V.int) none (some (k : Int)))) ny
    refine ⟨x, y, _, _, rfl, rfl, e7 _ _ (e6 _ _ (e5 _ _ hx4)), upd_same, ?_, fun z nz => ?_⟩
    · have l1 := cutV_length (ns.map V.int) (some (k : Int)) none
      have l2 := cutV_length (ns.map V.int) none (some (k : Int))
      rw [List.length_map] at l1 l2
      exact sz_of (by omega)
    · have e26 := ((((e2.trans e3).trans e4).trans e5).trans e6).trans e7
      refine q z _ (fresh_back e26 nz) (e26.trans (Ex.new nz)) ?_
      rw [upd_same, cut_lo2, cut_hi2, List.map_append, List.map_drop, List.map_take]⟩
theorem el_rev {K : PySem.W.Frag} {σ : L2.St} {H : Hp} {te : TE} {ns : List Int} (ha : EvI K te σ H ns) : EvL (tRevL K te) σ H (ns.reverse.map V.int) := fun H1 e Q q =>
  ha H1 e _ fun a H2 e2 hp => ⟨a, _, rfl, hp, fun x nx => q x _ (fresh_back e2 nx) (e2.trans (Ex.new nx)) (by rw [upd_same, List.map_reverse])⟩
/-- the whole of the script: abs(sum(script[:63])) -/
theorem ev_whole {K : PySem.W.Frag} {σ : L2.St} {H : Hp} {te : TE} {ns : List Int} (ha : EvI K te σ H ns) (hl : ns.length ≤ 63) : Ev (tCB rAbs (tCons (tCB (rSum K) (tCons (tSl (rSlL K) te tNoPart (tPart (tC (.int 63)))) tNil)) tNil)) σ H (.int (if ns.sum < 0 then -ns.sum else ns.sum)) := fun H1 e Q q =>
  ha H1 e _ fun a H2 e2 hp => ⟨63, rfl, a, _, rfl, hp, fun c nc => ⟨c, ns, rfl, by
    rw [show (some (63 : Int)) = some ((63 : Nat) : Int) from rfl, cut_hi2, List.take_of_length_le (by rw [List.length_map]; exact hl)]
    exact sq_of upd_same, ns.sum, rfl, q _ (e2.trans (Ex.new nc))⟩⟩
theorem q_parL {σ : L2.St} {H : Hp} {D : Ends} {tz : TS} {te tb : TE} {i j : Nat} {xs : List V} {w : V} (h : EvL te σ H xs) (h2 : Ev tb σ H w) (k : ∀ p H1, H p = none → Ex H H1 → H1 p = some (.lst xs) → tz D ((σ.set i (some (.ref p))).set j (some w)) H1) :
    tSeq (tPar i j (tCons te (tCons tb tNil))) tz D σ H := h H (Ex.refl _) _ fun p H1 np e1 hp => h2 H1 e1 _ fun H2 e2 => ⟨_, _, rfl, k p H2 np (e1.trans e2) (e2 _ _ hp)⟩
theorem EvL_of {te : TE} {σ : L2.St} {H : Hp} {xs ys : List Int} (e : xs = ys) (h : EvL te σ H (xs.map V.int)) : EvL te σ H (ys.map V.int) := by
  rw [← e]
  exact h
/-- an if without else, both ways joined by a word on the heap, the slots as they were -/
theorem pq_when {σ : L2.St} {H : Hp} {D : Ends} {t : TT} {tu tz : TS} (R : Hp → Prop) {b : Bool} (h : EvT t σ H b) (h1 : b = true → ∀ H1, Ex H H1 → tu ⟨fun σ2 H2 => σ2 = σ ∧ R H2, D.rt, D.bk, D.ct⟩ σ H1) (h2 : b = false → ∀ H1, Ex H H1 → R H1) (k : ∀ H1, R H1 → tz D σ H1) :
    tCut (tIfS t tu tNext) tz D σ H := ⟨fun σ2 H2 => σ2 = σ ∧ R H2, s_if (D := { D with nx := fun σ2 H2 => σ2 = σ ∧ R H2 }) h (fun hb H1 e1 => h1 hb H1 e1) (fun hb H1 e1 => ⟨rfl, h2 hb H1 e1⟩), fun σ2 H2 q => by
    obtain ⟨rfl, q⟩ := q
    exact k H2 q⟩
theorem pe_fldK {X : Cx} {K : PySem.W.Frag} {e : Expr} {ta : TE} {f : Str} {pos : Pos} (hK : X.K = K) (he : PE X e ta) (hb : attributeBase e f X.env (eval e X.env) = eval e X.env) : PE X (.Attribute e f pos) (tFld K ta f) := by
  rw [← hK]
  exact pe_fld he hb
/-! ### rules for answers: any of whole numbers, a method of one of two classes, isinstance of own instances -/
def rAnyI (K : PySem.W.Frag) : List V → Hp → VK → Prop := fun vs H Q => ∃ (a : Addr) (ns : List Int), vs = [V.ref a] ∧ SqL K H a (ns.map V.int) ∧ Q (.bl (ns.any fun n => n != 0)) H
theorem truth_ints {prog : Program} {w : World} {A : Around} {ns : List Int} {its : List Value} (e : IntsAre its ns) :
    TruthOf prog w A (fun i v => its.toArray[i]? = some v) (fun i => (ns.map fun n => n != 0).getD i false) := by
  intro i v s Q E hv hq
  have hv' : its[i]? = some v := by simpa using hv
  have rv := vals_ints e
  have hi : i < ns.length := by
    have h1 := get_lt hv'
    have h2 := rv.length
    rw [List.length_map] at h2
    omega
  obtain ⟨u, hu, t, rfl⟩ := rv.get (i := i) (x := .int ns[i]) (by rw [List.getElem?_map, List.getElem?_eq_getElem hi]; rfl)
  rw [hv'] at hu
  cases hu
  have hg : (ns.map fun n => n != 0).getD i false = (ns[i] != 0) := by
    rw [List.getD_eq_getElem?_getD, List.getElem?_map, List.getElem?_eq_getElem hi]
    rfl
  have hq' : Q ((ns.map fun n => n != 0).getD i false) s := hq
  rw [hg] at hq'
  exact PySem.P.truthy_int hq'
theorem cr_anyI {X : Cx} (hc : X.calm = true) : CallR X (.builtin "any") (rAnyI X.K) := by
  intro pins s σ H vs us Q I r h
  obtain ⟨a, ns, rfl, hs, q⟩ := h
  obtain ⟨its, rv, hl, _⟩ := I.list hs
  rw [Vals.ref1 r]
  have hb : IntsAre its ns := rv.ints
  refine call_any_walk (iter_any hl.isList fun s2 e2 st hne => ?_)
  subst e2
  refine ⟨_, _, _, _, _, _, _, rfl, Walks.list (A := X.A.in1) (I.ok.hd hc) _ a hne its.toArray, st, truth_ints hb, fun h' tk hk => ?_⟩
  refine ⟨.bl _, H, I.kept fun b o eo => hk b o (fun hmem => ?_) (Heap.get?_push_of_some _ eo), ?_, q⟩
  · rcases List.mem_cons.mp hmem with z | z
    · exact absurd (z ▸ Heap.lt_size eo) (Nat.lt_irrefl _)
    · cases z
  · have hlen : its.length = (ns.map fun n => n != 0).length := by
      have h2 := rv.length
      rw [List.length_map] at h2 ⊢
      exact h2.symm
    have g := L2.any_range (ns.map fun n => n != 0)
    show Value.bool _ = Value.bool _
    rw [List.size_toArray, hlen, g, List.any_map]
    rfl
def tMeth2 (C1 C2 : Addr) (m : Str) (sp1 sp2 : Sp) (E : XK) (ta : TE) (t : TA) : TE := fun σ H Q => ta σ H fun x H1 => ∃ a dx fs, x = .ref a ∧ fs.lookup m = none ∧
  ((H1 a = some (.ins C1 dx fs) ∧ t σ H1 fun vs H2 => sp1 (x :: vs) H2 Q E) ∨ (H1 a = some (.ins C2 dx fs) ∧ t σ H1 fun vs H2 => sp2 (x :: vs) H2 Q E))
theorem pe_meth2 {X : Cx} {CX1 CX2 : CXT} {k1 k2 : Nat} {f1 f2 C1 C2 : Addr} {fd1 fd2 : FuncData} {ps1 ps2 : List Str} {sp1 sp2 : Sp} {E : XK} {m : Str} {pos apos : Pos} {e o : Expr} {es : List Expr} {ta : TE} {t : TA} {pl : Sem Bool}
    (he : PE X o ta) (c1 : Cls X.K C1) (c2 : Cls X.K C2) (hm1 : Meth X.K C1 m f1) (hm2 : Meth X.K C2 m f2) (F1 : FnOk X.prog X.w X.K X.mg X.base CX1 k1 f1 fd1 ps1 sp1) (F2 : FnOk X.prog X.w X.K X.mg X.base CX2 k2 f2 fd2 ps2 sp2)
    (hr1 : Room k1 X.A) (hr2 : Room k2 X.A) (hb1 : Binds X.K fd1 ps1 []) (hb2 : Binds X.K fd2 ps2 []) (hx1 : Passes CX1 X E) (hx2 : Passes CX2 X E) (ha : PA X (e :: es) t)
    (hst : starEach (e :: es) X.env = (false, eval e X.env) :: starEach es X.env := by rfl) (hpl : (backTo pos (starEach es X.env)).any (·.1) = false := by rfl)
    (ht : eval (.Call (.Attribute o m apos) (e :: es) [] pos) X.env = (do
      let ov ← eval o X.env
      standAt apos.atName
      let (f, first) ← holding [ov] (getMethod ov m pl)
      callWith pos f first (backTo pos (starEach (e :: es) X.env)) (backToKw pos (keywordEach [] X.env))) := by rfl) :
    PE X (.Call (.Attribute o m apos) (e :: es) [] pos) (tMeth2 C1 C2 m sp1 sp2 E ta t) := by
  refine ⟨fun pins s σ H Q I h => ?_⟩
  refine PySem.W.methodCall_KW (pl := pl) (thn (he.run pins s σ H _ I h) fun u s1 hh => ?_) ht
  obtain ⟨x, H1, I1, rx, a, dx, fs, ex, l, hcase⟩ := hh
  subst ex
  obtain rfl : u = Value.ref a := rx
  rcases hcase with ⟨ea, q⟩ | ⟨ea, q⟩
  · refine getmeth_ok I1 ea c1 hm1 l ?_
    refine PySem.W.callWith_K (first := [.ref a]) (h₀ := X.base) I.ok.mod.kin hm1.kp (thn (ha.run pos pins s1 σ H1 _ I1 q) fun us s2 h2 => ?_) hst hpl
    obtain ⟨vs, H2, I2, r, q2⟩ := h2
    refine ⟨I2.kIn, ?_⟩
    exact run_fn (us := .ref a :: us) (vs := .ref a :: vs) (dvs := []) F1 hr1 hb1 .nil hx1 I2 (.cons rfl r) (by rw [List.append_nil]; exact q2)
  · refine getmeth_ok I1 ea c2 hm2 l ?_
    refine PySem.W.callWith_K (first := [.ref a]) (h₀ := X.base) I.ok.mod.kin hm2.kp (thn (ha.run pos pins s1 σ H1 _ I1 q) fun us s2 h2 => ?_) hst hpl
    obtain ⟨vs, H2, I2, r, q2⟩ := h2
    refine ⟨I2.kIn, ?_⟩
    exact run_fn (us := .ref a :: us) (vs := .ref a :: vs) (dvs := []) F2 hr2 hb2 .nil hx2 I2 (.cons rfl r) (by rw [List.append_nil]; exact q2)
theorem kit_own {K : PySem.W.Frag} {C D : Addr} {b : Bool} (h1 : PySem.W.isClsIn K D = true) (h2 : PySem.W.typeIn K (.ref D) = some (.type "type")) (h3 : PySem.W.subIn K (.ref C) (.ref D) = some b) (h4 : PySem.W.subIn K (.ref D) (.ref D) = some true) :
    PySem.W.kitOne K (.ref C) (.ref D) = some b := by
  have h1' : (PySem.W.clsIn K D).isSome = true := h1
  unfold PySem.W.kitOne PySem.W.kitCls
  by_cases e : C = D
  · subst e
    rw [if_pos (by simp)]
    rw [h3] at h4
    exact h4.symm
  · rw [if_neg (by simpa using e)]
    simp only [h1', h2, h3]
    rfl
/-- the greatest number (of numbers from 0 on) -/
def mx : List Int → Int
  | [] => 0
  | x :: r => if mx r ≤ x then x else mx r
theorem mx_nn : ∀ l : List Int, 0 ≤ mx l
  | [] => Int.le_refl _
  | x :: r => by
    have := mx_nn r
    unfold mx
    split <;> omega
theorem mx_ge : ∀ {l : List Int} {x : Int}, x ∈ l → x ≤ mx l
  | y :: r, x, h => by
    unfold mx
    rcases List.mem_cons.mp h with e | h
    · subst e
      split <;> omega
    · have := mx_ge h
      split <;> omega
theorem mx_mem : ∀ {l : List Int}, (∀ x, x ∈ l → 0 ≤ x) → l ≠ [] → mx l ∈ l
  | [], _, h => absurd rfl h
  | [x], h, _ => by
    have := h x List.mem_cons_self
    unfold mx
    rw [if_pos (show mx [] ≤ x from this)]
    exact List.mem_cons_self
  | x :: y :: r, h, _ => by
    have ih := mx_mem (l := y :: r) (fun z hz => h z (List.mem_cons_of_mem _ hz)) (by simp)
    rw [mx]
    split
    · exact List.mem_cons_self
    · exact List.mem_cons_of_mem _ ih
theorem mx_is {l : List Int} {m : Int} (h : ∀ x, x ∈ l → 0 ≤ x) (h1 : m ∈ l) (h2 : ∀ y, y ∈ l → y ≤ m) : m = mx l := by
  have a := mx_ge h1
  have b := h2 _ (mx_mem h (List.ne_nil_of_mem h1))
  omega
theorem mx_any {l : List Int} (h : ∀ x, x ∈ l → 0 ≤ x) : (l.any fun n => n != 0) = decide (mx l ≠ 0) := by
  by_cases hz : mx l = 0
  · rw [decide_eq_false (by simpa using hz), List.any_eq_false]
    intro x hx
    have := mx_ge hx
    have := h x hx
    have : x = 0 := by omega
    simp [this]
  · rw [decide_eq_true hz, List.any_eq_true]
    have hne : l ≠ [] := fun e => by
      rw [e] at hz
      exact hz rfl
    exact ⟨mx l, mx_mem h hne, by simpa using hz⟩
theorem ev_max {K : PySem.W.Frag} {σ : L2.St} {H : Hp} {ta : TE} {ns : List Int} (ha : EvI K ta σ H ns) (h : Ring ns) : Ev (tCB (rMax K) (tCons ta tNil)) σ H (.int (mx ns)) := fun H1 e Q q =>
  ha H1 e _ fun p H2 e2 hp => ⟨p, ns, rfl, hp, h.pos, fun m hm hle => by
    rw [mx_is (fun x hx => (h.bd x hx).1) hm hle]
    exact q H2 e2⟩
theorem ev_anyI {K : PySem.W.Frag} {σ : L2.St} {H : Hp} {ta : TE} {ns : List Int} (ha : EvI K ta σ H ns) (h : Ring ns) : Ev (tCB (rAnyI K) (tCons ta tNil)) σ H (.bl (decide (mx ns ≠ 0))) := fun H1 e Q q =>
  ha H1 e _ fun p H2 e2 hp => ⟨p, ns, rfl, hp, by
    rw [mx_any (fun x hx => (h.bd x hx).1)]
    exact q H2 e2⟩
/-! ### an instance of a class without an __init__ of its own -/
structure MkP (K : PySem.W.Frag) (C : Addr) : Prop where
  makes : PySem.W.makesIn K C = true
  init : PySem.W.findIn K (.ref C) "__init__" = some (some (.builtin "object.__init__"))
  kp : PySem.W.keepIn K (.ref C) = true
def tMakeP (C : Addr) : TE := fun _ H Q => ∀ x dx, H x = none → H dx = none → dx ≠ x → Q (.ref x) (upd (upd H dx (.own x)) x (.ins C dx []))
theorem pe_makeP {X : Cx} {C : Addr} {x : Str} {p pos : Pos} (M : MkP X.K C) (hg : Gl X x) (hm : X.mg x = some (.ref C)) (hdb : (x == ("__debug__" : Str)) = false := by decide) : PE X (.Call (.Name x p) [] [] pos) (tMakeP C) := by
  refine ⟨fun pins s σ H Q I h => ?_⟩
  refine wpAny_Call_Name_kw (ld_glob I hg hm ?_ hdb)
  refine PySem.W.callWith_K0 I.kIn M.kp ?_
  have q := h (s.heap.objs.size + 1) s.heap.objs.size (I.hok.fresh (Nat.le_succ _)) (I.hok.fresh (Nat.le_refl _)) (Nat.ne_of_lt (Nat.lt_succ_self _))
  have I2 := Inv.made (C := C) I
  have KX := I.kIn
  obtain ⟨hh, g, d, t, os⟩ := s
  refine wpAny_call (make_map0 KX M.makes M.init (fun self => PySem.W.Looks.of_pure (PySem.W.oi_bind self)) ?_)
  have Y := PySem.W.makes_of (M := model X.prog X.w) KX M.makes
  have e2 : ((hh.push PySem.W.emptyDict).push (PySem.W.instObj C hh.objs.size)).get? (hh.objs.size + 1) = some (PySem.W.instObj C hh.objs.size) := by
    have z := Heap.get?_push_size (hh.push PySem.W.emptyDict) (o := PySem.W.instObj C hh.objs.size) rfl
    rwa [Heap.size_push] at z
  have t1 : PySem.W.Looks (model X.prog X.w) ((hh.push PySem.W.emptyDict).push (PySem.W.instObj C hh.objs.size)) (typeOf (.ref (hh.objs.size + 1))) (.ref C) := (PySem.W.Looks.ld e2).andThen .now
  have t2 : PySem.W.Looks (model X.prog X.w) ((hh.push PySem.W.emptyDict).push (PySem.W.instObj C hh.objs.size)) (isInstance (.ref (hh.objs.size + 1)) (.type "object")) true :=
    t1.andThen (Y.top.keeps fun b o e => Heap.get?_push_of_some _ (Heap.get?_push_of_some _ e))
  refine codeAny_call_builtin PySem.W.oi_plain PySem.W.entry_oi (@PySem.W.check_slot (model X.prog X.w) _ _ _ "object.__init__" "object" "__init__" (.ref (hh.objs.size + 1)) [] [] _ PySem.W.oi_kind PySem.W.oi_split t2 (PySem.W.oi_args (.ref (hh.objs.size + 1))) ?_)
  rw [PySem.W.oi_run]
  exact wpAny_pure (And.intro rfl ⟨V.ref (hh.objs.size + 1), _, I2, rfl, q⟩)
theorem lock_id {H : Hp} {d m : Addr} {u f o : HO} (hd : H d = some u) (hm : m ≠ d) : upd (upd (upd H d f) m o) d u = upd H m o := by
  funext b
  by_cases h1 : b = d
  · rw [h1, upd_same, upd_ne hm.symm, hd]
  · rw [upd_ne h1]
    by_cases h2 : b = m
    · rw [h2, upd_same, upd_same]
    · rw [upd_ne h2, upd_ne h2, upd_ne h1]
/-! ### values told by a word on the heap that holds on -/
section
variable {α : Type} {R : α → Hp → V → Prop} {K : PySem.W.Frag} {σ : L2.St} {H H' : Hp} {te tl ta' tb' : TE} {ta : TA} {a : α} {as bs : List α} {ws vs : List V}
def Mono (R : α → Hp → V → Prop) : Prop := ∀ a H H' v, Ex H H' → R a H v → R a H' v
def EvD (R : α → Hp → V → Prop) (te : TE) (σ : L2.St) (H : Hp) (a : α) : Prop := ∀ H1, Ex H H1 → ∀ Q : VK, (∀ v H2, Ex H1 H2 → R a H2 v → Q v H2) → te σ H1 Q
def Rs (R : α → Hp → V → Prop) (as : List α) (H : Hp) (vs : List V) : Prop := vs.length = as.length ∧ ∀ (i : Nat) v, vs[i]? = some v → ∃ a, as[i]? = some a ∧ R a H v
theorem Rs.ex (hm : Mono R) (e : Ex H H') (h : Rs R as H vs) : Rs R as H' vs := ⟨h.1, fun i v hv => (h.2 i v hv).imp fun a ha => ⟨ha.1, hm _ _ _ _ e ha.2⟩⟩
theorem rs_nil : Rs R [] H [] := ⟨rfl, fun i v h => by simp at h⟩
theorem rs_cons {v : V} (h : R a H v) (hs : Rs R as H vs) : Rs R (a :: as) H (v :: vs) := ⟨by rw [List.length_cons, List.length_cons, hs.1], fun i w hw => by
  cases i with
  | zero =>
    cases hw
    exact ⟨a, rfl, h⟩
  | succ i => exact hs.2 i w hw⟩
theorem rs_app (h1 : Rs R as H vs) (h2 : Rs R bs H ws) : Rs R (as ++ bs) H (vs ++ ws) := ⟨by rw [List.length_append, List.length_append, h1.1, h2.1], fun i v hv => by
  by_cases hi : i < vs.length
  · rw [List.getElem?_append_left hi] at hv
    rw [List.getElem?_append_left (by rw [← h1.1]; exact hi)]
    exact h1.2 i v hv
  · rw [List.getElem?_append_right (by omega)] at hv
    rw [List.getElem?_append_right (by rw [← h1.1]; omega), ← h1.1]
    exact h2.2 _ v hv⟩
def EvDs (R : α → Hp → V → Prop) (ta : TA) (σ : L2.St) (H : Hp) (as : List α) : Prop := ∀ H1, Ex H H1 → ∀ Q : List V → Hp → Prop, (∀ vs H2, Ex H1 H2 → Rs R as H2 vs → Q vs H2) → ta σ H1 Q
theorem eds_nil : EvDs R tNil σ H [] := fun H1 _ Q q => q [] H1 (Ex.refl _) rs_nil
theorem eds_cons (hm : Mono R) (h : EvD R te σ H a) (hr : EvDs R ta σ H as) : EvDs R (tCons te ta) σ H (a :: as) := fun H1 e Q q =>
  h H1 e _ fun v H2 e2 hv => hr H2 (e.trans e2) _ fun vs H3 e3 hvs => q (v :: vs) H3 (e2.trans e3) (rs_cons (hm _ _ _ _ e3 hv) hvs)
/-- a list of such values -/
def EvDL (R : α → Hp → V → Prop) (te : TE) (σ : L2.St) (H : Hp) (as : List α) : Prop := ∀ H1, Ex H H1 → ∀ Q : VK, (∀ p vs H2, Ex H1 H2 → H2 p = some (.lst vs) → Rs R as H2 vs → Q (.ref p) H2) → te σ H1 Q
theorem edl_lst (hm : Mono R) (h : EvDs R ta σ H as) (hz : as.length ≤ 1000) : EvDL R (tLst ta) σ H as := fun H1 e Q q => h H1 e _ fun vs H2 e2 hv => ⟨sz_of (by rw [hv.1]; omega), fun l nl => q l vs _ (e2.trans (Ex.new nl)) upd_same (hv.ex hm (Ex.new nl))⟩
theorem edl_cat (hm : Mono R) (ha : EvDL R ta' σ H as) (hb : EvDL R tb' σ H bs) (hz : as.length + bs.length ≤ 1000) : EvDL R (tOp rCat ta' tb') σ H (as ++ bs) := fun H1 e Q q =>
  ha H1 e _ fun p vs H2 e2 hp hv => hb H2 (e.trans e2) _ fun r ws H3 e3 hr hw => ⟨p, r, _, _, rfl, rfl, e3 _ _ hp, hr, sz_of (by rw [hv.1, hw.1]; omega), fun z nz =>
    q z _ _ ((e2.trans e3).trans (Ex.new nz)) upd_same (rs_app (hv.ex hm (e3.trans (Ex.new nz))) (hw.ex hm (Ex.new nz)))⟩
theorem edl_var (hm : Mono R) {i : Nat} {p : Addr} (h : σ[i]? = some (some (.ref p))) (hp : H p = some (.lst vs)) (hv : Rs R as H vs) : EvDL R (tVar i) σ H as := fun H1 e Q q => ⟨.ref p, h, q p vs H1 (Ex.refl _) (e _ _ hp) (hv.ex hm e)⟩
/-- a loop over it whose turns leave all that stood -/
theorem m_forD {g : TG} {tu : TS} {D : Ends} (hm : Mono R) (h : EvDL R tl σ H as) (Pv : Nat → L2.St → Prop) (h0 : Pv 0 σ)
    (hs : ∀ (i : Nat) a v σ' H' (N : L2.St → Hp → Prop), as[i]? = some a → Ex H H' → R a H' v → Pv i σ' → (∀ σ2 H2, Ex H' H2 → Pv (i + 1) σ2 → N σ2 H2) → g v σ' H' fun σ2 H2 => tu { D with nx := N, ct := N, bk := D.nx } σ2 H2)
    (hd : ∀ σ' H', Ex H H' → Pv as.length σ' → D.nx σ' H') : tFor (iList K tl) g tu D σ H := by
  refine h H (Ex.refl _) _ fun p vs H1 e1 hp hv => ⟨p, rfl, ⟨vs, sq_of hp⟩, for_list (xs := vs) (fun i σ' H' => Pv i σ' ∧ Ex H1 H') ⟨h0, Ex.refl _⟩ (fun i σ' H' _ q => sq_of (q.2 _ _ hp)) (fun i x σ' H' hx q => ?_) (fun σ' H' q => ?_)⟩
  · obtain ⟨a, ha, hR⟩ := hv.2 i x hx
    exact hs i a x σ' H' _ ha (e1.trans q.2) (hm _ _ _ _ q.2 hR) q.1 fun σ2 H2 e2 q2 => ⟨q2, q.2.trans e2⟩
  · obtain ⟨q1, q2⟩ := q
    rw [hv.1] at q1
    exact hd σ' H' (e1.trans q2) q1
theorem n_forD {g : TG} {tu tz : TS} {D : Ends} (hm : Mono R) (h : EvDL R tl σ H as) (Pv : Nat → L2.St → Prop) (h0 : Pv 0 σ)
    (hs : ∀ (i : Nat) a v σ' H' (N : L2.St → Hp → Prop), as[i]? = some a → Ex H H' → R a H' v → Pv i σ' → (∀ σ2 H2, Ex H' H2 → Pv (i + 1) σ2 → N σ2 H2) → g v σ' H' fun σ2 H2 => tu { D with nx := N, ct := N, bk := tz D } σ2 H2)
    (hd : ∀ σ' H', Ex H H' → Pv as.length σ' → tz D σ' H') : tSeq (tFor (iList K tl) g tu) tz D σ H := m_forD (D := { D with nx := tz D }) hm h Pv h0 hs hd
theorem el_eachD {j : Nat} {ks : List Nat} (hm : Mono R) (f : Nat → V) (h : EvDL R tl σ H as) (hz : as.length ≤ 1000) (hw : ∀ x, wipe ((wipe σ ks).set j (some x)) ks = wipe σ ks)
    (he : ∀ (i : Nat) a v H1, Ex H H1 → as[i]? = some a → R a H1 v → Ev te ((wipe σ ks).set j (some v)) H1 (f i)) : EvL (tLc (iList K tl) (gName j) tYes te ks) σ H ((List.range as.length).map f) := fun H0 e Q q =>
  h H0 e _ fun p vs H1 e1 hp hv => ⟨p, rfl, ⟨_, sq_of hp⟩, fun Dl hD => by
    refine lc_each (xs := vs) f (sq_of hp) hD (by rw [hv.1]; omega) hw (fun i x H2 e2 hi => ?_) fun H2 e2 h2 => ?_
    · obtain ⟨a, ha, hR⟩ := hv.2 i x hi
      exact he i a x H2 ((e.trans e1).trans e2) ha (hm _ _ _ _ e2 hR)
    · rw [hv.1] at h2
      exact q Dl H2 (fresh_back e1 hD) (e1.trans e2) h2⟩
theorem ev_allD {j : Nat} {ks : List Nat} (hm : Mono R) (h : EvDL R tl σ H as) (hz : as.length ≤ 1000) (hw : ∀ x, wipe ((wipe σ ks).set j (some x)) ks = wipe σ ks)
    (he : ∀ (i : Nat) a v H1, Ex H H1 → as[i]? = some a → R a H1 v → Ev te ((wipe σ ks).set j (some v)) H1 (.bl true)) : Ev (tCB (rAll K) (tCons (tLc (iList K tl) (gName j) tYes te ks) tNil)) σ H (.bl true) := by
  have h1 : EvL (tLc (iList K tl) (gName j) tYes te ks) σ H (((List.range as.length).map fun _ => true).map V.bl) := by
    rw [List.map_map]
    exact el_eachD hm (fun _ => V.bl true) h hz hw he
  have h2 := ev_allN (K := K) h1
  rw [all_range fun _ _ => rfl] at h2
  exact h2
end
/-! ### callables: defs of the text, and lambdas that capture nothing -/
structure Ask (P : Program) (w : World) (K : PySem.W.Frag) (mg : Str → Option Value) (base : Heap) (k : Nat) (f : Addr) (sp : Sp) (G : Hp → Prop) : Prop where
  fnat : ∀ (H : Hp) (h : Heap), HOk P w H h → K.In h → G H → PySem.W.FnAt f h
  run : ∀ (A : Around) (outer : List Env) (s : Shared) (H : Hp) (us : List Value) (vs : List V) (Q : VK) (E : XK), Room k A → Env0 P w K mg base A outer s H → G H → Vals vs us → sp vs H Q E →
    codeAny (model P w) A (.call (.ref f) ⟨us, []⟩) (CR (L2.CX P w) outer P w H s Q E) s
theorem ask_fn {P : Program} {w : World} {K : PySem.W.Frag} {mg : Str → Option Value} {base : Heap} {k : Nat} {f : Addr} {sp : Sp} {x qual : Str} {st : Stmt} {fd : FuncData} {ps : List Str} (F : Fun K x qual st f fd) (O : FnOk P w K mg base (L2.CX P w) k f fd ps sp) (hb : Binds K fd ps []) :
    Ask P w K mg base k f sp fun _ => True := by
  refine ⟨fun H h _ hK _ => ?_, fun A outer s H us vs Q E hr e0 _ r hsp => ?_⟩
  · obtain ⟨oc, od, kV, doc, pm, an, cdv, ct, osl, rfl, lk, hcd⟩ := F.ex
    exact ⟨_, _, _, _, hK _ _ lk⟩
  · have kin : K.In s.heap := fun b o e => (e0.bs b o (e0.mod.kin b o e)).1
    have hlen : us.length = ps.length := by
      rw [← r.length]
      exact O.len _ _ _ _ hsp
    have bnd := hb s us kin (by rw [List.append_nil]; exact hlen)
    rw [List.append_nil] at bnd
    exact O.run A outer s H ⟨us, []⟩ us vs Q E hr e0 bnd r hsp
def tAsk (P : Program) (w : World) (K : PySem.W.Frag) (mg : Str → Option Value) (base : Heap) (k i : Nat) (E : L2.St → XK) (t : TA) : TE := fun σ H Q => ∃ f sp G, σ[i]? = some (some (.ref f)) ∧ Ask P w K mg base k f sp G ∧ G H ∧ t σ H fun vs H1 => G H1 ∧ sp vs H1 Q (E σ)
theorem pe_ask {X : Cx} {k i : Nat} {E : L2.St → XK} {x : Str} {p pos : Pos} {e : Expr} {es : List Expr} {t : TA} (hr : Room k X.A) (hN : X.N[i]? = some x) (hv : Vis X.env.scope x) (hx : ∀ σ, PassesAt (L2.CX X.prog X.w) X σ (E σ)) (ha : PA X (e :: es) t)
    (hdb : (x == ("__debug__" : Str)) = false := by decide) (hcd : (x == ("__classdict__" : Str)) = false := by decide) (he : starEach (e :: es) X.env = (false, eval e X.env) :: starEach es X.env := by rfl) (hpl : (backTo pos (starEach es X.env)).any (·.1) = false := by rfl) :
    PE X (.Call (.Name x p) (e :: es) [] pos) (tAsk X.prog X.w X.K X.mg X.base k i E t) := by
  refine ⟨fun pins s σ H Q I h => ?_⟩
  obtain ⟨f, sp, G, hs, hA, hG, ht⟩ := h
  refine wpAny_Call_Name_kw (thn ((pe_var (pos := p) hN hv hdb hcd).run pins s σ H (fun v H1 => v = .ref f ∧ H1 = H) I ⟨.ref f, hs, rfl, rfl⟩) fun u s1 hh => ?_)
  obtain ⟨v, H1, I1, r1, rfl, rfl⟩ := hh
  obtain rfl : u = Value.ref f := r1
  refine PySem.W.callWith_F (first := []) (hA.fnat _ _ I1.hok I1.kIn hG) (thn (ha.run pos pins s1 σ _ _ I1 ht) fun us s2 hh => ?_) he hpl
  obtain ⟨vs, H2, I2, r, hG2, q⟩ := hh
  refine ⟨hA.fnat _ _ I2.hok I2.kIn hG2, ?_⟩
  show wpAny _ _ (call (.ref f) us) _ _ _
  refine wpAny_call (codeAny_mono (hA.run X.A X.stack s2 H2 us vs Q (E σ) hr I2.env0 hG2 r q) fun res s3 hq => ?_)
  cases res with
  | error ex => exact hx σ pins H2 s2 ex s3 I2 hq
  | ok fl =>
    cases fl with
    | ret u => exact I2.after hq
    | next => exact False.elim hq
    | brk => exact False.elim hq
    | cont => exact False.elim hq
/-- the object at f is the lambda of F's names (F's own body is not looked at), its body bd -/
def LO (f : Addr) (F : NdefX.NF) (bd : Expr) : HO := .ext fun h => ∃ (od : Option Addr) (sl : Array (Option Value)) (pm ctv : Value), h.get? f = some (⟨.type "function", od, .func (PySem.W.kla_fn F.name F.qual F.params bd F.scope F.cl pm (.ref F.c) ctv), sl⟩ : Obj)
theorem lo_at {P : Program} {w : World} {H : Hp} {h : Heap} {f : Addr} {F : NdefX.NF} {bd : Expr} (hok : HOk P w H h) (e : H f = some (LO f F bd)) :
    ∃ (od : Option Addr) (sl : Array (Option Value)) (pm ctv : Value), h.get? f = some (⟨.type "function", od, .func (PySem.W.kla_fn F.name F.qual F.params bd F.scope F.cl pm (.ref F.c) ctv), sl⟩ : Obj) := (hok f _ e).1
theorem lo_ne {f : Addr} {F : NdefX.NF} {bd : Expr} (ps : Array Value) : LO f F bd ≠ .tbl ps := fun z => by
  unfold LO at z
  cases z
section
variable {X : Cx} {pins : List (Addr × Obj)} {σ : L2.St} {H : Hp} {s : Shared}
theorem inv_lo {F : NdefX.NF} {bd : Expr} {tk : Nat} {pm ctv : Value} (I : Inv X pins σ H s) :
    Inv X pins σ (upd H s.heap.objs.size (LO s.heap.objs.size F bd)) { s with heap := s.heap.push (PySem.W.kla_obj F.name F.qual F.params bd F.scope F.cl pm F.c ctv), toks := tk } := by
  have at_ : (s.heap.push (PySem.W.kla_obj F.name F.qual F.params bd F.scope F.cl pm F.c ctv)).get? s.heap.objs.size = some (PySem.W.kla_obj F.name F.qual F.params bd F.scope F.cl pm F.c ctv) := Heap.get?_push_size _ rfl
  exact I.laid (a := s.heap.objs.size) (fun b u e => Heap.get?_push_of_some _ e) (Nat.le_refl _) ⟨⟨_, _, pm, ctv, at_⟩, ⟨_, at_⟩, fun h1 h2 hh st => by
    obtain ⟨od, sl, p, t, z⟩ := hh
    exact ⟨od, sl, p, t, st _ z⟩⟩
end
/-- the promise of a lambda that captures nothing, by its body -/
theorem lam_ask {P : Program} {w : World} {K : PySem.W.Frag} {mg : Str → Option Value} {base : Heap} {N ps : List Str} {F : NdefX.NF} {bd : Expr} {f : Addr} {k : Nat} {sp : Sp} (S : NdefX.NScope N ps [] F.scope) (hcl : F.cl = [])
    (hb : ∀ (pm ctv : Value) (us : List Value), us.length = ps.length → bindArgs (PySem.W.kla_fn F.name F.qual F.params bd F.scope F.cl pm (.ref F.c) ctv) ⟨us, []⟩ = pure (ps.zip us)) (len : ∀ vs H Q E, sp vs H Q E → vs.length = ps.length)
    (hbody : ∀ (A : Around) (outer : List Env) (s : Shared) (H : Hp) (vs : List V) (Q : VK) (E : XK), Room k (A.deeper (NdefX.envF F f s.heap.objs.size)) → sp vs H Q E → ∃ tb : TE, PE (NdefX.ncx (L2.CX P w) P w K mg base N F f A outer s H E) bd tb ∧ tb (NdefX.startF N vs []) H Q) :
    Ask P w K mg base (k + 1) f sp fun H => H f = some (LO f F bd) ∧ H F.c = some (LamX.CodeO F.c F.qual) := by
  refine ⟨fun H h hok _ g => ?_, fun A outer s H us vs Q E hr e0 g r hsp => ?_⟩
  · obtain ⟨od, sl, pm, ctv, e⟩ := lo_at hok g.1
    exact ⟨_, _, _, _, e⟩
  · have hlen := len _ _ _ _ hsp
    have nolim : s.heap.NoLimit := e0.mod.nolimit.keeps fun b o eb => (e0.bs b o eb).1
    obtain ⟨od, sl, pm, ctv, hobj⟩ := lo_at e0.hok g.1
    refine PySem.W.kla_callFunE hr.depth hobj rfl S.co S.gen rfl (NdefX.codeO_at e0.hok g.2) ?_
    rw [hb pm ctv us (by rw [← r.length]; exact hlen)]
    refine wpAny_pure (wpAny_newFunctionEnv S.nocell (fun yz hy => S.par yz.1 (List.of_mem_zip (show (yz.1, yz.2) ∈ ps.zip us from hy)).1) (fun hh hns hsb => ⟨nolim.fresh _ hsb, ?_⟩) S.kind)
    show codeAny _ _ (.expr bd (NdefX.envF F f s.heap.objs.size)) _ _
    obtain ⟨tb, hpe, hq⟩ := hbody A outer s H vs Q E (hr.deeper _) hsp
    have cells : NdefX.CellsAt F.cl [] [] s.heap H := by
      rw [hcl]
      exact ⟨rfl, fun y c z => (by cases z), fun x y c z _ => (by cases z), fun i y z => by simp at z⟩
    have J := NdefX.inv_startN (CX := L2.CX P w) (E := E) (f := f) (tk := s.toks + (ps.zip us).length) S hr.hd e0 hlen r cells hns fun b o eb => hsb.extBut b o (Nat.ne_of_lt (Heap.lt_size eb)) (Heap.get?_push_of_some _ eb)
    refine PySem.W.kla_codeExpr (wpAny_mono (hpe.run [] _ _ H Q J hq) (fun u s' hs => ?_) fun ex s' hs => hs)
    obtain ⟨v', H', J', rv, qq⟩ := hs
    exact ⟨v', H', J'.os, J'.bare, J'.base, J'.hok, rv, qq⟩
/-- a lambda is made: all but the tables of code objects stays -/
def tLamV (T : List (Addr × Str)) (mk : Addr → NdefX.NF) (bd : Expr) : TE := fun _ H Q => LamX.Tabs T H ∧ ∀ f c' H1, LamX.ExtN H H1 → (∀ b, H1 b = none → H b = none) → LamX.Tabs T H1 → H f = none → H1 f = some (LO f (mk c') bd) → H1 c' = some (LamX.CodeO c' (mk c').qual) → Q (.ref f) H1
theorem pe_lam {X : Cx} {T : List (Addr × Str)} {c Pt : Addr} {params : Arguments} {bd : Expr} {scope : Scope} {pos : Pos} (TB : LamX.TabB X.base X.mg c Pt) (hcode : X.env.code = .ref c) (hm : (Pt, X.env.qual ++ "<lambda>") ∈ T)
    (hu : ∀ p ∈ T, p.1 = Pt → p.2 = X.env.qual ++ "<lambda>") (hdef : defaultsOf params X.env = ([], [])) (hfree : ∀ y ∈ scope.names, y.2 = .free → ∃ cc, X.env.cells.lookup y.1 = some cc) :
    PE X (.Lambda params bd scope pos) (tLamV T (fun c' => ⟨"<lambda>", X.env.qual ++ "<lambda>", params, [], scope, cloFrom X.env.cells scope.names [], c'⟩) bd) := by
  refine ⟨fun pins s σ H Q I hh => ?_⟩
  obtain ⟨hT, k⟩ := hh
  obtain ⟨tab, atP, trip, told⟩ := hT _ hm
  refine PySem.W.kla_eval hdef ?_
  have inP : s.heap.get? Pt = some { cls := .none, data := .fields tab } := I.hok Pt _ atP
  have blt : s.heap.BuiltinsAt X.mg Pt := TB.bm.keeps I.bk
  cases hit : codeAmong pos tab.toList with
  | some cv =>
    obtain ⟨c', rfl, known⟩ := told pos cv hit
    refine PySem.W.kla_makeFunctionHit (mg := X.mg) (c := c) (P := Pt) (ps := tab) (closure_ok hfree) I.ok.glob (I.mod.glob.keeps I.bk) hcode (TB.code.keeps I.bk) inP trip hit blt fun ctv h2 tk stays grows => ?_
    have I1 : Inv X pins σ H { s with heap := h2, toks := tk } := I.kept stays
    have nF : H h2.objs.size = none := I1.hok.fresh (Nat.le_refl _)
    have ext : ∀ b o, H b = some o → upd H h2.objs.size (LO h2.objs.size ⟨"<lambda>", X.env.qual ++ "<lambda>", params, [], scope, cloFrom X.env.cells scope.names [], c'⟩ bd) b = some o := fun b o eb => by
      rw [upd_ne (ne_of_none eb nF)]
      exact eb
    exact ⟨.ref h2.objs.size, _, inv_lo (F := ⟨"<lambda>", X.env.qual ++ "<lambda>", params, [], scope, cloFrom X.env.cells scope.names [], c'⟩) (bd := bd) (tk := tk) (pm := (X.mg "__name__").getD .none) (ctv := ctv) I1, rfl,
      k h2.objs.size c' _ (LamX.ExtN.of ext) (fun b nb => (upd_fresh nb).1) (hT.ext ext) nF upd_same (ext _ _ known)⟩
  | none =>
    refine PySem.W.kla_makeFunction (mg := X.mg) (c := c) (P := Pt) (ps := tab) (closure_ok hfree) I.ok.glob (I.mod.glob.keeps I.bk) hcode (TB.code.keeps I.bk) inP trip hit TB.gP blt fun c' ctv h2 tk stays above below rec_ grown => ?_
    obtain ⟨c2, oc, fields, t, ec, hoc, hd, hv⟩ := rec_
    cases ec
    have nC : H c' = none := I.hok.fresh above
    have I1 := LamX.inv_table (t' := tk) (more := #[rawInt pos.line, rawInt pos.col, .ref c']) (h' := h2) I atP (fun b o hb eb => stays b o hb eb) grown above ⟨oc, fields, t, hoc, hd, hv⟩
    have big : (tab ++ #[rawInt pos.line, rawInt pos.col, .ref c']).toList = tab.toList ++ [rawInt pos.line, rawInt pos.col, .ref c'] := by simp
    have mid : LamX.ExtN H (upd (upd H Pt (.tbl (tab ++ #[rawInt pos.line, rawInt pos.col, .ref c']))) c' (LamX.CodeO c' (X.env.qual ++ "<lambda>"))) := fun b o eb no => by
      have b1 : b ≠ Pt := fun z => by
        rw [z, atP] at eb
        exact no tab (Option.some.inj eb).symm
      rw [upd_ne (ne_of_none eb nC), upd_ne b1]
      exact eb
    have tabs1 : LamX.Tabs T (upd (upd H Pt (.tbl (tab ++ #[rawInt pos.line, rawInt pos.col, .ref c']))) c' (LamX.CodeO c' (X.env.qual ++ "<lambda>"))) := fun p hp => by
      by_cases hb : p.1 = Pt
      · rw [hu p hp hb, hb]
        refine ⟨_, by rw [upd_ne (ne_of_none atP nC), upd_same], by rw [big]; exact PySem.TriplesOk_snoc _ _ _ _ trip, fun p' cv hcv => ?_⟩
        rw [big] at hcv
        rcases LamX.among_app _ trip hcv with z | z
        · obtain ⟨c0, z1, z2⟩ := told p' cv z
          exact ⟨c0, z1, mid _ _ z2 LamX.codeO_ne⟩
        · exact ⟨c', z, upd_same⟩
      · obtain ⟨tab2, z1, z2, z3⟩ := hT p hp
        refine ⟨tab2, by rw [upd_ne (ne_of_none z1 nC), upd_ne hb]; exact z1, z2, fun p' cv hcv => ?_⟩
        obtain ⟨c0, y1, y2⟩ := z3 p' cv hcv
        exact ⟨c0, y1, mid _ _ y2 LamX.codeO_ne⟩
    have nF := I1.hok.fresh (Nat.le_refl h2.objs.size)
    have ext : ∀ b o, upd (upd H Pt (.tbl (tab ++ #[rawInt pos.line, rawInt pos.col, .ref c']))) c' (LamX.CodeO c' (X.env.qual ++ "<lambda>")) b = some o →
        upd (upd (upd H Pt (.tbl (tab ++ #[rawInt pos.line, rawInt pos.col, .ref c']))) c' (LamX.CodeO c' (X.env.qual ++ "<lambda>"))) h2.objs.size (LO h2.objs.size ⟨"<lambda>", X.env.qual ++ "<lambda>", params, [], scope, cloFrom X.env.cells scope.names [], c'⟩ bd) b = some o := fun b o eb => by
      rw [upd_ne (ne_of_none eb nF)]
      exact eb
    exact ⟨.ref h2.objs.size, _, inv_lo (F := ⟨"<lambda>", X.env.qual ++ "<lambda>", params, [], scope, cloFrom X.env.cells scope.names [], c'⟩) (bd := bd) (tk := tk) (pm := (X.mg "__name__").getD .none) (ctv := ctv) I1, rfl,
      k h2.objs.size c' _ (fun b o eb no => ext b o (mid b o eb no)) (fun b nb => (upd_fresh (upd_fresh (upd_fresh nb).1).1).1) (tabs1.ext ext) (I.hok.fresh (Nat.le_trans above (Nat.le_of_lt below))) upd_same (ext _ _ upd_same)⟩
def top (i : Nat) : Stmt := PySem.Challenge.pw_ringdiffer_k11_whole_known.main.body.getD i (.Pass ⟨0, 0, 0, 0⟩)
abbrev s_is_whole : Stmt := top 7
theorem sc_is_whole : FnScope ["thing"] ["thing"] (defScope s_is_whole) :=
  ⟨rfl, rfl, rfl, by decide +kernel, rfl, by decide +kernel, by decide +kernel⟩
abbrev s_asked_ring : Stmt := top 8
theorem sc_asked_ring : FnScope ["ring", "one"] ["ring"] (defScope s_asked_ring) :=
  ⟨rfl, rfl, rfl, by decide +kernel, rfl, by decide +kernel, by decide +kernel⟩
abbrev s_asked_number : Stmt := top 9
theorem sc_asked_number : FnScope ["number"] ["number"] (defScope s_asked_number) :=
  ⟨rfl, rfl, rfl, by decide +kernel, rfl, by decide +kernel, by decide +kernel⟩
abbrev s_stepped : Stmt := top 10
theorem sc_stepped : FnScope ["ring", "one", "other"] ["ring"] (defScope s_stepped) :=
  ⟨rfl, rfl, rfl, by decide +kernel, rfl, by decide +kernel, by decide +kernel⟩
abbrev s_step : Stmt := top 11
theorem sc_step : FnScope ["ring"] ["ring"] (defScope s_step) :=
  ⟨rfl, rfl, rfl, by decide +kernel, rfl, by decide +kernel, by decide +kernel⟩
abbrev s_course : Stmt := top 12
theorem sc_course : FnScope ["ring", "found", "places", "here"] ["ring"] (defScope s_course) :=
  ⟨rfl, rfl, rfl, by decide +kernel, rfl, by decide +kernel, by decide +kernel⟩
abbrev s_after : Stmt := top 13
theorem sc_after : FnScope ["ring", "steps", "found", "begin"] ["ring", "steps"] (defScope s_after) :=
  ⟨rfl, rfl, rfl, by decide +kernel, rfl, by decide +kernel, by decide +kernel⟩
abbrev s_Noughts_init : Stmt := inClass (top 16) 0
theorem sc_Noughts_init : FnScope ["self", "steps"] ["self", "steps"] (defScope s_Noughts_init) :=
  ⟨rfl, rfl, rfl, by decide +kernel, rfl, by decide +kernel, by decide +kernel⟩
abbrev s_Noughts_shows : Stmt := inClass (top 16) 1
theorem sc_Noughts_shows : FnScope ["self", "ring", "found", "begin"] ["self", "ring"] (defScope s_Noughts_shows) :=
  ⟨rfl, rfl, rfl, by decide +kernel, rfl, by decide +kernel, by decide +kernel⟩
abbrev s_Round_init : Stmt := inClass (top 17) 0
theorem sc_Round_init : FnScope ["self", "steps", "length", "number"] ["self", "steps", "length", "number"] (defScope s_Round_init) :=
  ⟨rfl, rfl, rfl, by decide +kernel, rfl, by decide +kernel, by decide +kernel⟩
abbrev s_Round_shows : Stmt := inClass (top 17) 1
theorem sc_Round_shows : FnScope ["self", "ring", "found", "begin"] ["self", "ring"] (defScope s_Round_shows) :=
  ⟨rfl, rfl, rfl, by decide +kernel, rfl, by decide +kernel, by decide +kernel⟩
abbrev s_Came_init : Stmt := inClass (top 18) 0
theorem sc_Came_init : FnScope ["self", "ring"] ["self", "ring"] (defScope s_Came_init) :=
  ⟨rfl, rfl, rfl, by decide +kernel, rfl, by decide +kernel, by decide +kernel⟩
abbrev s_told : Stmt := top 21
theorem sc_told : FnScope ["ring", "found", "begin"] ["ring"] (defScope s_told) :=
  ⟨rfl, rfl, rfl, by decide +kernel, rfl, by decide +kernel, by decide +kernel⟩
abbrev s_heaps_of : Stmt := top 22
theorem sc_heaps_of : FnScope ["ring", "sums", "one", "more", "total", "found", "at", "sign"] ["ring"] (defScope s_heaps_of) :=
  ⟨rfl, rfl, rfl, by decide +kernel, rfl, by decide +kernel, by decide +kernel⟩
abbrev s_came : Stmt := top 23
theorem sc_came : FnScope ["ring", "signs", "found", "sign", "one", "least"] ["ring"] (defScope s_came) :=
  ⟨rfl, rfl, rfl, by decide +kernel, rfl, by decide +kernel, by decide +kernel⟩
abbrev s_w_refused : Stmt := top 25
theorem sc_w_refused : FnScope ["_law_ask", "_law_thing", "_law_due", "error", "_law_kinds"] ["_law_ask", "_law_thing", "_law_due"] (defScope s_w_refused) :=
  ⟨rfl, rfl, rfl, by decide +kernel, rfl, by decide +kernel, by decide +kernel⟩
abbrev s_w_step : Stmt := top 26
theorem sc_w_step : FnScope ["_law_ring", "_law_found", "_law_at", "_law_far"] ["_law_ring"] (defScope s_w_step) :=
  ⟨rfl, rfl, rfl, by decide +kernel, rfl, by decide +kernel, by decide +kernel⟩
abbrev s_w_came_right : Stmt := top 27
theorem sc_w_came_right : FnScope ["_law_rows", "_law_ring", "_law_due", "_law_answer"] [] (defScope s_w_came_right) :=
  ⟨rfl, rfl, rfl, by decide +kernel, rfl, by decide +kernel, by decide +kernel⟩
abbrev s_w_lengths_right : Stmt := top 28
theorem sc_w_lengths_right : FnScope ["_law_far", "_law_many", "_law_length", "_law_number", "_law_answer", "_law_rows", "_law_ring"] ["_law_far"] (defScope s_w_lengths_right) :=
  ⟨rfl, rfl, rfl, by decide +kernel, rfl, by decide +kernel, by decide +kernel⟩
abbrev s_w_apart_right : Stmt := top 29
theorem sc_w_apart_right : FnScope ["_law_far", "_law_ring", "_law_steps", "_law_found", "_law_answer"] ["_law_far"] (defScope s_w_apart_right) :=
  ⟨rfl, rfl, rfl, by decide +kernel, rfl, by decide +kernel, by decide +kernel⟩
abbrev s_w_bad_right : Stmt := top 30
theorem sc_w_bad_right : FnScope ["_law_whole", "_law_spot", "_law_bad", "_law_ring", "_law_asks", "_law_ask"] ["_law_whole"] (defScope s_w_bad_right) :=
  ⟨rfl, rfl, rfl, by decide +kernel, rfl, by decide +kernel, by decide +kernel⟩
abbrev s_law : Stmt := top 31
theorem sc_law : FnScope ["_law_script", "_law_whole"] ["_law_script"] (defScope s_law) :=
  ⟨rfl, rfl, rfl, by decide +kernel, rfl, by decide +kernel, by decide +kernel⟩
structure Txt (K : PySem.W.Frag) (mg : Str → Option Value) where
  n_ValueError : mg "ValueError" = none
  n_abs : mg "abs" = none
  n_all : mg "all" = none
  n_any : mg "any" = none
  n_bool : mg "bool" = none
  n_int : mg "int" = none
  n_isinstance : mg "isinstance" = none
  n_len : mg "len" = none
  n_list : mg "list" = none
  n_max : mg "max" = none
  n_min : mg "min" = none
  n_range : mg "range" = none
  n_sum : mg "sum" = none
  n_tuple : mg "tuple" = none
  n_zip : mg "zip" = none
  t_LONGEST : Tok
  m_LONGEST : mg "LONGEST" = some (.int 12 t_LONGEST)
  t_GREATEST : Tok
  m_GREATEST : mg "GREATEST" = some (.int 200 t_GREATEST)
  C_RingError : Addr
  m_RingError : mg "RingError" = some (.ref C_RingError)
  C_BadRing : Addr
  m_BadRing : mg "BadRing" = some (.ref C_BadRing)
  C_BadNumber : Addr
  m_BadNumber : mg "BadNumber" = some (.ref C_BadNumber)
  C_Answer : Addr
  m_Answer : mg "Answer" = some (.ref C_Answer)
  C_Noughts : Addr
  m_Noughts : mg "Noughts" = some (.ref C_Noughts)
  C_Round : Addr
  m_Round : mg "Round" = some (.ref C_Round)
  C_Came : Addr
  m_Came : mg "Came" = some (.ref C_Came)
  C_Never : Addr
  m_Never : mg "Never" = some (.ref C_Never)
  c_Noughts : Cls K C_Noughts
  na_Noughts_steps : NoAttr K C_Noughts "steps"
  c_Round : Cls K C_Round
  na_Round_steps : NoAttr K C_Round "steps"
  na_Round_length : NoAttr K C_Round "length"
  na_Round_number : NoAttr K C_Round "number"
  c_Came : Cls K C_Came
  na_Came_ring : NoAttr K C_Came "ring"
  c_Never : Cls K C_Never
  P_Never : MkP K C_Never
  f_is_whole : Addr
  fd_is_whole : FuncData
  F_is_whole : Fun K "is_whole" "is_whole" s_is_whole f_is_whole fd_is_whole
  b_is_whole : Binds K fd_is_whole ["thing"] []
  g_is_whole : mg "is_whole" = some (.ref f_is_whole)
  f_asked_ring : Addr
  fd_asked_ring : FuncData
  F_asked_ring : Fun K "asked_ring" "asked_ring" s_asked_ring f_asked_ring fd_asked_ring
  b_asked_ring : Binds K fd_asked_ring ["ring"] []
  g_asked_ring : mg "asked_ring" = some (.ref f_asked_ring)
  f_asked_number : Addr
  fd_asked_number : FuncData
  F_asked_number : Fun K "asked_number" "asked_number" s_asked_number f_asked_number fd_asked_number
  b_asked_number : Binds K fd_asked_number ["number"] []
  g_asked_number : mg "asked_number" = some (.ref f_asked_number)
  f_stepped : Addr
  fd_stepped : FuncData
  F_stepped : Fun K "stepped" "stepped" s_stepped f_stepped fd_stepped
  b_stepped : Binds K fd_stepped ["ring"] []
  g_stepped : mg "stepped" = some (.ref f_stepped)
  f_step : Addr
  fd_step : FuncData
  F_step : Fun K "step" "step" s_step f_step fd_step
  b_step : Binds K fd_step ["ring"] []
  g_step : mg "step" = some (.ref f_step)
  f_course : Addr
  fd_course : FuncData
  F_course : Fun K "course" "course" s_course f_course fd_course
  b_course : Binds K fd_course ["ring"] []
  g_course : mg "course" = some (.ref f_course)
  f_after : Addr
  fd_after : FuncData
  F_after : Fun K "after" "after" s_after f_after fd_after
  b_after : Binds K fd_after ["ring", "steps"] []
  g_after : mg "after" = some (.ref f_after)
  f_Noughts_init : Addr
  fd_Noughts_init : FuncData
  F_Noughts_init : Fun K "__init__" "Noughts.__init__" s_Noughts_init f_Noughts_init fd_Noughts_init
  b_Noughts_init : Binds K fd_Noughts_init ["self", "steps"] []
  M_Noughts : Mk K C_Noughts f_Noughts_init
  f_Noughts_shows : Addr
  fd_Noughts_shows : FuncData
  F_Noughts_shows : Fun K "shows" "Noughts.shows" s_Noughts_shows f_Noughts_shows fd_Noughts_shows
  b_Noughts_shows : Binds K fd_Noughts_shows ["self", "ring"] []
  h_Noughts_shows : Meth K C_Noughts "shows" f_Noughts_shows
  f_Round_init : Addr
  fd_Round_init : FuncData
  F_Round_init : Fun K "__init__" "Round.__init__" s_Round_init f_Round_init fd_Round_init
  b_Round_init : Binds K fd_Round_init ["self", "steps", "length", "number"] []
  M_Round : Mk K C_Round f_Round_init
  f_Round_shows : Addr
  fd_Round_shows : FuncData
  F_Round_shows : Fun K "shows" "Round.shows" s_Round_shows f_Round_shows fd_Round_shows
  b_Round_shows : Binds K fd_Round_shows ["self", "ring"] []
  h_Round_shows : Meth K C_Round "shows" f_Round_shows
  f_Came_init : Addr
  fd_Came_init : FuncData
  F_Came_init : Fun K "__init__" "Came.__init__" s_Came_init f_Came_init fd_Came_init
  b_Came_init : Binds K fd_Came_init ["self", "ring"] []
  M_Came : Mk K C_Came f_Came_init
  f_told : Addr
  fd_told : FuncData
  F_told : Fun K "told" "told" s_told f_told fd_told
  b_told : Binds K fd_told ["ring"] []
  g_told : mg "told" = some (.ref f_told)
  f_heaps_of : Addr
  fd_heaps_of : FuncData
  F_heaps_of : Fun K "heaps_of" "heaps_of" s_heaps_of f_heaps_of fd_heaps_of
  b_heaps_of : Binds K fd_heaps_of ["ring"] []
  g_heaps_of : mg "heaps_of" = some (.ref f_heaps_of)
  f_came : Addr
  fd_came : FuncData
  F_came : Fun K "came" "came" s_came f_came fd_came
  b_came : Binds K fd_came ["ring"] []
  g_came : mg "came" = some (.ref f_came)
  f_w_refused : Addr
  fd_w_refused : FuncData
  F_w_refused : Fun K "_law_refused" "_law_refused" s_w_refused f_w_refused fd_w_refused
  b_w_refused : Binds K fd_w_refused ["_law_ask", "_law_thing", "_law_due"] []
  g_w_refused : mg "_law_refused" = some (.ref f_w_refused)
  f_w_step : Addr
  fd_w_step : FuncData
  F_w_step : Fun K "_law_step" "_law_step" s_w_step f_w_step fd_w_step
  b_w_step : Binds K fd_w_step ["_law_ring"] []
  g_w_step : mg "_law_step" = some (.ref f_w_step)
  f_w_came_right : Addr
  fd_w_came_right : FuncData
  F_w_came_right : Fun K "_law_came_right" "_law_came_right" s_w_came_right f_w_came_right fd_w_came_right
  b_w_came_right : Binds K fd_w_came_right [] []
  g_w_came_right : mg "_law_came_right" = some (.ref f_w_came_right)
  f_w_lengths_right : Addr
  fd_w_lengths_right : FuncData
  F_w_lengths_right : Fun K "_law_lengths_right" "_law_lengths_right" s_w_lengths_right f_w_lengths_right fd_w_lengths_right
  b_w_lengths_right : Binds K fd_w_lengths_right ["_law_far"] []
  g_w_lengths_right : mg "_law_lengths_right" = some (.ref f_w_lengths_right)
  f_w_apart_right : Addr
  fd_w_apart_right : FuncData
  F_w_apart_right : Fun K "_law_apart_right" "_law_apart_right" s_w_apart_right f_w_apart_right fd_w_apart_right
  b_w_apart_right : Binds K fd_w_apart_right ["_law_far"] []
  g_w_apart_right : mg "_law_apart_right" = some (.ref f_w_apart_right)
  cc_w_bad_right : Addr
  pt_w_bad_right : Addr
  ti_w_bad_right : PySem.W.tabIn K "_law_bad_right" = some (cc_w_bad_right, pt_w_bad_right)
  nt_w_bad_right : K.lookup pt_w_bad_right = none
  f_w_bad_right : Addr
  fd_w_bad_right : FuncData
  F_w_bad_right : Fun K "_law_bad_right" "_law_bad_right" s_w_bad_right f_w_bad_right fd_w_bad_right
  b_w_bad_right : Binds K fd_w_bad_right ["_law_whole"] []
  ll_w_bad_right : ∃ (oc kV dc pm ct : Value) (od an : Option Addr) (sl : Array (Option Value)), K.lookup f_w_bad_right = some ⟨oc, od, .func (PySem.W.fnOf "_law_bad_right" "_law_bad_right" (defArgs s_w_bad_right) (defBody s_w_bad_right) (defScope s_w_bad_right) .none kV dc pm an (.ref cc_w_bad_right) ct), sl⟩
  g_w_bad_right : mg "_law_bad_right" = some (.ref f_w_bad_right)
  f_law : Addr
  fd_law : FuncData
  F_law : Fun K "law" "law" s_law f_law fd_law
  b_law : Binds K fd_law ["_law_script"] []
  g_law : mg "law" = some (.ref f_law)
  cg : PySem.W.specialIn K (.builtin "object.__class__") "__get__" = some (some (.builtin "getset_descriptor.__get__"))
  ct : PySem.W.takesIn K (.builtin "object.__class__") = some true
  isC_Noughts : PySem.W.isClsIn K C_Noughts = true
  tyC_Noughts : PySem.W.typeIn K (.ref C_Noughts) = some (.type "type")
  su_Noughts_Noughts : PySem.W.subIn K (.ref C_Noughts) (.ref C_Noughts) = some true
  isC_Round : PySem.W.isClsIn K C_Round = true
  tyC_Round : PySem.W.typeIn K (.ref C_Round) = some (.type "type")
  su_Round_Round : PySem.W.subIn K (.ref C_Round) (.ref C_Round) = some true
  isC_Came : PySem.W.isClsIn K C_Came = true
  tyC_Came : PySem.W.typeIn K (.ref C_Came) = some (.type "type")
  su_Came_Came : PySem.W.subIn K (.ref C_Came) (.ref C_Came) = some true
  isC_Never : PySem.W.isClsIn K C_Never = true
  tyC_Never : PySem.W.typeIn K (.ref C_Never) = some (.type "type")
  su_Never_Never : PySem.W.subIn K (.ref C_Never) (.ref C_Never) = some true
  ic_Noughts : PySem.W.findIn K (.ref C_Noughts) "__class__" = some (some (.builtin "object.__class__"))
  mo_Noughts : PySem.W.mroIn K C_Noughts (.type "object") = some true
  su_Noughts_Round : PySem.W.subIn K (.ref C_Noughts) (.ref C_Round) = some false
  su_Noughts_Came : PySem.W.subIn K (.ref C_Noughts) (.ref C_Came) = some false
  su_Noughts_Never : PySem.W.subIn K (.ref C_Noughts) (.ref C_Never) = some false
  ic_Round : PySem.W.findIn K (.ref C_Round) "__class__" = some (some (.builtin "object.__class__"))
  mo_Round : PySem.W.mroIn K C_Round (.type "object") = some true
  su_Round_Noughts : PySem.W.subIn K (.ref C_Round) (.ref C_Noughts) = some false
  su_Round_Came : PySem.W.subIn K (.ref C_Round) (.ref C_Came) = some false
  su_Round_Never : PySem.W.subIn K (.ref C_Round) (.ref C_Never) = some false
  ic_Came : PySem.W.findIn K (.ref C_Came) "__class__" = some (some (.builtin "object.__class__"))
  mo_Came : PySem.W.mroIn K C_Came (.type "object") = some true
  su_Came_Noughts : PySem.W.subIn K (.ref C_Came) (.ref C_Noughts) = some false
  su_Came_Round : PySem.W.subIn K (.ref C_Came) (.ref C_Round) = some false
  su_Came_Never : PySem.W.subIn K (.ref C_Came) (.ref C_Never) = some false
  ic_Never : PySem.W.findIn K (.ref C_Never) "__class__" = some (some (.builtin "object.__class__"))
  mo_Never : PySem.W.mroIn K C_Never (.type "object") = some true
  su_Never_Noughts : PySem.W.subIn K (.ref C_Never) (.ref C_Noughts) = some false
  su_Never_Round : PySem.W.subIn K (.ref C_Never) (.ref C_Round) = some false
  su_Never_Came : PySem.W.subIn K (.ref C_Never) (.ref C_Came) = some false
  x_BadRing : PySem.W.excIn K C_BadRing [.type "ValueError", .type "Exception", .type "BaseException", .type "object"] "ValueError.__new__" = true
  k_BadRing : PySem.W.keepIn K (.ref C_BadRing) = true
  eg_BadRing : PySem.W.findIn K (.ref C_BadRing) "__getattribute__" = some (some (.builtin "BaseException.__getattribute__"))
  ek_BadRing : PySem.W.findIn K (.ref C_BadRing) "__getattr__" = some none
  ea_BadRing : PySem.W.findIn K (.ref C_BadRing) "__class__" = some (some (.builtin "object.__class__"))
  em_BadRing : PySem.W.mroIn K C_BadRing (.type "object") = some true
  sv_BadRing : PySem.W.subIn K (.ref C_BadRing) (.type "ValueError") = some true
  ei_BadRing : PySem.W.isClsIn K C_BadRing = true
  se_BadRing_BadRing : PySem.W.subIn K (.ref C_BadRing) (.ref C_BadRing) = some true
  se_BadRing_BadNumber : PySem.W.subIn K (.ref C_BadRing) (.ref C_BadNumber) = some false
  se_BadRing_RingError : PySem.W.subIn K (.ref C_BadRing) (.ref C_RingError) = some true
  x_BadNumber : PySem.W.excIn K C_BadNumber [.type "ValueError", .type "Exception", .type "BaseException", .type "object"] "ValueError.__new__" = true
  k_BadNumber : PySem.W.keepIn K (.ref C_BadNumber) = true
  eg_BadNumber : PySem.W.findIn K (.ref C_BadNumber) "__getattribute__" = some (some (.builtin "BaseException.__getattribute__"))
  ek_BadNumber : PySem.W.findIn K (.ref C_BadNumber) "__getattr__" = some none
  ea_BadNumber : PySem.W.findIn K (.ref C_BadNumber) "__class__" = some (some (.builtin "object.__class__"))
  em_BadNumber : PySem.W.mroIn K C_BadNumber (.type "object") = some true
  sv_BadNumber : PySem.W.subIn K (.ref C_BadNumber) (.type "ValueError") = some true
  ei_BadNumber : PySem.W.isClsIn K C_BadNumber = true
  se_BadNumber_BadRing : PySem.W.subIn K (.ref C_BadNumber) (.ref C_BadRing) = some false
  se_BadNumber_BadNumber : PySem.W.subIn K (.ref C_BadNumber) (.ref C_BadNumber) = some true
  se_BadNumber_RingError : PySem.W.subIn K (.ref C_BadNumber) (.ref C_RingError) = some true
  sb_BadRing : PySem.W.subIn K (.ref C_BadRing) (.type "BaseException") = some true
  tb_BadRing : PySem.W.typeIn K (.ref C_BadRing) = some (.type "type")
  ed_BadRing : PySem.W.hasDictIn K C_BadRing = true
  sb_BadNumber : PySem.W.subIn K (.ref C_BadNumber) (.type "BaseException") = some true
  tb_BadNumber : PySem.W.typeIn K (.ref C_BadNumber) = some (.type "type")
  ed_BadNumber : PySem.W.hasDictIn K C_BadNumber = true
  sb_RingError : PySem.W.subIn K (.ref C_RingError) (.type "BaseException") = some true
  tb_RingError : PySem.W.typeIn K (.ref C_RingError) = some (.type "type")
  ed_RingError : PySem.W.hasDictIn K C_RingError = true
theorem ty_Noughts {K : PySem.W.Frag} {mg : Str → Option Value} (T : Txt K mg) {H : Hp} {x dx : Addr} {fs : List (Str × V)} (h : H x = some (.ins T.C_Noughts dx fs)) : TyX K H (.ref x) (.ref T.C_Noughts) :=
  .base (.ins h T.c_Noughts T.ic_Noughts T.cg T.ct T.mo_Noughts)
theorem kit_Noughts_Noughts {K : PySem.W.Frag} {mg : Str → Option Value} (T : Txt K mg) : PySem.W.kitOne K (.ref T.C_Noughts) (.ref T.C_Noughts) = some true :=
  kit_own T.isC_Noughts T.tyC_Noughts T.su_Noughts_Noughts T.su_Noughts_Noughts
theorem kit_Noughts_Round {K : PySem.W.Frag} {mg : Str → Option Value} (T : Txt K mg) : PySem.W.kitOne K (.ref T.C_Noughts) (.ref T.C_Round) = some false :=
  kit_own T.isC_Round T.tyC_Round T.su_Noughts_Round T.su_Round_Round
theorem kit_Noughts_Came {K : PySem.W.Frag} {mg : Str → Option Value} (T : Txt K mg) : PySem.W.kitOne K (.ref T.C_Noughts) (.ref T.C_Came) = some false :=
  kit_own T.isC_Came T.tyC_Came T.su_Noughts_Came T.su_Came_Came
theorem kit_Noughts_Never {K : PySem.W.Frag} {mg : Str → Option Value} (T : Txt K mg) : PySem.W.kitOne K (.ref T.C_Noughts) (.ref T.C_Never) = some false :=
  kit_own T.isC_Never T.tyC_Never T.su_Noughts_Never T.su_Never_Never
theorem ty_Round {K : PySem.W.Frag} {mg : Str → Option Value} (T : Txt K mg) {H : Hp} {x dx : Addr} {fs : List (Str × V)} (h : H x = some (.ins T.C_Round dx fs)) : TyX K H (.ref x) (.ref T.C_Round) :=
  .base (.ins h T.c_Round T.ic_Round T.cg T.ct T.mo_Round)
theorem kit_Round_Noughts {K : PySem.W.Frag} {mg : Str → Option Value} (T : Txt K mg) : PySem.W.kitOne K (.ref T.C_Round) (.ref T.C_Noughts) = some false :=
  kit_own T.isC_Noughts T.tyC_Noughts T.su_Round_Noughts T.su_Noughts_Noughts
theorem kit_Round_Round {K : PySem.W.Frag} {mg : Str → Option Value} (T : Txt K mg) : PySem.W.kitOne K (.ref T.C_Round) (.ref T.C_Round) = some true :=
  kit_own T.isC_Round T.tyC_Round T.su_Round_Round T.su_Round_Round
theorem kit_Round_Came {K : PySem.W.Frag} {mg : Str → Option Value} (T : Txt K mg) : PySem.W.kitOne K (.ref T.C_Round) (.ref T.C_Came) = some false :=
  kit_own T.isC_Came T.tyC_Came T.su_Round_Came T.su_Came_Came
theorem kit_Round_Never {K : PySem.W.Frag} {mg : Str → Option Value} (T : Txt K mg) : PySem.W.kitOne K (.ref T.C_Round) (.ref T.C_Never) = some false :=
  kit_own T.isC_Never T.tyC_Never T.su_Round_Never T.su_Never_Never
theorem ty_Came {K : PySem.W.Frag} {mg : Str → Option Value} (T : Txt K mg) {H : Hp} {x dx : Addr} {fs : List (Str × V)} (h : H x = some (.ins T.C_Came dx fs)) : TyX K H (.ref x) (.ref T.C_Came) :=
  .base (.ins h T.c_Came T.ic_Came T.cg T.ct T.mo_Came)
theorem kit_Came_Noughts {K : PySem.W.Frag} {mg : Str → Option Value} (T : Txt K mg) : PySem.W.kitOne K (.ref T.C_Came) (.ref T.C_Noughts) = some false :=
  kit_own T.isC_Noughts T.tyC_Noughts T.su_Came_Noughts T.su_Noughts_Noughts
theorem kit_Came_Round {K : PySem.W.Frag} {mg : Str → Option Value} (T : Txt K mg) : PySem.W.kitOne K (.ref T.C_Came) (.ref T.C_Round) = some false :=
  kit_own T.isC_Round T.tyC_Round T.su_Came_Round T.su_Round_Round
theorem kit_Came_Came {K : PySem.W.Frag} {mg : Str → Option Value} (T : Txt K mg) : PySem.W.kitOne K (.ref T.C_Came) (.ref T.C_Came) = some true :=
  kit_own T.isC_Came T.tyC_Came T.su_Came_Came T.su_Came_Came
theorem kit_Came_Never {K : PySem.W.Frag} {mg : Str → Option Value} (T : Txt K mg) : PySem.W.kitOne K (.ref T.C_Came) (.ref T.C_Never) = some false :=
  kit_own T.isC_Never T.tyC_Never T.su_Came_Never T.su_Never_Never
theorem ty_Never {K : PySem.W.Frag} {mg : Str → Option Value} (T : Txt K mg) {H : Hp} {x dx : Addr} {fs : List (Str × V)} (h : H x = some (.ins T.C_Never dx fs)) : TyX K H (.ref x) (.ref T.C_Never) :=
  .base (.ins h T.c_Never T.ic_Never T.cg T.ct T.mo_Never)
theorem kit_Never_Noughts {K : PySem.W.Frag} {mg : Str → Option Value} (T : Txt K mg) : PySem.W.kitOne K (.ref T.C_Never) (.ref T.C_Noughts) = some false :=
  kit_own T.isC_Noughts T.tyC_Noughts T.su_Never_Noughts T.su_Noughts_Noughts
theorem kit_Never_Round {K : PySem.W.Frag} {mg : Str → Option Value} (T : Txt K mg) : PySem.W.kitOne K (.ref T.C_Never) (.ref T.C_Round) = some false :=
  kit_own T.isC_Round T.tyC_Round T.su_Never_Round T.su_Round_Round
theorem kit_Never_Came {K : PySem.W.Frag} {mg : Str → Option Value} (T : Txt K mg) : PySem.W.kitOne K (.ref T.C_Never) (.ref T.C_Came) = some false :=
  kit_own T.isC_Came T.tyC_Came T.su_Never_Came T.su_Came_Came
theorem kit_Never_Never {K : PySem.W.Frag} {mg : Str → Option Value} (T : Txt K mg) : PySem.W.kitOne K (.ref T.C_Never) (.ref T.C_Never) = some true :=
  kit_own T.isC_Never T.tyC_Never T.su_Never_Never T.su_Never_Never
section
variable {P : Program} {w : World} {K : PySem.W.Frag} {mg : Str → Option Value} {base : Heap}
/-! ### is_whole, asked_ring, stepped, step (where nothing is refused) -/
def spWhole (K : PySem.W.Frag) : Sp := fun vs H Q _ => ∃ (v : V) (t : Value) (b1 b2 : Bool), vs = [v] ∧ TyX K H v t ∧ PySem.W.kitOne K t (.type "int") = some b1 ∧ PySem.W.kitOne K t (.type "bool") = some b2 ∧ Q (.bl (b1 && !b2)) H
theorem ok_is_whole (T : Txt K mg) : FnOk P w K mg base CX0 1 T.f_is_whole T.fd_is_whole ["thing"] (spWhole K) := by
  refine T.F_is_whole.ok sc_is_whole (fun vs H Q E h => ?_) (fun cdv A outer s H vs Q E hr h => ?_)
  · obtain ⟨v, t, b1, b2, rfl, _⟩ := h
    rfl
  · obtain ⟨v, t, b1, b2, rfl, ty, k1, k2, q⟩ := h
    refine ⟨_, (pss_one (ps_ret (pe_and (pe_callB (r := rIsi K) call_isi (by rfl) T.n_isinstance (by decide +kernel) (pa_cons (pv 0) (pa_cons (pe_bltn (v := .ty "int") (by rfl) T.n_int (by decide +kernel) rfl) pa_nil))) (pe_one (pe_not (pe_callB (r := rIsi K) call_isi (by rfl) T.n_isinstance (by decide +kernel) (pa_cons (pv 0) (pa_cons (pe_bltn (v := .ty "bool") (by rfl) T.n_bool (by decide +kernel) rfl) pa_nil)))))))), ?_⟩
    refine ⟨v, rfl, v, .ty "int", t, _, b1, rfl, .ty _, ty, k1, b1, rfl, ?_⟩
    cases b1 with
    | true => exact ⟨v, rfl, v, .ty "bool", t, _, b2, rfl, .ty _, ty, k2, b2, rfl, q⟩
    | false => exact q
theorem whole_int {K : PySem.W.Frag} {H : Hp} {i : Int} {Q : VK} {E : XK} (q : Q (.bl true) H) : spWhole K [.int i] H Q E :=
  ⟨.int i, .type "int", true, false, rfl, .base (.int i), kit_ty (by decide +kernel), kit_ty (by decide +kernel), q⟩
def spAsked (K : PySem.W.Frag) : Sp := fun vs H Q _ => ∃ (a : Addr) (ns : List Int), vs = [.ref a] ∧ SqL K H a (ns.map V.int) ∧ Ring ns ∧ RetV .non H Q
theorem ok_asked_ring (T : Txt K mg) : FnOk P w K mg base CX0 2 T.f_asked_ring T.fd_asked_ring ["ring"] (spAsked K) := by
  refine T.F_asked_ring.ok sc_asked_ring (fun vs H Q E h => ?_) (fun cdv A outer s H vs Q E hr h => ?_)
  · obtain ⟨a, ns, rfl, _⟩ := h
    rfl
  · obtain ⟨a, ns, rfl, hS, hR, q⟩ := h
    refine ⟨_, (pss_cons (ps_if (PW.pt (pw_or (pt_not (pt_val (pe_callB (r := rIsi K) call_isi (by rfl) T.n_isinstance (by decide +kernel) (pa_cons (pv 0) (pa_cons (pe_bltn (v := .ty "list") (by rfl) T.n_list (by decide +kernel) rfl) pa_nil))))) (pw_or (pt_not (pt_chain op_le op_le pe_int (pe_callB (r := rLenS K) call_len_seq (by rfl) T.n_len (by decide +kernel) (pa_cons (pv 0) pa_nil)) (pe_glob (v := .int 12) rfl T.m_LONGEST ⟨_, rfl⟩))) (pw_or1 (pt_not (pt_val (pe_callB (r := rAll K) (cr_all rfl) (by rfl) T.n_all (by decide +kernel) (pa_cons (pe_lc (own := [("one", 1)]) (g := (gName 1)) (tt := tYes) (by rfl) sc_asked_ring.nd (pi_list (pv 0)) (blkOk_by (own := [("one", 1)]) (N := ["ring", "one"]) (sc := defScope s_asked_ring) (by decide +kernel)) (fun _ _ _ _ _ => (pg_name (i := 1) sc_asked_ring.nd rfl (Or.inl rfl))) (fun _ _ _ _ _ => pts_nil) (fun _ _ _ _ _ => (pe_call (ok_is_whole T) (hr.mono (by decide)) (by rfl) T.g_is_whole T.F_is_whole.kp T.b_is_whole .nil pass0 (pa_cons (pv 1) pa_nil)))) pa_nil))))))))
        (pss_one ps_never)
        pss_nil)
      (pss_one (ps_if (pt_not (pt_val (pe_callB (r := rAll K) (cr_all rfl) (by rfl) T.n_all (by decide +kernel) (pa_cons (pe_lc (own := [("one", 1)]) (g := (gName 1)) (tt := tYes) (by rfl) sc_asked_ring.nd (pi_list (pv 0)) (blkOk_by (own := [("one", 1)]) (N := ["ring", "one"]) (sc := defScope s_asked_ring) (by decide +kernel)) (fun _ _ _ _ _ => (pg_name (i := 1) sc_asked_ring.nd rfl (Or.inl rfl))) (fun _ _ _ _ _ => pts_nil) (fun _ _ _ _ _ => (pe_chain op_le op_le pe_int (pv 1) (pe_glob (v := .int 200) rfl T.m_GREATEST ⟨_, rfl⟩)))) pa_nil))))
        (pss_one ps_never)
        pss_nil))), ?_⟩
    have hl : (ns.map V.int).length ≤ 40000 := by rw [List.length_map]; have := hR.few; omega
    refine q_when (b := false) (et_is (et_or (a := false) (b := false) (et_is (et_not (et_B (ev_isi (b := true) (ev_var rfl) (tyL hS) (.ty _) (kit_ty (by decide +kernel))))) rfl) fun _ =>
      et_or (a := false) (b := false) (et_is (et_not (et_test (ev_chain (k := true) (k' := true) ev_c (ev_len (ev_var rfl) hS) ?h1 ev_c ?h2))) rfl) fun _ =>
      et_is (et_not (et_B (ev_allEach (ev_var rfl) hS hl (fun _ => rfl) ?h3))) rfl) rfl) (fun z => nomatch z) fun _ H1 e1 => ?_
    case h1 =>
      have := hR.pos
      have e : decide ((1 : Int) ≤ ((ns.map V.int).length : Int)) = true := decide_eq_true (by rw [List.length_map]; omega)
      rw [← e]
      exact rv_I0
    case h2 =>
      have := hR.few
      have e : decide (((ns.map V.int).length : Int) ≤ (12 : Int)) = true := decide_eq_true (by rw [List.length_map]; omega)
      rw [← e]
      exact rv_I0
    case h3 =>
      intro i x H1 _ hi
      obtain ⟨n, _, rfl⟩ := map_get hi
      intro H2 _ Q' q'
      exact ⟨.int n, rfl, whole_int (E := E0) (q' H2 (Ex.refl _))⟩
    refine s_when (b := false) (et_is (et_not (et_B (ev_allEach (ev_var rfl) (ex_l e1 hS) hl (fun _ => rfl) ?h4))) rfl) (fun z => nomatch z) fun _ H2 e2 => q H2 (e1.trans e2)
    case h4 =>
      intro i x H1 _ hi
      obtain ⟨n, hn, rfl⟩ := map_get hi
      have hb := hR.bd n (List.mem_of_getElem? hn)
      have g1 : decide ((0 : Int) ≤ n) = true := decide_eq_true hb.1
      have g2 : decide (n ≤ (200 : Int)) = true := decide_eq_true hb.2
      refine ev_is (ev_chain (k := true) (k' := true) ev_c (ev_var rfl) ?_ ev_c ?_) rfl
      · rw [← g1]
        exact rv_I0
      · rw [← g2]
        exact rv_I0
end
section
variable {P : Program} {w : World} {K : PySem.W.Frag} {mg : Str → Option Value} {base : Heap}
/-! ### stepped -/
def spStepped (K : PySem.W.Frag) : Sp := fun vs H Q _ => ∃ (a : Addr) (ns : List Int), vs = [.ref a] ∧ SqL K H a (ns.map V.int) ∧ 1 ≤ ns.length ∧ ns.length ≤ 1000 ∧ RetL ((RD.D ns).map V.int) H Q
theorem cut_lo (xs : List V) (h : 1 ≤ xs.length) : cutV xs (some 1) none = xs.drop 1 := by
  unfold cutV
  rw [show HT.sIx xs.length 0 (some 1) = min 1 xs.length from HT.sIx_nat xs.length 0 1, HT.sIx_none, show min 1 xs.length = 1 by omega, List.take_of_length_le (by rw [List.length_drop]; omega)]
theorem cut_hi (xs : List V) (k : Nat) : cutV xs none (some (k : Int)) = xs.take k := by
  unfold cutV
  rw [HT.sIx_none, HT.sIx_nat, List.drop_zero, Nat.sub_zero]
  by_cases hk : k ≤ xs.length
  · rw [Nat.min_eq_left hk]
  · rw [Nat.min_eq_right (by omega), List.take_of_length_le (Nat.le_refl _), List.take_of_length_le (by omega)]
theorem next_get {ns : List Int} {i : Nat} (hi : i < ns.length) : (ns.drop 1 ++ ns.take 1)[i]? = some (RD.ev ns (i + 1)) := by
  by_cases h : i + 1 < ns.length
  · rw [List.getElem?_append_left (by rw [List.length_drop]; omega), List.getElem?_drop, Nat.add_comm 1 i]
    exact RD.ev_lt h
  · have e : i + 1 = ns.length := by omega
    rw [List.getElem?_append_right (by rw [List.length_drop]; omega), List.length_drop, show i - (ns.length - 1) = 0 by omega, List.getElem?_take, if_pos (by decide)]
    have e2 : RD.ev ns (i + 1) = RD.ev ns 0 := by
      unfold RD.ev
      rw [e, Nat.mod_self, Nat.zero_mod]
    rw [e2]
    exact RD.ev_lt (by omega)
theorem abs_dst (a b : Int) : (if a - b < 0 then -(a - b) else a - b) = RD.dst a b := by
  unfold RD.dst
  split <;> omega
def spStep (K : PySem.W.Frag) : Sp := fun vs H Q _ => ∃ (a : Addr) (ns : List Int), vs = [.ref a] ∧ SqL K H a (ns.map V.int) ∧ Ring ns ∧ RetL ((RD.D ns).map V.int) H Q
theorem el_step {σ : L2.St} {H : Hp} {ta : TE} {ns : List Int} {E : XK} (ha : EvI K ta σ H ns) (hR : Ring ns) : EvL (tCall (spStep K) [] E (tCons ta tNil)) σ H ((RD.D ns).map V.int) := fun H1 e Q q =>
  ha H1 e _ fun p H2 e2 hp => ⟨p, ns, rfl, hp, hR, fun r H3 nr e3 hr => q r H3 (fresh_back e2 nr) (e2.trans e3) hr⟩
theorem el_stepped {σ : L2.St} {H : Hp} {ta : TE} {ns : List Int} {E : XK} (ha : EvI K ta σ H ns) (hR : Ring ns) : EvL (tCall (spStepped K) [] E (tCons ta tNil)) σ H ((RD.D ns).map V.int) := fun H1 e Q q =>
  ha H1 e _ fun p H2 e2 hp => ⟨p, ns, rfl, hp, hR.pos, by have := hR.few; omega, fun r H3 nr e3 hr => q r H3 (fresh_back e2 nr) (e2.trans e3) hr⟩
end
section
variable {P : Program} {w : World} {K : PySem.W.Frag} {mg : Str → Option Value} {base : Heap}
theorem ok_stepped (T : Txt K mg) : FnOk P w K mg base CX0 1 T.f_stepped T.fd_stepped ["ring"] (spStepped K) := by
  refine T.F_stepped.ok sc_stepped (fun vs H Q E h => ?_) (fun cdv A outer s H vs Q E hr h => ?_)
  · obtain ⟨a, ns, rfl, _⟩ := h
    rfl
  · obtain ⟨a, ns, rfl, hS, h1, hk, q⟩ := h
    refine ⟨_, (pss_one (ps_ret (pe_lc (own := [("one", 1), ("other", 2)]) (g := (gTup _ 2 (gCons (gName 1) (gCons (gName 2) gNil)))) (tt := tYes) (by rfl) sc_stepped.nd (pi_zip (by rfl) T.n_zip (pa_cons (pv 0) (pa_cons (pe_op op_cat (pe_slice (r := rSlL K) sl_list (pv 0) (po_some pe_int) po_none) (pe_slice (r := rSlL K) sl_list (pv 0) po_none (po_some pe_int))) pa_nil))) (blkOk_by (own := [("one", 1), ("other", 2)]) (N := ["ring", "one", "other"]) (sc := defScope s_stepped) (by decide +kernel)) (fun _ _ _ _ _ => (pg_tup rfl (pgs_cons (pg_name (i := 1) sc_stepped.nd rfl (Or.inl rfl)) (pgs_cons (pg_name (i := 2) sc_stepped.nd rfl (Or.inl rfl)) pgs_nil)))) (fun _ _ _ _ _ => pts_nil) (fun _ _ _ _ _ => (pe_callB (r := rAbs) call_abs (by rfl) T.n_abs (by decide +kernel) (pa_cons (pe_op op_sub (pv 1) (pv 2)) pa_nil)))))), ?_⟩
    refine ⟨.ref a, rfl, .ref a, rfl, 1, rfl, a, ns.map V.int, rfl, hS, fun p np => ?_⟩
    have e1 := Ex.new (o := .lst (cutV (ns.map V.int) (some 1) none)) np
    refine ⟨.ref a, rfl, 1, rfl, a, ns.map V.int, rfl, ex_l e1 hS, fun r nr => ?_⟩
    have e2 := Ex.new (o := .lst (cutV (ns.map V.int) none (some 1))) nr
    have hp := e2 _ _ (upd_same (H := H) (a := p) (o := .lst (cutV (ns.map V.int) (some 1) none)))
    have hl : (ns.map V.int).length = ns.length := List.length_map _
    have c1 : cutV (ns.map V.int) (some 1) none = (ns.drop 1).map V.int := by rw [cut_lo _ (by omega), List.map_drop]
    have c2 : cutV (ns.map V.int) none (some 1) = (ns.take 1).map V.int := by rw [show (some (1 : Int)) = some ((1 : Nat) : Int) from rfl, cut_hi, List.map_take]
    refine ⟨p, r, _, _, rfl, rfl, hp, upd_same, ?_, fun z nz => ?_⟩
    · rw [c1, c2, List.length_map, List.length_map, List.length_drop, List.length_take]
      exact sz_of (by omega)
    have e3 := Ex.new (o := .lst (cutV (ns.map V.int) (some 1) none ++ cutV (ns.map V.int) none (some 1))) nz
    have e4 := (e1.trans e2).trans e3
    have c3 : cutV (ns.map V.int) (some 1) none ++ cutV (ns.map V.int) none (some 1) = (ns.drop 1 ++ ns.take 1).map V.int := by rw [c1, c2, List.map_append]
    refine ⟨a, z, ns.map V.int, _, rfl, ex_l e4 hS, .inl (.inl upd_same), fun D hD => ?_⟩
    rw [c3] at hD ⊢
    rw [c3] at e4
    refine lc_zip (xs := ns.map V.int) (ys := (ns.drop 1 ++ ns.take 1).map V.int) ?_ (fun i H' => Ex H H' ∧ H' z = some (.lst ((ns.drop 1 ++ ns.take 1).map V.int)) ∧ H' D = some (.lst (((RD.D ns).take i).map V.int))) ?_ (fun i H' _ p' => ⟨ex_l p'.1 hS, .inl (.inl p'.2.1)⟩) ?_ ?_
    · rw [List.length_map, List.length_map, List.length_append, List.length_drop, List.length_take]
      omega
    · refine ⟨e4.trans (Ex.new hD), ?_, upd_same⟩
      exact (Ex.new hD) _ _ upd_same
    · intro i x y S H' hx hy p' nS
      obtain ⟨n, hn, rfl⟩ := map_get hx
      obtain ⟨m, hm, rfl⟩ := map_get hy
      have hi := get_lt hn
      rw [next_get hi] at hm
      have em : RD.ev ns (i + 1) = m := Option.some.inj hm
      rw [RD.ev_lt hi] at hn
      have en : RD.ev ns i = n := Option.some.inj hn
      obtain ⟨p1, p2, p3⟩ := p'
      have eS := Ex.new (o := .tup [V.int n, V.int m]) nS
      refine ⟨S, [.int n, .int m], rfl, .inl (.inl upd_same), rfl, .int n, [.int m], rfl, .int m, [], rfl, rfl, rfl, ?_⟩
      refine tyes ?_
      refine ⟨.int n, rfl, .int m, rfl, n, m, rfl, rfl, _, rfl, _, eS _ _ p3, ?_, ?_, ?_, ?_⟩
      · rw [List.length_map, List.length_take]
        exact sz_lt (by omega)
      · have nD : H D = none := fresh_back e4 hD
        exact Ex.mut (p1.trans eS) nD
      · have hne : z ≠ D := ne_of_none (show upd _ z _ z = some _ from upd_same) hD
        rw [upd_ne hne]
        exact eS _ _ p2
      · rw [upd_same, abs_dst, List.take_add_one, RD.D_get hi, List.map_append, en, em]
        rfl
    · intro H' p'
      obtain ⟨p1, p2, p3⟩ := p'
      rw [List.length_map, List.take_of_length_le (by rw [RD.D_len]; exact Nat.le_refl _)] at p3
      exact q D H' (fresh_back e4 hD) p1 p3
end
section
variable {P : Program} {w : World} {K : PySem.W.Frag} {mg : Str → Option Value} {base : Heap}
theorem ok_step (T : Txt K mg) : FnOk P w K mg base CX0 3 T.f_step T.fd_step ["ring"] (spStep K) := by
  refine T.F_step.ok sc_step (fun vs H Q E h => ?_) (fun cdv A outer s H vs Q E hr h => ?_)
  · obtain ⟨a, ns, rfl, _⟩ := h
    rfl
  · obtain ⟨a, ns, rfl, hS, hR, q⟩ := h
    refine ⟨_, (pss_cons (ps_expr (pe_call (ok_asked_ring T) (hr.mono (by decide)) (by rfl) T.g_asked_ring T.F_asked_ring.kp T.b_asked_ring .nil pass0 (pa_cons (pv 0) pa_nil)))
      (pss_one (ps_ret (pe_call (ok_stepped T) (hr.mono (by decide)) (by rfl) T.g_stepped T.F_stepped.kp T.b_stepped .nil pass0 (pa_cons (pv 0) pa_nil))))), ?_⟩
    refine ⟨.ref a, rfl, a, ns, rfl, hS, hR, fun H1 e1 => ?_⟩
    have := hR.few
    exact ⟨.ref a, rfl, a, ns, rfl, ex_l e1 hS, hR.pos, by omega, fun p H2 np e2 h2 => q p H2 (fresh_back e1 np) (e1.trans e2) h2⟩
end
section
variable {P : Program} {w : World} {K : PySem.W.Frag} {mg : Str → Option Value} {base : Heap}
/-! ### course: all rings from one on, and where the last one's step stands -/
def key (l : List Int) : List Key := l.map (Sum.inl : Int → Key)
theorem key_V (l : List Int) : (key l).map kV = l.map V.int := by
  unfold key
  rw [List.map_map]
  rfl
theorem key_inj {l m : List Int} (h : key l = key m) : l = m := by
  have e := congrArg (List.map kV) h
  rw [key_V, key_V] at e
  exact List.map_inj_right (fun _ _ z => V.int.inj z) |>.mp e
def kvs (ns : List Int) (m : Nat) : List (List Key × V) := (List.range m).map fun i => (key (RD.itr i ns), V.int (i : Int))
theorem kvs_succ (ns : List Int) (m : Nat) : kvs ns (m + 1) = kvs ns m ++ [(key (RD.itr m ns), V.int (m : Int))] := by
  unfold kvs
  rw [List.range_succ, List.map_append]
  rfl
theorem kvs_len (ns : List Int) (m : Nat) : (kvs ns m).length = m := by
  unfold kvs
  rw [List.length_map, List.length_range]
theorem kvs_val {ns : List Int} {m : Nat} {k : List Key} {v : V} (h : valV (kvs ns m) k = some v) : ∃ i, i < m ∧ v = .int (i : Int) ∧ key (RD.itr i ns) = k := by
  unfold valV at h
  obtain ⟨p, hp, e⟩ := Option.map_eq_some_iff.mp h
  have h1 := List.mem_of_find?_eq_some hp
  have h2 : p.1 = k := by
    have g := List.find?_some hp
    exact of_decide_eq_true g
  unfold kvs at h1
  obtain ⟨i, hi, rfl⟩ := List.mem_map.mp h1
  exact ⟨i, List.mem_range.mp hi, e.symm, h2⟩
theorem kvs_none {ns : List Int} {m : Nat} {k : List Key} (h : valV (kvs ns m) k = none) : ∀ i, i < m → key (RD.itr i ns) ≠ k := by
  intro i hi e
  refine valV_not h ?_
  unfold kvs
  rw [List.map_map]
  exact List.mem_map.mpr ⟨i, List.mem_range.mpr hi, e⟩
/-- the list at f holds the rings from ns on, m of them -/
def Found (H : Hp) (f : Addr) (ns : List Int) (m : Nat) : Prop :=
  ∃ as : List Addr, H f = some (.lst (as.map V.ref)) ∧ as.length = m ∧ ∀ (i : Nat) x, as[i]? = some x → H x = some (.lst ((RD.itr i ns).map V.int))
theorem Found.ex {H H' : Hp} {f : Addr} {ns : List Int} {m : Nat} (e : Ex H H') (h : Found H f ns m) : Found H' f ns m := by
  obtain ⟨as, h1, h2, h3⟩ := h
  exact ⟨as, e _ _ h1, h2, fun i x hx => e _ _ (h3 i x hx)⟩
theorem Found.at {H : Hp} {f : Addr} {ns : List Int} {m : Nat} (h : Found H f ns m) {i : Nat} (hi : i < m) : ∃ (xs : List V) (x : Addr), H f = some (.lst xs) ∧ atI xs (i : Int) = some (.ref x) ∧ H x = some (.lst ((RD.itr i ns).map V.int)) := by
  obtain ⟨as, h1, h2, h3⟩ := h
  have hl : i < as.length := by omega
  refine ⟨_, as[i], h1, atI_nat ?_, h3 i _ (List.getElem?_eq_getElem hl)⟩
  rw [List.getElem?_map, List.getElem?_eq_getElem hl]
  rfl
theorem Found.len {H : Hp} {f : Addr} {ns : List Int} {m : Nat} (h : Found H f ns m) : ∃ xs : List V, H f = some (.lst xs) ∧ xs.length = m := by
  obtain ⟨as, h1, h2, _⟩ := h
  exact ⟨_, h1, by rw [List.length_map]; exact h2⟩
/-- what course hands back: a new pair of the list and the place -/
def RetC (K : PySem.W.Frag) (ns : List Int) (H : Hp) (Q : VK) : Prop := ∀ (t f : Addr) (N b : Nat) (H2 : Hp), RD.IsC ns N b → Ex H H2 → H2 t = some (.tup [.ref f, .int (b : Int)]) → Found H2 f ns N → Q (.ref t) H2
def spCourse (K : PySem.W.Frag) : Sp := fun vs H Q _ => ∃ (a : Addr) (ns : List Int), vs = [.ref a] ∧ SqL K H a (ns.map V.int) ∧ Ring ns ∧ RetC K ns H Q
def tTupH (K : PySem.W.Frag) : TE := tCB (rTupS K) (tCons (tVar 3) tNil)
theorem course_run {a f d h : Addr} {ns : List Int} {H H1 : Hp} {D : Ends} (hR : Ring ns) (nf : H f = none) (nd : H d = none) (e1 : Ex H H1) (hf : H1 f = some (.lst [])) (hd : H1 d = some (.dT [])) (hh : H1 h = some (.lst (ns.map V.int))) (hhf : h ≠ f) (hfd : f ≠ d) (q : RetC K ns H D.rt) :
    tSeq (tWhile (tB (tDNotIn (tTupH K) (tVar 2))) (tSeq (sDPut (tVar 2) (tTupH K) (tCB (rLenS K) (tCons (tVar 1) tNil))) (tSeq (tDrop (tBM K "list" rAppend (tVar 1) (tCons (tVar 3) tNil))) (tAsg (tCall (spStepped K) [] E0 (tCons (tVar 3) tNil)) (gName 3)))))
      (tRet (tTup (tCons (tVar 1) (tCons (tDGet (tVar 2) (tTupH K)) tNil)))) D [some (.ref a), some (.ref f), some (.ref d), some (.ref h)] H1 := by
  refine q_while (fun mm σ' H' => ∃ (m : Nat) (h : Addr) (as : List Addr), mm + m = 7000 ∧ (∀ i j, i < j → j < m → RD.itr i ns ≠ RD.itr j ns) ∧ σ' = [some (.ref a), some (.ref f), some (.ref d), some (.ref h)] ∧ Ex H H' ∧ H' d = some (.dT (kvs ns m)) ∧
      H' h = some (.lst ((RD.itr m ns).map V.int)) ∧ h ≠ f ∧ H' f = some (.lst (as.map V.ref)) ∧ as.length = m ∧ (∀ x, x ∈ as → x ≠ f) ∧ ∀ (i : Nat) x, as[i]? = some x → H' x = some (.lst ((RD.itr i ns).map V.int))) 7000
    ⟨0, h, [], rfl, fun i j _ hj => absurd hj (Nat.not_lt_zero _), rfl, e1, hd, hh, hhf, hf, rfl, fun x hx => by (cases hx), fun i x hx => by simp at hx⟩ ?_
  rintro mm σ' H2 ⟨m, h2, as, hmm, hne, rfl, e2, hd2, hh2, hhf2, hf2, hal, haf, has⟩
  have hm : m ≤ 6500 := RD.few (by have := hR.pos; omega) hR.few hR.bd hne
  have hfd' : f ≠ d := hfd
  refine ⟨!(valV (kvs ns m) (key (RD.itr m ns))).isSome, ?_, fun hb H3 e3 => ?_, fun hb H3 e3 => ?_⟩
  · -- the test
    refine et_B fun H3 e3 Q3 q3 => ?_
    refine ⟨.ref h2, rfl, h2, _, rfl, .inl ⟨sq_of (e3 _ _ hh2), fun t nt => ?_⟩⟩
    refine ⟨.ref d, rfl, d, _, rfl, DGet.t (k := key (RD.itr m ns)) ((Ex.new nt) _ _ (e3 _ _ hd2)) (by rw [key_V]; exact upd_same), q3 _ (Ex.new nt)⟩
  · -- a ring that was not there
    have hv : valV (kvs ns m) (key (RD.itr m ns)) = none := by
      cases z : valV (kvs ns m) (key (RD.itr m ns)) with
      | none => rfl
      | some y => rw [z] at hb; cases hb
    have hne' : ∀ i j, i < j → j < m + 1 → RD.itr i ns ≠ RD.itr j ns := fun i j hij hj => by
      by_cases hjm : j < m
      · exact hne i j hij hjm
      · rw [show j = m by omega]
        exact fun z => kvs_none hv i (by omega) (congrArg key z)
    refine ⟨fun σ2 H2 => ∃ m', m' < mm ∧ _, fun σ2 H2 z => z, ?_⟩
    -- places[tuple(here)] = len(found)
    have hd3 := e3 _ _ hd2
    have hh3 := e3 _ _ hh2
    have hf3 := e3 _ _ hf2
    refine ⟨.ref f, rfl, f, _, rfl, .inl (sq_of hf3), .ref d, rfl, .ref h2, rfl, h2, _, rfl, .inl ⟨sq_of hh3, fun t nt => ?_⟩⟩
    have e4 := Ex.new (o := .tup ((RD.itr m ns).map V.int)) nt
    refine ⟨d, _, rfl, DPut.t (k := key (RD.itr m ns)) (e4 _ _ hd3) (by rw [key_V]; exact upd_same) (by rw [kvs_len]; exact sz_lt (by omega)), ?_⟩
    have hput : putK (kvs ns m) (key (RD.itr m ns)) (V.int ((as.map V.ref).length : Int)) = kvs ns (m + 1) := by
      rw [putK_new _ hv, kvs_succ, List.length_map, hal]
    rw [hput]
    -- found.append(here)
    have hdh : h2 ≠ d := ne_of hh3 hd3 (fun z => by cases z)
    have hf5 : upd (upd H3 t (.tup ((RD.itr m ns).map V.int))) d (.dT (kvs ns (m + 1))) f = some (.lst (as.map V.ref)) := by
      rw [upd_ne hfd']
      exact e4 _ _ hf3
    refine s_app (v := .ref h2) hf5 (ev_var rfl) (ev_var rfl) (by rw [List.length_map]; omega) fun H6 e6 => ?_
    have hh6 : H6 h2 = some (.lst ((RD.itr m ns).map V.int)) := e6 _ _ (by rw [upd_ne hdh]; exact e4 _ _ hh3)
    have hd6 : H6 d = some (.dT (kvs ns (m + 1))) := e6 _ _ upd_same
    have hx6 : ∀ (i : Nat) x, as[i]? = some x → H6 x = some (.lst ((RD.itr i ns).map V.int)) := fun i x hx => by
      have g := has i x hx
      have hxd : x ≠ d := ne_of g hd2 (fun z => by cases z)
      exact e6 _ _ (by rw [upd_ne hxd]; exact e4 _ _ (e3 _ _ g))
    have e16 : Ex H H6 := (Ex.mut ((e2.trans e3).trans e4) nd).trans e6
    -- here = stepped(here)
    have hpos := hR.pos
    have hfew := hR.few
    refine ⟨.ref h2, rfl, h2, RD.itr m ns, rfl, sq_of (by rw [upd_ne hhf2]; exact hh6), by rw [RD.itr_len]; omega, by rw [RD.itr_len]; omega, fun p H8 np e8 hp => ?_⟩
    have hpf : p ≠ f := fun z => by
      rw [z, upd_same] at np
      cases np
    refine ⟨mm - 1, by omega, m + 1, p, as ++ [h2], by omega, hne', rfl, (Ex.mut e16 nf).trans e8, e8 _ _ ?_, hp, hpf, ?_, ?_, ?_, ?_⟩
    · rw [upd_ne hfd'.symm]
      exact hd6
    · rw [List.map_append]
      exact e8 _ _ upd_same
    · rw [List.length_append, hal]
      rfl
    · intro x hx
      rcases List.mem_append.mp hx with hx | hx
      · exact haf x hx
      · rw [List.mem_singleton.mp hx]
        exact hhf2
    · intro i x hx
      by_cases hi : i < as.length
      · rw [List.getElem?_append_left hi] at hx
        refine e8 _ _ ?_
        rw [upd_ne (haf x (List.mem_of_getElem? hx))]
        exact hx6 i x hx
      · rw [List.getElem?_append_right (by omega)] at hx
        have hi2 := get_lt hx
        have hi3 : i = m := by
          simp only [List.length_cons, List.length_nil] at hi2
          omega
        rw [hi3, show m - as.length = 0 by omega] at hx
        have ex := Option.some.inj hx
        rw [← ex, hi3]
        refine e8 _ _ ?_
        rw [upd_ne hhf2]
        exact hh6
  · -- it was there
    cases z : valV (kvs ns m) (key (RD.itr m ns)) with
    | none => rw [z] at hb; cases hb
    | some y =>
      obtain ⟨j, hj, rfl, ej⟩ := kvs_val z
      have ej' := key_inj ej
      refine ⟨.ref f, rfl, .ref d, rfl, .ref h2, rfl, h2, _, rfl, .inl ⟨sq_of (e3 _ _ hh2), fun t nt => ?_⟩⟩
      have e4 := Ex.new (o := .tup ((RD.itr m ns).map V.int)) nt
      have g := DGet.t (k := key (RD.itr m ns)) (e4 _ _ (e3 _ _ hd2)) (show upd H3 t (.tup ((RD.itr m ns).map V.int)) t = some (.tup ((key (RD.itr m ns)).map kV)) by rw [key_V]; exact upd_same)
      rw [z] at g
      refine ⟨d, _, rfl, g, sz_of (by show 2 ≤ 100000; decide), fun p np => ?_⟩
      have e5 := Ex.new (o := .tup [.ref f, .int (j : Int)]) np
      exact q p f m j _ ⟨hj, ej'.symm, hne⟩ (((e2.trans e3).trans e4).trans e5) upd_same ((Found.ex ((e3.trans e4).trans e5) ⟨as, hf2, hal, has⟩))
theorem ok_course (T : Txt K mg) : FnOk P w K mg base CX0 2 T.f_course T.fd_course ["ring"] (spCourse K) := by
  refine T.F_course.ok sc_course (fun vs H Q E h => ?_) (fun cdv A outer s H vs Q E hr h => ?_)
  · obtain ⟨a, ns, rfl, _⟩ := h
    rfl
  · obtain ⟨a, ns, rfl, hS, hR, q⟩ := h
    have hu := hu_of hr
    refine ⟨_, (pss_cons (ps_par (i := 1) (j := 2) (by rfl) sc_course.nd rfl rfl (by decide) rfl rfl (pa_cons (pe_lst pa_nil) (pa_cons pe_dnewT pa_nil)) (by rfl))
      (pss_cons (ps_set (i := 3) sc_course.nd rfl (Or.inl rfl) (pe_callTy (r := rListS K) call_list_of (by rfl) T.n_list (by decide +kernel) (pa_cons (pv 0) pa_nil)))
      (pss_cons (ps_while PassesOwn.never (pt_cmp (pc_dnotin hu (pe_callTy (r := rTupS K) call_tuple_of (by rfl) T.n_tuple (by decide +kernel) (pa_cons (pv 3) pa_nil)) (pv 2)))
        (pss_cons (ps_dput hu (pv 2) (pe_callTy (r := rTupS K) call_tuple_of (by rfl) T.n_tuple (by decide +kernel) (pa_cons (pv 3) pa_nil)) (pe_callB (r := rLenS K) call_len_seq (by rfl) T.n_len (by decide +kernel) (pa_cons (pv 1) pa_nil)) rfl)
        (pss_cons (ps_expr (pe_bm PySem.F.plainAttrs_list PySem.F.slot_list_append PySem.F.type_list_append mt_append (pv 1) (pa_cons (pv 3) pa_nil)))
        (pss_one (ps_set (i := 3) sc_course.nd rfl (Or.inl rfl) (pe_call (ok_stepped T) (hr.mono (by decide)) (by rfl) T.g_stepped T.F_stepped.kp T.b_stepped .nil pass0 (pa_cons (pv 3) pa_nil)))))))
      (pss_one (ps_ret (pe_tup (pa_cons (pv 1) (pa_cons (pe_dget hu (pv 2) (pe_callTy (r := rTupS K) call_tuple_of (by rfl) T.n_tuple (by decide +kernel) (pa_cons (pv 3) pa_nil)) (fun _ _ => rfl)) pa_nil)))))))), ?_⟩
    refine ⟨Nat.zero_le _, fun f nf d nd => ⟨.ref f, .ref d, rfl, ?_⟩⟩
    obtain ⟨nd', ndf⟩ := upd_fresh nd
    have e1 := Ex.new (o := .lst []) nf
    have e2 := Ex.new (o := .dT []) nd
    refine ⟨.ref a, rfl, a, _, rfl, .inl (ex_l (e1.trans e2) hS), fun h nh => ?_⟩
    have e3 := Ex.new (o := .lst (ns.map V.int)) nh
    have hf : upd (upd H f (.lst [])) d (.dT []) f = some (.lst []) := e2 _ _ upd_same
    exact course_run hR nf nd' ((e1.trans e2).trans e3) (e3 _ _ hf) (e3 _ _ upd_same) upd_same (ne_of_none hf nh).symm ndf.symm q
end
section
variable {P : Program} {w : World} {K : PySem.W.Frag} {mg : Str → Option Value} {base : Heap}
/-! ### asked_number, after (where nothing is refused) -/
def spAskedN (K : PySem.W.Frag) : Sp := fun vs H Q _ => ∃ (n : Int), vs = [.int n] ∧ 0 ≤ n ∧ RetV .non H Q
theorem ok_asked_number (T : Txt K mg) : FnOk P w K mg base CX0 2 T.f_asked_number T.fd_asked_number ["number"] (spAskedN K) := by
  refine T.F_asked_number.ok sc_asked_number (fun vs H Q E h => ?_) (fun cdv A outer s H vs Q E hr h => ?_)
  · obtain ⟨n, rfl, _⟩ := h
    rfl
  · obtain ⟨n, rfl, h0, q⟩ := h
    refine ⟨_, (pss_one (ps_if (PW.pt (pw_or (pt_not (pt_val (pe_call (ok_is_whole T) (hr.mono (by decide)) (by rfl) T.g_is_whole T.F_is_whole.kp T.b_is_whole .nil pass0 (pa_cons (pv 0) pa_nil)))) (pw_or1 (pt_cmpR op_lt (pv 0) pe_int (nomark _)))))
        (pss_one ps_never)
        pss_nil)), ?_⟩
    refine s_when (b := false) (et_is (et_or (a := false) (b := false) (et_is (et_not (a := true) (et_B fun H1 e1 Q1 q1 => ?_)) rfl) fun _ => et_test ?_) rfl) (fun z => nomatch z) fun _ H2 e2 => q H2 e2
    · exact ⟨.int n, rfl, whole_int (E := E0) (q1 H1 (Ex.refl _))⟩
    · rw [← (decide_eq_false (show ¬ n < 0 by omega))]
      exact ev_op (ev_var rfl) ev_c rv_I0
def spAfter (K : PySem.W.Frag) : Sp := fun vs H Q _ => ∃ (a : Addr) (ns : List Int) (n : Int), vs = [.ref a, .int n] ∧ SqL K H a (ns.map V.int) ∧ Ring ns ∧ 0 ≤ n ∧ RetL ((RD.itr n.toNat ns).map V.int) H Q
theorem ok_after (T : Txt K mg) : FnOk P w K mg base CX0 3 T.f_after T.fd_after ["ring", "steps"] (spAfter K) := by
  refine T.F_after.ok sc_after (fun vs H Q E h => ?_) (fun cdv A outer s H vs Q E hr h => ?_)
  · obtain ⟨a, ns, n, rfl, _⟩ := h
    rfl
  · obtain ⟨a, ns, n, rfl, hS, hR, h0, q⟩ := h
    refine ⟨_, (pss_cons (ps_expr (pe_call (ok_asked_ring T) (hr.mono (by decide)) (by rfl) T.g_asked_ring T.F_asked_ring.kp T.b_asked_ring .nil pass0 (pa_cons (pv 0) pa_nil)))
      (pss_cons (ps_expr (pe_call (ok_asked_number T) (hr.mono (by decide)) (by rfl) T.g_asked_number T.F_asked_number.kp T.b_asked_number .nil pass0 (pa_cons (pv 1) pa_nil)))
      (pss_cons (ps_asg (pe_call (ok_course T) (hr.mono (by decide)) (by rfl) T.g_course T.F_course.kp T.b_course .nil pass0 (pa_cons (pv 0) pa_nil)) (pg_tup rfl (pgs_cons (pg_name (i := 2) sc_after.nd rfl (Or.inl rfl)) (pgs_cons (pg_name (i := 3) sc_after.nd rfl (Or.inl rfl)) pgs_nil))))
      (pss_cons (ps_if (pt_cmpR op_lt (pv 1) (pe_callB (r := rLenS K) call_len_seq (by rfl) T.n_len (by decide +kernel) (pa_cons (pv 2) pa_nil)) (nomark _))
        (pss_one (ps_ret (pe_callTy (r := rListS K) call_list_of (by rfl) T.n_list (by decide +kernel) (pa_cons (pe_ix (r := rIxL K) ix_list (pv 2) (pv 1) (fun _ _ => rfl)) pa_nil))))
        pss_nil)
      (pss_one (ps_ret (pe_callTy (r := rListS K) call_list_of (by rfl) T.n_list (by decide +kernel) (pa_cons (pe_ix (r := rIxL K) ix_list (pv 2) (pe_op op_add (pv 3) (pe_op op_mod (pe_op op_sub (pv 1) (pv 3)) (pe_op op_sub (pe_callB (r := rLenS K) call_len_seq (by rfl) T.n_len (by decide +kernel) (pa_cons (pv 2) pa_nil)) (pv 3)))) (fun _ _ => rfl)) pa_nil)))))))), ?_⟩
    refine ⟨.ref a, rfl, a, ns, rfl, hS, hR, fun H1 e1 => ?_⟩
    refine ⟨.int n, rfl, n, rfl, h0, fun H2 e2 => ?_⟩
    refine ⟨.ref a, rfl, a, ns, rfl, ex_l (e1.trans e2) hS, hR, fun t f N b H3 hC e3 ht hf => ?_⟩
    refine ⟨t, _, rfl, st_of ht, rfl, .ref f, _, rfl, .int (b : Int), _, rfl, rfl, ?_⟩
    obtain ⟨fx, hfx, hfl⟩ := hf.len
    have hlt := hC.lt
    refine q_when (b := decide (n < (N : Int))) (et_test (ev_op (ev_var rfl) (ev_is (ev_len (ev_var rfl) (sq_of hfx)) (by rw [hfl])) rv_I0)) (fun hb H4 e4 => ?_) (fun hb H4 e4 => ?_)
    · have hn : n < (N : Int) := of_decide_eq_true hb
      obtain ⟨xs, x, g1, g2, g3⟩ := (hf.ex e4).at (i := n.toNat) (by omega)
      rw [show ((n.toNat : Nat) : Int) = n by omega] at g2
      refine ⟨.ref f, rfl, .int n, rfl, f, xs, n, _, rfl, rfl, sq_of g1, g2, x, _, rfl, .inl (sq_of g3), fun p np => ?_⟩
      exact q p _ (fresh_back (((e1.trans e2).trans e3).trans e4) np) ((((e1.trans e2).trans e3).trans e4).trans (Ex.new np)) upd_same
    · have hn : ¬ n < (N : Int) := of_decide_eq_false hb
      have hbn : b ≤ n.toNat := by omega
      have hmod := Nat.mod_lt (n.toNat - b) (show 0 < N - b by omega)
      obtain ⟨xs, x, g1, g2, g3⟩ := (hf.ex e4).at (i := b + (n.toNat - b) % (N - b)) (by omega)
      rw [hC.at hbn] at g3
      have ei : (b : Int) + (n - (b : Int)) % ((N : Int) - (b : Int)) = ((b + (n.toNat - b) % (N - b) : Nat) : Int) := by
        rw [Int.natCast_add, Int.natCast_emod, show ((n.toNat - b : Nat) : Int) = n - (b : Int) by omega, show ((N - b : Nat) : Int) = (N : Int) - (b : Int) by omega]
      rw [← ei] at g2
      have hfx4 := e4 _ _ hfx
      refine ⟨.ref f, rfl, .int (b : Int), rfl, .int n, rfl, .int (b : Int), rfl, n, (b : Int), rfl, rfl, .ref f, rfl, f, fx, rfl, .inl (sq_of hfx4), .int (b : Int), rfl, (fx.length : Int), (b : Int), rfl, rfl, _, _, rfl, rfl, ?_, _, _, rfl, rfl, f, xs, _, _, rfl, ?_, sq_of g1, g2, x, _, rfl, .inl (sq_of g3), fun p np => ?_⟩
      · show (0 : Int) < (fx.length : Int) - (b : Int)
        rw [hfl]
        omega
      · rw [hfl]
      · exact q p _ (fresh_back (((e1.trans e2).trans e3).trans e4) np) ((((e1.trans e2).trans e3).trans e4).trans (Ex.new np)) upd_same
theorem el_after {σ : L2.St} {H : Hp} {ta tb : TE} {ns : List Int} {n : Int} {E : XK} (ha : EvI K ta σ H ns) (hb : Ev tb σ H (.int n)) (hR : Ring ns) (h0 : 0 ≤ n) : EvL (tCall (spAfter K) [] E (tCons ta (tCons tb tNil))) σ H ((RD.itr n.toNat ns).map V.int) := fun H1 e Q q =>
  ha H1 e _ fun p H2 e2 hp => hb H2 (e.trans e2) _ fun H3 e3 => ⟨p, ns, n, rfl, ex_l e3 hp, hR, h0, fun r H4 nr e4 hr => q r H4 (fresh_back (e2.trans e3) nr) ((e2.trans e3).trans e4) hr⟩
end
section
variable {P : Program} {w : World} {K : PySem.W.Frag} {mg : Str → Option Value} {base : Heap}
/-! ### answers: what stands at an answer's address -/
theorem ne_ls : ¬ (("steps" : Str) = "length") := by decide +kernel
theorem ne_ns : ¬ (("steps" : Str) = "number") := by decide +kernel
theorem ne_nl : ¬ (("length" : Str) = "number") := by decide +kernel
def fsN (s : V) : List (Str × V) := putF "steps" s []
def fsR (s l m : V) : List (Str × V) := putF "number" m (putF "length" l (putF "steps" s []))
theorem fsN_s (s : V) : (fsN s).lookup ("steps" : Str) = some s := by
  unfold fsN
  rw [lookup_putF, if_pos rfl]
theorem fsN_o (s : V) {m : Str} (h : ¬ m = "steps") : (fsN s).lookup m = none := by
  unfold fsN
  rw [lookup_putF, if_neg h]
  rfl
theorem fsR_s (s l m : V) : (fsR s l m).lookup ("steps" : Str) = some s := by
  unfold fsR
  rw [lookup_putF, if_neg ne_ns, lookup_putF, if_neg ne_ls, lookup_putF, if_pos rfl]
theorem fsR_l (s l m : V) : (fsR s l m).lookup ("length" : Str) = some l := by
  unfold fsR
  rw [lookup_putF, if_neg ne_nl, lookup_putF, if_pos rfl]
theorem fsR_n (s l m : V) : (fsR s l m).lookup ("number" : Str) = some m := by
  unfold fsR
  rw [lookup_putF, if_pos rfl]
theorem fsR_o (s l m : V) {x : Str} (h1 : ¬ x = "steps") (h2 : ¬ x = "length") (h3 : ¬ x = "number") : (fsR s l m).lookup x = none := by
  unfold fsR
  rw [lookup_putF, if_neg h3, lookup_putF, if_neg h2, lookup_putF, if_neg h1]
  rfl
theorem len_putF (f : Str) (v : V) : ∀ fs : List (Str × V), (putF f v fs).length ≤ fs.length + 1
  | [] => Nat.le_refl _
  | (g, x) :: r => by
    unfold putF
    split
    · rw [List.length_cons, List.length_cons]
      omega
    · have := len_putF f v r
      rw [List.length_cons, List.length_cons]
      omega
inductive An where
  | n (s : Int)
  | r (s l m : Int)
def An.steps : An → Int
  | .n s => s
  | .r s _ _ => s
/-- its own word of a ring whose course is N, b, the greatest number at b being M -/
def An.says (N b : Nat) (M : Int) : An → Bool
  | .n s => decide (M = 0) && decide (s = (b : Int))
  | .r s l m => decide (M ≠ 0) && decide (s = (b : Int) ∧ l = (N : Int) - (b : Int) ∧ m = M)
def tell (N b : Nat) (M : Int) : An := if M = 0 then .n b else .r b ((N : Int) - (b : Int)) M
theorem tell_says (N b : Nat) (M : Int) : (tell N b M).says N b M = true := by
  unfold tell
  split
  · rename_i h
    simp [An.says, h]
  · rename_i h
    simp [An.says, h]
def IsA (T : Txt K mg) (H : Hp) (v : V) : An → Prop
  | .n s => ∃ x dx, v = .ref x ∧ H x = some (.ins T.C_Noughts dx (fsN (.int s)))
  | .r s l m => ∃ x dx, v = .ref x ∧ H x = some (.ins T.C_Round dx (fsR (.int s) (.int l) (.int m)))
theorem IsA.ex {T : Txt K mg} {H H' : Hp} {v : V} {an : An} (e : Ex H H') (h : IsA T H v an) : IsA T H' v an := by
  cases an with
  | n s =>
    obtain ⟨x, dx, rfl, g⟩ := h
    exact ⟨x, dx, rfl, e _ _ g⟩
  | r s l m =>
    obtain ⟨x, dx, rfl, g⟩ := h
    exact ⟨x, dx, rfl, e _ _ g⟩
def EvAn (T : Txt K mg) (te : TE) (σ : L2.St) (H : Hp) (an : An) : Prop := ∀ H1, Ex H H1 → ∀ Q : VK, (∀ v H2, Ex H1 H2 → IsA T H2 v an → Q v H2) → te σ H1 Q
theorem ean_var {T : Txt K mg} {σ : L2.St} {H : Hp} {i : Nat} {v : V} {an : An} (h : σ[i]? = some (some v)) (ha : IsA T H v an) : EvAn T (tVar i) σ H an := fun H1 e Q q => ⟨v, h, q v H1 (Ex.refl _) (ha.ex e)⟩
def spNI (C : Addr) : Sp := fun vs H Q _ => ∃ (p dx : Addr) (s : V), vs = [.ref p, s] ∧ H p = some (.ins C dx []) ∧ Q .non (upd H p (.ins C dx (fsN s)))
theorem ok_Noughts_init (T : Txt K mg) : FnOk P w K mg base CX0 1 T.f_Noughts_init T.fd_Noughts_init ["self", "steps"] (spNI T.C_Noughts) := by
  refine T.F_Noughts_init.ok sc_Noughts_init (fun vs H Q E h => ?_) (fun cdv A outer s H vs Q E hr h => ?_)
  · obtain ⟨p, dx, v, rfl, _⟩ := h
    rfl
  · obtain ⟨p, dx, v, rfl, hp, q⟩ := h
    refine ⟨_, (pss_one (ps_fld (pv 0) (pv 1) rfl)), ?_⟩
    exact ⟨v, rfl, .ref p, rfl, p, _, dx, [], rfl, hp, T.c_Noughts, T.na_Noughts_steps, by show 0 < 1000; decide, q⟩
def spRI (C : Addr) : Sp := fun vs H Q _ => ∃ (p dx : Addr) (s l m : V), vs = [.ref p, s, l, m] ∧ H p = some (.ins C dx []) ∧ Q .non (upd H p (.ins C dx (fsR s l m)))
theorem ok_Round_init (T : Txt K mg) : FnOk P w K mg base CX0 1 T.f_Round_init T.fd_Round_init ["self", "steps", "length", "number"] (spRI T.C_Round) := by
  refine T.F_Round_init.ok sc_Round_init (fun vs H Q E h => ?_) (fun cdv A outer s H vs Q E hr h => ?_)
  · obtain ⟨p, dx, s, l, m, rfl, _⟩ := h
    rfl
  · obtain ⟨p, dx, s, l, m, rfl, hp, q⟩ := h
    refine ⟨_, (pss_cons (ps_fld (pv 0) (pv 1) rfl)
      (pss_cons (ps_fld (pv 0) (pv 2) rfl)
      (pss_one (ps_fld (pv 0) (pv 3) rfl)))), ?_⟩
    refine ⟨s, rfl, .ref p, rfl, p, _, dx, [], rfl, hp, T.c_Round, T.na_Round_steps, by show 0 < 1000; decide, ?_⟩
    refine ⟨l, rfl, .ref p, rfl, p, _, dx, _, rfl, upd_same, T.c_Round, T.na_Round_length, Nat.lt_of_le_of_lt (len_putF _ _ _) (by show 1 < 1000; decide), ?_⟩
    refine ⟨m, rfl, .ref p, rfl, p, _, dx, _, rfl, upd_same, T.c_Round, T.na_Round_number, Nat.lt_of_le_of_lt (Nat.le_trans (len_putF _ _ _) (Nat.succ_le_succ (len_putF _ _ _))) (by show 2 < 1000; decide), ?_⟩
    show Q .non _
    rw [upd_upd, upd_upd]
    exact q
theorem made_ex {H : Hp} {x dx C : Addr} {o : HO} (nx : H x = none) (nd : H dx = none) : Ex H (upd (upd (upd H dx (.own x)) x (.ins C dx [])) x o) := fun b u e => by
  have h1 := ne_of_none e nx
  have h2 := ne_of_none e nd
  rw [upd_ne h1, upd_ne h1, upd_ne h2]
  exact e
theorem ean_N {T : Txt K mg} {σ : L2.St} {H : Hp} {ta : TE} {s : Int} {E : XK} (ha : Ev ta σ H (.int s)) : EvAn T (tMake T.C_Noughts (spNI T.C_Noughts) [] E (tCons ta tNil)) σ H (.n s) := fun H1 e Q q =>
  ha H1 e _ fun H2 e2 x dx nx nd ne => ⟨x, dx, _, rfl, upd_same, rfl, q _ _ (e2.trans (made_ex nx nd)) ⟨x, dx, rfl, upd_same⟩⟩
theorem ean_R {T : Txt K mg} {σ : L2.St} {H : Hp} {ta tb tc : TE} {s l m : Int} {E : XK} (ha : Ev ta σ H (.int s)) (hb : Ev tb σ H (.int l)) (hc : Ev tc σ H (.int m)) : EvAn T (tMake T.C_Round (spRI T.C_Round) [] E (tCons ta (tCons tb (tCons tc tNil)))) σ H (.r s l m) := fun H1 e Q q =>
  ha H1 e _ fun H2 e2 => hb H2 (e.trans e2) _ fun H3 e3 => hc H3 ((e.trans e2).trans e3) _ fun H4 e4 x dx nx nd ne => ⟨x, dx, _, _, _, rfl, upd_same, rfl, q _ _ (((e2.trans e3).trans e4).trans (made_ex nx nd)) ⟨x, dx, rfl, upd_same⟩⟩
theorem ev_steps {T : Txt K mg} {σ : L2.St} {H : Hp} {ta : TE} {an : An} (ha : EvAn T ta σ H an) : Ev (tFld K ta "steps") σ H (.int an.steps) := fun H1 e Q q => ha H1 e _ fun v H2 e2 h => by
  cases an with
  | n s =>
    obtain ⟨x, dx, rfl, g⟩ := h
    exact ⟨x, _, dx, _, _, rfl, g, T.c_Noughts, T.na_Noughts_steps, fsN_s _, q H2 e2⟩
  | r s l m =>
    obtain ⟨x, dx, rfl, g⟩ := h
    exact ⟨x, _, dx, _, _, rfl, g, T.c_Round, T.na_Round_steps, fsR_s _ _ _, q H2 e2⟩
theorem ev_length {T : Txt K mg} {σ : L2.St} {H : Hp} {ta : TE} {s l m : Int} (ha : EvAn T ta σ H (.r s l m)) : Ev (tFld K ta "length") σ H (.int l) := fun H1 e Q q => ha H1 e _ fun v H2 e2 h => by
  obtain ⟨x, dx, rfl, g⟩ := h
  exact ⟨x, _, dx, _, _, rfl, g, T.c_Round, T.na_Round_length, fsR_l _ _ _, q H2 e2⟩
theorem ev_number {T : Txt K mg} {σ : L2.St} {H : Hp} {ta : TE} {s l m : Int} (ha : EvAn T ta σ H (.r s l m)) : Ev (tFld K ta "number") σ H (.int m) := fun H1 e Q q => ha H1 e _ fun v H2 e2 h => by
  obtain ⟨x, dx, rfl, g⟩ := h
  exact ⟨x, _, dx, _, _, rfl, g, T.c_Round, T.na_Round_number, fsR_n _ _ _, q H2 e2⟩
/-- the ring at the course's place -/
theorem ei_found {σ : L2.St} {H : Hp} {ta tb : TE} {f : Addr} {ns : List Int} {N b : Nat} (ha : Ev ta σ H (.ref f)) (hb : Ev tb σ H (.int (b : Int))) (hf : Found H f ns N) (h : b < N) : EvI K (tOp (rIxL K) ta tb) σ H (RD.itr b ns) := fun H1 e Q q =>
  ha H1 e _ fun H2 e2 => hb H2 (e.trans e2) _ fun H3 e3 => by
    obtain ⟨xs, x, g1, g2, g3⟩ := (hf.ex ((e.trans e2).trans e3)).at h
    exact ⟨f, xs, _, _, rfl, rfl, sq_of g1, g2, q x H3 (e2.trans e3) (sq_of g3)⟩
theorem ev_lenF {σ : L2.St} {H : Hp} {ta : TE} {f : Addr} {ns : List Int} {N : Nat} (ha : Ev ta σ H (.ref f)) (hf : Found H f ns N) : Ev (tCB (rLenS K) (tCons ta tNil)) σ H (.int (N : Int)) := by
  obtain ⟨xs, h1, h2⟩ := hf.len
  rw [← h2]
  exact ev_len ha (sq_of h1)
theorem ev_listEq3 {σ : L2.St} {H : Hp} {ta tb tc td te tf : TE} {a b c d e f : Int} (h1 : Ev ta σ H (.int a)) (h2 : Ev tb σ H (.int b)) (h3 : Ev tc σ H (.int c)) (h4 : Ev td σ H (.int d)) (h5 : Ev te σ H (.int e)) (h6 : Ev tf σ H (.int f)) :
    Ev (tOp (rEqD K) (tLst (tCons ta (tCons tb (tCons tc tNil)))) (tLst (tCons td (tCons te (tCons tf tNil))))) σ H (.bl (decide (a = d ∧ b = e ∧ c = f))) := by
  refine ev_is (ev_eqI (ei_L (ns := [a, b, c]) (el_lst (ea_cons h1 (ea_cons h2 (ea_cons h3 ea_nil))) (by show 3 ≤ 100000; decide))) (ei_L (ns := [d, e, f]) (el_lst (ea_cons h4 (ea_cons h5 (ea_cons h6 ea_nil))) (by show 3 ≤ 100000; decide)))) ?_
  congr 1
  simp
def An.isN : An → Bool
  | .n _ => true
  | .r _ _ _ => false
theorem ev_isA {T : Txt K mg} {σ : L2.St} {H : Hp} {ta : TE} {an : An} {D : Addr} {bN bR : Bool} (tN : ∀ {H : Hp} {x dx : Addr} {fs : List (Str × V)}, H x = some (.ins T.C_Noughts dx fs) → TyX K H (.ref x) (.ref T.C_Noughts))
    (tR : ∀ {H : Hp} {x dx : Addr} {fs : List (Str × V)}, H x = some (.ins T.C_Round dx fs) → TyX K H (.ref x) (.ref T.C_Round)) (ha : EvAn T ta σ H an) (kN : PySem.W.kitOne K (.ref T.C_Noughts) (.ref D) = some bN) (kR : PySem.W.kitOne K (.ref T.C_Round) (.ref D) = some bR) :
    Ev (tCB (rIsi K) (tCons ta (tCons (tC (.ref D)) tNil))) σ H (.bl (if an.isN then bN else bR)) := fun H1 e Q q => ha H1 e _ fun v H2 e2 h => by
  cases an with
  | n s =>
    obtain ⟨x, dx, rfl, g⟩ := h
    exact ⟨_, _, _, _, _, rfl, .own D, tN g, kN, q H2 e2⟩
  | r s l m =>
    obtain ⟨x, dx, rfl, g⟩ := h
    exact ⟨_, _, _, _, _, rfl, .own D, tR g, kR, q H2 e2⟩
theorem dp_tups {H : Hp} {a : Addr} {ns : List Int} (h : SqT K H a (ns.map V.int)) : Dp K H (.ref a) (.tuple (ns.map PyData.int)) := .tup h (dpAll_ints ns)
theorem eqv_tups (ns ms : List Int) : PyData.eqv (.tuple (ns.map PyData.int)) (.tuple (ms.map PyData.int)) = decide (ns = ms) := by
  rw [PyData.eqv, eqvAll_ints]
theorem shaped_tups (ns : List Int) : SeqAt.shaped (.tuple (ns.map PyData.int)) = true := by
  unfold SeqAt.shaped
  rw [PyData.canLay0, PyData.depth, canAll_ints, deepAll_ints]
  rfl
theorem ev_eqU {σ : L2.St} {H : Hp} {ta tb : TE} {ns ms : List Int} (ha : EvU ta σ H (ns.map V.int)) (hb : EvU tb σ H (ms.map V.int)) : Ev (tOp (rEqD K) ta tb) σ H (.bl (decide (ns = ms))) :=
  ev_opUU ha hb fun p q H1 hp hq _ => rv_val fun H2 e2 Q z => ⟨_, _, dp_tups (st_of (e2 _ _ hp)), dp_tups (st_of (e2 _ _ hq)), shaped_tups _, shaped_tups _, by rw [eqv_tups]; exact z⟩
theorem ev_neU {σ : L2.St} {H : Hp} {ta tb : TE} {ns ms : List Int} (ha : EvU ta σ H (ns.map V.int)) (hb : EvU tb σ H (ms.map V.int)) : Ev (tOp (rNeD K) ta tb) σ H (.bl (!decide (ns = ms))) :=
  ev_opUU ha hb fun p q H1 hp hq _ => rv_val fun H2 e2 Q z => ⟨_, _, dp_tups (st_of (e2 _ _ hp)), dp_tups (st_of (e2 _ _ hq)), shaped_tups _, shaped_tups _, by rw [eqv_tups]; exact z⟩
theorem q_an {T : Txt K mg} {σ : L2.St} {H : Hp} {D : Ends} {tz : TS} {te : TE} {i : Nat} {an : An} (h : EvAn T te σ H an) (k : ∀ v H1, Ex H H1 → IsA T H1 v an → tz D (σ.set i (some v)) H1) : tSeq (tAsg te (gName i)) tz D σ H :=
  h H (Ex.refl _) _ fun v H1 e hv => k v H1 e hv
end
section
variable {P : Program} {w : World} {K : PySem.W.Frag} {mg : Str → Option Value} {base : Heap}
/-! ### told (where nothing is refused) -/
def RetT (T : Txt K mg) (ns : List Int) (H : Hp) (Q : VK) : Prop := ∀ (N b : Nat) v H2, RD.IsC ns N b → Ex H H2 → IsA T H2 v (tell N b (mx (RD.itr b ns))) → Q v H2
def spTold (T : Txt K mg) : Sp := fun vs H Q _ => ∃ (a : Addr) (ns : List Int), vs = [.ref a] ∧ SqL K H a (ns.map V.int) ∧ Ring ns ∧ RetT T ns H Q
theorem ok_told (T : Txt K mg) : FnOk P w K mg base CX0 3 T.f_told T.fd_told ["ring"] (spTold T) := by
  refine T.F_told.ok sc_told (fun vs H Q E h => ?_) (fun cdv A outer s H vs Q E hr h => ?_)
  · obtain ⟨a, ns, rfl, _⟩ := h
    rfl
  · obtain ⟨a, ns, rfl, hS, hR, q⟩ := h
    refine ⟨_, (pss_cons (ps_expr (pe_call (ok_asked_ring T) (hr.mono (by decide)) (by rfl) T.g_asked_ring T.F_asked_ring.kp T.b_asked_ring .nil pass0 (pa_cons (pv 0) pa_nil)))
      (pss_cons (ps_asg (pe_call (ok_course T) (hr.mono (by decide)) (by rfl) T.g_course T.F_course.kp T.b_course .nil pass0 (pa_cons (pv 0) pa_nil)) (pg_tup rfl (pgs_cons (pg_name (i := 1) sc_told.nd rfl (Or.inl rfl)) (pgs_cons (pg_name (i := 2) sc_told.nd rfl (Or.inl rfl)) pgs_nil))))
      (pss_cons (ps_if (pt_val (pe_callB (r := rAnyI K) (cr_anyI rfl) (by rfl) T.n_any (by decide +kernel) (pa_cons (pe_ix (r := rIxL K) ix_list (pv 1) (pv 2) (fun _ _ => rfl)) pa_nil)))
        (pss_one (ps_ret (pe_make T.M_Round (ok_Round_init T) (hr.mono (by decide)) (by rfl) T.m_Round T.b_Round_init .nil pass0 (pa_cons (pv 2) (pa_cons (pe_op op_sub (pe_callB (r := rLenS K) call_len_seq (by rfl) T.n_len (by decide +kernel) (pa_cons (pv 1) pa_nil)) (pv 2)) (pa_cons (pe_callB (r := rMax K) (cr_max rfl) (by rfl) T.n_max (by decide +kernel) (pa_cons (pe_ix (r := rIxL K) ix_list (pv 1) (pv 2) (fun _ _ => rfl)) pa_nil)) pa_nil))))))
        pss_nil)
      (pss_one (ps_ret (pe_make T.M_Noughts (ok_Noughts_init T) (hr.mono (by decide)) (by rfl) T.m_Noughts T.b_Noughts_init .nil pass0 (pa_cons (pv 2) pa_nil))))))), ?_⟩
    refine ⟨.ref a, rfl, a, ns, rfl, hS, hR, fun H1 e1 => ?_⟩
    refine ⟨.ref a, rfl, a, ns, rfl, ex_l e1 hS, hR, fun t f N b H2 hC e2 ht hf => ?_⟩
    refine ⟨t, _, rfl, st_of ht, rfl, .ref f, _, rfl, .int (b : Int), _, rfl, rfl, ?_⟩
    have hRb := hR.itr b
    have hlt := hC.lt
    refine q_when (b := decide (mx (RD.itr b ns) ≠ 0)) (et_B (ev_anyI (ei_found (ev_var rfl) (ev_var rfl) hf hlt) hRb)) (fun hb H3 e3 => ?_) (fun hb H3 e3 => ?_)
    · have hne : mx (RD.itr b ns) ≠ 0 := of_decide_eq_true hb
      have hf3 := hf.ex e3
      refine ean_R (T := T) (ev_var rfl) (ev_op (ev_lenF (ev_var rfl) hf3) (ev_var rfl) rv_I0) (ev_max (ei_found (ev_var rfl) (ev_var rfl) hf3 hlt) hRb) H3 (Ex.refl _) _ fun v H4 e4 hv => ?_
      refine q N b v H4 hC (((e1.trans e2).trans e3).trans e4) ?_
      unfold tell
      rw [if_neg hne]
      exact hv
    · have hz : mx (RD.itr b ns) = 0 := Decidable.of_not_not (of_decide_eq_false hb)
      refine ean_N (T := T) (ev_var rfl) H3 (Ex.refl _) _ fun v H4 e4 hv => ?_
      refine q N b v H4 hC (((e1.trans e2).trans e3).trans e4) ?_
      unfold tell
      rw [if_pos hz]
      exact hv
/-- told, where the course is known -/
theorem ean_told {T : Txt K mg} {σ : L2.St} {H : Hp} {ta : TE} {ns : List Int} {E : XK} {N b : Nat} (ha : EvI K ta σ H ns) (hR : Ring ns) (hC : RD.IsC ns N b) : EvAn T (tCall (spTold T) [] E (tCons ta tNil)) σ H (tell N b (mx (RD.itr b ns))) := fun H1 e Q q =>
  ha H1 e _ fun p H2 e2 hp => ⟨p, ns, rfl, hp, hR, fun N' b' v H3 hC' e3 hv => by
    obtain ⟨rfl, rfl⟩ := hC'.unique hC
    exact q v H3 (e2.trans e3) hv⟩
end
section
variable {P : Program} {w : World} {K : PySem.W.Frag} {mg : Str → Option Value} {base : Heap}
/-! ### an answer's own word -/
def RetS (ns : List Int) (an : An) (H : Hp) (Q : VK) : Prop := ∀ (N b : Nat) H2, RD.IsC ns N b → Ex H H2 → Q (.bl (an.says N b (mx (RD.itr b ns)))) H2
def spNS (T : Txt K mg) : Sp := fun vs H Q _ => ∃ (v : V) (s : Int) (a : Addr) (ns : List Int), vs = [v, .ref a] ∧ IsA T H v (.n s) ∧ SqL K H a (ns.map V.int) ∧ Ring ns ∧ RetS ns (.n s) H Q
theorem ok_Noughts_shows (T : Txt K mg) : FnOk P w K mg base CX0 3 T.f_Noughts_shows T.fd_Noughts_shows ["self", "ring"] (spNS T) := by
  refine T.F_Noughts_shows.ok sc_Noughts_shows (fun vs H Q E h => ?_) (fun cdv A outer s H vs Q E hr h => ?_)
  · obtain ⟨v, s, a, ns, rfl, _⟩ := h
    rfl
  · obtain ⟨v, s, a, ns, rfl, hA, hS, hR, q⟩ := h
    refine ⟨_, (pss_cons (ps_asg (pe_call (ok_course T) (hr.mono (by decide)) (by rfl) T.g_course T.F_course.kp T.b_course .nil pass0 (pa_cons (pv 1) pa_nil)) (pg_tup rfl (pgs_cons (pg_name (i := 2) sc_Noughts_shows.nd rfl (Or.inl rfl)) (pgs_cons (pg_name (i := 3) sc_Noughts_shows.nd rfl (Or.inl rfl)) pgs_nil))))
      (pss_one (ps_ret (pe_and (pe_not (pe_callB (r := rAnyI K) (cr_anyI rfl) (by rfl) T.n_any (by decide +kernel) (pa_cons (pe_ix (r := rIxL K) ix_list (pv 2) (pv 3) (fun _ _ => rfl)) pa_nil))) (pe_one (pe_cmpR op_eq (pe_fldK (K := K) rfl (pv 0) rfl) (pv 3) (nomark _))))))), ?_⟩
    refine ⟨.ref a, rfl, a, ns, rfl, hS, hR, fun t f N b H2 hC e2 ht hf => ?_⟩
    refine ⟨t, _, rfl, st_of ht, rfl, .ref f, _, rfl, .int (b : Int), _, rfl, rfl, ?_⟩
    have hRb := hR.itr b
    have hlt := hC.lt
    dsimp only
    refine s_ret (v := .bl (An.says N b (mx (RD.itr b ns)) (.n s))) ?_ ?_
    rotate_left
    · intro H3 e3
      exact q N b H3 hC (e2.trans e3)
    refine ev_is (ev_andV (b := decide (s = (b : Int))) (ev_notV (ev_anyI (ei_found (ev_var rfl) (ev_var rfl) hf hlt) hRb)) fun _ => ev_is (ev_op (ev_steps (T := T) (ean_var rfl (hA.ex e2))) (ev_var rfl) (rv_eq rfl)) ?_) ?_
    · congr 1
      simp [An.steps]
    · congr 1
      simp [An.says]
def spRS (T : Txt K mg) : Sp := fun vs H Q _ => ∃ (v : V) (s l m : Int) (a : Addr) (ns : List Int), vs = [v, .ref a] ∧ IsA T H v (.r s l m) ∧ SqL K H a (ns.map V.int) ∧ Ring ns ∧ RetS ns (.r s l m) H Q
theorem ok_Round_shows (T : Txt K mg) : FnOk P w K mg base CX0 3 T.f_Round_shows T.fd_Round_shows ["self", "ring"] (spRS T) := by
  refine T.F_Round_shows.ok sc_Round_shows (fun vs H Q E h => ?_) (fun cdv A outer s H vs Q E hr h => ?_)
  · obtain ⟨v, s, l, m, a, ns, rfl, _⟩ := h
    rfl
  · obtain ⟨v, s, l, m, a, ns, rfl, hA, hS, hR, q⟩ := h
    refine ⟨_, (pss_cons (ps_asg (pe_call (ok_course T) (hr.mono (by decide)) (by rfl) T.g_course T.F_course.kp T.b_course .nil pass0 (pa_cons (pv 1) pa_nil)) (pg_tup rfl (pgs_cons (pg_name (i := 2) sc_Round_shows.nd rfl (Or.inl rfl)) (pgs_cons (pg_name (i := 3) sc_Round_shows.nd rfl (Or.inl rfl)) pgs_nil))))
      (pss_cons (ps_if (pt_not (pt_val (pe_callB (r := rAnyI K) (cr_anyI rfl) (by rfl) T.n_any (by decide +kernel) (pa_cons (pe_ix (r := rIxL K) ix_list (pv 2) (pv 3) (fun _ _ => rfl)) pa_nil))))
        (pss_one (ps_ret pe_bl))
        pss_nil)
      (pss_one (ps_ret (pe_cmpR (r := rEqD K) (op_eqD hr.units) (pe_lst (pa_cons (pe_fldK (K := K) rfl (pv 0) rfl) (pa_cons (pe_fldK (K := K) rfl (pv 0) rfl) (pa_cons (pe_fldK (K := K) rfl (pv 0) rfl) pa_nil)))) (pe_lst (pa_cons (pv 3) (pa_cons (pe_op op_sub (pe_callB (r := rLenS K) call_len_seq (by rfl) T.n_len (by decide +kernel) (pa_cons (pv 2) pa_nil)) (pv 3)) (pa_cons (pe_callB (r := rMax K) (cr_max rfl) (by rfl) T.n_max (by decide +kernel) (pa_cons (pe_ix (r := rIxL K) ix_list (pv 2) (pv 3) (fun _ _ => rfl)) pa_nil)) pa_nil)))) (nomark _)))))), ?_⟩
    refine ⟨.ref a, rfl, a, ns, rfl, hS, hR, fun t f N b H2 hC e2 ht hf => ?_⟩
    refine ⟨t, _, rfl, st_of ht, rfl, .ref f, _, rfl, .int (b : Int), _, rfl, rfl, ?_⟩
    have hRb := hR.itr b
    have hlt := hC.lt
    refine q_when (b := !decide (mx (RD.itr b ns) ≠ 0)) (et_not (et_B (ev_anyI (ei_found (ev_var rfl) (ev_var rfl) hf hlt) hRb))) (fun hb H3 e3 => ?_) (fun hb H3 e3 => ?_)
    · have hz : mx (RD.itr b ns) = 0 := by simpa using hb
      have g := q N b H3 hC (e2.trans e3)
      have es : An.says N b (mx (RD.itr b ns)) (.r s l m) = false := by simp [An.says, hz]
      rw [es] at g
      exact g
    · have hz : mx (RD.itr b ns) ≠ 0 := by simpa using hb
      have hA3 := (hA.ex (e2.trans e3))
      have hf3 := hf.ex e3
      refine s_ret (v := .bl (An.says N b (mx (RD.itr b ns)) (.r s l m))) ?_ fun H4 e4 => q N b H4 hC ((e2.trans e3).trans e4)
      refine ev_is (ev_listEq3 (ev_steps (T := T) (ean_var rfl hA3)) (ev_length (T := T) (ean_var rfl hA3)) (ev_number (T := T) (ean_var rfl hA3)) (ev_var rfl) (ev_op (ev_lenF (ev_var rfl) hf3) (ev_var rfl) rv_I0) (ev_max (ei_found (ev_var rfl) (ev_var rfl) hf3 hlt) hRb)) ?_
      congr 1
      show decide (s = (b : Int) ∧ l = (N : Int) - (b : Int) ∧ m = mx (RD.itr b ns)) = (decide (mx (RD.itr b ns) ≠ 0) && decide (s = (b : Int) ∧ l = (N : Int) - (b : Int) ∧ m = mx (RD.itr b ns)))
      rw [decide_eq_true hz, Bool.true_and]
/-- a's own word, whichever it is -/
theorem ev_shows2 {T : Txt K mg} {σ : L2.St} {H : Hp} {ta tb : TE} {an : An} {ns : List Int} {E : XK} {N b : Nat} (ha : EvAn T ta σ H an) (hb : EvI K tb σ H ns) (hR : Ring ns) (hC : RD.IsC ns N b) :
    Ev (tMeth2 T.C_Noughts T.C_Round "shows" (spNS T) (spRS T) E ta (tCons tb tNil)) σ H (.bl (an.says N b (mx (RD.itr b ns)))) := fun H1 e Q q => ha H1 e _ fun v H2 e2 h => by
  have un : ∀ {N' b' : Nat}, RD.IsC ns N' b' → N' = N ∧ b' = b := fun h => h.unique hC
  cases an with
  | n s =>
    obtain ⟨x, dx, rfl, g⟩ := h
    refine ⟨x, dx, _, rfl, fsN_o _ (by decide +kernel), .inl ⟨g, ?_⟩⟩
    refine hb H2 (e.trans e2) _ fun p H3 e3 hp => ⟨_, s, p, ns, rfl, ⟨x, dx, rfl, e3 _ _ g⟩, hp, hR, fun N' b' H4 hC' e4 => ?_⟩
    obtain ⟨rfl, rfl⟩ := un hC'
    exact q H4 ((e2.trans e3).trans e4)
  | r s l m =>
    obtain ⟨x, dx, rfl, g⟩ := h
    refine ⟨x, dx, _, rfl, fsR_o _ _ _ (by decide +kernel) (by decide +kernel) (by decide +kernel), .inr ⟨g, ?_⟩⟩
    refine hb H2 (e.trans e2) _ fun p H3 e3 hp => ⟨_, s, l, m, p, ns, rfl, ⟨x, dx, rfl, e3 _ _ g⟩, hp, hR, fun N' b' H4 hC' e4 => ?_⟩
    obtain ⟨rfl, rfl⟩ := un hC'
    exact q H4 ((e2.trans e3).trans e4)
end
section
variable {P : Program} {w : World} {K : PySem.W.Frag} {mg : Str → Option Value} {base : Heap}
/-! ### Came: the list copied -/
def fsC (c : Addr) : List (Str × V) := putF "ring" (.ref c) []
theorem fsC_r (c : Addr) : (fsC c).lookup ("ring" : Str) = some (.ref c) := by
  unfold fsC
  rw [lookup_putF, if_pos rfl]
def spCI (K : PySem.W.Frag) (C : Addr) : Sp := fun vs H Q _ => ∃ (p dx a : Addr) (ns : List Int), vs = [.ref p, .ref a] ∧ H p = some (.ins C dx []) ∧ SqL K H a (ns.map V.int) ∧ ∀ c, H c = none → Q .non (upd (upd H c (.lst (ns.map V.int))) p (.ins C dx (fsC c)))
theorem ok_Came_init (T : Txt K mg) : FnOk P w K mg base CX0 1 T.f_Came_init T.fd_Came_init ["self", "ring"] (spCI K T.C_Came) := by
  refine T.F_Came_init.ok sc_Came_init (fun vs H Q E h => ?_) (fun cdv A outer s H vs Q E hr h => ?_)
  · obtain ⟨p, dx, a, ns, rfl, _⟩ := h
    rfl
  · obtain ⟨p, dx, a, ns, rfl, hp, hS, q⟩ := h
    refine ⟨_, (pss_one (ps_fld (pv 0) (pe_callTy (r := rListS K) call_list_of (by rfl) T.n_list (by decide +kernel) (pa_cons (pv 1) pa_nil)) rfl)), ?_⟩
    refine ⟨.ref a, rfl, a, _, rfl, .inl hS, fun c nc => ?_⟩
    have hpc : p ≠ c := ne_of_none hp nc
    exact ⟨.ref p, rfl, p, _, dx, [], rfl, by rw [upd_ne hpc]; exact hp, T.c_Came, T.na_Came_ring, by show 0 < 1000; decide, q c nc⟩
/-- a Came at v whose list, at c, holds ns -/
def IsCm (T : Txt K mg) (H : Hp) (v : V) (c : Addr) (ns : List Int) : Prop := ∃ x dx, v = .ref x ∧ H x = some (.ins T.C_Came dx (fsC c)) ∧ H c = some (.lst (ns.map V.int)) ∧ x ≠ c
theorem IsCm.ex {T : Txt K mg} {H H' : Hp} {v : V} {c : Addr} {ns : List Int} (e : Ex H H') (h : IsCm T H v c ns) : IsCm T H' v c ns := by
  obtain ⟨x, dx, rfl, h1, h2, h3⟩ := h
  exact ⟨x, dx, rfl, e _ _ h1, e _ _ h2, h3⟩
def EvCm (T : Txt K mg) (te : TE) (σ : L2.St) (H : Hp) (ns : List Int) : Prop := ∀ H1, Ex H H1 → ∀ Q : VK, (∀ v c H2, H1 c = none → Ex H1 H2 → IsCm T H2 v c ns → Q v H2) → te σ H1 Q
theorem ecm_C {T : Txt K mg} {σ : L2.St} {H : Hp} {ta : TE} {ns : List Int} {E : XK} (ha : EvI K ta σ H ns) : EvCm T (tMake T.C_Came (spCI K T.C_Came) [] E (tCons ta tNil)) σ H ns := fun H1 e Q q =>
  ha H1 e _ fun a H2 e2 hp x dx nx nd ne => by
    have e3 : Ex H2 (upd (upd H2 dx (.own x)) x (.ins T.C_Came dx [])) := fun b u eb => by
      rw [upd_ne (ne_of_none eb nx), upd_ne (ne_of_none eb nd)]
      exact eb
    refine ⟨x, dx, a, ns, rfl, upd_same, ex_l e3 hp, fun c nc => ⟨rfl, ?_⟩⟩
    obtain ⟨nc1, ncx⟩ := upd_fresh nc
    obtain ⟨nc2, ncd⟩ := upd_fresh nc1
    have e4 := e3.trans (Ex.new (o := .lst (ns.map V.int)) nc)
    refine q (.ref x) c _ (fresh_back e2 nc2) (e2.trans (Ex.mut e4 nx)) ⟨x, dx, rfl, upd_same, ?_, ncx.symm⟩
    rw [upd_ne ncx]
    exact upd_same
theorem ei_ring {T : Txt K mg} {σ : L2.St} {H : Hp} {i : Nat} {v : V} {c : Addr} {ns : List Int} (h : σ[i]? = some (some v)) (hc : IsCm T H v c ns) : EvI K (tFld K (tVar i) "ring") σ H ns := fun H1 e Q q => by
  obtain ⟨x, dx, rfl, h1, h2, h3⟩ := hc.ex e
  exact ⟨_, h, x, _, dx, _, _, rfl, h1, T.c_Came, T.na_Came_ring, fsC_r _, q _ H1 (Ex.refl _) (sq_of h2)⟩
theorem q_cm {T : Txt K mg} {σ : L2.St} {H : Hp} {D : Ends} {tz : TS} {te : TE} {i : Nat} {ns : List Int} (h : EvCm T te σ H ns) (k : ∀ v c H1, H c = none → Ex H H1 → IsCm T H1 v c ns → tz D (σ.set i (some v)) H1) : tSeq (tAsg te (gName i)) tz D σ H :=
  h H (Ex.refl _) _ fun v c H1 nc e hv => k v c H1 nc e hv
end
section
variable {P : Program} {w : World} {K : PySem.W.Frag} {mg : Str → Option Value} {base : Heap}
/-! ### heaps_of: signs by which all come to 0 together -/
abbrev kI (t : Int) : Key := Sum.inl t
/-- the dict behind i numbers: its keys are the sums that signs bring about -/
structure KS (ns : List Int) (i : Nat) (kv : List (Key × V)) : Prop where
  has : ∀ t, (valV kv (kI t)).isSome = true ↔ RD.Sg (ns.take i) t
  val : ∀ j x t v, i = j + 1 → ns[j]? = some x → valV kv (kI t) = some v → ∃ s, (s = 1 ∨ s = -1) ∧ v = .int s ∧ RD.Sg (ns.take j) (t - s * x)
  few : kv.length ≤ 2 ^ i
  ky : ∀ p, p ∈ kv → ∃ t, p.1 = kI t
theorem ks_zero (ns : List Int) : KS ns 0 [(kI 0, V.non)] := by
  refine ⟨fun t => ?_, fun j x t v h => (by omega), Nat.le_refl _, fun p hp => ⟨0, by rw [List.mem_singleton.mp hp]⟩⟩
  rw [List.take_zero, RD.sg_nil]
  by_cases h : t = 0
  · rw [h]
    exact ⟨fun _ => rfl, fun _ => rfl⟩
  · have e : valV [(kI 0, V.non)] (kI t) = none := by
      rw [valV_neg (show ¬ (kI 0 = kI t) from fun z => h (Sum.inl.inj z).symm)]
      rfl
    rw [e]
    exact ⟨fun z => (by cases z), fun z => absurd z h⟩
theorem key_at {kv : List (Key × V)} {k : Key} : (valV kv k).isSome = true ↔ ∃ (i : Nat) (v : V), kv[i]? = some (k, v) := by
  rw [← valV_any]
  constructor
  · intro h
    obtain ⟨p, hp, e⟩ := List.any_eq_true.mp h
    obtain ⟨i, hi, ei⟩ := List.getElem_of_mem hp
    refine ⟨i, p.2, ?_⟩
    rw [List.getElem?_eq_getElem hi, ei, ← of_decide_eq_true e]
  · rintro ⟨i, v, h⟩
    exact List.any_eq_true.mpr ⟨_, List.mem_of_getElem? h, decide_eq_true rfl⟩
/-- what the inner loop has put behind j keys -/
structure MP (kv : List (Key × V)) (x : Int) (j : Nat) (m : List (Key × V)) : Prop where
  has : ∀ t, (valV m (kI t)).isSome = true ↔ ∃ (i : Nat) (t' : Int) (v : V), i < j ∧ kv[i]? = some (kI t', v) ∧ (t = t' + x ∨ t = t' - x)
  val : ∀ t v, valV m (kI t) = some v → ∃ s, (s = 1 ∨ s = -1) ∧ v = .int s ∧ (valV kv (kI (t - s * x))).isSome = true
  few : m.length ≤ 2 * j
  ky : ∀ p, p ∈ m → ∃ t, p.1 = kI t
theorem mp_zero (kv : List (Key × V)) (x : Int) : MP kv x 0 [] := ⟨fun t => ⟨fun z => (by cases z), fun ⟨i, _, _, hi, _⟩ => absurd hi (Nat.not_lt_zero _)⟩, fun t v z => (by cases z), Nat.le_refl _, fun p hp => (by cases hp)⟩
theorem mem_putK {kv : List (Key × V)} {k : Key} {v : V} {p : Key × V} (h : p ∈ putK kv k v) : p.1 = k ∨ p ∈ kv := by
  unfold putK at h
  split at h
  · obtain ⟨q, hq, e⟩ := List.mem_map.mp h
    split at e
    · rename_i hk
      rw [← e]
      exact .inl hk
    · rw [← e]
      exact .inr hq
  · rcases List.mem_append.mp h with h | h
    · exact .inr h
    · rw [List.mem_singleton.mp h]
      exact .inl rfl
theorem mp_succ {kv m : List (Key × V)} {x t : Int} {j : Nat} {v : V} (h : MP kv x j m) (hj : kv[j]? = some (kI t, v)) : MP kv x (j + 1) (putK (putK m (kI (t + x)) (.int 1)) (kI (t - x)) (.int (-1))) := by
  have hk : (valV kv (kI t)).isSome = true := key_at.mpr ⟨j, v, hj⟩
  have ki : ∀ {a b : Int}, kI a = kI b ↔ a = b := ⟨Sum.inl.inj, fun e => by rw [e]⟩
  refine ⟨fun u => ?_, fun u w hw => ?_, ?_, fun p hp => ?_⟩
  · rw [valV_put, valV_put]
    constructor
    · intro z
      by_cases h1 : kI u = kI (t - x)
      · exact ⟨j, t, v, by omega, hj, .inr (ki.mp h1)⟩
      · rw [if_neg h1] at z
        by_cases h2 : kI u = kI (t + x)
        · exact ⟨j, t, v, by omega, hj, .inl (ki.mp h2)⟩
        · rw [if_neg h2] at z
          obtain ⟨i, t', v', h3, h4, h5⟩ := (h.has u).mp z
          exact ⟨i, t', v', by omega, h4, h5⟩
    · rintro ⟨i, t', v', h3, h4, h5⟩
      by_cases h1 : kI u = kI (t - x)
      · rw [if_pos h1]
        rfl
      · rw [if_neg h1]
        by_cases h2 : kI u = kI (t + x)
        · rw [if_pos h2]
          rfl
        · rw [if_neg h2]
          by_cases h6 : i = j
          · rw [h6, hj] at h4
            have e := Option.some.inj h4
            have e1 : t = t' := ki.mp (congrArg Prod.fst e)
            rw [← e1] at h5
            rcases h5 with h5 | h5
            · exact absurd (by rw [h5]) h2
            · exact absurd (by rw [h5]) h1
          · exact (h.has u).mpr ⟨i, t', v', by omega, h4, h5⟩
  · rw [valV_put, valV_put] at hw
    by_cases h1 : kI u = kI (t - x)
    · rw [if_pos h1] at hw
      refine ⟨-1, .inr rfl, (Option.some.inj hw).symm, ?_⟩
      rw [ki.mp h1, show t - x - -1 * x = t by omega]
      exact hk
    · rw [if_neg h1] at hw
      by_cases h2 : kI u = kI (t + x)
      · rw [if_pos h2] at hw
        refine ⟨1, .inl rfl, (Option.some.inj hw).symm, ?_⟩
        rw [ki.mp h2, show t + x - 1 * x = t by omega]
        exact hk
      · rw [if_neg h2] at hw
        exact h.val u w hw
  · have h1 := length_putK (putK m (kI (t + x)) (.int 1)) (kI (t - x)) (.int (-1))
    have h2 := length_putK m (kI (t + x)) (.int 1)
    have h3 := h.few
    omega
  · rcases mem_putK hp with e | hp
    · exact ⟨_, e⟩
    · rcases mem_putK hp with e | hp
      · exact ⟨_, e⟩
      · exact h.ky p hp
theorem ks_succ {ns : List Int} {i : Nat} {x : Int} {kv m : List (Key × V)} (hx : ns[i]? = some x) (h : KS ns i kv) (hm : MP kv x kv.length m) : KS ns (i + 1) m := by
  refine ⟨fun t => ?_, fun j y t v hj hy hv => ?_, ?_, hm.ky⟩
  · rw [RD.take_snoc hx, RD.sg_snoc, hm.has]
    constructor
    · rintro ⟨k, t', v, _, hk, e | e⟩
      · exact .inl ((h.has _).mp (key_at.mpr ⟨k, v, by rw [show t - x = t' by omega]; exact hk⟩))
      · exact .inr ((h.has _).mp (key_at.mpr ⟨k, v, by rw [show t + x = t' by omega]; exact hk⟩))
    · rintro (z | z)
      · obtain ⟨k, v, hk⟩ := key_at.mp ((h.has _).mpr z)
        exact ⟨k, _, v, (List.getElem?_eq_some_iff.mp hk).1, hk, .inl (by omega)⟩
      · obtain ⟨k, v, hk⟩ := key_at.mp ((h.has _).mpr z)
        exact ⟨k, _, v, (List.getElem?_eq_some_iff.mp hk).1, hk, .inr (by omega)⟩
  · have ej : i = j := by omega
    subst ej
    rw [hx] at hy
    cases hy
    obtain ⟨s, h1, h2, h3⟩ := hm.val t v hv
    exact ⟨s, h1, h2, (h.has _).mp h3⟩
  · have h1 := hm.few
    have h2 := h.few
    rw [Nat.pow_succ]
    omega
/-- what heaps_of hands back -/
def RetH (ns : List Int) (H : Hp) (Q : VK) : Prop := (¬ RD.Sg ns 0 → ∀ H2, Ex H H2 → Q .non H2) ∧ (∀ ss : List Int, ss.length = ns.length → RD.Sgn ss → RD.dot ss ns = 0 → RetL (ss.map V.int) H Q)
def spHeaps (K : PySem.W.Frag) : Sp := fun vs H Q _ => ∃ (a : Addr) (ns : List Int), vs = [.ref a] ∧ SqL K H a (ns.map V.int) ∧ Ring ns ∧ RetH ns H Q
theorem ok_heaps_of (T : Txt K mg) : FnOk P w K mg base CX0 1 T.f_heaps_of T.fd_heaps_of ["ring"] (spHeaps K) := by
  refine T.F_heaps_of.ok sc_heaps_of (fun vs H Q E h => ?_) (fun cdv A outer s H vs Q E hr h => ?_)
  · obtain ⟨a, ns, rfl, _⟩ := h
    rfl
  · obtain ⟨a, ns, rfl, hS, hR, q1, q2⟩ := h
    have hu := hu_of hr
    have hfew := hR.few
    have hpos := hR.pos
    refine ⟨_, (pss_cons (ps_set (i := 1) sc_heaps_of.nd rfl (Or.inl rfl) (pe_lst (pa_cons (pe_disp (pps_cons pe_int pe_non pps_nil) (by rfl) (by rfl) (fun z => by cases z) (by decide)) pa_nil)))
      (pss_cons (ps_for PassesOwn.never rfl (pi_list (pv 0)) (pg_name (i := 2) sc_heaps_of.nd rfl (Or.inl rfl))
        (pss_cons (ps_set (i := 3) sc_heaps_of.nd rfl (Or.inl rfl) pe_dnewK)
        (pss_cons (ps_lock (ps_for PassesOwn.never rfl (pi_keys (pe_ix (r := rIxL K) ix_list (pv 1) (pe_un un_neg pe_int) (fun _ _ => rfl))) (pg_name (i := 4) sc_heaps_of.nd rfl (Or.inl rfl))
          (pss_cons (ps_dput hu (pv 3) (pe_op op_add (pv 4) (pv 2)) pe_int rfl)
          (pss_one (ps_dput hu (pv 3) (pe_op op_sub (pv 4) (pv 2)) (pe_un un_neg pe_int) rfl)))))
        (pss_one (ps_expr (pe_bm PySem.F.plainAttrs_list PySem.F.slot_list_append PySem.F.type_list_append mt_append (pv 1) (pa_cons (pv 3) pa_nil)))))))
      (pss_cons (ps_if (pt_cmp (pc_dnotin hu pe_int (pe_ix (r := rIxL K) ix_list (pv 1) (pe_un un_neg pe_int) (fun _ _ => rfl))))
        (pss_one (ps_ret pe_non))
        pss_nil)
      (pss_cons (ps_par (i := 5) (j := 4) (by rfl) sc_heaps_of.nd rfl rfl (by decide) rfl rfl (pa_cons (pe_lst pa_nil) (pa_cons pe_int pa_nil)) (by rfl))
      (pss_cons (ps_for PassesOwn.never rfl (pi_range3 (by rfl) T.n_range (pa_cons (pe_callB (r := rLenS K) call_len_seq (by rfl) T.n_len (by decide +kernel) (pa_cons (pv 0) pa_nil)) (pa_cons pe_int (pa_cons (pe_un un_neg pe_int) pa_nil)))) (pg_name (i := 6) sc_heaps_of.nd rfl (Or.inl rfl))
        (pss_cons (ps_set (i := 7) sc_heaps_of.nd rfl (Or.inl rfl) (pe_dget hu (pe_ix (r := rIxL K) ix_list (pv 1) (pv 6) (fun _ _ => rfl)) (pv 4) (fun _ _ => rfl)))
        (pss_cons (ps_expr (pe_bm PySem.F.plainAttrs_list PySem.F.slot_list_append PySem.F.type_list_append mt_append (pv 5) (pa_cons (pv 7) pa_nil)))
        (pss_one (ps_set (i := 4) sc_heaps_of.nd rfl (Or.inl rfl) (pe_op op_sub (pv 4) (pe_op op_mul (pv 7) (pe_ix (r := rIxL K) ix_list (pv 0) (pe_op op_sub (pv 6) pe_int) (fun _ _ => rfl)))))))))
      (pss_one (ps_ret (pe_revL (pv 5))))))))), ?_⟩
    -- sums = [{0: None}]
    intro d0 nd0
    refine ⟨upd_same, [(kI 0, .non)], rfl, by decide, sz_of (by show 1 ≤ 100000; decide), fun S nS => ?_⟩
    rw [upd_upd] at nS ⊢
    have eD := Ex.new (o := .dK (mergeK [] [(kI 0, V.non)])) nd0
    have eS := Ex.new (o := .lst [V.ref d0]) nS
    have nSH : H S = none := fresh_back eD nS
    -- for one in ring
    refine ⟨.ref a, rfl, a, rfl, ⟨_, ex_l (eD.trans eS) hS⟩, for_list (K := K) (a := a) (xs := ns.map V.int) (fun i σ' H' => ∃ (ds : List Addr) (x2 x3 x4 : Option V), σ' = [some (.ref a), some (.ref S), x2, x3, x4, none, none, none] ∧ Ex H H' ∧ H' S = some (.lst (ds.map V.ref)) ∧ ds.length = i + 1 ∧
        ∀ (j : Nat) d, ds[j]? = some d → ∃ kv, H' d = some (.dK kv) ∧ KS ns j kv) ?_ (fun i σ' H' _ ⟨_, _, _, _, _, e, _⟩ => ex_l e hS) ?_ ?_⟩
    · refine ⟨[d0], none, none, none, rfl, eD.trans eS, upd_same, rfl, fun j d hj => ?_⟩
      match j, hj with
      | 0, hj =>
        cases hj
        exact ⟨_, eS _ _ upd_same, ks_zero ns⟩
    · rintro i y σ' H1 hi ⟨ds, x2, x3, x4, rfl, e1, hS1, hl, hds⟩
      obtain ⟨x, hx, rfl⟩ := map_get hi
      have hil := get_lt hx
      -- more = {}
      intro M nM
      have eM := Ex.new (o := .dK []) nM
      have nMH : H M = none := fresh_back e1 nM
      have hdl : i < ds.length := by omega
      obtain ⟨kv, hkv, hKS⟩ := hds i ds[i] (List.getElem?_eq_getElem hdl)
      generalize hd' : ds[i] = d at hkv
      have hdM : M ≠ d := (ne_of_none hkv nM).symm
      have hSd : S ≠ d := ne_of hS1 hkv (fun z => by cases z)
      have hSM : S ≠ M := ne_of_none hS1 nM
      have h16 : kv.length ≤ 4096 := by
        have h1 := hKS.few
        have h2 : 2 ^ i ≤ 2 ^ 12 := Nat.pow_le_pow_right (by decide) (by omega)
        have h3 : (2 : Nat) ^ 12 = 4096 := by decide
        omega
      -- for total in sums[-1], locked
      refine ⟨d, .dK kv, by rw [upd_ne hdM.symm]; exact hkv, trivial, fun od => ?_⟩
      have hlast : atI (ds.map V.ref) (-1) = some (V.ref d) := by
        have hne : ds ≠ [] := fun z => by
          rw [z] at hdl
          exact absurd hdl (Nat.not_lt_zero _)
        have hz : ds.map V.ref = (ds.dropLast.map V.ref) ++ [V.ref (ds.getLast hne)] := by
          rw [← List.map_singleton, ← List.map_append, List.dropLast_concat_getLast]
        rw [hz, atI_last, List.getLast_eq_getElem, ← hd']
        congr 2
        congr 1
        omega
      have hHl : ∀ o, upd (upd (upd H1 M o) d (.frz od (.dK kv))) S = upd (upd (upd H1 M o) d (.frz od (.dK kv))) S := fun _ => rfl
      have hcomm : ∀ o, upd (upd H1 M o) d (.frz od (.dK kv)) = upd (upd H1 d (.frz od (.dK kv))) M o := fun o => by
        funext b
        by_cases b1 : b = d
        · rw [b1, upd_same, upd_ne hdM.symm, upd_same]
        · by_cases b2 : b = M
          · rw [b2, upd_ne hdM, upd_same, upd_same]
          · rw [upd_ne b1, upd_ne b2, upd_ne b2, upd_ne b1]
      rw [hcomm]
      refine ⟨.ref S, rfl, 1, rfl, S, _, -1, .ref d, rfl, rfl, sq_of (by rw [upd_ne hSM, upd_ne hSd]; exact hS1), hlast, d, od, rfl, .inl ⟨kv, by rw [upd_ne hdM.symm]; exact upd_same, ?_⟩⟩
      refine for_it (walk_keys (d := d) (o := od) (kvs := kv)) (fun j σ' H' => ∃ (m : List (Key × V)) (x4 : Option V), σ' = [some (.ref a), some (.ref S), some (.int x), some (.ref M), x4, none, none, none] ∧ H' = upd (upd H1 d (.frz od (.dK kv))) M (.dK m) ∧ MP kv x j m)
        ⟨[], _, rfl, rfl, mp_zero kv x⟩ (fun j σ' H' _ ⟨m, _, _, e, _⟩ => by rw [e, upd_ne hdM.symm]; exact upd_same) ?_ ?_
      · rintro j y σ' H' H2 hj ⟨m, x4', rfl, rfl, hm⟩ ⟨rfl, k, v, hk, rfl⟩
        obtain ⟨t, ht⟩ := hKS.ky _ (List.mem_of_getElem? hk)
        dsimp only at ht
        subst ht
        have hml := hm.few
        refine ⟨.ref M, rfl, .int t, rfl, .int x, rfl, t, x, rfl, rfl, M, _, rfl, DPut.k (k := kI (t + x)) upd_same (sz_lt (by omega)), ?_⟩
        rw [upd_upd]
        have hml2 := length_putK m (kI (t + x)) (V.int 1)
        refine ⟨1, rfl, .ref M, rfl, .int t, rfl, .int x, rfl, t, x, rfl, rfl, M, _, rfl, DPut.k (k := kI (t - x)) upd_same (sz_lt (by omega)), ?_⟩
        rw [upd_upd]
        exact ⟨_, _, rfl, rfl, mp_succ hm hk⟩
      · rintro σ' H' ⟨m, x4', rfl, rfl, hm⟩
        refine ⟨by rw [upd_ne hdM.symm]; exact upd_same, ?_⟩
        rw [lock_id hkv hdM]
        have hMH : Ex H1 (upd H1 M (.dK m)) := Ex.new nM
        -- sums.append(more)
        refine s_app (hMH _ _ hS1) (ev_var rfl) (ev_var rfl) (by rw [List.length_map]; omega) fun H3 e3 => ?_
        refine ⟨ds ++ [M], _, _, _, rfl, Ex.mut ((e1.trans hMH).trans e3) nSH, ?_, ?_, fun j' d' hj' => ?_⟩
        · rw [upd_same, List.map_append]
          rfl
        · rw [List.length_append, hl]
          rfl
        · by_cases hjl : j' < ds.length
          · rw [List.getElem?_append_left hjl] at hj'
            obtain ⟨kv', g1, g2⟩ := hds j' d' hj'
            refine ⟨kv', ?_, g2⟩
            rw [upd_ne (ne_of g1 hS1 (fun z => by cases z))]
            exact e3 _ _ (hMH _ _ g1)
          · rw [List.getElem?_append_right (by omega)] at hj'
            have hj2 := get_lt hj'
            rw [List.length_singleton] at hj2
            rw [show j' - ds.length = 0 by omega] at hj'
            cases hj'
            refine ⟨m, ?_, ?_⟩
            · rw [upd_ne hSM.symm]
              exact e3 _ _ upd_same
            · rw [show j' = i + 1 by omega]
              exact ks_succ hx hKS hm
    · rintro σ' H1 ⟨ds, x2, x3, x4, rfl, e1, hS1, hl, hds⟩
      rw [List.length_map] at hl
      have hdl : ns.length < ds.length := by omega
      obtain ⟨kv, hkv, hKS⟩ := hds ns.length ds[ns.length] (List.getElem?_eq_getElem hdl)
      have hlast : atI (ds.map V.ref) (-1) = some (V.ref ds[ns.length]) := by
        have hne : ds ≠ [] := fun z => by
          rw [z] at hdl
          exact absurd hdl (Nat.not_lt_zero _)
        have hz : ds.map V.ref = (ds.dropLast.map V.ref) ++ [V.ref (ds.getLast hne)] := by
          rw [← List.map_singleton, ← List.map_append, List.dropLast_concat_getLast]
        rw [hz, atI_last, List.getLast_eq_getElem]
        congr 2
        congr 1
        omega
      have hsg := hKS.has 0
      rw [List.take_of_length_le (Nat.le_refl _)] at hsg
      have tst : EvT (tB (tDNotIn (tC (.int 0)) (tOp (rIxL K) (tVar 1) (tUn (rU fun i => .int (-i)) (tC (.int 1)))))) [some (.ref a), some (.ref S), x2, x3, x4, none, none, none] H1 (!(valV kv (kI 0)).isSome) :=
        et_B fun H2 e2 Q2 z2 => ⟨.ref S, rfl, 1, rfl, S, _, -1, _, rfl, rfl, sq_of (e2 _ _ hS1), hlast, _, _, rfl, DGet.k (k := kI 0) (e2 _ _ hkv), z2 H2 (Ex.refl _)⟩
      refine q_when tst (fun hb H2 e2 => ?_) (fun hb H2 e2 => ?_)
      · refine q1 (fun z => ?_) H2 (e1.trans e2)
        rw [hsg.mpr z] at hb
        cases hb
      · have hsome : (valV kv (kI 0)).isSome = true := by
          cases hv : (valV kv (kI 0)).isSome with
          | true => rfl
          | false => rw [hv] at hb; cases hb
        have hS2 := e2 _ _ hS1
        -- found, total = [], 0
        refine ⟨Nat.zero_le _, fun F nF => ⟨.ref F, .int 0, rfl, ?_⟩⟩
        have eF := Ex.new (o := .lst []) nF
        have nFH : H F = none := fresh_back (e1.trans e2) nF
        have hlenA : ∀ H', Ex H H' → SqL K H' a (ns.map V.int) := fun H' e => ex_l e hS
        refine ⟨.ref a, rfl, a, _, rfl, .inl (hlenA _ ((e1.trans e2).trans eF)), 1, rfl, (ns.length : Int), 0, -1, ns.length, by rw [List.length_map], ?_, ?_⟩
        · have z := RgC.neg (i := (ns.length : Int)) (j := 0) (by omega) (by omega) (by omega) (by omega)
          rw [show ((ns.length : Int) - 0).toNat = ns.length by omega] at z
          exact z
        have hS3 := eF _ _ hS2
        refine for_rangeC (lo := (ns.length : Int)) (c := -1) (n := ns.length) (fun i σ' H' => ∃ (fs : List Int) (t : Int) (x6 x7 : Option V), σ' = [some (.ref a), some (.ref S), x2, x3, some (.int t), some (.ref F), x6, x7] ∧ Ex H2 H' ∧ H' F = some (.lst (fs.map V.int)) ∧ fs.length = i ∧ RD.Sgn fs ∧
            RD.Sg (ns.take (ns.length - i)) t ∧ t + RD.dot fs.reverse (ns.drop (ns.length - i)) = 0) ?_ ?_ ?_
        · refine ⟨[], 0, none, none, rfl, eF, upd_same, rfl, fun s hs => (by cases hs), ?_, ?_⟩
          · rw [Nat.sub_zero, List.take_of_length_le (Nat.le_refl _)]
            exact hsg.mp hsome
          · show (0 : Int) + RD.dot [] _ = 0
            rfl
        · rintro i σ' H3 hi ⟨fs, t, x6, x7, rfl, e3, hF3, hfl, hsn, hSg, hdot⟩
          have eat : (ns.length : Int) + (i : Int) * -1 = ((ns.length - i : Nat) : Int) := by omega
          rw [eat]
          generalize hk : ns.length - i = k at hSg hdot
          have hk1 : 0 < k := by omega
          have hkd : k < ds.length := by omega
          obtain ⟨kv', hkv', hKS'⟩ := hds k ds[k] (List.getElem?_eq_getElem hkd)
          have hdk := e3 _ _ (e2 _ _ hkv')
          have hix : atI (ds.map V.ref) (k : Int) = some (V.ref ds[k]) := atI_nat (by rw [List.getElem?_map, List.getElem?_eq_getElem hkd]; rfl)
          obtain ⟨v, hv⟩ := Option.isSome_iff_exists.mp ((hKS'.has t).mpr hSg)
          have hkl : k - 1 < ns.length := by omega
          obtain ⟨s, hs1, rfl, hs3⟩ := hKS'.val (k - 1) ns[k - 1] t v (by omega) (List.getElem?_eq_getElem hkl) hv
          have hget : DGet H3 ds[k] (.int t) (some (.int s)) := by
            have z := DGet.k (k := kI t) hdk
            rw [hv] at z
            exact z
          -- sign = sums[at][total]
          refine ⟨.ref S, rfl, .int (k : Int), rfl, S, _, (k : Int), _, rfl, rfl, sq_of (e3 _ _ hS2), hix, .int t, rfl, _, _, rfl, hget, ?_⟩
          -- found.append(sign)
          refine s_app hF3 (ev_var rfl) (ev_var rfl) (by rw [List.length_map]; omega) fun H4 e4 => ?_
          have nF2 : H2 F = none := nF
          have hFmut := Ex.mut (p := F) (o := .lst (fs.map V.int ++ [V.int s])) (e3.trans e4) nF2
          have hSa : SqL K (upd H4 F (.lst (fs.map V.int ++ [V.int s]))) a (ns.map V.int) := ex_l hFmut (ex_l (e1.trans e2) hS)
          -- total = total - sign * ring[at - 1]
          refine s_asg (ev_op (ev_var rfl) (ev_op (ev_var rfl) (ev_ixL (v := .int ns[k - 1]) (i := ((k - 1 : Nat) : Int)) (ev_var rfl) (ev_is (ev_op (ev_var rfl) ev_c rv_I0) (by congr 1; omega)) hSa (at_int (List.getElem?_eq_getElem hkl))) (rv_I (C := CMul) (.inl ⟨by omega, by omega⟩))) rv_I0) fun H5 e5 => ?_
          refine ⟨fs ++ [s], t - s * ns[k - 1], _, _, rfl, hFmut.trans e5, e5 _ _ ?_, ?_, ?_, ?_, ?_⟩
          · rw [upd_same, List.map_append]
            rfl
          · rw [List.length_append, hfl]
            rfl
          · intro z hz
            rcases List.mem_append.mp hz with hz | hz
            · exact hsn z hz
            · rw [List.mem_singleton.mp hz]
              exact hs1
          · rw [show ns.length - (i + 1) = k - 1 by omega]
            exact hs3
          · rw [show ns.length - (i + 1) = k - 1 by omega, List.drop_eq_getElem_cons hkl, List.reverse_append, show k - 1 + 1 = k by omega]
            show t - s * ns[k - 1] + (s * ns[k - 1] + RD.dot fs.reverse (ns.drop k)) = 0
            omega
        · rintro σ' H3 ⟨fs, t, x6, x7, rfl, e3, hF3, hfl, hsn, hSg, hdot⟩
          rw [Nat.sub_self, List.take_zero] at hSg
          have ht := RD.sg_nil.mp hSg
          rw [Nat.sub_self, List.drop_zero, ht, Int.zero_add] at hdot
          refine ⟨.ref F, rfl, F, _, rfl, sq_of hF3, fun p np => ?_⟩
          refine q2 fs.reverse (by rw [List.length_reverse]; exact hfl) (fun z hz => hsn z (List.mem_reverse.mp hz)) hdot p _ (fresh_back ((e1.trans e2).trans e3) np) (((e1.trans e2).trans e3).trans (Ex.new np)) ?_
          rw [upd_same, List.map_reverse]
end
section
variable {P : Program} {w : World} {K : PySem.W.Frag} {mg : Str → Option Value} {base : Heap}
/-! ### came (where nothing is refused) -/
theorem cut_m1 (xs : List V) (h : 1 ≤ xs.length) : cutV xs none (some (-1)) = xs.take (xs.length - 1) := by
  have e : HT.sIx xs.length xs.length (some (-1)) = xs.length - 1 := by
    have z := HT.clip_eq (-1) xs.length xs.length
    rw [if_pos (by decide)] at z
    omega
  unfold cutV
  rw [HT.sIx_none, e, List.drop_zero, Nat.sub_zero]
def IsNv (T : Txt K mg) (H : Hp) (v : V) : Prop := ∃ x dx, v = .ref x ∧ H x = some (.ins T.C_Never dx [])
theorem IsNv.ex {T : Txt K mg} {H H' : Hp} {v : V} (e : Ex H H') (h : IsNv T H v) : IsNv T H' v := by
  obtain ⟨x, dx, rfl, g⟩ := h
  exact ⟨x, dx, rfl, e _ _ g⟩
def RetCm (T : Txt K mg) (ns : List Int) (H : Hp) (Q : VK) : Prop := (¬ RD.Sg ns 0 → ∀ v H2, Ex H H2 → IsNv T H2 v → Q v H2) ∧
  (∀ cs v c H2, cs.length = ns.length → (∀ x, x ∈ cs → 0 ≤ x) → RD.D cs = ns → H c = none → Ex H H2 → IsCm T H2 v c cs → Q v H2)
def spCame (T : Txt K mg) : Sp := fun vs H Q _ => ∃ (a : Addr) (ns : List Int), vs = [.ref a] ∧ SqL K H a (ns.map V.int) ∧ Ring ns ∧ RetCm T ns H Q
theorem ok_came (T : Txt K mg) : FnOk P w K mg base CX0 3 T.f_came T.fd_came ["ring"] (spCame T) := by
  refine T.F_came.ok sc_came (fun vs H Q E h => ?_) (fun cdv A outer s H vs Q E hr h => ?_)
  · obtain ⟨a, ns, rfl, _⟩ := h
    rfl
  · obtain ⟨a, ns, rfl, hS, hR, q1, q2⟩ := h
    have hfew := hR.few
    have hpos := hR.pos
    refine ⟨_, (pss_cons (ps_expr (pe_call (ok_asked_ring T) (hr.mono (by decide)) (by rfl) T.g_asked_ring T.F_asked_ring.kp T.b_asked_ring .nil pass0 (pa_cons (pv 0) pa_nil)))
      (pss_cons (ps_set (i := 1) sc_came.nd rfl (Or.inl rfl) (pe_call (ok_heaps_of T) (hr.mono (by decide)) (by rfl) T.g_heaps_of T.F_heaps_of.kp T.b_heaps_of .nil pass0 (pa_cons (pv 0) pa_nil)))
      (pss_cons (ps_if (pt_cmpR op_isN (pv 1) pe_non (nomark _))
        (pss_one (ps_ret (pe_makeP T.P_Never (by rfl) T.m_Never)))
        pss_nil)
      (pss_cons (ps_set (i := 2) sc_came.nd rfl (Or.inl rfl) (pe_lst (pa_cons pe_int pa_nil)))
      (pss_cons (ps_for PassesOwn.never rfl (pi_zip (by rfl) T.n_zip (pa_cons (pv 1) (pa_cons (pe_slice (r := rSlL K) sl_list (pv 0) po_none (po_some (pe_un un_neg pe_int))) pa_nil))) (pg_tup rfl (pgs_cons (pg_name (i := 3) sc_came.nd rfl (Or.inl rfl)) (pgs_cons (pg_name (i := 4) sc_came.nd rfl (Or.inl rfl)) pgs_nil)))
        (pss_one (ps_expr (pe_bm PySem.F.plainAttrs_list PySem.F.slot_list_append PySem.F.type_list_append mt_append (pv 2) (pa_cons (pe_op op_add (pe_ix (r := rIxL K) ix_list (pv 2) (pe_un un_neg pe_int) (fun _ _ => rfl)) (pe_op op_mul (pv 3) (pv 4))) pa_nil)))))
      (pss_cons (ps_set (i := 5) sc_came.nd rfl (Or.inr rfl) (pe_callB (r := rMin K) (cr_min rfl) (by rfl) T.n_min (by decide +kernel) (pa_cons (pv 2) pa_nil)))
      (pss_one (ps_ret (pe_make T.M_Came (ok_Came_init T) (hr.mono (by decide)) (by rfl) T.m_Came T.b_Came_init .nil pass0 (pa_cons (pe_lc (own := [("one", 4)]) (g := (gName 4)) (tt := tYes) (by rfl) sc_came.nd (pi_list (pv 2)) (blkOk_by (own := [("one", 4)]) (N := ["ring", "signs", "found", "sign", "one", "least"]) (sc := defScope s_came) (by decide +kernel)) (fun _ _ _ _ _ => (pg_name (i := 4) sc_came.nd rfl (Or.inl rfl))) (fun _ _ _ _ _ => pts_nil) (fun _ _ _ _ _ => (pe_op op_sub (pv 4) (pv 5)))) pa_nil)))))))))), ?_⟩
    refine ⟨.ref a, rfl, a, ns, rfl, hS, hR, fun H1 e1 => ?_⟩
    refine ⟨.ref a, rfl, a, ns, rfl, ex_l e1 hS, hR, fun hno H2 e2 => ?_, fun ss hsl hsn hdot p H2 np e2 hp => ?_⟩
    · refine ⟨.non, rfl, rfl, true, rfl, iteT ?_⟩
      intro x dx nx nd ne
      refine q1 hno (.ref x) _ ((e1.trans e2).trans fun b u e => ?_) ⟨x, dx, rfl, upd_same⟩
      rw [upd_ne (ne_of_none e nx), upd_ne (ne_of_none e nd)]
      exact e
    · refine ⟨.ref p, rfl, rfl, false, rfl, iteF ?_⟩
      -- found = [0]
      refine q_asgL (xs := [V.int 0]) (el_lst (ea_cons ev_c ea_nil) (by decide)) fun f H3 nf e3 hf => ?_
      have hp3 := e3 _ _ hp
      have e13 := (e1.trans e2).trans e3
      have nfH : H f = none := fresh_back (e1.trans e2) nf
      -- zip(signs, ring[:-1])
      refine ⟨.ref p, rfl, .ref a, rfl, 1, rfl, -1, rfl, a, _, rfl, ex_l e13 hS, fun c nc => ?_⟩
      have hcut : cutV (ns.map V.int) none (some (-1)) = (ns.take (ns.length - 1)).map V.int := by
        rw [cut_m1 _ (by rw [List.length_map]; exact hpos), List.length_map, List.map_take]
      have e4 := Ex.new (o := .lst (cutV (ns.map V.int) none (some (-1)))) nc
      have hc4 : upd H3 c (.lst (cutV (ns.map V.int) none (some (-1)))) c = some (.lst ((ns.take (ns.length - 1)).map V.int)) := by
        rw [upd_same, hcut]
      generalize upd H3 c (.lst (cutV (ns.map V.int) none (some (-1)))) = H4 at e4 hc4
      refine ⟨p, c, _, _, rfl, sq_of (e4 _ _ hp3), sq_of hc4, ?_⟩
      have hfc : f ≠ c := ne_of_none hf nc
      have hpf : p ≠ f := ne_of_none hp nf
      have nc2 : H2 c = none := fresh_back e3 nc
      refine for_it (walk_zip (xs := ss.map V.int) (ys := (ns.take (ns.length - 1)).map V.int) (n := ns.length - 1) (by rw [List.length_map, List.length_map, List.length_take]; omega)) (fun j σ' H' => ∃ x3 x4 : Option V, σ' = [some (.ref a), some (.ref p), some (.ref f), x3, x4, none] ∧ Ex H2 H' ∧ H' c = some (.lst ((ns.take (ns.length - 1)).map V.int)) ∧
          H' f = some (.lst (((List.range (j + 1)).map (RD.sums ss ns)).map V.int))) ⟨none, none, rfl, e3.trans e4, hc4, e4 _ _ hf⟩ (fun j σ' H' _ ⟨_, _, _, g1, g2, _⟩ => ⟨sq_of (g1 _ _ hp), sq_of g2⟩) ?_ ?_
      · rintro j y σ' H5 H6 hj ⟨x3, x4, rfl, g1, g2, g3⟩ ⟨S, v1, v2, rfl, nS, rfl, h1, h2⟩
        obtain ⟨s, hs, rfl⟩ := map_get h1
        obtain ⟨x, hx, rfl⟩ := map_get h2
        rw [List.getElem?_take, if_pos hj] at hx
        have hbx := hR.bd x (List.mem_of_getElem? hx)
        have hsg := hsn s (List.mem_of_getElem? hs)
        have eS := Ex.new (o := .tup [V.int s, V.int x]) nS
        refine ⟨S, _, rfl, st_of upd_same, rfl, .int s, _, rfl, .int x, _, rfl, rfl, ?_⟩
        have g3' := eS _ _ g3
        have hlast : atI (((List.range (j + 1)).map (RD.sums ss ns)).map V.int) (-1) = some (.int (RD.sums ss ns j)) := by
          rw [List.range_succ, List.map_append, List.map_append]
          exact atI_last _ _
        refine s_app g3' (ev_var rfl) (ev_op (ev_ixL (ev_var rfl) (ev_un ev_c ru_neg) (sq_of g3') hlast) (ev_op (ev_var rfl) (ev_var rfl) (rv_I (C := CMul) (.inl ⟨by omega, by omega⟩))) rv_I0) (by rw [List.length_map, List.length_map, List.length_range]; omega) fun H7 e7 => ?_
        refine ⟨_, _, rfl, Ex.mut ((g1.trans eS).trans e7) nf, ?_, ?_⟩
        · rw [upd_ne hfc.symm]
          exact e7 _ _ (eS _ _ g2)
        · rw [upd_same, List.range_succ (n := j + 1), List.map_append, List.map_append, ← RD.sums_succ hs hx]
          rfl
      · rintro σ' H5 ⟨x3, x4, rfl, g1, g2, g3⟩
        rw [show ns.length - 1 + 1 = ns.length by omega] at g3
        have hnel : 0 < ((List.range ns.length).map (RD.sums ss ns)).length := by rw [List.length_map, List.length_range]; omega
        -- least = min(found)
        refine ⟨.ref f, rfl, f, _, rfl, sq_of g3, hnel, fun m hm hle => ?_⟩
        have el := el_mapI (K := K) (σ := [some (.ref a), some (.ref p), some (.ref f), x3, x4, some (.int m)]) (H := H5) (te := tOp (rI0 fun i j => .int (i - j)) (tVar 4) (tVar 5)) (tl := tVar 2) (j := 4) (vs := [4]) (fun x => x - m) (ei_var rfl (sq_of g3)) (by rw [List.length_map, List.length_range]; omega) (fun _ => rfl) (fun n H' e' hn => ev_op (ev_var rfl) (ev_var rfl) rv_I0)
        have em : ((List.range ns.length).map (RD.sums ss ns)).map (fun x => x - m) = (List.range ns.length).map fun i => RD.sums ss ns i - m := List.map_map
        rw [em] at el
        refine ecm_C (T := T) (ei_L el) H5 (Ex.refl _) _ fun v c2 H6 nc2 e6 hv => ?_
        refine q2 _ v c2 H6 (by rw [List.length_map, List.length_range]) (fun x hx => ?_) (RD.D_sums (by omega) hsl hsn hdot fun x hx => (hR.bd x hx).1) (fresh_back ((e1.trans e2).trans g1) nc2) (((e1.trans e2).trans g1).trans e6) hv
        obtain ⟨i, hi, rfl⟩ := List.mem_map.mp hx
        have := hle _ (List.mem_map.mpr ⟨i, hi, rfl⟩)
        omega
/-- what came tells -/
theorem q_came {T : Txt K mg} {σ : L2.St} {H : Hp} {ta : TE} {ns : List Int} {E : XK} {Q : VK} (ha : EvI K ta σ H ns) (hR : Ring ns) (h1 : ¬ RD.Sg ns 0 → ∀ v H2, Ex H H2 → IsNv T H2 v → Q v H2)
    (h2 : RD.Sg ns 0 → ∀ cs v c H2, cs.length = ns.length → (∀ x, x ∈ cs → 0 ≤ x) → RD.D cs = ns → H c = none → Ex H H2 → IsCm T H2 v c cs → Q v H2) : tCall (spCame T) [] E (tCons ta tNil) σ H Q :=
  ha H (Ex.refl _) _ fun p H2 e2 hp => ⟨p, ns, rfl, hp, hR, fun hno v H3 e3 hv => h1 hno v H3 (e2.trans e3) hv, fun cs v c H3 hl hn hD nc e3 hv => h2 (RD.D_has (by have := hR.pos; omega) hD) cs v c H3 hl hn hD (fresh_back e2 nc) (e2.trans e3) hv⟩
end
section
variable {P : Program} {w : World} {K : PySem.W.Frag} {mg : Str → Option Value} {base : Heap}
/-! ### signs that bring all to a sum: told by trying -/
def sgB : List Int → Int → Bool
  | [], t => decide (t = 0)
  | x :: r, t => sgB r (t - x) || sgB r (t + x)
theorem sg_cons {x t : Int} {l : List Int} : RD.Sg (x :: l) t ↔ RD.Sg l (t - x) ∨ RD.Sg l (t + x) := by
  constructor
  · rintro ⟨ss, h1, h2, h3⟩
    cases ss with
    | nil => cases h1
    | cons s r =>
      have h4 : s * x + RD.dot r l = t := h3
      rcases h2 s List.mem_cons_self with e | e
      · exact .inl ⟨r, Nat.succ.inj h1, fun z hz => h2 z (List.mem_cons_of_mem _ hz), by rw [e] at h4; omega⟩
      · exact .inr ⟨r, Nat.succ.inj h1, fun z hz => h2 z (List.mem_cons_of_mem _ hz), by rw [e] at h4; omega⟩
  · have ext : ∀ {a : List Int} {s : Int}, RD.Sgn a → (s = 1 ∨ s = -1) → RD.Sgn (s :: a) := fun ha hs z hz => by
      rcases List.mem_cons.mp hz with hz | hz
      · rw [hz]
        exact hs
      · exact ha z hz
    rintro (⟨a, h1, h2, h3⟩ | ⟨a, h1, h2, h3⟩)
    · refine ⟨1 :: a, by rw [List.length_cons, List.length_cons, h1], ext h2 (.inl rfl), ?_⟩
      show 1 * x + RD.dot a l = t
      omega
    · refine ⟨-1 :: a, by rw [List.length_cons, List.length_cons, h1], ext h2 (.inr rfl), ?_⟩
      show -1 * x + RD.dot a l = t
      omega
theorem sg_iff : ∀ (l : List Int) (t : Int), sgB l t = true ↔ RD.Sg l t
  | [], t => by rw [RD.sg_nil, sgB, decide_eq_true_eq]
  | x :: r, t => by rw [sg_cons, sgB, Bool.or_eq_true, sg_iff r, sg_iff r]
theorem sg_by {l : List Int} {b : Bool} (h : sgB l 0 = b) : b = true ↔ RD.Sg l 0 := by rw [← h]; exact sg_iff l 0
/-! ### the class of what came told -/
theorem ev_isNv {T : Txt K mg} {σ : L2.St} {H : Hp} {i : Nat} {v : V} {D : Addr} {b : Bool} (h : σ[i]? = some (some v)) (hv : IsNv T H v) (k : PySem.W.kitOne K (.ref T.C_Never) (.ref D) = some b) : Ev (tCB (rIsi K) (tCons (tVar i) (tCons (tC (.ref D)) tNil))) σ H (.bl b) := by
  obtain ⟨x, dx, rfl, g⟩ := hv
  exact ev_isi (ev_var h) (ty_Never T g) (.own D) k
theorem ev_isCm {T : Txt K mg} {σ : L2.St} {H : Hp} {i : Nat} {v : V} {c : Addr} {cs : List Int} {D : Addr} {b : Bool} (h : σ[i]? = some (some v)) (hv : IsCm T H v c cs) (k : PySem.W.kitOne K (.ref T.C_Came) (.ref D) = some b) : Ev (tCB (rIsi K) (tCons (tVar i) (tCons (tC (.ref D)) tNil))) σ H (.bl b) := by
  obtain ⟨x, dx, rfl, g, _⟩ := hv
  exact ev_isi (ev_var h) (ty_Came T g) (.own D) k
theorem ev_isCame {T : Txt K mg} {σ : L2.St} {H : Hp} {ta : TE} {ns : List Int} {E : XK} {D : Addr} {b bC bN : Bool} (ha : EvI K ta σ H ns) (hR : Ring ns) (hb : b = true ↔ RD.Sg ns 0) (kC : PySem.W.kitOne K (.ref T.C_Came) (.ref D) = some bC) (kN : PySem.W.kitOne K (.ref T.C_Never) (.ref D) = some bN) :
    Ev (tCB (rIsi K) (tCons (tCall (spCame T) [] E (tCons ta tNil)) (tCons (tC (.ref D)) tNil))) σ H (.bl (if b then bC else bN)) := fun H1 e Q q =>
  q_came (T := T) (ha.mono e) hR (fun hno v H2 e2 hv => by
    obtain ⟨x, dx, rfl, g⟩ := hv
    have hb0 : b = false := by
      cases b with
      | true => exact absurd (hb.mp rfl) hno
      | false => rfl
    rw [hb0] at q
    exact ⟨_, _, _, _, _, rfl, .own D, ty_Never T g, kN, q H2 e2⟩) (fun hs cs v c H2 _ _ _ _ e2 hv => by
    obtain ⟨x, dx, rfl, g, _⟩ := hv
    rw [hb.mpr hs] at q
    exact ⟨_, _, _, _, _, rfl, .own D, ty_Came T g, kC, q H2 e2⟩)
theorem ev_ring {T : Txt K mg} {σ : L2.St} {H : Hp} {i : Nat} {v : V} {c : Addr} {ns : List Int} (h : σ[i]? = some (some v)) (hc : IsCm T H v c ns) : Ev (tFld K (tVar i) "ring") σ H (.ref c) := fun H1 e Q q => by
  obtain ⟨x, dx, rfl, h1, h2, h3⟩ := hc.ex e
  exact ⟨_, h, x, _, dx, _, _, rfl, h1, T.c_Came, T.na_Came_ring, fsC_r _, q H1 (Ex.refl _)⟩
theorem IsCm.sq {T : Txt K mg} {H : Hp} {v : V} {c : Addr} {ns : List Int} (hc : IsCm T H v c ns) : H c = some (.lst (ns.map V.int)) := hc.elim fun _ h => h.elim fun _ h => h.2.2.1
theorem et_minneg {σ : L2.St} {H : Hp} {ta : TE} {p : Addr} {ns : List Int} (ha : Ev ta σ H (.ref p)) (hp : SqL K H p (ns.map V.int)) (hpos : 0 < ns.length) (hn : ∀ x, x ∈ ns → 0 ≤ x) :
    EvT (tTest (tOp (rI0 fun i j => .bl (decide (i < j))) (tCB (rMin K) (tCons ta tNil)) (tC (.int 0)))) σ H false := fun H1 e Q q =>
  ha H1 e _ fun H2 e2 => ⟨p, ns, rfl, ex_l (e.trans e2) hp, hpos, fun m hm hle => ⟨m, 0, rfl, rfl, false, congrArg V.bl (decide_eq_false (by have := hn m hm; omega)), q H2 e2⟩⟩
end
section
variable {P : Program} {w : World} {K : PySem.W.Frag} {mg : Str → Option Value} {base : Heap}
/-! ### an answer's own word, its class known -/
theorem ev_showsN {T : Txt K mg} {σ : L2.St} {H : Hp} {ta tb : TE} {s : Int} {ns : List Int} {E : XK} {N b : Nat} (ha : EvAn T ta σ H (.n s)) (hb : EvI K tb σ H ns) (hR : Ring ns) (hC : RD.IsC ns N b) :
    Ev (tMeth T.C_Noughts "shows" (spNS T) [] E ta (tCons tb tNil)) σ H (.bl ((An.n s).says N b (mx (RD.itr b ns)))) := fun H1 e Q q => ha H1 e _ fun v H2 e2 h => by
  obtain ⟨x, dx, rfl, g⟩ := h
  refine ⟨x, dx, _, rfl, g, fsN_o _ (by decide +kernel), ?_⟩
  refine hb H2 (e.trans e2) _ fun p H3 e3 hp => ⟨_, s, p, ns, rfl, ⟨x, dx, rfl, e3 _ _ g⟩, hp, hR, fun N' b' H4 hC' e4 => ?_⟩
  obtain ⟨rfl, rfl⟩ := hC'.unique hC
  exact q H4 ((e2.trans e3).trans e4)
theorem ev_showsR {T : Txt K mg} {σ : L2.St} {H : Hp} {ta tb : TE} {s l m : Int} {ns : List Int} {E : XK} {N b : Nat} (ha : EvAn T ta σ H (.r s l m)) (hb : EvI K tb σ H ns) (hR : Ring ns) (hC : RD.IsC ns N b) :
    Ev (tMeth T.C_Round "shows" (spRS T) [] E ta (tCons tb tNil)) σ H (.bl ((An.r s l m).says N b (mx (RD.itr b ns)))) := fun H1 e Q q => ha H1 e _ fun v H2 e2 h => by
  obtain ⟨x, dx, rfl, g⟩ := h
  refine ⟨x, dx, _, rfl, g, fsR_o _ _ _ (by decide +kernel) (by decide +kernel) (by decide +kernel), ?_⟩
  refine hb H2 (e.trans e2) _ fun p H3 e3 hp => ⟨_, s, l, m, p, ns, rfl, ⟨x, dx, rfl, e3 _ _ g⟩, hp, hR, fun N' b' H4 hC' e4 => ?_⟩
  obtain ⟨rfl, rfl⟩ := hC'.unique hC
  exact q H4 ((e2.trans e3).trans e4)
/-- a list made new, what stood before it told by a word -/
def EvDN {α : Type} (R : α → Hp → V → Prop) (te : TE) (σ : L2.St) (H : Hp) (as : List α) : Prop := ∀ H1, Ex H H1 → ∀ Q : VK, (∀ p vs G, Ex H1 G → G p = none → Rs R as G vs → Q (.ref p) (upd G p (.lst vs))) → te σ H1 Q
theorem edn_lst {α : Type} {R : α → Hp → V → Prop} {σ : L2.St} {H : Hp} {ta : TA} {as : List α} (h : EvDs R ta σ H as) (hz : as.length ≤ 1000) : EvDN R (tLst ta) σ H as := fun H1 e Q q => h H1 e _ fun vs H2 e2 hv => ⟨sz_of (by rw [hv.1]; omega), fun l nl => q l vs H2 e2 nl hv⟩
theorem edn_cat {α : Type} {R : α → Hp → V → Prop} {σ : L2.St} {H : Hp} {ta tb : TE} {as bs : List α} (hm : Mono R) (ha : EvDL R ta σ H as) (hb : EvDL R tb σ H bs) (hz : as.length + bs.length ≤ 1000) : EvDN R (tOp rCat ta tb) σ H (as ++ bs) := fun H1 e Q q =>
  ha H1 e _ fun p vs H2 e2 hp hv => hb H2 (e.trans e2) _ fun r ws H3 e3 hr hw => ⟨p, r, _, _, rfl, rfl, e3 _ _ hp, hr, sz_of (by rw [hv.1, hw.1]; omega), fun z nz =>
    q z _ _ (e2.trans e3) nz (rs_app (hv.ex hm e3) hw)⟩
theorem q_asgDN {α : Type} {R : α → Hp → V → Prop} {σ : L2.St} {H : Hp} {D : Ends} {tz : TS} {te : TE} {i : Nat} {as : List α} (h : EvDN R te σ H as) (k : ∀ p vs G, Ex H G → G p = none → Rs R as G vs → tz D (σ.set i (some (.ref p))) (upd G p (.lst vs))) : tSeq (tAsg te (gName i)) tz D σ H :=
  h H (Ex.refl _) _ fun p vs G e n hv => k p vs G e n hv
theorem q_asgDL {α : Type} {R : α → Hp → V → Prop} {σ : L2.St} {H : Hp} {D : Ends} {tz : TS} {te : TE} {i : Nat} {as : List α} (h : EvDL R te σ H as) (k : ∀ p vs H1, Ex H H1 → H1 p = some (.lst vs) → Rs R as H1 vs → tz D (σ.set i (some (.ref p))) H1) : tSeq (tAsg te (gName i)) tz D σ H :=
  h H (Ex.refl _) _ fun p vs H1 e hp hv => k p vs H1 e hp hv
/-- a list of whole numbers -/
def RL_ (ns : List Int) (H : Hp) (v : V) : Prop := ∃ p, v = .ref p ∧ H p = some (.lst (ns.map V.int))
theorem rl_mono : Mono RL_ := fun ns H H' v e h => by
  obtain ⟨p, rfl, h⟩ := h
  exact ⟨p, rfl, e _ _ h⟩
theorem ed_L {σ : L2.St} {H : Hp} {te : TE} {ns : List Int} (h : EvL te σ H (ns.map V.int)) : EvD RL_ te σ H ns := fun H1 e Q q => h H1 e _ fun p H2 _ e2 hp => q _ H2 e2 ⟨p, rfl, hp⟩
/-- a tuple of a list of whole numbers and a value -/
def RPr (a : List Int × V) (H : Hp) (v : V) : Prop := ∃ t p, v = .ref t ∧ H t = some (.tup [.ref p, a.2]) ∧ H p = some (.lst (a.1.map V.int))
theorem rpr_mono : Mono RPr := fun a H H' v e h => by
  obtain ⟨t, p, rfl, h1, h2⟩ := h
  exact ⟨t, p, rfl, e _ _ h1, e _ _ h2⟩
theorem ed_pr {σ : L2.St} {H : Hp} {te tb : TE} {ns : List Int} {x : V} (h : EvL te σ H (ns.map V.int)) (hb : Ev tb σ H x) : EvD RPr (tTup (tCons te (tCons tb tNil))) σ H (ns, x) := fun H1 e Q q =>
  h H1 e _ fun p H2 _ e2 hp => hb H2 (e.trans e2) _ fun H3 e3 => ⟨sz_of (by show 2 ≤ 100000; decide), fun t nt => q _ _ ((e2.trans e3).trans (Ex.new nt)) ⟨t, p, rfl, upd_same, Ex.new nt _ _ (e3 _ _ hp)⟩⟩
/-- a tuple of plain values -/
def RTu (xs : List V) (H : Hp) (v : V) : Prop := ∃ t, v = .ref t ∧ H t = some (.tup xs)
theorem rtu_mono : Mono RTu := fun a H H' v e h => by
  obtain ⟨t, rfl, h1⟩ := h
  exact ⟨t, rfl, e _ _ h1⟩
theorem ed_tu {σ : L2.St} {H : Hp} {te : TE} {xs : List V} (h : EvU te σ H xs) : EvD RTu te σ H xs := fun H1 e Q q => h H1 e _ fun p H2 _ e2 hp => q _ H2 e2 ⟨p, rfl, hp⟩
/-- [x] * k -/
theorem el_rep {σ : L2.St} {H : Hp} {ta tb : TE} {ns : List Int} {k : Nat} (ha : EvL ta σ H (ns.map V.int)) (hb : Ev tb σ H (.int (k : Int))) (hk : k ≤ 1000) (hz : ns.length ≤ 10) : EvL (tOp rRep ta tb) σ H (((List.replicate k ns).flatten).map V.int) := fun H1 e Q q =>
  ha H1 e _ fun p H2 np e2 hp => hb H2 (e.trans e2) _ fun H3 e3 => ⟨p, (k : Int), _, rfl, rfl, e3 _ _ hp, by omega, by omega, sz_of (by
    rw [List.length_map, Int.toNat_natCast]
    have := Nat.mul_le_mul hz hk
    omega), fun z nz => q z _ (fresh_back (e2.trans e3) nz) ((e2.trans e3).trans (Ex.new nz)) (by
    rw [upd_same, Int.toNat_natCast, List.map_flatten, List.map_replicate])⟩
theorem q_came2 {T : Txt K mg} {σ : L2.St} {H : Hp} {ta : TE} {ns : List Int} {E : XK} {Q : VK} (ha : EvI K ta σ H ns) (hR : Ring ns) (k : ∀ v H2, Ex H H2 → (IsNv T H2 v ∨ ∃ c cs, IsCm T H2 v c cs ∧ cs.length = ns.length) → Q v H2) : tCall (spCame T) [] E (tCons ta tNil) σ H Q :=
  q_came (T := T) ha hR (fun _ v H2 e h => k v H2 e (.inl h)) (fun _ cs v c H2 hl _ _ _ e h => k v H2 e (.inr ⟨c, cs, h, hl⟩))
end
section
variable {P : Program} {w : World} {K : PySem.W.Frag} {mg : Str → Option Value} {base : Heap}
/-! ### what is refused -/
def Item (K : PySem.W.Frag) (H : Hp) (v : V) (b : Bool) : Prop := ∃ (t : Value) (b1 b2 : Bool), TyX K H v t ∧ PySem.W.kitOne K t (.type "int") = some b1 ∧ PySem.W.kitOne K t (.type "bool") = some b2 ∧ (b1 && !b2) = b
theorem Item.ex {H H' : Hp} {v : V} {b : Bool} (e : Ex H H') (h : Item K H v b) : Item K H' v b := by
  obtain ⟨t, b1, b2, h1, h2, h3, h4⟩ := h
  exact ⟨t, b1, b2, tyX_ex e h1, h2, h3, h4⟩
theorem item_int {H : Hp} {n : Int} : Item K H (.int n) true := ⟨_, true, false, .base (.int n), kit_ty (by decide +kernel), kit_ty (by decide +kernel), rfl⟩
/-- no ring -/
def BadR (K : PySem.W.Frag) (H : Hp) (v : V) : Prop := (∃ t, TyX K H v t ∧ PySem.W.kitOne K t (.type "list") = some false) ∨
  ∃ a xs, v = .ref a ∧ SqL K H a xs ∧ xs.length ≤ 1000 ∧ ((xs.length = 0 ∨ 12 < xs.length) ∨ (∃ bs : List Bool, bs.length = xs.length ∧ (∀ (i : Nat) x, xs[i]? = some x → Item K H x (bs.getD i true)) ∧ bs.all id = false) ∨ ∃ ns : List Int, xs = ns.map V.int ∧ ∃ n, n ∈ ns ∧ (n < 0 ∨ 200 < n))
theorem BadR.ex {H H' : Hp} {v : V} (e : Ex H H') (h : BadR K H v) : BadR K H' v := by
  rcases h with ⟨t, h1, h2⟩ | ⟨a, xs, rfl, h1, hz, h2⟩
  · exact .inl ⟨t, tyX_ex e h1, h2⟩
  · refine .inr ⟨a, xs, rfl, ex_l e h1, hz, ?_⟩
    rcases h2 with h | ⟨bs, h3, h4, h5⟩ | h
    · exact .inl h
    · exact .inr (.inl ⟨bs, h3, fun i x hx => (h4 i x hx).ex e, h5⟩)
    · exact .inr (.inr h)
/-- no number from 0 on -/
def BadN (K : PySem.W.Frag) (H : Hp) (v : V) : Prop := Item K H v false ∨ ∃ n : Int, v = .int n ∧ n < 0
theorem BadN.ex {H H' : Hp} {v : V} (e : Ex H H') (h : BadN K H v) : BadN K H' v := h.elim (fun z => .inl (z.ex e)) .inr
theorem ev_isw {σ : L2.St} {H : Hp} {ta : TE} {v : V} {b : Bool} {E : XK} (ha : Ev ta σ H v) (hv : Item K H v b) : Ev (tCall (spWhole K) [] E (tCons ta tNil)) σ H (.bl b) := fun H1 e Q q =>
  ha H1 e _ fun H2 e2 => by
    obtain ⟨t, b1, b2, h1, h2, h3, h4⟩ := hv.ex (e.trans e2)
    exact ⟨v, t, b1, b2, rfl, h1, h2, h3, by rw [h4]; exact q H2 e2⟩
def spAskX (T : Txt K mg) : Sp := fun vs H Q E => ∃ v, vs = [v] ∧ ((∃ (a : Addr) (ns : List Int), v = .ref a ∧ SqL K H a (ns.map V.int) ∧ Ring ns ∧ RetV .non H Q) ∨ (BadR K H v ∧ ∀ H2, Ex H H2 → E (.ref T.C_BadRing) none H2))
theorem range_bs (bs : List Bool) : (List.range bs.length).map (fun i => bs.getD i true) = bs := by
  apply List.ext_getElem?
  intro i
  by_cases hi : i < bs.length
  · rw [List.getElem?_map, List.getElem?_range hi, List.getElem?_eq_getElem hi]
    show some (bs.getD i true) = _
    rw [List.getD_eq_getElem?_getD, List.getElem?_eq_getElem hi]
    rfl
  · rw [List.getElem?_eq_none (by rw [List.length_map, List.length_range]; omega), List.getElem?_eq_none (by omega)]
/-- all of truths over a list's items, whichever -/
theorem ev_allBs {σ : L2.St} {H : Hp} {te tl : TE} {a : Addr} {xs : List V} {bs : List Bool} {j : Nat} {ks : List Nat} (h : Ev tl σ H (.ref a)) (hx : SqL K H a xs) (hz : xs.length ≤ 40000) (hb : bs.length = xs.length)
    (hw : ∀ x, wipe ((wipe σ ks).set j (some x)) ks = wipe σ ks) (he : ∀ (i : Nat) x H1, Ex H H1 → xs[i]? = some x → Ev te ((wipe σ ks).set j (some x)) H1 (.bl (bs.getD i true))) :
    Ev (tCB (rAll K) (tCons (tLc (iList K tl) (gName j) tYes te ks) tNil)) σ H (.bl (bs.all id)) := by
  have h1 : EvL (tLc (iList K tl) (gName j) tYes te ks) σ H (bs.map V.bl) := by
    have h0 := el_each (K := K) (te := te) (vs := ks) (fun i => V.bl (bs.getD i true)) h hx hz hw he
    rw [← hb, show (fun i => V.bl (bs.getD i true)) = V.bl ∘ fun i => bs.getD i true from rfl, ← List.map_map, range_bs] at h0
    exact h0
  exact ev_allN h1
theorem okx_asked_ring (T : Txt K mg) : FnOk P w K mg base (L2.CX P w) 2 T.f_asked_ring T.fd_asked_ring ["ring"] (spAskX T) := by
  refine T.F_asked_ring.okX sc_asked_ring (fun vs H Q E h => ?_) (fun cdv A outer s H vs Q E hr h => ?_)
  · obtain ⟨v, rfl, _⟩ := h
    rfl
  · obtain ⟨v, rfl, hcase⟩ := h
    refine ⟨_, (pss_cons (ps_if (PW.pt (pw_or (pt_not (pt_val (pe_callB (r := rIsi K) call_isi (by rfl) T.n_isinstance (by decide +kernel) (pa_cons (pv 0) (pa_cons (pe_bltn (v := .ty "list") (by rfl) T.n_list (by decide +kernel) rfl) pa_nil))))) (pw_or (pt_not (pt_chain op_le op_le pe_int (pe_callB (r := rLenS K) call_len_seq (by rfl) T.n_len (by decide +kernel) (pa_cons (pv 0) pa_nil)) (pe_glob (v := .int 12) rfl T.m_LONGEST ⟨_, rfl⟩))) (pw_or1 (pt_not (pt_val (pe_callB (r := rAll K) (cr_all rfl) (by rfl) T.n_all (by decide +kernel) (pa_cons (pe_lc (own := [("one", 1)]) (g := (gName 1)) (tt := tYes) (by rfl) sc_asked_ring.nd (pi_list (pv 0)) (blkOk_by (own := [("one", 1)]) (N := ["ring", "one"]) (sc := defScope s_asked_ring) (by decide +kernel)) (fun _ _ _ _ _ => (pg_name (i := 1) sc_asked_ring.nd rfl (Or.inl rfl))) (fun _ _ _ _ _ => pts_nil) (fun _ _ _ _ _ => (pe_call (ok_is_whole T) (hr.mono (by decide)) (by rfl) T.g_is_whole T.F_is_whole.kp T.b_is_whole .nil pass0 (pa_cons (pv 1) pa_nil)))) pa_nil))))))))
        (pss_one (ps_raise rfl (takes_of rfl rfl rfl rfl) (pmk_own PySem.F.excBase_ValueError T.x_BadRing T.m_BadRing T.k_BadRing (raises_own T.sb_BadRing T.tb_BadRing) (by exact rfl))))
        pss_nil)
      (pss_one (ps_if (pt_not (pt_val (pe_callB (r := rAll K) (cr_all rfl) (by rfl) T.n_all (by decide +kernel) (pa_cons (pe_lc (own := [("one", 1)]) (g := (gName 1)) (tt := tYes) (by rfl) sc_asked_ring.nd (pi_list (pv 0)) (blkOk_by (own := [("one", 1)]) (N := ["ring", "one"]) (sc := defScope s_asked_ring) (by decide +kernel)) (fun _ _ _ _ _ => (pg_name (i := 1) sc_asked_ring.nd rfl (Or.inl rfl))) (fun _ _ _ _ _ => pts_nil) (fun _ _ _ _ _ => (pe_chain op_le op_le pe_int (pv 1) (pe_glob (v := .int 200) rfl T.m_GREATEST ⟨_, rfl⟩)))) pa_nil))))
        (pss_one (ps_raise rfl (takes_of rfl rfl rfl rfl) (pmk_own PySem.F.excBase_ValueError T.x_BadRing T.m_BadRing T.k_BadRing (raises_own T.sb_BadRing T.tb_BadRing) (by exact rfl))))
        pss_nil))), ?_⟩
    rcases hcase with ⟨a, ns, rfl, hS, hR, q⟩ | ⟨hB, hE⟩
    · have hl : (ns.map V.int).length ≤ 40000 := by rw [List.length_map]; have := hR.few; omega
      have hl1 := hR.pos
      have hl2 := hR.few
      refine q_when (b := false) (et_is (et_or (a := false) (b := false) (et_is (et_not (et_B (ev_isi (b := true) (ev_var rfl) (tyL hS) (.ty _) (kit_ty (by decide +kernel))))) rfl) fun _ =>
        et_or (a := false) (b := false) (et_is (et_not (et_test (ev_chain ev_c (ev_len (ev_var rfl) hS) rv_I0 ev_c rv_I0))) (by rw [List.length_map, decide_eq_true (by omega), decide_eq_true (by omega)]; rfl)) fun _ =>
        et_is (et_not (et_B (ev_allEach (ev_var rfl) hS hl (fun _ => rfl) fun i x H1 _ hi => ?_))) rfl) rfl) (fun z => nomatch z) fun _ H1 e1 => ?_
      · obtain ⟨n, _, rfl⟩ := map_get hi
        exact ev_isw (ev_var rfl) item_int
      · refine s_when (b := false) (et_is (et_not (et_B (ev_allEach (ev_var rfl) (ex_l e1 hS) hl (fun _ => rfl) fun i x H2 _ hi => ?_))) rfl) (fun z => nomatch z) fun _ H2 e2 => q H2 (e1.trans e2)
        obtain ⟨n, hn, rfl⟩ := map_get hi
        have hb := hR.bd n (List.mem_of_getElem? hn)
        exact ev_is (ev_chain ev_c (ev_var rfl) rv_I0 ev_c rv_I0) (by rw [decide_eq_true hb.1, decide_eq_true hb.2]; rfl)
    · rcases hB with ⟨t, ht, hk⟩ | ⟨a, xs, rfl, hS, hz, hB⟩
      · exact q_when (b := true) (et_is (et_or (a := true) (b := true) (et_is (et_not (et_B (ev_isi (b := false) (ev_var rfl) ht (.ty _) hk))) rfl) fun z => nomatch z) rfl) (fun _ H1 e1 => hE H1 e1) (fun z => nomatch z)
      · by_cases hlen : xs.length = 0 ∨ 12 < xs.length
        · refine q_when (b := true) (et_is (et_or (a := false) (b := true) (et_is (et_not (et_B (ev_isi (b := true) (ev_var rfl) (tyL hS) (.ty _) (kit_ty (by decide +kernel))))) rfl) fun _ =>
            et_is (et_or (a := true) (b := true) (et_is (et_not (et_test (ev_chain ev_c (ev_len (ev_var rfl) hS) rv_I0 ev_c rv_I0))) ?_) fun z => nomatch z) rfl) rfl) (fun _ H1 e1 => hE H1 e1) (fun z => nomatch z)
          rcases hlen with z | z
          · rw [z]
            rfl
          · rw [decide_eq_false (show ¬ ((xs.length : Int) ≤ 12) by omega), Bool.and_false]
            rfl
        · have hrow : (!((decide ((1 : Int) ≤ (xs.length : Int))) && decide ((xs.length : Int) ≤ 12))) = false := by
            rw [decide_eq_true (by omega), decide_eq_true (by omega)]
            rfl
          rcases hB with z | ⟨bs, hb1, hb2, hb3⟩ | ⟨ns, rfl, n, hn, hbad⟩
          · exact absurd z hlen
          · refine q_when (b := true) (et_is (et_or (a := false) (b := true) (et_is (et_not (et_B (ev_isi (b := true) (ev_var rfl) (tyL hS) (.ty _) (kit_ty (by decide +kernel))))) rfl) fun _ =>
              et_or (a := false) (b := true) (et_is (et_not (et_test (ev_chain ev_c (ev_len (ev_var rfl) hS) rv_I0 ev_c rv_I0))) hrow) fun _ =>
              et_is (et_not (et_B (ev_allBs (bs := bs) (ev_var rfl) hS (by omega) hb1 (fun _ => rfl) fun i x H1 e1 hx => ev_isw (ev_var rfl) ((hb2 i x hx).ex e1)))) (by rw [hb3]; rfl)) rfl) (fun _ H1 e1 => hE H1 e1) (fun z => nomatch z)
          · have hl : (ns.map V.int).length ≤ 40000 := by omega
            refine q_when (b := false) (et_is (et_or (a := false) (b := false) (et_is (et_not (et_B (ev_isi (b := true) (ev_var rfl) (tyL hS) (.ty _) (kit_ty (by decide +kernel))))) rfl) fun _ =>
              et_or (a := false) (b := false) (et_is (et_not (et_test (ev_chain ev_c (ev_len (ev_var rfl) hS) rv_I0 ev_c rv_I0))) hrow) fun _ =>
              et_is (et_not (et_B (ev_allEach (ev_var rfl) hS hl (fun _ => rfl) fun i x H1 _ hi => ?_))) rfl) rfl) (fun z => nomatch z) fun _ H1 e1 => ?_
            · obtain ⟨m, _, rfl⟩ := map_get hi
              exact ev_isw (ev_var rfl) item_int
            · refine s_when (b := true) (et_is (et_not (et_B (ev_allBs (bs := ns.map fun m => decide (0 ≤ m) && decide (m ≤ 200)) (ev_var rfl) (ex_l e1 hS) hl (by rw [List.length_map, List.length_map]) (fun _ => rfl) fun i x H2 e2 hx => ?_))) ?_) (fun _ H2 e2 => hE H2 (e1.trans e2)) (fun z => nomatch z)
              · obtain ⟨m, hm, rfl⟩ := map_get hx
                rw [List.getD_eq_getElem?_getD, List.getElem?_map, hm]
                exact ev_chain ev_c (ev_var rfl) rv_I0 ev_c rv_I0
              · have : ((ns.map fun m => decide (0 ≤ m) && decide (m ≤ 200)).all id) = false := by
                  rw [List.all_eq_false]
                  refine ⟨_, List.mem_map.mpr ⟨n, hn, rfl⟩, ?_⟩
                  rcases hbad with z | z
                  · simp [show ¬ (0 ≤ n) by omega]
                  · simp [show ¬ (n ≤ 200) by omega]
                rw [this]
                rfl
def spNumX (T : Txt K mg) : Sp := fun vs H Q E => ∃ v, vs = [v] ∧ BadN K H v ∧ ∀ H2, Ex H H2 → E (.ref T.C_BadNumber) none H2
theorem okx_asked_number (T : Txt K mg) : FnOk P w K mg base (L2.CX P w) 2 T.f_asked_number T.fd_asked_number ["number"] (spNumX T) := by
  refine T.F_asked_number.okX sc_asked_number (fun vs H Q E h => ?_) (fun cdv A outer s H vs Q E hr h => ?_)
  · obtain ⟨v, rfl, _⟩ := h
    rfl
  · obtain ⟨v, rfl, hB, hE⟩ := h
    refine ⟨_, (pss_one (ps_if (PW.pt (pw_or (pt_not (pt_val (pe_call (ok_is_whole T) (hr.mono (by decide)) (by rfl) T.g_is_whole T.F_is_whole.kp T.b_is_whole .nil pass0 (pa_cons (pv 0) pa_nil)))) (pw_or1 (pt_cmpR op_lt (pv 0) pe_int (nomark _)))))
        (pss_one (ps_raise rfl (takes_of rfl rfl rfl rfl) (pmk_own PySem.F.excBase_ValueError T.x_BadNumber T.m_BadNumber T.k_BadNumber (raises_own T.sb_BadNumber T.tb_BadNumber) (by exact rfl))))
        pss_nil)), ?_⟩
    rcases hB with hI | ⟨n, rfl, hn⟩
    · exact s_when (b := true) (et_is (et_or (a := true) (b := true) (et_is (et_not (et_B (ev_isw (ev_var rfl) hI))) rfl) fun z => nomatch z) rfl) (fun _ H1 e1 => hE H1 e1) (fun z => nomatch z)
    · exact s_when (b := true) (et_is (et_or (a := false) (b := true) (et_is (et_not (et_B (ev_isw (ev_var rfl) item_int))) rfl) fun _ => et_is (et_test (ev_op (ev_var rfl) ev_c rv_I0)) (decide_eq_true hn)) rfl) (fun _ H1 e1 => hE H1 e1) (fun z => nomatch z)
/-- given what is no ring: BadRing -/
def spBad (T : Txt K mg) : Sp := fun vs H _ E => ∃ v, vs = [v] ∧ BadR K H v ∧ ∀ H2, Ex H H2 → E (.ref T.C_BadRing) none H2
theorem okx_step (T : Txt K mg) : FnOk P w K mg base (L2.CX P w) 4 T.f_step T.fd_step ["ring"] (spBad T) := by
  refine T.F_step.okX sc_step (fun vs H Q E h => ?_) (fun cdv A outer s H vs Q E hr h => ?_)
  · obtain ⟨v, rfl, _⟩ := h
    rfl
  · obtain ⟨v, rfl, hB, hE⟩ := h
    exact ⟨_, (pss_cons (ps_expr (pe_callS (okx_asked_ring T) (hr.mono (by decide)) (by rfl) T.g_asked_ring T.F_asked_ring.kp T.b_asked_ring (fun σ => passAt (takes_of rfl rfl rfl rfl) σ) (pa_cons (pv 0) pa_nil)))
      (PSs.nox (pss_one (ps_ret (pe_call (ok_stepped T) (hr.mono (by decide)) (by rfl) T.g_stepped T.F_stepped.kp T.b_stepped .nil pass0 (pa_cons (pv 0) pa_nil)))))), v, rfl, v, rfl, .inr ⟨hB, hE⟩⟩
theorem okx_told (T : Txt K mg) : FnOk P w K mg base (L2.CX P w) 4 T.f_told T.fd_told ["ring"] (spBad T) := by
  refine T.F_told.okX sc_told (fun vs H Q E h => ?_) (fun cdv A outer s H vs Q E hr h => ?_)
  · obtain ⟨v, rfl, _⟩ := h
    rfl
  · obtain ⟨v, rfl, hB, hE⟩ := h
    exact ⟨_, (pss_cons (ps_expr (pe_callS (okx_asked_ring T) (hr.mono (by decide)) (by rfl) T.g_asked_ring T.F_asked_ring.kp T.b_asked_ring (fun σ => passAt (takes_of rfl rfl rfl rfl) σ) (pa_cons (pv 0) pa_nil)))
      (PSs.nox (pss_cons (ps_asg (pe_call (ok_course T) (hr.mono (by decide)) (by rfl) T.g_course T.F_course.kp T.b_course .nil pass0 (pa_cons (pv 0) pa_nil)) (pg_tup rfl (pgs_cons (pg_name (i := 1) sc_told.nd rfl (Or.inl rfl)) (pgs_cons (pg_name (i := 2) sc_told.nd rfl (Or.inl rfl)) pgs_nil))))
        (pss_cons (ps_if (pt_val (pe_callB (r := rAnyI K) (cr_anyI rfl) (by rfl) T.n_any (by decide +kernel) (pa_cons (pe_ix (r := rIxL K) ix_list (pv 1) (pv 2) (fun _ _ => rfl)) pa_nil)))
          (pss_one (ps_ret (pe_make T.M_Round (ok_Round_init T) (hr.mono (by decide)) (by rfl) T.m_Round T.b_Round_init .nil pass0 (pa_cons (pv 2) (pa_cons (pe_op op_sub (pe_callB (r := rLenS K) call_len_seq (by rfl) T.n_len (by decide +kernel) (pa_cons (pv 1) pa_nil)) (pv 2)) (pa_cons (pe_callB (r := rMax K) (cr_max rfl) (by rfl) T.n_max (by decide +kernel) (pa_cons (pe_ix (r := rIxL K) ix_list (pv 1) (pv 2) (fun _ _ => rfl)) pa_nil)) pa_nil))))))
          pss_nil)
        (pss_one (ps_ret (pe_make T.M_Noughts (ok_Noughts_init T) (hr.mono (by decide)) (by rfl) T.m_Noughts T.b_Noughts_init .nil pass0 (pa_cons (pv 2) pa_nil)))))))), v, rfl, v, rfl, .inr ⟨hB, hE⟩⟩
theorem okx_came (T : Txt K mg) : FnOk P w K mg base (L2.CX P w) 4 T.f_came T.fd_came ["ring"] (spBad T) := by
  refine T.F_came.okX sc_came (fun vs H Q E h => ?_) (fun cdv A outer s H vs Q E hr h => ?_)
  · obtain ⟨v, rfl, _⟩ := h
    rfl
  · obtain ⟨v, rfl, hB, hE⟩ := h
    exact ⟨_, (pss_cons (ps_expr (pe_callS (okx_asked_ring T) (hr.mono (by decide)) (by rfl) T.g_asked_ring T.F_asked_ring.kp T.b_asked_ring (fun σ => passAt (takes_of rfl rfl rfl rfl) σ) (pa_cons (pv 0) pa_nil)))
      (PSs.nox (pss_cons (ps_set (i := 1) sc_came.nd rfl (Or.inl rfl) (pe_call (ok_heaps_of T) (hr.mono (by decide)) (by rfl) T.g_heaps_of T.F_heaps_of.kp T.b_heaps_of .nil pass0 (pa_cons (pv 0) pa_nil)))
        (pss_cons (ps_if (pt_cmpR op_isN (pv 1) pe_non (nomark _))
          (pss_one (ps_ret (pe_makeP T.P_Never (by rfl) T.m_Never)))
          pss_nil)
        (pss_cons (ps_set (i := 2) sc_came.nd rfl (Or.inl rfl) (pe_lst (pa_cons pe_int pa_nil)))
        (pss_cons (ps_for PassesOwn.never rfl (pi_zip (by rfl) T.n_zip (pa_cons (pv 1) (pa_cons (pe_slice (r := rSlL K) sl_list (pv 0) po_none (po_some (pe_un un_neg pe_int))) pa_nil))) (pg_tup rfl (pgs_cons (pg_name (i := 3) sc_came.nd rfl (Or.inl rfl)) (pgs_cons (pg_name (i := 4) sc_came.nd rfl (Or.inl rfl)) pgs_nil)))
          (pss_one (ps_expr (pe_bm PySem.F.plainAttrs_list PySem.F.slot_list_append PySem.F.type_list_append mt_append (pv 2) (pa_cons (pe_op op_add (pe_ix (r := rIxL K) ix_list (pv 2) (pe_un un_neg pe_int) (fun _ _ => rfl)) (pe_op op_mul (pv 3) (pv 4))) pa_nil)))))
        (pss_cons (ps_set (i := 5) sc_came.nd rfl (Or.inr rfl) (pe_callB (r := rMin K) (cr_min rfl) (by rfl) T.n_min (by decide +kernel) (pa_cons (pv 2) pa_nil)))
        (pss_one (ps_ret (pe_make T.M_Came (ok_Came_init T) (hr.mono (by decide)) (by rfl) T.m_Came T.b_Came_init .nil pass0 (pa_cons (pe_lc (own := [("one", 4)]) (g := (gName 4)) (tt := tYes) (by rfl) sc_came.nd (pi_list (pv 2)) (blkOk_by (own := [("one", 4)]) (N := ["ring", "signs", "found", "sign", "one", "least"]) (sc := defScope s_came) (by decide +kernel)) (fun _ _ _ _ _ => (pg_name (i := 4) sc_came.nd rfl (Or.inl rfl))) (fun _ _ _ _ _ => pts_nil) (fun _ _ _ _ _ => (pe_op op_sub (pv 4) (pv 5)))) pa_nil))))))))))), v, rfl, v, rfl, .inr ⟨hB, hE⟩⟩
def spAfterX (T : Txt K mg) : Sp := fun vs H _ E => ∃ v u, vs = [v, u] ∧ ((BadR K H v ∧ ∀ H2, Ex H H2 → E (.ref T.C_BadRing) none H2) ∨ ((∃ (a : Addr) (ns : List Int), v = .ref a ∧ SqL K H a (ns.map V.int) ∧ Ring ns) ∧ BadN K H u ∧ ∀ H2, Ex H H2 → E (.ref T.C_BadNumber) none H2))
theorem okx_after (T : Txt K mg) : FnOk P w K mg base (L2.CX P w) 4 T.f_after T.fd_after ["ring", "steps"] (spAfterX T) := by
  refine T.F_after.okX sc_after (fun vs H Q E h => ?_) (fun cdv A outer s H vs Q E hr h => ?_)
  · obtain ⟨v, u, rfl, _⟩ := h
    rfl
  · obtain ⟨v, u, rfl, hcase⟩ := h
    refine ⟨_, (pss_cons (ps_expr (pe_callS (okx_asked_ring T) (hr.mono (by decide)) (by rfl) T.g_asked_ring T.F_asked_ring.kp T.b_asked_ring (fun σ => passAt (takes_of rfl rfl rfl rfl) σ) (pa_cons (pv 0) pa_nil)))
      (pss_cons (ps_expr (pe_callS (okx_asked_number T) (hr.mono (by decide)) (by rfl) T.g_asked_number T.F_asked_number.kp T.b_asked_number (fun σ => passAt (takes_of rfl rfl rfl rfl) σ) (pa_cons (pv 1) pa_nil)))
      (PSs.nox (pss_cons (ps_asg (pe_call (ok_course T) (hr.mono (by decide)) (by rfl) T.g_course T.F_course.kp T.b_course .nil pass0 (pa_cons (pv 0) pa_nil)) (pg_tup rfl (pgs_cons (pg_name (i := 2) sc_after.nd rfl (Or.inl rfl)) (pgs_cons (pg_name (i := 3) sc_after.nd rfl (Or.inl rfl)) pgs_nil))))
        (pss_cons (ps_if (pt_cmpR op_lt (pv 1) (pe_callB (r := rLenS K) call_len_seq (by rfl) T.n_len (by decide +kernel) (pa_cons (pv 2) pa_nil)) (nomark _))
          (pss_one (ps_ret (pe_callTy (r := rListS K) call_list_of (by rfl) T.n_list (by decide +kernel) (pa_cons (pe_ix (r := rIxL K) ix_list (pv 2) (pv 1) (fun _ _ => rfl)) pa_nil))))
          pss_nil)
        (pss_one (ps_ret (pe_callTy (r := rListS K) call_list_of (by rfl) T.n_list (by decide +kernel) (pa_cons (pe_ix (r := rIxL K) ix_list (pv 2) (pe_op op_add (pv 3) (pe_op op_mod (pe_op op_sub (pv 1) (pv 3)) (pe_op op_sub (pe_callB (r := rLenS K) call_len_seq (by rfl) T.n_len (by decide +kernel) (pa_cons (pv 2) pa_nil)) (pv 3)))) (fun _ _ => rfl)) pa_nil))))))))), ?_⟩
    rcases hcase with ⟨hB, hE⟩ | ⟨⟨a, ns, rfl, hS, hR⟩, hB, hE⟩
    · exact ⟨v, rfl, v, rfl, .inr ⟨hB, hE⟩⟩
    · exact ⟨.ref a, rfl, .ref a, rfl, .inl ⟨a, ns, rfl, hS, hR, fun H1 e1 => ⟨u, rfl, u, rfl, hB.ex e1, fun H2 e2 => hE H2 (e1.trans e2)⟩⟩⟩
end
section
variable {P : Program} {w : World} {K : PySem.W.Frag} {mg : Str → Option Value} {base : Heap}
theorem pe_askK {X : Cx} {P : Program} {w : World} {K : PySem.W.Frag} {mg : Str → Option Value} {base : Heap} (hX : X.prog = P ∧ X.w = w ∧ X.K = K ∧ X.mg = mg ∧ X.base = base) {k i : Nat} {E : L2.St → XK} {x : Str} {p pos : Pos} {e : Expr} {es : List Expr} {t : TA} (hr : Room k X.A) (hN : X.N[i]? = some x) (hv : Vis X.env.scope x) (hx : ∀ σ, PassesAt (L2.CX X.prog X.w) X σ (E σ)) (ha : PA X (e :: es) t)
    (hdb : (x == ("__debug__" : Str)) = false := by decide) (hcd : (x == ("__classdict__" : Str)) = false := by decide) (he : starEach (e :: es) X.env = (false, eval e X.env) :: starEach es X.env := by rfl) (hpl : (backTo pos (starEach es X.env)).any (·.1) = false := by rfl) :
    PE X (.Call (.Name x p) (e :: es) [] pos) (tAsk P w K mg base k i E t) := by
  obtain ⟨rfl, rfl, rfl, rfl, rfl⟩ := hX
  exact pe_ask hr hN hv hx ha hdb hcd he hpl
/-! ### the law's own look at a refusal -/
def rIsE2 (K : PySem.W.Frag) (a : Addr) (cls : Value) (d : Option Addr) : List V → Hp → VK → Prop := fun xs H Q => ∃ D, cls = .ref D ∧ d = none ∧ ExcC K D ∧ rIsE K D a xs H Q
theorem call_isE2 {X : Cx} {a : Addr} {cls : Value} {d : Option Addr} {oe : Obj} {pn : List (Addr × Obj)} (hz : Zc cls d oe) (hf : ∃ vs, oe.data = .fields vs) : CallR (X.suite a ((a, oe) :: pn)) (.builtin "isinstance") (rIsE2 X.K a cls d) := by
  intro pins s σ H xs us Q I r h
  obtain ⟨D, rfl, rfl, hC, h⟩ := h
  exact call_isE hC hz hf pins s σ H xs us Q I r h
theorem ev_isE {σ : L2.St} {H : Hp} {i : Nat} {a D : Addr} {c : V} {cv : Value} {b : Bool} (h : σ[i]? = some (some (.ref a))) (hC : ExcC K D) (hc : ∀ u, RelV c u → u = cv) (hk : PySem.W.kitOne K (.ref D) cv = some b) :
    Ev (tCB (rIsE2 K a (.ref D) none) (tCons (tVar i) (tCons (tC c) tNil))) σ H (.bl b) := fun H1 e Q q => ⟨.ref a, h, D, rfl, rfl, hC, c, cv, b, rfl, hc, hk, q H1 (Ex.refl _)⟩
theorem Ask.mono {k j : Nat} {f : Addr} {sp : Sp} {G : Hp → Prop} (h : Ask P w K mg base k f sp G) (hk : k ≤ j) : Ask P w K mg base j f sp G := ⟨h.fnat, fun A outer s H us vs Q E hr => h.run A outer s H us vs Q E (hr.mono hk)⟩
/-- a callable that refuses v, with an error of the class at D -/
def Refuses (P : Program) (w : World) (K : PySem.W.Frag) (mg : Str → Option Value) (base : Heap) (D : Addr) (B : Hp → V → Prop) (H : Hp) (f : V) : Prop := ∃ (fa : Addr) (sp : Sp) (G : Hp → Prop), f = .ref fa ∧ Ask P w K mg base 5 fa sp G ∧ (∀ H', Ex H H' → G H') ∧
  ∀ v H' Q' E', Ex H H' → B H' v → (∀ H2, Ex H' H2 → E' (.ref D) none H2) → sp [v] H' Q' E'
theorem Refuses.ex {D : Addr} {B : Hp → V → Prop} {H H' : Hp} {f : V} (e : Ex H H') (h : Refuses P w K mg base D B H f) : Refuses P w K mg base D B H' f := by
  obtain ⟨fa, sp, G, rfl, h1, h2, h3⟩ := h
  exact ⟨fa, sp, G, rfl, h1, fun H2 e2 => h2 H2 (e.trans e2), fun v H2 Q2 E2 e2 => h3 v H2 Q2 E2 (e.trans e2)⟩
def Due (T : Txt K mg) (due : Int) (D : Addr) : Prop := (due = 0 ∧ D = T.C_BadRing) ∨ (due = 1 ∧ D = T.C_BadNumber)
def spRef (P : Program) (w : World) (K : PySem.W.Frag) (mg : Str → Option Value) (base : Heap) (T : Txt K mg) : Sp := fun vs H Q _ => ∃ (f v : V) (due : Int) (D : Addr) (B : Hp → V → Prop), vs = [f, v, .int due] ∧ Refuses P w K mg base D B H f ∧ B H v ∧ Due T due D ∧ RetV (.bl true) H Q
theorem excC_ring (T : Txt K mg) : ExcC K T.C_BadRing := ⟨T.eg_BadRing, T.ek_BadRing, T.sb_BadRing, T.ed_BadRing, T.ea_BadRing, T.cg, T.ct, T.em_BadRing⟩
theorem excC_num (T : Txt K mg) : ExcC K T.C_BadNumber := ⟨T.eg_BadNumber, T.ek_BadNumber, T.sb_BadNumber, T.ed_BadNumber, T.ea_BadNumber, T.cg, T.ct, T.em_BadNumber⟩
theorem kit_VE {D : Addr} (h : PySem.W.subIn K (.ref D) (.type "ValueError") = some true) : PySem.W.kitOne K (.ref D) (.type "ValueError") = some true := by
  unfold PySem.W.kitOne PySem.W.kitCls
  rw [if_neg (by simp)]
  show (if PySem.W.kitMeta "ValueError" = true then PySem.W.subIn K (.ref D) (.type "ValueError") else none) = some true
  rw [if_pos (by decide +kernel)]
  exact h
theorem ev_eqB3 {σ : L2.St} {H : Hp} {ta tb tc : TE} {i : Nat} {p : Addr} {a b c a' b' c' : Bool} (hv : σ[i]? = some (some (.ref p))) (hp : H p = some (.lst [.bl a, .bl b, .bl c])) (h1 : Ev ta σ H (.bl a')) (h2 : Ev tb σ H (.bl b')) (h3 : Ev tc σ H (.bl c')) (e1 : a = a') (e2 : b = b') (e3 : c = c') :
    Ev (tOp (rEqD K) (tVar i) (tLst (tCons ta (tCons tb (tCons tc tNil))))) σ H (.bl true) := by
  subst e1 e2 e3
  refine ev_opL (ev_var hv) (el_lst (ea_cons h1 (ea_cons h2 (ea_cons h3 ea_nil))) (by show 3 ≤ 100000; decide)) fun q H1 hq e => rv_val fun H2 x2 Q k => ?_
  have all3 : ∀ {G : Hp}, DpAll K G [.bl a, .bl b, .bl c] [.bool a, .bool b, .bool c] := .cons (.bl a) (.cons (.bl b) (.cons (.bl c) .nil))
  refine ⟨.list [.bool a, .bool b, .bool c], .list [.bool a, .bool b, .bool c], .lst (sq_of (x2 _ _ (e _ _ hp))) all3, .lst (sq_of (x2 _ _ hq)) all3, ?_, ?_, ?_⟩
  · cases a <;> cases b <;> cases c <;> decide
  · cases a <;> cases b <;> cases c <;> decide
  · have : PyData.eqv (.list [.bool a, .bool b, .bool c]) (.list [.bool a, .bool b, .bool c]) = true := by
      cases a <;> cases b <;> cases c <;> decide
    rw [this]
    exact k
theorem ok_w_refused (T : Txt K mg) : FnOk P w K mg base CX0 6 T.f_w_refused T.fd_w_refused ["_law_ask", "_law_thing", "_law_due"] (spRef P w K mg base T) := by
  refine T.F_w_refused.ok sc_w_refused (fun vs H Q E h => ?_) (fun cdv A outer s H vs Q E hr h => ?_)
  · obtain ⟨f, v, due, D, B, rfl, _⟩ := h
    rfl
  · obtain ⟨f, v, due, D, B, rfl, hRf, hB, hDue, q⟩ := h
    obtain ⟨fa, sp, G, rfl, hA, hG, hsp⟩ := hRf
    refine ⟨_, (pss_cons (ps_try_as (i := 3) (Wout := fun _ _ _ _ => False) rfl rfl sc_w_refused.nd rfl rfl ⟨rfl, by decide, Or.inl T.m_RingError⟩ takes0
        (fun W pn xe tk _ => (pss_one (ps_expr (pe_askK (P := P) (w := w) (K := K) (mg := mg) (base := base) ⟨rfl, rfl, rfl, rfl, rfl⟩ (x := "_law_ask") (i := 0) (k := 5) (E := WE W) (hr.mono (by decide)) rfl (Or.inl rfl) (fun σ => passAt tk σ) (pa_cons (pv 1) pa_nil)))))
        (fun a oe cls d pn hz hf => (pss_cons (ps_set (i := 4) sc_w_refused.nd rfl (Or.inl rfl) (pe_lst (pa_cons (pe_callB (r := rIsE2 K a cls d) (call_isE2 hz hf) (by rfl) T.n_isinstance (by decide +kernel) (pa_cons (pv 3) (pa_cons (pe_glob (v := .ref T.C_BadRing) rfl T.m_BadRing rfl) pa_nil))) (pa_cons (pe_callB (r := rIsE2 K a cls d) (call_isE2 hz hf) (by rfl) T.n_isinstance (by decide +kernel) (pa_cons (pv 3) (pa_cons (pe_glob (v := .ref T.C_BadNumber) rfl T.m_BadNumber rfl) pa_nil))) (pa_cons (pe_callB (r := rIsE2 K a cls d) (call_isE2 hz hf) (by rfl) T.n_isinstance (by decide +kernel) (pa_cons (pv 3) (pa_cons (pe_bltn (v := .ty "ValueError") (by rfl) T.n_ValueError (by decide +kernel) rfl) pa_nil))) pa_nil)))))
        (pss_one (ps_ret (pe_cmpR (r := rEqD K) (op_eqD hr.units) (pv 4) (pe_lst (pa_cons (pe_cmpR op_eq (pv 2) pe_int (nomark _)) (pa_cons (pe_cmpR op_eq (pv 2) pe_int (nomark _)) (pa_cons pe_bl pa_nil)))) (nomark _)))))))
      (pss_one (ps_ret pe_bl))), ?_⟩
    refine ⟨fa, sp, G, rfl, hA, hG H (Ex.refl _), v, rfl, hG H (Ex.refl _), hsp v H _ _ (Ex.refl _) hB fun H2 e2 => ?_⟩
    rcases hDue with ⟨rfl, rfl⟩ | ⟨rfl, rfl⟩
    · refine ⟨true, PySem.W.exm_ref T.sb_RingError T.ed_RingError T.tb_RingError T.se_BadRing_RingError, fun _ a na => ?_, fun z => nomatch z⟩
      refine q_asgL (xs := [.bl true, .bl false, .bl true]) (el_lst (ea_cons (ev_isE rfl (excC_ring T) (fun u r => r) (kit_own T.ei_BadRing T.tb_BadRing T.se_BadRing_BadRing T.se_BadRing_BadRing)) (ea_cons (ev_isE rfl (excC_ring T) (fun u r => r) (kit_own T.ei_BadNumber T.tb_BadNumber T.se_BadRing_BadNumber T.se_BadNumber_BadNumber)) (ea_cons (ev_isE rfl (excC_ring T) (fun u r => r) (kit_VE T.sv_BadRing)) ea_nil))) (by decide)) fun p H3 np e3 hp => ?_
      exact s_ret (v := .bl true) (ev_eqB3 rfl hp (ev_op (ev_var rfl) ev_c (rv_eq rfl)) (ev_op (ev_var rfl) ev_c (rv_eq rfl)) ev_c (by decide) (by decide) rfl) fun H4 e4 => q H4 ((e2.trans e3).trans e4)
    · refine ⟨true, PySem.W.exm_ref T.sb_RingError T.ed_RingError T.tb_RingError T.se_BadNumber_RingError, fun _ a na => ?_, fun z => nomatch z⟩
      refine q_asgL (xs := [.bl false, .bl true, .bl true]) (el_lst (ea_cons (ev_isE rfl (excC_num T) (fun u r => r) (kit_own T.ei_BadRing T.tb_BadRing T.se_BadNumber_BadRing T.se_BadRing_BadRing)) (ea_cons (ev_isE rfl (excC_num T) (fun u r => r) (kit_own T.ei_BadNumber T.tb_BadNumber T.se_BadNumber_BadNumber T.se_BadNumber_BadNumber)) (ea_cons (ev_isE rfl (excC_num T) (fun u r => r) (kit_VE T.sv_BadNumber)) ea_nil))) (by decide)) fun p H3 np e3 hp => ?_
      exact s_ret (v := .bl true) (ev_eqB3 rfl hp (ev_op (ev_var rfl) ev_c (rv_eq rfl)) (ev_op (ev_var rfl) ev_c (rv_eq rfl)) ev_c (by decide) (by decide) rfl) fun H4 e4 => q H4 ((e2.trans e3).trans e4)
theorem ev_refused {T : Txt K mg} {σ : L2.St} {H : Hp} {ta tb tc : TE} {f v : V} {due : Int} {D : Addr} {B : Hp → V → Prop} {E : XK} (ha : Ev ta σ H f) (hb : Ev tb σ H v) (hc : Ev tc σ H (.int due)) (hm : ∀ H H' v, Ex H H' → B H v → B H' v) (hR : Refuses P w K mg base D B H f) (hB : B H v) (hD : Due T due D) :
    Ev (tCall (spRef P w K mg base T) [] E (tCons ta (tCons tb (tCons tc tNil)))) σ H (.bl true) := fun H1 e Q q =>
  ha H1 e _ fun H2 e2 => hb H2 (e.trans e2) _ fun H3 e3 => hc H3 ((e.trans e2).trans e3) _ fun H4 e4 => ⟨f, v, due, D, B, rfl, hR.ex (((e.trans e2).trans e3).trans e4), hm _ _ _ (((e.trans e2).trans e3).trans e4) hB, hD, fun H5 e5 => q H5 (((e2.trans e3).trans e4).trans e5)⟩
end
section
variable {P : Program} {w : World} {K : PySem.W.Frag} {mg : Str → Option Value} {base : Heap}
/-! ### a def whose code object is known; the end with the tables of the defs -/
theorem okC {x qual : Str} {st : Stmt} {f : Addr} {fd : FuncData} {N ps : List Str} {k : Nat} {sp : Sp} {oc kV dc pm ct cdv : Value} {od an : Option Addr} {sl : Array (Option Value)} (F : Fun K x qual st f fd)
    (hl : K.lookup f = some ⟨oc, od, .func (PySem.W.fnOf x qual (defArgs st) (defBody st) (defScope st) .none kV dc pm an cdv ct), sl⟩) (S : FnScope N ps (defScope st)) (len : ∀ vs H Q E, sp vs H Q E → vs.length = ps.length)
    (hbody : ∀ (A : Around) (outer : List Env) (s : Shared) (H : Hp) (vs : List V) (Q : VK) (E : XK), Room k (A.deeper (envOfC qual (defScope st) s.heap.objs.size f cdv)) → sp vs H Q E →
      ∃ t, PSs (cxOf CX0 P w K mg base N qual (defScope st) f cdv A outer s H E).nox (defBody st) t ∧ t { nx := fun _ H' => Q .non H', rt := Q } (start N vs) H) : FnOk P w K mg base CX0 (k + 1) f fd ps sp := by
  obtain ⟨oc', od', kV', doc', pm', an', cdv', ct', osl', rfl, lk, hcd⟩ := F.ex
  have e := Option.some.inj (hl.symm.trans lk)
  injection e with e1 e2 e3 e4
  injection e3 with e5
  have e6 : cdv = cdv' := congrArg FuncData.code e5
  subst e6
  refine fn_of lk hcd S len fun A outer s H vs Q E hr hsp => ?_
  obtain ⟨t, h, q⟩ := hbody A outer s H vs Q E hr hsp
  exact ⟨t, h.nox, q⟩
theorem walk_ofT {l : PySem.W.OpenLaw} {n k : Nat} {q : Program} {loose : List Str} {XP : (Str → Option Value) → Heap → Prop} {YP : World → Heap → Prop} {d : DefRec} {Kf : Params → PySem.W.Frag} {CX : World → CXT} {x : Str} (hn : l.most = some n) (hn2 : n ≤ sizeLine) (hdf : d.params.defaults = [])
    (hr : Room k callerA) (hY : ∀ (w : World) (h : Heap), YP w h → (Kf w.params).In h)
    (F : ∀ (w : World) (mg : Str → Option Value) (fa : Addr) (h : Heap), YP w h → (Kf w.params).In h → h.Ns mainGlobals mg → mg d.name = some (.ref fa) →
      (∀ (y : Str) (c Pt : Addr), ((recsOf q).find? (fun e => e.name == y)).isSome = true → PySem.W.tabIn (Kf w.params) y = some (c, Pt) → PySem.W.CodeHd h c Pt ∧ h.get? Pt = some { cls := .none, data := .fields #[] }) → LamX.LawAtS l w (Kf w.params) (CX w) k n x mg fa h)
    (hCX : ∀ (w : World) (H : Hp) (s : Shared) (e : Value) (s' : Shared), CX w [] H s (fun _ _ _ => False) e s' → False) : PySem.W.WalkO q loose XP YP l.row.toRowW d [] (fun f vs => PySem.call f vs) := by
  refine Att.attach_callB hn hdf fun w s₀ s₁ mg mb fa o pm cd doc a vs ns G Y ho hd hcd hmg hobj hints hlen hbits hg => ?_
  have KX := hY w _ Y
  obtain ⟨fd, cs, sp, hT, nT, C, hb, hsp, hF⟩ := F w mg fa _ Y KX G.T.g hmg fun y c Pt hy ht => by
    obtain ⟨dr, hdr⟩ := Option.isSome_iff_exists.mp hy
    exact PySem.W.tab_of G.T KX hdr ht
  exact LamX.law_callTs KX G.T.g G.T.b G.T.builtins G.T.nolimit hg hT nT C G.T.bmain hobj hints (Nat.le_trans hlen hn2) hr hF hb (fun H hH hS => hsp H a ns hlen hbits hH hS) fun H e s' => hCX w H s₁ e s'
end
section
variable {P : Program} {w : World} {K : PySem.W.Frag} {mg : Str → Option Value} {base : Heap}
/-! ### bad things in lists; heaps without one address; tables that change -/
def Bad1 (K : PySem.W.Frag) (H : Hp) (v : V) : Prop := Item K H v false ∨ ∃ m : Int, v = .int m ∧ (m < 0 ∨ 200 < m)
theorem Bad1.ex {H H' : Hp} {v : V} (e : Ex H H') (h : Bad1 K H v) : Bad1 K H' v := h.elim (fun z => .inl (z.ex e)) .inr
theorem bad_in {H : Hp} {a : Addr} {pre post : List Int} {one : V} (h : H a = some (.lst (pre.map V.int ++ one :: post.map V.int))) (hz : pre.length + post.length ≤ 100) (hB : Bad1 K H one) : BadR K H (.ref a) := by
  refine .inr ⟨a, _, rfl, sq_of h, ?_, ?_⟩
  · rw [List.length_append, List.length_cons, List.length_map, List.length_map]
    omega
  · rcases hB with hI | ⟨m, rfl, hm⟩
    · refine .inr (.inl ⟨pre.map (fun _ => true) ++ false :: post.map (fun _ => true), ?_, fun i x hx => ?_, ?_⟩)
      · rw [List.length_append, List.length_append, List.length_cons, List.length_cons, List.length_map, List.length_map, List.length_map, List.length_map]
      · by_cases h1 : i < pre.length
        · rw [List.getElem?_append_left (by rw [List.length_map]; exact h1)] at hx
          obtain ⟨n, _, rfl⟩ := map_get hx
          rw [List.getD_eq_getElem?_getD, List.getElem?_append_left (by rw [List.length_map]; exact h1), List.getElem?_map, List.getElem?_eq_getElem h1]
          exact item_int
        · rw [List.getElem?_append_right (by rw [List.length_map]; omega), List.length_map] at hx
          rw [List.getD_eq_getElem?_getD, List.getElem?_append_right (by rw [List.length_map]; omega), List.length_map]
          cases hk : i - pre.length with
          | zero =>
            rw [hk] at hx
            cases hx
            exact hI
          | succ j =>
            rw [hk, List.getElem?_cons_succ] at hx
            obtain ⟨n, hn, rfl⟩ := map_get hx
            rw [List.getElem?_cons_succ, List.getElem?_map, hn]
            exact item_int
      · rw [List.all_append, List.all_cons]
        simp
    · refine .inr (.inr ⟨pre ++ m :: post, by rw [List.map_append, List.map_cons], m, List.mem_append_right _ List.mem_cons_self, hm⟩)
def del (H : Hp) (r : Addr) : Hp := fun b => if b = r then none else H b
theorem del_ne {H : Hp} {r b : Addr} (h : b ≠ r) : del H r b = H b := if_neg h
theorem del_ex {H : Hp} {r : Addr} : Ex (del H r) H := fun b o e => by
  by_cases h : b = r
  · rw [h] at e
    have : del H r r = none := if_pos rfl
    rw [this] at e
    cases e
  · rw [del_ne h] at e
    exact e
theorem ex_del {G H : Hp} {r : Addr} (e : Ex G H) (n : G r = none) : Ex G (del H r) := fun b o eb => by
  rw [del_ne (ne_of_none eb n)]
  exact e _ _ eb
theorem del_mono {H H' : Hp} {r : Addr} (e : ∀ b o, b ≠ r → H b = some o → H' b = some o) : Ex (del H r) (del H' r) := fun b o eb => by
  by_cases h : b = r
  · rw [h] at eb
    have : del H r r = none := if_pos rfl
    rw [this] at eb
    cases eb
  · rw [del_ne h] at eb ⊢
    exact e b o h eb
theorem extn_l {H H' : Hp} {a : Addr} {xs : List V} (e : LamX.ExtN H H') (h : SqL K H a xs) : SqL K H' a xs := by
  rcases h with (h | ⟨o, h⟩) | h
  · exact .inl (.inl (e _ _ h fun ps z => by cases z))
  · exact .inl (.inr ⟨o, e _ _ h fun ps z => by cases z⟩)
  · exact .inr h
theorem extn_ty {H H' : Hp} {x : V} {t : Value} (e : LamX.ExtN H H') (h : TyX K H x t) : TyX K H' x t := by
  cases h with
  | base b =>
    refine .base ?_
    cases b with
    | non => exact .non
    | bl y => exact .bl y
    | int i => exact .int i
    | str y => exact .str y
    | flt y => exact .flt y
    | lst q => exact .lst (e _ _ q fun ps z => by cases z)
    | frz q => exact .frz (e _ _ q fun ps z => by cases z)
    | tup q => exact .tup (e _ _ q fun ps z => by cases z)
    | dK q => exact .dK (e _ _ q fun ps z => by cases z)
    | dT q => exact .dT (e _ _ q fun ps z => by cases z)
    | ins q a1 a2 a3 a4 a5 => exact .ins (e _ _ q fun ps z => by cases z) a1 a2 a3 a4 a5
  | byt y => exact .byt y
  | set q => exact .set (e _ _ q fun ps z => by cases z)
  | kList q c => exact .kList q c
  | kTuple q c => exact .kTuple q c
  | kDict q c => exact .kDict q c
  | fTuple q => exact .fTuple (e _ _ q fun ps z => by cases z)
  | fDict q => exact .fDict (e _ _ q fun ps z => by cases z)
theorem extn_item {H H' : Hp} {v : V} {b : Bool} (e : LamX.ExtN H H') (h : Item K H v b) : Item K H' v b := by
  obtain ⟨t, b1, b2, h1, h2, h3, h4⟩ := h
  exact ⟨t, b1, b2, extn_ty e h1, h2, h3, h4⟩
theorem extn_badR {H H' : Hp} {v : V} (e : LamX.ExtN H H') (h : BadR K H v) : BadR K H' v := by
  rcases h with ⟨t, h1, h2⟩ | ⟨a, xs, rfl, h1, hz, h2⟩
  · exact .inl ⟨t, extn_ty e h1, h2⟩
  · refine .inr ⟨a, xs, rfl, extn_l e h1, hz, ?_⟩
    rcases h2 with h | ⟨bs, h3, h4, h5⟩ | h
    · exact .inl h
    · exact .inr (.inl ⟨bs, h3, fun i x hx => extn_item e (h4 i x hx), h5⟩)
    · exact .inr (.inr h)
theorem extn_badN {H H' : Hp} {v : V} (e : LamX.ExtN H H') (h : BadN K H v) : BadN K H' v := h.elim (fun z => .inl (extn_item e z)) .inr
end
section
variable {P : Program} {w : World} {K : PySem.W.Frag} {mg : Str → Option Value} {base : Heap}
/-! ### bad things as values -/
section
variable {α : Type} {R : α → Hp → V → Prop} {σ : L2.St} {H : Hp} {te ta' tb' : TE} {ta : TA} {a : α} {as : List α} {v : V} {xs ys : List V}
theorem ed_val (h : Ev te σ H v) (hv : ∀ H', R a H' v) : EvD R te σ H a := fun H1 e Q q => h H1 e _ fun H2 e2 => q v H2 e2 (hv H2)
theorem ed_lst (h : EvL te σ H xs) (hv : ∀ p H', H' p = some (.lst xs) → R a H' (.ref p)) : EvD R te σ H a := fun H1 e Q q => h H1 e _ fun p H2 _ e2 hp => q _ H2 e2 (hv p H2 hp)
theorem ed_tup (h : EvU te σ H xs) (hv : ∀ p H', H' p = some (.tup xs) → R a H' (.ref p)) : EvD R te σ H a := fun H1 e Q q => h H1 e _ fun p H2 _ e2 hp => q _ H2 e2 (hv p H2 hp)
theorem ed_dict (hv : ∀ p H', H' p = some (.dK []) → R a H' (.ref p)) : EvD R tDNewK σ H a := fun H1 e Q q p np => q (.ref p) _ (Ex.new np) (hv _ _ upd_same)
theorem q_asgD {D : Ends} {tz : TS} {i : Nat} (h : EvDs R ta σ H as) (hz : as.length ≤ 1000) (k : ∀ p vs H1, Ex H H1 → H1 p = none → Rs R as H1 vs → tz D (σ.set i (some (.ref p))) (upd H1 p (.lst vs))) : tSeq (tAsg (tLst ta) (gName i)) tz D σ H :=
  h H (Ex.refl _) _ fun vs H1 e1 hv => ⟨sz_of (by rw [hv.1]; omega), fun l nl => k l vs H1 e1 nl hv⟩
theorem Rs.each {vs : List V} (h : Rs R as H vs) (hv : v ∈ vs) : ∃ a, R a H v := by
  obtain ⟨i, hi⟩ := List.getElem?_of_mem hv
  obtain ⟨a, _, hr⟩ := h.2 i v hi
  exact ⟨a, hr⟩
theorem el_catM (ha : EvL ta' σ H xs) (hb : EvL tb' σ H ys) (hz : xs.length + ys.length ≤ 100000) : EvL (tOp rCat ta' tb') σ H (xs ++ ys) := fun H1 e Q q =>
  ha H1 e _ fun p H2 np e2 hp => hb H2 (e.trans e2) _ fun r H3 nr e3 hr => ⟨p, r, _, _, rfl, rfl, e3 _ _ hp, hr, sz_of hz, fun z nz => q z _ (fresh_back (e2.trans e3) nz) ((e2.trans e3).trans (Ex.new nz)) upd_same⟩
/-- [x] * k -/
theorem el_repM {x : V} {k : Nat} (ha : EvL ta' σ H [x]) (hb : Ev tb' σ H (.int (k : Int))) (hk : k ≤ 1000) : EvL (tOp rRep ta' tb') σ H (List.replicate k x) := fun H1 e Q q =>
  ha H1 e _ fun p H2 np e2 hp => hb H2 (e.trans e2) _ fun H3 e3 => ⟨p, (k : Int), _, rfl, rfl, e3 _ _ hp, by omega, by omega, sz_of (by
    rw [Int.toNat_natCast]
    show 1 * k ≤ 100000
    omega), fun z nz => q z _ (fresh_back (e2.trans e3) nz) ((e2.trans e3).trans (Ex.new nz)) (by
    rw [upd_same, Int.toNat_natCast]
    congr 2
    clear ha hb hk q
    induction k with
    | zero => rfl
    | succ k ih => rw [List.replicate_succ, List.flatten_cons, ih, List.replicate_succ]; rfl)⟩
theorem el_repI {x : Int} {k : Nat} (ha : EvL ta' σ H [.int x]) (hb : Ev tb' σ H (.int (k : Int))) (hk : k ≤ 1000) : EvL (tOp rRep ta' tb') σ H ((List.replicate k x).map V.int) := by
  rw [List.map_replicate]
  exact el_repM ha hb hk
end
section
variable {H : Hp} {v : V} {t : String}
theorem item_ty {b1 b2 : Bool} (h : TyX K H v (.type t)) (h1 : kitB t "int" = some b1) (h2 : kitB t "bool" = some b2) : Item K H v (b1 && !b2) := ⟨_, b1, b2, h, kit_ty h1, kit_ty h2, rfl⟩
theorem item_non : Item K H .non false := item_ty (b1 := false) (b2 := false) (.base .non) (by decide +kernel) (by decide +kernel)
theorem item_str {x : Str} : Item K H (.str x) false := item_ty (b1 := false) (b2 := false) (.base (.str x)) (by decide +kernel) (by decide +kernel)
theorem item_bl {x : Bool} : Item K H (.bl x) false := item_ty (b1 := true) (b2 := true) (.base (.bl x)) (by decide +kernel) (by decide +kernel)
theorem item_lst {p : Addr} {xs : List V} (h : H p = some (.lst xs)) : Item K H (.ref p) false := item_ty (b1 := false) (b2 := false) (.base (.lst h)) (by decide +kernel) (by decide +kernel)
theorem item_tup {p : Addr} {xs : List V} (h : H p = some (.tup xs)) : Item K H (.ref p) false := item_ty (b1 := false) (b2 := false) (.base (.tup h)) (by decide +kernel) (by decide +kernel)
theorem item_dict {p : Addr} (h : H p = some (.dK [])) : Item K H (.ref p) false := item_ty (b1 := false) (b2 := false) (.base (.dK h)) (by decide +kernel) (by decide +kernel)
theorem badr_non : BadR K H .non := .inl ⟨_, .base .non, kit_ty (by decide +kernel)⟩
theorem badr_str {x : Str} : BadR K H (.str x) := .inl ⟨_, .base (.str x), kit_ty (by decide +kernel)⟩
theorem badr_int {n : Int} : BadR K H (.int n) := .inl ⟨_, .base (.int n), kit_ty (by decide +kernel)⟩
theorem badr_tup {p : Addr} {xs : List V} (h : H p = some (.tup xs)) : BadR K H (.ref p) := .inl ⟨_, .base (.tup h), kit_ty (by decide +kernel)⟩
theorem badr_dict {p : Addr} (h : H p = some (.dK [])) : BadR K H (.ref p) := .inl ⟨_, .base (.dK h), kit_ty (by decide +kernel)⟩
theorem badr_len {p : Addr} {xs : List V} (h : H p = some (.lst xs)) (h0 : xs.length = 0 ∨ 12 < xs.length) (hz : xs.length ≤ 1000) : BadR K H (.ref p) := .inr ⟨p, xs, rfl, sq_of h, hz, .inl h0⟩
end
def RBad (K : PySem.W.Frag) (_ : Unit) (H : Hp) (v : V) : Prop := Bad1 K H v
theorem rbad_mono : Mono (RBad K) := fun _ _ _ _ e h => Bad1.ex e h
def RRing (K : PySem.W.Frag) (_ : Unit) (H : Hp) (v : V) : Prop := BadR K H v
theorem rring_mono : Mono (RRing K) := fun _ _ _ _ e h => BadR.ex e h
def RNum (K : PySem.W.Frag) (_ : Unit) (H : Hp) (v : V) : Prop := BadN K H v
theorem rnum_mono : Mono (RNum K) := fun _ _ _ _ e h => BadN.ex e h
end
section
variable {P : Program} {w : World} {K : PySem.W.Frag} {mg : Str → Option Value} {base : Heap}
/-! ### the law's own step -/
theorem own_dst (a b : Int) : (if a - b > 0 then a - b else -(a - b)) = RD.dst a b := by
  unfold RD.dst
  split <;> omega
theorem ok_w_step (T : Txt K mg) : FnOk P w K mg base CX0 1 T.f_w_step T.fd_w_step ["_law_ring"] (spStepped K) := by
  refine T.F_w_step.ok sc_w_step (fun vs H Q E h => ?_) (fun cdv A outer s H vs Q E hr h => ?_)
  · obtain ⟨a, ns, rfl, _⟩ := h
    rfl
  · obtain ⟨a, ns, rfl, hS, h1, hk, q⟩ := h
    refine ⟨_, (pss_cons (ps_set (i := 1) sc_w_step.nd rfl (Or.inl rfl) (pe_lst pa_nil))
      (pss_cons (ps_for PassesOwn.never rfl (pi_range1 (by rfl) T.n_range (pa_cons (pe_callB (r := rLenS K) call_len_seq (by rfl) T.n_len (by decide +kernel) (pa_cons (pv 0) pa_nil)) pa_nil)) (pg_name (i := 2) sc_w_step.nd rfl (Or.inl rfl))
        (pss_cons (ps_set (i := 3) sc_w_step.nd rfl (Or.inl rfl) (pe_op op_sub (pe_ix (r := rIxL K) ix_list (pv 0) (pv 2) (fun _ _ => rfl)) (pe_ix (r := rIxL K) ix_list (pv 0) (pe_op op_mod (pe_op op_add (pv 2) pe_int) (pe_callB (r := rLenS K) call_len_seq (by rfl) T.n_len (by decide +kernel) (pa_cons (pv 0) pa_nil))) (fun _ _ => rfl))))
        (pss_one (ps_expr (pe_bm PySem.F.plainAttrs_list PySem.F.slot_list_append PySem.F.type_list_append mt_append (pv 1) (pa_cons (pe_ifExp (pt_cmpR op_gt (pv 3) pe_int (nomark _)) (pv 3) (pe_un un_neg (pv 3))) pa_nil))))))
      (pss_one (ps_ret (pv 1))))), ?_⟩
    refine q_asgL (el_lst ea_nil (by decide)) fun f H1 nf e1 hf => ?_
    refine q_forR1 (n := (ns.length : Int)) (ea_cons (ev_is (ev_len (ev_var rfl) (ex_l e1 hS)) (by rw [List.length_map])) ea_nil) (by omega) (fun i σ' H' => ∃ (x2 x3 : Option V), σ' = [some (.ref a), some (.ref f), x2, x3] ∧ Ex H H' ∧ H' f = some (.lst (((RD.D ns).take i).map V.int)))
      (fun H2 e2 => ⟨none, none, rfl, e1.trans e2, e2 _ _ hf⟩) ?_ ?_
    · rintro i σ' H' hi ⟨x2, x3, rfl, p1, p2⟩
      have hS' := ex_l p1 hS
      have hi' : i < ns.length := by omega
      have hm : (i + 1) % ns.length < ns.length := Nat.mod_lt _ (by omega)
      have g1 := at_int (RD.ev_lt hi')
      have g2 := at_int (RD.ev_lt hm)
      rw [RD.ev_mod] at g2
      refine q_asg (ev_op (ev_ixL (ev_var rfl) (ev_var rfl) hS' g1) (ev_ixL (ev_var rfl) (ev_is (ev_op (ev_op (ev_var rfl) ev_c rv_I0) (ev_is (ev_len (ev_var rfl) hS') (by rw [List.length_map])) (rv_I (by omega))) (by
        show V.int (((i : Int) + 1) % (ns.length : Int)) = V.int (((i + 1) % ns.length : Nat) : Int)
        rw [Int.natCast_emod]
        rfl)) hS' g2) rv_I0) fun H2 e2 => ?_
      generalize hx : RD.ev ns i = x
      generalize hy : RD.ev ns (i + 1) = y
      have hif : Ev (tIf (tTest (tOp (rI0 fun i j => .bl (decide (j < i))) (tVar 3) (tC (.int 0)))) (tVar 3) (tUn (rU fun i => .int (-i)) (tVar 3))) [some (.ref a), some (.ref f), some (.int (i : Int)), some (.int (x - y))] H2 (.int (RD.dst x y)) := by
        rw [← own_dst]
        refine ev_if (et_test (ev_op (ev_var rfl) ev_c rv_I0)) (fun hb => ?_) (fun hb => ?_)
        · rw [if_pos (of_decide_eq_true hb)]
          exact ev_var rfl
        · rw [if_neg (of_decide_eq_false hb)]
          exact ev_un (ev_var rfl) ru_neg
      refine s_app (e2 _ _ p2) (ev_var rfl) hif (by rw [List.length_map, List.length_take]; omega) fun H3 e3 => ?_
      refine ⟨_, _, rfl, Ex.mut ((p1.trans e2).trans e3) nf, ?_⟩
      rw [upd_same, List.take_add_one, RD.D_get hi', List.map_append, hx, hy]
      rfl
    · rintro σ' H' ⟨x2, x3, rfl, p1, p2⟩
      rw [show ((ns.length : Int)).toNat = ns.length by omega, List.take_of_length_le (by rw [RD.D_len]; exact Nat.le_refl _)] at p2
      exact ⟨.ref f, rfl, q f H' nf p1 p2⟩
end
section
variable {P : Program} {w : World} {K : PySem.W.Frag} {mg : Str → Option Value} {base : Heap}
/-! ### known: whether rings come from some ring -/
theorem ean_toldE {T : Txt K mg} {σ : L2.St} {H : Hp} {ta : TE} {ns : List Int} {E : XK} {N b : Nat} {an : An} (ha : EvI K ta σ H ns) (hR : Ring ns) (hC : RD.IsC ns N b) (h : tell N b (mx (RD.itr b ns)) = an) : EvAn T (tCall (spTold T) [] E (tCons ta tNil)) σ H an := by
  rw [← h]
  exact ean_told ha hR hC
theorem el_catI {σ : L2.St} {H : Hp} {ta tb : TE} {ns ms : List Int} (ha : EvL ta σ H (ns.map V.int)) (hb : EvL tb σ H (ms.map V.int)) (hz : ns.length + ms.length ≤ 1000) : EvL (tOp rCat ta tb) σ H ((ns ++ ms).map V.int) := by
  rw [List.map_append]
  exact el_catM ha hb (by rw [List.length_map, List.length_map]; omega)
theorem el_ownstep {σ : L2.St} {H : Hp} {ta : TE} {ns : List Int} {E : XK} (ha : EvI K ta σ H ns) (h1 : 1 ≤ ns.length) (h2 : ns.length ≤ 1000) : EvL (tCall (spStepped K) [] E (tCons ta tNil)) σ H ((RD.D ns).map V.int) := fun H1 e Q q =>
  ha H1 e _ fun p H2 e2 hp => ⟨p, ns, rfl, hp, h1, h2, fun r H3 nr e3 hr => q r H3 (fresh_back e2 nr) (e2.trans e3) hr⟩
def spTrue0 : Sp := fun vs H Q _ => vs = [] ∧ RetV (.bl true) H Q
theorem sg_false {l : List Int} (h : sgB l 0 = false) : ¬ RD.Sg l 0 := fun z => by
  have := (sg_iff l 0).mpr z
  rw [h] at this
  cases this
theorem ok_w_came_right (T : Txt K mg) : FnOk P w K mg base CX0 6 T.f_w_came_right T.fd_w_came_right [] spTrue0 := by
  refine T.F_w_came_right.ok sc_w_came_right (fun vs H Q E h => ?_) (fun cdv A outer s H vs Q E hr h => ?_)
  · rw [h.1]
    rfl
  · obtain ⟨rfl, q⟩ := h
    refine ⟨_, (pss_cons (ps_set (i := 0) sc_w_came_right.nd rfl (Or.inl rfl) (pe_lst (pa_cons (pe_tup (pa_cons (pe_lst (pa_cons pe_int (pa_cons pe_int (pa_cons pe_int (pa_cons pe_int (pa_cons pe_int pa_nil)))))) (pa_cons pe_bl pa_nil))) (pa_cons (pe_tup (pa_cons (pe_op op_cat (pe_op op_rep (pe_lst (pa_cons pe_int pa_nil)) pe_int) (pe_lst (pa_cons pe_int pa_nil))) (pa_cons pe_bl pa_nil))) (pa_cons (pe_tup (pa_cons (pe_op op_rep (pe_lst (pa_cons pe_int pa_nil)) pe_int) (pa_cons pe_bl pa_nil))) (pa_cons (pe_tup (pa_cons (pe_op op_cat (pe_op op_rep (pe_lst (pa_cons pe_int pa_nil)) pe_int) (pe_lst (pa_cons pe_int pa_nil))) (pa_cons pe_bl pa_nil))) pa_nil))))))
      (pss_cons (ps_set (i := 0) sc_w_came_right.nd rfl (Or.inl rfl) (pe_op op_cat (pv 0) (pe_lst (pa_cons (pe_tup (pa_cons (pe_op op_rep (pe_lst (pa_cons pe_int pa_nil)) pe_int) (pa_cons pe_bl pa_nil))) pa_nil))))
      (pss_cons (ps_set (i := 0) sc_w_came_right.nd rfl (Or.inl rfl) (pe_op op_cat (pv 0) (pe_lst (pa_cons (pe_tup (pa_cons (pe_lst (pa_cons pe_int pa_nil)) (pa_cons pe_bl pa_nil))) (pa_cons (pe_tup (pa_cons (pe_lst (pa_cons pe_int pa_nil)) (pa_cons pe_bl pa_nil))) (pa_cons (pe_tup (pa_cons (pe_op op_rep (pe_lst (pa_cons pe_int pa_nil)) pe_int) (pa_cons pe_bl pa_nil))) (pa_cons (pe_tup (pa_cons (pe_lst (pa_cons pe_int (pa_cons pe_int (pa_cons pe_int pa_nil)))) (pa_cons pe_bl pa_nil))) (pa_cons (pe_tup (pa_cons (pe_lst (pa_cons pe_int (pa_cons pe_int (pa_cons pe_int pa_nil)))) (pa_cons pe_bl pa_nil))) pa_nil))))))))
      (pss_cons (ps_set (i := 0) sc_w_came_right.nd rfl (Or.inl rfl) (pe_op op_cat (pv 0) (pe_lst (pa_cons (pe_tup (pa_cons (pe_lst (pa_cons pe_int (pa_cons pe_int pa_nil))) (pa_cons pe_bl pa_nil))) (pa_cons (pe_tup (pa_cons (pe_lst (pa_cons pe_int (pa_cons pe_int pa_nil))) (pa_cons pe_bl pa_nil))) pa_nil)))))
      (pss_cons (ps_for PassesOwn.never rfl (pi_list (pv 0)) (pg_tup rfl (pgs_cons (pg_name (i := 1) sc_w_came_right.nd rfl (Or.inl rfl)) (pgs_cons (pg_name (i := 2) sc_w_came_right.nd rfl (Or.inl rfl)) pgs_nil)))
        (pss_cons (ps_set (i := 3) sc_w_came_right.nd rfl (Or.inl rfl) (pe_call (ok_came T) (hr.mono (by decide)) (by rfl) T.g_came T.F_came.kp T.b_came .nil pass0 (pa_cons (pv 1) pa_nil)))
        (pss_cons (ps_if (PW.pt (pw_or (pt_cmpR op_ne (pe_callB (r := rIsi K) call_isi (by rfl) T.n_isinstance (by decide +kernel) (pa_cons (pv 3) (pa_cons (pe_glob (v := .ref T.C_Came) rfl T.m_Came rfl) pa_nil))) (pv 2) (nomark _)) (pw_or1 (pt_cmpR op_eq (pe_callB (r := rIsi K) call_isi (by rfl) T.n_isinstance (by decide +kernel) (pa_cons (pv 3) (pa_cons (pe_glob (v := .ref T.C_Never) rfl T.m_Never rfl) pa_nil))) (pv 2) (nomark _)))))
          (pss_one (ps_ret pe_bl))
          pss_nil)
        (pss_one (ps_if (PW.pt (pw_and (pt_val (pv 2)) (pw_and1 (pt_cmpR (r := rNeD K) (op_neD hr.units) (pe_call (ok_w_step T) (hr.mono (by decide)) (by rfl) T.g_w_step T.F_w_step.kp T.b_w_step .nil pass0 (pa_cons (pe_fldK (K := K) rfl (pv 3) rfl) pa_nil)) (pv 1) (nomark _)))))
          (pss_one (ps_ret pe_bl))
          pss_nil)))))
      (pss_one (ps_ret pe_bl))))))), ?_⟩
    refine q_asgDL (edl_lst rpr_mono (as := [([3, 3, 2, 2, 2], .bl true), (List.replicate 11 1 ++ [11], .bl true), (List.replicate 12 200, .bl true), (List.replicate 11 200 ++ [0], .bl false)])
      (eds_cons rpr_mono (ed_pr (el_lst (ea_cons ev_c (ea_cons ev_c (ea_cons ev_c (ea_cons ev_c (ea_cons ev_c ea_nil))))) (by decide)) ev_c) (eds_cons rpr_mono (ed_pr (el_catI (el_repI (k := 11) (el_lst (ea_cons ev_c ea_nil) (by decide)) ev_c (by decide)) (ms := [11]) (el_lst (ea_cons ev_c ea_nil) (by decide)) (by decide)) ev_c) (eds_cons rpr_mono (ed_pr (el_repI (k := 12) (el_lst (ea_cons ev_c ea_nil) (by decide)) ev_c (by decide)) ev_c) (eds_cons rpr_mono (ed_pr (el_catI (el_repI (k := 11) (el_lst (ea_cons ev_c ea_nil) (by decide)) ev_c (by decide)) (ms := [0]) (el_lst (ea_cons ev_c ea_nil) (by decide)) (by decide)) ev_c) eds_nil)))) (by decide)) fun p1 v1 H1 e1 hp1 hv1 => ?_
    refine q_asgDL (edl_cat rpr_mono (bs := [(List.replicate 11 200, .bl false)]) (edl_var rpr_mono rfl hp1 hv1) (edl_lst rpr_mono (eds_cons rpr_mono (ed_pr (el_repI (k := 11) (el_lst (ea_cons ev_c ea_nil) (by decide)) ev_c (by decide)) ev_c) eds_nil) (by decide)) (by decide)) fun p2 v2 H2 e2 hp2 hv2 => ?_
    refine q_asgDL (edl_cat rpr_mono (bs := [([0], .bl true), ([5], .bl false), (List.replicate 12 0, .bl true), ([1, 2, 3], .bl true), ([1, 2, 4], .bl false)]) (edl_var rpr_mono rfl hp2 hv2) (edl_lst rpr_mono (eds_cons rpr_mono (ed_pr (el_lst (ea_cons ev_c ea_nil) (by decide)) ev_c) (eds_cons rpr_mono (ed_pr (el_lst (ea_cons ev_c ea_nil) (by decide)) ev_c) (eds_cons rpr_mono (ed_pr (el_repI (k := 12) (el_lst (ea_cons ev_c ea_nil) (by decide)) ev_c (by decide)) ev_c) (eds_cons rpr_mono (ed_pr (el_lst (ea_cons ev_c (ea_cons ev_c (ea_cons ev_c ea_nil))) (by decide)) ev_c) (eds_cons rpr_mono (ed_pr (el_lst (ea_cons ev_c (ea_cons ev_c (ea_cons ev_c ea_nil))) (by decide)) ev_c) eds_nil))))) (by decide)) (by decide)) fun p3 v3 H3 e3 hp3 hv3 => ?_
    refine q_asgDL (edl_cat rpr_mono (bs := [([7, 7], .bl true), ([7, 6], .bl false)]) (edl_var rpr_mono rfl hp3 hv3) (edl_lst rpr_mono (eds_cons rpr_mono (ed_pr (el_lst (ea_cons ev_c (ea_cons ev_c ea_nil)) (by decide)) ev_c) (eds_cons rpr_mono (ed_pr (el_lst (ea_cons ev_c (ea_cons ev_c ea_nil)) (by decide)) ev_c) eds_nil)) (by decide)) (by decide)) fun p4 v4 H4 e4 hp4 hv4 => ?_
    have facts : ∀ a, a ∈ ((([([3, 3, 2, 2, 2], .bl true), (List.replicate 11 1 ++ [11], .bl true), (List.replicate 12 200, .bl true), (List.replicate 11 200 ++ [0], .bl false)] ++ [(List.replicate 11 200, .bl false)]) ++ [([0], .bl true), ([5], .bl false), (List.replicate 12 0, .bl true), ([1, 2, 3], .bl true), ([1, 2, 4], .bl false)]) ++ [([7, 7], .bl true), ([7, 6], .bl false)] : List (List Int × V)) → ∃ d : Bool, a.2 = .bl d ∧ Ring a.1 ∧ sgB a.1 0 = d := by
      intro a ha
      simp only [List.cons_append, List.nil_append, List.mem_cons, List.not_mem_nil, or_false] at ha
      rcases ha with rfl | rfl | rfl | rfl | rfl | rfl | rfl | rfl | rfl | rfl | rfl | rfl
      all_goals exact ⟨_, rfl, ring_by (by decide), by decide +kernel⟩
    refine n_forD rpr_mono (edl_var rpr_mono rfl hp4 hv4) (fun i σ' => ∃ x0 x1 x2 x3 : Option V, σ' = [x0, x1, x2, x3]) ⟨_, _, _, _, rfl⟩ ?_ ?_
    · rintro i ⟨ns, x⟩ v σ' H5 Nx hi e5 hPr ⟨x0, x1, x2, x3, rfl⟩ hNx
      obtain ⟨t, p, rfl, ht, hp⟩ := hPr
      obtain ⟨d, hx, hR, hd⟩ := facts _ (List.mem_of_getElem? hi)
      dsimp only at hx hR hd hp
      subst hx
      have hpos := hR.pos
      have hfew := hR.few
      refine ⟨t, _, rfl, st_of ht, rfl, .ref p, _, rfl, .bl d, _, rfl, rfl, ?_⟩
      refine q_came (T := T) (ns := ns) (ei_var rfl (sq_of hp)) hR (fun hno v H6 e6 hv => ?_) (fun hsg cs v c H6 hcl hcn hD nc e6 hv => ?_)
      · have hd0 : d = false := by
          cases d with
          | false => rfl
          | true => exact absurd ((sg_iff ns 0).mp hd) hno
        subst hd0
        refine q_when (b := false) (et_is (et_or (a := false) (b := false) (et_is (et_test (ev_op (ev_isNv (T := T) rfl hv (kit_Never_Came T)) (ev_var rfl) (rv_ne rfl))) rfl) fun _ => et_is (et_test (ev_op (ev_isNv (T := T) rfl hv (kit_Never_Never T)) (ev_var rfl) (rv_eq rfl))) (by decide)) rfl) (fun z => nomatch z) fun _ H7 e7 => ?_
        exact s_when (b := false) (et_is (et_and (a := false) (b := false) (et_B (ev_var rfl)) fun z => nomatch z) rfl) (fun z => nomatch z) fun _ H8 e8 => hNx _ _ ((e6.trans e7).trans e8) ⟨_, _, _, _, rfl⟩
      · have hd1 : d = true := by rw [← hd]; exact (sg_iff ns 0).mpr hsg
        subst hd1
        refine q_when (b := false) (et_is (et_or (a := false) (b := false) (et_is (et_test (ev_op (ev_isCm (T := T) rfl hv (kit_Came_Came T)) (ev_var rfl) (rv_ne rfl))) rfl) fun _ => et_is (et_test (ev_op (ev_isCm (T := T) rfl hv (kit_Came_Never T)) (ev_var rfl) (rv_eq rfl))) (by decide)) rfl) (fun z => nomatch z) fun _ H7 e7 => ?_
        have hv7 := hv.ex e7
        have hp7 := e7 _ _ (e6 _ _ hp)
        exact s_when (b := false) (et_is (et_and (a := true) (b := false) (et_B (ev_var rfl)) fun _ => et_test (ev_neI0 (ei_L (el_ownstep (ei_ring (T := T) rfl hv7) (by omega) (by omega))) (ei_var rfl (sq_of hp7)) hD)) rfl) (fun z => nomatch z) fun _ H8 e8 => hNx _ _ ((e6.trans e7).trans e8) ⟨_, _, _, _, rfl⟩
    · rintro σ' H5 e5 ⟨x0, x1, x2, x3, rfl⟩
      exact s_ret (v := .bl true) ev_c fun H6 e6 => q H6 (((((e1.trans e2).trans e3).trans e4).trans e5).trans e6)
end
section
variable {P : Program} {w : World} {K : PySem.W.Frag} {mg : Str → Option Value} {base : Heap}
/-! ### known: how long rounds are -/
theorem has_course {ns : List Int} (hR : Ring ns) : ∃ N b, RD.IsC ns N b := RD.isC_ex (by have := hR.pos; omega) hR.few hR.bd
theorem mx_scal {c : Int} (hc : 0 < c) : ∀ l : List Int, mx (RD.scal c l) = c * mx l
  | [] => (Int.mul_zero c).symm
  | x :: r => by
    have ih := mx_scal hc r
    show mx (c * x :: RD.scal c r) = c * mx (x :: r)
    rw [mx, mx, ih]
    by_cases h : mx r ≤ x
    · rw [if_pos h, if_pos (Int.mul_le_mul_of_nonneg_left h (Int.le_of_lt hc))]
    · rw [if_neg h, if_neg (fun z => h (Int.le_of_mul_le_mul_left z hc))]
theorem mx_zero {l : List Int} (h : RD.Z l) : mx l = 0 := by
  induction l with
  | nil => rfl
  | cons x r ih =>
    have h1 := ih fun y hy => h y (List.mem_cons_of_mem _ hy)
    have h2 := h x List.mem_cons_self
    unfold mx
    rw [h1, h2]
    rfl
theorem tell_steps (N b : Nat) (M : Int) : (tell N b M).steps = (b : Int) := by
  unfold tell
  split <;> rfl
/-- one number among noughts: its course, of m numbers the round's length is l -/
structure OneC (m : Nat) (l : Int) : Prop where
  pos : 1 ≤ m
  few : m ≤ 12
  crs : ∃ N b : Nat, l = (N : Int) - (b : Int) ∧ RD.IsC ([1] ++ List.replicate (m - 1) 0) N b ∧ mx (RD.itr b ([1] ++ List.replicate (m - 1) 0)) = 1
theorem oneC {m : Nat} {l : Int} {N b : Nat} (h1 : 1 ≤ m) (h2 : m ≤ 12) (hl : l = (N : Int) - (b : Int)) (hC : RD.IsC (RD.dec m 1) N b) (e : RD.dec m 1 = [1] ++ List.replicate (m - 1) 0) (hm : mx (RD.itr b (RD.dec m 1)) = 1) : OneC m l :=
  ⟨h1, h2, N, b, hl, by rw [← e]; exact hC, by rw [← e]; exact hm⟩
theorem one3 : OneC 3 3 := oneC (by decide) (by decide) (by decide) RD.c1_3 (by decide) (by decide)
theorem one5 : OneC 5 15 := oneC (by decide) (by decide) (by decide) RD.c1_5 (by decide) (by decide)
theorem one6 : OneC 6 6 := oneC (by decide) (by decide) (by decide) RD.c1_6 (by decide) (by decide)
theorem one7 : OneC 7 7 := oneC (by decide) (by decide) (by decide) RD.c1_7 (by decide) (by decide)
theorem one9 : OneC 9 63 := oneC (by decide) (by decide) (by decide) RD.c1_9 (by decide) (by decide)
theorem one10 : OneC 10 30 := oneC (by decide) (by decide) (by decide) RD.c1_10 (by decide) (by decide)
theorem one11 : OneC 11 341 := oneC (by decide) (by decide) (by decide) RD.c1_11 (by decide) (by decide)
theorem one12 : OneC 12 12 := oneC (by decide) (by decide) (by decide) RD.c1_12 (by decide) (by decide)
theorem scal_one (c : Int) (k : Nat) : RD.scal c ([1] ++ List.replicate k 0) = [c] ++ List.replicate k 0 := by
  unfold RD.scal
  rw [List.map_append, List.map_replicate, Int.mul_zero]
  show [c * 1] ++ _ = _
  rw [Int.mul_one]
theorem ring_one {c d : Int} {k : Nat} (h0 : 0 ≤ c ∧ c ≤ 200) (h1 : 0 ≤ d ∧ d ≤ 200) (hk : k ≤ 11) : Ring ([c] ++ List.replicate k d) := by
  refine ⟨?_, ?_, fun x hx => ?_⟩
  · rw [List.length_append]
    show 1 ≤ 1 + _
    omega
  · rw [List.length_append, List.length_replicate]
    show 1 + k ≤ 12
    omega
  · rcases List.mem_append.mp hx with hx | hx
    · rw [List.mem_singleton.mp hx]
      exact h0
    · rw [List.eq_of_mem_replicate hx]
      exact h1
theorem OneC.tells {m : Nat} {l c : Int} (h : OneC m l) (hc : 0 < c) : ∃ N b : Nat, RD.IsC ([c] ++ List.replicate (m - 1) 0) N b ∧ tell N b (mx (RD.itr b ([c] ++ List.replicate (m - 1) 0))) = .r b l c := by
  obtain ⟨N, b, rfl, hC, hm⟩ := h.crs
  refine ⟨N, b, ?_, ?_⟩
  · rw [← scal_one]
    exact hC.scal hc
  · rw [← scal_one, RD.itr_scal (Int.le_of_lt hc), mx_scal hc, hm, Int.mul_one]
    unfold tell
    rw [if_neg (by omega)]
/-- a list and an answer -/
def RPA (T : Txt K mg) (a : List Int × An) (H : Hp) (v : V) : Prop := ∃ t p u, v = .ref t ∧ H t = some (.tup [.ref p, u]) ∧ H p = some (.lst (a.1.map V.int)) ∧ IsA T H u a.2
theorem rpa_mono (T : Txt K mg) : Mono (RPA T) := fun a H H' v e h => by
  obtain ⟨t, p, u, rfl, h1, h2, h3⟩ := h
  exact ⟨t, p, u, rfl, e _ _ h1, e _ _ h2, h3.ex e⟩
theorem ed_pa {T : Txt K mg} {σ : L2.St} {H : Hp} {te tb : TE} {ns : List Int} {an : An} (h : EvL te σ H (ns.map V.int)) (hb : EvAn T tb σ H an) : EvD (RPA T) (tTup (tCons te (tCons tb tNil))) σ H (ns, an) := fun H1 e Q q =>
  h H1 e _ fun p H2 _ e2 hp => hb H2 (e.trans e2) _ fun u H3 e3 hu => ⟨sz_of (by show 2 ≤ 100000; decide), fun t nt => q _ _ ((e2.trans e3).trans (Ex.new nt)) ⟨t, p, u, rfl, upd_same, Ex.new nt _ _ (e3 _ _ hp), hu.ex (Ex.new nt)⟩⟩
/-- what is known of a ring and its answer -/
structure Known (ns : List Int) (an : An) : Prop where
  ring : Ring ns
  crs : ∃ N b : Nat, RD.IsC ns N b ∧ an.steps = (b : Int) ∧ an.says N b (mx (RD.itr b ns)) = true ∧ (An.n 3).says N b (mx (RD.itr b ns)) = false ∧ (An.r 0 3 2).says N b (mx (RD.itr b ns)) = false
def spLen : Sp := fun vs H Q _ => ∃ far : Int, vs = [.int far] ∧ 0 ≤ far ∧ RetV (.bl true) H Q
theorem ok_w_lengths_right (T : Txt K mg) : FnOk P w K mg base CX0 6 T.f_w_lengths_right T.fd_w_lengths_right ["_law_far"] spLen := by
  refine T.F_w_lengths_right.ok sc_w_lengths_right (fun vs H Q E h => ?_) (fun cdv A outer s H vs Q E hr h => ?_)
  · obtain ⟨far, rfl, _⟩ := h
    rfl
  · obtain ⟨far, rfl, h0, q⟩ := h
    refine ⟨_, (pss_cons (ps_for PassesOwn.never rfl (pi_list (pe_lst (pa_cons (pe_tup (pa_cons pe_int (pa_cons pe_int pa_nil))) (pa_cons (pe_tup (pa_cons pe_int (pa_cons pe_int pa_nil))) (pa_cons (pe_tup (pa_cons pe_int (pa_cons pe_int pa_nil))) (pa_cons (pe_tup (pa_cons pe_int (pa_cons pe_int pa_nil))) (pa_cons (pe_tup (pa_cons pe_int (pa_cons pe_int pa_nil))) (pa_cons (pe_tup (pa_cons pe_int (pa_cons pe_int pa_nil))) (pa_cons (pe_tup (pa_cons pe_int (pa_cons pe_int pa_nil))) (pa_cons (pe_tup (pa_cons pe_int (pa_cons pe_int pa_nil))) pa_nil)))))))))) (pg_tup rfl (pgs_cons (pg_name (i := 1) sc_w_lengths_right.nd rfl (Or.inl rfl)) (pgs_cons (pg_name (i := 2) sc_w_lengths_right.nd rfl (Or.inl rfl)) pgs_nil)))
        (pss_one (ps_for PassesOwn.never rfl (pi_list (pe_lst (pa_cons pe_int (pa_cons (pe_op op_add pe_int (pe_op op_mod (pv 0) pe_int)) pa_nil)))) (pg_name (i := 3) sc_w_lengths_right.nd rfl (Or.inl rfl))
          (pss_cons (ps_set (i := 4) sc_w_lengths_right.nd rfl (Or.inl rfl) (pe_call (ok_told T) (hr.mono (by decide)) (by rfl) T.g_told T.F_told.kp T.b_told .nil pass0 (pa_cons (pe_op op_cat (pe_lst (pa_cons (pv 3) pa_nil)) (pe_op op_rep (pe_lst (pa_cons pe_int pa_nil)) (pe_op op_sub (pv 1) pe_int))) pa_nil)))
          (pss_one (ps_if (PW.pt (pw_or (pt_not (pt_val (pe_callB (r := rIsi K) call_isi (by rfl) T.n_isinstance (by decide +kernel) (pa_cons (pv 4) (pa_cons (pe_glob (v := .ref T.C_Round) rfl T.m_Round rfl) pa_nil))))) (pw_or1 (pt_cmpR (r := rNeD K) (op_neD hr.units) (pe_tup (pa_cons (pe_fldK (K := K) rfl (pv 4) rfl) (pa_cons (pe_fldK (K := K) rfl (pv 4) rfl) pa_nil))) (pe_tup (pa_cons (pv 2) (pa_cons (pv 3) pa_nil))) (nomark _)))))
            (pss_one (ps_ret pe_bl))
            pss_nil))))))
      (pss_cons (ps_for PassesOwn.never rfl (pi_list (pe_lst (pa_cons pe_int (pa_cons pe_int (pa_cons pe_int (pa_cons pe_int pa_nil)))))) (pg_name (i := 1) sc_w_lengths_right.nd rfl (Or.inl rfl))
        (pss_one (ps_if (pt_not (pt_val (pe_callB (r := rIsi K) call_isi (by rfl) T.n_isinstance (by decide +kernel) (pa_cons (pe_call (ok_told T) (hr.mono (by decide)) (by rfl) T.g_told T.F_told.kp T.b_told .nil pass0 (pa_cons (pe_op op_cat (pe_lst (pa_cons (pe_op op_mod (pv 0) pe_int) pa_nil)) (pe_op op_rep (pe_lst (pa_cons pe_int pa_nil)) (pe_op op_sub (pv 1) pe_int))) pa_nil)) (pa_cons (pe_glob (v := .ref T.C_Noughts) rfl T.m_Noughts rfl) pa_nil)))))
          (pss_one (ps_ret pe_bl))
          pss_nil)))
      (pss_cons (ps_set (i := 5) sc_w_lengths_right.nd rfl (Or.inl rfl) (pe_lst (pa_cons (pe_tup (pa_cons (pe_lst (pa_cons pe_int pa_nil)) (pa_cons (pe_make T.M_Noughts (ok_Noughts_init T) (hr.mono (by decide)) (by rfl) T.m_Noughts T.b_Noughts_init .nil pass0 (pa_cons pe_int pa_nil)) pa_nil))) (pa_cons (pe_tup (pa_cons (pe_lst (pa_cons pe_int pa_nil)) (pa_cons (pe_make T.M_Noughts (ok_Noughts_init T) (hr.mono (by decide)) (by rfl) T.m_Noughts T.b_Noughts_init .nil pass0 (pa_cons pe_int pa_nil)) pa_nil))) (pa_cons (pe_tup (pa_cons (pe_lst (pa_cons pe_int (pa_cons pe_int (pa_cons pe_int pa_nil)))) (pa_cons (pe_make T.M_Round (ok_Round_init T) (hr.mono (by decide)) (by rfl) T.m_Round T.b_Round_init .nil pass0 (pa_cons pe_int (pa_cons pe_int (pa_cons pe_int pa_nil)))) pa_nil))) (pa_cons (pe_tup (pa_cons (pe_lst (pa_cons pe_int (pa_cons pe_int (pa_cons pe_int pa_nil)))) (pa_cons (pe_make T.M_Round (ok_Round_init T) (hr.mono (by decide)) (by rfl) T.m_Round T.b_Round_init .nil pass0 (pa_cons pe_int (pa_cons pe_int (pa_cons pe_int pa_nil)))) pa_nil))) pa_nil))))))
      (pss_cons (ps_set (i := 5) sc_w_lengths_right.nd rfl (Or.inl rfl) (pe_op op_cat (pv 5) (pe_lst (pa_cons (pe_tup (pa_cons (pe_lst (pa_cons pe_int (pa_cons pe_int pa_nil))) (pa_cons (pe_make T.M_Noughts (ok_Noughts_init T) (hr.mono (by decide)) (by rfl) T.m_Noughts T.b_Noughts_init .nil pass0 (pa_cons pe_int pa_nil)) pa_nil))) pa_nil))))
      (pss_cons (ps_for PassesOwn.never rfl (pi_list (pe_op op_cat (pv 5) (pe_lst (pa_cons (pe_tup (pa_cons (pe_lst (pa_cons pe_int (pa_cons pe_int pa_nil))) (pa_cons (pe_make T.M_Noughts (ok_Noughts_init T) (hr.mono (by decide)) (by rfl) T.m_Noughts T.b_Noughts_init .nil pass0 (pa_cons pe_int pa_nil)) pa_nil))) (pa_cons (pe_tup (pa_cons (pe_lst (pa_cons pe_int (pa_cons pe_int pa_nil))) (pa_cons (pe_make T.M_Noughts (ok_Noughts_init T) (hr.mono (by decide)) (by rfl) T.m_Noughts T.b_Noughts_init .nil pass0 (pa_cons pe_int pa_nil)) pa_nil))) (pa_cons (pe_tup (pa_cons (pe_op op_rep (pe_lst (pa_cons pe_int pa_nil)) pe_int) (pa_cons (pe_make T.M_Noughts (ok_Noughts_init T) (hr.mono (by decide)) (by rfl) T.m_Noughts T.b_Noughts_init .nil pass0 (pa_cons pe_int pa_nil)) pa_nil))) pa_nil)))))) (pg_tup rfl (pgs_cons (pg_name (i := 6) sc_w_lengths_right.nd rfl (Or.inl rfl)) (pgs_cons (pg_name (i := 4) sc_w_lengths_right.nd rfl (Or.inl rfl)) pgs_nil)))
        (pss_cons (ps_if (PW.pt (pw_or (pt_cmpR op_ne (pe_fldK (K := K) rfl (pe_call (ok_told T) (hr.mono (by decide)) (by rfl) T.g_told T.F_told.kp T.b_told .nil pass0 (pa_cons (pv 6) pa_nil)) rfl) (pe_fldK (K := K) rfl (pv 4) rfl) (nomark _)) (pw_or (pt_cmpR op_notBl (pe_meth2 (pv 4) T.c_Noughts T.c_Round T.h_Noughts_shows T.h_Round_shows (ok_Noughts_shows T) (ok_Round_shows T) (hr.mono (by decide)) (hr.mono (by decide)) T.b_Noughts_shows T.b_Round_shows pass0 pass0 (pa_cons (pv 6) pa_nil)) pe_bl (nomark _)) (pw_or1 (pt_val (pe_meth (pe_make T.M_Noughts (ok_Noughts_init T) (hr.mono (by decide)) (by rfl) T.m_Noughts T.b_Noughts_init .nil pass0 (pa_cons pe_int pa_nil)) T.c_Noughts T.h_Noughts_shows (ok_Noughts_shows T) (hr.mono (by decide)) T.b_Noughts_shows .nil pass0 (pa_cons (pv 6) pa_nil)))))))
          (pss_one (ps_ret pe_bl))
          pss_nil)
        (pss_one (ps_if (pt_val (pe_meth (pe_make T.M_Round (ok_Round_init T) (hr.mono (by decide)) (by rfl) T.m_Round T.b_Round_init .nil pass0 (pa_cons pe_int (pa_cons pe_int (pa_cons pe_int pa_nil)))) T.c_Round T.h_Round_shows (ok_Round_shows T) (hr.mono (by decide)) T.b_Round_shows .nil pass0 (pa_cons (pv 6) pa_nil)))
          (pss_one (ps_ret pe_bl))
          pss_nil))))
      (pss_one (ps_ret (pe_and (pe_cmpR op_isBl (pe_meth (pe_make T.M_Round (ok_Round_init T) (hr.mono (by decide)) (by rfl) T.m_Round T.b_Round_init .nil pass0 (pa_cons pe_int (pa_cons pe_int (pa_cons pe_int pa_nil)))) T.c_Round T.h_Round_shows (ok_Round_shows T) (hr.mono (by decide)) T.b_Round_shows .nil pass0 (pa_cons (pe_lst (pa_cons pe_int (pa_cons pe_int (pa_cons pe_int pa_nil)))) pa_nil)) pe_bl (nomark _)) (pe_one (pe_cmpR op_isBl (pe_meth (pe_make T.M_Round (ok_Round_init T) (hr.mono (by decide)) (by rfl) T.m_Round T.b_Round_init .nil pass0 (pa_cons pe_int (pa_cons pe_int (pa_cons pe_int pa_nil)))) T.c_Round T.h_Round_shows (ok_Round_shows T) (hr.mono (by decide)) T.b_Round_shows .nil pass0 (pa_cons (pe_lst (pa_cons pe_int (pa_cons pe_int (pa_cons pe_int pa_nil)))) pa_nil)) pe_bl (nomark _))))))))))), ?_⟩
    have g199 : 0 ≤ far % 199 ∧ far % 199 < 199 := ⟨Int.emod_nonneg _ (by decide), Int.emod_lt_of_pos _ (by decide)⟩
    have g201 : 0 ≤ far % 201 ∧ far % 201 < 201 := ⟨Int.emod_nonneg _ (by decide), Int.emod_lt_of_pos _ (by decide)⟩
    have tu : ∀ {a b : V} {σ : L2.St} {H : Hp}, EvD RTu (tTup (tCons (tC a) (tCons (tC b) tNil))) σ H [a, b] := ed_tu (eu_tup (ea_cons ev_c (ea_cons ev_c ea_nil)) (by show 2 ≤ 100000; decide))
    have facts1 : ∀ a, a ∈ ([[.int 3, .int 3], [.int 5, .int 15], [.int 6, .int 6], [.int 7, .int 7], [.int 9, .int 63], [.int 10, .int 30], [.int 11, .int 341], [.int 12, .int 12]] : List (List V)) → ∃ (m : Nat) (l : Int), a = [.int (m : Int), .int l] ∧ OneC m l := by
      intro a ha
      simp only [List.mem_cons, List.not_mem_nil, or_false] at ha
      rcases ha with rfl | rfl | rfl | rfl | rfl | rfl | rfl | rfl
      · exact ⟨3, 3, rfl, one3⟩
      · exact ⟨5, 15, rfl, one5⟩
      · exact ⟨6, 6, rfl, one6⟩
      · exact ⟨7, 7, rfl, one7⟩
      · exact ⟨9, 63, rfl, one9⟩
      · exact ⟨10, 30, rfl, one10⟩
      · exact ⟨11, 341, rfl, one11⟩
      · exact ⟨12, 12, rfl, one12⟩
    refine n_forD rtu_mono (edl_lst rtu_mono (as := [[.int 3, .int 3], [.int 5, .int 15], [.int 6, .int 6], [.int 7, .int 7], [.int 9, .int 63], [.int 10, .int 30], [.int 11, .int 341], [.int 12, .int 12]]) (eds_cons rtu_mono tu (eds_cons rtu_mono tu (eds_cons rtu_mono tu (eds_cons rtu_mono tu (eds_cons rtu_mono tu (eds_cons rtu_mono tu (eds_cons rtu_mono tu (eds_cons rtu_mono tu eds_nil)))))))) (by decide))
      (fun i σ' => ∃ x1 x2 x3 x4 x5 x6 : Option V, σ' = [some (.int far), x1, x2, x3, x4, x5, x6]) ⟨_, _, _, _, _, _, rfl⟩ ?_ ?_
    · rintro i xs v σ' H1 Nx hi e1 hTu ⟨x1, x2, x3, x4, x5, x6, rfl⟩ hNx
      obtain ⟨t, rfl, ht⟩ := hTu
      obtain ⟨m, l, rfl, hO⟩ := facts1 _ (List.mem_of_getElem? hi)
      have hm1 := hO.pos
      have hm2 := hO.few
      refine ⟨t, _, rfl, st_of ht, rfl, .int (m : Int), _, rfl, .int l, _, rfl, rfl, ?_⟩
      refine m_forL (xs := [.int 1, .int (2 + far % 199)]) (el_lst (ea_cons ev_c (ea_cons (ev_op ev_c (ev_op (ev_var rfl) ev_c (rv_I (by decide))) rv_I0) ea_nil)) (by show 2 ≤ 100000; decide)) (fun i σ' => ∃ x3 x4 : Option V, σ' = [some (.int far), some (.int (m : Int)), some (.int l), x3, x4, x5, x6]) ⟨_, _, rfl⟩ ?_ (fun σ' H2 e2 ⟨x3, x4, hs⟩ => hNx _ _ e2 ⟨_, _, _, _, _, _, hs⟩)
      rintro j x σ' H2 Ny hj e2 ⟨x3, x4, rfl⟩ hNy
      obtain ⟨c, hc, rfl⟩ : ∃ c : Int, (1 ≤ c ∧ c ≤ 200) ∧ x = .int c := by
        match j, hj with
        | 0, hj => exact ⟨1, by decide, (Option.some.inj hj).symm⟩
        | 1, hj => exact ⟨2 + far % 199, by omega, (Option.some.inj hj).symm⟩
      obtain ⟨N, b, hC, ht⟩ := hO.tells (c := c) (by omega)
      refine q_an (T := T) (ean_toldE (T := T) (ns := [c] ++ List.replicate (m - 1) 0) (ei_L (el_catI (ns := [c]) (el_lst (ea_cons (ev_var rfl) ea_nil) (by show 1 ≤ 100000; decide)) (el_repI (k := m - 1) (el_lst (ea_cons ev_c ea_nil) (by decide)) (ev_is (ev_op (ev_var rfl) ev_c rv_I0) (by congr 1; omega)) (by omega)) (by rw [List.length_replicate]; show 1 + (m - 1) ≤ 1000; omega))) (ring_one (by omega) (by decide) (by omega)) hC ht) fun v H3 e3 hv => ?_
      exact s_when (b := false) (et_is (et_or (a := false) (b := false) (et_is (et_not (et_B (ev_isA (ty_Noughts T) (ty_Round T) (ean_var rfl hv) (kit_Noughts_Round T) (kit_Round_Round T)))) rfl) fun _ =>
        et_is (et_test (ev_neU (ns := [l, c]) (ms := [l, c]) (eu_tup (ea_cons (ev_length (T := T) (ean_var rfl hv)) (ea_cons (ev_number (T := T) (ean_var rfl hv)) ea_nil)) (by show 2 ≤ 100000; decide)) (eu_tup (ea_cons (ev_var rfl) (ea_cons (ev_var rfl) ea_nil)) (by show 2 ≤ 100000; decide)))) (by simp)) rfl) (fun z => nomatch z) fun _ H4 e4 => hNy _ _ (e3.trans e4) ⟨_, _, rfl⟩
    · rintro σ' H1 e1 ⟨x1, x2, x3, x4, x5, x6, rfl⟩
      clear facts1
      refine n_forL (xs := [.int 1, .int 2, .int 4, .int 8]) (el_lst (ea_cons ev_c (ea_cons ev_c (ea_cons ev_c (ea_cons ev_c ea_nil)))) (by decide)) (fun i σ' => ∃ x1 : Option V, σ' = [some (.int far), x1, x2, x3, x4, x5, x6]) ⟨_, rfl⟩ ?_ ?_
      · rintro i x σ' H2 Nx hi e2 ⟨x1, rfl⟩ hNx
        obtain ⟨j, hj, rfl⟩ : ∃ j : Nat, j ≤ 3 ∧ x = .int ((2 ^ j : Nat) : Int) := by
          match i, hi with
          | 0, hi => exact ⟨0, by decide, (Option.some.inj hi).symm⟩
          | 1, hi => exact ⟨1, by decide, (Option.some.inj hi).symm⟩
          | 2, hi => exact ⟨2, by decide, (Option.some.inj hi).symm⟩
          | 3, hi => exact ⟨3, by decide, (Option.some.inj hi).symm⟩
        have hm : 1 ≤ 2 ^ j ∧ 2 ^ j ≤ 8 := by
          match j, hj with
          | 0, _ => decide
          | 1, _ => decide
          | 2, _ => decide
          | 3, _ => decide
        have hR : Ring ([far % 201] ++ List.replicate (2 ^ j - 1) 1) := ring_one (by omega) (by decide) (by omega)
        have hlen : ([far % 201] ++ List.replicate (2 ^ j - 1) 1).length = 2 ^ j := by
          rw [List.length_append, List.length_replicate]
          show 1 + (2 ^ j - 1) = 2 ^ j
          omega
        obtain ⟨N, b, hC⟩ := has_course hR
        obtain ⟨_, hzb, _⟩ := hC.noughts (RD.zero_in hlen hR.bd)
        exact s_when (b := false) (et_is (et_not (et_B (ev_isA (an := .n (b : Int)) (ty_Noughts T) (ty_Round T) (ean_toldE (T := T) (ns := [far % 201] ++ List.replicate (2 ^ j - 1) 1) (ei_L (el_catI (ns := [far % 201]) (el_lst (ea_cons (ev_op (ev_var rfl) ev_c (rv_I (by decide))) ea_nil) (by show 1 ≤ 100000; decide)) (el_repI (k := 2 ^ j - 1) (el_lst (ea_cons ev_c ea_nil) (by decide)) (ev_is (ev_op (ev_var rfl) ev_c rv_I0) (by congr 1; omega)) (by omega)) (by rw [List.length_replicate]; show 1 + (2 ^ j - 1) ≤ 1000; omega))) hR hC (by rw [mx_zero hzb]; rfl)) (kit_Noughts_Noughts T) (kit_Round_Noughts T)))) rfl) (fun z => nomatch z) fun _ H3 e3 => hNx _ _ e3 ⟨_, rfl⟩
      · rintro σ' H2 e2 ⟨x1, rfl⟩
        have km := rpa_mono T
        refine q_asgDL (edl_lst km (as := [([5], .n 1), ([0], .n 0), ([0, 1, 1], .r 0 3 1), ([1, 0, 0], .r 1 3 1)]) (eds_cons km (ed_pa (el_lst (ea_cons ev_c ea_nil) (by decide)) (ean_N (T := T) ev_c)) (eds_cons km (ed_pa (el_lst (ea_cons ev_c ea_nil) (by decide)) (ean_N (T := T) ev_c)) (eds_cons km (ed_pa (el_lst (ea_cons ev_c (ea_cons ev_c (ea_cons ev_c ea_nil))) (by decide)) (ean_R (T := T) ev_c ev_c ev_c)) (eds_cons km (ed_pa (el_lst (ea_cons ev_c (ea_cons ev_c (ea_cons ev_c ea_nil))) (by decide)) (ean_R (T := T) ev_c ev_c ev_c)) eds_nil)))) (by decide)) fun p3 v3 H3 e3 hp3 hv3 => ?_
        refine q_asgDL (edl_cat km (bs := [([0, 0], .n 0)]) (edl_var km rfl hp3 hv3) (edl_lst km (eds_cons km (ed_pa (el_lst (ea_cons ev_c (ea_cons ev_c ea_nil)) (by decide)) (ean_N (T := T) ev_c)) eds_nil) (by decide)) (by decide)) fun p4 v4 H4 e4 hp4 hv4 => ?_
        have facts2 : ∀ a, a ∈ (([([5], .n 1), ([0], .n 0), ([0, 1, 1], .r 0 3 1), ([1, 0, 0], .r 1 3 1)] ++ [([0, 0], .n 0)]) ++ [([4, 4], .n 1), ([0, 6], .n 2), (List.replicate 12 7, .n 1)] : List (List Int × An)) → Known a.1 a.2 := by
          intro a ha
          simp only [List.cons_append, List.nil_append, List.mem_cons, List.not_mem_nil, or_false] at ha
          rcases ha with rfl | rfl | rfl | rfl | rfl | rfl | rfl | rfl
          · exact ⟨ring_by (by decide), 2, 1, RD.isC_by (by decide), by decide, by decide, by decide, by decide⟩
          · exact ⟨ring_by (by decide), 1, 0, RD.isC_by (by decide), by decide, by decide, by decide, by decide⟩
          · exact ⟨ring_by (by decide), 3, 0, RD.isC_by (by decide), by decide, by decide, by decide, by decide⟩
          · exact ⟨ring_by (by decide), 4, 1, RD.isC_by (by decide), by decide, by decide, by decide, by decide⟩
          · exact ⟨ring_by (by decide), 1, 0, RD.isC_by (by decide), by decide, by decide, by decide, by decide⟩
          · exact ⟨ring_by (by decide), 2, 1, RD.isC_by (by decide), by decide, by decide, by decide, by decide⟩
          · exact ⟨ring_by (by decide), 3, 2, RD.isC_by (by decide), by decide, by decide, by decide, by decide⟩
          · exact ⟨ring_by (by decide), 2, 1, RD.isC_by (by decide), by decide, by decide, by decide, by decide⟩
        refine n_forD km (edl_cat km (bs := [([4, 4], .n 1), ([0, 6], .n 2), (List.replicate 12 7, .n 1)]) (edl_var km rfl hp4 hv4) (edl_lst km (eds_cons km (ed_pa (el_lst (ea_cons ev_c (ea_cons ev_c ea_nil)) (by decide)) (ean_N (T := T) ev_c)) (eds_cons km (ed_pa (el_lst (ea_cons ev_c (ea_cons ev_c ea_nil)) (by decide)) (ean_N (T := T) ev_c)) (eds_cons km (ed_pa (el_repI (k := 12) (el_lst (ea_cons ev_c ea_nil) (by decide)) ev_c (by decide)) (ean_N (T := T) ev_c)) eds_nil))) (by decide)) (by decide))
          (fun i σ' => ∃ x4 x6 : Option V, σ' = [some (.int far), x1, x2, x3, x4, some (.ref p4), x6]) ⟨_, _, rfl⟩ ?_ ?_
        · rintro i ⟨ns, an⟩ v σ' H5 Nx hi e5 hPA ⟨x4, x6, rfl⟩ hNx
          obtain ⟨t, p, u, rfl, ht, hp, hu⟩ := hPA
          obtain ⟨hR, N, b, hC, hst, hsy, hs3, hs2⟩ := facts2 _ (List.mem_of_getElem? hi)
          dsimp only at hp hu hR hC hst hsy hs3 hs2
          refine ⟨t, _, rfl, st_of ht, rfl, .ref p, _, rfl, u, _, rfl, rfl, ?_⟩
          refine q_when (b := false) (et_is (et_or (a := false) (b := false) (et_is (et_test (ev_op (ev_steps (T := T) (ean_told (T := T) (ei_var rfl (sq_of hp)) hR hC)) (ev_steps (T := T) (ean_var rfl hu)) (rv_ne rfl))) (by rw [tell_steps, hst]; simp)) fun _ =>
            et_or (a := false) (b := false) (et_is (et_test (ev_op (ev_shows2 (T := T) (ean_var rfl hu) (ei_var rfl (sq_of hp)) hR hC) ev_c rv_notB)) (by rw [hsy]; rfl)) fun _ =>
            et_is (et_B (ev_showsN (T := T) (s := 3) (ean_N (T := T) ev_c) (ei_var rfl (sq_of hp)) hR hC)) hs3) rfl) (fun z => nomatch z) fun _ H6 e6 => ?_
          exact s_when (b := false) (et_is (et_B (ev_showsR (T := T) (s := 0) (l := 3) (m := 2) (ean_R (T := T) ev_c ev_c ev_c) (ei_var rfl (sq_of (e6 _ _ hp))) hR hC)) hs2) (fun z => nomatch z) fun _ H7 e7 => hNx _ _ (e6.trans e7) ⟨_, _, rfl⟩
        · rintro σ' H5 e5 ⟨x4, x6, rfl⟩
          have c011 : RD.IsC [0, 1, 1] 3 0 := RD.isC_by (by decide)
          refine s_ret (v := .bl true) (ev_is (ev_andV (a := true) (b := true) (ev_is (ev_op (ev_showsR (T := T) (s := 0) (l := 6) (m := 1) (ean_R (T := T) ev_c ev_c ev_c) (ei_L (ns := [0, 1, 1]) (el_lst (ea_cons ev_c (ea_cons ev_c (ea_cons ev_c ea_nil))) (by decide))) (ring_by (by decide)) c011) ev_c rv_isB) (by decide)) fun _ =>
            ev_is (ev_op (ev_showsR (T := T) (s := 1) (l := 3) (m := 1) (ean_R (T := T) ev_c ev_c ev_c) (ei_L (ns := [0, 1, 1]) (el_lst (ea_cons ev_c (ea_cons ev_c (ea_cons ev_c ea_nil))) (by decide))) (ring_by (by decide)) c011) ev_c rv_isB) (by decide)) rfl) fun H6 e6 => q H6 (((((e1.trans e2).trans e3).trans e4).trans e5).trans e6)
theorem ev_lengths {σ : L2.St} {H : Hp} {ta : TE} {far : Int} {E : XK} (ha : Ev ta σ H (.int far)) (h0 : 0 ≤ far) : Ev (tCall spLen [] E (tCons ta tNil)) σ H (.bl true) := fun H1 e Q q => ha H1 e _ fun H2 e2 => ⟨far, rfl, h0, fun H3 e3 => q H3 (e2.trans e3)⟩
end
section
variable {P : Program} {w : World} {K : PySem.W.Frag} {mg : Str → Option Value} {base : Heap}
/-! ### known: told rings are the asker's own -/
def spApart : Sp := fun vs H Q _ => ∃ (far : Int) (e : Nat), vs = [.int far] ∧ 0 ≤ far ∧ 0 < e ∧ e ≤ 2000000 ∧ far.natAbs < 2 ^ e ∧ RetV (.bl true) H Q
theorem it011 {s : Int} (h0 : 0 ≤ s) (h3 : s % 3 = 0) : RD.itr s.toNat [0, 1, 1] = [0, 1, 1] := by
  have hC : RD.IsC [0, 1, 1] 3 0 := RD.isC_by (by decide)
  rw [← hC.at (k := s.toNat) (Nat.zero_le _), show 0 + (s.toNat - 0) % (3 - 0) = 0 by omega]
  rfl
theorem it011' {s : Int} (h0 : 0 ≤ s) (h3 : s % 3 = 0) : RD.itr (s + 1).toNat [0, 1, 1] = [1, 0, 1] := by
  rw [show (s + 1).toNat = s.toNat + 1 by omega]
  show RD.D (RD.itr s.toNat [0, 1, 1]) = _
  rw [it011 h0 h3]
  decide
theorem sg200 : RD.Sg (List.replicate 12 200) 0 := (sg_by (b := true) (by decide +kernel)).mp rfl
theorem el_stepCame {T : Txt K mg} {σ : L2.St} {H : Hp} {ta : TE} {ns : List Int} {E E' : XK} (ha : EvI K ta σ H ns) (hR : Ring ns) (hs : RD.Sg ns 0) : EvL (tCall (spStepped K) [] E (tCons (tFld K (tCall (spCame T) [] E' (tCons ta tNil)) "ring") tNil)) σ H (ns.map V.int) := fun H1 e Q q =>
  q_came (T := T) (ha.mono e) hR (fun hno => absurd hs hno) (fun _ cs v c H2 hcl hcn hD nc e2 hv => by
    have hpos := hR.pos
    have hfew := hR.few
    obtain ⟨x, dx, rfl, g1, g2, g3⟩ := hv
    exact ⟨x, _, dx, _, _, rfl, g1, T.c_Came, T.na_Came_ring, fsC_r _, c, cs, rfl, sq_of g2, by omega, by omega, fun r H3 nr e3 hr => q r H3 (fresh_back e2 nr) (e2.trans e3) (by rw [← hD]; exact hr)⟩)
theorem q_clear {σ : L2.St} {H : Hp} {D : Ends} {tz : TS} {ta : TE} {c : Addr} {xs : List V} (h : Ev ta σ H (.ref c)) (hc : H c = some (.lst xs)) (k : ∀ H1, Ex H H1 → tz D σ (upd H1 c (.lst []))) : tSeq (tDrop (tBM0 K "list" rClear ta)) tz D σ H :=
  h H (Ex.refl _) _ fun H1 e1 => ⟨Or.inl ⟨rfl, xs, sq_of (e1 _ _ hc)⟩, c, xs, rfl, rfl, e1 _ _ hc, k H1 e1⟩
theorem ok_w_apart_right (T : Txt K mg) : FnOk P w K mg base CX0 6 T.f_w_apart_right T.fd_w_apart_right ["_law_far"] spApart := by
  refine T.F_w_apart_right.ok sc_w_apart_right (fun vs H Q E h => ?_) (fun cdv A outer s H vs Q E hr h => ?_)
  · obtain ⟨far, e, rfl, _⟩ := h
    rfl
  · obtain ⟨far, e0, rfl, h0, he1, he2, hfar, q⟩ := h
    refine ⟨_, (pss_cons (ps_set (i := 1) sc_w_apart_right.nd rfl (Or.inl rfl) (pe_lst (pa_cons pe_int (pa_cons pe_int (pa_cons pe_int pa_nil)))))
      (pss_cons (ps_for PassesOwn.never rfl (pi_list (pe_lst (pa_cons pe_int (pa_cons pe_int (pa_cons (pe_op op_mulB pe_int (pv 0)) pa_nil))))) (pg_name (i := 2) sc_w_apart_right.nd rfl (Or.inl rfl))
        (pss_cons (ps_set (i := 3) sc_w_apart_right.nd rfl (Or.inl rfl) (pe_call (ok_after T) (hr.mono (by decide)) (by rfl) T.g_after T.F_after.kp T.b_after .nil pass0 (pa_cons (pv 1) (pa_cons (pv 2) pa_nil))))
        (pss_cons (ps_expr (pe_bm PySem.F.plainAttrs_list PySem.F.slot_list_append PySem.F.type_list_append mt_append (pv 3) (pa_cons pe_int pa_nil)))
        (pss_cons (ps_asg pe_int (pg_sub (pv 3) pe_int set_list))
        (pss_one (ps_if (PW.pt (pw_or (pt_cmpR (r := rNeD K) (op_neD hr.units) (pv 1) (pe_lst (pa_cons pe_int (pa_cons pe_int (pa_cons pe_int pa_nil)))) (nomark _)) (pw_or (pt_cmpR (r := rNeD K) (op_neD hr.units) (pe_call (ok_after T) (hr.mono (by decide)) (by rfl) T.g_after T.F_after.kp T.b_after .nil pass0 (pa_cons (pv 1) (pa_cons (pv 2) pa_nil))) (pe_lst (pa_cons pe_int (pa_cons pe_int (pa_cons pe_int pa_nil)))) (nomark _)) (pw_or1 (pt_cmpR (r := rNeD K) (op_neD hr.units) (pe_call (ok_after T) (hr.mono (by decide)) (by rfl) T.g_after T.F_after.kp T.b_after .nil pass0 (pa_cons (pv 1) (pa_cons (pe_op op_add (pv 2) pe_int) pa_nil))) (pe_lst (pa_cons pe_int (pa_cons pe_int (pa_cons pe_int pa_nil)))) (nomark _))))))
          (pss_one (ps_ret pe_bl))
          pss_nil))))))
      (pss_cons (ps_set (i := 4) sc_w_apart_right.nd rfl (Or.inl rfl) (pe_call (ok_came T) (hr.mono (by decide)) (by rfl) T.g_came T.F_came.kp T.b_came .nil pass0 (pa_cons (pe_op op_rep (pe_lst (pa_cons pe_int pa_nil)) pe_int) pa_nil)))
      (pss_cons (ps_expr (pe_bm0 PySem.F.plainAttrs_list PySem.F.slot_list_clear PySem.F.type_list_clear mt_clear (pe_fldK (K := K) rfl (pv 4) rfl)))
      (pss_one (ps_ret (pe_and (pe_cmpR (r := rEqD K) (op_eqD hr.units) (pe_call (ok_w_step T) (hr.mono (by decide)) (by rfl) T.g_w_step T.F_w_step.kp T.b_w_step .nil pass0 (pa_cons (pe_fldK (K := K) rfl (pe_call (ok_came T) (hr.mono (by decide)) (by rfl) T.g_came T.F_came.kp T.b_came .nil pass0 (pa_cons (pe_op op_rep (pe_lst (pa_cons pe_int pa_nil)) pe_int) pa_nil)) rfl) pa_nil)) (pe_op op_rep (pe_lst (pa_cons pe_int pa_nil)) pe_int) (nomark _)) (pe_one (pe_cmpR (r := rEqD K) (op_eqD hr.units) (pe_call (ok_step T) (hr.mono (by decide)) (by rfl) T.g_step T.F_step.kp T.b_step .nil pass0 (pa_cons (pe_op op_rep (pe_lst (pa_cons (pe_op op_sub pe_int pe_int) pa_nil)) pe_int) pa_nil)) (pe_lst (pa_cons pe_int (pa_cons pe_int pa_nil))) (nomark _)))))))))), ?_⟩
    have hmul : IntMulOk 3 far := mulOk (a := 2) (b := e0) (by decide) hfar (by decide) he1 (by omega)
    clear hfar
    have r011 : Ring [0, 1, 1] := ring_by (by decide)
    refine q_asgL (xs := [.int 0, .int 1, .int 1]) (el_lst (ea_cons ev_c (ea_cons ev_c (ea_cons ev_c ea_nil))) (by decide)) fun r H1 nr e1 hr1 => ?_
    refine n_forL (xs := [.int 0, .int 3, .int (3 * far)]) (el_lst (ea_cons ev_c (ea_cons ev_c (ea_cons (ev_op ev_c (ev_var rfl) (rv_I (C := IntMulOk) hmul)) ea_nil))) (by show 3 ≤ 100000; decide)) (fun i σ' => ∃ x2 x3 x4 : Option V, σ' = [some (.int far), some (.ref r), x2, x3, x4]) ⟨_, _, _, rfl⟩ ?_ ?_
    · rintro i x σ' H2 Nx hi e2 ⟨x2, x3, x4, rfl⟩ hNx
      obtain ⟨s, hs0, hs3, rfl⟩ : ∃ s : Int, 0 ≤ s ∧ s % 3 = 0 ∧ x = .int s := by
        match i, hi with
        | 0, hi => exact ⟨0, by decide, by decide, (Option.some.inj hi).symm⟩
        | 1, hi => exact ⟨3, by decide, by decide, (Option.some.inj hi).symm⟩
        | 2, hi => exact ⟨3 * far, by omega, by omega, (Option.some.inj hi).symm⟩
      have hr2 := e2 _ _ hr1
      refine q_asgL (el_after (ns := [0, 1, 1]) (n := s) (ei_var rfl (sq_of hr2)) (ev_var rfl) r011 hs0) fun f H3 nf e3 hf => ?_
      rw [it011 hs0 hs3] at hf
      refine q_app hf (ev_var rfl) ev_c (by show 3 < 100000; decide) fun H4 e4 => ?_
      refine q_setL (j := 0) upd_same ev_c (ev_var rfl) ev_c (by show 0 < 4; decide) fun H5 e5 => ?_
      have E5 := Ex.mut (o := .lst ((List.map V.int [0, 1, 1] ++ [V.int 9]).set 0 (.int 7))) ((Ex.mut (o := .lst (List.map V.int [0, 1, 1] ++ [V.int 9])) (e3.trans e4) nf).trans e5) nf
      generalize upd H5 f (.lst ((List.map V.int [0, 1, 1] ++ [V.int 9]).set 0 (.int 7))) = H6 at E5
      have hr6 := E5 _ _ hr2
      exact s_when (b := false) (et_is (et_or (a := false) (b := false) (et_test (ev_neI0 (ns := [0, 1, 1]) (ei_var rfl (sq_of hr6)) (ei_L (ns := [0, 1, 1]) (el_lst (ea_cons ev_c (ea_cons ev_c (ea_cons ev_c ea_nil))) (by decide))) rfl)) fun _ =>
        et_or (a := false) (b := false) (et_test (ev_neI0 (ei_L (el_after (ns := [0, 1, 1]) (n := s) (ei_var rfl (sq_of hr6)) (ev_var rfl) r011 hs0)) (ei_L (ns := [0, 1, 1]) (el_lst (ea_cons ev_c (ea_cons ev_c (ea_cons ev_c ea_nil))) (by decide))) (it011 hs0 hs3))) fun _ =>
        et_test (ev_neI0 (ei_L (el_after (ns := [0, 1, 1]) (n := s + 1) (ei_var rfl (sq_of hr6)) (ev_op (ev_var rfl) ev_c rv_I0) r011 (by omega))) (ei_L (ns := [1, 0, 1]) (el_lst (ea_cons ev_c (ea_cons ev_c (ea_cons ev_c ea_nil))) (by decide))) (it011' hs0 hs3))) rfl) (fun z => nomatch z) fun _ H7 e7 => hNx _ _ (E5.trans e7) ⟨_, _, _, rfl⟩
    · rintro σ' H2 e2 ⟨x2, x3, x4, rfl⟩
      have r200 : Ring (List.replicate 12 200) := ring_by (by decide)
      refine q_came (T := T) (ns := List.replicate 12 200) (ei_L (el_repI (k := 12) (el_lst (ea_cons ev_c ea_nil) (by decide)) ev_c (by decide))) r200 (fun hno => absurd sg200 hno) (fun _ cs v c H3 hcl hcn hD nc e3 hv => ?_)
      refine q_clear (ev_ring (T := T) rfl hv) hv.sq fun H4 e4 => ?_
      have E4 := Ex.mut (o := .lst []) (e3.trans e4) nc
      generalize upd H4 c (.lst []) = H5 at E4
      exact s_ret (v := .bl true) (ev_is (ev_andV (a := true) (b := true) (ev_eqI1 (ei_L (el_stepCame (T := T) (ei_L (el_repI (k := 12) (el_lst (ea_cons ev_c ea_nil) (by decide)) ev_c (by decide))) r200 sg200)) (ei_L (el_repI (k := 12) (el_lst (ea_cons ev_c ea_nil) (by decide)) ev_c (by decide))) rfl) fun _ =>
        ev_eqI1 (ei_L (el_step (ns := List.replicate 2 200) (ei_L (el_repI (k := 2) (el_lst (ea_cons (ev_is (ev_op ev_c ev_c rv_I0) rfl) ea_nil) (by show 1 ≤ 100000; decide)) ev_c (by decide))) (ring_by (by decide)))) (ei_L (ns := [0, 0]) (el_lst (ea_cons ev_c (ea_cons ev_c ea_nil)) (by decide))) (by decide)) rfl) fun H6 e6 => q H6 (((e1.trans e2).trans E4).trans e6)
theorem ev_apart {σ : L2.St} {H : Hp} {ta : TE} {far : Int} {E : XK} {e0 : Nat} (ha : Ev ta σ H (.int far)) (h0 : 0 ≤ far) (h1 : 0 < e0) (h2 : e0 ≤ 2000000) (h3 : far.natAbs < 2 ^ e0) : Ev (tCall spApart [] E (tCons ta tNil)) σ H (.bl true) := fun H1 e Q q => ha H1 e _ fun H2 e2 => ⟨far, e0, rfl, h0, h1, h2, h3, fun H3 e3 => q H3 (e2.trans e3)⟩
end
section
variable {P : Program} {w : World} {K : PySem.W.Frag} {mg : Str → Option Value} {base : Heap}
/-! ### known: each refused -/
def lamP (q : Str) : Str := q ++ ".<locals>."
def lamQ (q : Str) : Str := lamP q ++ "<lambda>"
theorem pe_lamQ {X : Cx} {T : List (Addr × Str)} {c Pt : Addr} {params : Arguments} {bd : Expr} {scope : Scope} {pos : Pos} {q : Str} (hq : X.env.qual = q) (hcl : cloFrom X.env.cells scope.names [] = []) (TB : LamX.TabB X.base X.mg c Pt) (hcode : X.env.code = .ref c) (hm : (Pt, q ++ "<lambda>") ∈ T)
    (hu : ∀ p ∈ T, p.1 = Pt → p.2 = q ++ "<lambda>") (hdef : defaultsOf params X.env = ([], [])) (hfree : ∀ y ∈ scope.names, y.2 = .free → ∃ cc, X.env.cells.lookup y.1 = some cc) :
    PE X (.Lambda params bd scope pos) (tLamV T (fun c' => ⟨"<lambda>", q ++ "<lambda>", params, [], scope, [], c'⟩) bd) := by
  subst hq
  have h := pe_lam (bd := bd) (pos := pos) TB hcode hm hu hdef hfree
  rw [hcl] at h
  exact h
theorem extn_lst {H H' : Hp} {a : Addr} {xs : List V} (e : LamX.ExtN H H') (h : H a = some (.lst xs)) : H' a = some (.lst xs) := e _ _ h fun ps z => by cases z
theorem tabs_upd {T : List (Addr × Str)} {H : Hp} {D : Addr} {xs ys : List V} (t : LamX.Tabs T H) (h : H D = some (.lst xs)) : LamX.Tabs T (upd H D (.lst ys)) := fun p hp => by
  obtain ⟨ps, h1, h2, h3⟩ := t p hp
  have n1 : p.1 ≠ D := fun z => by
    rw [z, h] at h1
    cases h1
  refine ⟨ps, by rw [upd_ne n1]; exact h1, h2, fun pos cv hc => ?_⟩
  obtain ⟨c, e1, e2⟩ := h3 pos cv hc
  have n2 : c ≠ D := fun z => by
    rw [z, h] at e2
    unfold LamX.CodeO at e2
    cases e2
  exact ⟨c, e1, by rw [upd_ne n2]; exact e2⟩
/-- a lambda that refuses what is B, with an error of the class at D -/
def LamR (P : Program) (w : World) (K : PySem.W.Frag) (mg : Str → Option Value) (base : Heap) (D : Addr) (B : Hp → V → Prop) (H : Hp) (f : V) : Prop := ∃ (fa : Addr) (F : NdefX.NF) (bd : Expr) (sp : Sp), f = .ref fa ∧ H fa = some (LO fa F bd) ∧ H F.c = some (LamX.CodeO F.c F.qual) ∧
  Ask P w K mg base 5 fa sp (fun H => H fa = some (LO fa F bd) ∧ H F.c = some (LamX.CodeO F.c F.qual)) ∧ ∀ v H' Q' E', B H' v → (∀ H2, Ex H' H2 → E' (.ref D) none H2) → sp [v] H' Q' E'
theorem LamR.extn {D : Addr} {B : Hp → V → Prop} {H H' : Hp} {f : V} (e : LamX.ExtN H H') (h : LamR P w K mg base D B H f) : LamR P w K mg base D B H' f := by
  obtain ⟨fa, F, bd, sp, rfl, h1, h2, h3, h4⟩ := h
  exact ⟨fa, F, bd, sp, rfl, e _ _ h1 lo_ne, e _ _ h2 LamX.codeO_ne, h3, h4⟩
theorem LamR.refuses {D : Addr} {B : Hp → V → Prop} {H : Hp} {f : V} (h : LamR P w K mg base D B H f) : Refuses P w K mg base D B H f := by
  obtain ⟨fa, F, bd, sp, rfl, h1, h2, h3, h4⟩ := h
  exact ⟨fa, sp, _, rfl, h3, fun H' e => ⟨e _ _ h1, e _ _ h2⟩, fun v H' Q' E' _ hB hE => h4 v H' Q' E' hB hE⟩
theorem lamr {F : NdefX.NF} {bd : Expr} {f : Addr} {H : Hp} {D : Addr} {B : Hp → V → Prop} {x : Str} (hf : H f = some (LO f F bd)) (hc : H F.c = some (LamX.CodeO F.c F.qual)) (S : NdefX.NScope [x] [x] [] F.scope) (hcl : F.cl = [])
    (hb : ∀ (pm ctv : Value) (us : List Value), us.length = [x].length → bindArgs (PySem.W.kla_fn F.name F.qual F.params bd F.scope F.cl pm (.ref F.c) ctv) ⟨us, []⟩ = pure ([x].zip us))
    (hbody : ∀ (A : Around) (outer : List Env) (s : Shared) (H : Hp) (v : V) (Q : VK) (E : XK), Room 4 (A.deeper (NdefX.envF F f s.heap.objs.size)) → B H v → (∀ H2, Ex H H2 → E (.ref D) none H2) → ∃ tb : TE, PE (NdefX.ncx (L2.CX P w) P w K mg base [x] F f A outer s H E) bd tb ∧ tb (NdefX.startF [x] [v] []) H Q) :
    LamR P w K mg base D B H (.ref f) := by
  refine ⟨f, F, bd, fun vs H _ E => ∃ v, vs = [v] ∧ B H v ∧ ∀ H2, Ex H H2 → E (.ref D) none H2, rfl, hf, hc, lam_ask S hcl hb (fun vs H Q E h => ?_) (fun A outer s H vs Q E hr h => ?_), fun v H' Q' E' hB hE => ⟨v, rfl, hB, hE⟩⟩
  · obtain ⟨v, rfl, _⟩ := h
    rfl
  · obtain ⟨v, rfl, hB, hE⟩ := h
    exact hbody A outer s H v Q E hr hB hE
/-- all of truths, a lambda made at each -/
theorem q_allL {T0 : List (Addr × Str)} {xs : List V} {tl te : TE} {σ : L2.St} {H : Hp} {Q : VK} {j : Nat} {ks : List Nat} (h : EvL tl σ H xs) (hz : xs.length ≤ 1000) (hT : LamX.Tabs T0 H) (hw : ∀ x, wipe ((wipe σ ks).set j (some x)) ks = wipe σ ks)
    (he : ∀ (i : Nat) x H1, LamX.Tabs T0 H1 → xs[i]? = some x → ∀ Q' : VK, (∀ H2, LamX.Tabs T0 H2 → LamX.ExtN H1 H2 → Q' (.bl true) H2) → te ((wipe σ ks).set j (some x)) H1 Q') (q : ∀ H', Q (.bl true) H') :
    tCB (rAll K) (tCons (tLc (iList K tl) (gName j) tYes te ks) tNil) σ H Q := by
  refine h H (Ex.refl _) _ fun p H1 np e1 hp => ⟨p, rfl, ⟨_, sq_of hp⟩, fun Dl hD => ?_⟩
  have hne : p ≠ Dl := ne_of_none hp hD
  refine lc_list (xs := xs) (fun i H' => LamX.Tabs T0 H' ∧ H' p = some (.lst xs) ∧ H' Dl = some (.lst ((List.replicate i true).map V.bl))) ⟨hT.ext (e1.trans (Ex.new hD)), (Ex.new hD) _ _ hp, upd_same⟩ (fun i H' _ hh => sq_of hh.2.1) (fun i x H2 hi hh => ⟨hw x, ?_⟩) (fun H2 hh => ?_)
  · show te _ H2 _
    obtain ⟨t2, p2, d2⟩ := hh
    have hi' := get_lt hi
    refine he i x H2 t2 hi _ fun H3 t3 n3 => ⟨_, extn_lst n3 d2, sz_lt (by rw [List.length_map, List.length_replicate]; omega), tabs_upd t3 (extn_lst n3 d2), ?_, ?_⟩
    · rw [upd_ne hne]
      exact extn_lst n3 p2
    · rw [upd_same, List.replicate_succ', List.map_append]
      rfl
  · refine ⟨Dl, List.replicate xs.length true, rfl, sq_of hh.2.2, ?_⟩
    have : (List.replicate xs.length true).all id = true := by simp
    rw [this]
    exact q H2
theorem n_forX {α : Type} {R : α → Hp → V → Prop} {tl : TE} {σ : L2.St} {H : Hp} {as : List α} {j : Nat} {tu tz : TS} {D : Ends} (h : EvDL R tl σ H as) (Pv : Addr → List V → Nat → L2.St → Hp → Prop) (h0 : ∀ p vs H1, Ex H H1 → H1 p = some (.lst vs) → Rs R as H1 vs → Pv p vs 0 σ H1)
    (hl : ∀ p vs i σ' H', Pv p vs i σ' H' → H' p = some (.lst vs)) (hs : ∀ p vs (i : Nat) x σ' H', vs[i]? = some x → Pv p vs i σ' H' → tu { D with nx := Pv p vs (i + 1), ct := Pv p vs (i + 1), bk := tz D } (σ'.set j (some x)) H') (hd : ∀ p vs σ' H', Pv p vs vs.length σ' H' → tz D σ' H') :
    tSeq (tFor (iList K tl) (gName j) tu) tz D σ H :=
  h H (Ex.refl _) _ fun p vs H1 e1 hp hv => ⟨p, rfl, ⟨vs, sq_of hp⟩, for_list (D := { D with nx := tz D }) (xs := vs) (Pv p vs) (h0 p vs H1 e1 hp hv) (fun i σ' H' _ q => sq_of (hl p vs i σ' H' q)) (fun i x σ' H' hx q => hs p vs i x σ' H' hx q) (fun σ' H' q => hd p vs σ' H' q)⟩
def spBadK (K : PySem.W.Frag) {mg : Str → Option Value} (T : Txt K mg) : Sp := fun vs H Q _ => ∃ W : Int, vs = [.int W] ∧ 0 ≤ W ∧ H T.pt_w_bad_right = some (.tbl #[]) ∧ ∀ H', Q (.bl true) H'
theorem ok_w_bad_right (T : Txt K mg) (TB : LamX.TabB base mg T.cc_w_bad_right T.pt_w_bad_right) : FnOk P w K mg base CX0 7 T.f_w_bad_right T.fd_w_bad_right ["_law_whole"] (spBadK K T) := by
  obtain ⟨oc, kV, dc, pm, ct, od, an, sl, hl⟩ := T.ll_w_bad_right
  refine okC T.F_w_bad_right hl sc_w_bad_right (fun vs H Q E h => ?_) (fun A outer s H vs Q E hr h => ?_)
  · obtain ⟨W, rfl, _⟩ := h
    rfl
  · obtain ⟨W, rfl, hW, hT, q⟩ := h
    refine ⟨_, (pss_cons (ps_for PassesOwn.never rfl (pi_list (pe_lst (pa_cons (pe_op op_mod (pv 0) pe_int) (pa_cons pe_int (pa_cons pe_int pa_nil))))) (pg_name (i := 1) sc_w_bad_right.nd rfl (Or.inl rfl))
        (pss_one (ps_for PassesOwn.never rfl (pi_list (pe_lst (pa_cons pe_int (pa_cons (pe_un un_neg pe_int) (pa_cons pe_bl (pa_cons pe_str (pa_cons pe_non (pa_cons (pe_op op_pow pe_int pe_int) pa_nil)))))))) (pg_name (i := 2) sc_w_bad_right.nd rfl (Or.inl rfl))
          (pss_cons (ps_set (i := 3) sc_w_bad_right.nd rfl (Or.inr rfl) (pe_op op_cat (pe_op op_cat (pe_op op_rep (pe_lst (pa_cons pe_int pa_nil)) (pv 1)) (pe_lst (pa_cons (pv 2) pa_nil))) (pe_op op_rep (pe_lst (pa_cons pe_int pa_nil)) (pe_op op_sub pe_int (pv 1)))))
          (pss_cons (ps_set (i := 4) sc_w_bad_right.nd rfl (Or.inl rfl) (pe_lst (pa_cons (pe_lamQ (q := lamP "_law_bad_right") (T := [(T.pt_w_bad_right, lamQ "_law_bad_right")]) rfl rfl TB rfl (List.Mem.head _) (fun p hp _ => by rw [List.mem_singleton.mp hp]; rfl) rfl (fun y hy z => absurd z ((by decide +kernel : ∀ y ∈ _, y.2 ≠ NameKind.free) y hy))) (pa_cons (pe_lamQ (q := lamP "_law_bad_right") (T := [(T.pt_w_bad_right, lamQ "_law_bad_right")]) rfl rfl TB rfl (List.Mem.head _) (fun p hp _ => by rw [List.mem_singleton.mp hp]; rfl) rfl (fun y hy z => absurd z ((by decide +kernel : ∀ y ∈ _, y.2 ≠ NameKind.free) y hy))) (pa_cons (pe_lamQ (q := lamP "_law_bad_right") (T := [(T.pt_w_bad_right, lamQ "_law_bad_right")]) rfl rfl TB rfl (List.Mem.head _) (fun p hp _ => by rw [List.mem_singleton.mp hp]; rfl) rfl (fun y hy z => absurd z ((by decide +kernel : ∀ y ∈ _, y.2 ≠ NameKind.free) y hy))) pa_nil)))))
          (pss_cons (ps_set (i := 4) sc_w_bad_right.nd rfl (Or.inl rfl) (pe_op op_cat (pv 4) (pe_lst (pa_cons (pe_lamQ (q := lamP "_law_bad_right") (T := [(T.pt_w_bad_right, lamQ "_law_bad_right")]) rfl rfl TB rfl (List.Mem.head _) (fun p hp _ => by rw [List.mem_singleton.mp hp]; rfl) rfl (fun y hy z => absurd z ((by decide +kernel : ∀ y ∈ _, y.2 ≠ NameKind.free) y hy))) pa_nil))))
          (pss_one (ps_if (pt_not (pt_val (pe_callB (r := rAll K) (cr_all rfl) (by rfl) T.n_all (by decide +kernel) (pa_cons (pe_lc (own := [("_law_ask", 5)]) (g := (gName 5)) (tt := tYes) (by rfl) sc_w_bad_right.nd (pi_list (pv 4)) (blkOk_by (own := [("_law_ask", 5)]) (N := ["_law_whole", "_law_spot", "_law_bad", "_law_ring", "_law_asks", "_law_ask"]) (sc := defScope s_w_bad_right) (by decide +kernel)) (fun _ _ _ _ _ => (pg_name (i := 5) sc_w_bad_right.nd rfl (Or.inl rfl))) (fun _ _ _ _ _ => pts_nil) (fun _ _ _ _ _ => (pe_call (ok_w_refused (P := P) (w := w) (base := base) T) (hr.mono (by decide)) (by rfl) T.g_w_refused T.F_w_refused.kp T.b_w_refused .nil pass0 (pa_cons (pv 5) (pa_cons (pv 3) (pa_cons pe_int pa_nil)))))) pa_nil))))
            (pss_one (ps_ret pe_bl))
            pss_nil))))))))
      (pss_cons (ps_for PassesOwn.never rfl (pi_list (pe_lst (pa_cons (pe_lst pa_nil) (pa_cons (pe_op op_rep (pe_lst (pa_cons pe_int pa_nil)) pe_int) (pa_cons (pe_tup (pa_cons pe_int (pa_cons pe_int pa_nil))) (pa_cons pe_non (pa_cons pe_str pa_nil))))))) (pg_name (i := 3) sc_w_bad_right.nd rfl (Or.inr rfl))
        (pss_one (ps_if (pt_not (pt_val (pe_call (ok_w_refused (P := P) (w := w) (base := base) T) (hr.mono (by decide)) (by rfl) T.g_w_refused T.F_w_refused.kp T.b_w_refused .nil pass0 (pa_cons (pe_lamQ (q := lamP "_law_bad_right") (T := [(T.pt_w_bad_right, lamQ "_law_bad_right")]) rfl rfl TB rfl (List.Mem.head _) (fun p hp _ => by rw [List.mem_singleton.mp hp]; rfl) rfl (fun y hy z => absurd z ((by decide +kernel : ∀ y ∈ _, y.2 ≠ NameKind.free) y hy))) (pa_cons (pv 3) (pa_cons pe_int pa_nil))))))
          (pss_one (ps_ret pe_bl))
          pss_nil)))
      (pss_one (ps_ret (pe_callB (r := rAll K) (cr_all rfl) (by rfl) T.n_all (by decide +kernel) (pa_cons (pe_lc (own := [("_law_bad", 2)]) (g := (gName 2)) (tt := tYes) (by rfl) sc_w_bad_right.nd (pi_list (pe_lst (pa_cons pe_bl (pa_cons (pe_un un_neg pe_int) (pa_cons pe_non (pa_cons pe_str pa_nil)))))) (blkOk_by (own := [("_law_bad", 2)]) (N := ["_law_whole", "_law_spot", "_law_bad", "_law_ring", "_law_asks", "_law_ask"]) (sc := defScope s_w_bad_right) (by decide +kernel)) (fun _ _ _ _ _ => (pg_name (i := 2) sc_w_bad_right.nd rfl (Or.inl rfl))) (fun _ _ _ _ _ => pts_nil) (fun _ _ _ _ _ => (pe_call (ok_w_refused (P := P) (w := w) (base := base) T) (hr.mono (by decide)) (by rfl) T.g_w_refused T.F_w_refused.kp T.b_w_refused .nil pass0 (pa_cons (pe_lamQ (q := lamP "_law_bad_right") (T := [(T.pt_w_bad_right, lamQ "_law_bad_right")]) rfl rfl TB rfl (List.Mem.head _) (fun p hp _ => by rw [List.mem_singleton.mp hp]; rfl) rfl (fun y hy z => absurd z ((by decide +kernel : ∀ y ∈ _, y.2 ≠ NameKind.free) y hy))) (pa_cons (pv 2) (pa_cons pe_int pa_nil)))))) pa_nil)))))), ?_⟩
    have hTabs : LamX.Tabs [(T.pt_w_bad_right, lamQ "_law_bad_right")] H := fun p hp => by
      rw [List.mem_singleton.mp hp]
      exact LamX.TabS.nil hT
    have g12 : 0 ≤ W % 12 ∧ W % 12 < 12 := ⟨Int.emod_nonneg _ (by decide), Int.emod_lt_of_pos _ (by decide)⟩
    refine q_forNLn (xs := [.int (W % 12), .int 11, .int 0]) (el_lst (ea_cons (ev_op (ev_var rfl) ev_c (rv_I (by decide))) (ea_cons ev_c (ea_cons ev_c ea_nil))) (by show 3 ≤ 100000; decide))
      (fun p i σ' H' => ∃ x1 x2 x3 x4 x5 : Option V, σ' = [some (.int W), x1, x2, x3, x4, x5] ∧ LamX.Tabs [(T.pt_w_bad_right, lamQ "_law_bad_right")] H' ∧ H' p = some (.lst [.int (W % 12), .int 11, .int 0]))
      (fun p H1 np e1 h1 => ⟨_, _, _, _, _, rfl, hTabs.ext e1, h1⟩) (fun p i σ' H' _ hh => by
        obtain ⟨_, _, _, _, _, _, _, h⟩ := hh
        exact sq_of h) ?_ ?_
    · rintro lp i x σ' H1 hi ⟨x1, x2, x3, x4, x5, rfl, hT1, hp1⟩
      obtain ⟨k, hk, rfl⟩ : ∃ k : Nat, k ≤ 11 ∧ x = .int (k : Int) := by
        match i, hi with
        | 0, hi => exact ⟨(W % 12).toNat, by omega, by rw [← Option.some.inj hi, Int.toNat_of_nonneg g12.1]⟩
        | 1, hi => exact ⟨11, by decide, (Option.some.inj hi).symm⟩
        | 2, hi => exact ⟨0, by decide, (Option.some.inj hi).symm⟩
      have hpw : ∀ G : Hp, RV (rI CPow fun i j => .int (i ^ j.toNat)) (.int 10) (.int 20) G (.int ((10 : Int) ^ (20 : Int).toNat)) := fun G => rv_I ⟨by decide, by decide, by decide⟩
      refine s_forNLn (xs := [.int 201, .int (-1), .bl true, .str "1", .non, .int ((10 : Int) ^ (20 : Int).toNat)]) (el_lst (ea_cons ev_c (ea_cons (ev_un ev_c ru_neg) (ea_cons ev_c (ea_cons ev_c (ea_cons ev_c (ea_cons (ev_op ev_c ev_c (hpw _)) ea_nil)))))) (by show 6 ≤ 100000; decide))
        (fun p i σ' H' => ∃ x2 x3 x4 x5 : Option V, σ' = [some (.int W), some (.int (k : Int)), x2, x3, x4, x5] ∧ LamX.Tabs [(T.pt_w_bad_right, lamQ "_law_bad_right")] H' ∧ H' lp = some (.lst [.int (W % 12), .int 11, .int 0]) ∧ H' p = some (.lst [.int 201, .int (-1), .bl true, .str "1", .non, .int ((10 : Int) ^ (20 : Int).toNat)]))
        (fun p H2 np e2 h2 => ⟨_, _, _, _, rfl, hT1.ext e2, e2 _ _ hp1, h2⟩) (fun p i σ' H' _ hh => by
          obtain ⟨_, _, _, _, _, _, _, h⟩ := hh
          exact sq_of h) ?_ ?_
      · rintro lq j y σ' H2 hj ⟨x2, x3, x4, x5, rfl, hT2, hp2, hq2⟩
        have hB : ∀ G : Hp, Bad1 K G y := fun G => by
          match j, hj with
          | 0, hj =>
            rw [← Option.some.inj hj]
            exact .inr ⟨201, rfl, by omega⟩
          | 1, hj =>
            rw [← Option.some.inj hj]
            exact .inr ⟨-1, rfl, by omega⟩
          | 2, hj =>
            rw [← Option.some.inj hj]
            exact .inl item_bl
          | 3, hj =>
            rw [← Option.some.inj hj]
            exact .inl item_str
          | 4, hj =>
            rw [← Option.some.inj hj]
            exact .inl item_non
          | 5, hj =>
            rw [← Option.some.inj hj]
            exact .inr ⟨_, rfl, .inr (by decide)⟩
        refine q_asgL (xs := (List.replicate k (.int 5) ++ [y]) ++ List.replicate (11 - k) (.int 200)) (el_catM (el_catM (el_repM (k := k) (el_lst (ea_cons ev_c ea_nil) (by decide)) (ev_var rfl) (by omega)) (el_lst (ea_cons (ev_var rfl) ea_nil) (by show 1 ≤ 100000; decide)) (by rw [List.length_replicate]; show k + 1 ≤ 100000; omega)) (el_repM (k := 11 - k) (el_lst (ea_cons ev_c ea_nil) (by decide)) (ev_is (ev_op ev_c (ev_var rfl) rv_I0) (by congr 1; omega)) (by omega)) (by rw [List.length_append, List.length_replicate, List.length_replicate]; show k + 1 + (11 - k) ≤ 100000; omega)) fun r H3 nr e3 hr3 => ?_
        have hR3 : BadR K H3 (.ref r) := bad_in (pre := List.replicate k 5) (post := List.replicate (11 - k) 200) (one := y) (by rw [hr3, List.map_replicate, List.map_replicate, List.append_assoc]; rfl) (by rw [List.length_replicate, List.length_replicate]; omega) (hB H3)
        refine ⟨hT2.ext e3, fun f1 c1 G1 n1 b1 t1 m1 hf1 hc1 => ⟨t1, fun f2 c2 G2 n2 b2 t2 m2 hf2 hc2 => ⟨t2, fun f3 c3 G3 n3 b3 t3 m3 hf3 hc3 => ⟨sz_of (by show 3 ≤ 100000; decide), fun p np => ?_⟩⟩⟩⟩
        refine ⟨.ref p, rfl, t3.ext (Ex.new np), fun f4 c4 G4 n4 b4 t4 m4 hf4 hc4 => ⟨sz_of (by show 1 ≤ 100000; decide), fun p2 np2 => ⟨p, p2, [.ref f1, .ref f2, .ref f3], [.ref f4], rfl, rfl, (Ex.new np2) _ _ (extn_lst n4 upd_same), upd_same, sz_of (by show 4 ≤ 100000; decide), fun z nz => ?_⟩⟩⟩
        have L1 : LamR P w K mg base T.C_BadRing (BadR K) G1 (.ref f1) := lamr hf1 hc1 (NdefX.nscope_by (by dsimp only; decide +kernel)) rfl (fun _ _ us hl => match us, hl with | [u], _ => rfl) (fun A outer s H v Q E hr hB hE => ⟨_, (pe_callS (okx_step T) (hr.mono (by decide)) (by rfl) T.g_step T.F_step.kp T.b_step (fun σ => passAt (takes_of rfl rfl rfl rfl) σ) (pa_cons (pv 0) pa_nil)), v, rfl, v, rfl, hB, hE⟩)
        have L2_ : LamR P w K mg base T.C_BadRing (BadR K) G2 (.ref f2) := lamr hf2 hc2 (NdefX.nscope_by (by dsimp only; decide +kernel)) rfl (fun _ _ us hl => match us, hl with | [u], _ => rfl) (fun A outer s H v Q E hr hB hE => ⟨_, (pe_callS (okx_after T) (hr.mono (by decide)) (by rfl) T.g_after T.F_after.kp T.b_after (fun σ => passAt (takes_of rfl rfl rfl rfl) σ) (pa_cons (pv 0) (pa_cons pe_non pa_nil))), v, rfl, v, .non, rfl, .inl ⟨hB, hE⟩⟩)
        have L3 : LamR P w K mg base T.C_BadRing (BadR K) G3 (.ref f3) := lamr hf3 hc3 (NdefX.nscope_by (by dsimp only; decide +kernel)) rfl (fun _ _ us hl => match us, hl with | [u], _ => rfl) (fun A outer s H v Q E hr hB hE => ⟨_, (pe_callS (okx_told T) (hr.mono (by decide)) (by rfl) T.g_told T.F_told.kp T.b_told (fun σ => passAt (takes_of rfl rfl rfl rfl) σ) (pa_cons (pv 0) pa_nil)), v, rfl, v, rfl, hB, hE⟩)
        have L4 : LamR P w K mg base T.C_BadRing (BadR K) G4 (.ref f4) := lamr hf4 hc4 (NdefX.nscope_by (by dsimp only; decide +kernel)) rfl (fun _ _ us hl => match us, hl with | [u], _ => rfl) (fun A outer s H v Q E hr hB hE => ⟨_, (pe_callS (okx_came T) (hr.mono (by decide)) (by rfl) T.g_came T.F_came.kp T.b_came (fun σ => passAt (takes_of rfl rfl rfl rfl) σ) (pa_cons (pv 0) pa_nil)), v, rfl, v, rfl, hB, hE⟩)
        have e4 := (Ex.new (o := .lst [.ref f4]) np2).trans (Ex.new (o := .lst ([.ref f1, .ref f2, .ref f3] ++ [.ref f4])) nz)
        have hz4 : upd (upd G4 p2 (.lst [.ref f4])) z (.lst ([.ref f1, .ref f2, .ref f3] ++ [.ref f4])) z = some (.lst ([.ref f1, .ref f2, .ref f3] ++ [.ref f4])) := upd_same
        generalize upd (upd G4 p2 (.lst [.ref f4])) z (.lst ([.ref f1, .ref f2, .ref f3] ++ [.ref f4])) = Hz at e4 hz4
        have x4 := LamX.ExtN.of e4
        have x3_ := ((LamX.ExtN.of (Ex.new (o := .lst [.ref f1, .ref f2, .ref f3]) np)).trans n4).trans x4
        have x2_ := n3.trans x3_
        have x1_ := n2.trans x2_
        have x0_ := n1.trans x1_
        have hall : ∀ v, v ∈ ([.ref f1, .ref f2, .ref f3] ++ [.ref f4] : List V) → LamR P w K mg base T.C_BadRing (BadR K) Hz v := by
          intro v hv
          simp only [List.cons_append, List.nil_append, List.mem_cons, List.not_mem_nil, or_false] at hv
          rcases hv with rfl | rfl | rfl | rfl
          · exact L1.extn x1_
          · exact L2_.extn x2_
          · exact L3.extn x3_
          · exact L4.extn x4
        have hRz := extn_badR x0_ hR3
        refine s_when (b := false) (et_is (et_not (et_B (ev_allEach (ev_var rfl) (sq_of hz4) (by show 4 ≤ 40000; decide) (fun _ => rfl) fun j v H5 e5 hj => ?_))) rfl) (fun z => nomatch z) fun _ H5 e5 => ⟨_, _, _, _, rfl, (t4.ext e4).ext e5, e5 _ _ (extn_lst x0_ (e3 _ _ hp2)), e5 _ _ (extn_lst x0_ (e3 _ _ hq2))⟩
        exact ev_refused (T := T) (B := BadR K) (ev_var rfl) (ev_var rfl) ev_c (fun _ _ _ e h => BadR.ex e h) ((hall v (List.mem_of_getElem? hj)).refuses.ex e5) (BadR.ex e5 hRz) (.inl ⟨rfl, rfl⟩)
      · rintro lq σ' H2 ⟨x2, x3, x4, x5, rfl, hT2, hp2, hq2⟩
        exact ⟨_, _, _, _, _, rfl, hT2, hp2⟩
    · rintro lp σ' H1 ⟨x1, x2, x3, x4, x5, rfl, hT1, hp1⟩
      refine n_forX (R := RRing K) (edl_lst rring_mono (as := [(), (), (), (), ()]) (eds_cons rring_mono (ed_lst (xs := []) (el_lst ea_nil (by decide)) fun _ _ h => badr_len h (.inl rfl) (by decide)) (eds_cons rring_mono (ed_lst (el_repM (x := .int 0) (k := 13) (el_lst (ea_cons ev_c ea_nil) (by decide)) ev_c (by decide)) fun _ _ h => badr_len h (.inr (by decide)) (by decide)) (eds_cons rring_mono (ed_tup (xs := [.int 0, .int 1]) (eu_tup (ea_cons ev_c (ea_cons ev_c ea_nil)) (by show 2 ≤ 100000; decide)) fun _ _ h => badr_tup h) (eds_cons rring_mono (ed_val ev_c fun _ => badr_non) (eds_cons rring_mono (ed_val ev_c fun _ => badr_str) eds_nil))))) (by decide))
        (fun p vs i σ' H' => ∃ x3 : Option V, σ' = [some (.int W), x1, x2, x3, x4, x5] ∧ LamX.Tabs [(T.pt_w_bad_right, lamQ "_law_bad_right")] H' ∧ H' p = some (.lst vs) ∧ ∀ v, v ∈ vs → BadR K H' v)
        (fun p vs H2 e2 hp hv => ⟨_, rfl, hT1.ext e2, hp, fun v hm => (hv.each hm).elim fun _ h => h⟩) (fun p vs i σ' H' hh => by
          obtain ⟨_, _, _, h, _⟩ := hh
          exact h) ?_ ?_
      · rintro p vs i v σ' H2 hi ⟨x3, rfl, hT2, hp2, hv2⟩
        refine ⟨hT2, fun f c G n b t m hf hc => ⟨v, rfl, .ref f, v, 0, T.C_BadRing, BadR K, rfl, ?_, extn_badR n (hv2 v (List.mem_of_getElem? hi)), .inl ⟨rfl, rfl⟩, fun H5 e5 => ⟨true, rfl, iteF ?_⟩⟩⟩
        · have L : LamR P w K mg base T.C_BadRing (BadR K) G (.ref f) := lamr hf hc (NdefX.nscope_by (by dsimp only; decide +kernel)) rfl (fun _ _ us hl => match us, hl with | [u], _ => rfl) (fun A outer s H v Q E hr hB hE => ⟨_, (pe_callS (okx_came T) (hr.mono (by decide)) (by rfl) T.g_came T.F_came.kp T.b_came (fun σ => passAt (takes_of rfl rfl rfl rfl) σ) (pa_cons (pv 0) pa_nil)), v, rfl, v, rfl, hB, hE⟩)
          exact L.refuses
        · exact ⟨_, rfl, t.ext e5, e5 _ _ (extn_lst n hp2), fun u hu => BadR.ex e5 (extn_badR n (hv2 u hu))⟩
      · rintro p vs σ' H2 ⟨x3, rfl, hT2, hp2, hv2⟩
        refine q_allL (xs := [.bl true, .int (-1), .non, .str "1"]) (el_lst (ea_cons ev_c (ea_cons (ev_un ev_c ru_neg) (ea_cons ev_c (ea_cons ev_c ea_nil)))) (by show 4 ≤ 100000; decide)) (by decide) hT2 (fun _ => rfl) (fun i x H3 t3 hi Q' q' => ?_) q
        have hB : ∀ G : Hp, BadN K G x := fun G => by
          match i, hi with
          | 0, hi =>
            rw [← Option.some.inj hi]
            exact .inl item_bl
          | 1, hi =>
            rw [← Option.some.inj hi]
            exact .inr ⟨-1, rfl, by omega⟩
          | 2, hi =>
            rw [← Option.some.inj hi]
            exact .inl item_non
          | 3, hi =>
            rw [← Option.some.inj hi]
            exact .inl item_str
        refine ⟨t3, fun f c G n b t m hf hc => ⟨x, rfl, .ref f, x, 1, T.C_BadNumber, BadN K, rfl, ?_, hB G, .inr ⟨rfl, rfl⟩, fun H5 e5 => q' H5 (t.ext e5) (n.trans (LamX.ExtN.of e5))⟩⟩
        have L : LamR P w K mg base T.C_BadNumber (BadN K) G (.ref f) := lamr hf hc (NdefX.nscope_by (by dsimp only; decide +kernel)) rfl (fun _ _ us hl => match us, hl with | [u], _ => rfl) (fun A outer s H v Q E hr hB hE => ⟨_, (pe_callS (okx_after T) (hr.mono (by decide)) (by rfl) T.g_after T.F_after.kp T.b_after (fun σ => passAt (takes_of rfl rfl rfl rfl) σ) (pa_cons (pe_lst (pa_cons pe_int (pa_cons pe_int pa_nil))) (pa_cons (pv 0) pa_nil))), sz_of (by show 2 ≤ 100000; decide), fun p np => ⟨v, rfl, .ref p, v, rfl, .inr ⟨⟨p, [1, 0], rfl, sq_of upd_same, ring_by (by decide)⟩, hB.ex (Ex.new np), fun H2 e2 => hE H2 ((Ex.new np).trans e2)⟩⟩⟩)
        exact L.refuses
end
section
variable {P : Program} {w : World} {K : PySem.W.Frag} {mg : Str → Option Value} {base : Heap}
/-! ### the law -/
def spLaw (K : PySem.W.Frag) : Sp := fun vs H Q _ => ∃ (a : Addr) (ns : List Int), vs = [.ref a] ∧ SqL K H a (ns.map V.int) ∧ ns.length ≤ 63 ∧ (∀ z ∈ ns, Builtin.Int.intBits z ≤ 1048576) ∧ ∀ H', Q (.bl true) H'
theorem mod_nn (W m : Int) (h : 0 < m) : 0 ≤ W % m ∧ W % m < m := ⟨Int.emod_nonneg _ (by omega), Int.emod_lt_of_pos _ h⟩
theorem abs_nn (s : Int) : 0 ≤ (if s < 0 then -s else s) := by split <;> omega
theorem sum_abs {B : Nat} : ∀ {ns : List Int}, (∀ z, z ∈ ns → z.natAbs < B) → ns.sum.natAbs ≤ ns.length * B
  | [], _ => Nat.zero_le _
  | x :: r, h => by
    have ih := sum_abs (ns := r) fun z hz => h z (List.mem_cons_of_mem _ hz)
    have hx := h x List.mem_cons_self
    rw [List.sum_cons, List.length_cons, Nat.succ_mul]
    have := Int.natAbs_add_le x r.sum
    omega
theorem abs_abs (s : Int) : (if s < 0 then -s else s).natAbs = s.natAbs := by split <;> omega
def spLawT (K : PySem.W.Frag) {mg : Str → Option Value} (T : Txt K mg) : Sp := fun vs H Q _ => ∃ (a : Addr) (ns : List Int), vs = [.ref a] ∧ SqL K H a (ns.map V.int) ∧ ns.length ≤ 63 ∧ (∀ z ∈ ns, Builtin.Int.intBits z ≤ 1048576) ∧ H T.pt_w_bad_right = some (.tbl #[]) ∧ ∀ H', Q (.bl true) H'
theorem ok_law (T : Txt K mg) (TB : LamX.TabB base mg T.cc_w_bad_right T.pt_w_bad_right) : FnOk P w K mg base CX0 8 T.f_law T.fd_law ["_law_script"] (spLawT K T) := by
  refine T.F_law.ok sc_law (fun vs H Q E h => ?_) (fun cdv A outer s H vs Q E hr h => ?_)
  · obtain ⟨a, ns, rfl, _⟩ := h
    rfl
  · obtain ⟨a, ns, rfl, hS, hl, hb, hT, q⟩ := h
    obtain ⟨e0, he1, he2, hF⟩ := few_of hb
    refine ⟨_, (pss_cons (ps_set (i := 1) sc_law.nd rfl (Or.inl rfl) (pe_callB (r := rAbs) call_abs (by rfl) T.n_abs (by decide +kernel) (pa_cons (pe_callB (r := rSum K) (cr_sum rfl) (by rfl) T.n_sum (by decide +kernel) (pa_cons (pe_slice (r := rSlL K) sl_list (pv 0) po_none (po_some pe_int)) pa_nil)) pa_nil)))
      (pss_cons (ps_if (PW.pt (pw_or (pt_not (pt_val (pe_call0 (ok_w_came_right T) (hr.mono (by decide)) (by rfl) T.g_w_came_right T.F_w_came_right.kp T.b_w_came_right .nil pass0))) (pw_or1 (pt_not (pt_val (pe_call (ok_w_lengths_right T) (hr.mono (by decide)) (by rfl) T.g_w_lengths_right T.F_w_lengths_right.kp T.b_w_lengths_right .nil pass0 (pa_cons (pv 1) pa_nil)))))))
        (pss_one (ps_ret pe_bl))
        pss_nil)
      (pss_one (ps_ret (pe_and (pe_call (ok_w_apart_right T) (hr.mono (by decide)) (by rfl) T.g_w_apart_right T.F_w_apart_right.kp T.b_w_apart_right .nil pass0 (pa_cons (pv 1) pa_nil)) (pe_one (pe_call (ok_w_bad_right T TB) (hr.mono (by decide)) (by rfl) T.g_w_bad_right T.F_w_bad_right.kp T.b_w_bad_right .nil pass0 (pa_cons (pv 1) pa_nil)))))))), ?_⟩
    refine q_asg (ev_whole (ei_var rfl hS) hl) fun H1 e1 => ?_
    have hW := abs_nn ns.sum
    have hWn : (if ns.sum < 0 then -ns.sum else ns.sum).natAbs < 2 ^ (e0 + 6) := by
      rw [abs_abs, Nat.pow_add]
      have h1 := sum_abs hF
      have h2 : ns.length * 2 ^ e0 ≤ 63 * 2 ^ e0 := Nat.mul_le_mul_right _ hl
      have h3 : 0 < 2 ^ e0 := Nat.pow_pos (by decide)
      generalize 2 ^ e0 = B at h1 h2 h3
      generalize ns.length * B = C at h1 h2
      show _ < B * 64
      omega
    generalize (if ns.sum < 0 then -ns.sum else ns.sum) = W at hW hWn
    refine q_when (b := false) (et_is (et_or (a := false) (b := false) (et_is (et_not (a := true) (et_B (fun H2 e2 Q2 q2 => ⟨rfl, fun H3 e3 => q2 H3 e3⟩))) rfl) fun _ => et_is (et_not (et_B (ev_lengths (ev_var rfl) hW))) rfl) rfl) (fun z => nomatch z) fun _ H2 e2 => ?_
    refine (ev_apart (e0 := e0 + 6) (ev_var (i := 1) rfl) hW (by omega) (by omega) hWn) H2 (Ex.refl _) _ fun H3 e3 => ⟨true, rfl, ?_⟩
    exact ⟨.int W, rfl, W, rfl, hW, e3 _ _ (e2 _ _ (e1 _ _ hT)), fun H' => q H'⟩
end
theorem law_ofT {l : PySem.W.OpenLaw} {w : World} {K : PySem.W.Frag} {h : Heap} {mg : Str → Option Value} {fa : Addr} (X : K.In h) (G : h.Ns mainGlobals mg)
    (hfa : mg "law" = some (.ref fa)) (N : Nonempty (Txt K mg)) (ht : ∀ (y : Str) (c Pt : Addr), (y = "_law_bad_right") → PySem.W.tabIn K y = some (c, Pt) → PySem.W.CodeHd h c Pt ∧ h.get? Pt = some { cls := .none, data := .fields #[] }) : LamX.LawAtS l w K CX0 8 63 "_law_script" mg fa h := by
  obtain ⟨T⟩ := N
  have e := hfa.symm.trans T.g_law
  cases e
  refine ⟨T.fd_law, [(T.cc_w_bad_right, T.pt_w_bad_right)], spLawT K T, (fun p hp => by
    simp only [List.mem_cons, List.not_mem_nil, or_false] at hp
    rcases hp with rfl
    · exact (ht "_law_bad_right" _ _ (by simp) T.ti_w_bad_right).2), (fun p hp => by
    simp only [List.mem_cons, List.not_mem_nil, or_false] at hp
    rcases hp with rfl
    · exact T.nt_w_bad_right), (fun p hp => by
    simp only [List.mem_cons, List.not_mem_nil, or_false] at hp
    rcases hp with rfl
    · exact (ht "_law_bad_right" _ _ (by simp) T.ti_w_bad_right).1), fun s v => ?_, fun H a ns hn hbits hH hS => ⟨a, ns, rfl, hS, hn, hbits, hH (T.cc_w_bad_right, T.pt_w_bad_right) (by simp), fun _ => rfl⟩, fun base _ _ TB => ok_law T (TB (T.cc_w_bad_right, T.pt_w_bad_right) (by simp))⟩
  obtain ⟨oc, od, kV, doc, pm, an, cdv, ct, osl, hfd, _, _⟩ := T.F_law.ex
  rw [hfd]
  exact .of_eq rfl
theorem txt_mk {K : PySem.W.Frag} {h : Heap} {mg : Str → Option Value} (X : K.In h) (G : h.Ns mainGlobals mg)
    {t_LONGEST : Tok}
    {t_GREATEST : Tok}
    {C_RingError : Addr}
    {C_BadRing : Addr}
    {C_BadNumber : Addr}
    {C_Answer : Addr}
    {C_Noughts : Addr}
    {C_Round : Addr}
    {C_Came : Addr}
    {C_Never : Addr}
    {f_is_whole : Addr} {od_is_whole an_is_whole : Option Addr} {sl_is_whole : Array (Option Value)} {oc_is_whole kV_is_whole dc_is_whole pm_is_whole cd_is_whole ct_is_whole : Value}
    {f_asked_ring : Addr} {od_asked_ring an_asked_ring : Option Addr} {sl_asked_ring : Array (Option Value)} {oc_asked_ring kV_asked_ring dc_asked_ring pm_asked_ring cd_asked_ring ct_asked_ring : Value}
    {f_asked_number : Addr} {od_asked_number an_asked_number : Option Addr} {sl_asked_number : Array (Option Value)} {oc_asked_number kV_asked_number dc_asked_number pm_asked_number cd_asked_number ct_asked_number : Value}
    {f_stepped : Addr} {od_stepped an_stepped : Option Addr} {sl_stepped : Array (Option Value)} {oc_stepped kV_stepped dc_stepped pm_stepped cd_stepped ct_stepped : Value}
    {f_step : Addr} {od_step an_step : Option Addr} {sl_step : Array (Option Value)} {oc_step kV_step dc_step pm_step cd_step ct_step : Value}
    {f_course : Addr} {od_course an_course : Option Addr} {sl_course : Array (Option Value)} {oc_course kV_course dc_course pm_course cd_course ct_course : Value}
    {f_after : Addr} {od_after an_after : Option Addr} {sl_after : Array (Option Value)} {oc_after kV_after dc_after pm_after cd_after ct_after : Value}
    {f_Noughts_init : Addr} {od_Noughts_init an_Noughts_init : Option Addr} {sl_Noughts_init : Array (Option Value)} {oc_Noughts_init kV_Noughts_init dc_Noughts_init pm_Noughts_init cd_Noughts_init ct_Noughts_init : Value}
    {f_Noughts_shows : Addr} {od_Noughts_shows an_Noughts_shows : Option Addr} {sl_Noughts_shows : Array (Option Value)} {oc_Noughts_shows kV_Noughts_shows dc_Noughts_shows pm_Noughts_shows cd_Noughts_shows ct_Noughts_shows : Value}
    {f_Round_init : Addr} {od_Round_init an_Round_init : Option Addr} {sl_Round_init : Array (Option Value)} {oc_Round_init kV_Round_init dc_Round_init pm_Round_init cd_Round_init ct_Round_init : Value}
    {f_Round_shows : Addr} {od_Round_shows an_Round_shows : Option Addr} {sl_Round_shows : Array (Option Value)} {oc_Round_shows kV_Round_shows dc_Round_shows pm_Round_shows cd_Round_shows ct_Round_shows : Value}
    {f_Came_init : Addr} {od_Came_init an_Came_init : Option Addr} {sl_Came_init : Array (Option Value)} {oc_Came_init kV_Came_init dc_Came_init pm_Came_init cd_Came_init ct_Came_init : Value}
    {f_told : Addr} {od_told an_told : Option Addr} {sl_told : Array (Option Value)} {oc_told kV_told dc_told pm_told cd_told ct_told : Value}
    {f_heaps_of : Addr} {od_heaps_of an_heaps_of : Option Addr} {sl_heaps_of : Array (Option Value)} {oc_heaps_of kV_heaps_of dc_heaps_of pm_heaps_of cd_heaps_of ct_heaps_of : Value}
    {f_came : Addr} {od_came an_came : Option Addr} {sl_came : Array (Option Value)} {oc_came kV_came dc_came pm_came cd_came ct_came : Value}
    {f_w_refused : Addr} {od_w_refused an_w_refused : Option Addr} {sl_w_refused : Array (Option Value)} {oc_w_refused kV_w_refused dc_w_refused pm_w_refused cd_w_refused ct_w_refused : Value}
    {f_w_step : Addr} {od_w_step an_w_step : Option Addr} {sl_w_step : Array (Option Value)} {oc_w_step kV_w_step dc_w_step pm_w_step cd_w_step ct_w_step : Value}
    {f_w_came_right : Addr} {od_w_came_right an_w_came_right : Option Addr} {sl_w_came_right : Array (Option Value)} {oc_w_came_right kV_w_came_right dc_w_came_right pm_w_came_right cd_w_came_right ct_w_came_right : Value}
    {f_w_lengths_right : Addr} {od_w_lengths_right an_w_lengths_right : Option Addr} {sl_w_lengths_right : Array (Option Value)} {oc_w_lengths_right kV_w_lengths_right dc_w_lengths_right pm_w_lengths_right cd_w_lengths_right ct_w_lengths_right : Value}
    {f_w_apart_right : Addr} {od_w_apart_right an_w_apart_right : Option Addr} {sl_w_apart_right : Array (Option Value)} {oc_w_apart_right kV_w_apart_right dc_w_apart_right pm_w_apart_right cd_w_apart_right ct_w_apart_right : Value}
    {f_w_bad_right : Addr} {od_w_bad_right an_w_bad_right : Option Addr} {sl_w_bad_right : Array (Option Value)} {oc_w_bad_right kV_w_bad_right dc_w_bad_right pm_w_bad_right ct_w_bad_right : Value}
    {cc_w_bad_right pt_w_bad_right : Addr}
    {f_law : Addr} {od_law an_law : Option Addr} {sl_law : Array (Option Value)} {oc_law kV_law dc_law pm_law cd_law ct_law : Value}
    (z_ValueError : PySem.W.nsIn K mainGlobals "ValueError" = some none)
    (z_abs : PySem.W.nsIn K mainGlobals "abs" = some none)
    (z_all : PySem.W.nsIn K mainGlobals "all" = some none)
    (z_any : PySem.W.nsIn K mainGlobals "any" = some none)
    (z_bool : PySem.W.nsIn K mainGlobals "bool" = some none)
    (z_int : PySem.W.nsIn K mainGlobals "int" = some none)
    (z_isinstance : PySem.W.nsIn K mainGlobals "isinstance" = some none)
    (z_len : PySem.W.nsIn K mainGlobals "len" = some none)
    (z_list : PySem.W.nsIn K mainGlobals "list" = some none)
    (z_max : PySem.W.nsIn K mainGlobals "max" = some none)
    (z_min : PySem.W.nsIn K mainGlobals "min" = some none)
    (z_range : PySem.W.nsIn K mainGlobals "range" = some none)
    (z_sum : PySem.W.nsIn K mainGlobals "sum" = some none)
    (z_tuple : PySem.W.nsIn K mainGlobals "tuple" = some none)
    (z_zip : PySem.W.nsIn K mainGlobals "zip" = some none)
    (q_LONGEST : PySem.W.nsIn K mainGlobals "LONGEST" = some (some (.int 12 t_LONGEST)))
    (q_GREATEST : PySem.W.nsIn K mainGlobals "GREATEST" = some (some (.int 200 t_GREATEST)))
    (aC_RingError : PySem.W.nsIn K mainGlobals "RingError" = some (some (.ref C_RingError)))
    (aC_BadRing : PySem.W.nsIn K mainGlobals "BadRing" = some (some (.ref C_BadRing)))
    (aC_BadNumber : PySem.W.nsIn K mainGlobals "BadNumber" = some (some (.ref C_BadNumber)))
    (aC_Answer : PySem.W.nsIn K mainGlobals "Answer" = some (some (.ref C_Answer)))
    (aC_Noughts : PySem.W.nsIn K mainGlobals "Noughts" = some (some (.ref C_Noughts)))
    (aC_Round : PySem.W.nsIn K mainGlobals "Round" = some (some (.ref C_Round)))
    (aC_Came : PySem.W.nsIn K mainGlobals "Came" = some (some (.ref C_Came)))
    (aC_Never : PySem.W.nsIn K mainGlobals "Never" = some (some (.ref C_Never)))
    (pg_Noughts : PySem.W.plainGet K C_Noughts Str.empty = true)
    (hd_Noughts : PySem.W.hasDictIn K C_Noughts = true)
    (po_Noughts : PySem.W.plainOver K C_Noughts = true)
    (sa_Noughts : PySem.W.findIn K (.ref C_Noughts) "__setattr__" = some (some (.builtin "object.__setattr__")))
    (mk_Noughts : PySem.W.makesIn K C_Noughts = true)
    (kc_Noughts : PySem.W.keepIn K (.ref C_Noughts) = true)
    (na_Noughts_steps : PySem.W.findIn K (.ref C_Noughts) "steps" = some none)
    (pg_Round : PySem.W.plainGet K C_Round Str.empty = true)
    (hd_Round : PySem.W.hasDictIn K C_Round = true)
    (po_Round : PySem.W.plainOver K C_Round = true)
    (sa_Round : PySem.W.findIn K (.ref C_Round) "__setattr__" = some (some (.builtin "object.__setattr__")))
    (mk_Round : PySem.W.makesIn K C_Round = true)
    (kc_Round : PySem.W.keepIn K (.ref C_Round) = true)
    (na_Round_steps : PySem.W.findIn K (.ref C_Round) "steps" = some none)
    (na_Round_length : PySem.W.findIn K (.ref C_Round) "length" = some none)
    (na_Round_number : PySem.W.findIn K (.ref C_Round) "number" = some none)
    (pg_Came : PySem.W.plainGet K C_Came Str.empty = true)
    (hd_Came : PySem.W.hasDictIn K C_Came = true)
    (po_Came : PySem.W.plainOver K C_Came = true)
    (sa_Came : PySem.W.findIn K (.ref C_Came) "__setattr__" = some (some (.builtin "object.__setattr__")))
    (mk_Came : PySem.W.makesIn K C_Came = true)
    (kc_Came : PySem.W.keepIn K (.ref C_Came) = true)
    (na_Came_ring : PySem.W.findIn K (.ref C_Came) "ring" = some none)
    (pg_Never : PySem.W.plainGet K C_Never Str.empty = true)
    (hd_Never : PySem.W.hasDictIn K C_Never = true)
    (po_Never : PySem.W.plainOver K C_Never = true)
    (sa_Never : PySem.W.findIn K (.ref C_Never) "__setattr__" = some (some (.builtin "object.__setattr__")))
    (mk_Never : PySem.W.makesIn K C_Never = true)
    (kc_Never : PySem.W.keepIn K (.ref C_Never) = true)
    (pi_Never : PySem.W.findIn K (.ref C_Never) "__init__" = some (some (.builtin "object.__init__")))
    (a_is_whole : PySem.W.nsIn K mainGlobals "is_whole" = some (some (.ref f_is_whole)))
    (l_is_whole : K.lookup f_is_whole = some ⟨oc_is_whole, od_is_whole, .func (PySem.W.fnOf "is_whole" "is_whole" (defArgs s_is_whole) (defBody s_is_whole) (defScope s_is_whole) .none kV_is_whole dc_is_whole pm_is_whole an_is_whole cd_is_whole ct_is_whole), sl_is_whole⟩)
    (cc_is_whole : PySem.W.codeIn K cd_is_whole "is_whole" = true)
    (kk_is_whole : PySem.W.keepIn K (.ref f_is_whole) = true)
    (a_asked_ring : PySem.W.nsIn K mainGlobals "asked_ring" = some (some (.ref f_asked_ring)))
    (l_asked_ring : K.lookup f_asked_ring = some ⟨oc_asked_ring, od_asked_ring, .func (PySem.W.fnOf "asked_ring" "asked_ring" (defArgs s_asked_ring) (defBody s_asked_ring) (defScope s_asked_ring) .none kV_asked_ring dc_asked_ring pm_asked_ring an_asked_ring cd_asked_ring ct_asked_ring), sl_asked_ring⟩)
    (cc_asked_ring : PySem.W.codeIn K cd_asked_ring "asked_ring" = true)
    (kk_asked_ring : PySem.W.keepIn K (.ref f_asked_ring) = true)
    (a_asked_number : PySem.W.nsIn K mainGlobals "asked_number" = some (some (.ref f_asked_number)))
    (l_asked_number : K.lookup f_asked_number = some ⟨oc_asked_number, od_asked_number, .func (PySem.W.fnOf "asked_number" "asked_number" (defArgs s_asked_number) (defBody s_asked_number) (defScope s_asked_number) .none kV_asked_number dc_asked_number pm_asked_number an_asked_number cd_asked_number ct_asked_number), sl_asked_number⟩)
    (cc_asked_number : PySem.W.codeIn K cd_asked_number "asked_number" = true)
    (kk_asked_number : PySem.W.keepIn K (.ref f_asked_number) = true)
    (a_stepped : PySem.W.nsIn K mainGlobals "stepped" = some (some (.ref f_stepped)))
    (l_stepped : K.lookup f_stepped = some ⟨oc_stepped, od_stepped, .func (PySem.W.fnOf "stepped" "stepped" (defArgs s_stepped) (defBody s_stepped) (defScope s_stepped) .none kV_stepped dc_stepped pm_stepped an_stepped cd_stepped ct_stepped), sl_stepped⟩)
    (cc_stepped : PySem.W.codeIn K cd_stepped "stepped" = true)
    (kk_stepped : PySem.W.keepIn K (.ref f_stepped) = true)
    (a_step : PySem.W.nsIn K mainGlobals "step" = some (some (.ref f_step)))
    (l_step : K.lookup f_step = some ⟨oc_step, od_step, .func (PySem.W.fnOf "step" "step" (defArgs s_step) (defBody s_step) (defScope s_step) .none kV_step dc_step pm_step an_step cd_step ct_step), sl_step⟩)
    (cc_step : PySem.W.codeIn K cd_step "step" = true)
    (kk_step : PySem.W.keepIn K (.ref f_step) = true)
    (a_course : PySem.W.nsIn K mainGlobals "course" = some (some (.ref f_course)))
    (l_course : K.lookup f_course = some ⟨oc_course, od_course, .func (PySem.W.fnOf "course" "course" (defArgs s_course) (defBody s_course) (defScope s_course) .none kV_course dc_course pm_course an_course cd_course ct_course), sl_course⟩)
    (cc_course : PySem.W.codeIn K cd_course "course" = true)
    (kk_course : PySem.W.keepIn K (.ref f_course) = true)
    (a_after : PySem.W.nsIn K mainGlobals "after" = some (some (.ref f_after)))
    (l_after : K.lookup f_after = some ⟨oc_after, od_after, .func (PySem.W.fnOf "after" "after" (defArgs s_after) (defBody s_after) (defScope s_after) .none kV_after dc_after pm_after an_after cd_after ct_after), sl_after⟩)
    (cc_after : PySem.W.codeIn K cd_after "after" = true)
    (kk_after : PySem.W.keepIn K (.ref f_after) = true)
    (a_Noughts_init : PySem.W.findIn K (.ref C_Noughts) "__init__" = some (some (.ref f_Noughts_init)))
    (i_Noughts_init : PySem.W.isFn K (.ref f_Noughts_init) = true)
    (l_Noughts_init : K.lookup f_Noughts_init = some ⟨oc_Noughts_init, od_Noughts_init, .func (PySem.W.fnOf "__init__" "Noughts.__init__" (defArgs s_Noughts_init) (defBody s_Noughts_init) (defScope s_Noughts_init) .none kV_Noughts_init dc_Noughts_init pm_Noughts_init an_Noughts_init cd_Noughts_init ct_Noughts_init), sl_Noughts_init⟩)
    (cc_Noughts_init : PySem.W.codeIn K cd_Noughts_init "Noughts.__init__" = true)
    (kk_Noughts_init : PySem.W.keepIn K (.ref f_Noughts_init) = true)
    (a_Noughts_shows : PySem.W.findIn K (.ref C_Noughts) "shows" = some (some (.ref f_Noughts_shows)))
    (i_Noughts_shows : PySem.W.isFn K (.ref f_Noughts_shows) = true)
    (l_Noughts_shows : K.lookup f_Noughts_shows = some ⟨oc_Noughts_shows, od_Noughts_shows, .func (PySem.W.fnOf "shows" "Noughts.shows" (defArgs s_Noughts_shows) (defBody s_Noughts_shows) (defScope s_Noughts_shows) .none kV_Noughts_shows dc_Noughts_shows pm_Noughts_shows an_Noughts_shows cd_Noughts_shows ct_Noughts_shows), sl_Noughts_shows⟩)
    (cc_Noughts_shows : PySem.W.codeIn K cd_Noughts_shows "Noughts.shows" = true)
    (kk_Noughts_shows : PySem.W.keepIn K (.ref f_Noughts_shows) = true)
    (a_Round_init : PySem.W.findIn K (.ref C_Round) "__init__" = some (some (.ref f_Round_init)))
    (i_Round_init : PySem.W.isFn K (.ref f_Round_init) = true)
    (l_Round_init : K.lookup f_Round_init = some ⟨oc_Round_init, od_Round_init, .func (PySem.W.fnOf "__init__" "Round.__init__" (defArgs s_Round_init) (defBody s_Round_init) (defScope s_Round_init) .none kV_Round_init dc_Round_init pm_Round_init an_Round_init cd_Round_init ct_Round_init), sl_Round_init⟩)
    (cc_Round_init : PySem.W.codeIn K cd_Round_init "Round.__init__" = true)
    (kk_Round_init : PySem.W.keepIn K (.ref f_Round_init) = true)
    (a_Round_shows : PySem.W.findIn K (.ref C_Round) "shows" = some (some (.ref f_Round_shows)))
    (i_Round_shows : PySem.W.isFn K (.ref f_Round_shows) = true)
    (l_Round_shows : K.lookup f_Round_shows = some ⟨oc_Round_shows, od_Round_shows, .func (PySem.W.fnOf "shows" "Round.shows" (defArgs s_Round_shows) (defBody s_Round_shows) (defScope s_Round_shows) .none kV_Round_shows dc_Round_shows pm_Round_shows an_Round_shows cd_Round_shows ct_Round_shows), sl_Round_shows⟩)
    (cc_Round_shows : PySem.W.codeIn K cd_Round_shows "Round.shows" = true)
    (kk_Round_shows : PySem.W.keepIn K (.ref f_Round_shows) = true)
    (a_Came_init : PySem.W.findIn K (.ref C_Came) "__init__" = some (some (.ref f_Came_init)))
    (i_Came_init : PySem.W.isFn K (.ref f_Came_init) = true)
    (l_Came_init : K.lookup f_Came_init = some ⟨oc_Came_init, od_Came_init, .func (PySem.W.fnOf "__init__" "Came.__init__" (defArgs s_Came_init) (defBody s_Came_init) (defScope s_Came_init) .none kV_Came_init dc_Came_init pm_Came_init an_Came_init cd_Came_init ct_Came_init), sl_Came_init⟩)
    (cc_Came_init : PySem.W.codeIn K cd_Came_init "Came.__init__" = true)
    (kk_Came_init : PySem.W.keepIn K (.ref f_Came_init) = true)
    (a_told : PySem.W.nsIn K mainGlobals "told" = some (some (.ref f_told)))
    (l_told : K.lookup f_told = some ⟨oc_told, od_told, .func (PySem.W.fnOf "told" "told" (defArgs s_told) (defBody s_told) (defScope s_told) .none kV_told dc_told pm_told an_told cd_told ct_told), sl_told⟩)
    (cc_told : PySem.W.codeIn K cd_told "told" = true)
    (kk_told : PySem.W.keepIn K (.ref f_told) = true)
    (a_heaps_of : PySem.W.nsIn K mainGlobals "heaps_of" = some (some (.ref f_heaps_of)))
    (l_heaps_of : K.lookup f_heaps_of = some ⟨oc_heaps_of, od_heaps_of, .func (PySem.W.fnOf "heaps_of" "heaps_of" (defArgs s_heaps_of) (defBody s_heaps_of) (defScope s_heaps_of) .none kV_heaps_of dc_heaps_of pm_heaps_of an_heaps_of cd_heaps_of ct_heaps_of), sl_heaps_of⟩)
    (cc_heaps_of : PySem.W.codeIn K cd_heaps_of "heaps_of" = true)
    (kk_heaps_of : PySem.W.keepIn K (.ref f_heaps_of) = true)
    (a_came : PySem.W.nsIn K mainGlobals "came" = some (some (.ref f_came)))
    (l_came : K.lookup f_came = some ⟨oc_came, od_came, .func (PySem.W.fnOf "came" "came" (defArgs s_came) (defBody s_came) (defScope s_came) .none kV_came dc_came pm_came an_came cd_came ct_came), sl_came⟩)
    (cc_came : PySem.W.codeIn K cd_came "came" = true)
    (kk_came : PySem.W.keepIn K (.ref f_came) = true)
    (a_w_refused : PySem.W.nsIn K mainGlobals "_law_refused" = some (some (.ref f_w_refused)))
    (l_w_refused : K.lookup f_w_refused = some ⟨oc_w_refused, od_w_refused, .func (PySem.W.fnOf "_law_refused" "_law_refused" (defArgs s_w_refused) (defBody s_w_refused) (defScope s_w_refused) .none kV_w_refused dc_w_refused pm_w_refused an_w_refused cd_w_refused ct_w_refused), sl_w_refused⟩)
    (cc_w_refused : PySem.W.codeIn K cd_w_refused "_law_refused" = true)
    (kk_w_refused : PySem.W.keepIn K (.ref f_w_refused) = true)
    (a_w_step : PySem.W.nsIn K mainGlobals "_law_step" = some (some (.ref f_w_step)))
    (l_w_step : K.lookup f_w_step = some ⟨oc_w_step, od_w_step, .func (PySem.W.fnOf "_law_step" "_law_step" (defArgs s_w_step) (defBody s_w_step) (defScope s_w_step) .none kV_w_step dc_w_step pm_w_step an_w_step cd_w_step ct_w_step), sl_w_step⟩)
    (cc_w_step : PySem.W.codeIn K cd_w_step "_law_step" = true)
    (kk_w_step : PySem.W.keepIn K (.ref f_w_step) = true)
    (a_w_came_right : PySem.W.nsIn K mainGlobals "_law_came_right" = some (some (.ref f_w_came_right)))
    (l_w_came_right : K.lookup f_w_came_right = some ⟨oc_w_came_right, od_w_came_right, .func (PySem.W.fnOf "_law_came_right" "_law_came_right" (defArgs s_w_came_right) (defBody s_w_came_right) (defScope s_w_came_right) .none kV_w_came_right dc_w_came_right pm_w_came_right an_w_came_right cd_w_came_right ct_w_came_right), sl_w_came_right⟩)
    (cc_w_came_right : PySem.W.codeIn K cd_w_came_right "_law_came_right" = true)
    (kk_w_came_right : PySem.W.keepIn K (.ref f_w_came_right) = true)
    (a_w_lengths_right : PySem.W.nsIn K mainGlobals "_law_lengths_right" = some (some (.ref f_w_lengths_right)))
    (l_w_lengths_right : K.lookup f_w_lengths_right = some ⟨oc_w_lengths_right, od_w_lengths_right, .func (PySem.W.fnOf "_law_lengths_right" "_law_lengths_right" (defArgs s_w_lengths_right) (defBody s_w_lengths_right) (defScope s_w_lengths_right) .none kV_w_lengths_right dc_w_lengths_right pm_w_lengths_right an_w_lengths_right cd_w_lengths_right ct_w_lengths_right), sl_w_lengths_right⟩)
    (cc_w_lengths_right : PySem.W.codeIn K cd_w_lengths_right "_law_lengths_right" = true)
    (kk_w_lengths_right : PySem.W.keepIn K (.ref f_w_lengths_right) = true)
    (a_w_apart_right : PySem.W.nsIn K mainGlobals "_law_apart_right" = some (some (.ref f_w_apart_right)))
    (l_w_apart_right : K.lookup f_w_apart_right = some ⟨oc_w_apart_right, od_w_apart_right, .func (PySem.W.fnOf "_law_apart_right" "_law_apart_right" (defArgs s_w_apart_right) (defBody s_w_apart_right) (defScope s_w_apart_right) .none kV_w_apart_right dc_w_apart_right pm_w_apart_right an_w_apart_right cd_w_apart_right ct_w_apart_right), sl_w_apart_right⟩)
    (cc_w_apart_right : PySem.W.codeIn K cd_w_apart_right "_law_apart_right" = true)
    (kk_w_apart_right : PySem.W.keepIn K (.ref f_w_apart_right) = true)
    (a_w_bad_right : PySem.W.nsIn K mainGlobals "_law_bad_right" = some (some (.ref f_w_bad_right)))
    (l_w_bad_right : K.lookup f_w_bad_right = some ⟨oc_w_bad_right, od_w_bad_right, .func (PySem.W.fnOf "_law_bad_right" "_law_bad_right" (defArgs s_w_bad_right) (defBody s_w_bad_right) (defScope s_w_bad_right) .none kV_w_bad_right dc_w_bad_right pm_w_bad_right an_w_bad_right (.ref cc_w_bad_right) ct_w_bad_right), sl_w_bad_right⟩)
    (cd0_w_bad_right : PySem.W.codeIn K (.ref cc_w_bad_right) "_law_bad_right" = true)
    (ti_w_bad_right : PySem.W.tabIn K "_law_bad_right" = some (cc_w_bad_right, pt_w_bad_right))
    (nt_w_bad_right : K.lookup pt_w_bad_right = none)
    (kk_w_bad_right : PySem.W.keepIn K (.ref f_w_bad_right) = true)
    (a_law : PySem.W.nsIn K mainGlobals "law" = some (some (.ref f_law)))
    (l_law : K.lookup f_law = some ⟨oc_law, od_law, .func (PySem.W.fnOf "law" "law" (defArgs s_law) (defBody s_law) (defScope s_law) .none kV_law dc_law pm_law an_law cd_law ct_law), sl_law⟩)
    (cc_law : PySem.W.codeIn K cd_law "law" = true)
    (kk_law : PySem.W.keepIn K (.ref f_law) = true)
    (cg : PySem.W.specialIn K (.builtin "object.__class__") "__get__" = some (some (.builtin "getset_descriptor.__get__")))
    (ct : PySem.W.takesIn K (.builtin "object.__class__") = some true)
    (isC_Noughts : PySem.W.isClsIn K C_Noughts = true)
    (tyC_Noughts : PySem.W.typeIn K (.ref C_Noughts) = some (.type "type"))
    (su_Noughts_Noughts : PySem.W.subIn K (.ref C_Noughts) (.ref C_Noughts) = some true)
    (isC_Round : PySem.W.isClsIn K C_Round = true)
    (tyC_Round : PySem.W.typeIn K (.ref C_Round) = some (.type "type"))
    (su_Round_Round : PySem.W.subIn K (.ref C_Round) (.ref C_Round) = some true)
    (isC_Came : PySem.W.isClsIn K C_Came = true)
    (tyC_Came : PySem.W.typeIn K (.ref C_Came) = some (.type "type"))
    (su_Came_Came : PySem.W.subIn K (.ref C_Came) (.ref C_Came) = some true)
    (isC_Never : PySem.W.isClsIn K C_Never = true)
    (tyC_Never : PySem.W.typeIn K (.ref C_Never) = some (.type "type"))
    (su_Never_Never : PySem.W.subIn K (.ref C_Never) (.ref C_Never) = some true)
    (ic_Noughts : PySem.W.findIn K (.ref C_Noughts) "__class__" = some (some (.builtin "object.__class__")))
    (mo_Noughts : PySem.W.mroIn K C_Noughts (.type "object") = some true)
    (su_Noughts_Round : PySem.W.subIn K (.ref C_Noughts) (.ref C_Round) = some false)
    (su_Noughts_Came : PySem.W.subIn K (.ref C_Noughts) (.ref C_Came) = some false)
    (su_Noughts_Never : PySem.W.subIn K (.ref C_Noughts) (.ref C_Never) = some false)
    (ic_Round : PySem.W.findIn K (.ref C_Round) "__class__" = some (some (.builtin "object.__class__")))
    (mo_Round : PySem.W.mroIn K C_Round (.type "object") = some true)
    (su_Round_Noughts : PySem.W.subIn K (.ref C_Round) (.ref C_Noughts) = some false)
    (su_Round_Came : PySem.W.subIn K (.ref C_Round) (.ref C_Came) = some false)
    (su_Round_Never : PySem.W.subIn K (.ref C_Round) (.ref C_Never) = some false)
    (ic_Came : PySem.W.findIn K (.ref C_Came) "__class__" = some (some (.builtin "object.__class__")))
    (mo_Came : PySem.W.mroIn K C_Came (.type "object") = some true)
    (su_Came_Noughts : PySem.W.subIn K (.ref C_Came) (.ref C_Noughts) = some false)
    (su_Came_Round : PySem.W.subIn K (.ref C_Came) (.ref C_Round) = some false)
    (su_Came_Never : PySem.W.subIn K (.ref C_Came) (.ref C_Never) = some false)
    (ic_Never : PySem.W.findIn K (.ref C_Never) "__class__" = some (some (.builtin "object.__class__")))
    (mo_Never : PySem.W.mroIn K C_Never (.type "object") = some true)
    (su_Never_Noughts : PySem.W.subIn K (.ref C_Never) (.ref C_Noughts) = some false)
    (su_Never_Round : PySem.W.subIn K (.ref C_Never) (.ref C_Round) = some false)
    (su_Never_Came : PySem.W.subIn K (.ref C_Never) (.ref C_Came) = some false)
    (x_BadRing : PySem.W.excIn K C_BadRing [.type "ValueError", .type "Exception", .type "BaseException", .type "object"] "ValueError.__new__" = true)
    (k_BadRing : PySem.W.keepIn K (.ref C_BadRing) = true)
    (eg_BadRing : PySem.W.findIn K (.ref C_BadRing) "__getattribute__" = some (some (.builtin "BaseException.__getattribute__")))
    (ek_BadRing : PySem.W.findIn K (.ref C_BadRing) "__getattr__" = some none)
    (ea_BadRing : PySem.W.findIn K (.ref C_BadRing) "__class__" = some (some (.builtin "object.__class__")))
    (em_BadRing : PySem.W.mroIn K C_BadRing (.type "object") = some true)
    (sv_BadRing : PySem.W.subIn K (.ref C_BadRing) (.type "ValueError") = some true)
    (ei_BadRing : PySem.W.isClsIn K C_BadRing = true)
    (se_BadRing_BadRing : PySem.W.subIn K (.ref C_BadRing) (.ref C_BadRing) = some true)
    (se_BadRing_BadNumber : PySem.W.subIn K (.ref C_BadRing) (.ref C_BadNumber) = some false)
    (se_BadRing_RingError : PySem.W.subIn K (.ref C_BadRing) (.ref C_RingError) = some true)
    (x_BadNumber : PySem.W.excIn K C_BadNumber [.type "ValueError", .type "Exception", .type "BaseException", .type "object"] "ValueError.__new__" = true)
    (k_BadNumber : PySem.W.keepIn K (.ref C_BadNumber) = true)
    (eg_BadNumber : PySem.W.findIn K (.ref C_BadNumber) "__getattribute__" = some (some (.builtin "BaseException.__getattribute__")))
    (ek_BadNumber : PySem.W.findIn K (.ref C_BadNumber) "__getattr__" = some none)
    (ea_BadNumber : PySem.W.findIn K (.ref C_BadNumber) "__class__" = some (some (.builtin "object.__class__")))
    (em_BadNumber : PySem.W.mroIn K C_BadNumber (.type "object") = some true)
    (sv_BadNumber : PySem.W.subIn K (.ref C_BadNumber) (.type "ValueError") = some true)
    (ei_BadNumber : PySem.W.isClsIn K C_BadNumber = true)
    (se_BadNumber_BadRing : PySem.W.subIn K (.ref C_BadNumber) (.ref C_BadRing) = some false)
    (se_BadNumber_BadNumber : PySem.W.subIn K (.ref C_BadNumber) (.ref C_BadNumber) = some true)
    (se_BadNumber_RingError : PySem.W.subIn K (.ref C_BadNumber) (.ref C_RingError) = some true)
    (sb_BadRing : PySem.W.subIn K (.ref C_BadRing) (.type "BaseException") = some true)
    (tb_BadRing : PySem.W.typeIn K (.ref C_BadRing) = some (.type "type"))
    (ed_BadRing : PySem.W.hasDictIn K C_BadRing = true)
    (sb_BadNumber : PySem.W.subIn K (.ref C_BadNumber) (.type "BaseException") = some true)
    (tb_BadNumber : PySem.W.typeIn K (.ref C_BadNumber) = some (.type "type"))
    (ed_BadNumber : PySem.W.hasDictIn K C_BadNumber = true)
    (sb_RingError : PySem.W.subIn K (.ref C_RingError) (.type "BaseException") = some true)
    (tb_RingError : PySem.W.typeIn K (.ref C_RingError) = some (.type "type"))
    (ed_RingError : PySem.W.hasDictIn K C_RingError = true) : Nonempty (Txt K mg) := by
  have F_is_whole := fun_mk (st := s_is_whole) l_is_whole cc_is_whole kk_is_whole
  have b_is_whole := F_is_whole.binds (ps := ["thing"]) fun _ _ _ _ _ _ us hl => match us, hl with | [_], _ => rfl
  have F_asked_ring := fun_mk (st := s_asked_ring) l_asked_ring cc_asked_ring kk_asked_ring
  have b_asked_ring := F_asked_ring.binds (ps := ["ring"]) fun _ _ _ _ _ _ us hl => match us, hl with | [_], _ => rfl
  have F_asked_number := fun_mk (st := s_asked_number) l_asked_number cc_asked_number kk_asked_number
  have b_asked_number := F_asked_number.binds (ps := ["number"]) fun _ _ _ _ _ _ us hl => match us, hl with | [_], _ => rfl
  have F_stepped := fun_mk (st := s_stepped) l_stepped cc_stepped kk_stepped
  have b_stepped := F_stepped.binds (ps := ["ring"]) fun _ _ _ _ _ _ us hl => match us, hl with | [_], _ => rfl
  have F_step := fun_mk (st := s_step) l_step cc_step kk_step
  have b_step := F_step.binds (ps := ["ring"]) fun _ _ _ _ _ _ us hl => match us, hl with | [_], _ => rfl
  have F_course := fun_mk (st := s_course) l_course cc_course kk_course
  have b_course := F_course.binds (ps := ["ring"]) fun _ _ _ _ _ _ us hl => match us, hl with | [_], _ => rfl
  have F_after := fun_mk (st := s_after) l_after cc_after kk_after
  have b_after := F_after.binds (ps := ["ring", "steps"]) fun _ _ _ _ _ _ us hl => match us, hl with | [_, _], _ => rfl
  have F_Noughts_init := fun_mk (st := s_Noughts_init) l_Noughts_init cc_Noughts_init kk_Noughts_init
  have b_Noughts_init := F_Noughts_init.binds (ps := ["self", "steps"]) fun _ _ _ _ _ _ us hl => match us, hl with | [_, _], _ => rfl
  have F_Noughts_shows := fun_mk (st := s_Noughts_shows) l_Noughts_shows cc_Noughts_shows kk_Noughts_shows
  have b_Noughts_shows := F_Noughts_shows.binds (ps := ["self", "ring"]) fun _ _ _ _ _ _ us hl => match us, hl with | [_, _], _ => rfl
  have F_Round_init := fun_mk (st := s_Round_init) l_Round_init cc_Round_init kk_Round_init
  have b_Round_init := F_Round_init.binds (ps := ["self", "steps", "length", "number"]) fun _ _ _ _ _ _ us hl => match us, hl with | [_, _, _, _], _ => rfl
  have F_Round_shows := fun_mk (st := s_Round_shows) l_Round_shows cc_Round_shows kk_Round_shows
  have b_Round_shows := F_Round_shows.binds (ps := ["self", "ring"]) fun _ _ _ _ _ _ us hl => match us, hl with | [_, _], _ => rfl
  have F_Came_init := fun_mk (st := s_Came_init) l_Came_init cc_Came_init kk_Came_init
  have b_Came_init := F_Came_init.binds (ps := ["self", "ring"]) fun _ _ _ _ _ _ us hl => match us, hl with | [_, _], _ => rfl
  have F_told := fun_mk (st := s_told) l_told cc_told kk_told
  have b_told := F_told.binds (ps := ["ring"]) fun _ _ _ _ _ _ us hl => match us, hl with | [_], _ => rfl
  have F_heaps_of := fun_mk (st := s_heaps_of) l_heaps_of cc_heaps_of kk_heaps_of
  have b_heaps_of := F_heaps_of.binds (ps := ["ring"]) fun _ _ _ _ _ _ us hl => match us, hl with | [_], _ => rfl
  have F_came := fun_mk (st := s_came) l_came cc_came kk_came
  have b_came := F_came.binds (ps := ["ring"]) fun _ _ _ _ _ _ us hl => match us, hl with | [_], _ => rfl
  have F_w_refused := fun_mk (st := s_w_refused) l_w_refused cc_w_refused kk_w_refused
  have b_w_refused := F_w_refused.binds (ps := ["_law_ask", "_law_thing", "_law_due"]) fun _ _ _ _ _ _ us hl => match us, hl with | [_, _, _], _ => rfl
  have F_w_step := fun_mk (st := s_w_step) l_w_step cc_w_step kk_w_step
  have b_w_step := F_w_step.binds (ps := ["_law_ring"]) fun _ _ _ _ _ _ us hl => match us, hl with | [_], _ => rfl
  have F_w_came_right := fun_mk (st := s_w_came_right) l_w_came_right cc_w_came_right kk_w_came_right
  have b_w_came_right := F_w_came_right.binds (ps := []) fun _ _ _ _ _ _ us hl => match us, hl with | [], _ => rfl
  have F_w_lengths_right := fun_mk (st := s_w_lengths_right) l_w_lengths_right cc_w_lengths_right kk_w_lengths_right
  have b_w_lengths_right := F_w_lengths_right.binds (ps := ["_law_far"]) fun _ _ _ _ _ _ us hl => match us, hl with | [_], _ => rfl
  have F_w_apart_right := fun_mk (st := s_w_apart_right) l_w_apart_right cc_w_apart_right kk_w_apart_right
  have b_w_apart_right := F_w_apart_right.binds (ps := ["_law_far"]) fun _ _ _ _ _ _ us hl => match us, hl with | [_], _ => rfl
  have F_w_bad_right := fun_mk (st := s_w_bad_right) l_w_bad_right cd0_w_bad_right kk_w_bad_right
  have b_w_bad_right := F_w_bad_right.binds (ps := ["_law_whole"]) fun _ _ _ _ _ _ us hl => match us, hl with | [_], _ => rfl
  have F_law := fun_mk (st := s_law) l_law cc_law kk_law
  have b_law := F_law.binds (ps := ["_law_script"]) fun _ _ _ _ _ _ us hl => match us, hl with | [_], _ => rfl
  exact ⟨{ n_ValueError := PySem.W.mg_none_of X G z_ValueError, n_abs := PySem.W.mg_none_of X G z_abs, n_all := PySem.W.mg_none_of X G z_all, n_any := PySem.W.mg_none_of X G z_any, n_bool := PySem.W.mg_none_of X G z_bool, n_int := PySem.W.mg_none_of X G z_int, n_isinstance := PySem.W.mg_none_of X G z_isinstance, n_len := PySem.W.mg_none_of X G z_len, n_list := PySem.W.mg_none_of X G z_list, n_max := PySem.W.mg_none_of X G z_max, n_min := PySem.W.mg_none_of X G z_min, n_range := PySem.W.mg_none_of X G z_range, n_sum := PySem.W.mg_none_of X G z_sum, n_tuple := PySem.W.mg_none_of X G z_tuple, n_zip := PySem.W.mg_none_of X G z_zip, t_LONGEST := t_LONGEST, m_LONGEST := PySem.W.mg_of X G q_LONGEST, t_GREATEST := t_GREATEST, m_GREATEST := PySem.W.mg_of X G q_GREATEST, C_RingError := C_RingError, m_RingError := PySem.W.mg_of X G aC_RingError, C_BadRing := C_BadRing, m_BadRing := PySem.W.mg_of X G aC_BadRing, C_BadNumber := C_BadNumber, m_BadNumber := PySem.W.mg_of X G aC_BadNumber, C_Answer := C_Answer, m_Answer := PySem.W.mg_of X G aC_Answer, C_Noughts := C_Noughts, m_Noughts := PySem.W.mg_of X G aC_Noughts, C_Round := C_Round, m_Round := PySem.W.mg_of X G aC_Round, C_Came := C_Came, m_Came := PySem.W.mg_of X G aC_Came, C_Never := C_Never, m_Never := PySem.W.mg_of X G aC_Never, c_Noughts := ⟨pg_Noughts, hd_Noughts, po_Noughts, sa_Noughts⟩, na_Noughts_steps := na_Noughts_steps, c_Round := ⟨pg_Round, hd_Round, po_Round, sa_Round⟩, na_Round_steps := na_Round_steps, na_Round_length := na_Round_length, na_Round_number := na_Round_number, c_Came := ⟨pg_Came, hd_Came, po_Came, sa_Came⟩, na_Came_ring := na_Came_ring, c_Never := ⟨pg_Never, hd_Never, po_Never, sa_Never⟩, P_Never := ⟨mk_Never, pi_Never, kc_Never⟩, f_is_whole := f_is_whole, fd_is_whole := PySem.W.fnOf "is_whole" "is_whole" (defArgs s_is_whole) (defBody s_is_whole) (defScope s_is_whole) .none kV_is_whole dc_is_whole pm_is_whole an_is_whole cd_is_whole ct_is_whole, F_is_whole := F_is_whole, b_is_whole := b_is_whole, g_is_whole := PySem.W.mg_of X G a_is_whole, f_asked_ring := f_asked_ring, fd_asked_ring := PySem.W.fnOf "asked_ring" "asked_ring" (defArgs s_asked_ring) (defBody s_asked_ring) (defScope s_asked_ring) .none kV_asked_ring dc_asked_ring pm_asked_ring an_asked_ring cd_asked_ring ct_asked_ring, F_asked_ring := F_asked_ring, b_asked_ring := b_asked_ring, g_asked_ring := PySem.W.mg_of X G a_asked_ring, f_asked_number := f_asked_number, fd_asked_number := PySem.W.fnOf "asked_number" "asked_number" (defArgs s_asked_number) (defBody s_asked_number) (defScope s_asked_number) .none kV_asked_number dc_asked_number pm_asked_number an_asked_number cd_asked_number ct_asked_number, F_asked_number := F_asked_number, b_asked_number := b_asked_number, g_asked_number := PySem.W.mg_of X G a_asked_number, f_stepped := f_stepped, fd_stepped := PySem.W.fnOf "stepped" "stepped" (defArgs s_stepped) (defBody s_stepped) (defScope s_stepped) .none kV_stepped dc_stepped pm_stepped an_stepped cd_stepped ct_stepped, F_stepped := F_stepped, b_stepped := b_stepped, g_stepped := PySem.W.mg_of X G a_stepped, f_step := f_step, fd_step := PySem.W.fnOf "step" "step" (defArgs s_step) (defBody s_step) (defScope s_step) .none kV_step dc_step pm_step an_step cd_step ct_step, F_step := F_step, b_step := b_step, g_step := PySem.W.mg_of X G a_step, f_course := f_course, fd_course := PySem.W.fnOf "course" "course" (defArgs s_course) (defBody s_course) (defScope s_course) .none kV_course dc_course pm_course an_course cd_course ct_course, F_course := F_course, b_course := b_course, g_course := PySem.W.mg_of X G a_course, f_after := f_after, fd_after := PySem.W.fnOf "after" "after" (defArgs s_after) (defBody s_after) (defScope s_after) .none kV_after dc_after pm_after an_after cd_after ct_after, F_after := F_after, b_after := b_after, g_after := PySem.W.mg_of X G a_after, f_Noughts_init := f_Noughts_init, fd_Noughts_init := PySem.W.fnOf "__init__" "Noughts.__init__" (defArgs s_Noughts_init) (defBody s_Noughts_init) (defScope s_Noughts_init) .none kV_Noughts_init dc_Noughts_init pm_Noughts_init an_Noughts_init cd_Noughts_init ct_Noughts_init, F_Noughts_init := F_Noughts_init, b_Noughts_init := b_Noughts_init, M_Noughts := ⟨mk_Noughts, a_Noughts_init, i_Noughts_init, kc_Noughts⟩, f_Noughts_shows := f_Noughts_shows, fd_Noughts_shows := PySem.W.fnOf "shows" "Noughts.shows" (defArgs s_Noughts_shows) (defBody s_Noughts_shows) (defScope s_Noughts_shows) .none kV_Noughts_shows dc_Noughts_shows pm_Noughts_shows an_Noughts_shows cd_Noughts_shows ct_Noughts_shows, F_Noughts_shows := F_Noughts_shows, b_Noughts_shows := b_Noughts_shows, h_Noughts_shows := ⟨a_Noughts_shows, i_Noughts_shows, kk_Noughts_shows⟩, f_Round_init := f_Round_init, fd_Round_init := PySem.W.fnOf "__init__" "Round.__init__" (defArgs s_Round_init) (defBody s_Round_init) (defScope s_Round_init) .none kV_Round_init dc_Round_init pm_Round_init an_Round_init cd_Round_init ct_Round_init, F_Round_init := F_Round_init, b_Round_init := b_Round_init, M_Round := ⟨mk_Round, a_Round_init, i_Round_init, kc_Round⟩, f_Round_shows := f_Round_shows, fd_Round_shows := PySem.W.fnOf "shows" "Round.shows" (defArgs s_Round_shows) (defBody s_Round_shows) (defScope s_Round_shows) .none kV_Round_shows dc_Round_shows pm_Round_shows an_Round_shows cd_Round_shows ct_Round_shows, F_Round_shows := F_Round_shows, b_Round_shows := b_Round_shows, h_Round_shows := ⟨a_Round_shows, i_Round_shows, kk_Round_shows⟩, f_Came_init := f_Came_init, fd_Came_init := PySem.W.fnOf "__init__" "Came.__init__" (defArgs s_Came_init) (defBody s_Came_init) (defScope s_Came_init) .none kV_Came_init dc_Came_init pm_Came_init an_Came_init cd_Came_init ct_Came_init, F_Came_init := F_Came_init, b_Came_init := b_Came_init, M_Came := ⟨mk_Came, a_Came_init, i_Came_init, kc_Came⟩, f_told := f_told, fd_told := PySem.W.fnOf "told" "told" (defArgs s_told) (defBody s_told) (defScope s_told) .none kV_told dc_told pm_told an_told cd_told ct_told, F_told := F_told, b_told := b_told, g_told := PySem.W.mg_of X G a_told, f_heaps_of := f_heaps_of, fd_heaps_of := PySem.W.fnOf "heaps_of" "heaps_of" (defArgs s_heaps_of) (defBody s_heaps_of) (defScope s_heaps_of) .none kV_heaps_of dc_heaps_of pm_heaps_of an_heaps_of cd_heaps_of ct_heaps_of, F_heaps_of := F_heaps_of, b_heaps_of := b_heaps_of, g_heaps_of := PySem.W.mg_of X G a_heaps_of, f_came := f_came, fd_came := PySem.W.fnOf "came" "came" (defArgs s_came) (defBody s_came) (defScope s_came) .none kV_came dc_came pm_came an_came cd_came ct_came, F_came := F_came, b_came := b_came, g_came := PySem.W.mg_of X G a_came, f_w_refused := f_w_refused, fd_w_refused := PySem.W.fnOf "_law_refused" "_law_refused" (defArgs s_w_refused) (defBody s_w_refused) (defScope s_w_refused) .none kV_w_refused dc_w_refused pm_w_refused an_w_refused cd_w_refused ct_w_refused, F_w_refused := F_w_refused, b_w_refused := b_w_refused, g_w_refused := PySem.W.mg_of X G a_w_refused, f_w_step := f_w_step, fd_w_step := PySem.W.fnOf "_law_step" "_law_step" (defArgs s_w_step) (defBody s_w_step) (defScope s_w_step) .none kV_w_step dc_w_step pm_w_step an_w_step cd_w_step ct_w_step, F_w_step := F_w_step, b_w_step := b_w_step, g_w_step := PySem.W.mg_of X G a_w_step, f_w_came_right := f_w_came_right, fd_w_came_right := PySem.W.fnOf "_law_came_right" "_law_came_right" (defArgs s_w_came_right) (defBody s_w_came_right) (defScope s_w_came_right) .none kV_w_came_right dc_w_came_right pm_w_came_right an_w_came_right cd_w_came_right ct_w_came_right, F_w_came_right := F_w_came_right, b_w_came_right := b_w_came_right, g_w_came_right := PySem.W.mg_of X G a_w_came_right, f_w_lengths_right := f_w_lengths_right, fd_w_lengths_right := PySem.W.fnOf "_law_lengths_right" "_law_lengths_right" (defArgs s_w_lengths_right) (defBody s_w_lengths_right) (defScope s_w_lengths_right) .none kV_w_lengths_right dc_w_lengths_right pm_w_lengths_right an_w_lengths_right cd_w_lengths_right ct_w_lengths_right, F_w_lengths_right := F_w_lengths_right, b_w_lengths_right := b_w_lengths_right, g_w_lengths_right := PySem.W.mg_of X G a_w_lengths_right, f_w_apart_right := f_w_apart_right, fd_w_apart_right := PySem.W.fnOf "_law_apart_right" "_law_apart_right" (defArgs s_w_apart_right) (defBody s_w_apart_right) (defScope s_w_apart_right) .none kV_w_apart_right dc_w_apart_right pm_w_apart_right an_w_apart_right cd_w_apart_right ct_w_apart_right, F_w_apart_right := F_w_apart_right, b_w_apart_right := b_w_apart_right, g_w_apart_right := PySem.W.mg_of X G a_w_apart_right, cc_w_bad_right := cc_w_bad_right, pt_w_bad_right := pt_w_bad_right, ti_w_bad_right := ti_w_bad_right, nt_w_bad_right := nt_w_bad_right, f_w_bad_right := f_w_bad_right, fd_w_bad_right := PySem.W.fnOf "_law_bad_right" "_law_bad_right" (defArgs s_w_bad_right) (defBody s_w_bad_right) (defScope s_w_bad_right) .none kV_w_bad_right dc_w_bad_right pm_w_bad_right an_w_bad_right (.ref cc_w_bad_right) ct_w_bad_right, F_w_bad_right := F_w_bad_right, b_w_bad_right := b_w_bad_right, ll_w_bad_right := ⟨_, _, _, _, _, _, _, _, l_w_bad_right⟩, g_w_bad_right := PySem.W.mg_of X G a_w_bad_right, f_law := f_law, fd_law := PySem.W.fnOf "law" "law" (defArgs s_law) (defBody s_law) (defScope s_law) .none kV_law dc_law pm_law an_law cd_law ct_law, F_law := F_law, b_law := b_law, g_law := PySem.W.mg_of X G a_law, cg := cg, ct := ct, isC_Noughts := isC_Noughts, tyC_Noughts := tyC_Noughts, su_Noughts_Noughts := su_Noughts_Noughts, isC_Round := isC_Round, tyC_Round := tyC_Round, su_Round_Round := su_Round_Round, isC_Came := isC_Came, tyC_Came := tyC_Came, su_Came_Came := su_Came_Came, isC_Never := isC_Never, tyC_Never := tyC_Never, su_Never_Never := su_Never_Never, ic_Noughts := ic_Noughts, mo_Noughts := mo_Noughts, su_Noughts_Round := su_Noughts_Round, su_Noughts_Came := su_Noughts_Came, su_Noughts_Never := su_Noughts_Never, ic_Round := ic_Round, mo_Round := mo_Round, su_Round_Noughts := su_Round_Noughts, su_Round_Came := su_Round_Came, su_Round_Never := su_Round_Never, ic_Came := ic_Came, mo_Came := mo_Came, su_Came_Noughts := su_Came_Noughts, su_Came_Round := su_Came_Round, su_Came_Never := su_Came_Never, ic_Never := ic_Never, mo_Never := mo_Never, su_Never_Noughts := su_Never_Noughts, su_Never_Round := su_Never_Round, su_Never_Came := su_Never_Came, x_BadRing := x_BadRing, k_BadRing := k_BadRing, eg_BadRing := eg_BadRing, ek_BadRing := ek_BadRing, ea_BadRing := ea_BadRing, em_BadRing := em_BadRing, sv_BadRing := sv_BadRing, ei_BadRing := ei_BadRing, se_BadRing_BadRing := se_BadRing_BadRing, se_BadRing_BadNumber := se_BadRing_BadNumber, se_BadRing_RingError := se_BadRing_RingError, x_BadNumber := x_BadNumber, k_BadNumber := k_BadNumber, eg_BadNumber := eg_BadNumber, ek_BadNumber := ek_BadNumber, ea_BadNumber := ea_BadNumber, em_BadNumber := em_BadNumber, sv_BadNumber := sv_BadNumber, ei_BadNumber := ei_BadNumber, se_BadNumber_BadRing := se_BadNumber_BadRing, se_BadNumber_BadNumber := se_BadNumber_BadNumber, se_BadNumber_RingError := se_BadNumber_RingError, sb_BadRing := sb_BadRing, tb_BadRing := tb_BadRing, ed_BadRing := ed_BadRing, sb_BadNumber := sb_BadNumber, tb_BadNumber := tb_BadNumber, ed_BadNumber := ed_BadNumber, sb_RingError := sb_RingError, tb_RingError := tb_RingError, ed_RingError := ed_RingError }⟩
end RL
open PySem PySem.W PyProof.Rows
set_option maxRecDepth 100000 in
set_option maxHeartbeats 0 in
theorem PySem.Challenge.cw_ringdiffer_k11_whole_known_holds : PySem.Challenge.rw_ringdiffer_k11_whole_known.Holds := by
  w_on; o_law; k_head; (case hw => w_witness2)
  k_fill
  refine RL.walk_ofT (l := PySem.Challenge.rw_ringdiffer_k11_whole_known) (n := 63) (k := 8) (x := "_law_script") (CX := fun _ => L2.CX0) rfl (by decide) rfl ⟨rfl, by decide, by decide⟩
    (fun w h Y => PySem.W.km_in_of Y) ?F (fun _ _ _ _ _ h => h)
  case F =>
    intro w mg fa h Y KX G hmg ht
    refine RL.law_ofT KX G hmg ?_ (fun y c Pt hy e => ht y c Pt (by rcases hy with rfl <;> rfl) e)
    refine' RL.txt_mk KX G ?z_ValueError ?z_abs ?z_all ?z_any ?z_bool ?z_int ?z_isinstance ?z_len ?z_list ?z_max ?z_min ?z_range ?z_sum ?z_tuple ?z_zip ?q_LONGEST ?q_GREATEST ?aC_RingError ?aC_BadRing ?aC_BadNumber ?aC_Answer ?aC_Noughts ?aC_Round ?aC_Came ?aC_Never ?pg_Noughts ?hd_Noughts ?po_Noughts ?sa_Noughts ?mk_Noughts ?kc_Noughts ?na_Noughts_steps ?pg_Round ?hd_Round ?po_Round ?sa_Round ?mk_Round ?kc_Round ?na_Round_steps ?na_Round_length ?na_Round_number ?pg_Came ?hd_Came ?po_Came ?sa_Came ?mk_Came ?kc_Came ?na_Came_ring ?pg_Never ?hd_Never ?po_Never ?sa_Never ?mk_Never ?kc_Never ?pi_Never ?a_is_whole ?l_is_whole ?cc_is_whole ?kk_is_whole ?a_asked_ring ?l_asked_ring ?cc_asked_ring ?kk_asked_ring ?a_asked_number ?l_asked_number ?cc_asked_number ?kk_asked_number ?a_stepped ?l_stepped ?cc_stepped ?kk_stepped ?a_step ?l_step ?cc_step ?kk_step ?a_course ?l_course ?cc_course ?kk_course ?a_after ?l_after ?cc_after ?kk_after ?a_Noughts_init ?i_Noughts_init ?l_Noughts_init ?cc_Noughts_init ?kk_Noughts_init ?a_Noughts_shows ?i_Noughts_shows ?l_Noughts_shows ?cc_Noughts_shows ?kk_Noughts_shows ?a_Round_init ?i_Round_init ?l_Round_init ?cc_Round_init ?kk_Round_init ?a_Round_shows ?i_Round_shows ?l_Round_shows ?cc_Round_shows ?kk_Round_shows ?a_Came_init ?i_Came_init ?l_Came_init ?cc_Came_init ?kk_Came_init ?a_told ?l_told ?cc_told ?kk_told ?a_heaps_of ?l_heaps_of ?cc_heaps_of ?kk_heaps_of ?a_came ?l_came ?cc_came ?kk_came ?a_w_refused ?l_w_refused ?cc_w_refused ?kk_w_refused ?a_w_step ?l_w_step ?cc_w_step ?kk_w_step ?a_w_came_right ?l_w_came_right ?cc_w_came_right ?kk_w_came_right ?a_w_lengths_right ?l_w_lengths_right ?cc_w_lengths_right ?kk_w_lengths_right ?a_w_apart_right ?l_w_apart_right ?cc_w_apart_right ?kk_w_apart_right ?a_w_bad_right ?l_w_bad_right ?cd0_w_bad_right ?ti_w_bad_right ?nt_w_bad_right ?kk_w_bad_right ?a_law ?l_law ?cc_law ?kk_law ?cg ?ct ?isC_Noughts ?tyC_Noughts ?su_Noughts_Noughts ?isC_Round ?tyC_Round ?su_Round_Round ?isC_Came ?tyC_Came ?su_Came_Came ?isC_Never ?tyC_Never ?su_Never_Never ?ic_Noughts ?mo_Noughts ?su_Noughts_Round ?su_Noughts_Came ?su_Noughts_Never ?ic_Round ?mo_Round ?su_Round_Noughts ?su_Round_Came ?su_Round_Never ?ic_Came ?mo_Came ?su_Came_Noughts ?su_Came_Round ?su_Came_Never ?ic_Never ?mo_Never ?su_Never_Noughts ?su_Never_Round ?su_Never_Came ?x_BadRing ?k_BadRing ?eg_BadRing ?ek_BadRing ?ea_BadRing ?em_BadRing ?sv_BadRing ?ei_BadRing ?se_BadRing_BadRing ?se_BadRing_BadNumber ?se_BadRing_RingError ?x_BadNumber ?k_BadNumber ?eg_BadNumber ?ek_BadNumber ?ea_BadNumber ?em_BadNumber ?sv_BadNumber ?ei_BadNumber ?se_BadNumber_BadRing ?se_BadNumber_BadNumber ?se_BadNumber_RingError ?sb_BadRing ?tb_BadRing ?ed_BadRing ?sb_BadNumber ?tb_BadNumber ?ed_BadNumber ?sb_RingError ?tb_RingError ?ed_RingError
    (case z_ValueError => first | k_is | rfl)
    (case z_abs => first | k_is | rfl)
    (case z_all => first | k_is | rfl)
    (case z_any => first | k_is | rfl)
    (case z_bool => first | k_is | rfl)
    (case z_int => first | k_is | rfl)
    (case z_isinstance => first | k_is | rfl)
    (case z_len => first | k_is | rfl)
    (case z_list => first | k_is | rfl)
    (case z_max => first | k_is | rfl)
    (case z_min => first | k_is | rfl)
    (case z_range => first | k_is | rfl)
    (case z_sum => first | k_is | rfl)
    (case z_tuple => first | k_is | rfl)
    (case z_zip => first | k_is | rfl)
    (case q_LONGEST => first | k_is | rfl)
    (case q_GREATEST => first | k_is | rfl)
    (case aC_RingError => first | k_is | rfl)
    (case aC_BadRing => first | k_is | rfl)
    (case aC_BadNumber => first | k_is | rfl)
    (case aC_Answer => first | k_is | rfl)
    (case aC_Noughts => first | k_is | rfl)
    (case aC_Round => first | k_is | rfl)
    (case aC_Came => first | k_is | rfl)
    (case aC_Never => first | k_is | rfl)
    (case pg_Noughts => first | k_is | rfl)
    (case hd_Noughts => first | k_is | rfl)
    (case po_Noughts => first | k_is | rfl)
    (case sa_Noughts => first | k_is | rfl)
    (case mk_Noughts => first | k_is | rfl)
    (case kc_Noughts => first | k_is | rfl)
    (case na_Noughts_steps => first | k_is | rfl)
    (case pg_Round => first | k_is | rfl)
    (case hd_Round => first | k_is | rfl)
    (case po_Round => first | k_is | rfl)
    (case sa_Round => first | k_is | rfl)
    (case mk_Round => first | k_is | rfl)
    (case kc_Round => first | k_is | rfl)
    (case na_Round_steps => first | k_is | rfl)
    (case na_Round_length => first | k_is | rfl)
    (case na_Round_number => first | k_is | rfl)
    (case pg_Came => first | k_is | rfl)
    (case hd_Came => first | k_is | rfl)
    (case po_Came => first | k_is | rfl)
    (case sa_Came => first | k_is | rfl)
    (case mk_Came => first | k_is | rfl)
    (case kc_Came => first | k_is | rfl)
    (case na_Came_ring => first | k_is | rfl)
    (case pg_Never => first | k_is | rfl)
    (case hd_Never => first | k_is | rfl)
    (case po_Never => first | k_is | rfl)
    (case sa_Never => first | k_is | rfl)
    (case mk_Never => first | k_is | rfl)
    (case kc_Never => first | k_is | rfl)
    (case pi_Never => first | k_is | rfl)
    (case a_is_whole => first | k_is | rfl)
    (case l_is_whole => first | k_is | rfl)
    (case cc_is_whole => first | k_is | rfl)
    (case kk_is_whole => first | k_is | rfl)
    (case a_asked_ring => first | k_is | rfl)
    (case l_asked_ring => first | k_is | rfl)
    (case cc_asked_ring => first | k_is | rfl)
    (case kk_asked_ring => first | k_is | rfl)
    (case a_asked_number => first | k_is | rfl)
    (case l_asked_number => first | k_is | rfl)
    (case cc_asked_number => first | k_is | rfl)
    (case kk_asked_number => first | k_is | rfl)
    (case a_stepped => first | k_is | rfl)
    (case l_stepped => first | k_is | rfl)
    (case cc_stepped => first | k_is | rfl)
    (case kk_stepped => first | k_is | rfl)
    (case a_step => first | k_is | rfl)
    (case l_step => first | k_is | rfl)
    (case cc_step => first | k_is | rfl)
    (case kk_step => first | k_is | rfl)
    (case a_course => first | k_is | rfl)
    (case l_course => first | k_is | rfl)
    (case cc_course => first | k_is | rfl)
    (case kk_course => first | k_is | rfl)
    (case a_after => first | k_is | rfl)
    (case l_after => first | k_is | rfl)
    (case cc_after => first | k_is | rfl)
    (case kk_after => first | k_is | rfl)
    (case a_Noughts_init => first | k_is | rfl)
    (case i_Noughts_init => first | k_is | rfl)
    (case l_Noughts_init => first | k_is | rfl)
    (case cc_Noughts_init => first | k_is | rfl)
    (case kk_Noughts_init => first | k_is | rfl)
    (case a_Noughts_shows => first | k_is | rfl)
    (case i_Noughts_shows => first | k_is | rfl)
    (case l_Noughts_shows => first | k_is | rfl)
    (case cc_Noughts_shows => first | k_is | rfl)
    (case kk_Noughts_shows => first | k_is | rfl)
    (case a_Round_init => first | k_is | rfl)
    (case i_Round_init => first | k_is | rfl)
    (case l_Round_init => first | k_is | rfl)
    (case cc_Round_init => first | k_is | rfl)
    (case kk_Round_init => first | k_is | rfl)
    (case a_Round_shows => first | k_is | rfl)
    (case i_Round_shows => first | k_is | rfl)
    (case l_Round_shows => first | k_is | rfl)
    (case cc_Round_shows => first | k_is | rfl)
    (case kk_Round_shows => first | k_is | rfl)
    (case a_Came_init => first | k_is | rfl)
    (case i_Came_init => first | k_is | rfl)
    (case l_Came_init => first | k_is | rfl)
    (case cc_Came_init => first | k_is | rfl)
    (case kk_Came_init => first | k_is | rfl)
    (case a_told => first | k_is | rfl)
    (case l_told => first | k_is | rfl)
    (case cc_told => first | k_is | rfl)
    (case kk_told => first | k_is | rfl)
    (case a_heaps_of => first | k_is | rfl)
    (case l_heaps_of => first | k_is | rfl)
    (case cc_heaps_of => first | k_is | rfl)
    (case kk_heaps_of => first | k_is | rfl)
    (case a_came => first | k_is | rfl)
    (case l_came => first | k_is | rfl)
    (case cc_came => first | k_is | rfl)
    (case kk_came => first | k_is | rfl)
    (case a_w_refused => first | k_is | rfl)
    (case l_w_refused => first | k_is | rfl)
    (case cc_w_refused => first | k_is | rfl)
    (case kk_w_refused => first | k_is | rfl)
    (case a_w_step => first | k_is | rfl)
    (case l_w_step => first | k_is | rfl)
    (case cc_w_step => first | k_is | rfl)
    (case kk_w_step => first | k_is | rfl)
    (case a_w_came_right => first | k_is | rfl)
    (case l_w_came_right => first | k_is | rfl)
    (case cc_w_came_right => first | k_is | rfl)
    (case kk_w_came_right => first | k_is | rfl)
    (case a_w_lengths_right => first | k_is | rfl)
    (case l_w_lengths_right => first | k_is | rfl)
    (case cc_w_lengths_right => first | k_is | rfl)
    (case kk_w_lengths_right => first | k_is | rfl)
    (case a_w_apart_right => first | k_is | rfl)
    (case l_w_apart_right => first | k_is | rfl)
    (case cc_w_apart_right => first | k_is | rfl)
    (case kk_w_apart_right => first | k_is | rfl)
    (case a_w_bad_right => first | k_is | rfl)
    (case l_w_bad_right => first | k_is | rfl)
    (case cd0_w_bad_right => first | k_is | rfl)
    (case ti_w_bad_right => first | k_is | rfl)
    (case nt_w_bad_right => first | k_is | rfl)
    (case kk_w_bad_right => first | k_is | rfl)
    (case a_law => first | k_is | rfl)
    (case l_law => first | k_is | rfl)
    (case cc_law => first | k_is | rfl)
    (case kk_law => first | k_is | rfl)
    (case cg => first | k_is | rfl)
    (case ct => first | k_is | rfl)
    (case isC_Noughts => first | k_is | rfl)
    (case tyC_Noughts => first | k_is | rfl)
    (case su_Noughts_Noughts => first | k_is | rfl)
    (case isC_Round => first | k_is | rfl)
    (case tyC_Round => first | k_is | rfl)
    (case su_Round_Round => first | k_is | rfl)
    (case isC_Came => first | k_is | rfl)
    (case tyC_Came => first | k_is | rfl)
    (case su_Came_Came => first | k_is | rfl)
    (case isC_Never => first | k_is | rfl)
    (case tyC_Never => first | k_is | rfl)
    (case su_Never_Never => first | k_is | rfl)
    (case ic_Noughts => first | k_is | rfl)
    (case mo_Noughts => first | k_is | rfl)
    (case su_Noughts_Round => first | k_is | rfl)
    (case su_Noughts_Came => first | k_is | rfl)
    (case su_Noughts_Never => first | k_is | rfl)
    (case ic_Round => first | k_is | rfl)
    (case mo_Round => first | k_is | rfl)
    (case su_Round_Noughts => first | k_is | rfl)
    (case su_Round_Came => first | k_is | rfl)
    (case su_Round_Never => first | k_is | rfl)
    (case ic_Came => first | k_is | rfl)
    (case mo_Came => first | k_is | rfl)
    (case su_Came_Noughts => first | k_is | rfl)
    (case su_Came_Round => first | k_is | rfl)
    (case su_Came_Never => first | k_is | rfl)
    (case ic_Never => first | k_is | rfl)
    (case mo_Never => first | k_is | rfl)
    (case su_Never_Noughts => first | k_is | rfl)
    (case su_Never_Round => first | k_is | rfl)
    (case su_Never_Came => first | k_is | rfl)
    (case x_BadRing => k_exc)
    (case k_BadRing => first | k_is | rfl)
    (case eg_BadRing => first | k_is | rfl)
    (case ek_BadRing => first | k_is | rfl)
    (case ea_BadRing => first | k_is | rfl)
    (case em_BadRing => first | k_is | rfl)
    (case sv_BadRing => first | k_is | rfl)
    (case ei_BadRing => first | k_is | rfl)
    (case se_BadRing_BadRing => first | k_is | rfl)
    (case se_BadRing_BadNumber => first | k_is | rfl)
    (case se_BadRing_RingError => first | k_is | rfl)
    (case x_BadNumber => k_exc)
    (case k_BadNumber => first | k_is | rfl)
    (case eg_BadNumber => first | k_is | rfl)
    (case ek_BadNumber => first | k_is | rfl)
    (case ea_BadNumber => first | k_is | rfl)
    (case em_BadNumber => first | k_is | rfl)
    (case sv_BadNumber => first | k_is | rfl)
    (case ei_BadNumber => first | k_is | rfl)
    (case se_BadNumber_BadRing => first | k_is | rfl)
    (case se_BadNumber_BadNumber => first | k_is | rfl)
    (case se_BadNumber_RingError => first | k_is | rfl)
    (case sb_BadRing => first | k_is | rfl)
    (case tb_BadRing => first | k_is | rfl)
    (case ed_BadRing => first | k_is | rfl)
    (case sb_BadNumber => first | k_is | rfl)
    (case tb_BadNumber => first | k_is | rfl)
    (case ed_BadNumber => first | k_is | rfl)
    (case sb_RingError => first | k_is | rfl)
    (case tb_RingError => first | k_is | rfl)
    (case ed_RingError => first | k_is | rfl)
