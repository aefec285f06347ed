import PyProof.Rows.All
import Wide.All
import OpenK.AllK
import Wide.FinOn
import HandS.ForMost
import HandS.IsInst
import HandS.Style
import HandS.Flow
import HandS.Evl
import HandS.EndBits
import HandS.Wide
import HandS.Walk
import HandS.SetFor
import HandS.SortInts
import HandS.Strs
import PySem.Challenge.RW_ringdiffer_k07_whole_came
set_option Elab.async false
set_option linter.all false
set_option maxRecDepth 100000
set_option maxHeartbeats 4000000
namespace RD
/-! ### rings: lists of whole numbers, read round -/
def ev (l : List Int) (i : Nat) : Int := l.getD (i % l.length) 0
def dst (a b : Int) : Int := ((a - b).natAbs : Int)
def D (l : List Int) : List Int := (List.range l.length).map fun i => dst (ev l i) (ev l (i + 1))
def itr : Nat → List Int → List Int
  | 0, l => l
  | k + 1, l => D (itr k l)
theorem D_len (l : List Int) : (D l).length = l.length := by
  unfold D
  rw [List.length_map, List.length_range]
theorem itr_len (k : Nat) (l : List Int) : (itr k l).length = l.length := by
  induction k with
  | zero => rfl
  | succ k ih => exact (D_len _).trans ih
theorem D_get {l : List Int} {i : Nat} (h : i < l.length) : (D l)[i]? = some (dst (ev l i) (ev l (i + 1))) := by
  unfold D
  rw [List.getElem?_map, List.getElem?_range h]
  rfl
theorem ev_mod (l : List Int) (i : Nat) : ev l (i % l.length) = ev l i := by
  unfold ev
  rw [Nat.mod_mod]
theorem ev_lt {l : List Int} {i : Nat} (h : i < l.length) : l[i]? = some (ev l i) := by
  unfold ev
  rw [Nat.mod_eq_of_lt h, List.getD_eq_getElem?_getD, List.getElem?_eq_getElem h]
  rfl
theorem ev_D (l : List Int) (i : Nat) : ev (D l) i = dst (ev l i) (ev l (i + 1)) := by
  by_cases h0 : l.length = 0
  · have e : l = [] := List.eq_nil_of_length_eq_zero h0
    subst e
    rfl
  · have hp : 0 < l.length := Nat.pos_of_ne_zero h0
    have hm : i % l.length < l.length := Nat.mod_lt _ hp
    have h1 : ev (D l) i = dst (ev l (i % l.length)) (ev l (i % l.length + 1)) := by
      show (D l).getD (i % (D l).length) 0 = _
      rw [D_len, List.getD_eq_getElem?_getD, D_get hm]
      rfl
    rw [h1, ev_mod]
    have h2 : ev l (i % l.length + 1) = ev l (i + 1) := by
      unfold ev
      rw [Nat.mod_add_mod]
    rw [h2]
theorem ev_ext {l m : List Int} (hl : l.length = m.length) (h : ∀ i, i < l.length → ev l i = ev m i) : l = m := by
  apply List.ext_getElem? 
  intro i
  by_cases hi : i < l.length
  · rw [ev_lt hi, ev_lt (hl ▸ hi), h i hi]
  · rw [List.getElem?_eq_none (by omega), List.getElem?_eq_none (by omega)]
theorem ev_mem {l : List Int} (h : 0 < l.length) (i : Nat) : ev l i ∈ l := by
  have hm : i % l.length < l.length := Nat.mod_lt _ h
  have e := ev_lt hm
  rw [ev_mod] at e
  exact List.mem_of_getElem? e
theorem mem_ev {l : List Int} {x : Int} (h : x ∈ l) : ∃ i, i < l.length ∧ ev l i = x := by
  obtain ⟨i, hi, e⟩ := List.getElem_of_mem h
  refine ⟨i, hi, ?_⟩
  have e2 := ev_lt hi
  rw [List.getElem?_eq_getElem hi, e] at e2
  exact (Option.some.inj e2).symm
theorem itr_D (k : Nat) (l : List Int) : itr k (D l) = D (itr k l) := by
  induction k with
  | zero => rfl
  | succ k ih =>
    show D (itr k (D l)) = D (D (itr k l))
    rw [ih]
theorem itr_add (a b : Nat) (l : List Int) : itr (a + b) l = itr a (itr b l) := by
  induction a with
  | zero => rw [Nat.zero_add]; rfl
  | succ a ih =>
    rw [Nat.succ_add]
    show D (itr (a + b) l) = D (itr a (itr b l))
    rw [ih]
/-! ### bounds -/
def Bd (M : Int) (l : List Int) : Prop := ∀ x, x ∈ l → 0 ≤ x ∧ x ≤ M
def Bin (c : Int) (l : List Int) : Prop := ∀ x, x ∈ l → x = 0 ∨ x = c
theorem Bd.ev {M : Int} {l : List Int} (h : Bd M l) (hl : 0 < l.length) (i : Nat) : 0 ≤ ev l i ∧ ev l i ≤ M := h _ (ev_mem hl i)
theorem Bin.ev {M : Int} {l : List Int} (h : Bin M l) (hl : 0 < l.length) (i : Nat) : RD.ev l i = 0 ∨ RD.ev l i = M := h _ (ev_mem hl i)
theorem dst_nn (a b : Int) : 0 ≤ dst a b := Int.natCast_nonneg _
theorem dst_cases (a b : Int) : (a ≤ b ∧ dst a b = b - a) ∨ (b ≤ a ∧ dst a b = a - b) := by
  unfold dst
  omega
theorem mem_D {l : List Int} {x : Int} (h : x ∈ D l) : ∃ i, 0 < l.length ∧ x = dst (ev l i) (ev l (i + 1)) := by
  unfold D at h
  obtain ⟨i, hi, e⟩ := List.mem_map.mp h
  have := List.mem_range.mp hi
  exact ⟨i, by omega, e.symm⟩
theorem Bd.D {M : Int} {l : List Int} (h : Bd M l) : Bd M (D l) := fun x hx => by
  obtain ⟨i, hl, rfl⟩ := mem_D hx
  have h1 := h.ev hl i
  have h2 := h.ev hl (i + 1)
  rcases dst_cases (RD.ev l i) (RD.ev l (i + 1)) with ⟨_, e⟩ | ⟨_, e⟩ <;> rw [e] <;> omega
theorem Bin.D {c : Int} {l : List Int} (hc : 0 ≤ c) (h : Bin c l) : Bin c (D l) := fun x hx => by
  obtain ⟨i, hl, rfl⟩ := mem_D hx
  have h1 := h.ev hl i
  have h2 := h.ev hl (i + 1)
  rcases dst_cases (RD.ev l i) (RD.ev l (i + 1)) with ⟨_, e⟩ | ⟨_, e⟩ <;> rw [e] <;> omega
theorem Bd.itr {M : Int} {l : List Int} (h : Bd M l) (k : Nat) : Bd M (itr k l) := by
  induction k with
  | zero => exact h
  | succ k ih => exact ih.D
theorem Bin.itr {M : Int} {l : List Int} (hc : 0 ≤ M) (h : Bin M l) (k : Nat) : Bin M (itr k l) := by
  induction k with
  | zero => exact h
  | succ k ih => exact ih.D hc
/-! ### where the greatest number stays, all is 0 or it -/
theorem two_of {M a b : Int} (ha : 0 ≤ a ∧ a ≤ M) (hb : 0 ≤ b ∧ b ≤ M) (h : dst a b = M) : (a = 0 ∧ b = M) ∨ (a = M ∧ b = 0) := by
  rcases dst_cases a b with ⟨_, e⟩ | ⟨_, e⟩ <;> rw [e] at h <;> omega
theorem next_of {M a b : Int} (ha : a = 0 ∨ a = M) (hb : 0 ≤ b ∧ b ≤ M) (h : dst a b = 0 ∨ dst a b = M) : b = 0 ∨ b = M := by
  rcases dst_cases a b with ⟨_, e⟩ | ⟨_, e⟩ <;> rw [e] at h <;> omega
theorem prev_of {M a b : Int} (hb : b = 0 ∨ b = M) (ha : 0 ≤ a ∧ a ≤ M) (h : dst a b = 0 ∨ dst a b = M) : a = 0 ∨ a = M := by
  rcases dst_cases a b with ⟨_, e⟩ | ⟨_, e⟩ <;> rw [e] at h <;> omega
/-- from a row of differences of 0 and M with an M in it: the numbers themselves -/
theorem seg_back {M : Int} {f : Nat → Int} (hb : ∀ i, 0 ≤ f i ∧ f i ≤ M) {i L j : Nat} (hj : j ≤ L) (hM : dst (f (i + j)) (f (i + j + 1)) = M)
    (hs : ∀ j, j ≤ L → dst (f (i + j)) (f (i + j + 1)) = 0 ∨ dst (f (i + j)) (f (i + j + 1)) = M) :
    (∀ j, j ≤ L + 1 → f (i + j) = 0 ∨ f (i + j) = M) ∧ ∃ j, j ≤ L + 1 ∧ f (i + j) = M := by
  have h2 := two_of (hb _) (hb _) hM
  -- upward
  have up : ∀ k, j + k ≤ L + 1 → f (i + (j + k)) = 0 ∨ f (i + (j + k)) = M := by
    intro k
    induction k with
    | zero => intro _; rw [Nat.add_zero]; omega
    | succ k ih =>
      intro hk
      have ih' := ih (by omega)
      have := hs (j + k) (by omega)
      have e : i + (j + k) + 1 = i + (j + (k + 1)) := by omega
      rw [e] at this
      exact next_of ih' (hb _) this
  have down : ∀ k, k ≤ j → f (i + (j - k)) = 0 ∨ f (i + (j - k)) = M := by
    intro k
    induction k with
    | zero => intro _; simp only [Nat.sub_zero]; omega
    | succ k ih =>
      intro hk
      have ih' := ih (by omega)
      have := hs (j - (k + 1)) (by omega)
      have e : i + (j - (k + 1)) + 1 = i + (j - k) := by omega
      rw [e] at this
      exact prev_of ih' (hb _) this
  refine ⟨fun k hk => ?_, ?_⟩
  · by_cases hjk : j ≤ k
    · have := up (k - j) (by omega)
      rw [show j + (k - j) = k by omega] at this
      exact this
    · have := down (j - k) (by omega)
      rw [show j - (j - k) = k by omega] at this
      exact this
  · rcases h2 with ⟨_, h⟩ | ⟨h, _⟩
    · exact ⟨j + 1, by omega, h⟩
    · exact ⟨j, by omega, h⟩
theorem seg_all {M : Int} {l : List Int} (hl : 0 < l.length) (h : Bd M l) : ∀ (k i L : Nat), (∀ j, j ≤ L → ev (itr k l) (i + j) = 0 ∨ ev (itr k l) (i + j) = M) → (∃ j, j ≤ L ∧ ev (itr k l) (i + j) = M) →
    ∀ j, j ≤ L + k → ev l (i + j) = 0 ∨ ev l (i + j) = M
  | 0, i, L, h1, _ => h1
  | k + 1, i, L, h1, h2 => by
    have hp : 0 < (itr k l).length := by rw [itr_len]; exact hl
    obtain ⟨j, hj, e⟩ := h2
    have e1 : ∀ j, ev (itr (k + 1) l) (i + j) = dst (ev (itr k l) (i + j)) (ev (itr k l) (i + j + 1)) := fun j => ev_D _ _
    have hs : ∀ j, j ≤ L → dst (ev (itr k l) (i + j)) (ev (itr k l) (i + j + 1)) = 0 ∨ dst (ev (itr k l) (i + j)) (ev (itr k l) (i + j + 1)) = M := fun j hj => by
      rw [← e1]
      exact h1 j hj
    rw [e1] at e
    obtain ⟨g1, g2⟩ := seg_back (M := M) (f := ev (itr k l)) (fun i => (h.itr k).ev hp i) hj e hs
    have := seg_all hl h k i (L + 1) g1 g2
    intro j hj
    exact this j (by omega)
theorem falls {M : Int} {l : List Int} (hl : 0 < l.length) (h : Bd M l) (hM : 1 ≤ M) : Bin M l ∨ Bd (M - 1) (itr l.length l) := by
  by_cases hx : ∃ x, x ∈ itr l.length l ∧ x = M
  · left
    obtain ⟨x, hx, rfl⟩ := hx
    obtain ⟨i, hi, e⟩ := mem_ev hx
    have := seg_all hl h l.length i 0 (fun j hj => by right; rw [show j = 0 by omega]; exact e) ⟨0, Nat.le_refl _, e⟩
    intro y hy
    obtain ⟨m, hm, rfl⟩ := mem_ev hy
    rw [itr_len] at hi
    -- m is some i + j modulo the length
    have key : ∃ j, j ≤ 0 + l.length ∧ ev l (i + j) = ev l m := by
      by_cases hmi : i ≤ m
      · exact ⟨m - i, by omega, by rw [show i + (m - i) = m by omega]⟩
      · refine ⟨m + l.length - i, by omega, ?_⟩
        rw [show i + (m + l.length - i) = m + l.length by omega]
        unfold ev
        rw [Nat.add_mod_right]
    obtain ⟨j, hj, e2⟩ := key
    rw [← e2]
    exact this j hj
  · right
    intro x hx'
    have := (h.itr l.length) x hx'
    have hne : x ≠ M := fun e => hx ⟨x, hx', e⟩
    omega
theorem bin_in {l : List Int} (hl : 0 < l.length) : ∀ (M : Nat), Bd (M : Int) l → ∃ c : Int, 0 ≤ c ∧ c ≤ M ∧ Bin c (itr (l.length * M) l)
  | 0, h => ⟨0, Int.le_refl _, Int.le_refl _, fun x hx => by
      have := (h.itr (l.length * 0)) x hx
      omega⟩
  | M + 1, h => by
    rcases falls hl h (by omega) with hb | hb
    · exact ⟨((M + 1 : Nat) : Int), by omega, Int.le_refl _, hb.itr (by omega) _⟩
    · have hb' : Bd (M : Int) (itr l.length l) := fun x hx => by
        have := hb x hx
        omega
      obtain ⟨c, h1, h2, h3⟩ := bin_in (l := itr l.length l) (by rw [itr_len]; exact hl) M hb'
      rw [itr_len, ← itr_add] at h3
      refine ⟨c, h1, by omega, ?_⟩
      rw [show l.length * (M + 1) = l.length * M + l.length by rw [Nat.mul_add, Nat.mul_one]]
      exact h3
/-! ### so many rings of 0 and c are there -/
def code : List Int → Nat
  | [] => 0
  | x :: r => (if x = 0 then 0 else 1) + 2 * code r
theorem code_lt : ∀ l : List Int, code l < 2 ^ l.length
  | [] => by decide
  | x :: r => by
    have := code_lt r
    show (if x = 0 then 0 else 1) + 2 * code r < 2 ^ (r.length + 1)
    rw [Nat.pow_succ]
    split <;> omega
theorem code_inj {c : Int} : ∀ {l m : List Int}, Bin c l → Bin c m → l.length = m.length → code l = code m → l = m
  | [], [], _, _, _, _ => rfl
  | [], y :: r, _, _, h, _ => by cases h
  | x :: r, [], _, _, h, _ => by cases h
  | x :: r, y :: q, h1, h2, hl, e => by
    have e' : (if x = 0 then 0 else 1) + 2 * code r = (if y = 0 then 0 else 1) + 2 * code q := e
    have hx := h1 x List.mem_cons_self
    have hy := h2 y List.mem_cons_self
    have ec : code r = code q := by split at e' <;> split at e' <;> omega
    have er := code_inj (l := r) (m := q) (fun z hz => h1 z (List.mem_cons_of_mem _ hz)) (fun z hz => h2 z (List.mem_cons_of_mem _ hz)) (by simpa using hl) ec
    have exy : x = y := by split at e' <;> split at e' <;> omega
    rw [exy, er]
theorem pigeon : ∀ (B : Nat) (l : List Nat), l.Nodup → (∀ x, x ∈ l → x < B) → l.length ≤ B
  | 0, l, _, h => by
    cases l with
    | nil => exact Nat.le_refl _
    | cons x r => exact absurd (h x List.mem_cons_self) (Nat.not_lt_zero _)
  | B + 1, l, hn, h => by
    have h1 := pigeon B (l.erase B) (hn.erase B) (fun x hx => by
      have hx2 := (hn.mem_erase_iff.mp hx)
      have := h x hx2.2
      have := hx2.1
      omega)
    have h2 := List.length_erase (a := B) (l := l)
    split at h2 <;> omega
/-! ### the course -/
structure IsC (l : List Int) (N b : Nat) : Prop where
  lt : b < N
  eq : itr N l = itr b l
  ne : ∀ i j, i < j → j < N → itr i l ≠ itr j l
theorem few {l : List Int} (hl : 0 < l.length) (h12 : l.length ≤ 12) (h : Bd 200 l) {m : Nat} (ne : ∀ i j, i < j → j < m → itr i l ≠ itr j l) : m ≤ 6500 := by
  obtain ⟨c, hc0, _, hb⟩ := bin_in hl 200 h
  refine Nat.le_of_not_lt fun hm => ?_
  -- the codes of the rings from l.length * 200 on
  have hs : l.length * 200 ≤ 2400 := by omega
  let g : Nat → Nat := fun j => code (itr (l.length * 200 + j) l)
  have hg : ∀ j, g j < 4096 := fun j => by
    have := code_lt (itr (l.length * 200 + j) l)
    rw [itr_len] at this
    exact Nat.lt_of_lt_of_le this (Nat.le_trans (Nat.pow_le_pow_right (by decide) h12) (by decide))
  have hB : ∀ j, Bin c (itr (l.length * 200 + j) l) := fun j => by
    rw [Nat.add_comm, itr_add]
    exact hb.itr hc0 j
  have hnd : ((List.range 4097).map g).Nodup := by
    rw [List.Nodup, List.pairwise_map]
    have : (List.range 4097).Pairwise (· < ·) := List.pairwise_lt_range
    refine (this.imp_of_mem ?_)
    intro a b ha hb' hab e
    have hb2 := List.mem_range.mp hb'
    have := code_inj (hB a) (hB b) (by rw [itr_len, itr_len]) e
    exact ne _ _ (by omega) (by omega) this
  have := pigeon 4096 _ hnd (fun x hx => by
    obtain ⟨j, _, rfl⟩ := List.mem_map.mp hx
    exact hg j)
  rw [List.length_map, List.length_range] at this
  omega
theorem IsC.unique {l : List Int} {N b N' b' : Nat} (h : IsC l N b) (h' : IsC l N' b') : N = N' ∧ b = b' := by
  have hN : N = N' := by
    rcases Nat.lt_trichotomy N N' with q | q | q
    · exact absurd h.eq.symm (h'.ne _ _ h.lt q)
    · exact q
    · exact absurd h'.eq.symm (h.ne _ _ h'.lt q)
  subst hN
  refine ⟨rfl, ?_⟩
  have e : itr b l = itr b' l := h.eq.symm.trans h'.eq
  rcases Nat.lt_trichotomy b b' with q | q | q
  · exact absurd e (h.ne _ _ q h'.lt)
  · exact q
  · exact absurd e.symm (h.ne _ _ q h.lt)
theorem IsC.per {l : List Int} {N b : Nat} (h : IsC l N b) {k : Nat} (hk : b ≤ k) : itr (k + (N - b)) l = itr k l := by
  have e1 : k + (N - b) = (k - b) + N := by have := h.lt; omega
  have e2 : k = (k - b) + b := by omega
  rw [e1, itr_add, h.eq, ← itr_add, ← e2]
theorem IsC.pers {l : List Int} {N b : Nat} (h : IsC l N b) {k : Nat} (hk : b ≤ k) (j : Nat) : itr (k + (N - b) * j) l = itr k l := by
  induction j with
  | zero => rfl
  | succ j ih =>
    rw [Nat.mul_succ, ← Nat.add_assoc, h.per (by omega), ih]
theorem IsC.at {l : List Int} {N b : Nat} (h : IsC l N b) {k : Nat} (hk : b ≤ k) : itr (b + (k - b) % (N - b)) l = itr k l := by
  have := h.pers (k := b + (k - b) % (N - b)) (by omega) ((k - b) / (N - b))
  rw [← this]
  congr 1
  have := Nat.mod_add_div (k - b) (N - b)
  omega
end RD
namespace RD
/-- every ring has a course -/
theorem isC_ex {l : List Int} (hl : 0 < l.length) (h12 : l.length ≤ 12) (h : Bd 200 l) : ∃ N b, IsC l N b := by
  have key : ∀ m, (∃ N b, IsC l N b) ∨ ∀ i j, i < j → j < m → itr i l ≠ itr j l := by
    intro m
    induction m with
    | zero => exact .inr fun i j _ hj => absurd hj (Nat.not_lt_zero _)
    | succ m ih =>
      rcases ih with ih | ih
      · exact .inl ih
      · by_cases hx : ∃ i, i < m ∧ itr i l = itr m l
        · obtain ⟨i, hi, e⟩ := hx
          exact .inl ⟨m, i, hi, e.symm, ih⟩
        · refine .inr fun i j hij hj => ?_
          by_cases hjm : j < m
          · exact ih i j hij hjm
          · have ej : j = m := by omega
            rw [ej]
            exact fun e => hx ⟨i, by omega, e⟩
  rcases key 6501 with k | k
  · exact k
  · have := few hl h12 h k
    omega
/-- a course found by reckoning -/
def isCB (l : List Int) (N b : Nat) : Bool := decide (b < N) && decide (itr N l = itr b l) && (List.range N).all fun j => (List.range j).all fun i => decide (itr i l ≠ itr j l)
theorem isC_by {l : List Int} {N b : Nat} (h : isCB l N b = true) : IsC l N b := by
  unfold isCB at h
  simp only [Bool.and_eq_true, decide_eq_true_eq, List.all_eq_true, List.mem_range] at h
  exact ⟨h.1.1, h.1.2, fun i j hij hj => h.2 j hj i hij⟩
end RD
namespace RD
/-! ### signs that bring numbers together to a sum -/
def dot : List Int → List Int → Int
  | s :: ss, x :: xs => s * x + dot ss xs
  | _, _ => 0
def Sgn (ss : List Int) : Prop := ∀ s, s ∈ ss → s = 1 ∨ s = -1
def Sg (l : List Int) (t : Int) : Prop := ∃ ss : List Int, ss.length = l.length ∧ Sgn ss ∧ dot ss l = t
theorem dot_snoc : ∀ {ss l : List Int} {s x : Int}, ss.length = l.length → dot (ss ++ [s]) (l ++ [x]) = dot ss l + s * x
  | [], [], s, x, _ => by
    show s * x + 0 = 0 + s * x
    omega
  | [], y :: l, s, x, h => by cases h
  | a :: ss, [], s, x, h => by cases h
  | a :: ss, y :: l, s, x, h => by
    show a * y + dot (ss ++ [s]) (l ++ [x]) = a * y + dot ss l + s * x
    rw [dot_snoc (Nat.succ.inj h)]
    omega
theorem sg_nil {t : Int} : Sg [] t ↔ t = 0 := by
  constructor
  · rintro ⟨ss, h1, _, h3⟩
    rw [List.eq_nil_of_length_eq_zero h1] at h3
    exact h3.symm
  · rintro rfl
    exact ⟨[], rfl, fun s hs => (by cases hs), rfl⟩
theorem snoc_of {l : List Int} {n : Nat} (h : l.length = n + 1) : ∃ a x, l = a ++ [x] ∧ a.length = n := by
  refine ⟨l.dropLast, l.getLast (fun e => by rw [e] at h; cases h), (List.dropLast_concat_getLast _).symm, ?_⟩
  rw [List.length_dropLast, h]
  rfl
theorem sg_snoc {l : List Int} {x t : Int} : Sg (l ++ [x]) t ↔ Sg l (t - x) ∨ Sg l (t + x) := by
  constructor
  · rintro ⟨ss, h1, h2, h3⟩
    rw [List.length_append] at h1
    obtain ⟨a, s, rfl, ha⟩ := snoc_of (n := l.length) h1
    rw [dot_snoc ha] at h3
    rcases h2 s (List.mem_append_right _ (List.mem_singleton.mpr rfl)) with e | e
    · exact .inl ⟨a, ha, fun z hz => h2 z (List.mem_append_left _ hz), by rw [e] at h3; omega⟩
    · exact .inr ⟨a, ha, fun z hz => h2 z (List.mem_append_left _ hz), by rw [e] at h3; omega⟩
  · have ext : ∀ {a : List Int} {s : Int}, Sgn a → (s = 1 ∨ s = -1) → Sgn (a ++ [s]) := fun ha hs z hz => by
      rcases List.mem_append.mp hz with hz | hz
      · exact ha z hz
      · rw [List.mem_singleton.mp hz]
        exact hs
    rintro (⟨a, h1, h2, h3⟩ | ⟨a, h1, h2, h3⟩)
    · exact ⟨a ++ [1], by rw [List.length_append, List.length_append, h1]; rfl, ext h2 (.inl rfl), by rw [dot_snoc h1, h3]; omega⟩
    · exact ⟨a ++ [-1], by rw [List.length_append, List.length_append, h1]; rfl, ext h2 (.inr rfl), by rw [dot_snoc h1, h3]; omega⟩
theorem take_snoc {l : List Int} {i : Nat} {x : Int} (h : l[i]? = some x) : l.take (i + 1) = l.take i ++ [x] := by
  rw [List.take_add_one, h]
  rfl
/-! ### the ring one comes from: the sums on the way -/
def sums (ss l : List Int) (i : Nat) : Int := dot (ss.take i) (l.take i)
theorem sums_succ {ss l : List Int} {i : Nat} {s x : Int} (h1 : ss[i]? = some s) (h2 : l[i]? = some x) : sums ss l (i + 1) = sums ss l i + s * x := by
  unfold sums
  rw [take_snoc h1, take_snoc h2, dot_snoc]
  have a := (List.getElem?_eq_some_iff.mp h1).1
  have b := (List.getElem?_eq_some_iff.mp h2).1
  rw [List.length_take, List.length_take]
  omega
theorem D_sums {ss l : List Int} {c : Int} (hp : 0 < l.length) (hl : ss.length = l.length) (hs : Sgn ss) (h0 : dot ss l = 0) (hn : ∀ x, x ∈ l → 0 ≤ x) : D ((List.range l.length).map fun i => sums ss l i - c) = l := by
  have hlen : ((List.range l.length).map fun i => sums ss l i - c).length = l.length := by rw [List.length_map, List.length_range]
  have hev : ∀ i, i < l.length → ev ((List.range l.length).map fun i => sums ss l i - c) i = sums ss l i - c := fun i hi => by
    have h1 := ev_lt (l := (List.range l.length).map fun i => sums ss l i - c) (i := i) (by rw [hlen]; exact hi)
    rw [List.getElem?_map, List.getElem?_range hi] at h1
    exact (Option.some.inj h1).symm
  have z0 : sums ss l 0 = 0 := by
    unfold sums
    rw [List.take_zero]
    rfl
  have zn : sums ss l l.length = 0 := by
    unfold sums
    rw [List.take_of_length_le (by omega), List.take_of_length_le (Nat.le_refl _)]
    exact h0
  refine ev_ext (by rw [D_len, hlen]) fun i hi => ?_
  rw [D_len, hlen] at hi
  have hs1 : ss[i]? = some ss[i] := List.getElem?_eq_getElem (by omega)
  have step := sums_succ hs1 (ev_lt hi)
  have hx := hn _ (ev_mem hp i)
  have hsg := hs ss[i] (List.getElem_mem (by omega))
  rw [ev_D, hev i hi]
  have hnext : ev ((List.range l.length).map fun i => sums ss l i - c) (i + 1) = sums ss l (i + 1) - c := by
    by_cases hi2 : i + 1 < l.length
    · exact hev _ hi2
    · have e : i + 1 = l.length := by omega
      have e2 : ev ((List.range l.length).map fun i => sums ss l i - c) (i + 1) = ev ((List.range l.length).map fun i => sums ss l i - c) 0 := by
        unfold ev
        rw [hlen, e, Nat.mod_self, Nat.zero_mod]
      rw [e2, hev 0 hp, e, z0, zn]
  rw [hnext, step]
  generalize sums ss l i = a
  generalize ev l i = x at *
  unfold dst
  rcases hsg with e | e <;> rw [e] <;> omega
theorem D_has {l m : List Int} (hl : 0 < m.length) (h : D m = l) : Sg l 0 := by
  -- each number is the difference, with a sign
  have key : ∀ i, i ≤ m.length → ∃ ss : List Int, ss.length = i ∧ Sgn ss ∧ dot ss (l.take i) = ev m i - ev m 0 := by
    intro i
    induction i with
    | zero => exact fun _ => ⟨[], rfl, fun s hs => (by cases hs), by rw [Int.sub_self]; rfl⟩
    | succ i ih =>
      intro hi
      obtain ⟨ss, h1, h2, h3⟩ := ih (by omega)
      have hg : l[i]? = some (dst (ev m i) (ev m (i + 1))) := by
        rw [← h]
        exact D_get (by omega)
      have hli : (l.take i).length = i := by
        rw [List.length_take, ← h, D_len]
        omega
      have ext : ∀ s, (s = 1 ∨ s = -1) → Sgn (ss ++ [s]) := fun s hs z hz => by
        rcases List.mem_append.mp hz with hz | hz
        · exact h2 z hz
        · rw [List.mem_singleton.mp hz]
          exact hs
      rcases dst_cases (ev m i) (ev m (i + 1)) with ⟨_, e⟩ | ⟨_, e⟩
      · refine ⟨ss ++ [1], by rw [List.length_append, h1]; rfl, ext 1 (.inl rfl), ?_⟩
        rw [take_snoc hg, dot_snoc (by rw [h1, hli]), h3, e]
        omega
      · refine ⟨ss ++ [-1], by rw [List.length_append, h1]; rfl, ext (-1) (.inr rfl), ?_⟩
        rw [take_snoc hg, dot_snoc (by rw [h1, hli]), h3, e]
        omega
  obtain ⟨ss, h1, h2, h3⟩ := key m.length (Nat.le_refl _)
  have hlm : l.length = m.length := by rw [← h, D_len]
  refine ⟨ss, by omega, h2, ?_⟩
  rw [List.take_of_length_le (by omega)] at h3
  rw [h3]
  have e2 : ev m m.length = ev m 0 := by
    unfold ev
    rw [Nat.mod_self, Nat.zero_mod]
  rw [e2, Int.sub_self]
end RD
namespace RL
open PySem PySem.Spec PyProof.Rows L2 Evl
/-! ### small rules beside the layer's -/
theorem tyL {K : PySem.W.Frag} {H : Hp} {a : Addr} {xs : List V} (h : SqL K H a xs) : TyX K H (.ref a) (.type "list") := by
  rcases h with (h | ⟨o, h⟩) | ⟨o, its, n, h, hc, _⟩
  · exact .base (.lst h)
  · exact .base (.frz h)
  · exact .kList h hc
theorem op_mulB {X : Cx} : OpR X (binaryOp .Mult) (rI IntMulOk fun i j => .int (i * j)) :=
  opI fun _ _ _ _ _ _ _ hc q => mul_int q hc
theorem mulOk {i j : Int} {a b : Nat} (ha : i.natAbs < 2 ^ a) (hb : j.natAbs < 2 ^ b) (h0 : 0 < a) (h1 : 0 < b) (h : a + b ≤ 100000000) : IntMulOk i j := by
  have x := PySem.Flt.log2_lt_of h0 ha
  have y := PySem.Flt.log2_lt_of h1 hb
  have bb : ∀ z : Int, Builtin.Int.intBits z ≤ z.natAbs.log2 + 1 := fun z => by
    unfold Builtin.Int.intBits
    split <;> omega
  have g1 := bb i
  have g2 := bb j
  have e : bitsLine = 134217728 := by decide
  unfold IntMulOk
  intro z
  rw [Bool.and_eq_true] at z
  have z2 := z.2
  unfold Builtin.Int.intTooBig at z2
  have z3 := of_decide_eq_true z2
  rw [e] at z3
  omega
theorem natAbs_of_bits {z : Int} {n : Nat} (h : Builtin.Int.intBits z ≤ n) : z.natAbs < 2 ^ n := by
  unfold Builtin.Int.intBits at h
  split at h
  · rename_i q
    have q0 : z = 0 := by
      first
        | exact q
        | (simpa using q)
    rw [q0]
    exact Nat.pow_pos (by decide)
  · rename_i q
    have q0 : z ≠ 0 := by
      first
        | exact q
        | (simpa using q)
    exact Nat.lt_of_lt_of_le (Nat.lt_log2_self) (Nat.pow_le_pow_right (by decide) h)
/-! ### data: lists of whole numbers -/
theorem dpAll_ints {K : PySem.W.Frag} {H : Hp} : ∀ ns : List Int, DpAll K H (ns.map V.int) (ns.map PyData.int)
  | [] => .nil
  | n :: r => .cons (.int n) (dpAll_ints r)
theorem dp_ints {K : PySem.W.Frag} {H : Hp} {a : Addr} {ns : List Int} (h : SqL K H a (ns.map V.int)) : Dp K H (.ref a) (.list (ns.map PyData.int)) := .lst h (dpAll_ints ns)
theorem eqvAll_ints : ∀ ns ms : List Int, PyData.eqvAll (ns.map PyData.int) (ms.map PyData.int) = decide (ns = ms)
  | [], [] => by simp [PyData.eqvAll]
  | [], m :: r => by simp [PyData.eqvAll]
  | n :: r, [] => by simp [PyData.eqvAll]
  | n :: r, m :: q => by
    rw [List.map_cons, List.map_cons, PyData.eqvAll, eqvAll_ints r q]
    by_cases h : n = m
    · by_cases h2 : r = q <;> simp [PyData.eqv, h, h2]
    · simp [PyData.eqv, h]
theorem eqv_ints (ns ms : List Int) : PyData.eqv (.list (ns.map PyData.int)) (.list (ms.map PyData.int)) = decide (ns = ms) := by
  rw [PyData.eqv, eqvAll_ints]
theorem canAll_ints : ∀ ns : List Int, PyData.canLayAll0 (ns.map PyData.int) = true
  | [] => by rw [List.map_nil, PyData.canLayAll0]
  | n :: r => by rw [List.map_cons, PyData.canLayAll0, canAll_ints r, PyData.canLay0]; rfl
theorem deepAll_ints : ∀ ns : List Int, PyData.depthAll (ns.map PyData.int) = 0
  | [] => by rw [List.map_nil, PyData.depthAll]
  | n :: r => by rw [List.map_cons, PyData.depthAll, deepAll_ints r, PyData.depth]; rfl
theorem shaped_ints (ns : List Int) : SeqAt.shaped (.list (ns.map PyData.int)) = true := by
  unfold SeqAt.shaped
  rw [PyData.canLay0, PyData.depth, canAll_ints, deepAll_ints]
  rfl
/-! ### a comprehension over a zip of two lists of one length -/
theorem lc_zip {K : PySem.W.Frag} {a b : Addr} {xs ys : List V} {g : TG} {tt : TT} {te : TE} {vs : List Nat} {σ : L2.St} {H1 : Hp} {D : Addr} {Qd : Hp → Prop} (hl : xs.length = ys.length) (Pv : Nat → Hp → Prop) (h0 : Pv 0 (upd H1 D (.lst [])))
    (hq : ∀ i H, i ≤ xs.length → Pv i H → SqL K H a xs ∧ SqL K H b ys)
    (hs : ∀ i x y T H, xs[i]? = some x → ys[i]? = some y → Pv i H → H T = none → g (.ref T) (wipe σ vs) (upd H T (.tup [x, y])) fun σ2 H2 => wipe σ2 vs = wipe σ vs ∧ tt σ2 H2 fun b H3 =>
      if b = true then te σ2 H3 fun y H4 => ∃ acc, H4 D = some (.lst acc) ∧ acc.length < sizeLine ∧ Pv (i + 1) (upd H4 D (.lst (acc ++ [y]))) else Pv (i + 1) H3) (hd : ∀ H, Pv xs.length H → Qd H) :
    ∃ W : Nat → Nat → Hp → Prop, (∃ m, W 0 m (upd H1 D (.lst []))) ∧ ∀ i m H, W i m H →
      ((Itz K a b).stop i H ∧ Qd H) ∨ ((Itz K a b).go i H ∧ ∃ Nx : Hp → Prop, (∀ H', Nx H' → ∃ m', m' < m ∧ W (i + 1) m' H') ∧ ∀ x H', (Itz K a b).yld i H x H' → g x (wipe σ vs) H' fun σ2 H2 => wipe σ2 vs = wipe σ vs ∧ tt σ2 H2 fun b H3 =>
        if b = true then te σ2 H3 fun y H4 => ∃ acc, H4 D = some (.lst acc) ∧ acc.length < sizeLine ∧ Nx (upd H4 D (.lst (acc ++ [y]))) else Nx H3) := by
  refine ⟨fun i m H => m = xs.length - i ∧ i ≤ xs.length ∧ Pv i H, ⟨xs.length, rfl, Nat.zero_le _, h0⟩, ?_⟩
  rintro i m H ⟨rfl, hi, p⟩
  obtain ⟨q1, q2⟩ := hq i H hi p
  by_cases hlt : i < xs.length
  · have gx := List.getElem?_eq_getElem hlt
    have gy := List.getElem?_eq_getElem (hl ▸ hlt)
    refine .inr ⟨⟨xs, ys, _, _, q1, q2, gx, gy⟩, Pv (i + 1), fun H' p' => ⟨xs.length - (i + 1), by omega, rfl, hlt, p'⟩, fun v H' hy => ?_⟩
    obtain ⟨T, x, y, rfl, nT, rfl, fx, fy⟩ := hy
    exact hs i x y T H (fx xs q1) (fy ys q2) p nT
  · exact .inl ⟨⟨xs, ys, q1, q2, .inl (by omega)⟩, hd H (by rw [show xs.length = i by omega]; exact p)⟩
theorem tyes {σ : L2.St} {H : Hp} {A B : Hp → Prop} (h : A H) : tYes σ H (fun b H3 => if b = true then A H3 else B H3) := by
  show (if true = true then A H else B H)
  rw [if_pos rfl]
  exact h
/-! ### heaps -/
theorem fresh_ne {H : Hp} {p q : Addr} {o : HO} (h : H q = none) (hp : H p = some o) : p ≠ q := ne_of_none hp h
theorem upd_fresh {H : Hp} {p q : Addr} {o : HO} (h : upd H p o q = none) : H q = none ∧ q ≠ p := by
  by_cases e : q = p
  · rw [e, upd_same] at h
    cases h
  · rw [upd_ne e] at h
    exact ⟨h, e⟩
theorem map_get {α β : Type} {l : List α} {f : α → β} {i : Nat} {y : β} (h : (l.map f)[i]? = some y) : ∃ x, l[i]? = some x ∧ y = f x := by
  rw [List.getElem?_map] at h
  cases e : l[i]? with
  | none => rw [e] at h; cases h
  | some x =>
    rw [e] at h
    exact ⟨x, rfl, (Option.some.inj h).symm⟩
theorem get_lt {α : Type} {l : List α} {i : Nat} {x : α} (h : l[i]? = some x) : i < l.length := (List.getElem?_eq_some_iff.mp h).1
/-- all/any over a comprehension's truths, the same for all items -/
theorem lc_each {K : PySem.W.Frag} {a : Addr} {xs : List V} {j : Nat} {te : TE} {vs : List Nat} {σ : L2.St} {H1 : Hp} {D : Addr} {Qd : Hp → Prop} (f : Nat → V) (hx : SqL K H1 a xs) (hD : H1 D = none) (hz : xs.length ≤ 40000)
    (hw : ∀ x, wipe ((wipe σ vs).set j (some x)) vs = wipe σ vs) (he : ∀ i x H, Ex H1 H → xs[i]? = some x → Ev te ((wipe σ vs).set j (some x)) H (f i))
    (hd : ∀ H, Ex H1 H → H D = some (.lst ((List.range xs.length).map f)) → Qd H) :
    ∃ W : Nat → Nat → Hp → Prop, (∃ m, W 0 m (upd H1 D (.lst []))) ∧ ∀ i m H, W i m H →
      ((Itl K a).stop i H ∧ Qd H) ∨ ((Itl K a).go i H ∧ ∃ Nx : Hp → Prop, (∀ H', Nx H' → ∃ m', m' < m ∧ W (i + 1) m' H') ∧ ∀ x H', (Itl K a).yld i H x H' → gName j x (wipe σ vs) H' fun σ2 H2 => wipe σ2 vs = wipe σ vs ∧ tYes σ2 H2 fun b H3 =>
        if b = true then te σ2 H3 fun y H4 => ∃ acc, H4 D = some (.lst acc) ∧ acc.length < sizeLine ∧ Nx (upd H4 D (.lst (acc ++ [y]))) else Nx H3) := by
  refine lc_list (xs := xs) (fun i H => Ex H1 H ∧ H D = some (.lst ((List.range i).map f))) ⟨Ex.new hD, upd_same⟩ (fun i H _ p => ex_l p.1 hx) (fun i x H hi p => ?_) (fun H p => hd H p.1 p.2)
  refine ⟨hw x, ?_⟩
  show te _ H _
  refine he i x H p.1 hi H (Ex.refl _) _ fun H2 e2 => ⟨_, e2 _ _ p.2, ?_, ?_, ?_⟩
  · have := get_lt hi
    rw [List.length_map, List.length_range]
    exact sz_lt (by omega)
  · exact Ex.mut (p.1.trans e2) hD
  · rw [upd_same, List.range_succ, List.map_append]
    rfl
theorem all_range {n : Nat} {f : Nat → Bool} (h : ∀ i, i < n → f i = true) : (((List.range n).map f).all id) = true := by
  rw [List.all_eq_true]
  intro b hb
  obtain ⟨i, hi, rfl⟩ := List.mem_map.mp hb
  exact h i (List.mem_range.mp hi)
theorem any_range {n : Nat} {f : Nat → Bool} (h : ∀ i, i < n → f i = false) : (((List.range n).map f).any id) = false := by
  rw [List.any_eq_false]
  intro b hb
  obtain ⟨i, hi, rfl⟩ := List.mem_map.mp hb
  rw [h i (List.mem_range.mp hi)]
  decide
/-! ### what evaluates to what, some more -/
theorem tyX_ex {K : PySem.W.Frag} {H H' : Hp} {x : V} {t : Value} (e : Ex H H') (h : TyX K H x t) : TyX K H' x t := by
  cases h with
  | base b =>
    refine .base ?_
    cases b with
    | non => exact .non
    | bl y => exact .bl y
    | int i => exact .int i
    | str y => exact .str y
    | flt y => exact .flt y
    | lst q => exact .lst (e _ _ q)
    | frz q => exact .frz (e _ _ q)
    | tup q => exact .tup (e _ _ q)
    | dK q => exact .dK (e _ _ q)
    | dT q => exact .dT (e _ _ q)
    | ins q a1 a2 a3 a4 a5 => exact .ins (e _ _ q) a1 a2 a3 a4 a5
  | byt y => exact .byt y
  | set q => exact .set (e _ _ q)
  | kList q c => exact .kList q c
  | kTuple q c => exact .kTuple q c
  | kDict q c => exact .kDict q c
  | fTuple q => exact .fTuple (e _ _ q)
  | fDict q => exact .fDict (e _ _ q)
section
variable {K : PySem.W.Frag} {σ : L2.St} {H H' : Hp} {ta tb tc te tl : TE} {t u : TT} {x y z v : V} {r r' : R2}
theorem ev_isi {ty cv : Value} {c : V} {b : Bool} (ha : Ev ta σ H x) (hx : TyX K H x ty) (hc : ClsV c cv) (hk : PySem.W.kitOne K ty cv = some b) :
    Ev (tCB (rIsi K) (tCons ta (tCons (tC c) tNil))) σ H (.bl b) := fun H1 e Q q =>
  ha H1 e _ fun H2 e2 => ⟨x, c, ty, cv, b, rfl, hc, tyX_ex (e.trans e2) hx, hk, q H2 e2⟩
theorem ev_isiL {xs : List V} {cv : Value} {c : V} {b : Bool} (ha : EvL ta σ H xs) (hc : ClsV c cv) (hk : PySem.W.kitOne K (.type "list") cv = some b) :
    Ev (tCB (rIsi K) (tCons ta (tCons (tC c) tNil))) σ H (.bl b) := fun H1 e Q q =>
  ha H1 e _ fun p H2 _ e2 h2 => ⟨_, c, _, cv, b, rfl, hc, .base (.lst h2), hk, q H2 e2⟩
theorem ev_chain {k k' : Bool} (ha : Ev ta σ H x) (hb : Ev tb σ H y) (hr : RV r x y H (.bl k)) (hc : Ev tc σ H z) (hr' : RV r' y z H (.bl k')) : Ev (tChain r r' ta tb tc) σ H (.bl (k && k')) := fun H1 e Q q =>
  ha H1 e _ fun H2 e2 => hb H2 (e.trans e2) _ fun H3 e3 => hr H3 ((e.trans e2).trans e3) _ fun H4 e4 => ⟨k, rfl, by
    cases k with
    | true =>
      show tc σ H4 _
      exact hc H4 (((e.trans e2).trans e3).trans e4) _ fun H5 e5 => hr' H5 ((((e.trans e2).trans e3).trans e4).trans e5) _ fun H6 e6 => q H6 ((((e2.trans e3).trans e4).trans e5).trans e6)
    | false =>
      show Q (.bl false) H4
      exact q H4 ((e2.trans e3).trans e4)⟩
theorem ev_allN {bs : List Bool} (ha : EvL ta σ H (bs.map V.bl)) : Ev (tCB (rAll K) (tCons ta tNil)) σ H (.bl (bs.all id)) := fun H1 e Q q =>
  ha H1 e _ fun p H2 _ e2 h2 => ⟨p, bs, rfl, sq_of h2, q H2 e2⟩
theorem ev_anyN {bs : List Bool} (ha : EvL ta σ H (bs.map V.bl)) : Ev (tCB (rAny K) (tCons ta tNil)) σ H (.bl (bs.any id)) := fun H1 e Q q =>
  ha H1 e _ fun p H2 _ e2 h2 => ⟨p, bs, rfl, sq_of h2, q H2 e2⟩
theorem el_each {a : Addr} {xs : List V} {j : Nat} {vs : List Nat} (f : Nat → V) (h : Ev tl σ H (.ref a)) (hx : SqL K H a xs) (hz : xs.length ≤ 40000)
    (hw : ∀ x, wipe ((wipe σ vs).set j (some x)) vs = wipe σ vs) (he : ∀ (i : Nat) x H1, Ex H H1 → xs[i]? = some x → Ev te ((wipe σ vs).set j (some x)) H1 (f i)) :
    EvL (tLc (iList K tl) (gName j) tYes te vs) σ H ((List.range xs.length).map f) := fun H0 e Q q => h H0 e _ fun H1 e1 => ⟨a, rfl, ⟨xs, ex_l (e.trans e1) hx⟩, fun Dl hD =>
  lc_each f (ex_l (e.trans e1) hx) hD hz hw (fun i x H2 e2 hi => he i x H2 ((e.trans e1).trans e2) hi) fun H2 e2 h2 => q Dl H2 (fresh_back e1 hD) (e1.trans e2) h2⟩
/-- all of truths over a list's items -/
theorem ev_allEach {a : Addr} {xs : List V} {j : Nat} {vs : List Nat} (h : Ev tl σ H (.ref a)) (hx : SqL K H a xs) (hz : xs.length ≤ 40000)
    (hw : ∀ x, wipe ((wipe σ vs).set j (some x)) vs = wipe σ vs) (he : ∀ (i : Nat) x H1, Ex H H1 → xs[i]? = some x → Ev te ((wipe σ vs).set j (some x)) H1 (.bl true)) :
    Ev (tCB (rAll K) (tCons (tLc (iList K tl) (gName j) tYes te vs) tNil)) σ H (.bl true) := by
  have h1 : EvL (tLc (iList K tl) (gName j) tYes te vs) σ H (((List.range xs.length).map fun _ => true).map V.bl) := by
    rw [List.map_map]
    exact el_each (fun _ => V.bl true) h hx hz hw he
  have h2 := ev_allN (K := K) h1
  rw [all_range fun _ _ => rfl] at h2
  exact h2
theorem ev_anyEach {a : Addr} {xs : List V} {j : Nat} {vs : List Nat} (h : Ev tl σ H (.ref a)) (hx : SqL K H a xs) (hz : xs.length ≤ 40000)
    (hw : ∀ x, wipe ((wipe σ vs).set j (some x)) vs = wipe σ vs) (he : ∀ (i : Nat) x H1, Ex H H1 → xs[i]? = some x → Ev te ((wipe σ vs).set j (some x)) H1 (.bl false)) :
    Ev (tCB (rAny K) (tCons (tLc (iList K tl) (gName j) tYes te vs) tNil)) σ H (.bl false) := by
  have h1 : EvL (tLc (iList K tl) (gName j) tYes te vs) σ H (((List.range xs.length).map fun _ => false).map V.bl) := by
    rw [List.map_map]
    exact el_each (fun _ => V.bl false) h hx hz hw he
  have h2 := ev_anyN (K := K) h1
  rw [any_range fun _ _ => rfl] at h2
  exact h2
end
/-- a ring as it is due -/
structure Ring (ns : List Int) : Prop where
  pos : 1 ≤ ns.length
  few : ns.length ≤ 12
  bd : RD.Bd 200 ns
theorem Ring.D {ns : List Int} (h : Ring ns) : Ring (RD.D ns) := ⟨by rw [RD.D_len]; exact h.pos, by rw [RD.D_len]; exact h.few, h.bd.D⟩
theorem Ring.itr {ns : List Int} (h : Ring ns) (k : Nat) : Ring (RD.itr k ns) := ⟨by rw [RD.itr_len]; exact h.pos, by rw [RD.itr_len]; exact h.few, h.bd.itr k⟩
section
variable {K : PySem.W.Frag} {σ : L2.St} {H H' : Hp} {ta tb tc te tl : TE} {t u : TT} {x y z v : V} {r r' : R2}
theorem ev_ixU {xs : List V} {i : Int} (ha : EvU ta σ H xs) (hb : Ev tb σ H (.int i)) (hv : atI xs i = some v) : Ev (tOp (rIxT K) ta tb) σ H v := fun H1 e Q q =>
  ha H1 e _ fun p H2 _ e2 hp => hb H2 (e.trans e2) _ fun H3 e3 => ⟨p, xs, i, v, rfl, rfl, st_of (e3 _ _ hp), hv, q H3 (e2.trans e3)⟩
theorem ev_ixL {p : Addr} {xs : List V} {i : Int} (ha : Ev ta σ H (.ref p)) (hb : Ev tb σ H (.int i)) (hx : SqL K H p xs) (hv : atI xs i = some v) : Ev (tOp (rIxL K) ta tb) σ H v :=
  ev_op ha hb (rv_ixL hx hv)
theorem ev_sum {p : Addr} {ns : List Int} (ha : Ev ta σ H (.ref p)) (hx : SqL K H p (ns.map V.int)) : Ev (tCB (rSum K) (tCons ta tNil)) σ H (.int ns.sum) := fun H1 e Q q =>
  ha H1 e _ fun H2 e2 => ⟨p, ns, rfl, ex_l (e.trans e2) hx, q H2 e2⟩
def rAbs : List V → Hp → VK → Prop := fun xs H Q => ∃ i, xs = [.int i] ∧ Q (.int (if i < 0 then -i else i)) H
theorem ev_abs {i : Int} (ha : Ev ta σ H (.int i)) : Ev (tCB rAbs (tCons ta tNil)) σ H (.int (if i < 0 then -i else i)) := fun H1 e Q q =>
  ha H1 e _ fun H2 e2 => ⟨i, rfl, q H2 e2⟩
end
def rTupS (K : PySem.W.Frag) : List V → Hp → VK → Prop := fun xs H Q => ∃ p ys, xs = [.ref p] ∧ ((SqL K H p ys ∧ ∀ l, H l = none → Q (.ref l) (upd H l (.tup ys))) ∨ (SqT K H p ys ∧ Q (.ref p) H))
theorem at_mem {l : List Int} {j : Int} (h0 : 0 ≤ j) (h1 : j < (l.length : Int)) : ∃ x, x ∈ l ∧ atI (l.map V.int) j = some (.int x) := by
  have hj : j.toNat < l.length := by omega
  refine ⟨l[j.toNat], List.getElem_mem hj, ?_⟩
  refine at_of (j := j.toNat) (by omega) ?_
  rw [List.getElem?_map, List.getElem?_eq_getElem hj]
  rfl
theorem at_int {l : List Int} {i : Nat} {n : Int} (h : l[i]? = some n) : atI (l.map V.int) (i : Int) = some (.int n) := by
  refine atI_nat ?_
  rw [List.getElem?_map, h]
  rfl
/-- all numbers have few bits -/
def Few (ns : List Int) : Prop := ∃ e : Nat, 0 < e ∧ e ≤ 1048576 ∧ ∀ z, z ∈ ns → z.natAbs < 2 ^ e
theorem few_of {ns : List Int} (h : ∀ z ∈ ns, Builtin.Int.intBits z ≤ 1048576) : Few ns := ⟨1048576, by decide, Nat.le_refl _, fun z hz => natAbs_of_bits (h z hz)⟩
theorem s_forNLn {K : PySem.W.Frag} {σ : L2.St} {H : Hp} {D : Ends} {tu : TS} {xs : List V} {tl : TE} {j : Nat} (h : EvL tl σ H xs) (Pv : Addr → Nat → L2.St → Hp → Prop) (h0 : ∀ p H1, H p = none → Ex H H1 → H1 p = some (.lst xs) → Pv p 0 σ H1)
    (hl : ∀ p i σ' H', i ≤ xs.length → Pv p i σ' H' → SqL K H' p xs) (hs : ∀ p i x σ' H', xs[i]? = some x → Pv p i σ' H' → tu { D with nx := Pv p (i + 1), ct := Pv p (i + 1), bk := D.nx } (σ'.set j (some x)) H')
    (hd : ∀ p σ' H', Pv p xs.length σ' H' → D.nx σ' H') : tFor (iList K tl) (gName j) tu D σ H := s_forNL h Pv h0 hl hs hd
/-! ### lists of whole numbers as values -/
def EvI (K : PySem.W.Frag) (te : TE) (σ : L2.St) (H : Hp) (ns : List Int) : Prop := ∀ H1, Ex H H1 → ∀ Q : VK, (∀ p H2, Ex H1 H2 → SqL K H2 p (ns.map V.int) → Q (.ref p) H2) → te σ H1 Q
section
variable {K : PySem.W.Frag} {σ : L2.St} {H H' : Hp} {ta tb tc te tl : TE} {ns ms : List Int}
theorem ei_var {i : Nat} {a : Addr} (h : σ[i]? = some (some (.ref a))) (hx : SqL K H a (ns.map V.int)) : EvI K (tVar i) σ H ns := fun H1 e Q q => ⟨.ref a, h, q a H1 (Ex.refl _) (ex_l e hx)⟩
theorem ei_L (h : EvL te σ H (ns.map V.int)) : EvI K te σ H ns := fun H1 e Q q => h H1 e _ fun p H2 _ e2 hp => q p H2 e2 (sq_of hp)
theorem ev_eqI (ha : EvI K ta σ H ns) (hb : EvI K tb σ H ms) : Ev (tOp (rEqD K) ta tb) σ H (.bl (decide (ns = ms))) := fun H1 e Q q =>
  ha H1 e _ fun p H2 e2 hp => hb H2 (e.trans e2) _ fun r H3 e3 hr => ⟨_, _, dp_ints (ex_l e3 hp), dp_ints hr, shaped_ints _, shaped_ints _, by rw [eqv_ints]; exact q H3 (e2.trans e3)⟩
theorem ev_neI (ha : EvI K ta σ H ns) (hb : EvI K tb σ H ms) : Ev (tOp (rNeD K) ta tb) σ H (.bl (!decide (ns = ms))) := fun H1 e Q q =>
  ha H1 e _ fun p H2 e2 hp => hb H2 (e.trans e2) _ fun r H3 e3 hr => ⟨_, _, dp_ints (ex_l e3 hp), dp_ints hr, shaped_ints _, shaped_ints _, by rw [eqv_ints]; exact q H3 (e2.trans e3)⟩
theorem ev_eqI1 (ha : EvI K ta σ H ns) (hb : EvI K tb σ H ms) (h : ns = ms) : Ev (tOp (rEqD K) ta tb) σ H (.bl true) := ev_is (ev_eqI ha hb) (by rw [decide_eq_true h])
theorem ev_neI0 (ha : EvI K ta σ H ns) (hb : EvI K tb σ H ms) (h : ns = ms) : Ev (tOp (rNeD K) ta tb) σ H (.bl false) := ev_is (ev_neI ha hb) (by rw [decide_eq_true h]; rfl)
theorem EvI.mono (e : Ex H H') (h : EvI K te σ H ns) : EvI K te σ H' ns := fun H1 a Q q => h H1 (e.trans a) Q q
theorem ev_isiI {cv : Value} {c : V} {b : Bool} (ha : EvI K ta σ H ns) (hc : ClsV c cv) (hk : PySem.W.kitOne K (.type "list") cv = some b) : Ev (tCB (rIsi K) (tCons ta (tCons (tC c) tNil))) σ H (.bl b) := fun H1 e Q q =>
  ha H1 e _ fun p H2 e2 h2 => ⟨_, c, _, cv, b, rfl, hc, tyL h2, hk, q H2 e2⟩
end
theorem ring_by {ms : List Int} (h : (decide (1 ≤ ms.length) && decide (ms.length ≤ 12) && (ms.all fun x => decide (0 ≤ x) && decide (x ≤ 200))) = true) : Ring ms := by
  simp only [Bool.and_eq_true, decide_eq_true_eq] at h
  refine ⟨h.1.1, h.1.2, fun x hx => ?_⟩
  have g := List.all_eq_true.mp h.2 x hx
  simp only [Bool.and_eq_true, decide_eq_true_eq] at g
  exact g
theorem rv_notB {H : Hp} {a b : Bool} : RV rNotB (.bl a) (.bl b) H (.bl (!decide (a = b))) := rv_val fun _ _ _ q => ⟨a, b, rfl, rfl, q⟩
theorem rv_isB {H : Hp} {a b : Bool} : RV rIsB (.bl a) (.bl b) H (.bl (decide (a = b))) := rv_val fun _ _ _ q => ⟨a, b, rfl, rfl, q⟩
section
variable {K : PySem.W.Frag} {σ : L2.St} {H : Hp} {te tl : TE} {ns : List Int} {j : Nat} {vs : List Nat}
/-- a comprehension over a list of whole numbers, wherever it comes from -/
theorem el_eachI (f : Nat → V) (h : EvI K tl σ H ns) (hz : ns.length ≤ 40000) (hw : ∀ x, wipe ((wipe σ vs).set j (some x)) vs = wipe σ vs)
    (he : ∀ (i : Nat) n H1, Ex H H1 → ns[i]? = some n → Ev te ((wipe σ vs).set j (some (.int n))) H1 (f i)) : EvL (tLc (iList K tl) (gName j) tYes te vs) σ H ((List.range ns.length).map f) := fun H0 e Q q =>
  h H0 e _ fun a H1 e1 hx => ⟨a, rfl, ⟨_, hx⟩, fun Dl hD => by
    have hl : (ns.map V.int).length = ns.length := List.length_map _
    refine lc_each (xs := ns.map V.int) f hx hD (by omega) hw (fun i x H2 e2 hi => ?_) fun H2 e2 h2 => ?_
    · obtain ⟨n, hn, rfl⟩ := map_get hi
      exact he i n H2 ((e.trans e1).trans e2) hn
    · rw [hl] at h2
      exact q Dl H2 (fresh_back e1 hD) (e1.trans e2) h2⟩
theorem ev_anyEI (h : EvI K tl σ H ns) (hz : ns.length ≤ 40000) (hw : ∀ x, wipe ((wipe σ vs).set j (some x)) vs = wipe σ vs)
    (he : ∀ (i : Nat) n H1, Ex H H1 → ns[i]? = some n → Ev te ((wipe σ vs).set j (some (.int n))) H1 (.bl false)) : Ev (tCB (rAny K) (tCons (tLc (iList K tl) (gName j) tYes te vs) tNil)) σ H (.bl false) := by
  have h1 : EvL (tLc (iList K tl) (gName j) tYes te vs) σ H (((List.range ns.length).map fun _ => false).map V.bl) := by
    rw [List.map_map]
    exact el_eachI (fun _ => V.bl false) h hz hw he
  have h2 := ev_anyN (K := K) h1
  rw [any_range fun _ _ => rfl] at h2
  exact h2
/-- a new list of whole numbers by an element that is a function of the item -/
theorem el_mapI (g : Int → Int) (h : EvI K tl σ H ns) (hz : ns.length ≤ 40000) (hw : ∀ x, wipe ((wipe σ vs).set j (some x)) vs = wipe σ vs)
    (he : ∀ n H1, Ex H H1 → n ∈ ns → Ev te ((wipe σ vs).set j (some (.int n))) H1 (.int (g n))) : EvL (tLc (iList K tl) (gName j) tYes te vs) σ H ((ns.map g).map V.int) := by
  have h1 := el_eachI (vs := vs) (te := te) (fun i => V.int (g (ns.getD i 0))) h hz hw (fun i n H1 e1 hi => by
    rw [List.getD_eq_getElem?_getD, hi]
    exact he n H1 e1 (List.mem_of_getElem? hi))
  have e : (List.range ns.length).map (fun i => V.int (g (ns.getD i 0))) = (ns.map g).map V.int := by
    apply List.ext_getElem?
    intro i
    by_cases hi : i < ns.length
    · simp [List.getElem?_map, List.getElem?_range hi, List.getElem?_eq_getElem hi]
    · rw [List.getElem?_eq_none (by rw [List.length_map, List.length_range]; omega), List.getElem?_eq_none (by rw [List.length_map, List.length_map]; omega)]
  rw [e] at h1
  exact h1
theorem et_yes : EvT tYes σ H true := fun H1 _ _ q => q H1 (Ex.refl _)
theorem given_all (n : Nat) (v : Nat → V) : given n (fun _ => true) v = (List.range n).map v := by
  unfold given
  congr 1
  exact List.filter_eq_self.mpr fun _ _ => rfl
end
/-! ### loops whose turns leave all that stood -/
section
variable {K : PySem.W.Frag} {σ : L2.St} {H : Hp} {D : Ends} {tu tz : TS} {j : Nat}
theorem m_forL {xs : List V} {tl : TE} (h : EvL tl σ H xs) (Pv : Nat → L2.St → Prop) (h0 : Pv 0 σ)
    (hs : ∀ (i : Nat) x σ' H' (N : L2.St → Hp → Prop), xs[i]? = some x → Ex H H' → Pv i σ' → (∀ σ2 H2, Ex H' H2 → Pv (i + 1) σ2 → N σ2 H2) → tu { D with nx := N, ct := N, bk := D.nx } (σ'.set j (some x)) H')
    (hd : ∀ σ' H', Ex H H' → Pv xs.length σ' → D.nx σ' H') : tFor (iList K tl) (gName j) tu D σ H :=
  s_forNL h (fun p i σ' H' => Pv i σ' ∧ Ex H H' ∧ H' p = some (.lst xs)) (fun p H1 np e1 h1 => ⟨h0, e1, h1⟩) (fun p i σ' H' _ q => sq_of q.2.2)
    (fun p i x σ' H' hx q => hs i x σ' H' _ hx q.2.1 q.1 fun σ2 H2 e2 q2 => ⟨q2, q.2.1.trans e2, e2 _ _ q.2.2⟩) (fun p σ' H' q => hd σ' H' q.2.1 q.1)
theorem n_forL {xs : List V} {tl : TE} (h : EvL tl σ H xs) (Pv : Nat → L2.St → Prop) (h0 : Pv 0 σ)
    (hs : ∀ (i : Nat) x σ' H' (N : L2.St → Hp → Prop), xs[i]? = some x → Ex H H' → Pv i σ' → (∀ σ2 H2, Ex H' H2 → Pv (i + 1) σ2 → N σ2 H2) → tu { D with nx := N, ct := N, bk := tz D } (σ'.set j (some x)) H')
    (hd : ∀ σ' H', Ex H H' → Pv xs.length σ' → tz D σ' H') : tSeq (tFor (iList K tl) (gName j) tu) tz D σ H := m_forL (D := { D with nx := tz D }) h Pv h0 hs hd
/-- a written list of tuples -/
def EvTs (ta : TA) (σ : L2.St) (H : Hp) (ps : List (List V)) : Prop := ∀ H1, Ex H H1 → ∀ Q : List V → Hp → Prop, (∀ (as : List Addr) H2, Ex H1 H2 → as.length = ps.length → (∀ (i : Nat) a, as[i]? = some a → ∃ p, ps[i]? = some p ∧ H2 a = some (.tup p)) → Q (as.map V.ref) H2) → ta σ H1 Q
theorem ets_nil : EvTs tNil σ H [] := fun H1 _ Q q => q [] H1 (Ex.refl _) rfl fun i a h => by simp at h
theorem ets_cons {te : TE} {ta : TA} {p : List V} {ps : List (List V)} (h : EvU te σ H p) (hr : EvTs ta σ H ps) : EvTs (tCons te ta) σ H (p :: ps) := fun H1 e Q q =>
  h H1 e _ fun a H2 na e2 ha => hr H2 (e.trans e2) _ fun as H3 e3 hl has => q (a :: as) H3 (e2.trans e3) (by rw [List.length_cons, List.length_cons, hl]) fun i b hb => by
    cases i with
    | zero =>
      cases hb
      exact ⟨p, rfl, e3 _ _ ha⟩
    | succ i => exact has i b hb
/-- for a, b in [(..), ..] -/
theorem m_forT2 {ps : List (List V)} {ta : TA} {i1 i2 : Nat} (h : EvTs ta σ H ps) (hz : ps.length ≤ 1000) (h2 : ∀ p, p ∈ ps → p.length = 2) (Pv : Nat → L2.St → Prop) (h0 : Pv 0 σ)
    (hs : ∀ (i : Nat) x y σ' H' (N : L2.St → Hp → Prop), ps[i]? = some [x, y] → Ex H H' → Pv i σ' → (∀ σ2 H2, Ex H' H2 → Pv (i + 1) σ2 → N σ2 H2) → tu { D with nx := N, ct := N, bk := D.nx } ((σ'.set i1 (some x)).set i2 (some y)) H')
    (hd : ∀ σ' H', Ex H H' → Pv ps.length σ' → D.nx σ' H') : tFor (iList K (tLst ta)) (gTup K 2 (gCons (gName i1) (gCons (gName i2) gNil))) tu D σ H := by
  refine h H (Ex.refl _) _ fun as H1 e1 hl has => ⟨by rw [List.length_map, hl]; exact sz_of (by omega), fun l nl => ?_⟩
  have e2 := Ex.new (o := .lst (as.map V.ref)) nl
  have hl2 : upd H1 l (.lst (as.map V.ref)) l = some (.lst (as.map V.ref)) := upd_same
  generalize upd H1 l (.lst (as.map V.ref)) = H2 at e2 hl2
  refine ⟨l, rfl, ⟨_, sq_of hl2⟩, for_list (xs := as.map V.ref) (fun i σ' H' => Pv i σ' ∧ Ex H2 H') ⟨h0, Ex.refl _⟩ (fun i σ' H' _ q => sq_of (q.2 _ _ hl2)) (fun i x σ' H' hx q => ?_) (fun σ' H' q => ?_)⟩
  · obtain ⟨a, ha, rfl⟩ := map_get hx
    obtain ⟨p, hp, hpa⟩ := has i a ha
    have hp2 := h2 p (List.mem_of_getElem? hp)
    match p, hp, hp2, hpa with
    | [x, y], hp, _, hpa =>
      exact ⟨a, _, rfl, st_of (q.2 _ _ (e2 _ _ hpa)), rfl, x, _, rfl, y, _, rfl, rfl, hs i x y σ' H' _ hp ((e1.trans e2).trans q.2) q.1 fun σ2 H3 e3 q3 => ⟨q3, q.2.trans e3⟩⟩
  · obtain ⟨q1, q2⟩ := q
    rw [List.length_map, hl] at q1
    exact hd σ' H' ((e1.trans e2).trans q2) q1
theorem n_forT2 {ps : List (List V)} {ta : TA} {i1 i2 : Nat} (h : EvTs ta σ H ps) (hz : ps.length ≤ 1000) (h2 : ∀ p, p ∈ ps → p.length = 2) (Pv : Nat → L2.St → Prop) (h0 : Pv 0 σ)
    (hs : ∀ (i : Nat) x y σ' H' (N : L2.St → Hp → Prop), ps[i]? = some [x, y] → Ex H H' → Pv i σ' → (∀ σ2 H2, Ex H' H2 → Pv (i + 1) σ2 → N σ2 H2) → tu { D with nx := N, ct := N, bk := tz D } ((σ'.set i1 (some x)).set i2 (some y)) H')
    (hd : ∀ σ' H', Ex H H' → Pv ps.length σ' → tz D σ' H') : tSeq (tFor (iList K (tLst ta)) (gTup K 2 (gCons (gName i1) (gCons (gName i2) gNil))) tu) tz D σ H := m_forT2 (D := { D with nx := tz D }) h hz h2 Pv h0 hs hd
end
theorem s_par {σ : L2.St} {H : Hp} {D : Ends} {ta : TA} {i j : Nat} {v w : V} (h : EvA ta σ H [v, w]) (k : ∀ H1, Ex H H1 → D.nx ((σ.set i (some v)).set j (some w)) H1) : tPar i j ta D σ H := h H (Ex.refl _) _ fun H1 e => ⟨v, w, rfl, k H1 e⟩
theorem q_par {σ : L2.St} {H : Hp} {D : Ends} {tz : TS} {ta : TA} {i j : Nat} {v w : V} (h : EvA ta σ H [v, w]) (k : ∀ H1, Ex H H1 → tz D ((σ.set i (some v)).set j (some w)) H1) : tSeq (tPar i j ta) tz D σ H := s_par (D := { D with nx := tz D }) h k
def rMin2 : List V → Hp → VK → Prop := fun xs H Q => ∃ i j, xs = [.int i, .int j] ∧ Q (.int (if j < i then j else i)) H
theorem ev_min2 {σ : L2.St} {H : Hp} {ta tb : TE} {i j : Int} (ha : Ev ta σ H (.int i)) (hb : Ev tb σ H (.int j)) : Ev (tCB rMin2 (tCons ta (tCons tb tNil))) σ H (.int (if j < i then j else i)) := fun H1 e Q q =>
  ha H1 e _ fun H2 e2 => hb H2 (e.trans e2) _ fun H3 e3 => ⟨i, j, rfl, q H3 (e2.trans e3)⟩
theorem cut_lo2 (xs : List V) (k : Nat) : cutV xs (some (k : Int)) none = xs.drop k := by
  unfold cutV
  rw [HT.sIx_nat, HT.sIx_none]
  by_cases hk : k ≤ xs.length
  · rw [Nat.min_eq_left hk, List.take_of_length_le (by rw [List.length_drop]; exact Nat.le_refl _)]
  · rw [Nat.min_eq_right (by omega), Nat.sub_self, List.take_zero, List.drop_of_length_le (by omega)]
theorem cut_hi2 (xs : List V) (k : Nat) : cutV xs none (some (k : Int)) = xs.take k := by
  unfold cutV
  rw [HT.sIx_none, HT.sIx_nat, List.drop_zero, Nat.sub_zero]
  by_cases hk : k ≤ xs.length
  · rw [Nat.min_eq_left hk]
  · rw [Nat.min_eq_right (by omega), List.take_of_length_le (Nat.le_refl _), List.take_of_length_le (by omega)]
/-- xs[k:] + xs[:k] -/
theorem el_turn {K : PySem.W.Frag} {σ : L2.St} {H : Hp} {te ta tb tc : TE} {ns : List Int} {k : Nat} (ha : EvI K te σ H ns) (hb : EvI K tc σ H ns) (h1 : Ev ta σ H (.int (k : Int))) (h2 : Ev tb σ H (.int (k : Int))) (hz : ns.length ≤ 1000) :
    EvL (tOp rCat (tSl (rSlL K) te (tPart ta) tNoPart) (tSl (rSlL K) tc tNoPart (tPart tb))) σ H ((ns.drop k ++ ns.take k).map V.int) := fun H1 e Q q =>
  ha H1 e _ fun a H2 e2 hp => h1 H2 (e.trans e2) _ fun H3 e3 => ⟨(k : Int), rfl, a, _, rfl, ex_l e3 hp, fun x nx => by
    have e4 := Ex.new (o := .lst (cutV (ns.map V.int) (some (k : Int)) none)) nx
    have hx4 : upd H3 x (.lst (cutV (ns.map V.int) (some (k : Int)) none)) x = some (.lst (cutV (ns.map V.int) (some (k : Int)) none)) := upd_same
    generalize upd H3 x (.lst (cutV (ns.map V.int) (some (k : Int)) none)) = H4 at e4 hx4
    refine hb H4 (((e.trans e2).trans e3).trans e4) _ fun b H5 e5 hq => h2 H5 ((((e.trans e2).trans e3).trans e4).trans e5) _ fun H6 e6 => ⟨(k : Int), rfl, b, _, rfl, ex_l e6 hq, fun y ny => ?_⟩
    have e7 := Ex.new (o := .lst (cutV (ns.map V.int) none (some (k : Int)))) ny
    refine ⟨x, y, _, _, rfl, rfl, e7 _ _ (e6 _ _ (e5 _ _ hx4)), upd_same, ?_, fun z nz => ?_⟩
    · have l1 := cutV_length (ns.map V.int) (some (k : Int)) none
      have l2 := cutV_length (ns.map V.int) none (some (k : Int))
      rw [List.length_map] at l1 l2
      exact sz_of (by omega)
    · have e26 := ((((e2.trans e3).trans e4).trans e5).trans e6).trans e7
      refine q z _ (fresh_back e26 nz) (e26.trans (Ex.new nz)) ?_
      rw [upd_same, cut_lo2, cut_hi2, List.map_append, List.map_drop, List.map_take]⟩
theorem el_rev {K : PySem.W.Frag} {σ : L2.St} {H : Hp} {te : TE} {ns : List Int} (ha : EvI K te σ H ns) : EvL (tRevL K te) σ H (ns.reverse.map V.int) := fun H1 e Q q =>
  ha H1 e _ fun a H2 e2 hp => ⟨a, _, rfl, hp, fun x nx => q x _ (fresh_back e2 nx) (e2.trans (Ex.new nx)) (by rw [upd_same, List.map_reverse])⟩
/-- the whole of the script: abs(sum(script[:63])) -/
theorem ev_whole {K : PySem.W.Frag} {σ : L2.St} {H : Hp} {te : TE} {ns : List Int} (ha : EvI K te σ H ns) (hl : ns.length ≤ 63) : Ev (tCB rAbs (tCons (tCB (rSum K) (tCons (tSl (rSlL K) te tNoPart (tPart (tC (.int 63)))) tNil)) tNil)) σ H (.int (if ns.sum < 0 then -ns.sum else ns.sum)) := fun H1 e Q q =>
  ha H1 e _ fun a H2 e2 hp => ⟨63, rfl, a, _, rfl, hp, fun c nc => ⟨c, ns, rfl, by
    rw [show (some (63 : Int)) = some ((63 : Nat) : Int) from rfl, cut_hi2, List.take_of_length_le (by rw [List.length_map]; exact hl)]
    exact sq_of upd_same, ns.sum, rfl, q _ (e2.trans (Ex.new nc))⟩⟩
theorem q_parL {σ : L2.St} {H : Hp} {D : Ends} {tz : TS} {te tb : TE} {i j : Nat} {xs : List V} {w : V} (h : EvL te σ H xs) (h2 : Ev tb σ H w) (k : ∀ p H1, H p = none → Ex H H1 → H1 p = some (.lst xs) → tz D ((σ.set i (some (.ref p))).set j (some w)) H1) :
    tSeq (tPar i j (tCons te (tCons tb tNil))) tz D σ H := h H (Ex.refl _) _ fun p H1 np e1 hp => h2 H1 e1 _ fun H2 e2 => ⟨_, _, rfl, k p H2 np (e1.trans e2) (e2 _ _ hp)⟩
theorem EvL_of {te : TE} {σ : L2.St} {H : Hp} {xs ys : List Int} (e : xs = ys) (h : EvL te σ H (xs.map V.int)) : EvL te σ H (ys.map V.int) := by
  rw [← e]
  exact h
/-- an if without else, both ways joined by a word on the heap, the slots as they were -/
theorem pq_when {σ : L2.St} {H : Hp} {D : Ends} {t : TT} {tu tz : TS} (R : Hp → Prop) {b : Bool} (h : EvT t σ H b) (h1 : b = true → ∀ H1, Ex H H1 → tu ⟨fun σ2 H2 => σ2 = σ ∧ R H2, D.rt, D.bk, D.ct⟩ σ H1) (h2 : b = false → ∀ H1, Ex H H1 → R H1) (k : ∀ H1, R H1 → tz D σ H1) :
    tCut (tIfS t tu tNext) tz D σ H := ⟨fun σ2 H2 => σ2 = σ ∧ R H2, s_if (D := { D with nx := fun σ2 H2 => σ2 = σ ∧ R H2 }) h (fun hb H1 e1 => h1 hb H1 e1) (fun hb H1 e1 => ⟨rfl, h2 hb H1 e1⟩), fun σ2 H2 q => by
    obtain ⟨rfl, q⟩ := q
    exact k H2 q⟩
theorem pe_fldK {X : Cx} {K : PySem.W.Frag} {e : Expr} {ta : TE} {f : Str} {pos : Pos} (hK : X.K = K) (he : PE X e ta) (hb : attributeBase e f X.env (eval e X.env) = eval e X.env) : PE X (.Attribute e f pos) (tFld K ta f) := by
  rw [← hK]
  exact pe_fld he hb
/-! ### rules for answers: any of whole numbers, a method of one of two classes, isinstance of own instances -/
def rAnyI (K : PySem.W.Frag) : List V → Hp → VK → Prop := fun vs H Q => ∃ (a : Addr) (ns : List Int), vs = [V.ref a] ∧ SqL K H a (ns.map V.int) ∧ Q (.bl (ns.any fun n => n != 0)) H
theorem truth_ints {prog : Program} {w : World} {A : Around} {ns : List Int} {its : List Value} (e : IntsAre its ns) :
    TruthOf prog w A (fun i v => its.toArray[i]? = some v) (fun i => (ns.map fun n => n != 0).getD i false) := by
  intro i v s Q E hv hq
  have hv' : its[i]? = some v := by simpa using hv
  have rv := vals_ints e
  have hi : i < ns.length := by
    have h1 := get_lt hv'
    have h2 := rv.length
    rw [List.length_map] at h2
    omega
  obtain ⟨u, hu, t, rfl⟩ := rv.get (i := i) (x := .int ns[i]) (by rw [List.getElem?_map, List.getElem?_eq_getElem hi]; rfl)
  rw [hv'] at hu
  cases hu
  have hg : (ns.map fun n => n != 0).getD i false = (ns[i] != 0) := by
    rw [List.getD_eq_getElem?_getD, List.getElem?_map, List.getElem?_eq_getElem hi]
    rfl
  have hq' : Q ((ns.map fun n => n != 0).getD i false) s := hq
  rw [hg] at hq'
  exact PySem.P.truthy_int hq'
theorem cr_anyI {X : Cx} (hc : X.calm = true) : CallR X (.builtin "any") (rAnyI X.K) := by
  intro pins s σ H vs us Q I r h
  obtain ⟨a, ns, rfl, hs, q⟩ := h
  obtain ⟨its, rv, hl, _⟩ := I.list hs
  rw [Vals.ref1 r]
  have hb : IntsAre its ns := rv.ints
  refine call_any_walk (iter_any hl.isList fun s2 e2 st hne => ?_)
  subst e2
  refine ⟨_, _, _, _, _, _, _, rfl, Walks.list (A := X.A.in1) (I.ok.hd hc) _ a hne its.toArray, st, truth_ints hb, fun h' tk hk => ?_⟩
  refine ⟨.bl _, H, I.kept fun b o eo => hk b o (fun hmem => ?_) (Heap.get?_push_of_some _ eo), ?_, q⟩
  · rcases List.mem_cons.mp hmem with z | z
    · exact absurd (z ▸ Heap.lt_size eo) (Nat.lt_irrefl _)
    · cases z
  · have hlen : its.length = (ns.map fun n => n != 0).length := by
      have h2 := rv.length
      rw [List.length_map] at h2 ⊢
      exact h2.symm
    have g := L2.any_range (ns.map fun n => n != 0)
    show Value.bool _ = Value.bool _
    rw [List.size_toArray, hlen, g, List.any_map]
    rfl
def tMeth2 (C1 C2 : Addr) (m : Str) (sp1 sp2 : Sp) (E : XK) (ta : TE) (t : TA) : TE := fun σ H Q => ta σ H fun x H1 => ∃ a dx fs, x = .ref a ∧ fs.lookup m = none ∧
  ((H1 a = some (.ins C1 dx fs) ∧ t σ H1 fun vs H2 => sp1 (x :: vs) H2 Q E) ∨ (H1 a = some (.ins C2 dx fs) ∧ t σ H1 fun vs H2 => sp2 (x :: vs) H2 Q E))
theorem pe_meth2 {X : Cx} {CX1 CX2 : CXT} {k1 k2 : Nat} {f1 f2 C1 C2 : Addr} {fd1 fd2 : FuncData} {ps1 ps2 : List Str} {sp1 sp2 : Sp} {E : XK} {m : Str} {pos apos : Pos} {e o : Expr} {es : List Expr} {ta : TE} {t : TA} {pl : Sem Bool}
    (he : PE X o ta) (c1 : Cls X.K C1) (c2 : Cls X.K C2) (hm1 : Meth X.K C1 m f1) (hm2 : Meth X.K C2 m f2) (F1 : FnOk X.prog X.w X.K X.mg X.base CX1 k1 f1 fd1 ps1 sp1) (F2 : FnOk X.prog X.w X.K X.mg X.base CX2 k2 f2 fd2 ps2 sp2)
    (hr1 : Room k1 X.A) (hr2 : Room k2 X.A) (hb1 : Binds X.K fd1 ps1 []) (hb2 : Binds X.K fd2 ps2 []) (hx1 : Passes CX1 X E) (hx2 : Passes CX2 X E) (ha : PA X (e :: es) t)
    (hst : starEach (e :: es) X.env = (false, eval e X.env) :: starEach es X.env := by rfl) (hpl : (backTo pos (starEach es X.env)).any (·.1) = false := by rfl)
    (ht : eval (.Call (.Attribute o m apos) (e :: es) [] pos) X.env = (do
      let ov ← eval o X.env
      standAt apos.atName
      let (f, first) ← holding [ov] (getMethod ov m pl)
      callWith pos f first (backTo pos (starEach (e :: es) X.env)) (backToKw pos (keywordEach [] X.env))) := by rfl) :
    PE X (.Call (.Attribute o m apos) (e :: es) [] pos) (tMeth2 C1 C2 m sp1 sp2 E ta t) := by
  refine ⟨fun pins s σ H Q I h => ?_⟩
  refine PySem.W.methodCall_KW (pl := pl) (thn (he.run pins s σ H _ I h) fun u s1 hh => ?_) ht
  obtain ⟨x, H1, I1, rx, a, dx, fs, ex, l, hcase⟩ := hh
  subst ex
  obtain rfl : u = Value.ref a := rx
  rcases hcase with ⟨ea, q⟩ | ⟨ea, q⟩
  · refine getmeth_ok I1 ea c1 hm1 l ?_
    refine PySem.W.callWith_K (first := [.ref a]) (h₀ := X.base) I.ok.mod.kin hm1.kp (thn (ha.run pos pins s1 σ H1 _ I1 q) fun us s2 h2 => ?_) hst hpl
    obtain ⟨vs, H2, I2, r, q2⟩ := h2
    refine ⟨I2.kIn, ?_⟩
    exact run_fn (us := .ref a :: us) (vs := .ref a :: vs) (dvs := []) F1 hr1 hb1 .nil hx1 I2 (.cons rfl r) (by rw [List.append_nil]; exact q2)
  · refine getmeth_ok I1 ea c2 hm2 l ?_
    refine PySem.W.callWith_K (first := [.ref a]) (h₀ := X.base) I.ok.mod.kin hm2.kp (thn (ha.run pos pins s1 σ H1 _ I1 q) fun us s2 h2 => ?_) hst hpl
    obtain ⟨vs, H2, I2, r, q2⟩ := h2
    refine ⟨I2.kIn, ?_⟩
    exact run_fn (us := .ref a :: us) (vs := .ref a :: vs) (dvs := []) F2 hr2 hb2 .nil hx2 I2 (.cons rfl r) (by rw [List.append_nil]; exact q2)
theorem kit_own {K : PySem.W.Frag} {C D : Addr} {b : Bool} (h1 : PySem.W.isClsIn K D = true) (h2 : PySem.W.typeIn K (.ref D) = some (.type "type")) (h3 : PySem.W.subIn K (.ref C) (.ref D) = some b) (h4 : PySem.W.subIn K (.ref D) (.ref D) = some true) :
    PySem.W.kitOne K (.ref C) (.ref D) = some b := by
  have h1' : (PySem.W.clsIn K D).isSome = true := h1
  unfold PySem.W.kitOne PySem.W.kitCls
  by_cases e : C = D
  · subst e
    rw [if_pos (by simp)]
    rw [h3] at h4
    exact h4.symm
  · rw [if_neg (by simpa using e)]
    simp only [h1', h2, h3]
    rfl
/-- the greatest number (of numbers from 0 on) -/
def mx : List Int → Int
  | [] => 0
  | x :: r => if mx r ≤ x then x else mx r
theorem mx_nn : ∀ l : List Int, 0 ≤ mx l
  | [] => Int.le_refl _
  | x :: r => by
    have := mx_nn r
    unfold mx
    split <;> omega
theorem mx_ge : ∀ {l : List Int} {x : Int}, x ∈ l → x ≤ mx l
  | y :: r, x, h => by
    unfold mx
    rcases List.mem_cons.mp h with e | h
    · subst e
      split <;> omega
    · have := mx_ge h
      split <;> omega
theorem mx_mem : ∀ {l : List Int}, (∀ x, x ∈ l → 0 ≤ x) → l ≠ [] → mx l ∈ l
  | [], _, h => absurd rfl h
  | [x], h, _ => by
    have := h x List.mem_cons_self
    unfold mx
    rw [if_pos (show mx [] ≤ x from this)]
    exact List.mem_cons_self
  | x :: y :: r, h, _ => by
    have ih := mx_mem (l := y :: r) (fun z hz => h z (List.mem_cons_of_mem _ hz)) (by simp)
    rw [mx]
    split
    · exact List.mem_cons_self
    · exact List.mem_cons_of_mem _ ih
theorem mx_is {l : List Int} {m : Int} (h : ∀ x, x ∈ l → 0 ≤ x) (h1 : m ∈ l) (h2 : ∀ y, y ∈ l → y ≤ m) : m = mx l := by
  have a := mx_ge h1
  have b := h2 _ (mx_mem h (List.ne_nil_of_mem h1))
  omega
theorem mx_any {l : List Int} (h : ∀ x, x ∈ l → 0 ≤ x) : (l.any fun n => n != 0) = decide (mx l ≠ 0) := by
  by_cases hz : mx l = 0
  · rw [decide_eq_false (by simpa using hz), List.any_eq_false]
    intro x hx
    have := mx_ge hx
    have := h x hx
    have : x = 0 := by omega
    simp [this]
  · rw [decide_eq_true hz, List.any_eq_true]
    have hne : l ≠ [] := fun e => by
      rw [e] at hz
      exact hz rfl
    exact ⟨mx l, mx_mem h hne, by simpa using hz⟩
theorem ev_max {K : PySem.W.Frag} {σ : L2.St} {H : Hp} {ta : TE} {ns : List Int} (ha : EvI K ta σ H ns) (h : Ring ns) : Ev (tCB (rMax K) (tCons ta tNil)) σ H (.int (mx ns)) := fun H1 e Q q =>
  ha H1 e _ fun p H2 e2 hp => ⟨p, ns, rfl, hp, h.pos, fun m hm hle => by
    rw [mx_is (fun x hx => (h.bd x hx).1) hm hle]
    exact q H2 e2⟩
theorem ev_anyI {K : PySem.W.Frag} {σ : L2.St} {H : Hp} {ta : TE} {ns : List Int} (ha : EvI K ta σ H ns) (h : Ring ns) : Ev (tCB (rAnyI K) (tCons ta tNil)) σ H (.bl (decide (mx ns ≠ 0))) := fun H1 e Q q =>
  ha H1 e _ fun p H2 e2 hp => ⟨p, ns, rfl, hp, by
    rw [mx_any (fun x hx => (h.bd x hx).1)]
    exact q H2 e2⟩
/-! ### an instance of a class without an __init__ of its own -/
structure MkP (K : PySem.W.Frag) (C : Addr) : Prop where
  makes : PySem.W.makesIn K C = true
  init : PySem.W.findIn K (.ref C) "__init__" = some (some (.builtin "object.__init__"))
  kp : PySem.W.keepIn K (.ref C) = true
def tMakeP (C : Addr) : TE := fun _ H Q => ∀ x dx, H x = none → H dx = none → dx ≠ x → Q (.ref x) (upd (upd H dx (.own x)) x (.ins C dx []))
theorem pe_makeP {X : Cx} {C : Addr} {x : Str} {p pos : Pos} (M : MkP X.K C) (hg : Gl X x) (hm : X.mg x = some (.ref C)) (hdb : (x == ("__debug__" : Str)) = false := by decide) : PE X (.Call (.Name x p) [] [] pos) (tMakeP C) := by
  refine ⟨fun pins s σ H Q I h => ?_⟩
  refine wpAny_Call_Name_kw (ld_glob I hg hm ?_ hdb)
  refine PySem.W.callWith_K0 I.kIn M.kp ?_
  have q := h (s.heap.objs.size + 1) s.heap.objs.size (I.hok.fresh (Nat.le_succ _)) (I.hok.fresh (Nat.le_refl _)) (Nat.ne_of_lt (Nat.lt_succ_self _))
  have I2 := Inv.made (C := C) I
  have KX := I.kIn
  obtain ⟨hh, g, d, t, os⟩ := s
  refine wpAny_call (make_map0 KX M.makes M.init (fun self => PySem.W.Looks.of_pure (PySem.W.oi_bind self)) ?_)
  have Y := PySem.W.makes_of (M := model X.prog X.w) KX M.makes
  have e2 : ((hh.push PySem.W.emptyDict).push (PySem.W.instObj C hh.objs.size)).get? (hh.objs.size + 1) = some (PySem.W.instObj C hh.objs.size) := by
    have z := Heap.get?_push_size (hh.push PySem.W.emptyDict) (o := PySem.W.instObj C hh.objs.size) rfl
    rwa [Heap.size_push] at z
  have t1 : PySem.W.Looks (model X.prog X.w) ((hh.push PySem.W.emptyDict).push (PySem.W.instObj C hh.objs.size)) (typeOf (.ref (hh.objs.size + 1))) (.ref C) := (PySem.W.Looks.ld e2).andThen .now
  have t2 : PySem.W.Looks (model X.prog X.w) ((hh.push PySem.W.emptyDict).push (PySem.W.instObj C hh.objs.size)) (isInstance (.ref (hh.objs.size + 1)) (.type "object")) true :=
    t1.andThen (Y.top.keeps fun b o e => Heap.get?_push_of_some _ (Heap.get?_push_of_some _ e))
  refine codeAny_call_builtin PySem.W.oi_plain PySem.W.entry_oi (@PySem.W.check_slot (model X.prog X.w) _ _ _ "object.__init__" "object" "__init__" (.ref (hh.objs.size + 1)) [] [] _ PySem.W.oi_kind PySem.W.oi_split t2 (PySem.W.oi_args (.ref (hh.objs.size + 1))) ?_)
  rw [PySem.W.oi_run]
  exact wpAny_pure (And.intro rfl ⟨V.ref (hh.objs.size + 1), _, I2, rfl, q⟩)
theorem lock_id {H : Hp} {d m : Addr} {u f o : HO} (hd : H d = some u) (hm : m ≠ d) : upd (upd (upd H d f) m o) d u = upd H m o := by
  funext b
  by_cases h1 : b = d
  · rw [h1, upd_same, upd_ne hm.symm, hd]
  · rw [upd_ne h1]
    by_cases h2 : b = m
    · rw [h2, upd_same, upd_same]
    · rw [upd_ne h2, upd_ne h2, upd_ne h1]
def top (i : Nat) : Stmt := PySem.Challenge.pw_ringdiffer_k07_whole_came.main.body.getD i (.Pass ⟨0, 0, 0, 0⟩)
abbrev s_wall : Stmt := top 0
theorem sc_wall : FnScope ["k"] ["k"] (defScope s_wall) :=
  ⟨rfl, rfl, rfl, by decide +kernel, rfl, by decide +kernel, by decide +kernel⟩
abbrev s_is_whole : Stmt := top 7
theorem sc_is_whole : FnScope ["thing"] ["thing"] (defScope s_is_whole) :=
  ⟨rfl, rfl, rfl, by decide +kernel, rfl, by decide +kernel, by decide +kernel⟩
abbrev s_asked_ring : Stmt := top 8
theorem sc_asked_ring : FnScope ["ring", "one"] ["ring"] (defScope s_asked_ring) :=
  ⟨rfl, rfl, rfl, by decide +kernel, rfl, by decide +kernel, by decide +kernel⟩
abbrev s_Noughts_init : Stmt := inClass (top 11) 0
theorem sc_Noughts_init : FnScope ["self", "steps"] ["self", "steps"] (defScope s_Noughts_init) :=
  ⟨rfl, rfl, rfl, by decide +kernel, rfl, by decide +kernel, by decide +kernel⟩
abbrev s_Noughts_shows : Stmt := inClass (top 11) 1
theorem sc_Noughts_shows : FnScope ["self", "ring"] ["self", "ring"] (defScope s_Noughts_shows) :=
  ⟨rfl, rfl, rfl, by decide +kernel, rfl, by decide +kernel, by decide +kernel⟩
abbrev s_Round_init : Stmt := inClass (top 12) 0
theorem sc_Round_init : FnScope ["self", "steps", "length", "number"] ["self", "steps", "length", "number"] (defScope s_Round_init) :=
  ⟨rfl, rfl, rfl, by decide +kernel, rfl, by decide +kernel, by decide +kernel⟩
abbrev s_Round_shows : Stmt := inClass (top 12) 1
theorem sc_Round_shows : FnScope ["self", "ring"] ["self", "ring"] (defScope s_Round_shows) :=
  ⟨rfl, rfl, rfl, by decide +kernel, rfl, by decide +kernel, by decide +kernel⟩
abbrev s_Came_init : Stmt := inClass (top 13) 0
theorem sc_Came_init : FnScope ["self", "ring"] ["self", "ring"] (defScope s_Came_init) :=
  ⟨rfl, rfl, rfl, by decide +kernel, rfl, by decide +kernel, by decide +kernel⟩
abbrev s_heaps_of : Stmt := top 16
theorem sc_heaps_of : FnScope ["ring", "sums", "one", "more", "total", "found", "at", "sign"] ["ring"] (defScope s_heaps_of) :=
  ⟨rfl, rfl, rfl, by decide +kernel, rfl, by decide +kernel, by decide +kernel⟩
abbrev s_came : Stmt := top 17
theorem sc_came : FnScope ["ring", "signs", "found", "sign", "one", "least"] ["ring"] (defScope s_came) :=
  ⟨rfl, rfl, rfl, by decide +kernel, rfl, by decide +kernel, by decide +kernel⟩
abbrev s_w_number : Stmt := top 19
theorem sc_w_number : FnScope ["_law_cell", "_law_at", "_law_whole", "_law_mixed", "_law_more"] ["_law_cell", "_law_at", "_law_whole"] (defScope s_w_number) :=
  ⟨rfl, rfl, rfl, by decide +kernel, rfl, by decide +kernel, by decide +kernel⟩
abbrev s_w_ring : Stmt := top 20
theorem sc_w_ring : FnScope ["_law_script", "_law_by", "_law_cells", "_law_whole", "_law_many", "_law_wide", "_law_found", "_law_at", "_law_number_here"] ["_law_script", "_law_by"] (defScope s_w_ring) :=
  ⟨rfl, rfl, rfl, by decide +kernel, rfl, by decide +kernel, by decide +kernel⟩
abbrev s_w_step : Stmt := top 21
theorem sc_w_step : FnScope ["_law_ring_here", "_law_found", "_law_at", "_law_far"] ["_law_ring_here"] (defScope s_w_step) :=
  ⟨rfl, rfl, rfl, by decide +kernel, rfl, by decide +kernel, by decide +kernel⟩
abbrev s_w_even : Stmt := top 22
theorem sc_w_even : FnScope ["_law_ring_here", "_law_sums", "_law_one", "_law_total"] ["_law_ring_here"] (defScope s_w_even) :=
  ⟨rfl, rfl, rfl, by decide +kernel, rfl, by decide +kernel, by decide +kernel⟩
abbrev s_w_right : Stmt := top 23
theorem sc_w_right : FnScope ["_law_ring_here", "_law_handed", "_law_again", "_law_answer", "_law_one"] ["_law_ring_here"] (defScope s_w_right) :=
  ⟨rfl, rfl, rfl, by decide +kernel, rfl, by decide +kernel, by decide +kernel⟩
abbrev s_law : Stmt := top 24
theorem sc_law : FnScope ["_law_script", "_law_by", "_law_ring_here"] ["_law_script"] (defScope s_law) :=
  ⟨rfl, rfl, rfl, by decide +kernel, rfl, by decide +kernel, by decide +kernel⟩
structure Txt (K : PySem.W.Frag) (mg : Str → Option Value) where
  n_abs : mg "abs" = none
  n_all : mg "all" = none
  n_any : mg "any" = none
  n_bool : mg "bool" = none
  n_int : mg "int" = none
  n_isinstance : mg "isinstance" = none
  n_len : mg "len" = none
  n_list : mg "list" = none
  n_min : mg "min" = none
  n_range : mg "range" = none
  n_set : mg "set" = none
  n_sorted : mg "sorted" = none
  n_sum : mg "sum" = none
  n_zip : mg "zip" = none
  t_LONGEST : Tok
  m_LONGEST : mg "LONGEST" = some (.int 12 t_LONGEST)
  t_GREATEST : Tok
  m_GREATEST : mg "GREATEST" = some (.int 200 t_GREATEST)
  C_RingError : Addr
  m_RingError : mg "RingError" = some (.ref C_RingError)
  C_BadRing : Addr
  m_BadRing : mg "BadRing" = some (.ref C_BadRing)
  C_Answer : Addr
  m_Answer : mg "Answer" = some (.ref C_Answer)
  C_Noughts : Addr
  m_Noughts : mg "Noughts" = some (.ref C_Noughts)
  C_Round : Addr
  m_Round : mg "Round" = some (.ref C_Round)
  C_Came : Addr
  m_Came : mg "Came" = some (.ref C_Came)
  C_Never : Addr
  m_Never : mg "Never" = some (.ref C_Never)
  c_Noughts : Cls K C_Noughts
  na_Noughts_steps : NoAttr K C_Noughts "steps"
  c_Round : Cls K C_Round
  na_Round_steps : NoAttr K C_Round "steps"
  na_Round_length : NoAttr K C_Round "length"
  na_Round_number : NoAttr K C_Round "number"
  c_Came : Cls K C_Came
  na_Came_ring : NoAttr K C_Came "ring"
  c_Never : Cls K C_Never
  P_Never : MkP K C_Never
  f_wall : Addr
  fd_wall : FuncData
  F_wall : Fun K "_wall" "_wall" s_wall f_wall fd_wall
  b_wall : Binds K fd_wall ["k"] []
  g_wall : mg "_wall" = some (.ref f_wall)
  f_is_whole : Addr
  fd_is_whole : FuncData
  F_is_whole : Fun K "is_whole" "is_whole" s_is_whole f_is_whole fd_is_whole
  b_is_whole : Binds K fd_is_whole ["thing"] []
  g_is_whole : mg "is_whole" = some (.ref f_is_whole)
  f_asked_ring : Addr
  fd_asked_ring : FuncData
  F_asked_ring : Fun K "asked_ring" "asked_ring" s_asked_ring f_asked_ring fd_asked_ring
  b_asked_ring : Binds K fd_asked_ring ["ring"] []
  g_asked_ring : mg "asked_ring" = some (.ref f_asked_ring)
  f_Noughts_init : Addr
  fd_Noughts_init : FuncData
  F_Noughts_init : Fun K "__init__" "Noughts.__init__" s_Noughts_init f_Noughts_init fd_Noughts_init
  b_Noughts_init : Binds K fd_Noughts_init ["self", "steps"] []
  M_Noughts : Mk K C_Noughts f_Noughts_init
  f_Noughts_shows : Addr
  fd_Noughts_shows : FuncData
  F_Noughts_shows : Fun K "shows" "Noughts.shows" s_Noughts_shows f_Noughts_shows fd_Noughts_shows
  b_Noughts_shows : Binds K fd_Noughts_shows ["self", "ring"] []
  h_Noughts_shows : Meth K C_Noughts "shows" f_Noughts_shows
  f_Round_init : Addr
  fd_Round_init : FuncData
  F_Round_init : Fun K "__init__" "Round.__init__" s_Round_init f_Round_init fd_Round_init
  b_Round_init : Binds K fd_Round_init ["self", "steps", "length", "number"] []
  M_Round : Mk K C_Round f_Round_init
  f_Round_shows : Addr
  fd_Round_shows : FuncData
  F_Round_shows : Fun K "shows" "Round.shows" s_Round_shows f_Round_shows fd_Round_shows
  b_Round_shows : Binds K fd_Round_shows ["self", "ring"] []
  h_Round_shows : Meth K C_Round "shows" f_Round_shows
  f_Came_init : Addr
  fd_Came_init : FuncData
  F_Came_init : Fun K "__init__" "Came.__init__" s_Came_init f_Came_init fd_Came_init
  b_Came_init : Binds K fd_Came_init ["self", "ring"] []
  M_Came : Mk K C_Came f_Came_init
  f_heaps_of : Addr
  fd_heaps_of : FuncData
  F_heaps_of : Fun K "heaps_of" "heaps_of" s_heaps_of f_heaps_of fd_heaps_of
  b_heaps_of : Binds K fd_heaps_of ["ring"] []
  g_heaps_of : mg "heaps_of" = some (.ref f_heaps_of)
  f_came : Addr
  fd_came : FuncData
  F_came : Fun K "came" "came" s_came f_came fd_came
  b_came : Binds K fd_came ["ring"] []
  g_came : mg "came" = some (.ref f_came)
  f_w_number : Addr
  fd_w_number : FuncData
  F_w_number : Fun K "_law_number" "_law_number" s_w_number f_w_number fd_w_number
  b_w_number : Binds K fd_w_number ["_law_cell", "_law_at", "_law_whole"] []
  g_w_number : mg "_law_number" = some (.ref f_w_number)
  f_w_ring : Addr
  fd_w_ring : FuncData
  F_w_ring : Fun K "_law_ring" "_law_ring" s_w_ring f_w_ring fd_w_ring
  b_w_ring : Binds K fd_w_ring ["_law_script", "_law_by"] []
  g_w_ring : mg "_law_ring" = some (.ref f_w_ring)
  f_w_step : Addr
  fd_w_step : FuncData
  F_w_step : Fun K "_law_step" "_law_step" s_w_step f_w_step fd_w_step
  b_w_step : Binds K fd_w_step ["_law_ring_here"] []
  g_w_step : mg "_law_step" = some (.ref f_w_step)
  f_w_even : Addr
  fd_w_even : FuncData
  F_w_even : Fun K "_law_even" "_law_even" s_w_even f_w_even fd_w_even
  b_w_even : Binds K fd_w_even ["_law_ring_here"] []
  g_w_even : mg "_law_even" = some (.ref f_w_even)
  f_w_right : Addr
  fd_w_right : FuncData
  F_w_right : Fun K "_law_right" "_law_right" s_w_right f_w_right fd_w_right
  b_w_right : Binds K fd_w_right ["_law_ring_here"] []
  g_w_right : mg "_law_right" = some (.ref f_w_right)
  f_law : Addr
  fd_law : FuncData
  F_law : Fun K "law" "law" s_law f_law fd_law
  b_law : Binds K fd_law ["_law_script"] []
  g_law : mg "law" = some (.ref f_law)
  cg : PySem.W.specialIn K (.builtin "object.__class__") "__get__" = some (some (.builtin "getset_descriptor.__get__"))
  ct : PySem.W.takesIn K (.builtin "object.__class__") = some true
  isC_Answer : PySem.W.isClsIn K C_Answer = true
  tyC_Answer : PySem.W.typeIn K (.ref C_Answer) = some (.type "type")
  su_Answer_Answer : PySem.W.subIn K (.ref C_Answer) (.ref C_Answer) = some true
  isC_Noughts : PySem.W.isClsIn K C_Noughts = true
  tyC_Noughts : PySem.W.typeIn K (.ref C_Noughts) = some (.type "type")
  su_Noughts_Noughts : PySem.W.subIn K (.ref C_Noughts) (.ref C_Noughts) = some true
  isC_Round : PySem.W.isClsIn K C_Round = true
  tyC_Round : PySem.W.typeIn K (.ref C_Round) = some (.type "type")
  su_Round_Round : PySem.W.subIn K (.ref C_Round) (.ref C_Round) = some true
  isC_Came : PySem.W.isClsIn K C_Came = true
  tyC_Came : PySem.W.typeIn K (.ref C_Came) = some (.type "type")
  su_Came_Came : PySem.W.subIn K (.ref C_Came) (.ref C_Came) = some true
  isC_Never : PySem.W.isClsIn K C_Never = true
  tyC_Never : PySem.W.typeIn K (.ref C_Never) = some (.type "type")
  su_Never_Never : PySem.W.subIn K (.ref C_Never) (.ref C_Never) = some true
  ic_Came : PySem.W.findIn K (.ref C_Came) "__class__" = some (some (.builtin "object.__class__"))
  mo_Came : PySem.W.mroIn K C_Came (.type "object") = some true
  su_Came_Answer : PySem.W.subIn K (.ref C_Came) (.ref C_Answer) = some true
  su_Came_Noughts : PySem.W.subIn K (.ref C_Came) (.ref C_Noughts) = some false
  su_Came_Round : PySem.W.subIn K (.ref C_Came) (.ref C_Round) = some false
  su_Came_Never : PySem.W.subIn K (.ref C_Came) (.ref C_Never) = some false
  ic_Never : PySem.W.findIn K (.ref C_Never) "__class__" = some (some (.builtin "object.__class__"))
  mo_Never : PySem.W.mroIn K C_Never (.type "object") = some true
  su_Never_Answer : PySem.W.subIn K (.ref C_Never) (.ref C_Answer) = some true
  su_Never_Noughts : PySem.W.subIn K (.ref C_Never) (.ref C_Noughts) = some false
  su_Never_Round : PySem.W.subIn K (.ref C_Never) (.ref C_Round) = some false
  su_Never_Came : PySem.W.subIn K (.ref C_Never) (.ref C_Came) = some false
theorem ty_Came {K : PySem.W.Frag} {mg : Str → Option Value} (T : Txt K mg) {H : Hp} {x dx : Addr} {fs : List (Str × V)} (h : H x = some (.ins T.C_Came dx fs)) : TyX K H (.ref x) (.ref T.C_Came) :=
  .base (.ins h T.c_Came T.ic_Came T.cg T.ct T.mo_Came)
theorem kit_Came_Answer {K : PySem.W.Frag} {mg : Str → Option Value} (T : Txt K mg) : PySem.W.kitOne K (.ref T.C_Came) (.ref T.C_Answer) = some true :=
  kit_own T.isC_Answer T.tyC_Answer T.su_Came_Answer T.su_Answer_Answer
theorem kit_Came_Noughts {K : PySem.W.Frag} {mg : Str → Option Value} (T : Txt K mg) : PySem.W.kitOne K (.ref T.C_Came) (.ref T.C_Noughts) = some false :=
  kit_own T.isC_Noughts T.tyC_Noughts T.su_Came_Noughts T.su_Noughts_Noughts
theorem kit_Came_Round {K : PySem.W.Frag} {mg : Str → Option Value} (T : Txt K mg) : PySem.W.kitOne K (.ref T.C_Came) (.ref T.C_Round) = some false :=
  kit_own T.isC_Round T.tyC_Round T.su_Came_Round T.su_Round_Round
theorem kit_Came_Came {K : PySem.W.Frag} {mg : Str → Option Value} (T : Txt K mg) : PySem.W.kitOne K (.ref T.C_Came) (.ref T.C_Came) = some true :=
  kit_own T.isC_Came T.tyC_Came T.su_Came_Came T.su_Came_Came
theorem kit_Came_Never {K : PySem.W.Frag} {mg : Str → Option Value} (T : Txt K mg) : PySem.W.kitOne K (.ref T.C_Came) (.ref T.C_Never) = some false :=
  kit_own T.isC_Never T.tyC_Never T.su_Came_Never T.su_Never_Never
theorem ty_Never {K : PySem.W.Frag} {mg : Str → Option Value} (T : Txt K mg) {H : Hp} {x dx : Addr} {fs : List (Str × V)} (h : H x = some (.ins T.C_Never dx fs)) : TyX K H (.ref x) (.ref T.C_Never) :=
  .base (.ins h T.c_Never T.ic_Never T.cg T.ct T.mo_Never)
theorem kit_Never_Answer {K : PySem.W.Frag} {mg : Str → Option Value} (T : Txt K mg) : PySem.W.kitOne K (.ref T.C_Never) (.ref T.C_Answer) = some true :=
  kit_own T.isC_Answer T.tyC_Answer T.su_Never_Answer T.su_Answer_Answer
theorem kit_Never_Noughts {K : PySem.W.Frag} {mg : Str → Option Value} (T : Txt K mg) : PySem.W.kitOne K (.ref T.C_Never) (.ref T.C_Noughts) = some false :=
  kit_own T.isC_Noughts T.tyC_Noughts T.su_Never_Noughts T.su_Noughts_Noughts
theorem kit_Never_Round {K : PySem.W.Frag} {mg : Str → Option Value} (T : Txt K mg) : PySem.W.kitOne K (.ref T.C_Never) (.ref T.C_Round) = some false :=
  kit_own T.isC_Round T.tyC_Round T.su_Never_Round T.su_Round_Round
theorem kit_Never_Came {K : PySem.W.Frag} {mg : Str → Option Value} (T : Txt K mg) : PySem.W.kitOne K (.ref T.C_Never) (.ref T.C_Came) = some false :=
  kit_own T.isC_Came T.tyC_Came T.su_Never_Came T.su_Came_Came
theorem kit_Never_Never {K : PySem.W.Frag} {mg : Str → Option Value} (T : Txt K mg) : PySem.W.kitOne K (.ref T.C_Never) (.ref T.C_Never) = some true :=
  kit_own T.isC_Never T.tyC_Never T.su_Never_Never T.su_Never_Never
section
variable {P : Program} {w : World} {K : PySem.W.Frag} {mg : Str → Option Value} {base : Heap}
/-! ### is_whole, asked_ring, stepped, step (where nothing is refused) -/
def spWhole (K : PySem.W.Frag) : Sp := fun vs H Q _ => ∃ (v : V) (t : Value) (b1 b2 : Bool), vs = [v] ∧ TyX K H v t ∧ PySem.W.kitOne K t (.type "int") = some b1 ∧ PySem.W.kitOne K t (.type "bool") = some b2 ∧ Q (.bl (b1 && !b2)) H
theorem ok_is_whole (T : Txt K mg) : FnOk P w K mg base CX0 1 T.f_is_whole T.fd_is_whole ["thing"] (spWhole K) := by
  refine T.F_is_whole.ok sc_is_whole (fun vs H Q E h => ?_) (fun cdv A outer s H vs Q E hr h => ?_)
  · obtain ⟨v, t, b1, b2, rfl, _⟩ := h
    rfl
  · obtain ⟨v, t, b1, b2, rfl, ty, k1, k2, q⟩ := h
    refine ⟨_, (pss_one (ps_ret (pe_and (pe_callB (r := rIsi K) call_isi (by rfl) T.n_isinstance (by decide +kernel) (pa_cons (pv 0) (pa_cons (pe_bltn (v := .ty "int") (by rfl) T.n_int (by decide +kernel) rfl) pa_nil))) (pe_one (pe_not (pe_callB (r := rIsi K) call_isi (by rfl) T.n_isinstance (by decide +kernel) (pa_cons (pv 0) (pa_cons (pe_bltn (v := .ty "bool") (by rfl) T.n_bool (by decide +kernel) rfl) pa_nil)))))))), ?_⟩
    refine ⟨v, rfl, v, .ty "int", t, _, b1, rfl, .ty _, ty, k1, b1, rfl, ?_⟩
    cases b1 with
    | true => exact ⟨v, rfl, v, .ty "bool", t, _, b2, rfl, .ty _, ty, k2, b2, rfl, q⟩
    | false => exact q
theorem whole_int {K : PySem.W.Frag} {H : Hp} {i : Int} {Q : VK} {E : XK} (q : Q (.bl true) H) : spWhole K [.int i] H Q E :=
  ⟨.int i, .type "int", true, false, rfl, .base (.int i), kit_ty (by decide +kernel), kit_ty (by decide +kernel), q⟩
def spAsked (K : PySem.W.Frag) : Sp := fun vs H Q _ => ∃ (a : Addr) (ns : List Int), vs = [.ref a] ∧ SqL K H a (ns.map V.int) ∧ Ring ns ∧ RetV .non H Q
theorem ok_asked_ring (T : Txt K mg) : FnOk P w K mg base CX0 2 T.f_asked_ring T.fd_asked_ring ["ring"] (spAsked K) := by
  refine T.F_asked_ring.ok sc_asked_ring (fun vs H Q E h => ?_) (fun cdv A outer s H vs Q E hr h => ?_)
  · obtain ⟨a, ns, rfl, _⟩ := h
    rfl
  · obtain ⟨a, ns, rfl, hS, hR, q⟩ := h
    refine ⟨_, (pss_cons (ps_if (PW.pt (pw_or (pt_not (pt_val (pe_callB (r := rIsi K) call_isi (by rfl) T.n_isinstance (by decide +kernel) (pa_cons (pv 0) (pa_cons (pe_bltn (v := .ty "list") (by rfl) T.n_list (by decide +kernel) rfl) pa_nil))))) (pw_or (pt_not (pt_chain op_le op_le pe_int (pe_callB (r := rLenS K) call_len_seq (by rfl) T.n_len (by decide +kernel) (pa_cons (pv 0) pa_nil)) (pe_glob (v := .int 12) rfl T.m_LONGEST ⟨_, rfl⟩))) (pw_or1 (pt_not (pt_val (pe_callB (r := rAll K) (cr_all rfl) (by rfl) T.n_all (by decide +kernel) (pa_cons (pe_lc (own := [("one", 1)]) (g := (gName 1)) (tt := tYes) (by rfl) sc_asked_ring.nd (pi_list (pv 0)) (blkOk_by (own := [("one", 1)]) (N := ["ring", "one"]) (sc := defScope s_asked_ring) (by decide +kernel)) (fun _ _ _ _ _ => (pg_name (i := 1) sc_asked_ring.nd rfl (Or.inl rfl))) (fun _ _ _ _ _ => pts_nil) (fun _ _ _ _ _ => (pe_call (ok_is_whole T) (hr.mono (by decide)) (by rfl) T.g_is_whole T.F_is_whole.kp T.b_is_whole .nil pass0 (pa_cons (pv 1) pa_nil)))) pa_nil))))))))
        (pss_one ps_never)
        pss_nil)
      (pss_one (ps_if (pt_not (pt_val (pe_callB (r := rAll K) (cr_all rfl) (by rfl) T.n_all (by decide +kernel) (pa_cons (pe_lc (own := [("one", 1)]) (g := (gName 1)) (tt := tYes) (by rfl) sc_asked_ring.nd (pi_list (pv 0)) (blkOk_by (own := [("one", 1)]) (N := ["ring", "one"]) (sc := defScope s_asked_ring) (by decide +kernel)) (fun _ _ _ _ _ => (pg_name (i := 1) sc_asked_ring.nd rfl (Or.inl rfl))) (fun _ _ _ _ _ => pts_nil) (fun _ _ _ _ _ => (pe_chain op_le op_le pe_int (pv 1) (pe_glob (v := .int 200) rfl T.m_GREATEST ⟨_, rfl⟩)))) pa_nil))))
        (pss_one ps_never)
        pss_nil))), ?_⟩
    have hl : (ns.map V.int).length ≤ 40000 := by rw [List.length_map]; have := hR.few; omega
    refine q_when (b := false) (et_is (et_or (a := false) (b := false) (et_is (et_not (et_B (ev_isi (b := true) (ev_var rfl) (tyL hS) (.ty _) (kit_ty (by decide +kernel))))) rfl) fun _ =>
      et_or (a := false) (b := false) (et_is (et_not (et_test (ev_chain (k := true) (k' := true) ev_c (ev_len (ev_var rfl) hS) ?h1 ev_c ?h2))) rfl) fun _ =>
      et_is (et_not (et_B (ev_allEach (ev_var rfl) hS hl (fun _ => rfl) ?h3))) rfl) rfl) (fun z => nomatch z) fun _ H1 e1 => ?_
    case h1 =>
      have := hR.pos
      have e : decide ((1 : Int) ≤ ((ns.map V.int).length : Int)) = true := decide_eq_true (by rw [List.length_map]; omega)
      rw [← e]
      exact rv_I0
    case h2 =>
      have := hR.few
      have e : decide (((ns.map V.int).length : Int) ≤ (12 : Int)) = true := decide_eq_true (by rw [List.length_map]; omega)
      rw [← e]
      exact rv_I0
    case h3 =>
      intro i x H1 _ hi
      obtain ⟨n, _, rfl⟩ := map_get hi
      intro H2 _ Q' q'
      exact ⟨.int n, rfl, whole_int (E := E0) (q' H2 (Ex.refl _))⟩
    refine s_when (b := false) (et_is (et_not (et_B (ev_allEach (ev_var rfl) (ex_l e1 hS) hl (fun _ => rfl) ?h4))) rfl) (fun z => nomatch z) fun _ H2 e2 => q H2 (e1.trans e2)
    case h4 =>
      intro i x H1 _ hi
      obtain ⟨n, hn, rfl⟩ := map_get hi
      have hb := hR.bd n (List.mem_of_getElem? hn)
      have g1 : decide ((0 : Int) ≤ n) = true := decide_eq_true hb.1
      have g2 : decide (n ≤ (200 : Int)) = true := decide_eq_true hb.2
      refine ev_is (ev_chain (k := true) (k' := true) ev_c (ev_var rfl) ?_ ev_c ?_) rfl
      · rw [← g1]
        exact rv_I0
      · rw [← g2]
        exact rv_I0
end
section
variable {P : Program} {w : World} {K : PySem.W.Frag} {mg : Str → Option Value} {base : Heap}
/-! ### stepped -/
def spStepped (K : PySem.W.Frag) : Sp := fun vs H Q _ => ∃ (a : Addr) (ns : List Int), vs = [.ref a] ∧ SqL K H a (ns.map V.int) ∧ 1 ≤ ns.length ∧ ns.length ≤ 1000 ∧ RetL ((RD.D ns).map V.int) H Q
theorem cut_lo (xs : List V) (h : 1 ≤ xs.length) : cutV xs (some 1) none = xs.drop 1 := by
  unfold cutV
  rw [show HT.sIx xs.length 0 (some 1) = min 1 xs.length from HT.sIx_nat xs.length 0 1, HT.sIx_none, show min 1 xs.length = 1 by omega, List.take_of_length_le (by rw [List.length_drop]; omega)]
theorem cut_hi (xs : List V) (k : Nat) : cutV xs none (some (k : Int)) = xs.take k := by
  unfold cutV
  rw [HT.sIx_none, HT.sIx_nat, List.drop_zero, Nat.sub_zero]
  by_cases hk : k ≤ xs.length
  · rw [Nat.min_eq_left hk]
  · rw [Nat.min_eq_right (by omega), List.take_of_length_le (Nat.le_refl _), List.take_of_length_le (by omega)]
theorem next_get {ns : List Int} {i : Nat} (hi : i < ns.length) : (ns.drop 1 ++ ns.take 1)[i]? = some (RD.ev ns (i + 1)) := by
  by_cases h : i + 1 < ns.length
  · rw [List.getElem?_append_left (by rw [List.length_drop]; omega), List.getElem?_drop, Nat.add_comm 1 i]
    exact RD.ev_lt h
  · have e : i + 1 = ns.length := by omega
    rw [List.getElem?_append_right (by rw [List.length_drop]; omega), List.length_drop, show i - (ns.length - 1) = 0 by omega, List.getElem?_take, if_pos (by decide)]
    have e2 : RD.ev ns (i + 1) = RD.ev ns 0 := by
      unfold RD.ev
      rw [e, Nat.mod_self, Nat.zero_mod]
    rw [e2]
    exact RD.ev_lt (by omega)
theorem abs_dst (a b : Int) : (if a - b < 0 then -(a - b) else a - b) = RD.dst a b := by
  unfold RD.dst
  split <;> omega
def spStep (K : PySem.W.Frag) : Sp := fun vs H Q _ => ∃ (a : Addr) (ns : List Int), vs = [.ref a] ∧ SqL K H a (ns.map V.int) ∧ Ring ns ∧ RetL ((RD.D ns).map V.int) H Q
theorem el_step {σ : L2.St} {H : Hp} {ta : TE} {ns : List Int} {E : XK} (ha : EvI K ta σ H ns) (hR : Ring ns) : EvL (tCall (spStep K) [] E (tCons ta tNil)) σ H ((RD.D ns).map V.int) := fun H1 e Q q =>
  ha H1 e _ fun p H2 e2 hp => ⟨p, ns, rfl, hp, hR, fun r H3 nr e3 hr => q r H3 (fresh_back e2 nr) (e2.trans e3) hr⟩
theorem el_stepped {σ : L2.St} {H : Hp} {ta : TE} {ns : List Int} {E : XK} (ha : EvI K ta σ H ns) (hR : Ring ns) : EvL (tCall (spStepped K) [] E (tCons ta tNil)) σ H ((RD.D ns).map V.int) := fun H1 e Q q =>
  ha H1 e _ fun p H2 e2 hp => ⟨p, ns, rfl, hp, hR.pos, by have := hR.few; omega, fun r H3 nr e3 hr => q r H3 (fresh_back e2 nr) (e2.trans e3) hr⟩
end
section
variable {P : Program} {w : World} {K : PySem.W.Frag} {mg : Str → Option Value} {base : Heap}
/-! ### Came: the list copied -/
def fsC (c : Addr) : List (Str × V) := putF "ring" (.ref c) []
theorem fsC_r (c : Addr) : (fsC c).lookup ("ring" : Str) = some (.ref c) := by
  unfold fsC
  rw [lookup_putF, if_pos rfl]
def spCI (K : PySem.W.Frag) (C : Addr) : Sp := fun vs H Q _ => ∃ (p dx a : Addr) (ns : List Int), vs = [.ref p, .ref a] ∧ H p = some (.ins C dx []) ∧ SqL K H a (ns.map V.int) ∧ ∀ c, H c = none → Q .non (upd (upd H c (.lst (ns.map V.int))) p (.ins C dx (fsC c)))
theorem ok_Came_init (T : Txt K mg) : FnOk P w K mg base CX0 1 T.f_Came_init T.fd_Came_init ["self", "ring"] (spCI K T.C_Came) := by
  refine T.F_Came_init.ok sc_Came_init (fun vs H Q E h => ?_) (fun cdv A outer s H vs Q E hr h => ?_)
  · obtain ⟨p, dx, a, ns, rfl, _⟩ := h
    rfl
  · obtain ⟨p, dx, a, ns, rfl, hp, hS, q⟩ := h
    refine ⟨_, (pss_one (ps_fld (pv 0) (pe_callTy (r := rListS K) call_list_of (by rfl) T.n_list (by decide +kernel) (pa_cons (pv 1) pa_nil)) rfl)), ?_⟩
    refine ⟨.ref a, rfl, a, _, rfl, .inl hS, fun c nc => ?_⟩
    have hpc : p ≠ c := ne_of_none hp nc
    exact ⟨.ref p, rfl, p, _, dx, [], rfl, by rw [upd_ne hpc]; exact hp, T.c_Came, T.na_Came_ring, by show 0 < 1000; decide, q c nc⟩
/-- a Came at v whose list, at c, holds ns -/
def IsCm (T : Txt K mg) (H : Hp) (v : V) (c : Addr) (ns : List Int) : Prop := ∃ x dx, v = .ref x ∧ H x = some (.ins T.C_Came dx (fsC c)) ∧ H c = some (.lst (ns.map V.int)) ∧ x ≠ c
theorem IsCm.ex {T : Txt K mg} {H H' : Hp} {v : V} {c : Addr} {ns : List Int} (e : Ex H H') (h : IsCm T H v c ns) : IsCm T H' v c ns := by
  obtain ⟨x, dx, rfl, h1, h2, h3⟩ := h
  exact ⟨x, dx, rfl, e _ _ h1, e _ _ h2, h3⟩
def EvCm (T : Txt K mg) (te : TE) (σ : L2.St) (H : Hp) (ns : List Int) : Prop := ∀ H1, Ex H H1 → ∀ Q : VK, (∀ v c H2, H1 c = none → Ex H1 H2 → IsCm T H2 v c ns → Q v H2) → te σ H1 Q
theorem ecm_C {T : Txt K mg} {σ : L2.St} {H : Hp} {ta : TE} {ns : List Int} {E : XK} (ha : EvI K ta σ H ns) : EvCm T (tMake T.C_Came (spCI K T.C_Came) [] E (tCons ta tNil)) σ H ns := fun H1 e Q q =>
  ha H1 e _ fun a H2 e2 hp x dx nx nd ne => by
    have e3 : Ex H2 (upd (upd H2 dx (.own x)) x (.ins T.C_Came dx [])) := fun b u eb => by
      rw [upd_ne (ne_of_none eb nx), upd_ne (ne_of_none eb nd)]
      exact eb
    refine ⟨x, dx, a, ns, rfl, upd_same, ex_l e3 hp, fun c nc => ⟨rfl, ?_⟩⟩
    obtain ⟨nc1, ncx⟩ := upd_fresh nc
    obtain ⟨nc2, ncd⟩ := upd_fresh nc1
    have e4 := e3.trans (Ex.new (o := .lst (ns.map V.int)) nc)
    refine q (.ref x) c _ (fresh_back e2 nc2) (e2.trans (Ex.mut e4 nx)) ⟨x, dx, rfl, upd_same, ?_, ncx.symm⟩
    rw [upd_ne ncx]
    exact upd_same
theorem ei_ring {T : Txt K mg} {σ : L2.St} {H : Hp} {i : Nat} {v : V} {c : Addr} {ns : List Int} (h : σ[i]? = some (some v)) (hc : IsCm T H v c ns) : EvI K (tFld K (tVar i) "ring") σ H ns := fun H1 e Q q => by
  obtain ⟨x, dx, rfl, h1, h2, h3⟩ := hc.ex e
  exact ⟨_, h, x, _, dx, _, _, rfl, h1, T.c_Came, T.na_Came_ring, fsC_r _, q _ H1 (Ex.refl _) (sq_of h2)⟩
theorem q_cm {T : Txt K mg} {σ : L2.St} {H : Hp} {D : Ends} {tz : TS} {te : TE} {i : Nat} {ns : List Int} (h : EvCm T te σ H ns) (k : ∀ v c H1, H c = none → Ex H H1 → IsCm T H1 v c ns → tz D (σ.set i (some v)) H1) : tSeq (tAsg te (gName i)) tz D σ H :=
  h H (Ex.refl _) _ fun v c H1 nc e hv => k v c H1 nc e hv
end
section
variable {P : Program} {w : World} {K : PySem.W.Frag} {mg : Str → Option Value} {base : Heap}
/-! ### heaps_of: signs by which all come to 0 together -/
abbrev kI (t : Int) : Key := Sum.inl t
/-- the dict behind i numbers: its keys are the sums that signs bring about -/
structure KS (ns : List Int) (i : Nat) (kv : List (Key × V)) : Prop where
  has : ∀ t, (valV kv (kI t)).isSome = true ↔ RD.Sg (ns.take i) t
  val : ∀ j x t v, i = j + 1 → ns[j]? = some x → valV kv (kI t) = some v → ∃ s, (s = 1 ∨ s = -1) ∧ v = .int s ∧ RD.Sg (ns.take j) (t - s * x)
  few : kv.length ≤ 2 ^ i
  ky : ∀ p, p ∈ kv → ∃ t, p.1 = kI t
theorem ks_zero (ns : List Int) : KS ns 0 [(kI 0, V.non)] := by
  refine ⟨fun t => ?_, fun j x t v h => (by omega), Nat.le_refl _, fun p hp => ⟨0, by rw [List.mem_singleton.mp hp]⟩⟩
  rw [List.take_zero, RD.sg_nil]
  by_cases h : t = 0
  · rw [h]
    exact ⟨fun _ => rfl, fun _ => rfl⟩
  · have e : valV [(kI 0, V.non)] (kI t) = none := by
      rw [valV_neg (show ¬ (kI 0 = kI t) from fun z => h (Sum.inl.inj z).symm)]
      rfl
    rw [e]
    exact ⟨fun z => (by cases z), fun z => absurd z h⟩
theorem key_at {kv : List (Key × V)} {k : Key} : (valV kv k).isSome = true ↔ ∃ (i : Nat) (v : V), kv[i]? = some (k, v) := by
  rw [← valV_any]
  constructor
  · intro h
    obtain ⟨p, hp, e⟩ := List.any_eq_true.mp h
    obtain ⟨i, hi, ei⟩ := List.getElem_of_mem hp
    refine ⟨i, p.2, ?_⟩
    rw [List.getElem?_eq_getElem hi, ei, ← of_decide_eq_true e]
  · rintro ⟨i, v, h⟩
    exact List.any_eq_true.mpr ⟨_, List.mem_of_getElem? h, decide_eq_true rfl⟩
/-- what the inner loop has put behind j keys -/
structure MP (kv : List (Key × V)) (x : Int) (j : Nat) (m : List (Key × V)) : Prop where
  has : ∀ t, (valV m (kI t)).isSome = true ↔ ∃ (i : Nat) (t' : Int) (v : V), i < j ∧ kv[i]? = some (kI t', v) ∧ (t = t' + x ∨ t = t' - x)
  val : ∀ t v, valV m (kI t) = some v → ∃ s, (s = 1 ∨ s = -1) ∧ v = .int s ∧ (valV kv (kI (t - s * x))).isSome = true
  few : m.length ≤ 2 * j
  ky : ∀ p, p ∈ m → ∃ t, p.1 = kI t
theorem mp_zero (kv : List (Key × V)) (x : Int) : MP kv x 0 [] := ⟨fun t => ⟨fun z => (by cases z), fun ⟨i, _, _, hi, _⟩ => absurd hi (Nat.not_lt_zero _)⟩, fun t v z => (by cases z), Nat.le_refl _, fun p hp => (by cases hp)⟩
theorem mem_putK {kv : List (Key × V)} {k : Key} {v : V} {p : Key × V} (h : p ∈ putK kv k v) : p.1 = k ∨ p ∈ kv := by
  unfold putK at h
  split at h
  · obtain ⟨q, hq, e⟩ := List.mem_map.mp h
    split at e
    · rename_i hk
      rw [← e]
      exact .inl hk
    · rw [← e]
      exact .inr hq
  · rcases List.mem_append.mp h with h | h
    · exact .inr h
    · rw [List.mem_singleton.mp h]
      exact .inl rfl
theorem mp_succ {kv m : List (Key × V)} {x t : Int} {j : Nat} {v : V} (h : MP kv x j m) (hj : kv[j]? = some (kI t, v)) : MP kv x (j + 1) (putK (putK m (kI (t + x)) (.int 1)) (kI (t - x)) (.int (-1))) := by
  have hk : (valV kv (kI t)).isSome = true := key_at.mpr ⟨j, v, hj⟩
  have ki : ∀ {a b : Int}, kI a = kI b ↔ a = b := ⟨Sum.inl.inj, fun e => by rw [e]⟩
  refine ⟨fun u => ?_, fun u w hw => ?_, ?_, fun p hp => ?_⟩
  · rw [valV_put, valV_put]
    constructor
    · intro z
      by_cases h1 : kI u = kI (t - x)
      · exact ⟨j, t, v, by omega, hj, .inr (ki.mp h1)⟩
      · rw [if_neg h1] at z
        by_cases h2 : kI u = kI (t + x)
        · exact ⟨j, t, v, by omega, hj, .inl (ki.mp h2)⟩
        · rw [if_neg h2] at z
          obtain ⟨i, t', v', h3, h4, h5⟩ := (h.has u).mp z
          exact ⟨i, t', v', by omega, h4, h5⟩
    · rintro ⟨i, t', v', h3, h4, h5⟩
      by_cases h1 : kI u = kI (t - x)
      · rw [if_pos h1]
        rfl
      · rw [if_neg h1]
        by_cases h2 : kI u = kI (t + x)
        · rw [if_pos h2]
          rfl
        · rw [if_neg h2]
          by_cases h6 : i = j
          · rw [h6, hj] at h4
            have e := Option.some.inj h4
            have e1 : t = t' := ki.mp (congrArg Prod.fst e)
            rw [← e1] at h5
            rcases h5 with h5 | h5
            · exact absurd (by rw [h5]) h2
            · exact absurd (by rw [h5]) h1
          · exact (h.has u).mpr ⟨i, t', v', by omega, h4, h5⟩
  · rw [valV_put, valV_put] at hw
    by_cases h1 : kI u = kI (t - x)
    · rw [if_pos h1] at hw
      refine ⟨-1, .inr rfl, (Option.some.inj hw).symm, ?_⟩
      rw [ki.mp h1, show t - x - -1 * x = t by omega]
      exact hk
    · rw [if_neg h1] at hw
      by_cases h2 : kI u = kI (t + x)
      · rw [if_pos h2] at hw
        refine ⟨1, .inl rfl, (Option.some.inj hw).symm, ?_⟩
        rw [ki.mp h2, show t + x - 1 * x = t by omega]
        exact hk
      · rw [if_neg h2] at hw
        exact h.val u w hw
  · have h1 := length_putK (putK m (kI (t + x)) (.int 1)) (kI (t - x)) (.int (-1))
    have h2 := length_putK m (kI (t + x)) (.int 1)
    have h3 := h.few
    omega
  · rcases mem_putK hp with e | hp
    · exact ⟨_, e⟩
    · rcases mem_putK hp with e | hp
      · exact ⟨_, e⟩
      · exact h.ky p hp
theorem ks_succ {ns : List Int} {i : Nat} {x : Int} {kv m : List (Key × V)} (hx : ns[i]? = some x) (h : KS ns i kv) (hm : MP kv x kv.length m) : KS ns (i + 1) m := by
  refine ⟨fun t => ?_, fun j y t v hj hy hv => ?_, ?_, hm.ky⟩
  · rw [RD.take_snoc hx, RD.sg_snoc, hm.has]
    constructor
    · rintro ⟨k, t', v, _, hk, e | e⟩
      · exact .inl ((h.has _).mp (key_at.mpr ⟨k, v, by rw [show t - x = t' by omega]; exact hk⟩))
      · exact .inr ((h.has _).mp (key_at.mpr ⟨k, v, by rw [show t + x = t' by omega]; exact hk⟩))
    · rintro (z | z)
      · obtain ⟨k, v, hk⟩ := key_at.mp ((h.has _).mpr z)
        exact ⟨k, _, v, (List.getElem?_eq_some_iff.mp hk).1, hk, .inl (by omega)⟩
      · obtain ⟨k, v, hk⟩ := key_at.mp ((h.has _).mpr z)
        exact ⟨k, _, v, (List.getElem?_eq_some_iff.mp hk).1, hk, .inr (by omega)⟩
  · have ej : i = j := by omega
    subst ej
    rw [hx] at hy
    cases hy
    obtain ⟨s, h1, h2, h3⟩ := hm.val t v hv
    exact ⟨s, h1, h2, (h.has _).mp h3⟩
  · have h1 := hm.few
    have h2 := h.few
    rw [Nat.pow_succ]
    omega
/-- what heaps_of hands back -/
def RetH (ns : List Int) (H : Hp) (Q : VK) : Prop := (¬ RD.Sg ns 0 → ∀ H2, Ex H H2 → Q .non H2) ∧ (∀ ss : List Int, ss.length = ns.length → RD.Sgn ss → RD.dot ss ns = 0 → RetL (ss.map V.int) H Q)
def spHeaps (K : PySem.W.Frag) : Sp := fun vs H Q _ => ∃ (a : Addr) (ns : List Int), vs = [.ref a] ∧ SqL K H a (ns.map V.int) ∧ Ring ns ∧ RetH ns H Q
theorem ok_heaps_of (T : Txt K mg) : FnOk P w K mg base CX0 1 T.f_heaps_of T.fd_heaps_of ["ring"] (spHeaps K) := by
  refine T.F_heaps_of.ok sc_heaps_of (fun vs H Q E h => ?_) (fun cdv A outer s H vs Q E hr h => ?_)
  · obtain ⟨a, ns, rfl, _⟩ := h
    rfl
  · obtain ⟨a, ns, rfl, hS, hR, q1, q2⟩ := h
    have hu := hu_of hr
    have hfew := hR.few
    have hpos := hR.pos
    refine ⟨_, (pss_cons (ps_set (i := 1) sc_heaps_of.nd rfl (Or.inl rfl) (pe_lst (pa_cons (pe_disp (pps_cons pe_int pe_non pps_nil) (by rfl) (by rfl) (fun z => by cases z) (by decide)) pa_nil)))
      (pss_cons (ps_for PassesOwn.never rfl (pi_list (pv 0)) (pg_name (i := 2) sc_heaps_of.nd rfl (Or.inl rfl))
        (pss_cons (ps_set (i := 3) sc_heaps_of.nd rfl (Or.inl rfl) pe_dnewK)
        (pss_cons (ps_lock (ps_for PassesOwn.never rfl (pi_keys (pe_ix (r := rIxL K) ix_list (pv 1) (pe_un un_neg pe_int) (fun _ _ => rfl))) (pg_name (i := 4) sc_heaps_of.nd rfl (Or.inl rfl))
          (pss_cons (ps_dput hu (pv 3) (pe_op op_add (pv 4) (pv 2)) pe_int rfl)
          (pss_one (ps_dput hu (pv 3) (pe_op op_sub (pv 4) (pv 2)) (pe_un un_neg pe_int) rfl)))))
        (pss_one (ps_expr (pe_bm PySem.F.plainAttrs_list PySem.F.slot_list_append PySem.F.type_list_append mt_append (pv 1) (pa_cons (pv 3) pa_nil)))))))
      (pss_cons (ps_if (pt_cmp (pc_dnotin hu pe_int (pe_ix (r := rIxL K) ix_list (pv 1) (pe_un un_neg pe_int) (fun _ _ => rfl))))
        (pss_one (ps_ret pe_non))
        pss_nil)
      (pss_cons (ps_par (i := 5) (j := 4) (by rfl) sc_heaps_of.nd rfl rfl (by decide) rfl rfl (pa_cons (pe_lst pa_nil) (pa_cons pe_int pa_nil)) (by rfl))
      (pss_cons (ps_for PassesOwn.never rfl (pi_range3 (by rfl) T.n_range (pa_cons (pe_callB (r := rLenS K) call_len_seq (by rfl) T.n_len (by decide +kernel) (pa_cons (pv 0) pa_nil)) (pa_cons pe_int (pa_cons (pe_un un_neg pe_int) pa_nil)))) (pg_name (i := 6) sc_heaps_of.nd rfl (Or.inl rfl))
        (pss_cons (ps_set (i := 7) sc_heaps_of.nd rfl (Or.inl rfl) (pe_dget hu (pe_ix (r := rIxL K) ix_list (pv 1) (pv 6) (fun _ _ => rfl)) (pv 4) (fun _ _ => rfl)))
        (pss_cons (ps_expr (pe_bm PySem.F.plainAttrs_list PySem.F.slot_list_append PySem.F.type_list_append mt_append (pv 5) (pa_cons (pv 7) pa_nil)))
        (pss_one (ps_set (i := 4) sc_heaps_of.nd rfl (Or.inl rfl) (pe_op op_sub (pv 4) (pe_op op_mul (pv 7) (pe_ix (r := rIxL K) ix_list (pv 0) (pe_op op_sub (pv 6) pe_int) (fun _ _ => rfl)))))))))
      (pss_one (ps_ret (pe_revL (pv 5))))))))), ?_⟩
    -- sums = [{0: None}]
    intro d0 nd0
    refine ⟨upd_same, [(kI 0, .non)], rfl, by decide, sz_of (by show 1 ≤ 100000; decide), fun S nS => ?_⟩
    rw [upd_upd] at nS ⊢
    have eD := Ex.new (o := .dK (mergeK [] [(kI 0, V.non)])) nd0
    have eS := Ex.new (o := .lst [V.ref d0]) nS
    have nSH : H S = none := fresh_back eD nS
    -- for one in ring
    refine ⟨.ref a, rfl, a, rfl, ⟨_, ex_l (eD.trans eS) hS⟩, for_list (K := K) (a := a) (xs := ns.map V.int) (fun i σ' H' => ∃ (ds : List Addr) (x2 x3 x4 : Option V), σ' = [some (.ref a), some (.ref S), x2, x3, x4, none, none, none] ∧ Ex H H' ∧ H' S = some (.lst (ds.map V.ref)) ∧ ds.length = i + 1 ∧
        ∀ (j : Nat) d, ds[j]? = some d → ∃ kv, H' d = some (.dK kv) ∧ KS ns j kv) ?_ (fun i σ' H' _ ⟨_, _, _, _, _, e, _⟩ => ex_l e hS) ?_ ?_⟩
    · refine ⟨[d0], none, none, none, rfl, eD.trans eS, upd_same, rfl, fun j d hj => ?_⟩
      match j, hj with
      | 0, hj =>
        cases hj
        exact ⟨_, eS _ _ upd_same, ks_zero ns⟩
    · rintro i y σ' H1 hi ⟨ds, x2, x3, x4, rfl, e1, hS1, hl, hds⟩
      obtain ⟨x, hx, rfl⟩ := map_get hi
      have hil := get_lt hx
      -- more = {}
      intro M nM
      have eM := Ex.new (o := .dK []) nM
      have nMH : H M = none := fresh_back e1 nM
      have hdl : i < ds.length := by omega
      obtain ⟨kv, hkv, hKS⟩ := hds i ds[i] (List.getElem?_eq_getElem hdl)
      generalize hd' : ds[i] = d at hkv
      have hdM : M ≠ d := (ne_of_none hkv nM).symm
      have hSd : S ≠ d := ne_of hS1 hkv (fun z => by cases z)
      have hSM : S ≠ M := ne_of_none hS1 nM
      have h16 : kv.length ≤ 4096 := by
        have h1 := hKS.few
        have h2 : 2 ^ i ≤ 2 ^ 12 := Nat.pow_le_pow_right (by decide) (by omega)
        have h3 : (2 : Nat) ^ 12 = 4096 := by decide
        omega
      -- for total in sums[-1], locked
      refine ⟨d, .dK kv, by rw [upd_ne hdM.symm]; exact hkv, trivial, fun od => ?_⟩
      have hlast : atI (ds.map V.ref) (-1) = some (V.ref d) := by
        have hne : ds ≠ [] := fun z => by
          rw [z] at hdl
          exact absurd hdl (Nat.not_lt_zero _)
        have hz : ds.map V.ref = (ds.dropLast.map V.ref) ++ [V.ref (ds.getLast hne)] := by
          rw [← List.map_singleton, ← List.map_append, List.dropLast_concat_getLast]
        rw [hz, atI_last, List.getLast_eq_getElem, ← hd']
        congr 2
        congr 1
        omega
      have hHl : ∀ o, upd (upd (upd H1 M o) d (.frz od (.dK kv))) S = upd (upd (upd H1 M o) d (.frz od (.dK kv))) S := fun _ => rfl
      have hcomm : ∀ o, upd (upd H1 M o) d (.frz od (.dK kv)) = upd (upd H1 d (.frz od (.dK kv))) M o := fun o => by
        funext b
        by_cases b1 : b = d
        · rw [b1, upd_same, upd_ne hdM.symm, upd_same]
        · by_cases b2 : b = M
          · rw [b2, upd_ne hdM, upd_same, upd_same]
          · rw [upd_ne b1, upd_ne b2, upd_ne b2, upd_ne b1]
      rw [hcomm]
      refine ⟨.ref S, rfl, 1, rfl, S, _, -1, .ref d, rfl, rfl, sq_of (by rw [upd_ne hSM, upd_ne hSd]; exact hS1), hlast, d, od, rfl, .inl ⟨kv, by rw [upd_ne hdM.symm]; exact upd_same, ?_⟩⟩
      refine for_it (walk_keys (d := d) (o := od) (kvs := kv)) (fun j σ' H' => ∃ (m : List (Key × V)) (x4 : Option V), σ' = [some (.ref a), some (.ref S), some (.int x), some (.ref M), x4, none, none, none] ∧ H' = upd (upd H1 d (.frz od (.dK kv))) M (.dK m) ∧ MP kv x j m)
        ⟨[], _, rfl, rfl, mp_zero kv x⟩ (fun j σ' H' _ ⟨m, _, _, e, _⟩ => by rw [e, upd_ne hdM.symm]; exact upd_same) ?_ ?_
      · rintro j y σ' H' H2 hj ⟨m, x4', rfl, rfl, hm⟩ ⟨rfl, k, v, hk, rfl⟩
        obtain ⟨t, ht⟩ := hKS.ky _ (List.mem_of_getElem? hk)
        dsimp only at ht
        subst ht
        have hml := hm.few
        refine ⟨.ref M, rfl, .int t, rfl, .int x, rfl, t, x, rfl, rfl, M, _, rfl, DPut.k (k := kI (t + x)) upd_same (sz_lt (by omega)), ?_⟩
        rw [upd_upd]
        have hml2 := length_putK m (kI (t + x)) (V.int 1)
        refine ⟨1, rfl, .ref M, rfl, .int t, rfl, .int x, rfl, t, x, rfl, rfl, M, _, rfl, DPut.k (k := kI (t - x)) upd_same (sz_lt (by omega)), ?_⟩
        rw [upd_upd]
        exact ⟨_, _, rfl, rfl, mp_succ hm hk⟩
      · rintro σ' H' ⟨m, x4', rfl, rfl, hm⟩
        refine ⟨by rw [upd_ne hdM.symm]; exact upd_same, ?_⟩
        rw [lock_id hkv hdM]
        have hMH : Ex H1 (upd H1 M (.dK m)) := Ex.new nM
        -- sums.append(more)
        refine s_app (hMH _ _ hS1) (ev_var rfl) (ev_var rfl) (by rw [List.length_map]; omega) fun H3 e3 => ?_
        refine ⟨ds ++ [M], _, _, _, rfl, Ex.mut ((e1.trans hMH).trans e3) nSH, ?_, ?_, fun j' d' hj' => ?_⟩
        · rw [upd_same, List.map_append]
          rfl
        · rw [List.length_append, hl]
          rfl
        · by_cases hjl : j' < ds.length
          · rw [List.getElem?_append_left hjl] at hj'
            obtain ⟨kv', g1, g2⟩ := hds j' d' hj'
            refine ⟨kv', ?_, g2⟩
            rw [upd_ne (ne_of g1 hS1 (fun z => by cases z))]
            exact e3 _ _ (hMH _ _ g1)
          · rw [List.getElem?_append_right (by omega)] at hj'
            have hj2 := get_lt hj'
            rw [List.length_singleton] at hj2
            rw [show j' - ds.length = 0 by omega] at hj'
            cases hj'
            refine ⟨m, ?_, ?_⟩
            · rw [upd_ne hSM.symm]
              exact e3 _ _ upd_same
            · rw [show j' = i + 1 by omega]
              exact ks_succ hx hKS hm
    · rintro σ' H1 ⟨ds, x2, x3, x4, rfl, e1, hS1, hl, hds⟩
      rw [List.length_map] at hl
      have hdl : ns.length < ds.length := by omega
      obtain ⟨kv, hkv, hKS⟩ := hds ns.length ds[ns.length] (List.getElem?_eq_getElem hdl)
      have hlast : atI (ds.map V.ref) (-1) = some (V.ref ds[ns.length]) := by
        have hne : ds ≠ [] := fun z => by
          rw [z] at hdl
          exact absurd hdl (Nat.not_lt_zero _)
        have hz : ds.map V.ref = (ds.dropLast.map V.ref) ++ [V.ref (ds.getLast hne)] := by
          rw [← List.map_singleton, ← List.map_append, List.dropLast_concat_getLast]
        rw [hz, atI_last, List.getLast_eq_getElem]
        congr 2
        congr 1
        omega
      have hsg := hKS.has 0
      rw [List.take_of_length_le (Nat.le_refl _)] at hsg
      have tst : EvT (tB (tDNotIn (tC (.int 0)) (tOp (rIxL K) (tVar 1) (tUn (rU fun i => .int (-i)) (tC (.int 1)))))) [some (.ref a), some (.ref S), x2, x3, x4, none, none, none] H1 (!(valV kv (kI 0)).isSome) :=
        et_B fun H2 e2 Q2 z2 => ⟨.ref S, rfl, 1, rfl, S, _, -1, _, rfl, rfl, sq_of (e2 _ _ hS1), hlast, _, _, rfl, DGet.k (k := kI 0) (e2 _ _ hkv), z2 H2 (Ex.refl _)⟩
      refine q_when tst (fun hb H2 e2 => ?_) (fun hb H2 e2 => ?_)
      · refine q1 (fun z => ?_) H2 (e1.trans e2)
        rw [hsg.mpr z] at hb
        cases hb
      · have hsome : (valV kv (kI 0)).isSome = true := by
          cases hv : (valV kv (kI 0)).isSome with
          | true => rfl
          | false => rw [hv] at hb; cases hb
        have hS2 := e2 _ _ hS1
        -- found, total = [], 0
        refine ⟨Nat.zero_le _, fun F nF => ⟨.ref F, .int 0, rfl, ?_⟩⟩
        have eF := Ex.new (o := .lst []) nF
        have nFH : H F = none := fresh_back (e1.trans e2) nF
        have hlenA : ∀ H', Ex H H' → SqL K H' a (ns.map V.int) := fun H' e => ex_l e hS
        refine ⟨.ref a, rfl, a, _, rfl, .inl (hlenA _ ((e1.trans e2).trans eF)), 1, rfl, (ns.length : Int), 0, -1, ns.length, by rw [List.length_map], ?_, ?_⟩
        · have z := RgC.neg (i := (ns.length : Int)) (j := 0) (by omega) (by omega) (by omega) (by omega)
          rw [show ((ns.length : Int) - 0).toNat = ns.length by omega] at z
          exact z
        have hS3 := eF _ _ hS2
        refine for_rangeC (lo := (ns.length : Int)) (c := -1) (n := ns.length) (fun i σ' H' => ∃ (fs : List Int) (t : Int) (x6 x7 : Option V), σ' = [some (.ref a), some (.ref S), x2, x3, some (.int t), some (.ref F), x6, x7] ∧ Ex H2 H' ∧ H' F = some (.lst (fs.map V.int)) ∧ fs.length = i ∧ RD.Sgn fs ∧
            RD.Sg (ns.take (ns.length - i)) t ∧ t + RD.dot fs.reverse (ns.drop (ns.length - i)) = 0) ?_ ?_ ?_
        · refine ⟨[], 0, none, none, rfl, eF, upd_same, rfl, fun s hs => (by cases hs), ?_, ?_⟩
          · rw [Nat.sub_zero, List.take_of_length_le (Nat.le_refl _)]
            exact hsg.mp hsome
          · show (0 : Int) + RD.dot [] _ = 0
            rfl
        · rintro i σ' H3 hi ⟨fs, t, x6, x7, rfl, e3, hF3, hfl, hsn, hSg, hdot⟩
          have eat : (ns.length : Int) + (i : Int) * -1 = ((ns.length - i : Nat) : Int) := by omega
          rw [eat]
          generalize hk : ns.length - i = k at hSg hdot
          have hk1 : 0 < k := by omega
          have hkd : k < ds.length := by omega
          obtain ⟨kv', hkv', hKS'⟩ := hds k ds[k] (List.getElem?_eq_getElem hkd)
          have hdk := e3 _ _ (e2 _ _ hkv')
          have hix : atI (ds.map V.ref) (k : Int) = some (V.ref ds[k]) := atI_nat (by rw [List.getElem?_map, List.getElem?_eq_getElem hkd]; rfl)
          obtain ⟨v, hv⟩ := Option.isSome_iff_exists.mp ((hKS'.has t).mpr hSg)
          have hkl : k - 1 < ns.length := by omega
          obtain ⟨s, hs1, rfl, hs3⟩ := hKS'.val (k - 1) ns[k - 1] t v (by omega) (List.getElem?_eq_getElem hkl) hv
          have hget : DGet H3 ds[k] (.int t) (some (.int s)) := by
            have z := DGet.k (k := kI t) hdk
            rw [hv] at z
            exact z
          -- sign = sums[at][total]
          refine ⟨.ref S, rfl, .int (k : Int), rfl, S, _, (k : Int), _, rfl, rfl, sq_of (e3 _ _ hS2), hix, .int t, rfl, _, _, rfl, hget, ?_⟩
          -- found.append(sign)
          refine s_app hF3 (ev_var rfl) (ev_var rfl) (by rw [List.length_map]; omega) fun H4 e4 => ?_
          have nF2 : H2 F = none := nF
          have hFmut := Ex.mut (p := F) (o := .lst (fs.map V.int ++ [V.int s])) (e3.trans e4) nF2
          have hSa : SqL K (upd H4 F (.lst (fs.map V.int ++ [V.int s]))) a (ns.map V.int) := ex_l hFmut (ex_l (e1.trans e2) hS)
          -- total = total - sign * ring[at - 1]
          refine s_asg (ev_op (ev_var rfl) (ev_op (ev_var rfl) (ev_ixL (v := .int ns[k - 1]) (i := ((k - 1 : Nat) : Int)) (ev_var rfl) (ev_is (ev_op (ev_var rfl) ev_c rv_I0) (by congr 1; omega)) hSa (at_int (List.getElem?_eq_getElem hkl))) (rv_I (C := CMul) (.inl ⟨by omega, by omega⟩))) rv_I0) fun H5 e5 => ?_
          refine ⟨fs ++ [s], t - s * ns[k - 1], _, _, rfl, hFmut.trans e5, e5 _ _ ?_, ?_, ?_, ?_, ?_⟩
          · rw [upd_same, List.map_append]
            rfl
          · rw [List.length_append, hfl]
            rfl
          · intro z hz
            rcases List.mem_append.mp hz with hz | hz
            · exact hsn z hz
            · rw [List.mem_singleton.mp hz]
              exact hs1
          · rw [show ns.length - (i + 1) = k - 1 by omega]
            exact hs3
          · rw [show ns.length - (i + 1) = k - 1 by omega, List.drop_eq_getElem_cons hkl, List.reverse_append, show k - 1 + 1 = k by omega]
            show t - s * ns[k - 1] + (s * ns[k - 1] + RD.dot fs.reverse (ns.drop k)) = 0
            omega
        · rintro σ' H3 ⟨fs, t, x6, x7, rfl, e3, hF3, hfl, hsn, hSg, hdot⟩
          rw [Nat.sub_self, List.take_zero] at hSg
          have ht := RD.sg_nil.mp hSg
          rw [Nat.sub_self, List.drop_zero, ht, Int.zero_add] at hdot
          refine ⟨.ref F, rfl, F, _, rfl, sq_of hF3, fun p np => ?_⟩
          refine q2 fs.reverse (by rw [List.length_reverse]; exact hfl) (fun z hz => hsn z (List.mem_reverse.mp hz)) hdot p _ (fresh_back ((e1.trans e2).trans e3) np) (((e1.trans e2).trans e3).trans (Ex.new np)) ?_
          rw [upd_same, List.map_reverse]
end
section
variable {P : Program} {w : World} {K : PySem.W.Frag} {mg : Str → Option Value} {base : Heap}
/-! ### came (where nothing is refused) -/
theorem cut_m1 (xs : List V) (h : 1 ≤ xs.length) : cutV xs none (some (-1)) = xs.take (xs.length - 1) := by
  have e : HT.sIx xs.length xs.length (some (-1)) = xs.length - 1 := by
    have z := HT.clip_eq (-1) xs.length xs.length
    rw [if_pos (by decide)] at z
    omega
  unfold cutV
  rw [HT.sIx_none, e, List.drop_zero, Nat.sub_zero]
def IsNv (T : Txt K mg) (H : Hp) (v : V) : Prop := ∃ x dx, v = .ref x ∧ H x = some (.ins T.C_Never dx [])
theorem IsNv.ex {T : Txt K mg} {H H' : Hp} {v : V} (e : Ex H H') (h : IsNv T H v) : IsNv T H' v := by
  obtain ⟨x, dx, rfl, g⟩ := h
  exact ⟨x, dx, rfl, e _ _ g⟩
def RetCm (T : Txt K mg) (ns : List Int) (H : Hp) (Q : VK) : Prop := (¬ RD.Sg ns 0 → ∀ v H2, Ex H H2 → IsNv T H2 v → Q v H2) ∧
  (∀ cs v c H2, cs.length = ns.length → (∀ x, x ∈ cs → 0 ≤ x) → RD.D cs = ns → H c = none → Ex H H2 → IsCm T H2 v c cs → Q v H2)
def spCame (T : Txt K mg) : Sp := fun vs H Q _ => ∃ (a : Addr) (ns : List Int), vs = [.ref a] ∧ SqL K H a (ns.map V.int) ∧ Ring ns ∧ RetCm T ns H Q
theorem ok_came (T : Txt K mg) : FnOk P w K mg base CX0 3 T.f_came T.fd_came ["ring"] (spCame T) := by
  refine T.F_came.ok sc_came (fun vs H Q E h => ?_) (fun cdv A outer s H vs Q E hr h => ?_)
  · obtain ⟨a, ns, rfl, _⟩ := h
    rfl
  · obtain ⟨a, ns, rfl, hS, hR, q1, q2⟩ := h
    have hfew := hR.few
    have hpos := hR.pos
    refine ⟨_, (pss_cons (ps_expr (pe_call (ok_asked_ring T) (hr.mono (by decide)) (by rfl) T.g_asked_ring T.F_asked_ring.kp T.b_asked_ring .nil pass0 (pa_cons (pv 0) pa_nil)))
      (pss_cons (ps_set (i := 1) sc_came.nd rfl (Or.inl rfl) (pe_call (ok_heaps_of T) (hr.mono (by decide)) (by rfl) T.g_heaps_of T.F_heaps_of.kp T.b_heaps_of .nil pass0 (pa_cons (pv 0) pa_nil)))
      (pss_cons (ps_if (pt_cmpR op_isN (pv 1) pe_non (nomark _))
        (pss_one (ps_ret (pe_makeP T.P_Never (by rfl) T.m_Never)))
        pss_nil)
      (pss_cons (ps_set (i := 2) sc_came.nd rfl (Or.inl rfl) (pe_lst (pa_cons pe_int pa_nil)))
      (pss_cons (ps_for PassesOwn.never rfl (pi_zip (by rfl) T.n_zip (pa_cons (pv 1) (pa_cons (pe_slice (r := rSlL K) sl_list (pv 0) po_none (po_some (pe_un un_neg pe_int))) pa_nil))) (pg_tup rfl (pgs_cons (pg_name (i := 3) sc_came.nd rfl (Or.inl rfl)) (pgs_cons (pg_name (i := 4) sc_came.nd rfl (Or.inl rfl)) pgs_nil)))
        (pss_one (ps_expr (pe_bm PySem.F.plainAttrs_list PySem.F.slot_list_append PySem.F.type_list_append mt_append (pv 2) (pa_cons (pe_op op_add (pe_ix (r := rIxL K) ix_list (pv 2) (pe_un un_neg pe_int) (fun _ _ => rfl)) (pe_op op_mul (pv 3) (pv 4))) pa_nil)))))
      (pss_cons (ps_set (i := 5) sc_came.nd rfl (Or.inr rfl) (pe_callB (r := rMin K) (cr_min rfl) (by rfl) T.n_min (by decide +kernel) (pa_cons (pv 2) pa_nil)))
      (pss_one (ps_ret (pe_make T.M_Came (ok_Came_init T) (hr.mono (by decide)) (by rfl) T.m_Came T.b_Came_init .nil pass0 (pa_cons (pe_lc (own := [("one", 4)]) (g := (gName 4)) (tt := tYes) (by rfl) sc_came.nd (pi_list (pv 2)) (blkOk_by (own := [("one", 4)]) (N := ["ring", "signs", "found", "sign", "one", "least"]) (sc := defScope s_came) (by decide +kernel)) (fun _ _ _ _ _ => (pg_name (i := 4) sc_came.nd rfl (Or.inl rfl))) (fun _ _ _ _ _ => pts_nil) (fun _ _ _ _ _ => (pe_op op_sub (pv 4) (pv 5)))) pa_nil)))))))))), ?_⟩
    refine ⟨.ref a, rfl, a, ns, rfl, hS, hR, fun H1 e1 => ?_⟩
    refine ⟨.ref a, rfl, a, ns, rfl, ex_l e1 hS, hR, fun hno H2 e2 => ?_, fun ss hsl hsn hdot p H2 np e2 hp => ?_⟩
    · refine ⟨.non, rfl, rfl, true, rfl, iteT ?_⟩
      intro x dx nx nd ne
      refine q1 hno (.ref x) _ ((e1.trans e2).trans fun b u e => ?_) ⟨x, dx, rfl, upd_same⟩
      rw [upd_ne (ne_of_none e nx), upd_ne (ne_of_none e nd)]
      exact e
    · refine ⟨.ref p, rfl, rfl, false, rfl, iteF ?_⟩
      -- found = [0]
      refine q_asgL (xs := [V.int 0]) (el_lst (ea_cons ev_c ea_nil) (by decide)) fun f H3 nf e3 hf => ?_
      have hp3 := e3 _ _ hp
      have e13 := (e1.trans e2).trans e3
      have nfH : H f = none := fresh_back (e1.trans e2) nf
      -- zip(signs, ring[:-1])
      refine ⟨.ref p, rfl, .ref a, rfl, 1, rfl, -1, rfl, a, _, rfl, ex_l e13 hS, fun c nc => ?_⟩
      have hcut : cutV (ns.map V.int) none (some (-1)) = (ns.take (ns.length - 1)).map V.int := by
        rw [cut_m1 _ (by rw [List.length_map]; exact hpos), List.length_map, List.map_take]
      have e4 := Ex.new (o := .lst (cutV (ns.map V.int) none (some (-1)))) nc
      have hc4 : upd H3 c (.lst (cutV (ns.map V.int) none (some (-1)))) c = some (.lst ((ns.take (ns.length - 1)).map V.int)) := by
        rw [upd_same, hcut]
      generalize upd H3 c (.lst (cutV (ns.map V.int) none (some (-1)))) = H4 at e4 hc4
      refine ⟨p, c, _, _, rfl, sq_of (e4 _ _ hp3), sq_of hc4, ?_⟩
      have hfc : f ≠ c := ne_of_none hf nc
      have hpf : p ≠ f := ne_of_none hp nf
      have nc2 : H2 c = none := fresh_back e3 nc
      refine for_it (walk_zip (xs := ss.map V.int) (ys := (ns.take (ns.length - 1)).map V.int) (n := ns.length - 1) (by rw [List.length_map, List.length_map, List.length_take]; omega)) (fun j σ' H' => ∃ x3 x4 : Option V, σ' = [some (.ref a), some (.ref p), some (.ref f), x3, x4, none] ∧ Ex H2 H' ∧ H' c = some (.lst ((ns.take (ns.length - 1)).map V.int)) ∧
          H' f = some (.lst (((List.range (j + 1)).map (RD.sums ss ns)).map V.int))) ⟨none, none, rfl, e3.trans e4, hc4, e4 _ _ hf⟩ (fun j σ' H' _ ⟨_, _, _, g1, g2, _⟩ => ⟨sq_of (g1 _ _ hp), sq_of g2⟩) ?_ ?_
      · rintro j y σ' H5 H6 hj ⟨x3, x4, rfl, g1, g2, g3⟩ ⟨S, v1, v2, rfl, nS, rfl, h1, h2⟩
        obtain ⟨s, hs, rfl⟩ := map_get h1
        obtain ⟨x, hx, rfl⟩ := map_get h2
        rw [List.getElem?_take, if_pos hj] at hx
        have hbx := hR.bd x (List.mem_of_getElem? hx)
        have hsg := hsn s (List.mem_of_getElem? hs)
        have eS := Ex.new (o := .tup [V.int s, V.int x]) nS
        refine ⟨S, _, rfl, st_of upd_same, rfl, .int s, _, rfl, .int x, _, rfl, rfl, ?_⟩
        have g3' := eS _ _ g3
        have hlast : atI (((List.range (j + 1)).map (RD.sums ss ns)).map V.int) (-1) = some (.int (RD.sums ss ns j)) := by
          rw [List.range_succ, List.map_append, List.map_append]
          exact atI_last _ _
        refine s_app g3' (ev_var rfl) (ev_op (ev_ixL (ev_var rfl) (ev_un ev_c ru_neg) (sq_of g3') hlast) (ev_op (ev_var rfl) (ev_var rfl) (rv_I (C := CMul) (.inl ⟨by omega, by omega⟩))) rv_I0) (by rw [List.length_map, List.length_map, List.length_range]; omega) fun H7 e7 => ?_
        refine ⟨_, _, rfl, Ex.mut ((g1.trans eS).trans e7) nf, ?_, ?_⟩
        · rw [upd_ne hfc.symm]
          exact e7 _ _ (eS _ _ g2)
        · rw [upd_same, List.range_succ (n := j + 1), List.map_append, List.map_append, ← RD.sums_succ hs hx]
          rfl
      · rintro σ' H5 ⟨x3, x4, rfl, g1, g2, g3⟩
        rw [show ns.length - 1 + 1 = ns.length by omega] at g3
        have hnel : 0 < ((List.range ns.length).map (RD.sums ss ns)).length := by rw [List.length_map, List.length_range]; omega
        -- least = min(found)
        refine ⟨.ref f, rfl, f, _, rfl, sq_of g3, hnel, fun m hm hle => ?_⟩
        have el := el_mapI (K := K) (σ := [some (.ref a), some (.ref p), some (.ref f), x3, x4, some (.int m)]) (H := H5) (te := tOp (rI0 fun i j => .int (i - j)) (tVar 4) (tVar 5)) (tl := tVar 2) (j := 4) (vs := [4]) (fun x => x - m) (ei_var rfl (sq_of g3)) (by rw [List.length_map, List.length_range]; omega) (fun _ => rfl) (fun n H' e' hn => ev_op (ev_var rfl) (ev_var rfl) rv_I0)
        have em : ((List.range ns.length).map (RD.sums ss ns)).map (fun x => x - m) = (List.range ns.length).map fun i => RD.sums ss ns i - m := List.map_map
        rw [em] at el
        refine ecm_C (T := T) (ei_L el) H5 (Ex.refl _) _ fun v c2 H6 nc2 e6 hv => ?_
        refine q2 _ v c2 H6 (by rw [List.length_map, List.length_range]) (fun x hx => ?_) (RD.D_sums (by omega) hsl hsn hdot fun x hx => (hR.bd x hx).1) (fresh_back ((e1.trans e2).trans g1) nc2) (((e1.trans e2).trans g1).trans e6) hv
        obtain ⟨i, hi, rfl⟩ := List.mem_map.mp hx
        have := hle _ (List.mem_map.mpr ⟨i, hi, rfl⟩)
        omega
/-- what came tells -/
theorem q_came {T : Txt K mg} {σ : L2.St} {H : Hp} {ta : TE} {ns : List Int} {E : XK} {Q : VK} (ha : EvI K ta σ H ns) (hR : Ring ns) (h1 : ¬ RD.Sg ns 0 → ∀ v H2, Ex H H2 → IsNv T H2 v → Q v H2)
    (h2 : RD.Sg ns 0 → ∀ cs v c H2, cs.length = ns.length → (∀ x, x ∈ cs → 0 ≤ x) → RD.D cs = ns → H c = none → Ex H H2 → IsCm T H2 v c cs → Q v H2) : tCall (spCame T) [] E (tCons ta tNil) σ H Q :=
  ha H (Ex.refl _) _ fun p H2 e2 hp => ⟨p, ns, rfl, hp, hR, fun hno v H3 e3 hv => h1 hno v H3 (e2.trans e3) hv, fun cs v c H3 hl hn hD nc e3 hv => h2 (RD.D_has (by have := hR.pos; omega) hD) cs v c H3 hl hn hD (fresh_back e2 nc) (e2.trans e3) hv⟩
end
section
variable {P : Program} {w : World} {K : PySem.W.Frag} {mg : Str → Option Value} {base : Heap}
/-! ### sorted(set(list)) of whole numbers, whatever their number -/
section
variable {P : Program} {w : World} {A : Around} {E : Value → Shared → Prop} {s : Shared}
open PySem.Calls in
set_option maxHeartbeats 8000000 in
theorem set_of_ints {l : Addr} {ys : Array Value} (ks : List Int) {Q : Value → Shared → Prop} (calm : A.handled = none) (isl : s.heap.IsList l ys) (are : IntsAre ys.toList ks) (room : ks.length + 1 < scanBound)
    (fin : ∀ (g : Heap) (tk c : Nat), SetR w g s.heap.objs.size (fun j => decide (j ∈ ks)) c → c ≤ ks.length → (∀ b o, s.heap.get? b = some o → g.get? b = some o) → Q (.ref s.heap.objs.size) { s with heap := g, toks := tk }) :
    wpAny (model P w) A (call (.type "set") [.ref l]) Q E s := by
  have same : ys.size = ks.length := by
    have z := IntsAre.length are
    rwa [Array.length_toList] at z
  obtain ⟨mc, mt, mro_⟩ := F.called_set.mro
  have c1 := F.called_set.made
  have c2 := F.called_set.sub
  refine wpAny_call (codeAny_of_tree ?_)
  show wpAny _ _ (callAny (.type "set") _) _ _ _
  refine wpAny_pure ⟨?_, ?_⟩
  · exact Code.quiet_builtin _ (by decide +kernel)
  refine codeAny_builtin F.entry_type_call ?_
  rw [Around.under_plain (weight_type_call_type "set" [Value.ref l] []) rfl]
  have c3 := F.called_set.notType
  have c4 := F.called_set.canCreate
  have c5 := F.typeCall_set_1 (Value.ref l)
  repeat any_goals first | assumption | wp_step
  refine codeAny_mono (code_set_led1 (.ref l) (E := E)
    (Q₁ := fun v s2 => v = .ref s.heap.objs.size ∧ s2 = { s with heap := s.heap.push ⟨.type "set", none, .set #[] 0 (.fresh 0 0 (!w.params.followText "set-order")), #[]⟩ }) ⟨rfl, rfl⟩) fun r1 s2 e1 => ?_
  rcases r1 with er | fl
  · exact e1
  cases fl with
  | next => exact e1.elim
  | brk => exact e1.elim
  | cont => exact e1.elim
  | ret v =>
    obtain ⟨rfl, rfl⟩ := e1
    have at0 : (s.heap.push ⟨.type "set", none, .set #[] 0 (.fresh 0 0 (!w.params.followText "set-order")), #[]⟩).get? s.heap.objs.size =
      some ⟨.type "set", none, .set #[] 0 (.fresh 0 0 (!w.params.followText "set-order")), #[]⟩ := Heap.get?_push_size _ rfl
    have ty0 : Shared.TypeIs { s with heap := s.heap.push ⟨.type "set", none, .set #[] 0 (.fresh 0 0 (!w.params.followText "set-order")), #[]⟩ }
      (.ref s.heap.objs.size) "set" := ⟨_, at0, rfl⟩
    have c6 := F.called_set.init.lookup
    have c7 := F.called_set.init.bind (Value.ref s.heap.objs.size)
    repeat any_goals first | assumption | wp_step
    refine codeAny_mono (codeAny_call_builtin (R := wants (fun v s3 => v = .none ∧ ∃ g tk c, s3 = { s with heap := g, toks := tk } ∧ SetR w g s.heap.objs.size (fun j => decide (j ∈ ks)) c ∧ c ≤ ks.length ∧
      ∀ b o, s.heap.get? b = some o → g.get? b = some o) E) F.called_set.init.plain F.entry_set_init (check_set_init_1 ty0 ?_)) fun r3 s3 e3 => ?_
    · obtain ⟨⟨oc, od, odt, osl⟩, got, cls_, nl, dat_⟩ := isl
      simp only at cls_ dat_
      subst cls_
      subst dat_
      have got1 : (s.heap.push ⟨.type "set", none, .set #[] 0 (.fresh 0 0 (!w.params.followText "set-order")), #[]⟩).get? l = some ⟨.type "list", od, .seq ys nl, osl⟩ :=
        Heap.get?_push_of_some _ got
      have d1 := F.sub_list_set
      have d2 := F.sub_list_frozenset
      have d3 : (Value.type "list" == Value.type "dict") = false := by decide
      have isl1 : (s.heap.push ⟨.type "set", none, .set #[] 0 (.fresh 0 0 (!w.params.followText "set-order")), #[]⟩).IsList l ys := ⟨_, got1, rfl, nl, rfl⟩
      unfold Builtin.«set.__init__» noKeywords Builtin.Frozenset.updateFrom
      generalize keep : pyIter = goes
      wp_walk
      subst keep
      refine wpAny_pyIter_list isl1 (wpAny_bind (wpAny_runValue ?_))
      have lold : l < s.heap.objs.size := Heap.lt_size got
      have calm3 : A.in1.in1.in1.handled = none := by simp [calm]
      have apart : l ≠ (s.heap.push ⟨.type "set", none, .set #[] 0 (.fresh 0 0 (!w.params.followText "set-order")), #[]⟩).objs.size := by
        rw [Heap.size_push]
        exact Nat.ne_of_lt (Nat.lt_succ_of_lt lold)
      have away : s.heap.objs.size ∉ [(s.heap.push ⟨.type "set", none, .set #[] 0 (.fresh 0 0 (!w.params.followText "set-order")), #[]⟩).objs.size, l] := by
        rw [Heap.size_push]
        intro z
        rcases List.mem_cons.mp z with z | z
        · exact absurd z (Nat.ne_of_lt (Nat.lt_succ_self _))
        · exact absurd (List.mem_singleton.mp z) (Nat.ne_of_gt lold)
      have each : ∀ (i : Nat) (v : Value), ys[i]? = some v → ∃ k t, ks[i]? = some k ∧ v = .int k t := fun i v hv => by
        have hi : i < ks.length := by
          rw [← same]
          exact (Array.getElem?_eq_some_iff.mp hv).1
        obtain ⟨t, e⟩ := IntsAre.int_at are i v (by rw [Array.getElem?_toList]; exact hv)
        have e2 : ks.getD i 0 = ks[i] := by rw [List.getD_eq_getElem?_getD, List.getElem?_eq_getElem hi]; rfl
        exact ⟨ks[i], t, List.getElem?_eq_getElem hi, by rw [e, e2]⟩
      refine set_update_ints ((Walks.list calm3 _ l apart ys).toS) s.heap.objs.size away ks same room each (ys.size - 0) 0 _ (by omega) (Nat.zero_le _)
        ⟨⟨_, Heap.get?_push_size _ rfl, rfl, rfl⟩, isl1.push _⟩ ⟨0, Nat.le_refl 0, setR_new_at (Heap.get?_push_of_some _ at0)⟩ ?_
      intro s4 c4' mv le4 got4
      obtain ⟨g4, gn4, dr4, tk4, os4⟩ := s4
      obtain rfl : gn4 = s.gens := mv.gens
      obtain rfl : dr4 = s.drawn := mv.drawn
      obtain rfl : os4 = s.os := mv.os
      refine wpAny_pure ?_
      show wpAny _ _ (ret Value.none) _ _ _
      rw [same] at le4
      refine wpAny_pure ⟨rfl, g4, tk4, c4', rfl, got4, le4, fun b o e => ?_⟩
      have bold : b < s.heap.objs.size := Heap.lt_size e
      refine mv.heap b o (fun z => ?_) (Heap.get?_push_of_some _ (Heap.get?_push_of_some _ e))
      rcases List.mem_cons.mp z with z | z
      · exact absurd z (Nat.ne_of_lt bold)
      · have z2 := List.mem_singleton.mp z
        rw [Heap.size_push] at z2
        exact absurd z2 (Nat.ne_of_lt (Nat.lt_succ_of_lt bold))
    · rcases r3 with er | fl3
      · exact e3
      cases fl3 with
      | next => exact e3.elim
      | brk => exact e3.elim
      | cont => exact e3.elim
      | ret v3 =>
        obtain ⟨rfl, g, tk, c, rfl, q1, q2, q3⟩ := e3
        repeat any_goals first | assumption | wp_step
        exact fin _ _ _ q1 q2 q3
end
end
section
variable {P : Program} {w : World} {K : PySem.W.Frag} {mg : Str → Option Value} {base : Heap}
section
variable {P : Program} {w : World} {A : Around} {E : Value → Shared → Prop} {s : Shared}
theorem sorted_of_set {a : Addr} {S : Int → Bool} {n : Nat} {Q : Value → Shared → Prop} (mem : SetR w s.heap a S n) (calm : A.handled = none)
    (fin : ∀ (z : Shared) (p : Addr) (out : List Value) (c : Nat) (ks : List Int), (∀ b o, s.heap.get? b = some o → z.heap.get? b = some o) → z.gens = s.gens → z.os = s.os → s.heap.objs.size ≤ p →
      z.heap.get? p = some (seqObj "list" out.toArray c) → IntsAre out ks → (∀ k, k ∈ ks ↔ S k = true) → ks.length = n → n < scanBound → Q (.ref p) z) :
    wpAny (model P w) A (call (.builtin "sorted") [.ref a]) Q E s := by
  obtain ⟨o, es, ep, t, ho, hex, hd, good, nd, hm, few, fit, len, ris, led⟩ := mem
  refine Calls.call_function_entry kind_sorted plain_sorted entry_sorted (args_sorted1 _) ?_
  unfold Builtin.«sorted»
  refine wpAny_bind (m := checkCount "sorted" 1 1 _) (wpAny_pure (wpAny_bind ?_))
  refine collect_set (A := A.in1) calm ⟨o, ho, hex.1, hd⟩ fit few ris led fun s1 got kept bigger g1 o1 perm => ?_
  have glen : got.length = n := by
    rw [perm.length_eq, List.length_map, Array.length_toList]
    exact len
  have gints : IntsAre got (got.map Builtin.Re.reRawOf) := ints_of got fun v hv => by
    obtain ⟨e, he, z⟩ := List.mem_map.mp (perm.mem_iff.mp hv)
    obtain ⟨k, tk, e1, _⟩ := good e he
    exact ⟨k, tk, z ▸ e1⟩
  have gperm : (got.map Builtin.Re.reRawOf).Perm (es.toList.map keyOf) := by
    have z := perm.map Builtin.Re.reRawOf
    rwa [List.map_map] at z
  have line : got.length ≤ sizeLine := by
    rw [glen, ← len]
    exact fits_of_scanBound few
  refine wpAny_bind (wpAny_newList ?_ line)
  have laid : (s1.heap.push (seqObj "list" got.toArray 0)).get? s1.heap.objs.size = some (seqObj "list" got.toArray 0) := Heap.get?_push_size _ rfl
  refine wpAny_bind (wpAny_holding (wpAny_call_entry slot_list_sort ⟨_, laid, rfl⟩ entry_list_sort ?_ (args_list_sort _)))
  refine SrtO.list_sort_ord SrtO.swo_int laid line (fun h2 => SrtO.ints_sortable gints h2) fun out u1 u2 => ⟨.none, rfl, ?_⟩
  obtain ⟨k1, k2, k3⟩ := SrtO.ints_out gints u1 u2
  obtain ⟨c, at1⟩ := sortedHeap_at (vs := got) (out := out.toArray) laid
  have kperm := k2.trans gperm
  refine wpAny_pure ⟨_, rfl, fin _ s1.heap.objs.size out c _ (fun b u e => ?_) g1 o1 bigger at1 k1 (fun k => by rw [kperm.mem_iff, ← hm k]) ?_ (by rw [← len]; exact few)⟩
  · have e1 := kept b u e
    have lt1 := Heap.lt_size e1
    show (sortedHeap (s1.heap.push (seqObj "list" got.toArray 0)) s1.heap.objs.size got out.toArray).get? b = some u
    rw [sortedHeap_old (Nat.ne_of_lt lt1) (by rw [size_push']; exact Nat.lt_succ_of_lt lt1)]
    exact Heap.get?_push_of_some _ e1
  · rw [kperm.length_eq, List.length_map, Array.length_toList]
    exact len
end
def rSetI (w : World) (K : PySem.W.Frag) : List V → Hp → VK → Prop := fun xs H Q => ∃ (a : Addr) (ns : List Int), xs = [.ref a] ∧ SqL K H a (ns.map V.int) ∧ ns.length ≤ 4000 ∧ ∀ p c, H p = none → c ≤ ns.length → Q (.ref p) (upd H p (SetO w p (fun j => decide (j ∈ ns)) c))
theorem cr_setI {X : Cx} (hc : X.calm = true) : CallR X (.type "set") (rSetI X.w X.K) := by
  intro pins s σ H xs us Q I r h
  obtain ⟨a, ns, rfl, hs, hl, q⟩ := h
  obtain ⟨its, rv, hlst, _⟩ := I.list hs
  rw [Vals.ref1 r]
  have hb : ns.length + 1 < scanBound := by
    have e : scanBound = 4096 := rfl
    omega
  refine set_of_ints ns (I.ok.hd hc) hlst.isList (by simpa using rv.ints) hb fun g tk c hset hcl hk => ?_
  exact ⟨.ref _, _, I.laid (a := s.heap.objs.size) (t' := tk) hk (Nat.le_refl _) (setO_new hset), rfl, q _ c (I.hok.fresh (Nat.le_refl _)) hcl⟩
def rSortSetI (w : World) : List V → Hp → VK → Prop := fun xs H Q => ∃ (a : Addr) (S : Int → Bool) (n : Nat), xs = [.ref a] ∧ H a = some (SetO w a S n) ∧
  ∀ (ks : List Int) (p : Addr), (∀ k : Int, k ∈ ks ↔ S k = true) → ks.length = n → H p = none → Q (.ref p) (upd H p (.lst (ks.map V.int)))
theorem cr_sortSetI {X : Cx} (hc : X.calm = true) : CallR X (.builtin "sorted") (rSortSetI X.w) := by
  intro pins s σ H xs us Q I r h
  obtain ⟨a, S, n, rfl, ha, q⟩ := h
  rw [Vals.ref1 r]
  refine sorted_of_set (setO_get I ha) (I.ok.hd hc) fun z p out c ks kept g1 o1 new at1 are mem len few => ?_
  have line : (ks.map V.int).length ≤ sizeLine := by
    rw [List.length_map, len]
    exact fits_of_scanBound few
  have free : H p = none := I.hok.fresh new
  have J : Inv X pins σ (upd H p (.lst (ks.map V.int))) { s with heap := z.heap, gens := z.gens, drawn := z.drawn, toks := z.toks } :=
    I.call (ch := []) (Un.laid kept new free) (I.hok.laid kept new ⟨line, out, c, vals_of_ints are, at1⟩) (by rw [g1]; exact I.bare) (fun _ y => nomatch y)
  have e : z = { s with heap := z.heap, gens := z.gens, drawn := z.drawn, toks := z.toks } := by
    cases z
    cases s
    cases o1
    rfl
  rw [e]
  exact ⟨.ref p, _, J, rfl, q ks p mem len free⟩
end
section
variable {P : Program} {w : World} {K : PySem.W.Frag} {mg : Str → Option Value} {base : Heap}
/-! ### the law's own rings: a number by a cell, a ring by the cells -/
def num (c a u : Int) : Int :=
  if (10 : Int) ^ 18 ≤ c then c / (1 + a % 7)
  else (((c + 977 * a) * 48271 + u) % 2147483647 * (c + 31 * a + 7)) * (((c + 977 * a) * 48271 + u) % 2147483647 + c + 5) * (((c + 977 * a) * 48271 + u) % 2147483647 * (((c + 977 * a) * 48271 + u) % 2147483647) + 11) / (1009 + a)
def spNumber : Sp := fun vs H Q _ => ∃ (c a u : Int) (e : Nat), vs = [.int c, .int a, .int u] ∧ 0 < e ∧ e ≤ 1048576 ∧ c.natAbs < 2 ^ e ∧ 0 ≤ a ∧ a ≤ 1000 ∧ RetV (.int (num c a u)) H Q
theorem pow_up {a : Int} {e f : Nat} (h : a.natAbs < 2 ^ e) (hf : e ≤ f) : a.natAbs < 2 ^ f := Nat.lt_of_lt_of_le h (Nat.pow_le_pow_right (by decide) hf)
theorem add_up {a b : Int} {e : Nat} (h : a.natAbs < 2 ^ e) (h2 : b.natAbs < 2 ^ e) : (a + b).natAbs < 2 ^ (e + 1) := by
  rw [Nat.pow_succ]
  omega
theorem ok_w_number (T : Txt K mg) : FnOk P w K mg base CX0 1 T.f_w_number T.fd_w_number ["_law_cell", "_law_at", "_law_whole"] spNumber := by
  refine T.F_w_number.ok sc_w_number (fun vs H Q E h => ?_) (fun cdv A outer s H vs Q E hr h => ?_)
  · obtain ⟨c, a, u, e, rfl, _⟩ := h
    rfl
  · obtain ⟨c, a, u, e, rfl, he0, he, hc, ha0, ha, q⟩ := h
    refine ⟨_, (pss_cons (ps_if (pt_cmpR op_ge (pv 0) (pe_op op_pow pe_int pe_int) (nomark _))
        (pss_one (ps_ret (pe_op op_fdiv (pv 0) (pe_op op_add pe_int (pe_op op_mod (pv 1) pe_int)))))
        pss_nil)
      (pss_cons (ps_set (i := 3) sc_w_number.nd rfl (Or.inl rfl) (pe_op op_mod (pe_op op_add (pe_op op_mul (pe_op op_add (pv 0) (pe_op op_mul pe_int (pv 1))) pe_int) (pv 2)) pe_int))
      (pss_cons (ps_set (i := 4) sc_w_number.nd rfl (Or.inl rfl) (pe_op op_mul (pv 3) (pe_op op_add (pe_op op_add (pv 0) (pe_op op_mul pe_int (pv 1))) pe_int)))
      (pss_one (ps_ret (pe_op op_fdiv (pe_op op_mul (pe_op op_mulB (pv 4) (pe_op op_add (pe_op op_add (pv 3) (pv 0)) pe_int)) (pe_op op_add (pe_op op_mul (pv 3) (pv 3)) pe_int)) (pe_op op_add pe_int (pv 1)))))))), ?_⟩
    have hnum : num c a u = num c a u := rfl
    unfold num at q
    generalize hm : ((c + 977 * a) * 48271 + u) % 2147483647 = m at q
    have m0 : 0 ≤ m := by rw [← hm]; exact Int.emod_nonneg _ (by decide)
    have m1 : m < 2147483647 := by rw [← hm]; exact Int.emod_lt_of_pos _ (by decide)
    refine q_when (et_test (ev_op (ev_var rfl) (ev_op ev_c ev_c (rv_I ⟨by decide, by decide, by decide⟩)) rv_I0)) (fun hb H1 e1 => ?_) (fun hb H1 e1 => ?_)
    · have hb' : (10 : Int) ^ 18 ≤ c := of_decide_eq_true hb
      rw [if_pos hb'] at q
      refine s_ret (ev_op (ev_var rfl) (ev_op ev_c (ev_op (ev_var rfl) ev_c (rv_I (by decide))) rv_I0) (rv_I (C := CDiv) ⟨?_, ?_⟩)) fun H2 e2 => q H2 (e1.trans e2)
      · have := Int.emod_nonneg a (b := 7) (by decide)
        omega
      · have := Int.emod_lt_of_pos a (b := 7) (by decide)
        omega
    · have hb' : ¬ (10 : Int) ^ 18 ≤ c := of_decide_eq_false hb
      rw [if_neg hb'] at q
      refine q_asg (ev_is (ev_op (ev_op (ev_op (ev_op (ev_var rfl) (ev_op ev_c (ev_var rfl) (rv_I (C := CMul) (.inl ⟨by decide, by decide⟩))) rv_I0) ev_c (rv_I (C := CMul) (.inr ⟨by decide, by decide⟩))) (ev_var rfl) rv_I0) ev_c (rv_I (by decide))) (congrArg V.int hm)) fun H2 e2 => ?_
      refine q_asg (ev_op (ev_var rfl) (ev_op (ev_op (ev_var rfl) (ev_op ev_c (ev_var rfl) (rv_I (C := CMul) (.inl ⟨by decide, by decide⟩))) rv_I0) ev_c rv_I0) (rv_I (C := CMul) (.inl ⟨by omega, by omega⟩))) fun H3 e3 => ?_
      refine s_ret (ev_op (ev_op (ev_op (ev_var rfl) (ev_op (ev_op (ev_var rfl) (ev_var rfl) rv_I0) ev_c rv_I0) (rv_I (C := IntMulOk) ?h1)) (ev_op (ev_op (ev_var rfl) (ev_var rfl) (rv_I (C := CMul) (.inl ⟨by omega, by omega⟩))) ev_c rv_I0) (rv_I (C := CMul) (.inr ?h2))) (ev_op ev_c (ev_var rfl) rv_I0) (rv_I (C := CDiv) ⟨?h3, ?h4⟩)) fun H4 e4 => q H4 (((e1.trans e2).trans e3).trans e4)
      case h1 =>
        have p31 : (2 : Nat) ^ 31 = 2147483648 := by decide
        have p32 : (2 : Nat) ^ 32 = 4294967296 := by decide
        have hm2 : m.natAbs < 2 ^ 31 := by omega
        have g1 : (31 * a + 7).natAbs < 2 ^ (e + 31) := pow_up (e := 31) (by omega) (by omega)
        have g2 : (c + (31 * a + 7)).natAbs < 2 ^ (e + 31 + 1) := add_up (pow_up hc (by omega)) g1
        rw [← Int.add_assoc] at g2
        have g3 := wide_lt hm2 g2
        have g4 : (m + 5).natAbs < 2 ^ (e + 31) := pow_up (e := 32) (by omega) (by omega)
        have g5 : (c + (m + 5)).natAbs < 2 ^ (e + 31 + 1) := add_up (pow_up hc (by omega)) g4
        rw [show c + (m + 5) = m + c + 5 by omega] at g5
        exact mulOk g3 g5 (by omega) (by omega) (by omega)
      case h2 =>
        have h1 : m * m ≤ 2147483647 * 2147483647 := Int.mul_le_mul (Int.le_of_lt m1) (Int.le_of_lt m1) m0 (by decide)
        have h2 : 0 ≤ m * m := Int.mul_nonneg m0 m0
        constructor <;> omega
      case h3 => omega
      case h4 => omega
end
section
variable {P : Program} {w : World} {K : PySem.W.Frag} {mg : Str → Option Value} {base : Heap}
/-- a ring by the cells -/
def spRing (K : PySem.W.Frag) : Sp := fun vs H Q _ => ∃ (a : Addr) (ns : List Int) (b : Int), vs = [.ref a, .int b] ∧ SqL K H a (ns.map V.int) ∧ ns.length ≤ 63 ∧ Few ns ∧ 0 ≤ b ∧ b ≤ 100 ∧
  ∀ rs, Ring rs → RetL (rs.map V.int) H Q
theorem ok_w_ring (T : Txt K mg) : FnOk P w K mg base CX0 2 T.f_w_ring T.fd_w_ring ["_law_script", "_law_by"] (spRing K) := by
  refine T.F_w_ring.ok sc_w_ring (fun vs H Q E h => ?_) (fun cdv A outer s H vs Q E hr h => ?_)
  · obtain ⟨a, ns, b, rfl, _⟩ := h
    rfl
  · obtain ⟨a, ns, b, rfl, hS, hl, hF, hb0, hb, q⟩ := h
    refine ⟨_, (pss_cons (ps_set (i := 2) sc_w_ring.nd rfl (Or.inl rfl) (pe_ifExp (pt_cmpR (r := rNeD K) (op_neD hr.units) (pv 0) (pe_lst pa_nil) (nomark _)) (pe_slice (r := rSlL K) sl_list (pv 0) po_none (po_some pe_int)) (pe_lst (pa_cons pe_int pa_nil))))
      (pss_cons (ps_set (i := 3) sc_w_ring.nd rfl (Or.inl rfl) (pe_op op_add (pe_callB (r := rAbs) call_abs (by rfl) T.n_abs (by decide +kernel) (pa_cons (pe_callB (r := rSum K) (cr_sum rfl) (by rfl) T.n_sum (by decide +kernel) (pa_cons (pv 2) pa_nil)) pa_nil)) (pv 1)))
      (pss_cons (ps_set (i := 4) sc_w_ring.nd rfl (Or.inl rfl) (pe_op op_add pe_int (pe_op op_mod (pv 3) (pe_ix (r := rIxT K) ix_tup (pe_tup (pa_cons pe_int (pa_cons pe_int (pa_cons pe_int pa_nil)))) (pe_ix (r := rIxT K) ix_tup (pe_tup (pa_cons pe_int (pa_cons pe_int (pa_cons pe_int (pa_cons pe_int (pa_cons pe_int (pa_cons pe_int (pa_cons pe_int (pa_cons pe_int pa_nil))))))))) (pe_op op_mod (pe_op op_fdiv (pv 3) pe_int) pe_int) (fun _ _ => rfl)) (fun _ _ => rfl)))))
      (pss_cons (ps_set (i := 5) sc_w_ring.nd rfl (Or.inl rfl) (pe_ix (r := rIxT K) ix_tup (pe_tup (pa_cons pe_int (pa_cons pe_int (pa_cons pe_int (pa_cons pe_int pa_nil))))) (pe_op op_mod (pe_op op_fdiv (pv 3) pe_int) pe_int) (fun _ _ => rfl)))
      (pss_cons (ps_set (i := 6) sc_w_ring.nd rfl (Or.inl rfl) (pe_lst pa_nil))
      (pss_cons (ps_for PassesOwn.never rfl (pi_range1 (by rfl) T.n_range (pa_cons (pv 4) pa_nil)) (pg_name (i := 7) sc_w_ring.nd rfl (Or.inl rfl))
        (pss_cons (ps_set (i := 8) sc_w_ring.nd rfl (Or.inl rfl) (pe_call (ok_w_number T) (hr.mono (by decide)) (by rfl) T.g_w_number T.F_w_number.kp T.b_w_number .nil pass0 (pa_cons (pe_ix (r := rIxL K) ix_list (pv 2) (pe_op op_mod (pe_op op_add (pv 7) (pv 1)) (pe_callB (r := rLenS K) call_len_seq (by rfl) T.n_len (by decide +kernel) (pa_cons (pv 2) pa_nil))) (fun _ _ => rfl)) (pa_cons (pe_op op_add (pv 7) (pv 1)) (pa_cons (pv 3) pa_nil)))))
        (pss_one (ps_expr (pe_bm PySem.F.plainAttrs_list PySem.F.slot_list_append PySem.F.type_list_append mt_append (pv 6) (pa_cons (pe_op op_mul (pe_op op_mod (pe_op op_fdiv (pv 8) pe_int) (pv 5)) (pe_ifExp (pt_cmpR op_eq (pv 5) pe_int (nomark _)) pe_int pe_int)) pa_nil))))))
      (pss_one (ps_ret (pv 6))))))))), ?_⟩
    -- the cells
    have cells : ∀ D : L2.St → Hp → Prop, (∀ (c : Addr) (cs : List Int) H1, cs ≠ [] → cs.length ≤ 12 → Few cs → Ex H H1 → H1 c = some (.lst (cs.map V.int)) → D ([some (.ref a), some (.int b), some (.ref c), none, none, none, none, none, none]) H1) →
        tAsg (tIf (tTest (tOp (rNeD K) (tVar 0) (tLst tNil))) (tSl (rSlL K) (tVar 0) tNoPart (tPart (tC (.int 12)))) (tLst (tCons (tC (.int 5)) tNil))) (gName 2) ⟨D, fun _ _ => False, fun _ _ => False, fun _ _ => False⟩ (L2.start ["_law_script", "_law_by", "_law_cells", "_law_whole", "_law_many", "_law_wide", "_law_found", "_law_at", "_law_number_here"] [.ref a, .int b]) H := by
      intro D k
      refine ⟨.ref a, rfl, Nat.zero_le _, fun p np => ?_⟩
      refine ⟨.list (ns.map PyData.int), .list (([] : List Int).map PyData.int), dp_ints (ex_l (Ex.new np) hS), dp_ints (ns := []) (sq_of upd_same), shaped_ints _, shaped_ints _, _, rfl, ?_⟩
      rw [eqv_ints]
      by_cases hn : ns = []
      · rw [decide_eq_true hn]
        refine iteF ?_
        refine ⟨sz_of (by show 1 ≤ 100000; decide), fun c nc => ?_⟩
        refine k c [5] _ (by simp) (by simp) ⟨3, by decide, by decide, fun z hz => ?_⟩ ((Ex.new np).trans (Ex.new nc)) upd_same
        rw [List.mem_singleton.mp hz]
        decide
      · rw [decide_eq_false hn]
        refine iteT ?_
        refine ⟨.ref a, rfl, 12, rfl, a, _, rfl, ex_l (Ex.new np) hS, fun c nc => ?_⟩
        have ec : cutV (ns.map V.int) none (some 12) = (ns.take 12).map V.int := by
          rw [show (some (12 : Int)) = some ((12 : Nat) : Int) from rfl, cut_hi, List.map_take]
        rw [ec]
        obtain ⟨e, f1, f2, f3⟩ := hF
        refine k c (ns.take 12) _ (fun z => ?_) (by rw [List.length_take]; omega) ⟨e, f1, f2, fun z hz => f3 z (List.mem_of_mem_take hz)⟩ ((Ex.new np).trans (Ex.new nc)) upd_same
        cases ns with
        | nil => exact hn rfl
        | cons x r => cases z
    refine cells _ fun c cs H1 hc0 hcl hcF e1 hC => ?_
    have hcp : 0 < cs.length := List.length_pos_iff.mpr hc0
    -- the whole
    refine q_asg (ev_op (ev_abs (ev_sum (ns := cs) (ev_var rfl) (sq_of hC))) (ev_var rfl) rv_I0) fun H2 e2 => ?_
    generalize hW : (if cs.sum < 0 then -cs.sum else cs.sum) + b = W
    have hW0 : 0 ≤ W := by rw [← hW]; split <;> omega
    obtain ⟨x8, m8, a8⟩ := at_mem (l := [0, 1, 0, 1, 0, 1, 0, 2]) (j := W / 3 % 8) (Int.emod_nonneg _ (by decide)) (Int.emod_lt_of_pos _ (by decide))
    have hx8 : 0 ≤ x8 ∧ x8 < 3 := by
      simp only [List.mem_cons, List.not_mem_nil, or_false] at m8
      omega
    obtain ⟨x3, m3, a3⟩ := at_mem (l := [4, 8, 12]) (j := x8) hx8.1 hx8.2
    have hx3 : 1 ≤ x3 ∧ x3 ≤ 12 := by
      simp only [List.mem_cons, List.not_mem_nil, or_false] at m3
      omega
    refine q_asg (ev_op ev_c (ev_op (ev_var rfl) (ev_ixU (eu_tup (ea_cons ev_c (ea_cons ev_c (ea_cons ev_c ea_nil))) (by decide))
      (ev_ixU (eu_tup (ea_cons ev_c (ea_cons ev_c (ea_cons ev_c (ea_cons ev_c (ea_cons ev_c (ea_cons ev_c (ea_cons ev_c (ea_cons ev_c ea_nil)))))))) (by decide)) (ev_op (ev_op (ev_var rfl) ev_c (rv_I (C := CDiv) ⟨by decide, by decide⟩)) ev_c (rv_I (by decide))) a8) a3) (rv_I (by omega))) rv_I0) fun H3 e3 => ?_
    have hM0 := Int.emod_nonneg W (b := x3) (by omega)
    have hM1 := Int.emod_lt_of_pos W (b := x3) (by omega)
    generalize hM : 1 + W % x3 = M
    obtain ⟨x4, m4, a4⟩ := at_mem (l := [2, 4, 21, 201]) (j := W / 24 % 4) (Int.emod_nonneg _ (by decide)) (Int.emod_lt_of_pos _ (by decide))
    have hx4 : 2 ≤ x4 ∧ x4 ≤ 201 := by
      simp only [List.mem_cons, List.not_mem_nil, or_false] at m4
      omega
    refine q_asg (ev_ixU (eu_tup (ea_cons ev_c (ea_cons ev_c (ea_cons ev_c (ea_cons ev_c ea_nil)))) (by decide)) (ev_op (ev_op (ev_var rfl) ev_c (rv_I (C := CDiv) ⟨by decide, by decide⟩)) ev_c (rv_I (by decide))) a4) fun H4 e4 => ?_
    refine q_asgL (el_lst ea_nil (by decide)) fun f H5 nf e5 hf => ?_
    have e14 := ((e2.trans e3).trans e4)
    have hC4 := e14 _ _ hC
    have hfH : H f = none := fresh_back ((e1.trans e14)) nf
    refine q_forR1 (n := M) (ea_cons (ev_var rfl) ea_nil) (by omega) (fun i σ' H' => ∃ (rs : List Int) (x7 x8 : Option V), σ' = [some (.ref a), some (.int b), some (.ref c), some (.int W), some (.int M), some (.int x4), some (.ref f), x7, x8] ∧ Ex H4 H' ∧ H' f = some (.lst (rs.map V.int)) ∧ rs.length = i ∧ RD.Bd 200 rs)
      (fun H6 e6 => ⟨[], none, none, rfl, e5.trans e6, e6 _ _ hf, rfl, fun x hx => by cases hx⟩) ?_ ?_
    · rintro i σ' H' hi ⟨rs, x7, x8', rfl, p1, p2, p3, p4⟩
      have hcL : SqL K H' c (cs.map V.int) := sq_of (p1 _ _ hC4)
      have hz0 := Int.emod_nonneg ((i : Int) + b) (b := (cs.length : Int)) (by omega)
      have hz1 := Int.emod_lt_of_pos ((i : Int) + b) (b := (cs.length : Int)) (by omega)
      obtain ⟨n, mn, an⟩ := at_mem (l := cs) hz0 hz1
      obtain ⟨e, f1, f2, f3⟩ := hcF
      refine q_asg (v := .int (num n ((i : Int) + b) W)) (ev_call (ea_cons (ev_ixL (v := .int n) (ev_var rfl) (ev_op (ev_op (ev_var rfl) (ev_var rfl) rv_I0) (ev_is (ev_len (ev_var rfl) hcL) (by rw [List.length_map])) (rv_I (by omega))) hcL an) (ea_cons (ev_op (ev_var rfl) (ev_var rfl) rv_I0) (ea_cons (ev_var rfl) ea_nil))) ?_) fun H6 e6 => ?_
      · intro H7 e7 Q7 q7 E7
        exact ⟨n, (i : Int) + b, W, e, rfl, f1, f2, f3 n mn, by omega, by omega, q7⟩
      · generalize num n ((i : Int) + b) W = nn
        have hr0 := Int.emod_nonneg (nn / 3) (b := x4) (by omega)
        have hr1 := Int.emod_lt_of_pos (nn / 3) (b := x4) (by omega)
        have hif : Ev (tIf (tTest (tOp rEq (tVar 5) (tC (.int 2)))) (tC (.int 17)) (tC (.int 1))) [some (.ref a), some (.int b), some (.ref c), some (.int W), some (.int M), some (.int x4), some (.ref f), some (.int (i : Int)), some (.int nn)] H6 (.int (if x4 = 2 then 17 else 1)) := by
          refine ev_if (et_test (ev_op (ev_var rfl) ev_c (rv_eq rfl))) (fun hb => ?_) (fun hb => ?_)
          · have e0 : x4 = 2 := V.int.inj (of_decide_eq_true hb)
            rw [if_pos e0]
            exact ev_c
          · have e0 : ¬ x4 = 2 := fun z => (of_decide_eq_false hb) (congrArg V.int z)
            rw [if_neg e0]
            exact ev_c
        refine s_app (e6 _ _ p2) (ev_var rfl) (ev_op (ev_op (ev_op (ev_var rfl) ev_c (rv_I (C := CDiv) ⟨by decide, by decide⟩)) (ev_var rfl) (rv_I (by omega))) hif (rv_I (C := CMul) (.inl ⟨by omega, by omega⟩))) (by rw [List.length_map]; omega) fun H7 e7 => ?_
        refine ⟨rs ++ [nn / 3 % x4 * (if x4 = 2 then 17 else 1)], _, _, rfl, Ex.mut ((p1.trans e6).trans e7) (nf), ?_, ?_, ?_⟩
        · rw [upd_same, List.map_append]
          rfl
        · rw [List.length_append, p3]
          rfl
        · intro x hx
          rcases List.mem_append.mp hx with hx | hx
          · exact p4 x hx
          · rw [List.mem_singleton.mp hx]
            split <;> omega
    · rintro σ' H' ⟨rs, x7, x8', rfl, p1, p2, p3, p4⟩
      refine ⟨.ref f, rfl, ?_⟩
      exact q rs ⟨by omega, by omega, p4⟩ f H' hfH ((e1.trans e14).trans p1) p2
end
section
variable {P : Program} {w : World} {K : PySem.W.Frag} {mg : Str → Option Value} {base : Heap}
/-! ### the law's own step -/
theorem own_dst (a b : Int) : (if a - b > 0 then a - b else -(a - b)) = RD.dst a b := by
  unfold RD.dst
  split <;> omega
theorem ok_w_step (T : Txt K mg) : FnOk P w K mg base CX0 1 T.f_w_step T.fd_w_step ["_law_ring_here"] (spStepped K) := by
  refine T.F_w_step.ok sc_w_step (fun vs H Q E h => ?_) (fun cdv A outer s H vs Q E hr h => ?_)
  · obtain ⟨a, ns, rfl, _⟩ := h
    rfl
  · obtain ⟨a, ns, rfl, hS, h1, hk, q⟩ := h
    refine ⟨_, (pss_cons (ps_set (i := 1) sc_w_step.nd rfl (Or.inl rfl) (pe_lst pa_nil))
      (pss_cons (ps_for PassesOwn.never rfl (pi_range1 (by rfl) T.n_range (pa_cons (pe_callB (r := rLenS K) call_len_seq (by rfl) T.n_len (by decide +kernel) (pa_cons (pv 0) pa_nil)) pa_nil)) (pg_name (i := 2) sc_w_step.nd rfl (Or.inl rfl))
        (pss_cons (ps_set (i := 3) sc_w_step.nd rfl (Or.inl rfl) (pe_op op_sub (pe_ix (r := rIxL K) ix_list (pv 0) (pv 2) (fun _ _ => rfl)) (pe_ix (r := rIxL K) ix_list (pv 0) (pe_op op_mod (pe_op op_add (pv 2) pe_int) (pe_callB (r := rLenS K) call_len_seq (by rfl) T.n_len (by decide +kernel) (pa_cons (pv 0) pa_nil))) (fun _ _ => rfl))))
        (pss_one (ps_expr (pe_bm PySem.F.plainAttrs_list PySem.F.slot_list_append PySem.F.type_list_append mt_append (pv 1) (pa_cons (pe_ifExp (pt_cmpR op_gt (pv 3) pe_int (nomark _)) (pv 3) (pe_un un_neg (pv 3))) pa_nil))))))
      (pss_one (ps_ret (pv 1))))), ?_⟩
    refine q_asgL (el_lst ea_nil (by decide)) fun f H1 nf e1 hf => ?_
    refine q_forR1 (n := (ns.length : Int)) (ea_cons (ev_is (ev_len (ev_var rfl) (ex_l e1 hS)) (by rw [List.length_map])) ea_nil) (by omega) (fun i σ' H' => ∃ (x2 x3 : Option V), σ' = [some (.ref a), some (.ref f), x2, x3] ∧ Ex H H' ∧ H' f = some (.lst (((RD.D ns).take i).map V.int)))
      (fun H2 e2 => ⟨none, none, rfl, e1.trans e2, e2 _ _ hf⟩) ?_ ?_
    · rintro i σ' H' hi ⟨x2, x3, rfl, p1, p2⟩
      have hS' := ex_l p1 hS
      have hi' : i < ns.length := by omega
      have hm : (i + 1) % ns.length < ns.length := Nat.mod_lt _ (by omega)
      have g1 := at_int (RD.ev_lt hi')
      have g2 := at_int (RD.ev_lt hm)
      rw [RD.ev_mod] at g2
      refine q_asg (ev_op (ev_ixL (ev_var rfl) (ev_var rfl) hS' g1) (ev_ixL (ev_var rfl) (ev_is (ev_op (ev_op (ev_var rfl) ev_c rv_I0) (ev_is (ev_len (ev_var rfl) hS') (by rw [List.length_map])) (rv_I (by omega))) (by
        show V.int (((i : Int) + 1) % (ns.length : Int)) = V.int (((i + 1) % ns.length : Nat) : Int)
        rw [Int.natCast_emod]
        rfl)) hS' g2) rv_I0) fun H2 e2 => ?_
      generalize hx : RD.ev ns i = x
      generalize hy : RD.ev ns (i + 1) = y
      have hif : Ev (tIf (tTest (tOp (rI0 fun i j => .bl (decide (j < i))) (tVar 3) (tC (.int 0)))) (tVar 3) (tUn (rU fun i => .int (-i)) (tVar 3))) [some (.ref a), some (.ref f), some (.int (i : Int)), some (.int (x - y))] H2 (.int (RD.dst x y)) := by
        rw [← own_dst]
        refine ev_if (et_test (ev_op (ev_var rfl) ev_c rv_I0)) (fun hb => ?_) (fun hb => ?_)
        · rw [if_pos (of_decide_eq_true hb)]
          exact ev_var rfl
        · rw [if_neg (of_decide_eq_false hb)]
          exact ev_un (ev_var rfl) ru_neg
      refine s_app (e2 _ _ p2) (ev_var rfl) hif (by rw [List.length_map, List.length_take]; omega) fun H3 e3 => ?_
      refine ⟨_, _, rfl, Ex.mut ((p1.trans e2).trans e3) nf, ?_⟩
      rw [upd_same, List.take_add_one, RD.D_get hi', List.map_append, hx, hy]
      rfl
    · rintro σ' H' ⟨x2, x3, rfl, p1, p2⟩
      rw [show ((ns.length : Int)).toNat = ns.length by omega, List.take_of_length_le (by rw [RD.D_len]; exact Nat.le_refl _)] at p2
      exact ⟨.ref f, rfl, q f H' nf p1 p2⟩
end
section
variable {P : Program} {w : World} {K : PySem.W.Frag} {mg : Str → Option Value} {base : Heap}
/-! ### the law's own word: are there signs that bring all to 0 -/
theorem el_cat {σ : L2.St} {H : Hp} {ta tb : TE} {xs ys : List V} (ha : EvL ta σ H xs) (hb : EvL tb σ H ys) (hz : xs.length + ys.length ≤ 100000) : EvL (tOp rCat ta tb) σ H (xs ++ ys) := fun H1 e Q q =>
  ha H1 e _ fun p H2 np e2 hp => hb H2 (e.trans e2) _ fun r H3 nr e3 hr => ⟨p, r, _, _, rfl, rfl, e3 _ _ hp, hr, sz_of hz, fun z nz => q z _ (fresh_back (e2.trans e3) nz) ((e2.trans e3).trans (Ex.new nz)) upd_same⟩
theorem q_sorted {σ : L2.St} {H : Hp} {te : TE} {ns : List Int} {Q : VK} (h : EvL te σ H (ns.map V.int)) (hz : ns.length ≤ 4000)
    (k : ∀ (ks : List Int) p H2, (∀ t : Int, t ∈ ks ↔ t ∈ ns) → ks.length ≤ ns.length → H p = none → Ex H H2 → H2 p = some (.lst (ks.map V.int)) → Q (.ref p) H2) :
    tCB (rSortSetI w) (tCons (tCB (rSetI w K) (tCons te tNil)) tNil) σ H Q :=
  h H (Ex.refl _) _ fun p H2 np e2 hp => ⟨p, ns, rfl, sq_of hp, hz, fun s c ns_ hc => ⟨s, _, c, rfl, upd_same, fun ks r hk hkl nr => by
    have e3 := e2.trans (Ex.new (o := SetO w s (fun j => decide (j ∈ ns)) c) ns_)
    refine k ks r _ (fun t => ?_) (by omega) (fresh_back e3 nr) (e3.trans (Ex.new nr)) upd_same
    rw [hk t, decide_eq_true_eq]⟩⟩
def spEven (K : PySem.W.Frag) : Sp := fun vs H Q _ => ∃ (a : Addr) (ns : List Int), vs = [.ref a] ∧ SqL K H a (ns.map V.int) ∧ ns.length ≤ 8 ∧ ∀ b : Bool, (b = true ↔ RD.Sg ns 0) → RetV (.bl b) H Q
theorem in_ints (x : Int) : ∀ xs : List Int, inV (.int x) (xs.map V.int) = true ↔ x ∈ xs
  | [] => by
    constructor
    · intro h
      cases h
    · intro h
      cases h
  | y :: r => by
    have ih := in_ints x r
    show (eqV (.int y) (.int x) || inV (.int x) (r.map V.int)) = true ↔ _
    rw [Bool.or_eq_true, ih, List.mem_cons]
    have : eqV (.int y) (.int x) = true ↔ x = y := by
      show (y == x) = true ↔ _
      rw [beq_iff_eq]
      exact eq_comm
    rw [this]
theorem flat_ints : ∀ xs : List Int, (xs.map V.int).all flatV = true
  | [] => rfl
  | _ :: r => by
    show (true && (r.map V.int).all flatV) = true
    rw [flat_ints r]
    rfl
theorem ok_w_even (T : Txt K mg) : FnOk P w K mg base CX0 1 T.f_w_even T.fd_w_even ["_law_ring_here"] (spEven K) := by
  refine T.F_w_even.ok sc_w_even (fun vs H Q E h => ?_) (fun cdv A outer s H vs Q E hr h => ?_)
  · obtain ⟨a, ns, rfl, _⟩ := h
    rfl
  · obtain ⟨a, ns, rfl, hS, hl, q⟩ := h
    refine ⟨_, (pss_cons (ps_set (i := 1) sc_w_even.nd rfl (Or.inl rfl) (pe_lst (pa_cons pe_int pa_nil)))
      (pss_cons (ps_for PassesOwn.never rfl (pi_list (pv 0)) (pg_name (i := 2) sc_w_even.nd rfl (Or.inr rfl))
        (pss_one (ps_set (i := 1) sc_w_even.nd rfl (Or.inl rfl) (pe_callB (r := rSortSetI w) (cr_sortSetI rfl) (by rfl) T.n_sorted (by decide +kernel) (pa_cons (pe_callTy (r := rSetI w K) (cr_setI rfl) (by rfl) T.n_set (by decide +kernel) (pa_cons (pe_op op_cat (pe_lc (own := [("_law_total", 3)]) (g := (gName 3)) (tt := tYes) (by rfl) sc_w_even.nd (pi_list (pv 1)) (blkOk_by (own := [("_law_total", 3)]) (N := ["_law_ring_here", "_law_sums", "_law_one", "_law_total"]) (sc := defScope s_w_even) (by decide +kernel)) (fun _ _ _ _ _ => (pg_name (i := 3) sc_w_even.nd rfl (Or.inl rfl))) (fun _ _ _ _ _ => pts_nil) (fun _ _ _ _ _ => (pe_op op_add (pv 3) (pv 2)))) (pe_lc (own := [("_law_total", 3)]) (g := (gName 3)) (tt := tYes) (by rfl) sc_w_even.nd (pi_list (pv 1)) (blkOk_by (own := [("_law_total", 3)]) (N := ["_law_ring_here", "_law_sums", "_law_one", "_law_total"]) (sc := defScope s_w_even) (by decide +kernel)) (fun _ _ _ _ _ => (pg_name (i := 3) sc_w_even.nd rfl (Or.inl rfl))) (fun _ _ _ _ _ => pts_nil) (fun _ _ _ _ _ => (pe_op op_sub (pv 3) (pv 2))))) pa_nil)) pa_nil)))))
      (pss_one (ps_ret (pe_cmpR (r := rIn K false) op_in_seq pe_int (pv 1) (by rfl)))))), ?_⟩
    refine q_asgL (xs := [V.int 0]) (el_lst (ea_cons ev_c ea_nil) (by decide)) fun f H1 nf e1 hf => ?_
    refine q_forLn (ev_var rfl) (ex_l e1 hS) (fun i σ' H' => ∃ (S : Addr) (xs : List Int) (x2 : Option V), σ' = [some (.ref a), some (.ref S), x2, none] ∧ Ex H H' ∧ H' S = some (.lst (xs.map V.int)) ∧ (∀ t, t ∈ xs ↔ RD.Sg (ns.take i) t) ∧ xs.length ≤ 2 ^ i)
      (fun H2 e2 => ⟨f, [0], none, rfl, e1.trans e2, e2 _ _ hf, fun t => ?_, Nat.le_refl _⟩) (fun i σ' H' _ ⟨_, _, _, _, g, _⟩ => ex_l g hS) ?_ ?_
    · rw [List.take_zero, RD.sg_nil, List.mem_singleton]
    · rintro i x σ' H2 hx ⟨S, xs, x2, rfl, g1, g2, g3, g4⟩
      obtain ⟨n, hn, rfl⟩ := map_get hx
      have hi := get_lt hn
      have hp8 : 2 ^ i ≤ 2 ^ 8 := Nat.pow_le_pow_right (by decide) (by omega)
      have hp9 : (2 : Nat) ^ 8 = 256 := by decide
      have L1 : EvL _ _ H2 _ := el_mapI (K := K) (σ := [some (.ref a), some (.ref S), some (.int n), none]) (H := H2) (te := tOp (rI0 fun i j => .int (i + j)) (tVar 3) (tVar 2)) (tl := tVar 1) (j := 3) (vs := [3]) (fun t => t + n) (ei_var rfl (sq_of g2)) (by omega) (fun _ => rfl) (fun _ _ _ _ => ev_op (ev_var rfl) (ev_var rfl) rv_I0)
      have L2_ : EvL _ _ H2 _ := el_mapI (K := K) (σ := [some (.ref a), some (.ref S), some (.int n), none]) (H := H2) (te := tOp (rI0 fun i j => .int (i - j)) (tVar 3) (tVar 2)) (tl := tVar 1) (j := 3) (vs := [3]) (fun t => t - n) (ei_var rfl (sq_of g2)) (by omega) (fun _ => rfl) (fun _ _ _ _ => ev_op (ev_var rfl) (ev_var rfl) rv_I0)
      have L3 := el_cat L1 L2_ (by rw [List.length_map, List.length_map, List.length_map, List.length_map]; omega)
      rw [← List.map_append] at L3
      refine q_sorted (w := w) (K := K) L3 (by rw [List.length_append, List.length_map, List.length_map]; omega) fun ks p H3 hk hkl np e3 hp => ?_
      refine ⟨p, ks, _, rfl, g1.trans e3, hp, fun t => ?_, ?_⟩
      · rw [hk t, RD.take_snoc hn, RD.sg_snoc, List.mem_append, List.mem_map, List.mem_map, ← g3, ← g3]
        constructor
        · rintro (⟨z, hz, rfl⟩ | ⟨z, hz, rfl⟩)
          · exact .inl (by rw [show z + n - n = z by omega]; exact hz)
          · exact .inr (by rw [show z - n + n = z by omega]; exact hz)
        · rintro (hz | hz)
          · exact .inl ⟨_, hz, by omega⟩
          · exact .inr ⟨_, hz, by omega⟩
      · rw [List.length_append, List.length_map, List.length_map] at hkl
        rw [Nat.pow_succ]
        omega
    · rintro σ' H2 ⟨S, xs, x2, rfl, g1, g2, g3, g4⟩
      rw [List.length_map, List.take_of_length_le (Nat.le_refl _)] at g3
      exact s_ret (v := .bl (inV (.int 0) (xs.map V.int))) (ev_op ev_c (ev_var rfl) (rv_isL (sq_of g2) rfl (flat_ints xs))) fun H3 e3 => q _ ((in_ints 0 xs).trans (g3 0)) H3 (g1.trans e3)
theorem ev_even {σ : L2.St} {H : Hp} {ta : TE} {ns : List Int} {E : XK} {b : Bool} (ha : EvI K ta σ H ns) (hl : ns.length ≤ 8) (hb : b = true ↔ RD.Sg ns 0) : Ev (tCall (spEven K) [] E (tCons ta tNil)) σ H (.bl b) := fun H1 e Q q =>
  ha H1 e _ fun p H2 e2 hp => ⟨p, ns, rfl, hp, hl, fun c hc H3 e3 => by
    have : c = b := by
      cases b <;> cases c <;> simp_all
    rw [this]
    exact q H3 (e2.trans e3)⟩
end
section
variable {P : Program} {w : World} {K : PySem.W.Frag} {mg : Str → Option Value} {base : Heap}
/-! ### signs that bring all to a sum: told by trying -/
def sgB : List Int → Int → Bool
  | [], t => decide (t = 0)
  | x :: r, t => sgB r (t - x) || sgB r (t + x)
theorem sg_cons {x t : Int} {l : List Int} : RD.Sg (x :: l) t ↔ RD.Sg l (t - x) ∨ RD.Sg l (t + x) := by
  constructor
  · rintro ⟨ss, h1, h2, h3⟩
    cases ss with
    | nil => cases h1
    | cons s r =>
      have h4 : s * x + RD.dot r l = t := h3
      rcases h2 s List.mem_cons_self with e | e
      · exact .inl ⟨r, Nat.succ.inj h1, fun z hz => h2 z (List.mem_cons_of_mem _ hz), by rw [e] at h4; omega⟩
      · exact .inr ⟨r, Nat.succ.inj h1, fun z hz => h2 z (List.mem_cons_of_mem _ hz), by rw [e] at h4; omega⟩
  · have ext : ∀ {a : List Int} {s : Int}, RD.Sgn a → (s = 1 ∨ s = -1) → RD.Sgn (s :: a) := fun ha hs z hz => by
      rcases List.mem_cons.mp hz with hz | hz
      · rw [hz]
        exact hs
      · exact ha z hz
    rintro (⟨a, h1, h2, h3⟩ | ⟨a, h1, h2, h3⟩)
    · refine ⟨1 :: a, by rw [List.length_cons, List.length_cons, h1], ext h2 (.inl rfl), ?_⟩
      show 1 * x + RD.dot a l = t
      omega
    · refine ⟨-1 :: a, by rw [List.length_cons, List.length_cons, h1], ext h2 (.inr rfl), ?_⟩
      show -1 * x + RD.dot a l = t
      omega
theorem sg_iff : ∀ (l : List Int) (t : Int), sgB l t = true ↔ RD.Sg l t
  | [], t => by rw [RD.sg_nil, sgB, decide_eq_true_eq]
  | x :: r, t => by rw [sg_cons, sgB, Bool.or_eq_true, sg_iff r, sg_iff r]
theorem sg_by {l : List Int} {b : Bool} (h : sgB l 0 = b) : b = true ↔ RD.Sg l 0 := by rw [← h]; exact sg_iff l 0
/-! ### the class of what came told -/
theorem ev_isNv {T : Txt K mg} {σ : L2.St} {H : Hp} {i : Nat} {v : V} {D : Addr} {b : Bool} (h : σ[i]? = some (some v)) (hv : IsNv T H v) (k : PySem.W.kitOne K (.ref T.C_Never) (.ref D) = some b) : Ev (tCB (rIsi K) (tCons (tVar i) (tCons (tC (.ref D)) tNil))) σ H (.bl b) := by
  obtain ⟨x, dx, rfl, g⟩ := hv
  exact ev_isi (ev_var h) (ty_Never T g) (.own D) k
theorem ev_isCm {T : Txt K mg} {σ : L2.St} {H : Hp} {i : Nat} {v : V} {c : Addr} {cs : List Int} {D : Addr} {b : Bool} (h : σ[i]? = some (some v)) (hv : IsCm T H v c cs) (k : PySem.W.kitOne K (.ref T.C_Came) (.ref D) = some b) : Ev (tCB (rIsi K) (tCons (tVar i) (tCons (tC (.ref D)) tNil))) σ H (.bl b) := by
  obtain ⟨x, dx, rfl, g, _⟩ := hv
  exact ev_isi (ev_var h) (ty_Came T g) (.own D) k
theorem ev_isCame {T : Txt K mg} {σ : L2.St} {H : Hp} {ta : TE} {ns : List Int} {E : XK} {D : Addr} {b bC bN : Bool} (ha : EvI K ta σ H ns) (hR : Ring ns) (hb : b = true ↔ RD.Sg ns 0) (kC : PySem.W.kitOne K (.ref T.C_Came) (.ref D) = some bC) (kN : PySem.W.kitOne K (.ref T.C_Never) (.ref D) = some bN) :
    Ev (tCB (rIsi K) (tCons (tCall (spCame T) [] E (tCons ta tNil)) (tCons (tC (.ref D)) tNil))) σ H (.bl (if b then bC else bN)) := fun H1 e Q q =>
  q_came (T := T) (ha.mono e) hR (fun hno v H2 e2 hv => by
    obtain ⟨x, dx, rfl, g⟩ := hv
    have hb0 : b = false := by
      cases b with
      | true => exact absurd (hb.mp rfl) hno
      | false => rfl
    rw [hb0] at q
    exact ⟨_, _, _, _, _, rfl, .own D, ty_Never T g, kN, q H2 e2⟩) (fun hs cs v c H2 _ _ _ _ e2 hv => by
    obtain ⟨x, dx, rfl, g, _⟩ := hv
    rw [hb.mpr hs] at q
    exact ⟨_, _, _, _, _, rfl, .own D, ty_Came T g, kC, q H2 e2⟩)
theorem ev_ring {T : Txt K mg} {σ : L2.St} {H : Hp} {i : Nat} {v : V} {c : Addr} {ns : List Int} (h : σ[i]? = some (some v)) (hc : IsCm T H v c ns) : Ev (tFld K (tVar i) "ring") σ H (.ref c) := fun H1 e Q q => by
  obtain ⟨x, dx, rfl, h1, h2, h3⟩ := hc.ex e
  exact ⟨_, h, x, _, dx, _, _, rfl, h1, T.c_Came, T.na_Came_ring, fsC_r _, q H1 (Ex.refl _)⟩
theorem IsCm.sq {T : Txt K mg} {H : Hp} {v : V} {c : Addr} {ns : List Int} (hc : IsCm T H v c ns) : H c = some (.lst (ns.map V.int)) := hc.elim fun _ h => h.elim fun _ h => h.2.2.1
theorem et_minneg {σ : L2.St} {H : Hp} {ta : TE} {p : Addr} {ns : List Int} (ha : Ev ta σ H (.ref p)) (hp : SqL K H p (ns.map V.int)) (hpos : 0 < ns.length) (hn : ∀ x, x ∈ ns → 0 ≤ x) :
    EvT (tTest (tOp (rI0 fun i j => .bl (decide (i < j))) (tCB (rMin K) (tCons ta tNil)) (tC (.int 0)))) σ H false := fun H1 e Q q =>
  ha H1 e _ fun H2 e2 => ⟨p, ns, rfl, ex_l (e.trans e2) hp, hpos, fun m hm hle => ⟨m, 0, rfl, rfl, false, congrArg V.bl (decide_eq_false (by have := hn m hm; omega)), q H2 e2⟩⟩
end
section
variable {P : Program} {w : World} {K : PySem.W.Frag} {mg : Str → Option Value} {base : Heap}
/-! ### the law -/
def spLaw (K : PySem.W.Frag) : Sp := fun vs H Q _ => ∃ (a : Addr) (ns : List Int), vs = [.ref a] ∧ SqL K H a (ns.map V.int) ∧ ns.length ≤ 63 ∧ (∀ z ∈ ns, Builtin.Int.intBits z ≤ 1048576) ∧ ∀ H', Q (.bl true) H'
theorem mod_nn (W m : Int) (h : 0 < m) : 0 ≤ W % m ∧ W % m < m := ⟨Int.emod_nonneg _ (by omega), Int.emod_lt_of_pos _ h⟩
theorem abs_nn (s : Int) : 0 ≤ (if s < 0 then -s else s) := by split <;> omega
/-! ### the law's own look at an answer of came -/
def spRight (K : PySem.W.Frag) : Sp := fun vs H Q _ => ∃ (a : Addr) (ns : List Int), vs = [.ref a] ∧ SqL K H a (ns.map V.int) ∧ Ring ns ∧ ns.length ≤ 8 ∧ RetV (.bl true) H Q
theorem ok_w_right (T : Txt K mg) : FnOk P w K mg base CX0 6 T.f_w_right T.fd_w_right ["_law_ring_here"] (spRight K) := by
  refine T.F_w_right.ok sc_w_right (fun vs H Q E h => ?_) (fun cdv A outer s H vs Q E hr h => ?_)
  · obtain ⟨a, ns, rfl, _⟩ := h
    rfl
  · obtain ⟨a, ns, rfl, hS, hR, hl8, q⟩ := h
    have hpos := hR.pos
    have hfew := hR.few
    refine ⟨_, (pss_cons (ps_set (i := 1) sc_w_right.nd rfl (Or.inl rfl) (pe_callTy (r := rListS K) call_list_of (by rfl) T.n_list (by decide +kernel) (pa_cons (pv 0) pa_nil)))
      (pss_cons (ps_for PassesOwn.never rfl (pi_range1 (by rfl) T.n_range (pa_cons pe_int pa_nil)) (pg_name (i := 2) sc_w_right.nd rfl (Or.inl rfl))
        (pss_cons (ps_set (i := 3) sc_w_right.nd rfl (Or.inl rfl) (pe_call (ok_came T) (hr.mono (by decide)) (by rfl) T.g_came T.F_came.kp T.b_came .nil pass0 (pa_cons (pv 1) pa_nil)))
        (pss_cons (ps_if (PW.pt (pw_or (pt_not (pt_val (pe_callB (r := rIsi K) call_isi (by rfl) T.n_isinstance (by decide +kernel) (pa_cons (pv 3) (pa_cons (pe_glob (v := .ref T.C_Answer) rfl T.m_Answer rfl) pa_nil))))) (pw_or1 (pt_cmpR op_eq (pe_callB (r := rIsi K) call_isi (by rfl) T.n_isinstance (by decide +kernel) (pa_cons (pv 3) (pa_cons (pe_glob (v := .ref T.C_Came) rfl T.m_Came rfl) pa_nil))) (pe_callB (r := rIsi K) call_isi (by rfl) T.n_isinstance (by decide +kernel) (pa_cons (pv 3) (pa_cons (pe_glob (v := .ref T.C_Never) rfl T.m_Never rfl) pa_nil))) (nomark _)))))
          (pss_one (ps_ret pe_bl))
          pss_nil)
        (pss_cons (ps_if (PW.pt (pw_or (pt_val (pe_callB (r := rIsi K) call_isi (by rfl) T.n_isinstance (by decide +kernel) (pa_cons (pv 3) (pa_cons (pe_glob (v := .ref T.C_Noughts) rfl T.m_Noughts rfl) pa_nil)))) (pw_or (pt_val (pe_callB (r := rIsi K) call_isi (by rfl) T.n_isinstance (by decide +kernel) (pa_cons (pv 3) (pa_cons (pe_glob (v := .ref T.C_Round) rfl T.m_Round rfl) pa_nil)))) (pw_or1 (pt_cmpR (r := rNeD K) (op_neD hr.units) (pv 1) (pv 0) (nomark _))))))
          (pss_one (ps_ret pe_bl))
          pss_nil)
        (pss_cons (ps_if (pt_cmpR op_ne (pe_callB (r := rIsi K) call_isi (by rfl) T.n_isinstance (by decide +kernel) (pa_cons (pv 3) (pa_cons (pe_glob (v := .ref T.C_Came) rfl T.m_Came rfl) pa_nil))) (pe_call (ok_w_even T) (hr.mono (by decide)) (by rfl) T.g_w_even T.F_w_even.kp T.b_w_even .nil pass0 (pa_cons (pv 0) pa_nil)) (nomark _))
          (pss_one (ps_ret pe_bl))
          pss_nil)
        (pss_one (ps_if (pt_val (pe_callB (r := rIsi K) call_isi (by rfl) T.n_isinstance (by decide +kernel) (pa_cons (pv 3) (pa_cons (pe_glob (v := .ref T.C_Came) rfl T.m_Came rfl) pa_nil))))
          (pss_cons (ps_if (PW.pt (pw_or (pt_not (pt_val (pe_callB (r := rIsi K) call_isi (by rfl) T.n_isinstance (by decide +kernel) (pa_cons (pe_fldK (K := K) rfl (pv 3) rfl) (pa_cons (pe_bltn (v := .ty "list") (by rfl) T.n_list (by decide +kernel) rfl) pa_nil))))) (pw_or (pt_cmpR op_ne (pe_callB (r := rLenS K) call_len_seq (by rfl) T.n_len (by decide +kernel) (pa_cons (pe_fldK (K := K) rfl (pv 3) rfl) pa_nil)) (pe_callB (r := rLenS K) call_len_seq (by rfl) T.n_len (by decide +kernel) (pa_cons (pv 0) pa_nil)) (nomark _)) (pw_or1 (pt_cmpR op_lt (pe_callB (r := rMin K) (cr_min rfl) (by rfl) T.n_min (by decide +kernel) (pa_cons (pe_fldK (K := K) rfl (pv 3) rfl) pa_nil)) pe_int (nomark _))))))
            (pss_one (ps_ret pe_bl))
            pss_nil)
          (pss_cons (ps_if (PW.pt (pw_or (pt_val (pe_callB (r := rAny K) (cr_any rfl) (by rfl) T.n_any (by decide +kernel) (pa_cons (pe_lc (own := [("_law_one", 4)]) (g := (gName 4)) (tt := tYes) (by rfl) sc_w_right.nd (pi_list (pe_fldK (K := K) rfl (pv 3) rfl)) (blkOk_by (own := [("_law_one", 4)]) (N := ["_law_ring_here", "_law_handed", "_law_again", "_law_answer", "_law_one"]) (sc := defScope s_w_right) (by decide +kernel)) (fun _ _ _ _ _ => (pg_name (i := 4) sc_w_right.nd rfl (Or.inl rfl))) (fun _ _ _ _ _ => pts_nil) (fun _ _ _ _ _ => (pe_callB (r := rIsi K) call_isi (by rfl) T.n_isinstance (by decide +kernel) (pa_cons (pv 4) (pa_cons (pe_bltn (v := .ty "bool") (by rfl) T.n_bool (by decide +kernel) rfl) pa_nil))))) pa_nil))) (pw_or1 (pt_cmpR (r := rNeD K) (op_neD hr.units) (pe_call (ok_w_step T) (hr.mono (by decide)) (by rfl) T.g_w_step T.F_w_step.kp T.b_w_step .nil pass0 (pa_cons (pe_fldK (K := K) rfl (pv 3) rfl) pa_nil)) (pv 0) (nomark _)))))
            (pss_one (ps_ret pe_bl))
            pss_nil)
          (pss_one (ps_expr (pe_bm PySem.F.plainAttrs_list PySem.F.slot_list_append PySem.F.type_list_append mt_append (pe_fldK (K := K) rfl (pv 3) rfl) (pa_cons pe_int pa_nil))))))
          pss_nil)))))))
      (pss_one (ps_ret pe_bl)))), ?_⟩
    refine q_asgL (el_list (ev_var rfl) hS) fun c H1 nc e1 hc => ?_
    have hS1 := ex_l e1 hS
    refine q_forR1 (n := 2) (ea_cons ev_c ea_nil) (by decide) (fun i σ' H' => ∃ x2 x3 x4 : Option V, σ' = [some (.ref a), some (.ref c), x2, x3, x4] ∧ Ex H1 H') (fun H2 e2 => ⟨_, _, _, rfl, e2⟩) ?_ ?_
    · rintro j σ' H2 hj ⟨x2, x3, x4, rfl, e2⟩
      refine q_came (T := T) (ns := ns) (ei_var rfl (sq_of (e2 _ _ hc))) hR (fun hno v H3 e3 hv => ?_) (fun hsg cs v d H3 hcl hcn hD nd e3 hv => ?_)
      · have e13 := e2.trans e3
        have hS3 := ex_l e13 hS1
        have hc3 := e13 _ _ hc
        refine q_when (b := false) (et_is (et_or (a := false) (b := false) (et_is (et_not (et_B (ev_isNv (T := T) rfl hv (kit_Never_Answer T)))) rfl) fun _ =>
          et_is (et_test (ev_op (ev_isNv (T := T) rfl hv (kit_Never_Came T)) (ev_isNv (T := T) rfl hv (kit_Never_Never T)) (rv_eq rfl))) rfl) rfl) (fun z => nomatch z) fun _ H4 e4 => ?_
        have hv4 := hv.ex e4
        refine q_when (b := false) (et_is (et_or (a := false) (b := false) (et_B (ev_isNv (T := T) rfl hv4 (kit_Never_Noughts T))) fun _ =>
          et_or (a := false) (b := false) (et_B (ev_isNv (T := T) rfl hv4 (kit_Never_Round T))) fun _ =>
          et_test (ev_neI0 (ei_var rfl (sq_of (e4 _ _ hc3))) (ei_var rfl (ex_l e4 hS3)) rfl)) rfl) (fun z => nomatch z) fun _ H5 e5 => ?_
        have hv5 := hv4.ex e5
        refine q_when (b := false) (et_is (et_test (ev_op (ev_isNv (T := T) rfl hv5 (kit_Never_Came T)) (ev_even (b := false) (ei_var rfl (ex_l (e4.trans e5) hS3)) hl8 ⟨fun z => (by cases z), fun z => absurd z hno⟩) (rv_ne rfl))) rfl) (fun z => nomatch z) fun _ H6 e6 => ?_
        have hv6 := hv5.ex e6
        exact s_when (b := false) (et_B (ev_isNv (T := T) rfl hv6 (kit_Never_Came T))) (fun z => nomatch z) fun _ H7 e7 => ⟨_, _, _, rfl, (((e13.trans e4).trans e5).trans e6).trans e7⟩
      · have e13 := e2.trans e3
        have hS3 := ex_l e13 hS1
        have hc3 := e13 _ _ hc
        refine q_when (b := false) (et_is (et_or (a := false) (b := false) (et_is (et_not (et_B (ev_isCm (T := T) rfl hv (kit_Came_Answer T)))) rfl) fun _ =>
          et_is (et_test (ev_op (ev_isCm (T := T) rfl hv (kit_Came_Came T)) (ev_isCm (T := T) rfl hv (kit_Came_Never T)) (rv_eq rfl))) rfl) rfl) (fun z => nomatch z) fun _ H4 e4 => ?_
        have hv4 := hv.ex e4
        refine q_when (b := false) (et_is (et_or (a := false) (b := false) (et_B (ev_isCm (T := T) rfl hv4 (kit_Came_Noughts T))) fun _ =>
          et_or (a := false) (b := false) (et_B (ev_isCm (T := T) rfl hv4 (kit_Came_Round T))) fun _ =>
          et_test (ev_neI0 (ei_var rfl (sq_of (e4 _ _ hc3))) (ei_var rfl (ex_l e4 hS3)) rfl)) rfl) (fun z => nomatch z) fun _ H5 e5 => ?_
        have hv5 := hv4.ex e5
        refine q_when (b := false) (et_is (et_test (ev_op (ev_isCm (T := T) rfl hv5 (kit_Came_Came T)) (ev_even (b := true) (ei_var rfl (ex_l (e4.trans e5) hS3)) hl8 ⟨fun _ => hsg, fun _ => rfl⟩) (rv_ne rfl))) rfl) (fun z => nomatch z) fun _ H6 e6 => ?_
        have hv6 := hv5.ex e6
        have hS6 := ex_l ((e4.trans e5).trans e6) hS3
        refine s_when (b := true) (et_B (ev_isCm (T := T) rfl hv6 (kit_Came_Came T))) (fun _ H7 e7 => ?_) (fun z => nomatch z)
        have hv7 := hv6.ex e7
        have hS7 := ex_l e7 hS6
        refine q_when (b := false) (et_is (et_or (a := false) (b := false) (et_is (et_not (et_B (ev_isi (b := true) (ev_ring (T := T) rfl hv7) (tyL (K := K) (sq_of hv7.sq)) (.ty _) (kit_ty (by decide +kernel))))) rfl) fun _ =>
          et_or (a := false) (b := false) (et_is (et_test (ev_op (ev_len (ev_ring (T := T) rfl hv7) (sq_of hv7.sq)) (ev_len (ev_var rfl) hS7) (rv_ne rfl))) (by rw [List.length_map, List.length_map, hcl]; simp)) fun _ =>
          et_minneg (ev_ring (T := T) rfl hv7) (sq_of hv7.sq) (by omega) hcn) rfl) (fun z => nomatch z) fun _ H8 e8 => ?_
        have hv8 := hv7.ex e8
        have hS8 := ex_l e8 hS7
        refine q_when (b := false) (et_is (et_or (a := false) (b := false) (et_B (ev_anyEI (ei_ring (T := T) rfl hv8) (by omega) (fun _ => rfl) fun i n H9 e9 hn => ?_)) fun _ =>
          et_test (ev_neI0 (ei_L (fun H9 e9 Q9 q9 => ?_)) (ei_var rfl hS8) hD)) rfl) (fun z => nomatch z) fun _ H9 e9 => ?_
        · exact ev_isi (b := false) (ev_var rfl) (.base (.int n)) (.ty _) (kit_ty (by decide +kernel))
        · exact (ei_ring (T := T) rfl hv8) H9 e9 _ fun p H10 e10 hp => ⟨p, cs, rfl, hp, by omega, by omega, fun r H11 nr e11 hr => q9 r H11 (fresh_back e10 nr) (e10.trans e11) hr⟩
        have hv9 := hv8.ex e9
        have ndH1 : H1 d = none := fresh_back e2 nd
        refine s_app hv9.sq (ev_ring (T := T) rfl hv9) ev_c (by rw [List.length_map]; omega) fun H10 e10 => ?_
        exact ⟨_, _, _, rfl, Ex.mut ((((((((e13.trans e4).trans e5).trans e6).trans e7).trans e8).trans e9).trans e10)) ndH1⟩
    · rintro σ' H2 ⟨x2, x3, x4, rfl, e2⟩
      exact s_ret (v := .bl true) ev_c fun H3 e3 => q H3 ((e1.trans e2).trans e3)
theorem ev_right {σ : L2.St} {H : Hp} {ta : TE} {ns : List Int} {E : XK} (ha : EvI K ta σ H ns) (hR : Ring ns) (hl : ns.length ≤ 8) : Ev (tCall (spRight K) [] E (tCons ta tNil)) σ H (.bl true) := fun H1 e Q q =>
  ha H1 e _ fun p H2 e2 hp => ⟨p, ns, rfl, hp, hR, hl, fun H3 e3 => q H3 (e2.trans e3)⟩
theorem Ring.take {ns : List Int} (h : Ring ns) : Ring (ns.take 8) := ⟨by rw [List.length_take]; have := h.pos; omega, by rw [List.length_take]; omega, fun x hx => h.bd x (List.mem_of_mem_take hx)⟩
theorem ok_law (T : Txt K mg) : FnOk P w K mg base CX0 8 T.f_law T.fd_law ["_law_script"] (spLaw K) := by
  refine T.F_law.ok sc_law (fun vs H Q E h => ?_) (fun cdv A outer s H vs Q E hr h => ?_)
  · obtain ⟨a, ns, rfl, _⟩ := h
    rfl
  · obtain ⟨a, ns, rfl, hS, hl, hb, q⟩ := h
    have hF := few_of hb
    refine ⟨_, (pss_cons (ps_for PassesOwn.never rfl (pi_list (pe_lst (pa_cons pe_int (pa_cons pe_int (pa_cons pe_int pa_nil))))) (pg_name (i := 1) sc_law.nd rfl (Or.inl rfl))
        (pss_cons (ps_set (i := 2) sc_law.nd rfl (Or.inl rfl) (pe_slice (r := rSlL K) sl_list (pe_call (ok_w_ring T) (hr.mono (by decide)) (by rfl) T.g_w_ring T.F_w_ring.kp T.b_w_ring .nil pass0 (pa_cons (pv 0) (pa_cons (pv 1) pa_nil))) po_none (po_some pe_int)))
        (pss_one (ps_if (PW.pt (pw_or (pt_not (pt_val (pe_call (ok_w_right T) (hr.mono (by decide)) (by rfl) T.g_w_right T.F_w_right.kp T.b_w_right .nil pass0 (pa_cons (pv 2) pa_nil)))) (pw_or (pt_not (pt_val (pe_call (ok_w_right T) (hr.mono (by decide)) (by rfl) T.g_w_right T.F_w_right.kp T.b_w_right .nil pass0 (pa_cons (pe_call (ok_w_step T) (hr.mono (by decide)) (by rfl) T.g_w_step T.F_w_step.kp T.b_w_step .nil pass0 (pa_cons (pv 2) pa_nil)) pa_nil)))) (pw_or1 (pt_not (pt_val (pe_callB (r := rIsi K) call_isi (by rfl) T.n_isinstance (by decide +kernel) (pa_cons (pe_call (ok_came T) (hr.mono (by decide)) (by rfl) T.g_came T.F_came.kp T.b_came .nil pass0 (pa_cons (pe_call (ok_w_step T) (hr.mono (by decide)) (by rfl) T.g_w_step T.F_w_step.kp T.b_w_step .nil pass0 (pa_cons (pv 2) pa_nil)) pa_nil)) (pa_cons (pe_glob (v := .ref T.C_Came) rfl T.m_Came rfl) pa_nil)))))))))
          (pss_one (ps_ret pe_bl))
          pss_nil))))
      (pss_one (ps_ret (pe_and (pe_callB (r := rIsi K) call_isi (by rfl) T.n_isinstance (by decide +kernel) (pa_cons (pe_call (ok_came T) (hr.mono (by decide)) (by rfl) T.g_came T.F_came.kp T.b_came .nil pass0 (pa_cons (pe_lst (pa_cons pe_int (pa_cons pe_int (pa_cons pe_int pa_nil)))) pa_nil)) (pa_cons (pe_glob (v := .ref T.C_Never) rfl T.m_Never rfl) pa_nil))) (pe_and (pe_callB (r := rIsi K) call_isi (by rfl) T.n_isinstance (by decide +kernel) (pa_cons (pe_call (ok_came T) (hr.mono (by decide)) (by rfl) T.g_came T.F_came.kp T.b_came .nil pass0 (pa_cons (pe_lst (pa_cons pe_int (pa_cons pe_int (pa_cons pe_int pa_nil)))) pa_nil)) (pa_cons (pe_glob (v := .ref T.C_Came) rfl T.m_Came rfl) pa_nil))) (pe_one (pe_callB (r := rIsi K) call_isi (by rfl) T.n_isinstance (by decide +kernel) (pa_cons (pe_call (ok_came T) (hr.mono (by decide)) (by rfl) T.g_came T.F_came.kp T.b_came .nil pass0 (pa_cons (pe_lst (pa_cons pe_int pa_nil)) pa_nil)) (pa_cons (pe_glob (v := .ref T.C_Never) rfl T.m_Never rfl) pa_nil))))))))), ?_⟩
    refine n_forL (xs := [.int 0, .int 1, .int 3]) (el_lst (ea_cons ev_c (ea_cons ev_c (ea_cons ev_c ea_nil))) (by decide)) (fun i σ' => ∃ x1 x2 : Option V, σ' = [some (.ref a), x1, x2]) ⟨none, none, rfl⟩ ?_ ?_
    · rintro i x σ' H2 Nx hi e2 ⟨x1, x2, rfl⟩ hNx
      obtain ⟨by_, hby, rfl⟩ : ∃ b : Int, (0 ≤ b ∧ b ≤ 100) ∧ x = .int b := by
        match i, hi with
        | 0, hi => exact ⟨0, by decide, (Option.some.inj hi).symm⟩
        | 1, hi => exact ⟨1, by decide, (Option.some.inj hi).symm⟩
        | 2, hi => exact ⟨3, by decide, (Option.some.inj hi).symm⟩
      refine ⟨.ref a, rfl, .int by_, rfl, a, ns, by_, rfl, ex_l e2 hS, hl, hF, hby.1, hby.2, fun rs0 hR0 r0 H3 nr e3 hr3 => ⟨8, rfl, r0, _, rfl, sq_of hr3, fun r nr4 => ?_⟩⟩
      have ec : cutV (rs0.map V.int) none (some 8) = (rs0.take 8).map V.int := by
        rw [show (some (8 : Int)) = some ((8 : Nat) : Int) from rfl, cut_hi2, List.map_take]
      have e4 := e3.trans (Ex.new (o := .lst (cutV (rs0.map V.int) none (some 8))) nr4)
      have hr4 : upd H3 r (.lst (cutV (rs0.map V.int) none (some 8))) r = some (.lst ((rs0.take 8).map V.int)) := by
        rw [upd_same, ec]
      generalize upd H3 r (.lst (cutV (rs0.map V.int) none (some 8))) = H4 at e4 hr4
      have hR := hR0.take
      have hl8 : (rs0.take 8).length ≤ 8 := by rw [List.length_take]; omega
      generalize rs0.take 8 = rs at hr4 hR hl8
      have hD8 : (RD.D rs).length ≤ 8 := by rw [RD.D_len]; exact hl8
      have hpos := hR.pos
      refine s_when (b := false) (et_is (et_or (a := false) (b := false) (et_is (et_not (et_B (ev_right (ei_var rfl (sq_of hr4)) hR hl8))) rfl) fun _ =>
        et_or (a := false) (b := false) (et_is (et_not (et_B (ev_right (ei_L (el_stepped (ei_var rfl (sq_of hr4)) hR)) hR.D hD8))) rfl) fun _ =>
        et_is (et_not (et_B (ev_isCame (T := T) (b := true) (ei_L (el_stepped (ei_var rfl (sq_of hr4)) hR)) hR.D ⟨fun _ => RD.D_has (by omega) rfl, fun _ => rfl⟩ (kit_Came_Came T) (kit_Never_Came T)))) rfl) rfl) (fun z => nomatch z) fun _ H5 e5 => hNx _ _ (e4.trans e5) ⟨_, _, rfl⟩
    · rintro σ' H2 e2 ⟨x1, x2, rfl⟩
      refine s_ret (v := .bl true) (ev_is (ev_andV (a := true) (b := true) (ev_isCame (T := T) (b := false) (ei_L (ns := [1, 1, 1]) (el_lst (ea_cons ev_c (ea_cons ev_c (ea_cons ev_c ea_nil))) (by decide))) (ring_by (by decide)) (sg_by (by decide)) (kit_Came_Never T) (kit_Never_Never T)) fun _ =>
        ev_is (ev_andV (a := true) (b := true) (ev_isCame (T := T) (b := true) (ei_L (ns := [1, 2, 3]) (el_lst (ea_cons ev_c (ea_cons ev_c (ea_cons ev_c ea_nil))) (by decide))) (ring_by (by decide)) (sg_by (by decide)) (kit_Came_Came T) (kit_Never_Came T)) fun _ =>
        ev_isCame (T := T) (b := false) (ei_L (ns := [5]) (el_lst (ea_cons ev_c ea_nil) (by decide))) (ring_by (by decide)) (sg_by (by decide)) (kit_Came_Never T) (kit_Never_Never T)) rfl) rfl) fun H3 e3 => q H3
end
theorem law_of {l : PySem.W.OpenLaw} {w : World} {K : PySem.W.Frag} {h : Heap} {mg : Str → Option Value} {fa : Addr} (X : K.In h) (G : h.Ns mainGlobals mg)
    (hfa : mg "law" = some (.ref fa)) (N : Nonempty (Txt K mg)) : ∃ fd : FuncData, (∀ (s : Shared) (v : Value), BindsTo s fd ⟨[v], []⟩ [("_law_script", v)]) ∧
    ∀ base : Heap, K.In base → base.Ns mainGlobals mg → FnOk l.prog w K mg base CX0 8 fa fd ["_law_script"] (spLaw K) := by
  obtain ⟨T⟩ := N
  have e := hfa.symm.trans T.g_law
  cases e
  refine ⟨T.fd_law, fun s v => ?_, fun base _ _ => ok_law T⟩
  obtain ⟨oc, od, kV, doc, pm, an, cdv, ct, osl, hfd, _, _⟩ := T.F_law.ex
  rw [hfd]
  exact .of_eq rfl
theorem txt_mk {K : PySem.W.Frag} {h : Heap} {mg : Str → Option Value} (X : K.In h) (G : h.Ns mainGlobals mg)
    {t_LONGEST : Tok}
    {t_GREATEST : Tok}
    {C_RingError : Addr}
    {C_BadRing : Addr}
    {C_Answer : Addr}
    {C_Noughts : Addr}
    {C_Round : Addr}
    {C_Came : Addr}
    {C_Never : Addr}
    {f_wall : Addr} {od_wall an_wall : Option Addr} {sl_wall : Array (Option Value)} {oc_wall kV_wall dc_wall pm_wall cd_wall ct_wall : Value}
    {f_is_whole : Addr} {od_is_whole an_is_whole : Option Addr} {sl_is_whole : Array (Option Value)} {oc_is_whole kV_is_whole dc_is_whole pm_is_whole cd_is_whole ct_is_whole : Value}
    {f_asked_ring : Addr} {od_asked_ring an_asked_ring : Option Addr} {sl_asked_ring : Array (Option Value)} {oc_asked_ring kV_asked_ring dc_asked_ring pm_asked_ring cd_asked_ring ct_asked_ring : Value}
    {f_Noughts_init : Addr} {od_Noughts_init an_Noughts_init : Option Addr} {sl_Noughts_init : Array (Option Value)} {oc_Noughts_init kV_Noughts_init dc_Noughts_init pm_Noughts_init cd_Noughts_init ct_Noughts_init : Value}
    {f_Noughts_shows : Addr} {od_Noughts_shows an_Noughts_shows : Option Addr} {sl_Noughts_shows : Array (Option Value)} {oc_Noughts_shows kV_Noughts_shows dc_Noughts_shows pm_Noughts_shows cd_Noughts_shows ct_Noughts_shows : Value}
    {f_Round_init : Addr} {od_Round_init an_Round_init : Option Addr} {sl_Round_init : Array (Option Value)} {oc_Round_init kV_Round_init dc_Round_init pm_Round_init cd_Round_init ct_Round_init : Value}
    {f_Round_shows : Addr} {od_Round_shows an_Round_shows : Option Addr} {sl_Round_shows : Array (Option Value)} {oc_Round_shows kV_Round_shows dc_Round_shows pm_Round_shows cd_Round_shows ct_Round_shows : Value}
    {f_Came_init : Addr} {od_Came_init an_Came_init : Option Addr} {sl_Came_init : Array (Option Value)} {oc_Came_init kV_Came_init dc_Came_init pm_Came_init cd_Came_init ct_Came_init : Value}
    {f_heaps_of : Addr} {od_heaps_of an_heaps_of : Option Addr} {sl_heaps_of : Array (Option Value)} {oc_heaps_of kV_heaps_of dc_heaps_of pm_heaps_of cd_heaps_of ct_heaps_of : Value}
    {f_came : Addr} {od_came an_came : Option Addr} {sl_came : Array (Option Value)} {oc_came kV_came dc_came pm_came cd_came ct_came : Value}
    {f_w_number : Addr} {od_w_number an_w_number : Option Addr} {sl_w_number : Array (Option Value)} {oc_w_number kV_w_number dc_w_number pm_w_number cd_w_number ct_w_number : Value}
    {f_w_ring : Addr} {od_w_ring an_w_ring : Option Addr} {sl_w_ring : Array (Option Value)} {oc_w_ring kV_w_ring dc_w_ring pm_w_ring cd_w_ring ct_w_ring : Value}
    {f_w_step : Addr} {od_w_step an_w_step : Option Addr} {sl_w_step : Array (Option Value)} {oc_w_step kV_w_step dc_w_step pm_w_step cd_w_step ct_w_step : Value}
    {f_w_even : Addr} {od_w_even an_w_even : Option Addr} {sl_w_even : Array (Option Value)} {oc_w_even kV_w_even dc_w_even pm_w_even cd_w_even ct_w_even : Value}
    {f_w_right : Addr} {od_w_right an_w_right : Option Addr} {sl_w_right : Array (Option Value)} {oc_w_right kV_w_right dc_w_right pm_w_right cd_w_right ct_w_right : Value}
    {f_law : Addr} {od_law an_law : Option Addr} {sl_law : Array (Option Value)} {oc_law kV_law dc_law pm_law cd_law ct_law : Value}
    (z_abs : PySem.W.nsIn K mainGlobals "abs" = some none)
    (z_all : PySem.W.nsIn K mainGlobals "all" = some none)
    (z_any : PySem.W.nsIn K mainGlobals "any" = some none)
    (z_bool : PySem.W.nsIn K mainGlobals "bool" = some none)
    (z_int : PySem.W.nsIn K mainGlobals "int" = some none)
    (z_isinstance : PySem.W.nsIn K mainGlobals "isinstance" = some none)
    (z_len : PySem.W.nsIn K mainGlobals "len" = some none)
    (z_list : PySem.W.nsIn K mainGlobals "list" = some none)
    (z_min : PySem.W.nsIn K mainGlobals "min" = some none)
    (z_range : PySem.W.nsIn K mainGlobals "range" = some none)
    (z_set : PySem.W.nsIn K mainGlobals "set" = some none)
    (z_sorted : PySem.W.nsIn K mainGlobals "sorted" = some none)
    (z_sum : PySem.W.nsIn K mainGlobals "sum" = some none)
    (z_zip : PySem.W.nsIn K mainGlobals "zip" = some none)
    (q_LONGEST : PySem.W.nsIn K mainGlobals "LONGEST" = some (some (.int 12 t_LONGEST)))
    (q_GREATEST : PySem.W.nsIn K mainGlobals "GREATEST" = some (some (.int 200 t_GREATEST)))
    (aC_RingError : PySem.W.nsIn K mainGlobals "RingError" = some (some (.ref C_RingError)))
    (aC_BadRing : PySem.W.nsIn K mainGlobals "BadRing" = some (some (.ref C_BadRing)))
    (aC_Answer : PySem.W.nsIn K mainGlobals "Answer" = some (some (.ref C_Answer)))
    (aC_Noughts : PySem.W.nsIn K mainGlobals "Noughts" = some (some (.ref C_Noughts)))
    (aC_Round : PySem.W.nsIn K mainGlobals "Round" = some (some (.ref C_Round)))
    (aC_Came : PySem.W.nsIn K mainGlobals "Came" = some (some (.ref C_Came)))
    (aC_Never : PySem.W.nsIn K mainGlobals "Never" = some (some (.ref C_Never)))
    (pg_Noughts : PySem.W.plainGet K C_Noughts Str.empty = true)
    (hd_Noughts : PySem.W.hasDictIn K C_Noughts = true)
    (po_Noughts : PySem.W.plainOver K C_Noughts = true)
    (sa_Noughts : PySem.W.findIn K (.ref C_Noughts) "__setattr__" = some (some (.builtin "object.__setattr__")))
    (mk_Noughts : PySem.W.makesIn K C_Noughts = true)
    (kc_Noughts : PySem.W.keepIn K (.ref C_Noughts) = true)
    (na_Noughts_steps : PySem.W.findIn K (.ref C_Noughts) "steps" = some none)
    (pg_Round : PySem.W.plainGet K C_Round Str.empty = true)
    (hd_Round : PySem.W.hasDictIn K C_Round = true)
    (po_Round : PySem.W.plainOver K C_Round = true)
    (sa_Round : PySem.W.findIn K (.ref C_Round) "__setattr__" = some (some (.builtin "object.__setattr__")))
    (mk_Round : PySem.W.makesIn K C_Round = true)
    (kc_Round : PySem.W.keepIn K (.ref C_Round) = true)
    (na_Round_steps : PySem.W.findIn K (.ref C_Round) "steps" = some none)
    (na_Round_length : PySem.W.findIn K (.ref C_Round) "length" = some none)
    (na_Round_number : PySem.W.findIn K (.ref C_Round) "number" = some none)
    (pg_Came : PySem.W.plainGet K C_Came Str.empty = true)
    (hd_Came : PySem.W.hasDictIn K C_Came = true)
    (po_Came : PySem.W.plainOver K C_Came = true)
    (sa_Came : PySem.W.findIn K (.ref C_Came) "__setattr__" = some (some (.builtin "object.__setattr__")))
    (mk_Came : PySem.W.makesIn K C_Came = true)
    (kc_Came : PySem.W.keepIn K (.ref C_Came) = true)
    (na_Came_ring : PySem.W.findIn K (.ref C_Came) "ring" = some none)
    (pg_Never : PySem.W.plainGet K C_Never Str.empty = true)
    (hd_Never : PySem.W.hasDictIn K C_Never = true)
    (po_Never : PySem.W.plainOver K C_Never = true)
    (sa_Never : PySem.W.findIn K (.ref C_Never) "__setattr__" = some (some (.builtin "object.__setattr__")))
    (mk_Never : PySem.W.makesIn K C_Never = true)
    (kc_Never : PySem.W.keepIn K (.ref C_Never) = true)
    (pi_Never : PySem.W.findIn K (.ref C_Never) "__init__" = some (some (.builtin "object.__init__")))
    (a_wall : PySem.W.nsIn K mainGlobals "_wall" = some (some (.ref f_wall)))
    (l_wall : K.lookup f_wall = some ⟨oc_wall, od_wall, .func (PySem.W.fnOf "_wall" "_wall" (defArgs s_wall) (defBody s_wall) (defScope s_wall) .none kV_wall dc_wall pm_wall an_wall cd_wall ct_wall), sl_wall⟩)
    (cc_wall : PySem.W.codeIn K cd_wall "_wall" = true)
    (kk_wall : PySem.W.keepIn K (.ref f_wall) = true)
    (a_is_whole : PySem.W.nsIn K mainGlobals "is_whole" = some (some (.ref f_is_whole)))
    (l_is_whole : K.lookup f_is_whole = some ⟨oc_is_whole, od_is_whole, .func (PySem.W.fnOf "is_whole" "is_whole" (defArgs s_is_whole) (defBody s_is_whole) (defScope s_is_whole) .none kV_is_whole dc_is_whole pm_is_whole an_is_whole cd_is_whole ct_is_whole), sl_is_whole⟩)
    (cc_is_whole : PySem.W.codeIn K cd_is_whole "is_whole" = true)
    (kk_is_whole : PySem.W.keepIn K (.ref f_is_whole) = true)
    (a_asked_ring : PySem.W.nsIn K mainGlobals "asked_ring" = some (some (.ref f_asked_ring)))
    (l_asked_ring : K.lookup f_asked_ring = some ⟨oc_asked_ring, od_asked_ring, .func (PySem.W.fnOf "asked_ring" "asked_ring" (defArgs s_asked_ring) (defBody s_asked_ring) (defScope s_asked_ring) .none kV_asked_ring dc_asked_ring pm_asked_ring an_asked_ring cd_asked_ring ct_asked_ring), sl_asked_ring⟩)
    (cc_asked_ring : PySem.W.codeIn K cd_asked_ring "asked_ring" = true)
    (kk_asked_ring : PySem.W.keepIn K (.ref f_asked_ring) = true)
    (a_Noughts_init : PySem.W.findIn K (.ref C_Noughts) "__init__" = some (some (.ref f_Noughts_init)))
    (i_Noughts_init : PySem.W.isFn K (.ref f_Noughts_init) = true)
    (l_Noughts_init : K.lookup f_Noughts_init = some ⟨oc_Noughts_init, od_Noughts_init, .func (PySem.W.fnOf "__init__" "Noughts.__init__" (defArgs s_Noughts_init) (defBody s_Noughts_init) (defScope s_Noughts_init) .none kV_Noughts_init dc_Noughts_init pm_Noughts_init an_Noughts_init cd_Noughts_init ct_Noughts_init), sl_Noughts_init⟩)
    (cc_Noughts_init : PySem.W.codeIn K cd_Noughts_init "Noughts.__init__" = true)
    (kk_Noughts_init : PySem.W.keepIn K (.ref f_Noughts_init) = true)
    (a_Noughts_shows : PySem.W.findIn K (.ref C_Noughts) "shows" = some (some (.ref f_Noughts_shows)))
    (i_Noughts_shows : PySem.W.isFn K (.ref f_Noughts_shows) = true)
    (l_Noughts_shows : K.lookup f_Noughts_shows = some ⟨oc_Noughts_shows, od_Noughts_shows, .func (PySem.W.fnOf "shows" "Noughts.shows" (defArgs s_Noughts_shows) (defBody s_Noughts_shows) (defScope s_Noughts_shows) .none kV_Noughts_shows dc_Noughts_shows pm_Noughts_shows an_Noughts_shows cd_Noughts_shows ct_Noughts_shows), sl_Noughts_shows⟩)
    (cc_Noughts_shows : PySem.W.codeIn K cd_Noughts_shows "Noughts.shows" = true)
    (kk_Noughts_shows : PySem.W.keepIn K (.ref f_Noughts_shows) = true)
    (a_Round_init : PySem.W.findIn K (.ref C_Round) "__init__" = some (some (.ref f_Round_init)))
    (i_Round_init : PySem.W.isFn K (.ref f_Round_init) = true)
    (l_Round_init : K.lookup f_Round_init = some ⟨oc_Round_init, od_Round_init, .func (PySem.W.fnOf "__init__" "Round.__init__" (defArgs s_Round_init) (defBody s_Round_init) (defScope s_Round_init) .none kV_Round_init dc_Round_init pm_Round_init an_Round_init cd_Round_init ct_Round_init), sl_Round_init⟩)
    (cc_Round_init : PySem.W.codeIn K cd_Round_init "Round.__init__" = true)
    (kk_Round_init : PySem.W.keepIn K (.ref f_Round_init) = true)
    (a_Round_shows : PySem.W.findIn K (.ref C_Round) "shows" = some (some (.ref f_Round_shows)))
    (i_Round_shows : PySem.W.isFn K (.ref f_Round_shows) = true)
    (l_Round_shows : K.lookup f_Round_shows = some ⟨oc_Round_shows, od_Round_shows, .func (PySem.W.fnOf "shows" "Round.shows" (defArgs s_Round_shows) (defBody s_Round_shows) (defScope s_Round_shows) .none kV_Round_shows dc_Round_shows pm_Round_shows an_Round_shows cd_Round_shows ct_Round_shows), sl_Round_shows⟩)
    (cc_Round_shows : PySem.W.codeIn K cd_Round_shows "Round.shows" = true)
    (kk_Round_shows : PySem.W.keepIn K (.ref f_Round_shows) = true)
    (a_Came_init : PySem.W.findIn K (.ref C_Came) "__init__" = some (some (.ref f_Came_init)))
    (i_Came_init : PySem.W.isFn K (.ref f_Came_init) = true)
    (l_Came_init : K.lookup f_Came_init = some ⟨oc_Came_init, od_Came_init, .func (PySem.W.fnOf "__init__" "Came.__init__" (defArgs s_Came_init) (defBody s_Came_init) (defScope s_Came_init) .none kV_Came_init dc_Came_init pm_Came_init an_Came_init cd_Came_init ct_Came_init), sl_Came_init⟩)
    (cc_Came_init : PySem.W.codeIn K cd_Came_init "Came.__init__" = true)
    (kk_Came_init : PySem.W.keepIn K (.ref f_Came_init) = true)
    (a_heaps_of : PySem.W.nsIn K mainGlobals "heaps_of" = some (some (.ref f_heaps_of)))
    (l_heaps_of : K.lookup f_heaps_of = some ⟨oc_heaps_of, od_heaps_of, .func (PySem.W.fnOf "heaps_of" "heaps_of" (defArgs s_heaps_of) (defBody s_heaps_of) (defScope s_heaps_of) .none kV_heaps_of dc_heaps_of pm_heaps_of an_heaps_of cd_heaps_of ct_heaps_of), sl_heaps_of⟩)
    (cc_heaps_of : PySem.W.codeIn K cd_heaps_of "heaps_of" = true)
    (kk_heaps_of : PySem.W.keepIn K (.ref f_heaps_of) = true)
    (a_came : PySem.W.nsIn K mainGlobals "came" = some (some (.ref f_came)))
    (l_came : K.lookup f_came = some ⟨oc_came, od_came, .func (PySem.W.fnOf "came" "came" (defArgs s_came) (defBody s_came) (defScope s_came) .none kV_came dc_came pm_came an_came cd_came ct_came), sl_came⟩)
    (cc_came : PySem.W.codeIn K cd_came "came" = true)
    (kk_came : PySem.W.keepIn K (.ref f_came) = true)
    (a_w_number : PySem.W.nsIn K mainGlobals "_law_number" = some (some (.ref f_w_number)))
    (l_w_number : K.lookup f_w_number = some ⟨oc_w_number, od_w_number, .func (PySem.W.fnOf "_law_number" "_law_number" (defArgs s_w_number) (defBody s_w_number) (defScope s_w_number) .none kV_w_number dc_w_number pm_w_number an_w_number cd_w_number ct_w_number), sl_w_number⟩)
    (cc_w_number : PySem.W.codeIn K cd_w_number "_law_number" = true)
    (kk_w_number : PySem.W.keepIn K (.ref f_w_number) = true)
    (a_w_ring : PySem.W.nsIn K mainGlobals "_law_ring" = some (some (.ref f_w_ring)))
    (l_w_ring : K.lookup f_w_ring = some ⟨oc_w_ring, od_w_ring, .func (PySem.W.fnOf "_law_ring" "_law_ring" (defArgs s_w_ring) (defBody s_w_ring) (defScope s_w_ring) .none kV_w_ring dc_w_ring pm_w_ring an_w_ring cd_w_ring ct_w_ring), sl_w_ring⟩)
    (cc_w_ring : PySem.W.codeIn K cd_w_ring "_law_ring" = true)
    (kk_w_ring : PySem.W.keepIn K (.ref f_w_ring) = true)
    (a_w_step : PySem.W.nsIn K mainGlobals "_law_step" = some (some (.ref f_w_step)))
    (l_w_step : K.lookup f_w_step = some ⟨oc_w_step, od_w_step, .func (PySem.W.fnOf "_law_step" "_law_step" (defArgs s_w_step) (defBody s_w_step) (defScope s_w_step) .none kV_w_step dc_w_step pm_w_step an_w_step cd_w_step ct_w_step), sl_w_step⟩)
    (cc_w_step : PySem.W.codeIn K cd_w_step "_law_step" = true)
    (kk_w_step : PySem.W.keepIn K (.ref f_w_step) = true)
    (a_w_even : PySem.W.nsIn K mainGlobals "_law_even" = some (some (.ref f_w_even)))
    (l_w_even : K.lookup f_w_even = some ⟨oc_w_even, od_w_even, .func (PySem.W.fnOf "_law_even" "_law_even" (defArgs s_w_even) (defBody s_w_even) (defScope s_w_even) .none kV_w_even dc_w_even pm_w_even an_w_even cd_w_even ct_w_even), sl_w_even⟩)
    (cc_w_even : PySem.W.codeIn K cd_w_even "_law_even" = true)
    (kk_w_even : PySem.W.keepIn K (.ref f_w_even) = true)
    (a_w_right : PySem.W.nsIn K mainGlobals "_law_right" = some (some (.ref f_w_right)))
    (l_w_right : K.lookup f_w_right = some ⟨oc_w_right, od_w_right, .func (PySem.W.fnOf "_law_right" "_law_right" (defArgs s_w_right) (defBody s_w_right) (defScope s_w_right) .none kV_w_right dc_w_right pm_w_right an_w_right cd_w_right ct_w_right), sl_w_right⟩)
    (cc_w_right : PySem.W.codeIn K cd_w_right "_law_right" = true)
    (kk_w_right : PySem.W.keepIn K (.ref f_w_right) = true)
    (a_law : PySem.W.nsIn K mainGlobals "law" = some (some (.ref f_law)))
    (l_law : K.lookup f_law = some ⟨oc_law, od_law, .func (PySem.W.fnOf "law" "law" (defArgs s_law) (defBody s_law) (defScope s_law) .none kV_law dc_law pm_law an_law cd_law ct_law), sl_law⟩)
    (cc_law : PySem.W.codeIn K cd_law "law" = true)
    (kk_law : PySem.W.keepIn K (.ref f_law) = true)
    (cg : PySem.W.specialIn K (.builtin "object.__class__") "__get__" = some (some (.builtin "getset_descriptor.__get__")))
    (ct : PySem.W.takesIn K (.builtin "object.__class__") = some true)
    (isC_Answer : PySem.W.isClsIn K C_Answer = true)
    (tyC_Answer : PySem.W.typeIn K (.ref C_Answer) = some (.type "type"))
    (su_Answer_Answer : PySem.W.subIn K (.ref C_Answer) (.ref C_Answer) = some true)
    (isC_Noughts : PySem.W.isClsIn K C_Noughts = true)
    (tyC_Noughts : PySem.W.typeIn K (.ref C_Noughts) = some (.type "type"))
    (su_Noughts_Noughts : PySem.W.subIn K (.ref C_Noughts) (.ref C_Noughts) = some true)
    (isC_Round : PySem.W.isClsIn K C_Round = true)
    (tyC_Round : PySem.W.typeIn K (.ref C_Round) = some (.type "type"))
    (su_Round_Round : PySem.W.subIn K (.ref C_Round) (.ref C_Round) = some true)
    (isC_Came : PySem.W.isClsIn K C_Came = true)
    (tyC_Came : PySem.W.typeIn K (.ref C_Came) = some (.type "type"))
    (su_Came_Came : PySem.W.subIn K (.ref C_Came) (.ref C_Came) = some true)
    (isC_Never : PySem.W.isClsIn K C_Never = true)
    (tyC_Never : PySem.W.typeIn K (.ref C_Never) = some (.type "type"))
    (su_Never_Never : PySem.W.subIn K (.ref C_Never) (.ref C_Never) = some true)
    (ic_Came : PySem.W.findIn K (.ref C_Came) "__class__" = some (some (.builtin "object.__class__")))
    (mo_Came : PySem.W.mroIn K C_Came (.type "object") = some true)
    (su_Came_Answer : PySem.W.subIn K (.ref C_Came) (.ref C_Answer) = some true)
    (su_Came_Noughts : PySem.W.subIn K (.ref C_Came) (.ref C_Noughts) = some false)
    (su_Came_Round : PySem.W.subIn K (.ref C_Came) (.ref C_Round) = some false)
    (su_Came_Never : PySem.W.subIn K (.ref C_Came) (.ref C_Never) = some false)
    (ic_Never : PySem.W.findIn K (.ref C_Never) "__class__" = some (some (.builtin "object.__class__")))
    (mo_Never : PySem.W.mroIn K C_Never (.type "object") = some true)
    (su_Never_Answer : PySem.W.subIn K (.ref C_Never) (.ref C_Answer) = some true)
    (su_Never_Noughts : PySem.W.subIn K (.ref C_Never) (.ref C_Noughts) = some false)
    (su_Never_Round : PySem.W.subIn K (.ref C_Never) (.ref C_Round) = some false)
    (su_Never_Came : PySem.W.subIn K (.ref C_Never) (.ref C_Came) = some false) : Nonempty (Txt K mg) := by
  have F_wall := fun_mk (st := s_wall) l_wall cc_wall kk_wall
  have b_wall := F_wall.binds (ps := ["k"]) fun _ _ _ _ _ _ us hl => match us, hl with | [_], _ => rfl
  have F_is_whole := fun_mk (st := s_is_whole) l_is_whole cc_is_whole kk_is_whole
  have b_is_whole := F_is_whole.binds (ps := ["thing"]) fun _ _ _ _ _ _ us hl => match us, hl with | [_], _ => rfl
  have F_asked_ring := fun_mk (st := s_asked_ring) l_asked_ring cc_asked_ring kk_asked_ring
  have b_asked_ring := F_asked_ring.binds (ps := ["ring"]) fun _ _ _ _ _ _ us hl => match us, hl with | [_], _ => rfl
  have F_Noughts_init := fun_mk (st := s_Noughts_init) l_Noughts_init cc_Noughts_init kk_Noughts_init
  have b_Noughts_init := F_Noughts_init.binds (ps := ["self", "steps"]) fun _ _ _ _ _ _ us hl => match us, hl with | [_, _], _ => rfl
  have F_Noughts_shows := fun_mk (st := s_Noughts_shows) l_Noughts_shows cc_Noughts_shows kk_Noughts_shows
  have b_Noughts_shows := F_Noughts_shows.binds (ps := ["self", "ring"]) fun _ _ _ _ _ _ us hl => match us, hl with | [_, _], _ => rfl
  have F_Round_init := fun_mk (st := s_Round_init) l_Round_init cc_Round_init kk_Round_init
  have b_Round_init := F_Round_init.binds (ps := ["self", "steps", "length", "number"]) fun _ _ _ _ _ _ us hl => match us, hl with | [_, _, _, _], _ => rfl
  have F_Round_shows := fun_mk (st := s_Round_shows) l_Round_shows cc_Round_shows kk_Round_shows
  have b_Round_shows := F_Round_shows.binds (ps := ["self", "ring"]) fun _ _ _ _ _ _ us hl => match us, hl with | [_, _], _ => rfl
  have F_Came_init := fun_mk (st := s_Came_init) l_Came_init cc_Came_init kk_Came_init
  have b_Came_init := F_Came_init.binds (ps := ["self", "ring"]) fun _ _ _ _ _ _ us hl => match us, hl with | [_, _], _ => rfl
  have F_heaps_of := fun_mk (st := s_heaps_of) l_heaps_of cc_heaps_of kk_heaps_of
  have b_heaps_of := F_heaps_of.binds (ps := ["ring"]) fun _ _ _ _ _ _ us hl => match us, hl with | [_], _ => rfl
  have F_came := fun_mk (st := s_came) l_came cc_came kk_came
  have b_came := F_came.binds (ps := ["ring"]) fun _ _ _ _ _ _ us hl => match us, hl with | [_], _ => rfl
  have F_w_number := fun_mk (st := s_w_number) l_w_number cc_w_number kk_w_number
  have b_w_number := F_w_number.binds (ps := ["_law_cell", "_law_at", "_law_whole"]) fun _ _ _ _ _ _ us hl => match us, hl with | [_, _, _], _ => rfl
  have F_w_ring := fun_mk (st := s_w_ring) l_w_ring cc_w_ring kk_w_ring
  have b_w_ring := F_w_ring.binds (ps := ["_law_script", "_law_by"]) fun _ _ _ _ _ _ us hl => match us, hl with | [_, _], _ => rfl
  have F_w_step := fun_mk (st := s_w_step) l_w_step cc_w_step kk_w_step
  have b_w_step := F_w_step.binds (ps := ["_law_ring_here"]) fun _ _ _ _ _ _ us hl => match us, hl with | [_], _ => rfl
  have F_w_even := fun_mk (st := s_w_even) l_w_even cc_w_even kk_w_even
  have b_w_even := F_w_even.binds (ps := ["_law_ring_here"]) fun _ _ _ _ _ _ us hl => match us, hl with | [_], _ => rfl
  have F_w_right := fun_mk (st := s_w_right) l_w_right cc_w_right kk_w_right
  have b_w_right := F_w_right.binds (ps := ["_law_ring_here"]) fun _ _ _ _ _ _ us hl => match us, hl with | [_], _ => rfl
  have F_law := fun_mk (st := s_law) l_law cc_law kk_law
  have b_law := F_law.binds (ps := ["_law_script"]) fun _ _ _ _ _ _ us hl => match us, hl with | [_], _ => rfl
  exact ⟨{ n_abs := PySem.W.mg_none_of X G z_abs, n_all := PySem.W.mg_none_of X G z_all, n_any := PySem.W.mg_none_of X G z_any, n_bool := PySem.W.mg_none_of X G z_bool, n_int := PySem.W.mg_none_of X G z_int, n_isinstance := PySem.W.mg_none_of X G z_isinstance, n_len := PySem.W.mg_none_of X G z_len, n_list := PySem.W.mg_none_of X G z_list, n_min := PySem.W.mg_none_of X G z_min, n_range := PySem.W.mg_none_of X G z_range, n_set := PySem.W.mg_none_of X G z_set, n_sorted := PySem.W.mg_none_of X G z_sorted, n_sum := PySem.W.mg_none_of X G z_sum, n_zip := PySem.W.mg_none_of X G z_zip, t_LONGEST := t_LONGEST, m_LONGEST := PySem.W.mg_of X G q_LONGEST, t_GREATEST := t_GREATEST, m_GREATEST := PySem.W.mg_of X G q_GREATEST, C_RingError := C_RingError, m_RingError := PySem.W.mg_of X G aC_RingError, C_BadRing := C_BadRing, m_BadRing := PySem.W.mg_of X G aC_BadRing, C_Answer := C_Answer, m_Answer := PySem.W.mg_of X G aC_Answer, C_Noughts := C_Noughts, m_Noughts := PySem.W.mg_of X G aC_Noughts, C_Round := C_Round, m_Round := PySem.W.mg_of X G aC_Round, C_Came := C_Came, m_Came := PySem.W.mg_of X G aC_Came, C_Never := C_Never, m_Never := PySem.W.mg_of X G aC_Never, c_Noughts := ⟨pg_Noughts, hd_Noughts, po_Noughts, sa_Noughts⟩, na_Noughts_steps := na_Noughts_steps, c_Round := ⟨pg_Round, hd_Round, po_Round, sa_Round⟩, na_Round_steps := na_Round_steps, na_Round_length := na_Round_length, na_Round_number := na_Round_number, c_Came := ⟨pg_Came, hd_Came, po_Came, sa_Came⟩, na_Came_ring := na_Came_ring, c_Never := ⟨pg_Never, hd_Never, po_Never, sa_Never⟩, P_Never := ⟨mk_Never, pi_Never, kc_Never⟩, f_wall := f_wall, fd_wall := PySem.W.fnOf "_wall" "_wall" (defArgs s_wall) (defBody s_wall) (defScope s_wall) .none kV_wall dc_wall pm_wall an_wall cd_wall ct_wall, F_wall := F_wall, b_wall := b_wall, g_wall := PySem.W.mg_of X G a_wall, f_is_whole := f_is_whole, fd_is_whole := PySem.W.fnOf "is_whole" "is_whole" (defArgs s_is_whole) (defBody s_is_whole) (defScope s_is_whole) .none kV_is_whole dc_is_whole pm_is_whole an_is_whole cd_is_whole ct_is_whole, F_is_whole := F_is_whole, b_is_whole := b_is_whole, g_is_whole := PySem.W.mg_of X G a_is_whole, f_asked_ring := f_asked_ring, fd_asked_ring := PySem.W.fnOf "asked_ring" "asked_ring" (defArgs s_asked_ring) (defBody s_asked_ring) (defScope s_asked_ring) .none kV_asked_ring dc_asked_ring pm_asked_ring an_asked_ring cd_asked_ring ct_asked_ring, F_asked_ring := F_asked_ring, b_asked_ring := b_asked_ring, g_asked_ring := PySem.W.mg_of X G a_asked_ring, f_Noughts_init := f_Noughts_init, fd_Noughts_init := PySem.W.fnOf "__init__" "Noughts.__init__" (defArgs s_Noughts_init) (defBody s_Noughts_init) (defScope s_Noughts_init) .none kV_Noughts_init dc_Noughts_init pm_Noughts_init an_Noughts_init cd_Noughts_init ct_Noughts_init, F_Noughts_init := F_Noughts_init, b_Noughts_init := b_Noughts_init, M_Noughts := ⟨mk_Noughts, a_Noughts_init, i_Noughts_init, kc_Noughts⟩, f_Noughts_shows := f_Noughts_shows, fd_Noughts_shows := PySem.W.fnOf "shows" "Noughts.shows" (defArgs s_Noughts_shows) (defBody s_Noughts_shows) (defScope s_Noughts_shows) .none kV_Noughts_shows dc_Noughts_shows pm_Noughts_shows an_Noughts_shows cd_Noughts_shows ct_Noughts_shows, F_Noughts_shows := F_Noughts_shows, b_Noughts_shows := b_Noughts_shows, h_Noughts_shows := ⟨a_Noughts_shows, i_Noughts_shows, kk_Noughts_shows⟩, f_Round_init := f_Round_init, fd_Round_init := PySem.W.fnOf "__init__" "Round.__init__" (defArgs s_Round_init) (defBody s_Round_init) (defScope s_Round_init) .none kV_Round_init dc_Round_init pm_Round_init an_Round_init cd_Round_init ct_Round_init, F_Round_init := F_Round_init, b_Round_init := b_Round_init, M_Round := ⟨mk_Round, a_Round_init, i_Round_init, kc_Round⟩, f_Round_shows := f_Round_shows, fd_Round_shows := PySem.W.fnOf "shows" "Round.shows" (defArgs s_Round_shows) (defBody s_Round_shows) (defScope s_Round_shows) .none kV_Round_shows dc_Round_shows pm_Round_shows an_Round_shows cd_Round_shows ct_Round_shows, F_Round_shows := F_Round_shows, b_Round_shows := b_Round_shows, h_Round_shows := ⟨a_Round_shows, i_Round_shows, kk_Round_shows⟩, f_Came_init := f_Came_init, fd_Came_init := PySem.W.fnOf "__init__" "Came.__init__" (defArgs s_Came_init) (defBody s_Came_init) (defScope s_Came_init) .none kV_Came_init dc_Came_init pm_Came_init an_Came_init cd_Came_init ct_Came_init, F_Came_init := F_Came_init, b_Came_init := b_Came_init, M_Came := ⟨mk_Came, a_Came_init, i_Came_init, kc_Came⟩, f_heaps_of := f_heaps_of, fd_heaps_of := PySem.W.fnOf "heaps_of" "heaps_of" (defArgs s_heaps_of) (defBody s_heaps_of) (defScope s_heaps_of) .none kV_heaps_of dc_heaps_of pm_heaps_of an_heaps_of cd_heaps_of ct_heaps_of, F_heaps_of := F_heaps_of, b_heaps_of := b_heaps_of, g_heaps_of := PySem.W.mg_of X G a_heaps_of, f_came := f_came, fd_came := PySem.W.fnOf "came" "came" (defArgs s_came) (defBody s_came) (defScope s_came) .none kV_came dc_came pm_came an_came cd_came ct_came, F_came := F_came, b_came := b_came, g_came := PySem.W.mg_of X G a_came, f_w_number := f_w_number, fd_w_number := PySem.W.fnOf "_law_number" "_law_number" (defArgs s_w_number) (defBody s_w_number) (defScope s_w_number) .none kV_w_number dc_w_number pm_w_number an_w_number cd_w_number ct_w_number, F_w_number := F_w_number, b_w_number := b_w_number, g_w_number := PySem.W.mg_of X G a_w_number, f_w_ring := f_w_ring, fd_w_ring := PySem.W.fnOf "_law_ring" "_law_ring" (defArgs s_w_ring) (defBody s_w_ring) (defScope s_w_ring) .none kV_w_ring dc_w_ring pm_w_ring an_w_ring cd_w_ring ct_w_ring, F_w_ring := F_w_ring, b_w_ring := b_w_ring, g_w_ring := PySem.W.mg_of X G a_w_ring, f_w_step := f_w_step, fd_w_step := PySem.W.fnOf "_law_step" "_law_step" (defArgs s_w_step) (defBody s_w_step) (defScope s_w_step) .none kV_w_step dc_w_step pm_w_step an_w_step cd_w_step ct_w_step, F_w_step := F_w_step, b_w_step := b_w_step, g_w_step := PySem.W.mg_of X G a_w_step, f_w_even := f_w_even, fd_w_even := PySem.W.fnOf "_law_even" "_law_even" (defArgs s_w_even) (defBody s_w_even) (defScope s_w_even) .none kV_w_even dc_w_even pm_w_even an_w_even cd_w_even ct_w_even, F_w_even := F_w_even, b_w_even := b_w_even, g_w_even := PySem.W.mg_of X G a_w_even, f_w_right := f_w_right, fd_w_right := PySem.W.fnOf "_law_right" "_law_right" (defArgs s_w_right) (defBody s_w_right) (defScope s_w_right) .none kV_w_right dc_w_right pm_w_right an_w_right cd_w_right ct_w_right, F_w_right := F_w_right, b_w_right := b_w_right, g_w_right := PySem.W.mg_of X G a_w_right, f_law := f_law, fd_law := PySem.W.fnOf "law" "law" (defArgs s_law) (defBody s_law) (defScope s_law) .none kV_law dc_law pm_law an_law cd_law ct_law, F_law := F_law, b_law := b_law, g_law := PySem.W.mg_of X G a_law, cg := cg, ct := ct, isC_Answer := isC_Answer, tyC_Answer := tyC_Answer, su_Answer_Answer := su_Answer_Answer, isC_Noughts := isC_Noughts, tyC_Noughts := tyC_Noughts, su_Noughts_Noughts := su_Noughts_Noughts, isC_Round := isC_Round, tyC_Round := tyC_Round, su_Round_Round := su_Round_Round, isC_Came := isC_Came, tyC_Came := tyC_Came, su_Came_Came := su_Came_Came, isC_Never := isC_Never, tyC_Never := tyC_Never, su_Never_Never := su_Never_Never, ic_Came := ic_Came, mo_Came := mo_Came, su_Came_Answer := su_Came_Answer, su_Came_Noughts := su_Came_Noughts, su_Came_Round := su_Came_Round, su_Came_Never := su_Came_Never, ic_Never := ic_Never, mo_Never := mo_Never, su_Never_Answer := su_Never_Answer, su_Never_Noughts := su_Never_Noughts, su_Never_Round := su_Never_Round, su_Never_Came := su_Never_Came }⟩
end RL
open PySem PySem.W PyProof.Rows
set_option maxRecDepth 100000 in
set_option maxHeartbeats 0 in
theorem PySem.Challenge.cw_ringdiffer_k07_whole_came_holds : PySem.Challenge.rw_ringdiffer_k07_whole_came.Holds := by
  w_on; o_law; k_head; (case hw => w_witness2)
  k_fill
  refine L2.walk_ofB (l := PySem.Challenge.rw_ringdiffer_k07_whole_came) (n := 63) (k := 8) (x := "_law_script") (CX := fun _ => L2.CX0)
    (sp := fun w => RL.spLaw _) rfl (by decide) rfl ⟨rfl, by decide, by decide⟩
    (fun w h Y => PySem.W.kIn_of Y) ?F (fun _ _ a ns hl hb _ hS => ⟨a, ns, rfl, hS, hl, hb, fun _ => rfl⟩) (fun _ _ _ _ _ h => h)
  case F =>
    intro w mg fa h KX G hmg
    refine RL.law_of KX G hmg ?_
    refine' RL.txt_mk KX G ?z_abs ?z_all ?z_any ?z_bool ?z_int ?z_isinstance ?z_len ?z_list ?z_min ?z_range ?z_set ?z_sorted ?z_sum ?z_zip ?q_LONGEST ?q_GREATEST ?aC_RingError ?aC_BadRing ?aC_Answer ?aC_Noughts ?aC_Round ?aC_Came ?aC_Never ?pg_Noughts ?hd_Noughts ?po_Noughts ?sa_Noughts ?mk_Noughts ?kc_Noughts ?na_Noughts_steps ?pg_Round ?hd_Round ?po_Round ?sa_Round ?mk_Round ?kc_Round ?na_Round_steps ?na_Round_length ?na_Round_number ?pg_Came ?hd_Came ?po_Came ?sa_Came ?mk_Came ?kc_Came ?na_Came_ring ?pg_Never ?hd_Never ?po_Never ?sa_Never ?mk_Never ?kc_Never ?pi_Never ?a_wall ?l_wall ?cc_wall ?kk_wall ?a_is_whole ?l_is_whole ?cc_is_whole ?kk_is_whole ?a_asked_ring ?l_asked_ring ?cc_asked_ring ?kk_asked_ring ?a_Noughts_init ?i_Noughts_init ?l_Noughts_init ?cc_Noughts_init ?kk_Noughts_init ?a_Noughts_shows ?i_Noughts_shows ?l_Noughts_shows ?cc_Noughts_shows ?kk_Noughts_shows ?a_Round_init ?i_Round_init ?l_Round_init ?cc_Round_init ?kk_Round_init ?a_Round_shows ?i_Round_shows ?l_Round_shows ?cc_Round_shows ?kk_Round_shows ?a_Came_init ?i_Came_init ?l_Came_init ?cc_Came_init ?kk_Came_init ?a_heaps_of ?l_heaps_of ?cc_heaps_of ?kk_heaps_of ?a_came ?l_came ?cc_came ?kk_came ?a_w_number ?l_w_number ?cc_w_number ?kk_w_number ?a_w_ring ?l_w_ring ?cc_w_ring ?kk_w_ring ?a_w_step ?l_w_step ?cc_w_step ?kk_w_step ?a_w_even ?l_w_even ?cc_w_even ?kk_w_even ?a_w_right ?l_w_right ?cc_w_right ?kk_w_right ?a_law ?l_law ?cc_law ?kk_law ?cg ?ct ?isC_Answer ?tyC_Answer ?su_Answer_Answer ?isC_Noughts ?tyC_Noughts ?su_Noughts_Noughts ?isC_Round ?tyC_Round ?su_Round_Round ?isC_Came ?tyC_Came ?su_Came_Came ?isC_Never ?tyC_Never ?su_Never_Never ?ic_Came ?mo_Came ?su_Came_Answer ?su_Came_Noughts ?su_Came_Round ?su_Came_Never ?ic_Never ?mo_Never ?su_Never_Answer ?su_Never_Noughts ?su_Never_Round ?su_Never_Came
    (case z_abs => first | k_is | rfl)
    (case z_all => first | k_is | rfl)
    (case z_any => first | k_is | rfl)
    (case z_bool => first | k_is | rfl)
    (case z_int => first | k_is | rfl)
    (case z_isinstance => first | k_is | rfl)
    (case z_len => first | k_is | rfl)
    (case z_list => first | k_is | rfl)
    (case z_min => first | k_is | rfl)
    (case z_range => first | k_is | rfl)
    (case z_set => first | k_is | rfl)
    (case z_sorted => first | k_is | rfl)
    (case z_sum => first | k_is | rfl)
    (case z_zip => first | k_is | rfl)
    (case q_LONGEST => first | k_is | rfl)
    (case q_GREATEST => first | k_is | rfl)
    (case aC_RingError => first | k_is | rfl)
    (case aC_BadRing => first | k_is | rfl)
    (case aC_Answer => first | k_is | rfl)
    (case aC_Noughts => first | k_is | rfl)
    (case aC_Round => first | k_is | rfl)
    (case aC_Came => first | k_is | rfl)
    (case aC_Never => first | k_is | rfl)
    (case pg_Noughts => first | k_is | rfl)
    (case hd_Noughts => first | k_is | rfl)
    (case po_Noughts => first | k_is | rfl)
    (case sa_Noughts => first | k_is | rfl)
    (case mk_Noughts => first | k_is | rfl)
    (case kc_Noughts => first | k_is | rfl)
    (case na_Noughts_steps => first | k_is | rfl)
    (case pg_Round => first | k_is | rfl)
    (case hd_Round => first | k_is | rfl)
    (case po_Round => first | k_is | rfl)
    (case sa_Round => first | k_is | rfl)
    (case mk_Round => first | k_is | rfl)
    (case kc_Round => first | k_is | rfl)
    (case na_Round_steps => first | k_is | rfl)
    (case na_Round_length => first | k_is | rfl)
    (case na_Round_number => first | k_is | rfl)
    (case pg_Came => first | k_is | rfl)
    (case hd_Came => first | k_is | rfl)
    (case po_Came => first | k_is | rfl)
    (case sa_Came => first | k_is | rfl)
    (case mk_Came => first | k_is | rfl)
    (case kc_Came => first | k_is | rfl)
    (case na_Came_ring => first | k_is | rfl)
    (case pg_Never => first | k_is | rfl)
    (case hd_Never => first | k_is | rfl)
    (case po_Never => first | k_is | rfl)
    (case sa_Never => first | k_is | rfl)
    (case mk_Never => first | k_is | rfl)
    (case kc_Never => first | k_is | rfl)
    (case pi_Never => first | k_is | rfl)
    (case a_wall => first | k_is | rfl)
    (case l_wall => first | k_is | rfl)
    (case cc_wall => first | k_is | rfl)
    (case kk_wall => first | k_is | rfl)
    (case a_is_whole => first | k_is | rfl)
    (case l_is_whole => first | k_is | rfl)
    (case cc_is_whole => first | k_is | rfl)
    (case kk_is_whole => first | k_is | rfl)
    (case a_asked_ring => first | k_is | rfl)
    (case l_asked_ring => first | k_is | rfl)
    (case cc_asked_ring => first | k_is | rfl)
    (case kk_asked_ring => first | k_is | rfl)
    (case a_Noughts_init => first | k_is | rfl)
    (case i_Noughts_init => first | k_is | rfl)
    (case l_Noughts_init => first | k_is | rfl)
    (case cc_Noughts_init => first | k_is | rfl)
    (case kk_Noughts_init => first | k_is | rfl)
    (case a_Noughts_shows => first | k_is | rfl)
    (case i_Noughts_shows => first | k_is | rfl)
    (case l_Noughts_shows => first | k_is | rfl)
    (case cc_Noughts_shows => first | k_is | rfl)
    (case kk_Noughts_shows => first | k_is | rfl)
    (case a_Round_init => first | k_is | rfl)
    (case i_Round_init => first | k_is | rfl)
    (case l_Round_init => first | k_is | rfl)
    (case cc_Round_init => first | k_is | rfl)
    (case kk_Round_init => first | k_is | rfl)
    (case a_Round_shows => first | k_is | rfl)
    (case i_Round_shows => first | k_is | rfl)
    (case l_Round_shows => first | k_is | rfl)
    (case cc_Round_shows => first | k_is | rfl)
    (case kk_Round_shows => first | k_is | rfl)
    (case a_Came_init => first | k_is | rfl)
    (case i_Came_init => first | k_is | rfl)
    (case l_Came_init => first | k_is | rfl)
    (case cc_Came_init => first | k_is | rfl)
    (case kk_Came_init => first | k_is | rfl)
    (case a_heaps_of => first | k_is | rfl)
    (case l_heaps_of => first | k_is | rfl)
    (case cc_heaps_of => first | k_is | rfl)
    (case kk_heaps_of => first | k_is | rfl)
    (case a_came => first | k_is | rfl)
    (case l_came => first | k_is | rfl)
    (case cc_came => first | k_is | rfl)
    (case kk_came => first | k_is | rfl)
    (case a_w_number => first | k_is | rfl)
    (case l_w_number => first | k_is | rfl)
    (case cc_w_number => first | k_is | rfl)
    (case kk_w_number => first | k_is | rfl)
    (case a_w_ring => first | k_is | rfl)
    (case l_w_ring => first | k_is | rfl)
    (case cc_w_ring => first | k_is | rfl)
    (case kk_w_ring => first | k_is | rfl)
    (case a_w_step => first | k_is | rfl)
    (case l_w_step => first | k_is | rfl)
    (case cc_w_step => first | k_is | rfl)
    (case kk_w_step => first | k_is | rfl)
    (case a_w_even => first | k_is | rfl)
    (case l_w_even => first | k_is | rfl)
    (case cc_w_even => first | k_is | rfl)
    (case kk_w_even => first | k_is | rfl)
    (case a_w_right => first | k_is | rfl)
    (case l_w_right => first | k_is | rfl)
    (case cc_w_right => first | k_is | rfl)
    (case kk_w_right => first | k_is | rfl)
    (case a_law => first | k_is | rfl)
    (case l_law => first | k_is | rfl)
    (case cc_law => first | k_is | rfl)
    (case kk_law => first | k_is | rfl)
    (case cg => first | k_is | rfl)
    (case ct => first | k_is | rfl)
    (case isC_Answer => first | k_is | rfl)
    (case tyC_Answer => first | k_is | rfl)
    (case su_Answer_Answer => first | k_is | rfl)
    (case isC_Noughts => first | k_is | rfl)
    (case tyC_Noughts => first | k_is | rfl)
    (case su_Noughts_Noughts => first | k_is | rfl)
    (case isC_Round => first | k_is | rfl)
    (case tyC_Round => first | k_is | rfl)
    (case su_Round_Round => first | k_is | rfl)
    (case isC_Came => first | k_is | rfl)
    (case tyC_Came => first | k_is | rfl)
    (case su_Came_Came => first | k_is | rfl)
    (case isC_Never => first | k_is | rfl)
    (case tyC_Never => first | k_is | rfl)
    (case su_Never_Never => first | k_is | rfl)
    (case ic_Came => first | k_is | rfl)
    (case mo_Came => first | k_is | rfl)
    (case su_Came_Answer => first | k_is | rfl)
    (case su_Came_Noughts => first | k_is | rfl)
    (case su_Came_Round => first | k_is | rfl)
    (case su_Came_Never => first | k_is | rfl)
    (case ic_Never => first | k_is | rfl)
    (case mo_Never => first | k_is | rfl)
    (case su_Never_Answer => first | k_is | rfl)
    (case su_Never_Noughts => first | k_is | rfl)
    (case su_Never_Round => first | k_is | rfl)
    (case su_Never_Came => first | k_is | rfl)
