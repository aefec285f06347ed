import PyProof.Rows.All
import Wide.All
import OpenK.AllK
import Wide.FinOn
import HandS.ForMost
import HandS.IsInst
import HandS.Style
import HandS.Flow
import HandS.Evl
import HandS.EndBits
import HandS.Wide
import PySem.Challenge.RW_ringdiffer_k02_whole_after
set_option Elab.async false
set_option linter.all false
set_option maxRecDepth 100000
set_option maxHeartbeats 4000000
namespace RD
/-! ### rings: lists of whole numbers, read round -/
def ev (l : List Int) (i : Nat) : Int := l.getD (i % l.length) 0
def dst (a b : Int) : Int := ((a - b).natAbs : Int)
def D (l : List Int) : List Int := (List.range l.length).map fun i => dst (ev l i) (ev l (i + 1))
def itr : Nat → List Int → List Int
  | 0, l => l
  | k + 1, l => D (itr k l)
theorem D_len (l : List Int) : (D l).length = l.length := by
  unfold D
  rw [List.length_map, List.length_range]
theorem itr_len (k : Nat) (l : List Int) : (itr k l).length = l.length := by
  induction k with
  | zero => rfl
  | succ k ih => exact (D_len _).trans ih
theorem D_get {l : List Int} {i : Nat} (h : i < l.length) : (D l)[i]? = some (dst (ev l i) (ev l (i + 1))) := by
  unfold D
  rw [List.getElem?_map, List.getElem?_range h]
  rfl
theorem ev_mod (l : List Int) (i : Nat) : ev l (i % l.length) = ev l i := by
  unfold ev
  rw [Nat.mod_mod]
theorem ev_lt {l : List Int} {i : Nat} (h : i < l.length) : l[i]? = some (ev l i) := by
  unfold ev
  rw [Nat.mod_eq_of_lt h, List.getD_eq_getElem?_getD, List.getElem?_eq_getElem h]
  rfl
theorem ev_D (l : List Int) (i : Nat) : ev (D l) i = dst (ev l i) (ev l (i + 1)) := by
  by_cases h0 : l.length = 0
  · have e : l = [] := List.eq_nil_of_length_eq_zero h0
    subst e
    rfl
  · have hp : 0 < l.length := Nat.pos_of_ne_zero h0
    have hm : i % l.length < l.length := Nat.mod_lt _ hp
    have h1 : ev (D l) i = dst (ev l (i % l.length)) (ev l (i % l.length + 1)) := by
      show (D l).getD (i % (D l).length) 0 = _
      rw [D_len, List.getD_eq_getElem?_getD, D_get hm]
      rfl
    rw [h1, ev_mod]
    have h2 : ev l (i % l.length + 1) = ev l (i + 1) := by
      unfold ev
      rw [Nat.mod_add_mod]
    rw [h2]
theorem ev_ext {l m : List Int} (hl : l.length = m.length) (h : ∀ i, i < l.length → ev l i = ev m i) : l = m := by
  apply List.ext_getElem? 
  intro i
  by_cases hi : i < l.length
  · rw [ev_lt hi, ev_lt (hl ▸ hi), h i hi]
  · rw [List.getElem?_eq_none (by omega), List.getElem?_eq_none (by omega)]
theorem ev_mem {l : List Int} (h : 0 < l.length) (i : Nat) : ev l i ∈ l := by
  have hm : i % l.length < l.length := Nat.mod_lt _ h
  have e := ev_lt hm
  rw [ev_mod] at e
  exact List.mem_of_getElem? e
theorem mem_ev {l : List Int} {x : Int} (h : x ∈ l) : ∃ i, i < l.length ∧ ev l i = x := by
  obtain ⟨i, hi, e⟩ := List.getElem_of_mem h
  refine ⟨i, hi, ?_⟩
  have e2 := ev_lt hi
  rw [List.getElem?_eq_getElem hi, e] at e2
  exact (Option.some.inj e2).symm
theorem itr_D (k : Nat) (l : List Int) : itr k (D l) = D (itr k l) := by
  induction k with
  | zero => rfl
  | succ k ih =>
    show D (itr k (D l)) = D (D (itr k l))
    rw [ih]
theorem itr_add (a b : Nat) (l : List Int) : itr (a + b) l = itr a (itr b l) := by
  induction a with
  | zero => rw [Nat.zero_add]; rfl
  | succ a ih =>
    rw [Nat.succ_add]
    show D (itr (a + b) l) = D (itr a (itr b l))
    rw [ih]
/-! ### bounds -/
def Bd (M : Int) (l : List Int) : Prop := ∀ x, x ∈ l → 0 ≤ x ∧ x ≤ M
def Bin (c : Int) (l : List Int) : Prop := ∀ x, x ∈ l → x = 0 ∨ x = c
theorem Bd.ev {M : Int} {l : List Int} (h : Bd M l) (hl : 0 < l.length) (i : Nat) : 0 ≤ ev l i ∧ ev l i ≤ M := h _ (ev_mem hl i)
theorem Bin.ev {M : Int} {l : List Int} (h : Bin M l) (hl : 0 < l.length) (i : Nat) : RD.ev l i = 0 ∨ RD.ev l i = M := h _ (ev_mem hl i)
theorem dst_nn (a b : Int) : 0 ≤ dst a b := Int.natCast_nonneg _
theorem dst_cases (a b : Int) : (a ≤ b ∧ dst a b = b - a) ∨ (b ≤ a ∧ dst a b = a - b) := by
  unfold dst
  omega
theorem mem_D {l : List Int} {x : Int} (h : x ∈ D l) : ∃ i, 0 < l.length ∧ x = dst (ev l i) (ev l (i + 1)) := by
  unfold D at h
  obtain ⟨i, hi, e⟩ := List.mem_map.mp h
  have := List.mem_range.mp hi
  exact ⟨i, by omega, e.symm⟩
theorem Bd.D {M : Int} {l : List Int} (h : Bd M l) : Bd M (D l) := fun x hx => by
  obtain ⟨i, hl, rfl⟩ := mem_D hx
  have h1 := h.ev hl i
  have h2 := h.ev hl (i + 1)
  rcases dst_cases (RD.ev l i) (RD.ev l (i + 1)) with ⟨_, e⟩ | ⟨_, e⟩ <;> rw [e] <;> omega
theorem Bin.D {c : Int} {l : List Int} (hc : 0 ≤ c) (h : Bin c l) : Bin c (D l) := fun x hx => by
  obtain ⟨i, hl, rfl⟩ := mem_D hx
  have h1 := h.ev hl i
  have h2 := h.ev hl (i + 1)
  rcases dst_cases (RD.ev l i) (RD.ev l (i + 1)) with ⟨_, e⟩ | ⟨_, e⟩ <;> rw [e] <;> omega
theorem Bd.itr {M : Int} {l : List Int} (h : Bd M l) (k : Nat) : Bd M (itr k l) := by
  induction k with
  | zero => exact h
  | succ k ih => exact ih.D
theorem Bin.itr {M : Int} {l : List Int} (hc : 0 ≤ M) (h : Bin M l) (k : Nat) : Bin M (itr k l) := by
  induction k with
  | zero => exact h
  | succ k ih => exact ih.D hc
/-! ### where the greatest number stays, all is 0 or it -/
theorem two_of {M a b : Int} (ha : 0 ≤ a ∧ a ≤ M) (hb : 0 ≤ b ∧ b ≤ M) (h : dst a b = M) : (a = 0 ∧ b = M) ∨ (a = M ∧ b = 0) := by
  rcases dst_cases a b with ⟨_, e⟩ | ⟨_, e⟩ <;> rw [e] at h <;> omega
theorem next_of {M a b : Int} (ha : a = 0 ∨ a = M) (hb : 0 ≤ b ∧ b ≤ M) (h : dst a b = 0 ∨ dst a b = M) : b = 0 ∨ b = M := by
  rcases dst_cases a b with ⟨_, e⟩ | ⟨_, e⟩ <;> rw [e] at h <;> omega
theorem prev_of {M a b : Int} (hb : b = 0 ∨ b = M) (ha : 0 ≤ a ∧ a ≤ M) (h : dst a b = 0 ∨ dst a b = M) : a = 0 ∨ a = M := by
  rcases dst_cases a b with ⟨_, e⟩ | ⟨_, e⟩ <;> rw [e] at h <;> omega
/-- from a row of differences of 0 and M with an M in it: the numbers themselves -/
theorem seg_back {M : Int} {f : Nat → Int} (hb : ∀ i, 0 ≤ f i ∧ f i ≤ M) {i L j : Nat} (hj : j ≤ L) (hM : dst (f (i + j)) (f (i + j + 1)) = M)
    (hs : ∀ j, j ≤ L → dst (f (i + j)) (f (i + j + 1)) = 0 ∨ dst (f (i + j)) (f (i + j + 1)) = M) :
    (∀ j, j ≤ L + 1 → f (i + j) = 0 ∨ f (i + j) = M) ∧ ∃ j, j ≤ L + 1 ∧ f (i + j) = M := by
  have h2 := two_of (hb _) (hb _) hM
  -- upward
  have up : ∀ k, j + k ≤ L + 1 → f (i + (j + k)) = 0 ∨ f (i + (j + k)) = M := by
    intro k
    induction k with
    | zero => intro _; rw [Nat.add_zero]; omega
    | succ k ih =>
      intro hk
      have ih' := ih (by omega)
      have := hs (j + k) (by omega)
      have e : i + (j + k) + 1 = i + (j + (k + 1)) := by omega
      rw [e] at this
      exact next_of ih' (hb _) this
  have down : ∀ k, k ≤ j → f (i + (j - k)) = 0 ∨ f (i + (j - k)) = M := by
    intro k
    induction k with
    | zero => intro _; simp only [Nat.sub_zero]; omega
    | succ k ih =>
      intro hk
      have ih' := ih (by omega)
      have := hs (j - (k + 1)) (by omega)
      have e : i + (j - (k + 1)) + 1 = i + (j - k) := by omega
      rw [e] at this
      exact prev_of ih' (hb _) this
  refine ⟨fun k hk => ?_, ?_⟩
  · by_cases hjk : j ≤ k
    · have := up (k - j) (by omega)
      rw [show j + (k - j) = k by omega] at this
      exact this
    · have := down (j - k) (by omega)
      rw [show j - (j - k) = k by omega] at this
      exact this
  · rcases h2 with ⟨_, h⟩ | ⟨h, _⟩
    · exact ⟨j + 1, by omega, h⟩
    · exact ⟨j, by omega, h⟩
theorem seg_all {M : Int} {l : List Int} (hl : 0 < l.length) (h : Bd M l) : ∀ (k i L : Nat), (∀ j, j ≤ L → ev (itr k l) (i + j) = 0 ∨ ev (itr k l) (i + j) = M) → (∃ j, j ≤ L ∧ ev (itr k l) (i + j) = M) →
    ∀ j, j ≤ L + k → ev l (i + j) = 0 ∨ ev l (i + j) = M
  | 0, i, L, h1, _ => h1
  | k + 1, i, L, h1, h2 => by
    have hp : 0 < (itr k l).length := by rw [itr_len]; exact hl
    obtain ⟨j, hj, e⟩ := h2
    have e1 : ∀ j, ev (itr (k + 1) l) (i + j) = dst (ev (itr k l) (i + j)) (ev (itr k l) (i + j + 1)) := fun j => ev_D _ _
    have hs : ∀ j, j ≤ L → dst (ev (itr k l) (i + j)) (ev (itr k l) (i + j + 1)) = 0 ∨ dst (ev (itr k l) (i + j)) (ev (itr k l) (i + j + 1)) = M := fun j hj => by
      rw [← e1]
      exact h1 j hj
    rw [e1] at e
    obtain ⟨g1, g2⟩ := seg_back (M := M) (f := ev (itr k l)) (fun i => (h.itr k).ev hp i) hj e hs
    have := seg_all hl h k i (L + 1) g1 g2
    intro j hj
    exact this j (by omega)
theorem falls {M : Int} {l : List Int} (hl : 0 < l.length) (h : Bd M l) (hM : 1 ≤ M) : Bin M l ∨ Bd (M - 1) (itr l.length l) := by
  by_cases hx : ∃ x, x ∈ itr l.length l ∧ x = M
  · left
    obtain ⟨x, hx, rfl⟩ := hx
    obtain ⟨i, hi, e⟩ := mem_ev hx
    have := seg_all hl h l.length i 0 (fun j hj => by right; rw [show j = 0 by omega]; exact e) ⟨0, Nat.le_refl _, e⟩
    intro y hy
    obtain ⟨m, hm, rfl⟩ := mem_ev hy
    rw [itr_len] at hi
    -- m is some i + j modulo the length
    have key : ∃ j, j ≤ 0 + l.length ∧ ev l (i + j) = ev l m := by
      by_cases hmi : i ≤ m
      · exact ⟨m - i, by omega, by rw [show i + (m - i) = m by omega]⟩
      · refine ⟨m + l.length - i, by omega, ?_⟩
        rw [show i + (m + l.length - i) = m + l.length by omega]
        unfold ev
        rw [Nat.add_mod_right]
    obtain ⟨j, hj, e2⟩ := key
    rw [← e2]
    exact this j hj
  · right
    intro x hx'
    have := (h.itr l.length) x hx'
    have hne : x ≠ M := fun e => hx ⟨x, hx', e⟩
    omega
theorem bin_in {l : List Int} (hl : 0 < l.length) : ∀ (M : Nat), Bd (M : Int) l → ∃ c : Int, 0 ≤ c ∧ c ≤ M ∧ Bin c (itr (l.length * M) l)
  | 0, h => ⟨0, Int.le_refl _, Int.le_refl _, fun x hx => by
      have := (h.itr (l.length * 0)) x hx
      omega⟩
  | M + 1, h => by
    rcases falls hl h (by omega) with hb | hb
    · exact ⟨((M + 1 : Nat) : Int), by omega, Int.le_refl _, hb.itr (by omega) _⟩
    · have hb' : Bd (M : Int) (itr l.length l) := fun x hx => by
        have := hb x hx
        omega
      obtain ⟨c, h1, h2, h3⟩ := bin_in (l := itr l.length l) (by rw [itr_len]; exact hl) M hb'
      rw [itr_len, ← itr_add] at h3
      refine ⟨c, h1, by omega, ?_⟩
      rw [show l.length * (M + 1) = l.length * M + l.length by rw [Nat.mul_add, Nat.mul_one]]
      exact h3
/-! ### so many rings of 0 and c are there -/
def code : List Int → Nat
  | [] => 0
  | x :: r => (if x = 0 then 0 else 1) + 2 * code r
theorem code_lt : ∀ l : List Int, code l < 2 ^ l.length
  | [] => by decide
  | x :: r => by
    have := code_lt r
    show (if x = 0 then 0 else 1) + 2 * code r < 2 ^ (r.length + 1)
    rw [Nat.pow_succ]
    split <;> omega
theorem code_inj {c : Int} : ∀ {l m : List Int}, Bin c l → Bin c m → l.length = m.length → code l = code m → l = m
  | [], [], _, _, _, _ => rfl
  | [], y :: r, _, _, h, _ => by cases h
  | x :: r, [], _, _, h, _ => by cases h
  | x :: r, y :: q, h1, h2, hl, e => by
    have e' : (if x = 0 then 0 else 1) + 2 * code r = (if y = 0 then 0 else 1) + 2 * code q := e
    have hx := h1 x List.mem_cons_self
    have hy := h2 y List.mem_cons_self
    have ec : code r = code q := by split at e' <;> split at e' <;> omega
    have er := code_inj (l := r) (m := q) (fun z hz => h1 z (List.mem_cons_of_mem _ hz)) (fun z hz => h2 z (List.mem_cons_of_mem _ hz)) (by simpa using hl) ec
    have exy : x = y := by split at e' <;> split at e' <;> omega
    rw [exy, er]
theorem pigeon : ∀ (B : Nat) (l : List Nat), l.Nodup → (∀ x, x ∈ l → x < B) → l.length ≤ B
  | 0, l, _, h => by
    cases l with
    | nil => exact Nat.le_refl _
    | cons x r => exact absurd (h x List.mem_cons_self) (Nat.not_lt_zero _)
  | B + 1, l, hn, h => by
    have h1 := pigeon B (l.erase B) (hn.erase B) (fun x hx => by
      have hx2 := (hn.mem_erase_iff.mp hx)
      have := h x hx2.2
      have := hx2.1
      omega)
    have h2 := List.length_erase (a := B) (l := l)
    split at h2 <;> omega
/-! ### the course -/
structure IsC (l : List Int) (N b : Nat) : Prop where
  lt : b < N
  eq : itr N l = itr b l
  ne : ∀ i j, i < j → j < N → itr i l ≠ itr j l
theorem few {l : List Int} (hl : 0 < l.length) (h12 : l.length ≤ 12) (h : Bd 200 l) {m : Nat} (ne : ∀ i j, i < j → j < m → itr i l ≠ itr j l) : m ≤ 6500 := by
  obtain ⟨c, hc0, _, hb⟩ := bin_in hl 200 h
  refine Nat.le_of_not_lt fun hm => ?_
  -- the codes of the rings from l.length * 200 on
  have hs : l.length * 200 ≤ 2400 := by omega
  let g : Nat → Nat := fun j => code (itr (l.length * 200 + j) l)
  have hg : ∀ j, g j < 4096 := fun j => by
    have := code_lt (itr (l.length * 200 + j) l)
    rw [itr_len] at this
    exact Nat.lt_of_lt_of_le this (Nat.le_trans (Nat.pow_le_pow_right (by decide) h12) (by decide))
  have hB : ∀ j, Bin c (itr (l.length * 200 + j) l) := fun j => by
    rw [Nat.add_comm, itr_add]
    exact hb.itr hc0 j
  have hnd : ((List.range 4097).map g).Nodup := by
    rw [List.Nodup, List.pairwise_map]
    have : (List.range 4097).Pairwise (· < ·) := List.pairwise_lt_range
    refine (this.imp_of_mem ?_)
    intro a b ha hb' hab e
    have hb2 := List.mem_range.mp hb'
    have := code_inj (hB a) (hB b) (by rw [itr_len, itr_len]) e
    exact ne _ _ (by omega) (by omega) this
  have := pigeon 4096 _ hnd (fun x hx => by
    obtain ⟨j, _, rfl⟩ := List.mem_map.mp hx
    exact hg j)
  rw [List.length_map, List.length_range] at this
  omega
theorem IsC.unique {l : List Int} {N b N' b' : Nat} (h : IsC l N b) (h' : IsC l N' b') : N = N' ∧ b = b' := by
  have hN : N = N' := by
    rcases Nat.lt_trichotomy N N' with q | q | q
    · exact absurd h.eq.symm (h'.ne _ _ h.lt q)
    · exact q
    · exact absurd h'.eq.symm (h.ne _ _ h'.lt q)
  subst hN
  refine ⟨rfl, ?_⟩
  have e : itr b l = itr b' l := h.eq.symm.trans h'.eq
  rcases Nat.lt_trichotomy b b' with q | q | q
  · exact absurd e (h.ne _ _ q h'.lt)
  · exact q
  · exact absurd e.symm (h.ne _ _ q h.lt)
theorem IsC.per {l : List Int} {N b : Nat} (h : IsC l N b) {k : Nat} (hk : b ≤ k) : itr (k + (N - b)) l = itr k l := by
  have e1 : k + (N - b) = (k - b) + N := by have := h.lt; omega
  have e2 : k = (k - b) + b := by omega
  rw [e1, itr_add, h.eq, ← itr_add, ← e2]
theorem IsC.pers {l : List Int} {N b : Nat} (h : IsC l N b) {k : Nat} (hk : b ≤ k) (j : Nat) : itr (k + (N - b) * j) l = itr k l := by
  induction j with
  | zero => rfl
  | succ j ih =>
    rw [Nat.mul_succ, ← Nat.add_assoc, h.per (by omega), ih]
theorem IsC.at {l : List Int} {N b : Nat} (h : IsC l N b) {k : Nat} (hk : b ≤ k) : itr (b + (k - b) % (N - b)) l = itr k l := by
  have := h.pers (k := b + (k - b) % (N - b)) (by omega) ((k - b) / (N - b))
  rw [← this]
  congr 1
  have := Nat.mod_add_div (k - b) (N - b)
  omega
end RD
namespace RL
open PySem PySem.Spec PyProof.Rows L2 Evl
/-! ### small rules beside the layer's -/
theorem tyL {K : PySem.W.Frag} {H : Hp} {a : Addr} {xs : List V} (h : SqL K H a xs) : TyX K H (.ref a) (.type "list") := by
  rcases h with (h | ⟨o, h⟩) | ⟨o, its, n, h, hc, _⟩
  · exact .base (.lst h)
  · exact .base (.frz h)
  · exact .kList h hc
theorem op_mulB {X : Cx} : OpR X (binaryOp .Mult) (rI IntMulOk fun i j => .int (i * j)) :=
  opI fun _ _ _ _ _ _ _ hc q => mul_int q hc
theorem mulOk {i j : Int} {a b : Nat} (ha : i.natAbs < 2 ^ a) (hb : j.natAbs < 2 ^ b) (h0 : 0 < a) (h1 : 0 < b) (h : a + b ≤ 100000000) : IntMulOk i j := by
  have x := PySem.Flt.log2_lt_of h0 ha
  have y := PySem.Flt.log2_lt_of h1 hb
  have bb : ∀ z : Int, Builtin.Int.intBits z ≤ z.natAbs.log2 + 1 := fun z => by
    unfold Builtin.Int.intBits
    split <;> omega
  have g1 := bb i
  have g2 := bb j
  have e : bitsLine = 134217728 := by decide
  unfold IntMulOk
  intro z
  rw [Bool.and_eq_true] at z
  have z2 := z.2
  unfold Builtin.Int.intTooBig at z2
  have z3 := of_decide_eq_true z2
  rw [e] at z3
  omega
theorem natAbs_of_bits {z : Int} {n : Nat} (h : Builtin.Int.intBits z ≤ n) : z.natAbs < 2 ^ n := by
  unfold Builtin.Int.intBits at h
  split at h
  · rename_i q
    have q0 : z = 0 := by
      first
        | exact q
        | (simpa using q)
    rw [q0]
    exact Nat.pow_pos (by decide)
  · rename_i q
    have q0 : z ≠ 0 := by
      first
        | exact q
        | (simpa using q)
    exact Nat.lt_of_lt_of_le (Nat.lt_log2_self) (Nat.pow_le_pow_right (by decide) h)
/-! ### data: lists of whole numbers -/
theorem dpAll_ints {K : PySem.W.Frag} {H : Hp} : ∀ ns : List Int, DpAll K H (ns.map V.int) (ns.map PyData.int)
  | [] => .nil
  | n :: r => .cons (.int n) (dpAll_ints r)
theorem dp_ints {K : PySem.W.Frag} {H : Hp} {a : Addr} {ns : List Int} (h : SqL K H a (ns.map V.int)) : Dp K H (.ref a) (.list (ns.map PyData.int)) := .lst h (dpAll_ints ns)
theorem eqvAll_ints : ∀ ns ms : List Int, PyData.eqvAll (ns.map PyData.int) (ms.map PyData.int) = decide (ns = ms)
  | [], [] => by simp [PyData.eqvAll]
  | [], m :: r => by simp [PyData.eqvAll]
  | n :: r, [] => by simp [PyData.eqvAll]
  | n :: r, m :: q => by
    rw [List.map_cons, List.map_cons, PyData.eqvAll, eqvAll_ints r q]
    by_cases h : n = m
    · by_cases h2 : r = q <;> simp [PyData.eqv, h, h2]
    · simp [PyData.eqv, h]
theorem eqv_ints (ns ms : List Int) : PyData.eqv (.list (ns.map PyData.int)) (.list (ms.map PyData.int)) = decide (ns = ms) := by
  rw [PyData.eqv, eqvAll_ints]
theorem canAll_ints : ∀ ns : List Int, PyData.canLayAll0 (ns.map PyData.int) = true
  | [] => by rw [List.map_nil, PyData.canLayAll0]
  | n :: r => by rw [List.map_cons, PyData.canLayAll0, canAll_ints r, PyData.canLay0]; rfl
theorem deepAll_ints : ∀ ns : List Int, PyData.depthAll (ns.map PyData.int) = 0
  | [] => by rw [List.map_nil, PyData.depthAll]
  | n :: r => by rw [List.map_cons, PyData.depthAll, deepAll_ints r, PyData.depth]; rfl
theorem shaped_ints (ns : List Int) : SeqAt.shaped (.list (ns.map PyData.int)) = true := by
  unfold SeqAt.shaped
  rw [PyData.canLay0, PyData.depth, canAll_ints, deepAll_ints]
  rfl
/-! ### a comprehension over a zip of two lists of one length -/
theorem lc_zip {K : PySem.W.Frag} {a b : Addr} {xs ys : List V} {g : TG} {tt : TT} {te : TE} {vs : List Nat} {σ : L2.St} {H1 : Hp} {D : Addr} {Qd : Hp → Prop} (hl : xs.length = ys.length) (Pv : Nat → Hp → Prop) (h0 : Pv 0 (upd H1 D (.lst [])))
    (hq : ∀ i H, i ≤ xs.length → Pv i H → SqL K H a xs ∧ SqL K H b ys)
    (hs : ∀ i x y T H, xs[i]? = some x → ys[i]? = some y → Pv i H → H T = none → g (.ref T) (wipe σ vs) (upd H T (.tup [x, y])) fun σ2 H2 => wipe σ2 vs = wipe σ vs ∧ tt σ2 H2 fun b H3 =>
      if b = true then te σ2 H3 fun y H4 => ∃ acc, H4 D = some (.lst acc) ∧ acc.length < sizeLine ∧ Pv (i + 1) (upd H4 D (.lst (acc ++ [y]))) else Pv (i + 1) H3) (hd : ∀ H, Pv xs.length H → Qd H) :
    ∃ W : Nat → Nat → Hp → Prop, (∃ m, W 0 m (upd H1 D (.lst []))) ∧ ∀ i m H, W i m H →
      ((Itz K a b).stop i H ∧ Qd H) ∨ ((Itz K a b).go i H ∧ ∃ Nx : Hp → Prop, (∀ H', Nx H' → ∃ m', m' < m ∧ W (i + 1) m' H') ∧ ∀ x H', (Itz K a b).yld i H x H' → g x (wipe σ vs) H' fun σ2 H2 => wipe σ2 vs = wipe σ vs ∧ tt σ2 H2 fun b H3 =>
        if b = true then te σ2 H3 fun y H4 => ∃ acc, H4 D = some (.lst acc) ∧ acc.length < sizeLine ∧ Nx (upd H4 D (.lst (acc ++ [y]))) else Nx H3) := by
  refine ⟨fun i m H => m = xs.length - i ∧ i ≤ xs.length ∧ Pv i H, ⟨xs.length, rfl, Nat.zero_le _, h0⟩, ?_⟩
  rintro i m H ⟨rfl, hi, p⟩
  obtain ⟨q1, q2⟩ := hq i H hi p
  by_cases hlt : i < xs.length
  · have gx := List.getElem?_eq_getElem hlt
    have gy := List.getElem?_eq_getElem (hl ▸ hlt)
    refine .inr ⟨⟨xs, ys, _, _, q1, q2, gx, gy⟩, Pv (i + 1), fun H' p' => ⟨xs.length - (i + 1), by omega, rfl, hlt, p'⟩, fun v H' hy => ?_⟩
    obtain ⟨T, x, y, rfl, nT, rfl, fx, fy⟩ := hy
    exact hs i x y T H (fx xs q1) (fy ys q2) p nT
  · exact .inl ⟨⟨xs, ys, q1, q2, .inl (by omega)⟩, hd H (by rw [show xs.length = i by omega]; exact p)⟩
theorem tyes {σ : L2.St} {H : Hp} {A B : Hp → Prop} (h : A H) : tYes σ H (fun b H3 => if b = true then A H3 else B H3) := by
  show (if true = true then A H else B H)
  rw [if_pos rfl]
  exact h
/-! ### heaps -/
theorem fresh_ne {H : Hp} {p q : Addr} {o : HO} (h : H q = none) (hp : H p = some o) : p ≠ q := ne_of_none hp h
theorem upd_fresh {H : Hp} {p q : Addr} {o : HO} (h : upd H p o q = none) : H q = none ∧ q ≠ p := by
  by_cases e : q = p
  · rw [e, upd_same] at h
    cases h
  · rw [upd_ne e] at h
    exact ⟨h, e⟩
theorem map_get {α β : Type} {l : List α} {f : α → β} {i : Nat} {y : β} (h : (l.map f)[i]? = some y) : ∃ x, l[i]? = some x ∧ y = f x := by
  rw [List.getElem?_map] at h
  cases e : l[i]? with
  | none => rw [e] at h; cases h
  | some x =>
    rw [e] at h
    exact ⟨x, rfl, (Option.some.inj h).symm⟩
theorem get_lt {α : Type} {l : List α} {i : Nat} {x : α} (h : l[i]? = some x) : i < l.length := (List.getElem?_eq_some_iff.mp h).1
/-- all/any over a comprehension's truths, the same for all items -/
theorem lc_each {K : PySem.W.Frag} {a : Addr} {xs : List V} {j : Nat} {te : TE} {vs : List Nat} {σ : L2.St} {H1 : Hp} {D : Addr} {Qd : Hp → Prop} (f : Nat → V) (hx : SqL K H1 a xs) (hD : H1 D = none) (hz : xs.length ≤ 40000)
    (hw : ∀ x, wipe ((wipe σ vs).set j (some x)) vs = wipe σ vs) (he : ∀ i x H, Ex H1 H → xs[i]? = some x → Ev te ((wipe σ vs).set j (some x)) H (f i))
    (hd : ∀ H, Ex H1 H → H D = some (.lst ((List.range xs.length).map f)) → Qd H) :
    ∃ W : Nat → Nat → Hp → Prop, (∃ m, W 0 m (upd H1 D (.lst []))) ∧ ∀ i m H, W i m H →
      ((Itl K a).stop i H ∧ Qd H) ∨ ((Itl K a).go i H ∧ ∃ Nx : Hp → Prop, (∀ H', Nx H' → ∃ m', m' < m ∧ W (i + 1) m' H') ∧ ∀ x H', (Itl K a).yld i H x H' → gName j x (wipe σ vs) H' fun σ2 H2 => wipe σ2 vs = wipe σ vs ∧ tYes σ2 H2 fun b H3 =>
        if b = true then te σ2 H3 fun y H4 => ∃ acc, H4 D = some (.lst acc) ∧ acc.length < sizeLine ∧ Nx (upd H4 D (.lst (acc ++ [y]))) else Nx H3) := by
  refine lc_list (xs := xs) (fun i H => Ex H1 H ∧ H D = some (.lst ((List.range i).map f))) ⟨Ex.new hD, upd_same⟩ (fun i H _ p => ex_l p.1 hx) (fun i x H hi p => ?_) (fun H p => hd H p.1 p.2)
  refine ⟨hw x, ?_⟩
  show te _ H _
  refine he i x H p.1 hi H (Ex.refl _) _ fun H2 e2 => ⟨_, e2 _ _ p.2, ?_, ?_, ?_⟩
  · have := get_lt hi
    rw [List.length_map, List.length_range]
    exact sz_lt (by omega)
  · exact Ex.mut (p.1.trans e2) hD
  · rw [upd_same, List.range_succ, List.map_append]
    rfl
theorem all_range {n : Nat} {f : Nat → Bool} (h : ∀ i, i < n → f i = true) : (((List.range n).map f).all id) = true := by
  rw [List.all_eq_true]
  intro b hb
  obtain ⟨i, hi, rfl⟩ := List.mem_map.mp hb
  exact h i (List.mem_range.mp hi)
theorem any_range {n : Nat} {f : Nat → Bool} (h : ∀ i, i < n → f i = false) : (((List.range n).map f).any id) = false := by
  rw [List.any_eq_false]
  intro b hb
  obtain ⟨i, hi, rfl⟩ := List.mem_map.mp hb
  rw [h i (List.mem_range.mp hi)]
  decide
/-! ### what evaluates to what, some more -/
theorem tyX_ex {K : PySem.W.Frag} {H H' : Hp} {x : V} {t : Value} (e : Ex H H') (h : TyX K H x t) : TyX K H' x t := by
  cases h with
  | base b =>
    refine .base ?_
    cases b with
    | non => exact .non
    | bl y => exact .bl y
    | int i => exact .int i
    | str y => exact .str y
    | flt y => exact .flt y
    | lst q => exact .lst (e _ _ q)
    | frz q => exact .frz (e _ _ q)
    | tup q => exact .tup (e _ _ q)
    | dK q => exact .dK (e _ _ q)
    | dT q => exact .dT (e _ _ q)
    | ins q a1 a2 a3 a4 a5 => exact .ins (e _ _ q) a1 a2 a3 a4 a5
  | byt y => exact .byt y
  | set q => exact .set (e _ _ q)
  | kList q c => exact .kList q c
  | kTuple q c => exact .kTuple q c
  | kDict q c => exact .kDict q c
  | fTuple q => exact .fTuple (e _ _ q)
  | fDict q => exact .fDict (e _ _ q)
section
variable {K : PySem.W.Frag} {σ : L2.St} {H H' : Hp} {ta tb tc te tl : TE} {t u : TT} {x y z v : V} {r r' : R2}
theorem ev_isi {ty cv : Value} {c : V} {b : Bool} (ha : Ev ta σ H x) (hx : TyX K H x ty) (hc : ClsV c cv) (hk : PySem.W.kitOne K ty cv = some b) :
    Ev (tCB (rIsi K) (tCons ta (tCons (tC c) tNil))) σ H (.bl b) := fun H1 e Q q =>
  ha H1 e _ fun H2 e2 => ⟨x, c, ty, cv, b, rfl, hc, tyX_ex (e.trans e2) hx, hk, q H2 e2⟩
theorem ev_isiL {xs : List V} {cv : Value} {c : V} {b : Bool} (ha : EvL ta σ H xs) (hc : ClsV c cv) (hk : PySem.W.kitOne K (.type "list") cv = some b) :
    Ev (tCB (rIsi K) (tCons ta (tCons (tC c) tNil))) σ H (.bl b) := fun H1 e Q q =>
  ha H1 e _ fun p H2 _ e2 h2 => ⟨_, c, _, cv, b, rfl, hc, .base (.lst h2), hk, q H2 e2⟩
theorem ev_chain {k k' : Bool} (ha : Ev ta σ H x) (hb : Ev tb σ H y) (hr : RV r x y H (.bl k)) (hc : Ev tc σ H z) (hr' : RV r' y z H (.bl k')) : Ev (tChain r r' ta tb tc) σ H (.bl (k && k')) := fun H1 e Q q =>
  ha H1 e _ fun H2 e2 => hb H2 (e.trans e2) _ fun H3 e3 => hr H3 ((e.trans e2).trans e3) _ fun H4 e4 => ⟨k, rfl, by
    cases k with
    | true =>
      show tc σ H4 _
      exact hc H4 (((e.trans e2).trans e3).trans e4) _ fun H5 e5 => hr' H5 ((((e.trans e2).trans e3).trans e4).trans e5) _ fun H6 e6 => q H6 ((((e2.trans e3).trans e4).trans e5).trans e6)
    | false =>
      show Q (.bl false) H4
      exact q H4 ((e2.trans e3).trans e4)⟩
theorem ev_allN {bs : List Bool} (ha : EvL ta σ H (bs.map V.bl)) : Ev (tCB (rAll K) (tCons ta tNil)) σ H (.bl (bs.all id)) := fun H1 e Q q =>
  ha H1 e _ fun p H2 _ e2 h2 => ⟨p, bs, rfl, sq_of h2, q H2 e2⟩
theorem ev_anyN {bs : List Bool} (ha : EvL ta σ H (bs.map V.bl)) : Ev (tCB (rAny K) (tCons ta tNil)) σ H (.bl (bs.any id)) := fun H1 e Q q =>
  ha H1 e _ fun p H2 _ e2 h2 => ⟨p, bs, rfl, sq_of h2, q H2 e2⟩
theorem el_each {a : Addr} {xs : List V} {j : Nat} {vs : List Nat} (f : Nat → V) (h : Ev tl σ H (.ref a)) (hx : SqL K H a xs) (hz : xs.length ≤ 40000)
    (hw : ∀ x, wipe ((wipe σ vs).set j (some x)) vs = wipe σ vs) (he : ∀ (i : Nat) x H1, Ex H H1 → xs[i]? = some x → Ev te ((wipe σ vs).set j (some x)) H1 (f i)) :
    EvL (tLc (iList K tl) (gName j) tYes te vs) σ H ((List.range xs.length).map f) := fun H0 e Q q => h H0 e _ fun H1 e1 => ⟨a, rfl, ⟨xs, ex_l (e.trans e1) hx⟩, fun Dl hD =>
  lc_each f (ex_l (e.trans e1) hx) hD hz hw (fun i x H2 e2 hi => he i x H2 ((e.trans e1).trans e2) hi) fun H2 e2 h2 => q Dl H2 (fresh_back e1 hD) (e1.trans e2) h2⟩
/-- all of truths over a list's items -/
theorem ev_allEach {a : Addr} {xs : List V} {j : Nat} {vs : List Nat} (h : Ev tl σ H (.ref a)) (hx : SqL K H a xs) (hz : xs.length ≤ 40000)
    (hw : ∀ x, wipe ((wipe σ vs).set j (some x)) vs = wipe σ vs) (he : ∀ (i : Nat) x H1, Ex H H1 → xs[i]? = some x → Ev te ((wipe σ vs).set j (some x)) H1 (.bl true)) :
    Ev (tCB (rAll K) (tCons (tLc (iList K tl) (gName j) tYes te vs) tNil)) σ H (.bl true) := by
  have h1 : EvL (tLc (iList K tl) (gName j) tYes te vs) σ H (((List.range xs.length).map fun _ => true).map V.bl) := by
    rw [List.map_map]
    exact el_each (fun _ => V.bl true) h hx hz hw he
  have h2 := ev_allN (K := K) h1
  rw [all_range fun _ _ => rfl] at h2
  exact h2
theorem ev_anyEach {a : Addr} {xs : List V} {j : Nat} {vs : List Nat} (h : Ev tl σ H (.ref a)) (hx : SqL K H a xs) (hz : xs.length ≤ 40000)
    (hw : ∀ x, wipe ((wipe σ vs).set j (some x)) vs = wipe σ vs) (he : ∀ (i : Nat) x H1, Ex H H1 → xs[i]? = some x → Ev te ((wipe σ vs).set j (some x)) H1 (.bl false)) :
    Ev (tCB (rAny K) (tCons (tLc (iList K tl) (gName j) tYes te vs) tNil)) σ H (.bl false) := by
  have h1 : EvL (tLc (iList K tl) (gName j) tYes te vs) σ H (((List.range xs.length).map fun _ => false).map V.bl) := by
    rw [List.map_map]
    exact el_each (fun _ => V.bl false) h hx hz hw he
  have h2 := ev_anyN (K := K) h1
  rw [any_range fun _ _ => rfl] at h2
  exact h2
end
/-- a ring as it is due -/
structure Ring (ns : List Int) : Prop where
  pos : 1 ≤ ns.length
  few : ns.length ≤ 12
  bd : RD.Bd 200 ns
theorem Ring.D {ns : List Int} (h : Ring ns) : Ring (RD.D ns) := ⟨by rw [RD.D_len]; exact h.pos, by rw [RD.D_len]; exact h.few, h.bd.D⟩
theorem Ring.itr {ns : List Int} (h : Ring ns) (k : Nat) : Ring (RD.itr k ns) := ⟨by rw [RD.itr_len]; exact h.pos, by rw [RD.itr_len]; exact h.few, h.bd.itr k⟩
section
variable {K : PySem.W.Frag} {σ : L2.St} {H H' : Hp} {ta tb tc te tl : TE} {t u : TT} {x y z v : V} {r r' : R2}
theorem ev_ixU {xs : List V} {i : Int} (ha : EvU ta σ H xs) (hb : Ev tb σ H (.int i)) (hv : atI xs i = some v) : Ev (tOp (rIxT K) ta tb) σ H v := fun H1 e Q q =>
  ha H1 e _ fun p H2 _ e2 hp => hb H2 (e.trans e2) _ fun H3 e3 => ⟨p, xs, i, v, rfl, rfl, st_of (e3 _ _ hp), hv, q H3 (e2.trans e3)⟩
theorem ev_ixL {p : Addr} {xs : List V} {i : Int} (ha : Ev ta σ H (.ref p)) (hb : Ev tb σ H (.int i)) (hx : SqL K H p xs) (hv : atI xs i = some v) : Ev (tOp (rIxL K) ta tb) σ H v :=
  ev_op ha hb (rv_ixL hx hv)
theorem ev_sum {p : Addr} {ns : List Int} (ha : Ev ta σ H (.ref p)) (hx : SqL K H p (ns.map V.int)) : Ev (tCB (rSum K) (tCons ta tNil)) σ H (.int ns.sum) := fun H1 e Q q =>
  ha H1 e _ fun H2 e2 => ⟨p, ns, rfl, ex_l (e.trans e2) hx, q H2 e2⟩
def rAbs : List V → Hp → VK → Prop := fun xs H Q => ∃ i, xs = [.int i] ∧ Q (.int (if i < 0 then -i else i)) H
theorem ev_abs {i : Int} (ha : Ev ta σ H (.int i)) : Ev (tCB rAbs (tCons ta tNil)) σ H (.int (if i < 0 then -i else i)) := fun H1 e Q q =>
  ha H1 e _ fun H2 e2 => ⟨i, rfl, q H2 e2⟩
end
def rTupS (K : PySem.W.Frag) : List V → Hp → VK → Prop := fun xs H Q => ∃ p ys, xs = [.ref p] ∧ ((SqL K H p ys ∧ ∀ l, H l = none → Q (.ref l) (upd H l (.tup ys))) ∨ (SqT K H p ys ∧ Q (.ref p) H))
theorem at_mem {l : List Int} {j : Int} (h0 : 0 ≤ j) (h1 : j < (l.length : Int)) : ∃ x, x ∈ l ∧ atI (l.map V.int) j = some (.int x) := by
  have hj : j.toNat < l.length := by omega
  refine ⟨l[j.toNat], List.getElem_mem hj, ?_⟩
  refine at_of (j := j.toNat) (by omega) ?_
  rw [List.getElem?_map, List.getElem?_eq_getElem hj]
  rfl
theorem at_int {l : List Int} {i : Nat} {n : Int} (h : l[i]? = some n) : atI (l.map V.int) (i : Int) = some (.int n) := by
  refine atI_nat ?_
  rw [List.getElem?_map, h]
  rfl
/-- all numbers have few bits -/
def Few (ns : List Int) : Prop := ∃ e : Nat, 0 < e ∧ e ≤ 1048576 ∧ ∀ z, z ∈ ns → z.natAbs < 2 ^ e
theorem few_of {ns : List Int} (h : ∀ z ∈ ns, Builtin.Int.intBits z ≤ 1048576) : Few ns := ⟨1048576, by decide, Nat.le_refl _, fun z hz => natAbs_of_bits (h z hz)⟩
theorem s_forNLn {K : PySem.W.Frag} {σ : L2.St} {H : Hp} {D : Ends} {tu : TS} {xs : List V} {tl : TE} {j : Nat} (h : EvL tl σ H xs) (Pv : Addr → Nat → L2.St → Hp → Prop) (h0 : ∀ p H1, H p = none → Ex H H1 → H1 p = some (.lst xs) → Pv p 0 σ H1)
    (hl : ∀ p i σ' H', i ≤ xs.length → Pv p i σ' H' → SqL K H' p xs) (hs : ∀ p i x σ' H', xs[i]? = some x → Pv p i σ' H' → tu { D with nx := Pv p (i + 1), ct := Pv p (i + 1), bk := D.nx } (σ'.set j (some x)) H')
    (hd : ∀ p σ' H', Pv p xs.length σ' H' → D.nx σ' H') : tFor (iList K tl) (gName j) tu D σ H := s_forNL h Pv h0 hl hs hd
/-! ### lists of whole numbers as values -/
def EvI (K : PySem.W.Frag) (te : TE) (σ : L2.St) (H : Hp) (ns : List Int) : Prop := ∀ H1, Ex H H1 → ∀ Q : VK, (∀ p H2, Ex H1 H2 → SqL K H2 p (ns.map V.int) → Q (.ref p) H2) → te σ H1 Q
section
variable {K : PySem.W.Frag} {σ : L2.St} {H H' : Hp} {ta tb tc te tl : TE} {ns ms : List Int}
theorem ei_var {i : Nat} {a : Addr} (h : σ[i]? = some (some (.ref a))) (hx : SqL K H a (ns.map V.int)) : EvI K (tVar i) σ H ns := fun H1 e Q q => ⟨.ref a, h, q a H1 (Ex.refl _) (ex_l e hx)⟩
theorem ei_L (h : EvL te σ H (ns.map V.int)) : EvI K te σ H ns := fun H1 e Q q => h H1 e _ fun p H2 _ e2 hp => q p H2 e2 (sq_of hp)
theorem ev_eqI (ha : EvI K ta σ H ns) (hb : EvI K tb σ H ms) : Ev (tOp (rEqD K) ta tb) σ H (.bl (decide (ns = ms))) := fun H1 e Q q =>
  ha H1 e _ fun p H2 e2 hp => hb H2 (e.trans e2) _ fun r H3 e3 hr => ⟨_, _, dp_ints (ex_l e3 hp), dp_ints hr, shaped_ints _, shaped_ints _, by rw [eqv_ints]; exact q H3 (e2.trans e3)⟩
theorem ev_neI (ha : EvI K ta σ H ns) (hb : EvI K tb σ H ms) : Ev (tOp (rNeD K) ta tb) σ H (.bl (!decide (ns = ms))) := fun H1 e Q q =>
  ha H1 e _ fun p H2 e2 hp => hb H2 (e.trans e2) _ fun r H3 e3 hr => ⟨_, _, dp_ints (ex_l e3 hp), dp_ints hr, shaped_ints _, shaped_ints _, by rw [eqv_ints]; exact q H3 (e2.trans e3)⟩
theorem ev_eqI1 (ha : EvI K ta σ H ns) (hb : EvI K tb σ H ms) (h : ns = ms) : Ev (tOp (rEqD K) ta tb) σ H (.bl true) := ev_is (ev_eqI ha hb) (by rw [decide_eq_true h])
theorem ev_neI0 (ha : EvI K ta σ H ns) (hb : EvI K tb σ H ms) (h : ns = ms) : Ev (tOp (rNeD K) ta tb) σ H (.bl false) := ev_is (ev_neI ha hb) (by rw [decide_eq_true h]; rfl)
theorem EvI.mono (e : Ex H H') (h : EvI K te σ H ns) : EvI K te σ H' ns := fun H1 a Q q => h H1 (e.trans a) Q q
theorem ev_isiI {cv : Value} {c : V} {b : Bool} (ha : EvI K ta σ H ns) (hc : ClsV c cv) (hk : PySem.W.kitOne K (.type "list") cv = some b) : Ev (tCB (rIsi K) (tCons ta (tCons (tC c) tNil))) σ H (.bl b) := fun H1 e Q q =>
  ha H1 e _ fun p H2 e2 h2 => ⟨_, c, _, cv, b, rfl, hc, tyL h2, hk, q H2 e2⟩
end
theorem ring_by {ms : List Int} (h : (decide (1 ≤ ms.length) && decide (ms.length ≤ 12) && (ms.all fun x => decide (0 ≤ x) && decide (x ≤ 200))) = true) : Ring ms := by
  simp only [Bool.and_eq_true, decide_eq_true_eq] at h
  refine ⟨h.1.1, h.1.2, fun x hx => ?_⟩
  have g := List.all_eq_true.mp h.2 x hx
  simp only [Bool.and_eq_true, decide_eq_true_eq] at g
  exact g
def top (i : Nat) : Stmt := PySem.Challenge.pw_ringdiffer_k02_whole_after.main.body.getD i (.Pass ⟨0, 0, 0, 0⟩)
abbrev s_is_whole : Stmt := top 7
theorem sc_is_whole : FnScope ["thing"] ["thing"] (defScope s_is_whole) :=
  ⟨rfl, rfl, rfl, by decide +kernel, rfl, by decide +kernel, by decide +kernel⟩
abbrev s_asked_ring : Stmt := top 8
theorem sc_asked_ring : FnScope ["ring", "one"] ["ring"] (defScope s_asked_ring) :=
  ⟨rfl, rfl, rfl, by decide +kernel, rfl, by decide +kernel, by decide +kernel⟩
abbrev s_asked_number : Stmt := top 9
theorem sc_asked_number : FnScope ["number"] ["number"] (defScope s_asked_number) :=
  ⟨rfl, rfl, rfl, by decide +kernel, rfl, by decide +kernel, by decide +kernel⟩
abbrev s_stepped : Stmt := top 10
theorem sc_stepped : FnScope ["ring", "one", "other"] ["ring"] (defScope s_stepped) :=
  ⟨rfl, rfl, rfl, by decide +kernel, rfl, by decide +kernel, by decide +kernel⟩
abbrev s_step : Stmt := top 11
theorem sc_step : FnScope ["ring"] ["ring"] (defScope s_step) :=
  ⟨rfl, rfl, rfl, by decide +kernel, rfl, by decide +kernel, by decide +kernel⟩
abbrev s_course : Stmt := top 12
theorem sc_course : FnScope ["ring", "found", "places", "here"] ["ring"] (defScope s_course) :=
  ⟨rfl, rfl, rfl, by decide +kernel, rfl, by decide +kernel, by decide +kernel⟩
abbrev s_after : Stmt := top 13
theorem sc_after : FnScope ["ring", "steps", "found", "begin"] ["ring", "steps"] (defScope s_after) :=
  ⟨rfl, rfl, rfl, by decide +kernel, rfl, by decide +kernel, by decide +kernel⟩
abbrev s_w_number : Stmt := top 15
theorem sc_w_number : FnScope ["_law_cell", "_law_at", "_law_whole", "_law_mixed", "_law_more"] ["_law_cell", "_law_at", "_law_whole"] (defScope s_w_number) :=
  ⟨rfl, rfl, rfl, by decide +kernel, rfl, by decide +kernel, by decide +kernel⟩
abbrev s_w_ring : Stmt := top 16
theorem sc_w_ring : FnScope ["_law_script", "_law_by", "_law_cells", "_law_whole", "_law_many", "_law_wide", "_law_found", "_law_at", "_law_number_here"] ["_law_script", "_law_by"] (defScope s_w_ring) :=
  ⟨rfl, rfl, rfl, by decide +kernel, rfl, by decide +kernel, by decide +kernel⟩
abbrev s_w_step : Stmt := top 17
theorem sc_w_step : FnScope ["_law_ring_here", "_law_found", "_law_at", "_law_far"] ["_law_ring_here"] (defScope s_w_step) :=
  ⟨rfl, rfl, rfl, by decide +kernel, rfl, by decide +kernel, by decide +kernel⟩
abbrev s_w_course : Stmt := top 18
theorem sc_w_course : FnScope ["_law_ring_here", "_law_found", "_law_places", "_law_here"] ["_law_ring_here"] (defScope s_w_course) :=
  ⟨rfl, rfl, rfl, by decide +kernel, rfl, by decide +kernel, by decide +kernel⟩
abbrev s_law : Stmt := top 19
theorem sc_law : FnScope ["_law_script", "_law_by", "_law_ring_here", "_law_length", "_law_whole", "_law_steps", "_law_found", "_law_begin", "_law_place", "_law_due", "_law_handed", "_law_again", "_law_here"] ["_law_script"] (defScope s_law) :=
  ⟨rfl, rfl, rfl, by decide +kernel, rfl, by decide +kernel, by decide +kernel⟩
structure Txt (K : PySem.W.Frag) (mg : Str → Option Value) where
  n_abs : mg "abs" = none
  n_all : mg "all" = none
  n_bool : mg "bool" = none
  n_int : mg "int" = none
  n_isinstance : mg "isinstance" = none
  n_len : mg "len" = none
  n_list : mg "list" = none
  n_range : mg "range" = none
  n_sum : mg "sum" = none
  n_tuple : mg "tuple" = none
  n_zip : mg "zip" = none
  t_LONGEST : Tok
  m_LONGEST : mg "LONGEST" = some (.int 12 t_LONGEST)
  t_GREATEST : Tok
  m_GREATEST : mg "GREATEST" = some (.int 200 t_GREATEST)
  C_RingError : Addr
  m_RingError : mg "RingError" = some (.ref C_RingError)
  C_BadRing : Addr
  m_BadRing : mg "BadRing" = some (.ref C_BadRing)
  C_BadNumber : Addr
  m_BadNumber : mg "BadNumber" = some (.ref C_BadNumber)
  f_is_whole : Addr
  fd_is_whole : FuncData
  F_is_whole : Fun K "is_whole" "is_whole" s_is_whole f_is_whole fd_is_whole
  b_is_whole : Binds K fd_is_whole ["thing"] []
  g_is_whole : mg "is_whole" = some (.ref f_is_whole)
  f_asked_ring : Addr
  fd_asked_ring : FuncData
  F_asked_ring : Fun K "asked_ring" "asked_ring" s_asked_ring f_asked_ring fd_asked_ring
  b_asked_ring : Binds K fd_asked_ring ["ring"] []
  g_asked_ring : mg "asked_ring" = some (.ref f_asked_ring)
  f_asked_number : Addr
  fd_asked_number : FuncData
  F_asked_number : Fun K "asked_number" "asked_number" s_asked_number f_asked_number fd_asked_number
  b_asked_number : Binds K fd_asked_number ["number"] []
  g_asked_number : mg "asked_number" = some (.ref f_asked_number)
  f_stepped : Addr
  fd_stepped : FuncData
  F_stepped : Fun K "stepped" "stepped" s_stepped f_stepped fd_stepped
  b_stepped : Binds K fd_stepped ["ring"] []
  g_stepped : mg "stepped" = some (.ref f_stepped)
  f_step : Addr
  fd_step : FuncData
  F_step : Fun K "step" "step" s_step f_step fd_step
  b_step : Binds K fd_step ["ring"] []
  g_step : mg "step" = some (.ref f_step)
  f_course : Addr
  fd_course : FuncData
  F_course : Fun K "course" "course" s_course f_course fd_course
  b_course : Binds K fd_course ["ring"] []
  g_course : mg "course" = some (.ref f_course)
  f_after : Addr
  fd_after : FuncData
  F_after : Fun K "after" "after" s_after f_after fd_after
  b_after : Binds K fd_after ["ring", "steps"] []
  g_after : mg "after" = some (.ref f_after)
  f_w_number : Addr
  fd_w_number : FuncData
  F_w_number : Fun K "_law_number" "_law_number" s_w_number f_w_number fd_w_number
  b_w_number : Binds K fd_w_number ["_law_cell", "_law_at", "_law_whole"] []
  g_w_number : mg "_law_number" = some (.ref f_w_number)
  f_w_ring : Addr
  fd_w_ring : FuncData
  F_w_ring : Fun K "_law_ring" "_law_ring" s_w_ring f_w_ring fd_w_ring
  b_w_ring : Binds K fd_w_ring ["_law_script", "_law_by"] []
  g_w_ring : mg "_law_ring" = some (.ref f_w_ring)
  f_w_step : Addr
  fd_w_step : FuncData
  F_w_step : Fun K "_law_step" "_law_step" s_w_step f_w_step fd_w_step
  b_w_step : Binds K fd_w_step ["_law_ring_here"] []
  g_w_step : mg "_law_step" = some (.ref f_w_step)
  f_w_course : Addr
  fd_w_course : FuncData
  F_w_course : Fun K "_law_course" "_law_course" s_w_course f_w_course fd_w_course
  b_w_course : Binds K fd_w_course ["_law_ring_here"] []
  g_w_course : mg "_law_course" = some (.ref f_w_course)
  f_law : Addr
  fd_law : FuncData
  F_law : Fun K "law" "law" s_law f_law fd_law
  b_law : Binds K fd_law ["_law_script"] []
  g_law : mg "law" = some (.ref f_law)
section
variable {P : Program} {w : World} {K : PySem.W.Frag} {mg : Str → Option Value} {base : Heap}
/-! ### is_whole, asked_ring, stepped, step (where nothing is refused) -/
def spWhole (K : PySem.W.Frag) : Sp := fun vs H Q _ => ∃ (v : V) (t : Value) (b1 b2 : Bool), vs = [v] ∧ TyX K H v t ∧ PySem.W.kitOne K t (.type "int") = some b1 ∧ PySem.W.kitOne K t (.type "bool") = some b2 ∧ Q (.bl (b1 && !b2)) H
theorem ok_is_whole (T : Txt K mg) : FnOk P w K mg base CX0 1 T.f_is_whole T.fd_is_whole ["thing"] (spWhole K) := by
  refine T.F_is_whole.ok sc_is_whole (fun vs H Q E h => ?_) (fun cdv A outer s H vs Q E hr h => ?_)
  · obtain ⟨v, t, b1, b2, rfl, _⟩ := h
    rfl
  · obtain ⟨v, t, b1, b2, rfl, ty, k1, k2, q⟩ := h
    refine ⟨_, (pss_one (ps_ret (pe_and (pe_callB (r := rIsi K) call_isi (by rfl) T.n_isinstance (by decide +kernel) (pa_cons (pv 0) (pa_cons (pe_bltn (v := .ty "int") (by rfl) T.n_int (by decide +kernel) rfl) pa_nil))) (pe_one (pe_not (pe_callB (r := rIsi K) call_isi (by rfl) T.n_isinstance (by decide +kernel) (pa_cons (pv 0) (pa_cons (pe_bltn (v := .ty "bool") (by rfl) T.n_bool (by decide +kernel) rfl) pa_nil)))))))), ?_⟩
    refine ⟨v, rfl, v, .ty "int", t, _, b1, rfl, .ty _, ty, k1, b1, rfl, ?_⟩
    cases b1 with
    | true => exact ⟨v, rfl, v, .ty "bool", t, _, b2, rfl, .ty _, ty, k2, b2, rfl, q⟩
    | false => exact q
theorem whole_int {K : PySem.W.Frag} {H : Hp} {i : Int} {Q : VK} {E : XK} (q : Q (.bl true) H) : spWhole K [.int i] H Q E :=
  ⟨.int i, .type "int", true, false, rfl, .base (.int i), kit_ty (by decide +kernel), kit_ty (by decide +kernel), q⟩
def spAsked (K : PySem.W.Frag) : Sp := fun vs H Q _ => ∃ (a : Addr) (ns : List Int), vs = [.ref a] ∧ SqL K H a (ns.map V.int) ∧ Ring ns ∧ RetV .non H Q
theorem ok_asked_ring (T : Txt K mg) : FnOk P w K mg base CX0 2 T.f_asked_ring T.fd_asked_ring ["ring"] (spAsked K) := by
  refine T.F_asked_ring.ok sc_asked_ring (fun vs H Q E h => ?_) (fun cdv A outer s H vs Q E hr h => ?_)
  · obtain ⟨a, ns, rfl, _⟩ := h
    rfl
  · obtain ⟨a, ns, rfl, hS, hR, q⟩ := h
    refine ⟨_, (pss_cons (ps_if (PW.pt (pw_or (pt_not (pt_val (pe_callB (r := rIsi K) call_isi (by rfl) T.n_isinstance (by decide +kernel) (pa_cons (pv 0) (pa_cons (pe_bltn (v := .ty "list") (by rfl) T.n_list (by decide +kernel) rfl) pa_nil))))) (pw_or (pt_not (pt_chain op_le op_le pe_int (pe_callB (r := rLenS K) call_len_seq (by rfl) T.n_len (by decide +kernel) (pa_cons (pv 0) pa_nil)) (pe_glob (v := .int 12) rfl T.m_LONGEST ⟨_, rfl⟩))) (pw_or1 (pt_not (pt_val (pe_callB (r := rAll K) (cr_all rfl) (by rfl) T.n_all (by decide +kernel) (pa_cons (pe_lc (own := [("one", 1)]) (g := (gName 1)) (tt := tYes) (by rfl) sc_asked_ring.nd (pi_list (pv 0)) (blkOk_by (own := [("one", 1)]) (N := ["ring", "one"]) (sc := defScope s_asked_ring) (by decide +kernel)) (fun _ _ _ _ _ => (pg_name (i := 1) sc_asked_ring.nd rfl (Or.inl rfl))) (fun _ _ _ _ _ => pts_nil) (fun _ _ _ _ _ => (pe_call (ok_is_whole T) (hr.mono (by decide)) (by rfl) T.g_is_whole T.F_is_whole.kp T.b_is_whole .nil pass0 (pa_cons (pv 1) pa_nil)))) pa_nil))))))))
        (pss_one ps_never)
        pss_nil)
      (pss_one (ps_if (pt_not (pt_val (pe_callB (r := rAll K) (cr_all rfl) (by rfl) T.n_all (by decide +kernel) (pa_cons (pe_lc (own := [("one", 1)]) (g := (gName 1)) (tt := tYes) (by rfl) sc_asked_ring.nd (pi_list (pv 0)) (blkOk_by (own := [("one", 1)]) (N := ["ring", "one"]) (sc := defScope s_asked_ring) (by decide +kernel)) (fun _ _ _ _ _ => (pg_name (i := 1) sc_asked_ring.nd rfl (Or.inl rfl))) (fun _ _ _ _ _ => pts_nil) (fun _ _ _ _ _ => (pe_chain op_le op_le pe_int (pv 1) (pe_glob (v := .int 200) rfl T.m_GREATEST ⟨_, rfl⟩)))) pa_nil))))
        (pss_one ps_never)
        pss_nil))), ?_⟩
    have hl : (ns.map V.int).length ≤ 40000 := by rw [List.length_map]; have := hR.few; omega
    refine q_when (b := false) (et_is (et_or (a := false) (b := false) (et_is (et_not (et_B (ev_isi (b := true) (ev_var rfl) (tyL hS) (.ty _) (kit_ty (by decide +kernel))))) rfl) fun _ =>
      et_or (a := false) (b := false) (et_is (et_not (et_test (ev_chain (k := true) (k' := true) ev_c (ev_len (ev_var rfl) hS) ?h1 ev_c ?h2))) rfl) fun _ =>
      et_is (et_not (et_B (ev_allEach (ev_var rfl) hS hl (fun _ => rfl) ?h3))) rfl) rfl) (fun z => nomatch z) fun _ H1 e1 => ?_
    case h1 =>
      have := hR.pos
      have e : decide ((1 : Int) ≤ ((ns.map V.int).length : Int)) = true := decide_eq_true (by rw [List.length_map]; omega)
      rw [← e]
      exact rv_I0
    case h2 =>
      have := hR.few
      have e : decide (((ns.map V.int).length : Int) ≤ (12 : Int)) = true := decide_eq_true (by rw [List.length_map]; omega)
      rw [← e]
      exact rv_I0
    case h3 =>
      intro i x H1 _ hi
      obtain ⟨n, _, rfl⟩ := map_get hi
      intro H2 _ Q' q'
      exact ⟨.int n, rfl, whole_int (E := E0) (q' H2 (Ex.refl _))⟩
    refine s_when (b := false) (et_is (et_not (et_B (ev_allEach (ev_var rfl) (ex_l e1 hS) hl (fun _ => rfl) ?h4))) rfl) (fun z => nomatch z) fun _ H2 e2 => q H2 (e1.trans e2)
    case h4 =>
      intro i x H1 _ hi
      obtain ⟨n, hn, rfl⟩ := map_get hi
      have hb := hR.bd n (List.mem_of_getElem? hn)
      have g1 : decide ((0 : Int) ≤ n) = true := decide_eq_true hb.1
      have g2 : decide (n ≤ (200 : Int)) = true := decide_eq_true hb.2
      refine ev_is (ev_chain (k := true) (k' := true) ev_c (ev_var rfl) ?_ ev_c ?_) rfl
      · rw [← g1]
        exact rv_I0
      · rw [← g2]
        exact rv_I0
def spStepped (K : PySem.W.Frag) : Sp := fun vs H Q _ => ∃ (a : Addr) (ns : List Int), vs = [.ref a] ∧ SqL K H a (ns.map V.int) ∧ 1 ≤ ns.length ∧ ns.length ≤ 1000 ∧ RetL ((RD.D ns).map V.int) H Q
theorem cut_lo (xs : List V) (h : 1 ≤ xs.length) : cutV xs (some 1) none = xs.drop 1 := by
  unfold cutV
  rw [show HT.sIx xs.length 0 (some 1) = min 1 xs.length from HT.sIx_nat xs.length 0 1, HT.sIx_none, show min 1 xs.length = 1 by omega, List.take_of_length_le (by rw [List.length_drop]; omega)]
theorem cut_hi (xs : List V) (k : Nat) : cutV xs none (some (k : Int)) = xs.take k := by
  unfold cutV
  rw [HT.sIx_none, HT.sIx_nat, List.drop_zero, Nat.sub_zero]
  by_cases hk : k ≤ xs.length
  · rw [Nat.min_eq_left hk]
  · rw [Nat.min_eq_right (by omega), List.take_of_length_le (Nat.le_refl _), List.take_of_length_le (by omega)]
theorem next_get {ns : List Int} {i : Nat} (hi : i < ns.length) : (ns.drop 1 ++ ns.take 1)[i]? = some (RD.ev ns (i + 1)) := by
  by_cases h : i + 1 < ns.length
  · rw [List.getElem?_append_left (by rw [List.length_drop]; omega), List.getElem?_drop, Nat.add_comm 1 i]
    exact RD.ev_lt h
  · have e : i + 1 = ns.length := by omega
    rw [List.getElem?_append_right (by rw [List.length_drop]; omega), List.length_drop, show i - (ns.length - 1) = 0 by omega, List.getElem?_take, if_pos (by decide)]
    have e2 : RD.ev ns (i + 1) = RD.ev ns 0 := by
      unfold RD.ev
      rw [e, Nat.mod_self, Nat.zero_mod]
    rw [e2]
    exact RD.ev_lt (by omega)
theorem abs_dst (a b : Int) : (if a - b < 0 then -(a - b) else a - b) = RD.dst a b := by
  unfold RD.dst
  split <;> omega
theorem ok_stepped (T : Txt K mg) : FnOk P w K mg base CX0 1 T.f_stepped T.fd_stepped ["ring"] (spStepped K) := by
  refine T.F_stepped.ok sc_stepped (fun vs H Q E h => ?_) (fun cdv A outer s H vs Q E hr h => ?_)
  · obtain ⟨a, ns, rfl, _⟩ := h
    rfl
  · obtain ⟨a, ns, rfl, hS, h1, hk, q⟩ := h
    refine ⟨_, (pss_one (ps_ret (pe_lc (own := [("one", 1), ("other", 2)]) (g := (gTup _ 2 (gCons (gName 1) (gCons (gName 2) gNil)))) (tt := tYes) (by rfl) sc_stepped.nd (pi_zip (by rfl) T.n_zip (pa_cons (pv 0) (pa_cons (pe_op op_cat (pe_slice (r := rSlL K) sl_list (pv 0) (po_some pe_int) po_none) (pe_slice (r := rSlL K) sl_list (pv 0) po_none (po_some pe_int))) pa_nil))) (blkOk_by (own := [("one", 1), ("other", 2)]) (N := ["ring", "one", "other"]) (sc := defScope s_stepped) (by decide +kernel)) (fun _ _ _ _ _ => (pg_tup rfl (pgs_cons (pg_name (i := 1) sc_stepped.nd rfl (Or.inl rfl)) (pgs_cons (pg_name (i := 2) sc_stepped.nd rfl (Or.inl rfl)) pgs_nil)))) (fun _ _ _ _ _ => pts_nil) (fun _ _ _ _ _ => (pe_callB (r := rAbs) call_abs (by rfl) T.n_abs (by decide +kernel) (pa_cons (pe_op op_sub (pv 1) (pv 2)) pa_nil)))))), ?_⟩
    refine ⟨.ref a, rfl, .ref a, rfl, 1, rfl, a, ns.map V.int, rfl, hS, fun p np => ?_⟩
    have e1 := Ex.new (o := .lst (cutV (ns.map V.int) (some 1) none)) np
    refine ⟨.ref a, rfl, 1, rfl, a, ns.map V.int, rfl, ex_l e1 hS, fun r nr => ?_⟩
    have e2 := Ex.new (o := .lst (cutV (ns.map V.int) none (some 1))) nr
    have hp := e2 _ _ (upd_same (H := H) (a := p) (o := .lst (cutV (ns.map V.int) (some 1) none)))
    have hl : (ns.map V.int).length = ns.length := List.length_map _
    have c1 : cutV (ns.map V.int) (some 1) none = (ns.drop 1).map V.int := by rw [cut_lo _ (by omega), List.map_drop]
    have c2 : cutV (ns.map V.int) none (some 1) = (ns.take 1).map V.int := by rw [show (some (1 : Int)) = some ((1 : Nat) : Int) from rfl, cut_hi, List.map_take]
    refine ⟨p, r, _, _, rfl, rfl, hp, upd_same, ?_, fun z nz => ?_⟩
    · rw [c1, c2, List.length_map, List.length_map, List.length_drop, List.length_take]
      exact sz_of (by omega)
    have e3 := Ex.new (o := .lst (cutV (ns.map V.int) (some 1) none ++ cutV (ns.map V.int) none (some 1))) nz
    have e4 := (e1.trans e2).trans e3
    have c3 : cutV (ns.map V.int) (some 1) none ++ cutV (ns.map V.int) none (some 1) = (ns.drop 1 ++ ns.take 1).map V.int := by rw [c1, c2, List.map_append]
    refine ⟨a, z, ns.map V.int, _, rfl, ex_l e4 hS, .inl (.inl upd_same), fun D hD => ?_⟩
    rw [c3] at hD ⊢
    rw [c3] at e4
    refine lc_zip (xs := ns.map V.int) (ys := (ns.drop 1 ++ ns.take 1).map V.int) ?_ (fun i H' => Ex H H' ∧ H' z = some (.lst ((ns.drop 1 ++ ns.take 1).map V.int)) ∧ H' D = some (.lst (((RD.D ns).take i).map V.int))) ?_ (fun i H' _ p' => ⟨ex_l p'.1 hS, .inl (.inl p'.2.1)⟩) ?_ ?_
    · rw [List.length_map, List.length_map, List.length_append, List.length_drop, List.length_take]
      omega
    · refine ⟨e4.trans (Ex.new hD), ?_, upd_same⟩
      exact (Ex.new hD) _ _ upd_same
    · intro i x y S H' hx hy p' nS
      obtain ⟨n, hn, rfl⟩ := map_get hx
      obtain ⟨m, hm, rfl⟩ := map_get hy
      have hi := get_lt hn
      rw [next_get hi] at hm
      have em : RD.ev ns (i + 1) = m := Option.some.inj hm
      rw [RD.ev_lt hi] at hn
      have en : RD.ev ns i = n := Option.some.inj hn
      obtain ⟨p1, p2, p3⟩ := p'
      have eS := Ex.new (o := .tup [V.int n, V.int m]) nS
      refine ⟨S, [.int n, .int m], rfl, .inl (.inl upd_same), rfl, .int n, [.int m], rfl, .int m, [], rfl, rfl, rfl, ?_⟩
      refine tyes ?_
      refine ⟨.int n, rfl, .int m, rfl, n, m, rfl, rfl, _, rfl, _, eS _ _ p3, ?_, ?_, ?_, ?_⟩
      · rw [List.length_map, List.length_take]
        exact sz_lt (by omega)
      · have nD : H D = none := fresh_back e4 hD
        exact Ex.mut (p1.trans eS) nD
      · have hne : z ≠ D := ne_of_none (show upd _ z _ z = some _ from upd_same) hD
        rw [upd_ne hne]
        exact eS _ _ p2
      · rw [upd_same, abs_dst, List.take_add_one, RD.D_get hi, List.map_append, en, em]
        rfl
    · intro H' p'
      obtain ⟨p1, p2, p3⟩ := p'
      rw [List.length_map, List.take_of_length_le (by rw [RD.D_len]; exact Nat.le_refl _)] at p3
      exact q D H' (fresh_back e4 hD) p1 p3
def spStep (K : PySem.W.Frag) : Sp := fun vs H Q _ => ∃ (a : Addr) (ns : List Int), vs = [.ref a] ∧ SqL K H a (ns.map V.int) ∧ Ring ns ∧ RetL ((RD.D ns).map V.int) H Q
theorem el_step {σ : L2.St} {H : Hp} {ta : TE} {ns : List Int} {E : XK} (ha : EvI K ta σ H ns) (hR : Ring ns) : EvL (tCall (spStep K) [] E (tCons ta tNil)) σ H ((RD.D ns).map V.int) := fun H1 e Q q =>
  ha H1 e _ fun p H2 e2 hp => ⟨p, ns, rfl, hp, hR, fun r H3 nr e3 hr => q r H3 (fresh_back e2 nr) (e2.trans e3) hr⟩
theorem el_stepped {σ : L2.St} {H : Hp} {ta : TE} {ns : List Int} {E : XK} (ha : EvI K ta σ H ns) (hR : Ring ns) : EvL (tCall (spStepped K) [] E (tCons ta tNil)) σ H ((RD.D ns).map V.int) := fun H1 e Q q =>
  ha H1 e _ fun p H2 e2 hp => ⟨p, ns, rfl, hp, hR.pos, by have := hR.few; omega, fun r H3 nr e3 hr => q r H3 (fresh_back e2 nr) (e2.trans e3) hr⟩
end
section
variable {P : Program} {w : World} {K : PySem.W.Frag} {mg : Str → Option Value} {base : Heap}
theorem ok_step (T : Txt K mg) : FnOk P w K mg base CX0 3 T.f_step T.fd_step ["ring"] (spStep K) := by
  refine T.F_step.ok sc_step (fun vs H Q E h => ?_) (fun cdv A outer s H vs Q E hr h => ?_)
  · obtain ⟨a, ns, rfl, _⟩ := h
    rfl
  · obtain ⟨a, ns, rfl, hS, hR, q⟩ := h
    refine ⟨_, (pss_cons (ps_expr (pe_call (ok_asked_ring T) (hr.mono (by decide)) (by rfl) T.g_asked_ring T.F_asked_ring.kp T.b_asked_ring .nil pass0 (pa_cons (pv 0) pa_nil)))
      (pss_one (ps_ret (pe_call (ok_stepped T) (hr.mono (by decide)) (by rfl) T.g_stepped T.F_stepped.kp T.b_stepped .nil pass0 (pa_cons (pv 0) pa_nil))))), ?_⟩
    refine ⟨.ref a, rfl, a, ns, rfl, hS, hR, fun H1 e1 => ?_⟩
    have := hR.few
    exact ⟨.ref a, rfl, a, ns, rfl, ex_l e1 hS, hR.pos, by omega, fun p H2 np e2 h2 => q p H2 (fresh_back e1 np) (e1.trans e2) h2⟩
end
section
variable {P : Program} {w : World} {K : PySem.W.Frag} {mg : Str → Option Value} {base : Heap}
/-! ### course: all rings from one on, and where the last one's step stands -/
def key (l : List Int) : List Key := l.map (Sum.inl : Int → Key)
theorem key_V (l : List Int) : (key l).map kV = l.map V.int := by
  unfold key
  rw [List.map_map]
  rfl
theorem key_inj {l m : List Int} (h : key l = key m) : l = m := by
  have e := congrArg (List.map kV) h
  rw [key_V, key_V] at e
  exact List.map_inj_right (fun _ _ z => V.int.inj z) |>.mp e
def kvs (ns : List Int) (m : Nat) : List (List Key × V) := (List.range m).map fun i => (key (RD.itr i ns), V.int (i : Int))
theorem kvs_succ (ns : List Int) (m : Nat) : kvs ns (m + 1) = kvs ns m ++ [(key (RD.itr m ns), V.int (m : Int))] := by
  unfold kvs
  rw [List.range_succ, List.map_append]
  rfl
theorem kvs_len (ns : List Int) (m : Nat) : (kvs ns m).length = m := by
  unfold kvs
  rw [List.length_map, List.length_range]
theorem kvs_val {ns : List Int} {m : Nat} {k : List Key} {v : V} (h : valV (kvs ns m) k = some v) : ∃ i, i < m ∧ v = .int (i : Int) ∧ key (RD.itr i ns) = k := by
  unfold valV at h
  obtain ⟨p, hp, e⟩ := Option.map_eq_some_iff.mp h
  have h1 := List.mem_of_find?_eq_some hp
  have h2 : p.1 = k := by
    have g := List.find?_some hp
    exact of_decide_eq_true g
  unfold kvs at h1
  obtain ⟨i, hi, rfl⟩ := List.mem_map.mp h1
  exact ⟨i, List.mem_range.mp hi, e.symm, h2⟩
theorem kvs_none {ns : List Int} {m : Nat} {k : List Key} (h : valV (kvs ns m) k = none) : ∀ i, i < m → key (RD.itr i ns) ≠ k := by
  intro i hi e
  refine valV_not h ?_
  unfold kvs
  rw [List.map_map]
  exact List.mem_map.mpr ⟨i, List.mem_range.mpr hi, e⟩
/-- the list at f holds the rings from ns on, m of them -/
def Found (H : Hp) (f : Addr) (ns : List Int) (m : Nat) : Prop :=
  ∃ as : List Addr, H f = some (.lst (as.map V.ref)) ∧ as.length = m ∧ ∀ (i : Nat) x, as[i]? = some x → H x = some (.lst ((RD.itr i ns).map V.int))
theorem Found.ex {H H' : Hp} {f : Addr} {ns : List Int} {m : Nat} (e : Ex H H') (h : Found H f ns m) : Found H' f ns m := by
  obtain ⟨as, h1, h2, h3⟩ := h
  exact ⟨as, e _ _ h1, h2, fun i x hx => e _ _ (h3 i x hx)⟩
theorem Found.at {H : Hp} {f : Addr} {ns : List Int} {m : Nat} (h : Found H f ns m) {i : Nat} (hi : i < m) : ∃ (xs : List V) (x : Addr), H f = some (.lst xs) ∧ atI xs (i : Int) = some (.ref x) ∧ H x = some (.lst ((RD.itr i ns).map V.int)) := by
  obtain ⟨as, h1, h2, h3⟩ := h
  have hl : i < as.length := by omega
  refine ⟨_, as[i], h1, atI_nat ?_, h3 i _ (List.getElem?_eq_getElem hl)⟩
  rw [List.getElem?_map, List.getElem?_eq_getElem hl]
  rfl
theorem Found.len {H : Hp} {f : Addr} {ns : List Int} {m : Nat} (h : Found H f ns m) : ∃ xs : List V, H f = some (.lst xs) ∧ xs.length = m := by
  obtain ⟨as, h1, h2, _⟩ := h
  exact ⟨_, h1, by rw [List.length_map]; exact h2⟩
/-- what course hands back: a new pair of the list and the place -/
def RetC (K : PySem.W.Frag) (ns : List Int) (H : Hp) (Q : VK) : Prop := ∀ (t f : Addr) (N b : Nat) (H2 : Hp), RD.IsC ns N b → Ex H H2 → H2 t = some (.tup [.ref f, .int (b : Int)]) → Found H2 f ns N → Q (.ref t) H2
def spCourse (K : PySem.W.Frag) : Sp := fun vs H Q _ => ∃ (a : Addr) (ns : List Int), vs = [.ref a] ∧ SqL K H a (ns.map V.int) ∧ Ring ns ∧ RetC K ns H Q
def tTupH (K : PySem.W.Frag) : TE := tCB (rTupS K) (tCons (tVar 3) tNil)
theorem course_run {a f d h : Addr} {ns : List Int} {H H1 : Hp} {D : Ends} (hR : Ring ns) (nf : H f = none) (nd : H d = none) (e1 : Ex H H1) (hf : H1 f = some (.lst [])) (hd : H1 d = some (.dT [])) (hh : H1 h = some (.lst (ns.map V.int))) (hhf : h ≠ f) (hfd : f ≠ d) (q : RetC K ns H D.rt) :
    tSeq (tWhile (tB (tDNotIn (tTupH K) (tVar 2))) (tSeq (sDPut (tVar 2) (tTupH K) (tCB (rLenS K) (tCons (tVar 1) tNil))) (tSeq (tDrop (tBM K "list" rAppend (tVar 1) (tCons (tVar 3) tNil))) (tAsg (tCall (spStepped K) [] E0 (tCons (tVar 3) tNil)) (gName 3)))))
      (tRet (tTup (tCons (tVar 1) (tCons (tDGet (tVar 2) (tTupH K)) tNil)))) D [some (.ref a), some (.ref f), some (.ref d), some (.ref h)] H1 := by
  refine q_while (fun mm σ' H' => ∃ (m : Nat) (h : Addr) (as : List Addr), mm + m = 7000 ∧ (∀ i j, i < j → j < m → RD.itr i ns ≠ RD.itr j ns) ∧ σ' = [some (.ref a), some (.ref f), some (.ref d), some (.ref h)] ∧ Ex H H' ∧ H' d = some (.dT (kvs ns m)) ∧
      H' h = some (.lst ((RD.itr m ns).map V.int)) ∧ h ≠ f ∧ H' f = some (.lst (as.map V.ref)) ∧ as.length = m ∧ (∀ x, x ∈ as → x ≠ f) ∧ ∀ (i : Nat) x, as[i]? = some x → H' x = some (.lst ((RD.itr i ns).map V.int))) 7000
    ⟨0, h, [], rfl, fun i j _ hj => absurd hj (Nat.not_lt_zero _), rfl, e1, hd, hh, hhf, hf, rfl, fun x hx => by (cases hx), fun i x hx => by simp at hx⟩ ?_
  rintro mm σ' H2 ⟨m, h2, as, hmm, hne, rfl, e2, hd2, hh2, hhf2, hf2, hal, haf, has⟩
  have hm : m ≤ 6500 := RD.few (by have := hR.pos; omega) hR.few hR.bd hne
  have hfd' : f ≠ d := hfd
  refine ⟨!(valV (kvs ns m) (key (RD.itr m ns))).isSome, ?_, fun hb H3 e3 => ?_, fun hb H3 e3 => ?_⟩
  · -- the test
    refine et_B fun H3 e3 Q3 q3 => ?_
    refine ⟨.ref h2, rfl, h2, _, rfl, .inl ⟨sq_of (e3 _ _ hh2), fun t nt => ?_⟩⟩
    refine ⟨.ref d, rfl, d, _, rfl, DGet.t (k := key (RD.itr m ns)) ((Ex.new nt) _ _ (e3 _ _ hd2)) (by rw [key_V]; exact upd_same), q3 _ (Ex.new nt)⟩
  · -- a ring that was not there
    have hv : valV (kvs ns m) (key (RD.itr m ns)) = none := by
      cases z : valV (kvs ns m) (key (RD.itr m ns)) with
      | none => rfl
      | some y => rw [z] at hb; cases hb
    have hne' : ∀ i j, i < j → j < m + 1 → RD.itr i ns ≠ RD.itr j ns := fun i j hij hj => by
      by_cases hjm : j < m
      · exact hne i j hij hjm
      · rw [show j = m by omega]
        exact fun z => kvs_none hv i (by omega) (congrArg key z)
    refine ⟨fun σ2 H2 => ∃ m', m' < mm ∧ _, fun σ2 H2 z => z, ?_⟩
    -- places[tuple(here)] = len(found)
    have hd3 := e3 _ _ hd2
    have hh3 := e3 _ _ hh2
    have hf3 := e3 _ _ hf2
    refine ⟨.ref f, rfl, f, _, rfl, .inl (sq_of hf3), .ref d, rfl, .ref h2, rfl, h2, _, rfl, .inl ⟨sq_of hh3, fun t nt => ?_⟩⟩
    have e4 := Ex.new (o := .tup ((RD.itr m ns).map V.int)) nt
    refine ⟨d, _, rfl, DPut.t (k := key (RD.itr m ns)) (e4 _ _ hd3) (by rw [key_V]; exact upd_same) (by rw [kvs_len]; exact sz_lt (by omega)), ?_⟩
    have hput : putK (kvs ns m) (key (RD.itr m ns)) (V.int ((as.map V.ref).length : Int)) = kvs ns (m + 1) := by
      rw [putK_new _ hv, kvs_succ, List.length_map, hal]
    rw [hput]
    -- found.append(here)
    have hdh : h2 ≠ d := ne_of hh3 hd3 (fun z => by cases z)
    have hf5 : upd (upd H3 t (.tup ((RD.itr m ns).map V.int))) d (.dT (kvs ns (m + 1))) f = some (.lst (as.map V.ref)) := by
      rw [upd_ne hfd']
      exact e4 _ _ hf3
    refine s_app (v := .ref h2) hf5 (ev_var rfl) (ev_var rfl) (by rw [List.length_map]; omega) fun H6 e6 => ?_
    have hh6 : H6 h2 = some (.lst ((RD.itr m ns).map V.int)) := e6 _ _ (by rw [upd_ne hdh]; exact e4 _ _ hh3)
    have hd6 : H6 d = some (.dT (kvs ns (m + 1))) := e6 _ _ upd_same
    have hx6 : ∀ (i : Nat) x, as[i]? = some x → H6 x = some (.lst ((RD.itr i ns).map V.int)) := fun i x hx => by
      have g := has i x hx
      have hxd : x ≠ d := ne_of g hd2 (fun z => by cases z)
      exact e6 _ _ (by rw [upd_ne hxd]; exact e4 _ _ (e3 _ _ g))
    have e16 : Ex H H6 := (Ex.mut ((e2.trans e3).trans e4) nd).trans e6
    -- here = stepped(here)
    have hpos := hR.pos
    have hfew := hR.few
    refine ⟨.ref h2, rfl, h2, RD.itr m ns, rfl, sq_of (by rw [upd_ne hhf2]; exact hh6), by rw [RD.itr_len]; omega, by rw [RD.itr_len]; omega, fun p H8 np e8 hp => ?_⟩
    have hpf : p ≠ f := fun z => by
      rw [z, upd_same] at np
      cases np
    refine ⟨mm - 1, by omega, m + 1, p, as ++ [h2], by omega, hne', rfl, (Ex.mut e16 nf).trans e8, e8 _ _ ?_, hp, hpf, ?_, ?_, ?_, ?_⟩
    · rw [upd_ne hfd'.symm]
      exact hd6
    · rw [List.map_append]
      exact e8 _ _ upd_same
    · rw [List.length_append, hal]
      rfl
    · intro x hx
      rcases List.mem_append.mp hx with hx | hx
      · exact haf x hx
      · rw [List.mem_singleton.mp hx]
        exact hhf2
    · intro i x hx
      by_cases hi : i < as.length
      · rw [List.getElem?_append_left hi] at hx
        refine e8 _ _ ?_
        rw [upd_ne (haf x (List.mem_of_getElem? hx))]
        exact hx6 i x hx
      · rw [List.getElem?_append_right (by omega)] at hx
        have hi2 := get_lt hx
        have hi3 : i = m := by
          simp only [List.length_cons, List.length_nil] at hi2
          omega
        rw [hi3, show m - as.length = 0 by omega] at hx
        have ex := Option.some.inj hx
        rw [← ex, hi3]
        refine e8 _ _ ?_
        rw [upd_ne hhf2]
        exact hh6
  · -- it was there
    cases z : valV (kvs ns m) (key (RD.itr m ns)) with
    | none => rw [z] at hb; cases hb
    | some y =>
      obtain ⟨j, hj, rfl, ej⟩ := kvs_val z
      have ej' := key_inj ej
      refine ⟨.ref f, rfl, .ref d, rfl, .ref h2, rfl, h2, _, rfl, .inl ⟨sq_of (e3 _ _ hh2), fun t nt => ?_⟩⟩
      have e4 := Ex.new (o := .tup ((RD.itr m ns).map V.int)) nt
      have g := DGet.t (k := key (RD.itr m ns)) (e4 _ _ (e3 _ _ hd2)) (show upd H3 t (.tup ((RD.itr m ns).map V.int)) t = some (.tup ((key (RD.itr m ns)).map kV)) by rw [key_V]; exact upd_same)
      rw [z] at g
      refine ⟨d, _, rfl, g, sz_of (by show 2 ≤ 100000; decide), fun p np => ?_⟩
      have e5 := Ex.new (o := .tup [.ref f, .int (j : Int)]) np
      exact q p f m j _ ⟨hj, ej'.symm, hne⟩ (((e2.trans e3).trans e4).trans e5) upd_same ((Found.ex ((e3.trans e4).trans e5) ⟨as, hf2, hal, has⟩))
theorem ok_course (T : Txt K mg) : FnOk P w K mg base CX0 2 T.f_course T.fd_course ["ring"] (spCourse K) := by
  refine T.F_course.ok sc_course (fun vs H Q E h => ?_) (fun cdv A outer s H vs Q E hr h => ?_)
  · obtain ⟨a, ns, rfl, _⟩ := h
    rfl
  · obtain ⟨a, ns, rfl, hS, hR, q⟩ := h
    have hu := hu_of hr
    refine ⟨_, (pss_cons (ps_par (i := 1) (j := 2) (by rfl) sc_course.nd rfl rfl (by decide) rfl rfl (pa_cons (pe_lst pa_nil) (pa_cons pe_dnewT pa_nil)) (by rfl))
      (pss_cons (ps_set (i := 3) sc_course.nd rfl (Or.inl rfl) (pe_callTy (r := rListS K) call_list_of (by rfl) T.n_list (by decide +kernel) (pa_cons (pv 0) pa_nil)))
      (pss_cons (ps_while PassesOwn.never (pt_cmp (pc_dnotin hu (pe_callTy (r := rTupS K) call_tuple_of (by rfl) T.n_tuple (by decide +kernel) (pa_cons (pv 3) pa_nil)) (pv 2)))
        (pss_cons (ps_dput hu (pv 2) (pe_callTy (r := rTupS K) call_tuple_of (by rfl) T.n_tuple (by decide +kernel) (pa_cons (pv 3) pa_nil)) (pe_callB (r := rLenS K) call_len_seq (by rfl) T.n_len (by decide +kernel) (pa_cons (pv 1) pa_nil)) rfl)
        (pss_cons (ps_expr (pe_bm PySem.F.plainAttrs_list PySem.F.slot_list_append PySem.F.type_list_append mt_append (pv 1) (pa_cons (pv 3) pa_nil)))
        (pss_one (ps_set (i := 3) sc_course.nd rfl (Or.inl rfl) (pe_call (ok_stepped T) (hr.mono (by decide)) (by rfl) T.g_stepped T.F_stepped.kp T.b_stepped .nil pass0 (pa_cons (pv 3) pa_nil)))))))
      (pss_one (ps_ret (pe_tup (pa_cons (pv 1) (pa_cons (pe_dget hu (pv 2) (pe_callTy (r := rTupS K) call_tuple_of (by rfl) T.n_tuple (by decide +kernel) (pa_cons (pv 3) pa_nil)) (fun _ _ => rfl)) pa_nil)))))))), ?_⟩
    refine ⟨Nat.zero_le _, fun f nf d nd => ⟨.ref f, .ref d, rfl, ?_⟩⟩
    obtain ⟨nd', ndf⟩ := upd_fresh nd
    have e1 := Ex.new (o := .lst []) nf
    have e2 := Ex.new (o := .dT []) nd
    refine ⟨.ref a, rfl, a, _, rfl, .inl (ex_l (e1.trans e2) hS), fun h nh => ?_⟩
    have e3 := Ex.new (o := .lst (ns.map V.int)) nh
    have hf : upd (upd H f (.lst [])) d (.dT []) f = some (.lst []) := e2 _ _ upd_same
    exact course_run hR nf nd' ((e1.trans e2).trans e3) (e3 _ _ hf) (e3 _ _ upd_same) upd_same (ne_of_none hf nh).symm ndf.symm q
end
section
variable {P : Program} {w : World} {K : PySem.W.Frag} {mg : Str → Option Value} {base : Heap}
/-! ### asked_number, after (where nothing is refused) -/
def spAskedN (K : PySem.W.Frag) : Sp := fun vs H Q _ => ∃ (n : Int), vs = [.int n] ∧ 0 ≤ n ∧ RetV .non H Q
theorem ok_asked_number (T : Txt K mg) : FnOk P w K mg base CX0 2 T.f_asked_number T.fd_asked_number ["number"] (spAskedN K) := by
  refine T.F_asked_number.ok sc_asked_number (fun vs H Q E h => ?_) (fun cdv A outer s H vs Q E hr h => ?_)
  · obtain ⟨n, rfl, _⟩ := h
    rfl
  · obtain ⟨n, rfl, h0, q⟩ := h
    refine ⟨_, (pss_one (ps_if (PW.pt (pw_or (pt_not (pt_val (pe_call (ok_is_whole T) (hr.mono (by decide)) (by rfl) T.g_is_whole T.F_is_whole.kp T.b_is_whole .nil pass0 (pa_cons (pv 0) pa_nil)))) (pw_or1 (pt_cmpR op_lt (pv 0) pe_int (nomark _)))))
        (pss_one ps_never)
        pss_nil)), ?_⟩
    refine s_when (b := false) (et_is (et_or (a := false) (b := false) (et_is (et_not (a := true) (et_B fun H1 e1 Q1 q1 => ?_)) rfl) fun _ => et_test ?_) rfl) (fun z => nomatch z) fun _ H2 e2 => q H2 e2
    · exact ⟨.int n, rfl, whole_int (E := E0) (q1 H1 (Ex.refl _))⟩
    · rw [← (decide_eq_false (show ¬ n < 0 by omega))]
      exact ev_op (ev_var rfl) ev_c rv_I0
def spAfter (K : PySem.W.Frag) : Sp := fun vs H Q _ => ∃ (a : Addr) (ns : List Int) (n : Int), vs = [.ref a, .int n] ∧ SqL K H a (ns.map V.int) ∧ Ring ns ∧ 0 ≤ n ∧ RetL ((RD.itr n.toNat ns).map V.int) H Q
theorem ok_after (T : Txt K mg) : FnOk P w K mg base CX0 3 T.f_after T.fd_after ["ring", "steps"] (spAfter K) := by
  refine T.F_after.ok sc_after (fun vs H Q E h => ?_) (fun cdv A outer s H vs Q E hr h => ?_)
  · obtain ⟨a, ns, n, rfl, _⟩ := h
    rfl
  · obtain ⟨a, ns, n, rfl, hS, hR, h0, q⟩ := h
    refine ⟨_, (pss_cons (ps_expr (pe_call (ok_asked_ring T) (hr.mono (by decide)) (by rfl) T.g_asked_ring T.F_asked_ring.kp T.b_asked_ring .nil pass0 (pa_cons (pv 0) pa_nil)))
      (pss_cons (ps_expr (pe_call (ok_asked_number T) (hr.mono (by decide)) (by rfl) T.g_asked_number T.F_asked_number.kp T.b_asked_number .nil pass0 (pa_cons (pv 1) pa_nil)))
      (pss_cons (ps_asg (pe_call (ok_course T) (hr.mono (by decide)) (by rfl) T.g_course T.F_course.kp T.b_course .nil pass0 (pa_cons (pv 0) pa_nil)) (pg_tup rfl (pgs_cons (pg_name (i := 2) sc_after.nd rfl (Or.inl rfl)) (pgs_cons (pg_name (i := 3) sc_after.nd rfl (Or.inl rfl)) pgs_nil))))
      (pss_cons (ps_if (pt_cmpR op_lt (pv 1) (pe_callB (r := rLenS K) call_len_seq (by rfl) T.n_len (by decide +kernel) (pa_cons (pv 2) pa_nil)) (nomark _))
        (pss_one (ps_ret (pe_callTy (r := rListS K) call_list_of (by rfl) T.n_list (by decide +kernel) (pa_cons (pe_ix (r := rIxL K) ix_list (pv 2) (pv 1) (fun _ _ => rfl)) pa_nil))))
        pss_nil)
      (pss_one (ps_ret (pe_callTy (r := rListS K) call_list_of (by rfl) T.n_list (by decide +kernel) (pa_cons (pe_ix (r := rIxL K) ix_list (pv 2) (pe_op op_add (pv 3) (pe_op op_mod (pe_op op_sub (pv 1) (pv 3)) (pe_op op_sub (pe_callB (r := rLenS K) call_len_seq (by rfl) T.n_len (by decide +kernel) (pa_cons (pv 2) pa_nil)) (pv 3)))) (fun _ _ => rfl)) pa_nil)))))))), ?_⟩
    refine ⟨.ref a, rfl, a, ns, rfl, hS, hR, fun H1 e1 => ?_⟩
    refine ⟨.int n, rfl, n, rfl, h0, fun H2 e2 => ?_⟩
    refine ⟨.ref a, rfl, a, ns, rfl, ex_l (e1.trans e2) hS, hR, fun t f N b H3 hC e3 ht hf => ?_⟩
    refine ⟨t, _, rfl, st_of ht, rfl, .ref f, _, rfl, .int (b : Int), _, rfl, rfl, ?_⟩
    obtain ⟨fx, hfx, hfl⟩ := hf.len
    have hlt := hC.lt
    refine q_when (b := decide (n < (N : Int))) (et_test (ev_op (ev_var rfl) (ev_is (ev_len (ev_var rfl) (sq_of hfx)) (by rw [hfl])) rv_I0)) (fun hb H4 e4 => ?_) (fun hb H4 e4 => ?_)
    · have hn : n < (N : Int) := of_decide_eq_true hb
      obtain ⟨xs, x, g1, g2, g3⟩ := (hf.ex e4).at (i := n.toNat) (by omega)
      rw [show ((n.toNat : Nat) : Int) = n by omega] at g2
      refine ⟨.ref f, rfl, .int n, rfl, f, xs, n, _, rfl, rfl, sq_of g1, g2, x, _, rfl, .inl (sq_of g3), fun p np => ?_⟩
      exact q p _ (fresh_back (((e1.trans e2).trans e3).trans e4) np) ((((e1.trans e2).trans e3).trans e4).trans (Ex.new np)) upd_same
    · have hn : ¬ n < (N : Int) := of_decide_eq_false hb
      have hbn : b ≤ n.toNat := by omega
      have hmod := Nat.mod_lt (n.toNat - b) (show 0 < N - b by omega)
      obtain ⟨xs, x, g1, g2, g3⟩ := (hf.ex e4).at (i := b + (n.toNat - b) % (N - b)) (by omega)
      rw [hC.at hbn] at g3
      have ei : (b : Int) + (n - (b : Int)) % ((N : Int) - (b : Int)) = ((b + (n.toNat - b) % (N - b) : Nat) : Int) := by
        rw [Int.natCast_add, Int.natCast_emod, show ((n.toNat - b : Nat) : Int) = n - (b : Int) by omega, show ((N - b : Nat) : Int) = (N : Int) - (b : Int) by omega]
      rw [← ei] at g2
      have hfx4 := e4 _ _ hfx
      refine ⟨.ref f, rfl, .int (b : Int), rfl, .int n, rfl, .int (b : Int), rfl, n, (b : Int), rfl, rfl, .ref f, rfl, f, fx, rfl, .inl (sq_of hfx4), .int (b : Int), rfl, (fx.length : Int), (b : Int), rfl, rfl, _, _, rfl, rfl, ?_, _, _, rfl, rfl, f, xs, _, _, rfl, ?_, sq_of g1, g2, x, _, rfl, .inl (sq_of g3), fun p np => ?_⟩
      · show (0 : Int) < (fx.length : Int) - (b : Int)
        rw [hfl]
        omega
      · rw [hfl]
      · exact q p _ (fresh_back (((e1.trans e2).trans e3).trans e4) np) ((((e1.trans e2).trans e3).trans e4).trans (Ex.new np)) upd_same
theorem el_after {σ : L2.St} {H : Hp} {ta tb : TE} {ns : List Int} {n : Int} {E : XK} (ha : EvI K ta σ H ns) (hb : Ev tb σ H (.int n)) (hR : Ring ns) (h0 : 0 ≤ n) : EvL (tCall (spAfter K) [] E (tCons ta (tCons tb tNil))) σ H ((RD.itr n.toNat ns).map V.int) := fun H1 e Q q =>
  ha H1 e _ fun p H2 e2 hp => hb H2 (e.trans e2) _ fun H3 e3 => ⟨p, ns, n, rfl, ex_l e3 hp, hR, h0, fun r H4 nr e4 hr => q r H4 (fresh_back (e2.trans e3) nr) ((e2.trans e3).trans e4) hr⟩
end
section
variable {P : Program} {w : World} {K : PySem.W.Frag} {mg : Str → Option Value} {base : Heap}
/-! ### the law's own rings: a number by a cell, a ring by the cells -/
def num (c a u : Int) : Int :=
  if (10 : Int) ^ 18 ≤ c then c / (1 + a % 7)
  else (((c + 977 * a) * 48271 + u) % 2147483647 * (c + 31 * a + 7)) * (((c + 977 * a) * 48271 + u) % 2147483647 + c + 5) * (((c + 977 * a) * 48271 + u) % 2147483647 * (((c + 977 * a) * 48271 + u) % 2147483647) + 11) / (1009 + a)
def spNumber : Sp := fun vs H Q _ => ∃ (c a u : Int) (e : Nat), vs = [.int c, .int a, .int u] ∧ 0 < e ∧ e ≤ 1048576 ∧ c.natAbs < 2 ^ e ∧ 0 ≤ a ∧ a ≤ 1000 ∧ RetV (.int (num c a u)) H Q
theorem pow_up {a : Int} {e f : Nat} (h : a.natAbs < 2 ^ e) (hf : e ≤ f) : a.natAbs < 2 ^ f := Nat.lt_of_lt_of_le h (Nat.pow_le_pow_right (by decide) hf)
theorem add_up {a b : Int} {e : Nat} (h : a.natAbs < 2 ^ e) (h2 : b.natAbs < 2 ^ e) : (a + b).natAbs < 2 ^ (e + 1) := by
  rw [Nat.pow_succ]
  omega
theorem ok_w_number (T : Txt K mg) : FnOk P w K mg base CX0 1 T.f_w_number T.fd_w_number ["_law_cell", "_law_at", "_law_whole"] spNumber := by
  refine T.F_w_number.ok sc_w_number (fun vs H Q E h => ?_) (fun cdv A outer s H vs Q E hr h => ?_)
  · obtain ⟨c, a, u, e, rfl, _⟩ := h
    rfl
  · obtain ⟨c, a, u, e, rfl, he0, he, hc, ha0, ha, q⟩ := h
    refine ⟨_, (pss_cons (ps_if (pt_cmpR op_ge (pv 0) (pe_op op_pow pe_int pe_int) (nomark _))
        (pss_one (ps_ret (pe_op op_fdiv (pv 0) (pe_op op_add pe_int (pe_op op_mod (pv 1) pe_int)))))
        pss_nil)
      (pss_cons (ps_set (i := 3) sc_w_number.nd rfl (Or.inl rfl) (pe_op op_mod (pe_op op_add (pe_op op_mul (pe_op op_add (pv 0) (pe_op op_mul pe_int (pv 1))) pe_int) (pv 2)) pe_int))
      (pss_cons (ps_set (i := 4) sc_w_number.nd rfl (Or.inl rfl) (pe_op op_mul (pv 3) (pe_op op_add (pe_op op_add (pv 0) (pe_op op_mul pe_int (pv 1))) pe_int)))
      (pss_one (ps_ret (pe_op op_fdiv (pe_op op_mul (pe_op op_mulB (pv 4) (pe_op op_add (pe_op op_add (pv 3) (pv 0)) pe_int)) (pe_op op_add (pe_op op_mul (pv 3) (pv 3)) pe_int)) (pe_op op_add pe_int (pv 1)))))))), ?_⟩
    have hnum : num c a u = num c a u := rfl
    unfold num at q
    generalize hm : ((c + 977 * a) * 48271 + u) % 2147483647 = m at q
    have m0 : 0 ≤ m := by rw [← hm]; exact Int.emod_nonneg _ (by decide)
    have m1 : m < 2147483647 := by rw [← hm]; exact Int.emod_lt_of_pos _ (by decide)
    refine q_when (et_test (ev_op (ev_var rfl) (ev_op ev_c ev_c (rv_I ⟨by decide, by decide, by decide⟩)) rv_I0)) (fun hb H1 e1 => ?_) (fun hb H1 e1 => ?_)
    · have hb' : (10 : Int) ^ 18 ≤ c := of_decide_eq_true hb
      rw [if_pos hb'] at q
      refine s_ret (ev_op (ev_var rfl) (ev_op ev_c (ev_op (ev_var rfl) ev_c (rv_I (by decide))) rv_I0) (rv_I (C := CDiv) ⟨?_, ?_⟩)) fun H2 e2 => q H2 (e1.trans e2)
      · have := Int.emod_nonneg a (b := 7) (by decide)
        omega
      · have := Int.emod_lt_of_pos a (b := 7) (by decide)
        omega
    · have hb' : ¬ (10 : Int) ^ 18 ≤ c := of_decide_eq_false hb
      rw [if_neg hb'] at q
      refine q_asg (ev_is (ev_op (ev_op (ev_op (ev_op (ev_var rfl) (ev_op ev_c (ev_var rfl) (rv_I (C := CMul) (.inl ⟨by decide, by decide⟩))) rv_I0) ev_c (rv_I (C := CMul) (.inr ⟨by decide, by decide⟩))) (ev_var rfl) rv_I0) ev_c (rv_I (by decide))) (congrArg V.int hm)) fun H2 e2 => ?_
      refine q_asg (ev_op (ev_var rfl) (ev_op (ev_op (ev_var rfl) (ev_op ev_c (ev_var rfl) (rv_I (C := CMul) (.inl ⟨by decide, by decide⟩))) rv_I0) ev_c rv_I0) (rv_I (C := CMul) (.inl ⟨by omega, by omega⟩))) fun H3 e3 => ?_
      refine s_ret (ev_op (ev_op (ev_op (ev_var rfl) (ev_op (ev_op (ev_var rfl) (ev_var rfl) rv_I0) ev_c rv_I0) (rv_I (C := IntMulOk) ?h1)) (ev_op (ev_op (ev_var rfl) (ev_var rfl) (rv_I (C := CMul) (.inl ⟨by omega, by omega⟩))) ev_c rv_I0) (rv_I (C := CMul) (.inr ?h2))) (ev_op ev_c (ev_var rfl) rv_I0) (rv_I (C := CDiv) ⟨?h3, ?h4⟩)) fun H4 e4 => q H4 (((e1.trans e2).trans e3).trans e4)
      case h1 =>
        have p31 : (2 : Nat) ^ 31 = 2147483648 := by decide
        have p32 : (2 : Nat) ^ 32 = 4294967296 := by decide
        have hm2 : m.natAbs < 2 ^ 31 := by omega
        have g1 : (31 * a + 7).natAbs < 2 ^ (e + 31) := pow_up (e := 31) (by omega) (by omega)
        have g2 : (c + (31 * a + 7)).natAbs < 2 ^ (e + 31 + 1) := add_up (pow_up hc (by omega)) g1
        rw [← Int.add_assoc] at g2
        have g3 := wide_lt hm2 g2
        have g4 : (m + 5).natAbs < 2 ^ (e + 31) := pow_up (e := 32) (by omega) (by omega)
        have g5 : (c + (m + 5)).natAbs < 2 ^ (e + 31 + 1) := add_up (pow_up hc (by omega)) g4
        rw [show c + (m + 5) = m + c + 5 by omega] at g5
        exact mulOk g3 g5 (by omega) (by omega) (by omega)
      case h2 =>
        have h1 : m * m ≤ 2147483647 * 2147483647 := Int.mul_le_mul (Int.le_of_lt m1) (Int.le_of_lt m1) m0 (by decide)
        have h2 : 0 ≤ m * m := Int.mul_nonneg m0 m0
        constructor <;> omega
      case h3 => omega
      case h4 => omega
/-- a ring by the cells -/
def spRing (K : PySem.W.Frag) : Sp := fun vs H Q _ => ∃ (a : Addr) (ns : List Int) (b : Int), vs = [.ref a, .int b] ∧ SqL K H a (ns.map V.int) ∧ ns.length ≤ 63 ∧ Few ns ∧ 0 ≤ b ∧ b ≤ 100 ∧
  ∀ rs, Ring rs → RetL (rs.map V.int) H Q
theorem ok_w_ring (T : Txt K mg) : FnOk P w K mg base CX0 2 T.f_w_ring T.fd_w_ring ["_law_script", "_law_by"] (spRing K) := by
  refine T.F_w_ring.ok sc_w_ring (fun vs H Q E h => ?_) (fun cdv A outer s H vs Q E hr h => ?_)
  · obtain ⟨a, ns, b, rfl, _⟩ := h
    rfl
  · obtain ⟨a, ns, b, rfl, hS, hl, hF, hb0, hb, q⟩ := h
    refine ⟨_, (pss_cons (ps_set (i := 2) sc_w_ring.nd rfl (Or.inl rfl) (pe_ifExp (pt_cmpR (r := rNeD K) (op_neD hr.units) (pv 0) (pe_lst pa_nil) (nomark _)) (pe_slice (r := rSlL K) sl_list (pv 0) po_none (po_some pe_int)) (pe_lst (pa_cons pe_int pa_nil))))
      (pss_cons (ps_set (i := 3) sc_w_ring.nd rfl (Or.inl rfl) (pe_op op_add (pe_callB (r := rAbs) call_abs (by rfl) T.n_abs (by decide +kernel) (pa_cons (pe_callB (r := rSum K) (cr_sum rfl) (by rfl) T.n_sum (by decide +kernel) (pa_cons (pv 2) pa_nil)) pa_nil)) (pv 1)))
      (pss_cons (ps_set (i := 4) sc_w_ring.nd rfl (Or.inl rfl) (pe_op op_add pe_int (pe_op op_mod (pv 3) (pe_ix (r := rIxT K) ix_tup (pe_tup (pa_cons pe_int (pa_cons pe_int (pa_cons pe_int pa_nil)))) (pe_ix (r := rIxT K) ix_tup (pe_tup (pa_cons pe_int (pa_cons pe_int (pa_cons pe_int (pa_cons pe_int (pa_cons pe_int (pa_cons pe_int (pa_cons pe_int (pa_cons pe_int pa_nil))))))))) (pe_op op_mod (pe_op op_fdiv (pv 3) pe_int) pe_int) (fun _ _ => rfl)) (fun _ _ => rfl)))))
      (pss_cons (ps_set (i := 5) sc_w_ring.nd rfl (Or.inl rfl) (pe_ix (r := rIxT K) ix_tup (pe_tup (pa_cons pe_int (pa_cons pe_int (pa_cons pe_int (pa_cons pe_int pa_nil))))) (pe_op op_mod (pe_op op_fdiv (pv 3) pe_int) pe_int) (fun _ _ => rfl)))
      (pss_cons (ps_set (i := 6) sc_w_ring.nd rfl (Or.inl rfl) (pe_lst pa_nil))
      (pss_cons (ps_for PassesOwn.never rfl (pi_range1 (by rfl) T.n_range (pa_cons (pv 4) pa_nil)) (pg_name (i := 7) sc_w_ring.nd rfl (Or.inl rfl))
        (pss_cons (ps_set (i := 8) sc_w_ring.nd rfl (Or.inl rfl) (pe_call (ok_w_number T) (hr.mono (by decide)) (by rfl) T.g_w_number T.F_w_number.kp T.b_w_number .nil pass0 (pa_cons (pe_ix (r := rIxL K) ix_list (pv 2) (pe_op op_mod (pe_op op_add (pv 7) (pv 1)) (pe_callB (r := rLenS K) call_len_seq (by rfl) T.n_len (by decide +kernel) (pa_cons (pv 2) pa_nil))) (fun _ _ => rfl)) (pa_cons (pe_op op_add (pv 7) (pv 1)) (pa_cons (pv 3) pa_nil)))))
        (pss_one (ps_expr (pe_bm PySem.F.plainAttrs_list PySem.F.slot_list_append PySem.F.type_list_append mt_append (pv 6) (pa_cons (pe_op op_mul (pe_op op_mod (pe_op op_fdiv (pv 8) pe_int) (pv 5)) (pe_ifExp (pt_cmpR op_eq (pv 5) pe_int (nomark _)) pe_int pe_int)) pa_nil))))))
      (pss_one (ps_ret (pv 6))))))))), ?_⟩
    -- the cells
    have cells : ∀ D : L2.St → Hp → Prop, (∀ (c : Addr) (cs : List Int) H1, cs ≠ [] → cs.length ≤ 12 → Few cs → Ex H H1 → H1 c = some (.lst (cs.map V.int)) → D ([some (.ref a), some (.int b), some (.ref c), none, none, none, none, none, none]) H1) →
        tAsg (tIf (tTest (tOp (rNeD K) (tVar 0) (tLst tNil))) (tSl (rSlL K) (tVar 0) tNoPart (tPart (tC (.int 12)))) (tLst (tCons (tC (.int 5)) tNil))) (gName 2) ⟨D, fun _ _ => False, fun _ _ => False, fun _ _ => False⟩ (L2.start ["_law_script", "_law_by", "_law_cells", "_law_whole", "_law_many", "_law_wide", "_law_found", "_law_at", "_law_number_here"] [.ref a, .int b]) H := by
      intro D k
      refine ⟨.ref a, rfl, Nat.zero_le _, fun p np => ?_⟩
      refine ⟨.list (ns.map PyData.int), .list (([] : List Int).map PyData.int), dp_ints (ex_l (Ex.new np) hS), dp_ints (ns := []) (sq_of upd_same), shaped_ints _, shaped_ints _, _, rfl, ?_⟩
      rw [eqv_ints]
      by_cases hn : ns = []
      · rw [decide_eq_true hn]
        refine iteF ?_
        refine ⟨sz_of (by show 1 ≤ 100000; decide), fun c nc => ?_⟩
        refine k c [5] _ (by simp) (by simp) ⟨3, by decide, by decide, fun z hz => ?_⟩ ((Ex.new np).trans (Ex.new nc)) upd_same
        rw [List.mem_singleton.mp hz]
        decide
      · rw [decide_eq_false hn]
        refine iteT ?_
        refine ⟨.ref a, rfl, 12, rfl, a, _, rfl, ex_l (Ex.new np) hS, fun c nc => ?_⟩
        have ec : cutV (ns.map V.int) none (some 12) = (ns.take 12).map V.int := by
          rw [show (some (12 : Int)) = some ((12 : Nat) : Int) from rfl, cut_hi, List.map_take]
        rw [ec]
        obtain ⟨e, f1, f2, f3⟩ := hF
        refine k c (ns.take 12) _ (fun z => ?_) (by rw [List.length_take]; omega) ⟨e, f1, f2, fun z hz => f3 z (List.mem_of_mem_take hz)⟩ ((Ex.new np).trans (Ex.new nc)) upd_same
        cases ns with
        | nil => exact hn rfl
        | cons x r => cases z
    refine cells _ fun c cs H1 hc0 hcl hcF e1 hC => ?_
    have hcp : 0 < cs.length := List.length_pos_iff.mpr hc0
    -- the whole
    refine q_asg (ev_op (ev_abs (ev_sum (ns := cs) (ev_var rfl) (sq_of hC))) (ev_var rfl) rv_I0) fun H2 e2 => ?_
    generalize hW : (if cs.sum < 0 then -cs.sum else cs.sum) + b = W
    have hW0 : 0 ≤ W := by rw [← hW]; split <;> omega
    obtain ⟨x8, m8, a8⟩ := at_mem (l := [0, 1, 0, 1, 0, 1, 0, 2]) (j := W / 3 % 8) (Int.emod_nonneg _ (by decide)) (Int.emod_lt_of_pos _ (by decide))
    have hx8 : 0 ≤ x8 ∧ x8 < 3 := by
      simp only [List.mem_cons, List.not_mem_nil, or_false] at m8
      omega
    obtain ⟨x3, m3, a3⟩ := at_mem (l := [4, 8, 12]) (j := x8) hx8.1 hx8.2
    have hx3 : 1 ≤ x3 ∧ x3 ≤ 12 := by
      simp only [List.mem_cons, List.not_mem_nil, or_false] at m3
      omega
    refine q_asg (ev_op ev_c (ev_op (ev_var rfl) (ev_ixU (eu_tup (ea_cons ev_c (ea_cons ev_c (ea_cons ev_c ea_nil))) (by decide))
      (ev_ixU (eu_tup (ea_cons ev_c (ea_cons ev_c (ea_cons ev_c (ea_cons ev_c (ea_cons ev_c (ea_cons ev_c (ea_cons ev_c (ea_cons ev_c ea_nil)))))))) (by decide)) (ev_op (ev_op (ev_var rfl) ev_c (rv_I (C := CDiv) ⟨by decide, by decide⟩)) ev_c (rv_I (by decide))) a8) a3) (rv_I (by omega))) rv_I0) fun H3 e3 => ?_
    have hM0 := Int.emod_nonneg W (b := x3) (by omega)
    have hM1 := Int.emod_lt_of_pos W (b := x3) (by omega)
    generalize hM : 1 + W % x3 = M
    obtain ⟨x4, m4, a4⟩ := at_mem (l := [2, 4, 21, 201]) (j := W / 24 % 4) (Int.emod_nonneg _ (by decide)) (Int.emod_lt_of_pos _ (by decide))
    have hx4 : 2 ≤ x4 ∧ x4 ≤ 201 := by
      simp only [List.mem_cons, List.not_mem_nil, or_false] at m4
      omega
    refine q_asg (ev_ixU (eu_tup (ea_cons ev_c (ea_cons ev_c (ea_cons ev_c (ea_cons ev_c ea_nil)))) (by decide)) (ev_op (ev_op (ev_var rfl) ev_c (rv_I (C := CDiv) ⟨by decide, by decide⟩)) ev_c (rv_I (by decide))) a4) fun H4 e4 => ?_
    refine q_asgL (el_lst ea_nil (by decide)) fun f H5 nf e5 hf => ?_
    have e14 := ((e2.trans e3).trans e4)
    have hC4 := e14 _ _ hC
    have hfH : H f = none := fresh_back ((e1.trans e14)) nf
    refine q_forR1 (n := M) (ea_cons (ev_var rfl) ea_nil) (by omega) (fun i σ' H' => ∃ (rs : List Int) (x7 x8 : Option V), σ' = [some (.ref a), some (.int b), some (.ref c), some (.int W), some (.int M), some (.int x4), some (.ref f), x7, x8] ∧ Ex H4 H' ∧ H' f = some (.lst (rs.map V.int)) ∧ rs.length = i ∧ RD.Bd 200 rs)
      (fun H6 e6 => ⟨[], none, none, rfl, e5.trans e6, e6 _ _ hf, rfl, fun x hx => by cases hx⟩) ?_ ?_
    · rintro i σ' H' hi ⟨rs, x7, x8', rfl, p1, p2, p3, p4⟩
      have hcL : SqL K H' c (cs.map V.int) := sq_of (p1 _ _ hC4)
      have hz0 := Int.emod_nonneg ((i : Int) + b) (b := (cs.length : Int)) (by omega)
      have hz1 := Int.emod_lt_of_pos ((i : Int) + b) (b := (cs.length : Int)) (by omega)
      obtain ⟨n, mn, an⟩ := at_mem (l := cs) hz0 hz1
      obtain ⟨e, f1, f2, f3⟩ := hcF
      refine q_asg (v := .int (num n ((i : Int) + b) W)) (ev_call (ea_cons (ev_ixL (v := .int n) (ev_var rfl) (ev_op (ev_op (ev_var rfl) (ev_var rfl) rv_I0) (ev_is (ev_len (ev_var rfl) hcL) (by rw [List.length_map])) (rv_I (by omega))) hcL an) (ea_cons (ev_op (ev_var rfl) (ev_var rfl) rv_I0) (ea_cons (ev_var rfl) ea_nil))) ?_) fun H6 e6 => ?_
      · intro H7 e7 Q7 q7 E7
        exact ⟨n, (i : Int) + b, W, e, rfl, f1, f2, f3 n mn, by omega, by omega, q7⟩
      · generalize num n ((i : Int) + b) W = nn
        have hr0 := Int.emod_nonneg (nn / 3) (b := x4) (by omega)
        have hr1 := Int.emod_lt_of_pos (nn / 3) (b := x4) (by omega)
        have hif : Ev (tIf (tTest (tOp rEq (tVar 5) (tC (.int 2)))) (tC (.int 17)) (tC (.int 1))) [some (.ref a), some (.int b), some (.ref c), some (.int W), some (.int M), some (.int x4), some (.ref f), some (.int (i : Int)), some (.int nn)] H6 (.int (if x4 = 2 then 17 else 1)) := by
          refine ev_if (et_test (ev_op (ev_var rfl) ev_c (rv_eq rfl))) (fun hb => ?_) (fun hb => ?_)
          · have e0 : x4 = 2 := V.int.inj (of_decide_eq_true hb)
            rw [if_pos e0]
            exact ev_c
          · have e0 : ¬ x4 = 2 := fun z => (of_decide_eq_false hb) (congrArg V.int z)
            rw [if_neg e0]
            exact ev_c
        refine s_app (e6 _ _ p2) (ev_var rfl) (ev_op (ev_op (ev_op (ev_var rfl) ev_c (rv_I (C := CDiv) ⟨by decide, by decide⟩)) (ev_var rfl) (rv_I (by omega))) hif (rv_I (C := CMul) (.inl ⟨by omega, by omega⟩))) (by rw [List.length_map]; omega) fun H7 e7 => ?_
        refine ⟨rs ++ [nn / 3 % x4 * (if x4 = 2 then 17 else 1)], _, _, rfl, Ex.mut ((p1.trans e6).trans e7) (nf), ?_, ?_, ?_⟩
        · rw [upd_same, List.map_append]
          rfl
        · rw [List.length_append, p3]
          rfl
        · intro x hx
          rcases List.mem_append.mp hx with hx | hx
          · exact p4 x hx
          · rw [List.mem_singleton.mp hx]
            split <;> omega
    · rintro σ' H' ⟨rs, x7, x8', rfl, p1, p2, p3, p4⟩
      refine ⟨.ref f, rfl, ?_⟩
      exact q rs ⟨by omega, by omega, p4⟩ f H' hfH ((e1.trans e14).trans p1) p2
end
section
variable {P : Program} {w : World} {K : PySem.W.Frag} {mg : Str → Option Value} {base : Heap}
/-! ### the law's own step -/
theorem own_dst (a b : Int) : (if a - b > 0 then a - b else -(a - b)) = RD.dst a b := by
  unfold RD.dst
  split <;> omega
theorem ok_w_step (T : Txt K mg) : FnOk P w K mg base CX0 1 T.f_w_step T.fd_w_step ["_law_ring_here"] (spStepped K) := by
  refine T.F_w_step.ok sc_w_step (fun vs H Q E h => ?_) (fun cdv A outer s H vs Q E hr h => ?_)
  · obtain ⟨a, ns, rfl, _⟩ := h
    rfl
  · obtain ⟨a, ns, rfl, hS, h1, hk, q⟩ := h
    refine ⟨_, (pss_cons (ps_set (i := 1) sc_w_step.nd rfl (Or.inl rfl) (pe_lst pa_nil))
      (pss_cons (ps_for PassesOwn.never rfl (pi_range1 (by rfl) T.n_range (pa_cons (pe_callB (r := rLenS K) call_len_seq (by rfl) T.n_len (by decide +kernel) (pa_cons (pv 0) pa_nil)) pa_nil)) (pg_name (i := 2) sc_w_step.nd rfl (Or.inl rfl))
        (pss_cons (ps_set (i := 3) sc_w_step.nd rfl (Or.inl rfl) (pe_op op_sub (pe_ix (r := rIxL K) ix_list (pv 0) (pv 2) (fun _ _ => rfl)) (pe_ix (r := rIxL K) ix_list (pv 0) (pe_op op_mod (pe_op op_add (pv 2) pe_int) (pe_callB (r := rLenS K) call_len_seq (by rfl) T.n_len (by decide +kernel) (pa_cons (pv 0) pa_nil))) (fun _ _ => rfl))))
        (pss_one (ps_expr (pe_bm PySem.F.plainAttrs_list PySem.F.slot_list_append PySem.F.type_list_append mt_append (pv 1) (pa_cons (pe_ifExp (pt_cmpR op_gt (pv 3) pe_int (nomark _)) (pv 3) (pe_un un_neg (pv 3))) pa_nil))))))
      (pss_one (ps_ret (pv 1))))), ?_⟩
    refine q_asgL (el_lst ea_nil (by decide)) fun f H1 nf e1 hf => ?_
    refine q_forR1 (n := (ns.length : Int)) (ea_cons (ev_is (ev_len (ev_var rfl) (ex_l e1 hS)) (by rw [List.length_map])) ea_nil) (by omega) (fun i σ' H' => ∃ (x2 x3 : Option V), σ' = [some (.ref a), some (.ref f), x2, x3] ∧ Ex H H' ∧ H' f = some (.lst (((RD.D ns).take i).map V.int)))
      (fun H2 e2 => ⟨none, none, rfl, e1.trans e2, e2 _ _ hf⟩) ?_ ?_
    · rintro i σ' H' hi ⟨x2, x3, rfl, p1, p2⟩
      have hS' := ex_l p1 hS
      have hi' : i < ns.length := by omega
      have hm : (i + 1) % ns.length < ns.length := Nat.mod_lt _ (by omega)
      have g1 := at_int (RD.ev_lt hi')
      have g2 := at_int (RD.ev_lt hm)
      rw [RD.ev_mod] at g2
      refine q_asg (ev_op (ev_ixL (ev_var rfl) (ev_var rfl) hS' g1) (ev_ixL (ev_var rfl) (ev_is (ev_op (ev_op (ev_var rfl) ev_c rv_I0) (ev_is (ev_len (ev_var rfl) hS') (by rw [List.length_map])) (rv_I (by omega))) (by
        show V.int (((i : Int) + 1) % (ns.length : Int)) = V.int (((i + 1) % ns.length : Nat) : Int)
        rw [Int.natCast_emod]
        rfl)) hS' g2) rv_I0) fun H2 e2 => ?_
      generalize hx : RD.ev ns i = x
      generalize hy : RD.ev ns (i + 1) = y
      have hif : Ev (tIf (tTest (tOp (rI0 fun i j => .bl (decide (j < i))) (tVar 3) (tC (.int 0)))) (tVar 3) (tUn (rU fun i => .int (-i)) (tVar 3))) [some (.ref a), some (.ref f), some (.int (i : Int)), some (.int (x - y))] H2 (.int (RD.dst x y)) := by
        rw [← own_dst]
        refine ev_if (et_test (ev_op (ev_var rfl) ev_c rv_I0)) (fun hb => ?_) (fun hb => ?_)
        · rw [if_pos (of_decide_eq_true hb)]
          exact ev_var rfl
        · rw [if_neg (of_decide_eq_false hb)]
          exact ev_un (ev_var rfl) ru_neg
      refine s_app (e2 _ _ p2) (ev_var rfl) hif (by rw [List.length_map, List.length_take]; omega) fun H3 e3 => ?_
      refine ⟨_, _, rfl, Ex.mut ((p1.trans e2).trans e3) nf, ?_⟩
      rw [upd_same, List.take_add_one, RD.D_get hi', List.map_append, hx, hy]
      rfl
    · rintro σ' H' ⟨x2, x3, rfl, p1, p2⟩
      rw [show ((ns.length : Int)).toNat = ns.length by omega, List.take_of_length_le (by rw [RD.D_len]; exact Nat.le_refl _)] at p2
      exact ⟨.ref f, rfl, q f H' nf p1 p2⟩
end
section
variable {P : Program} {w : World} {K : PySem.W.Frag} {mg : Str → Option Value} {base : Heap}
/-! ### the law's own course -/
theorem ok_w_course (T : Txt K mg) : FnOk P w K mg base CX0 2 T.f_w_course T.fd_w_course ["_law_ring_here"] (spCourse K) := by
  refine T.F_w_course.ok sc_w_course (fun vs H Q E h => ?_) (fun cdv A outer s H vs Q E hr h => ?_)
  · obtain ⟨a, ns, rfl, _⟩ := h
    rfl
  · obtain ⟨a, ns, rfl, hS, hR, q⟩ := h
    have hu := hu_of hr
    refine ⟨_, (pss_cons (ps_par3 (i := 1) (j := 2) (l := 3) (by rfl) sc_w_course.nd rfl rfl rfl (by decide) (by decide) (by decide) rfl rfl rfl (pa_cons (pe_lst pa_nil) (pa_cons pe_dnewT (pa_cons (pe_callTy (r := rListS K) call_list_of (by rfl) T.n_list (by decide +kernel) (pa_cons (pv 0) pa_nil)) pa_nil))) (by rfl))
      (pss_cons (ps_while PassesOwn.never (pt_cmp (pc_dnotin hu (pe_callTy (r := rTupS K) call_tuple_of (by rfl) T.n_tuple (by decide +kernel) (pa_cons (pv 3) pa_nil)) (pv 2)))
        (pss_cons (ps_dput hu (pv 2) (pe_callTy (r := rTupS K) call_tuple_of (by rfl) T.n_tuple (by decide +kernel) (pa_cons (pv 3) pa_nil)) (pe_callB (r := rLenS K) call_len_seq (by rfl) T.n_len (by decide +kernel) (pa_cons (pv 1) pa_nil)) rfl)
        (pss_cons (ps_expr (pe_bm PySem.F.plainAttrs_list PySem.F.slot_list_append PySem.F.type_list_append mt_append (pv 1) (pa_cons (pv 3) pa_nil)))
        (pss_one (ps_set (i := 3) sc_w_course.nd rfl (Or.inl rfl) (pe_call (ok_w_step T) (hr.mono (by decide)) (by rfl) T.g_w_step T.F_w_step.kp T.b_w_step .nil pass0 (pa_cons (pv 3) pa_nil)))))))
      (pss_one (ps_ret (pe_tup (pa_cons (pv 1) (pa_cons (pe_dget hu (pv 2) (pe_callTy (r := rTupS K) call_tuple_of (by rfl) T.n_tuple (by decide +kernel) (pa_cons (pv 3) pa_nil)) (fun _ _ => rfl)) pa_nil))))))), ?_⟩
    refine ⟨Nat.zero_le _, fun f nf d nd => ?_⟩
    obtain ⟨nd', ndf⟩ := upd_fresh nd
    have e1 := Ex.new (o := .lst []) nf
    have e2 := Ex.new (o := .dT []) nd
    refine ⟨.ref a, rfl, a, _, rfl, .inl (ex_l (e1.trans e2) hS), fun h nh => ⟨.ref f, .ref d, .ref h, rfl, ?_⟩⟩
    have e3 := Ex.new (o := .lst (ns.map V.int)) nh
    have hf : upd (upd H f (.lst [])) d (.dT []) f = some (.lst []) := e2 _ _ upd_same
    exact course_run hR nf nd' ((e1.trans e2).trans e3) (e3 _ _ hf) (e3 _ _ upd_same) upd_same (ne_of_none hf nh).symm ndf.symm q
end
section
variable {P : Program} {w : World} {K : PySem.W.Frag} {mg : Str → Option Value} {base : Heap}
/-! ### the law -/
def spLaw (K : PySem.W.Frag) : Sp := fun vs H Q _ => ∃ (a : Addr) (ns : List Int), vs = [.ref a] ∧ SqL K H a (ns.map V.int) ∧ ns.length ≤ 63 ∧ (∀ z ∈ ns, Builtin.Int.intBits z ≤ 1048576) ∧ ∀ H', Q (.bl true) H'
theorem mod_nn (W m : Int) (h : 0 < m) : 0 ≤ W % m ∧ W % m < m := ⟨Int.emod_nonneg _ (by omega), Int.emod_lt_of_pos _ h⟩
theorem abs_nn (s : Int) : 0 ≤ (if s < 0 then -s else s) := by split <;> omega
theorem ok_law (T : Txt K mg) : FnOk P w K mg base CX0 6 T.f_law T.fd_law ["_law_script"] (spLaw K) := by
  refine T.F_law.ok sc_law (fun vs H Q E h => ?_) (fun cdv A outer s H vs Q E hr h => ?_)
  · obtain ⟨a, ns, rfl, _⟩ := h
    rfl
  · obtain ⟨a, ns, rfl, hS, hl, hb, q⟩ := h
    have hF := few_of hb
    refine ⟨_, (pss_cons (ps_for PassesOwn.never rfl (pi_list (pe_lst (pa_cons pe_int (pa_cons pe_int pa_nil)))) (pg_name (i := 1) sc_law.nd rfl (Or.inl rfl))
        (pss_cons (ps_set (i := 2) sc_law.nd rfl (Or.inl rfl) (pe_call (ok_w_ring T) (hr.mono (by decide)) (by rfl) T.g_w_ring T.F_w_ring.kp T.b_w_ring .nil pass0 (pa_cons (pv 0) (pa_cons (pv 1) pa_nil))))
        (pss_cons (ps_asg (pe_call (ok_w_course T) (hr.mono (by decide)) (by rfl) T.g_w_course T.F_w_course.kp T.b_w_course .nil pass0 (pa_cons (pv 2) pa_nil)) (pg_tup rfl (pgs_cons (pg_name (i := 6) sc_law.nd rfl (Or.inl rfl)) (pgs_cons (pg_name (i := 7) sc_law.nd rfl (Or.inl rfl)) pgs_nil))))
        (pss_cons (ps_set (i := 3) sc_law.nd rfl (Or.inl rfl) (pe_op op_sub (pe_callB (r := rLenS K) call_len_seq (by rfl) T.n_len (by decide +kernel) (pa_cons (pv 6) pa_nil)) (pv 7)))
        (pss_cons (ps_set (i := 4) sc_law.nd rfl (Or.inl rfl) (pe_op op_add (pe_callB (r := rAbs) call_abs (by rfl) T.n_abs (by decide +kernel) (pa_cons (pe_callB (r := rSum K) (cr_sum rfl) (by rfl) T.n_sum (by decide +kernel) (pa_cons (pe_slice (r := rSlL K) sl_list (pv 0) po_none (po_some pe_int)) pa_nil)) pa_nil)) (pv 1)))
        (pss_one (ps_for PassesOwn.never rfl (pi_list (pe_lst (pa_cons pe_int (pa_cons (pe_op op_mod (pv 4) pe_int) (pa_cons (pe_op op_add (pv 7) (pe_op op_mod (pv 4) pe_int)) (pa_cons (pe_op op_add (pe_op op_pow pe_int pe_int) (pv 4)) pa_nil)))))) (pg_name (i := 5) sc_law.nd rfl (Or.inl rfl))
          (pss_cons (ps_set (i := 8) sc_law.nd rfl (Or.inl rfl) (pe_ifExp (pt_cmpR op_lt (pv 5) (pe_callB (r := rLenS K) call_len_seq (by rfl) T.n_len (by decide +kernel) (pa_cons (pv 6) pa_nil)) (nomark _)) (pv 5) (pe_op op_add (pv 7) (pe_op op_mod (pe_op op_sub (pv 5) (pv 7)) (pv 3)))))
          (pss_cons (ps_set (i := 9) sc_law.nd rfl (Or.inl rfl) (pe_ix (r := rIxL K) ix_list (pv 6) (pv 8) (fun _ _ => rfl)))
          (pss_cons (ps_set (i := 10) sc_law.nd rfl (Or.inl rfl) (pe_callTy (r := rListS K) call_list_of (by rfl) T.n_list (by decide +kernel) (pa_cons (pv 2) pa_nil)))
          (pss_cons (ps_for PassesOwn.never rfl (pi_range1 (by rfl) T.n_range (pa_cons pe_int pa_nil)) (pg_name (i := 11) sc_law.nd rfl (Or.inl rfl))
            (pss_cons (ps_set (i := 12) sc_law.nd rfl (Or.inl rfl) (pe_call (ok_after T) (hr.mono (by decide)) (by rfl) T.g_after T.F_after.kp T.b_after .nil pass0 (pa_cons (pv 10) (pa_cons (pv 5) pa_nil))))
            (pss_cons (ps_if (PW.pt (pw_or (pt_not (pt_val (pe_callB (r := rIsi K) call_isi (by rfl) T.n_isinstance (by decide +kernel) (pa_cons (pv 12) (pa_cons (pe_bltn (v := .ty "list") (by rfl) T.n_list (by decide +kernel) rfl) pa_nil))))) (pw_or (pt_cmpR (r := rNeD K) (op_neD hr.units) (pv 12) (pv 9) (nomark _)) (pw_or1 (pt_cmpR (r := rNeD K) (op_neD hr.units) (pv 10) (pv 2) (nomark _))))))
              (pss_one (ps_ret pe_bl))
              pss_nil)
            (pss_one (ps_expr (pe_bm PySem.F.plainAttrs_list PySem.F.slot_list_append PySem.F.type_list_append mt_append (pv 12) (pa_cons pe_int pa_nil)))))))
          (pss_cons (ps_if (pt_cmpR (r := rNeD K) (op_neD hr.units) (pe_call (ok_after T) (hr.mono (by decide)) (by rfl) T.g_after T.F_after.kp T.b_after .nil pass0 (pa_cons (pe_call (ok_after T) (hr.mono (by decide)) (by rfl) T.g_after T.F_after.kp T.b_after .nil pass0 (pa_cons (pv 2) (pa_cons (pv 5) pa_nil))) (pa_cons pe_int pa_nil))) (pe_call (ok_after T) (hr.mono (by decide)) (by rfl) T.g_after T.F_after.kp T.b_after .nil pass0 (pa_cons (pv 2) (pa_cons (pe_op op_add (pv 5) pe_int) pa_nil))) (nomark _))
            (pss_one (ps_ret pe_bl))
            pss_nil)
          (pss_one (ps_if (pt_cmpR (r := rNeD K) (op_neD hr.units) (pe_call (ok_step T) (hr.mono (by decide)) (by rfl) T.g_step T.F_step.kp T.b_step .nil pass0 (pa_cons (pv 9) pa_nil)) (pe_call (ok_after T) (hr.mono (by decide)) (by rfl) T.g_after T.F_after.kp T.b_after .nil pass0 (pa_cons (pv 2) (pa_cons (pe_op op_add (pv 5) pe_int) pa_nil))) (nomark _))
            (pss_one (ps_ret pe_bl))
            pss_nil))))))))))))))
      (pss_one (ps_ret (pe_and (pe_cmpR (r := rEqD K) (op_eqD hr.units) (pe_call (ok_after T) (hr.mono (by decide)) (by rfl) T.g_after T.F_after.kp T.b_after .nil pass0 (pa_cons (pe_lst (pa_cons pe_int (pa_cons pe_int (pa_cons pe_int pa_nil)))) (pa_cons (pe_op op_pow pe_int pe_int) pa_nil))) (pe_call (ok_after T) (hr.mono (by decide)) (by rfl) T.g_after T.F_after.kp T.b_after .nil pass0 (pa_cons (pe_lst (pa_cons pe_int (pa_cons pe_int (pa_cons pe_int pa_nil)))) (pa_cons (pe_op op_mod (pe_op op_pow pe_int pe_int) pe_int) pa_nil))) (nomark _)) (pe_one (pe_cmpR (r := rEqD K) (op_eqD hr.units) (pe_call (ok_after T) (hr.mono (by decide)) (by rfl) T.g_after T.F_after.kp T.b_after .nil pass0 (pa_cons (pe_lst (pa_cons pe_int (pa_cons pe_int pa_nil))) (pa_cons pe_int pa_nil))) (pe_lst (pa_cons pe_int (pa_cons pe_int pa_nil))) (nomark _))))))), ?_⟩
    refine q_forNLn (xs := [.int 0, .int 2]) (el_lst (ea_cons ev_c (ea_cons ev_c ea_nil)) (by decide)) (fun p i σ' H' => ∃ x1 x2 x3 x4 x5 x6 x7 x8 x9 x10 x11 x12 : Option V, σ' = [some (.ref a), x1, x2, x3, x4, x5, x6, x7, x8, x9, x10, x11, x12] ∧ Ex H H' ∧ H' p = some (.lst [.int 0, .int 2]))
      (fun p H1 np e1 h1 => ⟨none, none, none, none, none, none, none, none, none, none, none, none, rfl, e1, h1⟩) (fun p i σ' H' _ ⟨_, _, _, _, _, _, _, _, _, _, _, _, _, _, h⟩ => sq_of h) ?_ ?_
    · rintro lp i x σ' H1 hi ⟨x1, x2, x3, x4, x5, x6, x7, x8, x9, x10, x11, x12, rfl, p1, p2⟩
      obtain ⟨by_, hby, rfl⟩ : ∃ b : Int, (0 ≤ b ∧ b ≤ 100) ∧ x = .int b := by
        match i, hi with
        | 0, hi => exact ⟨0, by decide, (Option.some.inj hi).symm⟩
        | 1, hi => exact ⟨2, by decide, (Option.some.inj hi).symm⟩
      -- the ring, its course
      refine ⟨.ref a, rfl, .int by_, rfl, a, ns, by_, rfl, ex_l p1 hS, hl, hF, hby.1, hby.2, fun rs hR r H2 nr e2 hr2 => ?_⟩
      have hrl := hR.few
      refine ⟨.ref r, rfl, r, rs, rfl, sq_of hr2, hR, fun t f N b H3 hC e3 ht hf => ?_⟩
      refine ⟨t, _, rfl, st_of ht, rfl, .ref f, _, rfl, .int (b : Int), _, rfl, rfl, ?_⟩
      obtain ⟨fx, hfx, hfl⟩ := hf.len
      have hlt := hC.lt
      have p3 := (p1.trans e2).trans e3
      refine q_asg (v := .int ((N : Int) - (b : Int))) (ev_op (ev_is (ev_len (ev_var rfl) (sq_of hfx)) (by rw [hfl])) (ev_var rfl) rv_I0) fun H4 e4 => ?_
      -- the whole
      refine q_asg (ev_op (ev_abs (fun H5 e5 Q5 q5 => ⟨.ref a, rfl, 63, rfl, a, _, rfl, ex_l ((p3.trans e4).trans e5) hS, fun c nc => ⟨c, ns, rfl, ?_, q5 _ (Ex.new nc)⟩⟩)) (ev_var rfl) rv_I0) fun H5 e5 => ?_
      · rw [show (some (63 : Int)) = some ((63 : Nat) : Int) from rfl, cut_hi, List.take_of_length_le (by rw [List.length_map]; exact hl)]
        exact sq_of upd_same
      have hw0 := abs_nn ns.sum
      generalize hW : (if ns.sum < 0 then -ns.sum else ns.sum) + by_ = W
      have hW0 : 0 ≤ W := by omega
      have g7 := mod_nn W 7 (by decide)
      have g400 := mod_nn W 400 (by decide)
      have p5 := (p3.trans e4).trans e5
      have lp5 := e5 _ _ (e4 _ _ (e3 _ _ (e2 _ _ p2)))
      have hr5 := e5 _ _ (e4 _ _ (e3 _ _ hr2))
      have hf5 := hf.ex (e4.trans e5)
      -- the steps
      refine s_forNLn (xs := [.int 0, .int (W % 7), .int ((b : Int) + W % 400), .int ((10 : Int) ^ (30 : Int).toNat + W)]) (el_lst (ea_cons ev_c (ea_cons (ev_op (ev_var rfl) ev_c (rv_I (by decide))) (ea_cons (ev_op (ev_var rfl) (ev_op (ev_var rfl) ev_c (rv_I (by decide))) rv_I0) (ea_cons (ev_op (ev_op ev_c ev_c (rv_I ⟨by decide, by decide, by decide⟩)) (ev_var rfl) rv_I0) ea_nil)))) (by show 4 ≤ 100000; decide))
        (fun p i σ' H' => ∃ x5 x8 x9 x10 x11 x12 : Option V, σ' = [some (.ref a), some (.int by_), some (.ref r), some (.int ((N : Int) - (b : Int))), some (.int W), x5, some (.ref f), some (.int (b : Int)), x8, x9, x10, x11, x12] ∧ Ex H5 H' ∧ H' p = some (.lst [.int 0, .int (W % 7), .int ((b : Int) + W % 400), .int ((10 : Int) ^ (30 : Int).toNat + W)]))
        (fun p H6 np e6 h6 => ⟨_, _, _, _, _, _, rfl, e6, h6⟩) (fun p i σ' H' _ ⟨_, _, _, _, _, _, _, _, h⟩ => sq_of h) ?_ ?_
      · rintro sp i x σ' H6 hi ⟨x5, x8, x9, x10, x11, x12, rfl, e6, hsp⟩
        obtain ⟨n, hn, rfl⟩ : ∃ n : Int, 0 ≤ n ∧ x = .int n := by
          match i, hi with
          | 0, hi => exact ⟨0, by decide, (Option.some.inj hi).symm⟩
          | 1, hi => exact ⟨_, g7.1, (Option.some.inj hi).symm⟩
          | 2, hi => exact ⟨_, by omega, (Option.some.inj hi).symm⟩
          | 3, hi => exact ⟨_, by
              have : (0 : Int) ≤ (10 : Int) ^ (30 : Int).toNat := by decide
              omega, (Option.some.inj hi).symm⟩
        have hf6 := hf5.ex e6
        obtain ⟨fx6, hfx6, hfl6⟩ := hf6.len
        have hr6 := e6 _ _ hr5
        -- the place
        have place : ∃ k : Nat, k < N ∧ RD.itr k rs = RD.itr n.toNat rs ∧ Ev (tIf (tTest (tOp (rI0 fun i j => .bl (decide (i < j))) (tVar 5) (tCB (rLenS K) (tCons (tVar 6) tNil)))) (tVar 5) (tOp (rI0 fun i j => .int (i + j)) (tVar 7) (tOp (rI (fun _ j => 0 < j) fun i j => .int (i % j)) (tOp (rI0 fun i j => .int (i - j)) (tVar 5) (tVar 7)) (tVar 3))))
            [some (.ref a), some (.int by_), some (.ref r), some (.int ((N : Int) - (b : Int))), some (.int W), some (.int n), some (.ref f), some (.int (b : Int)), x8, x9, x10, x11, x12] H6 (.int (k : Int)) := by
          by_cases hnN : n < (N : Int)
          · refine ⟨n.toNat, by omega, rfl, ev_if (b := true) (et_is (et_test (ev_op (ev_var rfl) (ev_is (ev_len (ev_var rfl) (sq_of hfx6)) (by rw [hfl6])) rv_I0)) (decide_eq_true hnN)) (fun _ => ev_is (ev_var rfl) (by rw [show ((n.toNat : Nat) : Int) = n by omega])) (fun z => nomatch z)⟩
          · have hbn : b ≤ n.toNat := by omega
            have hmod := Nat.mod_lt (n.toNat - b) (show 0 < N - b by omega)
            refine ⟨b + (n.toNat - b) % (N - b), by omega, hC.at hbn, ev_if (b := false) (et_is (et_test (ev_op (ev_var rfl) (ev_is (ev_len (ev_var rfl) (sq_of hfx6)) (by rw [hfl6])) rv_I0)) (decide_eq_false hnN)) (fun z => nomatch z) fun _ => ev_is (ev_op (ev_var rfl) (ev_op (ev_op (ev_var rfl) (ev_var rfl) rv_I0) (ev_var rfl) (rv_I (by omega))) rv_I0) ?_⟩
            rw [Int.natCast_add, Int.natCast_emod, show ((n.toNat - b : Nat) : Int) = n - (b : Int) by omega, show ((N - b : Nat) : Int) = (N : Int) - (b : Int) by omega]
        obtain ⟨k, hk, ek, hplace⟩ := place
        refine q_asg hplace fun H7 e7 => ?_
        obtain ⟨xs, x, g1, g2, g3⟩ := (hf6.ex e7).at hk
        rw [ek] at g3
        refine q_asg (ev_ixL (ev_var rfl) (ev_var rfl) (sq_of g1) g2) fun H8 e8 => ?_
        have hx8 := e8 _ _ g3
        refine q_asgL (el_list (ev_var rfl) (sq_of (e8 _ _ (e7 _ _ hr6)))) fun c H9 nc e9 hc9 => ?_
        have hr9 := e9 _ _ (e8 _ _ (e7 _ _ hr6))
        have hx9 := e9 _ _ hx8
        have e69 := (e7.trans e8).trans e9
        -- twice
        refine q_forR1 (n := 2) (ea_cons ev_c ea_nil) (by decide) (fun i σ' H' => ∃ x11 x12 : Option V, σ' = [some (.ref a), some (.int by_), some (.ref r), some (.int ((N : Int) - (b : Int))), some (.int W), some (.int n), some (.ref f), some (.int (b : Int)), some (.int (k : Int)), some (.ref x), some (.ref c), x11, x12] ∧ Ex H9 H')
          (fun H10 e10 => ⟨_, _, rfl, e10⟩) ?_ ?_
        · rintro j σ' H10 hj ⟨x11, x12, rfl, e10⟩
          refine q_asgL (el_after (ei_var rfl (sq_of (e10 _ _ hc9))) (ev_var rfl) hR hn) fun d H11 nd e11 hd => ?_
          have e911 := e10.trans e11
          refine q_when (b := false) (et_is (et_or (a := false) (b := false) (et_is (et_not (et_B (ev_isi (b := true) (ev_var rfl) (tyL (sq_of hd)) (.ty _) (kit_ty (by decide +kernel))))) rfl) fun _ =>
            et_or (a := false) (b := false) (et_test (ev_neI0 (ei_var rfl (sq_of hd)) (ei_var rfl (sq_of (e911 _ _ hx9))) rfl)) fun _ => et_test (ev_neI0 (ei_var rfl (sq_of (e911 _ _ hc9))) (ei_var rfl (sq_of (e911 _ _ hr9))) rfl)) rfl) (fun z => nomatch z) fun _ H12 e12 => ?_
          refine s_app (e12 _ _ hd) (ev_var rfl) ev_c (by rw [List.length_map, RD.itr_len]; omega) fun H13 e13 => ?_
          exact ⟨_, _, rfl, Ex.mut (((e10.trans e11).trans e12).trans e13) (fresh_back e10 nd)⟩
        · rintro σ' H10 ⟨x11, x12, rfl, e10⟩
          have hrA := sq_of (K := K) (e10 _ _ hr9)
          have hxA := sq_of (K := K) (e10 _ _ hx9)
          refine q_when (b := false) (et_test (ev_neI0 (ei_L (el_after (ei_L (el_after (ei_var rfl hrA) (ev_var rfl) hR hn)) ev_c (hR.itr _) (by decide))) (ei_L (el_after (ei_var rfl hrA) (ev_op (ev_var rfl) ev_c rv_I0) hR (by omega))) ?_)) (fun z => nomatch z) fun _ H11 e11 => ?_
          · rw [← RD.itr_add, show (3 : Int).toNat + n.toNat = (n + 3).toNat by omega]
          refine s_when (b := false) (et_test (ev_neI0 (ei_L (el_step (ei_var rfl (ex_l e11 hxA)) (hR.itr _))) (ei_L (el_after (ei_var rfl (ex_l e11 hrA)) (ev_op (ev_var rfl) ev_c rv_I0) hR (by omega))) ?_)) (fun z => nomatch z) fun _ H12 e12 => ?_
          · rw [show (n + 1).toNat = n.toNat + 1 by omega]
            rfl
          have e612 := ((e69.trans e10).trans e11).trans e12
          exact ⟨_, _, _, _, _, _, rfl, e6.trans e612, e612 _ _ hsp⟩
      · rintro sp σ' H6 ⟨x5, x8, x9, x10, x11, x12, rfl, e6, hsp⟩
        exact ⟨_, _, _, _, _, _, _, _, _, _, _, _, rfl, p5.trans e6, e6 _ _ lp5⟩
    · rintro lp σ' H1 ⟨x1, x2, x3, x4, x5, x6, x7, x8, x9, x10, x11, x12, rfl, p1, p2⟩
      have r011 : Ring [0, 1, 1] := ring_by (by decide)
      have per : ∀ k : Nat, RD.itr (k + 3) [0, 1, 1] = RD.itr k [0, 1, 1] := fun k => by
        rw [RD.itr_add]
        congr 1
      have pers : ∀ j k : Nat, RD.itr (k + 3 * j) [0, 1, 1] = RD.itr k [0, 1, 1] := fun j k => by
        induction j with
        | zero => rfl
        | succ j ih => rw [Nat.mul_succ, ← Nat.add_assoc, per, ih]
      refine s_ret (v := .bl true) (ev_andV (a := true) (b := true) (ev_eqI1 (ei_L (el_after (ei_L (ns := [0, 1, 1]) (el_lst (ea_cons ev_c (ea_cons ev_c (ea_cons ev_c ea_nil))) (by decide))) (ev_op ev_c ev_c (rv_I ⟨by decide, by decide, by decide⟩)) r011 (by decide)))
        (ei_L (el_after (ei_L (ns := [0, 1, 1]) (el_lst (ea_cons ev_c (ea_cons ev_c (ea_cons ev_c ea_nil))) (by decide))) (ev_op (ev_op ev_c ev_c (rv_I ⟨by decide, by decide, by decide⟩)) ev_c (rv_I (by decide))) r011 (by decide))) ?_) fun _ =>
        ev_eqI1 (ei_L (el_after (ei_L (ns := [4, 1]) (el_lst (ea_cons ev_c (ea_cons ev_c ea_nil)) (by decide))) ev_c (ring_by (by decide)) (by decide))) (ei_L (ns := [0, 0]) (el_lst (ea_cons ev_c (ea_cons ev_c ea_nil)) (by decide))) (by decide)) fun H2 e2 => q H2
      have e20 : ((10 : Int) ^ (20 : Int).toNat).toNat = 1 + 3 * 33333333333333333333 := by decide
      have e21 : ((10 : Int) ^ (20 : Int).toNat % 3).toNat = 1 := by decide
      rw [e20, e21, pers]
end
theorem law_of {l : PySem.W.OpenLaw} {w : World} {K : PySem.W.Frag} {h : Heap} {mg : Str → Option Value} {fa : Addr} (X : K.In h) (G : h.Ns mainGlobals mg)
    (hfa : mg "law" = some (.ref fa)) (N : Nonempty (Txt K mg)) : ∃ fd : FuncData, (∀ (s : Shared) (v : Value), BindsTo s fd ⟨[v], []⟩ [("_law_script", v)]) ∧
    ∀ base : Heap, K.In base → base.Ns mainGlobals mg → FnOk l.prog w K mg base CX0 6 fa fd ["_law_script"] (spLaw K) := by
  obtain ⟨T⟩ := N
  have e := hfa.symm.trans T.g_law
  cases e
  refine ⟨T.fd_law, fun s v => ?_, fun base _ _ => ok_law T⟩
  obtain ⟨oc, od, kV, doc, pm, an, cdv, ct, osl, hfd, _, _⟩ := T.F_law.ex
  rw [hfd]
  exact .of_eq rfl
theorem txt_mk {K : PySem.W.Frag} {h : Heap} {mg : Str → Option Value} (X : K.In h) (G : h.Ns mainGlobals mg)
    {t_LONGEST : Tok}
    {t_GREATEST : Tok}
    {C_RingError : Addr}
    {C_BadRing : Addr}
    {C_BadNumber : Addr}
    {f_is_whole : Addr} {od_is_whole an_is_whole : Option Addr} {sl_is_whole : Array (Option Value)} {oc_is_whole kV_is_whole dc_is_whole pm_is_whole cd_is_whole ct_is_whole : Value}
    {f_asked_ring : Addr} {od_asked_ring an_asked_ring : Option Addr} {sl_asked_ring : Array (Option Value)} {oc_asked_ring kV_asked_ring dc_asked_ring pm_asked_ring cd_asked_ring ct_asked_ring : Value}
    {f_asked_number : Addr} {od_asked_number an_asked_number : Option Addr} {sl_asked_number : Array (Option Value)} {oc_asked_number kV_asked_number dc_asked_number pm_asked_number cd_asked_number ct_asked_number : Value}
    {f_stepped : Addr} {od_stepped an_stepped : Option Addr} {sl_stepped : Array (Option Value)} {oc_stepped kV_stepped dc_stepped pm_stepped cd_stepped ct_stepped : Value}
    {f_step : Addr} {od_step an_step : Option Addr} {sl_step : Array (Option Value)} {oc_step kV_step dc_step pm_step cd_step ct_step : Value}
    {f_course : Addr} {od_course an_course : Option Addr} {sl_course : Array (Option Value)} {oc_course kV_course dc_course pm_course cd_course ct_course : Value}
    {f_after : Addr} {od_after an_after : Option Addr} {sl_after : Array (Option Value)} {oc_after kV_after dc_after pm_after cd_after ct_after : Value}
    {f_w_number : Addr} {od_w_number an_w_number : Option Addr} {sl_w_number : Array (Option Value)} {oc_w_number kV_w_number dc_w_number pm_w_number cd_w_number ct_w_number : Value}
    {f_w_ring : Addr} {od_w_ring an_w_ring : Option Addr} {sl_w_ring : Array (Option Value)} {oc_w_ring kV_w_ring dc_w_ring pm_w_ring cd_w_ring ct_w_ring : Value}
    {f_w_step : Addr} {od_w_step an_w_step : Option Addr} {sl_w_step : Array (Option Value)} {oc_w_step kV_w_step dc_w_step pm_w_step cd_w_step ct_w_step : Value}
    {f_w_course : Addr} {od_w_course an_w_course : Option Addr} {sl_w_course : Array (Option Value)} {oc_w_course kV_w_course dc_w_course pm_w_course cd_w_course ct_w_course : Value}
    {f_law : Addr} {od_law an_law : Option Addr} {sl_law : Array (Option Value)} {oc_law kV_law dc_law pm_law cd_law ct_law : Value}
    (z_abs : PySem.W.nsIn K mainGlobals "abs" = some none)
    (z_all : PySem.W.nsIn K mainGlobals "all" = some none)
    (z_bool : PySem.W.nsIn K mainGlobals "bool" = some none)
    (z_int : PySem.W.nsIn K mainGlobals "int" = some none)
    (z_isinstance : PySem.W.nsIn K mainGlobals "isinstance" = some none)
    (z_len : PySem.W.nsIn K mainGlobals "len" = some none)
    (z_list : PySem.W.nsIn K mainGlobals "list" = some none)
    (z_range : PySem.W.nsIn K mainGlobals "range" = some none)
    (z_sum : PySem.W.nsIn K mainGlobals "sum" = some none)
    (z_tuple : PySem.W.nsIn K mainGlobals "tuple" = some none)
    (z_zip : PySem.W.nsIn K mainGlobals "zip" = some none)
    (q_LONGEST : PySem.W.nsIn K mainGlobals "LONGEST" = some (some (.int 12 t_LONGEST)))
    (q_GREATEST : PySem.W.nsIn K mainGlobals "GREATEST" = some (some (.int 200 t_GREATEST)))
    (aC_RingError : PySem.W.nsIn K mainGlobals "RingError" = some (some (.ref C_RingError)))
    (aC_BadRing : PySem.W.nsIn K mainGlobals "BadRing" = some (some (.ref C_BadRing)))
    (aC_BadNumber : PySem.W.nsIn K mainGlobals "BadNumber" = some (some (.ref C_BadNumber)))
    (a_is_whole : PySem.W.nsIn K mainGlobals "is_whole" = some (some (.ref f_is_whole)))
    (l_is_whole : K.lookup f_is_whole = some ⟨oc_is_whole, od_is_whole, .func (PySem.W.fnOf "is_whole" "is_whole" (defArgs s_is_whole) (defBody s_is_whole) (defScope s_is_whole) .none kV_is_whole dc_is_whole pm_is_whole an_is_whole cd_is_whole ct_is_whole), sl_is_whole⟩)
    (cc_is_whole : PySem.W.codeIn K cd_is_whole "is_whole" = true)
    (kk_is_whole : PySem.W.keepIn K (.ref f_is_whole) = true)
    (a_asked_ring : PySem.W.nsIn K mainGlobals "asked_ring" = some (some (.ref f_asked_ring)))
    (l_asked_ring : K.lookup f_asked_ring = some ⟨oc_asked_ring, od_asked_ring, .func (PySem.W.fnOf "asked_ring" "asked_ring" (defArgs s_asked_ring) (defBody s_asked_ring) (defScope s_asked_ring) .none kV_asked_ring dc_asked_ring pm_asked_ring an_asked_ring cd_asked_ring ct_asked_ring), sl_asked_ring⟩)
    (cc_asked_ring : PySem.W.codeIn K cd_asked_ring "asked_ring" = true)
    (kk_asked_ring : PySem.W.keepIn K (.ref f_asked_ring) = true)
    (a_asked_number : PySem.W.nsIn K mainGlobals "asked_number" = some (some (.ref f_asked_number)))
    (l_asked_number : K.lookup f_asked_number = some ⟨oc_asked_number, od_asked_number, .func (PySem.W.fnOf "asked_number" "asked_number" (defArgs s_asked_number) (defBody s_asked_number) (defScope s_asked_number) .none kV_asked_number dc_asked_number pm_asked_number an_asked_number cd_asked_number ct_asked_number), sl_asked_number⟩)
    (cc_asked_number : PySem.W.codeIn K cd_asked_number "asked_number" = true)
    (kk_asked_number : PySem.W.keepIn K (.ref f_asked_number) = true)
    (a_stepped : PySem.W.nsIn K mainGlobals "stepped" = some (some (.ref f_stepped)))
    (l_stepped : K.lookup f_stepped = some ⟨oc_stepped, od_stepped, .func (PySem.W.fnOf "stepped" "stepped" (defArgs s_stepped) (defBody s_stepped) (defScope s_stepped) .none kV_stepped dc_stepped pm_stepped an_stepped cd_stepped ct_stepped), sl_stepped⟩)
    (cc_stepped : PySem.W.codeIn K cd_stepped "stepped" = true)
    (kk_stepped : PySem.W.keepIn K (.ref f_stepped) = true)
    (a_step : PySem.W.nsIn K mainGlobals "step" = some (some (.ref f_step)))
    (l_step : K.lookup f_step = some ⟨oc_step, od_step, .func (PySem.W.fnOf "step" "step" (defArgs s_step) (defBody s_step) (defScope s_step) .none kV_step dc_step pm_step an_step cd_step ct_step), sl_step⟩)
    (cc_step : PySem.W.codeIn K cd_step "step" = true)
    (kk_step : PySem.W.keepIn K (.ref f_step) = true)
    (a_course : PySem.W.nsIn K mainGlobals "course" = some (some (.ref f_course)))
    (l_course : K.lookup f_course = some ⟨oc_course, od_course, .func (PySem.W.fnOf "course" "course" (defArgs s_course) (defBody s_course) (defScope s_course) .none kV_course dc_course pm_course an_course cd_course ct_course), sl_course⟩)
    (cc_course : PySem.W.codeIn K cd_course "course" = true)
    (kk_course : PySem.W.keepIn K (.ref f_course) = true)
    (a_after : PySem.W.nsIn K mainGlobals "after" = some (some (.ref f_after)))
    (l_after : K.lookup f_after = some ⟨oc_after, od_after, .func (PySem.W.fnOf "after" "after" (defArgs s_after) (defBody s_after) (defScope s_after) .none kV_after dc_after pm_after an_after cd_after ct_after), sl_after⟩)
    (cc_after : PySem.W.codeIn K cd_after "after" = true)
    (kk_after : PySem.W.keepIn K (.ref f_after) = true)
    (a_w_number : PySem.W.nsIn K mainGlobals "_law_number" = some (some (.ref f_w_number)))
    (l_w_number : K.lookup f_w_number = some ⟨oc_w_number, od_w_number, .func (PySem.W.fnOf "_law_number" "_law_number" (defArgs s_w_number) (defBody s_w_number) (defScope s_w_number) .none kV_w_number dc_w_number pm_w_number an_w_number cd_w_number ct_w_number), sl_w_number⟩)
    (cc_w_number : PySem.W.codeIn K cd_w_number "_law_number" = true)
    (kk_w_number : PySem.W.keepIn K (.ref f_w_number) = true)
    (a_w_ring : PySem.W.nsIn K mainGlobals "_law_ring" = some (some (.ref f_w_ring)))
    (l_w_ring : K.lookup f_w_ring = some ⟨oc_w_ring, od_w_ring, .func (PySem.W.fnOf "_law_ring" "_law_ring" (defArgs s_w_ring) (defBody s_w_ring) (defScope s_w_ring) .none kV_w_ring dc_w_ring pm_w_ring an_w_ring cd_w_ring ct_w_ring), sl_w_ring⟩)
    (cc_w_ring : PySem.W.codeIn K cd_w_ring "_law_ring" = true)
    (kk_w_ring : PySem.W.keepIn K (.ref f_w_ring) = true)
    (a_w_step : PySem.W.nsIn K mainGlobals "_law_step" = some (some (.ref f_w_step)))
    (l_w_step : K.lookup f_w_step = some ⟨oc_w_step, od_w_step, .func (PySem.W.fnOf "_law_step" "_law_step" (defArgs s_w_step) (defBody s_w_step) (defScope s_w_step) .none kV_w_step dc_w_step pm_w_step an_w_step cd_w_step ct_w_step), sl_w_step⟩)
    (cc_w_step : PySem.W.codeIn K cd_w_step "_law_step" = true)
    (kk_w_step : PySem.W.keepIn K (.ref f_w_step) = true)
    (a_w_course : PySem.W.nsIn K mainGlobals "_law_course" = some (some (.ref f_w_course)))
    (l_w_course : K.lookup f_w_course = some ⟨oc_w_course, od_w_course, .func (PySem.W.fnOf "_law_course" "_law_course" (defArgs s_w_course) (defBody s_w_course) (defScope s_w_course) .none kV_w_course dc_w_course pm_w_course an_w_course cd_w_course ct_w_course), sl_w_course⟩)
    (cc_w_course : PySem.W.codeIn K cd_w_course "_law_course" = true)
    (kk_w_course : PySem.W.keepIn K (.ref f_w_course) = true)
    (a_law : PySem.W.nsIn K mainGlobals "law" = some (some (.ref f_law)))
    (l_law : K.lookup f_law = some ⟨oc_law, od_law, .func (PySem.W.fnOf "law" "law" (defArgs s_law) (defBody s_law) (defScope s_law) .none kV_law dc_law pm_law an_law cd_law ct_law), sl_law⟩)
    (cc_law : PySem.W.codeIn K cd_law "law" = true)
    (kk_law : PySem.W.keepIn K (.ref f_law) = true) : Nonempty (Txt K mg) := by
  have F_is_whole := fun_mk (st := s_is_whole) l_is_whole cc_is_whole kk_is_whole
  have b_is_whole := F_is_whole.binds (ps := ["thing"]) fun _ _ _ _ _ _ us hl => match us, hl with | [_], _ => rfl
  have F_asked_ring := fun_mk (st := s_asked_ring) l_asked_ring cc_asked_ring kk_asked_ring
  have b_asked_ring := F_asked_ring.binds (ps := ["ring"]) fun _ _ _ _ _ _ us hl => match us, hl with | [_], _ => rfl
  have F_asked_number := fun_mk (st := s_asked_number) l_asked_number cc_asked_number kk_asked_number
  have b_asked_number := F_asked_number.binds (ps := ["number"]) fun _ _ _ _ _ _ us hl => match us, hl with | [_], _ => rfl
  have F_stepped := fun_mk (st := s_stepped) l_stepped cc_stepped kk_stepped
  have b_stepped := F_stepped.binds (ps := ["ring"]) fun _ _ _ _ _ _ us hl => match us, hl with | [_], _ => rfl
  have F_step := fun_mk (st := s_step) l_step cc_step kk_step
  have b_step := F_step.binds (ps := ["ring"]) fun _ _ _ _ _ _ us hl => match us, hl with | [_], _ => rfl
  have F_course := fun_mk (st := s_course) l_course cc_course kk_course
  have b_course := F_course.binds (ps := ["ring"]) fun _ _ _ _ _ _ us hl => match us, hl with | [_], _ => rfl
  have F_after := fun_mk (st := s_after) l_after cc_after kk_after
  have b_after := F_after.binds (ps := ["ring", "steps"]) fun _ _ _ _ _ _ us hl => match us, hl with | [_, _], _ => rfl
  have F_w_number := fun_mk (st := s_w_number) l_w_number cc_w_number kk_w_number
  have b_w_number := F_w_number.binds (ps := ["_law_cell", "_law_at", "_law_whole"]) fun _ _ _ _ _ _ us hl => match us, hl with | [_, _, _], _ => rfl
  have F_w_ring := fun_mk (st := s_w_ring) l_w_ring cc_w_ring kk_w_ring
  have b_w_ring := F_w_ring.binds (ps := ["_law_script", "_law_by"]) fun _ _ _ _ _ _ us hl => match us, hl with | [_, _], _ => rfl
  have F_w_step := fun_mk (st := s_w_step) l_w_step cc_w_step kk_w_step
  have b_w_step := F_w_step.binds (ps := ["_law_ring_here"]) fun _ _ _ _ _ _ us hl => match us, hl with | [_], _ => rfl
  have F_w_course := fun_mk (st := s_w_course) l_w_course cc_w_course kk_w_course
  have b_w_course := F_w_course.binds (ps := ["_law_ring_here"]) fun _ _ _ _ _ _ us hl => match us, hl with | [_], _ => rfl
  have F_law := fun_mk (st := s_law) l_law cc_law kk_law
  have b_law := F_law.binds (ps := ["_law_script"]) fun _ _ _ _ _ _ us hl => match us, hl with | [_], _ => rfl
  exact ⟨{ n_abs := PySem.W.mg_none_of X G z_abs, n_all := PySem.W.mg_none_of X G z_all, n_bool := PySem.W.mg_none_of X G z_bool, n_int := PySem.W.mg_none_of X G z_int, n_isinstance := PySem.W.mg_none_of X G z_isinstance, n_len := PySem.W.mg_none_of X G z_len, n_list := PySem.W.mg_none_of X G z_list, n_range := PySem.W.mg_none_of X G z_range, n_sum := PySem.W.mg_none_of X G z_sum, n_tuple := PySem.W.mg_none_of X G z_tuple, n_zip := PySem.W.mg_none_of X G z_zip, t_LONGEST := t_LONGEST, m_LONGEST := PySem.W.mg_of X G q_LONGEST, t_GREATEST := t_GREATEST, m_GREATEST := PySem.W.mg_of X G q_GREATEST, C_RingError := C_RingError, m_RingError := PySem.W.mg_of X G aC_RingError, C_BadRing := C_BadRing, m_BadRing := PySem.W.mg_of X G aC_BadRing, C_BadNumber := C_BadNumber, m_BadNumber := PySem.W.mg_of X G aC_BadNumber, f_is_whole := f_is_whole, fd_is_whole := PySem.W.fnOf "is_whole" "is_whole" (defArgs s_is_whole) (defBody s_is_whole) (defScope s_is_whole) .none kV_is_whole dc_is_whole pm_is_whole an_is_whole cd_is_whole ct_is_whole, F_is_whole := F_is_whole, b_is_whole := b_is_whole, g_is_whole := PySem.W.mg_of X G a_is_whole, f_asked_ring := f_asked_ring, fd_asked_ring := PySem.W.fnOf "asked_ring" "asked_ring" (defArgs s_asked_ring) (defBody s_asked_ring) (defScope s_asked_ring) .none kV_asked_ring dc_asked_ring pm_asked_ring an_asked_ring cd_asked_ring ct_asked_ring, F_asked_ring := F_asked_ring, b_asked_ring := b_asked_ring, g_asked_ring := PySem.W.mg_of X G a_asked_ring, f_asked_number := f_asked_number, fd_asked_number := PySem.W.fnOf "asked_number" "asked_number" (defArgs s_asked_number) (defBody s_asked_number) (defScope s_asked_number) .none kV_asked_number dc_asked_number pm_asked_number an_asked_number cd_asked_number ct_asked_number, F_asked_number := F_asked_number, b_asked_number := b_asked_number, g_asked_number := PySem.W.mg_of X G a_asked_number, f_stepped := f_stepped, fd_stepped := PySem.W.fnOf "stepped" "stepped" (defArgs s_stepped) (defBody s_stepped) (defScope s_stepped) .none kV_stepped dc_stepped pm_stepped an_stepped cd_stepped ct_stepped, F_stepped := F_stepped, b_stepped := b_stepped, g_stepped := PySem.W.mg_of X G a_stepped, f_step := f_step, fd_step := PySem.W.fnOf "step" "step" (defArgs s_step) (defBody s_step) (defScope s_step) .none kV_step dc_step pm_step an_step cd_step ct_step, F_step := F_step, b_step := b_step, g_step := PySem.W.mg_of X G a_step, f_course := f_course, fd_course := PySem.W.fnOf "course" "course" (defArgs s_course) (defBody s_course) (defScope s_course) .none kV_course dc_course pm_course an_course cd_course ct_course, F_course := F_course, b_course := b_course, g_course := PySem.W.mg_of X G a_course, f_after := f_after, fd_after := PySem.W.fnOf "after" "after" (defArgs s_after) (defBody s_after) (defScope s_after) .none kV_after dc_after pm_after an_after cd_after ct_after, F_after := F_after, b_after := b_after, g_after := PySem.W.mg_of X G a_after, f_w_number := f_w_number, fd_w_number := PySem.W.fnOf "_law_number" "_law_number" (defArgs s_w_number) (defBody s_w_number) (defScope s_w_number) .none kV_w_number dc_w_number pm_w_number an_w_number cd_w_number ct_w_number, F_w_number := F_w_number, b_w_number := b_w_number, g_w_number := PySem.W.mg_of X G a_w_number, f_w_ring := f_w_ring, fd_w_ring := PySem.W.fnOf "_law_ring" "_law_ring" (defArgs s_w_ring) (defBody s_w_ring) (defScope s_w_ring) .none kV_w_ring dc_w_ring pm_w_ring an_w_ring cd_w_ring ct_w_ring, F_w_ring := F_w_ring, b_w_ring := b_w_ring, g_w_ring := PySem.W.mg_of X G a_w_ring, f_w_step := f_w_step, fd_w_step := PySem.W.fnOf "_law_step" "_law_step" (defArgs s_w_step) (defBody s_w_step) (defScope s_w_step) .none kV_w_step dc_w_step pm_w_step an_w_step cd_w_step ct_w_step, F_w_step := F_w_step, b_w_step := b_w_step, g_w_step := PySem.W.mg_of X G a_w_step, f_w_course := f_w_course, fd_w_course := PySem.W.fnOf "_law_course" "_law_course" (defArgs s_w_course) (defBody s_w_course) (defScope s_w_course) .none kV_w_course dc_w_course pm_w_course an_w_course cd_w_course ct_w_course, F_w_course := F_w_course, b_w_course := b_w_course, g_w_course := PySem.W.mg_of X G a_w_course, f_law := f_law, fd_law := PySem.W.fnOf "law" "law" (defArgs s_law) (defBody s_law) (defScope s_law) .none kV_law dc_law pm_law an_law cd_law ct_law, F_law := F_law, b_law := b_law, g_law := PySem.W.mg_of X G a_law }⟩
end RL
open PySem PySem.W PyProof.Rows
set_option maxRecDepth 100000 in
set_option maxHeartbeats 0 in
theorem PySem.Challenge.cw_ringdiffer_k02_whole_after_holds : PySem.Challenge.rw_ringdiffer_k02_whole_after.Holds := by
  w_on; o_law; k_head; (case hw => w_witness2)
  k_fill
  refine L2.walk_ofB (l := PySem.Challenge.rw_ringdiffer_k02_whole_after) (n := 63) (k := 6) (x := "_law_script") (CX := fun _ => L2.CX0)
    (sp := fun w => RL.spLaw _) rfl (by decide) rfl ⟨rfl, by decide, by decide⟩
    (fun w h Y => PySem.W.kIn_of Y) ?F (fun _ _ a ns hl hb _ hS => ⟨a, ns, rfl, hS, hl, hb, fun _ => rfl⟩) (fun _ _ _ _ _ h => h)
  case F =>
    intro w mg fa h KX G hmg
    refine RL.law_of KX G hmg ?_
    refine' RL.txt_mk KX G ?z_abs ?z_all ?z_bool ?z_int ?z_isinstance ?z_len ?z_list ?z_range ?z_sum ?z_tuple ?z_zip ?q_LONGEST ?q_GREATEST ?aC_RingError ?aC_BadRing ?aC_BadNumber ?a_is_whole ?l_is_whole ?cc_is_whole ?kk_is_whole ?a_asked_ring ?l_asked_ring ?cc_asked_ring ?kk_asked_ring ?a_asked_number ?l_asked_number ?cc_asked_number ?kk_asked_number ?a_stepped ?l_stepped ?cc_stepped ?kk_stepped ?a_step ?l_step ?cc_step ?kk_step ?a_course ?l_course ?cc_course ?kk_course ?a_after ?l_after ?cc_after ?kk_after ?a_w_number ?l_w_number ?cc_w_number ?kk_w_number ?a_w_ring ?l_w_ring ?cc_w_ring ?kk_w_ring ?a_w_step ?l_w_step ?cc_w_step ?kk_w_step ?a_w_course ?l_w_course ?cc_w_course ?kk_w_course ?a_law ?l_law ?cc_law ?kk_law
    (case z_abs => first | k_is | rfl)
    (case z_all => first | k_is | rfl)
    (case z_bool => first | k_is | rfl)
    (case z_int => first | k_is | rfl)
    (case z_isinstance => first | k_is | rfl)
    (case z_len => first | k_is | rfl)
    (case z_list => first | k_is | rfl)
    (case z_range => first | k_is | rfl)
    (case z_sum => first | k_is | rfl)
    (case z_tuple => first | k_is | rfl)
    (case z_zip => first | k_is | rfl)
    (case q_LONGEST => first | k_is | rfl)
    (case q_GREATEST => first | k_is | rfl)
    (case aC_RingError => first | k_is | rfl)
    (case aC_BadRing => first | k_is | rfl)
    (case aC_BadNumber => first | k_is | rfl)
    (case a_is_whole => first | k_is | rfl)
    (case l_is_whole => first | k_is | rfl)
    (case cc_is_whole => first | k_is | rfl)
    (case kk_is_whole => first | k_is | rfl)
    (case a_asked_ring => first | k_is | rfl)
    (case l_asked_ring => first | k_is | rfl)
    (case cc_asked_ring => first | k_is | rfl)
    (case kk_asked_ring => first | k_is | rfl)
    (case a_asked_number => first | k_is | rfl)
    (case l_asked_number => first | k_is | rfl)
    (case cc_asked_number => first | k_is | rfl)
    (case kk_asked_number => first | k_is | rfl)
    (case a_stepped => first | k_is | rfl)
    (case l_stepped => first | k_is | rfl)
    (case cc_stepped => first | k_is | rfl)
    (case kk_stepped => first | k_is | rfl)
    (case a_step => first | k_is | rfl)
    (case l_step => first | k_is | rfl)
    (case cc_step => first | k_is | rfl)
    (case kk_step => first | k_is | rfl)
    (case a_course => first | k_is | rfl)
    (case l_course => first | k_is | rfl)
    (case cc_course => first | k_is | rfl)
    (case kk_course => first | k_is | rfl)
    (case a_after => first | k_is | rfl)
    (case l_after => first | k_is | rfl)
    (case cc_after => first | k_is | rfl)
    (case kk_after => first | k_is | rfl)
    (case a_w_number => first | k_is | rfl)
    (case l_w_number => first | k_is | rfl)
    (case cc_w_number => first | k_is | rfl)
    (case kk_w_number => first | k_is | rfl)
    (case a_w_ring => first | k_is | rfl)
    (case l_w_ring => first | k_is | rfl)
    (case cc_w_ring => first | k_is | rfl)
    (case kk_w_ring => first | k_is | rfl)
    (case a_w_step => first | k_is | rfl)
    (case l_w_step => first | k_is | rfl)
    (case cc_w_step => first | k_is | rfl)
    (case kk_w_step => first | k_is | rfl)
    (case a_w_course => first | k_is | rfl)
    (case l_w_course => first | k_is | rfl)
    (case cc_w_course => first | k_is | rfl)
    (case kk_w_course => first | k_is | rfl)
    (case a_law => first | k_is | rfl)
    (case l_law => first | k_is | rfl)
    (case cc_law => first | k_is | rfl)
    (case kk_law => first | k_is | rfl)
