import PyProof.Rows.All
import Wide.All
import OpenK.AllK
import Wide.FinOn
import HandS.ForMost
import HandS.IsInst
import HandS.Style
import HandS.Flow
import HandS.Evl
import HandS.EndBits
import HandS.Wide
import PySem.Challenge.RW_ringdiffer_k01_step
set_option Elab.async false
set_option linter.all false
set_option maxRecDepth 100000
set_option maxHeartbeats 4000000
namespace RD
/-! ### rings: lists of whole numbers, read round -/
def ev (l : List Int) (i : Nat) : Int := l.getD (i % l.length) 0
def dst (a b : Int) : Int := ((a - b).natAbs : Int)
def D (l : List Int) : List Int := (List.range l.length).map fun i => dst (ev l i) (ev l (i + 1))
def itr : Nat → List Int → List Int
  | 0, l => l
  | k + 1, l => D (itr k l)
theorem D_len (l : List Int) : (D l).length = l.length := by
  unfold D
  rw [List.length_map, List.length_range]
theorem itr_len (k : Nat) (l : List Int) : (itr k l).length = l.length := by
  induction k with
  | zero => rfl
  | succ k ih => exact (D_len _).trans ih
theorem D_get {l : List Int} {i : Nat} (h : i < l.length) : (D l)[i]? = some (dst (ev l i) (ev l (i + 1))) := by
  unfold D
  rw [List.getElem?_map, List.getElem?_range h]
  rfl
theorem ev_mod (l : List Int) (i : Nat) : ev l (i % l.length) = ev l i := by
  unfold ev
  rw [Nat.mod_mod]
theorem ev_lt {l : List Int} {i : Nat} (h : i < l.length) : l[i]? = some (ev l i) := by
  unfold ev
  rw [Nat.mod_eq_of_lt h, List.getD_eq_getElem?_getD, List.getElem?_eq_getElem h]
  rfl
theorem ev_D (l : List Int) (i : Nat) : ev (D l) i = dst (ev l i) (ev l (i + 1)) := by
  by_cases h0 : l.length = 0
  · have e : l = [] := List.eq_nil_of_length_eq_zero h0
    subst e
    rfl
  · have hp : 0 < l.length := Nat.pos_of_ne_zero h0
    have hm : i % l.length < l.length := Nat.mod_lt _ hp
    have h1 : ev (D l) i = dst (ev l (i % l.length)) (ev l (i % l.length + 1)) := by
      show (D l).getD (i % (D l).length) 0 = _
      rw [D_len, List.getD_eq_getElem?_getD, D_get hm]
      rfl
    rw [h1, ev_mod]
    have h2 : ev l (i % l.length + 1) = ev l (i + 1) := by
      unfold ev
      rw [Nat.mod_add_mod]
    rw [h2]
theorem ev_ext {l m : List Int} (hl : l.length = m.length) (h : ∀ i, i < l.length → ev l i = ev m i) : l = m := by
  apply List.ext_getElem? 
  intro i
  by_cases hi : i < l.length
  · rw [ev_lt hi, ev_lt (hl ▸ hi), h i hi]
  · rw [List.getElem?_eq_none (by omega), List.getElem?_eq_none (by omega)]
theorem ev_mem {l : List Int} (h : 0 < l.length) (i : Nat) : ev l i ∈ l := by
  have hm : i % l.length < l.length := Nat.mod_lt _ h
  have e := ev_lt hm
  rw [ev_mod] at e
  exact List.mem_of_getElem? e
theorem mem_ev {l : List Int} {x : Int} (h : x ∈ l) : ∃ i, i < l.length ∧ ev l i = x := by
  obtain ⟨i, hi, e⟩ := List.getElem_of_mem h
  refine ⟨i, hi, ?_⟩
  have e2 := ev_lt hi
  rw [List.getElem?_eq_getElem hi, e] at e2
  exact (Option.some.inj e2).symm
theorem itr_D (k : Nat) (l : List Int) : itr k (D l) = D (itr k l) := by
  induction k with
  | zero => rfl
  | succ k ih =>
    show D (itr k (D l)) = D (D (itr k l))
    rw [ih]
theorem itr_add (a b : Nat) (l : List Int) : itr (a + b) l = itr a (itr b l) := by
  induction a with
  | zero => rw [Nat.zero_add]; rfl
  | succ a ih =>
    rw [Nat.succ_add]
    show D (itr (a + b) l) = D (itr a (itr b l))
    rw [ih]
/-! ### bounds -/
def Bd (M : Int) (l : List Int) : Prop := ∀ x, x ∈ l → 0 ≤ x ∧ x ≤ M
def Bin (c : Int) (l : List Int) : Prop := ∀ x, x ∈ l → x = 0 ∨ x = c
theorem Bd.ev {M : Int} {l : List Int} (h : Bd M l) (hl : 0 < l.length) (i : Nat) : 0 ≤ ev l i ∧ ev l i ≤ M := h _ (ev_mem hl i)
theorem Bin.ev {M : Int} {l : List Int} (h : Bin M l) (hl : 0 < l.length) (i : Nat) : RD.ev l i = 0 ∨ RD.ev l i = M := h _ (ev_mem hl i)
theorem dst_nn (a b : Int) : 0 ≤ dst a b := Int.natCast_nonneg _
theorem dst_cases (a b : Int) : (a ≤ b ∧ dst a b = b - a) ∨ (b ≤ a ∧ dst a b = a - b) := by
  unfold dst
  omega
theorem mem_D {l : List Int} {x : Int} (h : x ∈ D l) : ∃ i, 0 < l.length ∧ x = dst (ev l i) (ev l (i + 1)) := by
  unfold D at h
  obtain ⟨i, hi, e⟩ := List.mem_map.mp h
  have := List.mem_range.mp hi
  exact ⟨i, by omega, e.symm⟩
theorem Bd.D {M : Int} {l : List Int} (h : Bd M l) : Bd M (D l) := fun x hx => by
  obtain ⟨i, hl, rfl⟩ := mem_D hx
  have h1 := h.ev hl i
  have h2 := h.ev hl (i + 1)
  rcases dst_cases (RD.ev l i) (RD.ev l (i + 1)) with ⟨_, e⟩ | ⟨_, e⟩ <;> rw [e] <;> omega
theorem Bin.D {c : Int} {l : List Int} (hc : 0 ≤ c) (h : Bin c l) : Bin c (D l) := fun x hx => by
  obtain ⟨i, hl, rfl⟩ := mem_D hx
  have h1 := h.ev hl i
  have h2 := h.ev hl (i + 1)
  rcases dst_cases (RD.ev l i) (RD.ev l (i + 1)) with ⟨_, e⟩ | ⟨_, e⟩ <;> rw [e] <;> omega
theorem Bd.itr {M : Int} {l : List Int} (h : Bd M l) (k : Nat) : Bd M (itr k l) := by
  induction k with
  | zero => exact h
  | succ k ih => exact ih.D
theorem Bin.itr {M : Int} {l : List Int} (hc : 0 ≤ M) (h : Bin M l) (k : Nat) : Bin M (itr k l) := by
  induction k with
  | zero => exact h
  | succ k ih => exact ih.D hc
/-! ### where the greatest number stays, all is 0 or it -/
theorem two_of {M a b : Int} (ha : 0 ≤ a ∧ a ≤ M) (hb : 0 ≤ b ∧ b ≤ M) (h : dst a b = M) : (a = 0 ∧ b = M) ∨ (a = M ∧ b = 0) := by
  rcases dst_cases a b with ⟨_, e⟩ | ⟨_, e⟩ <;> rw [e] at h <;> omega
theorem next_of {M a b : Int} (ha : a = 0 ∨ a = M) (hb : 0 ≤ b ∧ b ≤ M) (h : dst a b = 0 ∨ dst a b = M) : b = 0 ∨ b = M := by
  rcases dst_cases a b with ⟨_, e⟩ | ⟨_, e⟩ <;> rw [e] at h <;> omega
theorem prev_of {M a b : Int} (hb : b = 0 ∨ b = M) (ha : 0 ≤ a ∧ a ≤ M) (h : dst a b = 0 ∨ dst a b = M) : a = 0 ∨ a = M := by
  rcases dst_cases a b with ⟨_, e⟩ | ⟨_, e⟩ <;> rw [e] at h <;> omega
/-- from a row of differences of 0 and M with an M in it: the numbers themselves -/
theorem seg_back {M : Int} {f : Nat → Int} (hb : ∀ i, 0 ≤ f i ∧ f i ≤ M) {i L j : Nat} (hj : j ≤ L) (hM : dst (f (i + j)) (f (i + j + 1)) = M)
    (hs : ∀ j, j ≤ L → dst (f (i + j)) (f (i + j + 1)) = 0 ∨ dst (f (i + j)) (f (i + j + 1)) = M) :
    (∀ j, j ≤ L + 1 → f (i + j) = 0 ∨ f (i + j) = M) ∧ ∃ j, j ≤ L + 1 ∧ f (i + j) = M := by
  have h2 := two_of (hb _) (hb _) hM
  -- upward
  have up : ∀ k, j + k ≤ L + 1 → f (i + (j + k)) = 0 ∨ f (i + (j + k)) = M := by
    intro k
    induction k with
    | zero => intro _; rw [Nat.add_zero]; omega
    | succ k ih =>
      intro hk
      have ih' := ih (by omega)
      have := hs (j + k) (by omega)
      have e : i + (j + k) + 1 = i + (j + (k + 1)) := by omega
      rw [e] at this
      exact next_of ih' (hb _) this
  have down : ∀ k, k ≤ j → f (i + (j - k)) = 0 ∨ f (i + (j - k)) = M := by
    intro k
    induction k with
    | zero => intro _; simp only [Nat.sub_zero]; omega
    | succ k ih =>
      intro hk
      have ih' := ih (by omega)
      have := hs (j - (k + 1)) (by omega)
      have e : i + (j - (k + 1)) + 1 = i + (j - k) := by omega
      rw [e] at this
      exact prev_of ih' (hb _) this
  refine ⟨fun k hk => ?_, ?_⟩
  · by_cases hjk : j ≤ k
    · have := up (k - j) (by omega)
      rw [show j + (k - j) = k by omega] at this
      exact this
    · have := down (j - k) (by omega)
      rw [show j - (j - k) = k by omega] at this
      exact this
  · rcases h2 with ⟨_, h⟩ | ⟨h, _⟩
    · exact ⟨j + 1, by omega, h⟩
    · exact ⟨j, by omega, h⟩
theorem seg_all {M : Int} {l : List Int} (hl : 0 < l.length) (h : Bd M l) : ∀ (k i L : Nat), (∀ j, j ≤ L → ev (itr k l) (i + j) = 0 ∨ ev (itr k l) (i + j) = M) → (∃ j, j ≤ L ∧ ev (itr k l) (i + j) = M) →
    ∀ j, j ≤ L + k → ev l (i + j) = 0 ∨ ev l (i + j) = M
  | 0, i, L, h1, _ => h1
  | k + 1, i, L, h1, h2 => by
    have hp : 0 < (itr k l).length := by rw [itr_len]; exact hl
    obtain ⟨j, hj, e⟩ := h2
    have e1 : ∀ j, ev (itr (k + 1) l) (i + j) = dst (ev (itr k l) (i + j)) (ev (itr k l) (i + j + 1)) := fun j => ev_D _ _
    have hs : ∀ j, j ≤ L → dst (ev (itr k l) (i + j)) (ev (itr k l) (i + j + 1)) = 0 ∨ dst (ev (itr k l) (i + j)) (ev (itr k l) (i + j + 1)) = M := fun j hj => by
      rw [← e1]
      exact h1 j hj
    rw [e1] at e
    obtain ⟨g1, g2⟩ := seg_back (M := M) (f := ev (itr k l)) (fun i => (h.itr k).ev hp i) hj e hs
    have := seg_all hl h k i (L + 1) g1 g2
    intro j hj
    exact this j (by omega)
theorem falls {M : Int} {l : List Int} (hl : 0 < l.length) (h : Bd M l) (hM : 1 ≤ M) : Bin M l ∨ Bd (M - 1) (itr l.length l) := by
  by_cases hx : ∃ x, x ∈ itr l.length l ∧ x = M
  · left
    obtain ⟨x, hx, rfl⟩ := hx
    obtain ⟨i, hi, e⟩ := mem_ev hx
    have := seg_all hl h l.length i 0 (fun j hj => by right; rw [show j = 0 by omega]; exact e) ⟨0, Nat.le_refl _, e⟩
    intro y hy
    obtain ⟨m, hm, rfl⟩ := mem_ev hy
    rw [itr_len] at hi
    -- m is some i + j modulo the length
    have key : ∃ j, j ≤ 0 + l.length ∧ ev l (i + j) = ev l m := by
      by_cases hmi : i ≤ m
      · exact ⟨m - i, by omega, by rw [show i + (m - i) = m by omega]⟩
      · refine ⟨m + l.length - i, by omega, ?_⟩
        rw [show i + (m + l.length - i) = m + l.length by omega]
        unfold ev
        rw [Nat.add_mod_right]
    obtain ⟨j, hj, e2⟩ := key
    rw [← e2]
    exact this j hj
  · right
    intro x hx'
    have := (h.itr l.length) x hx'
    have hne : x ≠ M := fun e => hx ⟨x, hx', e⟩
    omega
theorem bin_in {l : List Int} (hl : 0 < l.length) : ∀ (M : Nat), Bd (M : Int) l → ∃ c : Int, 0 ≤ c ∧ c ≤ M ∧ Bin c (itr (l.length * M) l)
  | 0, h => ⟨0, Int.le_refl _, Int.le_refl _, fun x hx => by
      have := (h.itr (l.length * 0)) x hx
      omega⟩
  | M + 1, h => by
    rcases falls hl h (by omega) with hb | hb
    · exact ⟨((M + 1 : Nat) : Int), by omega, Int.le_refl _, hb.itr (by omega) _⟩
    · have hb' : Bd (M : Int) (itr l.length l) := fun x hx => by
        have := hb x hx
        omega
      obtain ⟨c, h1, h2, h3⟩ := bin_in (l := itr l.length l) (by rw [itr_len]; exact hl) M hb'
      rw [itr_len, ← itr_add] at h3
      refine ⟨c, h1, by omega, ?_⟩
      rw [show l.length * (M + 1) = l.length * M + l.length by rw [Nat.mul_add, Nat.mul_one]]
      exact h3
/-! ### so many rings of 0 and c are there -/
def code : List Int → Nat
  | [] => 0
  | x :: r => (if x = 0 then 0 else 1) + 2 * code r
theorem code_lt : ∀ l : List Int, code l < 2 ^ l.length
  | [] => by decide
  | x :: r => by
    have := code_lt r
    show (if x = 0 then 0 else 1) + 2 * code r < 2 ^ (r.length + 1)
    rw [Nat.pow_succ]
    split <;> omega
theorem code_inj {c : Int} : ∀ {l m : List Int}, Bin c l → Bin c m → l.length = m.length → code l = code m → l = m
  | [], [], _, _, _, _ => rfl
  | [], y :: r, _, _, h, _ => by cases h
  | x :: r, [], _, _, h, _ => by cases h
  | x :: r, y :: q, h1, h2, hl, e => by
    have e' : (if x = 0 then 0 else 1) + 2 * code r = (if y = 0 then 0 else 1) + 2 * code q := e
    have hx := h1 x List.mem_cons_self
    have hy := h2 y List.mem_cons_self
    have ec : code r = code q := by split at e' <;> split at e' <;> omega
    have er := code_inj (l := r) (m := q) (fun z hz => h1 z (List.mem_cons_of_mem _ hz)) (fun z hz => h2 z (List.mem_cons_of_mem _ hz)) (by simpa using hl) ec
    have exy : x = y := by split at e' <;> split at e' <;> omega
    rw [exy, er]
theorem pigeon : ∀ (B : Nat) (l : List Nat), l.Nodup → (∀ x, x ∈ l → x < B) → l.length ≤ B
  | 0, l, _, h => by
    cases l with
    | nil => exact Nat.le_refl _
    | cons x r => exact absurd (h x List.mem_cons_self) (Nat.not_lt_zero _)
  | B + 1, l, hn, h => by
    have h1 := pigeon B (l.erase B) (hn.erase B) (fun x hx => by
      have hx2 := (hn.mem_erase_iff.mp hx)
      have := h x hx2.2
      have := hx2.1
      omega)
    have h2 := List.length_erase (a := B) (l := l)
    split at h2 <;> omega
/-! ### the course -/
structure IsC (l : List Int) (N b : Nat) : Prop where
  lt : b < N
  eq : itr N l = itr b l
  ne : ∀ i j, i < j → j < N → itr i l ≠ itr j l
theorem few {l : List Int} (hl : 0 < l.length) (h12 : l.length ≤ 12) (h : Bd 200 l) {m : Nat} (ne : ∀ i j, i < j → j < m → itr i l ≠ itr j l) : m ≤ 6500 := by
  obtain ⟨c, hc0, _, hb⟩ := bin_in hl 200 h
  refine Nat.le_of_not_lt fun hm => ?_
  -- the codes of the rings from l.length * 200 on
  have hs : l.length * 200 ≤ 2400 := by omega
  let g : Nat → Nat := fun j => code (itr (l.length * 200 + j) l)
  have hg : ∀ j, g j < 4096 := fun j => by
    have := code_lt (itr (l.length * 200 + j) l)
    rw [itr_len] at this
    exact Nat.lt_of_lt_of_le this (Nat.le_trans (Nat.pow_le_pow_right (by decide) h12) (by decide))
  have hB : ∀ j, Bin c (itr (l.length * 200 + j) l) := fun j => by
    rw [Nat.add_comm, itr_add]
    exact hb.itr hc0 j
  have hnd : ((List.range 4097).map g).Nodup := by
    rw [List.Nodup, List.pairwise_map]
    have : (List.range 4097).Pairwise (· < ·) := List.pairwise_lt_range
    refine (this.imp_of_mem ?_)
    intro a b ha hb' hab e
    have hb2 := List.mem_range.mp hb'
    have := code_inj (hB a) (hB b) (by rw [itr_len, itr_len]) e
    exact ne _ _ (by omega) (by omega) this
  have := pigeon 4096 _ hnd (fun x hx => by
    obtain ⟨j, _, rfl⟩ := List.mem_map.mp hx
    exact hg j)
  rw [List.length_map, List.length_range] at this
  omega
theorem IsC.unique {l : List Int} {N b N' b' : Nat} (h : IsC l N b) (h' : IsC l N' b') : N = N' ∧ b = b' := by
  have hN : N = N' := by
    rcases Nat.lt_trichotomy N N' with q | q | q
    · exact absurd h.eq.symm (h'.ne _ _ h.lt q)
    · exact q
    · exact absurd h'.eq.symm (h.ne _ _ h'.lt q)
  subst hN
  refine ⟨rfl, ?_⟩
  have e : itr b l = itr b' l := h.eq.symm.trans h'.eq
  rcases Nat.lt_trichotomy b b' with q | q | q
  · exact absurd e (h.ne _ _ q h'.lt)
  · exact q
  · exact absurd e.symm (h.ne _ _ q h.lt)
theorem IsC.per {l : List Int} {N b : Nat} (h : IsC l N b) {k : Nat} (hk : b ≤ k) : itr (k + (N - b)) l = itr k l := by
  have e1 : k + (N - b) = (k - b) + N := by have := h.lt; omega
  have e2 : k = (k - b) + b := by omega
  rw [e1, itr_add, h.eq, ← itr_add, ← e2]
theorem IsC.pers {l : List Int} {N b : Nat} (h : IsC l N b) {k : Nat} (hk : b ≤ k) (j : Nat) : itr (k + (N - b) * j) l = itr k l := by
  induction j with
  | zero => rfl
  | succ j ih =>
    rw [Nat.mul_succ, ← Nat.add_assoc, h.per (by omega), ih]
theorem IsC.at {l : List Int} {N b : Nat} (h : IsC l N b) {k : Nat} (hk : b ≤ k) : itr (b + (k - b) % (N - b)) l = itr k l := by
  have := h.pers (k := b + (k - b) % (N - b)) (by omega) ((k - b) / (N - b))
  rw [← this]
  congr 1
  have := Nat.mod_add_div (k - b) (N - b)
  omega
end RD
namespace RL
open PySem PySem.Spec PyProof.Rows L2 Evl
/-! ### small rules beside the layer's -/
theorem tyL {K : PySem.W.Frag} {H : Hp} {a : Addr} {xs : List V} (h : SqL K H a xs) : TyX K H (.ref a) (.type "list") := by
  rcases h with (h | ⟨o, h⟩) | ⟨o, its, n, h, hc, _⟩
  · exact .base (.lst h)
  · exact .base (.frz h)
  · exact .kList h hc
theorem op_mulB {X : Cx} : OpR X (binaryOp .Mult) (rI IntMulOk fun i j => .int (i * j)) :=
  opI fun _ _ _ _ _ _ _ hc q => mul_int q hc
theorem mulOk {i j : Int} {a b : Nat} (ha : i.natAbs < 2 ^ a) (hb : j.natAbs < 2 ^ b) (h0 : 0 < a) (h1 : 0 < b) (h : a + b ≤ 100000000) : IntMulOk i j := by
  have x := PySem.Flt.log2_lt_of h0 ha
  have y := PySem.Flt.log2_lt_of h1 hb
  have bb : ∀ z : Int, Builtin.Int.intBits z ≤ z.natAbs.log2 + 1 := fun z => by
    unfold Builtin.Int.intBits
    split <;> omega
  have g1 := bb i
  have g2 := bb j
  have e : bitsLine = 134217728 := by decide
  unfold IntMulOk
  intro z
  rw [Bool.and_eq_true] at z
  have z2 := z.2
  unfold Builtin.Int.intTooBig at z2
  have z3 := of_decide_eq_true z2
  rw [e] at z3
  omega
theorem natAbs_of_bits {z : Int} {n : Nat} (h : Builtin.Int.intBits z ≤ n) : z.natAbs < 2 ^ n := by
  unfold Builtin.Int.intBits at h
  split at h
  · rename_i q
    have q0 : z = 0 := by
      first
        | exact q
        | (simpa using q)
    rw [q0]
    exact Nat.pow_pos (by decide)
  · rename_i q
    have q0 : z ≠ 0 := by
      first
        | exact q
        | (simpa using q)
    exact Nat.lt_of_lt_of_le (Nat.lt_log2_self) (Nat.pow_le_pow_right (by decide) h)
/-! ### data: lists of whole numbers -/
theorem dpAll_ints {K : PySem.W.Frag} {H : Hp} : ∀ ns : List Int, DpAll K H (ns.map V.int) (ns.map PyData.int)
  | [] => .nil
  | n :: r => .cons (.int n) (dpAll_ints r)
theorem dp_ints {K : PySem.W.Frag} {H : Hp} {a : Addr} {ns : List Int} (h : SqL K H a (ns.map V.int)) : Dp K H (.ref a) (.list (ns.map PyData.int)) := .lst h (dpAll_ints ns)
theorem eqvAll_ints : ∀ ns ms : List Int, PyData.eqvAll (ns.map PyData.int) (ms.map PyData.int) = decide (ns = ms)
  | [], [] => by simp [PyData.eqvAll]
  | [], m :: r => by simp [PyData.eqvAll]
  | n :: r, [] => by simp [PyData.eqvAll]
  | n :: r, m :: q => by
    rw [List.map_cons, List.map_cons, PyData.eqvAll, eqvAll_ints r q]
    by_cases h : n = m
    · by_cases h2 : r = q <;> simp [PyData.eqv, h, h2]
    · simp [PyData.eqv, h]
theorem eqv_ints (ns ms : List Int) : PyData.eqv (.list (ns.map PyData.int)) (.list (ms.map PyData.int)) = decide (ns = ms) := by
  rw [PyData.eqv, eqvAll_ints]
theorem canAll_ints : ∀ ns : List Int, PyData.canLayAll0 (ns.map PyData.int) = true
  | [] => by rw [List.map_nil, PyData.canLayAll0]
  | n :: r => by rw [List.map_cons, PyData.canLayAll0, canAll_ints r, PyData.canLay0]; rfl
theorem deepAll_ints : ∀ ns : List Int, PyData.depthAll (ns.map PyData.int) = 0
  | [] => by rw [List.map_nil, PyData.depthAll]
  | n :: r => by rw [List.map_cons, PyData.depthAll, deepAll_ints r, PyData.depth]; rfl
theorem shaped_ints (ns : List Int) : SeqAt.shaped (.list (ns.map PyData.int)) = true := by
  unfold SeqAt.shaped
  rw [PyData.canLay0, PyData.depth, canAll_ints, deepAll_ints]
  rfl
/-! ### a comprehension over a zip of two lists of one length -/
theorem lc_zip {K : PySem.W.Frag} {a b : Addr} {xs ys : List V} {g : TG} {tt : TT} {te : TE} {vs : List Nat} {σ : L2.St} {H1 : Hp} {D : Addr} {Qd : Hp → Prop} (hl : xs.length = ys.length) (Pv : Nat → Hp → Prop) (h0 : Pv 0 (upd H1 D (.lst [])))
    (hq : ∀ i H, i ≤ xs.length → Pv i H → SqL K H a xs ∧ SqL K H b ys)
    (hs : ∀ i x y T H, xs[i]? = some x → ys[i]? = some y → Pv i H → H T = none → g (.ref T) (wipe σ vs) (upd H T (.tup [x, y])) fun σ2 H2 => wipe σ2 vs = wipe σ vs ∧ tt σ2 H2 fun b H3 =>
      if b = true then te σ2 H3 fun y H4 => ∃ acc, H4 D = some (.lst acc) ∧ acc.length < sizeLine ∧ Pv (i + 1) (upd H4 D (.lst (acc ++ [y]))) else Pv (i + 1) H3) (hd : ∀ H, Pv xs.length H → Qd H) :
    ∃ W : Nat → Nat → Hp → Prop, (∃ m, W 0 m (upd H1 D (.lst []))) ∧ ∀ i m H, W i m H →
      ((Itz K a b).stop i H ∧ Qd H) ∨ ((Itz K a b).go i H ∧ ∃ Nx : Hp → Prop, (∀ H', Nx H' → ∃ m', m' < m ∧ W (i + 1) m' H') ∧ ∀ x H', (Itz K a b).yld i H x H' → g x (wipe σ vs) H' fun σ2 H2 => wipe σ2 vs = wipe σ vs ∧ tt σ2 H2 fun b H3 =>
        if b = true then te σ2 H3 fun y H4 => ∃ acc, H4 D = some (.lst acc) ∧ acc.length < sizeLine ∧ Nx (upd H4 D (.lst (acc ++ [y]))) else Nx H3) := by
  refine ⟨fun i m H => m = xs.length - i ∧ i ≤ xs.length ∧ Pv i H, ⟨xs.length, rfl, Nat.zero_le _, h0⟩, ?_⟩
  rintro i m H ⟨rfl, hi, p⟩
  obtain ⟨q1, q2⟩ := hq i H hi p
  by_cases hlt : i < xs.length
  · have gx := List.getElem?_eq_getElem hlt
    have gy := List.getElem?_eq_getElem (hl ▸ hlt)
    refine .inr ⟨⟨xs, ys, _, _, q1, q2, gx, gy⟩, Pv (i + 1), fun H' p' => ⟨xs.length - (i + 1), by omega, rfl, hlt, p'⟩, fun v H' hy => ?_⟩
    obtain ⟨T, x, y, rfl, nT, rfl, fx, fy⟩ := hy
    exact hs i x y T H (fx xs q1) (fy ys q2) p nT
  · exact .inl ⟨⟨xs, ys, q1, q2, .inl (by omega)⟩, hd H (by rw [show xs.length = i by omega]; exact p)⟩
theorem tyes {σ : L2.St} {H : Hp} {A B : Hp → Prop} (h : A H) : tYes σ H (fun b H3 => if b = true then A H3 else B H3) := by
  show (if true = true then A H else B H)
  rw [if_pos rfl]
  exact h
/-! ### heaps -/
theorem fresh_ne {H : Hp} {p q : Addr} {o : HO} (h : H q = none) (hp : H p = some o) : p ≠ q := ne_of_none hp h
theorem upd_fresh {H : Hp} {p q : Addr} {o : HO} (h : upd H p o q = none) : H q = none ∧ q ≠ p := by
  by_cases e : q = p
  · rw [e, upd_same] at h
    cases h
  · rw [upd_ne e] at h
    exact ⟨h, e⟩
theorem map_get {α β : Type} {l : List α} {f : α → β} {i : Nat} {y : β} (h : (l.map f)[i]? = some y) : ∃ x, l[i]? = some x ∧ y = f x := by
  rw [List.getElem?_map] at h
  cases e : l[i]? with
  | none => rw [e] at h; cases h
  | some x =>
    rw [e] at h
    exact ⟨x, rfl, (Option.some.inj h).symm⟩
theorem get_lt {α : Type} {l : List α} {i : Nat} {x : α} (h : l[i]? = some x) : i < l.length := (List.getElem?_eq_some_iff.mp h).1
/-- all/any over a comprehension's truths, the same for all items -/
theorem lc_each {K : PySem.W.Frag} {a : Addr} {xs : List V} {j : Nat} {te : TE} {vs : List Nat} {σ : L2.St} {H1 : Hp} {D : Addr} {Qd : Hp → Prop} (f : Nat → V) (hx : SqL K H1 a xs) (hD : H1 D = none) (hz : xs.length ≤ 40000)
    (hw : ∀ x, wipe ((wipe σ vs).set j (some x)) vs = wipe σ vs) (he : ∀ i x H, Ex H1 H → xs[i]? = some x → Ev te ((wipe σ vs).set j (some x)) H (f i))
    (hd : ∀ H, Ex H1 H → H D = some (.lst ((List.range xs.length).map f)) → Qd H) :
    ∃ W : Nat → Nat → Hp → Prop, (∃ m, W 0 m (upd H1 D (.lst []))) ∧ ∀ i m H, W i m H →
      ((Itl K a).stop i H ∧ Qd H) ∨ ((Itl K a).go i H ∧ ∃ Nx : Hp → Prop, (∀ H', Nx H' → ∃ m', m' < m ∧ W (i + 1) m' H') ∧ ∀ x H', (Itl K a).yld i H x H' → gName j x (wipe σ vs) H' fun σ2 H2 => wipe σ2 vs = wipe σ vs ∧ tYes σ2 H2 fun b H3 =>
        if b = true then te σ2 H3 fun y H4 => ∃ acc, H4 D = some (.lst acc) ∧ acc.length < sizeLine ∧ Nx (upd H4 D (.lst (acc ++ [y]))) else Nx H3) := by
  refine lc_list (xs := xs) (fun i H => Ex H1 H ∧ H D = some (.lst ((List.range i).map f))) ⟨Ex.new hD, upd_same⟩ (fun i H _ p => ex_l p.1 hx) (fun i x H hi p => ?_) (fun H p => hd H p.1 p.2)
  refine ⟨hw x, ?_⟩
  show te _ H _
  refine he i x H p.1 hi H (Ex.refl _) _ fun H2 e2 => ⟨_, e2 _ _ p.2, ?_, ?_, ?_⟩
  · have := get_lt hi
    rw [List.length_map, List.length_range]
    exact sz_lt (by omega)
  · exact Ex.mut (p.1.trans e2) hD
  · rw [upd_same, List.range_succ, List.map_append]
    rfl
theorem all_range {n : Nat} {f : Nat → Bool} (h : ∀ i, i < n → f i = true) : (((List.range n).map f).all id) = true := by
  rw [List.all_eq_true]
  intro b hb
  obtain ⟨i, hi, rfl⟩ := List.mem_map.mp hb
  exact h i (List.mem_range.mp hi)
theorem any_range {n : Nat} {f : Nat → Bool} (h : ∀ i, i < n → f i = false) : (((List.range n).map f).any id) = false := by
  rw [List.any_eq_false]
  intro b hb
  obtain ⟨i, hi, rfl⟩ := List.mem_map.mp hb
  rw [h i (List.mem_range.mp hi)]
  decide
/-! ### what evaluates to what, some more -/
theorem tyX_ex {K : PySem.W.Frag} {H H' : Hp} {x : V} {t : Value} (e : Ex H H') (h : TyX K H x t) : TyX K H' x t := by
  cases h with
  | base b =>
    refine .base ?_
    cases b with
    | non => exact .non
    | bl y => exact .bl y
    | int i => exact .int i
    | str y => exact .str y
    | flt y => exact .flt y
    | lst q => exact .lst (e _ _ q)
    | frz q => exact .frz (e _ _ q)
    | tup q => exact .tup (e _ _ q)
    | dK q => exact .dK (e _ _ q)
    | dT q => exact .dT (e _ _ q)
    | ins q a1 a2 a3 a4 a5 => exact .ins (e _ _ q) a1 a2 a3 a4 a5
  | byt y => exact .byt y
  | set q => exact .set (e _ _ q)
  | kList q c => exact .kList q c
  | kTuple q c => exact .kTuple q c
  | kDict q c => exact .kDict q c
  | fTuple q => exact .fTuple (e _ _ q)
  | fDict q => exact .fDict (e _ _ q)
section
variable {K : PySem.W.Frag} {σ : L2.St} {H H' : Hp} {ta tb tc te tl : TE} {t u : TT} {x y z v : V} {r r' : R2}
theorem ev_isi {ty cv : Value} {c : V} {b : Bool} (ha : Ev ta σ H x) (hx : TyX K H x ty) (hc : ClsV c cv) (hk : PySem.W.kitOne K ty cv = some b) :
    Ev (tCB (rIsi K) (tCons ta (tCons (tC c) tNil))) σ H (.bl b) := fun H1 e Q q =>
  ha H1 e _ fun H2 e2 => ⟨x, c, ty, cv, b, rfl, hc, tyX_ex (e.trans e2) hx, hk, q H2 e2⟩
theorem ev_isiL {xs : List V} {cv : Value} {c : V} {b : Bool} (ha : EvL ta σ H xs) (hc : ClsV c cv) (hk : PySem.W.kitOne K (.type "list") cv = some b) :
    Ev (tCB (rIsi K) (tCons ta (tCons (tC c) tNil))) σ H (.bl b) := fun H1 e Q q =>
  ha H1 e _ fun p H2 _ e2 h2 => ⟨_, c, _, cv, b, rfl, hc, .base (.lst h2), hk, q H2 e2⟩
theorem ev_chain {k k' : Bool} (ha : Ev ta σ H x) (hb : Ev tb σ H y) (hr : RV r x y H (.bl k)) (hc : Ev tc σ H z) (hr' : RV r' y z H (.bl k')) : Ev (tChain r r' ta tb tc) σ H (.bl (k && k')) := fun H1 e Q q =>
  ha H1 e _ fun H2 e2 => hb H2 (e.trans e2) _ fun H3 e3 => hr H3 ((e.trans e2).trans e3) _ fun H4 e4 => ⟨k, rfl, by
    cases k with
    | true =>
      show tc σ H4 _
      exact hc H4 (((e.trans e2).trans e3).trans e4) _ fun H5 e5 => hr' H5 ((((e.trans e2).trans e3).trans e4).trans e5) _ fun H6 e6 => q H6 ((((e2.trans e3).trans e4).trans e5).trans e6)
    | false =>
      show Q (.bl false) H4
      exact q H4 ((e2.trans e3).trans e4)⟩
theorem ev_allN {bs : List Bool} (ha : EvL ta σ H (bs.map V.bl)) : Ev (tCB (rAll K) (tCons ta tNil)) σ H (.bl (bs.all id)) := fun H1 e Q q =>
  ha H1 e _ fun p H2 _ e2 h2 => ⟨p, bs, rfl, sq_of h2, q H2 e2⟩
theorem ev_anyN {bs : List Bool} (ha : EvL ta σ H (bs.map V.bl)) : Ev (tCB (rAny K) (tCons ta tNil)) σ H (.bl (bs.any id)) := fun H1 e Q q =>
  ha H1 e _ fun p H2 _ e2 h2 => ⟨p, bs, rfl, sq_of h2, q H2 e2⟩
theorem el_each {a : Addr} {xs : List V} {j : Nat} {vs : List Nat} (f : Nat → V) (h : Ev tl σ H (.ref a)) (hx : SqL K H a xs) (hz : xs.length ≤ 40000)
    (hw : ∀ x, wipe ((wipe σ vs).set j (some x)) vs = wipe σ vs) (he : ∀ (i : Nat) x H1, Ex H H1 → xs[i]? = some x → Ev te ((wipe σ vs).set j (some x)) H1 (f i)) :
    EvL (tLc (iList K tl) (gName j) tYes te vs) σ H ((List.range xs.length).map f) := fun H0 e Q q => h H0 e _ fun H1 e1 => ⟨a, rfl, ⟨xs, ex_l (e.trans e1) hx⟩, fun Dl hD =>
  lc_each f (ex_l (e.trans e1) hx) hD hz hw (fun i x H2 e2 hi => he i x H2 ((e.trans e1).trans e2) hi) fun H2 e2 h2 => q Dl H2 (fresh_back e1 hD) (e1.trans e2) h2⟩
/-- all of truths over a list's items -/
theorem ev_allEach {a : Addr} {xs : List V} {j : Nat} {vs : List Nat} (h : Ev tl σ H (.ref a)) (hx : SqL K H a xs) (hz : xs.length ≤ 40000)
    (hw : ∀ x, wipe ((wipe σ vs).set j (some x)) vs = wipe σ vs) (he : ∀ (i : Nat) x H1, Ex H H1 → xs[i]? = some x → Ev te ((wipe σ vs).set j (some x)) H1 (.bl true)) :
    Ev (tCB (rAll K) (tCons (tLc (iList K tl) (gName j) tYes te vs) tNil)) σ H (.bl true) := by
  have h1 : EvL (tLc (iList K tl) (gName j) tYes te vs) σ H (((List.range xs.length).map fun _ => true).map V.bl) := by
    rw [List.map_map]
    exact el_each (fun _ => V.bl true) h hx hz hw he
  have h2 := ev_allN (K := K) h1
  rw [all_range fun _ _ => rfl] at h2
  exact h2
theorem ev_anyEach {a : Addr} {xs : List V} {j : Nat} {vs : List Nat} (h : Ev tl σ H (.ref a)) (hx : SqL K H a xs) (hz : xs.length ≤ 40000)
    (hw : ∀ x, wipe ((wipe σ vs).set j (some x)) vs = wipe σ vs) (he : ∀ (i : Nat) x H1, Ex H H1 → xs[i]? = some x → Ev te ((wipe σ vs).set j (some x)) H1 (.bl false)) :
    Ev (tCB (rAny K) (tCons (tLc (iList K tl) (gName j) tYes te vs) tNil)) σ H (.bl false) := by
  have h1 : EvL (tLc (iList K tl) (gName j) tYes te vs) σ H (((List.range xs.length).map fun _ => false).map V.bl) := by
    rw [List.map_map]
    exact el_each (fun _ => V.bl false) h hx hz hw he
  have h2 := ev_anyN (K := K) h1
  rw [any_range fun _ _ => rfl] at h2
  exact h2
end
/-- a ring as it is due -/
structure Ring (ns : List Int) : Prop where
  pos : 1 ≤ ns.length
  few : ns.length ≤ 12
  bd : RD.Bd 200 ns
theorem Ring.D {ns : List Int} (h : Ring ns) : Ring (RD.D ns) := ⟨by rw [RD.D_len]; exact h.pos, by rw [RD.D_len]; exact h.few, h.bd.D⟩
theorem Ring.itr {ns : List Int} (h : Ring ns) (k : Nat) : Ring (RD.itr k ns) := ⟨by rw [RD.itr_len]; exact h.pos, by rw [RD.itr_len]; exact h.few, h.bd.itr k⟩
section
variable {K : PySem.W.Frag} {σ : L2.St} {H H' : Hp} {ta tb tc te tl : TE} {t u : TT} {x y z v : V} {r r' : R2}
theorem ev_ixU {xs : List V} {i : Int} (ha : EvU ta σ H xs) (hb : Ev tb σ H (.int i)) (hv : atI xs i = some v) : Ev (tOp (rIxT K) ta tb) σ H v := fun H1 e Q q =>
  ha H1 e _ fun p H2 _ e2 hp => hb H2 (e.trans e2) _ fun H3 e3 => ⟨p, xs, i, v, rfl, rfl, st_of (e3 _ _ hp), hv, q H3 (e2.trans e3)⟩
theorem ev_ixL {p : Addr} {xs : List V} {i : Int} (ha : Ev ta σ H (.ref p)) (hb : Ev tb σ H (.int i)) (hx : SqL K H p xs) (hv : atI xs i = some v) : Ev (tOp (rIxL K) ta tb) σ H v :=
  ev_op ha hb (rv_ixL hx hv)
theorem ev_sum {p : Addr} {ns : List Int} (ha : Ev ta σ H (.ref p)) (hx : SqL K H p (ns.map V.int)) : Ev (tCB (rSum K) (tCons ta tNil)) σ H (.int ns.sum) := fun H1 e Q q =>
  ha H1 e _ fun H2 e2 => ⟨p, ns, rfl, ex_l (e.trans e2) hx, q H2 e2⟩
def rAbs : List V → Hp → VK → Prop := fun xs H Q => ∃ i, xs = [.int i] ∧ Q (.int (if i < 0 then -i else i)) H
theorem ev_abs {i : Int} (ha : Ev ta σ H (.int i)) : Ev (tCB rAbs (tCons ta tNil)) σ H (.int (if i < 0 then -i else i)) := fun H1 e Q q =>
  ha H1 e _ fun H2 e2 => ⟨i, rfl, q H2 e2⟩
end
def rTupS (K : PySem.W.Frag) : List V → Hp → VK → Prop := fun xs H Q => ∃ p ys, xs = [.ref p] ∧ ((SqL K H p ys ∧ ∀ l, H l = none → Q (.ref l) (upd H l (.tup ys))) ∨ (SqT K H p ys ∧ Q (.ref p) H))
theorem at_mem {l : List Int} {j : Int} (h0 : 0 ≤ j) (h1 : j < (l.length : Int)) : ∃ x, x ∈ l ∧ atI (l.map V.int) j = some (.int x) := by
  have hj : j.toNat < l.length := by omega
  refine ⟨l[j.toNat], List.getElem_mem hj, ?_⟩
  refine at_of (j := j.toNat) (by omega) ?_
  rw [List.getElem?_map, List.getElem?_eq_getElem hj]
  rfl
theorem at_int {l : List Int} {i : Nat} {n : Int} (h : l[i]? = some n) : atI (l.map V.int) (i : Int) = some (.int n) := by
  refine atI_nat ?_
  rw [List.getElem?_map, h]
  rfl
/-- all numbers have few bits -/
def Few (ns : List Int) : Prop := ∃ e : Nat, 0 < e ∧ e ≤ 1048576 ∧ ∀ z, z ∈ ns → z.natAbs < 2 ^ e
theorem few_of {ns : List Int} (h : ∀ z ∈ ns, Builtin.Int.intBits z ≤ 1048576) : Few ns := ⟨1048576, by decide, Nat.le_refl _, fun z hz => natAbs_of_bits (h z hz)⟩
def top (i : Nat) : Stmt := PySem.Challenge.pw_ringdiffer_k01_step.main.body.getD i (.Pass ⟨0, 0, 0, 0⟩)
abbrev s_is_whole : Stmt := top 6
theorem sc_is_whole : FnScope ["thing"] ["thing"] (defScope s_is_whole) :=
  ⟨rfl, rfl, rfl, by decide +kernel, rfl, by decide +kernel, by decide +kernel⟩
abbrev s_asked_ring : Stmt := top 7
theorem sc_asked_ring : FnScope ["ring", "one"] ["ring"] (defScope s_asked_ring) :=
  ⟨rfl, rfl, rfl, by decide +kernel, rfl, by decide +kernel, by decide +kernel⟩
abbrev s_stepped : Stmt := top 8
theorem sc_stepped : FnScope ["ring", "one", "other"] ["ring"] (defScope s_stepped) :=
  ⟨rfl, rfl, rfl, by decide +kernel, rfl, by decide +kernel, by decide +kernel⟩
abbrev s_step : Stmt := top 9
theorem sc_step : FnScope ["ring"] ["ring"] (defScope s_step) :=
  ⟨rfl, rfl, rfl, by decide +kernel, rfl, by decide +kernel, by decide +kernel⟩
abbrev s_w_number : Stmt := top 11
theorem sc_w_number : FnScope ["_law_cell", "_law_at", "_law_whole", "_law_mixed", "_law_more"] ["_law_cell", "_law_at", "_law_whole"] (defScope s_w_number) :=
  ⟨rfl, rfl, rfl, by decide +kernel, rfl, by decide +kernel, by decide +kernel⟩
abbrev s_w_ring : Stmt := top 12
theorem sc_w_ring : FnScope ["_law_script", "_law_by", "_law_cells", "_law_whole", "_law_many", "_law_wide", "_law_found", "_law_at", "_law_number_here"] ["_law_script", "_law_by"] (defScope s_w_ring) :=
  ⟨rfl, rfl, rfl, by decide +kernel, rfl, by decide +kernel, by decide +kernel⟩
abbrev s_w_step : Stmt := top 13
theorem sc_w_step : FnScope ["_law_ring_here", "_law_found", "_law_at", "_law_far"] ["_law_ring_here"] (defScope s_w_step) :=
  ⟨rfl, rfl, rfl, by decide +kernel, rfl, by decide +kernel, by decide +kernel⟩
abbrev s_law : Stmt := top 14
theorem sc_law : FnScope ["_law_script", "_law_by", "_law_ring_here", "_law_handed", "_law_again", "_law_found", "_law_one"] ["_law_script"] (defScope s_law) :=
  ⟨rfl, rfl, rfl, by decide +kernel, rfl, by decide +kernel, by decide +kernel⟩
structure Txt (K : PySem.W.Frag) (mg : Str → Option Value) where
  n_abs : mg "abs" = none
  n_all : mg "all" = none
  n_any : mg "any" = none
  n_bool : mg "bool" = none
  n_int : mg "int" = none
  n_isinstance : mg "isinstance" = none
  n_len : mg "len" = none
  n_list : mg "list" = none
  n_range : mg "range" = none
  n_sum : mg "sum" = none
  n_zip : mg "zip" = none
  t_LONGEST : Tok
  m_LONGEST : mg "LONGEST" = some (.int 12 t_LONGEST)
  t_GREATEST : Tok
  m_GREATEST : mg "GREATEST" = some (.int 200 t_GREATEST)
  C_RingError : Addr
  m_RingError : mg "RingError" = some (.ref C_RingError)
  C_BadRing : Addr
  m_BadRing : mg "BadRing" = some (.ref C_BadRing)
  f_is_whole : Addr
  fd_is_whole : FuncData
  F_is_whole : Fun K "is_whole" "is_whole" s_is_whole f_is_whole fd_is_whole
  b_is_whole : Binds K fd_is_whole ["thing"] []
  g_is_whole : mg "is_whole" = some (.ref f_is_whole)
  f_asked_ring : Addr
  fd_asked_ring : FuncData
  F_asked_ring : Fun K "asked_ring" "asked_ring" s_asked_ring f_asked_ring fd_asked_ring
  b_asked_ring : Binds K fd_asked_ring ["ring"] []
  g_asked_ring : mg "asked_ring" = some (.ref f_asked_ring)
  f_stepped : Addr
  fd_stepped : FuncData
  F_stepped : Fun K "stepped" "stepped" s_stepped f_stepped fd_stepped
  b_stepped : Binds K fd_stepped ["ring"] []
  g_stepped : mg "stepped" = some (.ref f_stepped)
  f_step : Addr
  fd_step : FuncData
  F_step : Fun K "step" "step" s_step f_step fd_step
  b_step : Binds K fd_step ["ring"] []
  g_step : mg "step" = some (.ref f_step)
  f_w_number : Addr
  fd_w_number : FuncData
  F_w_number : Fun K "_law_number" "_law_number" s_w_number f_w_number fd_w_number
  b_w_number : Binds K fd_w_number ["_law_cell", "_law_at", "_law_whole"] []
  g_w_number : mg "_law_number" = some (.ref f_w_number)
  f_w_ring : Addr
  fd_w_ring : FuncData
  F_w_ring : Fun K "_law_ring" "_law_ring" s_w_ring f_w_ring fd_w_ring
  b_w_ring : Binds K fd_w_ring ["_law_script", "_law_by"] []
  g_w_ring : mg "_law_ring" = some (.ref f_w_ring)
  f_w_step : Addr
  fd_w_step : FuncData
  F_w_step : Fun K "_law_step" "_law_step" s_w_step f_w_step fd_w_step
  b_w_step : Binds K fd_w_step ["_law_ring_here"] []
  g_w_step : mg "_law_step" = some (.ref f_w_step)
  f_law : Addr
  fd_law : FuncData
  F_law : Fun K "law" "law" s_law f_law fd_law
  b_law : Binds K fd_law ["_law_script"] []
  g_law : mg "law" = some (.ref f_law)
section
variable {P : Program} {w : World} {K : PySem.W.Frag} {mg : Str → Option Value} {base : Heap}
/-! ### is_whole, asked_ring, stepped, step (where nothing is refused) -/
def spWhole (K : PySem.W.Frag) : Sp := fun vs H Q _ => ∃ (v : V) (t : Value) (b1 b2 : Bool), vs = [v] ∧ TyX K H v t ∧ PySem.W.kitOne K t (.type "int") = some b1 ∧ PySem.W.kitOne K t (.type "bool") = some b2 ∧ Q (.bl (b1 && !b2)) H
theorem ok_is_whole (T : Txt K mg) : FnOk P w K mg base CX0 1 T.f_is_whole T.fd_is_whole ["thing"] (spWhole K) := by
  refine T.F_is_whole.ok sc_is_whole (fun vs H Q E h => ?_) (fun cdv A outer s H vs Q E hr h => ?_)
  · obtain ⟨v, t, b1, b2, rfl, _⟩ := h
    rfl
  · obtain ⟨v, t, b1, b2, rfl, ty, k1, k2, q⟩ := h
    refine ⟨_, (pss_one (ps_ret (pe_and (pe_callB (r := rIsi K) call_isi (by rfl) T.n_isinstance (by decide +kernel) (pa_cons (pv 0) (pa_cons (pe_bltn (v := .ty "int") (by rfl) T.n_int (by decide +kernel) rfl) pa_nil))) (pe_one (pe_not (pe_callB (r := rIsi K) call_isi (by rfl) T.n_isinstance (by decide +kernel) (pa_cons (pv 0) (pa_cons (pe_bltn (v := .ty "bool") (by rfl) T.n_bool (by decide +kernel) rfl) pa_nil)))))))), ?_⟩
    refine ⟨v, rfl, v, .ty "int", t, _, b1, rfl, .ty _, ty, k1, b1, rfl, ?_⟩
    cases b1 with
    | true => exact ⟨v, rfl, v, .ty "bool", t, _, b2, rfl, .ty _, ty, k2, b2, rfl, q⟩
    | false => exact q
theorem whole_int {K : PySem.W.Frag} {H : Hp} {i : Int} {Q : VK} {E : XK} (q : Q (.bl true) H) : spWhole K [.int i] H Q E :=
  ⟨.int i, .type "int", true, false, rfl, .base (.int i), kit_ty (by decide +kernel), kit_ty (by decide +kernel), q⟩
def spAsked (K : PySem.W.Frag) : Sp := fun vs H Q _ => ∃ (a : Addr) (ns : List Int), vs = [.ref a] ∧ SqL K H a (ns.map V.int) ∧ Ring ns ∧ RetV .non H Q
theorem ok_asked_ring (T : Txt K mg) : FnOk P w K mg base CX0 2 T.f_asked_ring T.fd_asked_ring ["ring"] (spAsked K) := by
  refine T.F_asked_ring.ok sc_asked_ring (fun vs H Q E h => ?_) (fun cdv A outer s H vs Q E hr h => ?_)
  · obtain ⟨a, ns, rfl, _⟩ := h
    rfl
  · obtain ⟨a, ns, rfl, hS, hR, q⟩ := h
    refine ⟨_, (pss_cons (ps_if (PW.pt (pw_or (pt_not (pt_val (pe_callB (r := rIsi K) call_isi (by rfl) T.n_isinstance (by decide +kernel) (pa_cons (pv 0) (pa_cons (pe_bltn (v := .ty "list") (by rfl) T.n_list (by decide +kernel) rfl) pa_nil))))) (pw_or (pt_not (pt_chain op_le op_le pe_int (pe_callB (r := rLenS K) call_len_seq (by rfl) T.n_len (by decide +kernel) (pa_cons (pv 0) pa_nil)) (pe_glob (v := .int 12) rfl T.m_LONGEST ⟨_, rfl⟩))) (pw_or1 (pt_not (pt_val (pe_callB (r := rAll K) (cr_all rfl) (by rfl) T.n_all (by decide +kernel) (pa_cons (pe_lc (own := [("one", 1)]) (g := (gName 1)) (tt := tYes) (by rfl) sc_asked_ring.nd (pi_list (pv 0)) (blkOk_by (own := [("one", 1)]) (N := ["ring", "one"]) (sc := defScope s_asked_ring) (by decide +kernel)) (fun _ _ _ _ _ => (pg_name (i := 1) sc_asked_ring.nd rfl (Or.inl rfl))) (fun _ _ _ _ _ => pts_nil) (fun _ _ _ _ _ => (pe_call (ok_is_whole T) (hr.mono (by decide)) (by rfl) T.g_is_whole T.F_is_whole.kp T.b_is_whole .nil pass0 (pa_cons (pv 1) pa_nil)))) pa_nil))))))))
        (pss_one ps_never)
        pss_nil)
      (pss_one (ps_if (pt_not (pt_val (pe_callB (r := rAll K) (cr_all rfl) (by rfl) T.n_all (by decide +kernel) (pa_cons (pe_lc (own := [("one", 1)]) (g := (gName 1)) (tt := tYes) (by rfl) sc_asked_ring.nd (pi_list (pv 0)) (blkOk_by (own := [("one", 1)]) (N := ["ring", "one"]) (sc := defScope s_asked_ring) (by decide +kernel)) (fun _ _ _ _ _ => (pg_name (i := 1) sc_asked_ring.nd rfl (Or.inl rfl))) (fun _ _ _ _ _ => pts_nil) (fun _ _ _ _ _ => (pe_chain op_le op_le pe_int (pv 1) (pe_glob (v := .int 200) rfl T.m_GREATEST ⟨_, rfl⟩)))) pa_nil))))
        (pss_one ps_never)
        pss_nil))), ?_⟩
    have hl : (ns.map V.int).length ≤ 40000 := by rw [List.length_map]; have := hR.few; omega
    refine q_when (b := false) (et_is (et_or (a := false) (b := false) (et_is (et_not (et_B (ev_isi (b := true) (ev_var rfl) (tyL hS) (.ty _) (kit_ty (by decide +kernel))))) rfl) fun _ =>
      et_or (a := false) (b := false) (et_is (et_not (et_test (ev_chain (k := true) (k' := true) ev_c (ev_len (ev_var rfl) hS) ?h1 ev_c ?h2))) rfl) fun _ =>
      et_is (et_not (et_B (ev_allEach (ev_var rfl) hS hl (fun _ => rfl) ?h3))) rfl) rfl) (fun z => nomatch z) fun _ H1 e1 => ?_
    case h1 =>
      have := hR.pos
      have e : decide ((1 : Int) ≤ ((ns.map V.int).length : Int)) = true := decide_eq_true (by rw [List.length_map]; omega)
      rw [← e]
      exact rv_I0
    case h2 =>
      have := hR.few
      have e : decide (((ns.map V.int).length : Int) ≤ (12 : Int)) = true := decide_eq_true (by rw [List.length_map]; omega)
      rw [← e]
      exact rv_I0
    case h3 =>
      intro i x H1 _ hi
      obtain ⟨n, _, rfl⟩ := map_get hi
      intro H2 _ Q' q'
      exact ⟨.int n, rfl, whole_int (E := E0) (q' H2 (Ex.refl _))⟩
    refine s_when (b := false) (et_is (et_not (et_B (ev_allEach (ev_var rfl) (ex_l e1 hS) hl (fun _ => rfl) ?h4))) rfl) (fun z => nomatch z) fun _ H2 e2 => q H2 (e1.trans e2)
    case h4 =>
      intro i x H1 _ hi
      obtain ⟨n, hn, rfl⟩ := map_get hi
      have hb := hR.bd n (List.mem_of_getElem? hn)
      have g1 : decide ((0 : Int) ≤ n) = true := decide_eq_true hb.1
      have g2 : decide (n ≤ (200 : Int)) = true := decide_eq_true hb.2
      refine ev_is (ev_chain (k := true) (k' := true) ev_c (ev_var rfl) ?_ ev_c ?_) rfl
      · rw [← g1]
        exact rv_I0
      · rw [← g2]
        exact rv_I0
def spStepped (K : PySem.W.Frag) : Sp := fun vs H Q _ => ∃ (a : Addr) (ns : List Int), vs = [.ref a] ∧ SqL K H a (ns.map V.int) ∧ 1 ≤ ns.length ∧ ns.length ≤ 1000 ∧ RetL ((RD.D ns).map V.int) H Q
theorem cut_lo (xs : List V) (h : 1 ≤ xs.length) : cutV xs (some 1) none = xs.drop 1 := by
  unfold cutV
  rw [show HT.sIx xs.length 0 (some 1) = min 1 xs.length from HT.sIx_nat xs.length 0 1, HT.sIx_none, show min 1 xs.length = 1 by omega, List.take_of_length_le (by rw [List.length_drop]; omega)]
theorem cut_hi (xs : List V) (k : Nat) : cutV xs none (some (k : Int)) = xs.take k := by
  unfold cutV
  rw [HT.sIx_none, HT.sIx_nat, List.drop_zero, Nat.sub_zero]
  by_cases hk : k ≤ xs.length
  · rw [Nat.min_eq_left hk]
  · rw [Nat.min_eq_right (by omega), List.take_of_length_le (Nat.le_refl _), List.take_of_length_le (by omega)]
theorem next_get {ns : List Int} {i : Nat} (hi : i < ns.length) : (ns.drop 1 ++ ns.take 1)[i]? = some (RD.ev ns (i + 1)) := by
  by_cases h : i + 1 < ns.length
  · rw [List.getElem?_append_left (by rw [List.length_drop]; omega), List.getElem?_drop, Nat.add_comm 1 i]
    exact RD.ev_lt h
  · have e : i + 1 = ns.length := by omega
    rw [List.getElem?_append_right (by rw [List.length_drop]; omega), List.length_drop, show i - (ns.length - 1) = 0 by omega, List.getElem?_take, if_pos (by decide)]
    have e2 : RD.ev ns (i + 1) = RD.ev ns 0 := by
      unfold RD.ev
      rw [e, Nat.mod_self, Nat.zero_mod]
    rw [e2]
    exact RD.ev_lt (by omega)
theorem abs_dst (a b : Int) : (if a - b < 0 then -(a - b) else a - b) = RD.dst a b := by
  unfold RD.dst
  split <;> omega
theorem ok_stepped (T : Txt K mg) : FnOk P w K mg base CX0 1 T.f_stepped T.fd_stepped ["ring"] (spStepped K) := by
  refine T.F_stepped.ok sc_stepped (fun vs H Q E h => ?_) (fun cdv A outer s H vs Q E hr h => ?_)
  · obtain ⟨a, ns, rfl, _⟩ := h
    rfl
  · obtain ⟨a, ns, rfl, hS, h1, hk, q⟩ := h
    refine ⟨_, (pss_one (ps_ret (pe_lc (own := [("one", 1), ("other", 2)]) (g := (gTup _ 2 (gCons (gName 1) (gCons (gName 2) gNil)))) (tt := tYes) (by rfl) sc_stepped.nd (pi_zip (by rfl) T.n_zip (pa_cons (pv 0) (pa_cons (pe_op op_cat (pe_slice (r := rSlL K) sl_list (pv 0) (po_some pe_int) po_none) (pe_slice (r := rSlL K) sl_list (pv 0) po_none (po_some pe_int))) pa_nil))) (blkOk_by (own := [("one", 1), ("other", 2)]) (N := ["ring", "one", "other"]) (sc := defScope s_stepped) (by decide +kernel)) (fun _ _ _ _ _ => (pg_tup rfl (pgs_cons (pg_name (i := 1) sc_stepped.nd rfl (Or.inl rfl)) (pgs_cons (pg_name (i := 2) sc_stepped.nd rfl (Or.inl rfl)) pgs_nil)))) (fun _ _ _ _ _ => pts_nil) (fun _ _ _ _ _ => (pe_callB (r := rAbs) call_abs (by rfl) T.n_abs (by decide +kernel) (pa_cons (pe_op op_sub (pv 1) (pv 2)) pa_nil)))))), ?_⟩
    refine ⟨.ref a, rfl, .ref a, rfl, 1, rfl, a, ns.map V.int, rfl, hS, fun p np => ?_⟩
    have e1 := Ex.new (o := .lst (cutV (ns.map V.int) (some 1) none)) np
    refine ⟨.ref a, rfl, 1, rfl, a, ns.map V.int, rfl, ex_l e1 hS, fun r nr => ?_⟩
    have e2 := Ex.new (o := .lst (cutV (ns.map V.int) none (some 1))) nr
    have hp := e2 _ _ (upd_same (H := H) (a := p) (o := .lst (cutV (ns.map V.int) (some 1) none)))
    have hl : (ns.map V.int).length = ns.length := List.length_map _
    have c1 : cutV (ns.map V.int) (some 1) none = (ns.drop 1).map V.int := by rw [cut_lo _ (by omega), List.map_drop]
    have c2 : cutV (ns.map V.int) none (some 1) = (ns.take 1).map V.int := by rw [show (some (1 : Int)) = some ((1 : Nat) : Int) from rfl, cut_hi, List.map_take]
    refine ⟨p, r, _, _, rfl, rfl, hp, upd_same, ?_, fun z nz => ?_⟩
    · rw [c1, c2, List.length_map, List.length_map, List.length_drop, List.length_take]
      exact sz_of (by omega)
    have e3 := Ex.new (o := .lst (cutV (ns.map V.int) (some 1) none ++ cutV (ns.map V.int) none (some 1))) nz
    have e4 := (e1.trans e2).trans e3
    have c3 : cutV (ns.map V.int) (some 1) none ++ cutV (ns.map V.int) none (some 1) = (ns.drop 1 ++ ns.take 1).map V.int := by rw [c1, c2, List.map_append]
    refine ⟨a, z, ns.map V.int, _, rfl, ex_l e4 hS, .inl (.inl upd_same), fun D hD => ?_⟩
    rw [c3] at hD ⊢
    rw [c3] at e4
    refine lc_zip (xs := ns.map V.int) (ys := (ns.drop 1 ++ ns.take 1).map V.int) ?_ (fun i H' => Ex H H' ∧ H' z = some (.lst ((ns.drop 1 ++ ns.take 1).map V.int)) ∧ H' D = some (.lst (((RD.D ns).take i).map V.int))) ?_ (fun i H' _ p' => ⟨ex_l p'.1 hS, .inl (.inl p'.2.1)⟩) ?_ ?_
    · rw [List.length_map, List.length_map, List.length_append, List.length_drop, List.length_take]
      omega
    · refine ⟨e4.trans (Ex.new hD), ?_, upd_same⟩
      exact (Ex.new hD) _ _ upd_same
    · intro i x y S H' hx hy p' nS
      obtain ⟨n, hn, rfl⟩ := map_get hx
      obtain ⟨m, hm, rfl⟩ := map_get hy
      have hi := get_lt hn
      rw [next_get hi] at hm
      have em : RD.ev ns (i + 1) = m := Option.some.inj hm
      rw [RD.ev_lt hi] at hn
      have en : RD.ev ns i = n := Option.some.inj hn
      obtain ⟨p1, p2, p3⟩ := p'
      have eS := Ex.new (o := .tup [V.int n, V.int m]) nS
      refine ⟨S, [.int n, .int m], rfl, .inl (.inl upd_same), rfl, .int n, [.int m], rfl, .int m, [], rfl, rfl, rfl, ?_⟩
      refine tyes ?_
      refine ⟨.int n, rfl, .int m, rfl, n, m, rfl, rfl, _, rfl, _, eS _ _ p3, ?_, ?_, ?_, ?_⟩
      · rw [List.length_map, List.length_take]
        exact sz_lt (by omega)
      · have nD : H D = none := fresh_back e4 hD
        exact Ex.mut (p1.trans eS) nD
      · have hne : z ≠ D := ne_of_none (show upd _ z _ z = some _ from upd_same) hD
        rw [upd_ne hne]
        exact eS _ _ p2
      · rw [upd_same, abs_dst, List.take_add_one, RD.D_get hi, List.map_append, en, em]
        rfl
    · intro H' p'
      obtain ⟨p1, p2, p3⟩ := p'
      rw [List.length_map, List.take_of_length_le (by rw [RD.D_len]; exact Nat.le_refl _)] at p3
      exact q D H' (fresh_back e4 hD) p1 p3
def spStep (K : PySem.W.Frag) : Sp := fun vs H Q _ => ∃ (a : Addr) (ns : List Int), vs = [.ref a] ∧ SqL K H a (ns.map V.int) ∧ Ring ns ∧ RetL ((RD.D ns).map V.int) H Q
end
section
variable {P : Program} {w : World} {K : PySem.W.Frag} {mg : Str → Option Value} {base : Heap}
theorem ok_step (T : Txt K mg) : FnOk P w K mg base CX0 3 T.f_step T.fd_step ["ring"] (spStep K) := by
  refine T.F_step.ok sc_step (fun vs H Q E h => ?_) (fun cdv A outer s H vs Q E hr h => ?_)
  · obtain ⟨a, ns, rfl, _⟩ := h
    rfl
  · obtain ⟨a, ns, rfl, hS, hR, q⟩ := h
    refine ⟨_, (pss_cons (ps_expr (pe_call (ok_asked_ring T) (hr.mono (by decide)) (by rfl) T.g_asked_ring T.F_asked_ring.kp T.b_asked_ring .nil pass0 (pa_cons (pv 0) pa_nil)))
      (pss_one (ps_ret (pe_call (ok_stepped T) (hr.mono (by decide)) (by rfl) T.g_stepped T.F_stepped.kp T.b_stepped .nil pass0 (pa_cons (pv 0) pa_nil))))), ?_⟩
    refine ⟨.ref a, rfl, a, ns, rfl, hS, hR, fun H1 e1 => ?_⟩
    have := hR.few
    exact ⟨.ref a, rfl, a, ns, rfl, ex_l e1 hS, hR.pos, by omega, fun p H2 np e2 h2 => q p H2 (fresh_back e1 np) (e1.trans e2) h2⟩
end
section
variable {P : Program} {w : World} {K : PySem.W.Frag} {mg : Str → Option Value} {base : Heap}
/-! ### the law's own rings: a number by a cell, a ring by the cells -/
def num (c a u : Int) : Int :=
  if (10 : Int) ^ 18 ≤ c then c / (1 + a % 7)
  else (((c + 977 * a) * 48271 + u) % 2147483647 * (c + 31 * a + 7)) * (((c + 977 * a) * 48271 + u) % 2147483647 + c + 5) * (((c + 977 * a) * 48271 + u) % 2147483647 * (((c + 977 * a) * 48271 + u) % 2147483647) + 11) / (1009 + a)
def spNumber : Sp := fun vs H Q _ => ∃ (c a u : Int) (e : Nat), vs = [.int c, .int a, .int u] ∧ 0 < e ∧ e ≤ 1048576 ∧ c.natAbs < 2 ^ e ∧ 0 ≤ a ∧ a ≤ 1000 ∧ RetV (.int (num c a u)) H Q
theorem pow_up {a : Int} {e f : Nat} (h : a.natAbs < 2 ^ e) (hf : e ≤ f) : a.natAbs < 2 ^ f := Nat.lt_of_lt_of_le h (Nat.pow_le_pow_right (by decide) hf)
theorem add_up {a b : Int} {e : Nat} (h : a.natAbs < 2 ^ e) (h2 : b.natAbs < 2 ^ e) : (a + b).natAbs < 2 ^ (e + 1) := by
  rw [Nat.pow_succ]
  omega
theorem ok_w_number (T : Txt K mg) : FnOk P w K mg base CX0 1 T.f_w_number T.fd_w_number ["_law_cell", "_law_at", "_law_whole"] spNumber := by
  refine T.F_w_number.ok sc_w_number (fun vs H Q E h => ?_) (fun cdv A outer s H vs Q E hr h => ?_)
  · obtain ⟨c, a, u, e, rfl, _⟩ := h
    rfl
  · obtain ⟨c, a, u, e, rfl, he0, he, hc, ha0, ha, q⟩ := h
    refine ⟨_, (pss_cons (ps_if (pt_cmpR op_ge (pv 0) (pe_op op_pow pe_int pe_int) (nomark _))
        (pss_one (ps_ret (pe_op op_fdiv (pv 0) (pe_op op_add pe_int (pe_op op_mod (pv 1) pe_int)))))
        pss_nil)
      (pss_cons (ps_set (i := 3) sc_w_number.nd rfl (Or.inl rfl) (pe_op op_mod (pe_op op_add (pe_op op_mul (pe_op op_add (pv 0) (pe_op op_mul pe_int (pv 1))) pe_int) (pv 2)) pe_int))
      (pss_cons (ps_set (i := 4) sc_w_number.nd rfl (Or.inl rfl) (pe_op op_mul (pv 3) (pe_op op_add (pe_op op_add (pv 0) (pe_op op_mul pe_int (pv 1))) pe_int)))
      (pss_one (ps_ret (pe_op op_fdiv (pe_op op_mul (pe_op op_mulB (pv 4) (pe_op op_add (pe_op op_add (pv 3) (pv 0)) pe_int)) (pe_op op_add (pe_op op_mul (pv 3) (pv 3)) pe_int)) (pe_op op_add pe_int (pv 1)))))))), ?_⟩
    have hnum : num c a u = num c a u := rfl
    unfold num at q
    generalize hm : ((c + 977 * a) * 48271 + u) % 2147483647 = m at q
    have m0 : 0 ≤ m := by rw [← hm]; exact Int.emod_nonneg _ (by decide)
    have m1 : m < 2147483647 := by rw [← hm]; exact Int.emod_lt_of_pos _ (by decide)
    refine q_when (et_test (ev_op (ev_var rfl) (ev_op ev_c ev_c (rv_I ⟨by decide, by decide, by decide⟩)) rv_I0)) (fun hb H1 e1 => ?_) (fun hb H1 e1 => ?_)
    · have hb' : (10 : Int) ^ 18 ≤ c := of_decide_eq_true hb
      rw [if_pos hb'] at q
      refine s_ret (ev_op (ev_var rfl) (ev_op ev_c (ev_op (ev_var rfl) ev_c (rv_I (by decide))) rv_I0) (rv_I (C := CDiv) ⟨?_, ?_⟩)) fun H2 e2 => q H2 (e1.trans e2)
      · have := Int.emod_nonneg a (b := 7) (by decide)
        omega
      · have := Int.emod_lt_of_pos a (b := 7) (by decide)
        omega
    · have hb' : ¬ (10 : Int) ^ 18 ≤ c := of_decide_eq_false hb
      rw [if_neg hb'] at q
      refine q_asg (ev_is (ev_op (ev_op (ev_op (ev_op (ev_var rfl) (ev_op ev_c (ev_var rfl) (rv_I (C := CMul) (.inl ⟨by decide, by decide⟩))) rv_I0) ev_c (rv_I (C := CMul) (.inr ⟨by decide, by decide⟩))) (ev_var rfl) rv_I0) ev_c (rv_I (by decide))) (congrArg V.int hm)) fun H2 e2 => ?_
      refine q_asg (ev_op (ev_var rfl) (ev_op (ev_op (ev_var rfl) (ev_op ev_c (ev_var rfl) (rv_I (C := CMul) (.inl ⟨by decide, by decide⟩))) rv_I0) ev_c rv_I0) (rv_I (C := CMul) (.inl ⟨by omega, by omega⟩))) fun H3 e3 => ?_
      refine s_ret (ev_op (ev_op (ev_op (ev_var rfl) (ev_op (ev_op (ev_var rfl) (ev_var rfl) rv_I0) ev_c rv_I0) (rv_I (C := IntMulOk) ?h1)) (ev_op (ev_op (ev_var rfl) (ev_var rfl) (rv_I (C := CMul) (.inl ⟨by omega, by omega⟩))) ev_c rv_I0) (rv_I (C := CMul) (.inr ?h2))) (ev_op ev_c (ev_var rfl) rv_I0) (rv_I (C := CDiv) ⟨?h3, ?h4⟩)) fun H4 e4 => q H4 (((e1.trans e2).trans e3).trans e4)
      case h1 =>
        have p31 : (2 : Nat) ^ 31 = 2147483648 := by decide
        have p32 : (2 : Nat) ^ 32 = 4294967296 := by decide
        have hm2 : m.natAbs < 2 ^ 31 := by omega
        have g1 : (31 * a + 7).natAbs < 2 ^ (e + 31) := pow_up (e := 31) (by omega) (by omega)
        have g2 : (c + (31 * a + 7)).natAbs < 2 ^ (e + 31 + 1) := add_up (pow_up hc (by omega)) g1
        rw [← Int.add_assoc] at g2
        have g3 := wide_lt hm2 g2
        have g4 : (m + 5).natAbs < 2 ^ (e + 31) := pow_up (e := 32) (by omega) (by omega)
        have g5 : (c + (m + 5)).natAbs < 2 ^ (e + 31 + 1) := add_up (pow_up hc (by omega)) g4
        rw [show c + (m + 5) = m + c + 5 by omega] at g5
        exact mulOk g3 g5 (by omega) (by omega) (by omega)
      case h2 =>
        have h1 : m * m ≤ 2147483647 * 2147483647 := Int.mul_le_mul (Int.le_of_lt m1) (Int.le_of_lt m1) m0 (by decide)
        have h2 : 0 ≤ m * m := Int.mul_nonneg m0 m0
        constructor <;> omega
      case h3 => omega
      case h4 => omega
/-- a ring by the cells -/
def spRing (K : PySem.W.Frag) : Sp := fun vs H Q _ => ∃ (a : Addr) (ns : List Int) (b : Int), vs = [.ref a, .int b] ∧ SqL K H a (ns.map V.int) ∧ ns.length ≤ 63 ∧ Few ns ∧ 0 ≤ b ∧ b ≤ 100 ∧
  ∀ rs, Ring rs → RetL (rs.map V.int) H Q
theorem ok_w_ring (T : Txt K mg) : FnOk P w K mg base CX0 2 T.f_w_ring T.fd_w_ring ["_law_script", "_law_by"] (spRing K) := by
  refine T.F_w_ring.ok sc_w_ring (fun vs H Q E h => ?_) (fun cdv A outer s H vs Q E hr h => ?_)
  · obtain ⟨a, ns, b, rfl, _⟩ := h
    rfl
  · obtain ⟨a, ns, b, rfl, hS, hl, hF, hb0, hb, q⟩ := h
    refine ⟨_, (pss_cons (ps_set (i := 2) sc_w_ring.nd rfl (Or.inl rfl) (pe_ifExp (pt_cmpR (r := rNeD K) (op_neD hr.units) (pv 0) (pe_lst pa_nil) (nomark _)) (pe_slice (r := rSlL K) sl_list (pv 0) po_none (po_some pe_int)) (pe_lst (pa_cons pe_int pa_nil))))
      (pss_cons (ps_set (i := 3) sc_w_ring.nd rfl (Or.inl rfl) (pe_op op_add (pe_callB (r := rAbs) call_abs (by rfl) T.n_abs (by decide +kernel) (pa_cons (pe_callB (r := rSum K) (cr_sum rfl) (by rfl) T.n_sum (by decide +kernel) (pa_cons (pv 2) pa_nil)) pa_nil)) (pv 1)))
      (pss_cons (ps_set (i := 4) sc_w_ring.nd rfl (Or.inl rfl) (pe_op op_add pe_int (pe_op op_mod (pv 3) (pe_ix (r := rIxT K) ix_tup (pe_tup (pa_cons pe_int (pa_cons pe_int (pa_cons pe_int pa_nil)))) (pe_ix (r := rIxT K) ix_tup (pe_tup (pa_cons pe_int (pa_cons pe_int (pa_cons pe_int (pa_cons pe_int (pa_cons pe_int (pa_cons pe_int (pa_cons pe_int (pa_cons pe_int pa_nil))))))))) (pe_op op_mod (pe_op op_fdiv (pv 3) pe_int) pe_int) (fun _ _ => rfl)) (fun _ _ => rfl)))))
      (pss_cons (ps_set (i := 5) sc_w_ring.nd rfl (Or.inl rfl) (pe_ix (r := rIxT K) ix_tup (pe_tup (pa_cons pe_int (pa_cons pe_int (pa_cons pe_int (pa_cons pe_int pa_nil))))) (pe_op op_mod (pe_op op_fdiv (pv 3) pe_int) pe_int) (fun _ _ => rfl)))
      (pss_cons (ps_set (i := 6) sc_w_ring.nd rfl (Or.inl rfl) (pe_lst pa_nil))
      (pss_cons (ps_for PassesOwn.never rfl (pi_range1 (by rfl) T.n_range (pa_cons (pv 4) pa_nil)) (pg_name (i := 7) sc_w_ring.nd rfl (Or.inl rfl))
        (pss_cons (ps_set (i := 8) sc_w_ring.nd rfl (Or.inl rfl) (pe_call (ok_w_number T) (hr.mono (by decide)) (by rfl) T.g_w_number T.F_w_number.kp T.b_w_number .nil pass0 (pa_cons (pe_ix (r := rIxL K) ix_list (pv 2) (pe_op op_mod (pe_op op_add (pv 7) (pv 1)) (pe_callB (r := rLenS K) call_len_seq (by rfl) T.n_len (by decide +kernel) (pa_cons (pv 2) pa_nil))) (fun _ _ => rfl)) (pa_cons (pe_op op_add (pv 7) (pv 1)) (pa_cons (pv 3) pa_nil)))))
        (pss_one (ps_expr (pe_bm PySem.F.plainAttrs_list PySem.F.slot_list_append PySem.F.type_list_append mt_append (pv 6) (pa_cons (pe_op op_mul (pe_op op_mod (pe_op op_fdiv (pv 8) pe_int) (pv 5)) (pe_ifExp (pt_cmpR op_eq (pv 5) pe_int (nomark _)) pe_int pe_int)) pa_nil))))))
      (pss_one (ps_ret (pv 6))))))))), ?_⟩
    -- the cells
    have cells : ∀ D : L2.St → Hp → Prop, (∀ (c : Addr) (cs : List Int) H1, cs ≠ [] → cs.length ≤ 12 → Few cs → Ex H H1 → H1 c = some (.lst (cs.map V.int)) → D ([some (.ref a), some (.int b), some (.ref c), none, none, none, none, none, none]) H1) →
        tAsg (tIf (tTest (tOp (rNeD K) (tVar 0) (tLst tNil))) (tSl (rSlL K) (tVar 0) tNoPart (tPart (tC (.int 12)))) (tLst (tCons (tC (.int 5)) tNil))) (gName 2) ⟨D, fun _ _ => False, fun _ _ => False, fun _ _ => False⟩ (L2.start ["_law_script", "_law_by", "_law_cells", "_law_whole", "_law_many", "_law_wide", "_law_found", "_law_at", "_law_number_here"] [.ref a, .int b]) H := by
      intro D k
      refine ⟨.ref a, rfl, Nat.zero_le _, fun p np => ?_⟩
      refine ⟨.list (ns.map PyData.int), .list (([] : List Int).map PyData.int), dp_ints (ex_l (Ex.new np) hS), dp_ints (ns := []) (sq_of upd_same), shaped_ints _, shaped_ints _, _, rfl, ?_⟩
      rw [eqv_ints]
      by_cases hn : ns = []
      · rw [decide_eq_true hn]
        refine iteF ?_
        refine ⟨sz_of (by show 1 ≤ 100000; decide), fun c nc => ?_⟩
        refine k c [5] _ (by simp) (by simp) ⟨3, by decide, by decide, fun z hz => ?_⟩ ((Ex.new np).trans (Ex.new nc)) upd_same
        rw [List.mem_singleton.mp hz]
        decide
      · rw [decide_eq_false hn]
        refine iteT ?_
        refine ⟨.ref a, rfl, 12, rfl, a, _, rfl, ex_l (Ex.new np) hS, fun c nc => ?_⟩
        have ec : cutV (ns.map V.int) none (some 12) = (ns.take 12).map V.int := by
          rw [show (some (12 : Int)) = some ((12 : Nat) : Int) from rfl, cut_hi, List.map_take]
        rw [ec]
        obtain ⟨e, f1, f2, f3⟩ := hF
        refine k c (ns.take 12) _ (fun z => ?_) (by rw [List.length_take]; omega) ⟨e, f1, f2, fun z hz => f3 z (List.mem_of_mem_take hz)⟩ ((Ex.new np).trans (Ex.new nc)) upd_same
        cases ns with
        | nil => exact hn rfl
        | cons x r => cases z
    refine cells _ fun c cs H1 hc0 hcl hcF e1 hC => ?_
    have hcp : 0 < cs.length := List.length_pos_iff.mpr hc0
    -- the whole
    refine q_asg (ev_op (ev_abs (ev_sum (ns := cs) (ev_var rfl) (sq_of hC))) (ev_var rfl) rv_I0) fun H2 e2 => ?_
    generalize hW : (if cs.sum < 0 then -cs.sum else cs.sum) + b = W
    have hW0 : 0 ≤ W := by rw [← hW]; split <;> omega
    obtain ⟨x8, m8, a8⟩ := at_mem (l := [0, 1, 0, 1, 0, 1, 0, 2]) (j := W / 3 % 8) (Int.emod_nonneg _ (by decide)) (Int.emod_lt_of_pos _ (by decide))
    have hx8 : 0 ≤ x8 ∧ x8 < 3 := by
      simp only [List.mem_cons, List.not_mem_nil, or_false] at m8
      omega
    obtain ⟨x3, m3, a3⟩ := at_mem (l := [4, 8, 12]) (j := x8) hx8.1 hx8.2
    have hx3 : 1 ≤ x3 ∧ x3 ≤ 12 := by
      simp only [List.mem_cons, List.not_mem_nil, or_false] at m3
      omega
    refine q_asg (ev_op ev_c (ev_op (ev_var rfl) (ev_ixU (eu_tup (ea_cons ev_c (ea_cons ev_c (ea_cons ev_c ea_nil))) (by decide))
      (ev_ixU (eu_tup (ea_cons ev_c (ea_cons ev_c (ea_cons ev_c (ea_cons ev_c (ea_cons ev_c (ea_cons ev_c (ea_cons ev_c (ea_cons ev_c ea_nil)))))))) (by decide)) (ev_op (ev_op (ev_var rfl) ev_c (rv_I (C := CDiv) ⟨by decide, by decide⟩)) ev_c (rv_I (by decide))) a8) a3) (rv_I (by omega))) rv_I0) fun H3 e3 => ?_
    have hM0 := Int.emod_nonneg W (b := x3) (by omega)
    have hM1 := Int.emod_lt_of_pos W (b := x3) (by omega)
    generalize hM : 1 + W % x3 = M
    obtain ⟨x4, m4, a4⟩ := at_mem (l := [2, 4, 21, 201]) (j := W / 24 % 4) (Int.emod_nonneg _ (by decide)) (Int.emod_lt_of_pos _ (by decide))
    have hx4 : 2 ≤ x4 ∧ x4 ≤ 201 := by
      simp only [List.mem_cons, List.not_mem_nil, or_false] at m4
      omega
    refine q_asg (ev_ixU (eu_tup (ea_cons ev_c (ea_cons ev_c (ea_cons ev_c (ea_cons ev_c ea_nil)))) (by decide)) (ev_op (ev_op (ev_var rfl) ev_c (rv_I (C := CDiv) ⟨by decide, by decide⟩)) ev_c (rv_I (by decide))) a4) fun H4 e4 => ?_
    refine q_asgL (el_lst ea_nil (by decide)) fun f H5 nf e5 hf => ?_
    have e14 := ((e2.trans e3).trans e4)
    have hC4 := e14 _ _ hC
    have hfH : H f = none := fresh_back ((e1.trans e14)) nf
    refine q_forR1 (n := M) (ea_cons (ev_var rfl) ea_nil) (by omega) (fun i σ' H' => ∃ (rs : List Int) (x7 x8 : Option V), σ' = [some (.ref a), some (.int b), some (.ref c), some (.int W), some (.int M), some (.int x4), some (.ref f), x7, x8] ∧ Ex H4 H' ∧ H' f = some (.lst (rs.map V.int)) ∧ rs.length = i ∧ RD.Bd 200 rs)
      (fun H6 e6 => ⟨[], none, none, rfl, e5.trans e6, e6 _ _ hf, rfl, fun x hx => by cases hx⟩) ?_ ?_
    · rintro i σ' H' hi ⟨rs, x7, x8', rfl, p1, p2, p3, p4⟩
      have hcL : SqL K H' c (cs.map V.int) := sq_of (p1 _ _ hC4)
      have hz0 := Int.emod_nonneg ((i : Int) + b) (b := (cs.length : Int)) (by omega)
      have hz1 := Int.emod_lt_of_pos ((i : Int) + b) (b := (cs.length : Int)) (by omega)
      obtain ⟨n, mn, an⟩ := at_mem (l := cs) hz0 hz1
      obtain ⟨e, f1, f2, f3⟩ := hcF
      refine q_asg (v := .int (num n ((i : Int) + b) W)) (ev_call (ea_cons (ev_ixL (v := .int n) (ev_var rfl) (ev_op (ev_op (ev_var rfl) (ev_var rfl) rv_I0) (ev_is (ev_len (ev_var rfl) hcL) (by rw [List.length_map])) (rv_I (by omega))) hcL an) (ea_cons (ev_op (ev_var rfl) (ev_var rfl) rv_I0) (ea_cons (ev_var rfl) ea_nil))) ?_) fun H6 e6 => ?_
      · intro H7 e7 Q7 q7 E7
        exact ⟨n, (i : Int) + b, W, e, rfl, f1, f2, f3 n mn, by omega, by omega, q7⟩
      · generalize num n ((i : Int) + b) W = nn
        have hr0 := Int.emod_nonneg (nn / 3) (b := x4) (by omega)
        have hr1 := Int.emod_lt_of_pos (nn / 3) (b := x4) (by omega)
        have hif : Ev (tIf (tTest (tOp rEq (tVar 5) (tC (.int 2)))) (tC (.int 17)) (tC (.int 1))) [some (.ref a), some (.int b), some (.ref c), some (.int W), some (.int M), some (.int x4), some (.ref f), some (.int (i : Int)), some (.int nn)] H6 (.int (if x4 = 2 then 17 else 1)) := by
          refine ev_if (et_test (ev_op (ev_var rfl) ev_c (rv_eq rfl))) (fun hb => ?_) (fun hb => ?_)
          · have e0 : x4 = 2 := V.int.inj (of_decide_eq_true hb)
            rw [if_pos e0]
            exact ev_c
          · have e0 : ¬ x4 = 2 := fun z => (of_decide_eq_false hb) (congrArg V.int z)
            rw [if_neg e0]
            exact ev_c
        refine s_app (e6 _ _ p2) (ev_var rfl) (ev_op (ev_op (ev_op (ev_var rfl) ev_c (rv_I (C := CDiv) ⟨by decide, by decide⟩)) (ev_var rfl) (rv_I (by omega))) hif (rv_I (C := CMul) (.inl ⟨by omega, by omega⟩))) (by rw [List.length_map]; omega) fun H7 e7 => ?_
        refine ⟨rs ++ [nn / 3 % x4 * (if x4 = 2 then 17 else 1)], _, _, rfl, Ex.mut ((p1.trans e6).trans e7) (nf), ?_, ?_, ?_⟩
        · rw [upd_same, List.map_append]
          rfl
        · rw [List.length_append, p3]
          rfl
        · intro x hx
          rcases List.mem_append.mp hx with hx | hx
          · exact p4 x hx
          · rw [List.mem_singleton.mp hx]
            split <;> omega
    · rintro σ' H' ⟨rs, x7, x8', rfl, p1, p2, p3, p4⟩
      refine ⟨.ref f, rfl, ?_⟩
      exact q rs ⟨by omega, by omega, p4⟩ f H' hfH ((e1.trans e14).trans p1) p2
end
section
variable {P : Program} {w : World} {K : PySem.W.Frag} {mg : Str → Option Value} {base : Heap}
/-! ### the law's own step -/
theorem own_dst (a b : Int) : (if a - b > 0 then a - b else -(a - b)) = RD.dst a b := by
  unfold RD.dst
  split <;> omega
theorem ok_w_step (T : Txt K mg) : FnOk P w K mg base CX0 1 T.f_w_step T.fd_w_step ["_law_ring_here"] (spStepped K) := by
  refine T.F_w_step.ok sc_w_step (fun vs H Q E h => ?_) (fun cdv A outer s H vs Q E hr h => ?_)
  · obtain ⟨a, ns, rfl, _⟩ := h
    rfl
  · obtain ⟨a, ns, rfl, hS, h1, hk, q⟩ := h
    refine ⟨_, (pss_cons (ps_set (i := 1) sc_w_step.nd rfl (Or.inl rfl) (pe_lst pa_nil))
      (pss_cons (ps_for PassesOwn.never rfl (pi_range1 (by rfl) T.n_range (pa_cons (pe_callB (r := rLenS K) call_len_seq (by rfl) T.n_len (by decide +kernel) (pa_cons (pv 0) pa_nil)) pa_nil)) (pg_name (i := 2) sc_w_step.nd rfl (Or.inl rfl))
        (pss_cons (ps_set (i := 3) sc_w_step.nd rfl (Or.inl rfl) (pe_op op_sub (pe_ix (r := rIxL K) ix_list (pv 0) (pv 2) (fun _ _ => rfl)) (pe_ix (r := rIxL K) ix_list (pv 0) (pe_op op_mod (pe_op op_add (pv 2) pe_int) (pe_callB (r := rLenS K) call_len_seq (by rfl) T.n_len (by decide +kernel) (pa_cons (pv 0) pa_nil))) (fun _ _ => rfl))))
        (pss_one (ps_expr (pe_bm PySem.F.plainAttrs_list PySem.F.slot_list_append PySem.F.type_list_append mt_append (pv 1) (pa_cons (pe_ifExp (pt_cmpR op_gt (pv 3) pe_int (nomark _)) (pv 3) (pe_un un_neg (pv 3))) pa_nil))))))
      (pss_one (ps_ret (pv 1))))), ?_⟩
    refine q_asgL (el_lst ea_nil (by decide)) fun f H1 nf e1 hf => ?_
    refine q_forR1 (n := (ns.length : Int)) (ea_cons (ev_is (ev_len (ev_var rfl) (ex_l e1 hS)) (by rw [List.length_map])) ea_nil) (by omega) (fun i σ' H' => ∃ (x2 x3 : Option V), σ' = [some (.ref a), some (.ref f), x2, x3] ∧ Ex H H' ∧ H' f = some (.lst (((RD.D ns).take i).map V.int)))
      (fun H2 e2 => ⟨none, none, rfl, e1.trans e2, e2 _ _ hf⟩) ?_ ?_
    · rintro i σ' H' hi ⟨x2, x3, rfl, p1, p2⟩
      have hS' := ex_l p1 hS
      have hi' : i < ns.length := by omega
      have hm : (i + 1) % ns.length < ns.length := Nat.mod_lt _ (by omega)
      have g1 := at_int (RD.ev_lt hi')
      have g2 := at_int (RD.ev_lt hm)
      rw [RD.ev_mod] at g2
      refine q_asg (ev_op (ev_ixL (ev_var rfl) (ev_var rfl) hS' g1) (ev_ixL (ev_var rfl) (ev_is (ev_op (ev_op (ev_var rfl) ev_c rv_I0) (ev_is (ev_len (ev_var rfl) hS') (by rw [List.length_map])) (rv_I (by omega))) (by
        show V.int (((i : Int) + 1) % (ns.length : Int)) = V.int (((i + 1) % ns.length : Nat) : Int)
        rw [Int.natCast_emod]
        rfl)) hS' g2) rv_I0) fun H2 e2 => ?_
      generalize hx : RD.ev ns i = x
      generalize hy : RD.ev ns (i + 1) = y
      have hif : Ev (tIf (tTest (tOp (rI0 fun i j => .bl (decide (j < i))) (tVar 3) (tC (.int 0)))) (tVar 3) (tUn (rU fun i => .int (-i)) (tVar 3))) [some (.ref a), some (.ref f), some (.int (i : Int)), some (.int (x - y))] H2 (.int (RD.dst x y)) := by
        rw [← own_dst]
        refine ev_if (et_test (ev_op (ev_var rfl) ev_c rv_I0)) (fun hb => ?_) (fun hb => ?_)
        · rw [if_pos (of_decide_eq_true hb)]
          exact ev_var rfl
        · rw [if_neg (of_decide_eq_false hb)]
          exact ev_un (ev_var rfl) ru_neg
      refine s_app (e2 _ _ p2) (ev_var rfl) hif (by rw [List.length_map, List.length_take]; omega) fun H3 e3 => ?_
      refine ⟨_, _, rfl, Ex.mut ((p1.trans e2).trans e3) nf, ?_⟩
      rw [upd_same, List.take_add_one, RD.D_get hi', List.map_append, hx, hy]
      rfl
    · rintro σ' H' ⟨x2, x3, rfl, p1, p2⟩
      rw [show ((ns.length : Int)).toNat = ns.length by omega, List.take_of_length_le (by rw [RD.D_len]; exact Nat.le_refl _)] at p2
      exact ⟨.ref f, rfl, q f H' nf p1 p2⟩
end
section
variable {P : Program} {w : World} {K : PySem.W.Frag} {mg : Str → Option Value} {base : Heap}
/-! ### the law -/
def spLaw (K : PySem.W.Frag) : Sp := fun vs H Q _ => ∃ (a : Addr) (ns : List Int), vs = [.ref a] ∧ SqL K H a (ns.map V.int) ∧ ns.length ≤ 63 ∧ (∀ z ∈ ns, Builtin.Int.intBits z ≤ 1048576) ∧ ∀ H', Q (.bl true) H'
theorem ok_law (T : Txt K mg) : FnOk P w K mg base CX0 6 T.f_law T.fd_law ["_law_script"] (spLaw K) := by
  refine T.F_law.ok sc_law (fun vs H Q E h => ?_) (fun cdv A outer s H vs Q E hr h => ?_)
  · obtain ⟨a, ns, rfl, _⟩ := h
    rfl
  · obtain ⟨a, ns, rfl, hS, hl, hb, q⟩ := h
    have hF := few_of hb
    refine ⟨_, (pss_cons (ps_for PassesOwn.never rfl (pi_list (pe_lst (pa_cons pe_int (pa_cons pe_int (pa_cons pe_int pa_nil))))) (pg_name (i := 1) sc_law.nd rfl (Or.inl rfl))
        (pss_cons (ps_set (i := 2) sc_law.nd rfl (Or.inl rfl) (pe_call (ok_w_ring T) (hr.mono (by decide)) (by rfl) T.g_w_ring T.F_w_ring.kp T.b_w_ring .nil pass0 (pa_cons (pv 0) (pa_cons (pv 1) pa_nil))))
        (pss_cons (ps_set (i := 3) sc_law.nd rfl (Or.inl rfl) (pe_callTy (r := rListS K) call_list_of (by rfl) T.n_list (by decide +kernel) (pa_cons (pv 2) pa_nil)))
        (pss_one (ps_for PassesOwn.never rfl (pi_range1 (by rfl) T.n_range (pa_cons pe_int pa_nil)) (pg_name (i := 4) sc_law.nd rfl (Or.inl rfl))
          (pss_cons (ps_set (i := 5) sc_law.nd rfl (Or.inl rfl) (pe_call (ok_step T) (hr.mono (by decide)) (by rfl) T.g_step T.F_step.kp T.b_step .nil pass0 (pa_cons (pv 3) pa_nil)))
          (pss_cons (ps_if (PW.pt (pw_or (pt_not (pt_val (pe_callB (r := rIsi K) call_isi (by rfl) T.n_isinstance (by decide +kernel) (pa_cons (pv 5) (pa_cons (pe_bltn (v := .ty "list") (by rfl) T.n_list (by decide +kernel) rfl) pa_nil))))) (pw_or (pt_cmpR (r := rNeD K) (op_neD hr.units) (pv 5) (pe_call (ok_w_step T) (hr.mono (by decide)) (by rfl) T.g_w_step T.F_w_step.kp T.b_w_step .nil pass0 (pa_cons (pv 2) pa_nil)) (nomark _)) (pw_or1 (pt_cmpR (r := rNeD K) (op_neD hr.units) (pv 3) (pv 2) (nomark _))))))
            (pss_one (ps_ret pe_bl))
            pss_nil)
          (pss_cons (ps_if (pt_val (pe_callB (r := rAny K) (cr_any rfl) (by rfl) T.n_any (by decide +kernel) (pa_cons (pe_lc (own := [("_law_one", 6)]) (g := (gName 6)) (tt := tYes) (by rfl) sc_law.nd (pi_list (pv 5)) (blkOk_by (own := [("_law_one", 6)]) (N := ["_law_script", "_law_by", "_law_ring_here", "_law_handed", "_law_again", "_law_found", "_law_one"]) (sc := defScope s_law) (by decide +kernel)) (fun _ _ _ _ _ => (pg_name (i := 6) sc_law.nd rfl (Or.inl rfl))) (fun _ _ _ _ _ => pts_nil) (fun _ _ _ _ _ => (pe_callB (r := rIsi K) call_isi (by rfl) T.n_isinstance (by decide +kernel) (pa_cons (pv 6) (pa_cons (pe_bltn (v := .ty "bool") (by rfl) T.n_bool (by decide +kernel) rfl) pa_nil))))) pa_nil)))
            (pss_one (ps_ret pe_bl))
            pss_nil)
          (pss_one (ps_expr (pe_bm PySem.F.plainAttrs_list PySem.F.slot_list_append PySem.F.type_list_append mt_append (pv 5) (pa_cons pe_int pa_nil))))))))))))
      (pss_one (ps_ret (pe_and (pe_cmpR (r := rEqD K) (op_eqD hr.units) (pe_call (ok_step T) (hr.mono (by decide)) (by rfl) T.g_step T.F_step.kp T.b_step .nil pass0 (pa_cons (pe_lst (pa_cons pe_int (pa_cons pe_int (pa_cons pe_int pa_nil)))) pa_nil)) (pe_lst (pa_cons pe_int (pa_cons pe_int (pa_cons pe_int pa_nil)))) (nomark _)) (pe_and (pe_cmpR (r := rEqD K) (op_eqD hr.units) (pe_call (ok_step T) (hr.mono (by decide)) (by rfl) T.g_step T.F_step.kp T.b_step .nil pass0 (pa_cons (pe_lst (pa_cons pe_int pa_nil)) pa_nil)) (pe_lst (pa_cons pe_int pa_nil)) (nomark _)) (pe_one (pe_cmpR (r := rEqD K) (op_eqD hr.units) (pe_call (ok_step T) (hr.mono (by decide)) (by rfl) T.g_step T.F_step.kp T.b_step .nil pass0 (pa_cons (pe_lst (pa_cons pe_int (pa_cons pe_int pa_nil))) pa_nil)) (pe_lst (pa_cons pe_int (pa_cons pe_int pa_nil))) (nomark _)))))))), ?_⟩
    refine q_forNLn (xs := [.int 0, .int 1, .int 4]) (el_lst (ea_cons ev_c (ea_cons ev_c (ea_cons ev_c ea_nil))) (by decide)) (fun p i σ' H' => ∃ x1 x2 x3 x4 x5 x6 : Option V, σ' = [some (.ref a), x1, x2, x3, x4, x5, x6] ∧ Ex H H' ∧ H' p = some (.lst [.int 0, .int 1, .int 4]))
      (fun p H1 np e1 h1 => ⟨none, none, none, none, none, none, rfl, e1, h1⟩) (fun p i σ' H' _ ⟨_, _, _, _, _, _, _, _, h⟩ => sq_of h) ?_ ?_
    · rintro lp i x σ' H1 hi ⟨x1, x2, x3, x4, x5, x6, rfl, p1, p2⟩
      obtain ⟨by_, hby, rfl⟩ : ∃ b : Int, (0 ≤ b ∧ b ≤ 100) ∧ x = .int b := by
        match i, hi with
        | 0, hi => exact ⟨0, by decide, (Option.some.inj hi).symm⟩
        | 1, hi => exact ⟨1, by decide, (Option.some.inj hi).symm⟩
        | 2, hi => exact ⟨4, by decide, (Option.some.inj hi).symm⟩
      -- the ring
      refine ⟨.ref a, rfl, .int by_, rfl, a, ns, by_, rfl, ex_l p1 hS, hl, hF, hby.1, hby.2, fun rs hR r H2 nr e2 hr2 => ?_⟩
      have hrl := hR.few
      -- its copy
      refine ⟨.ref r, rfl, r, _, rfl, .inl (sq_of hr2), fun c nc => ?_⟩
      have e3 := Ex.new (o := .lst (rs.map V.int)) nc
      have hr3 := e3 _ _ hr2
      have hc3 : upd H2 c (.lst (rs.map V.int)) c = some (.lst (rs.map V.int)) := upd_same
      generalize hH3 : upd H2 c (.lst (rs.map V.int)) = H3 at e3 hr3 hc3
      have p3 := (p1.trans e2).trans e3
      have lp3 := e3 _ _ (e2 _ _ p2)
      refine s_forR1 (n := 2) (ea_cons ev_c ea_nil) (by decide) (fun i σ' H' => ∃ x4 x5 x6 : Option V, σ' = [some (.ref a), some (.int by_), some (.ref r), some (.ref c), x4, x5, x6] ∧ Ex H3 H')
        (fun H4 e4 => ⟨_, _, _, rfl, e4⟩) ?_ ?_
      · rintro j σ' H4 hj ⟨x4, x5, x6, rfl, e4⟩
        have hr4 := e4 _ _ hr3
        have hc4 := e4 _ _ hc3
        -- found = step(handed)
        refine ⟨.ref c, rfl, c, rs, rfl, sq_of hc4, hR, fun d H5 nd e5 hd => ?_⟩
        have hr5 := e5 _ _ hr4
        have hc5 := e5 _ _ hc4
        -- the test
        refine q_when (b := false) (et_is (et_or (a := false) (b := false) (et_is (et_not (et_B (ev_isi (b := true) (ev_var rfl) (tyL (sq_of hd)) (.ty _) (kit_ty (by decide +kernel))))) rfl) fun _ =>
          et_or (a := false) (b := false) ?t1 fun _ => ?t2) rfl) (fun z => nomatch z) fun _ H6 e6 => ?_
        case t1 =>
          refine et_test fun H6 e6 Q6 q6 => ?_
          refine ⟨.ref d, rfl, .ref r, rfl, r, rs, rfl, sq_of (e6 _ _ hr5), hR.pos, by omega, fun z H7 nz e7 hz => ?_⟩
          refine ⟨_, _, dp_ints (sq_of (e7 _ _ (e6 _ _ hd))), dp_ints (sq_of hz), shaped_ints _, shaped_ints _, ?_⟩
          rw [eqv_ints, decide_eq_true rfl]
          exact q6 H7 e7
        case t2 =>
          refine et_test fun H6 e6 Q6 q6 => ?_
          refine ⟨.ref c, rfl, .ref r, rfl, _, _, dp_ints (sq_of (e6 _ _ hc5)), dp_ints (sq_of (e6 _ _ hr5)), shaped_ints _, shaped_ints _, ?_⟩
          rw [eqv_ints, decide_eq_true rfl]
          exact q6 H6 (Ex.refl _)
        refine q_when (b := false) (et_B (ev_anyEach (ev_var rfl) (sq_of (e6 _ _ hd)) (by rw [List.length_map, RD.D_len]; omega) (fun _ => rfl) fun i x H7 e7 hx => ?_)) (fun z => nomatch z) fun _ H7 e7 => ?_
        · obtain ⟨n, _, rfl⟩ := map_get hx
          exact ev_isi (b := false) (ev_var rfl) (.base (.int n)) (.ty _) (kit_ty (by decide +kernel))
        refine s_app (e7 _ _ (e6 _ _ hd)) (ev_var rfl) ev_c (by rw [List.length_map, RD.D_len]; omega) fun H8 e8 => ?_
        exact ⟨_, _, _, rfl, Ex.mut ((((e4.trans e5).trans e6).trans e7).trans e8) (fresh_back e4 nd)⟩
      · rintro σ' H4 ⟨x4, x5, x6, rfl, e4⟩
        exact ⟨_, _, _, _, _, _, rfl, p3.trans e4, e4 _ _ lp3⟩
    · rintro lp σ' H1 ⟨x1, x2, x3, x4, x5, x6, rfl, p1, p2⟩
      -- the three at the end
      have one : ∀ (ms ks : List Int) (ta tb : TE) (σ : L2.St) (H2 : Hp), Ring ms → RD.D ms = ks → EvL ta σ H2 (ms.map V.int) → EvL tb σ H2 (ks.map V.int) → Ev (tOp (rEqD K) (tCall (spStep K) [] E0 (tCons ta tNil)) tb) σ H2 (.bl true) := by
        intro ms ks ta tb σ H2 hR hk ha hb H3 e3 Q3 q3
        refine ha H3 e3 _ fun p H4 np e4 hp => ?_
        refine ⟨p, ms, rfl, sq_of hp, hR, fun d H5 nd e5 hd => ?_⟩
        refine hb H5 ((e3.trans e4).trans e5) _ fun z H6 nz e6 hz => ?_
        refine ⟨_, _, dp_ints (sq_of (e6 _ _ hd)), dp_ints (sq_of hz), shaped_ints _, shaped_ints _, ?_⟩
        rw [eqv_ints, hk, decide_eq_true rfl]
        exact q3 H6 ((e4.trans e5).trans e6)
      have rg : ∀ ms : List Int, (1 ≤ ms.length ∧ ms.length ≤ 12 ∧ (ms.all fun x => decide (0 ≤ x) && decide (x ≤ 200)) = true) → Ring ms := by
        rintro ms ⟨h1, h2, h3⟩
        refine ⟨h1, h2, fun x hx => ?_⟩
        have := List.all_eq_true.mp h3 x hx
        simp only [Bool.and_eq_true, decide_eq_true_eq] at this
        exact this
      refine s_ret (v := .bl true) (ev_andV (a := true) (b := true) (one [3, 5, 9] [2, 4, 6] _ _ _ _ (rg _ (by decide)) (by decide) (el_lst (ea_cons ev_c (ea_cons ev_c (ea_cons ev_c ea_nil))) (by decide)) (el_lst (ea_cons ev_c (ea_cons ev_c (ea_cons ev_c ea_nil))) (by decide))) fun _ =>
        ev_andV (a := true) (b := true) (one [7] [0] _ _ _ _ (rg _ (by decide)) (by decide) (el_lst (ea_cons ev_c ea_nil) (by decide)) (el_lst (ea_cons ev_c ea_nil) (by decide))) fun _ =>
        one [0, 200] [200, 200] _ _ _ _ (rg _ (by decide)) (by decide) (el_lst (ea_cons ev_c (ea_cons ev_c ea_nil)) (by decide)) (el_lst (ea_cons ev_c (ea_cons ev_c ea_nil)) (by decide))) fun H2 e2 => q H2
end
theorem law_of {l : PySem.W.OpenLaw} {w : World} {K : PySem.W.Frag} {h : Heap} {mg : Str → Option Value} {fa : Addr} (X : K.In h) (G : h.Ns mainGlobals mg)
    (hfa : mg "law" = some (.ref fa)) (N : Nonempty (Txt K mg)) : ∃ fd : FuncData, (∀ (s : Shared) (v : Value), BindsTo s fd ⟨[v], []⟩ [("_law_script", v)]) ∧
    ∀ base : Heap, K.In base → base.Ns mainGlobals mg → FnOk l.prog w K mg base CX0 6 fa fd ["_law_script"] (spLaw K) := by
  obtain ⟨T⟩ := N
  have e := hfa.symm.trans T.g_law
  cases e
  refine ⟨T.fd_law, fun s v => ?_, fun base _ _ => ok_law T⟩
  obtain ⟨oc, od, kV, doc, pm, an, cdv, ct, osl, hfd, _, _⟩ := T.F_law.ex
  rw [hfd]
  exact .of_eq rfl
theorem txt_mk {K : PySem.W.Frag} {h : Heap} {mg : Str → Option Value} (X : K.In h) (G : h.Ns mainGlobals mg)
    {t_LONGEST : Tok}
    {t_GREATEST : Tok}
    {C_RingError : Addr}
    {C_BadRing : Addr}
    {f_is_whole : Addr} {od_is_whole an_is_whole : Option Addr} {sl_is_whole : Array (Option Value)} {oc_is_whole kV_is_whole dc_is_whole pm_is_whole cd_is_whole ct_is_whole : Value}
    {f_asked_ring : Addr} {od_asked_ring an_asked_ring : Option Addr} {sl_asked_ring : Array (Option Value)} {oc_asked_ring kV_asked_ring dc_asked_ring pm_asked_ring cd_asked_ring ct_asked_ring : Value}
    {f_stepped : Addr} {od_stepped an_stepped : Option Addr} {sl_stepped : Array (Option Value)} {oc_stepped kV_stepped dc_stepped pm_stepped cd_stepped ct_stepped : Value}
    {f_step : Addr} {od_step an_step : Option Addr} {sl_step : Array (Option Value)} {oc_step kV_step dc_step pm_step cd_step ct_step : Value}
    {f_w_number : Addr} {od_w_number an_w_number : Option Addr} {sl_w_number : Array (Option Value)} {oc_w_number kV_w_number dc_w_number pm_w_number cd_w_number ct_w_number : Value}
    {f_w_ring : Addr} {od_w_ring an_w_ring : Option Addr} {sl_w_ring : Array (Option Value)} {oc_w_ring kV_w_ring dc_w_ring pm_w_ring cd_w_ring ct_w_ring : Value}
    {f_w_step : Addr} {od_w_step an_w_step : Option Addr} {sl_w_step : Array (Option Value)} {oc_w_step kV_w_step dc_w_step pm_w_step cd_w_step ct_w_step : Value}
    {f_law : Addr} {od_law an_law : Option Addr} {sl_law : Array (Option Value)} {oc_law kV_law dc_law pm_law cd_law ct_law : Value}
    (z_abs : PySem.W.nsIn K mainGlobals "abs" = some none)
    (z_all : PySem.W.nsIn K mainGlobals "all" = some none)
    (z_any : PySem.W.nsIn K mainGlobals "any" = some none)
    (z_bool : PySem.W.nsIn K mainGlobals "bool" = some none)
    (z_int : PySem.W.nsIn K mainGlobals "int" = some none)
    (z_isinstance : PySem.W.nsIn K mainGlobals "isinstance" = some none)
    (z_len : PySem.W.nsIn K mainGlobals "len" = some none)
    (z_list : PySem.W.nsIn K mainGlobals "list" = some none)
    (z_range : PySem.W.nsIn K mainGlobals "range" = some none)
    (z_sum : PySem.W.nsIn K mainGlobals "sum" = some none)
    (z_zip : PySem.W.nsIn K mainGlobals "zip" = some none)
    (q_LONGEST : PySem.W.nsIn K mainGlobals "LONGEST" = some (some (.int 12 t_LONGEST)))
    (q_GREATEST : PySem.W.nsIn K mainGlobals "GREATEST" = some (some (.int 200 t_GREATEST)))
    (aC_RingError : PySem.W.nsIn K mainGlobals "RingError" = some (some (.ref C_RingError)))
    (aC_BadRing : PySem.W.nsIn K mainGlobals "BadRing" = some (some (.ref C_BadRing)))
    (a_is_whole : PySem.W.nsIn K mainGlobals "is_whole" = some (some (.ref f_is_whole)))
    (l_is_whole : K.lookup f_is_whole = some ⟨oc_is_whole, od_is_whole, .func (PySem.W.fnOf "is_whole" "is_whole" (defArgs s_is_whole) (defBody s_is_whole) (defScope s_is_whole) .none kV_is_whole dc_is_whole pm_is_whole an_is_whole cd_is_whole ct_is_whole), sl_is_whole⟩)
    (cc_is_whole : PySem.W.codeIn K cd_is_whole "is_whole" = true)
    (kk_is_whole : PySem.W.keepIn K (.ref f_is_whole) = true)
    (a_asked_ring : PySem.W.nsIn K mainGlobals "asked_ring" = some (some (.ref f_asked_ring)))
    (l_asked_ring : K.lookup f_asked_ring = some ⟨oc_asked_ring, od_asked_ring, .func (PySem.W.fnOf "asked_ring" "asked_ring" (defArgs s_asked_ring) (defBody s_asked_ring) (defScope s_asked_ring) .none kV_asked_ring dc_asked_ring pm_asked_ring an_asked_ring cd_asked_ring ct_asked_ring), sl_asked_ring⟩)
    (cc_asked_ring : PySem.W.codeIn K cd_asked_ring "asked_ring" = true)
    (kk_asked_ring : PySem.W.keepIn K (.ref f_asked_ring) = true)
    (a_stepped : PySem.W.nsIn K mainGlobals "stepped" = some (some (.ref f_stepped)))
    (l_stepped : K.lookup f_stepped = some ⟨oc_stepped, od_stepped, .func (PySem.W.fnOf "stepped" "stepped" (defArgs s_stepped) (defBody s_stepped) (defScope s_stepped) .none kV_stepped dc_stepped pm_stepped an_stepped cd_stepped ct_stepped), sl_stepped⟩)
    (cc_stepped : PySem.W.codeIn K cd_stepped "stepped" = true)
    (kk_stepped : PySem.W.keepIn K (.ref f_stepped) = true)
    (a_step : PySem.W.nsIn K mainGlobals "step" = some (some (.ref f_step)))
    (l_step : K.lookup f_step = some ⟨oc_step, od_step, .func (PySem.W.fnOf "step" "step" (defArgs s_step) (defBody s_step) (defScope s_step) .none kV_step dc_step pm_step an_step cd_step ct_step), sl_step⟩)
    (cc_step : PySem.W.codeIn K cd_step "step" = true)
    (kk_step : PySem.W.keepIn K (.ref f_step) = true)
    (a_w_number : PySem.W.nsIn K mainGlobals "_law_number" = some (some (.ref f_w_number)))
    (l_w_number : K.lookup f_w_number = some ⟨oc_w_number, od_w_number, .func (PySem.W.fnOf "_law_number" "_law_number" (defArgs s_w_number) (defBody s_w_number) (defScope s_w_number) .none kV_w_number dc_w_number pm_w_number an_w_number cd_w_number ct_w_number), sl_w_number⟩)
    (cc_w_number : PySem.W.codeIn K cd_w_number "_law_number" = true)
    (kk_w_number : PySem.W.keepIn K (.ref f_w_number) = true)
    (a_w_ring : PySem.W.nsIn K mainGlobals "_law_ring" = some (some (.ref f_w_ring)))
    (l_w_ring : K.lookup f_w_ring = some ⟨oc_w_ring, od_w_ring, .func (PySem.W.fnOf "_law_ring" "_law_ring" (defArgs s_w_ring) (defBody s_w_ring) (defScope s_w_ring) .none kV_w_ring dc_w_ring pm_w_ring an_w_ring cd_w_ring ct_w_ring), sl_w_ring⟩)
    (cc_w_ring : PySem.W.codeIn K cd_w_ring "_law_ring" = true)
    (kk_w_ring : PySem.W.keepIn K (.ref f_w_ring) = true)
    (a_w_step : PySem.W.nsIn K mainGlobals "_law_step" = some (some (.ref f_w_step)))
    (l_w_step : K.lookup f_w_step = some ⟨oc_w_step, od_w_step, .func (PySem.W.fnOf "_law_step" "_law_step" (defArgs s_w_step) (defBody s_w_step) (defScope s_w_step) .none kV_w_step dc_w_step pm_w_step an_w_step cd_w_step ct_w_step), sl_w_step⟩)
    (cc_w_step : PySem.W.codeIn K cd_w_step "_law_step" = true)
    (kk_w_step : PySem.W.keepIn K (.ref f_w_step) = true)
    (a_law : PySem.W.nsIn K mainGlobals "law" = some (some (.ref f_law)))
    (l_law : K.lookup f_law = some ⟨oc_law, od_law, .func (PySem.W.fnOf "law" "law" (defArgs s_law) (defBody s_law) (defScope s_law) .none kV_law dc_law pm_law an_law cd_law ct_law), sl_law⟩)
    (cc_law : PySem.W.codeIn K cd_law "law" = true)
    (kk_law : PySem.W.keepIn K (.ref f_law) = true) : Nonempty (Txt K mg) := by
  have F_is_whole := fun_mk (st := s_is_whole) l_is_whole cc_is_whole kk_is_whole
  have b_is_whole := F_is_whole.binds (ps := ["thing"]) fun _ _ _ _ _ _ us hl => match us, hl with | [_], _ => rfl
  have F_asked_ring := fun_mk (st := s_asked_ring) l_asked_ring cc_asked_ring kk_asked_ring
  have b_asked_ring := F_asked_ring.binds (ps := ["ring"]) fun _ _ _ _ _ _ us hl => match us, hl with | [_], _ => rfl
  have F_stepped := fun_mk (st := s_stepped) l_stepped cc_stepped kk_stepped
  have b_stepped := F_stepped.binds (ps := ["ring"]) fun _ _ _ _ _ _ us hl => match us, hl with | [_], _ => rfl
  have F_step := fun_mk (st := s_step) l_step cc_step kk_step
  have b_step := F_step.binds (ps := ["ring"]) fun _ _ _ _ _ _ us hl => match us, hl with | [_], _ => rfl
  have F_w_number := fun_mk (st := s_w_number) l_w_number cc_w_number kk_w_number
  have b_w_number := F_w_number.binds (ps := ["_law_cell", "_law_at", "_law_whole"]) fun _ _ _ _ _ _ us hl => match us, hl with | [_, _, _], _ => rfl
  have F_w_ring := fun_mk (st := s_w_ring) l_w_ring cc_w_ring kk_w_ring
  have b_w_ring := F_w_ring.binds (ps := ["_law_script", "_law_by"]) fun _ _ _ _ _ _ us hl => match us, hl with | [_, _], _ => rfl
  have F_w_step := fun_mk (st := s_w_step) l_w_step cc_w_step kk_w_step
  have b_w_step := F_w_step.binds (ps := ["_law_ring_here"]) fun _ _ _ _ _ _ us hl => match us, hl with | [_], _ => rfl
  have F_law := fun_mk (st := s_law) l_law cc_law kk_law
  have b_law := F_law.binds (ps := ["_law_script"]) fun _ _ _ _ _ _ us hl => match us, hl with | [_], _ => rfl
  exact ⟨{ n_abs := PySem.W.mg_none_of X G z_abs, n_all := PySem.W.mg_none_of X G z_all, n_any := PySem.W.mg_none_of X G z_any, n_bool := PySem.W.mg_none_of X G z_bool, n_int := PySem.W.mg_none_of X G z_int, n_isinstance := PySem.W.mg_none_of X G z_isinstance, n_len := PySem.W.mg_none_of X G z_len, n_list := PySem.W.mg_none_of X G z_list, n_range := PySem.W.mg_none_of X G z_range, n_sum := PySem.W.mg_none_of X G z_sum, n_zip := PySem.W.mg_none_of X G z_zip, t_LONGEST := t_LONGEST, m_LONGEST := PySem.W.mg_of X G q_LONGEST, t_GREATEST := t_GREATEST, m_GREATEST := PySem.W.mg_of X G q_GREATEST, C_RingError := C_RingError, m_RingError := PySem.W.mg_of X G aC_RingError, C_BadRing := C_BadRing, m_BadRing := PySem.W.mg_of X G aC_BadRing, f_is_whole := f_is_whole, fd_is_whole := PySem.W.fnOf "is_whole" "is_whole" (defArgs s_is_whole) (defBody s_is_whole) (defScope s_is_whole) .none kV_is_whole dc_is_whole pm_is_whole an_is_whole cd_is_whole ct_is_whole, F_is_whole := F_is_whole, b_is_whole := b_is_whole, g_is_whole := PySem.W.mg_of X G a_is_whole, f_asked_ring := f_asked_ring, fd_asked_ring := PySem.W.fnOf "asked_ring" "asked_ring" (defArgs s_asked_ring) (defBody s_asked_ring) (defScope s_asked_ring) .none kV_asked_ring dc_asked_ring pm_asked_ring an_asked_ring cd_asked_ring ct_asked_ring, F_asked_ring := F_asked_ring, b_asked_ring := b_asked_ring, g_asked_ring := PySem.W.mg_of X G a_asked_ring, f_stepped := f_stepped, fd_stepped := PySem.W.fnOf "stepped" "stepped" (defArgs s_stepped) (defBody s_stepped) (defScope s_stepped) .none kV_stepped dc_stepped pm_stepped an_stepped cd_stepped ct_stepped, F_stepped := F_stepped, b_stepped := b_stepped, g_stepped := PySem.W.mg_of X G a_stepped, f_step := f_step, fd_step := PySem.W.fnOf "step" "step" (defArgs s_step) (defBody s_step) (defScope s_step) .none kV_step dc_step pm_step an_step cd_step ct_step, F_step := F_step, b_step := b_step, g_step := PySem.W.mg_of X G a_step, f_w_number := f_w_number, fd_w_number := PySem.W.fnOf "_law_number" "_law_number" (defArgs s_w_number) (defBody s_w_number) (defScope s_w_number) .none kV_w_number dc_w_number pm_w_number an_w_number cd_w_number ct_w_number, F_w_number := F_w_number, b_w_number := b_w_number, g_w_number := PySem.W.mg_of X G a_w_number, f_w_ring := f_w_ring, fd_w_ring := PySem.W.fnOf "_law_ring" "_law_ring" (defArgs s_w_ring) (defBody s_w_ring) (defScope s_w_ring) .none kV_w_ring dc_w_ring pm_w_ring an_w_ring cd_w_ring ct_w_ring, F_w_ring := F_w_ring, b_w_ring := b_w_ring, g_w_ring := PySem.W.mg_of X G a_w_ring, f_w_step := f_w_step, fd_w_step := PySem.W.fnOf "_law_step" "_law_step" (defArgs s_w_step) (defBody s_w_step) (defScope s_w_step) .none kV_w_step dc_w_step pm_w_step an_w_step cd_w_step ct_w_step, F_w_step := F_w_step, b_w_step := b_w_step, g_w_step := PySem.W.mg_of X G a_w_step, f_law := f_law, fd_law := PySem.W.fnOf "law" "law" (defArgs s_law) (defBody s_law) (defScope s_law) .none kV_law dc_law pm_law an_law cd_law ct_law, F_law := F_law, b_law := b_law, g_law := PySem.W.mg_of X G a_law }⟩
end RL
open PySem PySem.W PyProof.Rows
set_option maxRecDepth 100000 in
set_option maxHeartbeats 0 in
theorem PySem.Challenge.cw_ringdiffer_k01_step_holds : PySem.Challenge.rw_ringdiffer_k01_step.Holds := by
  w_on; o_law; k_head; (case hw => w_witness2)
  k_fill
  refine L2.walk_ofB (l := PySem.Challenge.rw_ringdiffer_k01_step) (n := 63) (k := 6) (x := "_law_script") (CX := fun _ => L2.CX0)
    (sp := fun w => RL.spLaw _) rfl (by decide) rfl ⟨rfl, by decide, by decide⟩
    (fun w h Y => PySem.W.kIn_of Y) ?F (fun _ _ a ns hl hb _ hS => ⟨a, ns, rfl, hS, hl, hb, fun _ => rfl⟩) (fun _ _ _ _ _ h => h)
  case F =>
    intro w mg fa h KX G hmg
    refine RL.law_of KX G hmg ?_
    refine' RL.txt_mk KX G ?z_abs ?z_all ?z_any ?z_bool ?z_int ?z_isinstance ?z_len ?z_list ?z_range ?z_sum ?z_zip ?q_LONGEST ?q_GREATEST ?aC_RingError ?aC_BadRing ?a_is_whole ?l_is_whole ?cc_is_whole ?kk_is_whole ?a_asked_ring ?l_asked_ring ?cc_asked_ring ?kk_asked_ring ?a_stepped ?l_stepped ?cc_stepped ?kk_stepped ?a_step ?l_step ?cc_step ?kk_step ?a_w_number ?l_w_number ?cc_w_number ?kk_w_number ?a_w_ring ?l_w_ring ?cc_w_ring ?kk_w_ring ?a_w_step ?l_w_step ?cc_w_step ?kk_w_step ?a_law ?l_law ?cc_law ?kk_law
    (case z_abs => first | k_is | rfl)
    (case z_all => first | k_is | rfl)
    (case z_any => first | k_is | rfl)
    (case z_bool => first | k_is | rfl)
    (case z_int => first | k_is | rfl)
    (case z_isinstance => first | k_is | rfl)
    (case z_len => first | k_is | rfl)
    (case z_list => first | k_is | rfl)
    (case z_range => first | k_is | rfl)
    (case z_sum => first | k_is | rfl)
    (case z_zip => first | k_is | rfl)
    (case q_LONGEST => first | k_is | rfl)
    (case q_GREATEST => first | k_is | rfl)
    (case aC_RingError => first | k_is | rfl)
    (case aC_BadRing => first | k_is | rfl)
    (case a_is_whole => first | k_is | rfl)
    (case l_is_whole => first | k_is | rfl)
    (case cc_is_whole => first | k_is | rfl)
    (case kk_is_whole => first | k_is | rfl)
    (case a_asked_ring => first | k_is | rfl)
    (case l_asked_ring => first | k_is | rfl)
    (case cc_asked_ring => first | k_is | rfl)
    (case kk_asked_ring => first | k_is | rfl)
    (case a_stepped => first | k_is | rfl)
    (case l_stepped => first | k_is | rfl)
    (case cc_stepped => first | k_is | rfl)
    (case kk_stepped => first | k_is | rfl)
    (case a_step => first | k_is | rfl)
    (case l_step => first | k_is | rfl)
    (case cc_step => first | k_is | rfl)
    (case kk_step => first | k_is | rfl)
    (case a_w_number => first | k_is | rfl)
    (case l_w_number => first | k_is | rfl)
    (case cc_w_number => first | k_is | rfl)
    (case kk_w_number => first | k_is | rfl)
    (case a_w_ring => first | k_is | rfl)
    (case l_w_ring => first | k_is | rfl)
    (case cc_w_ring => first | k_is | rfl)
    (case kk_w_ring => first | k_is | rfl)
    (case a_w_step => first | k_is | rfl)
    (case l_w_step => first | k_is | rfl)
    (case cc_w_step => first | k_is | rfl)
    (case kk_w_step => first | k_is | rfl)
    (case a_law => first | k_is | rfl)
    (case l_law => first | k_is | rfl)
    (case cc_law => first | k_is | rfl)
    (case kk_law => first | k_is | rfl)
