import PyProof.Rows.All
import Wide.All
import OpenK.AllK
import Wide.FinOn
import HandS.ForMost
import HandS.Walk
import HandS.Wide
import HandS.WideBits
import HandS.Gcd
import HandS.Deep
import HandS.SortKw
import HandS.Flow
import HandS.Zip
import PySem.Challenge.RW_floodmark_k09_whole_points_of_polyhedra
import KE.SortData
import KE.SortKeyHeap
import KE.SortCalls
import HandS.Nested
import HandS.Keys
import HandS.Lambda
import HandS.Defaults
import HandS.IsInst
import HandS.EndTab
import KE.KNestM
/-! Plain mathematics of integer vectors: dot, combination, gcd, small kernel vectors, rank. No program in sight. -/
set_option linter.all false
set_option maxHeartbeats 1000000
namespace FM
abbrev Vec := List Int
def dot (a b : Vec) : Int := (List.zipWith (fun x y => x * y) a b).sum
def comb (f : Int) (v : Vec) (s : Int) (o : Vec) : Vec := List.zipWith (fun a b => f * a + s * b) v o
def at0 (v : Vec) (i : Nat) : Int := v.getD i 0

@[simp] theorem dot_nil_l (v : Vec) : dot [] v = 0 := by simp [dot]
@[simp] theorem dot_nil_r (v : Vec) : dot v [] = 0 := by simp [dot]
@[simp] theorem dot_cons (a b : Int) (v w : Vec) : dot (a :: v) (b :: w) = a * b + dot v w := by simp [dot]
@[simp] theorem comb_nil (f s : Int) (w : Vec) : comb f [] s w = [] := by simp [comb]
@[simp] theorem comb_cons (f s a b : Int) (v w : Vec) : comb f (a :: v) s (b :: w) = (f * a + s * b) :: comb f v s w := by simp [comb]
theorem comb_len {f s : Int} : ∀ {v w : Vec}, v.length = w.length → (comb f v s w).length = v.length
  | [], _, _ => by simp
  | a :: v, [], h => by simp at h
  | a :: v, b :: w, h => by
    simp only [comb_cons, List.length_cons]
    rw [comb_len (by simpa using h)]
theorem dot_comb : ∀ (a : Vec) {v o : Vec} (f s : Int), v.length = o.length → dot a (comb f v s o) = f * dot a v + s * dot a o
  | [], _, _, _, _, _ => by simp
  | a :: as, [], [], f, s, _ => by simp
  | a :: as, [], o :: os, f, s, h => by simp at h
  | a :: as, v :: vs, [], f, s, h => by simp at h
  | a :: as, v :: vs, o :: os, f, s, h => by
    have ih := dot_comb as f s (show vs.length = os.length by simpa using h)
    simp only [comb_cons, dot_cons, ih]
    grind
theorem dot_comm : ∀ (a b : Vec), dot a b = dot b a
  | [], b => by simp
  | a :: as, [] => by simp
  | a :: as, b :: bs => by simp only [dot_cons, dot_comm as bs]; grind
theorem dot_comb_l (a : Vec) {v o : Vec} (f s : Int) (h : v.length = o.length) : dot (comb f v s o) a = f * dot v a + s * dot o a := by
  rw [dot_comm, dot_comb a f s h, dot_comm v, dot_comm o]
def smul (k : Int) (v : Vec) : Vec := v.map fun x => k * x
theorem smul_len (k : Int) (v : Vec) : (smul k v).length = v.length := by simp [smul]
theorem dot_smul : ∀ (a : Vec) (k : Int) (v : Vec), dot a (smul k v) = k * dot a v
  | [], k, v => by simp
  | a :: as, k, [] => by simp [smul]
  | a :: as, k, v :: vs => by
    have ih := dot_smul as k vs
    simp only [smul, List.map_cons, dot_cons] at ih ⊢
    rw [ih]; grind
theorem dot_smul_l (a : Vec) (k : Int) (v : Vec) : dot (smul k a) v = k * dot a v := by rw [dot_comm, dot_smul, dot_comm]
@[simp] theorem at0_nil (i : Nat) : at0 [] i = 0 := by simp [at0]
@[simp] theorem at0_zero (a : Int) (v : Vec) : at0 (a :: v) 0 = a := by simp [at0]
@[simp] theorem at0_succ (a : Int) (v : Vec) (i : Nat) : at0 (a :: v) (i + 1) = at0 v i := by simp [at0]
theorem at0_comb (f s : Int) : ∀ {v o : Vec} (i : Nat), v.length = o.length → at0 (comb f v s o) i = f * at0 v i + s * at0 o i
  | [], [], i, _ => by simp
  | [], o :: os, i, h => by simp at h
  | v :: vs, [], i, h => by simp at h
  | v :: vs, o :: os, 0, h => by simp
  | v :: vs, o :: os, i + 1, h => by
    simp only [comb_cons, at0_succ]
    exact at0_comb f s i (by simpa using h)
theorem at0_smul (k : Int) : ∀ (v : Vec) (i : Nat), at0 (smul k v) i = k * at0 v i
  | [], i => by simp [smul]
  | v :: vs, 0 => by simp [smul]
  | v :: vs, i + 1 => by
    have := at0_smul k vs i
    simpa [smul] using this
theorem at0_mem {v : Vec} {i : Nat} (h : at0 v i ≠ 0) : at0 v i ∈ v := by
  unfold at0 at h ⊢
  rw [List.getD_eq_getElem?_getD] at h ⊢
  cases e : v[i]? with
  | none => rw [e] at h; simp at h
  | some x => simp; exact List.mem_of_getElem? e
theorem mem_at0 {v : Vec} {x : Int} (h : x ∈ v) : ∃ i, i < v.length ∧ at0 v i = x := by
  obtain ⟨i, hi, e⟩ := List.getElem_of_mem h
  exact ⟨i, hi, by simp [at0, hi, e]⟩
theorem at0_ge {v : Vec} {i : Nat} (h : v.length ≤ i) : at0 v i = 0 := by
  unfold at0
  rw [List.getD_eq_getElem?_getD, List.getElem?_eq_none h]; rfl
def IsZero (v : Vec) : Prop := ∀ i, at0 v i = 0
theorem isZero_iff {v : Vec} : IsZero v ↔ ∀ x ∈ v, x = 0 := by
  constructor
  · intro h x hx
    obtain ⟨i, _, e⟩ := mem_at0 hx
    rw [← e, h i]
  · intro h i
    by_cases e : at0 v i = 0
    · exact e
    · exact h _ (at0_mem e)
theorem dot_zero : ∀ (a : Vec) {v : Vec}, IsZero v → dot a v = 0
  | [], v, _ => by simp
  | a :: as, [], _ => by simp
  | a :: as, v :: vs, h => by
    have h0 : v = 0 := by simpa using h 0
    have h1 : IsZero vs := fun i => by simpa using h (i + 1)
    rw [dot_cons, dot_zero as h1, h0]; simp
def unit (s k : Nat) : Vec := (List.range s).map fun i => if i = k then 1 else 0
theorem unit_len (s k : Nat) : (unit s k).length = s := by simp [unit]
theorem dot_map_range (f : Nat → Int) : ∀ (v : Vec) (o : Nat), (∀ i, i < v.length → f (o + i) = 0) → dot ((List.range v.length).map fun i => f (o + i)) v = 0
  | [], _, _ => by simp
  | v :: vs, o, h => by
    rw [List.length_cons, List.range_succ_eq_map, List.map_cons, List.map_map, dot_cons]
    have h0 : f (o + 0) = 0 := h 0 (by simp)
    rw [h0]
    have ih := dot_map_range f vs (o + 1) (fun i hi => by
      have := h (i + 1) (by simpa using hi)
      rw [show o + 1 + i = o + (i + 1) by omega]; exact this)
    have e : ((fun i => f (o + i)) ∘ Nat.succ) = fun i => f (o + 1 + i) := by
      funext i; simp only [Function.comp]; congr 1; omega
    rw [e, ih]; simp
theorem dot_unit_aux : ∀ (v : Vec) (o k : Nat), o ≤ k → dot ((List.range v.length).map fun i => if o + i = k then (1 : Int) else 0) v = at0 v (k - o)
  | [], o, k, _ => by simp
  | v :: vs, o, k, h => by
    rw [List.length_cons, List.range_succ_eq_map, List.map_cons, List.map_map, dot_cons]
    have e : ((fun i => if o + i = k then (1 : Int) else 0) ∘ Nat.succ) = fun i => if o + 1 + i = k then (1 : Int) else 0 := by
      funext i; simp only [Function.comp]; congr 1; simp only [eq_iff_iff]; omega
    rw [e]
    by_cases hk : o = k
    · subst hk
      have z := dot_map_range (fun i => if i = o then (1 : Int) else 0) vs (o + 1) (fun i hi => by
        show (if o + 1 + i = o then (1 : Int) else 0) = 0
        rw [if_neg (by omega)])
      have z' : dot (List.map (fun i => if o + 1 + i = o then (1 : Int) else 0) (List.range vs.length)) vs = 0 := z
      rw [z']; simp
    · have ih := dot_unit_aux vs (o + 1) k (by omega)
      rw [ih, if_neg (by omega)]
      rw [show k - o = (k - (o + 1)) + 1 by omega, at0_succ]; simp
theorem dot_unit {s k : Nat} {v : Vec} (h : v.length = s) : dot (unit s k) v = at0 v k := by
  have := dot_unit_aux v 0 k (Nat.zero_le _)
  simp only [Nat.zero_add, Nat.sub_zero] at this
  unfold unit
  rw [← h]; exact this
theorem unit_le {s k : Nat} {x : Int} (h : x ∈ unit s k) : x.natAbs ≤ 1 := by
  unfold unit at h
  obtain ⟨i, _, rfl⟩ := List.mem_map.mp h
  split <;> simp
theorem at0_unit {s k i : Nat} : at0 (unit s k) i = if i < s ∧ i = k then 1 else 0 := by
  unfold at0 unit
  rw [List.getD_eq_getElem?_getD, List.getElem?_map]
  by_cases h : i < s
  · rw [List.getElem?_range h]
    by_cases e : i = k
    · subst e; simp [h]
    · simp [e]
  · rw [List.getElem?_eq_none (by simp; omega)]
    simp [h]

/-! ### gcd -/
def gcdL (v : Vec) : Nat := v.foldl (fun d x => Nat.gcd d x.natAbs) 0
theorem gcdF_dvd : ∀ (v : Vec) (d : Nat), (v.foldl (fun d x => Nat.gcd d x.natAbs) d) ∣ d ∧ ∀ x ∈ v, (v.foldl (fun d x => Nat.gcd d x.natAbs) d) ∣ x.natAbs
  | [], d => ⟨Nat.dvd_refl _, by simp⟩
  | a :: v, d => by
    obtain ⟨h1, h2⟩ := gcdF_dvd v (Nat.gcd d a.natAbs)
    refine ⟨Nat.dvd_trans h1 (Nat.gcd_dvd_left _ _), fun x hx => ?_⟩
    rcases List.mem_cons.mp hx with rfl | hx
    · exact Nat.dvd_trans h1 (Nat.gcd_dvd_right _ _)
    · exact h2 x hx
theorem dvd_gcdF (m b : Nat) : ∀ (v : Vec) (d : Nat), m ∣ b * d → (∀ x ∈ v, m ∣ b * x.natAbs) → m ∣ b * (v.foldl (fun d x => Nat.gcd d x.natAbs) d)
  | [], d, h, _ => h
  | a :: v, d, h, hv => by
    refine dvd_gcdF m b v _ ?_ fun x hx => hv x (List.mem_cons_of_mem _ hx)
    rw [← Nat.gcd_mul_left]
    exact Nat.dvd_gcd h (hv a List.mem_cons_self)
theorem gcdL_dvd {v : Vec} {x : Int} (h : x ∈ v) : gcdL v ∣ x.natAbs := (gcdF_dvd v 0).2 x h
theorem dvd_gcdL {m b : Nat} {v : Vec} (h : ∀ x ∈ v, m ∣ b * x.natAbs) : m ∣ b * gcdL v := dvd_gcdF m b v 0 (by simp) h
theorem gcdL_zero {v : Vec} (h : gcdL v = 0) : ∀ x ∈ v, x = 0 := fun x hx => by
  have := gcdL_dvd hx
  rw [h] at this
  have := Nat.eq_zero_of_zero_dvd this
  omega
theorem gcdL_le {v : Vec} {B : Nat} (h : ∀ x ∈ v, x.natAbs ≤ B) : gcdL v ≤ B := by
  by_cases hz : ∃ x ∈ v, x ≠ 0
  · obtain ⟨x, hx, h0⟩ := hz
    exact Nat.le_trans (Nat.le_of_dvd (by omega) (gcdL_dvd hx)) (h x hx)
  · have : 0 ∣ 1 * gcdL v := dvd_gcdL fun x hx => by
      have : x = 0 := Classical.byContradiction fun h0 => hz ⟨x, hx, h0⟩
      subst this; simp
    have := Nat.eq_zero_of_zero_dvd this
    omega
def prim (v : Vec) : Vec := if gcdL v ≤ 1 then v else v.map fun x => x / (gcdL v : Int)
theorem prim_len (v : Vec) : (prim v).length = v.length := by unfold prim; split <;> simp
theorem prim_scale (v : Vec) : ∃ g : Int, 0 < g ∧ v = smul g (prim v) := by
  unfold prim
  split
  · exact ⟨1, by decide, by simp [smul]⟩
  · rename_i h
    refine ⟨(gcdL v : Int), by omega, ?_⟩
    unfold smul
    rw [List.map_map]
    have : ∀ x ∈ v, ((fun x => (gcdL v : Int) * x) ∘ fun x => x / (gcdL v : Int)) x = x := fun x hx => by
      have h1 : (gcdL v : Int) ∣ x := Int.ofNat_dvd_left.mpr (gcdL_dvd hx)
      exact Int.mul_ediv_cancel' h1
    exact (List.map_id v).symm.trans (List.map_congr_left fun x hx => (this x hx).symm)
theorem gcdL_smul (g : Nat) (v : Vec) : gcdL (smul g v) = g * gcdL v := by
  apply Nat.dvd_antisymm
  · refine dvd_gcdL fun x hx => ?_
    have : (g : Int) * x ∈ smul g v := List.mem_map.mpr ⟨x, hx, rfl⟩
    have := gcdL_dvd this
    rw [Int.natAbs_mul, Int.natAbs_natCast] at this
    exact this
  · have := dvd_gcdL (m := g * gcdL v) (b := 1) (v := smul g v) fun x hx => by
      obtain ⟨y, hy, rfl⟩ := List.mem_map.mp hx
      rw [Nat.one_mul, Int.natAbs_mul, Int.natAbs_natCast]
      exact Nat.mul_dvd_mul_left _ (gcdL_dvd hy)
    rwa [Nat.one_mul] at this
theorem prim_gcd {v : Vec} (h : ¬ IsZero v) : gcdL (prim v) = 1 := by
  have h0 : gcdL v ≠ 0 := fun e => h (isZero_iff.mpr (gcdL_zero e))
  by_cases h1 : gcdL v ≤ 1
  · unfold prim; rw [if_pos h1]; omega
  · obtain ⟨g, hg, e⟩ := prim_scale v
    have hg' : g = (gcdL v : Int) ∨ True := .inr trivial
    -- the scale is the gcd itself
    have e2 : v = smul (gcdL v) (prim v) := by
      unfold prim
      rw [if_neg h1]
      unfold smul
      rw [List.map_map]
      refine (List.map_id v).symm.trans (List.map_congr_left fun x hx => ?_)
      have h1 : (gcdL v : Int) ∣ x := Int.ofNat_dvd_left.mpr (gcdL_dvd hx)
      exact (Int.mul_ediv_cancel' h1).symm
    have e3 : gcdL v = gcdL v * gcdL (prim v) := by
      have := gcdL_smul (gcdL v) (prim v)
      rw [← e2] at this
      exact this
    have : gcdL v * 1 = gcdL v * gcdL (prim v) := by rw [Nat.mul_one]; exact e3
    exact (Nat.eq_of_mul_eq_mul_left (by omega) this).symm
theorem prim_le {v : Vec} {B : Nat} (h : ∀ x ∈ v, x.natAbs ≤ B) : ∀ x ∈ prim v, x.natAbs ≤ B := by
  intro x hx
  obtain ⟨g, hg, e⟩ := prim_scale v
  have : g * x ∈ v := by rw [e]; exact List.mem_map.mpr ⟨x, hx, rfl⟩
  have := h _ this
  rw [Int.natAbs_mul] at this
  have : 1 * x.natAbs ≤ g.natAbs * x.natAbs := Nat.mul_le_mul_right _ (by omega)
  omega
theorem dot_prim (v : Vec) : ∃ g : Int, 0 < g ∧ (∀ a, dot a v = g * dot a (prim v)) ∧ ∀ i, at0 v i = g * at0 (prim v) i := by
  obtain ⟨g, hg, e⟩ := prim_scale v
  refine ⟨g, hg, fun a => ?_, fun i => ?_⟩
  · conv => lhs; rw [e]
    exact dot_smul a g _
  · conv => lhs; rw [e]
    exact at0_smul g _ i
/-- a primitive vector that is parallel to u is no larger -/
theorem prim_small {l u : Vec} {a b : Int} (hg : gcdL l = 1) (ha : a ≠ 0) (hb : b ≠ 0) (h : ∀ i, a * at0 u i = b * at0 l i) (i : Nat) : (at0 l i).natAbs ≤ (at0 u i).natAbs := by
  have d : a.natAbs ∣ b.natAbs := by
    have := dvd_gcdL (m := a.natAbs) (b := b.natAbs) (v := l) fun x hx => by
      obtain ⟨j, _, e⟩ := mem_at0 hx
      have hj := h j
      rw [e] at hj
      rw [← Int.natAbs_mul, ← hj, Int.natAbs_mul]
      exact Nat.dvd_mul_right _ _
    rwa [hg, Nat.mul_one] at this
  have hle : a.natAbs ≤ b.natAbs := Nat.le_of_dvd (by omega) d
  have hi := congrArg Int.natAbs (h i)
  rw [Int.natAbs_mul, Int.natAbs_mul] at hi
  have h1 : a.natAbs * (at0 l i).natAbs ≤ a.natAbs * (at0 u i).natAbs := by
    rw [hi]; exact Nat.mul_le_mul_right _ hle
  exact Nat.le_of_mul_le_mul_left h1 (by omega)

/-! ### bounds -/
theorem dot_le {C B : Nat} : ∀ {a v : Vec}, (∀ x ∈ a, x.natAbs ≤ C) → (∀ x ∈ v, x.natAbs ≤ B) → (dot a v).natAbs ≤ v.length * (C * B)
  | [], v, _, _ => by simp
  | a :: as, [], _, _ => by simp
  | a :: as, v :: vs, ha, hv => by
    have ih := dot_le (a := as) (v := vs) (fun x hx => ha x (List.mem_cons_of_mem _ hx)) (fun x hx => hv x (List.mem_cons_of_mem _ hx))
    have h1 : (a * v).natAbs ≤ C * B := by
      rw [Int.natAbs_mul]
      exact Nat.mul_le_mul (ha a List.mem_cons_self) (hv v List.mem_cons_self)
    have h2 := Int.natAbs_add_le (a * v) (dot as vs)
    rw [dot_cons, List.length_cons, Nat.succ_mul]
    omega
theorem comb_le {F S B C : Nat} {f s : Int} : ∀ {v o : Vec}, f.natAbs ≤ F → s.natAbs ≤ S → (∀ x ∈ v, x.natAbs ≤ B) → (∀ x ∈ o, x.natAbs ≤ C) → ∀ x ∈ comb f v s o, x.natAbs ≤ F * B + S * C
  | [], _, _, _, _, _ => by simp
  | v :: vs, [], _, _, _, _ => by simp [comb]
  | v :: vs, o :: os, hf, hs, hv, ho => by
    intro x hx
    rw [comb_cons] at hx
    rcases List.mem_cons.mp hx with rfl | hx
    · have h1 : (f * v).natAbs ≤ F * B := by
        rw [Int.natAbs_mul]; exact Nat.mul_le_mul hf (hv v List.mem_cons_self)
      have h2 : (s * o).natAbs ≤ S * C := by
        rw [Int.natAbs_mul]; exact Nat.mul_le_mul hs (ho o List.mem_cons_self)
      have := Int.natAbs_add_le (f * v) (s * o)
      omega
    · exact comb_le hf hs (fun x hx => hv x (List.mem_cons_of_mem _ hx)) (fun x hx => ho x (List.mem_cons_of_mem _ hx)) x hx

/-! ### small vectors of a kernel -/
def Sg : Nat → Nat → Nat
  | 0, _ => 1
  | s + 1, C => s * C * Sg s (2 * C * C) + 1
theorem dot_e1 (s : Nat) : ∀ (a : Vec), dot a (1 :: List.replicate s 0) = at0 a 0
  | [] => by simp
  | a :: as => by
    rw [dot_cons, dot_zero as]
    · simp
    · exact isZero_iff.mpr fun x hx => (List.mem_replicate.mp hx).2
theorem elim_dot (h : Int) {a a0 : Vec} (e : a.length = a0.length) (v : Vec) : dot (comb h a.tail (-(at0 a 0)) a0.tail) v = h * dot a.tail v - at0 a 0 * dot a0.tail v := by
  rw [dot_comb_l _ _ _ (by simp [e])]; grind
theorem dot_head (a : Vec) (v0 : Int) (v : Vec) : dot a (v0 :: v) = at0 a 0 * v0 + dot a.tail v := by
  cases a with
  | nil => simp
  | cons a as => simp
theorem nz_tail {v0 : Int} {v : Vec} (h : ¬ IsZero (v0 :: v)) (h0 : IsZero v → v0 = 0) : ¬ IsZero v := fun z => h fun i => by
  cases i with
  | zero => simpa using h0 z
  | succ i => simpa using z i
theorem siegel : ∀ (s C : Nat) (A : List Vec), (∀ a ∈ A, a.length = s ∧ ∀ x ∈ a, x.natAbs ≤ C) → 1 ≤ C → ∀ v : Vec, v.length = s → ¬ IsZero v → (∀ a ∈ A, dot a v = 0) →
    ∃ u : Vec, u.length = s ∧ ¬ IsZero u ∧ (∀ a ∈ A, dot a u = 0) ∧ ∀ x ∈ u, x.natAbs ≤ Sg s C
  | 0, C, A, _, _, v, hv, nz, _ => by
    exfalso
    have : v = [] := List.eq_nil_of_length_eq_zero hv
    subst this
    exact nz fun i => by simp
  | s + 1, C, A, hA, hC, v, hv, nz, hk => by
    by_cases hall : ∀ a ∈ A, at0 a 0 = 0
    · refine ⟨1 :: List.replicate s 0, by simp, fun z => ?_, fun a ha => ?_, fun x hx => ?_⟩
      · have := z 0; simp at this
      · rw [dot_e1, hall a ha]
      · rcases List.mem_cons.mp hx with rfl | hx
        · simp only [Sg]; omega
        · rw [(List.mem_replicate.mp hx).2]; simp
    · obtain ⟨a0, h0, hh⟩ : ∃ a0, a0 ∈ A ∧ at0 a0 0 ≠ 0 := Classical.byContradiction fun z => hall fun a ha => Classical.byContradiction fun q => z ⟨a, ha, q⟩
      cases v with
      | nil => simp at hv
      | cons v0 v' =>
        have hlen : ∀ a ∈ A, a.length = a0.length := fun a ha => by rw [(hA a ha).1, (hA a0 h0).1]
        have hd : ∀ a ∈ A, at0 a 0 * v0 + dot a.tail v' = 0 := fun a ha => by rw [← dot_head]; exact hk a ha
        have hmemH : ∀ a ∈ A, (at0 a 0).natAbs ≤ C := fun a ha => by
          by_cases e : at0 a 0 = 0
          · rw [e]; simp
          · exact (hA a ha).2 _ (at0_mem e)
        have htl : ∀ a ∈ A, ∀ x ∈ a.tail, x.natAbs ≤ C := fun a ha x hx => (hA a ha).2 x (List.mem_of_mem_tail hx)
        have nz' : ¬ IsZero v' := nz_tail nz fun z => by
          have := hd a0 h0
          rw [dot_zero _ z] at this
          have : at0 a0 0 * v0 = 0 := by omega
          rcases Int.mul_eq_zero.mp this with e | e
          · exact absurd e hh
          · exact e
        obtain ⟨u', hu1, hu2, hu3, hu4⟩ := siegel s (2 * C * C) (A.map fun a => comb (at0 a0 0) a.tail (-(at0 a 0)) a0.tail) (fun b hb => by
            obtain ⟨a, ha, rfl⟩ := List.mem_map.mp hb
            refine ⟨?_, fun x hx => ?_⟩
            · rw [comb_len (by simp [hlen a ha]), List.length_tail, (hA a ha).1]; rfl
            · have := comb_le (F := C) (S := C) (B := C) (C := C) (hmemH a0 h0) (by rw [Int.natAbs_neg]; exact hmemH a ha) (htl a ha) (htl a0 h0) x hx
              rw [Nat.mul_assoc]; omega) (by
            have := Nat.mul_le_mul hC hC
            rw [Nat.mul_assoc]; omega) v' (by simpa using hv) nz' (fun b hb => by
            obtain ⟨a, ha, rfl⟩ := List.mem_map.mp hb
            rw [elim_dot _ (hlen a ha)]
            have e1 := hd a ha
            have e2 := hd a0 h0
            grind)
        refine ⟨(-(dot a0.tail u')) :: smul (at0 a0 0) u', by simp [smul_len, hu1], fun z => hu2 fun i => ?_, fun a ha => ?_, fun x hx => ?_⟩
        · have := z (i + 1)
          rw [at0_succ, at0_smul] at this
          rcases Int.mul_eq_zero.mp this with e | e
          · exact absurd e hh
          · exact e
        · rw [dot_head, dot_smul]
          have := hu3 _ (List.mem_map.mpr ⟨a, ha, rfl⟩)
          rw [elim_dot _ (hlen a ha)] at this
          grind
        · have hs : 1 ≤ s := by
            cases s with
            | zero =>
              exfalso
              have : u' = [] := List.eq_nil_of_length_eq_zero hu1
              subst this
              exact hu2 fun i => by simp
            | succ s => omega
          show x.natAbs ≤ s * C * Sg s (2 * C * C) + 1
          rcases List.mem_cons.mp hx with rfl | hx
          · have := dot_le (C := C) (B := Sg s (2 * C * C)) (htl a0 h0) hu4
            rw [hu1] at this
            rw [Int.natAbs_neg, Nat.mul_assoc]; omega
          · obtain ⟨y, hy, rfl⟩ := List.mem_map.mp hx
            rw [Int.natAbs_mul]
            have h1 := Nat.mul_le_mul (hmemH a0 h0) (hu4 y hy)
            have h2 : 1 * (C * Sg s (2 * C * C)) ≤ s * (C * Sg s (2 * C * C)) := Nat.mul_le_mul_right _ hs
            rw [Nat.mul_assoc]; omega
/-- the constraints that matter: at most one each dimension -/
theorem rank : ∀ (s : Nat) (A : List Vec), (∀ a ∈ A, a.length = s) → ∃ B : List Vec, (∀ b ∈ B, b ∈ A) ∧ B.length ≤ s ∧ (∀ v : Vec, v.length = s → (∀ b ∈ B, dot b v = 0) → ∀ a ∈ A, dot a v = 0) ∧
    ((∃ v : Vec, v.length = s ∧ ¬ IsZero v ∧ ∀ a ∈ A, dot a v = 0) → B.length + 1 ≤ s)
  | 0, A, hA => by
    refine ⟨[], by simp, by simp, fun v hv _ a ha => ?_, fun ⟨v, hv, nz, _⟩ => ?_⟩
    · have : v = [] := List.eq_nil_of_length_eq_zero hv
      subst this; simp
    · exfalso
      have : v = [] := List.eq_nil_of_length_eq_zero hv
      subst this
      exact nz fun i => by simp
  | s + 1, A, hA => by
    -- lists of images, pulled back
    have pull : ∀ (f : Vec → Vec) (B : List Vec), (∀ b ∈ B, b ∈ A.map f) → ∃ B' : List Vec, B'.length = B.length ∧ (∀ b ∈ B', b ∈ A) ∧ ∀ b ∈ B, ∃ b' ∈ B', f b' = b := by
      intro f B
      induction B with
      | nil => intro _; exact ⟨[], rfl, by simp, by simp⟩
      | cons b B ih =>
        intro h
        obtain ⟨B', h1, h2, h3⟩ := ih fun x hx => h x (List.mem_cons_of_mem _ hx)
        obtain ⟨a, ha, e⟩ := List.mem_map.mp (h b List.mem_cons_self)
        refine ⟨a :: B', by simp [h1], fun x hx => ?_, fun x hx => ?_⟩
        · rcases List.mem_cons.mp hx with rfl | hx
          · exact ha
          · exact h2 x hx
        · rcases List.mem_cons.mp hx with rfl | hx
          · exact ⟨a, List.mem_cons_self, e⟩
          · obtain ⟨b', hb', e'⟩ := h3 x hx
            exact ⟨b', List.mem_cons_of_mem _ hb', e'⟩
    by_cases hall : ∀ a ∈ A, at0 a 0 = 0
    · obtain ⟨B, h1, h2, h3, _⟩ := rank s (A.map List.tail) (fun b hb => by
        obtain ⟨a, ha, rfl⟩ := List.mem_map.mp hb
        rw [List.length_tail, hA a ha]; rfl)
      obtain ⟨B', e1, e2, e3⟩ := pull List.tail B h1
      refine ⟨B', e2, by omega, fun v hv hb a ha => ?_, fun _ => by omega⟩
      cases v with
      | nil => simp at hv
      | cons v0 v' =>
        have key := h3 v' (by simpa using hv) (fun b hb' => by
          obtain ⟨b', hb1, rfl⟩ := e3 b hb'
          have := hb b' hb1
          rw [dot_head, hall b' (e2 b' hb1)] at this
          simpa using this) a.tail (List.mem_map.mpr ⟨a, ha, rfl⟩)
        rw [dot_head, hall a ha, key]; simp
    · obtain ⟨a0, h0, hh⟩ : ∃ a0, a0 ∈ A ∧ at0 a0 0 ≠ 0 := Classical.byContradiction fun z => hall fun a ha => Classical.byContradiction fun q => z ⟨a, ha, q⟩
      have hlen : ∀ a ∈ A, a.length = a0.length := fun a ha => by rw [hA a ha, hA a0 h0]
      obtain ⟨B, h1, h2, h3, h4⟩ := rank s (A.map fun a => comb (at0 a0 0) a.tail (-(at0 a 0)) a0.tail) (fun b hb => by
        obtain ⟨a, ha, rfl⟩ := List.mem_map.mp hb
        rw [comb_len (by simp [hlen a ha]), List.length_tail, hA a ha]; rfl)
      obtain ⟨B', e1, e2, e3⟩ := pull _ B h1
      refine ⟨a0 :: B', fun b hb => ?_, by simp; omega, fun v hv hb a ha => ?_, fun ⟨v, hv, nz, hk⟩ => ?_⟩
      · rcases List.mem_cons.mp hb with rfl | hb
        · exact h0
        · exact e2 b hb
      · cases v with
        | nil => simp at hv
        | cons v0 v' =>
          have d0 := hb a0 List.mem_cons_self
          rw [dot_head] at d0
          have key := h3 v' (by simpa using hv) (fun b hb' => by
            obtain ⟨b', hb1, rfl⟩ := e3 b hb'
            have d1 := hb b' (List.mem_cons_of_mem _ hb1)
            rw [dot_head] at d1
            rw [elim_dot _ (hlen b' (e2 b' hb1))]
            grind) _ (List.mem_map.mpr ⟨a, ha, rfl⟩)
          rw [elim_dot _ (hlen a ha)] at key
          rw [dot_head]
          have : at0 a0 0 * (at0 a 0 * v0 + dot a.tail v') = 0 := by grind
          rcases Int.mul_eq_zero.mp this with e | e
          · exact absurd e hh
          · exact e
      · cases v with
        | nil => simp at hv
        | cons v0 v' =>
          have hd : ∀ a ∈ A, at0 a 0 * v0 + dot a.tail v' = 0 := fun a ha => by rw [← dot_head]; exact hk a ha
          have nz' : ¬ IsZero v' := nz_tail nz fun z => by
            have := hd a0 h0
            rw [dot_zero _ z] at this
            have : at0 a0 0 * v0 = 0 := by omega
            rcases Int.mul_eq_zero.mp this with e | e
            · exact absurd e hh
            · exact e
          have := h4 ⟨v', by simpa using hv, nz', fun b hb => by
            obtain ⟨a, ha, rfl⟩ := List.mem_map.mp hb
            rw [elim_dot _ (hlen a ha)]
            have e1 := hd a ha
            have e2 := hd a0 h0
            grind⟩
          simp; omega
end FM
/-! Cones by conditions: completeness of a list of rays from «every vector has a ray with at least its zeros», the step of the double description. -/
set_option linter.all false
set_option maxHeartbeats 2000000
namespace FM
/-- a condition, an equation where the flag is true -/
abbrev Con := Vec × Bool
abbrev Ray := Vec × Nat
def Lin (A : List Con) (v : Vec) : Prop := ∀ c ∈ A, dot c.1 v = 0
def Cn (A : List Con) (v : Vec) : Prop := ∀ c ∈ A, 0 ≤ dot c.1 v ∧ (c.2 = true → dot c.1 v = 0)
def Sub (A : List Con) (v r : Vec) : Prop := ∀ c ∈ A, dot c.1 v = 0 → dot c.1 r = 0
def mu (A : List Con) (v : Vec) : Nat := A.countP fun c => decide (dot c.1 v ≠ 0)
theorem Sub.refl (A : List Con) (v : Vec) : Sub A v v := fun _ _ h => h
theorem Sub.trans {A : List Con} {u v w : Vec} (a : Sub A u v) (b : Sub A v w) : Sub A u w := fun c hc h => b c hc (a c hc h)
theorem mu_le : ∀ {A : List Con} {v u : Vec}, Sub A v u → mu A u ≤ mu A v
  | [], _, _, _ => Nat.le_refl _
  | c :: A, v, u, h => by
    have ih := mu_le (A := A) (v := v) (u := u) fun c hc => h c (List.mem_cons_of_mem _ hc)
    have h0 := h c List.mem_cons_self
    unfold mu at ih ⊢
    rw [List.countP_cons, List.countP_cons]
    by_cases e : dot c.1 v = 0
    · simp [e, h0 e]; simpa using ih
    · by_cases e2 : dot c.1 u = 0
      · simp [e, e2]; simp at ih; omega
      · simp [e, e2]; simpa using ih
theorem mu_lt : ∀ {A : List Con} {v u : Vec}, Sub A v u → (∃ c ∈ A, dot c.1 v ≠ 0 ∧ dot c.1 u = 0) → mu A u < mu A v
  | [], _, _, _, h => by obtain ⟨c, hc, _⟩ := h; cases hc
  | c :: A, v, u, h, hx => by
    have hs : Sub A v u := fun c hc => h c (List.mem_cons_of_mem _ hc)
    have h0 := h c List.mem_cons_self
    obtain ⟨d, hd, e1, e2⟩ := hx
    rcases List.mem_cons.mp hd with rfl | hd
    · have ih := mu_le hs
      unfold mu at ih ⊢
      rw [List.countP_cons, List.countP_cons]
      simp [e1, e2]; simp at ih; omega
    · have ih := mu_lt hs ⟨d, hd, e1, e2⟩
      unfold mu at ih ⊢
      rw [List.countP_cons, List.countP_cons]
      by_cases e : dot c.1 v = 0
      · simp [e, h0 e]; simpa using ih
      · by_cases e2 : dot c.1 u = 0
        · simp [e, e2]; simp at ih; omega
        · simp [e, e2]; simpa using ih
theorem minratio {α : Type} (f g : α → Int) : ∀ l : List α, (∃ c ∈ l, 0 < g c) → ∃ c0 ∈ l, 0 < g c0 ∧ ∀ c ∈ l, 0 < g c → f c0 * g c ≤ f c * g c0
  | [], h => by obtain ⟨c, hc, _⟩ := h; cases hc
  | a :: l, h => by
    by_cases hl : ∃ c ∈ l, 0 < g c
    · obtain ⟨c1, h1, h2, h3⟩ := minratio f g l hl
      by_cases ha : 0 < g a ∧ f a * g c1 < f c1 * g a
      · refine ⟨a, List.mem_cons_self, ha.1, fun c hc hg => ?_⟩
        rcases List.mem_cons.mp hc with rfl | hc
        · exact Int.le_refl _
        · have q1 := Int.mul_le_mul_of_nonneg_right (Int.le_of_lt ha.2) (Int.le_of_lt hg)
          have q2 := Int.mul_le_mul_of_nonneg_right (h3 c hc hg) (Int.le_of_lt ha.1)
          refine Int.le_of_mul_le_mul_right (a := g c1) ?_ h2
          grind
      · refine ⟨c1, List.mem_cons_of_mem _ h1, h2, fun c hc hg => ?_⟩
        rcases List.mem_cons.mp hc with rfl | hc
        · by_cases q : f c * g c1 < f c1 * g c
          · exact absurd ⟨hg, q⟩ ha
          · omega
        · exact h3 c hc hg
    · obtain ⟨c, hc, hg⟩ := h
      rcases List.mem_cons.mp hc with rfl | hc
      · refine ⟨c, List.mem_cons_self, hg, fun d hd hgd => ?_⟩
        rcases List.mem_cons.mp hd with rfl | hd
        · exact Int.le_refl _
        · exact absurd ⟨d, hd, hgd⟩ hl
      · exact absurd ⟨c, hc, hg⟩ hl
/-- from v along -r until a further condition is 0 -/
theorem walk {A : List Con} {v r : Vec} (hl : v.length = r.length) (cv : Cn A v) (cr : Cn A r) (hs : Sub A v r) (nl : ¬ Lin A r) :
    ∃ k t : Int, 0 < k ∧ 0 < t ∧ Cn A (comb k v (-t) r) ∧ Sub A v (comb k v (-t) r) ∧ ∃ c ∈ A, dot c.1 v ≠ 0 ∧ dot c.1 (comb k v (-t) r) = 0 := by
  obtain ⟨c0, h0, hpos, hmin⟩ := minratio (fun c : Con => dot c.1 v) (fun c => dot c.1 r) A (by
    refine Classical.byContradiction fun z => nl fun c hc => ?_
    have h1 := (cr c hc).1
    by_cases e : 0 < dot c.1 r
    · exact absurd ⟨c, hc, e⟩ z
    · omega)
  have hv0 : dot c0.1 v ≠ 0 := fun e => by
    have := hs c0 h0 e
    omega
  have hv1 := (cv c0 h0).1
  have d : ∀ a, dot a (comb (dot c0.1 r) v (-(dot c0.1 v)) r) = dot c0.1 r * dot a v - dot c0.1 v * dot a r := fun a => by
    rw [dot_comb a _ _ hl]; grind
  refine ⟨dot c0.1 r, dot c0.1 v, hpos, by omega, fun c hc => ⟨?_, fun e => ?_⟩, fun c hc e => ?_, c0, h0, hv0, ?_⟩
  · rw [d]
    have h1 := (cr c hc).1
    have h2 := (cv c hc).1
    by_cases e : 0 < dot c.1 r
    · have := hmin c hc e
      grind
    · have e' : dot c.1 r = 0 := by omega
      rw [e']
      have := Int.mul_nonneg (Int.le_of_lt hpos) h2
      omega
  · rw [d, (cv c hc).2 e, (cr c hc).2 e]; simp
  · rw [d, e, hs c hc e]; simp
  · rw [d]; grind
section
variable {s : Nat} {A : List Con} {Rs : List Ray}
/-- every vector of the cone that is no line has a ray that is 0 where it is 0 -/
def EE (s : Nat) (A : List Con) (Rs : List Ray) : Prop := ∀ v : Vec, v.length = s → Cn A v → ¬ Lin A v → ∃ r ∈ Rs, Sub A v r.1
def RR (s : Nat) (A : List Con) (Rs : List Ray) : Prop := ∀ r ∈ Rs, r.1.length = s ∧ Cn A r.1 ∧ ¬ Lin A r.1
theorem face (hE : EE s A Rs) (hr : RR s A Rs) (c : Vec) (hc : ∀ v : Vec, v.length = s → Lin A v → dot c v = 0) : ∀ (n : Nat) (v : Vec), mu A v ≤ n → v.length = s → Cn A v → (∀ r ∈ Rs, Sub A v r.1 → 0 ≤ dot c r.1) → 0 ≤ dot c v := by
  intro n
  induction n with
  | zero =>
    intro v hm hl cv h
    by_cases nl : Lin A v
    · rw [hc v hl nl]; exact Int.le_refl _
    · obtain ⟨r, h1, h2⟩ := hE v hl cv nl
      obtain ⟨k, t, hk, ht, cu, su, c0, hc0, e1, e2⟩ := walk (by rw [hl, (hr r h1).1]) cv (hr r h1).2.1 h2 (hr r h1).2.2
      have := mu_lt su ⟨c0, hc0, e1, e2⟩
      omega
  | succ n ih =>
    intro v hm hl cv h
    by_cases nl : Lin A v
    · rw [hc v hl nl]; exact Int.le_refl _
    · obtain ⟨r, h1, h2⟩ := hE v hl cv nl
      have hlr : v.length = r.1.length := by rw [hl, (hr r h1).1]
      obtain ⟨k, t, hk, ht, cu, su, c0, hc0, e1, e2⟩ := walk hlr cv (hr r h1).2.1 h2 (hr r h1).2.2
      have hlt := mu_lt su ⟨c0, hc0, e1, e2⟩
      have key := ih (comb k v (-t) r.1) (by omega) (by rw [comb_len hlr, hl]) cu fun r' h' s' => h r' h' (su.trans s')
      rw [dot_comb c _ _ hlr] at key
      have h3 := Int.mul_nonneg (Int.le_of_lt ht) (h r h1 h2)
      have h4 : 0 ≤ k * dot c v := by grind
      exact Int.le_of_mul_le_mul_left (a := k) (by simpa using h4) hk
theorem face1 (hE : EE s A Rs) (hr : RR s A Rs) (c : Vec) (hc : ∀ v : Vec, v.length = s → Lin A v → dot c v = 0) {v : Vec} (hl : v.length = s) (cv : Cn A v) (h : ∀ r ∈ Rs, Sub A v r.1 → 0 ≤ dot c r.1) : 0 ≤ dot c v :=
  face hE hr c hc _ v (Nat.le_refl _) hl cv h
theorem face2 (hE : EE s A Rs) (hr : RR s A Rs) (c : Vec) (hc : ∀ v : Vec, v.length = s → Lin A v → dot c v = 0) {v : Vec} (hl : v.length = s) (cv : Cn A v) (nl : ¬ Lin A v) (h : ∀ r ∈ Rs, Sub A v r.1 → 0 < dot c r.1) : 0 < dot c v := by
  obtain ⟨r, h1, h2⟩ := hE v hl cv nl
  have hlr : v.length = r.1.length := by rw [hl, (hr r h1).1]
  obtain ⟨k, t, hk, ht, cu, su, c0, hc0, e1, e2⟩ := walk hlr cv (hr r h1).2.1 h2 (hr r h1).2.2
  have key := face1 hE hr c hc (v := comb k v (-t) r.1) (by rw [comb_len hlr, hl]) cu fun r' h' s' => Int.le_of_lt (h r' h' (su.trans s'))
  rw [dot_comb c _ _ hlr] at key
  have h3 := Int.mul_pos ht (h r h1 h2)
  have h4 : 0 < k * dot c v := by grind
  exact Int.lt_of_mul_lt_mul_left (a := k) (by simpa using h4) (Int.le_of_lt hk)
/-- the same with the other sign -/
theorem dot_neg (c v : Vec) : dot (smul (-1) c) v = - dot c v := by rw [dot_smul_l]; grind
theorem face1' (hE : EE s A Rs) (hr : RR s A Rs) (c : Vec) (hc : ∀ v : Vec, v.length = s → Lin A v → dot c v = 0) {v : Vec} (hl : v.length = s) (cv : Cn A v) (h : ∀ r ∈ Rs, Sub A v r.1 → dot c r.1 ≤ 0) : dot c v ≤ 0 := by
  have := face1 hE hr (smul (-1) c) (fun v h1 h2 => by rw [dot_neg, hc v h1 h2]; rfl) hl cv (fun r h1 h2 => by have := h r h1 h2; rw [dot_neg]; omega)
  rw [dot_neg] at this
  omega
theorem face2' (hE : EE s A Rs) (hr : RR s A Rs) (c : Vec) (hc : ∀ v : Vec, v.length = s → Lin A v → dot c v = 0) {v : Vec} (hl : v.length = s) (cv : Cn A v) (nl : ¬ Lin A v) (h : ∀ r ∈ Rs, Sub A v r.1 → dot c r.1 < 0) : dot c v < 0 := by
  have := face2 hE hr (smul (-1) c) (fun v h1 h2 => by rw [dot_neg, hc v h1 h2]; rfl) hl cv nl (fun r h1 h2 => by have := h r h1 h2; rw [dot_neg]; omega)
  rw [dot_neg] at this
  omega
def AA (A : List Con) (Rs : List Ray) : Prop := Rs.Pairwise fun x y => ¬ Sub A x.1 y.1 ∧ ¬ Sub A y.1 x.1
theorem pw_mem {α : Type} {R : α → α → Prop} (hs : ∀ x y, R x y → R y x) : ∀ {l : List α}, l.Pairwise R → ∀ x ∈ l, ∀ y ∈ l, x ≠ y → R x y
  | [], _, x, hx, _, _, _ => by cases hx
  | a :: l, h, x, hx, y, hy, ne => by
    rw [List.pairwise_cons] at h
    rcases List.mem_cons.mp hx with ex | hx2
    · rcases List.mem_cons.mp hy with ey | hy2
      · exact absurd (ex.trans ey.symm) ne
      · rw [ex]; exact h.1 y hy2
    · rcases List.mem_cons.mp hy with ey | hy2
      · rw [ey]; exact hs _ _ (h.1 x hx2)
      · exact pw_mem hs h.2 x hx2 y hy2 ne
theorem AA.eq (h : AA A Rs) {x y : Ray} (hx : x ∈ Rs) (hy : y ∈ Rs) (q : Sub A x.1 y.1) : x = y :=
  Classical.byContradiction fun ne => (pw_mem (fun _ _ z => ⟨z.2, z.1⟩) h x hx y hy ne).1 q
theorem big (f : Con → Int) : ∀ A : List Con, ∃ K : Int, 0 < K ∧ ∀ c ∈ A, - K < f c
  | [] => ⟨1, by decide, by simp⟩
  | a :: A => by
    obtain ⟨K, h1, h2⟩ := big f A
    refine ⟨K + (f a).natAbs + 1, by omega, fun c hc => ?_⟩
    rcases List.mem_cons.mp hc with rfl | hc
    · omega
    · have := h2 c hc; omega
/-- a ray is the only vector that is 0 where it is, but for multiples and lines -/
theorem extreme (hE : EE s A Rs) (hr : RR s A Rs) (hA : AA A Rs) {r : Ray} (hm : r ∈ Rs) {u : Vec} (hu : u.length = s) (hz : ∀ c ∈ A, dot c.1 r.1 = 0 → dot c.1 u = 0) : ∃ k t : Int, 0 < k ∧ Lin A (comb k u t r.1) := by
  obtain ⟨hlr, cr, nr⟩ := hr r hm
  have hl : r.1.length = u.length := by rw [hlr, hu]
  obtain ⟨K, hK, hb⟩ := big (fun c => dot c.1 u) A
  have d : ∀ a, dot a (comb K r.1 1 u) = K * dot a r.1 + dot a u := fun a => by rw [dot_comb a _ _ hl]; grind
  have pos : ∀ c ∈ A, dot c.1 r.1 ≠ 0 → 0 < dot c.1 (comb K r.1 1 u) := fun c hc h => by
    rw [d]
    have h1 := hb c hc
    have h2 : 1 ≤ dot c.1 r.1 := by have := (cr c hc).1; omega
    have := Int.mul_le_mul_of_nonneg_left h2 (Int.le_of_lt hK)
    omega
  have zer : ∀ c ∈ A, dot c.1 r.1 = 0 → dot c.1 (comb K r.1 1 u) = 0 := fun c hc h => by rw [d, h, hz c hc h]; simp
  have cv : Cn A (comb K r.1 1 u) := fun c hc => by
    by_cases h : dot c.1 r.1 = 0
    · rw [zer c hc h]; exact ⟨Int.le_refl _, fun _ => rfl⟩
    · exact ⟨Int.le_of_lt (pos c hc h), fun e => absurd ((cr c hc).2 e) h⟩
  have lv : (comb K r.1 1 u).length = s := by rw [comb_len hl, hlr]
  have sv : Sub A (comb K r.1 1 u) r.1 := fun c hc h => Classical.byContradiction fun h' => by
    have := pos c hc h'
    omega
  obtain ⟨k, t, hk, ht, cu, su, c0, hc0, e1, e2⟩ := walk (by rw [lv, hlr]) cv cr sv nr
  refine ⟨k, k * K - t, hk, ?_⟩
  have lin : Lin A (comb k (comb K r.1 1 u) (-t) r.1) := Classical.byContradiction fun nl => by
    obtain ⟨r2, h2, s2⟩ := hE _ (by rw [comb_len (by rw [lv, hlr]), lv]) cu nl
    have e : r = r2 := hA.eq hm h2 (show Sub A r.1 r2.1 from fun c hc h => s2 c hc (su c hc (zer c hc h)))
    subst e
    have := s2 c0 hc0 e2
    exact e1 (zer c0 hc0 this)
  intro c hc
  have := lin c hc
  rw [dot_comb c.1 _ _ (by rw [lv, hlr]), d] at this
  rw [dot_comb c.1 _ _ hl.symm]
  grind
end

/-! ### lines, each alone at its own index -/
structure DB (s : Nat) (A : List Vec) (D : List (Nat × Vec)) : Prop where
  len : ∀ x ∈ D, x.2.length = s
  lin : ∀ x ∈ D, ∀ a ∈ A, dot a x.2 = 0
  nz : ∀ x ∈ D, at0 x.2 x.1 ≠ 0
  diag : ∀ x ∈ D, ∀ y ∈ D, x.1 ≠ y.1 → at0 x.2 y.1 = 0
  nodup : (D.map Prod.fst).Nodup
  full : ∀ v : Vec, v.length = s → (∀ a ∈ A, dot a v = 0) → (∀ x ∈ D, at0 v x.1 = 0) → IsZero v
theorem sweep {s : Nat} : ∀ D : List (Nat × Vec), (∀ x ∈ D, x.2.length = s) → (∀ x ∈ D, at0 x.2 x.1 ≠ 0) → (∀ x ∈ D, ∀ y ∈ D, x.1 ≠ y.1 → at0 x.2 y.1 = 0) → (D.map Prod.fst).Nodup → ∀ v : Vec, v.length = s →
    ∃ (k : Int) (w : Vec), k ≠ 0 ∧ w.length = s ∧ (∀ a, (∀ x ∈ D, dot a x.2 = 0) → dot a w = k * dot a v) ∧ (∀ x ∈ D, at0 w x.1 = 0) ∧ ∀ j, (∀ x ∈ D, at0 x.2 j = 0) → at0 w j = k * at0 v j
  | [], _, _, _, _, v, hv => ⟨1, v, by decide, hv, by simp, by simp, by simp⟩
  | x :: D, hl, hn, hd, nd, v, hv => by
    rw [List.map_cons, List.nodup_cons] at nd
    obtain ⟨k, w, h1, h2, h3, h4, h5⟩ := sweep D (fun y hy => hl y (List.mem_cons_of_mem _ hy)) (fun y hy => hn y (List.mem_cons_of_mem _ hy)) (fun y hy z hz => hd y (List.mem_cons_of_mem _ hy) z (List.mem_cons_of_mem _ hz)) nd.2 v hv
    have lx := hl x List.mem_cons_self
    have nx := hn x List.mem_cons_self
    have hlw : w.length = x.2.length := by rw [h2, lx]
    refine ⟨at0 x.2 x.1 * k, comb (at0 x.2 x.1) w (-(at0 w x.1)) x.2, ?_, by rw [comb_len hlw, h2], fun a ha => ?_, fun y hy => ?_, fun j hj => ?_⟩
    · intro e
      rcases Int.mul_eq_zero.mp e with e | e
      · exact nx e
      · exact h1 e
    · rw [dot_comb a _ _ hlw, h3 a fun y hy => ha y (List.mem_cons_of_mem _ hy), ha x List.mem_cons_self]; grind
    · rw [at0_comb _ _ _ hlw]
      rcases List.mem_cons.mp hy with rfl | hy
      · grind
      · have ne : x.1 ≠ y.1 := fun e => nd.1 (List.mem_map.mpr ⟨y, hy, e.symm⟩)
        rw [h4 y hy, hd x List.mem_cons_self y (List.mem_cons_of_mem _ hy) ne]; simp
    · rw [at0_comb _ _ _ hlw, h5 j fun y hy => hj y (List.mem_cons_of_mem _ hy), hj x List.mem_cons_self]; grind
section
variable {s : Nat} {A : List Vec} {D : List (Nat × Vec)}
theorem DB.kill (h : DB s A D) {c : Vec} (hc : ∀ x ∈ D, dot c x.2 = 0) {v : Vec} (hv : v.length = s) (hk : ∀ a ∈ A, dot a v = 0) : dot c v = 0 := by
  obtain ⟨k, w, h1, h2, h3, h4, _⟩ := sweep D h.len h.nz h.diag h.nodup v hv
  have z : IsZero w := h.full w h2 (fun a ha => by rw [h3 a fun x hx => h.lin x hx a ha, hk a ha]; simp) h4
  have := h3 c hc
  rw [dot_zero c z] at this
  rcases Int.mul_eq_zero.mp this.symm with e | e
  · exact absurd e h1
  · exact e
theorem DB.bound (h : DB s A D) {C : Nat} (hC : 1 ≤ C) (hA : ∀ a ∈ A, a.length = s ∧ ∀ x ∈ a, x.natAbs ≤ C) {x : Nat × Vec} (hx : x ∈ D) (hg : gcdL x.2 = 1) : ∀ y ∈ x.2, y.natAbs ≤ Sg s C := by
  have nx := h.nz x hx
  have lx := h.len x hx
  obtain ⟨u, hu1, hu2, hu3, hu4⟩ := siegel s C (A ++ ((D.map Prod.fst).filter fun j => decide (j ≠ x.1)).map (unit s)) (fun a ha => by
      rcases List.mem_append.mp ha with ha | ha
      · exact hA a ha
      · obtain ⟨j, _, rfl⟩ := List.mem_map.mp ha
        exact ⟨unit_len _ _, fun y hy => Nat.le_trans (unit_le hy) hC⟩) hC x.2 lx (fun z => nx (z _)) (fun a ha => by
      rcases List.mem_append.mp ha with ha | ha
      · exact h.lin x hx a ha
      · obtain ⟨j, hj, rfl⟩ := List.mem_map.mp ha
        obtain ⟨hj, hne⟩ := List.mem_filter.mp hj
        obtain ⟨y, hy, rfl⟩ := List.mem_map.mp hj
        rw [dot_unit lx]
        exact h.diag x hx y hy fun e => (of_decide_eq_true hne) e.symm)
  have hlu : u.length = x.2.length := by rw [hu1, lx]
  have z : IsZero (comb (at0 x.2 x.1) u (-(at0 u x.1)) x.2) := h.full _ (by rw [comb_len hlu, hu1]) (fun a ha => by
      rw [dot_comb a _ _ hlu, hu3 a (List.mem_append_left _ ha), h.lin x hx a ha]; simp) (fun y hy => by
      rw [at0_comb _ _ _ hlu]
      by_cases e : y.1 = x.1
      · rw [e]; grind
      · have h1 := hu3 (unit s y.1) (List.mem_append_right _ (List.mem_map.mpr ⟨y.1, List.mem_filter.mpr ⟨List.mem_map.mpr ⟨y, hy, rfl⟩, decide_eq_true e⟩, rfl⟩))
        rw [dot_unit hu1] at h1
        rw [h1, h.diag x hx y hy (Ne.symm e)]; simp)
  have eq : ∀ i, at0 x.2 x.1 * at0 u i = at0 u x.1 * at0 x.2 i := fun i => by
    have := z i
    rw [at0_comb _ _ _ hlu] at this
    grind
  have nb : at0 u x.1 ≠ 0 := fun e => hu2 fun i => by
    have := eq i
    rw [e] at this
    rcases Int.mul_eq_zero.mp (by simpa using this : at0 x.2 x.1 * at0 u i = 0) with q | q
    · exact absurd q nx
    · exact q
  intro y hy
  obtain ⟨i, _, rfl⟩ := mem_at0 hy
  have := prim_small hg nx nb eq i
  refine Nat.le_trans this ?_
  by_cases e : at0 u i = 0
  · rw [e]; simp
  · exact hu4 _ (at0_mem e)
end
/-- the whole state: A so far, lines D, rays Rs with their masks -/
structure Inv (s : Nat) (A : List Con) (D : List (Nat × Vec)) (Rs : List Ray) : Prop where
  lenA : ∀ c ∈ A, c.1.length = s
  db : DB s (A.map Prod.fst) D
  rr : RR s A Rs
  mask : ∀ r ∈ Rs, ∀ i : Nat, r.2.testBit i = true ↔ ∃ c, A[i]? = some c ∧ dot c.1 r.1 = 0
  ee : EE s A Rs
  aa : AA A Rs
  rN : ∀ r ∈ Rs, ∀ x ∈ D, at0 r.1 x.1 = 0
  rprim : ∀ r ∈ Rs, gcdL r.1 = 1
  lprim : ∀ x ∈ D, gcdL x.2 = 1
section
variable {s : Nat} {A : List Con} {D : List (Nat × Vec)} {Rs : List Ray}
theorem lin_iff {v : Vec} : Lin A v ↔ ∀ a ∈ A.map Prod.fst, dot a v = 0 := by
  constructor
  · intro h a ha
    obtain ⟨c, hc, rfl⟩ := List.mem_map.mp ha
    exact h c hc
  · intro h c hc
    exact h _ (List.mem_map.mpr ⟨c, hc, rfl⟩)
theorem Inv.killL (h : Inv s A D Rs) {c : Vec} (hc : ∀ x ∈ D, dot c x.2 = 0) {v : Vec} (hv : v.length = s) (hl : Lin A v) : dot c v = 0 := h.db.kill hc hv (lin_iff.mp hl)
theorem Inv.lbound (h : Inv s A D Rs) {C : Nat} (hC : 1 ≤ C) (hA : ∀ c ∈ A, ∀ x ∈ c.1, x.natAbs ≤ C) {x : Nat × Vec} (hx : x ∈ D) : ∀ y ∈ x.2, y.natAbs ≤ Sg s C :=
  h.db.bound hC (fun a ha => by
    obtain ⟨c, hc, rfl⟩ := List.mem_map.mp ha
    exact ⟨h.lenA c hc, hA c hc⟩) hx (h.lprim x hx)
theorem Inv.rbound (h : Inv s A D Rs) {C : Nat} (hC : 1 ≤ C) (hA : ∀ c ∈ A, ∀ x ∈ c.1, x.natAbs ≤ C) {r : Ray} (hr : r ∈ Rs) : ∀ y ∈ r.1, y.natAbs ≤ Sg s C := by
  obtain ⟨lr, cr, nr⟩ := h.rr r hr
  have nzr : ¬ IsZero r.1 := fun z => nr fun c hc => dot_zero _ z
  obtain ⟨u, hu1, hu2, hu3, hu4⟩ := siegel s C ((A.filter fun c => decide (dot c.1 r.1 = 0)).map Prod.fst ++ (D.map Prod.fst).map (unit s)) (fun a ha => by
      rcases List.mem_append.mp ha with ha | ha
      · obtain ⟨c, hc, rfl⟩ := List.mem_map.mp ha
        have hc := (List.mem_filter.mp hc).1
        exact ⟨h.lenA c hc, hA c hc⟩
      · obtain ⟨j, _, rfl⟩ := List.mem_map.mp ha
        exact ⟨unit_len _ _, fun y hy => Nat.le_trans (unit_le hy) hC⟩) hC r.1 lr nzr (fun a ha => by
      rcases List.mem_append.mp ha with ha | ha
      · obtain ⟨c, hc, rfl⟩ := List.mem_map.mp ha
        exact of_decide_eq_true (List.mem_filter.mp hc).2
      · obtain ⟨j, hj, rfl⟩ := List.mem_map.mp ha
        obtain ⟨y, hy, rfl⟩ := List.mem_map.mp hj
        rw [dot_unit lr]
        exact h.rN r hr y hy)
  obtain ⟨k, t, hk, lin⟩ := extreme h.ee h.rr h.aa hr hu1 (fun c hc e => hu3 c.1 (List.mem_append_left _ (List.mem_map.mpr ⟨c, List.mem_filter.mpr ⟨hc, decide_eq_true e⟩, rfl⟩)))
  have hl : u.length = r.1.length := by rw [hu1, lr]
  have z : IsZero (comb k u t r.1) := h.db.full _ (by rw [comb_len hl, hu1]) (lin_iff.mp lin) (fun x hx => by
    have h1 := hu3 (unit s x.1) (List.mem_append_right _ (List.mem_map.mpr ⟨x.1, List.mem_map.mpr ⟨x, hx, rfl⟩, rfl⟩))
    rw [dot_unit hu1] at h1
    rw [at0_comb _ _ _ hl, h1, h.rN r hr x hx]; simp)
  have eq : ∀ i, k * at0 u i = (-t) * at0 r.1 i := fun i => by
    have := z i
    rw [at0_comb _ _ _ hl] at this
    grind
  have nt : -t ≠ 0 := fun e => hu2 fun i => by
    have := eq i
    rw [e] at this
    rcases Int.mul_eq_zero.mp (by simpa using this : k * at0 u i = 0) with q | q
    · omega
    · exact q
  intro y hy
  obtain ⟨i, _, rfl⟩ := mem_at0 hy
  have := prim_small (h.rprim r hr) (by omega : k ≠ 0) nt eq i
  refine Nat.le_trans this ?_
  by_cases e : at0 u i = 0
  · rw [e]; simp
  · exact hu4 _ (at0_mem e)
/-- what the cone's own vectors satisfy, by lines and rays -/
theorem Inv.complete (h : Inv s A D Rs) {c : Vec} (hl : ∀ x ∈ D, dot c x.2 = 0) (hr : ∀ r ∈ Rs, 0 ≤ dot c r.1) {v : Vec} (hv : v.length = s) (cv : Cn A v) : 0 ≤ dot c v :=
  face1 h.ee h.rr c (fun u h1 h2 => h.killL hl h1 h2) hv cv fun r h1 _ => hr r h1
end
end FM
/-! The double description's step on plain lists (the mirror of Builder.add), and that it keeps the state's invariant. -/
set_option linter.all false
set_option maxHeartbeats 2000000
namespace FM
structure Bst where
  lines : List Vec
  rays : List Ray
  count : Nat
def neg (l : Vec) : Vec := l.map fun x => -x
def flip (c l : Vec) : Vec := if dot c l < 0 then neg l else l
def val (c l : Vec) : Int := if dot c l < 0 then -(dot c l) else dot c l
def tilt (v : Int) (c l x : Vec) : Vec := prim (comb v x (-(dot c x)) l)
def orBit (k : Nat) (r : Ray) : Ray := (r.1, r.2 ||| 2 ^ k)
def stepTurn (c : Vec) (ex : Bool) (b : Bst) (i : Nat) : Bst :=
  { lines := (b.lines.take i ++ b.lines.drop (i + 1)).map (tilt (val c (b.lines.getD i [])) c (flip c (b.lines.getD i []))),
    rays := ((b.rays.map fun r => (tilt (val c (b.lines.getD i [])) c (flip c (b.lines.getD i [])) r.1, r.2)).map (orBit b.count)) ++ (if ex then [] else [(flip c (b.lines.getD i []), 2 ^ b.count - 1)]),
    count := b.count + 1 }
def nb (Rs : List Ray) (p n : Vec) (sh : Nat) : Bool := Rs.all fun r => !(decide (r.2 &&& sh = sh) && (decide (r.1 ≠ p) && decide (r.1 ≠ n)))
def fresh1 (c : Vec) (k : Nat) (p n : Ray) : Ray := (prim (comb (dot c p.1) n.1 (-(dot c n.1)) p.1), (p.2 &&& n.2) ||| 2 ^ k)
def joinedL (c : Vec) (k : Nat) (Rs pos ng : List Ray) : List Ray := pos.flatMap fun p => (ng.filter fun n => nb Rs p.1 n.1 (p.2 &&& n.2)).map (fresh1 c k p)
def posL (c : Vec) (Rs : List Ray) : List Ray := Rs.filter fun r => decide (0 < dot c r.1)
def negL (c : Vec) (Rs : List Ray) : List Ray := Rs.filter fun r => decide (dot c r.1 < 0)
def zerL (c : Vec) (Rs : List Ray) : List Ray := Rs.filter fun r => decide (dot c r.1 = 0)
def stepFlat (c : Vec) (ex : Bool) (b : Bst) : Bst :=
  { lines := b.lines, rays := ((zerL c b.rays).map (orBit b.count) ++ (if ex then [] else posL c b.rays)) ++ joinedL c b.count b.rays (posL c b.rays) (negL c b.rays), count := b.count + 1 }
def turnAt (c : Vec) (lines : List Vec) : Option Nat := lines.findIdx? fun l => decide (dot c l ≠ 0)
def addC (b : Bst) (c : Con) : Bst := match turnAt c.1 b.lines with
  | some i => stepTurn c.1 c.2 b i
  | none => stepFlat c.1 c.2 b
def start (s : Nat) : Bst := { lines := (List.range s).map (unit s), rays := [], count := 0 }

/-! ### signs -/
theorem dot_negv (a l : Vec) : dot a (neg l) = -(dot a l) := by
  have e : neg l = smul (-1) l := by unfold neg smul; exact List.map_congr_left fun x _ => by omega
  rw [e, dot_smul]; omega
theorem neg_len (l : Vec) : (neg l).length = l.length := by simp [neg]
theorem at0_neg (l : Vec) (i : Nat) : at0 (neg l) i = -(at0 l i) := by
  have e : neg l = smul (-1) l := by unfold neg smul; exact List.map_congr_left fun x _ => by omega
  rw [e, at0_smul]; omega
theorem gcdL_neg (l : Vec) : gcdL (neg l) = gcdL l := by
  unfold gcdL neg
  rw [List.foldl_map]
  congr 1
  funext d x
  rw [Int.natAbs_neg]
theorem flip_len (c l : Vec) : (flip c l).length = l.length := by unfold flip; split <;> simp [neg_len]
theorem dot_flip0 {a c l : Vec} (h : dot a l = 0) : dot a (flip c l) = 0 := by unfold flip; split <;> simp [dot_negv, h]
theorem dot_flip (c l : Vec) : dot c (flip c l) = val c l := by unfold flip val; split <;> simp [dot_negv]
theorem val_pos {c l : Vec} (h : dot c l ≠ 0) : 0 < val c l := by unfold val; split <;> omega
theorem gcdL_flip (c l : Vec) : gcdL (flip c l) = gcdL l := by unfold flip; split <;> simp [gcdL_neg]
theorem at0_flip {c l : Vec} {i : Nat} : at0 (flip c l) i = 0 ↔ at0 l i = 0 := by unfold flip; split <;> simp [at0_neg]
theorem ss {p q y x : Int} (hp : 0 < p) (hq : 0 < q) (h : p * y = q * x) : (y = 0 ↔ x = 0) ∧ (0 ≤ y ↔ 0 ≤ x) := by
  have z : y = 0 ↔ x = 0 := by
    constructor
    · intro e
      rw [e] at h
      rcases Int.mul_eq_zero.mp (by simpa using h.symm : q * x = 0) with e | e
      · omega
      · exact e
    · intro e
      rw [e] at h
      rcases Int.mul_eq_zero.mp (by simpa using h : p * y = 0) with e | e
      · omega
      · exact e
  refine ⟨z, fun e => ?_, fun e => ?_⟩
  · have : 0 ≤ q * x := by rw [← h]; exact Int.mul_nonneg (Int.le_of_lt hp) e
    exact Int.le_of_mul_le_mul_left (a := q) (by simpa using this) hq
  · have : 0 ≤ p * y := by rw [h]; exact Int.mul_nonneg (Int.le_of_lt hq) e
    exact Int.le_of_mul_le_mul_left (a := p) (by simpa using this) hp
theorem tilt_len {v : Int} {c l x : Vec} (h : x.length = l.length) : (tilt v c l x).length = x.length := by unfold tilt; rw [prim_len, comb_len h]
theorem tilt_same {v : Int} {c l x a : Vec} (hv : 0 < v) (h : x.length = l.length) (ha : dot a l = 0) : (dot a (tilt v c l x) = 0 ↔ dot a x = 0) ∧ (0 ≤ dot a (tilt v c l x) ↔ 0 ≤ dot a x) := by
  obtain ⟨g, hg, e, _⟩ := dot_prim (comb v x (-(dot c x)) l)
  have := e a
  rw [dot_comb a _ _ h, ha] at this
  exact ss hg hv (by unfold tilt; omega)
theorem tilt_zero {v : Int} {c l x : Vec} (hv : dot c l = v) (h : x.length = l.length) : dot c (tilt v c l x) = 0 := by
  obtain ⟨g, hg, e, _⟩ := dot_prim (comb v x (-(dot c x)) l)
  have := e c
  rw [dot_comb c _ _ h, hv] at this
  have : g * dot c (tilt v c l x) = 0 := by unfold tilt; grind
  rcases Int.mul_eq_zero.mp this with q | q
  · omega
  · exact q
theorem tilt_at {v : Int} {c l x : Vec} {i : Nat} (hv : 0 < v) (h : x.length = l.length) (ha : at0 l i = 0) : at0 (tilt v c l x) i = 0 ↔ at0 x i = 0 := by
  obtain ⟨g, hg, _, e⟩ := dot_prim (comb v x (-(dot c x)) l)
  have := e i
  rw [at0_comb _ _ _ h, ha] at this
  exact (ss hg hv (by unfold tilt; omega)).1
theorem bit_or {m k i : Nat} : (m ||| 2 ^ k).testBit i = (m.testBit i || decide (k = i)) := by
  rw [Nat.testBit_or, Nat.testBit_two_pow]
theorem getA {A : List Con} {d : Con} {i : Nat} {c : Con} : (A ++ [d])[i]? = some c ↔ (A[i]? = some c ∧ i < A.length) ∨ (i = A.length ∧ c = d) := by
  rw [List.getElem?_append]
  by_cases h : i < A.length
  · rw [if_pos h]; simp [h]; omega
  · rw [if_neg h]
    constructor
    · intro e
      have : i - A.length = 0 := by
        have := (List.getElem?_eq_some_iff.mp e).1
        simp at this; omega
      rw [this] at e
      simp at e
      exact .inr ⟨by omega, e.symm⟩
    · rintro (⟨e, h2⟩ | ⟨e, rfl⟩)
      · omega
      · simp [e]

section
variable {s : Nat} {A : List Con} {D : List (Nat × Vec)} {Rs : List Ray} {c : Vec} {ex : Bool}
theorem memA {d e : Con} : e ∈ A ++ [d] ↔ e ∈ A ∨ e = d := by simp
theorem linA {d : Con} {v : Vec} : Lin (A ++ [d]) v ↔ Lin A v ∧ dot d.1 v = 0 := by
  unfold Lin
  constructor
  · intro h; exact ⟨fun e he => h e (memA.mpr (.inl he)), h d (memA.mpr (.inr rfl))⟩
  · rintro ⟨h1, h2⟩ e he
    rcases memA.mp he with he | rfl
    · exact h1 e he
    · exact h2
theorem cnA {d : Con} {v : Vec} : Cn (A ++ [d]) v ↔ Cn A v ∧ 0 ≤ dot d.1 v ∧ (d.2 = true → dot d.1 v = 0) := by
  unfold Cn
  constructor
  · intro h; exact ⟨fun e he => h e (memA.mpr (.inl he)), h d (memA.mpr (.inr rfl))⟩
  · rintro ⟨h1, h2⟩ e he
    rcases memA.mp he with he | rfl
    · exact h1 e he
    · exact h2
theorem subA {d : Con} {v r : Vec} : Sub (A ++ [d]) v r ↔ Sub A v r ∧ (dot d.1 v = 0 → dot d.1 r = 0) := by
  unfold Sub
  constructor
  · intro h; exact ⟨fun e he => h e (memA.mpr (.inl he)), h d (memA.mpr (.inr rfl))⟩
  · rintro ⟨h1, h2⟩ e he
    rcases memA.mp he with he | rfl
    · exact h1 e he
    · exact h2
/-- a line on which the condition is not 0 is used -/
theorem Inv.turn (h : Inv s A D Rs) (hc : c.length = s) {D1 D2 : List (Nat × Vec)} {p : Nat} {l : Vec} (hD : D = D1 ++ (p, l) :: D2) (hl : dot c l ≠ 0) :
    Inv s (A ++ [(c, ex)]) ((D1 ++ D2).map fun x => (x.1, tilt (val c l) c (flip c l) x.2))
      (((Rs.map fun r => (tilt (val c l) c (flip c l) r.1, r.2)).map (orBit A.length)) ++ (if ex then [] else [(flip c l, 2 ^ A.length - 1)])) := by
  have memD : ∀ x, x ∈ D1 ++ D2 → x ∈ D := fun x hx => by
    rw [hD]
    rcases List.mem_append.mp hx with q | q
    · exact List.mem_append_left _ q
    · exact List.mem_append_right _ (List.mem_cons_of_mem _ q)
  have hpD : (p, l) ∈ D := by rw [hD]; simp
  have hnd := h.db.nodup
  have hne : ∀ x ∈ D1 ++ D2, x.1 ≠ p := fun x hx e => by
    rw [hD, List.map_append, List.map_cons] at hnd
    have hnd' := List.nodup_append.mp hnd
    rcases List.mem_append.mp hx with q | q
    · exact hnd'.2.2 x.1 (List.mem_map.mpr ⟨x, q, rfl⟩) p List.mem_cons_self e
    · exact (List.nodup_cons.mp hnd'.2.1).1 (List.mem_map.mpr ⟨x, q, e⟩)
  have hcase : ∀ x ∈ D, x = (p, l) ∨ x ∈ D1 ++ D2 := fun x hx => by
    rw [hD] at hx
    rcases List.mem_append.mp hx with q | q
    · exact .inr (List.mem_append_left _ q)
    · rcases List.mem_cons.mp q with q | q
      · exact .inl q
      · exact .inr (List.mem_append_right _ q)
  have ll : l.length = s := h.db.len _ hpD
  have hv := val_pos hl
  have lf : (flip c l).length = s := by rw [flip_len, ll]
  have dcl := dot_flip c l
  have linl : Lin A l := lin_iff.mpr (h.db.lin _ hpD)
  have linf : ∀ a ∈ A, dot a.1 (flip c l) = 0 := fun a ha => dot_flip0 (linl a ha)
  have atl : ∀ x ∈ D1 ++ D2, at0 (flip c l) x.1 = 0 := fun x hx => at0_flip.mpr (h.db.diag _ hpD x (memD x hx) (Ne.symm (hne x hx)))
  generalize hw : val c l = w at hv dcl ⊢
  generalize hf : flip c l = f at lf dcl linf atl ⊢
  have hgf : gcdL f = 1 := by rw [← hf, gcdL_flip]; exact h.lprim _ hpD
  have lenX : ∀ {x : Vec}, x.length = s → x.length = f.length := fun e => by rw [e, lf]
  have sameA : ∀ {x : Vec}, x.length = s → ∀ a ∈ A, (dot a.1 (tilt w c f x) = 0 ↔ dot a.1 x = 0) ∧ (0 ≤ dot a.1 (tilt w c f x) ↔ 0 ≤ dot a.1 x) := fun e a ha => tilt_same hv (lenX e) (linf a ha)
  have zc : ∀ {x : Vec}, x.length = s → dot c (tilt w c f x) = 0 := fun e => tilt_zero dcl (lenX e)
  -- the rays of the new list
  have memR : ∀ {r' : Ray}, r' ∈ ((Rs.map fun r => (tilt w c f r.1, r.2)).map (orBit A.length)) ++ (if ex then [] else [(f, 2 ^ A.length - 1)]) →
      (∃ r ∈ Rs, r' = (tilt w c f r.1, r.2 ||| 2 ^ A.length)) ∨ (ex = false ∧ r' = (f, 2 ^ A.length - 1)) := fun {r'} hr' => by
    rcases List.mem_append.mp hr' with q | q
    · obtain ⟨r1, h1, rfl⟩ := List.mem_map.mp q
      obtain ⟨r, h2, rfl⟩ := List.mem_map.mp h1
      exact .inl ⟨r, h2, rfl⟩
    · cases ex with
      | true => simp at q
      | false => exact .inr ⟨rfl, by simpa using q⟩
  have cnT : ∀ {x : Vec}, x.length = s → Cn A x → Cn (A ++ [(c, ex)]) (tilt w c f x) := fun e cx => cnA.mpr ⟨fun a ha => ⟨((sameA e a ha).2).mpr (cx a ha).1, fun q => ((sameA e a ha).1).mpr ((cx a ha).2 q)⟩, by show 0 ≤ dot c _; rw [zc e]; exact Int.le_refl _, fun _ => zc e⟩
  refine ⟨fun a ha => ?_, ?_, fun r' hr' => ?_, fun r' hr' i => ?_, fun v lv cv nv => ?_, ?_, fun r' hr' x' hx' => ?_, fun r' hr' => ?_, fun x' hx' => ?_⟩
  · rcases memA.mp ha with q | rfl
    · exact h.lenA a q
    · exact hc
  · -- the lines
    refine ⟨fun x' hx' => ?_, fun x' hx' a ha => ?_, fun x' hx' => ?_, fun x' hx' y' hy' ne => ?_, ?_, fun v lv kv zv => ?_⟩
    · obtain ⟨x, hx, rfl⟩ := List.mem_map.mp hx'
      have := h.db.len x (memD x hx)
      show (tilt w c f x.2).length = s
      rw [tilt_len (lenX this), this]
    · obtain ⟨x, hx, rfl⟩ := List.mem_map.mp hx'
      have lx := h.db.len x (memD x hx)
      obtain ⟨a', ha', rfl⟩ := List.mem_map.mp ha
      rcases memA.mp ha' with q | rfl
      · exact (sameA lx a' q).1.mpr (h.db.lin x (memD x hx) _ (List.mem_map.mpr ⟨a', q, rfl⟩))
      · exact zc lx
    · obtain ⟨x, hx, rfl⟩ := List.mem_map.mp hx'
      exact fun e => h.db.nz x (memD x hx) ((tilt_at hv (lenX (h.db.len x (memD x hx))) (atl x hx)).mp e)
    · obtain ⟨x, hx, rfl⟩ := List.mem_map.mp hx'
      obtain ⟨y, hy, rfl⟩ := List.mem_map.mp hy'
      exact (tilt_at hv (lenX (h.db.len x (memD x hx))) (atl y hy)).mpr (h.db.diag x (memD x hx) y (memD y hy) ne)
    · rw [List.map_map]
      show ((D1 ++ D2).map Prod.fst).Nodup
      rw [hD, List.map_append, List.map_cons] at hnd
      rw [List.map_append]
      have q := List.nodup_append.mp hnd
      refine List.nodup_append.mpr ⟨q.1, (List.nodup_cons.mp q.2.1).2, fun a ha b hb => q.2.2 a ha b (List.mem_cons_of_mem _ hb)⟩
    · -- full
      have kA : ∀ a ∈ A.map Prod.fst, dot a v = 0 := fun a ha => by
        obtain ⟨a', q, rfl⟩ := List.mem_map.mp ha
        exact kv _ (List.mem_map.mpr ⟨a', memA.mpr (.inl q), rfl⟩)
      have kc : dot c v = 0 := kv c (List.mem_map.mpr ⟨(c, ex), memA.mpr (.inr rfl), rfl⟩)
      have zv' : ∀ x ∈ D1 ++ D2, at0 v x.1 = 0 := fun x hx => zv (x.1, tilt w c f x.2) (List.mem_map.mpr ⟨x, hx, rfl⟩)
      have hlv : v.length = l.length := by rw [lv, ll]
      have z : IsZero (comb (at0 l p) v (-(at0 v p)) l) := h.db.full _ (by rw [comb_len hlv, lv]) (fun a ha => by
          rw [dot_comb a _ _ hlv, kA a ha, h.db.lin _ hpD a ha]; simp) (fun x hx => by
          rw [at0_comb _ _ _ hlv]
          rcases hcase x hx with rfl | q
          · show at0 l p * at0 v p + -(at0 v p) * at0 l p = 0
            grind
          · rw [zv' x q, h.db.diag _ hpD x hx (Ne.symm (hne x q))]; simp)
      have d0 := dot_zero c z
      rw [dot_comb c _ _ hlv, kc] at d0
      have v0 : at0 v p = 0 := by
        have : at0 v p * dot c l = 0 := by grind
        rcases Int.mul_eq_zero.mp this with e | e
        · exact e
        · exact absurd e hl
      refine h.db.full v lv kA fun x hx => ?_
      rcases hcase x hx with rfl | q
      · exact v0
      · exact zv' x q
  · rcases memR hr' with ⟨r, hr, rfl⟩ | ⟨e, rfl⟩
    · obtain ⟨lr, cr, nr⟩ := h.rr r hr
      refine ⟨by show (tilt w c f r.1).length = s; rw [tilt_len (lenX lr), lr], cnT lr cr, fun z => nr fun a ha => (sameA lr a ha).1.mp ((linA.mp z).1 a ha)⟩
    · refine ⟨lf, cnA.mpr ⟨fun a ha => ⟨by show 0 ≤ dot a.1 f; rw [linf a ha]; exact Int.le_refl _, fun _ => linf a ha⟩, by show 0 ≤ dot c f; omega, fun q => ?_⟩, fun z => ?_⟩
      · have q : ex = true := q
        rw [e] at q; cases q
      · have := (linA.mp z).2
        have : dot c f = 0 := this
        omega
  · rcases memR hr' with ⟨r, hr, rfl⟩ | ⟨e, rfl⟩
    · obtain ⟨lr, cr, nr⟩ := h.rr r hr
      show (r.2 ||| 2 ^ A.length).testBit i = true ↔ _
      rw [bit_or, Bool.or_eq_true, decide_eq_true_eq, h.mask r hr i]
      constructor
      · rintro (⟨a, e1, e2⟩ | e1)
        · exact ⟨a, getA.mpr (.inl ⟨e1, (List.getElem?_eq_some_iff.mp e1).1⟩), (sameA lr a (List.mem_of_getElem? e1)).1.mpr e2⟩
        · exact ⟨(c, ex), getA.mpr (.inr ⟨e1.symm, rfl⟩), zc lr⟩
      · rintro ⟨a, e1, e2⟩
        rcases getA.mp e1 with ⟨e1, _⟩ | ⟨e1, _⟩
        · exact .inl ⟨a, e1, (sameA lr a (List.mem_of_getElem? e1)).1.mp e2⟩
        · exact .inr e1.symm
    · show (2 ^ A.length - 1).testBit i = true ↔ _
      rw [Nat.testBit_two_pow_sub_one, decide_eq_true_eq]
      constructor
      · intro hi
        exact ⟨A[i], getA.mpr (.inl ⟨List.getElem?_eq_getElem hi, hi⟩), linf _ (List.getElem_mem hi)⟩
      · rintro ⟨a, e1, e2⟩
        rcases getA.mp e1 with ⟨_, hi⟩ | ⟨_, rfl⟩
        · exact hi
        · have e2 : dot c f = 0 := e2
          omega
  · -- every vector has a ray
    have hlv : v.length = f.length := lenX lv
    have cvA := (cnA.mp cv).1
    have dv : ∀ a ∈ A, dot a.1 (comb w v (-(dot c v)) f) = w * dot a.1 v := fun a ha => by rw [dot_comb a.1 _ _ hlv, linf a ha]; simp
    by_cases nl : Lin A (comb w v (-(dot c v)) f)
    · have lvA : Lin A v := fun a ha => by
        have := nl a ha
        rw [dv a ha] at this
        rcases Int.mul_eq_zero.mp this with e | e
        · omega
        · exact e
      have dc : dot c v ≠ 0 := fun e => nv (linA.mpr ⟨lvA, e⟩)
      cases ex with
      | true => exact absurd ((cnA.mp cv).2.2 rfl) dc
      | false =>
        refine ⟨(f, 2 ^ A.length - 1), List.mem_append_right _ (by simp), subA.mpr ⟨fun a ha _ => linf a ha, fun e => absurd e dc⟩⟩
    · obtain ⟨r, hr, sr⟩ := h.ee _ (by rw [comb_len hlv, lv]) (fun a ha => ⟨by
          rw [dv a ha]; exact Int.mul_nonneg (Int.le_of_lt hv) (cvA a ha).1, fun e => by rw [dv a ha, (cvA a ha).2 e]; simp⟩) nl
      refine ⟨(tilt w c f r.1, r.2 ||| 2 ^ A.length), List.mem_append_left _ (List.mem_map.mpr ⟨_, List.mem_map.mpr ⟨r, hr, rfl⟩, rfl⟩), subA.mpr ⟨fun a ha e => ?_, fun _ => zc (h.rr r hr).1⟩⟩
      refine (sameA (h.rr r hr).1 a ha).1.mpr (sr a ha ?_)
      rw [dv a ha, e]; simp
  · -- the zero sets
    unfold AA
    rw [List.pairwise_append, List.map_map, List.pairwise_map]
    have back : ∀ {x y : Vec}, x.length = s → y.length = s → Sub (A ++ [(c, ex)]) (tilt w c f x) (tilt w c f y) → Sub A x y := fun lx ly q a ha e =>
      (sameA ly a ha).1.mp ((subA.mp q).1 a ha ((sameA lx a ha).1.mpr e))
    refine ⟨List.Pairwise.imp_of_mem (fun {x y} hx hy q => ⟨fun z => q.1 (back (h.rr x hx).1 (h.rr y hy).1 z), fun z => q.2 (back (h.rr y hy).1 (h.rr x hx).1 z)⟩) h.aa, ?_, fun x hx y hy => ?_⟩
    · cases ex <;> simp
    · obtain ⟨r, hr, rfl⟩ := List.mem_map.mp hx
      cases ex with
      | true => simp at hy
      | false =>
        have ey : y = (f, 2 ^ A.length - 1) := by simpa using hy
        subst ey
        refine ⟨fun z => ?_, fun z => (h.rr r hr).2.2 fun a ha => (sameA (h.rr r hr).1 a ha).1.mp ((subA.mp z).1 a ha (linf a ha))⟩
        have : dot c f = 0 := (subA.mp z).2 (zc (h.rr r hr).1)
        omega
  · obtain ⟨x, hx, rfl⟩ := List.mem_map.mp hx'
    rcases memR hr' with ⟨r, hr, rfl⟩ | ⟨e, rfl⟩
    · exact (tilt_at hv (lenX (h.rr r hr).1) (atl x hx)).mpr (h.rN r hr x (memD x hx))
    · exact atl x hx
  · rcases memR hr' with ⟨r, hr, rfl⟩ | ⟨e, rfl⟩
    · refine prim_gcd fun z => (h.rr r hr).2.2 fun a ha => ?_
      have := dot_zero a.1 z
      rw [dot_comb a.1 _ _ (lenX (h.rr r hr).1), linf a ha] at this
      rcases Int.mul_eq_zero.mp (by simpa using this : w * dot a.1 r.1 = 0) with e | e
      · omega
      · exact e
    · exact hgf
  · obtain ⟨x, hx, rfl⟩ := List.mem_map.mp hx'
    refine prim_gcd fun z => h.db.nz x (memD x hx) ?_
    have := z x.1
    rw [at0_comb _ _ _ (lenX (h.db.len x (memD x hx))), atl x hx] at this
    rcases Int.mul_eq_zero.mp (by simpa using this : w * at0 x.2 x.1 = 0) with e | e
    · omega
    · exact e
end
end FM
/-! The step of the double description where the condition is 0 on all lines. -/
set_option linter.all false
set_option maxHeartbeats 2000000
namespace FM
section
variable {s : Nat} {A : List Con} {D : List (Nat × Vec)} {Rs : List Ray} {c : Vec} {ex : Bool}
theorem and_eq_iff {m k : Nat} : m &&& k = k ↔ ∀ i, k.testBit i = true → m.testBit i = true := by
  constructor
  · intro h i hi
    have := congrArg (fun z => z.testBit i) h
    simp only [Nat.testBit_and, hi, Bool.and_true] at this
    exact this
  · intro h
    refine Nat.eq_of_testBit_eq fun i => ?_
    rw [Nat.testBit_and]
    cases e : k.testBit i with
    | false => simp
    | true => simp [h i e]
theorem Inv.maskSub (h : Inv s A D Rs) {p n r : Ray} (hp : p ∈ Rs) (hn : n ∈ Rs) (hr : r ∈ Rs) : r.2 &&& (p.2 &&& n.2) = (p.2 &&& n.2) ↔ ∀ a ∈ A, dot a.1 p.1 = 0 → dot a.1 n.1 = 0 → dot a.1 r.1 = 0 := by
  rw [and_eq_iff]
  constructor
  · intro q a ha e1 e2
    obtain ⟨i, hi⟩ := List.mem_iff_getElem?.mp ha
    have := q i (by rw [Nat.testBit_and, (h.mask p hp i).mpr ⟨a, hi, e1⟩, (h.mask n hn i).mpr ⟨a, hi, e2⟩]; rfl)
    obtain ⟨a', e3, e4⟩ := (h.mask r hr i).mp this
    rw [hi] at e3
    rw [Option.some.inj e3]; exact e4
  · intro q i hi
    rw [Nat.testBit_and, Bool.and_eq_true] at hi
    obtain ⟨a, e1, e2⟩ := (h.mask p hp i).mp hi.1
    obtain ⟨a', e3, e4⟩ := (h.mask n hn i).mp hi.2
    rw [e1] at e3
    have e3 := Option.some.inj e3
    subst e3
    exact (h.mask r hr i).mpr ⟨a, e1, q a (List.mem_of_getElem? e1) e2 e4⟩
theorem Inv.nb_iff (h : Inv s A D Rs) {p n : Ray} (hp : p ∈ Rs) (hn : n ∈ Rs) : nb Rs p.1 n.1 (p.2 &&& n.2) = true ↔ ∀ r ∈ Rs, (∀ a ∈ A, dot a.1 p.1 = 0 → dot a.1 n.1 = 0 → dot a.1 r.1 = 0) → r = p ∨ r = n := by
  unfold nb
  rw [List.all_eq_true]
  have key : ∀ r ∈ Rs, r.1 = p.1 → r = p := fun r hr e => h.aa.eq hr hp (by rw [e]; exact Sub.refl _ _)
  have key' : ∀ r ∈ Rs, r.1 = n.1 → r = n := fun r hr e => h.aa.eq hr hn (by rw [e]; exact Sub.refl _ _)
  constructor
  · intro q r hr z
    have := q r hr
    rw [decide_eq_true ((h.maskSub hp hn hr).mpr z)] at this
    by_cases e : r.1 = p.1
    · exact .inl (key r hr e)
    · by_cases e' : r.1 = n.1
      · exact .inr (key' r hr e')
      · simp [e, e'] at this
  · intro q r hr
    by_cases e : r.2 &&& (p.2 &&& n.2) = (p.2 &&& n.2)
    · rcases q r hr ((h.maskSub hp hn hr).mp e) with rfl | rfl <;> simp
    · simp [e]
/-- x = β r + γ y in the cone but for lines: r and x have comparable zeros -/
theorem parallel {x r y : Vec} {α β γ : Int} (hα : 0 < α) (hβ : 0 < β) (cx : Cn A x) (cr : Cn A r) (cy : Cn A y) (h : ∀ a ∈ A, α * dot a.1 x = β * dot a.1 r + γ * dot a.1 y) : Sub A x r ∨ Sub A r x := by
  by_cases hγ : 0 ≤ γ
  · refine .inl fun a ha e => ?_
    have := h a ha
    rw [e] at this
    have h1 := Int.mul_nonneg hγ (cy a ha).1
    have h2 := Int.mul_nonneg (Int.le_of_lt hβ) (cr a ha).1
    have h3 : β * dot a.1 r = 0 := by omega
    rcases Int.mul_eq_zero.mp h3 with q | q
    · omega
    · exact q
  · refine .inr fun a ha e => ?_
    have := h a ha
    rw [e] at this
    have h1 := Int.mul_nonneg (show 0 ≤ -γ by omega) (cy a ha).1
    have h2 := Int.mul_nonneg (Int.le_of_lt hα) (cx a ha).1
    have h3 : α * dot a.1 x = 0 := by
      have : -γ * dot a.1 y = -(γ * dot a.1 y) := Int.neg_mul _ _
      omega
    rcases Int.mul_eq_zero.mp h3 with q | q
    · omega
    · exact q
/-- the sum of a positive and a negative ray, on the condition's border -/
def mix (c p n : Vec) : Vec := comb (dot c p) n (-(dot c n)) p
theorem mix_dot {a p n : Vec} (hl : n.length = p.length) : dot a (mix c p n) = dot c p * dot a n + (-(dot c n)) * dot a p := dot_comb a _ _ hl
theorem mix_c {p n : Vec} (hl : n.length = p.length) : dot c (mix c p n) = 0 := by rw [mix_dot hl]; grind
theorem mix_zero {p n : Vec} (hl : n.length = p.length) (hp : 0 < dot c p) (hn : dot c n < 0) (cp : Cn A p) (cn : Cn A n) {a : Con} (ha : a ∈ A) : dot a.1 (mix c p n) = 0 ↔ dot a.1 p = 0 ∧ dot a.1 n = 0 := by
  rw [mix_dot hl]
  have h1 := Int.mul_nonneg (Int.le_of_lt hp) (cn a ha).1
  have h2 := Int.mul_nonneg (show 0 ≤ -(dot c n) by omega) (cp a ha).1
  constructor
  · intro e
    have e1 : dot c p * dot a.1 n = 0 := by omega
    have e2 : -(dot c n) * dot a.1 p = 0 := by omega
    refine ⟨?_, ?_⟩
    · rcases Int.mul_eq_zero.mp e2 with q | q
      · omega
      · exact q
    · rcases Int.mul_eq_zero.mp e1 with q | q
      · omega
      · exact q
  · rintro ⟨e1, e2⟩
    rw [e1, e2]; simp
theorem mix_cn {p n : Vec} (hl : n.length = p.length) (hp : 0 < dot c p) (hn : dot c n < 0) (cp : Cn A p) (cn : Cn A n) : Cn A (mix c p n) := fun a ha => by
  refine ⟨?_, fun e => (mix_zero hl hp hn cp cn ha).mpr ⟨(cp a ha).2 e, (cn a ha).2 e⟩⟩
  rw [mix_dot hl]
  have h1 := Int.mul_nonneg (Int.le_of_lt hp) (cn a ha).1
  have h2 := Int.mul_nonneg (show 0 ≤ -(dot c n) by omega) (cp a ha).1
  omega
theorem mem_pos {r : Ray} : r ∈ posL c Rs ↔ r ∈ Rs ∧ 0 < dot c r.1 := by unfold posL; rw [List.mem_filter, decide_eq_true_eq]
theorem mem_neg {r : Ray} : r ∈ negL c Rs ↔ r ∈ Rs ∧ dot c r.1 < 0 := by unfold negL; rw [List.mem_filter, decide_eq_true_eq]
theorem mem_zer {r : Ray} : r ∈ zerL c Rs ↔ r ∈ Rs ∧ dot c r.1 = 0 := by unfold zerL; rw [List.mem_filter, decide_eq_true_eq]
/-- the new rays' zeros -/
theorem fresh_facts (h : Inv s A D Rs) {p n : Ray} (hp : p ∈ Rs ∧ 0 < dot c p.1) (hn : n ∈ Rs ∧ dot c n.1 < 0) (k : Nat) :
    (fresh1 c k p n).1.length = s ∧ dot c (fresh1 c k p n).1 = 0 ∧ (∀ a ∈ A, (dot a.1 (fresh1 c k p n).1 = 0 ↔ dot a.1 p.1 = 0 ∧ dot a.1 n.1 = 0) ∧ 0 ≤ dot a.1 (fresh1 c k p n).1) ∧
      (∀ i, at0 p.1 i = 0 → at0 n.1 i = 0 → at0 (fresh1 c k p n).1 i = 0) ∧ gcdL (fresh1 c k p n).1 = 1 := by
  have lp := (h.rr p hp.1).1
  have ln := (h.rr n hn.1).1
  have cp := (h.rr p hp.1).2.1
  have cn := (h.rr n hn.1).2.1
  have hl : n.1.length = p.1.length := by rw [lp, ln]
  obtain ⟨g, hg, e1, e2⟩ := dot_prim (mix c p.1 n.1)
  have e1 : ∀ a, dot a (mix c p.1 n.1) = g * dot a (fresh1 c k p n).1 := e1
  have e2 : ∀ i, at0 (mix c p.1 n.1) i = g * at0 (fresh1 c k p n).1 i := e2
  have z : ∀ {x y : Int}, x = g * y → (x = 0 ↔ y = 0) := fun {x y} e => by
    rw [e]
    constructor
    · intro q
      rcases Int.mul_eq_zero.mp q with q | q
      · omega
      · exact q
    · rintro rfl; simp
  refine ⟨?_, (z (e1 c)).mp (mix_c hl), fun a ha => ⟨?_, ?_⟩, fun i h1 h2 => ?_, ?_⟩
  · show (prim (mix c p.1 n.1)).length = s
    rw [prim_len]
    unfold mix
    rw [comb_len hl, ln]
  · rw [← mix_zero hl hp.2 hn.2 cp cn ha]
    exact (z (e1 a.1)).symm
  · have := (mix_cn hl hp.2 hn.2 cp cn a ha).1
    rw [e1] at this
    exact Int.le_of_mul_le_mul_left (a := g) (by simpa using this) hg
  · refine (z (e2 i)).mp ?_
    unfold mix
    rw [at0_comb _ _ _ hl, h1, h2]; simp
  · refine prim_gcd fun z0 => (h.rr p hp.1).2.2 fun a ha => ?_
    exact ((mix_zero hl hp.2 hn.2 cp cn ha).mp (dot_zero a.1 z0)).1
theorem mem_joined {k : Nat} {w : Ray} : w ∈ joinedL c k Rs (posL c Rs) (negL c Rs) ↔ ∃ p n, (p ∈ Rs ∧ 0 < dot c p.1) ∧ (n ∈ Rs ∧ dot c n.1 < 0) ∧ nb Rs p.1 n.1 (p.2 &&& n.2) = true ∧ w = fresh1 c k p n := by
  unfold joinedL
  rw [List.mem_flatMap]
  constructor
  · rintro ⟨p, hp, hw⟩
    obtain ⟨n, hn, rfl⟩ := List.mem_map.mp hw
    obtain ⟨h1, h2⟩ := List.mem_filter.mp hn
    exact ⟨p, n, mem_pos.mp hp, mem_neg.mp h1, h2, rfl⟩
  · rintro ⟨p, n, hp, hn, hnb, rfl⟩
    exact ⟨p, mem_pos.mpr hp, List.mem_map.mpr ⟨n, List.mem_filter.mpr ⟨mem_neg.mpr hn, hnb⟩, rfl⟩⟩
/-- on the border every vector has a ray of the border -/
theorem Inv.border (h : Inv s A D Rs) (hz : ∀ v : Vec, v.length = s → Lin A v → dot c v = 0) {k : Nat} {out : List Ray} (hzer : ∀ r ∈ zerL c Rs, ∃ r' ∈ out, r'.1 = r.1) (hfr : ∀ w ∈ joinedL c k Rs (posL c Rs) (negL c Rs), w ∈ out) :
    ∀ (m : Nat) (v : Vec), mu A v ≤ m → v.length = s → Cn A v → dot c v = 0 → ¬ Lin A v → ∃ r ∈ out, Sub A v r.1 ∧ dot c r.1 = 0 := by
  have zero_ok : ∀ {v : Vec} {r : Ray}, r ∈ Rs → Sub A v r.1 → dot c r.1 = 0 → ∃ r ∈ out, Sub A v r.1 ∧ dot c r.1 = 0 := fun {v r} hr q e => by
    obtain ⟨r', h1, h2⟩ := hzer r (mem_zer.mpr ⟨hr, e⟩)
    exact ⟨r', h1, by rw [h2]; exact q, by rw [h2]; exact e⟩
  intro m
  induction m with
  | zero =>
    intro v hm hl cv dv nl
    exfalso
    refine nl fun a ha => Classical.byContradiction fun e => ?_
    unfold mu at hm
    have : 0 < A.countP fun c => decide (dot c.1 v ≠ 0) := List.countP_pos_iff.mpr ⟨a, ha, decide_eq_true e⟩
    omega
  | succ m ih =>
    intro v hm hl cv dv nl
    have hp : ∃ p ∈ Rs, Sub A v p.1 ∧ 0 ≤ dot c p.1 := Classical.byContradiction fun q => by
      have := face2' h.ee h.rr c hz hl cv nl (fun r hr sr => by
        refine Classical.byContradiction fun e => q ⟨r, hr, sr, by omega⟩)
      omega
    have hn : ∃ n ∈ Rs, Sub A v n.1 ∧ dot c n.1 ≤ 0 := Classical.byContradiction fun q => by
      have := face2 h.ee h.rr c hz hl cv nl (fun r hr sr => by
        refine Classical.byContradiction fun e => q ⟨r, hr, sr, by omega⟩)
      omega
    obtain ⟨p, hp1, hp2, hp3⟩ := hp
    obtain ⟨n, hn1, hn2, hn3⟩ := hn
    by_cases ep : dot c p.1 = 0
    · exact zero_ok hp1 hp2 ep
    by_cases en : dot c n.1 = 0
    · exact zero_ok hn1 hn2 en
    have pp : 0 < dot c p.1 := by omega
    have nn : dot c n.1 < 0 := by omega
    by_cases hnb : nb Rs p.1 n.1 (p.2 &&& n.2) = true
    · have ff := fresh_facts h ⟨hp1, pp⟩ ⟨hn1, nn⟩ k
      exact ⟨fresh1 c k p n, hfr _ (mem_joined.mpr ⟨p, n, ⟨hp1, pp⟩, ⟨hn1, nn⟩, hnb, rfl⟩), fun a ha e => (ff.2.2.1 a ha).1.mpr ⟨hp2 a ha e, hn2 a ha e⟩, ff.2.1⟩
    · obtain ⟨r, hr, hr2, hrp, hrn⟩ : ∃ r ∈ Rs, (∀ a ∈ A, dot a.1 p.1 = 0 → dot a.1 n.1 = 0 → dot a.1 r.1 = 0) ∧ r ≠ p ∧ r ≠ n := Classical.byContradiction fun q => hnb ((h.nb_iff hp1 hn1).mpr fun r hr z => by
        refine Classical.byContradiction fun q2 => q ⟨r, hr, z, fun e => q2 (.inl e), fun e => q2 (.inr e)⟩)
      have lp := (h.rr p hp1).1
      have ln := (h.rr n hn1).1
      have lr := (h.rr r hr).1
      have cp := (h.rr p hp1).2.1
      have cn := (h.rr n hn1).2.1
      have cr := (h.rr r hr).2.1
      have sr : Sub A v r.1 := fun a ha e => hr2 a ha (hp2 a ha e) (hn2 a ha e)
      by_cases er : dot c r.1 = 0
      · exact zero_ok hr sr er
      have lnp : n.1.length = p.1.length := by rw [lp, ln]
      have cw := mix_cn lnp pp nn cp cn
      have lw : (mix c p.1 n.1).length = s := by unfold mix; rw [comb_len lnp, ln]
      have sw : Sub A v (mix c p.1 n.1) := fun a ha e => (mix_zero lnp pp nn cp cn ha).mpr ⟨hp2 a ha e, hn2 a ha e⟩
      -- a second mixture w' with at least the zeros of w
      have go : ∀ w' : Vec, w'.length = s → Cn A w' → dot c w' = 0 → Sub A (mix c p.1 n.1) w' → ¬ Lin A w' → (∀ k t : Int, 0 < k → 0 < t → (∀ a ∈ A, k * dot a.1 (mix c p.1 n.1) = t * dot a.1 w') → False) → ∃ r ∈ out, Sub A v r.1 ∧ dot c r.1 = 0 := by
        intro w' lw' cw' dw' sw' nw' hno
        have hll : (mix c p.1 n.1).length = w'.length := by rw [lw, lw']
        obtain ⟨k, t, hk, ht, cu, su, c0, hc0, e1, e2⟩ := walk hll cw cw' sw' nw'
        have hlt := mu_lt su ⟨c0, hc0, e1, e2⟩
        have hle := mu_le sw
        by_cases nu : Lin A (comb k (mix c p.1 n.1) (-t) w')
        · refine (hno k t hk ht fun a ha => ?_).elim
          have := nu a ha
          rw [dot_comb a.1 _ _ hll] at this
          grind
        · obtain ⟨r', h1, h2, h3⟩ := ih _ (by omega) (by rw [comb_len hll, lw]) cu (by rw [dot_comb c _ _ hll, mix_c lnp, dw']; simp) nu
          exact ⟨r', h1, (sw.trans su).trans h2, h3⟩
      by_cases rp : 0 < dot c r.1
      · have lnr : n.1.length = r.1.length := by rw [lr, ln]
        refine go (mix c r.1 n.1) (by unfold mix; rw [comb_len lnr, ln]) (mix_cn lnr rp nn cr cn) (mix_c lnr) (fun a ha e => ?_) (fun z => (h.rr r hr).2.2 fun a ha => ((mix_zero lnr rp nn cr cn ha).mp (z a ha)).1) fun k t hk ht e => ?_
        · obtain ⟨q1, q2⟩ := (mix_zero lnp pp nn cp cn ha).mp e
          exact (mix_zero lnr rp nn cr cn ha).mpr ⟨hr2 a ha q1 q2, q2⟩
        · have h1 := Int.mul_pos hk (show 0 < -(dot c n.1) by omega)
          have h2 := Int.mul_pos ht (show 0 < -(dot c n.1) by omega)
          rcases parallel (α := k * -(dot c n.1)) (β := t * -(dot c n.1)) (γ := t * dot c r.1 - k * dot c p.1) h1 h2 cp cr cn (fun a ha => by
            have := e a ha
            rw [mix_dot lnp, mix_dot lnr] at this
            grind) with q | q
          · exact hrp (h.aa.eq hp1 hr q).symm
          · exact hrp (h.aa.eq hr hp1 q)
      · have rn : dot c r.1 < 0 := by omega
        have lrp : r.1.length = p.1.length := by rw [lr, lp]
        refine go (mix c p.1 r.1) (by unfold mix; rw [comb_len lrp, lr]) (mix_cn lrp pp rn cp cr) (mix_c lrp) (fun a ha e => ?_) (fun z => (h.rr r hr).2.2 fun a ha => ((mix_zero lrp pp rn cp cr ha).mp (z a ha)).2) fun k t hk ht e => ?_
        · obtain ⟨q1, q2⟩ := (mix_zero lnp pp nn cp cn ha).mp e
          exact (mix_zero lrp pp rn cp cr ha).mpr ⟨q1, hr2 a ha q1 q2⟩
        · have h1 := Int.mul_pos hk pp
          have h2 := Int.mul_pos ht pp
          rcases parallel (α := k * dot c p.1) (β := t * dot c p.1) (γ := k * dot c n.1 - t * dot c r.1) h1 h2 cn cr cp (fun a ha => by
            have := e a ha
            rw [mix_dot lnp, mix_dot lrp] at this
            grind) with q | q
          · exact hrn (h.aa.eq hn1 hr q).symm
          · exact hrn (h.aa.eq hr hn1 q)
theorem Inv.flat (h : Inv s A D Rs) (hc : c.length = s) (hz : ∀ x ∈ D, dot c x.2 = 0) :
    Inv s (A ++ [(c, ex)]) D (((zerL c Rs).map (orBit A.length) ++ (if ex then [] else posL c Rs)) ++ joinedL c A.length Rs (posL c Rs) (negL c Rs)) := by
  have hlin : ∀ v : Vec, v.length = s → Lin A v → dot c v = 0 := fun v h1 h2 => h.killL hz h1 h2
  generalize hout : ((zerL c Rs).map (orBit A.length) ++ (if ex then [] else posL c Rs)) ++ joinedL c A.length Rs (posL c Rs) (negL c Rs) = out
  have memO : ∀ {r' : Ray}, r' ∈ out → (∃ r ∈ Rs, dot c r.1 = 0 ∧ r' = (r.1, r.2 ||| 2 ^ A.length)) ∨ (ex = false ∧ r' ∈ Rs ∧ 0 < dot c r'.1) ∨
      (∃ p n, (p ∈ Rs ∧ 0 < dot c p.1) ∧ (n ∈ Rs ∧ dot c n.1 < 0) ∧ nb Rs p.1 n.1 (p.2 &&& n.2) = true ∧ r' = fresh1 c A.length p n) := fun {r'} hr' => by
    rw [← hout] at hr'
    rcases List.mem_append.mp hr' with q | q
    · rcases List.mem_append.mp q with q | q
      · obtain ⟨r, hr, rfl⟩ := List.mem_map.mp q
        obtain ⟨h1, h2⟩ := mem_zer.mp hr
        exact .inl ⟨r, h1, h2, rfl⟩
      · cases ex with
        | true => simp at q
        | false => exact .inr (.inl ⟨rfl, mem_pos.mp (by simpa using q)⟩)
    · exact .inr (.inr (mem_joined.mp q))
  have bord := h.border hlin (k := A.length) (out := out) (fun r hr => ⟨orBit A.length r, by
      rw [← hout]; exact List.mem_append_left _ (List.mem_append_left _ (List.mem_map.mpr ⟨r, hr, rfl⟩)), rfl⟩) (fun w hw => by rw [← hout]; exact List.mem_append_right _ hw)
  refine ⟨fun a ha => ?_, ?_, fun r' hr' => ?_, fun r' hr' i => ?_, fun v lv cv nv => ?_, ?_, fun r' hr' x hx => ?_, fun r' hr' => ?_, h.lprim⟩
  · rcases memA.mp ha with q | rfl
    · exact h.lenA a q
    · exact hc
  · refine ⟨h.db.len, fun x hx a ha => ?_, h.db.nz, h.db.diag, h.db.nodup, fun v lv kv zv => h.db.full v lv (fun a ha => ?_) zv⟩
    · obtain ⟨a', ha', rfl⟩ := List.mem_map.mp ha
      rcases memA.mp ha' with q | rfl
      · exact h.db.lin x hx _ (List.mem_map.mpr ⟨a', q, rfl⟩)
      · exact hz x hx
    · obtain ⟨a', q, rfl⟩ := List.mem_map.mp ha
      exact kv _ (List.mem_map.mpr ⟨a', memA.mpr (.inl q), rfl⟩)
  · rcases memO hr' with ⟨r, hr, e, rfl⟩ | ⟨ee, hr, e⟩ | ⟨p, n, hp, hn, hnb, rfl⟩
    · obtain ⟨l1, l2, l3⟩ := h.rr r hr
      exact ⟨l1, cnA.mpr ⟨l2, by show 0 ≤ dot c r.1; omega, fun _ => e⟩, fun z => l3 (linA.mp z).1⟩
    · obtain ⟨l1, l2, l3⟩ := h.rr r' hr
      exact ⟨l1, cnA.mpr ⟨l2, Int.le_of_lt e, fun q => by
        have q : ex = true := q
        rw [ee] at q; cases q⟩, fun z => l3 (linA.mp z).1⟩
    · obtain ⟨f1, f2, f3, f4, f5⟩ := fresh_facts h hp hn A.length
      refine ⟨f1, cnA.mpr ⟨fun a ha => ⟨(f3 a ha).2, fun e => (f3 a ha).1.mpr ⟨((h.rr p hp.1).2.1 a ha).2 e, ((h.rr n hn.1).2.1 a ha).2 e⟩⟩, by
        show 0 ≤ dot c _
        rw [f2]; exact Int.le_refl _, fun _ => f2⟩, fun z => (h.rr p hp.1).2.2 fun a ha => ((f3 a ha).1.mp ((linA.mp z).1 a ha)).1⟩
  · rcases memO hr' with ⟨r, hr, e, rfl⟩ | ⟨ee, hr, e⟩ | ⟨p, n, hp, hn, hnb, rfl⟩
    · show (r.2 ||| 2 ^ A.length).testBit i = true ↔ _
      rw [bit_or, Bool.or_eq_true, decide_eq_true_eq, h.mask r hr i]
      constructor
      · rintro (⟨a, e1, e2⟩ | e1)
        · exact ⟨a, getA.mpr (.inl ⟨e1, (List.getElem?_eq_some_iff.mp e1).1⟩), e2⟩
        · exact ⟨(c, ex), getA.mpr (.inr ⟨e1.symm, rfl⟩), e⟩
      · rintro ⟨a, e1, e2⟩
        rcases getA.mp e1 with ⟨e1, _⟩ | ⟨e1, _⟩
        · exact .inl ⟨a, e1, e2⟩
        · exact .inr e1.symm
    · rw [h.mask r' hr i]
      constructor
      · rintro ⟨a, e1, e2⟩
        exact ⟨a, getA.mpr (.inl ⟨e1, (List.getElem?_eq_some_iff.mp e1).1⟩), e2⟩
      · rintro ⟨a, e1, e2⟩
        rcases getA.mp e1 with ⟨e1, _⟩ | ⟨e1, rfl⟩
        · exact ⟨a, e1, e2⟩
        · have e2 : dot c r'.1 = 0 := e2
          omega
    · obtain ⟨f1, f2, f3, f4, f5⟩ := fresh_facts h hp hn A.length
      show ((p.2 &&& n.2) ||| 2 ^ A.length).testBit i = true ↔ _
      rw [bit_or, Bool.or_eq_true, decide_eq_true_eq, Nat.testBit_and, Bool.and_eq_true, h.mask p hp.1 i, h.mask n hn.1 i]
      constructor
      · rintro (⟨⟨a, e1, e2⟩, ⟨a', e3, e4⟩⟩ | e1)
        · rw [e1] at e3
          have e3 := Option.some.inj e3
          subst e3
          exact ⟨a, getA.mpr (.inl ⟨e1, (List.getElem?_eq_some_iff.mp e1).1⟩), (f3 a (List.mem_of_getElem? e1)).1.mpr ⟨e2, e4⟩⟩
        · exact ⟨(c, ex), getA.mpr (.inr ⟨e1.symm, rfl⟩), f2⟩
      · rintro ⟨a, e1, e2⟩
        rcases getA.mp e1 with ⟨e1, _⟩ | ⟨e1, _⟩
        · have := (f3 a (List.mem_of_getElem? e1)).1.mp e2
          exact .inl ⟨⟨a, e1, this.1⟩, ⟨a, e1, this.2⟩⟩
        · exact .inr e1.symm
  · obtain ⟨cvA, cv1, cv2⟩ := cnA.mp cv
    by_cases e : dot c v = 0
    · obtain ⟨r, h1, h2, h3⟩ := bord _ v (Nat.le_refl _) lv cvA e (fun z => nv (linA.mpr ⟨z, e⟩))
      exact ⟨r, h1, subA.mpr ⟨h2, fun _ => h3⟩⟩
    · have vp : 0 < dot c v := by have : 0 ≤ dot c v := cv1; omega
      have ee : ex = false := by
        cases ex with
        | false => rfl
        | true => exact absurd (cv2 rfl) e
      obtain ⟨r, hr, sr, rp⟩ : ∃ r ∈ Rs, Sub A v r.1 ∧ 0 < dot c r.1 := Classical.byContradiction fun q => by
        have := face1' h.ee h.rr c hlin lv cvA (fun r hr sr => by
          refine Classical.byContradiction fun z => q ⟨r, hr, sr, by omega⟩)
        omega
      refine ⟨r, ?_, subA.mpr ⟨sr, fun z => absurd z e⟩⟩
      rw [← hout, ee]
      exact List.mem_append_left _ (List.mem_append_right _ (by simpa using mem_pos.mpr ⟨hr, rp⟩))
  · -- the zero sets
    have old : ∀ x y : Ray, Sub (A ++ [(c, ex)]) x.1 y.1 → Sub A x.1 y.1 := fun x y q => (subA.mp q).1
    have pwf : ∀ (q : Ray → Bool), (Rs.filter q).Pairwise fun x y => ¬ Sub A x.1 y.1 ∧ ¬ Sub A y.1 x.1 := fun q => List.Pairwise.filter q h.aa
    -- a fresh ray against an old one
    have fr_old : ∀ {p n r : Ray}, (p ∈ Rs ∧ 0 < dot c p.1) → (n ∈ Rs ∧ dot c n.1 < 0) → nb Rs p.1 n.1 (p.2 &&& n.2) = true → r ∈ Rs →
        ¬ Sub (A ++ [(c, ex)]) (fresh1 c A.length p n).1 r.1 ∧ ¬ Sub (A ++ [(c, ex)]) r.1 (fresh1 c A.length p n).1 := fun {p n r} hp hn hnb hr => by
      obtain ⟨f1, f2, f3, f4, f5⟩ := fresh_facts h hp hn A.length
      refine ⟨fun z => ?_, fun z => ?_⟩
      · have z0 : dot c r.1 = 0 := (subA.mp z).2 f2
        rcases (h.nb_iff hp.1 hn.1).mp hnb r hr (fun a ha e1 e2 => (subA.mp z).1 a ha ((f3 a ha).1.mpr ⟨e1, e2⟩)) with rfl | rfl
        · have := hp.2; omega
        · have := hn.2; omega
      · have e1 : r = p := h.aa.eq hr hp.1 fun a ha e => ((f3 a ha).1.mp ((subA.mp z).1 a ha e)).1
        have e2 : r = n := h.aa.eq hr hn.1 fun a ha e => ((f3 a ha).1.mp ((subA.mp z).1 a ha e)).2
        have := hp.2
        have := hn.2
        rw [← e1] at *
        rw [← e2] at *
        omega
    have fr_fr : ∀ {p n p2 n2 : Ray}, (p ∈ Rs ∧ 0 < dot c p.1) → (n ∈ Rs ∧ dot c n.1 < 0) → nb Rs p.1 n.1 (p.2 &&& n.2) = true → (p2 ∈ Rs ∧ 0 < dot c p2.1) → (n2 ∈ Rs ∧ dot c n2.1 < 0) →
        Sub (A ++ [(c, ex)]) (fresh1 c A.length p n).1 (fresh1 c A.length p2 n2).1 → p2 = p ∧ n2 = n := fun {p n p2 n2} hp hn hnb hp2 hn2 z => by
      obtain ⟨f1, f2, f3, f4, f5⟩ := fresh_facts h hp hn A.length
      obtain ⟨g1, g2, g3, g4, g5⟩ := fresh_facts h hp2 hn2 A.length
      have both : ∀ a ∈ A, dot a.1 p.1 = 0 → dot a.1 n.1 = 0 → dot a.1 p2.1 = 0 ∧ dot a.1 n2.1 = 0 := fun a ha e1 e2 => (g3 a ha).1.mp ((subA.mp z).1 a ha ((f3 a ha).1.mpr ⟨e1, e2⟩))
      refine ⟨?_, ?_⟩
      · rcases (h.nb_iff hp.1 hn.1).mp hnb p2 hp2.1 (fun a ha e1 e2 => (both a ha e1 e2).1) with e | e
        · exact e
        · have h1 := hp2.2
          have h2 := hn.2
          rw [e] at h1; omega
      · rcases (h.nb_iff hp.1 hn.1).mp hnb n2 hn2.1 (fun a ha e1 e2 => (both a ha e1 e2).2) with e | e
        · have h1 := hn2.2
          have h2 := hp.2
          rw [e] at h1; omega
        · exact e
    rw [← hout]
    unfold AA
    rw [List.pairwise_append, List.pairwise_append]
    refine ⟨⟨?_, ?_, fun x hx y hy => ?_⟩, ?_, fun x hx y hy => ?_⟩
    · rw [List.pairwise_map]
      exact (pwf _).imp fun {x y} q => ⟨fun z => q.1 (old _ _ z), fun z => q.2 (old _ _ z)⟩
    · cases ex with
      | true => simp
      | false => exact (pwf _).imp fun {x y} q => ⟨fun z => q.1 (old _ _ z), fun z => q.2 (old _ _ z)⟩
    · obtain ⟨r, hr, rfl⟩ := List.mem_map.mp hx
      cases ex with
      | true => simp at hy
      | false =>
        obtain ⟨h1, h2⟩ := mem_zer.mp hr
        obtain ⟨h3, h4⟩ := mem_pos.mp (show y ∈ posL c Rs by simpa using hy)
        have ne : r ≠ y := fun e => by rw [e] at h2; omega
        have q := pw_mem (fun _ _ z => ⟨z.2, z.1⟩) h.aa r h1 y h3 ne
        exact ⟨fun z => q.1 (subA.mp z).1, fun z => q.2 (subA.mp z).1⟩
    · unfold joinedL
      rw [List.pairwise_flatMap]
      refine ⟨fun p hp => ?_, ?_⟩
      · rw [List.pairwise_map]
        refine List.Pairwise.imp_of_mem (R := fun x y : Ray => ¬ Sub A x.1 y.1 ∧ ¬ Sub A y.1 x.1) (fun {n n2} hn hn2 q => ?_) (List.Pairwise.filter _ (pwf _))
        obtain ⟨a1, a2⟩ := List.mem_filter.mp hn
        obtain ⟨b1, b2⟩ := List.mem_filter.mp hn2
        refine ⟨fun z => ?_, fun z => ?_⟩
        · have := (fr_fr (mem_pos.mp hp) (mem_neg.mp a1) a2 (mem_pos.mp hp) (mem_neg.mp b1) z).2
          rw [this] at q
          exact q.1 (Sub.refl _ _)
        · have := (fr_fr (mem_pos.mp hp) (mem_neg.mp b1) b2 (mem_pos.mp hp) (mem_neg.mp a1) z).2
          rw [this] at q
          exact q.1 (Sub.refl _ _)
      · refine List.Pairwise.imp_of_mem (R := fun x y : Ray => ¬ Sub A x.1 y.1 ∧ ¬ Sub A y.1 x.1) (fun {p p2} hp hp2 q => ?_) (pwf _)
        intro x hx y hy
        obtain ⟨n, hn, rfl⟩ := List.mem_map.mp hx
        obtain ⟨n2, hn2, rfl⟩ := List.mem_map.mp hy
        obtain ⟨a1, a2⟩ := List.mem_filter.mp hn
        obtain ⟨b1, b2⟩ := List.mem_filter.mp hn2
        refine ⟨fun z => ?_, fun z => ?_⟩
        · have := (fr_fr (mem_pos.mp hp) (mem_neg.mp a1) a2 (mem_pos.mp hp2) (mem_neg.mp b1) z).1
          rw [this] at q
          exact q.1 (Sub.refl _ _)
        · have := (fr_fr (mem_pos.mp hp2) (mem_neg.mp b1) b2 (mem_pos.mp hp) (mem_neg.mp a1) z).1
          rw [this] at q
          exact q.1 (Sub.refl _ _)
    · obtain ⟨p, n, hp, hn, hnb, rfl⟩ := mem_joined.mp hy
      rcases List.mem_append.mp hx with q | q
      · obtain ⟨r, hr, rfl⟩ := List.mem_map.mp q
        have := fr_old hp hn hnb (mem_zer.mp hr).1
        exact ⟨this.2, this.1⟩
      · cases ex with
        | true => simp at q
        | false =>
          have := fr_old hp hn hnb (mem_pos.mp (show x ∈ posL c Rs by simpa using q)).1
          exact ⟨this.2, this.1⟩
  · rcases memO hr' with ⟨r, hr, e, rfl⟩ | ⟨ee, hr, e⟩ | ⟨p, n, hp, hn, hnb, rfl⟩
    · exact h.rN r hr x hx
    · exact h.rN r' hr x hx
    · exact (fresh_facts h hp hn A.length).2.2.2.1 _ (h.rN p hp.1 x hx) (h.rN n hn.1 x hx)
  · rcases memO hr' with ⟨r, hr, e, rfl⟩ | ⟨ee, hr, e⟩ | ⟨p, n, hp, hn, hnb, rfl⟩
    · exact h.rprim r hr
    · exact h.rprim r' hr
    · exact (fresh_facts h hp hn A.length).2.2.2.2
end
end FM
/-! The whole run of the double description; how many rays there are; how large the numbers. -/
set_option linter.all false
set_option maxHeartbeats 2000000
namespace FM
structure BI (s : Nat) (A : List Con) (b : Bst) : Prop where
  inv : ∃ D, b.lines = D.map Prod.snd ∧ Inv s A D b.rays
  count : b.count = A.length
  few : b.lines.length ≤ s
  less : b.rays ≠ [] → b.lines.length < s
theorem unit_nz {s k : Nat} (h : k < s) : at0 (unit s k) k = 1 := by rw [at0_unit, if_pos ⟨h, rfl⟩]
theorem BI.start (s : Nat) : BI s [] (start s) := by
  refine ⟨⟨(List.range s).map fun k => (k, unit s k), by simp [FM.start], ?_⟩, rfl, by simp [FM.start], fun h => absurd rfl h⟩
  have mem : ∀ {x : Nat × Vec}, x ∈ (List.range s).map (fun k => (k, unit s k)) → x.1 < s ∧ x.2 = unit s x.1 := fun {x} hx => by
    obtain ⟨k, hk, rfl⟩ := List.mem_map.mp hx
    exact ⟨List.mem_range.mp hk, rfl⟩
  refine ⟨by simp, ⟨fun x hx => ?_, fun x hx a ha => by simp at ha, fun x hx => ?_, fun x hx y hy ne => ?_, ?_, fun v lv _ zv i => ?_⟩, fun r hr => by simp [FM.start] at hr, fun r hr => by simp [FM.start] at hr, fun v lv _ nl => ?_, by simp [FM.start, AA], fun r hr => by simp [FM.start] at hr, fun r hr => by simp [FM.start] at hr, fun x hx => ?_⟩
  · rw [(mem hx).2, unit_len]
  · rw [(mem hx).2, unit_nz (mem hx).1]; decide
  · rw [(mem hx).2, at0_unit, if_neg fun q => ne q.2.symm]
  · rw [List.map_map]
    have : (List.range s).map (Prod.fst ∘ fun k => (k, unit s k)) = List.range s := (List.map_congr_left fun _ _ => rfl).trans (List.map_id _)
    rw [this]; exact List.nodup_range
  · by_cases hi : i < s
    · exact zv (i, unit s i) (List.mem_map.mpr ⟨i, List.mem_range.mpr hi, rfl⟩)
    · exact at0_ge (by omega)
  · exact absurd (fun c hc => by cases hc) nl
  · have h1 : (1 : Int) ∈ x.2 := by
      have := at0_mem (v := x.2) (i := x.1) (by rw [(mem hx).2, unit_nz (mem hx).1]; decide)
      rw [(mem hx).2, unit_nz (mem hx).1] at this
      rw [(mem hx).2]; exact this
    have := gcdL_dvd h1
    exact Nat.dvd_one.mp (by simpa using this)
section
variable {s : Nat} {A : List Con} {b : Bst} {c : Con}
theorem BI.lenL (h : BI s A b) : ∀ l ∈ b.lines, l.length = s := fun l hl => by
  obtain ⟨D, e, i⟩ := h.inv
  rw [e] at hl
  obtain ⟨x, hx, rfl⟩ := List.mem_map.mp hl
  exact i.db.len x hx
theorem BI.lenR (h : BI s A b) : ∀ r ∈ b.rays, r.1.length = s := fun r hr => by
  obtain ⟨D, e, i⟩ := h.inv
  exact (i.rr r hr).1
theorem BI.linL (h : BI s A b) : ∀ l ∈ b.lines, Lin A l := fun l hl => by
  obtain ⟨D, e, i⟩ := h.inv
  rw [e] at hl
  obtain ⟨x, hx, rfl⟩ := List.mem_map.mp hl
  exact lin_iff.mpr (i.db.lin x hx)
theorem BI.boundL (h : BI s A b) {C : Nat} (hC : 1 ≤ C) (hA : ∀ c ∈ A, ∀ x ∈ c.1, x.natAbs ≤ C) : ∀ l ∈ b.lines, ∀ y ∈ l, y.natAbs ≤ Sg s C := fun l hl => by
  obtain ⟨D, e, i⟩ := h.inv
  rw [e] at hl
  obtain ⟨x, hx, rfl⟩ := List.mem_map.mp hl
  exact i.lbound hC hA hx
theorem BI.boundR (h : BI s A b) {C : Nat} (hC : 1 ≤ C) (hA : ∀ c ∈ A, ∀ x ∈ c.1, x.natAbs ≤ C) : ∀ r ∈ b.rays, ∀ y ∈ r.1, y.natAbs ≤ Sg s C := fun r hr => by
  obtain ⟨D, e, i⟩ := h.inv
  exact i.rbound hC hA hr
theorem split_at {α : Type} : ∀ {l : List α} {i : Nat} (h : i < l.length), l = l.take i ++ l[i] :: l.drop (i + 1)
  | [], i, h => by simp at h
  | a :: l, 0, h => by simp
  | a :: l, i + 1, h => by
    have := split_at (l := l) (i := i) (by simpa using h)
    simp only [List.take_succ_cons, List.getElem_cons_succ, List.drop_succ_cons, List.cons_append]
    rw [← this]
theorem turnAt_some {c : Vec} {ls : List Vec} {i : Nat} (h : turnAt c ls = some i) : ∃ hi : i < ls.length, dot c ls[i] ≠ 0 := by
  unfold turnAt at h
  rw [List.findIdx?_eq_some_iff_getElem] at h
  obtain ⟨hi, h1, _⟩ := h
  exact ⟨hi, of_decide_eq_true h1⟩
theorem turnAt_none {c : Vec} {ls : List Vec} (h : turnAt c ls = none) : ∀ l ∈ ls, dot c l = 0 := by
  unfold turnAt at h
  rw [List.findIdx?_eq_none_iff] at h
  intro l hl
  have := h l hl
  simpa using this
theorem BI.add (h : BI s A b) (hc : c.1.length = s) : BI s (A ++ [c]) (addC b c) := by
  obtain ⟨D, e, i⟩ := h.inv
  have hcnt := h.count
  unfold addC
  cases ht : turnAt c.1 b.lines with
  | some k =>
    obtain ⟨hk, dk⟩ := turnAt_some ht
    have hkD : k < D.length := by rw [e] at hk; simpa using hk
    have hl : b.lines.getD k [] = D[k].2 := by
      rw [List.getD_eq_getElem?_getD, List.getElem?_eq_getElem hk]
      simp [e]
    have el : b.lines[k] = D[k].2 := by simp [e]
    rw [el] at dk
    have inv := i.turn (ex := c.2) hc (D1 := D.take k) (D2 := D.drop (k + 1)) (p := D[k].1) (l := D[k].2) (split_at hkD) dk
    refine ⟨⟨(D.take k ++ D.drop (k + 1)).map fun x => (x.1, tilt (val c.1 D[k].2) c.1 (flip c.1 D[k].2) x.2), ?_, ?_⟩, ?_, ?_, fun _ => ?_⟩
    · show (stepTurn c.1 c.2 b k).lines = _
      unfold stepTurn
      rw [hl, e]
      show (List.take k (D.map Prod.snd) ++ List.drop (k + 1) (D.map Prod.snd)).map (tilt (val c.1 D[k].2) c.1 (flip c.1 D[k].2)) = _
      rw [← List.map_take, ← List.map_drop, ← List.map_append, List.map_map, List.map_map]
      exact List.map_congr_left fun _ _ => rfl
    · show Inv s (A ++ [c]) _ (stepTurn c.1 c.2 b k).rays
      unfold stepTurn
      rw [hl, hcnt]
      exact inv
    · show b.count + 1 = (A ++ [c]).length
      simp [hcnt]
    · have := h.few
      show ((b.lines.take k ++ b.lines.drop (k + 1)).map _).length ≤ s
      simp; omega
    · have := h.few
      show ((b.lines.take k ++ b.lines.drop (k + 1)).map _).length < s
      simp; omega
  | none =>
    have hz := turnAt_none ht
    have inv := i.flat (ex := c.2) hc (fun x hx => hz x.2 (by rw [e]; exact List.mem_map.mpr ⟨x, hx, rfl⟩))
    refine ⟨⟨D, e, ?_⟩, ?_, h.few, fun q => h.less fun z => q ?_⟩
    · show Inv s (A ++ [c]) _ (stepFlat c.1 c.2 b).rays
      unfold stepFlat
      rw [hcnt]
      exact inv
    · show b.count + 1 = (A ++ [c]).length
      simp [hcnt]
    · show (stepFlat c.1 c.2 b).rays = []
      unfold stepFlat
      rw [z]
      simp [zerL, posL, negL, joinedL]
theorem BI.fold : ∀ (cs : List Con) {A : List Con} {b : Bst}, BI s A b → (∀ c ∈ cs, c.1.length = s) → BI s (A ++ cs) (cs.foldl addC b)
  | [], A, b, h, _ => by simpa using h
  | c :: cs, A, b, h, hc => by
    have := BI.fold cs (h.add (hc c List.mem_cons_self)) fun d hd => hc d (List.mem_cons_of_mem _ hd)
    rw [List.append_assoc] at this
    exact this
end

/-! ### how many -/
theorem few_at {α : Type} (f : α → Nat) (M : Nat) : ∀ l : List α, l.Pairwise (fun x y => f x ≠ f y) → (l.filter fun x => decide (f x = M)).length ≤ 1
  | [], _ => by simp
  | a :: l, h => by
    rw [List.pairwise_cons] at h
    rw [List.filter_cons]
    by_cases e : f a = M
    · rw [if_pos (decide_eq_true e)]
      have : l.filter (fun x => decide (f x = M)) = [] := List.filter_eq_nil_iff.mpr fun x hx q => h.1 x hx (e.trans (of_decide_eq_true q).symm)
      rw [this]; simp
    · rw [if_neg (by simpa using e)]
      exact few_at f M l h.2
theorem split_len {α : Type} (p : α → Bool) : ∀ l : List α, l.length = (l.filter p).length + (l.filter fun x => !p x).length
  | [] => rfl
  | a :: l => by
    have ih := split_len p l
    rw [List.filter_cons, List.filter_cons, List.length_cons]
    cases p a <;> simp <;> omega
theorem count_le {α : Type} (f : α → Nat) : ∀ (M : Nat) (l : List α), (∀ x ∈ l, f x < M) → l.Pairwise (fun x y => f x ≠ f y) → l.length ≤ M
  | 0, l, h, _ => by
    cases l with
    | nil => simp
    | cons a l => exact absurd (h a List.mem_cons_self) (Nat.not_lt_zero _)
  | M + 1, l, h, hp => by
    have h1 := few_at f M l hp
    have h2 := count_le f M (l.filter fun x => !decide (f x = M)) (fun x hx => by
      obtain ⟨a, b⟩ := List.mem_filter.mp hx
      have := h x a
      have b : f x ≠ M := by simpa using b
      omega) (List.Pairwise.filter _ hp)
    have := split_len (fun x => decide (f x = M)) l
    omega
section
variable {s : Nat} {A : List Con} {D : List (Nat × Vec)} {Rs : List Ray}
theorem mask_lt (h : Inv s A D Rs) {r : Ray} (hr : r ∈ Rs) : r.2 < 2 ^ A.length := by
  refine Nat.lt_pow_two_of_testBit _ fun i hi => ?_
  cases e : r.2.testBit i with
  | false => rfl
  | true =>
    obtain ⟨c, e1, _⟩ := (h.mask r hr i).mp e
    have := (List.getElem?_eq_some_iff.mp e1).1
    omega
/-- by the masks: the equations' bits are set in all -/
theorem Inv.many2 {es cs : List Vec} (h : Inv s (es.map (fun v => (v, true)) ++ cs.map fun v => (v, false)) D Rs) : Rs.length ≤ 2 ^ cs.length := by
  refine count_le (fun r => r.2 / 2 ^ es.length) _ Rs (fun r hr => ?_) ?_
  · have := mask_lt h hr
    rw [List.length_append, List.length_map, List.length_map, Nat.pow_add] at this
    exact Nat.div_lt_of_lt_mul this
  · refine List.Pairwise.imp_of_mem (fun {x y} hx hy q e => ?_) h.aa
    refine q.1 fun c hc hz => ?_
    obtain ⟨i, hi⟩ := List.mem_iff_getElem?.mp hc
    by_cases hlt : i < es.length
    · have hm : c ∈ es.map (fun v => (v, true)) := by
        rw [List.getElem?_append_left (by simpa using hlt)] at hi
        exact List.mem_of_getElem? hi
      obtain ⟨v, _, rfl⟩ := List.mem_map.mp hm
      exact ((h.rr y hy).2.1 _ hc).2 rfl
    · have b1 : x.2.testBit i = true := (h.mask x hx i).mpr ⟨c, hi, hz⟩
      have b2 : y.2.testBit i = true := by
        have e : x.2 / 2 ^ es.length = y.2 / 2 ^ es.length := e
        have := congrArg (fun z => z.testBit (i - es.length)) e
        simp only [Nat.testBit_div_two_pow] at this
        rw [show i - es.length + es.length = i by omega] at this
        rw [← this]; exact b1
      obtain ⟨c', e1, e2⟩ := (h.mask y hy i).mp b2
      rw [hi] at e1
      rw [Option.some.inj e1]; exact e2
/-- by few conditions that matter -/
def code (A : List Vec) : List Vec → Nat
  | [a, b, c] => ((A.idxOf a) * (A.length + 1) + A.idxOf b) * (A.length + 1) + A.idxOf c
  | [a, b] => ((A.idxOf a) * (A.length + 1) + A.idxOf b) * (A.length + 1) + A.length
  | [a] => ((A.idxOf a) * (A.length + 1) + A.length) * (A.length + 1) + A.length
  | _ => (A.length * (A.length + 1) + A.length) * (A.length + 1) + A.length
theorem pack {m a b a' b' : Nat} (h1 : b < m) (h2 : b' < m) (e : a * m + b = a' * m + b') : a = a' ∧ b = b' := by
  have e1 : (a * m + b) / m = (a' * m + b') / m := by rw [e]
  have e2 : (a * m + b) % m = (a' * m + b') % m := by rw [e]
  rw [Nat.mul_comm a m, Nat.mul_comm a' m] at e1 e2
  rw [Nat.mul_add_div (by omega), Nat.mul_add_div (by omega), Nat.div_eq_of_lt h1, Nat.div_eq_of_lt h2] at e1
  rw [Nat.mul_add_mod, Nat.mul_add_mod, Nat.mod_eq_of_lt h1, Nat.mod_eq_of_lt h2] at e2
  exact ⟨by omega, e2⟩
theorem idx_lt {A : List Vec} {a : Vec} (h : a ∈ A) : A.idxOf a < A.length := List.idxOf_lt_length_of_mem h
theorem idx_inj {A : List Vec} {a b : Vec} (ha : a ∈ A) (hb : b ∈ A) (e : A.idxOf a = A.idxOf b) : a = b := by
  have h1 := List.getElem_idxOf (idx_lt ha)
  have h2 := List.getElem_idxOf (idx_lt hb)
  have : ∀ i j (hi : i < A.length) (hj : j < A.length), i = j → A[i] = A[j] := fun i j hi hj e => by subst e; rfl
  rw [← h1, ← h2]
  exact this _ _ _ _ e
theorem code_lt {A : List Vec} : ∀ {B : List Vec}, (∀ b ∈ B, b ∈ A) → code A B < (A.length + 1) * (A.length + 1) * (A.length + 1) := by
  have key : ∀ {x y z m : Nat}, x < m → y < m → z < m → (x * m + y) * m + z < m * m * m := fun {x y z m} hx hy hz => by
    have h1 : x * m + y < m * m := by
      have : (x + 1) * m ≤ m * m := Nat.mul_le_mul_right _ hx
      rw [Nat.succ_mul] at this; omega
    have : (x * m + y + 1) * m ≤ m * m * m := Nat.mul_le_mul_right _ h1
    rw [Nat.succ_mul] at this; omega
  intro B hB
  unfold code
  split
  · exact key (Nat.lt_succ_of_lt (idx_lt (hB _ (by simp)))) (Nat.lt_succ_of_lt (idx_lt (hB _ (by simp)))) (Nat.lt_succ_of_lt (idx_lt (hB _ (by simp))))
  · exact key (Nat.lt_succ_of_lt (idx_lt (hB _ (by simp)))) (Nat.lt_succ_of_lt (idx_lt (hB _ (by simp)))) (Nat.lt_succ_self _)
  · exact key (Nat.lt_succ_of_lt (idx_lt (hB _ (by simp)))) (Nat.lt_succ_self _) (Nat.lt_succ_self _)
  · exact key (Nat.lt_succ_self _) (Nat.lt_succ_self _) (Nat.lt_succ_self _)
theorem code_inj {A B B' : List Vec} (hB : ∀ b ∈ B, b ∈ A) (hB' : ∀ b ∈ B', b ∈ A) (h3 : B.length ≤ 3) (h3' : B'.length ≤ 3) (e : code A B = code A B') : B = B' := by
  have L : ∀ {a : Vec}, a ∈ A → A.idxOf a < A.length := fun h => idx_lt h
  have S := Nat.lt_succ_self A.length
  match B, B', hB, hB', h3, h3', e with
  | [], [], _, _, _, _, _ => rfl
  | [], [a'], _, hB', _, _, e =>
    obtain ⟨e1, _⟩ := pack S S e
    obtain ⟨e1, _⟩ := pack S S e1
    have := L (hB' a' (by simp)); omega
  | [], [a', b'], _, hB', _, _, e =>
    have l1 := L (hB' a' (by simp)); have l2 := L (hB' b' (by simp))
    obtain ⟨e1, _⟩ := pack S S e
    obtain ⟨e1, _⟩ := pack S (Nat.lt_succ_of_lt l2) e1
    omega
  | [], [a', b', c'], _, hB', _, _, e =>
    have l1 := L (hB' a' (by simp)); have l2 := L (hB' b' (by simp)); have l3 := L (hB' c' (by simp))
    obtain ⟨_, e1⟩ := pack S (Nat.lt_succ_of_lt l3) e
    omega
  | [a], [], hB, _, _, _, e =>
    obtain ⟨e1, _⟩ := pack S S e
    obtain ⟨e1, _⟩ := pack S S e1
    have := L (hB a (by simp)); omega
  | [a], [a'], hB, hB', _, _, e =>
    obtain ⟨e1, _⟩ := pack S S e
    obtain ⟨e1, _⟩ := pack S S e1
    rw [idx_inj (hB a (by simp)) (hB' a' (by simp)) e1]
  | [a], [a', b'], hB, hB', _, _, e =>
    have l2 := L (hB' b' (by simp))
    obtain ⟨e1, _⟩ := pack S S e
    obtain ⟨_, e1⟩ := pack S (Nat.lt_succ_of_lt l2) e1
    omega
  | [a], [a', b', c'], hB, hB', _, _, e =>
    have l3 := L (hB' c' (by simp))
    obtain ⟨_, e1⟩ := pack S (Nat.lt_succ_of_lt l3) e
    omega
  | [a, b], [], hB, _, _, _, e =>
    have l2 := L (hB b (by simp))
    obtain ⟨e1, _⟩ := pack S S e
    obtain ⟨_, e1⟩ := pack (Nat.lt_succ_of_lt l2) S e1
    omega
  | [a, b], [a'], hB, hB', _, _, e =>
    have l2 := L (hB b (by simp))
    obtain ⟨e1, _⟩ := pack S S e
    obtain ⟨_, e1⟩ := pack (Nat.lt_succ_of_lt l2) S e1
    omega
  | [a, b], [a', b'], hB, hB', _, _, e =>
    have l2 := L (hB b (by simp)); have l2' := L (hB' b' (by simp))
    obtain ⟨e1, _⟩ := pack S S e
    obtain ⟨e1, e2⟩ := pack (Nat.lt_succ_of_lt l2) (Nat.lt_succ_of_lt l2') e1
    rw [idx_inj (hB a (by simp)) (hB' a' (by simp)) e1, idx_inj (hB b (by simp)) (hB' b' (by simp)) e2]
  | [a, b], [a', b', c'], hB, hB', _, _, e =>
    have l3 := L (hB' c' (by simp))
    obtain ⟨_, e1⟩ := pack S (Nat.lt_succ_of_lt l3) e
    omega
  | [a, b, c], [], hB, _, _, _, e =>
    have l3 := L (hB c (by simp))
    obtain ⟨_, e1⟩ := pack (Nat.lt_succ_of_lt l3) S e
    omega
  | [a, b, c], [a'], hB, hB', _, _, e =>
    have l3 := L (hB c (by simp))
    obtain ⟨_, e1⟩ := pack (Nat.lt_succ_of_lt l3) S e
    omega
  | [a, b, c], [a', b'], hB, hB', _, _, e =>
    have l3 := L (hB c (by simp))
    obtain ⟨_, e1⟩ := pack (Nat.lt_succ_of_lt l3) S e
    omega
  | [a, b, c], [a', b', c'], hB, hB', _, _, e =>
    have l2 := L (hB b (by simp)); have l2' := L (hB' b' (by simp))
    have l3 := L (hB c (by simp)); have l3' := L (hB' c' (by simp))
    obtain ⟨e1, e3⟩ := pack (Nat.lt_succ_of_lt l3) (Nat.lt_succ_of_lt l3') e
    obtain ⟨e1, e2⟩ := pack (Nat.lt_succ_of_lt l2) (Nat.lt_succ_of_lt l2') e1
    rw [idx_inj (hB a (by simp)) (hB' a' (by simp)) e1, idx_inj (hB b (by simp)) (hB' b' (by simp)) e2, idx_inj (hB c (by simp)) (hB' c' (by simp)) e3]
  | _ :: _ :: _ :: _ :: _, _, _, _, h, _, _ => simp at h
  | _, _ :: _ :: _ :: _ :: _, _, _, _, h, _ => simp at h
theorem Inv.many3 (h : Inv s A D Rs) (hs : s ≤ 4) : Rs.length ≤ (A.length + 1) * (A.length + 1) * (A.length + 1) := by
  have ex : ∀ r : Ray, ∃ B : List Vec, r ∈ Rs → (∀ b ∈ B, b ∈ A.map Prod.fst ∧ dot b r.1 = 0) ∧ B.length ≤ 3 ∧ ∀ v : Vec, v.length = s → (∀ b ∈ B, dot b v = 0) → Sub A r.1 v := fun r => by
    by_cases hr : r ∈ Rs
    · obtain ⟨lr, cr, nr⟩ := h.rr r hr
      have nz : ¬ IsZero r.1 := fun z => nr fun c _ => dot_zero _ z
      obtain ⟨B, h1, h2, h3, h4⟩ := rank s ((A.map Prod.fst).filter fun a => decide (dot a r.1 = 0)) (fun a ha => by
        obtain ⟨c, hc, rfl⟩ := List.mem_map.mp (List.mem_filter.mp ha).1
        exact h.lenA c hc)
      have h5 := h4 ⟨r.1, lr, nz, fun a ha => of_decide_eq_true (List.mem_filter.mp ha).2⟩
      refine ⟨B, fun _ => ⟨fun b hb => ⟨(List.mem_filter.mp (h1 b hb)).1, of_decide_eq_true (List.mem_filter.mp (h1 b hb)).2⟩, by omega, fun v lv hv c hc e => ?_⟩⟩
      exact h3 v lv hv c.1 (List.mem_filter.mpr ⟨List.mem_map.mpr ⟨c, hc, rfl⟩, decide_eq_true e⟩)
    · exact ⟨[], fun q => absurd q hr⟩
  obtain ⟨F, hf⟩ : ∃ F : Ray → List Vec, ∀ r : Ray, r ∈ Rs → (∀ b ∈ F r, b ∈ A.map Prod.fst ∧ dot b r.1 = 0) ∧ (F r).length ≤ 3 ∧ ∀ v : Vec, v.length = s → (∀ b ∈ F r, dot b v = 0) → Sub A r.1 v :=
    ⟨fun r => Classical.choose (ex r), fun r => Classical.choose_spec (ex r)⟩
  have e : (A.map Prod.fst).length = A.length := by simp
  have := count_le (fun r => code (A.map Prod.fst) (F r)) ((A.length + 1) * (A.length + 1) * (A.length + 1)) Rs (fun r hr => by
    rw [← e]
    exact code_lt fun b hb => ((hf r hr).1 b hb).1) (by
    refine List.Pairwise.imp_of_mem (fun {x y} hx hy q z => ?_) h.aa
    have hx' := hf x hx
    have hy' := hf y hy
    have : F x = F y := code_inj (fun b hb => (hx'.1 b hb).1) (fun b hb => (hy'.1 b hb).1) hx'.2.1 hy'.2.1 z
    exact q.1 (hx'.2.2 y.1 (h.rr y hy).1 fun b hb => (hy'.1 b (by rw [← this]; exact hb)).2))
  exact this
end

/-! ### sizes -/
theorem Sg_le {s c : Nat} (hs : s ≤ 4) : Sg s (2 ^ c) ≤ 2 ^ (7 * c + 7) := by
  have hx : 1 ≤ 2 ^ c := Nat.one_le_two_pow
  have e : 2 ^ (7 * c + 7) = 128 * (2 ^ c) ^ 7 := by
    rw [Nat.pow_add, Nat.mul_comm 7 c, Nat.pow_mul]; omega
  rw [e]
  generalize 2 ^ c = x at hx
  have p2 : x ≤ x * x := by have := Nat.mul_le_mul hx (Nat.le_refl x); omega
  have p3 : x * x ≤ x * x * x := by have := Nat.mul_le_mul_left (x * x) hx; omega
  have p4 : x * x * x ≤ x * x * x * x := by have := Nat.mul_le_mul_left (x * x * x) hx; omega
  have p5 : x * x * x * x ≤ x * x * x * x * x := by have := Nat.mul_le_mul_left (x * x * x * x) hx; omega
  have p6 : x * x * x * x * x ≤ x * x * x * x * x * x := by have := Nat.mul_le_mul_left (x * x * x * x * x) hx; omega
  have p7 : x * x * x * x * x * x ≤ x * x * x * x * x * x * x := by have := Nat.mul_le_mul_left (x * x * x * x * x * x) hx; omega
  have e7 : x ^ 7 = x * x * x * x * x * x * x := by grind
  rw [e7]
  match s, hs with
  | 0, _ => simp only [Sg]; omega
  | 1, _ => simp only [Sg]; omega
  | 2, _ => simp only [Sg]; simp; omega
  | 3, _ =>
    simp only [Sg]; simp
    have : 2 * x * (2 * x * x + 1) + 1 = 4 * (x * x * x) + 2 * x + 1 := by grind
    omega
  | 4, _ =>
    simp only [Sg]; simp
    have : 3 * x * (2 * (2 * x * x) * (2 * (2 * x * x) * (2 * x * x) + 1) + 1) + 1 = 96 * (x * x * x * x * x * x * x) + 12 * (x * x * x) + 3 * x + 1 := by grind
    omega
end FM
/-! Echelon form, reduction, and what dual gives. -/
set_option linter.all false
set_option maxHeartbeats 2000000
namespace FM
def pivot (v : Vec) : Option Nat := match (List.range (v.length - 1)).find? (fun i => decide (at0 v (1 + i) ≠ 0)) with
  | some i => some (1 + i)
  | none => if 0 < v.length ∧ at0 v 0 ≠ 0 then some 0 else none
def piv (v : Vec) : Nat := (pivot v).getD 0
/-- column 0 comes last -/
def ord (s c : Nat) : Nat := if c = 0 then s else c
def PvAt (v : Vec) (c : Nat) : Prop := c < v.length ∧ at0 v c ≠ 0 ∧ ∀ j, j < v.length → ord v.length j < ord v.length c → at0 v j = 0
theorem PvAt.uniq {v : Vec} {c d : Nat} (h : PvAt v c) (k : PvAt v d) : c = d := by
  have h1 : ¬ ord v.length c < ord v.length d := fun q => h.2.1 (k.2.2 c h.1 q)
  have h2 : ¬ ord v.length d < ord v.length c := fun q => k.2.1 (h.2.2 d k.1 q)
  have := h.1; have := k.1
  unfold ord at h1 h2
  split at h1 <;> split at h1 <;> split at h2 <;> (try split at h2) <;> omega
theorem pivot_some {v : Vec} {c : Nat} (h : pivot v = some c) : PvAt v c := by
  unfold pivot at h
  split at h
  · rename_i i hi
    have hc := Option.some.inj h
    subst hc
    rw [List.find?_eq_some_iff_getElem] at hi
    obtain ⟨h1, j, hj, e, h2⟩ := hi
    simp only [List.getElem_range] at e
    subst e
    have hj' : j < v.length - 1 := by simpa using hj
    refine ⟨by omega, of_decide_eq_true h1, fun k hk ho => ?_⟩
    have hk0 : k ≠ 0 := fun e => by subst e; unfold ord at ho; simp at ho; omega
    have hlt : k < 1 + j := by
      unfold ord at ho
      rw [if_neg hk0, if_neg (by omega)] at ho
      exact ho
    have := h2 (k - 1) (by omega)
    simp only [List.getElem_range] at this
    rw [show 1 + (k - 1) = k by omega] at this
    simpa using this
  · rename_i hn
    split at h
    · rename_i hz
      have hc := Option.some.inj h
      subst hc
      refine ⟨hz.1, hz.2, fun k hk ho => ?_⟩
      have hk0 : k ≠ 0 := fun e => by subst e; omega
      have := List.find?_eq_none.mp hn (k - 1) (List.mem_range.mpr (by omega))
      rw [show 1 + (k - 1) = k by omega] at this
      simpa using this
    · cases h
theorem pivot_none {v : Vec} (h : pivot v = none) : IsZero v := by
  unfold pivot at h
  split at h
  · cases h
  · rename_i hn
    split at h
    · cases h
    · rename_i hz
      intro i
      by_cases hi : i < v.length
      · by_cases h0 : i = 0
        · subst h0
          exact Classical.byContradiction fun q => hz ⟨hi, q⟩
        · have := List.find?_eq_none.mp hn (i - 1) (List.mem_range.mpr (by omega))
          rw [show 1 + (i - 1) = i by omega] at this
          simpa using this
      · exact at0_ge (by omega)
theorem pivot_of {v : Vec} {c : Nat} (h : PvAt v c) : pivot v = some c := by
  cases e : pivot v with
  | none => exact absurd (pivot_none e c) h.2.1
  | some d => rw [(pivot_some e).uniq h]
theorem piv_of {v : Vec} {c : Nat} (h : PvAt v c) : piv v = c := by unfold piv; rw [pivot_of h]; rfl
theorem PvAt.congr {v w : Vec} {c : Nat} (h : PvAt v c) (hl : w.length = v.length) (e : ∀ i, at0 w i = 0 ↔ at0 v i = 0) : PvAt w c :=
  ⟨by rw [hl]; exact h.1, fun q => h.2.1 ((e c).mp q), fun j hj ho => (e j).mpr (h.2.2 j (by rw [← hl]; exact hj) (by rw [← hl]; exact ho))⟩
def clr (v row : Vec) (c : Nat) : Vec := if at0 v c = 0 then v else prim (comb (at0 row c) v (-(at0 v c)) row)
theorem clr_len {v row : Vec} {c : Nat} (h : v.length = row.length) : (clr v row c).length = v.length := by unfold clr; split <;> simp [prim_len, comb_len h]
/-- what a clearing does -/
theorem clr_facts {v row : Vec} {c : Nat} (h : v.length = row.length) (hp : 0 < at0 row c) : at0 (clr v row c) c = 0 ∧
    ∃ p q : Int, 0 < p ∧ 0 < q ∧ (∀ a, dot a row = 0 → p * dot a (clr v row c) = q * dot a v) ∧ ∀ i, at0 row i = 0 → p * at0 (clr v row c) i = q * at0 v i := by
  unfold clr
  split
  · rename_i e
    exact ⟨e, 1, 1, by decide, by decide, fun a _ => rfl, fun i _ => rfl⟩
  · rename_i e
    obtain ⟨g, hg, e1, e2⟩ := dot_prim (comb (at0 row c) v (-(at0 v c)) row)
    refine ⟨?_, g, at0 row c, hg, hp, fun a ha => ?_, fun i hi => ?_⟩
    · have := e2 c
      rw [at0_comb _ _ _ h] at this
      have : g * at0 (prim (comb (at0 row c) v (-(at0 v c)) row)) c = 0 := by grind
      rcases Int.mul_eq_zero.mp this with q | q
      · omega
      · exact q
    · rw [← e1, dot_comb a _ _ h, ha]; simp
    · rw [← e2, at0_comb _ _ _ h, hi]; simp
structure EI (s : Nat) (F : List Vec) : Prop where
  len : ∀ f ∈ F, f.length = s
  pv : ∀ f ∈ F, PvAt f (piv f) ∧ 0 < at0 f (piv f)
  diag : ∀ f ∈ F, ∀ g ∈ F, piv f ≠ piv g → at0 f (piv g) = 0
  nodup : (F.map piv).Nodup
  gcd : ∀ f ∈ F, gcdL f = 1
theorem EI.nil (s : Nat) : EI s [] := ⟨by simp, by simp, by simp, by simp, by simp⟩
theorem EI.perm {s : Nat} {F G : List Vec} (h : EI s F) (p : G.Perm F) : EI s G :=
  ⟨fun f hf => h.len f (p.mem_iff.mp hf), fun f hf => h.pv f (p.mem_iff.mp hf), fun f hf g hg => h.diag f (p.mem_iff.mp hf) g (p.mem_iff.mp hg), ((p.map piv).nodup_iff).mpr h.nodup, fun f hf => h.gcd f (p.mem_iff.mp hf)⟩
def clrAll (F : List Vec) (v : Vec) : Vec := F.foldl (fun r k => clr r k (piv k)) v
theorem clrAll_facts {s : Nat} : ∀ (G : List Vec), EI s G → ∀ v : Vec, v.length = s → (clrAll G v).length = s ∧
    (∃ p q : Int, 0 < p ∧ 0 < q ∧ (∀ a, (∀ g ∈ G, dot a g = 0) → p * dot a (clrAll G v) = q * dot a v) ∧ ∀ i, (∀ g ∈ G, at0 g i = 0) → p * at0 (clrAll G v) i = q * at0 v i) ∧ ∀ g ∈ G, at0 (clrAll G v) (piv g) = 0
  | [], _, v, hv => ⟨hv, ⟨1, 1, by decide, by decide, fun _ _ => rfl, fun _ _ => rfl⟩, by simp⟩
  | g :: G, h, v, hv => by
    have nd := h.nodup
    rw [List.map_cons, List.nodup_cons] at nd
    have hG : EI s G := ⟨fun f hf => h.len f (List.mem_cons_of_mem _ hf), fun f hf => h.pv f (List.mem_cons_of_mem _ hf), fun f hf k hk => h.diag f (List.mem_cons_of_mem _ hf) k (List.mem_cons_of_mem _ hk), nd.2, fun f hf => h.gcd f (List.mem_cons_of_mem _ hf)⟩
    have lg := h.len g List.mem_cons_self
    have hlg : v.length = g.length := by rw [hv, lg]
    obtain ⟨c0, p1, q1, hp1, hq1, c1, c2⟩ := clr_facts (c := piv g) hlg (h.pv g List.mem_cons_self).2
    obtain ⟨l2, ⟨p2, q2, hp2, hq2, d1, d2⟩, z2⟩ := clrAll_facts G hG (clr v g (piv g)) (by rw [clr_len hlg, hv])
    have e : clrAll (g :: G) v = clrAll G (clr v g (piv g)) := rfl
    rw [e]
    refine ⟨l2, ⟨p1 * p2, q1 * q2, Int.mul_pos hp1 hp2, Int.mul_pos hq1 hq2, fun a ha => ?_, fun i hi => ?_⟩, fun k hk => ?_⟩
    · have x1 := d1 a fun k hk => ha k (List.mem_cons_of_mem _ hk)
      have x2 := c1 a (ha g List.mem_cons_self)
      grind
    · have x1 := d2 i fun k hk => hi k (List.mem_cons_of_mem _ hk)
      have x2 := c2 i (hi g List.mem_cons_self)
      grind
    · rcases List.mem_cons.mp hk with rfl | hk
      · have := d2 (piv k) fun y hy => h.diag y (List.mem_cons_of_mem _ hy) k List.mem_cons_self fun e => nd.1 (List.mem_map.mpr ⟨y, hy, e⟩)
        rw [c0] at this
        rcases Int.mul_eq_zero.mp (by simpa using this : p2 * at0 (clrAll G (clr v k (piv k))) (piv k) = 0) with q | q
        · omega
        · exact q
      · exact z2 k hk
/-- a primitive vector stays primitive -/
theorem clrAll_gcd {s : Nat} : ∀ (G : List Vec), EI s G → ∀ v : Vec, v.length = s → gcdL v = 1 → (∃ a, (∀ g ∈ G, dot a g = 0) ∧ dot a v ≠ 0) → gcdL (clrAll G v) = 1
  | [], _, v, _, hg, _ => hg
  | g :: G, h, v, hv, hg, hx => by
    have nd := h.nodup
    rw [List.map_cons, List.nodup_cons] at nd
    have hG : EI s G := ⟨fun f hf => h.len f (List.mem_cons_of_mem _ hf), fun f hf => h.pv f (List.mem_cons_of_mem _ hf), fun f hf k hk => h.diag f (List.mem_cons_of_mem _ hf) k (List.mem_cons_of_mem _ hk), nd.2, fun f hf => h.gcd f (List.mem_cons_of_mem _ hf)⟩
    have hlg : v.length = g.length := by rw [hv, h.len g List.mem_cons_self]
    obtain ⟨c0, p1, q1, hp1, hq1, c1, c2⟩ := clr_facts (c := piv g) hlg (h.pv g List.mem_cons_self).2
    obtain ⟨a, ha, na⟩ := hx
    have nz : dot a (clr v g (piv g)) ≠ 0 := fun e => by
      have := c1 a (ha g List.mem_cons_self)
      rw [e] at this
      rcases Int.mul_eq_zero.mp (by simpa using this.symm : q1 * dot a v = 0) with q | q
      · omega
      · exact na q
    refine clrAll_gcd G hG (clr v g (piv g)) (by rw [clr_len hlg, hv]) ?_ ⟨a, fun k hk => ha k (List.mem_cons_of_mem _ hk), nz⟩
    by_cases e : at0 v (piv g) = 0
    · unfold clr
      rw [if_pos e]; exact hg
    · unfold clr at nz ⊢
      rw [if_neg e] at nz ⊢
      exact prim_gcd fun z => nz (by
        obtain ⟨g', hg', e1, _⟩ := dot_prim (comb (at0 g (piv g)) v (-(at0 v (piv g))) g)
        have := e1 a
        rw [dot_zero a z] at this
        rcases Int.mul_eq_zero.mp this.symm with q | q
        · omega
        · exact q)
def sgn (c : Nat) (v : Vec) : Vec := if at0 v c < 0 then neg v else v
def ech1 (F : List Vec) (row : Vec) : List Vec := match pivot (clrAll F row) with
  | none => F
  | some c => F.map (fun k => clr k (sgn c (prim (clrAll F row))) c) ++ [sgn c (prim (clrAll F row))]
def ech (rows : List Vec) : List Vec := rows.foldl ech1 []
theorem prim_at (v : Vec) (i : Nat) : at0 (prim v) i = 0 ↔ at0 v i = 0 := by
  obtain ⟨g, hg, _, e⟩ := dot_prim v
  rw [e i]
  constructor
  · intro q; rw [q]; simp
  · intro q
    rcases Int.mul_eq_zero.mp q with q | q
    · omega
    · exact q
theorem prim_dot (v a : Vec) : dot a (prim v) = 0 ↔ dot a v = 0 := by
  obtain ⟨g, hg, e, _⟩ := dot_prim v
  rw [e a]
  constructor
  · intro q; rw [q]; simp
  · intro q
    rcases Int.mul_eq_zero.mp q with q | q
    · omega
    · exact q
theorem sgn_at (c : Nat) (v : Vec) (i : Nat) : at0 (sgn c v) i = 0 ↔ at0 v i = 0 := by unfold sgn; split <;> simp [at0_neg]
theorem sgn_dot (c : Nat) (v a : Vec) : dot a (sgn c v) = 0 ↔ dot a v = 0 := by unfold sgn; split <;> simp [dot_negv]
theorem sgn_len (c : Nat) (v : Vec) : (sgn c v).length = v.length := by unfold sgn; split <;> simp [neg_len]
theorem sgn_pos {c : Nat} {v : Vec} (h : at0 v c ≠ 0) : 0 < at0 (sgn c v) c := by unfold sgn; split <;> (try rw [at0_neg]) <;> omega
theorem sgn_gcd (c : Nat) (v : Vec) : gcdL (sgn c v) = gcdL v := by unfold sgn; split <;> simp [gcdL_neg]
theorem ech1_ok {s : Nat} {F : List Vec} (h : EI s F) {row : Vec} (hr : row.length = s) : EI s (ech1 F row) ∧ (∀ a, (∀ f ∈ ech1 F row, dot a f = 0) ↔ (∀ f ∈ F, dot a f = 0) ∧ dot a row = 0) ∧ (ech1 F row).length ≤ F.length + 1 := by
  obtain ⟨l1, ⟨p, q, hp, hq, e1, _⟩, z1⟩ := clrAll_facts F h row hr
  have eqv : ∀ a, (∀ f ∈ F, dot a f = 0) → (dot a (clrAll F row) = 0 ↔ dot a row = 0) := fun a ha => (ss hp hq (e1 a ha)).1
  unfold ech1
  split
  · rename_i hn
    refine ⟨h, fun a => ⟨fun ha => ⟨ha, ?_⟩, fun ha => ha.1⟩, by omega⟩
    exact (eqv a ha).mp (dot_zero a (pivot_none hn))
  · rename_i c hc
    have pv := pivot_some hc
    generalize hx : sgn c (prim (clrAll F row)) = x
    have lx : x.length = s := by rw [← hx, sgn_len, prim_len, l1]
    have xz : ∀ i, at0 x i = 0 ↔ at0 (clrAll F row) i = 0 := fun i => by rw [← hx, sgn_at, prim_at]
    have xd : ∀ a, dot a x = 0 ↔ dot a (clrAll F row) = 0 := fun a => by rw [← hx, sgn_dot, prim_dot]
    have pvx : PvAt x c := pv.congr (by rw [lx, l1]) xz
    have xp : 0 < at0 x c := by rw [← hx]; exact sgn_pos (fun e => pv.2.1 ((prim_at _ _).mp e))
    have nzx : ¬ IsZero (clrAll F row) := fun z => pv.2.1 (z c)
    have xg : gcdL x = 1 := by rw [← hx, sgn_gcd]; exact prim_gcd nzx
    have x0 : ∀ f ∈ F, at0 x (piv f) = 0 := fun f hf => (xz _).mpr (z1 f hf)
    have px : piv x = c := piv_of pvx
    have cne : ∀ f ∈ F, piv f ≠ c := fun f hf e => pvx.2.1 (by rw [← e]; exact x0 f hf)
    -- the rows cleared
    have row' : ∀ f ∈ F, (clr f x c).length = s ∧ PvAt (clr f x c) (piv f) ∧ 0 < at0 (clr f x c) (piv f) ∧ at0 (clr f x c) c = 0 ∧ (∀ i, at0 x i = 0 → (at0 (clr f x c) i = 0 ↔ at0 f i = 0)) ∧ gcdL (clr f x c) = 1 ∧ ∀ a, dot a x = 0 → (dot a (clr f x c) = 0 ↔ dot a f = 0) := fun f hf => by
      have lf := h.len f hf
      have hl : f.length = x.length := by rw [lf, lx]
      obtain ⟨c0, p1, q1, hp1, hq1, c1, c2⟩ := clr_facts (c := c) hl xp
      have zi : ∀ i, at0 x i = 0 → (at0 (clr f x c) i = 0 ↔ at0 f i = 0) := fun i hi => (ss hp1 hq1 (c2 i hi)).1
      have pf := (h.pv f hf).1
      have lcl : (clr f x c).length = s := by rw [clr_len hl, lf]
      have nz : at0 (clr f x c) (piv f) ≠ 0 := fun e => pf.2.1 ((zi _ (x0 f hf)).mp e)
      refine ⟨lcl, ⟨by rw [lcl, ← lf]; exact pf.1, nz, fun j hj ho => ?_⟩, ?_, c0, zi, ?_, fun a ha => (ss hp1 hq1 (c1 a ha)).1⟩
      · rw [lcl] at hj ho
        by_cases ec : at0 f c = 0
        · unfold clr
          rw [if_pos ec]
          exact pf.2.2 j (by rw [lf]; exact hj) (by rw [lf]; exact ho)
        · have fj : at0 f j = 0 := pf.2.2 j (by rw [lf]; exact hj) (by rw [lf]; exact ho)
          have n1 : ¬ ord s c < ord s (piv f) := fun q => ec (pf.2.2 c (by have := pvx.1; rw [lf]; omega) (by rw [lf]; exact q))
          have xj : at0 x j = 0 := pvx.2.2 j (by rw [lx]; exact hj) (by rw [lx]; omega)
          exact (zi j xj).mpr fj
      · have := c2 (piv f) (x0 f hf)
        have hpos := Int.mul_pos hq1 (h.pv f hf).2
        rw [← this] at hpos
        exact Int.lt_of_mul_lt_mul_left (a := p1) (by simpa using hpos) (Int.le_of_lt hp1)
      · unfold clr
        split
        · exact h.gcd f hf
        · rename_i ec
          refine prim_gcd fun z => nz ?_
          unfold clr
          rw [if_neg ec]
          exact (prim_at _ _).mpr (z _)
    have pcl : ∀ f ∈ F, piv (clr f x c) = piv f := fun f hf => piv_of (row' f hf).2.1
    have mem : ∀ {y}, y ∈ F.map (fun k => clr k x c) ++ [x] → (∃ f ∈ F, y = clr f x c) ∨ y = x := fun {y} hy => by
      rcases List.mem_append.mp hy with q | q
      · obtain ⟨f, hf, rfl⟩ := List.mem_map.mp q
        exact .inl ⟨f, hf, rfl⟩
      · exact .inr (by simpa using q)
    refine ⟨⟨fun y hy => ?_, fun y hy => ?_, fun y hy z hz ne => ?_, ?_, fun y hy => ?_⟩, fun a => ⟨fun ha => ?_, fun ⟨ha, hw⟩ y hy => ?_⟩, by simp⟩
    · rcases mem hy with ⟨f, hf, rfl⟩ | rfl
      · exact (row' f hf).1
      · exact lx
    · rcases mem hy with ⟨f, hf, rfl⟩ | rfl
      · rw [pcl f hf]; exact ⟨(row' f hf).2.1, (row' f hf).2.2.1⟩
      · rw [px]; exact ⟨pvx, xp⟩
    · rcases mem hy with ⟨f, hf, rfl⟩ | rfl
      · rcases mem hz with ⟨g, hg, rfl⟩ | rfl
        · rw [pcl f hf, pcl g hg] at ne
          rw [pcl g hg]
          exact ((row' f hf).2.2.2.2.1 _ (x0 g hg)).mpr (h.diag f hf g hg ne)
        · rw [px]; exact (row' f hf).2.2.2.1
      · rcases mem hz with ⟨g, hg, rfl⟩ | rfl
        · rw [pcl g hg]; exact x0 g hg
        · exact absurd rfl ne
    · rw [List.map_append, List.map_map]
      have e : F.map (piv ∘ fun k => clr k x c) = F.map piv := List.map_congr_left fun f hf => pcl f hf
      rw [e]
      refine List.nodup_append.mpr ⟨h.nodup, by simp, fun a ha b hb e => ?_⟩
      obtain ⟨f, hf, rfl⟩ := List.mem_map.mp ha
      have : b = c := by simpa [px] using hb
      exact cne f hf (e.trans this)
    · rcases mem hy with ⟨f, hf, rfl⟩ | rfl
      · exact (row' f hf).2.2.2.2.2.1
      · exact xg
    · have hx0 := ha x (List.mem_append_right _ (by simp))
      have hF : ∀ f ∈ F, dot a f = 0 := fun f hf => ((row' f hf).2.2.2.2.2.2 a hx0).mp (ha _ (List.mem_append_left _ (List.mem_map.mpr ⟨f, hf, rfl⟩)))
      exact ⟨hF, (eqv a hF).mp ((xd a).mp hx0)⟩
    · have hx0 : dot a x = 0 := (xd a).mpr ((eqv a ha).mpr hw)
      rcases mem hy with ⟨f, hf, rfl⟩ | rfl
      · exact ((row' f hf).2.2.2.2.2.2 a hx0).mpr (ha f hf)
      · exact hx0
theorem ech_fold {s : Nat} : ∀ (rows : List Vec) (F : List Vec), EI s F → (∀ r ∈ rows, r.length = s) → EI s (rows.foldl ech1 F) ∧ (∀ a, (∀ f ∈ rows.foldl ech1 F, dot a f = 0) ↔ (∀ f ∈ F, dot a f = 0) ∧ ∀ r ∈ rows, dot a r = 0) ∧ (rows.foldl ech1 F).length ≤ F.length + rows.length
  | [], F, h, _ => ⟨h, fun a => ⟨fun q => ⟨q, by simp⟩, fun q => q.1⟩, by simp⟩
  | r :: rows, F, h, hr => by
    obtain ⟨h1, h2, h3⟩ := ech1_ok h (hr r List.mem_cons_self)
    obtain ⟨g1, g2, g3⟩ := ech_fold rows (ech1 F r) h1 fun x hx => hr x (List.mem_cons_of_mem _ hx)
    refine ⟨g1, fun a => ?_, ?_⟩
    · rw [List.foldl_cons, g2 a, h2 a]
      simp [and_assoc]
    · rw [List.foldl_cons, List.length_cons]; omega
theorem ech_ok {s : Nat} {rows : List Vec} (hr : ∀ r ∈ rows, r.length = s) : EI s (ech rows) ∧ (∀ a, (∀ f ∈ ech rows, dot a f = 0) ↔ ∀ r ∈ rows, dot a r = 0) ∧ (ech rows).length ≤ rows.length := by
  obtain ⟨h1, h2, h3⟩ := ech_fold rows [] (EI.nil s) hr
  refine ⟨h1, fun a => ?_, by unfold ech; simpa using h3⟩
  unfold ech
  rw [h2 a]; simp
/-- functionals swept against rows -/
theorem dsweep {s : Nat} : ∀ D : List (Nat × Vec), (∀ x ∈ D, x.2.length = s) → (∀ x ∈ D, at0 x.2 x.1 ≠ 0) → (∀ x ∈ D, ∀ y ∈ D, x.1 ≠ y.1 → at0 x.2 y.1 = 0) → (D.map Prod.fst).Nodup → ∀ c : Vec, c.length = s →
    ∃ (k : Int) (w : Vec), k ≠ 0 ∧ w.length = s ∧ (∀ x ∈ D, dot w x.2 = 0) ∧ ∀ v : Vec, v.length = s → (∀ x ∈ D, at0 v x.1 = 0) → dot w v = k * dot c v
  | [], _, _, _, _, c, hc => ⟨1, c, by decide, hc, by simp, fun v _ _ => by simp⟩
  | x :: D, hl, hn, hd, nd, c, hc => by
    rw [List.map_cons, List.nodup_cons] at nd
    obtain ⟨k, w, h1, h2, h3, h4⟩ := dsweep D (fun y hy => hl y (List.mem_cons_of_mem _ hy)) (fun y hy => hn y (List.mem_cons_of_mem _ hy)) (fun y hy z hz => hd y (List.mem_cons_of_mem _ hy) z (List.mem_cons_of_mem _ hz)) nd.2 c hc
    have lx := hl x List.mem_cons_self
    have nx := hn x List.mem_cons_self
    have hlw : w.length = (unit s x.1).length := by rw [h2, unit_len]
    refine ⟨at0 x.2 x.1 * k, comb (at0 x.2 x.1) w (-(dot w x.2)) (unit s x.1), ?_, by rw [comb_len hlw, h2], fun y hy => ?_, fun v lv zv => ?_⟩
    · intro e
      rcases Int.mul_eq_zero.mp e with e | e
      · exact nx e
      · exact h1 e
    · rcases List.mem_cons.mp hy with rfl | hy
      · rw [dot_comb_l _ _ _ hlw, dot_unit lx]; grind
      · have ne : y.1 ≠ x.1 := fun e => nd.1 (List.mem_map.mpr ⟨y, hy, e⟩)
        rw [dot_comb_l _ _ _ hlw, dot_unit (hl y (List.mem_cons_of_mem _ hy)), h3 y hy, hd y (List.mem_cons_of_mem _ hy) x List.mem_cons_self ne]; simp
    · rw [dot_comb_l _ _ _ hlw, dot_unit lv, h4 v lv fun y hy => zv y (List.mem_cons_of_mem _ hy), zv x List.mem_cons_self]; grind
def tagged (F : List Vec) : List (Nat × Vec) := F.map fun f => (piv f, f)
theorem tagged_snd (F : List Vec) : (tagged F).map Prod.snd = F := by
  unfold tagged
  rw [List.map_map]
  exact (List.map_congr_left fun _ _ => rfl).trans (List.map_id F)
theorem tagged_fst (F : List Vec) : (tagged F).map Prod.fst = F.map piv := by
  unfold tagged
  rw [List.map_map]
  exact List.map_congr_left fun _ _ => rfl
/-- the echelon form of lines is as good as the lines -/
theorem DB.ech {s : Nat} {A : List Vec} {D : List (Nat × Vec)} (h : DB s A D) {F : List Vec} (e : EI s F) (ann : ∀ a, (∀ f ∈ F, dot a f = 0) ↔ ∀ x ∈ D, dot a x.2 = 0) : DB s A (tagged F) := by
  have mem : ∀ {x}, x ∈ tagged F → x.2 ∈ F ∧ x.1 = piv x.2 := fun {x} hx => by
    obtain ⟨f, hf, rfl⟩ := List.mem_map.mp hx
    exact ⟨hf, rfl⟩
  have b1 : ∀ x ∈ tagged F, x.2.length = s := fun x hx => e.len _ (mem hx).1
  have b2 : ∀ x ∈ tagged F, at0 x.2 x.1 ≠ 0 := fun x hx => by rw [(mem hx).2]; exact (e.pv _ (mem hx).1).1.2.1
  have b3 : ∀ x ∈ tagged F, ∀ y ∈ tagged F, x.1 ≠ y.1 → at0 x.2 y.1 = 0 := fun x hx y hy ne => by
    rw [(mem hx).2, (mem hy).2] at ne
    rw [(mem hy).2]
    exact e.diag _ (mem hx).1 _ (mem hy).1 ne
  have b4 : ((tagged F).map Prod.fst).Nodup := by rw [tagged_fst]; exact e.nodup
  refine ⟨b1, fun x hx a ha => ?_, b2, b3, b4, fun v lv kv zv i => ?_⟩
  · exact (ann a).mpr (fun y hy => h.lin y hy a ha) _ (mem hx).1
  · by_cases hi : i < s
    · obtain ⟨k, w, h1, h2, h3, h4⟩ := dsweep (tagged F) b1 b2 b3 b4 (unit s i) (unit_len _ _)
      have hw : ∀ x ∈ D, dot w x.2 = 0 := (ann w).mp fun f hf => h3 (piv f, f) (List.mem_map.mpr ⟨f, hf, rfl⟩)
      have := h.kill hw lv kv
      rw [h4 v lv zv, dot_unit lv] at this
      rcases Int.mul_eq_zero.mp this with q | q
      · exact absurd q h1
      · exact q
    · exact at0_ge (by omega)
theorem DB.take {s : Nat} {A : List Vec} {D : List (Nat × Vec)} (h : DB s A D) (i : Nat) : DB s (A ++ (D.drop i).map fun x => unit s x.1) (D.take i) := by
  have hm : ∀ {x}, x ∈ D.take i → x ∈ D := fun hx => List.mem_of_mem_take hx
  have hd : ∀ {x}, x ∈ D.drop i → x ∈ D := fun hx => List.mem_of_mem_drop hx
  have nd := h.nodup
  rw [← List.take_append_drop i D, List.map_append] at nd
  have nd' := List.nodup_append.mp nd
  refine ⟨fun x hx => h.len x (hm hx), fun x hx a ha => ?_, fun x hx => h.nz x (hm hx), fun x hx y hy => h.diag x (hm hx) y (hm hy), nd'.1, fun v lv kv zv => ?_⟩
  · rcases List.mem_append.mp ha with q | q
    · exact h.lin x (hm hx) a q
    · obtain ⟨y, hy, rfl⟩ := List.mem_map.mp q
      rw [dot_unit (h.len x (hm hx))]
      exact h.diag x (hm hx) y (hd hy) fun e => nd'.2.2 x.1 (List.mem_map.mpr ⟨x, hx, rfl⟩) y.1 (List.mem_map.mpr ⟨y, hy, rfl⟩) e
  · refine h.full v lv (fun a ha => kv a (List.mem_append_left _ ha)) fun x hx => ?_
    rw [← List.take_append_drop i D] at hx
    rcases List.mem_append.mp hx with q | q
    · exact zv x q
    · have := kv (unit s x.1) (List.mem_append_right _ (List.mem_map.mpr ⟨x, q, rfl⟩))
      rwa [dot_unit lv] at this
/-- the rows found so far are small -/
theorem ech_bound {s : Nat} {A : List Con} {b : Bst} (h : BI s A b) {C : Nat} (hC : 1 ≤ C) (hA : ∀ c ∈ A, ∀ x ∈ c.1, x.natAbs ≤ C) (i : Nat) : ∀ f ∈ ech (b.lines.take i), ∀ y ∈ f, y.natAbs ≤ Sg s C := by
  obtain ⟨D, e, inv⟩ := h.inv
  have hl : ∀ r ∈ b.lines.take i, r.length = s := fun r hr => h.lenL r (List.mem_of_mem_take hr)
  obtain ⟨h1, h2, _⟩ := ech_ok hl
  have e' : b.lines.take i = (D.take i).map Prod.snd := by rw [e, List.map_take]
  have db := (inv.db.take i).ech h1 (fun a => by
    rw [h2 a, e']
    constructor
    · intro q x hx; exact q _ (List.mem_map.mpr ⟨x, hx, rfl⟩)
    · intro q r hr
      obtain ⟨x, hx, rfl⟩ := List.mem_map.mp hr
      exact q x hx)
  intro f hf
  exact db.bound hC (fun a ha => by
    rcases List.mem_append.mp ha with q | q
    · obtain ⟨c, hc, rfl⟩ := List.mem_map.mp q
      exact ⟨inv.lenA c hc, hA c hc⟩
    · obtain ⟨x, _, rfl⟩ := List.mem_map.mp q
      exact ⟨unit_len _ _, fun y hy => Nat.le_trans (unit_le hy) hC⟩) (x := (piv f, f)) (List.mem_map.mpr ⟨f, hf, rfl⟩) (h1.gcd f hf)
def red (v : Vec) (F : List Vec) : Vec := clrAll F (prim v)
/-- what dual gives: lines in echelon form, rays reduced by them -/
def DP (s : Nat) (A : List Con) (lines rays : List Vec) : Prop := ∃ (D : List (Nat × Vec)) (Rs : List Ray), Inv s A D Rs ∧ lines = D.map Prod.snd ∧ rays.Perm (Rs.map Prod.fst)
theorem BI.dp {s : Nat} {A : List Con} {b : Bst} (h : BI s A b) {F : List Vec} (hF : F.Perm (ech b.lines)) : EI s F ∧ Inv s A (tagged F) (b.rays.map fun r => (red r.1 F, r.2)) ∧ F.length ≤ b.lines.length := by
  obtain ⟨D, e, inv⟩ := h.inv
  obtain ⟨h1, h2, h3⟩ := ech_ok (s := s) h.lenL
  have ei := h1.perm hF
  have ann : ∀ a, (∀ f ∈ F, dot a f = 0) ↔ ∀ x ∈ D, dot a x.2 = 0 := fun a => by
    constructor
    · intro q x hx
      exact (h2 a).mp (fun f hf => q f (hF.mem_iff.mpr hf)) x.2 (by rw [e]; exact List.mem_map.mpr ⟨x, hx, rfl⟩)
    · intro q f hf
      refine (h2 a).mpr (fun r hr => ?_) f (hF.mem_iff.mp hf)
      rw [e] at hr
      obtain ⟨x, hx, rfl⟩ := List.mem_map.mp hr
      exact q x hx
  have linF : ∀ a ∈ A, ∀ f ∈ F, dot a.1 f = 0 := fun a ha => (ann a.1).mpr fun x hx => inv.db.lin x hx _ (List.mem_map.mpr ⟨a, ha, rfl⟩)
  have pr : ∀ r ∈ b.rays, prim r.1 = r.1 := fun r hr => by
    unfold prim
    rw [if_pos (by rw [inv.rprim r hr]; exact Nat.le_refl _)]
  have facts : ∀ r ∈ b.rays, (red r.1 F).length = s ∧ (∀ a ∈ A, (dot a.1 (red r.1 F) = 0 ↔ dot a.1 r.1 = 0) ∧ (0 ≤ dot a.1 (red r.1 F) ↔ 0 ≤ dot a.1 r.1)) ∧ (∀ f ∈ F, at0 (red r.1 F) (piv f) = 0) ∧ gcdL (red r.1 F) = 1 := fun r hr => by
    obtain ⟨lr, cr, nr⟩ := inv.rr r hr
    unfold red
    rw [pr r hr]
    obtain ⟨l1, ⟨p, q, hp, hq, e1, _⟩, z1⟩ := clrAll_facts F ei r.1 lr
    obtain ⟨a0, h0, n0⟩ : ∃ a ∈ A, dot a.1 r.1 ≠ 0 := Classical.byContradiction fun z => nr fun a ha => Classical.byContradiction fun z2 => z ⟨a, ha, z2⟩
    exact ⟨l1, fun a ha => ss hp hq (e1 a.1 (linF a ha)), z1, clrAll_gcd F ei r.1 lr (inv.rprim r hr) ⟨a0.1, linF a0 h0, n0⟩⟩
  have memT : ∀ {x}, x ∈ tagged F → x.2 ∈ F ∧ x.1 = piv x.2 := fun {x} hx => by
    obtain ⟨f, hf, rfl⟩ := List.mem_map.mp hx
    exact ⟨hf, rfl⟩
  refine ⟨ei, ⟨inv.lenA, inv.db.ech ei ann, fun r' hr' => ?_, fun r' hr' i => ?_, fun v lv cv nl => ?_, ?_, fun r' hr' x hx => ?_, fun r' hr' => ?_, fun x hx => ei.gcd _ (memT hx).1⟩, by rw [hF.length_eq]; exact h3⟩
  · obtain ⟨r, hr, rfl⟩ := List.mem_map.mp hr'
    obtain ⟨f1, f2, f3, f4⟩ := facts r hr
    obtain ⟨lr, cr, nr⟩ := inv.rr r hr
    exact ⟨f1, fun a ha => ⟨(f2 a ha).2.mpr (cr a ha).1, fun q => (f2 a ha).1.mpr ((cr a ha).2 q)⟩, fun z => nr fun a ha => (f2 a ha).1.mp (z a ha)⟩
  · obtain ⟨r, hr, rfl⟩ := List.mem_map.mp hr'
    obtain ⟨f1, f2, f3, f4⟩ := facts r hr
    show r.2.testBit i = true ↔ _
    rw [inv.mask r hr i]
    constructor
    · rintro ⟨a, e1, e2⟩; exact ⟨a, e1, (f2 a (List.mem_of_getElem? e1)).1.mpr e2⟩
    · rintro ⟨a, e1, e2⟩; exact ⟨a, e1, (f2 a (List.mem_of_getElem? e1)).1.mp e2⟩
  · obtain ⟨r, hr, sr⟩ := inv.ee v lv cv nl
    exact ⟨(red r.1 F, r.2), List.mem_map.mpr ⟨r, hr, rfl⟩, fun a ha e => ((facts r hr).2.1 a ha).1.mpr (sr a ha e)⟩
  · unfold AA
    rw [List.pairwise_map]
    refine List.Pairwise.imp_of_mem (fun {x y} hx hy q => ⟨fun z => q.1 fun a ha e => ?_, fun z => q.2 fun a ha e => ?_⟩) inv.aa
    · exact ((facts y hy).2.1 a ha).1.mp (z a ha (((facts x hx).2.1 a ha).1.mpr e))
    · exact ((facts x hx).2.1 a ha).1.mp (z a ha (((facts y hy).2.1 a ha).1.mpr e))
  · obtain ⟨r, hr, rfl⟩ := List.mem_map.mp hr'
    rw [(memT hx).2]
    exact (facts r hr).2.2.1 _ (memT hx).1
  · obtain ⟨r, hr, rfl⟩ := List.mem_map.mp hr'
    exact (facts r hr).2.2.2
def dedup (xs : List Vec) : List Vec := xs.foldl (fun acc x => if x ∈ acc then acc else acc ++ [x]) []
theorem dedup_fold : ∀ (xs acc : List Vec), (acc ++ xs).Nodup → xs.foldl (fun acc x => if x ∈ acc then acc else acc ++ [x]) acc = acc ++ xs
  | [], acc, _ => by simp
  | x :: xs, acc, h => by
    have hn : x ∉ acc := fun hx => (List.nodup_append.mp h).2.2 x hx x List.mem_cons_self rfl
    rw [List.foldl_cons, if_neg hn, dedup_fold xs (acc ++ [x]) (by rw [List.append_assoc]; exact h), List.append_assoc]; rfl
theorem BI.dual {s : Nat} {A : List Con} {b : Bst} (h : BI s A b) {F rays : List Vec} (hF : F.Perm (ech b.lines)) (hr : rays.Perm (dedup (b.rays.map fun r => red r.1 F))) : DP s A F rays ∧ dedup (b.rays.map fun r => red r.1 F) = b.rays.map fun r => red r.1 F := by
  obtain ⟨ei, inv, hl⟩ := h.dp hF
  have nd : (b.rays.map fun r => red r.1 F).Nodup := by
    have aa := inv.aa
    unfold AA at aa
    rw [List.pairwise_map] at aa
    unfold List.Nodup
    rw [List.pairwise_map]
    refine aa.imp fun {x y} q e => q.1 ?_
    show Sub A (red x.1 F) (red y.1 F)
    rw [e]; exact Sub.refl _ _
  have e : dedup (b.rays.map fun r => red r.1 F) = b.rays.map fun r => red r.1 F := by
    have := dedup_fold (b.rays.map fun r => red r.1 F) [] (by simpa using nd)
    unfold dedup
    simpa using this
  refine ⟨⟨tagged F, _, inv, (tagged_snd F).symm, ?_⟩, e⟩
  rw [e] at hr
  rw [List.map_map]
  exact hr
end FM
/-! What the dual of the dual says; polyhedra; the law in plain words. -/
set_option linter.all false
set_option maxHeartbeats 2000000
namespace FM
def cons (es cs : List Vec) : List Con := es.map (fun v => (v, true)) ++ cs.map fun v => (v, false)
theorem mem_cons' {es cs : List Vec} {c : Con} : c ∈ cons es cs ↔ (c.1 ∈ es ∧ c.2 = true) ∨ (c.1 ∈ cs ∧ c.2 = false) := by
  obtain ⟨v, b⟩ := c
  unfold cons
  simp only [List.mem_append, List.mem_map, Prod.mk.injEq]
  constructor
  · rintro (⟨a, h, rfl, rfl⟩ | ⟨a, h, rfl, rfl⟩)
    · exact .inl ⟨h, rfl⟩
    · exact .inr ⟨h, rfl⟩
  · rintro (⟨h, e⟩ | ⟨h, e⟩)
    · exact .inl ⟨v, h, rfl, e.symm⟩
    · exact .inr ⟨v, h, rfl, e.symm⟩
theorem cn_iff {es cs : List Vec} {v : Vec} : Cn (cons es cs) v ↔ (∀ e ∈ es, dot e v = 0) ∧ ∀ c ∈ cs, 0 ≤ dot c v := by
  constructor
  · intro h
    exact ⟨fun e he => (h (e, true) (mem_cons'.mpr (.inl ⟨he, rfl⟩))).2 rfl, fun c hc => (h (c, false) (mem_cons'.mpr (.inr ⟨hc, rfl⟩))).1⟩
  · rintro ⟨h1, h2⟩ c hc
    rcases mem_cons'.mp hc with ⟨q, e⟩ | ⟨q, e⟩
    · rw [h1 _ q]; exact ⟨Int.le_refl _, fun _ => rfl⟩
    · exact ⟨h2 _ q, fun z => by rw [e] at z; cases z⟩
theorem cons_len {es cs : List Vec} : (cons es cs).length = es.length + cs.length := by simp [cons]
section
variable {s : Nat} {A : List Con} {L R : List Vec}
theorem DP.lenL (h : DP s A L R) : ∀ l ∈ L, l.length = s := by
  obtain ⟨D, Rs, i, rfl, _⟩ := h
  intro l hl
  obtain ⟨x, hx, rfl⟩ := List.mem_map.mp hl
  exact i.db.len x hx
theorem DP.linL (h : DP s A L R) : ∀ l ∈ L, Lin A l := by
  obtain ⟨D, Rs, i, rfl, _⟩ := h
  intro l hl
  obtain ⟨x, hx, rfl⟩ := List.mem_map.mp hl
  exact lin_iff.mpr (i.db.lin x hx)
theorem DP.lenR (h : DP s A L R) : ∀ r ∈ R, r.length = s := by
  obtain ⟨D, Rs, i, _, p⟩ := h
  intro r hr
  obtain ⟨x, hx, rfl⟩ := List.mem_map.mp (p.mem_iff.mp hr)
  exact (i.rr x hx).1
theorem DP.cnR (h : DP s A L R) : ∀ r ∈ R, Cn A r := by
  obtain ⟨D, Rs, i, _, p⟩ := h
  intro r hr
  obtain ⟨x, hx, rfl⟩ := List.mem_map.mp (p.mem_iff.mp hr)
  exact (i.rr x hx).2.1
theorem DP.boundL (h : DP s A L R) {C : Nat} (hC : 1 ≤ C) (hA : ∀ c ∈ A, ∀ x ∈ c.1, x.natAbs ≤ C) : ∀ l ∈ L, ∀ y ∈ l, y.natAbs ≤ Sg s C := by
  obtain ⟨D, Rs, i, rfl, _⟩ := h
  intro l hl
  obtain ⟨x, hx, rfl⟩ := List.mem_map.mp hl
  exact i.lbound hC hA hx
theorem DP.boundR (h : DP s A L R) {C : Nat} (hC : 1 ≤ C) (hA : ∀ c ∈ A, ∀ x ∈ c.1, x.natAbs ≤ C) : ∀ r ∈ R, ∀ y ∈ r, y.natAbs ≤ Sg s C := by
  obtain ⟨D, Rs, i, _, p⟩ := h
  intro r hr
  obtain ⟨x, hx, rfl⟩ := List.mem_map.mp (p.mem_iff.mp hr)
  exact i.rbound hC hA hx
theorem DP.complete (h : DP s A L R) {c : Vec} (hl : ∀ l ∈ L, dot c l = 0) (hr : ∀ r ∈ R, 0 ≤ dot c r) {v : Vec} (hv : v.length = s) (cv : Cn A v) : 0 ≤ dot c v := by
  obtain ⟨D, Rs, i, rfl, p⟩ := h
  exact i.complete (fun x hx => hl _ (List.mem_map.mpr ⟨x, hx, rfl⟩)) (fun r hr' => hr _ (p.mem_iff.mpr (List.mem_map.mpr ⟨r, hr', rfl⟩))) hv cv
theorem DP.zero (h : DP s A L R) {c : Vec} (hl : ∀ l ∈ L, dot c l = 0) (hr : ∀ r ∈ R, dot c r = 0) {v : Vec} (hv : v.length = s) (cv : Cn A v) : dot c v = 0 := by
  have h1 := h.complete hl (fun r hr' => by rw [hr r hr']; exact Int.le_refl _) hv cv
  have h2 := h.complete (c := neg c) (fun l hl' => by rw [dot_comm, dot_negv, dot_comm, hl l hl']; rfl) (fun r hr' => by rw [dot_comm, dot_negv, dot_comm, hr r hr']; exact Int.le_refl _) hv cv
  rw [dot_comm, dot_negv, dot_comm] at h2
  omega
theorem DP.fewL (h : DP s A L R) : L.length ≤ s := by
  obtain ⟨D, Rs, i, rfl, _⟩ := h
  rw [List.length_map]
  refine count_le (fun x => x.1) s D (fun x hx => ?_) ?_
  · refine Classical.byContradiction fun q => i.db.nz x hx (at0_ge ?_)
    rw [i.db.len x hx]; omega
  · have := i.db.nodup
    unfold List.Nodup at this
    rw [List.pairwise_map] at this
    exact this
theorem DP.many2 {es cs : List Vec} (h : DP s (cons es cs) L R) : R.length ≤ 2 ^ cs.length := by
  obtain ⟨D, Rs, i, _, p⟩ := h
  rw [p.length_eq, List.length_map]
  exact i.many2
/-- a functional that is 0 or positive on the generators' sum .. the sum of some rays -/
theorem sum_rays {s : Nat} {R : List Vec} (hR : ∀ r ∈ R, r.length = s) (f : Vec) (P : Vec → Vec → Prop) : ∀ cs : List Vec, (∀ c ∈ cs, ∃ r ∈ R, dot f r = 0 ∧ 0 < dot c r) → ∃ x : Vec, x.length = s ∧ dot f x = 0 ∧ (∀ a, (∀ r ∈ R, 0 ≤ dot a r) → 0 ≤ dot a x) ∧ (∀ a, (∀ r ∈ R, dot a r = 0) → dot a x = 0) ∧ ∀ c ∈ cs, (∀ r ∈ R, 0 ≤ dot c r) → 0 < dot c x
  | [], _ => ⟨List.replicate s 0, by simp, dot_zero _ (isZero_iff.mpr fun x hx => (List.mem_replicate.mp hx).2), fun a _ => by
      rw [dot_zero a (isZero_iff.mpr fun x hx => (List.mem_replicate.mp hx).2)]; exact Int.le_refl _, fun a _ => dot_zero a (isZero_iff.mpr fun x hx => (List.mem_replicate.mp hx).2), by simp⟩
  | c :: cs, h => by
    obtain ⟨x, x1, x2, x3, x4, x5⟩ := sum_rays hR f P cs fun d hd => h d (List.mem_cons_of_mem _ hd)
    obtain ⟨r, hr, r1, r2⟩ := h c List.mem_cons_self
    have hl : x.length = r.length := by rw [x1, hR r hr]
    refine ⟨comb 1 x 1 r, by rw [comb_len hl, x1], by rw [dot_comb f _ _ hl, x2, r1]; rfl, fun a ha => ?_, fun a ha => ?_, fun d hd hpos => ?_⟩
    · rw [dot_comb a _ _ hl]
      have := x3 a ha; have := ha r hr; omega
    · rw [dot_comb a _ _ hl, x4 a ha, ha r hr]; rfl
    · rw [dot_comb d _ _ hl]
      rcases List.mem_cons.mp hd with rfl | hd
      · have := x3 d hpos; omega
      · have := x5 d hd hpos; have := hpos r hr; omega
/-- the dual of the dual has no more facets than there were conditions -/
theorem DP.facets {L2 R2 : List Vec} (h1 : DP s A L R) (h2 : DP s (cons L R) L2 R2) (hA : ∀ c ∈ A, c.1.length = s) : R2.length ≤ A.length := by
  obtain ⟨D2, Rs2, i2, e2, p2⟩ := h2
  rw [p2.length_eq, List.length_map]
  -- each condition is in the second cone
  have inC : ∀ c ∈ A, Cn (cons L R) c.1 := fun c hc => cn_iff.mpr ⟨fun l hl => by rw [dot_comm]; exact h1.linL l hl c hc, fun r hr => by rw [dot_comm]; exact (h1.cnR r hr c hc).1⟩
  have key : ∀ f ∈ Rs2, ∃ c ∈ A, Sub (cons L R) f.1 c.1 ∧ ¬ Lin (cons L R) c.1 := fun f hf => by
    obtain ⟨lf, cf, nf⟩ := i2.rr f hf
    refine Classical.byContradiction fun hno => ?_
    have hno : ∀ c ∈ A, ¬ Lin (cons L R) c.1 → ¬ Sub (cons L R) f.1 c.1 := fun c hc nl q => hno ⟨c, hc, q, nl⟩
    obtain ⟨cf1, cf2⟩ := cn_iff.mp cf
    -- conditions that are no equations of the second cone
    have hx : ∀ c ∈ ((A.map Prod.fst).filter fun c => decide (¬ ∀ r ∈ R, dot c r = 0)), ∃ r ∈ R, dot f.1 r = 0 ∧ 0 < dot c r := fun c hc => by
      obtain ⟨hcm, hq⟩ := List.mem_filter.mp hc
      obtain ⟨c, hcA, rfl⟩ := List.mem_map.mp hcm
      have hq := of_decide_eq_true hq
      obtain ⟨c1, c2⟩ := cn_iff.mp (inC c hcA)
      have nl : ¬ Lin (cons L R) c.1 := fun z => hq fun r hr => by
        rw [dot_comm]; exact z (r, false) (mem_cons'.mpr (.inr ⟨hr, rfl⟩))
      have := hno c hcA nl
      refine Classical.byContradiction fun hz => this fun d hd e => ?_
      rcases mem_cons'.mp hd with ⟨q, _⟩ | ⟨q, _⟩
      · exact c1 _ q
      · have h1 := c2 _ q
        refine Classical.byContradiction fun e2 => hz ⟨d.1, q, by rw [dot_comm]; exact e, by rw [dot_comm]; omega⟩
    obtain ⟨x, x1, x2, x3, x4, x5⟩ := sum_rays h1.lenR f.1 (fun _ _ => True) _ hx
    obtain ⟨r0, hr0, n0⟩ : ∃ r ∈ R, dot f.1 r ≠ 0 := Classical.byContradiction fun z => nf fun d hd => by
      rcases mem_cons'.mp hd with ⟨q, _⟩ | ⟨q, _⟩
      · exact cf1 _ q
      · rw [dot_comm]
        exact Classical.byContradiction fun e => z ⟨d.1, q, e⟩
    have f0 : 0 < dot f.1 r0 := by have := cf2 r0 hr0; rw [dot_comm] at this; omega
    obtain ⟨K, hK, hb⟩ := big (fun c => -(dot c.1 r0)) A
    have hl : x.length = r0.length := by rw [x1, h1.lenR r0 hr0]
    have cy : Cn A (comb K x (-1) r0) := fun c hc => by
      have hnn : ∀ r ∈ R, 0 ≤ dot c.1 r := fun r hr => (h1.cnR r hr c hc).1
      rw [dot_comb c.1 _ _ hl]
      by_cases z : ∀ r ∈ R, dot c.1 r = 0
      · rw [x4 c.1 z, z r0 hr0]; simp
      · have hp := x5 c.1 (List.mem_filter.mpr ⟨List.mem_map.mpr ⟨c, hc, rfl⟩, decide_eq_true z⟩) hnn
        refine ⟨?_, fun e => absurd (fun r hr => (h1.cnR r hr c hc).2 e) z⟩
        have h1 := hb c hc
        have h2 : K * 1 ≤ K * dot c.1 x := Int.mul_le_mul_of_nonneg_left (by omega) (Int.le_of_lt hK)
        omega
    have := h1.complete (c := f.1) (fun l hl' => by rw [dot_comm]; exact cf1 l hl') (fun r hr => by rw [dot_comm]; exact cf2 r hr) (v := comb K x (-1) r0) (by rw [comb_len hl, x1]) cy
    rw [dot_comb f.1 _ _ hl, x2] at this
    omega
  have ex : ∀ f : Ray, ∃ c : Con, f ∈ Rs2 → c ∈ A ∧ Sub (cons L R) f.1 c.1 ∧ ¬ Lin (cons L R) c.1 := fun f => by
    by_cases hf : f ∈ Rs2
    · obtain ⟨c, h1, h2, h3⟩ := key f hf
      exact ⟨c, fun _ => ⟨h1, h2, h3⟩⟩
    · exact ⟨([], false), fun q => absurd q hf⟩
  obtain ⟨F, hF⟩ : ∃ F : Ray → Con, ∀ f, f ∈ Rs2 → F f ∈ A ∧ Sub (cons L R) f.1 (F f).1 ∧ ¬ Lin (cons L R) (F f).1 := ⟨fun f => Classical.choose (ex f), fun f => Classical.choose_spec (ex f)⟩
  refine count_le (fun f => A.idxOf (F f)) A.length Rs2 (fun f hf => List.idxOf_lt_length_of_mem (hF f hf).1) ?_
  refine List.Pairwise.imp_of_mem (fun {x y} hx hy q z => ?_) i2.aa
  have hx' := hF x hx
  have hy' := hF y hy
  have e : F x = F y := by
    have h1 := List.getElem_idxOf (List.idxOf_lt_length_of_mem hx'.1)
    have h2 := List.getElem_idxOf (List.idxOf_lt_length_of_mem hy'.1)
    have : ∀ i j (hi : i < A.length) (hj : j < A.length), i = j → A[i] = A[j] := fun i j hi hj e => by subst e; rfl
    rw [← h1, ← h2]
    exact this _ _ _ _ z
  -- a ray that is 0 where the condition is
  obtain ⟨r, hr, sr⟩ := i2.ee (F x).1 (hA _ hx'.1) (inC _ hx'.1) hx'.2.2
  have e1 : x = r := i2.aa.eq hx hr (hx'.2.1.trans sr)
  have e2 : y = r := i2.aa.eq hy hr (hy'.2.1.trans (by rw [← e]; exact sr))
  rw [e1, ← e2] at q
  exact q.1 (Sub.refl _ _)
end

/-! ### polyhedra -/
def hz (n : Nat) : Vec := 1 :: List.replicate n 0
theorem hz_len (n : Nat) : (hz n).length = n + 1 := by simp [hz]
theorem dot_hz {n : Nat} (v : Vec) : dot (hz n) v = at0 v 0 := by
  rw [dot_comm]; exact dot_e1 n v
theorem hz_le {n : Nat} {x : Int} (h : x ∈ hz n) : x.natAbs ≤ 1 := by
  unfold hz at h
  rcases List.mem_cons.mp h with rfl | h
  · simp
  · rw [(List.mem_replicate.mp h).2]; simp
section
variable {n : Nat} {es cs : List Vec} {L1 R1 E F0 : List Vec}
/-- no point where all rays have an item 0 that is 0 -/
theorem no_point (h : DP (n + 1) (cons es (cs ++ [hz n])) L1 R1) (h0 : ∀ r ∈ R1, at0 r 0 = 0) {p : Vec} (lp : p.length = n + 1) (hp : 1 ≤ at0 p 0) : ¬ ((∀ e ∈ es, dot e p = 0) ∧ ∀ c ∈ cs, 0 ≤ dot c p) := by
  rintro ⟨h1, h2⟩
  have cv : Cn (cons es (cs ++ [hz n])) p := cn_iff.mpr ⟨h1, fun c hc => by
    rcases List.mem_append.mp hc with q | q
    · exact h2 c q
    · have : c = hz n := by simpa using q
      rw [this, dot_hz]; omega⟩
  have := h.zero (c := hz n) (fun l hl => h.linL l hl (hz n, false) (mem_cons'.mpr (.inr ⟨by simp, rfl⟩))) (fun r hr => by rw [dot_hz]; exact h0 r hr) lp cv
  rw [dot_hz] at this
  omega
theorem mem_drop {F0 : List Vec} {f : Vec} : f ∈ (F0.filter fun f => decide (f ≠ hz n)) ↔ f ∈ F0 ∧ f ≠ hz n := by rw [List.mem_filter, decide_eq_true_eq]
/-- the representation holds at the same vectors as the conditions -/
theorem same_points (h1 : DP (n + 1) (cons es (cs ++ [hz n])) L1 R1) (h2 : DP (n + 1) (cons L1 R1) E F0) (hes : ∀ e ∈ es, e.length = n + 1) (hcs : ∀ c ∈ cs, c.length = n + 1) {p : Vec} (lp : p.length = n + 1) (hp : 0 ≤ at0 p 0) :
    ((∀ e ∈ E, dot e p = 0) ∧ ∀ f ∈ F0.filter (fun f => decide (f ≠ hz n)), 0 ≤ dot f p) ↔ ((∀ e ∈ es, dot e p = 0) ∧ ∀ c ∈ cs, 0 ≤ dot c p) := by
  constructor
  · rintro ⟨a1, a2⟩
    have a2' : ∀ f ∈ F0, 0 ≤ dot p f := fun f hf => by
      rw [dot_comm]
      by_cases e : f = hz n
      · rw [e, dot_hz]; exact hp
      · exact a2 f (mem_drop.mpr ⟨hf, e⟩)
    have a1' : ∀ l ∈ E, dot p l = 0 := fun l hl => by rw [dot_comm]; exact a1 l hl
    refine ⟨fun e he => ?_, fun c hc => ?_⟩
    · have le := hes e he
      have z : ∀ v : Vec, v.length = n + 1 → (∀ l ∈ L1, dot v l = 0) → (∀ r ∈ R1, dot v r = 0) → 0 ≤ dot p v := fun v lv q1 q2 =>
        h2.complete a1' a2' lv (cn_iff.mpr ⟨fun l hl => by rw [dot_comm]; exact q1 l hl, fun r hr => by rw [dot_comm, q2 r hr]; exact Int.le_refl _⟩)
      have q1 : ∀ l ∈ L1, dot e l = 0 := fun l hl => h1.linL l hl (e, true) (mem_cons'.mpr (.inl ⟨he, rfl⟩))
      have q2 : ∀ r ∈ R1, dot e r = 0 := fun r hr => (h1.cnR r hr (e, true) (mem_cons'.mpr (.inl ⟨he, rfl⟩))).2 rfl
      have z1 := z e le q1 q2
      have z2 := z (neg e) (by rw [neg_len, le]) (fun l hl => by rw [dot_comm, dot_negv, dot_comm, q1 l hl]; rfl) (fun r hr => by rw [dot_comm, dot_negv, dot_comm, q2 r hr]; rfl)
      rw [dot_negv] at z2
      rw [dot_comm]; omega
    · rw [dot_comm]
      refine h2.complete a1' a2' (hcs c hc) (cn_iff.mpr ⟨fun l hl => ?_, fun r hr => ?_⟩)
      · rw [dot_comm]; exact h1.linL l hl (c, false) (mem_cons'.mpr (.inr ⟨List.mem_append_left _ hc, rfl⟩))
      · rw [dot_comm]; exact (h1.cnR r hr (c, false) (mem_cons'.mpr (.inr ⟨List.mem_append_left _ hc, rfl⟩))).1
  · rintro ⟨a1, a2⟩
    have cv : Cn (cons es (cs ++ [hz n])) p := cn_iff.mpr ⟨a1, fun c hc => by
      rcases List.mem_append.mp hc with q | q
      · exact a2 c q
      · have : c = hz n := by simpa using q
        rw [this, dot_hz]; exact hp⟩
    refine ⟨fun e he => ?_, fun f hf => ?_⟩
    · have := h2.linL e he
      exact h1.zero (fun l hl => by rw [dot_comm]; exact this (l, true) (mem_cons'.mpr (.inl ⟨hl, rfl⟩))) (fun r hr => by rw [dot_comm]; exact this (r, false) (mem_cons'.mpr (.inr ⟨hr, rfl⟩))) lp cv
    · have := cn_iff.mp (h2.cnR f (mem_drop.mp hf).1)
      exact h1.complete (fun l hl => by rw [dot_comm]; exact this.1 l hl) (fun r hr => by rw [dot_comm]; exact this.2 r hr) lp cv
/-- there is a point among the generators -/
theorem has_gen {L3 R3 : List Vec} (h1 : DP (n + 1) (cons es (cs ++ [hz n])) L1 R1) (h2 : DP (n + 1) (cons L1 R1) E F0) (hes : ∀ e ∈ es, e.length = n + 1) (hcs : ∀ c ∈ cs, c.length = n + 1)
    (h3 : DP (n + 1) (cons E ((F0.filter fun f => decide (f ≠ hz n)) ++ [hz n])) L3 R3) (hne : ¬ ∀ r ∈ R1, at0 r 0 = 0) : (R3.filter fun r => decide (0 < at0 r 0)) ≠ [] := by
  intro hnil
  refine hne fun r hr => ?_
  have cr := cn_iff.mp (h1.cnR r hr)
  have r0 : 0 ≤ at0 r 0 := by
    have := cr.2 (hz n) (by simp)
    rwa [dot_hz] at this
  have := (same_points h1 h2 hes hcs (h1.lenR r hr) r0).mpr ⟨cr.1, fun c hc => cr.2 c (List.mem_append_left _ hc)⟩
  have cv : Cn (cons E ((F0.filter fun f => decide (f ≠ hz n)) ++ [hz n])) r := cn_iff.mpr ⟨this.1, fun c hc => by
    rcases List.mem_append.mp hc with q | q
    · exact this.2 c q
    · have : c = hz n := by simpa using q
      rw [this, dot_hz]; exact r0⟩
  have hh : ∀ l ∈ R3, dot (hz n) l = 0 := fun l hl => by
    have c3 := (cn_iff.mp (h3.cnR l hl)).2 (hz n) (by simp)
    rw [dot_hz] at c3 ⊢
    have : ¬ 0 < at0 l 0 := fun q => by
      have : l ∈ R3.filter fun r => decide (0 < at0 r 0) := List.mem_filter.mpr ⟨hl, decide_eq_true q⟩
      rw [hnil] at this; cases this
    omega
  have := h3.zero (c := hz n) (fun l hl => h3.linL l hl (hz n, false) (mem_cons'.mpr (.inr ⟨by simp, rfl⟩))) hh (h1.lenR r hr) cv
  rwa [dot_hz] at this
end
end FM
set_option Elab.async false
set_option linter.all false
set_option maxRecDepth 100000
set_option maxHeartbeats 4000000
/-! Two heaps: G, what is known and does not change; H, all that is tracked. Data by their values. -/
namespace FW
open PySem L2

/-- no table of code objects among the known things -/
def NT (G : Hp) : Prop := ∀ b ps, G b ≠ some (.tbl ps)
theorem NT.upd {G : Hp} {p : Addr} {o : HO} (h : NT G) (ho : ∀ ps, o ≠ .tbl ps) : NT (upd G p o) := fun b ps e => by
  by_cases hb : b = p
  · subst hb
    rw [upd_same] at e
    exact ho ps (Option.some.inj e)
  · rw [upd_ne hb] at e
    exact h b ps e
/-- the known heap G and the whole heap H grow: what was written beside G stays out of G -/
def Grow (G H G' H' : Hp) : Prop := Same G G' ∧ Same H H' ∧ Same G' H' ∧ (∀ b, H b ≠ none → G b = none → G' b = none) ∧ (NT G → NT G')
theorem Grow.refl {G H : Hp} (h : Same G H) : Grow G H G H := ⟨Same.refl _, Same.refl _, h, fun _ _ e => e, id⟩
theorem Grow.trans {G H G1 H1 G2 H2 : Hp} (a : Grow G H G1 H1) (b : Grow G1 H1 G2 H2) : Grow G H G2 H2 :=
  ⟨a.1.trans b.1, a.2.1.trans b.2.1, b.2.2.1, fun c h e => b.2.2.2.1 c (fun z => by
    cases q : H c with
    | none => exact h q
    | some o => rw [a.2.1 c o q] at z; cases z) (a.2.2.2.1 c h e), fun n => b.2.2.2.2 (a.2.2.2.2 n)⟩
theorem Grow.new {G H : Hp} {p : Addr} {o : HO} (h : Same G H) (n : H p = none) (ho : ∀ ps, o ≠ .tbl ps := by intro _ h; cases h) : Grow G H (upd G p o) (upd H p o) := by
  have ng : G p = none := h.free n
  refine ⟨fun b u e => ?_, fun b u e => ?_, fun b u e => ?_, fun b e1 e2 => ?_, fun z => z.upd ho⟩
  · rw [upd_ne (ne_of_none e ng)]; exact e
  · rw [upd_ne (ne_of_none e n)]; exact e
  · by_cases hb : b = p
    · subst hb; rw [upd_same] at e ⊢; exact e
    · rw [upd_ne hb] at e ⊢; exact h b u e
  · rw [upd_ne (fun z => e1 (by rw [z]; exact n))]; exact e2
/-- new in H alone -/
theorem Grow.newH {G H : Hp} {p : Addr} {o : HO} (h : Same G H) (n : H p = none) : Grow G H G (upd H p o) := by
  refine ⟨Same.refl _, fun b u e => ?_, fun b u e => ?_, fun _ _ e => e, id⟩
  · rw [upd_ne (ne_of_none e n)]; exact e
  · rw [upd_ne (ne_of_none (h b u e) n)]; exact h b u e
/-- a thing out of G changes -/
theorem same_mut {G H : Hp} {p : Addr} {o : HO} (h : Same G H) (n : G p = none) : Same G (upd H p o) := fun b u e => by
  rw [upd_ne (ne_of_none e n)]; exact h b u e
/-- a thing out of G is taken into it -/
theorem Grow.take {G H : Hp} {p : Addr} {o : HO} (h : Same G H) (n : G p = none) (e : H p = some o) : Same G (upd G p o) ∧ Same (upd G p o) H := by
  refine ⟨fun b u q => by rw [upd_ne (ne_of_none q n)]; exact q, fun b u q => ?_⟩
  by_cases hb : b = p
  · subst hb; rw [upd_same] at q; rw [e]; exact q
  · rw [upd_ne hb] at q; exact h b u q
/-- from H on, p new since H: p taken into the known heap -/
theorem Grow.took {G H G' H' : Hp} {p : Addr} {o : HO} (g : Grow G H G' H') (n0 : H p = none) (n : G' p = none) (e : H' p = some o) (ho : ∀ ps, o ≠ .tbl ps := by intro _ h; cases h) : Grow G H (upd G' p o) H' := by
  obtain ⟨a, b⟩ := Grow.take g.2.2.1 n e
  refine ⟨g.1.trans a, g.2.1, b, fun c h1 h2 => ?_, fun z => (g.2.2.2.2 z).upd ho⟩
  rw [upd_ne (fun z => h1 (by rw [z]; exact n0))]
  exact g.2.2.2.1 c h1 h2
/-- .. with a change of p, that was new since H -/
theorem Grow.mutNew {G H G' H' : Hp} {p : Addr} {o : HO} (g : Grow G H G' H') (n0 : H p = none) (n : G' p = none) : Grow G H G' (upd H' p o) :=
  ⟨g.1, fun b u e => by rw [upd_ne (ne_of_none e n0)]; exact g.2.1 b u e, same_mut g.2.2.1 n, g.2.2.2⟩
theorem Grow.out {G H G' H' : Hp} {p : Addr} {o : HO} (g : Grow G H G' H') (e : H p = some o) (n : G p = none) : G' p = none ∧ H' p = some o :=
  ⟨g.2.2.2.1 p (by rw [e]; exact fun z => nomatch z) n, g.2.1 p o e⟩

/-! ### data -/
class Mono {α : Type} (E : Hp → V → α → Prop) : Prop where
  mono : ∀ {G G' : Hp} {v : V} {a : α}, Same G G' → E G v a → E G' v a
def RI (_ : Hp) (v : V) (i : Int) : Prop := v = .int i
def RN (_ : Hp) (v : V) (n : Nat) : Prop := v = .int (n : Int)
def RB (_ : Hp) (v : V) (b : Bool) : Prop := v = .bl b
section
variable {α β γ : Type}
def RL (E : Hp → V → α → Prop) (G : Hp) (v : V) (l : List α) : Prop := ∃ a xs, v = .ref a ∧ G a = some (.lst xs) ∧ Paired (E G) xs l
def RP (E : Hp → V → α → Prop) (F : Hp → V → β → Prop) (G : Hp) (v : V) (p : α × β) : Prop := ∃ a x y, v = .ref a ∧ G a = some (.tup [x, y]) ∧ E G x p.1 ∧ F G y p.2
def R3 (E : Hp → V → α → Prop) (F : Hp → V → β → Prop) (K : Hp → V → γ → Prop) (G : Hp) (v : V) (p : α × β × γ) : Prop := ∃ a x y z, v = .ref a ∧ G a = some (.tup [x, y, z]) ∧ E G x p.1 ∧ F G y p.2.1 ∧ K G z p.2.2
theorem paired_imp {A B : Type} {F F' : A → B → Prop} (h : ∀ a b, F a b → F' a b) : ∀ {l : List A} {m : List B}, Paired F l m → Paired F' l m
  | _, _, .nil => .nil
  | _, _, .cons r t => .cons (h _ _ r) (paired_imp h t)
instance : Mono RI := ⟨fun _ h => h⟩
instance : Mono RN := ⟨fun _ h => h⟩
instance : Mono RB := ⟨fun _ h => h⟩
instance {E : Hp → V → α → Prop} [m : Mono E] : Mono (RL E) := ⟨fun s ⟨a, xs, h1, h2, h3⟩ => ⟨a, xs, h1, s _ _ h2, paired_imp (fun _ _ z => m.mono s z) h3⟩⟩
instance {E : Hp → V → α → Prop} {F : Hp → V → β → Prop} [m : Mono E] [n : Mono F] : Mono (RP E F) := ⟨fun s ⟨a, x, y, h1, h2, h3, h4⟩ => ⟨a, x, y, h1, s _ _ h2, m.mono s h3, n.mono s h4⟩⟩
instance {E : Hp → V → α → Prop} {F : Hp → V → β → Prop} {K : Hp → V → γ → Prop} [m : Mono E] [n : Mono F] [k : Mono K] : Mono (R3 E F K) := ⟨fun s ⟨a, x, y, z, h1, h2, h3, h4, h5⟩ => ⟨a, x, y, z, h1, s _ _ h2, m.mono s h3, n.mono s h4, k.mono s h5⟩⟩
end
abbrev RV := RL RI
abbrev RM := RL RV
abbrev RR := RP RV RN
abbrev RRs := RL RR
abbrev RT := R3 RV RN RI
abbrev RTs := RL RT
theorem mono {α : Type} {E : Hp → V → α → Prop} [m : Mono E] {G G' : Hp} {v : V} {a : α} (h : E G v a) (s : Same G G') : E G' v a := m.mono s h
theorem monoP {α : Type} {E : Hp → V → α → Prop} [m : Mono E] {G G' : Hp} {v : List V} {a : List α} (h : Paired (E G) v a) (s : Same G G') : Paired (E G') v a := paired_imp (fun _ _ z => m.mono s z) h
theorem paired_len {A B : Type} {F : A → B → Prop} {l : List A} {m : List B} (h : Paired F l m) : l.length = m.length := Paired.length h
theorem paired_get {A B : Type} {F : A → B → Prop} : ∀ {l : List A} {m : List B} {i : Nat} {x : A}, Paired F l m → l[i]? = some x → ∃ y, m[i]? = some y ∧ F x y
  | _, _, _, _, .nil, e => by simp at e
  | _, _, 0, _, .cons r _, e => by simp at e; subst e; exact ⟨_, rfl, r⟩
  | _, _, i + 1, x, .cons _ t, e => by
    obtain ⟨u, h1, h2⟩ := paired_get (i := i) (x := x) t (by simpa using e)
    exact ⟨u, by simpa using h1, h2⟩
theorem paired_get' {A B : Type} {F : A → B → Prop} : ∀ {l : List A} {m : List B} {i : Nat} {y : B}, Paired F l m → m[i]? = some y → ∃ x, l[i]? = some x ∧ F x y
  | _, _, _, _, .nil, e => by simp at e
  | _, _, 0, _, .cons r _, e => by simp at e; subst e; exact ⟨_, rfl, r⟩
  | _, _, i + 1, x, .cons _ t, e => by
    obtain ⟨u, h1, h2⟩ := paired_get' (i := i) (y := x) t (by simpa using e)
    exact ⟨u, by simpa using h1, h2⟩
theorem paired_app {A B : Type} {F : A → B → Prop} : ∀ {l l' : List A} {m m' : List B}, Paired F l m → Paired F l' m' → Paired F (l ++ l') (m ++ m')
  | _, _, _, _, .nil, s => s
  | _, _, _, _, .cons r t, s => .cons r (paired_app t s)
theorem paired_one {A B : Type} {F : A → B → Prop} {a : A} {b : B} (h : F a b) : Paired F [a] [b] := .cons h .nil
theorem paired_take {A B : Type} {F : A → B → Prop} : ∀ {l : List A} {m : List B} (n : Nat), Paired F l m → Paired F (l.take n) (m.take n)
  | _, _, 0, _ => .nil
  | _, _, _ + 1, .nil => .nil
  | _, _, n + 1, .cons r t => .cons r (paired_take n t)
theorem paired_drop {A B : Type} {F : A → B → Prop} : ∀ {l : List A} {m : List B} (n : Nat), Paired F l m → Paired F (l.drop n) (m.drop n)
  | _, _, 0, h => h
  | _, _, _ + 1, .nil => .nil
  | _, _, n + 1, .cons _ t => paired_drop n t
theorem paired_set {A B : Type} {F : A → B → Prop} {a : A} {b : B} (h : F a b) : ∀ {l : List A} {m : List B} (n : Nat), Paired F l m → Paired F (l.set n a) (m.set n b)
  | _, _, _, .nil => .nil
  | _, _, 0, .cons _ t => .cons h t
  | _, _, n + 1, .cons r t => .cons r (paired_set h n t)
theorem ints_eq : ∀ {G : Hp} {xs : List V} {l : List Int}, Paired (RI G) xs l → xs = l.map V.int
  | _, _, _, .nil => rfl
  | _, _, _, .cons r t => by rw [List.map_cons, ← ints_eq t]; cases r; rfl
theorem ints_of (G : Hp) : ∀ l : List Int, Paired (RI G) (l.map V.int) l
  | [] => .nil
  | _ :: l => .cons rfl (ints_of G l)
theorem bools_eq : ∀ {G : Hp} {xs : List V} {l : List Bool}, Paired (RB G) xs l → xs = l.map V.bl
  | _, _, _, .nil => rfl
  | _, _, _, .cons r t => by rw [List.map_cons, ← bools_eq t]; cases r; rfl
theorem rv_iff {G : Hp} {v : V} {l : List Int} : RV G v l ↔ ∃ a, v = .ref a ∧ G a = some (.lst (l.map V.int)) := by
  constructor
  · rintro ⟨a, xs, h1, h2, h3⟩
    exact ⟨a, h1, by rw [h2, ints_eq h3]⟩
  · rintro ⟨a, h1, h2⟩
    exact ⟨a, _, h1, h2, ints_of G l⟩
theorem sz1 {n : Nat} (h : n ≤ 16000000) : n ≤ sizeLine := Nat.le_trans h (by decide)
theorem sz2 {n : Nat} (h : n < 16000000) : n < sizeLine := Nat.lt_of_lt_of_le h (by decide)

/-! ### comprehensions -/
abbrev LcW (J : It) (g : TG) (tt : TT) (te : TE) (vs : List Nat) (σ : L2.St) (H1 : Hp) (D : Addr) (Qd : Hp → Prop) : Prop :=
    ∃ W : Nat → Nat → Hp → Prop, (∃ m, W 0 m (upd H1 D (.lst []))) ∧ ∀ i m H, W i m H →
      (J.stop i H ∧ Qd H) ∨ (J.go i H ∧ ∃ Nx : Hp → Prop, (∀ H', Nx H' → ∃ m', m' < m ∧ W (i + 1) m' H') ∧ ∀ x H', J.yld i H x H' → g x (wipe σ vs) H' fun σ2 H2 => wipe σ2 vs = wipe σ vs ∧ tt σ2 H2 fun b H3 =>
        if b = true then te σ2 H3 fun y H4 => ∃ acc, H4 D = some (.lst acc) ∧ acc.length < sizeLine ∧ Nx (upd H4 D (.lst (acc ++ [y]))) else Nx H3)
section
variable {α β : Type} {E : Hp → V → β → Prop} [mE : Mono E] {K : PySem.W.Frag}
theorem filter_snoc (l : List α) (p : α → Bool) (f : α → β) (i : Nat) (a : α) (h : l[i]? = some a) : ((l.take (i + 1)).filter p).map f = ((l.take i).filter p).map f ++ (if p a = true then [f a] else []) := by
  rw [List.take_add_one, h, List.filter_append, List.map_append]
  congr 1
  cases e : p a <;> simp [e]
theorem comp_it {J : It} {n : Nat} {Gd : Hp → Prop} {Y : Nat → Hp → V → Hp → Prop} (w : Walk J n Gd Y) (l : List α) (hn : n = l.length) (hz : l.length ≤ 16000000) (p : α → Bool) (f : α → β)
    {g : TG} {tt : TT} {te : TE} {vs : List Nat} {σ : L2.St} {G H1 : Hp} {D : Addr} {Qd : Hp → Prop} (hs : Same G H1) (hD : H1 D = none) (hGd : ∀ H', Same H1 H' → Gd H')
    (turn : ∀ (i : Nat) (a : α) (x : V) (G' H' H'' : Hp), l[i]? = some a → Same G G' → Same G' H' → Same H1 H' → Y i H' x H'' → ∀ C : Option V → Hp → Prop,
      (∀ z G4 H4, Grow G' H' G4 H4 → p a = true → E G4 z (f a) → C (some z) H4) → (∀ G4 H4, Grow G' H' G4 H4 → p a = false → C none H4) →
      g x (wipe σ vs) H'' fun σ2 H2 => wipe σ2 vs = wipe σ vs ∧ tt σ2 H2 fun b H3 => if b = true then te σ2 H3 fun z H4 => C (some z) H4 else C none H3)
    (done : ∀ G' H' ys, Grow G H1 G' H' → G' D = none → H' D = some (.lst ys) → Paired (E G') ys ((l.filter p).map f) → Qd H') :
    LcW J g tt te vs σ H1 D Qd := by
  subst hn
  have gD : G D = none := hs.free hD
  refine lc_it w (fun i H' => ∃ G' acc, Grow G H1 G' H' ∧ G' D = none ∧ H' D = some (.lst acc) ∧ Paired (E G') acc (((l.take i).filter p).map f)) ?_ (fun i H' _ ⟨G', acc, g1, _⟩ => hGd H' g1.2.1) (fun i x H' H'' hi ⟨G', acc, g1, n1, e1, p1⟩ y => ?_) (fun H' ⟨G', acc, g1, n1, e1, p1⟩ => ?_)
  · refine ⟨G, [], Grow.newH hs hD, gD, upd_same, ?_⟩
    simp; exact .nil
  · have ha : l[i]? = some l[i] := List.getElem?_eq_getElem hi
    have hlen : acc.length ≤ i := by
      rw [paired_len p1, List.length_map]
      exact Nat.le_trans (List.length_filter_le _ _) (by rw [List.length_take]; omega)
    have base := turn i l[i] x G' H' H'' ha g1.1 g1.2.2.1 g1.2.1 y (fun o H4 => match o with
        | some z => ∃ acc, H4 D = some (.lst acc) ∧ acc.length < sizeLine ∧ ∃ G' acc', Grow G H1 G' (upd H4 D (.lst (acc ++ [z]))) ∧ G' D = none ∧ (upd H4 D (.lst (acc ++ [z]))) D = some (.lst acc') ∧ Paired (E G') acc' (((l.take (i + 1)).filter p).map f)
        | none => ∃ G' acc, Grow G H1 G' H4 ∧ G' D = none ∧ H4 D = some (.lst acc) ∧ Paired (E G') acc (((l.take (i + 1)).filter p).map f))
      (fun z G4 H4 g4 hp hz4 => by
        obtain ⟨n4, e4⟩ := g4.out e1 n1
        refine ⟨acc, e4, sz2 (by omega), G4, acc ++ [z], (g1.trans g4).mutNew hD n4, n4, upd_same, ?_⟩
        rw [filter_snoc l p f i _ ha, if_pos hp]
        exact paired_app (monoP p1 g4.1) (paired_one hz4)) (fun G4 H4 g4 hp => by
        obtain ⟨n4, e4⟩ := g4.out e1 n1
        refine ⟨G4, acc, g1.trans g4, n4, e4, ?_⟩
        rw [filter_snoc l p f i _ ha, if_neg (by rw [hp]; decide), List.append_nil]
        exact monoP p1 g4.1)
    exact base
  · refine done G' H' acc g1 n1 e1 ?_
    rw [List.take_length] at p1
    exact p1
/-- over a known list; every item kept -/
theorem comp_list {Ea : Hp → V → α → Prop} [mEa : Mono Ea] {a : Addr} {xs : List V} {l : List α} (p : α → Bool) (f : α → β) {g : TG} {tt : TT} {te : TE} {vs : List Nat} {σ : L2.St} {G H1 : Hp} {D : Addr} {Qd : Hp → Prop}
    (hs : Same G H1) (hD : H1 D = none) (hx : SqL K H1 a xs) (hl : Paired (Ea G) xs l) (hz : l.length ≤ 16000000)
    (turn : ∀ (y : α) (x : V) (G' H' : Hp), y ∈ l → Same G G' → Same G' H' → Ea G' x y → ∀ C : Option V → Hp → Prop,
      (∀ z G4 H4, Grow G' H' G4 H4 → p y = true → E G4 z (f y) → C (some z) H4) → (∀ G4 H4, Grow G' H' G4 H4 → p y = false → C none H4) →
      g x (wipe σ vs) H' fun σ2 H2 => wipe σ2 vs = wipe σ vs ∧ tt σ2 H2 fun b H3 => if b = true then te σ2 H3 fun z H4 => C (some z) H4 else C none H3)
    (done : ∀ G' H' ys, Grow G H1 G' H' → G' D = none → H' D = some (.lst ys) → Paired (E G') ys ((l.filter p).map f) → Qd H') : LcW (Itl K a) g tt te vs σ H1 D Qd :=
  comp_it (E := E) (walk_list (K := K) (a := a) (xs := xs)) l (paired_len hl) hz p f hs hD (fun H' s => s.seq hx) (g := g) (tt := tt) (te := te) (vs := vs) (σ := σ) (Qd := Qd)
    (fun i y x G' H' H'' hy s1 s2 s3 hx' C k1 k2 => by
      obtain ⟨e, hxi⟩ := hx'
      subst e
      obtain ⟨y', e', r⟩ := paired_get hl hxi
      rw [hy] at e'
      cases e'
      exact turn y x G' H'' (List.mem_of_getElem? hy) s1 s2 (mono r s1) C k1 k2) done
/-- over zip of two known lists -/
theorem comp_zip {α' : Type} {Ea : Hp → V → α → Prop} {Eb : Hp → V → α' → Prop} [mEa : Mono Ea] [mEb : Mono Eb] {a b : Addr} {xs ys : List V} {l : List α} {m : List α'} (f : α × α' → β) {g : TG} {tt : TT} {te : TE} {vs : List Nat} {σ : L2.St} {G H1 : Hp} {D : Addr} {Qd : Hp → Prop}
    (hs : Same G H1) (hD : H1 D = none) (hx : SqL K H1 a xs) (hy : SqL K H1 b ys) (hl : Paired (Ea G) xs l) (hm : Paired (Eb G) ys m) (hz : l.length ≤ 16000000)
    (turn : ∀ (y : α × α') (x1 x2 : V) (T : Addr) (G' H' : Hp), y ∈ l.zip m → Same G G' → Same G' H' → Ea G' x1 y.1 → Eb G' x2 y.2 → H' T = some (.tup [x1, x2]) → ∀ C : Option V → Hp → Prop,
      (∀ z G4 H4, Grow G' H' G4 H4 → E G4 z (f y) → C (some z) H4) →
      g (.ref T) (wipe σ vs) H' fun σ2 H2 => wipe σ2 vs = wipe σ vs ∧ tt σ2 H2 fun b H3 => if b = true then te σ2 H3 fun z H4 => C (some z) H4 else C none H3)
    (done : ∀ G' H' ys, Grow G H1 G' H' → G' D = none → H' D = some (.lst ys) → Paired (E G') ys ((l.zip m).map f) → Qd H') : LcW (Itz K a b) g tt te vs σ H1 D Qd :=
  comp_it (E := E) (walk_zip (K := K) (a := a) (b := b) (xs := xs) (ys := ys) (n := (l.zip m).length) (by rw [List.length_zip, paired_len hl, paired_len hm])) (l.zip m) rfl (by rw [List.length_zip]; omega) (fun _ => true) f hs hD (fun H' s => ⟨s.seq hx, s.seq hy⟩) (g := g) (tt := tt) (te := te) (vs := vs) (σ := σ) (Qd := Qd)
    (fun i y x G' H' H'' hyi s1 s2 s3 hx' C k1 k2 => by
      obtain ⟨T, x1, x2, rfl, nT, rfl, e1, e2⟩ := hx'
      obtain ⟨h1, h2⟩ := List.getElem?_zip_eq_some.mp hyi
      obtain ⟨y1, e3, r1⟩ := paired_get hl e1
      obtain ⟨y2, e4, r2⟩ := paired_get hm e2
      rw [h1] at e3
      rw [h2] at e4
      cases e3
      cases e4
      have gT := Grow.newH (o := .tup [x1, x2]) s2 nT
      exact turn y x1 x2 T G' _ (List.mem_of_getElem? hyi) s1 gT.2.2.1 (mono r1 s1) (mono r2 s1) upd_same C fun z G4 H4 g4 q => k1 z G4 H4 (gT.trans g4) rfl q) (fun G' H' ys g n e p => done G' H' ys g n e (by
        have : (l.zip m).filter (fun _ => true) = l.zip m := List.filter_eq_self.mpr fun _ _ => rfl
        rw [this] at p
        exact p))
/-- over range(n) -/
theorem comp_range {lo : Int} {n : Nat} (p : Nat → Bool) (f : Nat → β) {g : TG} {tt : TT} {te : TE} {vs : List Nat} {σ : L2.St} {G H1 : Hp} {D : Addr} {Qd : Hp → Prop}
    (hs : Same G H1) (hD : H1 D = none) (hz : n ≤ 16000000)
    (turn : ∀ (i : Nat) (G' H' : Hp), i < n → Same G G' → Same G' H' → ∀ C : Option V → Hp → Prop,
      (∀ z G4 H4, Grow G' H' G4 H4 → p i = true → E G4 z (f i) → C (some z) H4) → (∀ G4 H4, Grow G' H' G4 H4 → p i = false → C none H4) →
      g (.int (lo + i)) (wipe σ vs) H' fun σ2 H2 => wipe σ2 vs = wipe σ vs ∧ tt σ2 H2 fun b H3 => if b = true then te σ2 H3 fun z H4 => C (some z) H4 else C none H3)
    (done : ∀ G' H' ys, Grow G H1 G' H' → G' D = none → H' D = some (.lst ys) → Paired (E G') ys (((List.range n).filter p).map f) → Qd H') : LcW (Itr lo n) g tt te vs σ H1 D Qd :=
  comp_it (E := E) (walk_range (lo := lo) (n := n)) (List.range n) (by simp) (by simpa using hz) p f hs hD (fun H' s => trivial) (g := g) (tt := tt) (te := te) (vs := vs) (σ := σ) (Qd := Qd)
    (fun i y x G' H' H'' hy s1 s2 s3 hx' C k1 k2 => by
      obtain ⟨e, hxi⟩ := hx'
      subst e
      have hi : i < n := by
        have := (List.getElem?_eq_some_iff.mp hy).1
        simpa using this
      rw [List.getElem?_range hi] at hy
      cases hy
      rw [hxi]
      exact turn i G' H'' hi s1 s2 C k1 k2) done
end
end FW
set_option Elab.async false
set_option linter.all false
set_option maxRecDepth 100000
set_option maxHeartbeats 4000000
/-! The text by places; a def as a callee; common_divisor, primitive, dot, combined. -/
namespace FW
open PySem L2
def top (i : Nat) : Stmt := PySem.Challenge.pw_floodmark_k09_whole_points_of_polyhedra.main.body.getD i (.Pass ⟨0, 0, 0, 0⟩)
/-- a def as it is called by its module's name -/
structure Cal (P : Program) (w : World) (K : PySem.W.Frag) (mg : Str → Option Value) (base : Heap) (x : Str) (k : Nat) (ps : List Str) (sp : Sp) : Prop where
  ex : ∃ (f : Addr) (fd : FuncData), FnOk P w K mg base CX0 k f fd ps sp ∧ mg x = some (.ref f) ∧ PySem.W.keepIn K (.ref f) = true ∧ Binds K fd ps []
/-- a method of the class at C -/
structure Mcal (P : Program) (w : World) (K : PySem.W.Frag) (mg : Str → Option Value) (base : Heap) (C : Addr) (m : Str) (k : Nat) (ps : List Str) (sp : Sp) : Prop where
  ex : ∃ (f : Addr) (fd : FuncData), FnOk P w K mg base CX0 k f fd ps sp ∧ Meth K C m f ∧ Binds K fd ps []
section
variable {X : Cx} {k : Nat} {C : Addr} {ps : List Str} {sp : Sp} {x m : Str} {p pos apos : Pos} {e o : Expr} {es : List Expr} {ta : TE} {t : TA}
theorem pe_cal (c : Cal X.prog X.w X.K X.mg X.base x k ps sp) (hr : Room k X.A) (hg : Gl X x) (ha : PA X (e :: es) t) (hdb : (x == ("__debug__" : Str)) = false := by decide)
    (he : starEach (e :: es) X.env = (false, eval e X.env) :: starEach es X.env := by rfl) (hpl : (backTo pos (starEach es X.env)).any (·.1) = false := by rfl) : PE X (.Call (.Name x p) (e :: es) [] pos) (tCall sp [] E0 t) := by
  obtain ⟨f, fd, F, hm, hk, hb⟩ := c.ex
  exact pe_call F hr hg hm hk hb .nil pass0 ha hdb he hpl
theorem pe_mcal {pl : Sem Bool} (c : Mcal X.prog X.w X.K X.mg X.base C m k ps sp) (cl : Cls X.K C) (hr : Room k X.A) (he : PE X o ta) (ha : PA X (e :: es) t)
    (hst : starEach (e :: es) X.env = (false, eval e X.env) :: starEach es X.env := by rfl) (hpl : (backTo pos (starEach es X.env)).any (·.1) = false := by rfl)
    (ht : eval (.Call (.Attribute o m apos) (e :: es) [] pos) X.env = (do
      let ov ← eval o X.env
      standAt apos.atName
      let (f, first) ← holding [ov] (getMethod ov m pl)
      callWith pos f first (backTo pos (starEach (e :: es) X.env)) (backToKw pos (keywordEach [] X.env))) := by rfl) : PE X (.Call (.Attribute o m apos) (e :: es) [] pos) (tMeth C m sp [] E0 ta t) := by
  obtain ⟨f, fd, F, hm, hb⟩ := c.ex
  exact pe_meth he cl hm F hr hb .nil pass0 ha hst hpl ht
end
/-- a def stands in the text under its name -/
def Here (K : PySem.W.Frag) (mg : Str → Option Value) (x : Str) (st : Stmt) : Prop := ∃ (f : Addr) (fd : FuncData), Fun K x x st f fd ∧ mg x = some (.ref f)
/-- the built-in names that the text leaves alone, and gcd -/
structure Txt (mg : Str → Option Value) : Prop where
  gcd : mg "gcd" = some (.builtin "math.gcd")
  n_len : mg "len" = none
  n_sum : mg "sum" = none
  n_all : mg "all" = none
  n_abs : mg "abs" = none
  n_max : mg "max" = none
  n_isinstance : mg "isinstance" = none
  n_bool : mg "bool" = none
  n_list : mg "list" = none
  n_int : mg "int" = none
  n_zip : mg "zip" = none
  n_enumerate : mg "enumerate" = none
  n_range : mg "range" = none
  n_sorted : mg "sorted" = none
section
variable {P : Program} {w : World} {K : PySem.W.Frag} {mg : Str → Option Value} {base : Heap}
theorem Here.cal {x : Str} {st : Stmt} {ps : List Str} {sp : Sp} {k : Nat} (h : Here K mg x st) (b : ∀ (kV doc pm : Value) (an : Option Addr) (cdv ct : Value) (us : List Value), us.length = ps.length → bindArgs (PySem.W.fnOf x x (defArgs st) (defBody st) (defScope st) .none kV doc pm an cdv ct) ⟨us, []⟩ = pure (ps.zip us))
    (ok : ∀ (f : Addr) (fd : FuncData), Fun K x x st f fd → FnOk P w K mg base CX0 k f fd ps sp) : Cal P w K mg base x k ps sp := by
  obtain ⟨f, fd, F, hm⟩ := h
  exact ⟨f, fd, ok f fd F, hm, F.kp, F.binds b⟩

/-! ### common_divisor -/
namespace common_divisor
abbrev st : Stmt := top 5
abbrev N : List Str := ["vector", "divisor", "item"]
theorem sc : FnScope N ["vector"] (defScope st) := ⟨rfl, rfl, rfl, by decide +kernel, rfl, by decide +kernel, by decide +kernel⟩
def sp : Sp := fun vs H Q _ => ∃ (G : Hp) (v : V) (l : FM.Vec), vs = [v] ∧ Same G H ∧ RV G v l ∧ ∀ G' H', Grow G H G' H' → Q (.int (FM.gcdL l : Nat)) H'
theorem ok (T : Txt mg) (h : Here K mg "common_divisor" st) : Cal P w K mg base "common_divisor" 1 ["vector"] sp := by
  refine h.cal (fun _ _ _ _ _ _ us hl => match us, hl with | [_], _ => rfl) fun f fd F => ?_
  refine F.ok sc (fun vs H Q E h => ?_) (fun cdv A outer s H vs Q E hr h => ?_)
  · obtain ⟨G, v, l, rfl, _⟩ := h
    rfl
  · obtain ⟨G, v, l, rfl, hs, hv, k⟩ := h
    refine ⟨_, (pss_cons (ps_set (i := 1) sc.nd rfl (Or.inl rfl) pe_int)
      (pss_cons (ps_for PassesOwn.never rfl (pi_list (pv 0)) (pg_name (i := 2) sc.nd rfl (Or.inl rfl))
        (pss_one (ps_set (i := 1) sc.nd rfl (Or.inl rfl) (pe_callBfun cr_gcd (by rfl) T.gcd (pa_cons (pv 1) (pa_cons (pv 2) pa_nil))))))
      (pss_one (ps_ret (pv 1))))), ?_⟩
    obtain ⟨a, rfl, ha⟩ := rv_iff.mp hv
    have sq : SqL K H a (l.map V.int) := SqL.of (hs _ _ ha)
    refine ⟨_, rfl, a, rfl, ⟨_, sq⟩, for_it (walk_list (K := K) (a := a) (xs := l.map V.int)) (fun i σ H' => ∃ y, H' = H ∧ σ = [some (.ref a), some (.int (((l.take i).foldl (fun d x => Nat.gcd d x.natAbs) 0 : Nat) : Int)), y]) ?_ ?_ ?_ ?_⟩
    · exact ⟨none, rfl, rfl⟩
    · rintro i σ H' hi ⟨y, rfl, rfl⟩
      exact sq
    · rintro i x σ H' H'' hi ⟨y, rfl, rfl⟩ ⟨rfl, hx⟩
      rw [List.getElem?_map] at hx
      obtain ⟨z, hz, rfl⟩ := Option.map_eq_some_iff.mp hx
      refine ⟨_, rfl, _, rfl, _, _, rfl, some (.int z), rfl, ?_⟩
      rw [List.take_add_one, hz, List.foldl_append]
      rfl
    · rintro σ H' ⟨y, rfl, rfl⟩
      rw [List.length_map, List.take_length]
      exact ⟨_, rfl, k G H' (Grow.refl hs)⟩
end common_divisor
/-! ### primitive -/
namespace primitive
abbrev st : Stmt := top 6
abbrev N : List Str := ["vector", "divisor", "item"]
theorem sc : FnScope N ["vector"] (defScope st) := ⟨rfl, rfl, rfl, by decide +kernel, rfl, by decide +kernel, by decide +kernel⟩
/-- the items below 2 ^ 9000: a new list -/
def sp : Sp := fun vs H Q _ => ∃ (G : Hp) (v : V) (l : FM.Vec), vs = [v] ∧ Same G H ∧ RV G v l ∧ l.length ≤ 1000 ∧ (∀ x ∈ l, x.natAbs < 2 ^ 9000) ∧ ∀ u G' H', Grow G H G' H' → RV G' u (FM.prim l) → Q u H'
theorem ok (T : Txt mg) (h : Here K mg "primitive" st) (c_common_divisor : Cal P w K mg base "common_divisor" 1 ["vector"] common_divisor.sp) : Cal P w K mg base "primitive" 2 ["vector"] sp := by
  refine h.cal (fun _ _ _ _ _ _ us hl => match us, hl with | [_], _ => rfl) fun f fd F => ?_
  refine F.ok sc (fun vs H Q E h => ?_) (fun cdv A outer s H vs Q E hr h => ?_)
  · obtain ⟨G, v, l, rfl, _⟩ := h
    rfl
  · obtain ⟨G, v, l, rfl, hs, hv, hl, hb, k⟩ := h
    refine ⟨_, (pss_cons (ps_set (i := 1) sc.nd rfl (Or.inr rfl) (pe_cal c_common_divisor (hr.mono (by decide)) (by rfl) (pa_cons (pv 0) pa_nil)))
      (pss_cons (ps_if (pt_cmpR op_le (pv 1) pe_int (nomark _))
        (pss_one (ps_ret (pe_callTy call_list_of (by rfl) T.n_list (by decide +kernel) (pa_cons (pv 0) pa_nil))))
        pss_nil)
      (pss_one (ps_ret (pe_lc (own := [("item", 2)]) (g := gName 2) (tt := tYes) rfl sc.nd (pi_list (pv 0)) (blkOk_by (N := N) (sc := defScope st) (by decide +kernel)) (fun _ _ _ _ _ => (pg_name (i := 2) sc.nd rfl (Or.inl rfl))) (fun _ _ _ _ _ => pts_nil) (fun _ _ _ _ _ => (pe_op op_fdivW (pv 2) (pv 1)))))))), ?_⟩
    obtain ⟨a, rfl, ha⟩ := rv_iff.mp hv
    refine ⟨_, rfl, G, _, l, rfl, hs, hv, fun G1 H1 g1 => ?_⟩
    have sq : SqL K H1 a (l.map V.int) := SqL.of (g1.2.1 _ _ (hs _ _ ha))
    refine ⟨_, rfl, _, _, rfl, rfl, _, rfl, ite2 (fun e => ?_) (fun e => ?_)⟩
    · have e1 : FM.gcdL l ≤ 1 := by
        have := of_decide_eq_true e
        omega
      refine ⟨_, rfl, a, _, rfl, .inl sq, fun p np => ?_⟩
      have gn := g1.trans (Grow.new (o := .lst (l.map V.int)) g1.2.2.1 np)
      refine k _ _ _ gn ?_
      unfold FM.prim
      rw [if_pos e1]
      exact rv_iff.mpr ⟨p, rfl, upd_same⟩
    · have e1 : ¬ FM.gcdL l ≤ 1 := fun z => e (decide_eq_true (by omega))
      refine ⟨_, rfl, a, rfl, ⟨_, sq⟩, fun D hD => ?_⟩
      refine comp_list (E := RI) (Ea := RI) (fun _ => true) (fun x => x / (FM.gcdL l : Int)) g1.2.2.1 hD sq (ints_of G1 l) (by omega) ?_ ?_
      · intro y x G' H' hy s1 s2 hx C k1 _
        cases hx
        refine ⟨rfl, _, rfl, _, rfl, _, _, rfl, rfl, wide_div (b := 9000) (by omega) ?_ (by decide) (Nat.le_refl _), ?_⟩
        · rw [Int.natAbs_natCast]
          have := FM.gcdL_le (v := l) (B := 2 ^ 9000 - 1) (fun x hx => by have := hb x hx; omega)
          have h2 : 0 < 2 ^ 9000 := Nat.two_pow_pos _
          omega
        · exact k1 _ G' H' (Grow.refl s2) rfl rfl
      · intro G' H' ys g2 n e2 p
        have gg := g1.trans g2
        refine k _ _ _ (gg.took (g1.2.1.free hD) n e2) ?_
        unfold FM.prim
        rw [if_neg e1]
        refine ⟨D, ys, rfl, upd_same, ?_⟩
        have ef : l.filter (fun _ => true) = l := List.filter_eq_self.mpr fun _ _ => rfl
        rw [ef] at p
        exact monoP p (Grow.take gg.2.2.1 n e2).1
end primitive
/-- all items below 2 ^ n -/
def Sm (n : Nat) (l : FM.Vec) : Prop := ∀ x ∈ l, x.natAbs < 2 ^ n
/-! ### dot -/
namespace dot
abbrev st : Stmt := top 7
abbrev N : List Str := ["first", "second", "a", "b"]
theorem sc : FnScope N ["first", "second"] (defScope st) := ⟨rfl, rfl, rfl, by decide +kernel, rfl, by decide +kernel, by decide +kernel⟩
def sp : Sp := fun vs H Q _ => ∃ (G : Hp) (v u : V) (l m : FM.Vec), vs = [v, u] ∧ Same G H ∧ RV G v l ∧ RV G u m ∧ l.length ≤ 1000 ∧ Sm 100000 l ∧ Sm 100000 m ∧ ∀ G' H', Grow G H G' H' → Q (.int (FM.dot l m)) H'
theorem zip_sum : ∀ l m : FM.Vec, ((l.zip m).map fun y => y.1 * y.2).sum = FM.dot l m
  | [], m => by simp
  | a :: l, [] => by simp
  | a :: l, b :: m => by
    rw [List.zip_cons_cons, List.map_cons, List.sum_cons, zip_sum l m, FM.dot_cons]
theorem ok (T : Txt mg) (h : Here K mg "dot" st) : Cal P w K mg base "dot" 1 ["first", "second"] sp := by
  refine h.cal (fun _ _ _ _ _ _ us hl => match us, hl with | [_, _], _ => rfl) fun f fd F => ?_
  refine F.ok sc (fun vs H Q E h => ?_) (fun cdv A outer s H vs Q E hr h => ?_)
  · obtain ⟨G, v, u, l, m, rfl, _⟩ := h
    rfl
  · obtain ⟨G, v, u, l, m, rfl, hs, hv, hu, hl, b1, b2, k⟩ := h
    refine ⟨_, (pss_one (ps_ret (pe_callB (cr_sum rfl) (by rfl) T.n_sum (by decide +kernel) (pa_cons (pe_lc (own := [("a", 2), ("b", 3)]) (g := gTup K 2 (gCons (gName 2) (gCons (gName 3) gNil))) (tt := tYes) rfl sc.nd (pi_zip (by rfl) T.n_zip (pa_cons (pv 0) (pa_cons (pv 1) pa_nil))) (blkOk_by (N := N) (sc := defScope st) (by decide +kernel)) (fun _ _ _ _ _ => (pg_tup rfl (pgs_cons (pg_name (i := 2) sc.nd rfl (Or.inl rfl)) (pgs_cons (pg_name (i := 3) sc.nd rfl (Or.inl rfl)) pgs_nil)))) (fun _ _ _ _ _ => pts_nil) (fun _ _ _ _ _ => (pe_op op_mulW (pv 2) (pv 3)))) pa_nil)))), ?_⟩
    obtain ⟨a, rfl, ha⟩ := rv_iff.mp hv
    obtain ⟨b, rfl, hb⟩ := rv_iff.mp hu
    have sa : SqL K H a (l.map V.int) := SqL.of (hs _ _ ha)
    have sb : SqL K H b (m.map V.int) := SqL.of (hs _ _ hb)
    refine ⟨_, rfl, _, rfl, a, b, _, _, rfl, sa, sb, fun D hD => ?_⟩
    refine comp_zip (E := RI) (Ea := RI) (Eb := RI) (fun y => y.1 * y.2) hs hD sa sb (ints_of G l) (ints_of G m) (by omega) ?_ ?_
    · intro y x1 x2 T' G' H' hy s1 s2 e1 e2 hT C k1
      cases e1
      cases e2
      obtain ⟨m1, m2⟩ := List.of_mem_zip hy
      refine ⟨T', _, rfl, SqT.of hT, rfl, _, _, rfl, _, _, rfl, rfl, rfl, _, rfl, _, rfl, _, _, rfl, rfl, wide_mul (b1 _ m1) (b2 _ m2) (by decide) (by decide) (by decide), ?_⟩
      exact k1 _ G' H' (Grow.refl s2) rfl
    · intro G' H' ys g2 n e2 p
      refine ⟨D, (l.zip m).map fun y => y.1 * y.2, rfl, ?_, ?_⟩
      · rw [← ints_eq p]
        exact SqL.of e2
      · rw [zip_sum]
        exact k G' H' g2
end dot
/-! ### combined -/
namespace combined
abbrev st : Stmt := top 8
abbrev N : List Str := ["first", "vector", "second", "other", "a", "b"]
theorem sc : FnScope N ["first", "vector", "second", "other"] (defScope st) := ⟨rfl, rfl, rfl, by decide +kernel, rfl, by decide +kernel, by decide +kernel⟩
def sp : Sp := fun vs H Q _ => ∃ (G : Hp) (f s : Int) (v u : V) (l m : FM.Vec), vs = [.int f, v, .int s, u] ∧ Same G H ∧ RV G v l ∧ RV G u m ∧ l.length ≤ 1000 ∧ f.natAbs < 2 ^ 100000 ∧ s.natAbs < 2 ^ 100000 ∧ Sm 100000 l ∧ Sm 100000 m ∧
  ∀ z G' H', Grow G H G' H' → RV G' z (FM.comb f l s m) → Q z H'
theorem zip_comb (f s : Int) : ∀ l m : FM.Vec, (l.zip m).map (fun y => f * y.1 + s * y.2) = FM.comb f l s m
  | [], m => by simp
  | a :: l, [] => by simp [FM.comb]
  | a :: l, b :: m => by
    rw [List.zip_cons_cons, List.map_cons, zip_comb f s l m, FM.comb_cons]
theorem ok (T : Txt mg) (h : Here K mg "combined" st) : Cal P w K mg base "combined" 1 ["first", "vector", "second", "other"] sp := by
  refine h.cal (fun _ _ _ _ _ _ us hl => match us, hl with | [_, _, _, _], _ => rfl) fun f fd F => ?_
  refine F.ok sc (fun vs H Q E h => ?_) (fun cdv A outer s H vs Q E hr h => ?_)
  · obtain ⟨G, f, s, v, u, l, m, rfl, _⟩ := h
    rfl
  · obtain ⟨G, f, s, v, u, l, m, rfl, hs, hv, hu, hl, bf, bs, b1, b2, k⟩ := h
    refine ⟨_, (pss_one (ps_ret (pe_lc (own := [("a", 4), ("b", 5)]) (g := gTup K 2 (gCons (gName 4) (gCons (gName 5) gNil))) (tt := tYes) rfl sc.nd (pi_zip (by rfl) T.n_zip (pa_cons (pv 1) (pa_cons (pv 3) pa_nil))) (blkOk_by (N := N) (sc := defScope st) (by decide +kernel)) (fun _ _ _ _ _ => (pg_tup rfl (pgs_cons (pg_name (i := 4) sc.nd rfl (Or.inl rfl)) (pgs_cons (pg_name (i := 5) sc.nd rfl (Or.inl rfl)) pgs_nil)))) (fun _ _ _ _ _ => pts_nil) (fun _ _ _ _ _ => (pe_op op_add (pe_op op_mulW (pv 0) (pv 4)) (pe_op op_mulW (pv 2) (pv 5))))))), ?_⟩
    obtain ⟨a, rfl, ha⟩ := rv_iff.mp hv
    obtain ⟨b, rfl, hb⟩ := rv_iff.mp hu
    have sa : SqL K H a (l.map V.int) := SqL.of (hs _ _ ha)
    have sb : SqL K H b (m.map V.int) := SqL.of (hs _ _ hb)
    refine ⟨_, rfl, _, rfl, a, b, _, _, rfl, sa, sb, fun D hD => ?_⟩
    refine comp_zip (E := RI) (Ea := RI) (Eb := RI) (fun y => f * y.1 + s * y.2) hs hD sa sb (ints_of G l) (ints_of G m) (by omega) ?_ ?_
    · intro y x1 x2 T' G' H' hy s1 s2 e1 e2 hT C k1
      cases e1
      cases e2
      obtain ⟨m1, m2⟩ := List.of_mem_zip hy
      refine ⟨T', _, rfl, SqT.of hT, rfl, _, _, rfl, _, _, rfl, rfl, rfl, _, rfl, _, rfl, _, _, rfl, rfl, wide_mul bf (b1 _ m1) (by decide) (by decide) (by decide),
        _, rfl, _, rfl, _, _, rfl, rfl, wide_mul bs (b2 _ m2) (by decide) (by decide) (by decide), _, _, rfl, rfl, ?_⟩
      exact k1 _ G' H' (Grow.refl s2) rfl
    · intro G' H' ys g2 n e2 p
      refine k _ _ _ (g2.took hD n e2) ⟨D, ys, rfl, upd_same, ?_⟩
      rw [zip_comb] at p
      exact monoP p (Grow.take g2.2.2.1 n e2).1
end combined
end
end FW
set_option Elab.async false
set_option linter.all false
set_option maxRecDepth 100000
set_option maxHeartbeats 4000000
/-! pivot_of, cleared, reduced. -/
namespace FW
open PySem L2
theorem at_int {l : FM.Vec} {c : Nat} (h : c < l.length) : atI (l.map V.int) (c : Int) = some (.int (FM.at0 l c)) := by
  refine atI_nat ?_
  rw [List.getElem?_map, List.getElem?_eq_getElem h]
  unfold FM.at0
  rw [List.getD_eq_getElem?_getD, List.getElem?_eq_getElem h]
  rfl
theorem Sm.mono {a b : Nat} {l : FM.Vec} (h : Sm a l) (q : a ≤ b) : Sm b l := fun x hx => Nat.lt_of_lt_of_le (h x hx) (Nat.pow_le_pow_right (by decide) q)
theorem Sm.at0 {a : Nat} {l : FM.Vec} (h : Sm a l) (c : Nat) : (FM.at0 l c).natAbs < 2 ^ a := by
  by_cases e : FM.at0 l c = 0
  · rw [e]; exact Nat.two_pow_pos a
  · exact h _ (FM.at0_mem e)
theorem comb_Sm {a b : Nat} {f s : Int} : ∀ {v o : FM.Vec}, f.natAbs < 2 ^ b → s.natAbs < 2 ^ a → Sm a v → Sm b o → Sm (a + b + 1) (FM.comb f v s o)
  | [], _, _, _, _, _ => by intro x hx; simp at hx
  | v :: vs, [], _, _, _, _ => by intro x hx; simp [FM.comb] at hx
  | v :: vs, o :: os, hf, hs, hv, ho => by
    intro x hx
    rw [FM.comb_cons] at hx
    rcases List.mem_cons.mp hx with rfl | hx
    · have h1 : (f * v).natAbs < 2 ^ (a + b) := by
        rw [Int.natAbs_mul, Nat.add_comm a b, Nat.pow_add]; exact Nat.mul_lt_mul'' hf (hv v List.mem_cons_self)
      have h2 : (s * o).natAbs < 2 ^ (a + b) := by
        rw [Int.natAbs_mul, Nat.pow_add]; exact Nat.mul_lt_mul'' hs (ho o List.mem_cons_self)
      have := Int.natAbs_add_le (f * v) (s * o)
      rw [Nat.pow_succ]
      omega
    · exact comb_Sm hf hs (fun x hx => hv x (List.mem_cons_of_mem _ hx)) (fun x hx => ho x (List.mem_cons_of_mem _ hx)) x hx
theorem prim_Sm {a : Nat} {v : FM.Vec} (h : Sm a v) : Sm a (FM.prim v) := fun x hx => by
  have := FM.prim_le (v := v) (B := 2 ^ a - 1) (fun x hx => by have := h x hx; omega) x hx
  have := Nat.two_pow_pos a
  omega
theorem clr_Sm {a b c : Nat} {v row : FM.Vec} (h : Sm a v) (k : Sm b row) : Sm (a + b + 1) (FM.clr v row c) := by
  unfold FM.clr
  split
  · exact h.mono (by omega)
  · exact prim_Sm (comb_Sm (k.at0 c) (by rw [Int.natAbs_neg]; exact h.at0 c) h k)
section
variable {P : Program} {w : World} {K : PySem.W.Frag} {mg : Str → Option Value} {base : Heap}
/-! ### pivot_of -/
namespace pivot_of
abbrev st : Stmt := top 9
abbrev N : List Str := ["vector", "column"]
theorem sc : FnScope N ["vector"] (defScope st) := ⟨rfl, rfl, rfl, by decide +kernel, rfl, by decide +kernel, by decide +kernel⟩
def pvV : Option Nat → V
  | some c => .int (c : Nat)
  | none => .non
def sp : Sp := fun vs H Q _ => ∃ (G : Hp) (v : V) (l : FM.Vec), vs = [v] ∧ Same G H ∧ RV G v l ∧ l.length ≤ 1000 ∧ Q (pvV (FM.pivot l)) H
theorem ok (T : Txt mg) (h : Here K mg "pivot_of" st) : Cal P w K mg base "pivot_of" 1 ["vector"] sp := by
  refine h.cal (fun _ _ _ _ _ _ us hl => match us, hl with | [_], _ => rfl) fun f fd F => ?_
  refine F.ok sc (fun vs H Q E h => ?_) (fun cdv A outer s H vs Q E hr h => ?_)
  · obtain ⟨G, v, l, rfl, _⟩ := h
    rfl
  · obtain ⟨G, v, l, rfl, hs, hv, hl, k⟩ := h
    refine ⟨_, (pss_cons (ps_for PassesOwn.never rfl (pi_range2 (by rfl) T.n_range (pa_cons pe_int (pa_cons (pe_callB call_len_seq (by rfl) T.n_len PySem.boot_len (pa_cons (pv 0) pa_nil)) pa_nil))) (pg_name (i := 1) sc.nd rfl (Or.inl rfl))
        (pss_one (ps_if (pt_cmpR op_ne (pe_ix ix_list (pv 0) (pv 1) (fun _ _ => rfl)) pe_int (nomark _))
          (pss_one (ps_ret (pv 1)))
          pss_nil)))
      (pss_cons (ps_if (PW.pt (pw_and (pt_cmpR op_gt (pe_callB call_len_seq (by rfl) T.n_len PySem.boot_len (pa_cons (pv 0) pa_nil)) pe_int (nomark _)) (pw_and1 (pt_cmpR op_ne (pe_ix ix_list (pv 0) pe_int (fun _ _ => rfl)) pe_int (nomark _)))))
        (pss_one (ps_ret pe_int))
        pss_nil)
      (pss_one (ps_ret pe_non)))), ?_⟩
    obtain ⟨a, rfl, ha⟩ := rv_iff.mp hv
    have sq : SqL K H a (l.map V.int) := SqL.of (hs _ _ ha)
    have kk := k
    refine ⟨_, rfl, a, _, rfl, .inl sq, 1, (l.map V.int).length, rfl, ⟨by decide, by decide, by omega, ?_⟩, ?_⟩
    · rw [List.length_map]
      exact Int.lt_of_le_of_lt (Int.ofNat_le.mpr hl) (by decide)
    refine for_range (lo := 1) (n := (((l.map V.int).length : Int) - 1).toNat) (fun i σ H' => ∃ y, H' = H ∧ σ = [some (.ref a), y] ∧ ∀ j, j < i → FM.at0 l (1 + j) = 0) ⟨none, rfl, rfl, fun j hj => absurd hj (Nat.not_lt_zero _)⟩ ?_ ?_
    · rintro i σ H' hi ⟨y, rfl, rfl, hz⟩
      rw [List.length_map] at hi
      have hil : 1 + i < l.length := by omega
      have ei : ((1 : Int) + (i : Int)) = ((1 + i : Nat) : Int) := by omega
      refine ⟨_, rfl, _, rfl, a, _, _, _, rfl, rfl, sq, (by rw [ei]; exact at_int hil), rfl, _, rfl, ?_⟩
      refine ite2 (fun e => ?_) (fun e => ?_)
      · have ne : FM.at0 l (1 + i) ≠ 0 := fun z => by rw [z] at e; simp at e
        have ep : FM.pivot l = some (1 + i) := by
          unfold FM.pivot
          have : (List.range (l.length - 1)).find? (fun i => decide (FM.at0 l (1 + i) ≠ 0)) = some i := by
            rw [List.find?_eq_some_iff_getElem]
            refine ⟨decide_eq_true ne, i, by simp; omega, by simp, fun j hj => ?_⟩
            simp [hz j hj]
          rw [this]
        rw [ep] at kk
        refine ⟨_, rfl, ?_⟩
        rw [ei]
        exact kk
      · have z0 : FM.at0 l (1 + i) = 0 := Classical.byContradiction fun z => e (by simp [z])
        refine ⟨some (.int (1 + (i : Int))), rfl, rfl, fun j hj => ?_⟩
        by_cases q : j = i
        · rw [q]; exact z0
        · exact hz j (by omega)
    · rintro σ H' ⟨y, rfl, rfl, hz⟩
      rw [List.length_map] at hz
      have en : (List.range (l.length - 1)).find? (fun i => decide (FM.at0 l (1 + i) ≠ 0)) = none := by
        rw [List.find?_eq_none]
        intro j hj
        have hj : j < l.length - 1 := List.mem_range.mp hj
        simp [hz j (by omega)]
      have ep : FM.pivot l = if 0 < l.length ∧ FM.at0 l 0 ≠ 0 then some 0 else none := by
        unfold FM.pivot
        rw [en]
      refine ⟨_, rfl, a, _, rfl, .inl sq, _, _, rfl, rfl, _, rfl, ?_⟩
      refine ite2 (fun e => ?_) (fun e => ?_)
      · have hp : 0 < l.length := by
          have := of_decide_eq_true e
          rw [List.length_map] at this
          omega
        refine ⟨_, rfl, a, _, _, _, rfl, rfl, sq, at_int (c := 0) hp, rfl, _, rfl, ?_⟩
        refine ite2 (fun e2 => ?_) (fun e2 => ?_)
        · have ne : FM.at0 l 0 ≠ 0 := fun z => by rw [z] at e2; simp at e2
          rw [ep, if_pos ⟨hp, ne⟩] at kk
          exact kk
        · have z0 : FM.at0 l 0 = 0 := Classical.byContradiction fun z => e2 (by simp [z])
          rw [ep, if_neg fun q => q.2 z0] at kk
          exact kk
      · have hp : ¬ 0 < l.length := fun q => e (decide_eq_true (by rw [List.length_map]; omega))
        rw [ep, if_neg fun q => hp q.1] at kk
        exact iteF kk
end pivot_of
/-! ### cleared -/
namespace cleared
abbrev st : Stmt := top 10
abbrev N : List Str := ["vector", "row", "column"]
theorem sc : FnScope N ["vector", "row", "column"] (defScope st) := ⟨rfl, rfl, rfl, by decide +kernel, rfl, by decide +kernel, by decide +kernel⟩
def sp : Sp := fun vs H Q _ => ∃ (G : Hp) (v u : V) (l m : FM.Vec) (c a b : Nat), vs = [v, u, .int (c : Nat)] ∧ Same G H ∧ RV G v l ∧ RV G u m ∧ l.length ≤ 1000 ∧ m.length = l.length ∧ c < l.length ∧ Sm a l ∧ Sm b m ∧ a + b + 1 ≤ 9000 ∧
  ∀ z G' H', Grow G H G' H' → RV G' z (FM.clr l m c) → Q z H'
theorem ok (T : Txt mg) (h : Here K mg "cleared" st) (c_primitive : Cal P w K mg base "primitive" 2 ["vector"] primitive.sp) (c_combined : Cal P w K mg base "combined" 1 ["first", "vector", "second", "other"] combined.sp) :
    Cal P w K mg base "cleared" 3 ["vector", "row", "column"] sp := by
  refine h.cal (fun _ _ _ _ _ _ us hl => match us, hl with | [_, _, _], _ => rfl) fun f fd F => ?_
  refine F.ok sc (fun vs H Q E h => ?_) (fun cdv A outer s H vs Q E hr h => ?_)
  · obtain ⟨G, v, u, l, m, c, a, b, rfl, _⟩ := h
    rfl
  · obtain ⟨G, v, u, l, m, c, b1, b2, rfl, hs, hv, hu, hl, hm, hc, s1, s2, hb, k⟩ := h
    refine ⟨_, (pss_cons (ps_if (pt_cmpR op_eq (pe_ix ix_list (pv 0) (pv 2) (fun _ _ => rfl)) pe_int (nomark _))
        (pss_one (ps_ret (pv 0)))
        pss_nil)
      (pss_one (ps_ret (pe_cal c_primitive (hr.mono (by decide)) (by rfl) (pa_cons (pe_cal c_combined (hr.mono (by decide)) (by rfl) (pa_cons (pe_ix ix_list (pv 1) (pv 2) (fun _ _ => rfl)) (pa_cons (pv 0) (pa_cons (pe_un un_neg (pe_ix ix_list (pv 0) (pv 2) (fun _ _ => rfl))) (pa_cons (pv 1) pa_nil))))) pa_nil))))), ?_⟩
    obtain ⟨a, rfl, ha⟩ := rv_iff.mp hv
    obtain ⟨b, rfl, hb'⟩ := rv_iff.mp hu
    have sa : SqL K H a (l.map V.int) := SqL.of (hs _ _ ha)
    have sb : SqL K H b (m.map V.int) := SqL.of (hs _ _ hb')
    refine ⟨_, rfl, _, rfl, a, _, _, _, rfl, rfl, sa, at_int hc, rfl, _, rfl, ite2 (fun e => ?_) (fun e => ?_)⟩
    · have z : FM.at0 l c = 0 := V.int.inj (of_decide_eq_true e)
      refine ⟨_, rfl, k _ G H (Grow.refl hs) ?_⟩
      unfold FM.clr
      rw [if_pos z]
      exact hv
    · have z : ¬ FM.at0 l c = 0 := fun q => e (decide_eq_true (by rw [q]))
      refine ⟨_, rfl, _, rfl, b, _, _, _, rfl, rfl, sb, at_int (by omega), _, rfl, _, rfl, _, rfl, a, _, _, _, rfl, rfl, sa, at_int hc, _, rfl, _, rfl, ?_⟩
      have big : ∀ {n : Nat}, n ≤ 9000 → ∀ {x : Int}, x.natAbs < 2 ^ n → x.natAbs < 2 ^ 100000 := fun {n} hn {x} hx => Nat.lt_of_lt_of_le hx (Nat.pow_le_pow_right (by decide) (show n ≤ 100000 by omega))
      refine ⟨G, _, _, _, _, l, m, rfl, hs, hv, hu, hl, big (by omega) (s2.at0 c), ?_, s1.mono (by omega), s2.mono (by omega), fun z1 G1 H1 g1 r1 => ?_⟩
      · show (-(FM.at0 l c)).natAbs < _
        rw [Int.natAbs_neg]
        exact big (by omega) (s1.at0 c)
      · refine ⟨G1, z1, _, rfl, g1.2.2.1, r1, by rw [FM.comb_len (by omega)]; exact hl, ?_, fun z2 G2 H2 g2 r2 => ?_⟩
        · exact (comb_Sm (a := b1) (b := b2) (s2.at0 c) (by rw [Int.natAbs_neg]; exact s1.at0 c) s1 s2).mono hb
        · refine k z2 G2 H2 (g1.trans g2) ?_
          unfold FM.clr
          rw [if_neg z]
          exact r2
end cleared
/-! ### reduced -/
namespace reduced
abbrev st : Stmt := top 12
abbrev N : List Str := ["vector", "rows", "rest", "row"]
theorem sc : FnScope N ["vector", "rows"] (defScope st) := ⟨rfl, rfl, rfl, by decide +kernel, rfl, by decide +kernel, by decide +kernel⟩
def sp : Sp := fun vs H Q _ => ∃ (G : Hp) (v u : V) (l : FM.Vec) (F : List FM.Vec) (n a b : Nat), vs = [v, u] ∧ Same G H ∧ RV G v l ∧ RM G u F ∧ n ≤ 1000 ∧ l.length = n ∧ FM.EI n F ∧ Sm a l ∧ (∀ f ∈ F, Sm b f) ∧ a + F.length * (b + 1) ≤ 9000 ∧
  ∀ z G' H', Grow G H G' H' → RV G' z (FM.red l F) → Q z H'
theorem clrAll_Sm {b : Nat} : ∀ (F : List FM.Vec) (v : FM.Vec) (a : Nat), Sm a v → (∀ f ∈ F, Sm b f) → Sm (a + F.length * (b + 1)) (FM.clrAll F v)
  | [], v, a, h, _ => by simpa [FM.clrAll] using h
  | f :: F, v, a, h, hF => by
    have := clrAll_Sm F (FM.clr v f (FM.piv f)) (a + b + 1) (clr_Sm h (hF f List.mem_cons_self)) fun g hg => hF g (List.mem_cons_of_mem _ hg)
    have e : FM.clrAll (f :: F) v = FM.clrAll F (FM.clr v f (FM.piv f)) := rfl
    rw [e]
    refine this.mono ?_
    rw [List.length_cons, Nat.succ_mul]
    omega
theorem clrAll_snoc (F : List FM.Vec) (f v : FM.Vec) : FM.clrAll (F ++ [f]) v = FM.clr (FM.clrAll F v) f (FM.piv f) := by
  unfold FM.clrAll
  rw [List.foldl_append]
  rfl
theorem clrAll_len {n : Nat} : ∀ (F : List FM.Vec) (v : FM.Vec), (∀ f ∈ F, f.length = n) → v.length = n → (FM.clrAll F v).length = n
  | [], v, _, h => h
  | f :: F, v, hF, h => clrAll_len F (FM.clr v f (FM.piv f)) (fun g hg => hF g (List.mem_cons_of_mem _ hg)) (by rw [FM.clr_len (by rw [h, hF f List.mem_cons_self]), h])
theorem ok (T : Txt mg) (h : Here K mg "reduced" st) (c_primitive : Cal P w K mg base "primitive" 2 ["vector"] primitive.sp) (c_cleared : Cal P w K mg base "cleared" 3 ["vector", "row", "column"] cleared.sp) (c_pivot_of : Cal P w K mg base "pivot_of" 1 ["vector"] pivot_of.sp) :
    Cal P w K mg base "reduced" 4 ["vector", "rows"] sp := by
  refine h.cal (fun _ _ _ _ _ _ us hl => match us, hl with | [_, _], _ => rfl) fun f fd F => ?_
  refine F.ok sc (fun vs H Q E h => ?_) (fun cdv A outer s H vs Q E hr h => ?_)
  · obtain ⟨G, v, u, l, F, n, a, b, rfl, _⟩ := h
    rfl
  · obtain ⟨G, v, u, l, F, n, a, b, rfl, hs, hv, hu, hn, hl, ei, s1, s2, hb, k⟩ := h
    refine ⟨_, (pss_cons (ps_set (i := 2) sc.nd rfl (Or.inl rfl) (pe_cal c_primitive (hr.mono (by decide)) (by rfl) (pa_cons (pv 0) pa_nil)))
      (pss_cons (ps_for PassesOwn.never rfl (pi_list (pv 1)) (pg_name (i := 3) sc.nd rfl (Or.inl rfl))
        (pss_one (ps_set (i := 2) sc.nd rfl (Or.inl rfl) (pe_cal c_cleared (hr.mono (by decide)) (by rfl) (pa_cons (pv 2) (pa_cons (pv 3) (pa_cons (pe_cal c_pivot_of (hr.mono (by decide)) (by rfl) (pa_cons (pv 3) pa_nil)) pa_nil)))))))
      (pss_one (ps_ret (pv 2))))), ?_⟩
    obtain ⟨p, xs, rfl, hp, hF⟩ := id hu
    refine ⟨_, rfl, G, v, l, rfl, hs, hv, by omega, s1.mono (by omega), fun z1 G1 H1 g1 r1 => ?_⟩
    have sq : ∀ H', Same H H' → SqL K H' p xs := fun H' s => SqL.of (s _ _ (hs _ _ hp))
    refine ⟨_, rfl, p, rfl, ⟨_, sq _ g1.2.1⟩, for_it (walk_list (K := K) (a := p) (xs := xs)) (fun i σ H' => ∃ z y G', Grow G H G' H' ∧ σ = [some v, some (.ref p), some z, y] ∧ RV G' z (FM.clrAll (F.take i) (FM.prim l))) ?_ ?_ ?_ ?_⟩
    · exact ⟨z1, none, G1, g1, rfl, r1⟩
    · rintro i σ H' hi ⟨z, y, G', g, rfl, r⟩
      exact sq _ g.2.1
    · rintro i x σ H' H'' hi ⟨z, y, G', g, rfl, r⟩ ⟨rfl, hx⟩
      obtain ⟨f, hf, rf⟩ := paired_get hF hx
      have fm : f ∈ F := List.mem_of_getElem? hf
      have rf' : RV G' x f := mono rf g.1
      have lf := ei.len f fm
      have pv := (ei.pv f fm).1
      have lr : (FM.clrAll (F.take i) (FM.prim l)).length = n := clrAll_len _ _ (fun g hg => ei.len g (List.mem_of_mem_take hg)) (by rw [FM.prim_len, hl])
      have iF : i < F.length := by rw [← paired_len hF]; exact hi
      refine ⟨_, rfl, _, rfl, _, rfl, G', x, f, rfl, g.2.2.1, rf', by omega, ?_⟩
      have g2 := Grow.refl g.2.2.1
      rw [FM.pivot_of pv]
      have hsm := clrAll_Sm (b := b) (F.take i) (FM.prim l) a (prim_Sm s1) (fun g hg => s2 g (List.mem_of_mem_take hg))
      refine ⟨G', z, x, _, f, FM.piv f, _, b, rfl, g2.2.2.1, mono r g2.1, mono rf' g2.1, by omega, by omega, by rw [lr, ← lf]; exact pv.1, hsm, s2 f fm, ?_, fun z3 G3 H3 g3 r3 => ?_⟩
      · rw [List.length_take, Nat.min_eq_left (by omega)]
        have : (i + 1) * (b + 1) ≤ F.length * (b + 1) := Nat.mul_le_mul_right _ iF
        rw [Nat.succ_mul] at this
        omega
      · refine ⟨z3, some x, G3, (g.trans g2).trans g3, rfl, ?_⟩
        rw [List.take_add_one, hf, Option.toList_some, clrAll_snoc]
        exact r3
    · rintro σ H' ⟨z, y, G', g, rfl, r⟩
      rw [paired_len hF, List.take_length] at r
      exact ⟨_, rfl, k z G' H' g r⟩
end reduced
end
end FW
set_option Elab.async false
set_option linter.all false
set_option maxRecDepth 100000
set_option maxHeartbeats 4000000
/-! The class: its fields; are_neighbours, joined. -/
namespace FW
open PySem L2
/-! ### the fields -/
theorem n_lr : ¬ (("lines" : Str) = "rays") := by decide +kernel
theorem n_lc : ¬ (("lines" : Str) = "count") := by decide +kernel
theorem n_rc : ¬ (("rays" : Str) = "count") := by decide +kernel
theorem n_rl : ¬ (("rays" : Str) = "lines") := by decide +kernel
theorem n_cl : ¬ (("count" : Str) = "lines") := by decide +kernel
theorem n_cr : ¬ (("count" : Str) = "rays") := by decide +kernel
def bf (x1 x2 : V) (n : Int) : List (Str × V) := [("lines", x1), ("rays", x2), ("count", .int n)]
theorem lookup_ne {k k' : Str} {v : V} {r : List (Str × V)} (h : ¬ k = k') : ((k', v) :: r).lookup k = r.lookup k := by
  have : (k == k') = false := beq_eq_false_iff_ne.mpr h
  rw [List.lookup_cons, this]
theorem lookup_eq {k : Str} {v : V} {r : List (Str × V)} : ((k, v) :: r).lookup k = some v := by
  have : (k == k) = true := beq_iff_eq.mpr rfl
  rw [List.lookup_cons, this]
theorem bf_lines (x1 x2 : V) (n : Int) : (bf x1 x2 n).lookup ("lines" : Str) = some x1 := by
  unfold bf
  rw [lookup_eq]
theorem bf_rays (x1 x2 : V) (n : Int) : (bf x1 x2 n).lookup ("rays" : Str) = some x2 := by
  unfold bf
  rw [lookup_ne n_rl, lookup_eq]
theorem bf_count (x1 x2 : V) (n : Int) : (bf x1 x2 n).lookup ("count" : Str) = some (.int n) := by
  unfold bf
  rw [lookup_ne n_cl, lookup_ne n_cr, lookup_eq]
theorem bf_no {x1 x2 : V} {n : Int} {m : Str} (h1 : ¬ m = "lines") (h2 : ¬ m = "rays") (h3 : ¬ m = "count") : (bf x1 x2 n).lookup m = none := by
  unfold bf
  rw [lookup_ne h1, lookup_ne h2, lookup_ne h3]
  rfl
theorem put_eq {k : Str} {u v : V} {r : List (Str × V)} : putF k v ((k, u) :: r) = (k, v) :: r := by
  show (if k = k then _ else _) = _
  rw [if_pos rfl]
theorem put_ne {k k' : Str} {u v : V} {r : List (Str × V)} (h : ¬ k' = k) : putF k v ((k', u) :: r) = (k', u) :: putF k v r := by
  show (if k' = k then _ else _) = _
  rw [if_neg h]
theorem bf_putL (x1 x2 y : V) (n : Int) : putF "lines" y (bf x1 x2 n) = bf y x2 n := by unfold bf; rw [put_eq]
theorem bf_putR (x1 x2 y : V) (n : Int) : putF "rays" y (bf x1 x2 n) = bf x1 y n := by unfold bf; rw [put_ne n_lr, put_eq]
theorem bf_putC (x1 x2 : V) (n m : Int) : putF "count" (.int m) (bf x1 x2 n) = bf x1 x2 m := by unfold bf; rw [put_ne n_lc, put_ne n_rc, put_eq]
/-- what of the text the class must have -/
structure CTxt (K : PySem.W.Frag) (C : Addr) : Prop where
  cl : Cls K C
  nL : NoAttr K C "lines"
  nR : NoAttr K C "rays"
  nC : NoAttr K C "count"
def HereM (K : PySem.W.Frag) (C : Addr) (m qual : Str) (st : Stmt) : Prop := ∃ (f : Addr) (fd : FuncData), Fun K m qual st f fd ∧ Meth K C m f
theorem HereM.cal {P : Program} {w : World} {K : PySem.W.Frag} {mg : Str → Option Value} {base : Heap} {C : Addr} {m qual : Str} {st : Stmt} {ps : List Str} {sp : Sp} {k : Nat} (h : HereM K C m qual st)
    (b : ∀ (kV doc pm : Value) (an : Option Addr) (cdv ct : Value) (us : List Value), us.length = ps.length → bindArgs (PySem.W.fnOf m qual (defArgs st) (defBody st) (defScope st) .none kV doc pm an cdv ct) ⟨us, []⟩ = pure (ps.zip us))
    (ok : ∀ (f : Addr) (fd : FuncData), Fun K m qual st f fd → FnOk P w K mg base CX0 k f fd ps sp) : Mcal P w K mg base C m k ps sp := by
  obtain ⟨f, fd, F, hm⟩ := h
  exact ⟨f, fd, ok f fd F, hm, F.binds b⟩
/-- a builder stands at p -/
def BAt (C : Addr) (G H : Hp) (p : Addr) (b : FM.Bst) : Prop := ∃ dx x1 x2, H p = some (.ins C dx (bf x1 x2 (b.count : Nat))) ∧ G p = none ∧ RM G x1 b.lines ∧ RRs G x2 b.rays
/-- all but p is as in Grow -/
structure GrowM (p : Addr) (G H G' H' : Hp) : Prop where
  g : Same G G'
  h : ∀ b o, b ≠ p → H b = some o → H' b = some o
  s : Same G' H'
  n : ∀ b, H b ≠ none → G b = none → G' b = none
  t : NT G → NT G'
  p : H p ≠ none → H' p ≠ none
theorem GrowM.of {p : Addr} {G H G' H' : Hp} (x : Grow G H G' H') : GrowM p G H G' H' := ⟨x.1, fun b o _ e => x.2.1 b o e, x.2.2.1, x.2.2.2.1, x.2.2.2.2, fun q z => by
  cases e : H p with
  | none => exact q e
  | some o => rw [x.2.1 p o e] at z; cases z⟩
theorem GrowM.trans {p : Addr} {G H G1 H1 G2 H2 : Hp} (a : GrowM p G H G1 H1) (b : GrowM p G1 H1 G2 H2) : GrowM p G H G2 H2 :=
  ⟨a.g.trans b.g, fun c o ne e => b.h c o ne (a.h c o ne e), b.s, fun c h e => b.n c (fun z => by
    by_cases hc : c = p
    · rw [hc] at h z; exact a.p h z
    · cases q : H c with
      | none => exact h q
      | some o => rw [a.h c o hc q] at z; cases z) (a.n c h e), fun z => b.t (a.t z), fun q => b.p (a.p q)⟩
theorem GrowM.put {p : Addr} {G H : Hp} {o : HO} (s : Same G H) (n : G p = none) : GrowM p G H G (upd H p o) :=
  ⟨Same.refl _, fun b u ne e => by rw [upd_ne ne]; exact e, same_mut s n, fun _ _ e => e, id, fun _ z => by rw [upd_same] at z; cases z⟩
theorem BAt.grow {C : Addr} {G H G' H' : Hp} {p : Addr} {b : FM.Bst} (h : BAt C G H p b) (g : Grow G H G' H') : BAt C G' H' p b := by
  obtain ⟨dx, x1, x2, e, n, r1, r2⟩ := h
  obtain ⟨n', e'⟩ := g.out e n
  exact ⟨dx, x1, x2, e', n', mono r1 g.1, mono r2 g.1⟩
/-! ### numbers and lists compared -/
theorem and_nat (a b : Nat) : Builtin.bitAnd (a : Int) (b : Int) = ((a &&& b : Nat) : Int) := by
  have h1 : decide ((0 : Int) ≤ (a : Int)) = true := decide_eq_true (by omega)
  have h2 : decide ((0 : Int) ≤ (b : Int)) = true := decide_eq_true (by omega)
  unfold Builtin.bitAnd
  rw [h1, h2]
  rfl
theorem or_nat (a b : Nat) : Builtin.bitOr (a : Int) (b : Int) = ((a ||| b : Nat) : Int) := by
  rw [bitOr_nn (Int.natCast_nonneg _) (Int.natCast_nonneg _), Int.toNat_natCast, Int.toNat_natCast]
theorem dp_ints (K : PySem.W.Frag) (H : Hp) : ∀ l : List Int, DpAll K H (l.map V.int) (l.map PyData.int)
  | [] => .nil
  | i :: l => .cons (.int i) (dp_ints K H l)
theorem dp_vec {K : PySem.W.Frag} {G H : Hp} {v : V} {l : FM.Vec} (h : RV G v l) (s : Same G H) : Dp K H v (.list (l.map PyData.int)) := by
  obtain ⟨a, rfl, ha⟩ := rv_iff.mp h
  exact .lst (SqL.of (s _ _ ha)) (dp_ints K H l)
theorem lay_ints : ∀ l : List Int, PyData.canLayAll0 (l.map PyData.int) = true
  | [] => by simp [PyData.canLayAll0]
  | i :: l => by simp [PyData.canLayAll0, PyData.canLay0, lay_ints l]
theorem dep_ints : ∀ l : List Int, PyData.depthAll (l.map PyData.int) ≤ 1
  | [] => by simp [PyData.depthAll]
  | i :: l => by
    have := dep_ints l
    simp only [List.map_cons, PyData.depthAll, PyData.depth]
    omega
theorem shaped_vec (l : List Int) : SeqAt.shaped (.list (l.map PyData.int)) = true := by
  have := dep_ints l
  have h2 : PyData.depth (.list (l.map PyData.int)) ≤ 64 := by
    simp only [PyData.depth]
    omega
  show (PyData.canLay0 (.list (l.map PyData.int)) && decide (PyData.depth (.list (l.map PyData.int)) ≤ 64)) = true
  rw [Bool.and_eq_true]
  exact ⟨by simp only [PyData.canLay0]; exact lay_ints l, decide_eq_true h2⟩
theorem eqv_ints : ∀ l m : List Int, PyData.eqvAll (l.map PyData.int) (m.map PyData.int) = decide (l = m)
  | [], [] => by simp [PyData.eqvAll]
  | [], _ :: _ => by simp [PyData.eqvAll]
  | _ :: _, [] => by simp [PyData.eqvAll]
  | i :: l, j :: m => by
    have := eqv_ints l m
    simp only [List.map_cons, PyData.eqvAll, PyData.eqv, this]
    by_cases h : i = j <;> by_cases h2 : l = m <;> simp [h, h2]
theorem eqv_vec (l m : List Int) : PyData.eqv (.list (l.map PyData.int)) (.list (m.map PyData.int)) = decide (l = m) := by
  rw [← eqv_ints]
  simp only [PyData.eqv]
section
variable {P : Program} {w : World} {K : PySem.W.Frag} {mg : Str → Option Value} {base : Heap} {C : Addr}
/-! ### are_neighbours -/
namespace are_neighbours
abbrev st : Stmt := inClass (top 14) 4
abbrev N : List Str := ["self", "one", "other", "shared", "ray", "mask"]
theorem sc : FnScope N ["self", "one", "other", "shared"] (defScope st) := ⟨rfl, rfl, rfl, by decide +kernel, rfl, by decide +kernel, by decide +kernel⟩
def sp (C : Addr) : Sp := fun vs H Q _ => ∃ (G : Hp) (p : Addr) (b : FM.Bst) (u v : V) (l m : FM.Vec) (sh : Nat), vs = [.ref p, u, v, .int (sh : Nat)] ∧ Same G H ∧ BAt C G H p b ∧ RV G u l ∧ RV G v m ∧ ∀ G' H', Grow G H G' H' → Q (.bl (FM.nb b.rays l m sh)) H'
theorem ok (TC : CTxt K C) (h : HereM K C "are_neighbours" "Builder.are_neighbours" st) : Mcal P w K mg base C "are_neighbours" 1 ["self", "one", "other", "shared"] (sp C) := by
  refine h.cal (fun _ _ _ _ _ _ us hl => match us, hl with | [_, _, _, _], _ => rfl) fun f fd F => ?_
  refine F.ok sc (fun vs H Q E h => ?_) (fun cdv A outer s H vs Q E hr h => ?_)
  · obtain ⟨G, p, b, u, v, l, m, sh, rfl, _⟩ := h
    rfl
  · obtain ⟨G, p, b, u, v, l, m, sh, rfl, hs, hb, hu, hv, k⟩ := h
    refine ⟨_, (pss_cons (ps_for PassesOwn.never rfl (pi_list (pe_fld (pv 0) rfl)) (pg_tup rfl (pgs_cons (pg_name (i := 4) sc.nd rfl (Or.inl rfl)) (pgs_cons (pg_name (i := 5) sc.nd rfl (Or.inl rfl)) pgs_nil)))
        (pss_one (ps_if (PW.pt (pw_and (pt_cmpR op_eq (pe_op op_and (pv 5) (pv 3)) (pv 3) (nomark _)) (pw_and (pt_cmpR (op_neD hr.units) (pv 4) (pv 1) (nomark _)) (pw_and1 (pt_cmpR (op_neD hr.units) (pv 4) (pv 2) (nomark _))))))
          (pss_one (ps_ret pe_bl))
          pss_nil)))
      (pss_one (ps_ret pe_bl))), ?_⟩
    obtain ⟨dx, x1, x2, e, n, r1, r2⟩ := id hb
    obtain ⟨a, xs, rfl, ha, hp⟩ := r2
    have sq : SqL K H a xs := SqL.of (hs _ _ ha)
    have kk := k G H (Grow.refl hs)
    refine ⟨_, rfl, p, C, dx, _, _, rfl, e, TC.cl, TC.nR, bf_rays _ _ _, a, rfl, ⟨_, sq⟩, for_it (walk_list (K := K) (a := a) (xs := xs)) (fun i σ H' => ∃ y z, H' = H ∧ σ = [some (.ref p), some u, some v, some (.int (sh : Nat)), y, z] ∧ ∀ (j : Nat) (r : FM.Ray), j < i → b.rays[j]? = some r → (!(decide (r.2 &&& sh = sh) && (decide (r.1 ≠ l) && decide (r.1 ≠ m)))) = true) ?_ ?_ ?_ ?_⟩
    · exact ⟨none, none, rfl, rfl, fun j _ hj => absurd hj (Nat.not_lt_zero _)⟩
    · rintro i σ H' hi ⟨y, z, rfl, rfl, _⟩
      exact sq
    · rintro i x σ H' H'' hi ⟨y, z, rfl, rfl, hz⟩ ⟨rfl, hx⟩
      obtain ⟨r, hr', rr⟩ := paired_get hp hx
      obtain ⟨t, v1, v2, rfl, ht, q1, q2⟩ := rr
      cases q2
      refine ⟨t, _, rfl, SqT.of (hs _ _ ht), rfl, _, _, rfl, _, _, rfl, rfl, ?_⟩
      refine ⟨_, rfl, _, rfl, _, _, rfl, rfl, _, rfl, rfl, _, rfl, ?_⟩
      have e0 : decide (V.int ((r.2 &&& sh : Nat) : Int) = V.int (sh : Int)) = decide (r.2 &&& sh = sh) := by
        by_cases q : r.2 &&& sh = sh
        · simp [q]
        · have : ¬ ((r.2 &&& sh : Nat) : Int) = (sh : Int) := by omega
          simp [q]
          intro z
          exact this z
      have e1 : decide (V.int (Builtin.bitAnd (r.2 : Int) (sh : Int)) = V.int (sh : Int)) = decide (r.2 &&& sh = sh) := by rw [and_nat, e0]
      have fin : ∀ bb : Bool, (decide (r.2 &&& sh = sh) && (decide (r.1 ≠ l) && decide (r.1 ≠ m))) = bb → if bb = true then Q (.bl false) H'' else (∃ y z, H'' = H'' ∧ [some (.ref p), some u, some v, some (.int (sh : Nat)), some v1, some (V.int (r.2 : Int))] = [some (.ref p), some u, some v, some (.int (sh : Nat)), y, z] ∧ ∀ (j : Nat) (r : FM.Ray), j < i + 1 → b.rays[j]? = some r → (!(decide (r.2 &&& sh = sh) && (decide (r.1 ≠ l) && decide (r.1 ≠ m)))) = true) := fun bb hb => by
        cases bb with
        | true =>
          rw [if_pos rfl]
          have : FM.nb b.rays l m sh = false := by
            unfold FM.nb
            rw [List.all_eq_false]
            exact ⟨r, List.mem_of_getElem? hr', by rw [hb]; decide⟩
          rw [this] at kk
          exact kk
        | false =>
          rw [if_neg (by decide)]
          refine ⟨_, _, rfl, rfl, fun j r' hj hr2 => ?_⟩
          by_cases q : j = i
          · rw [q, hr'] at hr2
            cases hr2
            rw [hb]; rfl
          · exact hz j r' (by omega) hr2
      have d1 := dp_vec (K := K) q1 hs
      have d2 := dp_vec (K := K) hu hs
      have d3 := dp_vec (K := K) hv hs
      refine ite2 (fun q1' => ?_) (fun q1' => ?_)
      · have h1 : decide (r.2 &&& sh = sh) = true := e1.symm.trans q1'
        refine ⟨_, rfl, _, rfl, _, _, d1, d2, shaped_vec _, shaped_vec _, _, rfl, ?_⟩
        refine ite2 (fun q2' => ?_) (fun q2' => ?_)
        · have h2 : ¬ r.1 = l := fun z => by
            have q2' : (!(PyData.eqv (.list (r.1.map PyData.int)) (.list (l.map PyData.int)))) = true := q2'
            rw [eqv_vec, z] at q2'
            simp at q2'
          refine ⟨_, rfl, _, rfl, _, _, d1, d3, shaped_vec _, shaped_vec _, _, rfl, ?_⟩
          refine ite2 (fun q3' => ?_) (fun q3' => ?_)
          · have h3 : ¬ r.1 = m := fun z => by
              have q3' : (!(PyData.eqv (.list (r.1.map PyData.int)) (.list (m.map PyData.int)))) = true := q3'
              rw [eqv_vec, z] at q3'
              simp at q3'
            have := fin true (by rw [h1]; simp [h2, h3])
            rw [if_pos rfl] at this
            exact this
          · have h3 : r.1 = m := Classical.byContradiction fun z => q3' (by
              show (!(PyData.eqv (.list (r.1.map PyData.int)) (.list (m.map PyData.int)))) = true
              rw [eqv_vec]; simp [z])
            have := fin false (by rw [h1, h3]; simp)
            rw [if_neg (by decide)] at this
            exact this
        · have h2 : r.1 = l := Classical.byContradiction fun z => q2' (by
            show (!(PyData.eqv (.list (r.1.map PyData.int)) (.list (l.map PyData.int)))) = true
            rw [eqv_vec]; simp [z])
          have := fin false (by rw [h1, h2]; simp)
          rw [if_neg (by decide)] at this
          exact this
      · have h1 : decide (r.2 &&& sh = sh) = false := by
          rw [← e1]
          exact Bool.eq_false_iff.mpr q1'
        have := fin false (by rw [h1]; rfl)
        rw [if_neg (by decide)] at this
        exact this
    · rintro σ H' ⟨y, z, rfl, rfl, hz⟩
      have : FM.nb b.rays l m sh = true := by
        unfold FM.nb
        rw [List.all_eq_true]
        intro r hr
        obtain ⟨j, hj⟩ := List.mem_iff_getElem?.mp hr
        refine hz j r ?_ hj
        rw [paired_len hp]
        exact (List.getElem?_eq_some_iff.mp hj).1
      rw [this] at kk
      exact kk
end are_neighbours
end
end FW
set_option Elab.async false
set_option linter.all false
set_option maxRecDepth 100000
set_option maxHeartbeats 4000000
/-! joined. -/
namespace FW
open PySem L2
/-! ### a list that a loop grows -/
section
variable {α : Type} {E : Hp → V → α → Prop}
def Acc (E : Hp → V → α → Prop) (G H : Hp) (D : Addr) (l : List α) : Prop := ∃ acc, H D = some (.lst acc) ∧ G D = none ∧ Paired (E G) acc l
theorem Acc.nil {G H : Hp} {D : Addr} (n : G D = none) : Acc E G (upd H D (.lst [])) D [] := ⟨[], upd_same, n, .nil⟩
theorem Acc.grow [Mono E] {G H G' H' : Hp} {D : Addr} {l : List α} (h : Acc E G H D l) (g : Grow G H G' H') : Acc E G' H' D l := by
  obtain ⟨acc, e, n, p⟩ := h
  obtain ⟨n', e'⟩ := g.out e n
  exact ⟨acc, e', n', monoP p g.1⟩
theorem Acc.frame [Mono E] {G H H' : Hp} {D : Addr} {l : List α} (h : Acc E G H D l) (e : H' D = H D) : Acc E G H' D l := by
  obtain ⟨acc, e1, n, p⟩ := h
  exact ⟨acc, e.trans e1, n, p⟩
theorem Acc.ty {G H : Hp} {D : Addr} {l : List α} {K : PySem.W.Frag} (h : Acc E G H D l) : tyV K "list" (.ref D) H := by
  obtain ⟨acc, e, n, p⟩ := h
  exact .inl ⟨rfl, acc, SqL.of e⟩
/-- one more item: what the list at D is now -/
theorem Acc.app [Mono E] {G0 H0 G H : Hp} {D : Addr} {l : List α} (h : Acc E G H D l) (g : Grow G0 H0 G H) (n0 : H0 D = none) (hl : l.length < 16000000) :
    ∃ acc, H D = some (.lst acc) ∧ acc.length < sizeLine ∧ ∀ (y : V) (a : α), E G y a → Grow G0 H0 G (upd H D (.lst (acc ++ [y]))) ∧ Acc E G (upd H D (.lst (acc ++ [y]))) D (l ++ [a]) := by
  obtain ⟨acc, e, n, p⟩ := h
  exact ⟨acc, e, sz2 (by rw [paired_len p]; exact hl), fun y a hy => ⟨g.mutNew n0 n, _, upd_same, n, paired_app p (paired_one hy)⟩⟩
/-- the list is done: take it into G -/
theorem Acc.took [Mono E] {G0 H0 G H : Hp} {D : Addr} {l : List α} (h : Acc E G H D l) (g : Grow G0 H0 G H) (n0 : H0 D = none) : ∃ G', Grow G0 H0 G' H ∧ RL E G' (.ref D) l ∧ ∀ b, b ≠ D → G' b = G b := by
  obtain ⟨acc, e, n, p⟩ := h
  exact ⟨_, g.took n0 n e, ⟨D, acc, rfl, upd_same, monoP p (Grow.take g.2.2.1 n e).1⟩, fun b hb => upd_ne hb⟩
end
section
variable {X : Cx}
def rAndN : V → V → Hp → VK → Prop := fun x y H Q => ∃ a b : Nat, x = .int (a : Nat) ∧ y = .int (b : Nat) ∧ Q (.int ((a &&& b : Nat) : Int)) H
def rOrN : V → V → Hp → VK → Prop := fun x y H Q => ∃ a b : Nat, x = .int (a : Nat) ∧ y = .int (b : Nat) ∧ Q (.int ((a ||| b : Nat) : Int)) H
def rShlN : V → V → Hp → VK → Prop := fun x y H Q => ∃ k : Nat, x = .int 1 ∧ y = .int (k : Nat) ∧ k ≤ 1000000 ∧ Q (.int ((2 ^ k : Nat) : Int)) H
theorem op_andN : OpR X (binaryOp .BitAnd) rAndN := by
  intro pins s σ H x y v u Q I rx ry h
  obtain ⟨a, b, rfl, rfl, q⟩ := h
  exact op_and pins s σ H _ _ v u Q I rx ry ⟨_, _, rfl, rfl, by show Q (.int (Builtin.bitAnd (a : Int) (b : Int))) H; rw [and_nat]; exact q⟩
theorem op_orN : OpR X (binaryOp .BitOr) rOrN := by
  intro pins s σ H x y v u Q I rx ry h
  obtain ⟨a, b, rfl, rfl, q⟩ := h
  exact op_or pins s σ H _ _ v u Q I rx ry ⟨_, _, rfl, rfl, by show Q (.int (Builtin.bitOr (a : Int) (b : Int))) H; rw [or_nat]; exact q⟩
theorem op_shl1N : OpR X (binaryOp .LShift) rShlN := by
  intro pins s σ H x y v u Q I rx ry h
  obtain ⟨k, rfl, rfl, hk, q⟩ := h
  exact op_shlN pins s σ H _ _ v u Q I rx ry ⟨1, k, rfl, rfl, shl_ok (n := 1) (by decide) (by omega), by rw [Int.one_mul]; rw [show (2 : Int) ^ k = ((2 ^ k : Nat) : Int) by rw [Int.natCast_pow]; rfl]; exact q⟩
end
def tri (c : FM.Vec) (r : FM.Ray) : FM.Vec × Nat × Int := (r.1, r.2, FM.dot c r.1)
theorem joined_snoc (c : FM.Vec) (k : Nat) (Rs pos ng : List FM.Ray) {i : Nat} {p : FM.Ray} (h : pos[i]? = some p) : FM.joinedL c k Rs (pos.take (i + 1)) ng = FM.joinedL c k Rs (pos.take i) ng ++ (ng.filter fun n => FM.nb Rs p.1 n.1 (p.2 &&& n.2)).map (FM.fresh1 c k p) := by
  unfold FM.joinedL
  rw [List.take_add_one, h, Option.toList_some, List.flatMap_append]
  simp
theorem joined_le (c : FM.Vec) (k : Nat) (Rs pos ng : List FM.Ray) {i : Nat} {p : FM.Ray} (h : pos[i]? = some p) (j : Nat) : (FM.joinedL c k Rs (pos.take i) ng ++ ((ng.take j).filter fun n => FM.nb Rs p.1 n.1 (p.2 &&& n.2)).map (FM.fresh1 c k p)).length ≤ (FM.joinedL c k Rs pos ng).length := by
  have e : pos = pos.take (i + 1) ++ pos.drop (i + 1) := (List.take_append_drop _ _).symm
  have e2 : FM.joinedL c k Rs pos ng = FM.joinedL c k Rs (pos.take (i + 1)) ng ++ FM.joinedL c k Rs (pos.drop (i + 1)) ng := by
    conv => lhs; rw [e]
    unfold FM.joinedL
    rw [List.flatMap_append]
  rw [e2, joined_snoc c k Rs pos ng h, List.length_append, List.length_append, List.length_append, List.length_map, List.length_map]
  have : ((ng.take j).filter fun n => FM.nb Rs p.1 n.1 (p.2 &&& n.2)).length ≤ (ng.filter fun n => FM.nb Rs p.1 n.1 (p.2 &&& n.2)).length := List.Sublist.length_le ((List.take_sublist j ng).filter _)
  omega
theorem take_snoc {α β : Type} (l : List α) (p : α → Bool) (f : α → β) (i : Nat) (a : α) (h : l[i]? = some a) : ((l.take (i + 1)).filter p).map f = ((l.take i).filter p).map f ++ (if p a = true then [f a] else []) := filter_snoc l p f i a h
theorem pow_int (k : Nat) : (2 : Int) ^ k = ((2 ^ k : Nat) : Int) := by rw [Int.natCast_pow]; rfl
section
variable {P : Program} {w : World} {K : PySem.W.Frag} {mg : Str → Option Value} {base : Heap} {C : Addr}
/-! ### joined -/
namespace joined
abbrev st : Stmt := inClass (top 14) 3
abbrev N : List Str := ["self", "positive", "negative", "bit", "fresh", "one", "mask", "value", "other", "opposite", "below", "shared", "ray"]
theorem sc : FnScope N ["self", "positive", "negative", "bit"] (defScope st) := ⟨rfl, rfl, rfl, by decide +kernel, rfl, by decide +kernel, by decide +kernel⟩
def sp (C : Addr) : Sp := fun vs H Q _ => ∃ (G : Hp) (p : Addr) (b : FM.Bst) (u v : V) (c : FM.Vec) (pos ng : List FM.Ray) (k n B : Nat), vs = [.ref p, u, v, .int ((2 ^ k : Nat) : Int)] ∧ Same G H ∧ BAt C G H p b ∧ RTs G u (pos.map (tri c)) ∧ RTs G v (ng.map (tri c)) ∧
  n ≤ 1000 ∧ 2 * B + 1 ≤ 9000 ∧ (∀ r ∈ pos, r.1.length = n ∧ Sm B r.1 ∧ (FM.dot c r.1).natAbs < 2 ^ B) ∧ (∀ r ∈ ng, r.1.length = n ∧ Sm B r.1 ∧ (FM.dot c r.1).natAbs < 2 ^ B) ∧ (FM.joinedL c k b.rays pos ng).length ≤ 16000000 ∧
  ∀ z G' H', Grow G H G' H' → RRs G' z (FM.joinedL c k b.rays pos ng) → Q z H'
theorem ok (T : Txt mg) (TC : CTxt K C) (h : HereM K C "joined" "Builder.joined" st) (c_are_neighbours : Mcal P w K mg base C "are_neighbours" 1 ["self", "one", "other", "shared"] (are_neighbours.sp C))
    (c_primitive : Cal P w K mg base "primitive" 2 ["vector"] primitive.sp) (c_combined : Cal P w K mg base "combined" 1 ["first", "vector", "second", "other"] combined.sp) : Mcal P w K mg base C "joined" 3 ["self", "positive", "negative", "bit"] (sp C) := by
  refine h.cal (fun _ _ _ _ _ _ us hl => match us, hl with | [_, _, _, _], _ => rfl) fun f fd F => ?_
  refine F.ok sc (fun vs H Q E h => ?_) (fun cdv A outer s H vs Q E hr h => ?_)
  · obtain ⟨G, p, b, u, v, c, pos, ng, k, n, B, rfl, _⟩ := h
    rfl
  · obtain ⟨G, p, b, u, v, c, pos, ng, k, n, B, rfl, hs, hb, h1, h2, hn, hB, hP, hN, hJ, kk⟩ := h
    refine ⟨_, (pss_cons (ps_set (i := 4) sc.nd rfl (Or.inl rfl) (pe_lst pa_nil))
      (pss_cons (ps_for PassesOwn.never rfl (pi_list (pv 1)) (pg_tup rfl (pgs_cons (pg_name (i := 5) sc.nd rfl (Or.inl rfl)) (pgs_cons (pg_name (i := 6) sc.nd rfl (Or.inl rfl)) (pgs_cons (pg_name (i := 7) sc.nd rfl (Or.inl rfl)) pgs_nil))))
        (pss_one (ps_for PassesOwn.never rfl (pi_list (pv 2)) (pg_tup rfl (pgs_cons (pg_name (i := 8) sc.nd rfl (Or.inl rfl)) (pgs_cons (pg_name (i := 9) sc.nd rfl (Or.inl rfl)) (pgs_cons (pg_name (i := 10) sc.nd rfl (Or.inl rfl)) pgs_nil))))
          (pss_cons (ps_set (i := 11) sc.nd rfl (Or.inl rfl) (pe_op op_andN (pv 6) (pv 9)))
          (pss_one (ps_if (pt_val (pe_mcal c_are_neighbours TC.cl (hr.mono (by decide)) (pv 0) (pa_cons (pv 5) (pa_cons (pv 8) (pa_cons (pv 11) pa_nil)))))
            (pss_cons (ps_set (i := 12) sc.nd rfl (Or.inl rfl) (pe_cal c_primitive (hr.mono (by decide)) (by rfl) (pa_cons (pe_cal c_combined (hr.mono (by decide)) (by rfl) (pa_cons (pv 7) (pa_cons (pv 8) (pa_cons (pe_un un_neg (pv 10)) (pa_cons (pv 5) pa_nil))))) pa_nil)))
            (pss_one (ps_expr (pe_bm PySem.F.plainAttrs_list PySem.F.slot_list_append PySem.F.type_list_append mt_append (pv 4) (pa_cons (pe_tup (pa_cons (pv 12) (pa_cons (pe_op op_orN (pv 11) (pv 3)) pa_nil))) pa_nil)))))
            pss_nil))))))
      (pss_one (ps_ret (pv 4))))), ?_⟩
    obtain ⟨a1, xs1, rfl, ha1, hp1⟩ := id h1
    obtain ⟨a2, xs2, rfl, ha2, hp2⟩ := id h2
    have q1 : ∀ H', Same H H' → SqL K H' a1 xs1 := fun H' s => SqL.of (s _ _ (hs _ _ ha1))
    have q2 : ∀ H', Same H H' → SqL K H' a2 xs2 := fun H' s => SqL.of (s _ _ (hs _ _ ha2))
    refine ⟨Nat.zero_le _, fun D hD => ?_⟩
    have g0 := Grow.newH (o := .lst []) hs hD
    have gD : G D = none := hs.free hD
    refine ⟨_, rfl, a1, rfl, ⟨_, q1 _ g0.2.1⟩, for_it (walk_list (K := K) (a := a1) (xs := xs1)) (fun i σ H' => ∃ G' y5 y6 y7 y8 y9 y10 y11 y12, Grow G H G' H' ∧ σ = [some (.ref p), some (.ref a1), some (.ref a2), some (.int ((2 ^ k : Nat) : Int)), some (.ref D), y5, y6, y7, y8, y9, y10, y11, y12] ∧ Acc RR G' H' D (FM.joinedL c k b.rays (pos.take i) ng)) ?_ ?_ ?_ ?_⟩
    · exact ⟨G, none, none, none, none, none, none, none, none, g0, rfl, Acc.nil gD⟩
    · rintro i σ H' hi ⟨G', y5, y6, y7, y8, y9, y10, y11, y12, g, rfl, ac⟩
      exact q1 _ g.2.1
    · rintro i x σ H' H'' hi ⟨G', y5, y6, y7, y8, y9, y10, y11, y12, g, rfl, ac⟩ ⟨rfl, hx⟩
      obtain ⟨w1, hw1, rr⟩ := paired_get hp1 hx
      rw [List.getElem?_map] at hw1
      obtain ⟨r1, hr1, rfl⟩ := Option.map_eq_some_iff.mp hw1
      obtain ⟨t, v1, v2, v3, rfl, ht, e1, e2, e3⟩ := mono rr g.1
      cases e2
      cases e3
      obtain ⟨l1, s1, d1⟩ := hP r1 (List.mem_of_getElem? hr1)
      refine ⟨t, _, rfl, SqT.of (g.2.2.1 _ _ ht), rfl, _, _, rfl, _, _, rfl, _, _, rfl, rfl, ?_⟩
      refine ⟨_, rfl, a2, rfl, ⟨_, q2 _ g.2.1⟩, for_it (walk_list (K := K) (a := a2) (xs := xs2)) (fun j σ H2 => ∃ G2 y8 y9 y10 y11 y12, Same G' G2 ∧ σ = [some (.ref p), some (.ref a1), some (.ref a2), some (.int ((2 ^ k : Nat) : Int)), some (.ref D), some v1, some (.int (r1.2 : Nat)), some (.int (FM.dot c r1.1)), y8, y9, y10, y11, y12] ∧ Grow G H G2 H2 ∧
        Acc RR G2 H2 D (FM.joinedL c k b.rays (pos.take i) ng ++ ((ng.take j).filter fun n => FM.nb b.rays r1.1 n.1 (r1.2 &&& n.2)).map (FM.fresh1 c k r1))) ?_ ?_ ?_ ?_⟩
      · refine ⟨G', y8, y9, y10, y11, y12, Same.refl _, rfl, g, ?_⟩
        simpa using ac
      · rintro j σ H2 hj ⟨G2, z8, z9, z10, z11, z12, g2, rfl, gg, ac2⟩
        exact q2 _ gg.2.1
      · rintro j x' σ H2 H3 hj ⟨G2, z8, z9, z10, z11, z12, g2, rfl, gg, ac2⟩ ⟨rfl, hx'⟩
        obtain ⟨w2, hw2, rr2⟩ := paired_get hp2 hx'
        rw [List.getElem?_map] at hw2
        obtain ⟨r2, hr2, rfl⟩ := Option.map_eq_some_iff.mp hw2
        obtain ⟨t2, u1, u2, u3, rfl, ht2, e4, e5, e6⟩ := mono rr2 gg.1
        cases e5
        cases e6
        obtain ⟨l2, s2, d2⟩ := hN r2 (List.mem_of_getElem? hr2)
        have ev1 := mono e1 g2
        have big : ∀ {x : Int}, x.natAbs < 2 ^ B → x.natAbs < 2 ^ 100000 := fun {x} hx => Nat.lt_of_lt_of_le hx (Nat.pow_le_pow_right (by decide) (show B ≤ 100000 by omega))
        refine ⟨t2, _, rfl, SqT.of (gg.2.2.1 _ _ ht2), rfl, _, _, rfl, _, _, rfl, _, _, rfl, rfl, ?_⟩
        refine ⟨_, rfl, _, rfl, r1.2, r2.2, rfl, rfl, ?_⟩
        refine ⟨_, rfl, p, ?_⟩
        obtain ⟨dx, xL, xR, eb, nb, rl, rr'⟩ := hb.grow gg
        refine ⟨dx, _, rfl, eb, bf_no (by decide +kernel) (by decide +kernel) (by decide +kernel), ?_⟩
        refine ⟨_, rfl, _, rfl, _, rfl, G2, p, b, v1, u1, r1.1, r2.1, r1.2 &&& r2.2, rfl, gg.2.2.1, ⟨dx, xL, xR, eb, nb, rl, rr'⟩, ev1, e4, fun G3 H4 g3 => ⟨_, rfl, ?_⟩⟩
        have step := take_snoc ng (fun n => FM.nb b.rays r1.1 n.1 (r1.2 &&& n.2)) (FM.fresh1 c k r1) j r2 hr2
        have ac3 := ac2.grow g3
        refine ite2 (fun et => ?_) (fun et => ?_)
        · have et : FM.nb b.rays r1.1 r2.1 (r1.2 &&& r2.2) = true := et
          rw [if_pos et] at step
          refine ⟨_, rfl, _, rfl, _, rfl, _, rfl, _, rfl, G3, _, _, u1, v1, r2.1, r1.1, rfl, g3.2.2.1, mono e4 g3.1, mono ev1 g3.1, by omega, big d1, ?_, s2.mono (by omega), s1.mono (by omega), fun z4 G4 H5 g4 q4 => ?_⟩
          · show (-(FM.dot c r2.1)).natAbs < _
            rw [Int.natAbs_neg]
            exact big d2
          refine ⟨G4, z4, _, rfl, g4.2.2.1, q4, by rw [FM.comb_len (by omega)]; omega, ?_, fun z5 G5 H6 g5 q5 => ?_⟩
          · refine (comb_Sm (a := B) (b := B) d1 ?_ s2 s1).mono (by omega)
            show (-(FM.dot c r2.1)).natAbs < _
            rw [Int.natAbs_neg]
            exact d2
          have ac5 := (ac3.grow g4).grow g5
          have gg5 := ((gg.trans g3).trans g4).trans g5
          refine ⟨_, rfl, ?_⟩
          refine ⟨ac5.ty, _, rfl, _, rfl, _, rfl, _, _, rfl, rfl, sz1 (n := 2) (by decide), fun T' hT => ?_⟩
          have gT := Grow.new (o := .tup [z5, .int (((r1.2 &&& r2.2) ||| 2 ^ k : Nat) : Int)]) gg5.2.2.1 hT
          have lt := joined_le c k b.rays pos ng hr1 (j + 1)
          rw [step, ← List.append_assoc, List.length_append, List.length_singleton] at lt
          obtain ⟨acc, ea, la, sn⟩ := (ac5.grow gT).app (gg5.trans gT) hD (by omega)
          obtain ⟨g8, ac8⟩ := sn (.ref T') (FM.fresh1 c k r1 r2) ⟨T', z5, _, rfl, upd_same, mono q5 gT.1, rfl⟩
          refine ⟨D, acc, _, rfl, rfl, ea, la, ?_⟩
          refine ⟨_, _, _, _, _, _, (((g2.trans g3.1).trans g4.1).trans g5.1).trans gT.1, rfl, g8, ?_⟩
          rw [step, ← List.append_assoc]
          exact ac8
        · have et : ¬ FM.nb b.rays r1.1 r2.1 (r1.2 &&& r2.2) = true := et
          rw [if_neg et, List.append_nil] at step
          refine ⟨G3, _, _, _, _, _, g2.trans g3.1, rfl, gg.trans g3, ?_⟩
          rw [step]
          exact ac3
      · rintro σ H2 ⟨G2, z8, z9, z10, z11, z12, g2, rfl, gg, ac2⟩
        refine ⟨G2, _, _, _, _, _, _, _, _, gg, rfl, ?_⟩
        rw [joined_snoc c k b.rays pos ng hr1]
        rw [paired_len hp2, List.length_map, List.take_length] at ac2
        exact ac2
    · rintro σ H' ⟨G', y5, y6, y7, y8, y9, y10, y11, y12, g, rfl, ac⟩
      rw [paired_len hp1, List.length_map, List.take_length] at ac
      obtain ⟨G2, gg, rl, _⟩ := ac.took g hD
      exact ⟨_, rfl, kk _ G2 H' gg rl⟩
end joined
end
end FW
set_option Elab.async false
set_option linter.all false
set_option maxRecDepth 100000
set_option maxHeartbeats 4000000
set_option exponentiation.threshold 100001
/-! __init__, turn_line. -/
namespace FW
open PySem L2
theorem seq_of {a r : TS} {D : Ends} {σ : L2.St} {H : Hp} (N : L2.St → Hp → Prop) (hr : ∀ σ H, N σ H → r D σ H) (ha : ∀ X : L2.St → Hp → Prop, (∀ σ H, N σ H → X σ H) → a { D with nx := X } σ H) : tSeq a r D σ H := ha _ hr
theorem cut_take (xs : List V) (i : Nat) : cutV xs none (some (i : Nat)) = xs.take i := by
  unfold cutV
  rw [HT.sIx_none, HT.sIx_nat, List.drop_zero]
  by_cases h : i ≤ xs.length
  · rw [Nat.min_eq_left h, Nat.sub_zero]
  · rw [Nat.min_eq_right (by omega), Nat.sub_zero, List.take_length, List.take_of_length_le (by omega)]
theorem cut_drop (xs : List V) (i : Nat) : cutV xs (some (i : Nat)) none = xs.drop i := by
  unfold cutV
  rw [HT.sIx_none, HT.sIx_nat]
  by_cases h : i ≤ xs.length
  · rw [Nat.min_eq_left h]
    exact List.take_of_length_le (by rw [List.length_drop]; omega)
  · rw [Nat.min_eq_right (by omega), List.drop_of_length_le (Nat.le_refl _), List.drop_of_length_le (by omega)]
    simp
theorem all_true {α : Type} (l : List α) : l.filter (fun _ => true) = l := List.filter_eq_self.mpr fun _ _ => rfl
/-- the new list of a comprehension, taken into G -/
theorem took_list {α : Type} {E : Hp → V → α → Prop} [Mono E] {G H G' H' : Hp} {D : Addr} {ys : List V} {l : List α} (g : Grow G H G' H') (n0 : H D = none) (n : G' D = none) (e : H' D = some (.lst ys)) (p : Paired (E G') ys l) :
    ∃ G2, Grow G H G2 H' ∧ RL E G2 (.ref D) l ∧ ∀ b, b ≠ D → G2 b = G' b :=
  ⟨_, g.took n0 n e, ⟨D, ys, rfl, upd_same, monoP p (Grow.take g.2.2.1 n e).1⟩, fun b hb => upd_ne hb⟩
theorem dot_small {l m : FM.Vec} {a b : Nat} : True := trivial
/-- what turn_line and add need of the numbers -/
structure Okc (n B : Nat) (c : FM.Vec) (b : FM.Bst) : Prop where
  nn : n ≤ 1000
  bb : 2 * B + 1 ≤ 9000
  cl : c.length = n
  cs : Sm B c
  ll : ∀ l ∈ b.lines, l.length = n ∧ Sm B l ∧ (FM.dot c l).natAbs < 2 ^ B
  rr : ∀ r ∈ b.rays, r.1.length = n ∧ Sm B r.1 ∧ (FM.dot c r.1).natAbs < 2 ^ B
  nl : b.lines.length ≤ 1000
  nr : b.rays.length < 16000000
def midTurn (c : FM.Vec) (b : FM.Bst) (i : Nat) : FM.Bst :=
  { lines := (b.lines.take i ++ b.lines.drop (i + 1)).map (FM.tilt (FM.val c (b.lines.getD i [])) c (FM.flip c (b.lines.getD i []))),
    rays := b.rays.map (fun r => (FM.tilt (FM.val c (b.lines.getD i [])) c (FM.flip c (b.lines.getD i [])) r.1, r.2)), count := b.count }
theorem neg_Sm {a : Nat} {l : FM.Vec} (h : Sm a l) : Sm a (FM.neg l) := fun x hx => by
  obtain ⟨y, hy, rfl⟩ := List.mem_map.mp hx
  rw [Int.natAbs_neg]
  exact h y hy
theorem flip_Sm {a : Nat} {c l : FM.Vec} (h : Sm a l) : Sm a (FM.flip c l) := by
  unfold FM.flip
  split
  · exact neg_Sm h
  · exact h
theorem val_lt {a : Nat} {c l : FM.Vec} (h : (FM.dot c l).natAbs < 2 ^ a) : (FM.val c l).natAbs < 2 ^ a := by
  unfold FM.val
  split
  · rw [Int.natAbs_neg]; exact h
  · exact h
section
variable {P : Program} {w : World} {K : PySem.W.Frag} {mg : Str → Option Value} {base : Heap} {C : Addr}
/-- a class as it is called -/
structure Kcal (P : Program) (w : World) (K : PySem.W.Frag) (mg : Str → Option Value) (base : Heap) (C : Addr) (k : Nat) (ps : List Str) (sp : Sp) : Prop where
  ex : ∃ (f : Addr) (fd : FuncData), FnOk P w K mg base CX0 k f fd ps sp ∧ Mk K C f ∧ Binds K fd ps []
def HereK (K : PySem.W.Frag) (C : Addr) (st : Stmt) : Prop := ∃ (f : Addr) (fd : FuncData), Fun K "__init__" "Builder.__init__" st f fd ∧ Mk K C f
theorem HereK.cal {st : Stmt} {ps : List Str} {sp : Sp} {k : Nat} (h : HereK K C st)
    (b : ∀ (kV doc pm : Value) (an : Option Addr) (cdv ct : Value) (us : List Value), us.length = ps.length → bindArgs (PySem.W.fnOf "__init__" "Builder.__init__" (defArgs st) (defBody st) (defScope st) .none kV doc pm an cdv ct) ⟨us, []⟩ = pure (ps.zip us))
    (ok : ∀ (f : Addr) (fd : FuncData), Fun K "__init__" "Builder.__init__" st f fd → FnOk P w K mg base CX0 k f fd ps sp) : Kcal P w K mg base C k ps sp := by
  obtain ⟨f, fd, F, hm⟩ := h
  exact ⟨f, fd, ok f fd F, hm, F.binds b⟩
theorem pe_kcal {X : Cx} {k : Nat} {C : Addr} {ps : List Str} {sp : Sp} {x : Str} {p pos : Pos} {e : Expr} {es : List Expr} {t : TA} (c : Kcal X.prog X.w X.K X.mg X.base C k ps sp) (hr : Room (k + 1) X.A) (hg : Gl X x) (hm : X.mg x = some (.ref C)) (ha : PA X (e :: es) t) (hdb : (x == ("__debug__" : Str)) = false := by decide)
    (he : starEach (e :: es) X.env = (false, eval e X.env) :: starEach es X.env := by rfl) (hpl : (backTo pos (starEach es X.env)).any (·.1) = false := by rfl) : PE X (.Call (.Name x p) (e :: es) [] pos) (tMake C sp [] E0 t) := by
  obtain ⟨f, fd, F, hk, hb⟩ := c.ex
  exact pe_make hk F hr hg hm hb .nil pass0 ha hdb he hpl
/-! ### __init__ -/
namespace init
abbrev st : Stmt := inClass (top 14) 0
abbrev N : List Str := ["self", "size", "i", "k"]
theorem sc : FnScope N ["self", "size"] (defScope st) := ⟨rfl, rfl, rfl, by decide +kernel, rfl, by decide +kernel, by decide +kernel⟩
abbrev SCO : Scope := { kind := .function, names := [(".0", .local), ("k", .cell), ("range", .globalImplicit), ("size", .free)], isGenerator := false, isCoroutine := false }
def sp (C : Addr) : Sp := fun vs H Q _ => ∃ (G : Hp) (p dx : Addr) (n : Nat), vs = [.ref p, .int (n : Nat)] ∧ Same G H ∧ H p = some (.ins C dx []) ∧ G p = none ∧ n ≤ 1000 ∧ ∀ G' H', GrowM p G H G' H' → BAt C G' H' p (FM.start n) → Q .non H'
theorem ok (T : Txt mg) (TC : CTxt K C) (h : HereK K C st) : Kcal P w K mg base C 1 ["self", "size"] (sp C) := by
  refine h.cal (fun _ _ _ _ _ _ us hl => match us, hl with | [_, _], _ => rfl) fun f fd F => ?_
  refine F.ok sc (fun vs H Q E h => ?_) (fun cdv A outer s H vs Q E hr h => ?_)
  · obtain ⟨G, p, dx, n, rfl, _⟩ := h
    rfl
  · obtain ⟨G, p, dx, n, rfl, hs, hp, gp, hn, k⟩ := h
    refine ⟨_, (pss_cons (ps_fld (pv 0) (pe_lc (own := [("k", 3)]) (g := gName 3) (tt := tYes) rfl sc.nd (pi_range1 (by rfl) T.n_range (pa_cons (pv 1) pa_nil)) (blkOk_by (N := N) (sc := defScope st) (by decide +kernel)) (fun _ _ _ _ _ => (pg_name (i := 3) sc.nd rfl (Or.inr rfl))) (fun _ _ _ _ _ => pts_nil) (fun _ _ _ _ _ => (pe_lc (own := [("i", 2)]) (g := gName 2) (tt := tYes) rfl sc.nd (pi_range1 (by rfl) T.n_range (pa_cons (pv 1) pa_nil)) (blkOk_by (N := N) (sc := relS SCO (defScope st)) (by decide +kernel)) (fun _ _ _ _ _ => (pg_name (i := 2) sc.nd rfl (Or.inl rfl))) (fun _ _ _ _ _ => pts_nil) (fun _ _ _ _ _ => (pe_ifExp (pt_cmpR op_eq (pv 2) (pv 3) (nomark _)) pe_int pe_int))))) rfl)
      (pss_cons (ps_fld (pv 0) (pe_lst pa_nil) rfl)
      (pss_one (ps_fld (pv 0) pe_int rfl)))), ?_⟩
    have sz : ((n : Nat) : Int) < 2 ^ 62 := Int.lt_of_le_of_lt (Int.ofNat_le.mpr hn) (by decide)
    refine ⟨_, rfl, (n : Int), rfl, by omega, sz, fun D hD => ?_⟩
    refine comp_range (E := RV) (lo := 0) (n := n) (fun _ => true) (fun k => FM.unit n k) hs hD (by omega) ?_ ?_
    · intro kk G1 H1 hk s1 s2 CC k1 _
      refine ⟨rfl, ?_⟩
      refine ⟨_, rfl, (n : Int), rfl, by omega, sz, fun D2 hD2 => ?_⟩
      refine comp_range (E := RI) (lo := 0) (n := n) (fun _ => true) (fun i => if i = kk then 1 else 0) s2 hD2 (by omega) ?_ ?_
      · intro i G2 H2 hi t1 t2 CC2 j1 _
        refine ⟨rfl, _, rfl, _, rfl, rfl, _, rfl, ite2 (fun e => ?_) (fun e => ?_)⟩
        · have e0 : i = kk := by
            have := V.int.inj (of_decide_eq_true e)
            omega
          refine j1 _ G2 H2 (Grow.refl t2) rfl ?_
          rw [if_pos e0]
          rfl
        · have e0 : ¬ i = kk := fun z => e (decide_eq_true (by rw [z]))
          refine j1 _ G2 H2 (Grow.refl t2) rfl ?_
          rw [if_neg e0]
          rfl
      · intro G2 H2 ys g2 n2 e2 p2
        obtain ⟨G3, g3, r3, _⟩ := took_list g2 hD2 n2 e2 p2
        rw [all_true] at r3
        exact k1 _ G3 H2 g3 rfl r3
    · intro G1 H1 ys g1 n1 e1 p1
      obtain ⟨G2, g2, r2, _⟩ := took_list g1 hD n1 e1 p1
      rw [all_true] at r2
      obtain ⟨gp2, hp2⟩ := g2.out hp gp
      refine ⟨_, rfl, p, C, dx, _, rfl, hp2, TC.cl, TC.nL, (show 0 < 1000 by decide), ?_⟩
      have m1 : GrowM p G H G2 (upd H1 p (.ins C dx (putF "lines" (.ref D) []))) := (GrowM.of g2).trans (GrowM.put g2.2.2.1 gp2)
      refine ⟨Nat.zero_le _, fun D3 hD3 => ?_⟩
      have g3 := Grow.new (o := .lst []) m1.s hD3
      obtain ⟨gp3, hp3⟩ := g3.out upd_same gp2
      refine ⟨_, rfl, p, C, dx, _, rfl, hp3, TC.cl, TC.nR, (show 1 < 1000 by decide), ?_⟩
      have m2 := (m1.trans (GrowM.of g3)).trans (GrowM.put (o := .ins C dx (putF "rays" (.ref D3) (putF "lines" (.ref D) []))) g3.2.2.1 gp3)
      refine ⟨_, rfl, p, C, dx, _, rfl, upd_same, TC.cl, TC.nC, ?_, ?_⟩
      · show (putF "rays" (.ref D3) [("lines", .ref D)]).length < 1000
        rw [put_ne n_lr]
        show 2 < 1000
        decide
      · have e : putF "count" (.int 0) (putF "rays" (.ref D3) (putF "lines" (.ref D) [])) = bf (.ref D) (.ref D3) 0 := by
          show putF "count" (.int 0) (putF "rays" (.ref D3) [("lines", .ref D)]) = _
          rw [put_ne n_lr, put_ne n_lc]
          show (("lines" : Str), V.ref D) :: putF "count" (.int 0) [("rays", .ref D3)] = _
          rw [put_ne n_rc]
          rfl
        rw [e]
        refine k _ _ (m2.trans (GrowM.put m2.s gp3)) ⟨dx, .ref D, .ref D3, upd_same, gp3, mono r2 g3.1, ⟨D3, [], rfl, upd_same, .nil⟩⟩
end init
end
end FW
set_option Elab.async false
set_option linter.all false
set_option maxRecDepth 100000
set_option maxHeartbeats 4000000
set_option exponentiation.threshold 100001
/-! turn_line. -/
namespace FW
open PySem L2
section
variable {P : Program} {w : World} {K : PySem.W.Frag} {mg : Str → Option Value} {base : Heap} {C : Addr}
theorem flip_at {c : FM.Vec} {l : FM.Vec} (h : FM.dot c l < 0) : FM.flip c l = FM.neg l ∧ FM.val c l = -(FM.dot c l) := by
  unfold FM.flip FM.val
  rw [if_pos h, if_pos h]
  exact ⟨rfl, rfl⟩
theorem flip_no {c : FM.Vec} {l : FM.Vec} (h : ¬ FM.dot c l < 0) : FM.flip c l = l ∧ FM.val c l = FM.dot c l := by
  unfold FM.flip FM.val
  rw [if_neg h, if_neg h]
  exact ⟨rfl, rfl⟩
theorem turnAt_none_of {c : FM.Vec} {ls : List FM.Vec} (h : ∀ (j : Nat) (l : FM.Vec), ls[j]? = some l → FM.dot c l = 0) : FM.turnAt c ls = none := by
  unfold FM.turnAt
  rw [List.findIdx?_eq_none_iff]
  intro l hl
  obtain ⟨j, hj⟩ := List.mem_iff_getElem?.mp hl
  simp [h j l hj]
theorem turnAt_some_of {c : FM.Vec} {ls : List FM.Vec} {i : Nat} {l : FM.Vec} (hi : ls[i]? = some l) (hn : FM.dot c l ≠ 0) (h : ∀ (j : Nat) (l : FM.Vec), j < i → ls[j]? = some l → FM.dot c l = 0) : FM.turnAt c ls = some i := by
  unfold FM.turnAt
  rw [List.findIdx?_eq_some_iff_getElem]
  obtain ⟨h1, h2⟩ := List.getElem?_eq_some_iff.mp hi
  refine ⟨h1, by rw [h2]; simp [hn], fun j hj => ?_⟩
  have := h j ls[j] hj (List.getElem?_eq_getElem (by omega))
  simp [this]
/-! ### turn_line -/
namespace turn_line
abbrev st : Stmt := inClass (top 14) 1
abbrev N : List Str := ["self", "condition", "at", "line", "value", "item", "rest", "other", "ray", "mask"]
theorem sc : FnScope N ["self", "condition"] (defScope st) := ⟨rfl, rfl, rfl, by decide +kernel, rfl, by decide +kernel, by decide +kernel⟩
def sp (C : Addr) : Sp := fun vs H Q _ => ∃ (G : Hp) (p : Addr) (v : V) (b : FM.Bst) (c : FM.Vec) (n B : Nat), vs = [.ref p, v] ∧ Same G H ∧ BAt C G H p b ∧ RV G v c ∧ Okc n B c b ∧
  (FM.turnAt c b.lines = none → ∀ G' H', Grow G H G' H' → Q .non H') ∧
  (∀ i, FM.turnAt c b.lines = some i → ∀ G' H' z, GrowM p G H G' H' → BAt C G' H' p (midTurn c b i) → RV G' z (FM.flip c (b.lines.getD i [])) → Q z H')
theorem ok (T : Txt mg) (TC : CTxt K C) (h : HereM K C "turn_line" "Builder.turn_line" st) (c_dot : Cal P w K mg base "dot" 1 ["first", "second"] dot.sp)
    (c_primitive : Cal P w K mg base "primitive" 2 ["vector"] primitive.sp) (c_combined : Cal P w K mg base "combined" 1 ["first", "vector", "second", "other"] combined.sp) : Mcal P w K mg base C "turn_line" 3 ["self", "condition"] (sp C) := by
  refine h.cal (fun _ _ _ _ _ _ us hl => match us, hl with | [_, _], _ => rfl) fun f fd F => ?_
  refine F.ok sc (fun vs H Q E h => ?_) (fun cdv A outer s H vs Q E hr h => ?_)
  · obtain ⟨G, p, v, b, c, n, B, rfl, _⟩ := h
    rfl
  · obtain ⟨G, p, v, b, c, n, B, rfl, hs, hb, hv, ok, k0, k1⟩ := h
    refine ⟨_, (pss_cons (ps_for PassesOwn.never rfl (pi_enum (by rfl) T.n_enumerate (pa_cons (pe_fld (pv 0) rfl) pa_nil)) (pg_tup rfl (pgs_cons (pg_name (i := 2) sc.nd rfl (Or.inl rfl)) (pgs_cons (pg_name (i := 3) sc.nd rfl (Or.inr rfl)) pgs_nil)))
        (pss_cons (ps_set (i := 4) sc.nd rfl (Or.inr rfl) (pe_cal c_dot (hr.mono (by decide)) (by rfl) (pa_cons (pv 1) (pa_cons (pv 3) pa_nil))))
        (pss_one (ps_if (pt_cmpR op_ne (pv 4) pe_int (nomark _))
          (pss_cons (ps_if (pt_cmpR op_lt (pv 4) pe_int (nomark _))
            (pss_cons (ps_set (i := 3) sc.nd rfl (Or.inr rfl) (pe_lc (own := [("item", 5)]) (g := gName 5) (tt := tYes) rfl sc.nd (pi_list (pv 3)) (blkOk_by (N := N) (sc := defScope st) (by decide +kernel)) (fun _ _ _ _ _ => (pg_name (i := 5) sc.nd rfl (Or.inl rfl))) (fun _ _ _ _ _ => pts_nil) (fun _ _ _ _ _ => (pe_un un_neg (pv 5)))))
            (pss_one (ps_set (i := 4) sc.nd rfl (Or.inr rfl) (pe_un un_neg (pv 4)))))
            pss_nil)
          (pss_cons (ps_set (i := 6) sc.nd rfl (Or.inl rfl) (pe_op op_cat (pe_slice sl_list (pe_fld (pv 0) rfl) po_none (po_some (pv 2))) (pe_slice sl_list (pe_fld (pv 0) rfl) (po_some (pe_op op_add (pv 2) pe_int)) po_none)))
          (pss_cons (ps_fld (pv 0) (pe_lc (own := [("other", 7)]) (g := gName 7) (tt := tYes) rfl sc.nd (pi_list (pv 6)) (blkOk_by (N := N) (sc := defScope st) (by decide +kernel)) (fun _ _ _ _ _ => (pg_name (i := 7) sc.nd rfl (Or.inl rfl))) (fun _ _ _ _ _ => pts_nil) (fun _ _ _ _ _ => (pe_cal c_primitive (hr.mono (by decide)) (by rfl) (pa_cons (pe_cal c_combined (hr.mono (by decide)) (by rfl) (pa_cons (pv 4) (pa_cons (pv 7) (pa_cons (pe_un un_neg (pe_cal c_dot (hr.mono (by decide)) (by rfl) (pa_cons (pv 1) (pa_cons (pv 7) pa_nil)))) (pa_cons (pv 3) pa_nil))))) pa_nil)))) rfl)
          (pss_cons (ps_fld (pv 0) (pe_lc (own := [("ray", 8), ("mask", 9)]) (g := gTup K 2 (gCons (gName 8) (gCons (gName 9) gNil))) (tt := tYes) rfl sc.nd (pi_list (pe_fld (pv 0) rfl)) (blkOk_by (N := N) (sc := defScope st) (by decide +kernel)) (fun _ _ _ _ _ => (pg_tup rfl (pgs_cons (pg_name (i := 8) sc.nd rfl (Or.inl rfl)) (pgs_cons (pg_name (i := 9) sc.nd rfl (Or.inl rfl)) pgs_nil)))) (fun _ _ _ _ _ => pts_nil) (fun _ _ _ _ _ => (pe_tup (pa_cons (pe_cal c_primitive (hr.mono (by decide)) (by rfl) (pa_cons (pe_cal c_combined (hr.mono (by decide)) (by rfl) (pa_cons (pv 4) (pa_cons (pv 8) (pa_cons (pe_un un_neg (pe_cal c_dot (hr.mono (by decide)) (by rfl) (pa_cons (pv 1) (pa_cons (pv 8) pa_nil)))) (pa_cons (pv 3) pa_nil))))) pa_nil)) (pa_cons (pv 9) pa_nil))))) rfl)
          (pss_one (ps_ret (pv 3)))))))
          pss_nil))))
      (pss_one (ps_ret pe_non))), ?_⟩
    obtain ⟨dx, x1, x2, eb, nb, rl, rr⟩ := id hb
    obtain ⟨a, xs, rfl, ha, hp⟩ := id rl
    have big : ∀ {x : Int}, x.natAbs < 2 ^ B → x.natAbs < 2 ^ 100000 := fun {x} hx => Nat.lt_of_lt_of_le hx (Nat.pow_le_pow_right (by decide) (show B ≤ 100000 by have := ok.bb; omega))
    have bb := ok.bb
    have nn := ok.nn
    have q1 : ∀ H', Same H H' → SqL K H' a xs := fun H' s => SqL.of (s _ _ (hs _ _ ha))
    refine ⟨_, rfl, p, C, dx, _, _, rfl, eb, TC.cl, TC.nL, bf_lines _ _ _, a, xs, rfl, q1 H (Same.refl _), for_it (walk_enum (K := K) (a := a) (xs := xs)) (fun i σ H' => ∃ G' y2 y3 y4 y5, Grow G H G' H' ∧ σ = [some (.ref p), some v, y2, y3, y4, y5, none, none, none, none] ∧ ∀ (j : Nat) (l : FM.Vec), j < i → b.lines[j]? = some l → FM.dot c l = 0) ?_ ?_ ?_ ?_⟩
    · exact ⟨G, none, none, none, none, Grow.refl hs, rfl, fun j _ hj => absurd hj (Nat.not_lt_zero _)⟩
    · rintro i σ H' hi ⟨G', y2, y3, y4, y5, g, rfl, hz⟩
      exact q1 _ g.2.1
    · rintro i x σ H' H'' hi ⟨G', y2, y3, y4, y5, g, rfl, hz⟩ ⟨T', u1, u2, rfl, hT, rfl, e1, e2⟩
      cases e1
      obtain ⟨l, hl, rv⟩ := paired_get hp e2
      have lm : l ∈ b.lines := List.mem_of_getElem? hl
      obtain ⟨ll, ls, ld⟩ := ok.ll l lm
      have g1 := g.trans (Grow.newH (o := .tup [.int (i : Nat), u2]) g.2.2.1 hT)
      refine ⟨T', _, rfl, SqT.of upd_same, rfl, _, _, rfl, _, _, rfl, rfl, ?_⟩
      refine ⟨_, rfl, _, rfl, G', v, u2, c, l, rfl, g1.2.2.1, mono hv g1.1, mono rv g1.1, by rw [ok.cl]; omega, ok.cs.mono (by omega), ls.mono (by omega), fun G2 H2 g2 => ?_⟩
      have g3 := g1.trans g2
      refine ⟨_, rfl, rfl, _, rfl, ite2 (fun e => ?_) (fun e => ?_)⟩
      · have hn : FM.dot c l ≠ 0 := fun z => by rw [z] at e; simp at e
        have ht := turnAt_some_of hl hn hz
        have hg : b.lines.getD i [] = l := by rw [List.getD_eq_getElem?_getD, hl]; rfl
        refine seq_of (fun σ H3 => ∃ G3 vl y5, Grow G H G3 H3 ∧ σ = [some (.ref p), some v, some (.int (i : Nat)), some vl, some (.int (FM.val c l)), y5, none, none, none, none] ∧ RV G3 vl (FM.flip c l)) ?_ ?_
        · rintro σ H3 ⟨G3, vl, y5, g4, rfl, rf⟩
          have k1' := k1 i ht
          unfold midTurn at k1'
          rw [hg] at k1'
          obtain ⟨gp4, hp4⟩ := g4.out eb nb
          have vlt : (FM.val c l).natAbs < 2 ^ B := val_lt ld
          have fsm : Sm B (FM.flip c l) := flip_Sm ls
          have fln : (FM.flip c l).length = n := by rw [FM.flip_len]; exact ll
          -- the rest of the lines
          refine ⟨_, rfl, p, C, dx, _, _, rfl, hp4, TC.cl, TC.nL, bf_lines _ _ _, _, rfl, _, rfl, a, xs, rfl, q1 _ g4.2.1, fun D1 n1 => ?_⟩
          have g5 := g4.trans (Grow.newH (o := .lst (cutV xs none (some (i : Nat)))) g4.2.2.1 n1)
          obtain ⟨gp5, hp5⟩ := g5.out eb nb
          refine ⟨_, rfl, p, C, dx, _, _, rfl, hp5, TC.cl, TC.nL, bf_lines _ _ _, _, rfl, _, _, rfl, rfl, _, rfl, a, xs, rfl, q1 _ g5.2.1, fun D2 n2 => ?_⟩
          have g6' := Grow.newH (o := .lst (cutV xs (some ((i : Int) + 1)) none)) g5.2.2.1 n2
          have g6 := g5.trans g6'
          have xl : xs.length ≤ 1000 := by rw [paired_len hp]; exact ok.nl
          refine ⟨D1, D2, _, _, rfl, rfl, g6'.2.1 _ _ upd_same, upd_same, ?_, fun D3 n3 => ?_⟩
          · have h1 := cutV_length xs none (some (i : Nat))
            have h2 := cutV_length xs (some ((i : Int) + 1)) none
            exact sz1 (by omega)
          have g7' := Grow.new (o := .lst (cutV xs none (some (i : Nat)) ++ cutV xs (some ((i : Int) + 1)) none)) g6.2.2.1 n3
          have g7 := g6.trans g7'
          have r3 : RM (upd G3 D3 (.lst (cutV xs none (some (i : Nat)) ++ cutV xs (some ((i : Int) + 1)) none))) (.ref D3) (b.lines.take i ++ b.lines.drop (i + 1)) := by
            have pp : Paired (RV G) (cutV xs none (some (i : Nat)) ++ cutV xs (some ((i : Int) + 1)) none) (b.lines.take i ++ b.lines.drop (i + 1)) := by
              have e1 : (some ((i : Int) + 1)) = some (((i + 1 : Nat) : Int)) := rfl
              rw [cut_take, e1, cut_drop]
              exact paired_app (paired_take i hp) (paired_drop (i + 1) hp)
            exact ⟨D3, _, rfl, upd_same, monoP pp g7.1⟩
          have lsub : ∀ y ∈ b.lines.take i ++ b.lines.drop (i + 1), y ∈ b.lines := fun y hy => by
            rcases List.mem_append.mp hy with q | q
            · exact List.mem_of_mem_take q
            · exact List.mem_of_mem_drop q
          obtain ⟨D3', xs3, h3a, h3b, h3c⟩ := id r3
          cases h3a
          have sq3 : SqL K _ D3 xs3 := SqL.of (g7.2.2.1 _ _ h3b)
          refine ⟨_, rfl, D3, rfl, ⟨_, sq3⟩, fun D4 n4 => ?_⟩
          refine comp_list (E := RV) (Ea := RV) (fun _ => true) (fun x => FM.tilt (FM.val c l) c (FM.flip c l) x) g7.2.2.1 n4 sq3 h3c ?_ ?_ ?_
          · rw [List.length_append, List.length_take, List.length_drop]
            have := ok.nl
            omega
          · intro y x G' H' hy s1 s2 hx CC j1 _
            obtain ⟨yl, ysm, yd⟩ := ok.ll y (lsub y hy)
            have hx' := mono hx (Same.refl G')
            refine ⟨rfl, _, rfl, _, rfl, _, rfl, _, rfl, G', v, x, c, y, rfl, s2, mono hv (g7.1.trans s1), hx, by rw [ok.cl]; omega, ok.cs.mono (by omega), ysm.mono (by omega), fun G8 H8 g8 => ?_⟩
            refine ⟨_, rfl, _, rfl, G8, _, _, x, vl, y, FM.flip c l, rfl, g8.2.2.1, mono hx g8.1, mono rf ((g7'.1.trans s1).trans g8.1), by omega, big vlt, ?_, ysm.mono (by omega), fsm.mono (by omega), fun z9 G9 H9 g9 r9 => ?_⟩
            · show (-(FM.dot c y)).natAbs < _
              rw [Int.natAbs_neg]
              exact big yd
            refine ⟨G9, z9, _, rfl, g9.2.2.1, r9, by rw [FM.comb_len (by omega)]; omega, ?_, fun z10 G10 H10 g10 r10 => ?_⟩
            · refine (comb_Sm (a := B) (b := B) vlt ?_ ysm fsm).mono (by omega)
              show (-(FM.dot c y)).natAbs < _
              rw [Int.natAbs_neg]
              exact yd
            exact j1 z10 G10 H10 ((g8.trans g9).trans g10) rfl r10
          · intro G8 H8 ys g8 n8 e8 p8
            obtain ⟨G9, g9, r9, _⟩ := took_list g8 n4 n8 e8 p8
            rw [all_true] at r9
            have g10 := g7.trans g9
            obtain ⟨gp10, hp10⟩ := g10.out eb nb
            refine ⟨_, rfl, p, C, dx, _, rfl, hp10, TC.cl, TC.nL, (show 3 < 1000 by decide), ?_⟩
            have m1 : GrowM p G H G9 (upd H8 p (.ins C dx (putF "lines" (.ref D4) (bf (.ref a) x2 (b.count : Nat))))) := (GrowM.of g10).trans (GrowM.put g10.2.2.1 gp10)
            have hp11 : (upd H8 p (.ins C dx (putF "lines" (.ref D4) (bf (.ref a) x2 (b.count : Nat))))) p = some (.ins C dx (bf (.ref D4) x2 (b.count : Nat))) := by rw [upd_same, bf_putL]
            obtain ⟨a2, xs2, rfl, ha2, hpr⟩ := mono rr m1.g
            have sqr : SqL K (upd H8 p (.ins C dx (putF "lines" (.ref D4) (bf (.ref a) (.ref a2) (b.count : Nat))))) a2 xs2 := SqL.of (m1.s _ _ ha2)
            refine ⟨_, rfl, p, C, dx, _, _, rfl, hp11, TC.cl, TC.nR, bf_rays _ _ _, a2, rfl, ⟨_, sqr⟩, fun D5 n5 => ?_⟩
            refine comp_list (E := RR) (Ea := RR) (fun _ => true) (fun r => (FM.tilt (FM.val c l) c (FM.flip c l) r.1, r.2)) m1.s n5 sqr hpr (by have := ok.nr; omega) ?_ ?_
            · intro y x G' H' hy s1 s2 hx CC j1 _
              obtain ⟨yl, ysm, yd⟩ := ok.rr y hy
              obtain ⟨T2, w1, w2, rfl, hT2, q1', q2'⟩ := hx
              cases q2'
              refine ⟨T2, _, rfl, SqT.of (s2 _ _ hT2), rfl, _, _, rfl, _, _, rfl, rfl, rfl, _, rfl, _, rfl, _, rfl, _, rfl, G', v, w1, c, y.1, rfl, s2, mono hv (m1.g.trans s1), q1', by rw [ok.cl]; omega, ok.cs.mono (by omega), ysm.mono (by omega), fun G8 H8 g8 => ?_⟩
              refine ⟨_, rfl, _, rfl, G8, _, _, w1, vl, y.1, FM.flip c l, rfl, g8.2.2.1, mono q1' g8.1, mono rf (((g7'.1.trans g9.1).trans s1).trans g8.1), by omega, big vlt, ?_, ysm.mono (by omega), fsm.mono (by omega), fun z9 G9 H9 g9 r9 => ?_⟩
              · show (-(FM.dot c y.1)).natAbs < _
                rw [Int.natAbs_neg]
                exact big yd
              refine ⟨G9, z9, _, rfl, g9.2.2.1, r9, by rw [FM.comb_len (by omega)]; omega, ?_, fun z10 G10 H10 g10 r10 => ?_⟩
              · refine (comb_Sm (a := B) (b := B) vlt ?_ ysm fsm).mono (by omega)
                show (-(FM.dot c y.1)).natAbs < _
                rw [Int.natAbs_neg]
                exact yd
              refine ⟨_, rfl, sz1 (n := 2) (by decide), fun T3 nT3 => ?_⟩
              have gT := Grow.new (o := .tup [z10, .int (y.2 : Nat)]) g10.2.2.1 nT3
              exact j1 _ _ _ (((g8.trans g9).trans g10).trans gT) rfl ⟨T3, z10, _, rfl, upd_same, mono r10 gT.1, rfl⟩
            · intro G12 H12 ys2 g12 n12 e12 p12
              obtain ⟨G13, g13, r13, _⟩ := took_list g12 n5 n12 e12 p12
              rw [all_true] at r13
              obtain ⟨gp13, hp13⟩ := g13.out hp11 gp10
              refine ⟨_, rfl, p, C, dx, _, rfl, hp13, TC.cl, TC.nR, (show 3 < 1000 by decide), ?_⟩
              have m2 := (m1.trans (GrowM.of g13)).trans (GrowM.put (o := .ins C dx (putF "rays" (.ref D5) (bf (.ref D4) (.ref a2) (b.count : Nat)))) g13.2.2.1 gp13)
              refine ⟨_, rfl, k1' _ _ vl m2 ⟨dx, .ref D4, .ref D5, ?_, gp13, mono r9 g13.1, r13⟩ (mono rf ((g7'.1.trans g9.1).trans g13.1))⟩
              rw [upd_same, bf_putR]
        · intro X hX
          refine ⟨_, rfl, _, _, rfl, rfl, _, rfl, ite2 (fun e2 => ?_) (fun e2 => ?_)⟩
          · obtain ⟨f1, f2⟩ := flip_at (c := c) (l := l) (of_decide_eq_true e2)
            obtain ⟨al, rfl, hal⟩ := rv_iff.mp (mono rv g3.1)
            have sq : SqL K H2 al (l.map V.int) := SqL.of (g3.2.2.1 _ _ hal)
            refine ⟨_, rfl, al, rfl, ⟨_, sq⟩, fun D hD => ?_⟩
            refine comp_list (E := RI) (Ea := RI) (fun _ => true) (fun x => -x) g3.2.2.1 hD sq (ints_of G2 l) (by omega) ?_ ?_
            · intro y x G4 H4 hy s1 s2 hx CC j1 _
              cases hx
              exact ⟨rfl, _, rfl, _, rfl, j1 _ G4 H4 (Grow.refl s2) rfl rfl⟩
            · intro G4 H4 ys g4 n4 e4 p4
              obtain ⟨G5, g5, r5, _⟩ := took_list g4 hD n4 e4 p4
              rw [all_true] at r5
              refine ⟨_, rfl, _, rfl, hX _ _ ⟨G5, .ref D, y5, g3.trans g5, ?_, ?_⟩⟩
              · rw [f2]; rfl
              · rw [f1]; exact r5
          · obtain ⟨f1, f2⟩ := flip_no (c := c) (l := l) (fun z => e2 (decide_eq_true z))
            refine hX _ _ ⟨G2, u2, y5, g3, ?_, ?_⟩
            · rw [f2]; rfl
            · rw [f1]; exact mono rv g3.1
      · have z0 : FM.dot c l = 0 := Classical.byContradiction fun z => e (by simp [z])
        refine ⟨G2, _, _, _, _, g3, rfl, fun j l' hj hl' => ?_⟩
        by_cases q : j = i
        · rw [q, hl] at hl'
          cases hl'
          exact z0
        · exact hz j l' (by omega) hl'
    · rintro σ H' ⟨G', y2, y3, y4, y5, g, rfl, hz⟩
      refine k0 (turnAt_none_of fun j l hj => hz j l ?_ hj) G' H' g
      rw [paired_len hp]
      exact (List.getElem?_eq_some_iff.mp hj).1
end turn_line
end
end FW
set_option Elab.async false
set_option linter.all false
set_option maxRecDepth 100000
set_option maxHeartbeats 4000000
set_option exponentiation.threshold 100001
/-! add. -/
namespace FW
open PySem L2
theorem GrowM.mutNew {p D : Addr} {G H G' H' : Hp} {o : HO} (g : GrowM p G H G' H') (n0 : H D = none) (n : G' D = none) : GrowM p G H G' (upd H' D o) :=
  ⟨g.g, fun b u ne e => by rw [upd_ne (ne_of_none e n0)]; exact g.h b u ne e, same_mut g.s n, g.n, g.t, fun q z => by
    by_cases hp : p = D
    · rw [hp] at q; exact q n0
    · rw [upd_ne hp] at z; exact g.p q z⟩
theorem GrowM.took {p D : Addr} {G H G' H' : Hp} {o : HO} (g : GrowM p G H G' H') (n0 : H D = none) (n : G' D = none) (e : H' D = some o) (ho : ∀ ps, o ≠ .tbl ps := by intro _ h; cases h) : GrowM p G H (upd G' D o) H' := by
  obtain ⟨a, b⟩ := Grow.take g.s n e
  refine ⟨g.g.trans a, g.h, b, fun c h1 h2 => ?_, fun z => (g.t z).upd ho, g.p⟩
  rw [upd_ne (fun z => h1 (by rw [z]; exact n0))]
  exact g.n c h1 h2
theorem GrowM.fresh {p D : Addr} {G H G' H' : Hp} (g : GrowM p G H G' H') (h : H' D = none) : H D = none := by
  cases e : H D with
  | none => rfl
  | some o =>
    by_cases hd : D = p
    · subst hd
      exact absurd h (g.p (by rw [e]; exact fun z => nomatch z))
    · rw [g.h D o hd e] at h
      cases h
theorem pow_sub (k : Nat) : ((2 ^ k : Nat) : Int) - 1 = ((2 ^ k - 1 : Nat) : Int) := by
  have := Nat.two_pow_pos k
  omega
theorem pos_snoc (c : FM.Vec) (l : List FM.Ray) (i : Nat) (a : FM.Ray) (h : l[i]? = some a) : (FM.posL c (l.take (i + 1))).map (tri c) = (FM.posL c (l.take i)).map (tri c) ++ (if 0 < FM.dot c a.1 then [tri c a] else []) := by
  unfold FM.posL
  rw [filter_snoc l _ _ i a h]
  by_cases q : 0 < FM.dot c a.1 <;> simp [q]
theorem neg_snoc (c : FM.Vec) (l : List FM.Ray) (i : Nat) (a : FM.Ray) (h : l[i]? = some a) : (FM.negL c (l.take (i + 1))).map (tri c) = (FM.negL c (l.take i)).map (tri c) ++ (if FM.dot c a.1 < 0 then [tri c a] else []) := by
  unfold FM.negL
  rw [filter_snoc l _ _ i a h]
  by_cases q : FM.dot c a.1 < 0 <;> simp [q]
theorem zer_snoc (c : FM.Vec) (k : Nat) (l : List FM.Ray) (i : Nat) (a : FM.Ray) (h : l[i]? = some a) : (FM.zerL c (l.take (i + 1))).map (FM.orBit k) = (FM.zerL c (l.take i)).map (FM.orBit k) ++ (if FM.dot c a.1 = 0 then [FM.orBit k a] else []) := by
  unfold FM.zerL
  rw [filter_snoc l _ _ i a h]
  by_cases q : FM.dot c a.1 = 0 <;> simp [q]
theorem filter_take_le {α : Type} (p : α → Bool) (l : List α) (i : Nat) : ((l.take i).filter p).length ≤ l.length :=
  Nat.le_trans (List.length_filter_le _ _) (by rw [List.length_take]; omega)
theorem ne_new {H : Hp} {D p : Addr} {o : HO} (h1 : H D = none) (h2 : H p = some o) : D ≠ p := fun z => by
  rw [z, h2] at h1
  cases h1
theorem Acc.took2 {α : Type} {E : Hp → V → α → Prop} [Mono E] {G0 H0 G H : Hp} {D : Addr} {l : List α} (h : Acc E G H D l) (g : Grow G0 H0 G H) (n0 : H0 D = none) : ∃ G', Grow G0 H0 G' H ∧ RL E G' (.ref D) l ∧ Same G G' ∧ ∀ b, b ≠ D → G' b = G b := by
  obtain ⟨acc, e, n, p⟩ := h
  exact ⟨_, g.took n0 n e, ⟨D, acc, rfl, upd_same, monoP p (Grow.take g.2.2.1 n e).1⟩, (Grow.take g.2.2.1 n e).1, fun b hb => upd_ne hb⟩
theorem Acc.frame2 {α : Type} {E : Hp → V → α → Prop} [Mono E] {G G2 H : Hp} {D : Addr} {l : List α} (h : Acc E G H D l) (s : Same G G2) (e : G2 D = G D) : Acc E G2 H D l := by
  obtain ⟨acc, e1, n, p⟩ := h
  exact ⟨acc, e1, e.trans n, monoP p s⟩
section
variable {P : Program} {w : World} {K : PySem.W.Frag} {mg : Str → Option Value} {base : Heap} {C : Addr}
/-! ### add -/
namespace add
abbrev st : Stmt := inClass (top 14) 2
abbrev N : List Str := ["self", "condition", "exact", "line", "bit", "ray", "mask", "positive", "negative", "kept", "value", "fresh", "_"]
theorem sc : FnScope N ["self", "condition", "exact"] (defScope st) := ⟨rfl, rfl, rfl, by decide +kernel, rfl, by decide +kernel, by decide +kernel⟩
def sp (C : Addr) : Sp := fun vs H Q _ => ∃ (G : Hp) (p : Addr) (v : V) (b : FM.Bst) (c : FM.Vec) (ex : Bool) (n B : Nat), vs = [.ref p, v, .bl ex] ∧ Same G H ∧ BAt C G H p b ∧ RV G v c ∧ Okc n B c b ∧ b.count ≤ 1000000 ∧
  (FM.addC b (c, ex)).rays.length < 16000000 ∧ ∀ G' H', GrowM p G H G' H' → BAt C G' H' p (FM.addC b (c, ex)) → Q .non H'
theorem ok (T : Txt mg) (TC : CTxt K C) (h : HereM K C "add" "Builder.add" st) (c_turn_line : Mcal P w K mg base C "turn_line" 3 ["self", "condition"] (turn_line.sp C)) (c_dot : Cal P w K mg base "dot" 1 ["first", "second"] dot.sp)
    (c_joined : Mcal P w K mg base C "joined" 3 ["self", "positive", "negative", "bit"] (joined.sp C)) : Mcal P w K mg base C "add" 4 ["self", "condition", "exact"] (sp C) := by
  refine h.cal (fun _ _ _ _ _ _ us hl => match us, hl with | [_, _, _], _ => rfl) fun f fd F => ?_
  refine F.ok sc (fun vs H Q E h => ?_) (fun cdv A outer s H vs Q E hr h => ?_)
  · obtain ⟨G, p, v, b, c, ex, n, B, rfl, _⟩ := h
    rfl
  · obtain ⟨G, p, v, b, c, ex, n, B, rfl, hs, hb, hv, ok, hc, hlen, k⟩ := h
    refine ⟨_, (pss_cons (ps_set (i := 3) sc.nd rfl (Or.inl rfl) (pe_mcal c_turn_line TC.cl (hr.mono (by decide)) (pv 0) (pa_cons (pv 1) pa_nil)))
      (pss_cons (ps_set (i := 4) sc.nd rfl (Or.inr rfl) (pe_op op_shl1N pe_int (pe_fld (pv 0) rfl)))
      (pss_cons (ps_fldaug (pv 0) pe_int in_add)
      (pss_cons (ps_if (pt_cmpR op_notN (pv 3) pe_non (nomark _))
        (pss_cons (ps_fld (pv 0) (pe_lc (own := [("ray", 5), ("mask", 6)]) (g := gTup K 2 (gCons (gName 5) (gCons (gName 6) gNil))) (tt := tYes) rfl sc.nd (pi_list (pe_fld (pv 0) rfl)) (blkOk_by (N := N) (sc := defScope st) (by decide +kernel)) (fun _ _ _ _ _ => (pg_tup rfl (pgs_cons (pg_name (i := 5) sc.nd rfl (Or.inl rfl)) (pgs_cons (pg_name (i := 6) sc.nd rfl (Or.inl rfl)) pgs_nil)))) (fun _ _ _ _ _ => pts_nil) (fun _ _ _ _ _ => (pe_tup (pa_cons (pv 5) (pa_cons (pe_op op_orN (pv 6) (pv 4)) pa_nil))))) rfl)
        (pss_cons (ps_if (pt_not (pt_val (pv 2)))
          (pss_one (ps_expr (pe_bm PySem.F.plainAttrs_list PySem.F.slot_list_append PySem.F.type_list_append mt_append (pe_fld (pv 0) rfl) (pa_cons (pe_tup (pa_cons (pv 3) (pa_cons (pe_op op_sub (pv 4) pe_int) pa_nil))) pa_nil))))
          pss_nil)
        (pss_one ps_retN)))
        pss_nil)
      (pss_cons (ps_set (i := 7) sc.nd rfl (Or.inl rfl) (pe_lst pa_nil))
      (pss_cons (ps_set (i := 8) sc.nd rfl (Or.inl rfl) (pe_lst pa_nil))
      (pss_cons (ps_set (i := 9) sc.nd rfl (Or.inl rfl) (pe_lst pa_nil))
      (pss_cons (ps_for PassesOwn.never rfl (pi_list (pe_fld (pv 0) rfl)) (pg_tup rfl (pgs_cons (pg_name (i := 5) sc.nd rfl (Or.inl rfl)) (pgs_cons (pg_name (i := 6) sc.nd rfl (Or.inl rfl)) pgs_nil)))
        (pss_cons (ps_set (i := 10) sc.nd rfl (Or.inl rfl) (pe_cal c_dot (hr.mono (by decide)) (by rfl) (pa_cons (pv 1) (pa_cons (pv 5) pa_nil))))
        (pss_one (ps_if (pt_cmpR op_eq (pv 10) pe_int (nomark _))
          (pss_one (ps_expr (pe_bm PySem.F.plainAttrs_list PySem.F.slot_list_append PySem.F.type_list_append mt_append (pv 9) (pa_cons (pe_tup (pa_cons (pv 5) (pa_cons (pe_op op_orN (pv 6) (pv 4)) pa_nil))) pa_nil))))
          (pss_one (ps_if (pt_cmpR op_gt (pv 10) pe_int (nomark _))
            (pss_one (ps_expr (pe_bm PySem.F.plainAttrs_list PySem.F.slot_list_append PySem.F.type_list_append mt_append (pv 7) (pa_cons (pe_tup (pa_cons (pv 5) (pa_cons (pv 6) (pa_cons (pv 10) pa_nil)))) pa_nil))))
            (pss_one (ps_expr (pe_bm PySem.F.plainAttrs_list PySem.F.slot_list_append PySem.F.type_list_append mt_append (pv 8) (pa_cons (pe_tup (pa_cons (pv 5) (pa_cons (pv 6) (pa_cons (pv 10) pa_nil)))) pa_nil))))))))))
      (pss_cons (ps_set (i := 11) sc.nd rfl (Or.inl rfl) (pe_mcal c_joined TC.cl (hr.mono (by decide)) (pv 0) (pa_cons (pv 7) (pa_cons (pv 8) (pa_cons (pv 4) pa_nil)))))
      (pss_cons (ps_if (pt_not (pt_val (pv 2)))
        (pss_one (ps_set (i := 9) sc.nd rfl (Or.inl rfl) (pe_op op_cat (pv 9) (pe_lc (own := [("ray", 5), ("mask", 6), ("_", 12)]) (g := gTup K 3 (gCons (gName 5) (gCons (gName 6) (gCons (gName 12) gNil)))) (tt := tYes) rfl sc.nd (pi_list (pv 7)) (blkOk_by (N := N) (sc := defScope st) (by decide +kernel)) (fun _ _ _ _ _ => (pg_tup rfl (pgs_cons (pg_name (i := 5) sc.nd rfl (Or.inl rfl)) (pgs_cons (pg_name (i := 6) sc.nd rfl (Or.inl rfl)) (pgs_cons (pg_name (i := 12) sc.nd rfl (Or.inl rfl)) pgs_nil))))) (fun _ _ _ _ _ => pts_nil) (fun _ _ _ _ _ => (pe_tup (pa_cons (pv 5) (pa_cons (pv 6) pa_nil))))))))
        pss_nil)
      (pss_one (ps_fld (pv 0) (pe_op op_cat (pv 9) (pv 11)) rfl)))))))))))), ?_⟩
    obtain ⟨dx, x1, x2, eb, nb, rl, rr⟩ := id hb
    have bb := ok.bb
    have nn := ok.nn
    refine ⟨_, rfl, p, dx, _, rfl, eb, bf_no (by decide +kernel) (by decide +kernel) (by decide +kernel), _, rfl, G, p, v, b, c, n, B, rfl, hs, hb, hv, ok, fun ht G1 H1 g1 => ?_, fun i ht G1 H1 z m1 hb1 rz => ?_⟩
    · -- flat
      have ea : FM.addC b (c, ex) = FM.stepFlat c ex b := by unfold FM.addC; rw [ht]
      rw [ea] at hlen k
      obtain ⟨nb1, eb1⟩ := g1.out eb nb
      refine ⟨_, rfl, p, C, dx, _, _, rfl, eb1, TC.cl, TC.nC, bf_count _ _ _, b.count, rfl, rfl, hc, ?_⟩
      refine ⟨_, rfl, p, C, dx, _, _, rfl, eb1, TC.cl, TC.nC, bf_count _ _ _, _, _, rfl, rfl, dx, _, eb1, (show 3 < 1000 by decide), ?_⟩
      refine ⟨_, rfl, rfl, _, rfl, ite2 (fun e => absurd e (by decide)) (fun _ => ?_)⟩
      have m2 : GrowM p G H G1 (upd H1 p (.ins C dx (putF "count" (.int ((b.count : Nat) + 1 : Int)) (bf x1 x2 (b.count : Nat))))) := (GrowM.of g1).trans (GrowM.put g1.2.2.1 nb1)
      have eb2 : (upd H1 p (.ins C dx (putF "count" (.int ((b.count : Nat) + 1 : Int)) (bf x1 x2 (b.count : Nat))))) p = some (.ins C dx (bf x1 x2 (b.count + 1 : Nat))) := by rw [upd_same, bf_putC]; rfl
      generalize (upd H1 p (.ins C dx (putF "count" (.int ((b.count : Nat) + 1 : Int)) (bf x1 x2 (b.count : Nat))))) = H2 at m2 eb2 ⊢
      obtain ⟨a2, xs2, rfl, ha2, hp2⟩ := mono rr m2.g
      have rl2 := mono rl m2.g
      have hv2 := mono hv m2.g
      have sq2 : ∀ H', Same H2 H' → SqL K H' a2 xs2 := fun H' s => SqL.of (s _ _ (m2.s _ _ ha2))
      refine ⟨Nat.zero_le _, fun D7 n7 => ⟨Nat.zero_le _, fun D8 n8 => ⟨Nat.zero_le _, fun D9 n9 => ?_⟩⟩⟩
      have g7 := Grow.newH (o := .lst []) m2.s n7
      have g8 := g7.trans (Grow.newH (o := .lst []) g7.2.2.1 n8)
      have g9 := g8.trans (Grow.newH (o := .lst []) g8.2.2.1 n9)
      have n80 : H2 D8 = none := g7.2.1.free n8
      have n90 : H2 D9 = none := g8.2.1.free n9
      have d87 : D8 ≠ D7 := fun z => by rw [z, upd_same] at n8; cases n8
      have d98 : D9 ≠ D8 := fun z => by rw [z, upd_same] at n9; cases n9
      have d97 : D9 ≠ D7 := fun z => by rw [z, upd_ne d87.symm, upd_same] at n9; cases n9
      have dp7 : D7 ≠ p := fun z => by rw [z, eb2] at n7; cases n7
      have dp8 : D8 ≠ p := fun z => by rw [z, eb2] at n80; cases n80
      have dp9 : D9 ≠ p := fun z => by rw [z, eb2] at n90; cases n90
      obtain ⟨nb9, eb9⟩ := g9.out eb2 nb1
      have nr := ok.nr
      refine ⟨_, rfl, p, C, dx, _, _, rfl, eb9, TC.cl, TC.nR, bf_rays _ _ _, a2, rfl, ⟨_, sq2 _ g9.2.1⟩, for_it (walk_list (K := K) (a := a2) (xs := xs2)) (fun i σ H' => ∃ G' y5 y6 y10 y11 y12, Grow G1 H2 G' H' ∧ σ = [some (.ref p), some v, some (.bl ex), some .non, some (.int ((2 ^ b.count : Nat) : Int)), y5, y6, some (.ref D7), some (.ref D8), some (.ref D9), y10, y11, y12] ∧
        Acc RT G' H' D7 ((FM.posL c (b.rays.take i)).map (tri c)) ∧ Acc RT G' H' D8 ((FM.negL c (b.rays.take i)).map (tri c)) ∧ Acc RR G' H' D9 ((FM.zerL c (b.rays.take i)).map (FM.orBit b.count))) ?_ ?_ ?_ ?_⟩
      · refine ⟨G1, none, none, none, none, none, g9, rfl, ⟨[], ?_, m2.s.free n7, .nil⟩, ⟨[], ?_, m2.s.free n80, .nil⟩, ⟨[], upd_same, m2.s.free n90, .nil⟩⟩
        · rw [upd_ne d97.symm, upd_ne d87.symm, upd_same]
        · rw [upd_ne d98.symm, upd_same]
      · rintro i σ H' hi ⟨G', y5, y6, y10, y11, y12, g, rfl, ac7, ac8, ac9⟩
        exact sq2 _ g.2.1
      · rintro i x σ H' H'' hi ⟨G', y5, y6, y10, y11, y12, g, rfl, ac7, ac8, ac9⟩ ⟨rfl, hx⟩
        obtain ⟨r, hr', rr'⟩ := paired_get hp2 hx
        obtain ⟨rln, rsm, rdt⟩ := ok.rr r (List.mem_of_getElem? hr')
        obtain ⟨T2, w1, w2, rfl, hT2, q1, q2⟩ := mono rr' g.1
        cases q2
        have l7 : ((FM.posL c (b.rays.take i)).map (tri c)).length < 16000000 := by
          rw [List.length_map]
          exact Nat.lt_of_le_of_lt (filter_take_le _ _ _) nr
        have l8 : ((FM.negL c (b.rays.take i)).map (tri c)).length < 16000000 := by
          rw [List.length_map]
          exact Nat.lt_of_le_of_lt (filter_take_le _ _ _) nr
        have l9 : ((FM.zerL c (b.rays.take i)).map (FM.orBit b.count)).length < 16000000 := by
          rw [List.length_map]
          exact Nat.lt_of_le_of_lt (filter_take_le _ _ _) nr
        refine ⟨T2, _, rfl, SqT.of (g.2.2.1 _ _ hT2), rfl, _, _, rfl, _, _, rfl, rfl, ?_⟩
        refine ⟨_, rfl, _, rfl, G', v, w1, c, r.1, rfl, g.2.2.1, mono hv2 g.1, q1, by rw [ok.cl]; omega, ok.cs.mono (by omega), rsm.mono (by omega), fun G3 H3 g3 => ?_⟩
        have gg := g.trans g3
        have bc7 := ac7.grow g3
        have bc8 := ac8.grow g3
        have bc9 := ac9.grow g3
        have q1' := mono q1 g3.1
        refine ⟨_, rfl, rfl, _, rfl, ite2 (fun e => ?_) (fun e => ?_)⟩
        · have z0 : FM.dot c r.1 = 0 := V.int.inj (of_decide_eq_true e)
          refine ⟨_, rfl, bc9.ty, _, rfl, _, rfl, _, rfl, _, _, rfl, rfl, sz1 (n := 2) (by decide), fun T3 n3 => ?_⟩
          have gT := Grow.new (o := .tup [w1, .int ((r.2 ||| 2 ^ b.count : Nat) : Int)]) gg.2.2.1 n3
          obtain ⟨acc, ea, la, sn⟩ := (bc9.grow gT).app (gg.trans gT) n90 l9
          obtain ⟨h1, h2⟩ := sn (.ref T3) (FM.orBit b.count r) ⟨T3, w1, _, rfl, upd_same, mono q1' gT.1, rfl⟩
          refine ⟨D9, acc, _, rfl, rfl, ea, la, ?_⟩
          refine ⟨_, _, _, _, _, _, h1, rfl, ?_, ?_, ?_⟩
          · rw [pos_snoc c b.rays i r hr', if_neg (by omega), List.append_nil]
            exact (bc7.grow gT).frame (upd_ne d97.symm)
          · rw [neg_snoc c b.rays i r hr', if_neg (by omega), List.append_nil]
            exact (bc8.grow gT).frame (upd_ne d98.symm)
          · rw [zer_snoc c b.count b.rays i r hr', if_pos z0]
            exact h2
        · have z0 : ¬ FM.dot c r.1 = 0 := fun q => e (decide_eq_true (by rw [q]))
          refine ⟨_, rfl, _, _, rfl, rfl, _, rfl, ite2 (fun e2 => ?_) (fun e2 => ?_)⟩
          · have z1 : 0 < FM.dot c r.1 := of_decide_eq_true e2
            refine ⟨_, rfl, bc7.ty, _, rfl, _, rfl, _, rfl, sz1 (n := 3) (by decide), fun T3 n3 => ?_⟩
            have gT := Grow.new (o := .tup [w1, .int (r.2 : Nat), .int (FM.dot c r.1)]) gg.2.2.1 n3
            obtain ⟨acc, ea, la, sn⟩ := (bc7.grow gT).app (gg.trans gT) n7 l7
            obtain ⟨h1, h2⟩ := sn (.ref T3) (tri c r) ⟨T3, w1, _, _, rfl, upd_same, mono q1' gT.1, rfl, rfl⟩
            refine ⟨D7, acc, _, rfl, rfl, ea, la, ?_⟩
            refine ⟨_, _, _, _, _, _, h1, rfl, ?_, ?_, ?_⟩
            · rw [pos_snoc c b.rays i r hr', if_pos z1]
              exact h2
            · rw [neg_snoc c b.rays i r hr', if_neg (by omega), List.append_nil]
              exact (bc8.grow gT).frame (upd_ne d87)
            · rw [zer_snoc c b.count b.rays i r hr', if_neg z0, List.append_nil]
              exact (bc9.grow gT).frame (upd_ne d97)
          · have z1 : ¬ 0 < FM.dot c r.1 := fun q => e2 (decide_eq_true q)
            refine ⟨_, rfl, bc8.ty, _, rfl, _, rfl, _, rfl, sz1 (n := 3) (by decide), fun T3 n3 => ?_⟩
            have gT := Grow.new (o := .tup [w1, .int (r.2 : Nat), .int (FM.dot c r.1)]) gg.2.2.1 n3
            obtain ⟨acc, ea, la, sn⟩ := (bc8.grow gT).app (gg.trans gT) n80 l8
            obtain ⟨h1, h2⟩ := sn (.ref T3) (tri c r) ⟨T3, w1, _, _, rfl, upd_same, mono q1' gT.1, rfl, rfl⟩
            refine ⟨D8, acc, _, rfl, rfl, ea, la, ?_⟩
            refine ⟨_, _, _, _, _, _, h1, rfl, ?_, ?_, ?_⟩
            · rw [pos_snoc c b.rays i r hr', if_neg z1, List.append_nil]
              exact (bc7.grow gT).frame (upd_ne d87.symm)
            · rw [neg_snoc c b.rays i r hr', if_pos (by omega)]
              exact h2
            · rw [zer_snoc c b.count b.rays i r hr', if_neg z0, List.append_nil]
              exact (bc9.grow gT).frame (upd_ne d98)
      · rintro σ H' ⟨G', y5, y6, y10, y11, y12, g, rfl, ac7, ac8, ac9⟩
        rw [paired_len hp2, List.take_length] at ac7 ac8 ac9
        obtain ⟨nbL, ebL⟩ := g.out eb2 nb1
        obtain ⟨G5, g5, r7, s5, o5⟩ := ac7.took2 g n7
        obtain ⟨G6, g6, r8, s6, o6⟩ := (ac8.frame2 s5 (o5 D8 d87)).took2 g5 n80
        have bc9 := (ac9.frame2 s5 (o5 D9 d97)).frame2 s6 (o6 D9 d98)
        have nb6 : G6 p = none := by rw [o6 p dp8.symm, o5 p dp7.symm]; exact nbL
        have hbc : BAt C G6 H' p { lines := b.lines, rays := b.rays, count := b.count + 1 } := ⟨dx, x1, .ref a2, ebL, nb6, mono rl2 g6.1, ⟨a2, xs2, rfl, g6.1 _ _ ha2, monoP hp2 g6.1⟩⟩
        have hP : ∀ r ∈ FM.posL c b.rays, r.1.length = n ∧ Sm B r.1 ∧ (FM.dot c r.1).natAbs < 2 ^ B := fun r hr => ok.rr r (FM.mem_pos.mp hr).1
        have hN : ∀ r ∈ FM.negL c b.rays, r.1.length = n ∧ Sm B r.1 ∧ (FM.dot c r.1).natAbs < 2 ^ B := fun r hr => ok.rr r (FM.mem_neg.mp hr).1
        have elen : (FM.stepFlat c ex b).rays.length = (FM.zerL c b.rays).length + (if ex then [] else FM.posL c b.rays).length + (FM.joinedL c b.count b.rays (FM.posL c b.rays) (FM.negL c b.rays)).length := by
          simp [FM.stepFlat, Nat.add_assoc]
        have jlen : (FM.joinedL c b.count b.rays (FM.posL c b.rays) (FM.negL c b.rays)).length ≤ 16000000 := by omega
        refine ⟨_, rfl, p, dx, _, rfl, ebL, bf_no (by decide +kernel) (by decide +kernel) (by decide +kernel), _, rfl, _, rfl, _, rfl, G6, p, _, .ref D7, .ref D8, c, FM.posL c b.rays, FM.negL c b.rays, b.count, n, B, rfl, g6.2.2.1, hbc, mono r7 s6, r8, nn, bb, hP, hN, jlen, fun z G7 H7 g7' rz => ?_⟩
        have gg7 := g6.trans g7'
        obtain ⟨G8, g8', r9, s8, o8⟩ := (bc9.grow g7').took2 gg7 n90
        have nb8 : G8 p = none := by rw [o8 p dp9.symm]; exact (g7'.out ebL nb6).1
        have rz8 := mono rz s8
        have r78 := mono r7 ((s6.trans g7'.1).trans s8)
        dsimp only [gName]
        refine seq_of (a := tIfS _ _ _) (fun σ H3 => ∃ G3 D z5 z6 z12, Grow G1 H2 G3 H3 ∧ σ = [some (.ref p), some v, some (.bl ex), some .non, some (.int ((2 ^ b.count : Nat) : Int)), z5, z6, some (.ref D7), some (.ref D8), some (.ref D), y10, some z, z12] ∧ RRs G3 (.ref D) ((FM.zerL c b.rays).map (FM.orBit b.count) ++ (if ex then [] else FM.posL c b.rays)) ∧ RRs G3 z (FM.joinedL c b.count b.rays (FM.posL c b.rays) (FM.negL c b.rays))) ?_ ?_
        · rintro σ H3 ⟨G3, D, z5, z6, z12, g3, rfl, rk, rf⟩
          obtain ⟨nb3, eb3⟩ := g3.out eb2 nb1
          obtain ⟨Dk, k1, rfl', hk1, pk1⟩ := id rk
          cases rfl'
          obtain ⟨Df, f1, rfl, hf1, pf1⟩ := id rf
          have elk : k1.length + f1.length < 16000000 := by
            rw [paired_len pk1, paired_len pf1, List.length_append, List.length_map]
            omega
          refine ⟨_, rfl, _, rfl, D, Df, _, _, rfl, rfl, g3.2.2.1 _ _ hk1, g3.2.2.1 _ _ hf1, sz1 (by omega), fun D12 n12 => ?_⟩
          have gN := Grow.new (o := .lst (k1 ++ f1)) g3.2.2.1 n12
          obtain ⟨nb4, eb4⟩ := gN.out eb3 nb3
          refine ⟨_, rfl, p, C, dx, _, rfl, eb4, TC.cl, TC.nR, (show 3 < 1000 by decide), ?_⟩
          refine k _ _ ((m2.trans (GrowM.of (g3.trans gN))).trans (GrowM.put gN.2.2.1 nb4)) ⟨dx, x1, .ref D12, ?_, nb4, mono rl2 (g3.1.trans gN.1), ⟨D12, _, rfl, upd_same, monoP (paired_app pk1 pf1) gN.1⟩⟩
          rw [upd_same, bf_putR]
          rfl
        · intro X hX
          refine ⟨_, rfl, ex, rfl, ite2 (fun e => ?_) (fun e => ?_)⟩
          · have ef : ex = false := by cases ex with
              | true => exact absurd e (by decide)
              | false => rfl
            subst ef
            obtain ⟨D9', k9, rfl', hk9, pk9⟩ := id r9
            cases rfl'
            obtain ⟨D7', k7, rfl', hk7, pk7⟩ := id r78
            cases rfl'
            have sq7 : SqL K H7 D7 k7 := SqL.of (g8'.2.2.1 _ _ hk7)
            refine ⟨_, rfl, _, rfl, D7, rfl, ⟨_, sq7⟩, fun D hD => ?_⟩
            refine comp_list (E := RR) (Ea := RT) (fun _ => true) (fun t => (t.1, t.2.1)) g8'.2.2.1 hD sq7 pk7 ?_ ?_ ?_
            · rw [List.length_map]
              exact Nat.le_trans (List.length_filter_le _ _) (by omega)
            · intro y x G4 H4 hy s1 s2 hx CC j1 _
              obtain ⟨T2, w1, w2, w3, rfl, hT2, q1, q2, q3⟩ := hx
              refine ⟨T2, _, rfl, SqT.of (s2 _ _ hT2), rfl, _, _, rfl, _, _, rfl, _, _, rfl, rfl, rfl, _, rfl, _, rfl, sz1 (n := 2) (by decide), fun T3 nT3 => ?_⟩
              have gT := Grow.new (o := .tup [w1, w2]) s2 nT3
              exact j1 _ _ _ gT rfl ⟨T3, w1, w2, rfl, upd_same, mono q1 gT.1, mono q2 gT.1⟩
            · intro G9 H9 ys g9' n9' e9' p9'
              rw [all_true] at p9'
              have em : ((FM.posL c b.rays).map (tri c)).map (fun t => (t.1, t.2.1)) = FM.posL c b.rays := by
                rw [List.map_map]
                exact List.map_id _
              rw [em] at p9'
              have gg9 := g8'.trans g9'
              have hl9 : k9.length + ys.length ≤ 16000000 := by
                rw [paired_len pk9, paired_len p9', List.length_map]
                simp at elen
                omega
              refine ⟨D9, D, _, _, rfl, rfl, gg9.2.2.1 _ _ (g9'.1 _ _ hk9), e9', sz1 hl9, fun D10 n10 => ?_⟩
              have gN := Grow.new (o := .lst (k9 ++ ys)) gg9.2.2.1 n10
              refine hX _ _ ⟨_, D10, _, _, _, gg9.trans gN, rfl, ⟨D10, _, rfl, upd_same, ?_⟩, mono rz8 (g9'.1.trans gN.1)⟩
              exact monoP (paired_app (monoP pk9 g9'.1) p9') gN.1
          · have ef : ex = true := by cases ex with
              | true => rfl
              | false => exact absurd rfl e
            subst ef
            refine hX _ _ ⟨G8, D9, _, _, _, g8', rfl, ?_, rz8⟩
            simpa using r9
    · -- a line turns
      have ea : FM.addC b (c, ex) = FM.stepTurn c ex b i := by unfold FM.addC; rw [ht]
      rw [ea] at hlen k
      obtain ⟨dx', y1, y2, eb1, nb1, rl1, rr1⟩ := hb1
      obtain ⟨az, rfl, haz⟩ := rv_iff.mp rz
      refine ⟨_, rfl, p, C, dx', _, _, rfl, eb1, TC.cl, TC.nC, bf_count _ _ _, b.count, rfl, rfl, hc, ?_⟩
      refine ⟨_, rfl, p, C, dx', _, _, rfl, eb1, TC.cl, TC.nC, bf_count _ _ _, _, _, rfl, rfl, dx', _, eb1, (show 3 < 1000 by decide), ?_⟩
      refine ⟨_, rfl, rfl, _, rfl, ite2 (fun _ => ?_) (fun e => absurd rfl e)⟩
      have m2 : GrowM p G H G1 (upd H1 p (.ins C dx' (putF "count" (.int ((b.count : Nat) + 1 : Int)) (bf y1 y2 (b.count : Nat))))) := m1.trans (GrowM.put m1.s nb1)
      have eb2 : (upd H1 p (.ins C dx' (putF "count" (.int ((b.count : Nat) + 1 : Int)) (bf y1 y2 (b.count : Nat))))) p = some (.ins C dx' (bf y1 y2 (b.count + 1 : Nat))) := by rw [upd_same, bf_putC]; rfl
      obtain ⟨a2, xs2, rfl, ha2, hp2⟩ := rr1
      have sq2 : SqL K (upd H1 p (.ins C dx' (putF "count" (.int ((b.count : Nat) + 1 : Int)) (bf y1 (.ref a2) (b.count : Nat))))) a2 xs2 := SqL.of (m2.s _ _ ha2)
      refine ⟨_, rfl, p, C, dx', _, _, rfl, eb2, TC.cl, TC.nR, bf_rays _ _ _, a2, rfl, ⟨_, sq2⟩, fun D hD => ?_⟩
      refine comp_list (E := RR) (Ea := RR) (fun _ => true) (FM.orBit b.count) m2.s hD sq2 hp2 ?_ ?_ ?_
      · have e : (midTurn c b i).rays.length = b.rays.length := by simp [midTurn]
        have := ok.nr
        omega
      · intro y x G' H' hy s1 s2 hx CC j1 _
        obtain ⟨T2, w1, w2, rfl, hT2, q1, q2⟩ := hx
        cases q2
        refine ⟨T2, _, rfl, SqT.of (s2 _ _ hT2), rfl, _, _, rfl, _, _, rfl, rfl, rfl, _, rfl, _, rfl, _, rfl, _, _, rfl, rfl, sz1 (n := 2) (by decide), fun T3 nT3 => ?_⟩
        have gT := Grow.new (o := .tup [w1, .int ((y.2 ||| 2 ^ b.count : Nat) : Int)]) s2 nT3
        exact j1 _ _ _ gT rfl ⟨T3, w1, _, rfl, upd_same, mono q1 gT.1, rfl⟩
      · intro G8 H8 ys g8 n8 e8 p8
        rw [all_true] at p8
        obtain ⟨nb8, eb8⟩ := g8.out eb2 nb1
        refine ⟨_, rfl, p, C, dx', _, rfl, eb8, TC.cl, TC.nR, (show 3 < 1000 by decide), ?_⟩
        have m3 : GrowM p G H G8 (upd H8 p (.ins C dx' (putF "rays" (.ref D) (bf y1 (.ref a2) ((b.count + 1 : Nat) : Int))))) := (m2.trans (GrowM.of g8)).trans (GrowM.put g8.2.2.1 nb8)
        have eb9 : (upd H8 p (.ins C dx' (putF "rays" (.ref D) (bf y1 (.ref a2) ((b.count + 1 : Nat) : Int))))) p = some (.ins C dx' (bf y1 (.ref D) ((b.count + 1 : Nat) : Int))) := by rw [upd_same, bf_putR]
        have hD0 : H D = none := m2.fresh hD
        have dp : D ≠ p := ne_new hD eb2
        have e9 : (upd H8 p (.ins C dx' (putF "rays" (.ref D) (bf y1 (.ref a2) ((b.count + 1 : Nat) : Int))))) D = some (.lst ys) := by rw [upd_ne dp]; exact e8
        generalize (upd H8 p (.ins C dx' (putF "rays" (.ref D) (bf y1 (.ref a2) ((b.count + 1 : Nat) : Int))))) = H9 at m3 eb9 e9 ⊢
        refine ⟨_, rfl, ex, rfl, ite2 (fun e => ?_) (fun e => ?_)⟩
        · have ef : ex = false := by cases ex with
            | true => exact absurd e (by decide)
            | false => rfl
          subst ef
          refine ⟨_, rfl, p, C, dx', _, _, rfl, eb9, TC.cl, TC.nR, bf_rays _ _ _, .inl ⟨rfl, ys, SqL.of e9⟩, _, rfl, _, rfl, _, _, rfl, rfl, sz1 (n := 2) (by decide), fun T2 nT2 => ?_⟩
          have gT := Grow.new (o := .tup [.ref az, .int (((2 ^ b.count : Nat) : Int) - 1)]) m3.s nT2
          obtain ⟨n10, e10⟩ := gT.out e9 n8
          obtain ⟨nb10, eb10⟩ := gT.out eb9 nb8
          have lys : ys.length < 16000000 := by
            rw [paired_len p8, List.length_map]
            have e : (midTurn c b i).rays.length = b.rays.length := by simp [midTurn]
            have := ok.nr
            omega
          refine ⟨D, ys, _, rfl, rfl, e10, sz2 lys, ?_⟩
          have m4 := ((m3.trans (GrowM.of gT)).mutNew (o := .lst (ys ++ [.ref T2])) hD0 n10).took hD0 n10 upd_same
          have sT := (Grow.take (o := .lst (ys ++ [.ref T2])) (m3.trans (GrowM.of gT) |>.mutNew (o := .lst (ys ++ [.ref T2])) hD0 n10).s n10 upd_same).1
          refine k _ _ m4 ⟨dx', y1, .ref D, ?_, ?_, mono rl1 ((g8.1.trans gT.1).trans sT), ⟨D, _, rfl, upd_same, ?_⟩⟩
          · rw [upd_ne dp.symm]; exact eb10
          · rw [upd_ne dp.symm]; exact nb10
          · refine monoP (paired_app (monoP p8 gT.1) (paired_one ⟨T2, _, _, rfl, upd_same, mono rz (g8.1.trans gT.1), ?_⟩)) sT
            show V.int (((2 ^ b.count : Nat) : Int) - 1) = V.int ((2 ^ b.count - 1 : Nat) : Int)
            rw [pow_sub]
        · have ef : ex = true := by cases ex with
            | true => rfl
            | false => exact absurd rfl e
          subst ef
          have m4 := m3.took hD0 n8 e9
          have sT := (Grow.take m3.s n8 e9).1
          refine k _ _ m4 ⟨dx', y1, .ref D, eb9, ?_, mono rl1 (g8.1.trans sT), ⟨D, _, rfl, upd_same, ?_⟩⟩
          · rw [upd_ne dp.symm]; exact nb8
          · have e : (FM.stepTurn c true b i).rays = (midTurn c b i).rays.map (FM.orBit b.count) := by
              simp [FM.stepTurn, midTurn]
            rw [e]
            exact monoP p8 sT
end add
end
end FW
set_option Elab.async false
set_option linter.all false
set_option maxRecDepth 100000
set_option maxHeartbeats 4000000
/-! sorted: of lists of ints; by a key that is a lambda. -/
namespace FW
open PySem L2 PyProof.Rows PySem.Calls PySem.W
/-! ### rearranged -/
theorem paired_perm {A B : Type} {F : A → B → Prop} {out us : List B} (p : out.Perm us) : ∀ {xs : List A}, Paired F xs us → ∃ ys, ys.Perm xs ∧ Paired F ys out := by
  induction p with
  | nil => intro xs h; cases h; exact ⟨[], .nil, .nil⟩
  | cons x p ih =>
    intro xs h
    cases h with
    | cons r t =>
      obtain ⟨ys, h1, h2⟩ := ih t
      exact ⟨_, h1.cons _, .cons r h2⟩
  | swap x y l =>
    intro xs h
    cases h with
    | cons r t =>
      cases t with
      | cons r2 t2 => exact ⟨_, List.Perm.swap _ _ _, .cons r2 (.cons r t2)⟩
  | trans p q ih1 ih2 =>
    intro xs h
    obtain ⟨ys, h1, h2⟩ := ih2 h
    obtain ⟨zs, h3, h4⟩ := ih1 h2
    exact ⟨zs, h3.trans h1, h4⟩
theorem paired_swap {A B : Type} {F : A → B → Prop} : ∀ {l : List A} {m : List B}, Paired F l m → Paired (fun b a => F a b) m l
  | _, _, .nil => .nil
  | _, _, .cons r t => .cons r (paired_swap t)
/-- the things of a rearranged list -/
theorem paired_permL {A B : Type} {F : A → B → Prop} {ys xs : List A} {l : List B} (p : ys.Perm xs) (h : Paired F xs l) : ∃ m, m.Perm l ∧ Paired F ys m := by
  obtain ⟨m, h1, h2⟩ := paired_perm p (paired_swap h)
  exact ⟨m, h1, paired_swap h2⟩
theorem sortVals_perm {κ : KeyKind} {ks vs : List Value} (hl : ks.length = vs.length) : (sortVals κ false ks vs).Perm vs := by
  unfold sortVals
  have e : (ks.zip vs).map Prod.snd = vs := List.map_snd_zip (by omega)
  have p := (List.mergeSort_perm (ks.zip vs) (sortLe κ.toKeyOrd false fun p : Keyed => keyD κ p.1)).map Prod.snd
  rw [e] at p
  exact p
section
variable {X : Cx}
/-- sorted(xs), xs a list of lists of ints: a new list, the same things -/
def rSortedL (K : PySem.W.Frag) : List V → Hp → VK → Prop := fun vs H Q => ∃ (a : Addr) (xs : List V) (G : Hp) (l : List FM.Vec), vs = [.ref a] ∧ SqL K H a xs ∧ Same G H ∧ Paired (RV G) xs l ∧ ∀ ys p, ys.Perm xs → H p = none → Q (.ref p) (upd H p (.lst ys))
theorem alike_ints : ∀ l m : List Int, alikeAll (l.map PyData.int) (m.map PyData.int) = true
  | [], _ => by simp [alikeAll]
  | _ :: _, [] => by simp [alikeAll]
  | i :: l, j :: m => by simp [alikeAll, alike, alike_ints l m]
theorem each_of {pins : List (Addr × Obj)} {s : Shared} {σ : L2.St} {H G : Hp} {h' : Heap} (I : L2.Inv X pins σ H s) (hs : Same G H) (hk : ∀ b o, s.heap.get? b = some o → h'.get? b = some o) : ∀ {xs : List V} {us : List Value} {l : List FM.Vec}, Vals xs us → Paired (RV G) xs l →
    EachIs (fun v d => ∃ as, Reads h' v d as) us (l.map fun x => PyData.list (x.map PyData.int))
  | _, _, _, .nil, .nil => .nil
  | _, _, _, .cons r t, .cons q t2 => by
    refine .cons ?_ (each_of I hs hk t t2)
    obtain ⟨as, hr⟩ := Dp.reads I _ _ _ (dp_vec (K := X.K) q hs) r
    exact ⟨as, Reads.keeps hk hr⟩
theorem cr_sortedL (hu : X.A.units + 200 < cLine) : CallR X (.builtin "sorted") (rSortedL X.K) := by
  intro pins s σ H vs us Q I r h
  obtain ⟨a, xs, G, l, rfl, hs, hg, hp, q⟩ := h
  obtain ⟨its, rv, hl, hz⟩ := I.list hs
  obtain ⟨u, rfl, ru⟩ := vals1 r
  obtain rfl : u = Value.ref a := ru
  have kp : ∀ b o, s.heap.get? b = some o → (sortingHeap (copyHeap s.heap its) (s.heap.objs.size + 1) its).get? b = some o := fun b o e =>
    sortingHeap_old (Nat.ne_of_lt (Nat.lt_succ_of_lt (Heap.lt_size e))) (copyHeap_old e)
  have e := each_of I hg kp rv hp
  have S := SortsAt.data (prog := X.prog) (w := X.w) (A := X.A.in1.in1) (s := { s with heap := sortingHeap (copyHeap s.heap its) (s.heap.objs.size + 1) its }) e (fun d hd d' hd' => by
      obtain ⟨x, _, rfl⟩ := List.mem_map.mp hd
      obtain ⟨y, _, rfl⟩ := List.mem_map.mp hd'
      simp only [alike]
      exact alike_ints x y) (.inr fun d hd => by
      obtain ⟨x, _, rfl⟩ := List.mem_map.mp hd
      exact ⟨by simp, by simp⟩) (fun d hd => by
      obtain ⟨x, _, rfl⟩ := List.mem_map.mp hd
      have := dep_ints x
      simp only [PyData.depth]
      have e1 : X.A.in1.in1.units = X.A.units + 2 := rfl
      omega)
  refine sorted_vals hl.isList S (by rw [← rv.length]; exact hz) ?_
  obtain ⟨ys, p1, p2⟩ := paired_perm (sortVals_perm (κ := dataKind (sortingHeap (copyHeap s.heap its) (s.heap.objs.size + 1) its) (l.map fun x => PyData.list (x.map PyData.int))) (ks := its) (vs := its) rfl) rv
  obtain ⟨ep, he⟩ := sortedAll_at s.heap its (sortVals (dataKind (sortingHeap (copyHeap s.heap its) (s.heap.objs.size + 1) its) (l.map fun x => PyData.list (x.map PyData.int))) false its its).toArray
  exact ⟨.ref _, upd H (s.heap.objs.size + 1) (.lst ys), I.laid (t' := s.toks) (fun _ _ => sortedAll_old) (Nat.le_succ _) ⟨by rw [p1.length_eq]; exact hz, _, ep, p2, he⟩, rfl, q _ _ p1 (I.hok.fresh (Nat.le_succ _))⟩
end
end FW
set_option Elab.async false
set_option linter.all false
set_option maxRecDepth 100000
set_option maxHeartbeats 4000000
/-! sorted by a key that is a lambda: its calls may write what they make anew. -/
namespace FW
open PySem L2 PyProof.Rows PySem.Calls PySem.W
/-- the heap without the object at a -/
def gone (h : Heap) (a : Addr) : Heap := { h with objs := h.objs.setIfInBounds a ⟨.none, none, .freed, #[]⟩ }
theorem gone_self (h : Heap) (a : Addr) : (gone h a).get? a = none := by
  unfold gone Heap.get?
  by_cases q : a < h.objs.size
  · simp [q]
  · simp [q]
theorem gone_ne {h : Heap} {a b : Addr} (n : b ≠ a) : (gone h a).get? b = h.get? b := by
  unfold gone Heap.get?
  simp [Array.getElem?_setIfInBounds, Ne.symm n]
section
variable {X : Cx} {pins : List (Addr × Obj)} {σ : L2.St} {H : Hp} {s : Shared}
/-- what a call of the key does: the state is as it was, an int comes out -/
def KeyEnd (X : Cx) (pins : List (Addr × Obj)) (σ : L2.St) (H : Hp) (s : Shared) (u : Value) (s' : Shared) : Prop :=
  (∃ k t, u = .int k t) ∧ L2.Inv X pins σ H s' ∧ ∀ b o, s.heap.get? b = some o → H b = none → b ∉ frs X.stack → s'.heap.get? b = some o
theorem each_ints {h : Heap} : ∀ {us : List Value} {ns : List Int}, IntsAre us ns → EachIs (fun v d => ∃ as, Reads h v d as) us (ns.map PyData.int)
  | _, _, .nil => .nil
  | _, _, .cons n t r => .cons ⟨_, .int n t⟩ (each_ints r)
theorem sortLam {l f : Addr} {xs : List V} {vs : List Value} {Q : VK} {E : Value → Shared → Prop} (I : L2.Inv X pins σ H s) (hl : s.heap.IsList l vs.toArray) (rv : Vals xs vs) (hz : vs.length ≤ sizeLine) (hu : X.A.units + 200 < cLine)
    (turn : ∀ (v : Value) (s' : Shared), v ∈ vs → L2.Inv X pins σ H s' → (∀ b o, s.heap.get? b = some o → H b = none → b ∉ frs X.stack → s'.heap.get? b = some o) → wpAny (model X.prog X.w) X.A.in1.in1 (call (.ref f) [v]) (KeyEnd X pins σ H s') (fun _ _ => False) s')
    (done : ∀ ys p, ys.Perm xs → H p = none → Q (.ref p) (upd H p (.lst ys))) :
    wpAny (model X.prog X.w) X.A (call (.builtin "sorted") [.ref l] [(Str.ofString "key", .ref f)]) (EP X pins σ Q) E s := by
  refine sorted_of_sort hl hz (ksk_s1 _ _) (fun _ => ksk_l1 _ _) fun E' => ?_
  rw [ksk_t1]
  have ho := copyHeap_at s.heap vs
  generalize ea : s.heap.objs.size + 1 = a at ho ⊢
  generalize eh : copyHeap s.heap vs = h0 at ho ⊢
  have old0 : ∀ b o, s.heap.get? b = some o → h0.get? b = some o := fun b o e => by rw [← eh]; exact copyHeap_old e
  have sa : s.heap.objs.size ≤ a := by omega
  have ha : a < h0.objs.size := Heap.lt_size ho
  obtain ⟨e1, ho1⟩ : ∃ e1, (h0.update a (Obj.mapSeq fun _ => (#[] : Array Value))).get? a = some (seqObj "list" #[] e1) := ⟨_, get?_update_seq ho fun _ => #[]⟩
  have hkS : ((h0.update a (Obj.mapSeq fun _ => (#[] : Array Value))).push (seqObj "tuple" vs.toArray 0)).objs.size = h0.objs.size + 1 := by rw [size_push', Heap.size_update]
  unfold ksk_tree
  refine wpAny_bind (listItems_at ho rfl ?_)
  refine wpAny_bind (listUpdate_at ho rfl ?_ (by rw [List.size_toArray]; exact hz) (Nat.zero_le _))
  refine wpAny_bind (seqEpoch_at ho1 rfl ?_)
  refine wpAny_bind (wpAny_newTuple ?_ (by show vs.length ≤ _; exact hz))
  refine wpAny_bind (wpAny_newList ?_ (Nat.zero_le _))
  refine wpAny_holding ?_
  have nk1 : (sortingHeap h0 a vs).get? (h0.objs.size + 1) = some (seqObj "list" #[] 0) := by
    unfold sortingHeap
    rw [← hkS]
    exact Heap.get?_push_size _ rfl
  have na1 : (sortingHeap h0 a vs).get? a = some (seqObj "list" #[] e1) := by
    unfold sortingHeap
    exact Heap.get?_push_of_some _ (Heap.get?_push_of_some _ ho1)
  show wpAny _ _ (ksk_rest a (.ref f) false vs.toArray e1 (.ref ((h0.update a (Obj.mapSeq fun _ => (#[] : Array Value))).push (seqObj "tuple" vs.toArray 0)).objs.size)) _ _ { s with heap := sortingHeap h0 a vs }
  rw [hkS]
  have old1 : ∀ b o, s.heap.get? b = some o → (sortingHeap h0 a vs).get? b = some o := fun b o e => sortingHeap_old (Nat.ne_of_lt (Nat.lt_of_lt_of_le (Heap.lt_size e) sa)) (old0 b o e)
  generalize sortingHeap h0 a vs = h1 at nk1 na1 old1 ⊢
  have I1 : L2.Inv X pins σ H { s with heap := h1 } := I.kept (t' := s.toks) old1
  have hka : h0.objs.size + 1 ≠ a := Nat.ne_of_gt (Nat.lt_succ_of_lt ha)
  have sk : s.heap.objs.size ≤ h0.objs.size + 1 := by omega
  have fa : FpOk X pins H a := I.fpOk sa (I.hok.fresh sa)
  have fk : FpOk X pins H (h0.objs.size + 1) := I.fpOk sk (I.hok.fresh sk)
  have na : a ∉ frs X.stack := fun hb => by
    rcases List.mem_cons.mp (I.stkSub _ hb) with e | e
    · exact fa.2.1 e
    · exact fa.2.2.1 e
  have nk : h0.objs.size + 1 ∉ frs X.stack := fun hb => by
    rcases List.mem_cons.mp (I.stkSub _ hb) with e | e
    · exact fk.2.1 e
    · exact fk.2.2.1 e
  generalize h0.objs.size + 1 = kS at nk1 hka sk fk nk ⊢
  unfold ksk_rest
  refine wpAny_bind (wpAny_rule ?_)
  first
    | rw [List.forIn_toArray]
    | (rw [← Array.forIn_toList]; simp only [List.toList_toArray])
  refine wpAny_bind (ksk_fold (fun i s' => ∃ (kA : Array Value) (e : Nat) (kz : List Int), L2.Inv X pins σ H s' ∧ s'.heap.get? kS = some (seqObj "list" kA e) ∧ s'.heap.get? a = some (seqObj "list" #[] e1) ∧ IntsAre kA.toList kz ∧ kA.size = i ∧ ∀ b o, s.heap.get? b = some o → H b = none → b ∉ frs X.stack → s'.heap.get? b = some o) vs 0 { s with heap := h1 }
    ⟨#[], 0, [], I1, nk1, na1, .nil, rfl, fun b o e _ _ => old1 b o e⟩ ?step ?done)
  case step =>
    rintro j x s' hx ⟨kA, e, kz, I2, nk2, na2, hk, hsz, kp0⟩
    simp only [Nat.zero_add] at hsz ⊢
    have hj : j < vs.length := (List.getElem?_eq_some_iff.mp hx).1
    refine wpAny_bind (wpAny_attempt (wpAny_mono (turn x s' (List.mem_of_getElem? hx) I2 kp0) (fun v s'' he => ?_) fun _ _ hF => hF.elim))
    obtain ⟨⟨k, t, rfl⟩, I3, kp⟩ := he
    try dsimp only
    have nk3 := kp _ _ nk2 fk.1 nk
    have na3 := kp _ _ na2 fa.1 na
    have s1 := Heap.SameBut.update s''.heap kS (Obj.mapSeq (·.push (.int k t)))
    obtain ⟨c2, hc2⟩ : ∃ c2, (s''.heap.update kS (Obj.mapSeq (·.push (.int k t)))).get? kS = some (seqObj "list" (kA.push (.int k t)) c2) := ⟨_, get?_update_seq nk3 (·.push (.int k t))⟩
    refine wpAny_bind (listUpdate_at nk3 rfl ?_ (by omega) (by rw [Array.size_push]; omega))
    refine wpAny_pure ⟨rfl, kA.push (.int k t), c2, kz ++ [k], I3.turnedL (ch := [kS]) (t' := s''.toks) (fun b o hb e => (s1.2 b (by simpa using hb)).trans e) (fun b hb => by
      have : b = kS := by simpa using hb
      rw [this]; exact fk), hc2, (s1.2 a hka.symm).trans na3, ?_, by rw [Array.size_push, hsz], fun b o e1 e2 e3 => (s1.2 b (Nat.ne_of_lt (Nat.lt_of_lt_of_le (Heap.lt_size e1) sk))).trans (kp b o (kp0 b o e1 e2 e3) e2 e3)⟩
    rw [Array.toList_push]
    exact ksk_snoc hk
  case done =>
    rintro s' ⟨kA, e, kz, I2, nk2, na2, hk, hsz, kp0⟩
    try dsimp only
    refine wpAny_bind (listItems_at nk2 rfl ?_)
    have S := SortsAt.data (prog := X.prog) (w := X.w) (A := X.A.in1.in1) (s := s') (each_ints (h := s'.heap) hk) (fun d hd d' hd' => by
        obtain ⟨x, _, rfl⟩ := List.mem_map.mp hd
        obtain ⟨y, _, rfl⟩ := List.mem_map.mp hd'
        simp [alike]) (.inr fun d hd => by
        obtain ⟨x, _, rfl⟩ := List.mem_map.mp hd
        exact ⟨by simp, by simp⟩) (fun d hd => by
        obtain ⟨x, _, rfl⟩ := List.mem_map.mp hd
        simp only [PyData.depth]
        have e1 : X.A.in1.in1.units = X.A.units + 2 := rfl
        omega)
    have hsz : kA.size = vs.length := by omega
    have J1 : L2.Inv X pins σ H { s' with heap := gone s'.heap kS, toks := s'.toks } := I2.turnedL (ch := [kS]) (fun b o hb e => (gone_ne (by simpa using hb)).trans e) (fun b hb => by
      have : b = kS := by simpa using hb
      rw [this]; exact fk)
    refine keyH_end (h₁ := gone s'.heap kS) (fun b o hb e => ?_) (gone_self _ _) nk2 na2 hka S hsz hz fun h' tk c kp hD => ⟨rfl, ?_⟩
    · by_cases q : b = kS
      · rw [q, gone_self] at e; cases e
      · rw [gone_ne q] at e; exact e
    · obtain ⟨ys, p1, p2⟩ := paired_perm (sortVals_perm (κ := dataKind s'.heap (kz.map PyData.int)) (ks := kA.toList) (vs := vs) (by rw [Array.length_toList]; exact hsz)) rv
      exact ⟨.ref a, upd H a (.lst ys), J1.take (t' := tk) (fun b ob hb e => kp b ob hb e) fa ⟨by rw [p1.length_eq, rv.length]; exact hz, _, c, p2, hD⟩, rfl, done ys a p1 fa.1⟩
end
end FW
set_option Elab.async false
set_option linter.all false
set_option maxRecDepth 100000
set_option maxHeartbeats 4000000
/-! sorted(.., key=lambda ..) as a rule. -/
namespace FW
open PySem L2 PyProof.Rows PySem.Calls PySem.W LamX NdefX
abbrev lamF (q : Str) (params : Arguments) (scope : Scope) (cl : List (Str × Addr)) (c' : Addr) : NF := ⟨"<lambda>", q, params, [], scope, cl, c'⟩
def tSL (X : Cx) (P : Addr) (q : Str) (N2 : List Str) (js : List Nat) (te tb : TE) : TE := fun σ H Q => te σ H fun x H1 => ∃ l xs, x = .ref l ∧ TabS H1 P q ∧ (∀ H2, ExtN H1 H2 → SqL X.K H2 l xs) ∧
  (∀ H2, ExtN H1 H2 → ∀ y ∈ xs, tb (startF N2 [y] (js.map (slotAt σ))) H2 fun z H3 => (∃ k, z = .int k) ∧ H3 = H2) ∧ ∀ H2 ys p, ExtN H1 H2 → TabS H2 P q → ys.Perm xs → H2 p = none → Q (.ref p) (upd H2 p (.lst ys))
section
variable {X : Cx}
theorem vals_mem {xs : List V} {us : List Value} (r : Vals xs us) : ∀ {v : Value}, v ∈ us → ∃ y ∈ xs, RelV y v := by
  intro v hv
  obtain ⟨i, hi⟩ := List.mem_iff_getElem?.mp hv
  obtain ⟨y, h1, h2⟩ := paired_get' r hi
  exact ⟨y, List.mem_of_getElem? h1, h2⟩
theorem pe_sortedLam {c P : Addr} {k : Nat} {kn : Str} {N2 fr : List Str} {js : List Nat} {params : Arguments} {body : Expr} {xe : Str} {pe : Pos} {scope : Scope} {te tb : TE} {p lpos kpos pos : Pos}
    (hg : Gl X "sorted") (hm : X.mg "sorted" = none) (he : PE X (.Name xe pe) te) (TB : TabB X.base X.mg c P) (hcode : X.env.code = .ref c) (hr : Room (k + 3) X.A)
    (S : NScope N2 [kn] fr scope) (hfree : ∀ y ∈ scope.names, y.2 = .free → X.env.scope.names.lookup y.1 = some .cell ∨ X.env.scope.names.lookup y.1 = some .free) (hfr : ∀ y ∈ fr, (y, NameKind.free) ∈ scope.names) (hjs : js.map (fun j => X.N[j]?) = fr.map some)
    (hdef : defaultsOf params X.env = ([], [])) (hbind : ∀ (q : Str) (cl : List (Str × Addr)) (pm cv ctv u : Value), bindArgs (kla_fn "<lambda>" q params body scope cl pm cv ctv) ⟨[u], []⟩ = pure [(kn, u)])
    (hbody : ∀ (cl : List (Str × Addr)) (c' f : Addr) (A : Around) (outer : List Env) (s : Shared) (H : Hp) (E : XK), Room k (A.deeper (envF (lamF (X.env.qual ++ "<lambda>") params scope cl c') f s.heap.objs.size)) →
      PE (ncx CX0 X.prog X.w X.K X.mg X.base N2 (lamF (X.env.qual ++ "<lambda>") params scope cl c') f A outer s H E) body tb) :
    PE X (.Call (.Name "sorted" p) [.Name xe pe] [⟨some "key", .Lambda params body scope lpos, kpos⟩] pos) (tSL X P (X.env.qual ++ "<lambda>") N2 js te tb) := by
  refine ⟨fun pins s σ H Q I h => ?_⟩
  refine wpAny_Call_Name_kw (ld_blt I hg hm (show bootBuiltins ("sorted" : Str) = some (.builtin "sorted") by decide +kernel) ?_ (by decide) (by decide))
  refine PyProof.Rows.callWith_kw ?_
  show wpAny _ _ (spliced ((false, eval (.Name xe pe) X.env) :: backTo pos (starEach [] X.env))) _ _ s
  refine Calls.spliced_cons (thn (he.run pins s σ H _ I h) fun u s1 ⟨x, H1, I1, r1, l, xs, ex, hT, hsq, hkey, q⟩ => ?_)
  refine Calls.spliced_nil ?_
  subst ex
  obtain rfl : u = Value.ref l := r1
  show wpAny _ _ (evalAll ((do let v ← eval (.Lambda params body scope lpos) X.env; standAt pos; pure v) :: [])) _ _ s1
  have hf : ∀ y ∈ scope.names, y.2 = .free → ∃ c, X.env.cells.lookup y.1 = some c := fun y hy e => (hfree y hy e).elim (fun z => I1.ok.has _ (.inl z)) fun z => I1.ok.has _ (.inr z)
  refine wpAny_evalAll_cons (wpAny_bind (lam_make2 (T := [(P, X.env.qual ++ "<lambda>")]) I1 TB hcode (List.mem_singleton.mpr rfl) (fun p hp _ => by
    rw [List.mem_singleton.mp hp]) (fun p hp => by
    rw [List.mem_singleton.mp hp]; exact hT) hdef hf fun f c' pm ctv H2 s2 I2 eN T2 hfo hfn hfs hco => ?_))
  refine wpAny_bind (wpAny_standAt (wpAny_pure ?_))
  refine wpAny_evalAll_nil ?_
  have T2' : TabS H2 P (X.env.qual ++ "<lambda>") := T2 _ (List.mem_singleton.mpr rfl)
  obtain ⟨its, rv, hl, hz⟩ := I2.list (hsq H2 eN)
  show wpAny _ _ (call (.builtin "sorted") [.ref l] [(Str.ofString "key", .ref f)]) (EP X pins σ Q) X.xe s2
  refine sortLam I2 hl.isList rv (by rw [← rv.length]; exact hz) (by have := hr.un; omega) (fun v s' hv I' kp => ?_) (fun ys p' hp hn => q H2 ys p' eN T2' hp hn)
  obtain ⟨y, hy, ry⟩ := vals_mem rv hv
  have ho := kp _ _ hfo hfn hfs
  have hr2 : Room (k + 1) X.A.in1.in1 := (show Room (k + 2) X.A.in1 from Room.in1 hr).in1
  have e0 := I'.env0.in1.in1
  have C : CellsAt (cloFrom X.env.cells scope.names []) fr (js.map (slotAt σ)) s'.heap H2 := cells_of I' (Caps.made I'.ok hfree hfr hjs)
  have lim : s'.heap.NoLimit := e0.mod.nolimit.keeps fun b o e => (e0.bs b o e).1
  obtain ⟨⟨oc, vs, t, hoc, hdc, hvc⟩, _, _⟩ := I'.hok c' _ hco
  have rc : codeAny (model X.prog X.w) X.A.in1.in1 (.call (.ref f) ⟨[v], []⟩) (CR CX0 X.stack X.prog X.w H2 s' (fun z H3 => (∃ k, z = .int k) ∧ H3 = H2) E0) s' := by
    refine kla_callFunE hr2.depth ho rfl S.co S.gen rfl ⟨c', oc, vs, t, rfl, hoc, hdc, hvc⟩ ?_
    rw [hbind]
    refine wpAny_pure (wpAny_newFunctionEnv S.nocell (fun y hy => by
      rw [List.mem_singleton.mp hy]; exact S.par kn (List.mem_singleton.mpr rfl)) (fun h₁ hns hsb => ⟨lim.fresh _ hsb, ?_⟩) S.kind)
    show codeAny _ _ (.expr body (envF (lamF (X.env.qual ++ "<lambda>") params scope (cloFrom X.env.cells scope.names []) c') f s'.heap.objs.size)) _ _
    have kp1 : ∀ b o, s'.heap.get? b = some o → h₁.get? b = some o := fun b o e => hsb.extBut b o (Nat.ne_of_lt (Heap.lt_size e)) (Heap.get?_push_of_some _ e)
    have J := inv_startN (CX := CX0) (N := N2) (ps := [kn]) (fr := fr) (F := lamF (X.env.qual ++ "<lambda>") params scope (cloFrom X.env.cells scope.names []) c') (f := f) (E := E0) (tk := s'.toks + 1) (us := [v]) (vs := [y]) S hr2.hd e0 rfl (.cons ry .nil) C hns kp1
    refine kla_codeExpr (wpAny_mono ((hbody _ c' f X.A.in1.in1 X.stack s' H2 E0 (hr2.deeper _)).run [] _ _ H2 _ J (hkey H2 eN y hy)) (fun z s'' hq => ?_) fun e s' hq => hq)
    obtain ⟨w', H', J', rv', q'⟩ := hq
    exact ⟨w', H', J'.os, J'.bare, J'.base, J'.hok, rv', q'⟩
  refine wpAny_call (codeAny_mono rc fun r s'' hq => ?_)
  cases r with
  | error e => exact (show False from hq).elim
  | ok fl =>
    cases fl with
    | ret u =>
      obtain ⟨v2, H', os, bare, un, hok', rr, ⟨k2, ek⟩, eH⟩ := id hq
      subst ek
      subst eH
      obtain ⟨t2, e2⟩ := (show ∃ t, u = Value.int k2 t from rr)
      obtain ⟨v3, H3, I3, rr3, ⟨k3, ek3⟩, eH3⟩ := I'.after hq
      rw [eH3] at I3
      exact ⟨⟨k2, t2, e2⟩, I3, fun b o hb hn hnf => un.keep b o hb hn hnf (by simp)⟩
    | next => exact False.elim hq
    | brk => exact False.elim hq
    | cont => exact False.elim hq
end
end FW
set_option Elab.async false
set_option linter.all false
set_option maxRecDepth 100000
set_option maxHeartbeats 4000000
set_option exponentiation.threshold 100001
/-! echelon. -/
namespace FW
open PySem L2 LamX NdefX
def qE : Str := "echelon.<locals>.<lambda>"
/-- as Grow, but the table at Pt may grow -/
def GrowT (Pt : Addr) (G H G' H' : Hp) : Prop := Same G G' ∧ ExtN H H' ∧ Same G' H' ∧ (∀ b o, H b = some o → (∀ ps, o ≠ .tbl ps) → G b = none → G' b = none) ∧ (NT G → NT G') ∧ (TabS H Pt qE → TabS H' Pt qE)
theorem GrowT.of {Pt : Addr} {G H G' H' : Hp} (g : Grow G H G' H') : GrowT Pt G H G' H' :=
  ⟨g.1, ExtN.of g.2.1, g.2.2.1, fun b o e _ n => g.2.2.2.1 b (by rw [e]; exact fun z => nomatch z) n, g.2.2.2.2, fun t => t.ext g.2.1⟩
theorem GrowT.refl {Pt : Addr} {G H : Hp} (h : Same G H) : GrowT Pt G H G H := .of (Grow.refl h)
theorem GrowT.trans {Pt : Addr} {G H G1 H1 G2 H2 : Hp} (a : GrowT Pt G H G1 H1) (b : GrowT Pt G1 H1 G2 H2) : GrowT Pt G H G2 H2 :=
  ⟨a.1.trans b.1, a.2.1.trans b.2.1, b.2.2.1, fun c o e n z => b.2.2.2.1 c o (a.2.1 c o e n) n (a.2.2.2.1 c o e n z), fun n => b.2.2.2.2.1 (a.2.2.2.2.1 n), fun t => b.2.2.2.2.2 (a.2.2.2.2.2 t)⟩
theorem same_ext {G H H' : Hp} (s : Same G H) (n : NT G) (e : ExtN H H') : Same G H' := fun b u z => e b u (s b u z) fun ps q => n b ps (by rw [z, q])
theorem GrowT.sorted {Pt p : Addr} {G H G1 H1 H2 : Hp} {ys : List V} (g : Grow G H G1 H1) (nt : NT G) (e : ExtN H1 H2) (t : TabS H2 Pt qE) (n : H2 p = none) : GrowT Pt G H (upd G1 p (.lst ys)) (upd H2 p (.lst ys)) ∧ Same G1 (upd G1 p (.lst ys)) := by
  have s2 := same_ext g.2.2.1 (g.2.2.2.2 nt) e
  have gn := Grow.new (o := .lst ys) s2 n
  refine ⟨⟨g.1.trans gn.1, fun b o q z => gn.2.1 b o (e b o (g.2.1 b o q) z), gn.2.2.1, fun b o q z w => ?_, fun w => gn.2.2.2.2 (g.2.2.2.2 w), fun _ => t.ext gn.2.1⟩, gn.1⟩
  exact gn.2.2.2.1 b (by rw [e b o (g.2.1 b o q) z]; exact fun z => nomatch z) (g.out q w).1
theorem ech_snoc (rows : List FM.Vec) {i : Nat} {r : FM.Vec} (h : rows[i]? = some r) : FM.ech (rows.take (i + 1)) = FM.ech1 (FM.ech (rows.take i)) r := by
  unfold FM.ech
  rw [List.take_add_one, h, Option.toList_some, List.foldl_append]
  rfl
section
variable {P : Program} {w : World} {K : PySem.W.Frag} {mg : Str → Option Value} {base : Heap}
/-- echelon as a callee, its code object's table at Pt -/
def HereC (K : PySem.W.Frag) (mg : Str → Option Value) (x : Str) (st : Stmt) (cE : Addr) : Prop := ∃ (f : Addr) (fd : FuncData), Fun K x x st f fd ∧ mg x = some (.ref f) ∧ fd.code = .ref cE
theorem okFunC {x qual : Str} {st : Stmt} {f cE : Addr} {fd : FuncData} {N ps : List Str} {k : Nat} {sp : Sp} (F : Fun K x qual st f fd) (S : FnScope N ps (defScope st)) (hc : fd.code = .ref cE) (len : ∀ vs H Q E, sp vs H Q E → vs.length = ps.length)
    (hbody : ∀ (A : Around) (outer : List Env) (s : Shared) (H : Hp) (vs : List V) (Q : VK) (E : XK), Room k (A.deeper (PyProof.Rows.envOfC qual (defScope st) s.heap.objs.size f (.ref cE))) → sp vs H Q E →
      ∃ t, PSs (cxOf CX0 P w K mg base N qual (defScope st) f (.ref cE) A outer s H E).nox (defBody st) t ∧ t { nx := fun _ H' => Q .non H', rt := Q } (start N vs) H) : FnOk P w K mg base CX0 (k + 1) f fd ps sp := by
  obtain ⟨oc, od, kV, doc, pm, an, cdv, ct, osl, rfl, lk, hcd⟩ := F.ex
  obtain rfl : cdv = .ref cE := hc
  refine fn_of lk hcd S len fun A outer s H vs Q E hr hsp => ?_
  obtain ⟨t, h, q⟩ := hbody A outer s H vs Q E hr hsp
  exact ⟨t, h.nox, q⟩
theorem free_by {scope sc : Scope} (h : (scope.names.all fun y => !decide (y.2 = NameKind.free) || decide (sc.names.lookup y.1 = some .cell) || decide (sc.names.lookup y.1 = some .free)) = true) :
    ∀ y ∈ scope.names, y.2 = .free → sc.names.lookup y.1 = some .cell ∨ sc.names.lookup y.1 = some .free := fun y hy e => by
  have q := List.all_eq_true.mp h y hy
  simp only [Bool.or_eq_true, Bool.not_eq_true', decide_eq_true_eq, decide_eq_false_iff_not] at q
  rcases q with (q | q) | q
  · exact absurd e q
  · exact .inl q
  · exact .inr q
namespace echelon
abbrev st : Stmt := top 11
abbrev N : List Str := ["rows", "found", "row", "rest", "known", "column", "item", "size"]
theorem sc : FnScope N ["rows"] (defScope st) := ⟨rfl, rfl, rfl, by decide +kernel, rfl, by decide +kernel, by decide +kernel⟩
abbrev N2 : List Str := ["known", "size"]
def sp (Pt : Addr) : Sp := fun vs H Q _ => ∃ (G : Hp) (v : V) (rows : List FM.Vec) (n B : Nat), vs = [v] ∧ Same G H ∧ NT G ∧ TabS H Pt qE ∧ RM G v rows ∧ n ≤ 1000 ∧ rows.length ≤ 1000 ∧ (∀ r ∈ rows, r.length = n ∧ Sm B r) ∧ (∀ i, ∀ f ∈ FM.ech (rows.take i), Sm B f) ∧ 2 * B + 1 ≤ 9000 ∧ rows.length * (B + 1) ≤ 9000 ∧
  ∀ z G' H' F, GrowT Pt G H G' H' → F.Perm (FM.ech rows) → RM G' z F → Q z H'
theorem ok {Pt cE : Addr} (T : Txt mg) (h : HereC K mg "echelon" st cE) (TB : TabB base mg cE Pt) (c_primitive : Cal P w K mg base "primitive" 2 ["vector"] primitive.sp) (c_cleared : Cal P w K mg base "cleared" 3 ["vector", "row", "column"] cleared.sp) (c_pivot_of : Cal P w K mg base "pivot_of" 1 ["vector"] pivot_of.sp) :
    Cal P w K mg base "echelon" 5 ["rows"] (sp Pt) := by
  obtain ⟨f, fd, F, hm, hcE⟩ := h
  refine ⟨f, fd, ?_, hm, F.kp, F.binds fun _ _ _ _ _ _ us hl => match us, hl with | [_], _ => rfl⟩
  refine okFunC F sc hcE (fun vs H Q E h => ?_) (fun A outer s H vs Q E hr h => ?_)
  · obtain ⟨G, v, rows, n, B, rfl, _⟩ := h
    rfl
  · obtain ⟨G, v, rows, n, B, rfl, hs, hnt, htab, hv, hn, hrl, hR, hE, hB2, hBl, k⟩ := h
    refine ⟨_, (pss_cons (ps_set (i := 1) sc.nd rfl (Or.inl rfl) (pe_lst pa_nil))
      (pss_cons (ps_for PassesOwn.never rfl (pi_list (pv 0)) (pg_name (i := 2) sc.nd rfl (Or.inl rfl))
        (pss_cons (ps_set (i := 3) sc.nd rfl (Or.inr rfl) (pe_callTy call_list_of (by rfl) T.n_list (by decide +kernel) (pa_cons (pv 2) pa_nil)))
        (pss_cons (ps_for PassesOwn.never rfl (pi_list (pv 1)) (pg_name (i := 4) sc.nd rfl (Or.inl rfl))
          (pss_one (ps_set (i := 3) sc.nd rfl (Or.inr rfl) (pe_cal c_cleared (hr.mono (by decide)) (by rfl) (pa_cons (pv 3) (pa_cons (pv 4) (pa_cons (pe_cal c_pivot_of (hr.mono (by decide)) (by rfl) (pa_cons (pv 4) pa_nil)) pa_nil)))))))
        (pss_cons (ps_set (i := 5) sc.nd rfl (Or.inr rfl) (pe_cal c_pivot_of (hr.mono (by decide)) (by rfl) (pa_cons (pv 3) pa_nil)))
        (pss_one (ps_if (pt_cmpR op_notN (pv 5) pe_non (nomark _))
          (pss_cons (ps_set (i := 3) sc.nd rfl (Or.inr rfl) (pe_cal c_primitive (hr.mono (by decide)) (by rfl) (pa_cons (pv 3) pa_nil)))
          (pss_cons (ps_if (pt_cmpR op_lt (pe_ix ix_list (pv 3) (pv 5) (fun _ _ => rfl)) pe_int (nomark _))
            (pss_one (ps_set (i := 3) sc.nd rfl (Or.inr rfl) (pe_lc (own := [("item", 6)]) (g := gName 6) (tt := tYes) rfl sc.nd (pi_list (pv 3)) (blkOk_by (N := N) (sc := defScope st) (by decide +kernel)) (fun _ _ _ _ _ => (pg_name (i := 6) sc.nd rfl (Or.inl rfl))) (fun _ _ _ _ _ => pts_nil) (fun _ _ _ _ _ => (pe_un un_neg (pv 6))))))
            pss_nil)
          (pss_cons (ps_setLc (i := 1) (own := [("known", 4)]) (g := gName 4) (tt := tYes) rfl sc.nd rfl rfl (sw_true rfl rfl rfl (by decide +kernel)) (pi_list (pv 1)) (blkOk_by (N := N) (sc := defScope st) (by decide +kernel)) (fun _ _ _ _ _ => (pg_name (i := 4) sc.nd rfl (Or.inl rfl))) (fun _ _ _ _ _ => pts_nil) (fun _ _ _ _ _ => (pe_cal c_cleared (hr.mono (by decide)) (by rfl) (pa_cons (pv 4) (pa_cons (pv 3) (pa_cons (pv 5) pa_nil))))))
          (pss_one (ps_expr (pe_bm PySem.F.plainAttrs_list PySem.F.slot_list_append PySem.F.type_list_append mt_append (pv 1) (pa_cons (pv 3) pa_nil)))))))
          pss_nil))))))
      (pss_cons (ps_set (i := 7) sc.nd rfl (Or.inr rfl) (pe_ifExp (pt_truth (pv 1) (by intro _; rfl)) (pe_callB call_len_seq (by rfl) T.n_len PySem.boot_len (pa_cons (pe_ix ix_list (pv 1) pe_int (fun _ _ => rfl)) pa_nil)) pe_int))
      (pss_one (ps_ret (pe_sortedLam (k := 1) (kn := "known") (N2 := N2) (fr := ["size"]) (js := [7]) (by rfl) T.n_sorted (pv 1) TB rfl hr (nscope_by (by decide +kernel)) (free_by (sc := defScope st) (by decide +kernel)) (by decide +kernel) (by rfl) (by rfl) (fun _ _ _ _ _ _ => by rfl)
        (fun cl c' f A outer s H E hr2 => (pe_op op_mod (pe_op op_sub (pe_cal c_pivot_of (hr2.mono (by decide)) (by rfl) (pa_cons (pv 0) pa_nil)) pe_int) (pv 1))))))))), ?_⟩
    obtain ⟨a, xs, rfl, ha, hp⟩ := id hv
    have sq : ∀ H', Same H H' → SqL K H' a xs := fun H' s => SqL.of (s _ _ (hs _ _ ha))
    refine ⟨Nat.zero_le _, fun D0 n0 => ?_⟩
    have g0 := Grow.new (o := .lst []) hs n0
    refine ⟨_, rfl, a, rfl, ⟨_, sq _ g0.2.1⟩, for_it (walk_list (K := K) (a := a) (xs := xs)) (fun i σ H' => ∃ G' D y2 y3 y4 y5 y6, Grow G H G' H' ∧ σ = [some (.ref a), some (.ref D), y2, y3, y4, y5, y6, none] ∧ RM G' (.ref D) (FM.ech (rows.take i))) ?_ ?_ ?_ ?_⟩
    · exact ⟨_, D0, none, none, none, none, none, g0, rfl, ⟨D0, [], rfl, upd_same, .nil⟩⟩
    · rintro i σ H' hi ⟨G', D, y2, y3, y4, y5, y6, g, rfl, rF⟩
      exact sq _ g.2.1
    · rintro i x σ H' H'' hi ⟨G', D, y2, y3, y4, y5, y6, g, rfl, rF⟩ ⟨rfl, hx⟩
      obtain ⟨r, hr', rr⟩ := paired_get hp hx
      have rm := List.mem_of_getElem? hr'
      obtain ⟨rl, rs⟩ := hR r rm
      have iF : i < rows.length := (List.getElem?_eq_some_iff.mp hr').1
      obtain ⟨ar, rfl, har⟩ := rv_iff.mp (mono rr g.1)
      have eF := FM.ech_ok (s := n) (rows := rows.take i) fun r hr => (hR r (List.mem_of_mem_take hr)).1
      have bF := hE i
      have bN := hE (i + 1)
      rw [ech_snoc rows hr'] at bN
      generalize hFd : FM.ech (rows.take i) = F0 at rF eF bF bN
      obtain ⟨ei, _, fl⟩ := eF
      have fl2 : F0.length ≤ i := Nat.le_trans fl (by rw [List.length_take]; omega)
      obtain ⟨aD, fs, rfl', hfs, pF⟩ := id rF
      cases rfl'
      have sqF : ∀ H', Same G' H' → SqL K H' D fs := fun H' s => SqL.of (s _ _ hfs)
      have hb1 : F0.length * (B + 1) ≤ i * (B + 1) := Nat.mul_le_mul_right _ fl2
      have hb2 : (i + 1) * (B + 1) ≤ rows.length * (B + 1) := Nat.mul_le_mul_right _ iF
      have hb3 : (i + 1) * (B + 1) = i * (B + 1) + (B + 1) := Nat.succ_mul _ _
      refine ⟨_, rfl, ar, _, rfl, .inl (SqL.of (g.2.2.1 _ _ har)), fun p np => ?_⟩
      have g1 := g.trans (Grow.new (o := .lst (r.map V.int)) g.2.2.1 np)
      have s1 := (Grow.new (o := .lst (r.map V.int)) g.2.2.1 np).1
      refine ⟨_, rfl, D, rfl, ⟨_, sqF _ (s1.trans g1.2.2.1)⟩, for_it (walk_list (K := K) (a := D) (xs := fs)) (fun j σ H2 => ∃ G2 z z4, Grow G H G2 H2 ∧ Same G' G2 ∧ σ = [some (.ref a), some (.ref D), some (.ref ar), some z, z4, y5, y6, none] ∧ RV G2 z (FM.clrAll (F0.take j) r)) ?_ ?_ ?_ ?_⟩
      · exact ⟨_, .ref p, y4, g1, s1, rfl, rv_iff.mpr ⟨p, rfl, upd_same⟩⟩
      · rintro j σ H2 hj ⟨G2, z, z4, g2, s2, rfl, rz⟩
        exact sqF _ (s2.trans g2.2.2.1)
      · rintro j x' σ H2 H3 hj ⟨G2, z, z4, g2, s2, rfl, rz⟩ ⟨rfl, hx'⟩
        obtain ⟨f0, hf, rf⟩ := paired_get pF hx'
        have fm : f0 ∈ F0 := List.mem_of_getElem? hf
        have rf' := mono rf s2
        have lf := ei.len f0 fm
        have pv := (ei.pv f0 fm).1
        have lr : (FM.clrAll (F0.take j) r).length = n := reduced.clrAll_len _ _ (fun g hg => ei.len g (List.mem_of_mem_take hg)) rl
        have jF : j < F0.length := (List.getElem?_eq_some_iff.mp hf).1
        refine ⟨_, rfl, _, rfl, _, rfl, G2, x', f0, rfl, g2.2.2.1, rf', by omega, ?_⟩
        rw [FM.pivot_of pv]
        have hsm := reduced.clrAll_Sm (b := B) (F0.take j) r B rs fun g hg => bF g (List.mem_of_mem_take hg)
        refine ⟨G2, z, x', _, f0, FM.piv f0, _, B, rfl, g2.2.2.1, rz, rf', by omega, by omega, by rw [lr, ← lf]; exact pv.1, hsm, bF f0 fm, ?_, fun z3 G3 H4 g3 r3 => ?_⟩
        · rw [List.length_take, Nat.min_eq_left (by omega)]
          have h4 : (j + 1) * (B + 1) ≤ F0.length * (B + 1) := Nat.mul_le_mul_right _ jF
          have h5 : (j + 1) * (B + 1) = j * (B + 1) + (B + 1) := Nat.succ_mul _ _
          omega
        · refine ⟨G3, z3, _, g2.trans g3, s2.trans g3.1, rfl, ?_⟩
          rw [List.take_add_one, hf, Option.toList_some, reduced.clrAll_snoc]
          exact r3
      · rintro σ H2 ⟨G2, z, z4, g2, s2, rfl, rz⟩
        rw [paired_len pF, List.take_length] at rz
        have lr : (FM.clrAll F0 r).length = n := reduced.clrAll_len _ _ (fun g hg => ei.len g hg) rl
        have hsm := reduced.clrAll_Sm (b := B) F0 r B rs bF
        refine ⟨_, rfl, G2, z, _, rfl, g2.2.2.1, rz, by omega, ?_⟩
        unfold FM.ech1 at bN
        cases hpv : FM.pivot (FM.clrAll F0 r) with
        | none =>
          refine ⟨_, rfl, rfl, _, rfl, ite2 (fun e => absurd e (by decide)) (fun _ => ?_)⟩
          refine ⟨G2, D, _, _, _, _, _, g2, rfl, ?_⟩
          rw [ech_snoc rows hr', hFd]
          unfold FM.ech1
          rw [hpv]
          exact mono rF s2
        | some c =>
          rw [hpv] at bN
          have pc := FM.pivot_some hpv
          have cl : c < n := by rw [← lr]; exact pc.1
          refine ⟨_, rfl, rfl, _, rfl, ite2 (fun _ => ?_) (fun e => absurd rfl e)⟩
          refine ⟨_, rfl, G2, z, _, rfl, g2.2.2.1, rz, by omega, hsm.mono (by omega), fun z1 G3 H3 g3 r3 => ?_⟩
          have lp : (FM.prim (FM.clrAll F0 r)).length = n := by rw [FM.prim_len]; exact lr
          have g23 := g2.trans g3
          have s23 := s2.trans g3.1
          dsimp only [gName]
          refine seq_of (a := tIfS _ _ _) (fun σ H4 => ∃ G4 vl z4 z6, Grow G H G4 H4 ∧ Same G' G4 ∧ σ = [some (.ref a), some (.ref D), some (.ref ar), some vl, z4, some (.int (c : Nat)), z6, none] ∧ RV G4 vl (FM.sgn c (FM.prim (FM.clrAll F0 r)))) ?_ ?_
          · rintro σ H4 ⟨G4, vl, z4', z6, g4, s4, rfl, rvl⟩
            have bs : Sm B (FM.sgn c (FM.prim (FM.clrAll F0 r))) := bN _ (List.mem_append_right _ (List.mem_singleton.mpr rfl))
            have ls : (FM.sgn c (FM.prim (FM.clrAll F0 r))).length = n := by rw [FM.sgn_len]; exact lp
            refine ⟨_, rfl, D, rfl, ⟨_, sqF _ (s4.trans g4.2.2.1)⟩, fun D2 hD2 => ?_⟩
            refine comp_list (E := RV) (Ea := RV) (fun _ => true) (fun k => FM.clr k (FM.sgn c (FM.prim (FM.clrAll F0 r))) c) g4.2.2.1 hD2 (sqF _ (s4.trans g4.2.2.1)) (monoP pF s4) (by omega) ?_ ?_
            · intro y x G5 H5 hy t1 t2 hx CC j1 _
              have ly := ei.len y hy
              exact ⟨rfl, _, rfl, _, rfl, _, rfl, G5, x, vl, y, _, c, B, B, rfl, t2, hx, mono rvl t1, by omega, by omega, by omega, bF y hy, bs, by omega, fun z7 G7 H7 g7 r7 => j1 z7 G7 H7 g7 rfl r7⟩
            · intro G5 H5 ys g5 n5 e5 p5
              rw [all_true] at p5
              have lys : ys.length ≤ 1000 := by rw [paired_len p5, List.length_map]; omega
              refine ⟨_, rfl, .inl ⟨rfl, ys, SqL.of e5⟩, _, rfl, D2, ys, _, rfl, rfl, e5, sz2 (by omega), ?_⟩
              have g6 := (g5.mutNew (o := .lst (ys ++ [vl])) hD2 n5).took hD2 n5 upd_same
              have t6 := (Grow.take (o := .lst (ys ++ [vl])) (g5.mutNew (o := .lst (ys ++ [vl])) hD2 n5).2.2.1 n5 upd_same).1
              refine ⟨_, D2, _, _, _, _, _, g4.trans g6, rfl, ?_⟩
              rw [ech_snoc rows hr', hFd]
              unfold FM.ech1
              rw [hpv]
              exact ⟨D2, _, rfl, upd_same, monoP (paired_app p5 (paired_one (mono rvl g5.1))) t6⟩
          · intro X hX
            obtain ⟨a1, rfl, ha1⟩ := rv_iff.mp r3
            have sq1 : SqL K H3 a1 ((FM.prim (FM.clrAll F0 r)).map V.int) := SqL.of (g23.2.2.1 _ _ ha1)
            refine ⟨_, rfl, _, rfl, a1, _, _, _, rfl, rfl, sq1, at_int (by omega), _, _, rfl, rfl, _, rfl, ite2 (fun e => ?_) (fun e => ?_)⟩
            · have neg : FM.at0 (FM.prim (FM.clrAll F0 r)) c < 0 := of_decide_eq_true e
              refine ⟨_, rfl, a1, rfl, ⟨_, sq1⟩, fun D2 hD2 => ?_⟩
              refine comp_list (E := RI) (Ea := RI) (fun _ => true) (fun x => -x) g23.2.2.1 hD2 sq1 (ints_of G3 _) (by omega) ?_ ?_
              · intro y x G4 H4 hy t1 t2 hx CC j1 _
                cases hx
                exact ⟨rfl, _, rfl, _, rfl, j1 _ G4 H4 (Grow.refl t2) rfl rfl⟩
              · intro G4 H4 ys g4 n4 e4 p4
                obtain ⟨G5, g5, r5, _⟩ := took_list g4 hD2 n4 e4 p4
                rw [all_true] at r5
                refine hX _ _ ⟨G5, .ref D2, _, _, g23.trans g5, s23.trans g5.1, rfl, ?_⟩
                unfold FM.sgn
                rw [if_pos neg]
                exact r5
            · have neg : ¬ FM.at0 (FM.prim (FM.clrAll F0 r)) c < 0 := fun q => e (decide_eq_true q)
              refine hX _ _ ⟨G3, .ref a1, _, _, g23, s23, rfl, ?_⟩
              unfold FM.sgn
              rw [if_neg neg]
              exact r3
    · rintro σ H' ⟨G', D, y2, y3, y4, y5, y6, g, rfl, rF⟩
      rw [paired_len hp, List.take_length] at rF
      have eF := FM.ech_ok (s := n) (rows := rows) fun r hr => (hR r hr).1
      obtain ⟨aD, fs, rfl', hfs, pF⟩ := id rF
      cases rfl'
      have sqF : SqL K H' D fs := SqL.of (g.2.2.1 _ _ hfs)
      have nt' := g.2.2.2.2 hnt
      have hn' := hn
      have fin : ∀ (m : Nat) (y : Option V), (fs ≠ [] → 0 < m) → tRet (tSL (cxOf CX0 P w K mg base N "echelon" (defScope st) f (.ref cE) A outer s H E).nox Pt qE N2 [7] (tVar 1) (tOp (rI (fun _ j => 0 < j) fun i j => .int (i % j)) (tOp (rI0 fun i j => .int (i - j)) (tCall pivot_of.sp [] E0 (tCons (tVar 0) tNil)) (tC (.int 1))) (tVar 1)))
          { nx := fun _ H' => Q .non H', rt := Q } [some (.ref a), some (.ref D), y2, y3, y4, y5, y6, some (.int (m : Nat))] H' := fun m y hm => by
        refine ⟨_, rfl, D, fs, rfl, htab.ext g.2.1, fun H2 e => SqL.of (same_ext g.2.2.1 nt' e _ _ hfs), fun H2 e y hy => ?_, fun H2 ys p e t2 hp hn => ?_⟩
        · obtain ⟨j, hj⟩ := List.mem_iff_getElem?.mp hy
          obtain ⟨f0, hf0, rf0⟩ := paired_get pF hj
          have fm : f0 ∈ FM.ech rows := List.mem_of_getElem? hf0
          have pv := (eF.1.pv f0 fm).1
          refine ⟨_, rfl, G', y, f0, rfl, same_ext g.2.2.1 nt' e, rf0, by rw [eF.1.len f0 fm]; exact hn', ?_⟩
          rw [FM.pivot_of pv]
          exact ⟨_, _, rfl, rfl, _, rfl, _, _, rfl, rfl, Int.natCast_pos.mpr (hm fun z => by rw [z] at hy; simp at hy), ⟨_, rfl⟩, rfl⟩
        · obtain ⟨F', q1, q2⟩ := paired_permL hp pF
          obtain ⟨gt, s1⟩ := GrowT.sorted g hnt e t2 hn
          exact k _ _ _ F' gt q1 ⟨p, ys, rfl, upd_same, monoP q2 s1⟩
      refine ⟨_, rfl, _, .inl ⟨fs, sqF, rfl⟩, ite2 (fun e => ?_) (fun e => ?_)⟩
      · cases fs with
        | nil => exact absurd e (by decide)
        | cons v0 fs' =>
          obtain ⟨f0, hf0, rf0⟩ := paired_get pF (i := 0) (x := v0) rfl
          have fm : f0 ∈ FM.ech rows := List.mem_of_getElem? hf0
          obtain ⟨a0, rfl, ha0⟩ := rv_iff.mp rf0
          refine ⟨_, rfl, D, _, 0, _, rfl, rfl, sqF, atI_nat (xs := V.ref a0 :: fs') (j := 0) rfl, a0, _, rfl, .inl (SqL.of (g.2.2.1 _ _ ha0)), ?_⟩
          refine fin _ none fun _ => ?_
          rw [List.length_map]
          exact Nat.lt_of_le_of_lt (Nat.zero_le _) (eF.1.pv f0 fm).1.1
      · have e0 : fs = [] := by
          cases fs with
          | nil => rfl
          | cons v0 fs' => exact absurd rfl e
        exact fin 0 none fun z => absurd e0 z
end echelon
end
end FW
set_option Elab.async false
set_option linter.all false
set_option maxRecDepth 100000
set_option maxHeartbeats 4000000
set_option exponentiation.threshold 100001
/-! dual. -/
namespace FW
open PySem L2 LamX
theorem room_u200 {k : Nat} {A : Around} (r : Room k A) : A.units + 200 < cLine := by have := r.un; omega
theorem room_u65 {k : Nat} {A : Around} (r : Room k A) : A.units + 65 < cLine := by have := r.un; omega
/-- entries at most 2 ^ c -/
def Le (c : Nat) (l : FM.Vec) : Prop := ∀ x ∈ l, x.natAbs ≤ 2 ^ c
theorem Le.sm {c d : Nat} {l : FM.Vec} (h : Le c l) (q : c < d) : Sm d l := fun x hx => Nat.lt_of_le_of_lt (h x hx) (Nat.pow_lt_pow_right (by decide) q)
theorem le_sg {s c : Nat} (hs : s ≤ 4) {l : FM.Vec} (h : ∀ y ∈ l, y.natAbs ≤ FM.Sg s (2 ^ c)) : Le (7 * c + 7) l := fun y hy => Nat.le_trans (h y hy) (FM.Sg_le hs)
theorem dot_Le {a b n : Nat} {c l : FM.Vec} (hc : Le a c) (hl : Le b l) (ln : l.length = n) (hn : n ≤ 4) : (FM.dot c l).natAbs < 2 ^ (a + b + 3) := by
  have h := FM.dot_le hc hl
  rw [← Nat.pow_add, ln] at h
  have h2 : n * 2 ^ (a + b) ≤ 4 * 2 ^ (a + b) := Nat.mul_le_mul_right _ hn
  have h3 : 2 ^ (a + b + 3) = 8 * 2 ^ (a + b) := by rw [Nat.pow_add, Nat.mul_comm]
  have h4 : 0 < 2 ^ (a + b) := Nat.two_pow_pos _
  omega
theorem okc_of {s c0 : Nat} {A : List FM.Con} {b : FM.Bst} {c : FM.Vec} (h : FM.BI s A b) (hs : s ≤ 4) (hA : ∀ d ∈ A, Le c0 d.1) (hc : c.length = s) (hcl : Le c0 c) (hc0 : c0 ≤ 301) (hn : A.length ≤ 132) : Okc s (8 * c0 + 10) c b := by
  obtain ⟨D, e, i⟩ := h.inv
  have hC : 1 ≤ 2 ^ c0 := Nat.one_le_two_pow
  refine ⟨by omega, by omega, hc, hcl.sm (by omega), fun l hl => ?_, fun r hr => ?_, Nat.le_trans h.few (by omega), ?_⟩
  · have q := le_sg hs (h.boundL hC hA l hl)
    have ll := h.lenL l hl
    have := dot_Le hcl q ll hs
    exact ⟨ll, q.sm (by omega), Nat.lt_of_lt_of_le this (Nat.pow_le_pow_right (by decide) (by omega))⟩
  · have q := le_sg hs (h.boundR hC hA r hr)
    have ll := h.lenR r hr
    have := dot_Le hcl q ll hs
    exact ⟨ll, q.sm (by omega), Nat.lt_of_lt_of_le this (Nat.pow_le_pow_right (by decide) (by omega))⟩
  · have q := i.many3 hs
    have q2 : (A.length + 1) * (A.length + 1) * (A.length + 1) ≤ 133 * 133 * 133 := Nat.mul_le_mul (Nat.mul_le_mul (by omega) (by omega)) (by omega)
    omega
theorem rays_few {s : Nat} {A : List FM.Con} {b : FM.Bst} (h : FM.BI s A b) (hs : s ≤ 4) (hn : A.length ≤ 132) : b.rays.length < 16000000 := by
  obtain ⟨D, e, i⟩ := h.inv
  have q := i.many3 hs
  have q2 : (A.length + 1) * (A.length + 1) * (A.length + 1) ≤ 133 * 133 * 133 := Nat.mul_le_mul (Nat.mul_le_mul (by omega) (by omega)) (by omega)
  omega
theorem dedup_snoc (xs : List FM.Vec) (x : FM.Vec) : FM.dedup (xs ++ [x]) = if x ∈ FM.dedup xs then FM.dedup xs else FM.dedup xs ++ [x] := by
  unfold FM.dedup
  rw [List.foldl_append]
  rfl
theorem dedup_le : ∀ (xs acc : List FM.Vec), (xs.foldl (fun acc x => if x ∈ acc then acc else acc ++ [x]) acc).length ≤ acc.length + xs.length
  | [], acc => by simp
  | x :: xs, acc => by
    rw [List.foldl_cons]
    have := dedup_le xs (if x ∈ acc then acc else acc ++ [x])
    split at this
    · rw [if_pos (by assumption)]; simp only [List.length_cons]; omega
    · rw [if_neg (by assumption)]; simp only [List.length_append, List.length_cons, List.length_nil] at this ⊢; omega
theorem dp_rows {K : PySem.W.Frag} {G H : Hp} (s : Same G H) : ∀ {xs : List V} {l : List FM.Vec}, Paired (RV G) xs l → DpAll K H xs (l.map fun v => PyData.list (v.map PyData.int))
  | _, _, .nil => .nil
  | _, _, .cons r t => .cons (dp_vec r s) (dp_rows s t)
theorem lay_rows : ∀ l : List FM.Vec, PyData.canLayAll0 (l.map fun v => PyData.list (v.map PyData.int)) = true
  | [] => by simp [PyData.canLayAll0]
  | v :: l => by simp [PyData.canLayAll0, PyData.canLay0, lay_ints v, lay_rows l]
theorem dep_rows : ∀ l : List FM.Vec, PyData.depthAll (l.map fun v => PyData.list (v.map PyData.int)) ≤ 2
  | [] => by simp [PyData.depthAll]
  | v :: l => by
    have h1 := dep_rows l
    have h2 := dep_ints v
    simp only [List.map_cons, PyData.depthAll, PyData.depth]
    omega
theorem shaped_rows (l : List FM.Vec) : SeqAt.shaped (.list (l.map fun v => PyData.list (v.map PyData.int))) = true := by
  have := dep_rows l
  have h2 : PyData.depth (.list (l.map fun v => PyData.list (v.map PyData.int))) ≤ 64 := by
    simp only [PyData.depth]
    omega
  show (PyData.canLay0 (.list (l.map fun v => PyData.list (v.map PyData.int))) && decide (PyData.depth (.list (l.map fun v => PyData.list (v.map PyData.int))) ≤ 64)) = true
  rw [Bool.and_eq_true]
  exact ⟨by simp only [PyData.canLay0]; exact lay_rows l, decide_eq_true h2⟩
theorem any_rows (l : List FM.Vec) (x : FM.Vec) : ((l.map fun v => PyData.list (v.map PyData.int)).any fun z => PyData.eqv z (.list (x.map PyData.int))) = decide (x ∈ l) := by
  rw [List.any_map]
  have e : ((fun z => PyData.eqv z (PyData.list (List.map PyData.int x))) ∘ fun v : FM.Vec => PyData.list (List.map PyData.int v)) = fun v => decide (v = x) := by
    funext v
    exact eqv_vec v x
  rw [e]
  induction l with
  | nil => simp
  | cons v l ih =>
    rw [List.any_cons, ih]
    by_cases h : v = x
    · simp [h]
    · have : ¬ x = v := fun q => h q.symm
      simp [h, this]
theorem GrowM.toGrow {p dx : Addr} {o o2 : HO} {G H G' H' : Hp} (np : H p = none) (nd : H dx = none) (m : GrowM p G (upd (upd H dx o2) p o) G' H') : Grow G H G' H' := by
  have up : ∀ b u, H b = some u → (upd (upd H dx o2) p o) b = some u := fun b u e => by
    rw [upd_ne (ne_of_none e np), upd_ne (ne_of_none e nd)]
    exact e
  refine ⟨m.g, fun b u e => m.h b u (ne_of_none e np) (up b u e), m.s, fun b h e => m.n b ?_ e, m.t⟩
  cases q : H b with
  | none => exact absurd q h
  | some u => rw [up b u q]; exact fun z => nomatch z
section
variable {P : Program} {w : World} {K : PySem.W.Frag} {mg : Str → Option Value} {base : Heap} {C : Addr}
/-! ### dual -/
namespace dual
abbrev st : Stmt := top 15
abbrev N : List Str := ["equations", "conditions", "size", "builder", "equation", "condition", "lines", "rays", "ray", "_"]
theorem sc : FnScope N ["equations", "conditions", "size"] (defScope st) := ⟨rfl, rfl, rfl, by decide +kernel, rfl, by decide +kernel, by decide +kernel⟩
def sp (Pt : Addr) : Sp := fun vs H Q _ => ∃ (G : Hp) (u v : V) (es cs : List FM.Vec) (s c0 : Nat), vs = [u, v, .int (s : Nat)] ∧ Same G H ∧ NT G ∧ TabS H Pt qE ∧ RM G u es ∧ RM G v cs ∧ s ≤ 4 ∧ es.length + cs.length ≤ 132 ∧ c0 ≤ 301 ∧ (∀ e ∈ es, e.length = s ∧ Le c0 e) ∧ (∀ e ∈ cs, e.length = s ∧ Le c0 e) ∧
  ∀ z G' H' L R, GrowT Pt G H G' H' → FM.DP s (FM.cons es cs) L R → RP RM RM G' z (L, R) → Q z H'
theorem ok {Pt : Addr} (T : Txt mg) (TC : CTxt K C) (hB : mg "Builder" = some (.ref C)) (h : Here K mg "dual" st) (c_init : Kcal P w K mg base C 1 ["self", "size"] (init.sp C)) (c_add : Mcal P w K mg base C "add" 4 ["self", "condition", "exact"] (add.sp C))
    (c_echelon : Cal P w K mg base "echelon" 5 ["rows"] (echelon.sp Pt)) (c_reduced : Cal P w K mg base "reduced" 4 ["vector", "rows"] reduced.sp) : Cal P w K mg base "dual" 6 ["equations", "conditions", "size"] (sp Pt) := by
  refine h.cal (fun _ _ _ _ _ _ us hl => match us, hl with | [_, _, _], _ => rfl) fun f fd F => ?_
  refine F.ok sc (fun vs H Q E h => ?_) (fun cdv A outer s H vs Q E hr h => ?_)
  · obtain ⟨G, u, v, es, cs, s, c0, rfl, _⟩ := h
    rfl
  · obtain ⟨G, u, v, es, cs, sz, c0, rfl, hs, hnt, htab, hu, hv, hs4, hcnt, hc0, hes, hcs, k⟩ := h
    refine ⟨_, (pss_cons (ps_set (i := 3) sc.nd rfl (Or.inl rfl) (pe_kcal c_init (hr.mono (by decide)) (by rfl) hB (pa_cons (pv 2) pa_nil)))
      (pss_cons (ps_for PassesOwn.never rfl (pi_list (pv 0)) (pg_name (i := 4) sc.nd rfl (Or.inl rfl))
        (pss_one (ps_expr (pe_mcal c_add TC.cl (hr.mono (by decide)) (pv 3) (pa_cons (pv 4) (pa_cons pe_bl pa_nil))))))
      (pss_cons (ps_for PassesOwn.never rfl (pi_list (pv 1)) (pg_name (i := 5) sc.nd rfl (Or.inl rfl))
        (pss_one (ps_expr (pe_mcal c_add TC.cl (hr.mono (by decide)) (pv 3) (pa_cons (pv 5) (pa_cons pe_bl pa_nil))))))
      (pss_cons (ps_set (i := 6) sc.nd rfl (Or.inl rfl) (pe_cal c_echelon (hr.mono (by decide)) (by rfl) (pa_cons (pe_fld (pv 3) rfl) pa_nil)))
      (pss_cons (ps_set (i := 7) sc.nd rfl (Or.inl rfl) (pe_lst pa_nil))
      (pss_cons (ps_for PassesOwn.never rfl (pi_list (pe_fld (pv 3) rfl)) (pg_tup rfl (pgs_cons (pg_name (i := 8) sc.nd rfl (Or.inl rfl)) (pgs_cons (pg_name (i := 9) sc.nd rfl (Or.inl rfl)) pgs_nil)))
        (pss_cons (ps_set (i := 8) sc.nd rfl (Or.inl rfl) (pe_cal c_reduced (hr.mono (by decide)) (by rfl) (pa_cons (pv 8) (pa_cons (pv 6) pa_nil))))
        (pss_one (ps_if (pt_cmpR (op_notInD (room_u65 hr)) (pv 8) (pv 7) (by rfl))
          (pss_one (ps_expr (pe_bm PySem.F.plainAttrs_list PySem.F.slot_list_append PySem.F.type_list_append mt_append (pv 7) (pa_cons (pv 8) pa_nil))))
          pss_nil))))
      (pss_one (ps_ret (pe_tup (pa_cons (pv 6) (pa_cons (pe_callB (cr_sortedL (room_u200 hr)) (by rfl) T.n_sorted (by decide +kernel) (pa_cons (pv 7) pa_nil)) pa_nil))))))))))), ?_⟩
    obtain ⟨a1, xs1, rfl, ha1, hp1⟩ := id hu
    obtain ⟨a2, xs2, rfl, ha2, hp2⟩ := id hv
    refine ⟨_, rfl, fun p dx np nd nep => ?_⟩
    have sm : Same G (upd (upd H dx (.own p)) p (.ins C dx [])) := fun b u e => by
      rw [upd_ne (ne_of_none (hs b u e) np), upd_ne (ne_of_none (hs b u e) nd)]
      exact hs b u e
    have gp : G p = none := hs.free np
    refine ⟨G, p, dx, sz, rfl, sm, upd_same, gp, by omega, fun G0 H0 m0 hb0 => ⟨rfl, ?_⟩⟩
    have q1 : ∀ G' H', GrowM p G (upd (upd H dx (.own p)) p (.ins C dx [])) G' H' → SqL K H' a1 xs1 := fun G' H' m => SqL.of (m.s _ _ (m.g _ _ ha1))
    have q2 : ∀ G' H', GrowM p G (upd (upd H dx (.own p)) p (.ins C dx [])) G' H' → SqL K H' a2 xs2 := fun G' H' m => SqL.of (m.s _ _ (m.g _ _ ha2))
    generalize hHm : upd (upd H dx (.own p)) p (.ins C dx []) = Hm at m0 q1 q2
    refine ⟨_, rfl, a1, rfl, ⟨_, q1 _ _ m0⟩, for_it (walk_list (K := K) (a := a1) (xs := xs1)) (fun i σ H' => ∃ G' b y4, GrowM p G Hm G' H' ∧ σ = [some (.ref a1), some (.ref a2), some (.int (sz : Nat)), some (.ref p), y4, none, none, none, none, none] ∧ FM.BI sz ((es.take i).map fun v => (v, true)) b ∧ BAt C G' H' p b) ?_ ?_ ?_ ?_⟩
    · exact ⟨G0, FM.start sz, none, m0, rfl, FM.BI.start sz, hb0⟩
    · rintro i σ H' hi ⟨G', b, y4, m, rfl, bi, hb⟩
      exact q1 _ _ m
    · rintro i x σ H' H'' hi ⟨G', b, y4, m, rfl, bi, hb⟩ ⟨rfl, hx⟩
      obtain ⟨e, he, re⟩ := paired_get hp1 hx
      obtain ⟨el, ele⟩ := hes e (List.mem_of_getElem? he)
      have ii := (List.getElem?_eq_some_iff.mp he).1
      have hl : ((es.take i).map fun v => ((v, true) : FM.Con)).length ≤ 131 := by
        rw [List.length_map, List.length_take]; omega
      have hA : ∀ d ∈ (es.take i).map fun v => ((v, true) : FM.Con), Le c0 d.1 := fun d hd => by
        obtain ⟨v, hv, rfl⟩ := List.mem_map.mp hd
        exact (hes v (List.mem_of_mem_take hv)).2
      have bi' := bi.add (c := (e, true)) el
      obtain ⟨dx', x1, x2, eb, nb, r1, r2⟩ := id hb
      refine ⟨_, rfl, p, dx', _, rfl, eb, bf_no (by decide +kernel) (by decide +kernel) (by decide +kernel), _, rfl, G', p, x, b, e, true, sz, 8 * c0 + 10, rfl, m.s, hb, mono re m.g, okc_of bi hs4 hA el ele hc0 (by omega), by rw [bi.count]; omega, rays_few bi' hs4 (by rw [List.length_append, List.length_singleton]; omega), fun G2 H2 m2 hb2 => ?_⟩
      refine ⟨G2, _, some x, m.trans m2, rfl, ?_, hb2⟩
      rw [List.take_add_one, he, Option.toList_some, List.map_append]
      exact bi'
    · rintro σ H' ⟨G', b, y4, m, rfl, bi, hb⟩
      rw [paired_len hp1, List.take_length] at bi
      refine ⟨_, rfl, a2, rfl, ⟨_, q2 _ _ m⟩, for_it (walk_list (K := K) (a := a2) (xs := xs2)) (fun j σ H' => ∃ G' b y5, GrowM p G Hm G' H' ∧ σ = [some (.ref a1), some (.ref a2), some (.int (sz : Nat)), some (.ref p), y4, y5, none, none, none, none] ∧ FM.BI sz (es.map (fun v => (v, true)) ++ (cs.take j).map fun v => (v, false)) b ∧ BAt C G' H' p b) ?_ ?_ ?_ ?_⟩
      · refine ⟨G', b, none, m, rfl, ?_, hb⟩
        simpa using bi
      · rintro j σ H' hj ⟨G', b, y5, m, rfl, bi, hb⟩
        exact q2 _ _ m
      · rintro j x σ H' H'' hj ⟨G', b, y5, m, rfl, bi, hb⟩ ⟨rfl, hx⟩
        obtain ⟨e, he, re⟩ := paired_get hp2 hx
        obtain ⟨el, ele⟩ := hcs e (List.mem_of_getElem? he)
        have ii := (List.getElem?_eq_some_iff.mp he).1
        have hl : (es.map (fun v => ((v, true) : FM.Con)) ++ (cs.take j).map fun v => ((v, false) : FM.Con)).length ≤ 131 := by
          rw [List.length_append, List.length_map, List.length_map, List.length_take]; omega
        have hA : ∀ d ∈ es.map (fun v => ((v, true) : FM.Con)) ++ (cs.take j).map fun v => ((v, false) : FM.Con), Le c0 d.1 := fun d hd => by
          rcases List.mem_append.mp hd with hd | hd
          · obtain ⟨v, hv, rfl⟩ := List.mem_map.mp hd
            exact (hes v hv).2
          · obtain ⟨v, hv, rfl⟩ := List.mem_map.mp hd
            exact (hcs v (List.mem_of_mem_take hv)).2
        have bi' := bi.add (c := (e, false)) el
        obtain ⟨dx', x1, x2, eb, nb, r1, r2⟩ := id hb
        refine ⟨_, rfl, p, dx', _, rfl, eb, bf_no (by decide +kernel) (by decide +kernel) (by decide +kernel), _, rfl, G', p, x, b, e, false, sz, 8 * c0 + 10, rfl, m.s, hb, mono re m.g, okc_of bi hs4 hA el ele hc0 (by omega), by rw [bi.count]; omega, rays_few bi' hs4 (by rw [List.length_append, List.length_singleton]; omega), fun G2 H2 m2 hb2 => ?_⟩
        refine ⟨G2, _, some x, m.trans m2, rfl, ?_, hb2⟩
        rw [List.take_add_one, he, Option.toList_some, List.map_append, ← List.append_assoc]
        exact bi'
      · rintro σ H' ⟨G', b, y5, m, rfl, bi, hb⟩
        rw [paired_len hp2, List.take_length] at bi
        have bi : FM.BI sz (FM.cons es cs) b := bi
        rw [← hHm] at m
        have g := GrowM.toGrow np nd m
        obtain ⟨dx', x1, x2, eb, nb, r1, r2⟩ := id hb
        have hA : ∀ d ∈ FM.cons es cs, ∀ x ∈ d.1, x.natAbs ≤ 2 ^ c0 := fun d hd => by
          rcases FM.mem_cons'.mp hd with ⟨h1, _⟩ | ⟨h1, _⟩
          · exact (hes _ h1).2
          · exact (hcs _ h1).2
        have hC : 1 ≤ 2 ^ c0 := Nat.one_le_two_pow
        have hbL := fun l hl => (le_sg hs4 (bi.boundL hC hA l hl)).sm (d := 7 * c0 + 8) (by omega)
        have hbR := fun r hr => (le_sg hs4 (bi.boundR hC hA r hr)).sm (d := 7 * c0 + 8) (by omega)
        have hbE := fun i f hf => (le_sg hs4 (FM.ech_bound bi hC hA i f hf)).sm (d := 7 * c0 + 8) (by omega)
        have few := bi.few
        have hrow : b.lines.length * (7 * c0 + 8 + 1) ≤ 4 * (7 * c0 + 8 + 1) := Nat.mul_le_mul_right _ (by omega)
        refine ⟨_, rfl, p, C, dx', _, _, rfl, eb, TC.cl, TC.nL, bf_lines _ _ _, G', x1, b.lines, sz, 7 * c0 + 8, rfl, g.2.2.1, g.2.2.2.2 hnt, htab.ext g.2.1, r1, by omega, by omega, fun r hr => ⟨bi.lenL r hr, hbL r hr⟩, hbE, by omega, by omega, fun z G2 H2 F gt pF rF => ?_⟩
        have eb2 : H2 p = some (.ins C dx' (bf x1 x2 (b.count : Nat))) := gt.2.1 _ _ eb (by intro ps h; cases h)
        have nb2 : G2 p = none := gt.2.2.2.1 p _ eb (by intro ps h; cases h) nb
        refine ⟨Nat.zero_le _, fun D7 n7 => ?_⟩
        have g7 := Grow.newH (o := .lst []) gt.2.2.1 n7
        obtain ⟨nb7, eb7⟩ := g7.out eb2 nb2
        obtain ⟨ei, _, fl⟩ := bi.dp pF
        have hbF : ∀ f ∈ F, Sm (7 * c0 + 8) f := fun f hf => hbE b.lines.length f (by rw [List.take_length]; exact pF.mem_iff.mp hf)
        have rfew := rays_few bi hs4 (by rw [FM.cons_len]; exact hcnt)
        obtain ⟨a3, xs3, rfl, ha3, hp3⟩ := mono r2 gt.1
        have sq3 : ∀ H', Same H2 H' → SqL K H' a3 xs3 := fun H' s => SqL.of (s _ _ (gt.2.2.1 _ _ ha3))
        refine ⟨_, rfl, p, C, dx', _, _, rfl, eb7, TC.cl, TC.nR, bf_rays _ _ _, a3, rfl, ⟨_, sq3 _ g7.2.1⟩, for_it (walk_list (K := K) (a := a3) (xs := xs3)) (fun i σ H' => ∃ G' y8 y9, Grow G2 H2 G' H' ∧ σ = [some (.ref a1), some (.ref a2), some (.int (sz : Nat)), some (.ref p), y4, y5, some z, some (.ref D7), y8, y9] ∧ Acc RV G' H' D7 (FM.dedup ((b.rays.take i).map fun r => FM.red r.1 F))) ?_ ?_ ?_ ?_⟩
        · exact ⟨G2, none, none, g7, rfl, ⟨[], upd_same, gt.2.2.1.free n7, .nil⟩⟩
        · rintro i σ H' hi ⟨G', y8, y9, g', rfl, ac⟩
          exact sq3 _ g'.2.1
        · rintro i x σ H' H'' hi ⟨G', y8, y9, g', rfl, ac⟩ ⟨rfl, hx⟩
          obtain ⟨r, hr', rr'⟩ := paired_get hp3 hx
          have rm := List.mem_of_getElem? hr'
          obtain ⟨T2, w1, w2, rfl, hT2, q1', q2'⟩ := mono rr' g'.1
          cases q2'
          have less := bi.less (fun z => by rw [z] at rm; simp at rm)
          have hF3 : F.length * (7 * c0 + 8 + 1) ≤ 3 * (7 * c0 + 8 + 1) := Nat.mul_le_mul_right _ (by omega)
          refine ⟨T2, _, rfl, SqT.of (g'.2.2.1 _ _ hT2), rfl, _, _, rfl, _, _, rfl, rfl, ?_⟩
          refine ⟨_, rfl, _, rfl, G', w1, z, r.1, F, sz, 7 * c0 + 8, 7 * c0 + 8, rfl, g'.2.2.1, q1', mono rF g'.1, by omega, bi.lenR r rm, ei, hbR r rm, hbF, by omega, fun z3 G3 H3 g3 r3 => ?_⟩
          have ac3 := ac.grow g3
          have gg := g'.trans g3
          obtain ⟨acc, e, n, pp⟩ := id ac3
          have es : FM.dedup ((b.rays.take (i + 1)).map fun r => FM.red r.1 F) = if FM.red r.1 F ∈ FM.dedup ((b.rays.take i).map fun r => FM.red r.1 F) then FM.dedup ((b.rays.take i).map fun r => FM.red r.1 F) else FM.dedup ((b.rays.take i).map fun r => FM.red r.1 F) ++ [FM.red r.1 F] := by
            rw [List.take_add_one, hr', Option.toList_some, List.map_append]
            exact dedup_snoc _ _
          refine ⟨_, rfl, _, rfl, _, _, dp_vec r3 gg.2.2.1, .lst (SqL.of e) (dp_rows gg.2.2.1 pp), shaped_vec _, shaped_rows _, _, rfl, ite2 (fun e1 => ?_) (fun e1 => ?_)⟩
          · have nm : ¬ FM.red r.1 F ∈ FM.dedup ((b.rays.take i).map fun r => FM.red r.1 F) := fun z => by
              have e1' : (!(((FM.dedup ((b.rays.take i).map fun r => FM.red r.1 F)).map fun v => PyData.list (v.map PyData.int)).any fun z => PyData.eqv z (.list ((FM.red r.1 F).map PyData.int)))) = true := e1
              rw [any_rows, decide_eq_true z] at e1'
              exact absurd e1' (by decide)
            have hlen : (FM.dedup ((b.rays.take i).map fun r => FM.red r.1 F)).length < 16000000 := by
              have := dedup_le ((b.rays.take i).map fun r => FM.red r.1 F) []
              unfold FM.dedup
              rw [List.length_map, List.length_take] at this
              simp only [List.length_nil] at this
              omega
            obtain ⟨acc2, ea, la, sn⟩ := ac3.app gg n7 hlen
            obtain ⟨h1, h2⟩ := sn z3 _ r3
            refine ⟨_, rfl, ac3.ty, _, rfl, D7, acc2, _, rfl, rfl, ea, la, ?_⟩
            refine ⟨_, _, _, h1, rfl, ?_⟩
            rw [es, if_neg nm]
            exact h2
          · have nm : FM.red r.1 F ∈ FM.dedup ((b.rays.take i).map fun r => FM.red r.1 F) := Classical.byContradiction fun z => e1 (by
              show (!(((FM.dedup ((b.rays.take i).map fun r => FM.red r.1 F)).map fun v => PyData.list (v.map PyData.int)).any fun z => PyData.eqv z (.list ((FM.red r.1 F).map PyData.int)))) = true
              rw [any_rows, decide_eq_false z]
              rfl)
            refine ⟨_, _, _, gg, rfl, ?_⟩
            rw [es, if_pos nm]
            exact ac3
        · rintro σ H' ⟨G', y8, y9, g', rfl, ac⟩
          rw [paired_len hp3, List.take_length] at ac
          obtain ⟨acc, e, n, pp⟩ := id ac
          refine ⟨_, rfl, _, rfl, D7, acc, G', _, rfl, SqL.of e, g'.2.2.1, pp, fun ys p' perm np' => ⟨sz1 (n := 2) (by decide), fun Tt nT => ?_⟩⟩
          obtain ⟨R, pR, pairs⟩ := paired_permL perm pp
          have gn := Grow.new (o := .lst ys) g'.2.2.1 np'
          have gn2 := Grow.new (o := .tup [z, .ref p']) gn.2.2.1 nT
          have dp := (bi.dual pF pR).1
          refine k _ _ _ F R (((GrowT.of g).trans gt).trans (GrowT.of ((g'.trans gn).trans gn2))) dp ⟨Tt, _, _, rfl, upd_same, mono rF ((g'.1.trans gn.1).trans gn2.1), mono (⟨p', ys, rfl, upd_same, monoP pairs gn.1⟩ : RM _ (.ref p') R) gn2.1⟩
end dual
end
end FW
set_option Elab.async false
set_option linter.all false
set_option maxRecDepth 100000
set_option maxHeartbeats 4000000
set_option exponentiation.threshold 100001
/-! check_count, horizon, settled, polyhedron, generators, has_point. -/
namespace FW
open PySem L2 LamX
theorem ix_listK {X : Cx} {K : PySem.W.Frag} (hK : X.K = K) : IxR X (rIxL K) := by
  subst hK
  exact ix_list
theorem hz_vals (n : Nat) : [V.int 1] ++ (List.replicate n [V.int 0]).flatten = (FM.hz n).map V.int := by
  simp [FM.hz, List.flatten_replicate_singleton]
theorem hz_Le (n c : Nat) : Le c (FM.hz n) := fun x hx => Nat.le_trans (FM.hz_le hx) Nat.one_le_two_pow
abbrev RReg := R3 RN RM RM
theorem op_neDK {X : Cx} {K : PySem.W.Frag} (hu : X.A.units + 64 < cLine) (hK : X.K = K) : OpR X (compareOp .NotEq) (rNeD K) := by
  subst hK
  exact op_neD hu
theorem GrowT.trans2 {Pt : Addr} {G H G1 H1 G2 H2 : Hp} (a : Grow G H G1 H1) (b : GrowT Pt G1 H1 G2 H2) : GrowT Pt G H G2 H2 := (GrowT.of a).trans b
theorem dp_few {s : Nat} {es cs L R : List FM.Vec} (h : FM.DP s (FM.cons es cs) L R) (hs : s ≤ 4) (hn : es.length + cs.length ≤ 132) : R.length < 16000000 := by
  obtain ⟨D, Rs, i, _, p⟩ := h
  rw [p.length_eq, List.length_map]
  have q := i.many3 hs
  rw [FM.cons_len] at q
  have q2 : (es.length + cs.length + 1) * (es.length + cs.length + 1) * (es.length + cs.length + 1) ≤ 133 * 133 * 133 := Nat.mul_le_mul (Nat.mul_le_mul (by omega) (by omega)) (by omega)
  omega
section
variable {P : Program} {w : World} {K : PySem.W.Frag} {mg : Str → Option Value} {base : Heap} {C : Addr}
/-! ### check_count -/
namespace check_count
abbrev st : Stmt := top 18
abbrev N : List Str := ["n"]
theorem sc : FnScope N ["n"] (defScope st) := ⟨rfl, rfl, rfl, by decide +kernel, rfl, by decide +kernel, by decide +kernel⟩
def sp : Sp := fun vs H Q _ => ∃ n : Nat, vs = [.int (n : Nat)] ∧ n ≤ 8 ∧ Q .non H
theorem ok (T : Txt mg) (hmx : ∃ t, mg "MAX_VARIABLES" = some (.int 8 t)) (h : Here K mg "check_count" st) : Cal P w K mg base "check_count" 1 ["n"] sp := by
  obtain ⟨tk, hmx⟩ := hmx
  refine h.cal (fun _ _ _ _ _ _ us hl => match us, hl with | [_], _ => rfl) fun f fd F => ?_
  refine F.ok sc (fun vs H Q E h => ?_) (fun cdv A outer s H vs Q E hr h => ?_)
  · obtain ⟨n, rfl, _⟩ := h
    rfl
  · obtain ⟨n, rfl, hn, k⟩ := h
    refine ⟨_, (pss_one (ps_if (pt_not (pt_chain op_le op_le pe_int (pv 0) (pe_glob (v := .int 8) (by rfl) hmx ⟨_, rfl⟩)))
        (pss_one ps_never)
        pss_nil)), ?_⟩
    refine ⟨_, rfl, _, _, rfl, rfl, _, rfl, ?_⟩
    rw [decide_eq_true (show (0 : Int) ≤ (n : Int) by omega)]
    refine iteT ⟨_, _, rfl, rfl, _, rfl, ite2 (fun e => ?_) (fun _ => k)⟩
    have e' : (!decide ((n : Int) ≤ 8)) = true := e
    rw [decide_eq_true (show (n : Int) ≤ 8 by omega)] at e'
    exact absurd e' (by decide)
end check_count
/-! ### horizon -/
namespace horizon
abbrev st : Stmt := top 19
abbrev N : List Str := ["n"]
theorem sc : FnScope N ["n"] (defScope st) := ⟨rfl, rfl, rfl, by decide +kernel, rfl, by decide +kernel, by decide +kernel⟩
def sp : Sp := fun vs H Q _ => ∃ (G : Hp) (n : Nat), vs = [.int (n : Nat)] ∧ Same G H ∧ n ≤ 1000 ∧ ∀ z G' H', Grow G H G' H' → RV G' z (FM.hz n) → Q z H'
theorem ok (T : Txt mg) (h : Here K mg "horizon" st) : Cal P w K mg base "horizon" 1 ["n"] sp := by
  refine h.cal (fun _ _ _ _ _ _ us hl => match us, hl with | [_], _ => rfl) fun f fd F => ?_
  refine F.ok sc (fun vs H Q E h => ?_) (fun cdv A outer s H vs Q E hr h => ?_)
  · obtain ⟨G, n, rfl, _⟩ := h
    rfl
  · obtain ⟨G, n, rfl, hs, hn, k⟩ := h
    refine ⟨_, (pss_one (ps_ret (pe_op op_cat (pe_lst (pa_cons pe_int pa_nil)) (pe_op op_rep (pe_lst (pa_cons pe_int pa_nil)) (pv 0))))), ?_⟩
    refine ⟨sz1 (n := 1) (by decide), fun D1 n1 => ⟨sz1 (n := 1) (by decide), fun D2 n2 => ?_⟩⟩
    have g1 := Grow.newH (o := .lst [.int 1]) hs n1
    have g2' := Grow.newH (o := .lst [.int 0]) g1.2.2.1 n2
    have g2 := g1.trans g2'
    have en : (n : Int).toNat = n := Int.toNat_natCast n
    refine ⟨_, rfl, D2, (n : Int), _, rfl, rfl, upd_same, by omega, Int.lt_of_le_of_lt (Int.ofNat_le.mpr hn) (by decide), by rw [en]; exact sz1 (by simp; omega), fun D3 n3 => ?_⟩
    have g3' := Grow.newH (o := .lst (List.replicate (n : Int).toNat [V.int 0]).flatten) g2.2.2.1 n3
    have g3 := g2.trans g3'
    have el : ((List.replicate (n : Int).toNat [V.int 0]).flatten).length = n := by
      rw [en]; simp
    refine ⟨D1, D3, _, _, rfl, rfl, g3'.2.1 _ _ (g2'.2.1 _ _ upd_same), upd_same, sz1 (by simp only [List.length_singleton, el]; omega), fun D4 n4 => ?_⟩
    refine k _ _ _ (g3.trans (Grow.new (o := .lst ([.int 1] ++ (List.replicate (n : Int).toNat [V.int 0]).flatten)) g3.2.2.1 n4)) (rv_iff.mpr ⟨D4, rfl, ?_⟩)
    rw [upd_same, en, hz_vals]
end horizon
/-! ### settled -/
namespace settled
abbrev st : Stmt := top 20
abbrev N : List Str := ["n", "lines", "rays", "equations", "facets", "facet"]
theorem sc : FnScope N ["n", "lines", "rays"] (defScope st) := ⟨rfl, rfl, rfl, by decide +kernel, rfl, by decide +kernel, by decide +kernel⟩
def sp (Pt : Addr) : Sp := fun vs H Q _ => ∃ (G : Hp) (u v : V) (L R : List FM.Vec) (n c0 : Nat), vs = [.int (n : Nat), u, v] ∧ Same G H ∧ NT G ∧ TabS H Pt qE ∧ RM G u L ∧ RM G v R ∧ n ≤ 3 ∧ L.length + R.length ≤ 132 ∧ c0 ≤ 301 ∧ (∀ e ∈ L, e.length = n + 1 ∧ Le c0 e) ∧ (∀ e ∈ R, e.length = n + 1 ∧ Le c0 e) ∧
  ∀ z G' H' E F0, GrowT Pt G H G' H' → FM.DP (n + 1) (FM.cons L R) E F0 → RReg G' z (n, E, F0.filter fun f => decide (f ≠ FM.hz n)) → Q z H'
theorem ok {Pt : Addr} (T : Txt mg) (h : Here K mg "settled" st) (c_dual : Cal P w K mg base "dual" 6 ["equations", "conditions", "size"] (dual.sp Pt)) (c_horizon : Cal P w K mg base "horizon" 1 ["n"] horizon.sp) : Cal P w K mg base "settled" 7 ["n", "lines", "rays"] (sp Pt) := by
  refine h.cal (fun _ _ _ _ _ _ us hl => match us, hl with | [_, _, _], _ => rfl) fun f fd F => ?_
  refine F.ok sc (fun vs H Q E h => ?_) (fun cdv A outer s H vs Q E hr h => ?_)
  · obtain ⟨G, u, v, L, R, n, c0, rfl, _⟩ := h
    rfl
  · obtain ⟨G, u, v, L, R, n, c0, rfl, hs, hnt, htab, hu, hv, hn, hlen, hc0, hL, hR, k⟩ := h
    refine ⟨_, (pss_cons (ps_asg (pe_cal c_dual (hr.mono (by decide)) (by rfl) (pa_cons (pv 1) (pa_cons (pv 2) (pa_cons (pe_op op_add (pv 0) pe_int) pa_nil)))) (pg_tup rfl (pgs_cons (pg_name (i := 3) sc.nd rfl (Or.inl rfl)) (pgs_cons (pg_name (i := 4) sc.nd rfl (Or.inl rfl)) pgs_nil))))
      (pss_one (ps_ret (pe_tup (pa_cons (pv 0) (pa_cons (pv 3) (pa_cons (pe_lc (own := [("facet", 5)]) (g := gName 5) rfl sc.nd (pi_list (pv 4)) (blkOk_by (N := N) (sc := defScope st) (by decide +kernel)) (fun _ _ _ _ _ => (pg_name (i := 5) sc.nd rfl (Or.inl rfl))) (fun _ _ _ _ _ => pts_one (pt_cmpR (op_neDK (K := K) hr.units rfl) (pv 5) (pe_cal c_horizon (hr.mono (by decide)) (by rfl) (pa_cons (pv 0) pa_nil)) (nomark _))) (fun _ _ _ _ _ => (pv 5))) pa_nil))))))), ?_⟩
    have e1 : (n : Int) + 1 = ((n + 1 : Nat) : Int) := rfl
    refine ⟨_, rfl, _, rfl, _, rfl, _, _, rfl, rfl, G, u, v, L, R, n + 1, c0, rfl, hs, hnt, htab, hu, hv, by omega, hlen, hc0, hL, hR, fun z G1 H1 E' F0 g1 dp rz => ?_⟩
    obtain ⟨t, vE, vF, rfl, ht, rE, rF⟩ := rz
    obtain ⟨aF, fs, rfl, hF, pF⟩ := id rF
    refine ⟨t, _, rfl, SqT.of (g1.2.2.1 _ _ ht), rfl, _, _, rfl, _, _, rfl, rfl, ?_⟩
    have sqF : SqL K H1 aF fs := SqL.of (g1.2.2.1 _ _ hF)
    refine ⟨_, rfl, _, rfl, _, rfl, aF, rfl, ⟨_, sqF⟩, fun D hD => ?_⟩
    refine comp_list (E := RV) (Ea := RV) (fun f => decide (f ≠ FM.hz n)) id g1.2.2.1 hD sqF pF ?_ ?_ ?_
    · exact Nat.le_of_lt (dp_few dp (by omega) hlen)
    · intro y x G' H' hy s1 s2 hx CC j1 j2
      refine ⟨rfl, _, rfl, _, rfl, G', n, rfl, s2, by omega, fun zh G2 H2 g2 rh => ?_⟩
      have d1 := dp_vec (K := K) (mono hx g2.1) g2.2.2.1
      have d2 := dp_vec (K := K) rh g2.2.2.1
      refine ⟨_, _, d1, d2, shaped_vec _, shaped_vec _, _, rfl, ite2 (fun e => ?_) (fun e => ?_)⟩
      · have ne : ¬ y = FM.hz n := fun z => by
          have e' : (!(PyData.eqv (.list (y.map PyData.int)) (.list ((FM.hz n).map PyData.int)))) = true := e
          rw [eqv_vec, z] at e'
          simp at e'
        exact ⟨_, rfl, j1 _ G2 H2 g2 (decide_eq_true ne) (mono hx g2.1)⟩
      · have eq : y = FM.hz n := Classical.byContradiction fun z => e (by
          show (!(PyData.eqv (.list (y.map PyData.int)) (.list ((FM.hz n).map PyData.int)))) = true
          rw [eqv_vec]; simp [z])
        exact j2 G2 H2 g2 (decide_eq_false fun z => z eq)
    · intro G2 H2 ys g2 n2 e2 p2
      obtain ⟨G3, g3, r3, _⟩ := took_list g2 hD n2 e2 p2
      refine ⟨sz1 (n := 3) (by decide), fun T3 nT => ?_⟩
      have gT := Grow.new (o := .tup [.int (n : Nat), vE, .ref D]) g3.2.2.1 nT
      rw [List.map_id] at r3
      exact k _ _ _ E' F0 (g1.trans (GrowT.of (g3.trans gT))) dp ⟨T3, _, _, _, rfl, upd_same, rfl, mono rE (g3.1.trans gT.1), mono r3 gT.1⟩
end settled
/-! ### polyhedron -/
/-- a def whose defaults stand, every parameter given by its caller -/
def HereD (K : PySem.W.Frag) (mg : Str → Option Value) (x : Str) (st : Stmt) : Prop := ∃ (f : Addr) (fd : FuncData) (e : Addr), FunD K x x (defArgs st) (defBody st) (defScope st) [.ref e] [] f fd ∧ mg x = some (.ref f)
theorem HereD.cal {x : Str} {st : Stmt} {N ps : List Str} {sp : Sp} {k : Nat} (h : HereD K mg x st) (S : FnScope N ps (defScope st)) (hps : ps.length = 3) (b : ∀ (T : Addr) (kV doc pm : Value) (an : Option Addr) (cdv ct : Value) (us its : List Value), us.length = 3 → its.length = 1 →
      ∃ k, bindArgs (PySem.W.fnOf x x (defArgs st) (defBody st) (defScope st) (.ref T) kV doc pm an cdv ct) ⟨us, []⟩ = seqItems? (.ref T) >>= k ∧ k (some its.toArray) = pure (ps.zip (us ++ its.drop 1)))
    (len : ∀ vs H Q E, sp vs H Q E → vs.length = ps.length)
    (hbody : ∀ (f : Addr) (cdv : Value) (A : Around) (outer : List Env) (s : Shared) (H : Hp) (vs : List V) (Q : VK) (E : XK), Room k (A.deeper (PyProof.Rows.envOfC x (defScope st) s.heap.objs.size f cdv)) → sp vs H Q E →
      ∃ t, PSs (cxOf CX0 P w K mg base N x (defScope st) f cdv A outer s H E).nox (defBody st) t ∧ t { nx := fun _ H' => Q .non H', rt := Q } (start N vs) H) : Cal P w K mg base x (k + 1) ps sp := by
  obtain ⟨f, fd, e, F, hm⟩ := h
  obtain ⟨ds, rd, hb⟩ := F.binds1 (ps := ps) 3 1 (by simp) (by simp [hps]) b
  cases rd
  refine ⟨f, fd, F.ok S len fun cdv A outer s H vs Q E hr hsp => ?_, hm, F.kp, hb⟩
  obtain ⟨t, ht, q⟩ := hbody f cdv A outer s H vs Q E hr hsp
  exact ⟨t, ht.nox, q⟩
namespace polyhedron
abbrev st : Stmt := top 21
abbrev N : List Str := ["n", "conditions", "equations", "lines", "rays", "ray"]
theorem sc : FnScope N ["n", "conditions", "equations"] (defScope st) := ⟨rfl, rfl, rfl, by decide +kernel, rfl, by decide +kernel, by decide +kernel⟩
def sp (Pt : Addr) : Sp := fun vs H Q _ => ∃ (G : Hp) (u v : V) (cs es : List FM.Vec) (n : Nat), vs = [.int (n : Nat), u, v] ∧ Same G H ∧ NT G ∧ TabS H Pt qE ∧ RM G u cs ∧ RM G v es ∧ n ≤ 3 ∧ cs.length ≤ 6 ∧ es.length ≤ 2 ∧ (∀ e ∈ cs, e.length = n + 1 ∧ Le 5 e) ∧ (∀ e ∈ es, e.length = n + 1 ∧ Le 5 e) ∧
  (∀ G' H' L1 R1, GrowT Pt G H G' H' → FM.DP (n + 1) (FM.cons es (cs ++ [FM.hz n])) L1 R1 → (∀ r ∈ R1, FM.at0 r 0 = 0) → Q .non H') ∧
  (∀ z G' H' L1 R1 E F0, GrowT Pt G H G' H' → FM.DP (n + 1) (FM.cons es (cs ++ [FM.hz n])) L1 R1 → (∃ r ∈ R1, FM.at0 r 0 ≠ 0) → FM.DP (n + 1) (FM.cons L1 R1) E F0 → RReg G' z (n, E, F0.filter fun f => decide (f ≠ FM.hz n)) → Q z H')
theorem ok {Pt : Addr} (T : Txt mg) (h : HereD K mg "polyhedron" st) (c_check_count : Cal P w K mg base "check_count" 1 ["n"] check_count.sp) (c_dual : Cal P w K mg base "dual" 6 ["equations", "conditions", "size"] (dual.sp Pt)) (c_horizon : Cal P w K mg base "horizon" 1 ["n"] horizon.sp)
    (c_settled : Cal P w K mg base "settled" 7 ["n", "lines", "rays"] (settled.sp Pt)) : Cal P w K mg base "polyhedron" 8 ["n", "conditions", "equations"] (sp Pt) := by
  refine h.cal sc rfl (fun T kV doc pm an cdv ct us its hl hi => match us, its, hl, hi with | [_, _, _], [_], _, _ => ⟨_, rfl, rfl⟩) (fun vs H Q E h => ?_) (fun f cdv A outer s H vs Q E hr h => ?_)
  · obtain ⟨G, u, v, cs, es, n, rfl, _⟩ := h
    rfl
  · obtain ⟨G, u, v, cs, es, n, rfl, hs, hnt, htab, hu, hv, hn, lc, le, hcs, hes, k0, k1⟩ := h
    refine ⟨_, (pss_cons (ps_expr (pe_cal c_check_count (hr.mono (by decide)) (by rfl) (pa_cons (pv 0) pa_nil)))
      (pss_cons (ps_asg (pe_cal c_dual (hr.mono (by decide)) (by rfl) (pa_cons (pe_callTy call_list_of (by rfl) T.n_list (by decide +kernel) (pa_cons (pv 2) pa_nil)) (pa_cons (pe_op op_cat (pe_callTy call_list_of (by rfl) T.n_list (by decide +kernel) (pa_cons (pv 1) pa_nil)) (pe_lst (pa_cons (pe_cal c_horizon (hr.mono (by decide)) (by rfl) (pa_cons (pv 0) pa_nil)) pa_nil))) (pa_cons (pe_op op_add (pv 0) pe_int) pa_nil)))) (pg_tup rfl (pgs_cons (pg_name (i := 3) sc.nd rfl (Or.inl rfl)) (pgs_cons (pg_name (i := 4) sc.nd rfl (Or.inl rfl)) pgs_nil))))
      (pss_cons (ps_if (pt_val (pe_callB (cr_all rfl) (by rfl) T.n_all (by decide +kernel) (pa_cons (pe_lc (own := [("ray", 5)]) (g := gName 5) (tt := tYes) rfl sc.nd (pi_list (pv 4)) (blkOk_by (N := N) (sc := defScope st) (by decide +kernel)) (fun _ _ _ _ _ => (pg_name (i := 5) sc.nd rfl (Or.inl rfl))) (fun _ _ _ _ _ => pts_nil) (fun _ _ _ _ _ => (pe_cmpR op_eq (pe_ix (ix_listK (K := K) rfl) (pv 5) pe_int (fun _ _ => rfl)) pe_int (nomark _)))) pa_nil)))
        (pss_one (ps_ret pe_non))
        pss_nil)
      (pss_one (ps_ret (pe_cal c_settled (hr.mono (by decide)) (by rfl) (pa_cons (pv 0) (pa_cons (pv 3) (pa_cons (pv 4) pa_nil))))))))), ?_⟩
    obtain ⟨a1, xs1, rfl, ha1, hp1⟩ := id hu
    obtain ⟨a2, xs2, rfl, ha2, hp2⟩ := id hv
    refine ⟨_, rfl, n, rfl, by omega, ?_⟩
    -- list(equations), list(conditions), [horizon(n)]
    refine ⟨_, rfl, a2, _, rfl, .inl (SqL.of (hs _ _ ha2)), fun D1 n1 => ?_⟩
    have g1 := Grow.new (o := .lst xs2) hs n1
    refine ⟨_, rfl, a1, _, rfl, .inl (SqL.of (g1.2.1 _ _ (hs _ _ ha1))), fun D2 n2 => ?_⟩
    have g2 := g1.trans (Grow.newH (o := .lst xs1) g1.2.2.1 n2)
    refine ⟨_, rfl, upd G D1 (.lst xs2), n, rfl, g2.2.2.1, by omega, fun zh G3 H3 g3 rh => ?_⟩
    have g23 := g2.trans g3
    refine ⟨sz1 (n := 1) (by decide), fun D3 n3 => ?_⟩
    have g4' := Grow.newH (o := .lst [zh]) g23.2.2.1 n3
    have g4 := g23.trans g4'
    have lx1 : xs1.length ≤ 6 := by rw [paired_len hp1]; exact lc
    refine ⟨D2, D3, _, _, rfl, rfl, g4'.2.1 _ _ (g3.2.1 _ _ upd_same), upd_same, sz1 (by simp; omega), fun D4 n4 => ?_⟩
    have g5' := Grow.new (o := .lst (xs1 ++ [zh])) g4.2.2.1 n4
    have g5 := g4.trans g5'
    have rc : RM _ (.ref D4) (cs ++ [FM.hz n]) := ⟨D4, _, rfl, upd_same, paired_app (monoP hp1 g5.1) (paired_one (mono rh g5'.1))⟩
    have re : RM (upd G3 D4 (.lst (xs1 ++ [zh]))) (.ref D1) es := ⟨D1, xs2, rfl, g5'.1 _ _ (g3.1 _ _ upd_same), monoP hp2 g5.1⟩
    have hcs' : ∀ e ∈ cs ++ [FM.hz n], e.length = n + 1 ∧ Le 5 e := fun e he => by
      rcases List.mem_append.mp he with q | q
      · exact hcs e q
      · rw [List.mem_singleton.mp q]
        exact ⟨FM.hz_len n, hz_Le n 5⟩
    refine ⟨_, rfl, _, _, rfl, rfl, _, _, _, es, cs ++ [FM.hz n], n + 1, 5, rfl, g5.2.2.1, g5.2.2.2.2 hnt, htab.ext g5.2.1, re, rc, by omega, by rw [List.length_append, List.length_singleton]; omega, by omega, hes, hcs', fun z G6 H6 L1 R1 g6 dp rz => ?_⟩
    obtain ⟨t, vL, vR, rfl, ht, rL, rR⟩ := rz
    obtain ⟨aR, rs, rfl, hRs, pR⟩ := id rR
    have gg6 := GrowT.trans2 g5 g6
    refine ⟨t, _, rfl, SqT.of (g6.2.2.1 _ _ ht), rfl, _, _, rfl, _, _, rfl, rfl, ?_⟩
    have sqR : SqL K H6 aR rs := SqL.of (g6.2.2.1 _ _ hRs)
    have lR : R1.length ≤ 128 := Nat.le_trans dp.many2 (by
      rw [List.length_append, List.length_singleton]
      exact Nat.le_trans (Nat.pow_le_pow_right (by decide) (show cs.length + 1 ≤ 7 by omega)) (by decide))
    refine ⟨_, rfl, aR, rfl, ⟨_, sqR⟩, fun D hD => ?_⟩
    refine comp_list (l := R1) (E := RB) (Ea := RV) (fun _ => true) (fun r => decide (FM.at0 r 0 = 0)) g6.2.2.1 hD sqR pR (by omega) ?_ ?_
    · intro y x G' H' hy s1 s2 hx CC j1 _
      obtain ⟨ay, rfl, hay⟩ := rv_iff.mp hx
      have ly := dp.lenR y hy
      refine ⟨rfl, _, rfl, ay, _, 0, _, rfl, rfl, SqL.of (s2 _ _ hay), at_int (c := 0) (by omega), rfl, ?_⟩
      refine j1 _ G' H' (Grow.refl s2) rfl ?_
      show V.bl _ = V.bl _
      congr 1
      by_cases q : FM.at0 y 0 = 0
      · rw [q]; simp
      · rw [decide_eq_false q]
        exact decide_eq_false fun z => q (V.int.inj z)
    · intro G7 H7 ys g7 n7 e7 p7
      rw [all_true] at p7
      rw [bools_eq p7] at e7
      refine ⟨D, _, rfl, SqL.of e7, _, rfl, ite2 (fun e => ?_) (fun e => ?_)⟩
      · refine k0 G7 H7 L1 R1 (gg6.trans (GrowT.of g7)) dp fun r hr => ?_
        have e' : (R1.map fun r => decide (FM.at0 r 0 = 0)).all id = true := e
        rw [List.all_map, List.all_eq_true] at e'
        exact of_decide_eq_true (e' r hr)
      · have gT := gg6.trans (GrowT.of g7)
        have hC : 1 ≤ 2 ^ 5 := by decide
        have hA : ∀ c ∈ FM.cons es (cs ++ [FM.hz n]), ∀ x ∈ c.1, x.natAbs ≤ 2 ^ 5 := fun d hd => by
          rcases FM.mem_cons'.mp hd with ⟨h1, _⟩ | ⟨h1, _⟩
          · exact (hes _ h1).2
          · exact (hcs' _ h1).2
        have fl := dp.fewL
        refine ⟨_, rfl, _, rfl, _, rfl, G7, vL, _, L1, R1, n, 42, rfl, g7.2.2.1, gT.2.2.2.2.1 hnt, gT.2.2.2.2.2 htab, mono rL g7.1, mono rR g7.1, hn, by omega, by decide, fun e he => ⟨dp.lenL e he, le_sg (by omega) (dp.boundL hC hA e he)⟩, fun e he => ⟨dp.lenR e he, le_sg (by omega) (dp.boundR hC hA e he)⟩, fun z G8 H8 E' F0 g8 dp2 rr => ?_⟩
        refine k1 z G8 H8 L1 R1 E' F0 (gT.trans g8) dp ?_ dp2 rr
        refine Classical.byContradiction fun q => e ?_
        show (R1.map fun r => decide (FM.at0 r 0 = 0)).all id = true
        rw [List.all_map, List.all_eq_true]
        exact fun r hr => decide_eq_true (Classical.byContradiction fun w => q ⟨r, hr, w⟩)
end polyhedron
end
end FW
set_option Elab.async false
set_option linter.all false
set_option maxRecDepth 100000
set_option maxHeartbeats 4000000
set_option exponentiation.threshold 100001
/-! generators, has_point. -/
namespace FW
open PySem L2 LamX
section
variable {P : Program} {w : World} {K : PySem.W.Frag} {mg : Str → Option Value} {base : Heap} {C : Addr}
/-! ### generators -/
abbrev RGen := R3 RM RM RM
namespace generators
abbrev st : Stmt := top 22
abbrev N : List Str := ["region", "n", "equations", "facets", "lines", "rays", "points", "ray"]
theorem sc : FnScope N ["region"] (defScope st) := ⟨rfl, rfl, rfl, by decide +kernel, rfl, by decide +kernel, by decide +kernel⟩
def sp (Pt : Addr) : Sp := fun vs H Q _ => ∃ (G : Hp) (v : V) (E F : List FM.Vec) (n c0 : Nat), vs = [v] ∧ Same G H ∧ NT G ∧ TabS H Pt qE ∧ RReg G v (n, E, F) ∧ n ≤ 3 ∧ E.length + F.length ≤ 131 ∧ c0 ≤ 301 ∧ (∀ e ∈ E, e.length = n + 1 ∧ Le c0 e) ∧ (∀ e ∈ F, e.length = n + 1 ∧ Le c0 e) ∧
  ∀ z G' H' L R, GrowT Pt G H G' H' → FM.DP (n + 1) (FM.cons E (F ++ [FM.hz n])) L R → RGen G' z (R.filter (fun r => decide (0 < FM.at0 r 0)), R.filter (fun r => decide (FM.at0 r 0 = 0)), L) → Q z H'
theorem ok {Pt : Addr} (T : Txt mg) (h : Here K mg "generators" st) (c_dual : Cal P w K mg base "dual" 6 ["equations", "conditions", "size"] (dual.sp Pt)) (c_horizon : Cal P w K mg base "horizon" 1 ["n"] horizon.sp) : Cal P w K mg base "generators" 7 ["region"] (sp Pt) := by
  refine h.cal (fun _ _ _ _ _ _ us hl => match us, hl with | [_], _ => rfl) fun f fd F => ?_
  refine F.ok sc (fun vs H Q E h => ?_) (fun cdv A outer s H vs Q E hr h => ?_)
  · obtain ⟨G, v, E, F, n, c0, rfl, _⟩ := h
    rfl
  · obtain ⟨G, v, Es, Fs, n, c0, rfl, hs, hnt, htab, hv, hn, hlen, hc0, hE, hF, k⟩ := h
    refine ⟨_, (pss_cons (ps_asg (pv 0) (pg_tup rfl (pgs_cons (pg_name (i := 1) sc.nd rfl (Or.inl rfl)) (pgs_cons (pg_name (i := 2) sc.nd rfl (Or.inl rfl)) (pgs_cons (pg_name (i := 3) sc.nd rfl (Or.inl rfl)) pgs_nil)))))
      (pss_cons (ps_asg (pe_cal c_dual (hr.mono (by decide)) (by rfl) (pa_cons (pv 2) (pa_cons (pe_op op_cat (pv 3) (pe_lst (pa_cons (pe_cal c_horizon (hr.mono (by decide)) (by rfl) (pa_cons (pv 1) pa_nil)) pa_nil))) (pa_cons (pe_op op_add (pv 1) pe_int) pa_nil)))) (pg_tup rfl (pgs_cons (pg_name (i := 4) sc.nd rfl (Or.inl rfl)) (pgs_cons (pg_name (i := 5) sc.nd rfl (Or.inl rfl)) pgs_nil))))
      (pss_cons (ps_setLc (i := 6) (own := [("ray", 7)]) (g := gName 7) rfl sc.nd rfl rfl (sw_true rfl rfl rfl (by decide +kernel)) (pi_list (pv 5)) (blkOk_by (N := N) (sc := defScope st) (by decide +kernel)) (fun _ _ _ _ _ => (pg_name (i := 7) sc.nd rfl (Or.inl rfl))) (fun _ _ _ _ _ => pts_one (pt_cmpR op_gt (pe_ix (ix_listK (K := K) rfl) (pv 7) pe_int (fun _ _ => rfl)) pe_int (nomark _))) (fun _ _ _ _ _ => (pv 7)))
      (pss_one (ps_ret (pe_tup (pa_cons (pv 6) (pa_cons (pe_lc (own := [("ray", 7)]) (g := gName 7) rfl sc.nd (pi_list (pv 5)) (blkOk_by (N := N) (sc := defScope st) (by decide +kernel)) (fun _ _ _ _ _ => (pg_name (i := 7) sc.nd rfl (Or.inl rfl))) (fun _ _ _ _ _ => pts_one (pt_cmpR op_eq (pe_ix (ix_listK (K := K) rfl) (pv 7) pe_int (fun _ _ => rfl)) pe_int (nomark _))) (fun _ _ _ _ _ => (pv 7))) (pa_cons (pv 4) pa_nil))))))))), ?_⟩
    obtain ⟨t, vn, vE, vF, rfl, ht, rn, rE, rF⟩ := hv
    cases rn
    obtain ⟨aF, fs, rfl, hFs, pF⟩ := id rF
    refine ⟨_, rfl, t, _, rfl, SqT.of (hs _ _ ht), rfl, _, _, rfl, _, _, rfl, _, _, rfl, rfl, ?_⟩
    refine ⟨_, rfl, _, rfl, _, rfl, G, n, rfl, hs, by omega, fun zh G3 H3 g3 rh => ?_⟩
    refine ⟨sz1 (n := 1) (by decide), fun D3 n3 => ?_⟩
    have g4' := Grow.newH (o := .lst [zh]) g3.2.2.1 n3
    have g4 := g3.trans g4'
    have lx1 : fs.length ≤ 131 := by
      have := paired_len pF
      simp only at this
      omega
    refine ⟨aF, D3, _, _, rfl, rfl, g4.2.1 _ _ (hs _ _ hFs), upd_same, sz1 (by simp; omega), fun D4 n4 => ?_⟩
    have g5' := Grow.new (o := .lst (fs ++ [zh])) g4.2.2.1 n4
    have g5 := g4.trans g5'
    have rc : RM _ (.ref D4) (Fs ++ [FM.hz n]) := ⟨D4, _, rfl, upd_same, paired_app (monoP pF g5.1) (paired_one (mono rh g5'.1))⟩
    have hF' : ∀ e ∈ Fs ++ [FM.hz n], e.length = n + 1 ∧ Le c0 e := fun e he => by
      rcases List.mem_append.mp he with q | q
      · exact hF e q
      · rw [List.mem_singleton.mp q]
        exact ⟨FM.hz_len n, hz_Le n c0⟩
    refine ⟨_, rfl, _, _, rfl, rfl, _, _, _, Es, Fs ++ [FM.hz n], n + 1, c0, rfl, g5.2.2.1, g5.2.2.2.2 hnt, htab.ext g5.2.1, mono rE g5.1, rc, by omega, by rw [List.length_append, List.length_singleton]; omega, hc0, hE, hF', fun z G6 H6 L R g6 dp rz => ?_⟩
    obtain ⟨t2, vL, vR, rfl, ht2, rL, rR⟩ := rz
    obtain ⟨aR, rs, rfl, hRs, pR⟩ := id rR
    have gg6 := GrowT.trans2 g5 g6
    have few := dp_few dp (by omega) (by rw [List.length_append, List.length_singleton]; omega)
    refine ⟨t2, _, rfl, SqT.of (g6.2.2.1 _ _ ht2), rfl, _, _, rfl, _, _, rfl, rfl, ?_⟩
    have sqR : SqL K H6 aR rs := SqL.of (g6.2.2.1 _ _ hRs)
    refine ⟨_, rfl, aR, rfl, ⟨_, sqR⟩, fun D hD => ?_⟩
    refine comp_list (l := R) (E := RV) (Ea := RV) (fun r => decide (0 < FM.at0 r 0)) id g6.2.2.1 hD sqR pR (by omega) ?_ ?_
    · intro y x G' H' hy s1 s2 hx CC j1 j2
      obtain ⟨ay, rfl, hay⟩ := rv_iff.mp hx
      have ly := dp.lenR y hy
      refine ⟨rfl, _, rfl, ay, _, 0, _, rfl, rfl, SqL.of (s2 _ _ hay), at_int (c := 0) (by omega), _, _, rfl, rfl, _, rfl, ite2 (fun e => ?_) (fun e => ?_)⟩
      · exact ⟨_, rfl, j1 _ G' H' (Grow.refl s2) e hx⟩
      · exact j2 G' H' (Grow.refl s2) (Bool.eq_false_iff.mpr e)
    · intro G7 H7 ys g7 n7 e7 p7
      obtain ⟨G8, g8, r8, _⟩ := took_list g7 hD n7 e7 p7
      rw [List.map_id] at r8
      refine ⟨_, rfl, _, rfl, aR, rfl, ⟨_, SqL.of (g8.2.1 _ _ (g6.2.2.1 _ _ hRs))⟩, fun D9 hD9 => ?_⟩
      refine comp_list (l := R) (E := RV) (Ea := RV) (fun r => decide (FM.at0 r 0 = 0)) id g8.2.2.1 hD9 (SqL.of (g8.2.1 _ _ (g6.2.2.1 _ _ hRs))) (monoP pR g8.1) (by omega) ?_ ?_
      · intro y x G' H' hy s1 s2 hx CC j1 j2
        obtain ⟨ay, rfl, hay⟩ := rv_iff.mp hx
        have ly := dp.lenR y hy
        refine ⟨rfl, _, rfl, ay, _, 0, _, rfl, rfl, SqL.of (s2 _ _ hay), at_int (c := 0) (by omega), rfl, _, rfl, ite2 (fun e => ?_) (fun e => ?_)⟩
        · have e' : FM.at0 y 0 = 0 := V.int.inj (of_decide_eq_true e)
          exact ⟨_, rfl, j1 _ G' H' (Grow.refl s2) (decide_eq_true e') hx⟩
        · have e' : ¬ FM.at0 y 0 = 0 := fun z => e (decide_eq_true (by rw [z]))
          exact j2 G' H' (Grow.refl s2) (decide_eq_false e')
      · intro G10 H10 ys2 g10 n10 e10 p10
        obtain ⟨G11, g11, r11, _⟩ := took_list g10 hD9 n10 e10 p10
        rw [List.map_id] at r11
        refine ⟨_, rfl, sz1 (n := 3) (by decide), fun T3 nT => ?_⟩
        have gT := Grow.new (o := .tup [.ref D, .ref D9, vL]) g11.2.2.1 nT
        exact k _ _ _ L R (gg6.trans (GrowT.of ((g8.trans g11).trans gT))) dp ⟨T3, _, _, _, rfl, upd_same, mono r8 (g11.1.trans gT.1), mono r11 gT.1, mono rL ((g8.1.trans g11.1).trans gT.1)⟩
end generators
/-! ### has_point -/
def holds (E F : List FM.Vec) (p : FM.Vec) : Bool := (E.all fun e => decide (FM.dot e p = 0)) && F.all fun f => decide (0 ≤ FM.dot f p)
namespace has_point
abbrev st : Stmt := top 23
abbrev N : List Str := ["region", "point", "_", "equations", "facets", "equation", "facet"]
theorem sc : FnScope N ["region", "point"] (defScope st) := ⟨rfl, rfl, rfl, by decide +kernel, rfl, by decide +kernel, by decide +kernel⟩
def sp : Sp := fun vs H Q _ => ∃ (G : Hp) (v u : V) (E F : List FM.Vec) (n : Nat) (p : FM.Vec), vs = [v, u] ∧ Same G H ∧ RReg G v (n, E, F) ∧ RV G u p ∧ E.length ≤ 1000 ∧ F.length ≤ 1000 ∧ (∀ e ∈ E, e.length ≤ 1000 ∧ Sm 100000 e) ∧ (∀ e ∈ F, e.length ≤ 1000 ∧ Sm 100000 e) ∧ Sm 100000 p ∧ ∀ G' H', Grow G H G' H' → Q (.bl (holds E F p)) H'
theorem ok (T : Txt mg) (h : Here K mg "has_point" st) (c_dot : Cal P w K mg base "dot" 1 ["first", "second"] dot.sp) : Cal P w K mg base "has_point" 2 ["region", "point"] sp := by
  refine h.cal (fun _ _ _ _ _ _ us hl => match us, hl with | [_, _], _ => rfl) fun f fd F => ?_
  refine F.ok sc (fun vs H Q E h => ?_) (fun cdv A outer s H vs Q E hr h => ?_)
  · obtain ⟨G, v, u, E, F, n, p, rfl, _⟩ := h
    rfl
  · obtain ⟨G, v, u, Es, Fs, n, p, rfl, hs, hv, hu, lE, lF, hE, hF, hp, k⟩ := h
    refine ⟨_, (pss_cons (ps_asg (pv 0) (pg_tup rfl (pgs_cons (pg_name (i := 2) sc.nd rfl (Or.inl rfl)) (pgs_cons (pg_name (i := 3) sc.nd rfl (Or.inl rfl)) (pgs_cons (pg_name (i := 4) sc.nd rfl (Or.inl rfl)) pgs_nil)))))
      (pss_one (ps_ret (pe_and (pe_callB (cr_all rfl) (by rfl) T.n_all (by decide +kernel) (pa_cons (pe_lc (own := [("equation", 5)]) (g := gName 5) (tt := tYes) rfl sc.nd (pi_list (pv 3)) (blkOk_by (N := N) (sc := defScope st) (by decide +kernel)) (fun _ _ _ _ _ => (pg_name (i := 5) sc.nd rfl (Or.inl rfl))) (fun _ _ _ _ _ => pts_nil) (fun _ _ _ _ _ => (pe_cmpR op_eq (pe_cal c_dot (hr.mono (by decide)) (by rfl) (pa_cons (pv 5) (pa_cons (pv 1) pa_nil))) pe_int (nomark _)))) pa_nil)) (pe_one (pe_callB (cr_all rfl) (by rfl) T.n_all (by decide +kernel) (pa_cons (pe_lc (own := [("facet", 6)]) (g := gName 6) (tt := tYes) rfl sc.nd (pi_list (pv 4)) (blkOk_by (N := N) (sc := defScope st) (by decide +kernel)) (fun _ _ _ _ _ => (pg_name (i := 6) sc.nd rfl (Or.inl rfl))) (fun _ _ _ _ _ => pts_nil) (fun _ _ _ _ _ => (pe_cmpR op_ge (pe_cal c_dot (hr.mono (by decide)) (by rfl) (pa_cons (pv 6) (pa_cons (pv 1) pa_nil))) pe_int (nomark _)))) pa_nil))))))), ?_⟩
    obtain ⟨t, vn, vE, vF, rfl, ht, rn, rE, rF⟩ := hv
    cases rn
    obtain ⟨aE, xE, rfl, hEs, pE⟩ := id rE
    obtain ⟨aF, xF, rfl, hFs, pF⟩ := id rF
    refine ⟨_, rfl, t, _, rfl, SqT.of (hs _ _ ht), rfl, _, _, rfl, _, _, rfl, _, _, rfl, rfl, ?_⟩
    have sqE : SqL K H aE xE := SqL.of (hs _ _ hEs)
    refine ⟨_, rfl, aE, rfl, ⟨_, sqE⟩, fun D hD => ?_⟩
    refine comp_list (l := Es) (E := RB) (Ea := RV) (fun _ => true) (fun e => decide (FM.dot e p = 0)) hs hD sqE pE (by omega) ?_ ?_
    · intro y x G' H' hy s1 s2 hx CC j1 _
      refine ⟨rfl, _, rfl, _, rfl, G', x, u, y, p, rfl, s2, hx, mono hu s1, (hE y hy).1, (hE y hy).2, hp, fun G2 H2 g2 => ⟨rfl, ?_⟩⟩
      refine j1 _ G2 H2 g2 rfl ?_
      show V.bl _ = V.bl _
      congr 1
      by_cases q : FM.dot y p = 0
      · rw [q]; simp
      · rw [decide_eq_false q]
        exact decide_eq_false fun z => q (V.int.inj z)
    · intro G2 H2 ys g2 n2 e2 p2
      rw [all_true] at p2
      rw [bools_eq p2] at e2
      have e1 : (Es.map fun e => decide (FM.dot e p = 0)).all id = Es.all fun e => decide (FM.dot e p = 0) := by rw [List.all_map]; rfl
      refine ⟨D, _, rfl, SqL.of e2, _, rfl, ite2 (fun e => ?_) (fun e => ?_)⟩
      · have e' : (Es.map fun e => decide (FM.dot e p = 0)).all id = true := e
        rw [e1] at e'
        have sqF : SqL K H2 aF xF := SqL.of (g2.2.2.1 _ _ (g2.1 _ _ hFs))
        refine ⟨_, rfl, aF, rfl, ⟨_, sqF⟩, fun D3 hD3 => ?_⟩
        refine comp_list (l := Fs) (E := RB) (Ea := RV) (fun _ => true) (fun e => decide (0 ≤ FM.dot e p)) g2.2.2.1 hD3 sqF (monoP pF g2.1) (by omega) ?_ ?_
        · intro y x G' H' hy s1 s2 hx CC j1 _
          refine ⟨rfl, _, rfl, _, rfl, G', x, u, y, p, rfl, s2, hx, mono hu (g2.1.trans s1), (hF y hy).1, (hF y hy).2, hp, fun G4 H4 g4 => ⟨_, _, rfl, rfl, ?_⟩⟩
          exact j1 _ G4 H4 g4 rfl rfl
        · intro G5 H5 ys5 g5 n5 e5 p5
          rw [all_true] at p5
          rw [bools_eq p5] at e5
          refine ⟨D3, _, rfl, SqL.of e5, ?_⟩
          have e6 : (Fs.map fun e => decide (0 ≤ FM.dot e p)).all id = Fs.all fun e => decide (0 ≤ FM.dot e p) := by rw [List.all_map]; rfl
          have kk := k G5 H5 (g2.trans g5)
          unfold holds at kk
          rw [e', Bool.true_and, ← e6] at kk
          exact kk
      · have e' : (Es.map fun e => decide (FM.dot e p = 0)).all id = false := Bool.eq_false_iff.mpr e
        rw [e1] at e'
        have kk := k G2 H2 g2
        unfold holds at kk
        rw [e', Bool.false_and] at kk
        exact kk
end has_point
end
end FW
set_option Elab.async false
set_option linter.all false
set_option maxRecDepth 100000
set_option maxHeartbeats 4000000
set_option exponentiation.threshold 100001
/-! the law's small defs: cell, draws, gcd, primitive, dot, sum. -/
namespace FW
open PySem L2
theorem or_both {c : Bool} {Q : V → Hp → Prop} {H : Hp} {B : Prop} (h : ∀ b, Q (.bl b) H) (hb : (∀ b, Q (.bl b) H) → B) : if c = true then Q (.bl true) H else B := ite2 (fun _ => h true) fun _ => hb h
theorem and_alt {c : Bool} {A B C : Prop} (hB : B) (hA : B → A) : if c = true then A else (if false = true then C else B) := ite2 (fun _ => hA hB) fun _ => iteF hB
section
variable {P : Program} {w : World} {K : PySem.W.Frag} {mg : Str → Option Value} {base : Heap}
/-! ### _law_cell -/
namespace l_cell
abbrev st : Stmt := top 25
abbrev N : List Str := ["_law_script", "_law_k"]
theorem sc : FnScope N ["_law_script", "_law_k"] (defScope st) := ⟨rfl, rfl, rfl, by decide +kernel, rfl, by decide +kernel, by decide +kernel⟩
def sp (K : PySem.W.Frag) : Sp := fun vs H Q _ => ∃ (a : Addr) (ns : List Int) (k : Nat), vs = [.ref a, .int (k : Nat)] ∧ SqL K H a (ns.map V.int) ∧ ∀ z, Q (.int z) H
theorem ok (T : Txt mg) (h : Here K mg "_law_cell" st) : Cal P w K mg base "_law_cell" 1 ["_law_script", "_law_k"] (sp K) := by
  refine h.cal (fun _ _ _ _ _ _ us hl => match us, hl with | [_, _], _ => rfl) fun f fd F => ?_
  refine F.ok sc (fun vs H Q E h => ?_) (fun cdv A outer s H vs Q E hr h => ?_)
  · obtain ⟨a, ns, k, rfl, _⟩ := h
    rfl
  · obtain ⟨a, ns, k, rfl, sq, q⟩ := h
    refine ⟨_, (pss_cons (ps_if (pt_cmpR op_lt (pv 1) (pe_callB call_len_seq (by rfl) T.n_len PySem.boot_len (pa_cons (pv 0) pa_nil)) (nomark _))
        (pss_one (ps_ret (pe_callTy call_int1 (by rfl) T.n_int (by decide +kernel) (pa_cons (pe_ix ix_list (pv 0) (pv 1) (fun _ _ => rfl)) pa_nil))))
        pss_nil)
      (pss_one (ps_ret pe_int))), ?_⟩
    refine ⟨_, rfl, _, rfl, a, _, rfl, .inl sq, _, _, rfl, rfl, _, rfl, ite2 (fun e => ?_) (fun _ => q 0)⟩
    have e' : (k : Int) < ((ns.map V.int).length : Nat) := of_decide_eq_true e
    have hk : k < ns.length := by rw [List.length_map] at e'; omega
    exact ⟨_, rfl, _, rfl, a, _, _, _, rfl, rfl, sq, at_int hk, .inl ⟨_, rfl, q _⟩⟩
end l_cell
/-! ### _law_draws -/
namespace l_draws
abbrev st : Stmt := top 26
abbrev N : List Str := ["_law_cell_here", "_law_limits", "_law_found", "_law_rest", "_law_state", "_law_free", "_law_limit"]
theorem sc : FnScope N ["_law_cell_here", "_law_limits"] (defScope st) := ⟨rfl, rfl, rfl, by decide +kernel, rfl, by decide +kernel, by decide +kernel⟩
/-- what is drawn, by the limits -/
def Drawn (lims ds : List Int) : Prop := Paired (fun d l => 0 ≤ d ∧ d < l) ds lims
def sp : Sp := fun vs H Q _ => ∃ (G : Hp) (c : Int) (v : V) (lims : List Int), vs = [.int c, v] ∧ Same G H ∧ RV G v lims ∧ lims.length < 16000000 ∧ (∀ l ∈ lims, 0 < l ∧ l < 1073741824) ∧ ∀ z G' H' ds, Grow G H G' H' → RV G' z ds → Drawn lims ds → Q z H'
theorem ok (T : Txt mg) (h : Here K mg "_law_draws" st) : Cal P w K mg base "_law_draws" 1 ["_law_cell_here", "_law_limits"] sp := by
  refine h.cal (fun _ _ _ _ _ _ us hl => match us, hl with | [_, _], _ => rfl) fun f fd F => ?_
  refine F.ok sc (fun vs H Q E h => ?_) (fun cdv A outer s H vs Q E hr h => ?_)
  · obtain ⟨G, c, v, lims, rfl, _⟩ := h
    rfl
  · obtain ⟨G, c, v, lims, rfl, hs, hv, hl, hb, k⟩ := h
    refine ⟨_, (pss_cons (ps_set (i := 2) sc.nd rfl (Or.inl rfl) (pe_lst pa_nil))
      (pss_cons (ps_set (i := 3) sc.nd rfl (Or.inl rfl) (pe_callB call_abs (by rfl) T.n_abs (by decide +kernel) (pa_cons (pe_callTy call_int1 (by rfl) T.n_int (by decide +kernel) (pa_cons (pv 0) pa_nil)) pa_nil)))
      (pss_cons (ps_set (i := 4) sc.nd rfl (Or.inl rfl) (pe_op op_mod (pe_callTy call_int1 (by rfl) T.n_int (by decide +kernel) (pa_cons (pv 3) pa_nil)) pe_int))
      (pss_cons (ps_set (i := 5) sc.nd rfl (Or.inl rfl) (pe_or (pe_cmpR op_lt (pv 0) pe_int (nomark _)) (pe_one (pe_cmpR op_ge (pv 0) (pe_op op_pow pe_int pe_int) (nomark _)))))
      (pss_cons (ps_for PassesOwn.never rfl (pi_list (pv 1)) (pg_name (i := 6) sc.nd rfl (Or.inl rfl))
        (pss_one (ps_if (PW.pt (pw_and (pt_val (pv 5)) (pw_and1 (pt_cmpR op_gt (pv 3) pe_int (nomark _)))))
          (pss_cons (ps_expr (pe_bm PySem.F.plainAttrs_list PySem.F.slot_list_append PySem.F.type_list_append mt_append (pv 2) (pa_cons (pe_op op_mod (pe_callTy call_int1 (by rfl) T.n_int (by decide +kernel) (pa_cons (pv 3) pa_nil)) (pv 6)) pa_nil)))
          (pss_one (ps_set (i := 3) sc.nd rfl (Or.inl rfl) (pe_op op_fdiv (pv 3) (pv 6)))))
          (pss_cons (ps_set (i := 4) sc.nd rfl (Or.inl rfl) (pe_op op_mod (pe_callTy call_int1 (by rfl) T.n_int (by decide +kernel) (pa_cons (pe_op op_add (pe_op op_mul (pv 4) pe_int) pe_int) pa_nil)) pe_int))
          (pss_cons (ps_set (i := 4) sc.nd rfl (Or.inl rfl) (pe_op op_mod (pe_callTy call_int1 (by rfl) T.n_int (by decide +kernel) (pa_cons (pe_op op_add (pe_op op_mul (pv 4) pe_int) pe_int) pa_nil)) pe_int))
          (pss_one (ps_expr (pe_bm PySem.F.plainAttrs_list PySem.F.slot_list_append PySem.F.type_list_append mt_append (pv 2) (pa_cons (pe_op op_mod (pe_callTy call_int1 (by rfl) T.n_int (by decide +kernel) (pa_cons (pe_op op_fdiv (pv 4) pe_int) pa_nil)) (pv 6)) pa_nil)))))))))
      (pss_one (ps_ret (pv 2)))))))), ?_⟩
    obtain ⟨a, rfl, ha⟩ := rv_iff.mp hv
    have sq : ∀ H', Same H H' → SqL K H' a (lims.map V.int) := fun H' s => SqL.of (s _ _ (hs _ _ ha))
    refine ⟨Nat.zero_le _, fun D nD => ?_⟩
    have g0 := Grow.newH (o := .lst []) hs nD
    refine ⟨_, rfl, .inl ⟨_, rfl, _, rfl, ?_⟩⟩
    refine ⟨_, rfl, .inl ⟨_, rfl, _, _, rfl, rfl, (show (0 : Int) < 2147483647 by decide), ?_⟩⟩
    dsimp only [gName]
    refine seq_of (a := tAsg _ _) (fun σ H' => ∃ (b : Bool) (r t : Int), H' = upd H D (.lst []) ∧ σ = [some (.int c), some (.ref a), some (.ref D), some (.int r), some (.int t), some (.bl b), none]) ?_ (fun X hX => ⟨_, rfl, _, _, rfl, rfl, _, rfl, ite2 (fun _ => hX _ _ ⟨true, _, _, rfl, rfl⟩) (fun _ => ⟨_, rfl, 10, 18, rfl, rfl, (show CPow 10 18 from ⟨by decide, by decide, by decide⟩), _, _, rfl, rfl, hX _ _ ⟨_, _, _, rfl, rfl⟩⟩)⟩)
    rintro σ H' ⟨b, r0, t0, rfl, rfl⟩
    refine ⟨_, rfl, a, rfl, ⟨_, sq _ g0.2.1⟩, for_it (walk_list (K := K) (a := a) (xs := lims.map V.int)) (fun i σ H' => ∃ (G' : Hp) (ds : List Int) (r t : Int) (y : Option V), Grow G H G' H' ∧ σ = [some (.int c), some (.ref a), some (.ref D), some (.int r), some (.int t), some (.bl b), y] ∧ Acc RI G' H' D ds ∧ Drawn (lims.take i) ds) ?_ ?_ ?_ ?_⟩
    · exact ⟨G, [], _, _, none, g0, rfl, ⟨[], upd_same, hs.free nD, .nil⟩, .nil⟩
    · rintro i σ H' hi ⟨G', ds, r, t, y, g, rfl, ac, dd⟩
      exact sq _ g.2.1
    · rintro i x σ H' H'' hi ⟨G', ds, r, t, y, g, rfl, ac, dd⟩ ⟨rfl, hx⟩
      rw [List.getElem?_map] at hx
      obtain ⟨l, hl2, rfl⟩ := Option.map_eq_some_iff.mp hx
      obtain ⟨l0, l1⟩ := hb l (List.mem_of_getElem? hl2)
      have hlen : ds.length < 16000000 := by
        rw [paired_len dd, List.length_take]
        omega
      have et : lims.take (i + 1) = lims.take i ++ [l] := by rw [List.take_add_one, hl2]; rfl
      have md : ∀ n : Int, 0 ≤ n % l ∧ n % l < l := fun n => ⟨Int.emod_nonneg _ (by omega), Int.emod_lt_of_pos _ l0⟩
      obtain ⟨acc, ea, la, sn⟩ := ac.app g nD hlen
      refine ⟨_, rfl, _, rfl, and_alt ?_ (fun hB => ⟨_, rfl, _, _, rfl, rfl, _, rfl, ite2 (fun _ => ?_) (fun _ => hB)⟩)⟩
      · refine ⟨_, rfl, _, _, rfl, rfl, .inr (show -(2 ^ 64 : Int) < _ ∧ _ from ⟨by decide, by decide⟩), _, _, rfl, rfl, .inl ⟨_, rfl, _, _, rfl, rfl, (show (0 : Int) < 2147483647 by decide), ?_⟩⟩
        refine ⟨_, rfl, _, _, rfl, rfl, .inr (show -(2 ^ 64 : Int) < _ ∧ _ from ⟨by decide, by decide⟩), _, _, rfl, rfl, .inl ⟨_, rfl, _, _, rfl, rfl, (show (0 : Int) < 2147483647 by decide), ?_⟩⟩
        refine ⟨_, rfl, ac.ty, _, rfl, _, _, rfl, rfl, (show CDiv _ 13 from ⟨by decide, by decide⟩), .inl ⟨_, rfl, _, rfl, _, _, rfl, rfl, l0, ?_⟩⟩
        refine ⟨D, acc, _, rfl, rfl, ea, la, ?_⟩
        obtain ⟨h1, h2⟩ := sn _ _ (show RI G' _ _ from rfl)
        refine ⟨G', _, _, _, _, h1, rfl, h2, ?_⟩
        rw [et]
        exact paired_app dd (paired_one (md _))
      · refine ⟨_, rfl, ac.ty, _, rfl, .inl ⟨_, rfl, _, rfl, _, _, rfl, rfl, l0, ?_⟩⟩
        refine ⟨D, acc, _, rfl, rfl, ea, la, ?_⟩
        obtain ⟨h1, h2⟩ := sn _ _ (show RI G' _ _ from rfl)
        refine ⟨_, rfl, _, rfl, _, _, rfl, rfl, ⟨l0, l1⟩, ?_⟩
        refine ⟨G', _, _, _, _, h1, rfl, h2, ?_⟩
        rw [et]
        exact paired_app dd (paired_one (md _))
    · rintro σ H' ⟨G', ds, r, t, y, g, rfl, ac, dd⟩
      rw [List.length_map, List.take_length] at dd
      obtain ⟨G2, g2, rl, _⟩ := ac.took g nD
      exact ⟨_, rfl, k _ G2 H' ds g2 rl dd⟩
end l_draws
end
end FW
set_option Elab.async false
set_option linter.all false
set_option maxRecDepth 100000
set_option maxHeartbeats 4000000
set_option exponentiation.threshold 100001
/-! the law's gcd, primitive, dot, sum. -/
namespace FW
open PySem L2
theorem abs_nat (x : Int) : (if x < 0 then -x else x) = ((x.natAbs : Nat) : Int) := by split <;> omega
theorem lt_bits (n : Nat) : n < 2 ^ Builtin.Int.intBits (n : Int) := by
  unfold Builtin.Int.intBits
  by_cases h : n = 0
  · rw [h]; simp
  · have : ((n : Int) == 0) = false := by simp [h]
    rw [this]
    simp only [Bool.false_eq_true, if_false, Int.natAbs_natCast]
    exact Nat.lt_log2_self
theorem euclid_step {a b B k : Nat} (hb : b ≠ 0) (h : if k = 0 then a * b < 2 ^ B else b ≤ a ∧ a * b * 2 ^ (k - 1) < 2 ^ B) : a % b ≤ b ∧ b * (a % b) * 2 ^ k < 2 ^ B := by
  have lt : a % b < b := Nat.mod_lt _ (Nat.pos_of_ne_zero hb)
  refine ⟨Nat.le_of_lt lt, ?_⟩
  by_cases hk : k = 0
  · rw [if_pos hk] at h
    rw [hk, Nat.pow_zero, Nat.mul_one]
    have : b * (a % b) ≤ b * a := Nat.mul_le_mul_left _ (Nat.mod_le _ _)
    rw [Nat.mul_comm b a] at this
    omega
  · rw [if_neg hk] at h
    obtain ⟨h1, h2⟩ := h
    have e : k = (k - 1) + 1 := by omega
    have h3 : 2 * (a % b) ≤ a := by
      have := Nat.div_add_mod a b
      have q : 1 ≤ a / b := Nat.div_pos h1 (Nat.pos_of_ne_zero hb)
      have : b * 1 ≤ b * (a / b) := Nat.mul_le_mul_left _ q
      omega
    have h4 : b * (a % b) * 2 ^ k = (b * (2 * (a % b))) * 2 ^ (k - 1) := by
      conv => lhs; rw [e, Nat.pow_succ]
      grind
    rw [h4]
    refine Nat.lt_of_le_of_lt ?_ h2
    refine Nat.mul_le_mul_right _ ?_
    rw [Nat.mul_comm a b]
    exact Nat.mul_le_mul_left _ h3
theorem prim_law (v : FM.Vec) : (if FM.gcdL v = 0 then v else v.map fun x => x / (FM.gcdL v : Int)) = FM.prim v := by
  unfold FM.prim
  by_cases h0 : FM.gcdL v = 0
  · rw [if_pos h0, if_pos (by omega)]
  · rw [if_neg h0]
    by_cases h1 : FM.gcdL v ≤ 1
    · rw [if_pos h1]
      have : FM.gcdL v = 1 := by omega
      rw [this]
      simp
    · rw [if_neg h1]
section
variable {P : Program} {w : World} {K : PySem.W.Frag} {mg : Str → Option Value} {base : Heap}
/-! ### _law_gcd -/
namespace l_gcd
abbrev st : Stmt := top 27
abbrev N : List Str := ["_law_a", "_law_b", "_law_k", "_law_rest"]
theorem sc : FnScope N ["_law_a", "_law_b"] (defScope st) := ⟨rfl, rfl, rfl, by decide +kernel, rfl, by decide +kernel, by decide +kernel⟩
def sp : Sp := fun vs H Q _ => ∃ x y : Int, vs = [.int x, .int y] ∧ x.natAbs < 2 ^ 100000 ∧ y.natAbs < 2 ^ 100000 ∧ Q (.int (Nat.gcd x.natAbs y.natAbs : Nat)) H
theorem ok (T : Txt mg) (h : Here K mg "_law_gcd" st) : Cal P w K mg base "_law_gcd" 1 ["_law_a", "_law_b"] sp := by
  refine h.cal (fun _ _ _ _ _ _ us hl => match us, hl with | [_, _], _ => rfl) fun f fd F => ?_
  refine F.ok sc (fun vs H Q E h => ?_) (fun cdv A outer s H vs Q E hr h => ?_)
  · obtain ⟨x, y, rfl, _⟩ := h
    rfl
  · obtain ⟨x, y, rfl, hx, hy, q⟩ := h
    refine ⟨_, (pss_cons (ps_set (i := 0) sc.nd rfl (Or.inl rfl) (pe_callB call_abs (by rfl) T.n_abs (by decide +kernel) (pa_cons (pv 0) pa_nil)))
      (pss_cons (ps_set (i := 1) sc.nd rfl (Or.inl rfl) (pe_callB call_abs (by rfl) T.n_abs (by decide +kernel) (pa_cons (pv 1) pa_nil)))
      (pss_cons (ps_for PassesOwn.never rfl (pi_range1 (by rfl) T.n_range (pa_cons (pe_op op_add (pe_op op_add (pe_bits (pv 0)) (pe_bits (pv 1))) pe_int) pa_nil)) (pg_name (i := 2) sc.nd rfl (Or.inl rfl))
        (pss_cons (ps_if (pt_cmpR op_eq (pv 1) pe_int (nomark _))
          (pss_one (ps_ret (pv 0)))
          pss_nil)
        (pss_cons (ps_set (i := 3) sc.nd rfl (Or.inl rfl) (pe_op op_mod (pe_callTy call_int1 (by rfl) T.n_int (by decide +kernel) (pa_cons (pv 0) pa_nil)) (pv 1)))
        (pss_cons (ps_set (i := 0) sc.nd rfl (Or.inl rfl) (pv 1))
        (pss_one (ps_set (i := 1) sc.nd rfl (Or.inl rfl) (pv 3)))))))
      (pss_one (ps_ret (pv 0)))))), ?_⟩
    refine ⟨_, rfl, x, rfl, ?_⟩
    rw [abs_nat]
    refine ⟨_, rfl, y, rfl, ?_⟩
    rw [abs_nat]
    have b1 : Builtin.Int.intBits ((x.natAbs : Nat) : Int) ≤ 100000 := PyProof.Rows.intBits_le (by rw [Int.natAbs_natCast]; exact hx)
    have b2 : Builtin.Int.intBits ((y.natAbs : Nat) : Int) ≤ 100000 := PyProof.Rows.intBits_le (by rw [Int.natAbs_natCast]; exact hy)
    have hB : x.natAbs * y.natAbs < 2 ^ (Builtin.Int.intBits ((x.natAbs : Nat) : Int) + Builtin.Int.intBits ((y.natAbs : Nat) : Int)) := by
      rw [Nat.pow_add]
      exact Nat.mul_lt_mul'' (lt_bits _) (lt_bits _)
    generalize e1 : Builtin.Int.intBits ((x.natAbs : Nat) : Int) = m1 at b1 hB
    generalize e2 : Builtin.Int.intBits ((y.natAbs : Nat) : Int) = m2 at b2 hB
    refine ⟨_, rfl, _, rfl, _, rfl, _, rfl, _, _, rfl, rfl, _, _, rfl, rfl, _, rfl, ?_, ?_, ?_⟩
    · omega
    · rw [e1, e2]
      have : (2 : Int) ^ 62 = 4611686018427387904 := by decide
      omega
    rw [e1, e2]
    have en : ((m1 : Int) + (m2 : Int) + 4).toNat = m1 + m2 + 4 := by omega
    rw [en]
    refine for_range (lo := 0) (n := m1 + m2 + 4) (fun i σ H' => ∃ (a b : Nat) (y2 y3 : Option V), H' = H ∧ σ = [some (.int (a : Nat)), some (.int (b : Nat)), y2, y3] ∧ Nat.gcd a b = Nat.gcd x.natAbs y.natAbs ∧ (if i = 0 then a * b < 2 ^ (m1 + m2) else b ≤ a ∧ a * b * 2 ^ (i - 1) < 2 ^ (m1 + m2))) ?_ ?_ ?_
    · exact ⟨_, _, none, none, rfl, rfl, rfl, by rw [if_pos rfl]; exact hB⟩
    · rintro i σ H' hi ⟨a, b, y2, y3, rfl, rfl, hg, hq⟩
      refine ⟨_, rfl, rfl, _, rfl, ite2 (fun e => ?_) (fun e => ?_)⟩
      · have hb : b = 0 := by
          have := V.int.inj (of_decide_eq_true e)
          omega
        refine ⟨_, rfl, ?_⟩
        rw [hb, Nat.gcd_zero_right] at hg
        rw [← hg] at q
        exact q
      · have hb : b ≠ 0 := fun z => e (decide_eq_true (by rw [z]; rfl))
        obtain ⟨h1, h2⟩ := euclid_step hb hq
        refine ⟨_, rfl, .inl ⟨_, rfl, _, rfl, _, _, rfl, rfl, Int.natCast_pos.mpr (Nat.pos_of_ne_zero hb), ?_⟩⟩
        refine ⟨_, rfl, _, rfl, b, a % b, _, _, rfl, rfl, ?_, ?_⟩
        · rw [Nat.gcd_comm, ← Nat.gcd_rec, Nat.gcd_comm]
          exact hg
        · rw [if_neg (Nat.succ_ne_zero i)]
          exact ⟨h1, h2⟩
    · rintro σ H' ⟨a, b, y2, y3, rfl, rfl, hg, hq⟩
      rw [if_neg (by omega)] at hq
      obtain ⟨h1, h2⟩ := hq
      have hz : a * b = 0 := by
        refine Classical.byContradiction fun z => ?_
        have z1 : 1 ≤ a * b := Nat.pos_of_ne_zero z
        have z2 : 1 * 2 ^ (m1 + m2 + 4 - 1) ≤ a * b * 2 ^ (m1 + m2 + 4 - 1) := Nat.mul_le_mul_right _ z1
        have z3 : 2 ^ (m1 + m2) ≤ 2 ^ (m1 + m2 + 4 - 1) := Nat.pow_le_pow_right (by decide) (by omega)
        omega
      have hb : b = 0 := by
        rcases Nat.mul_eq_zero.mp hz with z | z <;> omega
      refine ⟨_, rfl, ?_⟩
      rw [hb, Nat.gcd_zero_right] at hg
      rw [← hg] at q
      exact q
end l_gcd
/-! ### _law_primitive -/
namespace l_prim
abbrev st : Stmt := top 28
abbrev N : List Str := ["_law_vector", "_law_common", "_law_item"]
theorem sc : FnScope N ["_law_vector"] (defScope st) := ⟨rfl, rfl, rfl, by decide +kernel, rfl, by decide +kernel, by decide +kernel⟩
def sp : Sp := fun vs H Q _ => ∃ (G : Hp) (v : V) (l : FM.Vec), vs = [v] ∧ Same G H ∧ RV G v l ∧ l.length ≤ 1000 ∧ Sm 9000 l ∧ ∀ u G' H', Grow G H G' H' → RV G' u (FM.prim l) → Q u H'
theorem ok (T : Txt mg) (h : Here K mg "_law_primitive" st) (c__law_gcd : Cal P w K mg base "_law_gcd" 1 ["_law_a", "_law_b"] l_gcd.sp) : Cal P w K mg base "_law_primitive" 2 ["_law_vector"] sp := by
  refine h.cal (fun _ _ _ _ _ _ us hl => match us, hl with | [_], _ => rfl) fun f fd F => ?_
  refine F.ok sc (fun vs H Q E h => ?_) (fun cdv A outer s H vs Q E hr h => ?_)
  · obtain ⟨G, v, l, rfl, _⟩ := h
    rfl
  · obtain ⟨G, v, l, rfl, hs, hv, hl, hb, k⟩ := h
    refine ⟨_, (pss_cons (ps_set (i := 1) sc.nd rfl (Or.inr rfl) pe_int)
      (pss_cons (ps_for PassesOwn.never rfl (pi_list (pv 0)) (pg_name (i := 2) sc.nd rfl (Or.inl rfl))
        (pss_one (ps_set (i := 1) sc.nd rfl (Or.inr rfl) (pe_cal c__law_gcd (hr.mono (by decide)) (by rfl) (pa_cons (pv 1) (pa_cons (pv 2) pa_nil))))))
      (pss_cons (ps_if (pt_cmpR op_eq (pv 1) pe_int (nomark _))
        (pss_one (ps_ret (pe_callTy call_list_of (by rfl) T.n_list (by decide +kernel) (pa_cons (pv 0) pa_nil))))
        pss_nil)
      (pss_one (ps_ret (pe_lc (own := [("_law_item", 2)]) (g := gName 2) (tt := tYes) rfl sc.nd (pi_list (pv 0)) (blkOk_by (N := N) (sc := defScope st) (by decide +kernel)) (fun _ _ _ _ _ => (pg_name (i := 2) sc.nd rfl (Or.inl rfl))) (fun _ _ _ _ _ => pts_nil) (fun _ _ _ _ _ => (pe_op op_fdivW (pv 2) (pv 1))))))))), ?_⟩
    obtain ⟨a, rfl, ha⟩ := rv_iff.mp hv
    have sq : SqL K H a (l.map V.int) := SqL.of (hs _ _ ha)
    have gle : ∀ m : FM.Vec, (∀ x ∈ m, x.natAbs < 2 ^ 9000) → FM.gcdL m < 2 ^ 9000 := fun m hm => by
      have := FM.gcdL_le (v := m) (B := 2 ^ 9000 - 1) (fun x hx => by have := hm x hx; omega)
      have h2 : 0 < 2 ^ 9000 := Nat.two_pow_pos _
      omega
    refine ⟨_, rfl, a, rfl, ⟨_, sq⟩, for_it (walk_list (K := K) (a := a) (xs := l.map V.int)) (fun i σ H' => ∃ y, H' = H ∧ σ = [some (.ref a), some (.int ((FM.gcdL (l.take i) : Nat) : Int)), y]) ?_ ?_ ?_ ?_⟩
    · exact ⟨none, rfl, rfl⟩
    · rintro i σ H' hi ⟨y, rfl, rfl⟩
      exact sq
    · rintro i x σ H' H'' hi ⟨y, rfl, rfl⟩ ⟨rfl, hx⟩
      rw [List.getElem?_map] at hx
      obtain ⟨z, hz, rfl⟩ := Option.map_eq_some_iff.mp hx
      have big : (2 : Nat) ^ 9000 ≤ 2 ^ 100000 := Nat.pow_le_pow_right (by decide) (by decide)
      refine ⟨_, rfl, _, rfl, _, _, rfl, ?_, Nat.lt_of_lt_of_le (hb z (List.mem_of_getElem? hz)) big, some (.int z), rfl, ?_⟩
      · rw [Int.natAbs_natCast]
        exact Nat.lt_of_lt_of_le (gle _ fun x hx => hb x (List.mem_of_mem_take hx)) big
      · have : FM.gcdL (l.take (i + 1)) = Nat.gcd (FM.gcdL (l.take i)) z.natAbs := by
          unfold FM.gcdL
          rw [List.take_add_one, hz, List.foldl_append]
          rfl
        rw [this, Int.natAbs_natCast]
        rfl
    · rintro σ H' ⟨y, rfl, rfl⟩
      rw [List.length_map, List.take_length]
      have pl := prim_law l
      refine ⟨_, rfl, rfl, _, rfl, ite2 (fun e => ?_) (fun e => ?_)⟩
      · have e0 : FM.gcdL l = 0 := by
          have := V.int.inj (of_decide_eq_true e)
          omega
        rw [if_pos e0] at pl
        refine ⟨_, rfl, a, _, rfl, .inl sq, fun p np => ?_⟩
        refine k _ _ _ (Grow.new (o := .lst (l.map V.int)) hs np) ?_
        rw [← pl]
        exact rv_iff.mpr ⟨p, rfl, upd_same⟩
      · have e0 : FM.gcdL l ≠ 0 := fun z => e (decide_eq_true (by rw [z]; rfl))
        rw [if_neg e0] at pl
        refine ⟨_, rfl, a, rfl, ⟨_, sq⟩, fun D hD => ?_⟩
        refine comp_list (l := l) (E := RI) (Ea := RI) (fun _ => true) (fun x => x / (FM.gcdL l : Int)) hs hD sq (ints_of G l) (by omega) ?_ ?_
        · intro y x G' H' hy s1 s2 hx CC j1 _
          cases hx
          exact ⟨rfl, _, rfl, _, rfl, _, _, rfl, rfl, wide_div (b := 9000) (by omega) (by rw [Int.natAbs_natCast]; exact gle l hb) (by decide) (Nat.le_refl _), j1 _ G' H' (Grow.refl s2) rfl rfl⟩
        · intro G' H' ys g2 n e2 p
          obtain ⟨G3, g3, r3, _⟩ := took_list g2 hD n e2 p
          rw [all_true, pl] at r3
          exact k _ _ _ g3 r3
end l_prim
end
end FW
set_option Elab.async false
set_option linter.all false
set_option maxRecDepth 100000
set_option maxHeartbeats 4000000
set_option exponentiation.threshold 100001
/-! the law's dot, sum, small, point. -/
namespace FW
open PySem L2
theorem at0_c (a : Int) (l : FM.Vec) (k : Nat) : FM.at0 (a :: l) (k + 1) = FM.at0 l k := rfl
theorem range_dot : ∀ l m : FM.Vec, l.length ≤ m.length → ((List.range l.length).map fun k => FM.at0 l k * FM.at0 m k).sum = FM.dot l m
  | [], m, _ => by simp
  | a :: l, [], h => by simp at h
  | a :: l, b :: m, h => by
    rw [List.length_cons, List.range_succ_eq_map, List.map_cons, List.map_map, List.sum_cons, FM.dot_cons, ← range_dot l m (by simpa using h)]
    rfl
theorem range_comb (f s : Int) : ∀ l m : FM.Vec, l.length ≤ m.length → ((List.range l.length).map fun k => f * FM.at0 l k + s * FM.at0 m k) = FM.comb f l s m
  | [], m, _ => by simp
  | a :: l, [], h => by simp at h
  | a :: l, b :: m, h => by
    rw [List.length_cons, List.range_succ_eq_map, List.map_cons, List.map_map, FM.comb_cons, ← range_comb f s l m (by simpa using h)]
    rfl
/-- t makes a new list of xs -/
def Makes (G : Hp) (σ : L2.St) (t : TE) (xs : List V) : Prop := ∀ (H : Hp) (Q : VK), Same G H → (∀ D H', Grow G H G H' → H D = none → H' D = some (.lst xs) → Q (.ref D) H') → t σ H Q
section
variable {G : Hp} {σ : L2.St} {ta tb te : TE} {xs ys : List V} {n : Nat}
theorem Makes.one (c : Int) : Makes G σ (tLst (tCons (tC (.int c)) tNil)) [.int c] := fun H Q hs k => ⟨sz1 (n := 1) (by decide), fun D nD => k D _ (Grow.newH hs nD) nD upd_same⟩
theorem Makes.rep (c : Int) (hn : n ≤ 16000000) (hte : ∀ (H : Hp) (Q : VK), Same G H → Q (.int (n : Nat)) H → te σ H Q) : Makes G σ (tOp rRep (tLst (tCons (tC (.int c)) tNil)) te) (List.replicate n (.int c)) := fun H Q hs k => by
  refine ⟨sz1 (n := 1) (by decide), fun D nD => ?_⟩
  have g1 := Grow.newH (o := .lst [.int c]) hs nD
  refine hte _ _ g1.2.2.1 ?_
  have en : (n : Int).toNat = n := Int.toNat_natCast n
  have h62 : (2 : Int) ^ 63 = 9223372036854775808 := by decide
  refine ⟨D, (n : Int), _, rfl, rfl, upd_same, by omega, by omega, by rw [en]; exact sz1 (by simpa using hn), fun D2 n2 => ?_⟩
  have e : (List.replicate (n : Int).toNat [V.int c]).flatten = List.replicate n (V.int c) := by
    rw [en]; simp
  rw [e]
  exact k D2 _ (g1.trans (Grow.newH g1.2.2.1 n2)) (g1.2.1.free n2) upd_same
theorem Makes.cat (a : Makes G σ ta xs) (b : Makes G σ tb ys) (h : xs.length + ys.length ≤ 16000000) : Makes G σ (tOp rCat ta tb) (xs ++ ys) := fun H Q hs k => by
  refine a H _ hs fun D H1 g1 n1 e1 => ?_
  refine b H1 _ g1.2.2.1 fun D2 H2 g2 n2 e2 => ?_
  refine ⟨D, D2, _, _, rfl, rfl, g2.2.1 _ _ e1, e2, sz1 h, fun D3 n3 => ?_⟩
  have g := g1.trans g2
  exact k D3 _ (g.trans (Grow.newH g.2.2.1 n3)) (g.2.1.free n3) upd_same
end
theorem drawn_at {lims ds : List Int} (h : l_draws.Drawn lims ds) {i : Nat} {l : Int} (e : lims[i]? = some l) : i < ds.length ∧ 0 ≤ FM.at0 ds i ∧ FM.at0 ds i < l := by
  obtain ⟨d, h1, h2, h3⟩ := paired_get' h e
  obtain ⟨h4, h5⟩ := List.getElem?_eq_some_iff.mp h1
  have : FM.at0 ds i = d := by
    unfold FM.at0
    rw [List.getD_eq_getElem?_getD, h1]
    rfl
  rw [this]
  exact ⟨h4, h2, h3⟩
section
variable {P : Program} {w : World} {K : PySem.W.Frag} {mg : Str → Option Value} {base : Heap}
/-! ### _law_dot -/
namespace l_dot
abbrev st : Stmt := top 29
abbrev N : List Str := ["_law_first", "_law_second", "_law_k"]
theorem sc : FnScope N ["_law_first", "_law_second"] (defScope st) := ⟨rfl, rfl, rfl, by decide +kernel, rfl, by decide +kernel, by decide +kernel⟩
def sp : Sp := fun vs H Q _ => ∃ (G : Hp) (v u : V) (l m : FM.Vec), vs = [v, u] ∧ Same G H ∧ RV G v l ∧ RV G u m ∧ l.length ≤ 1000 ∧ m.length = l.length ∧ Sm 100000 l ∧ Sm 100000 m ∧ ∀ G' H', Grow G H G' H' → Q (.int (FM.dot l m)) H'
theorem ok (T : Txt mg) (h : Here K mg "_law_dot" st) : Cal P w K mg base "_law_dot" 1 ["_law_first", "_law_second"] sp := by
  refine h.cal (fun _ _ _ _ _ _ us hl => match us, hl with | [_, _], _ => rfl) fun f fd F => ?_
  refine F.ok sc (fun vs H Q E h => ?_) (fun cdv A outer s H vs Q E hr h => ?_)
  · obtain ⟨G, v, u, l, m, rfl, _⟩ := h
    rfl
  · obtain ⟨G, v, u, l, m, rfl, hs, hv, hu, hl, hm, b1, b2, k⟩ := h
    refine ⟨_, (pss_one (ps_ret (pe_callB (cr_sum rfl) (by rfl) T.n_sum (by decide +kernel) (pa_cons (pe_lc (own := [("_law_k", 2)]) (g := gName 2) (tt := tYes) rfl sc.nd (pi_range1 (by rfl) T.n_range (pa_cons (pe_callB call_len_seq (by rfl) T.n_len PySem.boot_len (pa_cons (pv 0) pa_nil)) pa_nil)) (blkOk_by (N := N) (sc := defScope st) (by decide +kernel)) (fun _ _ _ _ _ => (pg_name (i := 2) sc.nd rfl (Or.inl rfl))) (fun _ _ _ _ _ => pts_nil) (fun _ _ _ _ _ => (pe_op op_mulW (pe_ix (ix_listK (K := K) rfl) (pv 0) (pv 2) (fun _ _ => rfl)) (pe_ix (ix_listK (K := K) rfl) (pv 1) (pv 2) (fun _ _ => rfl))))) pa_nil)))), ?_⟩
    obtain ⟨a, rfl, ha⟩ := rv_iff.mp hv
    obtain ⟨b, rfl, hb⟩ := rv_iff.mp hu
    have sa : SqL K H a (l.map V.int) := SqL.of (hs _ _ ha)
    refine ⟨_, rfl, a, _, rfl, .inl sa, ((l.map V.int).length : Nat), rfl, by omega, ?_, fun D hD => ?_⟩
    · rw [List.length_map]
      exact Int.lt_of_le_of_lt (Int.ofNat_le.mpr hl) (by decide)
    refine comp_range (E := RI) (lo := 0) (n := (l.map V.int).length) (fun _ => true) (fun i => FM.at0 l i * FM.at0 m i) hs hD (by rw [List.length_map]; omega) ?_ ?_
    · intro i G' H' hi s1 s2 C k1 _
      rw [List.length_map] at hi
      refine ⟨rfl, _, rfl, _, rfl, a, _, _, _, rfl, rfl, SqL.of (s2 _ _ (s1 _ _ ha)), (by rw [Int.zero_add]; exact at_int hi), _, rfl, _, rfl, b, _, _, _, rfl, rfl, SqL.of (s2 _ _ (s1 _ _ hb)), (by rw [Int.zero_add]; exact at_int (by omega)), _, _, rfl, rfl, wide_mul (b1.at0 i) (b2.at0 i) (by decide) (by decide) (by decide), ?_⟩
      exact k1 _ G' H' (Grow.refl s2) rfl rfl
    · intro G' H' ys g2 n e2 p
      rw [List.length_map, all_true] at p
      refine ⟨D, (List.range l.length).map fun i => FM.at0 l i * FM.at0 m i, rfl, ?_, ?_⟩
      · rw [ints_eq p] at e2
        exact SqL.of e2
      · rw [range_dot l m (by omega)]
        exact k G' H' g2
end l_dot
/-! ### _law_sum -/
namespace l_sum
abbrev st : Stmt := top 30
abbrev N : List Str := ["_law_first", "_law_vector", "_law_second", "_law_other", "_law_k"]
theorem sc : FnScope N ["_law_first", "_law_vector", "_law_second", "_law_other"] (defScope st) := ⟨rfl, rfl, rfl, by decide +kernel, rfl, by decide +kernel, by decide +kernel⟩
def sp : Sp := fun vs H Q _ => ∃ (G : Hp) (f s : Int) (v u : V) (l m : FM.Vec), vs = [.int f, v, .int s, u] ∧ Same G H ∧ RV G v l ∧ RV G u m ∧ l.length ≤ 1000 ∧ m.length = l.length ∧ f.natAbs < 2 ^ 100000 ∧ s.natAbs < 2 ^ 100000 ∧ Sm 100000 l ∧ Sm 100000 m ∧
  ∀ z G' H', Grow G H G' H' → RV G' z (FM.comb f l s m) → Q z H'
theorem ok (T : Txt mg) (h : Here K mg "_law_sum" st) : Cal P w K mg base "_law_sum" 1 ["_law_first", "_law_vector", "_law_second", "_law_other"] sp := by
  refine h.cal (fun _ _ _ _ _ _ us hl => match us, hl with | [_, _, _, _], _ => rfl) fun f fd F => ?_
  refine F.ok sc (fun vs H Q E h => ?_) (fun cdv A outer s H vs Q E hr h => ?_)
  · obtain ⟨G, f, s, v, u, l, m, rfl, _⟩ := h
    rfl
  · obtain ⟨G, f, s, v, u, l, m, rfl, hs, hv, hu, hl, hm, hf, hs2, b1, b2, k⟩ := h
    refine ⟨_, (pss_one (ps_ret (pe_lc (own := [("_law_k", 4)]) (g := gName 4) (tt := tYes) rfl sc.nd (pi_range1 (by rfl) T.n_range (pa_cons (pe_callB call_len_seq (by rfl) T.n_len PySem.boot_len (pa_cons (pv 1) pa_nil)) pa_nil)) (blkOk_by (N := N) (sc := defScope st) (by decide +kernel)) (fun _ _ _ _ _ => (pg_name (i := 4) sc.nd rfl (Or.inl rfl))) (fun _ _ _ _ _ => pts_nil) (fun _ _ _ _ _ => (pe_op op_add (pe_op op_mulW (pv 0) (pe_ix (ix_listK (K := K) rfl) (pv 1) (pv 4) (fun _ _ => rfl))) (pe_op op_mulW (pv 2) (pe_ix (ix_listK (K := K) rfl) (pv 3) (pv 4) (fun _ _ => rfl)))))))), ?_⟩
    obtain ⟨a, rfl, ha⟩ := rv_iff.mp hv
    obtain ⟨b, rfl, hb⟩ := rv_iff.mp hu
    have sa : SqL K H a (l.map V.int) := SqL.of (hs _ _ ha)
    refine ⟨_, rfl, a, _, rfl, .inl sa, ((l.map V.int).length : Nat), rfl, by omega, ?_, fun D hD => ?_⟩
    · rw [List.length_map]
      exact Int.lt_of_le_of_lt (Int.ofNat_le.mpr hl) (by decide)
    refine comp_range (E := RI) (lo := 0) (n := (l.map V.int).length) (fun _ => true) (fun i => f * FM.at0 l i + s * FM.at0 m i) hs hD (by rw [List.length_map]; omega) ?_ ?_
    · intro i G' H' hi s1 s2 C k1 _
      rw [List.length_map] at hi
      refine ⟨rfl, _, rfl, _, rfl, _, rfl, a, _, _, _, rfl, rfl, SqL.of (s2 _ _ (s1 _ _ ha)), (by rw [Int.zero_add]; exact at_int hi), _, _, rfl, rfl, wide_mul hf (b1.at0 i) (by decide) (by decide) (by decide),
        _, rfl, _, rfl, _, rfl, b, _, _, _, rfl, rfl, SqL.of (s2 _ _ (s1 _ _ hb)), (by rw [Int.zero_add]; exact at_int (by omega)), _, _, rfl, rfl, wide_mul hs2 (b2.at0 i) (by decide) (by decide) (by decide), _, _, rfl, rfl, ?_⟩
      exact k1 _ G' H' (Grow.refl s2) rfl rfl
    · intro G' H' ys g2 n e2 p
      obtain ⟨G3, g3, r3, _⟩ := took_list g2 hD n e2 p
      rw [List.length_map, all_true, range_comb f s l m (by omega)] at r3
      exact k _ _ _ g3 r3
end l_sum
/-! ### _law_small -/
namespace l_small
abbrev st : Stmt := top 32
abbrev N : List Str := ["_law_cell_here", "_law_size", "_law_draws_here", "_law_k"]
theorem sc : FnScope N ["_law_cell_here", "_law_size"] (defScope st) := ⟨rfl, rfl, rfl, by decide +kernel, rfl, by decide +kernel, by decide +kernel⟩
def sp : Sp := fun vs H Q _ => ∃ (G : Hp) (c : Int) (n : Nat), vs = [.int c, .int (n : Nat)] ∧ Same G H ∧ 1 ≤ n ∧ n ≤ 4 ∧ ∀ (D : Addr) (G' H' : Hp) (l : List Int), Grow G H G' H' → H D = none → G' D = none → H' D = some (.lst (l.map V.int)) → l.length = n → (∀ x ∈ l, x.natAbs ≤ 20) → Q (.ref D) H'
def lims (n : Nat) : List Int := [5] ++ List.replicate n 7 ++ List.replicate n 41
theorem lims_a {n k : Nat} (h : k < n) : (lims n)[1 + n + k]? = some 41 := by
  unfold lims
  have e : ([5] ++ List.replicate n (7 : Int)).length = 1 + n := by simp; omega
  rw [List.getElem?_append_right (by omega), List.getElem?_replicate, if_pos (by omega)]
theorem lims_b {n k : Nat} (h : k < n) : (lims n)[1 + k]? = some 7 := by
  unfold lims
  have e : ([5] : List Int).length = 1 := rfl
  have e2 : (List.replicate n (7 : Int)).length = n := by simp
  rw [List.append_assoc, List.getElem?_append_right (by omega), List.getElem?_append_left (by omega), List.getElem?_replicate, if_pos (by omega)]
theorem ok (T : Txt mg) (h : Here K mg "_law_small" st) (c__law_draws : Cal P w K mg base "_law_draws" 1 ["_law_cell_here", "_law_limits"] l_draws.sp) : Cal P w K mg base "_law_small" 2 ["_law_cell_here", "_law_size"] sp := by
  refine h.cal (fun _ _ _ _ _ _ us hl => match us, hl with | [_, _], _ => rfl) fun f fd F => ?_
  refine F.ok sc (fun vs H Q E h => ?_) (fun cdv A outer s H vs Q E hr h => ?_)
  · obtain ⟨G, c, n, rfl, _⟩ := h
    rfl
  · obtain ⟨G, c, n, rfl, hs, hn1, hn4, k⟩ := h
    refine ⟨_, (pss_cons (ps_set (i := 2) sc.nd rfl (Or.inr rfl) (pe_cal c__law_draws (hr.mono (by decide)) (by rfl) (pa_cons (pv 0) (pa_cons (pe_op op_cat (pe_op op_cat (pe_lst (pa_cons pe_int pa_nil)) (pe_op op_rep (pe_lst (pa_cons pe_int pa_nil)) (pv 1))) (pe_op op_rep (pe_lst (pa_cons pe_int pa_nil)) (pv 1))) pa_nil))))
      (pss_cons (ps_if (pt_cmpR op_eq (pe_ix ix_list (pv 2) pe_int (fun _ _ => rfl)) pe_int (nomark _))
        (pss_one (ps_ret (pe_lc (own := [("_law_k", 3)]) (g := gName 3) (tt := tYes) rfl sc.nd (pi_range1 (by rfl) T.n_range (pa_cons (pv 1) pa_nil)) (blkOk_by (N := N) (sc := defScope st) (by decide +kernel)) (fun _ _ _ _ _ => (pg_name (i := 3) sc.nd rfl (Or.inl rfl))) (fun _ _ _ _ _ => pts_nil) (fun _ _ _ _ _ => (pe_op op_sub (pe_ix (ix_listK (K := K) rfl) (pv 2) (pe_op op_add (pe_op op_add pe_int (pv 1)) (pv 3)) (fun _ _ => rfl)) pe_int)))))
        pss_nil)
      (pss_cons (ps_if (pt_cmpR op_eq (pe_ix ix_list (pv 2) pe_int (fun _ _ => rfl)) pe_int (nomark _))
        (pss_one (ps_ret (pe_lc (own := [("_law_k", 3)]) (g := gName 3) (tt := tYes) rfl sc.nd (pi_range1 (by rfl) T.n_range (pa_cons (pv 1) pa_nil)) (blkOk_by (N := N) (sc := defScope st) (by decide +kernel)) (fun _ _ _ _ _ => (pg_name (i := 3) sc.nd rfl (Or.inl rfl))) (fun _ _ _ _ _ => pts_nil) (fun _ _ _ _ _ => (pe_op op_mul (pe_callTy call_int1 (by rfl) T.n_int (by decide +kernel) (pa_cons (pe_cmpR op_eq (pv 3) (pe_op op_mod (pe_ix (ix_listK (K := K) rfl) (pv 2) pe_int (fun _ _ => rfl)) (pv 1)) (nomark _)) pa_nil)) (pe_op op_sub (pe_ix (ix_listK (K := K) rfl) (pv 2) pe_int (fun _ _ => rfl)) pe_int))))))
        pss_nil)
      (pss_one (ps_ret (pe_lc (own := [("_law_k", 3)]) (g := gName 3) (tt := tYes) rfl sc.nd (pi_range1 (by rfl) T.n_range (pa_cons (pv 1) pa_nil)) (blkOk_by (N := N) (sc := defScope st) (by decide +kernel)) (fun _ _ _ _ _ => (pg_name (i := 3) sc.nd rfl (Or.inl rfl))) (fun _ _ _ _ _ => pts_nil) (fun _ _ _ _ _ => (pe_op op_sub (pe_ix (ix_listK (K := K) rfl) (pv 2) (pe_op op_add pe_int (pv 3)) (fun _ _ => rfl)) pe_int)))))))), ?_⟩
    have sz : ((n : Nat) : Int) < 2 ^ 62 := Int.lt_of_le_of_lt (Int.ofNat_le.mpr hn4) (by decide)
    have mk : Makes G (L2.start N [.int c, .int (n : Nat)]) _ _ := Makes.cat (Makes.cat (Makes.one 5) (Makes.rep (te := tVar 1) (n := n) 7 (by omega) fun H Q _ q => ⟨_, rfl, q⟩) (by simp; omega)) (Makes.rep (te := tVar 1) (n := n) 41 (by omega) fun H Q _ q => ⟨_, rfl, q⟩) (by simp; omega)
    refine ⟨_, rfl, mk H _ hs fun D H1 g1 nD eD => ?_⟩
    have el : [V.int 5] ++ List.replicate n (V.int 7) ++ List.replicate n (V.int 41) = (lims n).map V.int := by simp [lims]
    rw [el] at eD
    have g2 := g1.took nD (hs.free nD) eD
    refine ⟨_, c, .ref D, lims n, rfl, g2.2.2.1, rv_iff.mpr ⟨D, rfl, upd_same⟩, by simp [lims]; omega, fun l hl => ?_, fun z G3 H3 ds g3 rd dd => ?_⟩
    · have : l = 5 ∨ l = 7 ∨ l = 41 := by
        simp [lims] at hl
        omega
      omega
    obtain ⟨ad, rfl, had⟩ := rv_iff.mp rd
    have gg := g2.trans g3
    have sd : ∀ H', Same G3 H' → SqL K H' ad (ds.map V.int) := fun H' s => SqL.of (s _ _ had)
    have d0 := drawn_at dd (i := 0) (l := 5) rfl
    have d1 := drawn_at dd (lims_b (n := n) (k := 0) (by omega))
    -- a list that a comprehension gives
    have fin : ∀ (fn : Nat → Int), (∀ i, i < n → (fn i).natAbs ≤ 20) → ∀ (D' : Addr) (G' H' : Hp) (ys : List V), H3 D' = none → Grow G3 H3 G' H' → G' D' = none → H' D' = some (.lst ys) → Paired (RI G') ys (((List.range n).filter fun _ => true).map fn) → Q (.ref D') H' := fun fn hf D' G' H' ys nD' g' n' e' p' => by
      rw [all_true] at p'
      rw [ints_eq p'] at e'
      refine k D' G' H' _ (gg.trans g') (gg.2.1.free nD') n' e' (by simp) fun x hx => ?_
      obtain ⟨i, hi, rfl⟩ := List.mem_map.mp hx
      exact hf i (List.mem_range.mp hi)
    refine ⟨_, rfl, ad, _, 0, _, rfl, rfl, sd _ g3.2.2.1, at_int (c := 0) d0.1, rfl, _, rfl, ite2 (fun _ => ?_) (fun _ => ?_)⟩
    · refine ⟨_, rfl, (n : Int), rfl, by omega, sz, fun D' hD => ?_⟩
      refine comp_range (E := RI) (lo := 0) (n := n) (fun _ => true) (fun i => FM.at0 ds (1 + n + i) - 20) g3.2.2.1 hD (by omega) ?_ ?_
      · intro i G' H' hi s1 s2 C k1 _
        have da := drawn_at dd (lims_a hi)
        have ei : (1 : Int) + (n : Int) + (0 + (i : Int)) = ((1 + n + i : Nat) : Int) := by omega
        exact ⟨rfl, _, rfl, _, rfl, _, _, rfl, rfl, _, rfl, _, _, rfl, rfl, ad, _, _, _, rfl, rfl, sd _ (s1.trans s2), (by rw [ei]; exact at_int da.1), _, _, rfl, rfl, k1 _ G' H' (Grow.refl s2) rfl rfl⟩
      · intro G' H' ys g' n' e' p'
        refine fin _ (fun i hi => ?_) D' G' H' ys hD g' n' e' p'
        have da := drawn_at dd (lims_a hi)
        omega
    · refine ⟨_, rfl, ad, _, 0, _, rfl, rfl, sd _ g3.2.2.1, at_int (c := 0) d0.1, rfl, _, rfl, ite2 (fun _ => ?_) (fun _ => ?_)⟩
      · refine ⟨_, rfl, (n : Int), rfl, by omega, sz, fun D' hD => ?_⟩
        refine comp_range (E := RI) (lo := 0) (n := n) (fun _ => true) (fun i => (if decide (V.int (0 + (i : Int)) = V.int (FM.at0 ds 1 % (n : Int))) = true then 1 else 0) * (FM.at0 ds 1 - 3)) g3.2.2.1 hD (by omega) ?_ ?_
        · intro i G' H' hi s1 s2 C k1 _
          refine ⟨rfl, _, rfl, _, rfl, ad, _, 1, _, rfl, rfl, sd _ (s1.trans s2), at_int (c := 1) d1.1, _, rfl, _, _, rfl, rfl, (show (0 : Int) < (n : Int) by omega), rfl, .inr ⟨_, rfl, ?_⟩⟩
          refine ⟨_, rfl, ad, _, 1, _, rfl, rfl, sd _ (s1.trans s2), at_int (c := 1) d1.1, _, _, rfl, rfl, _, _, rfl, rfl, ?_, k1 _ G' H' (Grow.refl s2) rfl rfl⟩
          refine .inl ?_
          split <;> constructor <;> decide
        · intro G' H' ys g' n' e' p'
          refine fin _ (fun i hi => ?_) D' G' H' ys hD g' n' e' p'
          have h1 : 0 ≤ FM.at0 ds 1 ∧ FM.at0 ds 1 < 7 := d1.2
          split <;> omega
      · refine ⟨_, rfl, (n : Int), rfl, by omega, sz, fun D' hD => ?_⟩
        refine comp_range (E := RI) (lo := 0) (n := n) (fun _ => true) (fun i => FM.at0 ds (1 + i) - 3) g3.2.2.1 hD (by omega) ?_ ?_
        · intro i G' H' hi s1 s2 C k1 _
          have da := drawn_at dd (lims_b hi)
          have ei : (1 : Int) + (0 + (i : Int)) = ((1 + i : Nat) : Int) := by omega
          exact ⟨rfl, _, rfl, _, rfl, _, _, rfl, rfl, ad, _, _, _, rfl, rfl, sd _ (s1.trans s2), (by rw [ei]; exact at_int da.1), _, _, rfl, rfl, k1 _ G' H' (Grow.refl s2) rfl rfl⟩
        · intro G' H' ys g' n' e' p'
          refine fin _ (fun i hi => ?_) D' G' H' ys hD g' n' e' p'
          have da := drawn_at dd (lims_b hi)
          omega
end l_small
end
end FW
set_option Elab.async false
set_option linter.all false
set_option maxRecDepth 100000
set_option maxHeartbeats 4000000
set_option exponentiation.threshold 100001
/-! the law's point, rows, all_hold. -/
namespace FW
open PySem L2
theorem prim_pos {v : FM.Vec} (h : 1 ≤ FM.at0 v 0) : 1 ≤ FM.at0 (FM.prim v) 0 := by
  obtain ⟨g, hg, e⟩ := FM.prim_scale v
  have e2 : FM.at0 v 0 = g * FM.at0 (FM.prim v) 0 := by
    conv => lhs; rw [e]
    exact FM.at0_smul g _ 0
  refine Classical.byContradiction fun z => ?_
  have : g * FM.at0 (FM.prim v) 0 ≤ 0 := Int.mul_nonpos_of_nonneg_of_nonpos (by omega) (by omega)
  omega
section
variable {P : Program} {w : World} {K : PySem.W.Frag} {mg : Str → Option Value} {base : Heap}
/-! ### _law_point -/
namespace l_point
abbrev st : Stmt := top 33
abbrev N : List Str := ["_law_cell_here", "_law_n", "_law_draws_here", "_law_low", "_law_k"]
theorem sc : FnScope N ["_law_cell_here", "_law_n"] (defScope st) := ⟨rfl, rfl, rfl, by decide +kernel, rfl, by decide +kernel, by decide +kernel⟩
def sp : Sp := fun vs H Q _ => ∃ (G : Hp) (c : Int) (n : Nat), vs = [.int c, .int (n : Nat)] ∧ Same G H ∧ n ≤ 3 ∧ ∀ (z : V) (G' H' : Hp) (p : FM.Vec), Grow G H G' H' → RV G' z p → p.length = n + 1 → Sm 100 p → 1 ≤ FM.at0 p 0 → Q z H'
def lims (n : Nat) : List Int := [4] ++ List.replicate n 13 ++ [5]
theorem lims_a {n : Nat} : (lims n)[1 + n]? = some 5 := by
  unfold lims
  have e : ([4] ++ List.replicate n (13 : Int)).length = 1 + n := by simp; omega
  rw [List.getElem?_append_right (by omega), e, Nat.sub_self]
  rfl
theorem lims_b {n k : Nat} (h : k < n) : (lims n)[1 + k]? = some 13 := by
  unfold lims
  have e : ([4] : List Int).length = 1 := rfl
  have e2 : (List.replicate n (13 : Int)).length = n := by simp
  rw [List.append_assoc, List.getElem?_append_right (by omega), List.getElem?_append_left (by omega), List.getElem?_replicate, if_pos (by omega)]
theorem ok (T : Txt mg) (h : Here K mg "_law_point" st) (c__law_draws : Cal P w K mg base "_law_draws" 1 ["_law_cell_here", "_law_limits"] l_draws.sp) (c__law_primitive : Cal P w K mg base "_law_primitive" 2 ["_law_vector"] l_prim.sp) : Cal P w K mg base "_law_point" 3 ["_law_cell_here", "_law_n"] sp := by
  refine h.cal (fun _ _ _ _ _ _ us hl => match us, hl with | [_, _], _ => rfl) fun f fd F => ?_
  refine F.ok sc (fun vs H Q E h => ?_) (fun cdv A outer s H vs Q E hr h => ?_)
  · obtain ⟨G, c, n, rfl, _⟩ := h
    rfl
  · obtain ⟨G, c, n, rfl, hs, hn, k⟩ := h
    refine ⟨_, (pss_cons (ps_set (i := 2) sc.nd rfl (Or.inr rfl) (pe_cal c__law_draws (hr.mono (by decide)) (by rfl) (pa_cons (pv 0) (pa_cons (pe_op op_cat (pe_op op_cat (pe_lst (pa_cons pe_int pa_nil)) (pe_op op_rep (pe_lst (pa_cons pe_int pa_nil)) (pv 1))) (pe_lst (pa_cons pe_int pa_nil))) pa_nil))))
      (pss_cons (ps_set (i := 3) sc.nd rfl (Or.inl rfl) pe_int)
      (pss_cons (ps_if (pt_cmpR op_eq (pe_ix ix_list (pv 2) pe_int (fun _ _ => rfl)) pe_int (nomark _))
        (pss_one (ps_set (i := 3) sc.nd rfl (Or.inl rfl) (pe_op op_add pe_int (pe_ix ix_list (pv 2) (pe_op op_add pe_int (pv 1)) (fun _ _ => rfl)))))
        pss_nil)
      (pss_one (ps_ret (pe_cal c__law_primitive (hr.mono (by decide)) (by rfl) (pa_cons (pe_op op_cat (pe_lst (pa_cons (pv 3) pa_nil)) (pe_lc (own := [("_law_k", 4)]) (g := gName 4) (tt := tYes) rfl sc.nd (pi_range1 (by rfl) T.n_range (pa_cons (pv 1) pa_nil)) (blkOk_by (N := N) (sc := defScope st) (by decide +kernel)) (fun _ _ _ _ _ => (pg_name (i := 4) sc.nd rfl (Or.inl rfl))) (fun _ _ _ _ _ => pts_nil) (fun _ _ _ _ _ => (pe_op op_sub (pe_ix (ix_listK (K := K) rfl) (pv 2) (pe_op op_add pe_int (pv 4)) (fun _ _ => rfl)) pe_int)))) pa_nil))))))), ?_⟩
    have sz : ((n : Nat) : Int) < 2 ^ 62 := Int.lt_of_le_of_lt (Int.ofNat_le.mpr hn) (by decide)
    have mk : Makes G (L2.start N [.int c, .int (n : Nat)]) _ _ := Makes.cat (Makes.cat (Makes.one 4) (Makes.rep (te := tVar 1) (n := n) 13 (by omega) fun H Q _ q => ⟨_, rfl, q⟩) (by simp; omega)) (Makes.one 5) (by simp; omega)
    refine ⟨_, rfl, mk H _ hs fun D H1 g1 nD eD => ?_⟩
    have el : [V.int 4] ++ List.replicate n (V.int 13) ++ [V.int 5] = (lims n).map V.int := by simp [lims]
    rw [el] at eD
    have g2 := g1.took nD (hs.free nD) eD
    refine ⟨_, c, .ref D, lims n, rfl, g2.2.2.1, rv_iff.mpr ⟨D, rfl, upd_same⟩, by simp [lims]; omega, fun l hl => ?_, fun z G3 H3 ds g3 rd dd => ?_⟩
    · have : l = 4 ∨ l = 13 ∨ l = 5 := by
        simp [lims] at hl
        omega
      omega
    obtain ⟨ad, rfl, had⟩ := rv_iff.mp rd
    have gg := g2.trans g3
    have sd : ∀ H', Same G3 H' → SqL K H' ad (ds.map V.int) := fun H' s => SqL.of (s _ _ had)
    have d0 := drawn_at dd (i := 0) (l := 4) rfl
    have d5 := drawn_at dd (lims_a (n := n))
    dsimp only [gName]
    refine seq_of (a := tAsg _ _) (fun σ H' => H' = H3 ∧ σ = [some (.int c), some (.int (n : Nat)), some (.ref ad), some (.int 1), none]) ?_ (fun X hX => hX _ _ ⟨rfl, rfl⟩)
    rintro σ H' ⟨rfl, rfl⟩
    refine seq_of (a := tIfS _ _ _) (fun σ H'' => ∃ low : Int, 1 ≤ low ∧ low ≤ 5 ∧ H'' = H' ∧ σ = [some (.int c), some (.int (n : Nat)), some (.ref ad), some (.int low), none]) ?_ ?_
    · rintro σ H'' ⟨low, h1, h5, rfl, rfl⟩
      refine ⟨_, rfl, sz1 (n := 1) (by decide), fun D1 n1 => ?_⟩
      have g4 := Grow.newH (o := .lst [.int low]) g3.2.2.1 n1
      refine ⟨_, rfl, (n : Int), rfl, by omega, sz, fun D2 n2 => ?_⟩
      refine comp_range (E := RI) (lo := 0) (n := n) (fun _ => true) (fun i => FM.at0 ds (1 + i) - 6) g4.2.2.1 n2 (by omega) ?_ ?_
      · intro i G' H' hi s1 s2 C k1 _
        have da := drawn_at dd (lims_b hi)
        have ei : (1 : Int) + (0 + (i : Int)) = ((1 + i : Nat) : Int) := by omega
        exact ⟨rfl, _, rfl, _, rfl, _, _, rfl, rfl, ad, _, _, _, rfl, rfl, sd _ (s1.trans s2), (by rw [ei]; exact at_int da.1), _, _, rfl, rfl, k1 _ G' H' (Grow.refl s2) rfl rfl⟩
      · intro G' H' ys g' n' e' p'
        rw [all_true] at p'
        rw [ints_eq p'] at e'
        have g5 := g4.trans g'
        refine ⟨D1, D2, _, _, rfl, rfl, g'.2.1 _ _ upd_same, e', sz1 (by simp; omega), fun D3 n3 => ?_⟩
        have gN := Grow.new (o := .lst ([.int low] ++ ((List.range n).map fun i => FM.at0 ds (1 + i) - 6).map V.int)) g'.2.2.1 n3
        have small : ∀ x ∈ low :: (List.range n).map (fun i => FM.at0 ds (1 + i) - 6), x.natAbs ≤ 7 := fun x hx => by
          rcases List.mem_cons.mp hx with rfl | hx
          · omega
          · obtain ⟨i, hi, rfl⟩ := List.mem_map.mp hx
            have da := drawn_at dd (lims_b (List.mem_range.mp hi))
            omega
        have sm : ∀ m, 3 ≤ m → Sm m (low :: (List.range n).map (fun i => FM.at0 ds (1 + i) - 6)) := fun m hm x hx => Nat.lt_of_lt_of_le (Nat.lt_of_le_of_lt (small x hx) (by decide)) (Nat.pow_le_pow_right (by decide) hm : 2 ^ 3 ≤ 2 ^ m)
        refine ⟨_, .ref D3, low :: (List.range n).map (fun i => FM.at0 ds (1 + i) - 6), rfl, gN.2.2.1, rv_iff.mpr ⟨D3, rfl, by rw [upd_same]; rfl⟩, by simp; omega, sm 9000 (by decide), fun u G6 H6 g6 ru => ?_⟩
        exact k u G6 H6 _ (((gg.trans g5).trans gN).trans g6) ru (by rw [FM.prim_len]; simp) (prim_Sm (sm 100 (by decide))) (prim_pos h1)
    · intro X hX
      refine ⟨_, rfl, ad, _, 0, _, rfl, rfl, sd _ g3.2.2.1, at_int (c := 0) d0.1, rfl, _, rfl, ite2 (fun _ => ?_) (fun _ => hX _ _ ⟨1, by decide, by decide, rfl, rfl⟩)⟩
      have ei : (1 : Int) + (n : Int) = ((1 + n : Nat) : Int) := by omega
      exact ⟨_, rfl, _, rfl, _, _, rfl, rfl, ad, _, _, _, rfl, rfl, sd _ g3.2.2.1, (by rw [ei]; exact at_int d5.1), _, _, rfl, rfl, hX _ _ ⟨_, by omega, by omega, rfl, rfl⟩⟩
end l_point
/-! ### _law_all_hold -/
namespace l_all_hold
abbrev st : Stmt := top 35
abbrev N : List Str := ["_law_conditions", "_law_equations", "_law_point_here", "_law_zero", "_law_equation", "_law_condition"]
theorem sc : FnScope N ["_law_conditions", "_law_equations", "_law_point_here"] (defScope st) := ⟨rfl, rfl, rfl, by decide +kernel, rfl, by decide +kernel, by decide +kernel⟩
def sp : Sp := fun vs H Q _ => ∃ (G : Hp) (v u r : V) (F E : List FM.Vec) (p : FM.Vec), vs = [v, u, r] ∧ Same G H ∧ RM G v F ∧ RM G u E ∧ RV G r p ∧ E.length ≤ 1000 ∧ F.length ≤ 1000 ∧ p.length ≤ 1000 ∧ (∀ e ∈ E, e.length = p.length ∧ Sm 100000 e) ∧ (∀ e ∈ F, e.length = p.length ∧ Sm 100000 e) ∧ Sm 100000 p ∧ ∀ G' H', Grow G H G' H' → Q (.bl (holds E F p)) H'
theorem ok (T : Txt mg) (h : Here K mg "_law_all_hold" st) (c__law_dot : Cal P w K mg base "_law_dot" 1 ["_law_first", "_law_second"] l_dot.sp) : Cal P w K mg base "_law_all_hold" 2 ["_law_conditions", "_law_equations", "_law_point_here"] sp := by
  refine h.cal (fun _ _ _ _ _ _ us hl => match us, hl with | [_, _, _], _ => rfl) fun f fd F => ?_
  refine F.ok sc (fun vs H Q E h => ?_) (fun cdv A outer s H vs Q E hr h => ?_)
  · obtain ⟨G, v, u, r, F, E, p, rfl, _⟩ := h
    rfl
  · obtain ⟨G, v, u, r, Fs, Es, p, rfl, hs, rF, rE, hu, lE, lF, lp, hE, hF, hp, k⟩ := h
    refine ⟨_, (pss_cons (ps_set (i := 3) sc.nd rfl (Or.inl rfl) (pe_callB (cr_all rfl) (by rfl) T.n_all (by decide +kernel) (pa_cons (pe_lc (own := [("_law_equation", 4)]) (g := gName 4) (tt := tYes) rfl sc.nd (pi_list (pv 1)) (blkOk_by (N := N) (sc := defScope st) (by decide +kernel)) (fun _ _ _ _ _ => (pg_name (i := 4) sc.nd rfl (Or.inl rfl))) (fun _ _ _ _ _ => pts_nil) (fun _ _ _ _ _ => (pe_cmpR op_eq (pe_cal c__law_dot (hr.mono (by decide)) (by rfl) (pa_cons (pv 4) (pa_cons (pv 2) pa_nil))) pe_int (nomark _)))) pa_nil)))
      (pss_one (ps_ret (pe_and (pv 3) (pe_one (pe_callB (cr_all rfl) (by rfl) T.n_all (by decide +kernel) (pa_cons (pe_lc (own := [("_law_condition", 5)]) (g := gName 5) (tt := tYes) rfl sc.nd (pi_list (pv 0)) (blkOk_by (N := N) (sc := defScope st) (by decide +kernel)) (fun _ _ _ _ _ => (pg_name (i := 5) sc.nd rfl (Or.inl rfl))) (fun _ _ _ _ _ => pts_nil) (fun _ _ _ _ _ => (pe_cmpR op_ge (pe_cal c__law_dot (hr.mono (by decide)) (by rfl) (pa_cons (pv 5) (pa_cons (pv 2) pa_nil))) pe_int (nomark _)))) pa_nil))))))), ?_⟩
    obtain ⟨aE, xE, rfl, hEs, pE⟩ := id rE
    obtain ⟨aF, xF, rfl, hFs, pF⟩ := id rF
    have sqE : SqL K H aE xE := SqL.of (hs _ _ hEs)
    refine ⟨_, rfl, aE, rfl, ⟨_, sqE⟩, fun D hD => ?_⟩
    refine comp_list (l := Es) (E := RB) (Ea := RV) (fun _ => true) (fun e => decide (FM.dot e p = 0)) hs hD sqE pE (by omega) ?_ ?_
    · intro y x G' H' hy s1 s2 hx CC j1 _
      refine ⟨rfl, _, rfl, _, rfl, G', x, r, y, p, rfl, s2, hx, mono hu s1, by rw [(hE y hy).1]; exact lp, (hE y hy).1.symm, (hE y hy).2, hp, fun G2 H2 g2 => ⟨rfl, ?_⟩⟩
      refine j1 _ G2 H2 g2 rfl ?_
      show V.bl _ = V.bl _
      congr 1
      by_cases q : FM.dot y p = 0
      · rw [q]; simp
      · rw [decide_eq_false q]
        exact decide_eq_false fun z => q (V.int.inj z)
    · intro G2 H2 ys g2 n2 e2 p2
      rw [all_true] at p2
      rw [bools_eq p2] at e2
      have e1 : (Es.map fun e => decide (FM.dot e p = 0)).all id = Es.all fun e => decide (FM.dot e p = 0) := by rw [List.all_map]; rfl
      refine ⟨D, _, rfl, SqL.of e2, _, rfl, _, rfl, ite2 (fun e => ?_) (fun e => ?_)⟩
      · have e' : (Es.map fun e => decide (FM.dot e p = 0)).all id = true := e
        rw [e1] at e'
        have sqF : SqL K H2 aF xF := SqL.of (g2.2.2.1 _ _ (g2.1 _ _ hFs))
        refine ⟨_, rfl, aF, rfl, ⟨_, sqF⟩, fun D3 hD3 => ?_⟩
        refine comp_list (l := Fs) (E := RB) (Ea := RV) (fun _ => true) (fun e => decide (0 ≤ FM.dot e p)) g2.2.2.1 hD3 sqF (monoP pF g2.1) (by omega) ?_ ?_
        · intro y x G' H' hy s1 s2 hx CC j1 _
          refine ⟨rfl, _, rfl, _, rfl, G', x, r, y, p, rfl, s2, hx, mono hu (g2.1.trans s1), by rw [(hF y hy).1]; exact lp, (hF y hy).1.symm, (hF y hy).2, hp, fun G4 H4 g4 => ⟨_, _, rfl, rfl, ?_⟩⟩
          exact j1 _ G4 H4 g4 rfl rfl
        · intro G5 H5 ys5 g5 n5 e5 p5
          rw [all_true] at p5
          rw [bools_eq p5] at e5
          refine ⟨D3, _, rfl, SqL.of e5, ?_⟩
          have e6 : (Fs.map fun e => decide (0 ≤ FM.dot e p)).all id = Fs.all fun e => decide (0 ≤ FM.dot e p) := by rw [List.all_map]; rfl
          have kk := k G5 H5 (g2.trans g5)
          unfold holds at kk
          rw [e', Bool.true_and, ← e6] at kk
          exact kk
      · have e' : (Es.map fun e => decide (FM.dot e p = 0)).all id = false := Bool.eq_false_iff.mpr e
        rw [e1] at e'
        have kk := k G2 H2 g2
        unfold holds at kk
        rw [e', Bool.false_and] at kk
        exact kk
end l_all_hold
end
end FW
set_option Elab.async false
set_option linter.all false
set_option maxRecDepth 100000
set_option maxHeartbeats 4000000
set_option exponentiation.threshold 100001
/-! the law's rows. -/
namespace FW
open PySem L2
theorem ixN_lt {n j : Nat} (h : j < n) : ixN n (j : Int) = some j := by
  unfold ixN
  rw [if_pos (by omega), if_pos (by omega), Int.toNat_natCast]
section
variable {P : Program} {w : World} {K : PySem.W.Frag} {mg : Str → Option Value} {base : Heap}
namespace l_rows
abbrev st : Stmt := top 34
abbrev N : List Str := ["_law_cells", "_law_first", "_law_n", "_law_most", "_law_rows", "_law_k", "_law_row"]
theorem sc : FnScope N ["_law_cells", "_law_first", "_law_n", "_law_most"] (defScope st) := ⟨rfl, rfl, rfl, by decide +kernel, rfl, by decide +kernel, by decide +kernel⟩
def sp (K : PySem.W.Frag) : Sp := fun vs H Q _ => ∃ (G : Hp) (a : Addr) (ns : List Int) (f n m : Nat), vs = [.ref a, .int (f : Nat), .int (n : Nat), .int (m : Nat)] ∧ Same G H ∧ SqL K H a (ns.map V.int) ∧ n ≤ 3 ∧ m ≤ 6 ∧
  ∀ (z : V) (G' H' : Hp) (rows : List FM.Vec), Grow G H G' H' → RM G' z rows → rows.length ≤ m → (∀ r ∈ rows, r.length = n + 1 ∧ Le 5 r) → Q z H'
theorem ok (T : Txt mg) (h : Here K mg "_law_region_rows" st) (c__law_cell : Cal P w K mg base "_law_cell" 1 ["_law_script", "_law_k"] (l_cell.sp K)) (c__law_small : Cal P w K mg base "_law_small" 2 ["_law_cell_here", "_law_size"] l_small.sp) : Cal P w K mg base "_law_region_rows" 3 ["_law_cells", "_law_first", "_law_n", "_law_most"] (sp K) := by
  refine h.cal (fun _ _ _ _ _ _ us hl => match us, hl with | [_, _, _, _], _ => rfl) fun f fd F => ?_
  refine F.ok sc (fun vs H Q E h => ?_) (fun cdv A outer s H vs Q E hr h => ?_)
  · obtain ⟨G, a, ns, f, n, m, rfl, _⟩ := h
    rfl
  · obtain ⟨G, a, ns, f, n, m, rfl, hs, hsq, hn, hm, k⟩ := h
    refine ⟨_, (pss_cons (ps_set (i := 4) sc.nd rfl (Or.inl rfl) (pe_lst pa_nil))
      (pss_cons (ps_for PassesOwn.never rfl (pi_range1 (by rfl) T.n_range (pa_cons (pe_op op_mod (pe_callTy call_int1 (by rfl) T.n_int (by decide +kernel) (pa_cons (pe_cal c__law_cell (hr.mono (by decide)) (by rfl) (pa_cons (pv 0) (pa_cons (pv 1) pa_nil))) pa_nil)) (pe_op op_add (pv 3) pe_int)) pa_nil)) (pg_name (i := 5) sc.nd rfl (Or.inl rfl))
        (pss_cons (ps_set (i := 6) sc.nd rfl (Or.inl rfl) (pe_cal c__law_small (hr.mono (by decide)) (by rfl) (pa_cons (pe_cal c__law_cell (hr.mono (by decide)) (by rfl) (pa_cons (pv 0) (pa_cons (pe_op op_add (pe_op op_add (pv 1) pe_int) (pv 5)) pa_nil))) (pa_cons (pe_op op_add (pv 2) pe_int) pa_nil))))
        (pss_cons (ps_if (PW.pt (pw_and (pt_cmpR op_eq (pe_op op_mod (pe_op op_fdiv (pe_callTy call_int1 (by rfl) T.n_int (by decide +kernel) (pa_cons (pe_cal c__law_cell (hr.mono (by decide)) (by rfl) (pa_cons (pv 0) (pa_cons (pv 1) pa_nil))) pa_nil)) pe_int) pe_int) pe_int (nomark _)) (pw_and1 (pt_cmpR op_lt (pe_ix ix_list (pv 6) pe_int (fun _ _ => rfl)) pe_int (nomark _)))))
          (pss_one (ps_asg (pe_un un_neg (pe_ix ix_list (pv 6) pe_int (fun _ _ => rfl))) (pg_sub (pv 6) pe_int set_list)))
          pss_nil)
        (pss_one (ps_expr (pe_bm PySem.F.plainAttrs_list PySem.F.slot_list_append PySem.F.type_list_append mt_append (pv 4) (pa_cons (pv 6) pa_nil)))))))
      (pss_one (ps_ret (pv 4))))), ?_⟩
    refine ⟨Nat.zero_le _, fun D0 n0 => ?_⟩
    have g0 := Grow.newH (o := .lst []) hs n0
    refine ⟨_, rfl, _, rfl, a, ns, f, rfl, g0.2.1.seq hsq, fun z0 => .inl ⟨_, rfl, _, rfl, _, _, rfl, rfl, _, _, rfl, rfl, (show (0 : Int) < (m : Int) + 1 by omega), ?_⟩⟩
    have hz1 : 0 ≤ z0 % ((m : Int) + 1) := Int.emod_nonneg _ (by omega)
    have hz2 : z0 % ((m : Int) + 1) < (m : Int) + 1 := Int.emod_lt_of_pos _ (by omega)
    have h62 : (2 : Int) ^ 62 = 4611686018427387904 := by decide
    refine ⟨_, rfl, by omega, by omega, ?_⟩
    generalize z0 % ((m : Int) + 1) = j0 at hz1 hz2
    refine for_range (lo := 0) (n := j0.toNat) (fun i σ H' => ∃ (G' : Hp) (rows : List FM.Vec) (y5 y6 : Option V), Grow G H G' H' ∧ σ = [some (.ref a), some (.int (f : Nat)), some (.int (n : Nat)), some (.int (m : Nat)), some (.ref D0), y5, y6] ∧ Acc RV G' H' D0 rows ∧ rows.length = i ∧ ∀ r ∈ rows, r.length = n + 1 ∧ Le 5 r) ?_ ?_ ?_
    · exact ⟨G, [], none, none, g0, rfl, ⟨[], upd_same, hs.free n0, .nil⟩, rfl, by simp⟩
    · rintro i σ H' hi ⟨G', rows, y5, y6, g, rfl, ac, rl, rr⟩
      have sq' : SqL K H' a (ns.map V.int) := g.2.1.seq hsq
      have e1 : ((f : Int) + 1 + (0 + (i : Int))) = ((f + 1 + i : Nat) : Int) := by omega
      refine ⟨_, rfl, _, rfl, _, _, rfl, rfl, _, rfl, _, _, rfl, rfl, a, ns, f + 1 + i, (show [V.ref a, V.int ((f : Int) + 1 + (0 + (i : Int)))] = [V.ref a, V.int ((f + 1 + i : Nat) : Int)] by rw [e1]), sq', fun z1 => ?_⟩
      refine ⟨_, rfl, _, _, rfl, rfl, G', z1, n + 1, rfl, g.2.2.1, by omega, by omega, fun D G2 H2 l g2 nD nD2 eD ll lb => ?_⟩
      have gg := g.trans g2
      have ac2 := ac.grow g2
      have dne : D ≠ D0 := by
        obtain ⟨acc, e, _⟩ := ac
        exact ne_new nD e
      dsimp only [gName]
      refine seq_of (a := tIfS _ _ _) (fun σ H3 => ∃ (G3 : Hp) (l' : FM.Vec) (y5 : Option V), Grow G H G3 H3 ∧ σ = [some (.ref a), some (.int (f : Nat)), some (.int (n : Nat)), some (.int (m : Nat)), some (.ref D0), y5, some (.ref D)] ∧ Acc RV G3 H3 D0 rows ∧ RV G3 (.ref D) l' ∧ l'.length = n + 1 ∧ Le 5 l') ?_ ?_
      · rintro σ H3 ⟨G3, l', y5', g3, rfl, ac3, rv3, l3, b3⟩
        obtain ⟨acc, ea, la, sn⟩ := ac3.app g3 n0 (by omega)
        obtain ⟨h1, h2⟩ := sn _ _ rv3
        refine ⟨_, rfl, ac3.ty, _, rfl, D0, acc, _, rfl, rfl, ea, la, ?_⟩
        refine ⟨G3, _, _, _, h1, rfl, h2, by simp [rl], fun r hr => ?_⟩
        rcases List.mem_append.mp hr with q | q
        · exact rr r q
        · rw [List.mem_singleton.mp q]
          exact ⟨l3, b3⟩
      · intro X hX
        have b5 : ∀ x : Int, x.natAbs ≤ 20 → x.natAbs ≤ 2 ^ 5 := fun x hx => Nat.le_trans hx (by decide)
        -- the row as it is
        have asis : X [some (.ref a), some (.int (f : Nat)), some (.int (n : Nat)), some (.int (m : Nat)), some (.ref D0), some (.int (0 + (i : Int))), some (.ref D)] H2 := by
          have nDH : H D = none := g.2.1.free nD
          have gt := gg.took nDH nD2 eD
          have st := (Grow.take gg.2.2.1 nD2 eD).1
          refine hX _ _ ⟨_, l, _, gt, rfl, ?_, rv_iff.mpr ⟨D, rfl, upd_same⟩, ll, fun x hx => b5 x (lb x hx)⟩
          exact ac2.frame2 st (upd_ne dne.symm)
        have sqD : SqL K H2 D (l.map V.int) := SqL.of eD
        refine ⟨_, rfl, _, rfl, a, ns, f, rfl, g2.2.1.seq sq', fun z2 => .inl ⟨_, rfl, _, _, rfl, rfl, (show CDiv _ 10 from ⟨by decide, by decide⟩), _, _, rfl, rfl, (show (0 : Int) < 2 by decide), rfl, _, rfl, and_alt asis (fun hB => ?_)⟩⟩
        refine ⟨_, rfl, D, _, 0, _, rfl, rfl, sqD, at_int (c := 0) (by omega), _, _, rfl, rfl, _, rfl, ite2 (fun _ => ?_) (fun _ => hB)⟩
        refine ⟨_, rfl, D, _, 0, _, rfl, rfl, sqD, at_int (c := 0) (by omega), _, rfl, _, rfl, D, l.map V.int, 0, 0, rfl, rfl, eD, ?_, ?_⟩
        · rw [List.length_map, ll]
          exact ixN_lt (j := 0) (by omega)
        have e0 : (l.map V.int).set 0 (V.int (-(FM.at0 l 0))) = (l.set 0 (-(FM.at0 l 0))).map V.int := by rw [List.map_set]
        have nDH : H D = none := g.2.1.free nD
        have gm := gg.mutNew (o := .lst ((l.map V.int).set 0 (V.int (-(FM.at0 l 0))))) nDH nD2
        have gt := gm.took nDH nD2 upd_same
        have st := (Grow.take gm.2.2.1 nD2 upd_same).1
        refine hX _ _ ⟨_, l.set 0 (-(FM.at0 l 0)), _, gt, rfl, ?_, rv_iff.mpr ⟨D, rfl, by rw [upd_same, e0]⟩, by rw [List.length_set]; exact ll, fun x hx => ?_⟩
        · exact (ac2.frame (upd_ne dne.symm)).frame2 st (upd_ne dne.symm)
        · rcases List.mem_or_eq_of_mem_set hx with q | q
          · exact b5 x (lb x q)
          · rw [q, Int.natAbs_neg]
            by_cases z : FM.at0 l 0 = 0
            · rw [z]; decide
            · exact b5 _ (lb _ (FM.at0_mem z))
    · rintro σ H' ⟨G', rows, y5, y6, g, rfl, ac, rl, rr⟩
      obtain ⟨G2, g2, r2, _⟩ := ac.took g n0
      exact ⟨_, rfl, k _ G2 H' rows g2 r2 (by omega) rr⟩
end l_rows
end
end FW
set_option Elab.async false
set_option linter.all false
set_option maxRecDepth 100000
set_option maxHeartbeats 4000000
set_option exponentiation.threshold 100001
/-! the law's mean. -/
namespace FW
open PySem L2
/-- a sum of the points, rays and lines, the first point among it -/
def MeanOf (Ps Rs Ls : List FM.Vec) (v : FM.Vec) : Prop := ∀ c : FM.Vec, (∀ r ∈ Ps, 0 ≤ FM.dot c r) → (∀ r ∈ Rs, 0 ≤ FM.dot c r) → (∀ l ∈ Ls, FM.dot c l = 0) → 0 ≤ FM.dot c v ∧ ((∀ r ∈ Ps, FM.dot c r = 0) → (∀ r ∈ Rs, FM.dot c r = 0) → FM.dot c v = 0) ∧ ((∀ r ∈ Ps, 0 < FM.dot c r) → 0 < FM.dot c v)
section
variable {Ps Rs Ls : List FM.Vec} {v r : FM.Vec} {d : Int}
theorem MeanOf.first (h : r ∈ Ps) : MeanOf Ps Rs Ls r := fun c h1 h2 h3 => ⟨h1 r h, fun z _ => z r h, fun z => z r h⟩
theorem MeanOf.add (m : MeanOf Ps Rs Ls v) (hr : r ∈ Ps ∨ r ∈ Rs) (hd : 0 ≤ d) (hl : v.length = r.length) : MeanOf Ps Rs Ls (FM.comb 1 v d r) := fun c h1 h2 h3 => by
  obtain ⟨a1, a2, a3⟩ := m c h1 h2 h3
  have e := FM.dot_comb c (f := 1) (s := d) hl
  have hr0 : 0 ≤ FM.dot c r := hr.elim (h1 r) (h2 r)
  have hm : 0 ≤ d * FM.dot c r := Int.mul_nonneg hd hr0
  refine ⟨by omega, fun z1 z2 => ?_, fun z => ?_⟩
  · have := a2 z1 z2
    have e0 : FM.dot c r = 0 := hr.elim (z1 r) (z2 r)
    rw [e, e0, this]
    simp
  · have := a3 z
    omega
theorem MeanOf.line (m : MeanOf Ps Rs Ls v) (hr : r ∈ Ls) (hl : v.length = r.length) : MeanOf Ps Rs Ls (FM.comb 1 v d r) := fun c h1 h2 h3 => by
  obtain ⟨a1, a2, a3⟩ := m c h1 h2 h3
  have e := FM.dot_comb c (f := 1) (s := d) hl
  rw [h3 r hr, Int.mul_zero, Int.add_zero, Int.one_mul] at e
  rw [e]
  exact ⟨a1, a2, a3⟩
theorem MeanOf.prim (m : MeanOf Ps Rs Ls v) : MeanOf Ps Rs Ls (FM.prim v) := fun c h1 h2 h3 => by
  obtain ⟨a1, a2, a3⟩ := m c h1 h2 h3
  obtain ⟨g, hg, e, _⟩ := FM.dot_prim v
  have e := e c
  refine ⟨?_, fun z1 z2 => ?_, fun z => ?_⟩
  · refine Int.le_of_mul_le_mul_left (a := g) ?_ hg
    rw [Int.mul_zero, ← e]
    exact a1
  · have := a2 z1 z2
    rw [e] at this
    rcases Int.mul_eq_zero.mp this with q | q
    · omega
    · exact q
  · have := a3 z
    rw [e] at this
    exact Int.pos_of_mul_pos_right this hg
/-- entries at most (1 + 3 i) 2 ^ c -/
def Mle (c i : Nat) (v : FM.Vec) : Prop := ∀ x ∈ v, x.natAbs ≤ (1 + 3 * i) * 2 ^ c
theorem Mle.add {c i : Nat} (h : Mle c i v) (hr : Le c r) (hd : d.natAbs ≤ 3) : Mle c (i + 1) (FM.comb 1 v d r) := fun x hx => by
  have := FM.comb_le (F := 1) (S := 3) (B := (1 + 3 * i) * 2 ^ c) (C := 2 ^ c) (f := 1) (s := d) (by decide) hd h hr x hx
  have e : (1 + 3 * (i + 1)) * 2 ^ c = 1 * ((1 + 3 * i) * 2 ^ c) + 3 * 2 ^ c := by
    rw [Nat.one_mul, ← Nat.add_mul]
    congr 1
  omega
theorem Mle.mono {c i j : Nat} (h : Mle c i v) (q : i ≤ j) : Mle c j v := fun x hx => Nat.le_trans (h x hx) (Nat.mul_le_mul_right _ (by omega))
theorem Mle.sm {c i b : Nat} (h : Mle c i v) (hi : i ≤ 8000000) (hb : c + 26 ≤ b) : Sm b v := fun x hx => by
  have h1 : (1 + 3 * i) * 2 ^ c < 2 ^ 26 * 2 ^ c := Nat.mul_lt_mul_of_pos_right (by
    have : (2 : Nat) ^ 26 = 67108864 := by decide
    omega) (Nat.two_pow_pos c)
  rw [← Nat.pow_add] at h1
  exact Nat.lt_of_lt_of_le (Nat.lt_of_le_of_lt (h x hx) h1) (Nat.pow_le_pow_right (by decide) (by omega))
end
section
variable {P : Program} {w : World} {K : PySem.W.Frag} {mg : Str → Option Value} {base : Heap}
namespace l_mean
abbrev st : Stmt := top 36
abbrev N : List Str := ["_law_cell_here", "_law_parts", "_law_draws_here", "_law_vector", "_law_k"]
theorem sc : FnScope N ["_law_cell_here", "_law_parts"] (defScope st) := ⟨rfl, rfl, rfl, by decide +kernel, rfl, by decide +kernel, by decide +kernel⟩
def sp : Sp := fun vs H Q _ => ∃ (G : Hp) (c : Int) (z : V) (Ps Rs Ls : List FM.Vec) (n c0 : Nat), vs = [.int c, z] ∧ Same G H ∧ RGen G z (Ps, Rs, Ls) ∧ Ps ≠ [] ∧ Ps.length ≤ 2500000 ∧ Rs.length ≤ 2500000 ∧ Ls.length ≤ 1000 ∧ n ≤ 1000 ∧ c0 ≤ 8000 ∧ (∀ r ∈ Ps, r.length = n ∧ Le c0 r) ∧ (∀ r ∈ Rs, r.length = n ∧ Le c0 r) ∧ (∀ r ∈ Ls, r.length = n ∧ Le c0 r) ∧
  ∀ (u : V) (G' H' : Hp) (p : FM.Vec), Grow G H G' H' → RV G' u p → p.length = n → Sm (c0 + 26) p → MeanOf Ps Rs Ls p → Q u H'
def lims (p r l : Nat) : List Int := List.replicate (p + r) 4 ++ List.replicate l 7
theorem lims_a {p r l k : Nat} (h : k < p + r) : (lims p r l)[k]? = some 4 := by
  unfold lims
  have e2 : (List.replicate (p + r) (4 : Int)).length = p + r := by simp
  rw [List.getElem?_append_left (by omega), List.getElem?_replicate, if_pos (by omega)]
theorem lims_b {p r l k : Nat} (h : k < l) : (lims p r l)[p + r + k]? = some 7 := by
  unfold lims
  have e2 : (List.replicate (p + r) (4 : Int)).length = p + r := by simp
  rw [List.getElem?_append_right (by omega), List.getElem?_replicate, if_pos (by omega)]
theorem ok (T : Txt mg) (h : Here K mg "_law_mean" st) (c__law_draws : Cal P w K mg base "_law_draws" 1 ["_law_cell_here", "_law_limits"] l_draws.sp) (c__law_sum : Cal P w K mg base "_law_sum" 1 ["_law_first", "_law_vector", "_law_second", "_law_other"] l_sum.sp)
    (c__law_primitive : Cal P w K mg base "_law_primitive" 2 ["_law_vector"] l_prim.sp) : Cal P w K mg base "_law_mean" 3 ["_law_cell_here", "_law_parts"] sp := by
  refine h.cal (fun _ _ _ _ _ _ us hl => match us, hl with | [_, _], _ => rfl) fun f fd F => ?_
  refine F.ok sc (fun vs H Q E h => ?_) (fun cdv A outer s H vs Q E hr h => ?_)
  · obtain ⟨G, c, z, Ps, Rs, Ls, n, c0, rfl, _⟩ := h
    rfl
  · obtain ⟨G, c, z, Ps, Rs, Ls, n, c0, rfl, hs, hz, hne, lP, lR, lL, hn, hc0, hP, hR, hL, k⟩ := h
    refine ⟨_, (pss_cons (ps_set (i := 2) sc.nd rfl (Or.inl rfl) (pe_cal c__law_draws (hr.mono (by decide)) (by rfl) (pa_cons (pv 0) (pa_cons (pe_op op_cat (pe_op op_rep (pe_lst (pa_cons pe_int pa_nil)) (pe_op op_add (pe_callB call_len_seq (by rfl) T.n_len PySem.boot_len (pa_cons (pe_ix ix_tup (pv 1) pe_int (fun _ _ => rfl)) pa_nil)) (pe_callB call_len_seq (by rfl) T.n_len PySem.boot_len (pa_cons (pe_ix ix_tup (pv 1) pe_int (fun _ _ => rfl)) pa_nil)))) (pe_op op_rep (pe_lst (pa_cons pe_int pa_nil)) (pe_callB call_len_seq (by rfl) T.n_len PySem.boot_len (pa_cons (pe_ix ix_tup (pv 1) pe_int (fun _ _ => rfl)) pa_nil)))) pa_nil))))
      (pss_cons (ps_set (i := 3) sc.nd rfl (Or.inl rfl) (pe_callTy call_list_of (by rfl) T.n_list (by decide +kernel) (pa_cons (pe_ix ix_list (pe_ix ix_tup (pv 1) pe_int (fun _ _ => rfl)) pe_int (fun _ _ => rfl)) pa_nil)))
      (pss_cons (ps_for PassesOwn.never rfl (pi_range1 (by rfl) T.n_range (pa_cons (pe_callB call_len_seq (by rfl) T.n_len PySem.boot_len (pa_cons (pe_ix ix_tup (pv 1) pe_int (fun _ _ => rfl)) pa_nil)) pa_nil)) (pg_name (i := 4) sc.nd rfl (Or.inl rfl))
        (pss_one (ps_set (i := 3) sc.nd rfl (Or.inl rfl) (pe_cal c__law_sum (hr.mono (by decide)) (by rfl) (pa_cons pe_int (pa_cons (pv 3) (pa_cons (pe_ix ix_list (pv 2) (pv 4) (fun _ _ => rfl)) (pa_cons (pe_ix ix_list (pe_ix ix_tup (pv 1) pe_int (fun _ _ => rfl)) (pv 4) (fun _ _ => rfl)) pa_nil))))))))
      (pss_cons (ps_for PassesOwn.never rfl (pi_range1 (by rfl) T.n_range (pa_cons (pe_callB call_len_seq (by rfl) T.n_len PySem.boot_len (pa_cons (pe_ix ix_tup (pv 1) pe_int (fun _ _ => rfl)) pa_nil)) pa_nil)) (pg_name (i := 4) sc.nd rfl (Or.inl rfl))
        (pss_one (ps_set (i := 3) sc.nd rfl (Or.inl rfl) (pe_cal c__law_sum (hr.mono (by decide)) (by rfl) (pa_cons pe_int (pa_cons (pv 3) (pa_cons (pe_ix ix_list (pv 2) (pe_op op_add (pe_callB call_len_seq (by rfl) T.n_len PySem.boot_len (pa_cons (pe_ix ix_tup (pv 1) pe_int (fun _ _ => rfl)) pa_nil)) (pv 4)) (fun _ _ => rfl)) (pa_cons (pe_ix ix_list (pe_ix ix_tup (pv 1) pe_int (fun _ _ => rfl)) (pv 4) (fun _ _ => rfl)) pa_nil))))))))
      (pss_cons (ps_for PassesOwn.never rfl (pi_range1 (by rfl) T.n_range (pa_cons (pe_callB call_len_seq (by rfl) T.n_len PySem.boot_len (pa_cons (pe_ix ix_tup (pv 1) pe_int (fun _ _ => rfl)) pa_nil)) pa_nil)) (pg_name (i := 4) sc.nd rfl (Or.inl rfl))
        (pss_one (ps_set (i := 3) sc.nd rfl (Or.inl rfl) (pe_cal c__law_sum (hr.mono (by decide)) (by rfl) (pa_cons pe_int (pa_cons (pv 3) (pa_cons (pe_op op_sub (pe_ix ix_list (pv 2) (pe_op op_add (pe_op op_add (pe_callB call_len_seq (by rfl) T.n_len PySem.boot_len (pa_cons (pe_ix ix_tup (pv 1) pe_int (fun _ _ => rfl)) pa_nil)) (pe_callB call_len_seq (by rfl) T.n_len PySem.boot_len (pa_cons (pe_ix ix_tup (pv 1) pe_int (fun _ _ => rfl)) pa_nil))) (pv 4)) (fun _ _ => rfl)) pe_int) (pa_cons (pe_ix ix_list (pe_ix ix_tup (pv 1) pe_int (fun _ _ => rfl)) (pv 4) (fun _ _ => rfl)) pa_nil))))))))
      (pss_one (ps_ret (pe_cal c__law_primitive (hr.mono (by decide)) (by rfl) (pa_cons (pv 3) pa_nil))))))))), ?_⟩
    obtain ⟨t, vP, vR, vL, rfl, ht, rP, rR, rL⟩ := hz
    obtain ⟨aP, xP, rfl, hPs, pP⟩ := id rP
    obtain ⟨aR, xR, rfl, hRs, pR⟩ := id rR
    obtain ⟨aL, xL, rfl, hLs, pL⟩ := id rL
    have nP : xP.length = Ps.length := paired_len pP
    have nR : xR.length = Rs.length := paired_len pR
    have nL : xL.length = Ls.length := paired_len pL
    have sT : ∀ H', Same G H' → SqT K H' t [.ref aP, .ref aR, .ref aL] := fun H' s => SqT.of (s _ _ ht)
    have sP : ∀ H', Same G H' → SqL K H' aP xP := fun H' s => SqL.of (s _ _ hPs)
    have sR : ∀ H', Same G H' → SqL K H' aR xR := fun H' s => SqL.of (s _ _ hRs)
    have sL : ∀ H', Same G H' → SqL K H' aL xL := fun H' s => SqL.of (s _ _ hLs)
    refine ⟨_, rfl, Makes.cat (Makes.rep (n := xP.length + xR.length) 4 (by omega) fun H' Q' s q => ⟨_, rfl, t, _, 0, _, rfl, rfl, sT _ s, rfl, aP, xP, rfl, .inl (sP _ s), _, rfl, t, _, 1, _, rfl, rfl, sT _ s, rfl, aR, xR, rfl, .inl (sR _ s), _, _, rfl, rfl, q⟩) (Makes.rep (n := xL.length) 7 (by omega) fun H' Q' s q => ⟨_, rfl, t, _, 2, _, rfl, rfl, sT _ s, rfl, aL, xL, rfl, .inl (sL _ s), q⟩) (by simp; omega) H _ hs fun D H1 g1 nD eD => ?_⟩
    have el : List.replicate (xP.length + xR.length) (V.int 4) ++ List.replicate xL.length (V.int 7) = (lims xP.length xR.length xL.length).map V.int := by simp [lims]
    rw [el] at eD
    have g2 := g1.took nD (hs.free nD) eD
    refine ⟨_, c, .ref D, _, rfl, g2.2.2.1, rv_iff.mpr ⟨D, rfl, upd_same⟩, by simp [lims]; omega, fun l hl => ?_, fun z G3 H3 ds g3 rd dd => ?_⟩
    · have : l = 4 ∨ l = 7 := by
        simp [lims] at hl
        omega
      omega
    obtain ⟨ad, rfl, had⟩ := rv_iff.mp rd
    have gg := g2.trans g3
    have sd : ∀ H', Same G3 H' → SqL K H' ad (ds.map V.int) := fun H' s => SqL.of (s _ _ had)
    have h62 : (2 : Int) ^ 62 = 4611686018427387904 := by decide
    have drw : ∀ i, i < xP.length + xR.length → i < ds.length ∧ 0 ≤ FM.at0 ds i ∧ FM.at0 ds i < 4 := fun i hi => drawn_at dd (lims_a hi)
    have drl : ∀ i, i < xL.length → xP.length + xR.length + i < ds.length ∧ 0 ≤ FM.at0 ds (xP.length + xR.length + i) ∧ FM.at0 ds (xP.length + xR.length + i) < 7 := fun i hi => drawn_at dd (lims_b hi)
    have sm4 : ∀ d : Int, 0 ≤ d → d < 4 → d.natAbs ≤ 3 := fun d h1 h2 => by omega
    have big : ∀ d : Int, d.natAbs ≤ 3 → d.natAbs < 2 ^ 100000 := fun d hd => Nat.lt_of_le_of_lt hd (Nat.lt_of_lt_of_le (by decide : 3 < 2 ^ 2) (Nat.pow_le_pow_right (by decide) (by decide)))
    -- the first point
    obtain ⟨r0, hr0⟩ : ∃ r0, Ps[0]? = some r0 := by
      cases hPs0 : Ps with
      | nil => exact absurd hPs0 hne
      | cons r q => exact ⟨r, rfl⟩
    obtain ⟨v0, hv0, rv0⟩ := paired_get' pP hr0
    obtain ⟨a0, rfl, ha0⟩ := rv_iff.mp rv0
    have m0 := List.mem_of_getElem? hr0
    refine ⟨_, rfl, t, _, 0, _, rfl, rfl, sT _ (gg.1.trans gg.2.2.1), rfl, aP, xP, 0, _, rfl, rfl, sP _ (gg.1.trans gg.2.2.1), atI_nat (j := 0) hv0, a0, _, rfl, .inl (SqL.of (gg.2.2.1 _ _ (gg.1 _ _ ha0))), fun p np => ?_⟩
    have g4' := Grow.new (o := .lst (r0.map V.int)) gg.2.2.1 np
    have g4 := gg.trans g4'
    refine ⟨_, rfl, t, _, 0, _, rfl, rfl, sT _ (g4.1.trans g4.2.2.1), rfl, aP, xP, rfl, .inl (sP _ (g4.1.trans g4.2.2.1)), (xP.length : Nat), rfl, by omega, by omega, ?_⟩
    refine for_range (lo := 0) (n := xP.length) (fun i σ H' => ∃ (G' : Hp) (v : FM.Vec) (z : V) (y : Option V), Grow G H G' H' ∧ Same G3 G' ∧ σ = [some (.int c), some (.ref t), some (.ref ad), some z, y] ∧ RV G' z v ∧ v.length = n ∧ MeanOf Ps Rs Ls v ∧ Mle c0 i v) ?_ ?_ ?_
    · exact ⟨_, r0, .ref p, none, g4, g4'.1, rfl, rv_iff.mpr ⟨p, rfl, upd_same⟩, (hP r0 m0).1, MeanOf.first m0, fun x hx => by
        have := (hP r0 m0).2 x hx
        omega⟩
    · rintro i σ H' hi ⟨G', v, z, y, g, s3, rfl, rz, lv, mv, bv⟩
      obtain ⟨vk, hvk⟩ : ∃ vk, xP[i]? = some vk := ⟨_, List.getElem?_eq_getElem hi⟩
      obtain ⟨r, hr', rr⟩ := paired_get pP hvk
      have rm := List.mem_of_getElem? hr'
      obtain ⟨d1, d2, d3⟩ := drw i (by omega)
      have da := sm4 _ d2 d3
      refine ⟨_, rfl, _, rfl, _, rfl, ad, _, _, _, rfl, rfl, sd _ (s3.trans g.2.2.1), (by rw [Int.zero_add]; exact at_int d1), _, rfl, t, _, 0, _, rfl, rfl, sT _ (g.1.trans g.2.2.1), rfl, _, rfl, aP, xP, _, vk, rfl, rfl, sP _ (g.1.trans g.2.2.1), (by rw [Int.zero_add]; exact atI_nat hvk), ?_⟩
      refine ⟨G', 1, _, z, vk, v, r, rfl, g.2.2.1, rz, mono rr g.1, by omega, by rw [lv, (hP r rm).1], big 1 (by decide), big _ da, bv.sm (by omega) (by omega), ((hP r rm).2.sm (by omega)), fun z2 G2 H2 g2 r2 => ?_⟩
      exact ⟨G2, _, z2, _, g.trans g2, s3.trans g2.1, rfl, r2, by rw [FM.comb_len (by rw [lv, (hP r rm).1]), lv], mv.add (.inl rm) d2 (by rw [lv, (hP r rm).1]), bv.add (hP r rm).2 da⟩
    · rintro σ H' ⟨G', v, z, y, g, s3, rfl, rz, lv, mv, bv⟩
      refine ⟨_, rfl, t, _, 1, _, rfl, rfl, sT _ (g.1.trans g.2.2.1), rfl, aR, xR, rfl, .inl (sR _ (g.1.trans g.2.2.1)), (xR.length : Nat), rfl, by omega, by omega, ?_⟩
      refine for_range (lo := 0) (n := xR.length) (fun i σ H' => ∃ (G' : Hp) (v : FM.Vec) (z : V) (y : Option V), Grow G H G' H' ∧ Same G3 G' ∧ σ = [some (.int c), some (.ref t), some (.ref ad), some z, y] ∧ RV G' z v ∧ v.length = n ∧ MeanOf Ps Rs Ls v ∧ Mle c0 (xP.length + i) v) ?_ ?_ ?_
      · exact ⟨G', v, z, y, g, s3, rfl, rz, lv, mv, bv⟩
      · rintro i σ H' hi ⟨G', v, z, y, g, s3, rfl, rz, lv, mv, bv⟩
        obtain ⟨vk, hvk⟩ : ∃ vk, xR[i]? = some vk := ⟨_, List.getElem?_eq_getElem hi⟩
        obtain ⟨r, hr', rr⟩ := paired_get pR hvk
        have rm := List.mem_of_getElem? hr'
        obtain ⟨d1, d2, d3⟩ := drw (xP.length + i) (by omega)
        have da := sm4 _ d2 d3
        have ei : (xP.length : Int) + (0 + (i : Int)) = ((xP.length + i : Nat) : Int) := by omega
        refine ⟨_, rfl, _, rfl, _, rfl, t, _, 0, _, rfl, rfl, sT _ (g.1.trans g.2.2.1), rfl, aP, xP, rfl, .inl (sP _ (g.1.trans g.2.2.1)), _, rfl, _, _, rfl, rfl, ad, _, _, _, rfl, rfl, sd _ (s3.trans g.2.2.1), (by rw [ei]; exact at_int d1), _, rfl, t, _, 1, _, rfl, rfl, sT _ (g.1.trans g.2.2.1), rfl, _, rfl, aR, xR, _, vk, rfl, rfl, sR _ (g.1.trans g.2.2.1), (by rw [Int.zero_add]; exact atI_nat hvk), ?_⟩
        refine ⟨G', 1, _, z, vk, v, r, rfl, g.2.2.1, rz, mono rr g.1, by omega, by rw [lv, (hR r rm).1], big 1 (by decide), big _ da, bv.sm (by omega) (by omega), ((hR r rm).2.sm (by omega)), fun z2 G2 H2 g2 r2 => ?_⟩
        exact ⟨G2, _, z2, _, g.trans g2, s3.trans g2.1, rfl, r2, by rw [FM.comb_len (by rw [lv, (hR r rm).1]), lv], mv.add (.inr rm) d2 (by rw [lv, (hR r rm).1]), bv.add (hR r rm).2 da⟩
      · rintro σ H' ⟨G', v, z, y, g, s3, rfl, rz, lv, mv, bv⟩
        refine ⟨_, rfl, t, _, 2, _, rfl, rfl, sT _ (g.1.trans g.2.2.1), rfl, aL, xL, rfl, .inl (sL _ (g.1.trans g.2.2.1)), (xL.length : Nat), rfl, by omega, by omega, ?_⟩
        refine for_range (lo := 0) (n := xL.length) (fun i σ H' => ∃ (G' : Hp) (v : FM.Vec) (z : V) (y : Option V), Grow G H G' H' ∧ Same G3 G' ∧ σ = [some (.int c), some (.ref t), some (.ref ad), some z, y] ∧ RV G' z v ∧ v.length = n ∧ MeanOf Ps Rs Ls v ∧ Mle c0 (xP.length + xR.length + i) v) ?_ ?_ ?_
        · exact ⟨G', v, z, y, g, s3, rfl, rz, lv, mv, bv⟩
        · rintro i σ H' hi ⟨G', v, z, y, g, s3, rfl, rz, lv, mv, bv⟩
          obtain ⟨vk, hvk⟩ : ∃ vk, xL[i]? = some vk := ⟨_, List.getElem?_eq_getElem hi⟩
          obtain ⟨r, hr', rr⟩ := paired_get pL hvk
          have rm := List.mem_of_getElem? hr'
          obtain ⟨d1, d2, d3⟩ := drl i hi
          have da : (FM.at0 ds (xP.length + xR.length + i) - 3).natAbs ≤ 3 := by omega
          have ei : (xP.length : Int) + (xR.length : Int) + (0 + (i : Int)) = ((xP.length + xR.length + i : Nat) : Int) := by omega
          refine ⟨_, rfl, _, rfl, _, rfl, t, _, 0, _, rfl, rfl, sT _ (g.1.trans g.2.2.1), rfl, aP, xP, rfl, .inl (sP _ (g.1.trans g.2.2.1)), _, rfl, t, _, 1, _, rfl, rfl, sT _ (g.1.trans g.2.2.1), rfl, aR, xR, rfl, .inl (sR _ (g.1.trans g.2.2.1)), _, _, rfl, rfl, _, rfl, _, _, rfl, rfl, ad, _, _, _, rfl, rfl, sd _ (s3.trans g.2.2.1), (by rw [ei]; exact at_int d1), _, _, rfl, rfl, _, rfl, t, _, 2, _, rfl, rfl, sT _ (g.1.trans g.2.2.1), rfl, _, rfl, aL, xL, _, vk, rfl, rfl, sL _ (g.1.trans g.2.2.1), (by rw [Int.zero_add]; exact atI_nat hvk), ?_⟩
          refine ⟨G', 1, _, z, vk, v, r, rfl, g.2.2.1, rz, mono rr g.1, by omega, by rw [lv, (hL r rm).1], big 1 (by decide), big _ da, bv.sm (by omega) (by omega), ((hL r rm).2.sm (by omega)), fun z2 G2 H2 g2 r2 => ?_⟩
          exact ⟨G2, _, z2, _, g.trans g2, s3.trans g2.1, rfl, r2, by rw [FM.comb_len (by rw [lv, (hL r rm).1]), lv], mv.line rm (by rw [lv, (hL r rm).1]), bv.add (hL r rm).2 da⟩
        · rintro σ H' ⟨G', v, z, y, g, s3, rfl, rz, lv, mv, bv⟩
          refine ⟨_, rfl, G', z, v, rfl, g.2.2.1, rz, by omega, bv.sm (by omega) (by omega), fun u G6 H6 g6 ru => ?_⟩
          exact k u G6 H6 _ (g.trans g6) ru (by rw [FM.prim_len]; exact lv) (prim_Sm (bv.sm (by omega) (Nat.le_refl _))) mv.prim
end l_mean
end
end FW
set_option Elab.async false
set_option linter.all false
set_option maxRecDepth 100000
set_option maxHeartbeats 4000000
set_option exponentiation.threshold 100001
/-! the law. -/
namespace FW
open PySem L2 LamX
/-! ### plain facts -/
theorem holds_iff {E F : List FM.Vec} {p : FM.Vec} : holds E F p = true ↔ (∀ e ∈ E, FM.dot e p = 0) ∧ ∀ f ∈ F, 0 ≤ FM.dot f p := by
  unfold holds
  rw [Bool.and_eq_true, List.all_eq_true, List.all_eq_true]
  simp only [decide_eq_true_eq]
theorem bool_eq {a b : Bool} (h : a = true ↔ b = true) : a = b := by cases a <;> cases b <;> simp_all
theorem dp_few2 {s : Nat} {es cs L R : List FM.Vec} (h : FM.DP s (FM.cons es cs) L R) (hs : s ≤ 4) (hn : es.length + cs.length ≤ 132) : R.length ≤ 2352637 := by
  obtain ⟨D, Rs, i, _, p⟩ := h
  rw [p.length_eq, List.length_map]
  have q := i.many3 hs
  rw [FM.cons_len] at q
  have q2 : (es.length + cs.length + 1) * (es.length + cs.length + 1) * (es.length + cs.length + 1) ≤ 133 * 133 * 133 := Nat.mul_le_mul (Nat.mul_le_mul (by omega) (by omega)) (by omega)
  omega
/-- what is known of the region at zr -/
def Rg (n : Nat) (cs es : List FM.Vec) (G : Hp) (zr : V) : Prop := (zr = .non ∧ ∀ p : FM.Vec, p.length = n + 1 → 1 ≤ FM.at0 p 0 → holds es cs p = false) ∨
  ∃ E F, RReg G zr (n, E, F) ∧ (∀ p : FM.Vec, p.length = n + 1 → 0 ≤ FM.at0 p 0 → holds E F p = holds es cs p) ∧ E.length ≤ 4 ∧ F.length ≤ 9 ∧ (∀ e ∈ E, e.length = n + 1 ∧ Le 301 e) ∧ (∀ e ∈ F, e.length = n + 1 ∧ Le 301 e) ∧ ∀ L R, FM.DP (n + 1) (FM.cons E (F ++ [FM.hz n])) L R → (R.filter fun r => decide (0 < FM.at0 r 0)) ≠ []
theorem Rg.mono {n : Nat} {cs es : List FM.Vec} {G G' : Hp} {zr : V} (h : Rg n cs es G zr) (s : Same G G') : Rg n cs es G' zr := by
  rcases h with h | ⟨E, F, h1, h2⟩
  · exact .inl h
  · exact .inr ⟨E, F, FW.mono h1 s, h2⟩
theorem rg_none {n : Nat} {cs es L1 R1 : List FM.Vec} {G : Hp} (dp : FM.DP (n + 1) (FM.cons es (cs ++ [FM.hz n])) L1 R1) (h0 : ∀ r ∈ R1, FM.at0 r 0 = 0) : Rg n cs es G .non := by
  refine .inl ⟨rfl, fun p lp hp => Bool.eq_false_iff.mpr fun z => ?_⟩
  exact FM.no_point dp h0 lp hp (holds_iff.mp z)
theorem rg_some {n : Nat} {cs es L1 R1 E F0 : List FM.Vec} {G : Hp} {z : V} (hn : n ≤ 3) (hcs : ∀ e ∈ cs, e.length = n + 1 ∧ Le 5 e) (hes : ∀ e ∈ es, e.length = n + 1 ∧ Le 5 e) (lc : cs.length ≤ 6) (le : es.length ≤ 2) (dp : FM.DP (n + 1) (FM.cons es (cs ++ [FM.hz n])) L1 R1) (hex : ∃ r ∈ R1, FM.at0 r 0 ≠ 0) (dp2 : FM.DP (n + 1) (FM.cons L1 R1) E F0)
    (hr : RReg G z (n, E, F0.filter fun f => decide (f ≠ FM.hz n))) : Rg n cs es G z := by
  have les : ∀ e ∈ es, e.length = n + 1 := fun e he => (hes e he).1
  have lcs : ∀ e ∈ cs, e.length = n + 1 := fun e he => (hcs e he).1
  have hC : 1 ≤ 2 ^ 5 := by decide
  have hA : ∀ c ∈ FM.cons es (cs ++ [FM.hz n]), ∀ x ∈ c.1, x.natAbs ≤ 2 ^ 5 := fun d hd => by
    rcases FM.mem_cons'.mp hd with ⟨h1, _⟩ | ⟨h1, _⟩
    · exact (hes _ h1).2
    · rcases List.mem_append.mp h1 with q | q
      · exact (hcs _ q).2
      · rw [List.mem_singleton.mp q]
        exact hz_Le n 5
  have hL1 : ∀ d ∈ FM.cons L1 R1, ∀ x ∈ d.1, x.natAbs ≤ 2 ^ 42 := fun d hd => by
    rcases FM.mem_cons'.mp hd with ⟨h1, _⟩ | ⟨h1, _⟩
    · exact le_sg (c := 5) (by omega) (dp.boundL hC hA _ h1)
    · exact le_sg (c := 5) (by omega) (dp.boundR hC hA _ h1)
  have hC2 : 1 ≤ 2 ^ 42 := by decide
  have fac := FM.DP.facets dp dp2 (fun c hc => by
    rcases FM.mem_cons'.mp hc with ⟨h1, _⟩ | ⟨h1, _⟩
    · exact les _ h1
    · rcases List.mem_append.mp h1 with q | q
      · exact lcs _ q
      · rw [List.mem_singleton.mp q]; exact FM.hz_len n)
  rw [FM.cons_len, List.length_append, List.length_singleton] at fac
  have few := dp2.fewL
  refine .inr ⟨E, _, hr, fun p lp hp => ?_, by omega, Nat.le_trans (List.length_filter_le _ _) (by omega), fun e he => ⟨dp2.lenL e he, le_sg (c := 42) (by omega) (dp2.boundL hC2 hL1 e he)⟩, fun e he => ?_, fun L R dp3 => ?_⟩
  · refine bool_eq ?_
    rw [holds_iff, holds_iff]
    exact FM.same_points dp dp2 les lcs lp hp
  · have hm := (FM.mem_drop.mp he).1
    exact ⟨dp2.lenR e hm, le_sg (c := 42) (by omega) (dp2.boundR hC2 hL1 e hm)⟩
  · exact FM.has_gen dp dp2 les lcs dp3 fun z => by
      obtain ⟨r, h1, h2⟩ := hex
      exact h2 (z r h1)
/-- a mean of the generators is a point of the region -/
theorem mean_in {n : Nat} {E F L R : List FM.Vec} {p : FM.Vec} (dp : FM.DP (n + 1) (FM.cons E (F ++ [FM.hz n])) L R) (m : MeanOf (R.filter fun r => decide (0 < FM.at0 r 0)) (R.filter fun r => decide (FM.at0 r 0 = 0)) L p) : holds E F p = true ∧ 0 < FM.at0 p 0 := by
  have inP : ∀ {r : FM.Vec}, r ∈ (R.filter fun r => decide (0 < FM.at0 r 0)) → r ∈ R ∧ 0 < FM.at0 r 0 := fun {r} h => by
    obtain ⟨h1, h2⟩ := List.mem_filter.mp h
    exact ⟨h1, of_decide_eq_true h2⟩
  have inR : ∀ {r : FM.Vec}, r ∈ (R.filter fun r => decide (FM.at0 r 0 = 0)) → r ∈ R ∧ FM.at0 r 0 = 0 := fun {r} h => by
    obtain ⟨h1, h2⟩ := List.mem_filter.mp h
    exact ⟨h1, of_decide_eq_true h2⟩
  have cn : ∀ r ∈ R, (∀ e ∈ E, FM.dot e r = 0) ∧ ∀ c ∈ F ++ [FM.hz n], 0 ≤ FM.dot c r := fun r hr => FM.cn_iff.mp (dp.cnR r hr)
  have lin : ∀ l ∈ L, (∀ e ∈ E, FM.dot e l = 0) ∧ ∀ c ∈ F ++ [FM.hz n], FM.dot c l = 0 := fun l hl => ⟨fun e he => dp.linL l hl (e, true) (FM.mem_cons'.mpr (.inl ⟨he, rfl⟩)), fun c hc => dp.linL l hl (c, false) (FM.mem_cons'.mpr (.inr ⟨hc, rfl⟩))⟩
  refine ⟨holds_iff.mpr ⟨fun e he => ?_, fun f hf => ?_⟩, ?_⟩
  · have q := m e (fun r hr => by rw [(cn r (inP hr).1).1 e he]; exact Int.le_refl _) (fun r hr => by rw [(cn r (inR hr).1).1 e he]; exact Int.le_refl _) (fun l hl => (lin l hl).1 e he)
    exact q.2.1 (fun r hr => (cn r (inP hr).1).1 e he) (fun r hr => (cn r (inR hr).1).1 e he)
  · have hf' : f ∈ F ++ [FM.hz n] := List.mem_append_left _ hf
    exact (m f (fun r hr => (cn r (inP hr).1).2 f hf') (fun r hr => (cn r (inR hr).1).2 f hf') (fun l hl => (lin l hl).2 f hf')).1
  · have hz' : FM.hz n ∈ F ++ [FM.hz n] := List.mem_append_right _ (List.mem_singleton.mpr rfl)
    have q := m (FM.hz n) (fun r hr => (cn r (inP hr).1).2 _ hz') (fun r hr => (cn r (inR hr).1).2 _ hz') (fun l hl => (lin l hl).2 _ hz')
    have := q.2.2 fun r hr => by rw [FM.dot_hz]; exact (inP hr).2
    rw [FM.dot_hz] at this
    exact this
theorem bit1 (z : Int) : (Builtin.bitAnd z 1).natAbs ≤ 1 := by
  unfold Builtin.bitAnd
  have h1 : decide ((0 : Int) ≤ 1) = true := by decide
  rw [h1]
  have a1 : ∀ n : Nat, n &&& (1 : Int).toNat ≤ 1 := fun n => Nat.and_le_right
  have a2 : ∀ n : Nat, (1 : Int).toNat &&& n ≤ 1 := fun n => Nat.and_le_left
  cases decide (0 ≤ z)
  · have := a2 (Builtin.bitNot z).toNat
    show ((1 : Int) - (((1 : Int).toNat &&& (Builtin.bitNot z).toNat : Nat) : Int)).natAbs ≤ 1
    omega
  · have := a1 z.toNat
    show (((z.toNat &&& (1 : Int).toNat : Nat) : Int)).natAbs ≤ 1
    omega
theorem sqL_ext {K : PySem.W.Frag} {H H' : Hp} {a : Addr} {xs : List V} (h : SqL K H a xs) (e : ExtN H H') : SqL K H' a xs := by
  rcases h with (h | ⟨o, h⟩) | h
  · exact .inl (.inl (e _ _ h (by intro _ z; cases z)))
  · exact .inl (.inr ⟨o, e _ _ h (by intro _ z; cases z)⟩)
  · exact .inr h
theorem cut_map (ns : List Int) (lo hi : Option Int) : ∃ ms : List Int, cutV (ns.map V.int) lo hi = ms.map V.int ∧ ms.length ≤ ns.length := by
  refine ⟨(ns.drop (HT.sIx (ns.map V.int).length 0 lo)).take (HT.sIx (ns.map V.int).length (ns.map V.int).length hi - HT.sIx (ns.map V.int).length 0 lo), ?_, ?_⟩
  · unfold cutV
    rw [List.map_take, List.map_drop]
  · rw [List.length_take, List.length_drop]
    omega
/-- a point, its item 0 at least 1 -/
def RPt (n : Nat) (G : Hp) (v : V) (_ : Unit) : Prop := ∃ p : FM.Vec, RV G v p ∧ p.length = n + 1 ∧ Sm 100 p ∧ 1 ≤ FM.at0 p 0
instance {n : Nat} : Mono (RPt n) := ⟨fun s ⟨p, h1, h2⟩ => ⟨p, mono h1 s, h2⟩⟩
section
variable {P : Program} {w : World} {K : PySem.W.Frag} {mg : Str → Option Value} {base : Heap}
/-- what holds while the law runs -/
structure LS (K : PySem.W.Frag) (Pt a : Addr) (ns : List Int) (n : Nat) (cs es : List FM.Vec) (zc ze zr : V) (G H : Hp) : Prop where
  s : Same G H
  nt : NT G
  tab : TabS H Pt qE
  sq : SqL K H a (ns.map V.int)
  rc : RM G zc cs
  re : RM G ze es
  rg : Rg n cs es G zr
theorem LS.grow {Pt a : Addr} {ns : List Int} {n : Nat} {cs es : List FM.Vec} {zc ze zr : V} {G H G' H' : Hp} (l : LS K Pt a ns n cs es zc ze zr G H) (g : Grow G H G' H') : LS K Pt a ns n cs es zc ze zr G' H' :=
  ⟨g.2.2.1, g.2.2.2.2 l.nt, l.tab.ext g.2.1, g.2.1.seq l.sq, mono l.rc g.1, mono l.re g.1, l.rg.mono g.1⟩
theorem LS.growT {Pt a : Addr} {ns : List Int} {n : Nat} {cs es : List FM.Vec} {zc ze zr : V} {G H G' H' : Hp} (l : LS K Pt a ns n cs es zc ze zr G H) (g : GrowT Pt G H G' H') : LS K Pt a ns n cs es zc ze zr G' H' :=
  ⟨g.2.2.1, g.2.2.2.2.1 l.nt, g.2.2.2.2.2 l.tab, sqL_ext l.sq g.2.1, mono l.rc g.1, mono l.re g.1, l.rg.mono g.1⟩
namespace law
abbrev st : Stmt := top 37
abbrev N : List Str := ["_law_script", "_law_n", "_law_conditions", "_law_equations", "_law_region", "_law_points", "_law_cell_here", "_law_point_here", "_law_due", "_law_told", "_law_parts", "_law_beside", "_law_at"]
theorem sc : FnScope N ["_law_script"] (defScope st) := ⟨rfl, rfl, rfl, by decide +kernel, rfl, by decide +kernel, by decide +kernel⟩
def sp (K : PySem.W.Frag) (Pt : Addr) : Sp := fun vs H Q _ => ∃ (a : Addr) (ns : List Int), vs = [.ref a] ∧ SqL K H a (ns.map V.int) ∧ ns.length ≤ 1000000 ∧ TabS H Pt qE ∧ ∀ H', Q (.bl true) H'
theorem fn {Pt f : Addr} {fd : FuncData} (T : Txt mg) (F : Fun K "law" "law" st f fd) (c__law_cell : Cal P w K mg base "_law_cell" 1 ["_law_script", "_law_k"] (l_cell.sp K)) (c__law_region_rows : Cal P w K mg base "_law_region_rows" 3 ["_law_cells", "_law_first", "_law_n", "_law_most"] (l_rows.sp K))
    (c_polyhedron : Cal P w K mg base "polyhedron" 8 ["n", "conditions", "equations"] (polyhedron.sp Pt)) (c__law_point : Cal P w K mg base "_law_point" 3 ["_law_cell_here", "_law_n"] l_point.sp) (c__law_all_hold : Cal P w K mg base "_law_all_hold" 2 ["_law_conditions", "_law_equations", "_law_point_here"] l_all_hold.sp)
    (c_has_point : Cal P w K mg base "has_point" 2 ["region", "point"] has_point.sp) (c_generators : Cal P w K mg base "generators" 7 ["region"] (generators.sp Pt)) (c__law_mean : Cal P w K mg base "_law_mean" 3 ["_law_cell_here", "_law_parts"] l_mean.sp) (c__law_primitive : Cal P w K mg base "_law_primitive" 2 ["_law_vector"] l_prim.sp) :
    FnOk P w K mg base CX0 9 f fd ["_law_script"] (sp K Pt) := by
  refine F.ok sc (fun vs H Q E h => ?_) (fun cdv A outer s H vs Q E hr h => ?_)
  · obtain ⟨a, ns, rfl, _⟩ := h
    rfl
  · obtain ⟨a, ns, rfl, sq, lns, htab, k⟩ := h
    refine ⟨_, (pss_cons (ps_set (i := 1) sc.nd rfl (Or.inr rfl) (pe_op op_mod (pe_callTy call_int1 (by rfl) T.n_int (by decide +kernel) (pa_cons (pe_cal c__law_cell (hr.mono (by decide)) (by rfl) (pa_cons (pv 0) (pa_cons pe_int pa_nil))) pa_nil)) pe_int))
      (pss_cons (ps_set (i := 2) sc.nd rfl (Or.inl rfl) (pe_cal c__law_region_rows (hr.mono (by decide)) (by rfl) (pa_cons (pv 0) (pa_cons pe_int (pa_cons (pv 1) (pa_cons pe_int pa_nil))))))
      (pss_cons (ps_set (i := 3) sc.nd rfl (Or.inl rfl) (pe_cal c__law_region_rows (hr.mono (by decide)) (by rfl) (pa_cons (pv 0) (pa_cons pe_int (pa_cons (pv 1) (pa_cons pe_int pa_nil))))))
      (pss_cons (ps_set (i := 4) sc.nd rfl (Or.inl rfl) (pe_cal c_polyhedron (hr.mono (by decide)) (by rfl) (pa_cons (pv 1) (pa_cons (pv 2) (pa_cons (pv 3) pa_nil)))))
      (pss_cons (ps_setLc (i := 5) (own := [("_law_cell_here", 6)]) (g := gName 6) (tt := tYes) rfl sc.nd rfl rfl (sw_true rfl rfl rfl (by decide +kernel)) (pi_list (pe_op op_cat (pe_lst (pa_cons pe_int (pa_cons pe_int (pa_cons pe_int pa_nil)))) (pe_slice sl_list (pv 0) (po_some pe_int) (po_some pe_int)))) (blkOk_by (N := N) (sc := defScope st) (by decide +kernel)) (fun _ _ _ _ _ => (pg_name (i := 6) sc.nd rfl (Or.inl rfl))) (fun _ _ _ _ _ => pts_nil) (fun _ _ _ _ _ => (pe_cal c__law_point (hr.mono (by decide)) (by rfl) (pa_cons (pv 6) (pa_cons (pv 1) pa_nil)))))
      (pss_cons (ps_for PassesOwn.never rfl (pi_list (pv 5)) (pg_name (i := 7) sc.nd rfl (Or.inl rfl))
        (pss_cons (ps_set (i := 8) sc.nd rfl (Or.inl rfl) (pe_cal c__law_all_hold (hr.mono (by decide)) (by rfl) (pa_cons (pv 2) (pa_cons (pv 3) (pa_cons (pv 7) pa_nil)))))
        (pss_cons (ps_if (PW.pt (pw_and (pt_cmpR op_isN (pv 4) pe_non (nomark _)) (pw_and1 (pt_val (pv 8)))))
          (pss_one (ps_ret pe_bl))
          pss_nil)
        (pss_one (ps_if (pt_cmpR op_notN (pv 4) pe_non (nomark _))
          (pss_cons (ps_set (i := 9) sc.nd rfl (Or.inl rfl) (pe_cal c_has_point (hr.mono (by decide)) (by rfl) (pa_cons (pv 4) (pa_cons (pe_callTy call_list_of (by rfl) T.n_list (by decide +kernel) (pa_cons (pv 7) pa_nil)) pa_nil))))
          (pss_one (ps_if (PW.pt (pw_or (pt_not (pt_val (pe_callB call_isi (by rfl) T.n_isinstance (by decide +kernel) (pa_cons (pv 9) (pa_cons (pe_bltn (v := .ty "bool") (by rfl) T.n_bool (by decide +kernel) rfl) pa_nil))))) (pw_or (pt_cmpR op_ne (pv 9) (pv 8) (nomark _)) (pw_or1 (pt_cmpR op_ne (pv 8) (pe_cal c__law_all_hold (hr.mono (by decide)) (by rfl) (pa_cons (pe_ix ix_tup (pv 4) pe_int (fun _ _ => rfl)) (pa_cons (pe_ix ix_tup (pv 4) pe_int (fun _ _ => rfl)) (pa_cons (pv 7) pa_nil)))) (nomark _))))))
            (pss_one (ps_ret pe_bl))
            pss_nil)))
          pss_nil)))))
      (pss_cons (ps_if (pt_cmpR op_isN (pv 4) pe_non (nomark _))
        (pss_one (ps_ret pe_bl))
        pss_nil)
      (pss_cons (ps_set (i := 10) sc.nd rfl (Or.inl rfl) (pe_cal c_generators (hr.mono (by decide)) (by rfl) (pa_cons (pv 4) pa_nil)))
      (pss_cons (ps_if (pt_cmpR op_eq (pe_callB call_len_seq (by rfl) T.n_len PySem.boot_len (pa_cons (pe_ix ix_tup (pv 10) pe_int (fun _ _ => rfl)) pa_nil)) pe_int (nomark _))
        (pss_one (ps_ret pe_bl))
        pss_nil)
      (pss_cons (ps_for PassesOwn.never rfl (pi_list (pe_op op_cat (pe_lst (pa_cons pe_int (pa_cons pe_int pa_nil))) (pe_slice sl_list (pv 0) (po_some pe_int) po_none))) (pg_name (i := 6) sc.nd rfl (Or.inl rfl))
        (pss_cons (ps_set (i := 7) sc.nd rfl (Or.inl rfl) (pe_cal c__law_mean (hr.mono (by decide)) (by rfl) (pa_cons (pv 6) (pa_cons (pv 10) pa_nil))))
        (pss_cons (ps_if (PW.pt (pw_or (pt_not (pt_val (pe_cal c_has_point (hr.mono (by decide)) (by rfl) (pa_cons (pv 4) (pa_cons (pv 7) pa_nil))))) (pw_or1 (pt_not (pt_val (pe_cal c__law_all_hold (hr.mono (by decide)) (by rfl) (pa_cons (pv 2) (pa_cons (pv 3) (pa_cons (pv 7) pa_nil)))))))))
          (pss_one (ps_ret pe_bl))
          pss_nil)
        (pss_cons (ps_set (i := 11) sc.nd rfl (Or.inl rfl) (pe_callTy call_list_of (by rfl) T.n_list (by decide +kernel) (pa_cons (pv 7) pa_nil)))
        (pss_cons (ps_set (i := 12) sc.nd rfl (Or.inl rfl) (pe_op op_add pe_int (pe_op op_mod (pe_callTy call_int1 (by rfl) T.n_int (by decide +kernel) (pa_cons (pv 6) pa_nil)) (pe_callB (call_max2 rfl) (by rfl) T.n_max (by decide +kernel) (pa_cons pe_int (pa_cons (pv 1) pa_nil))))))
        (pss_cons (ps_if (pt_cmpR op_gt (pv 1) pe_int (nomark _))
          (pss_one (ps_asg (pe_op op_sub (pe_op op_add (pe_ix ix_list (pv 11) (pv 12) (fun _ _ => rfl)) pe_int) (pe_op op_mul pe_int (pe_op op_and (pe_op op_fdiv (pe_callTy call_int1 (by rfl) T.n_int (by decide +kernel) (pa_cons (pv 6) pa_nil)) pe_int) pe_int))) (pg_sub (pv 11) (pv 12) set_list)))
          pss_nil)
        (pss_cons (ps_set (i := 11) sc.nd rfl (Or.inl rfl) (pe_cal c__law_primitive (hr.mono (by decide)) (by rfl) (pa_cons (pv 11) pa_nil)))
        (pss_one (ps_if (pt_cmpR op_ne (pe_cal c_has_point (hr.mono (by decide)) (by rfl) (pa_cons (pv 4) (pa_cons (pv 11) pa_nil))) (pe_cal c__law_all_hold (hr.mono (by decide)) (by rfl) (pa_cons (pv 2) (pa_cons (pv 3) (pa_cons (pv 11) pa_nil)))) (nomark _))
          (pss_one (ps_ret pe_bl))
          pss_nil)))))))))
      (pss_one (ps_ret pe_bl)))))))))))), ?_⟩
    have mod4 : ∀ z : Int, ∃ n : Nat, z % 4 = (n : Nat) ∧ n ≤ 3 := fun z => ⟨(z % 4).toNat, by
      have h1 := Int.emod_nonneg z (show (4 : Int) ≠ 0 by decide)
      have h2 := Int.emod_lt_of_pos z (show (0 : Int) < 4 by decide)
      omega, by
      have h2 := Int.emod_lt_of_pos z (show (0 : Int) < 4 by decide)
      omega⟩
    have s0 : Same (fun _ => none) H := fun b u e => by cases e
    have nt0 : NT (fun _ => none) := fun b ps e => by cases e
    refine seq_of (a := tAsg _ _) (fun σ H' => ∃ n : Nat, n ≤ 3 ∧ H' = H ∧ σ = [some (.ref a), some (.int (n : Nat)), none, none, none, none, none, none, none, none, none, none, none]) ?_ (fun X hX => ⟨_, rfl, a, ns, 0, rfl, sq, fun z => ?_⟩)
    rotate_left
    · obtain ⟨n, en, hn⟩ := mod4 z
      refine .inl ⟨_, rfl, _, _, rfl, rfl, (show (0 : Int) < 4 by decide), hX _ _ ⟨n, hn, rfl, ?_⟩⟩
      show [some (V.ref a), some (V.int (z % 4)), none, none, none, none, none, none, none, none, none, none, none] = _
      rw [en]
    rintro σ H' ⟨n, hn, rfl, rfl⟩
    refine ⟨_, rfl, _, rfl, (fun _ => none), a, ns, 1, n, 6, rfl, s0, sq, hn, by decide, fun zc G1 H1 cs g1 rc lc hcs => ?_⟩
    refine ⟨_, rfl, _, rfl, G1, a, ns, 9, n, 2, rfl, g1.2.2.1, g1.2.1.seq sq, hn, by decide, fun ze G2 H2 es g2 re le hes => ?_⟩
    have g12 := g1.trans g2
    dsimp only [gName]
    refine seq_of (a := tAsg _ _) (fun σ H3 => ∃ (G3 : Hp) (zr : V), LS K Pt a ns n cs es zc ze zr G3 H3 ∧ σ = [some (.ref a), some (.int (n : Nat)), some zc, some ze, some zr, none, none, none, none, none, none, none, none]) ?_ (fun X hX => ?_)
    rotate_left
    · have rc2 := mono rc g2.1
      have sq2 := g12.2.1.seq sq
      have tab2 := htab.ext g12.2.1
      have base : ∀ zr G3 H3, GrowT Pt G2 H2 G3 H3 → Rg n cs es G3 zr → LS K Pt a ns n cs es zc ze zr G3 H3 := fun zr G3 H3 g3 rg => ⟨g3.2.2.1, g3.2.2.2.2.1 (g12.2.2.2.2 nt0), g3.2.2.2.2.2 tab2, sqL_ext sq2 g3.2.1, mono rc2 g3.1, mono re g3.1, rg⟩
      refine ⟨_, rfl, _, rfl, _, rfl, G2, zc, ze, cs, es, n, rfl, g2.2.2.1, g12.2.2.2.2 nt0, tab2, rc2, re, hn, lc, le, hcs, hes, fun G3 H3 L1 R1 g3 dp h0 => ?_, fun z G3 H3 L1 R1 E' F0 g3 dp hex dp2 rr => ?_⟩
      · exact hX _ _ ⟨G3, .non, base _ _ _ g3 (rg_none dp h0), rfl⟩
      · exact hX _ _ ⟨G3, z, base _ _ _ g3 (rg_some hn hcs hes lc le dp hex dp2 rr), rfl⟩
    rintro σ H3 ⟨G3, zr, ls3, rfl⟩
    -- the points
    obtain ⟨ms, ems, lms⟩ := cut_map ns (some 12) (some 40)
    refine ⟨sz1 (n := 3) (by decide), fun D1 n1 => ?_⟩
    have g4 := Grow.newH (o := .lst [.int 0, .int 1, .int 2]) ls3.s n1
    refine ⟨_, rfl, 12, rfl, 40, rfl, a, _, rfl, g4.2.1.seq ls3.sq, fun D2 n2 => ?_⟩
    have g5' := Grow.newH (o := .lst (cutV (ns.map V.int) (some 12) (some 40))) g4.2.2.1 n2
    have g5 := g4.trans g5'
    have lcut := cutV_length (ns.map V.int) (some 12) (some 40)
    rw [List.length_map] at lcut
    refine ⟨D1, D2, _, _, rfl, rfl, g5'.2.1 _ _ upd_same, upd_same, sz1 (by simp only [List.length_cons, List.length_nil]; omega), fun D3 n3 => ?_⟩
    have g6' := Grow.newH (o := .lst ([.int 0, .int 1, .int 2] ++ cutV (ns.map V.int) (some 12) (some 40))) g5.2.2.1 n3
    have g6 := g5.trans g6'
    have ecut : [V.int 0, .int 1, .int 2] ++ cutV (ns.map V.int) (some 12) (some 40) = ([0, 1, 2] ++ ms).map V.int := by
      rw [ems, List.map_append]; rfl
    refine ⟨D3, rfl, ⟨_, SqL.of upd_same⟩, fun D4 n4 => ?_⟩
    have ls6 := ls3.grow g6
    have hsq3 : SqL K (upd (upd (upd H3 D1 (.lst [.int 0, .int 1, .int 2])) D2 (.lst (cutV (ns.map V.int) (some 12) (some 40)))) D3 (.lst ([.int 0, .int 1, .int 2] ++ cutV (ns.map V.int) (some 12) (some 40)))) D3 (([0, 1, 2] ++ ms).map V.int) := by
      rw [← ecut]
      exact SqL.of upd_same
    refine comp_list (l := [0, 1, 2] ++ ms) (E := RPt n) (Ea := RI) (fun _ => true) (fun _ => ()) ls6.s n4 hsq3 (ints_of G3 _) (by simp only [List.length_append, List.length_cons, List.length_nil]; omega) ?_ ?_
    · intro y x G' H' hy s1 s2 hx CC j1 _
      cases hx
      exact ⟨rfl, _, rfl, _, rfl, G', y, n, rfl, s2, hn, fun z G7 H7 p g7 rp lp sp hp => j1 z G7 H7 g7 rfl ⟨p, rp, lp, sp, hp⟩⟩
    intro G7 H7 pts g7 n7 e7 p7
    obtain ⟨G8, g8, r8, _⟩ := took_list g7 n4 n7 e7 p7
    rw [all_true] at r8
    have ls8 := ls6.grow g8
    have cl : ∀ e ∈ cs, Sm 100000 e := fun e he => (hcs e he).2.sm (by decide)
    have el : ∀ e ∈ es, Sm 100000 e := fun e he => (hes e he).2.sm (by decide)
    obtain ⟨D4', ps, e4, hD4, pP⟩ := id r8
    cases e4
    have sqp : ∀ H', Same H7 H' → SqL K H' D4 ps := fun H' s => SqL.of (s _ _ (ls8.s _ _ hD4))
    have hne : ∀ b : Bool, ¬ ((!decide (V.bl b = V.bl b)) = true) := fun b z => by simp at z
    refine ⟨_, rfl, D4, rfl, ⟨_, sqp _ (Same.refl _)⟩, for_it (walk_list (K := K) (a := D4) (xs := ps)) (fun i σ H' => ∃ G' y6 y7 y8 y9, Grow G8 H7 G' H' ∧ σ = [some (.ref a), some (.int (n : Nat)), some zc, some ze, some zr, some (.ref D4), y6, y7, y8, y9, none, none, none]) ?_ ?_ ?_ ?_⟩
    · exact ⟨G8, _, _, _, _, Grow.refl ls8.s, rfl⟩
    · rintro i σ H' hi ⟨G', y6, y7, y8, y9, g, rfl⟩
      exact sqp _ g.2.1
    · rintro i x σ H' H'' hi ⟨G', y6, y7, y8, y9, g, rfl⟩ ⟨rfl, hx⟩
      obtain ⟨u, hu, rp⟩ := paired_get pP hx
      obtain ⟨p, rpv, lp, sp, hp⟩ := mono rp g.1
      have ls' := ls8.grow g
      have sp1 : Sm 100000 p := sp.mono (by decide)
      refine ⟨_, rfl, _, rfl, _, rfl, G', zc, ze, x, cs, es, p, rfl, ls'.s, ls'.rc, ls'.re, rpv, by omega, by omega, by omega, fun e he => ⟨by rw [(hes e he).1, lp], el e he⟩, fun e he => ⟨by rw [(hcs e he).1, lp], cl e he⟩, sp1, fun G9 H9 g9 => ?_⟩
      have ls9 := ls'.grow g9
      have gg9 := g.trans g9
      rcases ls9.rg with ⟨ez, hno⟩ | ⟨Er, Fr, rr, hsame, lE, lF, hE, hF, hgen⟩
      · subst ez
        have hd := hno p lp hp
        refine ⟨_, rfl, rfl, _, rfl, ite2 (fun _ => ⟨_, rfl, _, rfl, ite2 (fun e => ?_) (fun _ => ?_)⟩) (fun e => absurd rfl e)⟩
        · have e' : holds es cs p = true := e
          rw [hd] at e'
          cases e'
        · exact ⟨_, rfl, rfl, _, rfl, ite2 (fun e => absurd e (by decide)) (fun _ => ⟨G9, _, _, _, _, gg9, rfl⟩)⟩
      · obtain ⟨ar, vn, vE, vF, ezr, har, rn, rE, rF⟩ := id rr
        subst ezr
        have hs9 := hsame p lp (by omega)
        obtain ⟨ax, rfl, hax⟩ := rv_iff.mp (mono rpv g9.1)
        refine ⟨_, rfl, rfl, _, rfl, ite2 (fun e => nomatch (of_decide_eq_true e : V.ref ar = V.non)) (fun _ => iteF ?_)⟩
        refine ⟨_, rfl, rfl, _, rfl, ite2 (fun _ => ?_) (fun e => absurd rfl e)⟩
        refine ⟨_, rfl, _, rfl, ax, _, rfl, .inl (SqL.of (ls9.s _ _ hax)), fun q nq => ?_⟩
        have g10' := Grow.new (o := .lst (p.map V.int)) ls9.s nq
        have g10 := gg9.trans g10'
        refine ⟨_, .ref ar, .ref q, Er, Fr, n, p, rfl, g10.2.2.1, mono rr g10'.1, rv_iff.mpr ⟨q, rfl, upd_same⟩, by omega, by omega, fun e he => ⟨by rw [(hE e he).1]; omega, (hE e he).2.sm (by decide)⟩, fun e he => ⟨by rw [(hF e he).1]; omega, (hF e he).2.sm (by decide)⟩, sp1, fun G11 H11 g11 => ?_⟩
        have gg11 := g10.trans g11
        have s911 := g10'.1.trans g11.1
        refine ⟨_, rfl, _, _, _, _, true, rfl, .ty "bool", .base (.bl _), rfl, _, rfl, ite2 (fun e => absurd e (by decide)) (fun _ => ?_)⟩
        refine ⟨_, rfl, _, rfl, rfl, _, rfl, ite2 (fun e => ?_) (fun _ => ?_)⟩
        · have e' : (!decide (V.bl (holds Er Fr p) = V.bl (holds es cs p))) = true := e
          rw [hs9] at e'
          exact absurd e' (hne _)
        refine ⟨_, rfl, _, rfl, ar, _, 2, _, rfl, rfl, SqT.of (gg11.2.2.1 _ _ (s911 _ _ har)), rfl, _, rfl, ar, _, 1, _, rfl, rfl, SqT.of (gg11.2.2.1 _ _ (s911 _ _ har)), rfl, _, rfl, G11, vF, vE, .ref ax, Fr, Er, p, rfl, gg11.2.2.1, mono rF s911, mono rE s911, rv_iff.mpr ⟨ax, rfl, s911 _ _ hax⟩, by omega, by omega, by omega, fun e he => ⟨by rw [(hE e he).1, lp], (hE e he).2.sm (by decide)⟩, fun e he => ⟨by rw [(hF e he).1, lp], (hF e he).2.sm (by decide)⟩, sp1, fun G12 H12 g12' => ⟨rfl, _, rfl, ite2 (fun e => ?_) (fun _ => ⟨G12, _, _, _, _, gg11.trans g12', rfl⟩)⟩⟩
        have e' : (!decide (V.bl (holds es cs p) = V.bl (holds Er Fr p))) = true := e
        rw [hs9] at e'
        exact absurd e' (hne _)
    rintro σ H' ⟨G', y6, y7, y8, y9, g, rfl⟩
    have ls' := ls8.grow g
    rcases ls'.rg with ⟨ez, hno⟩ | ⟨Er, Fr, rr, hsame, lE, lF, hE, hF, hgen⟩
    · subst ez
      exact ⟨_, rfl, rfl, _, rfl, ite2 (fun _ => k _) (fun e => absurd rfl e)⟩
    obtain ⟨ar, vn, vE, vF, ezr, har, rn, rE, rF⟩ := id rr
    subst ezr
    refine ⟨_, rfl, rfl, _, rfl, ite2 (fun e => nomatch (of_decide_eq_true e : V.ref ar = V.non)) (fun _ => ?_)⟩
    refine ⟨_, rfl, G', .ref ar, Er, Fr, n, 301, rfl, ls'.s, ls'.nt, ls'.tab, rr, hn, by omega, by decide, hE, hF, fun zg G20 H20 L R g20 dp rg => ?_⟩
    have ls20 := ls'.growT g20
    have rr20 := mono rr g20.1
    obtain ⟨tg, vP, vR, vL, ezg, htg, rP, rR, rL⟩ := id rg
    subst ezg
    obtain ⟨aP, xP, rfl, hPs, pPP⟩ := id rP
    have gne := hgen L R dp
    have xne : xP.length ≠ 0 := fun z => by
      rw [paired_len pPP] at z
      exact gne (List.length_eq_zero_iff.mp z)
    refine ⟨_, rfl, tg, _, 0, _, rfl, rfl, SqT.of (ls20.s _ _ htg), rfl, aP, _, rfl, .inl (SqL.of (ls20.s _ _ hPs)), rfl, _, rfl, ite2 (fun e => ?_) (fun _ => ?_)⟩
    · have := V.int.inj (of_decide_eq_true e)
      exact absurd (by omega) xne
    obtain ⟨ms2, ems2, lms2⟩ := cut_map ns (some 40) none
    refine ⟨sz1 (n := 2) (by decide), fun E1 m1 => ?_⟩
    have g21 := Grow.newH (o := .lst [.int 0, .int 3]) ls20.s m1
    refine ⟨_, rfl, 40, rfl, a, _, rfl, g21.2.1.seq ls20.sq, fun E2 m2 => ?_⟩
    have g22' := Grow.newH (o := .lst (cutV (ns.map V.int) (some 40) none)) g21.2.2.1 m2
    have g22 := g21.trans g22'
    have lcut2 := cutV_length (ns.map V.int) (some 40) none
    rw [List.length_map] at lcut2
    refine ⟨E1, E2, _, _, rfl, rfl, g22'.2.1 _ _ upd_same, upd_same, sz1 (by simp only [List.length_cons, List.length_nil]; omega), fun E3 m3 => ?_⟩
    have g23 := g22.trans (Grow.newH (o := .lst ([.int 0, .int 3] ++ cutV (ns.map V.int) (some 40) none)) g22.2.2.1 m3)
    have ecut2 : [V.int 0, .int 3] ++ cutV (ns.map V.int) (some 40) none = ([0, 3] ++ ms2).map V.int := by
      rw [ems2, List.map_append]; rfl
    have ls23 := ls20.grow g23
    have at3 : (upd (upd (upd H20 E1 (.lst [.int 0, .int 3])) E2 (.lst (cutV (ns.map V.int) (some 40) none))) E3 (.lst ([.int 0, .int 3] ++ cutV (ns.map V.int) (some 40) none))) E3 = some (.lst (([0, 3] ++ ms2).map V.int)) := by
      rw [upd_same, ecut2]
    generalize hB : (upd (upd (upd H20 E1 (.lst [.int 0, .int 3])) E2 (.lst (cutV (ns.map V.int) (some 40) none))) E3 (.lst ([.int 0, .int 3] ++ cutV (ns.map V.int) (some 40) none))) = HB at g23 ls23 at3
    have sq3 : ∀ H', Same HB H' → SqL K H' E3 (([0, 3] ++ ms2).map V.int) := fun H' s => SqL.of (s _ _ at3)
    have sq30 := sq3 HB (Same.refl _)
    have rr23 := mono rr20 g23.1
    have rg23 := mono rg g23.1
    have hC : 1 ≤ 2 ^ 301 := Nat.one_le_two_pow
    have hA : ∀ c ∈ FM.cons Er (Fr ++ [FM.hz n]), ∀ x ∈ c.1, x.natAbs ≤ 2 ^ 301 := fun d hd => by
      rcases FM.mem_cons'.mp hd with ⟨h1, _⟩ | ⟨h1, _⟩
      · exact (hE _ h1).2
      · rcases List.mem_append.mp h1 with q | q
        · exact (hF _ q).2
        · rw [List.mem_singleton.mp q]
          exact hz_Le n 301
    have bR : ∀ r ∈ R, r.length = n + 1 ∧ Le 2114 r := fun r hr => ⟨dp.lenR r hr, le_sg (c := 301) (by omega) (dp.boundR hC hA r hr)⟩
    have bL : ∀ r ∈ L, r.length = n + 1 ∧ Le 2114 r := fun r hr => ⟨dp.lenL r hr, le_sg (c := 301) (by omega) (dp.boundL hC hA r hr)⟩
    have fR := dp_few2 dp (by omega) (by rw [List.length_append, List.length_singleton]; omega)
    have fL := dp.fewL
    refine ⟨E3, rfl, ⟨_, sq30⟩, ?_⟩
    refine for_it (walk_list (K := K) (a := E3) (xs := ([0, 3] ++ ms2).map V.int)) (fun i σ H' => ∃ G' y6 y7 y8 y9 y11 y12, Grow G20 HB G' H' ∧ σ = [some (.ref a), some (.int (n : Nat)), some zc, some ze, some (.ref ar), some (.ref D4), y6, y7, y8, y9, some (.ref tg), y11, y12]) ?_ ?_ ?_ ?_
    · exact ⟨G20, _, _, _, _, _, _, Grow.refl ls23.s, rfl⟩
    · rintro i σ H' hi ⟨G', y6, y7, y8, y9, y11, y12, g, rfl⟩
      exact sq3 _ g.2.1
    · rintro i x σ H' H'' hi ⟨G', y6, y7, y8, y9, y11, y12, g, rfl⟩ ⟨rfl, hx⟩
      rw [List.getElem?_map] at hx
      obtain ⟨c, hc, rfl⟩ := Option.map_eq_some_iff.mp hx
      have ls' := ls23.grow g
      have rr' := mono rr23 g.1
      have rg' := mono rg23 g.1
      -- what the two tests say at a vector
      have hEp : ∀ p : FM.Vec, p.length = n + 1 → ∀ e ∈ Er, e.length = p.length ∧ Sm 100000 e := fun p lp e he => ⟨by rw [(hE e he).1, lp], (hE e he).2.sm (by decide)⟩
      refine ⟨_, rfl, _, rfl, G', c, .ref tg, _, _, L, n + 1, 2114, rfl, ls'.s, rg', gne, Nat.le_trans (List.length_filter_le _ _) (by omega), Nat.le_trans (List.length_filter_le _ _) (by omega), by omega, by omega, by decide, fun r hr => bR r (List.mem_filter.mp hr).1, fun r hr => bR r (List.mem_filter.mp hr).1, bL, fun u G24 H24 p g24 rp lp sp mp => ?_⟩
      obtain ⟨hin, hpos⟩ := mean_in dp mp
      have hs1 := hsame p lp (by omega)
      have hin2 : holds es cs p = true := by rw [← hs1]; exact hin
      have sp1 : Sm 100000 p := sp.mono (by decide)
      have gg24 := g.trans g24
      have ls24 := ls'.grow g24
      refine ⟨_, rfl, _, rfl, G24, .ref ar, u, Er, Fr, n, p, rfl, ls24.s, mono rr' g24.1, rp, by omega, by omega, fun e he => ⟨by rw [(hE e he).1]; omega, (hE e he).2.sm (by decide)⟩, fun e he => ⟨by rw [(hF e he).1]; omega, (hF e he).2.sm (by decide)⟩, sp1, fun G25 H25 g25 => ⟨_, rfl, ite2 (fun e => ?_) (fun _ => ?_)⟩⟩
      · have e' : (!(holds Er Fr p)) = true := e
        rw [hin] at e'
        exact absurd e' (by decide)
      have gg25 := gg24.trans g25
      have ls25 := ls24.grow g25
      refine ⟨_, rfl, _, rfl, _, rfl, G25, zc, ze, u, cs, es, p, rfl, ls25.s, ls25.rc, ls25.re, mono rp g25.1, by omega, by omega, by omega, fun e he => ⟨by rw [(hes e he).1, lp], el e he⟩, fun e he => ⟨by rw [(hcs e he).1, lp], cl e he⟩, sp1, fun G26 H26 g26 => ⟨_, rfl, ite2 (fun e => ?_) (fun _ => ?_)⟩⟩
      · have e' : (!(holds es cs p)) = true := e
        rw [hin2] at e'
        exact absurd e' (by decide)
      have gg26 := gg25.trans g26
      have ls26 := ls25.grow g26
      have rr26 := mono rr' ((g24.1.trans g25.1).trans g26.1)
      obtain ⟨ap, rfl, hap⟩ := rv_iff.mp (mono rp (g25.1.trans g26.1))
      refine ⟨_, rfl, ap, _, rfl, .inl (SqL.of (ls26.s _ _ hap)), fun D nD => ?_⟩
      have g27' := Grow.newH (o := .lst (p.map V.int)) ls26.s nD
      have g27 := gg26.trans g27'
      have ls27 := ls26.grow g27'
      have nDB : HB D = none := gg26.2.1.free nD
      have nDG : G26 D = none := ls26.s.free nD
      have mpos : 0 < (if (n : Int) > 1 then (n : Int) else 1) := by split <;> omega
      refine ⟨_, rfl, .inl ⟨_, rfl, _, rfl, _, _, rfl, _, _, rfl, rfl, mpos, _, _, rfl, rfl, ?_⟩⟩
      dsimp only [gName]
      refine seq_of (a := tIfS _ _ _) (fun σ H28 => ∃ (G28 : Hp) (l : FM.Vec), Grow G20 HB G28 H28 ∧ Same G26 G28 ∧ σ = [some (.ref a), some (.int (n : Nat)), some zc, some ze, some (.ref ar), some (.ref D4), some (.int c), some (.ref ap), y8, y9, some (.ref tg), some (.ref D), some (.int (1 + c % (if (n : Int) > 1 then (n : Int) else 1)))] ∧ RV G28 (.ref D) l ∧ l.length = n + 1 ∧ Sm 2142 l ∧ 0 < FM.at0 l 0) ?_ ?_
      · rintro σ H28 ⟨G28, l, g28, s28, rfl, rl, ll, sl, pl⟩
        refine ⟨_, rfl, G28, .ref D, l, rfl, g28.2.2.1, rl, by omega, sl.mono (by decide), fun u2 G29 H29 g29 ru2 => ?_⟩
        have gg29 := g28.trans g29
        have lp2 : (FM.prim l).length = n + 1 := by rw [FM.prim_len]; exact ll
        have sp2 : Sm 100000 (FM.prim l) := (prim_Sm sl).mono (by decide)
        have pp2 := prim_pos (v := l) (by omega)
        have hs2 := hsame (FM.prim l) lp2 (by omega)
        have s29 := s28.trans g29.1
        refine ⟨_, rfl, _, rfl, G29, .ref ar, u2, Er, Fr, n, FM.prim l, rfl, gg29.2.2.1, mono rr26 s29, ru2, by omega, by omega, fun e he => ⟨by rw [(hE e he).1]; omega, (hE e he).2.sm (by decide)⟩, fun e he => ⟨by rw [(hF e he).1]; omega, (hF e he).2.sm (by decide)⟩, sp2, fun G30 H30 g30 => ?_⟩
        have gg30 := gg29.trans g30
        have s30 := s29.trans g30.1
        refine ⟨_, rfl, _, rfl, _, rfl, G30, zc, ze, u2, cs, es, FM.prim l, rfl, gg30.2.2.1, mono ls26.rc s30, mono ls26.re s30, mono ru2 g30.1, by omega, by omega, by omega, fun e he => ⟨by rw [(hes e he).1, lp2], el e he⟩, fun e he => ⟨by rw [(hcs e he).1, lp2], cl e he⟩, sp2, fun G31 H31 g31 => ⟨rfl, _, rfl, ite2 (fun e => ?_) (fun _ => ⟨G31, _, _, _, _, _, _, gg30.trans g31, rfl⟩)⟩⟩
        have e' : (!decide (V.bl (holds Er Fr (FM.prim l)) = V.bl (holds es cs (FM.prim l)))) = true := e
        rw [hs2] at e'
        exact absurd e' (hne _)
      · intro X hX
        have asis : X [some (.ref a), some (.int (n : Nat)), some zc, some ze, some (.ref ar), some (.ref D4), some (.int c), some (.ref ap), y8, y9, some (.ref tg), some (.ref D), some (.int (1 + c % (if (n : Int) > 1 then (n : Int) else 1)))] (upd H26 D (.lst (p.map V.int))) := by
          have gt := g27.took nDB nDG upd_same
          exact hX _ _ ⟨_, p, gt, (Grow.take g27.2.2.1 nDG upd_same).1, rfl, rv_iff.mpr ⟨D, rfl, upd_same⟩, lp, sp.mono (by decide), hpos⟩
        refine ⟨_, rfl, _, _, rfl, rfl, _, rfl, ite2 (fun e => ?_) (fun _ => asis)⟩
        have n0 : 0 < (n : Int) := of_decide_eq_true e
        obtain ⟨q, hq1, hq2, hq3⟩ : ∃ q : Nat, 1 + c % (if (n : Int) > 1 then (n : Int) else 1) = (q : Nat) ∧ 1 ≤ q ∧ q ≤ n := by
          have em : (if (n : Int) > 1 then (n : Int) else 1) = (n : Int) := by split <;> omega
          rw [em]
          have h1 := Int.emod_nonneg c (show (n : Int) ≠ 0 by omega)
          have h2 := Int.emod_lt_of_pos c n0
          exact ⟨(1 + c % (n : Int)).toNat, by omega, by omega, by omega⟩
        have sqD : SqL K (upd H26 D (.lst (p.map V.int))) D (p.map V.int) := SqL.of upd_same
        refine ⟨_, rfl, _, rfl, D, _, _, _, rfl, rfl, sqD, (show atI (p.map V.int) (1 + c % (if (n : Int) > 1 then (n : Int) else 1)) = _ by rw [hq1]; exact at_int (by omega)), _, _, rfl, rfl, _, rfl, .inl ⟨_, rfl, _, _, rfl, rfl, (show CDiv _ 4 from ⟨by decide, by decide⟩), _, _, rfl, rfl, _, _, rfl, rfl, .inl (show -(2 ^ 64 : Int) < _ ∧ _ from ⟨by decide, by decide⟩), _, _, rfl, rfl, _, rfl, _, rfl, D, p.map V.int, _, q, rfl, rfl, upd_same, (show ixN (p.map V.int).length (1 + c % (if (n : Int) > 1 then (n : Int) else 1)) = _ by rw [hq1, List.length_map]; exact ixN_lt (by omega)), ?_⟩⟩
        have hb := bit1 (c / 4)
        have hmul : (2 * Builtin.bitAnd (c / 4) 1).natAbs ≤ 2 := by omega
        have e0 : (p.map V.int).set q (V.int (FM.at0 p q + 1 - 2 * Builtin.bitAnd (c / 4) 1)) = (p.set q (FM.at0 p q + 1 - 2 * Builtin.bitAnd (c / 4) 1)).map V.int := by rw [List.map_set]
        have gm := g27.mutNew (o := .lst ((p.map V.int).set q (V.int (FM.at0 p q + 1 - 2 * Builtin.bitAnd (c / 4) 1)))) nDB nDG
        have gt := gm.took nDB nDG upd_same
        refine hX _ _ ⟨_, p.set q (FM.at0 p q + 1 - 2 * Builtin.bitAnd (c / 4) 1), gt, (Grow.take gm.2.2.1 nDG upd_same).1, rfl, rv_iff.mpr ⟨D, rfl, by rw [upd_same, e0]⟩, by rw [List.length_set]; exact lp, fun y hy => ?_, ?_⟩
        · rcases List.mem_or_eq_of_mem_set hy with z | z
          · exact sp.mono (by decide) y z
          · have h1 := sp.at0 q
            have h2 : (2 : Nat) ^ 2142 = 4 * 2 ^ 2140 := by (rw [Nat.pow_succ, Nat.pow_succ]); try omega
            have h3 : (2 : Nat) ^ (2114 + 26) = 2 ^ 2140 := rfl
            have h4 : 1 ≤ 2 ^ 2140 := Nat.one_le_two_pow
            rw [h3] at h1
            rw [h2, z]
            generalize 2 ^ 2140 = big at h1 h4
            omega
        · have e1 : FM.at0 (p.set q (FM.at0 p q + 1 - 2 * Builtin.bitAnd (c / 4) 1)) 0 = FM.at0 p 0 := by
            cases hp' : p with
            | nil => rw [hp'] at lp; simp at lp
            | cons p0 pr =>
              cases q with
              | zero => omega
              | succ q' => rfl
          rw [e1]
          exact hpos
    · rintro σ H' ⟨G', y6, y7, y8, y9, y11, y12, g, rfl⟩
      exact k _
end law
end
end FW
set_option Elab.async false
set_option linter.all false
set_option maxRecDepth 100000
set_option maxHeartbeats 4000000
/-! what the text's top has written, and the law's promise from it. -/
namespace FW
open PySem L2 LamX
/-- a def stands at its name -/
def DefIn (K : PySem.W.Frag) (x : Str) (st : Stmt) : Prop := ∃ (f : Addr) (oc : Value) (od : Option Addr) (kV dc pm : Value) (an : Option Addr) (cd ct : Value) (sl : Array (Option Value)),
  PySem.W.nsIn K mainGlobals x = some (some (.ref f)) ∧ K.lookup f = some ⟨oc, od, .func (PySem.W.fnOf x x (defArgs st) (defBody st) (defScope st) .none kV dc pm an cd ct), sl⟩ ∧ PySem.W.codeIn K cd x = true ∧ PySem.W.keepIn K (.ref f) = true
/-- a method of the class at C -/
def MetIn (K : PySem.W.Frag) (C : Addr) (x q : Str) (st : Stmt) : Prop := ∃ (f : Addr) (oc : Value) (od : Option Addr) (kV dc pm : Value) (an : Option Addr) (cd ct : Value) (sl : Array (Option Value)),
  PySem.W.findIn K (.ref C) x = some (some (.ref f)) ∧ K.lookup f = some ⟨oc, od, .func (PySem.W.fnOf x q (defArgs st) (defBody st) (defScope st) .none kV dc pm an cd ct), sl⟩ ∧ PySem.W.codeIn K cd q = true ∧ PySem.W.keepIn K (.ref f) = true ∧ PySem.W.isFn K (.ref f) = true
/-- echelon, its code object at cE -/
def EchIn (K : PySem.W.Frag) (cE : Addr) : Prop := ∃ (f : Addr) (oc : Value) (od : Option Addr) (kV dc pm : Value) (an : Option Addr) (ct : Value) (sl : Array (Option Value)),
  PySem.W.nsIn K mainGlobals "echelon" = some (some (.ref f)) ∧ K.lookup f = some ⟨oc, od, .func (PySem.W.fnOf "echelon" "echelon" (defArgs (top 11)) (defBody (top 11)) (defScope (top 11)) .none kV dc pm an (.ref cE) ct), sl⟩ ∧ PySem.W.codeIn K (.ref cE) "echelon" = true ∧ PySem.W.keepIn K (.ref f) = true
/-- polyhedron, its default the tuple of one value -/
def PolIn (K : PySem.W.Frag) : Prop := ∃ (f : Addr) (oc : Value) (od : Option Addr) (kV dc pm : Value) (an : Option Addr) (cd ct : Value) (sl : Array (Option Value)) (Td e : Addr) (o : Obj) (n : Nat),
  PySem.W.nsIn K mainGlobals "polyhedron" = some (some (.ref f)) ∧ K.lookup f = some ⟨oc, od, .func (PySem.W.fnOf "polyhedron" "polyhedron" (defArgs (top 21)) (defBody (top 21)) (defScope (top 21)) (.ref Td) kV dc pm an cd ct), sl⟩ ∧ PySem.W.codeIn K cd "polyhedron" = true ∧ PySem.W.keepIn K (.ref f) = true ∧ K.lookup Td = some o ∧ o.data = .seq #[.ref e] n
section
variable {K : PySem.W.Frag} {h : Heap} {mg : Str → Option Value}
theorem DefIn.here {x : Str} {st : Stmt} (d : DefIn K x st) (X : K.In h) (G : h.Ns mainGlobals mg) : Here K mg x st := by
  obtain ⟨f, oc, od, kV, dc, pm, an, cd, ct, sl, a, l, c, k⟩ := d
  exact ⟨f, _, fun_mk l c k, PySem.W.mg_of X G a⟩
theorem MetIn.here {C : Addr} {x q : Str} {st : Stmt} (d : MetIn K C x q st) : HereM K C x q st := by
  obtain ⟨f, oc, od, kV, dc, pm, an, cd, ct, sl, a, l, c, k, i⟩ := d
  exact ⟨f, _, fun_mk l c k, ⟨a, i, k⟩⟩
theorem MetIn.mk {C : Addr} {st : Stmt} (d : MetIn K C "__init__" "Builder.__init__" st) (m : PySem.W.makesIn K C = true) (kc : PySem.W.keepIn K (.ref C) = true) : HereK K C st := by
  obtain ⟨f, oc, od, kV, dc, pm, an, cd, ct, sl, a, l, c, k, i⟩ := d
  exact ⟨f, _, fun_mk l c k, ⟨m, a, i, kc⟩⟩
theorem EchIn.here {cE : Addr} (d : EchIn K cE) (X : K.In h) (G : h.Ns mainGlobals mg) : HereC K mg "echelon" (top 11) cE := by
  obtain ⟨f, oc, od, kV, dc, pm, an, ct, sl, a, l, c, k⟩ := d
  exact ⟨f, _, fun_mk l c k, PySem.W.mg_of X G a, rfl⟩
theorem PolIn.here (d : PolIn K) (X : K.In h) (G : h.Ns mainGlobals mg) : HereD K mg "polyhedron" (top 21) := by
  obtain ⟨f, oc, od, kV, dc, pm, an, cd, ct, sl, Td, e, o, n, a, l, c, k, t, u⟩ := d
  exact ⟨f, _, e, ⟨⟨oc, od, .ref Td, kV, dc, pm, an, cd, ct, sl, rfl, l, c, .inr ⟨by simp, Td, o, [.ref e], n, rfl, t, u, .cons rfl .nil⟩, .inl rfl⟩, k⟩, PySem.W.mg_of X G a⟩
end
theorem law_at {l : PySem.W.OpenLaw} {w : World} {K : PySem.W.Frag} {h : Heap} {mg : Str → Option Value} {fa C cE Pt : Addr} {tk : Tok} (X : K.In h) (G : h.Ns mainGlobals mg) (hfa : mg "law" = some (.ref fa)) (tab : h.get? Pt = some { cls := .none, data := .fields #[] })
    (aC : PySem.W.nsIn K mainGlobals "Builder" = some (some (.ref C))) (d_common_divisor : DefIn K "common_divisor" (top 5)) (d_primitive : DefIn K "primitive" (top 6)) (d_dot : DefIn K "dot" (top 7)) (d_combined : DefIn K "combined" (top 8)) (d_pivot_of : DefIn K "pivot_of" (top 9)) (d_cleared : DefIn K "cleared" (top 10)) (d_reduced : DefIn K "reduced" (top 12)) (d_dual : DefIn K "dual" (top 15)) (d_check_count : DefIn K "check_count" (top 18)) (d_horizon : DefIn K "horizon" (top 19)) (d_settled : DefIn K "settled" (top 20)) (d_generators : DefIn K "generators" (top 22)) (d_has_point : DefIn K "has_point" (top 23)) (d__law_cell : DefIn K "_law_cell" (top 25)) (d__law_draws : DefIn K "_law_draws" (top 26)) (d__law_gcd : DefIn K "_law_gcd" (top 27)) (d__law_primitive : DefIn K "_law_primitive" (top 28)) (d__law_dot : DefIn K "_law_dot" (top 29)) (d__law_sum : DefIn K "_law_sum" (top 30)) (d__law_small : DefIn K "_law_small" (top 32)) (d__law_point : DefIn K "_law_point" (top 33)) (d__law_region_rows : DefIn K "_law_region_rows" (top 34)) (d__law_all_hold : DefIn K "_law_all_hold" (top 35)) (d__law_mean : DefIn K "_law_mean" (top 36)) (d_law : DefIn K "law" (top 37)) (d_ech : EchIn K cE) (d_pol : PolIn K) (d_init : MetIn K C "__init__" "Builder.__init__" (inClass (top 14) 0)) (d_turn_line : MetIn K C "turn_line" "Builder.turn_line" (inClass (top 14) 1)) (d_add : MetIn K C "add" "Builder.add" (inClass (top 14) 2)) (d_joined : MetIn K C "joined" "Builder.joined" (inClass (top 14) 3)) (d_are_neighbours : MetIn K C "are_neighbours" "Builder.are_neighbours" (inClass (top 14) 4)) (pg : PySem.W.plainGet K C Str.empty = true) (hd : PySem.W.hasDictIn K C = true) (po : PySem.W.plainOver K C = true) (sa : PySem.W.findIn K (.ref C) "__setattr__" = some (some (.builtin "object.__setattr__"))) (mk : PySem.W.makesIn K C = true) (kc : PySem.W.keepIn K (.ref C) = true) (nL : PySem.W.findIn K (.ref C) "lines" = some none) (nR : PySem.W.findIn K (.ref C) "rays" = some none) (nC : PySem.W.findIn K (.ref C) "count" = some none) (mx : PySem.W.nsIn K mainGlobals "MAX_VARIABLES" = some (some (.int 8 tk))) (gc : PySem.W.nsIn K mainGlobals "gcd" = some (some (.builtin "math.gcd"))) (z_len : PySem.W.nsIn K mainGlobals "len" = some none) (z_sum : PySem.W.nsIn K mainGlobals "sum" = some none) (z_all : PySem.W.nsIn K mainGlobals "all" = some none) (z_abs : PySem.W.nsIn K mainGlobals "abs" = some none) (z_max : PySem.W.nsIn K mainGlobals "max" = some none) (z_isinstance : PySem.W.nsIn K mainGlobals "isinstance" = some none) (z_bool : PySem.W.nsIn K mainGlobals "bool" = some none) (z_list : PySem.W.nsIn K mainGlobals "list" = some none) (z_int : PySem.W.nsIn K mainGlobals "int" = some none) (z_zip : PySem.W.nsIn K mainGlobals "zip" = some none) (z_enumerate : PySem.W.nsIn K mainGlobals "enumerate" = some none) (z_range : PySem.W.nsIn K mainGlobals "range" = some none) (z_sorted : PySem.W.nsIn K mainGlobals "sorted" = some none) (cd : PySem.W.codeHdIn K cE Pt = true) (nT : K.lookup Pt = none) :
    LawAtS l w K CX0 9 63 "_law_script" mg fa h := by
  have T : Txt mg := ⟨PySem.W.mg_of X G gc, PySem.W.mg_none_of X G z_len, PySem.W.mg_none_of X G z_sum, PySem.W.mg_none_of X G z_all, PySem.W.mg_none_of X G z_abs, PySem.W.mg_none_of X G z_max, PySem.W.mg_none_of X G z_isinstance, PySem.W.mg_none_of X G z_bool, PySem.W.mg_none_of X G z_list, PySem.W.mg_none_of X G z_int, PySem.W.mg_none_of X G z_zip, PySem.W.mg_none_of X G z_enumerate, PySem.W.mg_none_of X G z_range, PySem.W.mg_none_of X G z_sorted⟩
  have TC : CTxt K C := ⟨⟨pg, hd, po, sa⟩, nL, nR, nC⟩
  have hB : mg "Builder" = some (.ref C) := PySem.W.mg_of X G aC
  have hmx : ∃ t, mg "MAX_VARIABLES" = some (.int 8 t) := ⟨tk, PySem.W.mg_of X G mx⟩
  obtain ⟨fl, ocl, odl, kVl, dcl, pml, anl, cdl, ctl, sll, al, ll, cl, kl⟩ := id d_law
  have e := hfa.symm.trans (PySem.W.mg_of X G al)
  cases e
  refine ⟨PySem.W.fnOf "law" "law" (defArgs (top 37)) (defBody (top 37)) (defScope (top 37)) .none kVl dcl pml anl cdl ctl, [(cE, Pt)], law.sp K Pt, fun p hp => ?_, fun p hp => ?_, fun p hp => ?_, fun s v => .of_eq rfl, fun H a ns hl hb hT hS => ⟨a, ns, rfl, hS, by omega, TabS.nil (hT (cE, Pt) (List.mem_singleton.mpr rfl)), fun _ => rfl⟩, fun base KB GB TB => ?_⟩
  · rw [List.mem_singleton.mp hp]; exact tab
  · rw [List.mem_singleton.mp hp]; exact nT
  · rw [List.mem_singleton.mp hp]; exact PySem.W.codeHd_of_K X cd
  have tb := TB (cE, Pt) (List.mem_singleton.mpr rfl)
  have c_common_divisor := common_divisor.ok (P := l.prog) (w := w) (base := base) T (d_common_divisor.here X G)
  have c_primitive := primitive.ok (P := l.prog) (w := w) (base := base) T (d_primitive.here X G) c_common_divisor
  have c_dot := dot.ok (P := l.prog) (w := w) (base := base) T (d_dot.here X G)
  have c_combined := combined.ok (P := l.prog) (w := w) (base := base) T (d_combined.here X G)
  have c_pivot_of := pivot_of.ok (P := l.prog) (w := w) (base := base) T (d_pivot_of.here X G)
  have c_cleared := cleared.ok (P := l.prog) (w := w) (base := base) T (d_cleared.here X G) c_primitive c_combined
  have c_reduced := reduced.ok (P := l.prog) (w := w) (base := base) T (d_reduced.here X G) c_primitive c_cleared c_pivot_of
  have c_are_neighbours := are_neighbours.ok (P := l.prog) (w := w) (mg := mg) (base := base) TC d_are_neighbours.here
  have c_joined := joined.ok (P := l.prog) (w := w) (base := base) T TC d_joined.here c_are_neighbours c_primitive c_combined
  have c_init := init.ok (P := l.prog) (w := w) (base := base) T TC (d_init.mk mk kc)
  have c_turn_line := turn_line.ok (P := l.prog) (w := w) (base := base) T TC d_turn_line.here c_dot c_primitive c_combined
  have c_add := add.ok (P := l.prog) (w := w) (base := base) T TC d_add.here c_turn_line c_dot c_joined
  have c_echelon := echelon.ok (P := l.prog) (w := w) (base := base) T (d_ech.here X G) tb c_primitive c_cleared c_pivot_of
  have c_dual := dual.ok (P := l.prog) (w := w) (base := base) T TC hB (d_dual.here X G) c_init c_add c_echelon c_reduced
  have c_check_count := check_count.ok (P := l.prog) (w := w) (base := base) T hmx (d_check_count.here X G)
  have c_horizon := horizon.ok (P := l.prog) (w := w) (base := base) T (d_horizon.here X G)
  have c_settled := settled.ok (P := l.prog) (w := w) (base := base) T (d_settled.here X G) c_dual c_horizon
  have c_polyhedron := polyhedron.ok (P := l.prog) (w := w) (base := base) T (d_pol.here X G) c_check_count c_dual c_horizon c_settled
  have c_generators := generators.ok (P := l.prog) (w := w) (base := base) T (d_generators.here X G) c_dual c_horizon
  have c_has_point := has_point.ok (P := l.prog) (w := w) (base := base) T (d_has_point.here X G) c_dot
  have c_l_cell := l_cell.ok (P := l.prog) (w := w) (base := base) T (d__law_cell.here X G)
  have c_l_draws := l_draws.ok (P := l.prog) (w := w) (base := base) T (d__law_draws.here X G)
  have c_l_gcd := l_gcd.ok (P := l.prog) (w := w) (base := base) T (d__law_gcd.here X G)
  have c_l_prim := l_prim.ok (P := l.prog) (w := w) (base := base) T (d__law_primitive.here X G) c_l_gcd
  have c_l_dot := l_dot.ok (P := l.prog) (w := w) (base := base) T (d__law_dot.here X G)
  have c_l_sum := l_sum.ok (P := l.prog) (w := w) (base := base) T (d__law_sum.here X G)
  have c_l_small := l_small.ok (P := l.prog) (w := w) (base := base) T (d__law_small.here X G) c_l_draws
  have c_l_point := l_point.ok (P := l.prog) (w := w) (base := base) T (d__law_point.here X G) c_l_draws c_l_prim
  have c_l_rows := l_rows.ok (P := l.prog) (w := w) (base := base) T (d__law_region_rows.here X G) c_l_cell c_l_small
  have c_l_all_hold := l_all_hold.ok (P := l.prog) (w := w) (base := base) T (d__law_all_hold.here X G) c_l_dot
  have c_l_mean := l_mean.ok (P := l.prog) (w := w) (base := base) T (d__law_mean.here X G) c_l_draws c_l_sum c_l_prim
  exact law.fn (P := l.prog) (w := w) (base := base) T (fun_mk ll cl kl) c_l_cell c_l_rows c_polyhedron c_l_point c_l_all_hold c_has_point c_generators c_l_mean c_l_prim
theorem law_facts {l : PySem.W.OpenLaw} {w : World} {K : PySem.W.Frag} {h : Heap} {mg : Str → Option Value} {fa C cE Pt : Addr} {tk : Tok}
    {fcommon_divisor : Addr} {occommon_divisor kVcommon_divisor dccommon_divisor pmcommon_divisor ctcommon_divisor cdcommon_divisor : Value} {odcommon_divisor ancommon_divisor : Option Addr} {slcommon_divisor : Array (Option Value)}
    {fprimitive : Addr} {ocprimitive kVprimitive dcprimitive pmprimitive ctprimitive cdprimitive : Value} {odprimitive anprimitive : Option Addr} {slprimitive : Array (Option Value)}
    {fdot : Addr} {ocdot kVdot dcdot pmdot ctdot cddot : Value} {oddot andot : Option Addr} {sldot : Array (Option Value)}
    {fcombined : Addr} {occombined kVcombined dccombined pmcombined ctcombined cdcombined : Value} {odcombined ancombined : Option Addr} {slcombined : Array (Option Value)}
    {fpivot_of : Addr} {ocpivot_of kVpivot_of dcpivot_of pmpivot_of ctpivot_of cdpivot_of : Value} {odpivot_of anpivot_of : Option Addr} {slpivot_of : Array (Option Value)}
    {fcleared : Addr} {occleared kVcleared dccleared pmcleared ctcleared cdcleared : Value} {odcleared ancleared : Option Addr} {slcleared : Array (Option Value)}
    {freduced : Addr} {ocreduced kVreduced dcreduced pmreduced ctreduced cdreduced : Value} {odreduced anreduced : Option Addr} {slreduced : Array (Option Value)}
    {fdual : Addr} {ocdual kVdual dcdual pmdual ctdual cddual : Value} {oddual andual : Option Addr} {sldual : Array (Option Value)}
    {fcheck_count : Addr} {occheck_count kVcheck_count dccheck_count pmcheck_count ctcheck_count cdcheck_count : Value} {odcheck_count ancheck_count : Option Addr} {slcheck_count : Array (Option Value)}
    {fhorizon : Addr} {ochorizon kVhorizon dchorizon pmhorizon cthorizon cdhorizon : Value} {odhorizon anhorizon : Option Addr} {slhorizon : Array (Option Value)}
    {fsettled : Addr} {ocsettled kVsettled dcsettled pmsettled ctsettled cdsettled : Value} {odsettled ansettled : Option Addr} {slsettled : Array (Option Value)}
    {fgenerators : Addr} {ocgenerators kVgenerators dcgenerators pmgenerators ctgenerators cdgenerators : Value} {odgenerators angenerators : Option Addr} {slgenerators : Array (Option Value)}
    {fhas_point : Addr} {ochas_point kVhas_point dchas_point pmhas_point cthas_point cdhas_point : Value} {odhas_point anhas_point : Option Addr} {slhas_point : Array (Option Value)}
    {flaw_cell : Addr} {oclaw_cell kVlaw_cell dclaw_cell pmlaw_cell ctlaw_cell cdlaw_cell : Value} {odlaw_cell anlaw_cell : Option Addr} {sllaw_cell : Array (Option Value)}
    {flaw_draws : Addr} {oclaw_draws kVlaw_draws dclaw_draws pmlaw_draws ctlaw_draws cdlaw_draws : Value} {odlaw_draws anlaw_draws : Option Addr} {sllaw_draws : Array (Option Value)}
    {flaw_gcd : Addr} {oclaw_gcd kVlaw_gcd dclaw_gcd pmlaw_gcd ctlaw_gcd cdlaw_gcd : Value} {odlaw_gcd anlaw_gcd : Option Addr} {sllaw_gcd : Array (Option Value)}
    {flaw_primitive : Addr} {oclaw_primitive kVlaw_primitive dclaw_primitive pmlaw_primitive ctlaw_primitive cdlaw_primitive : Value} {odlaw_primitive anlaw_primitive : Option Addr} {sllaw_primitive : Array (Option Value)}
    {flaw_dot : Addr} {oclaw_dot kVlaw_dot dclaw_dot pmlaw_dot ctlaw_dot cdlaw_dot : Value} {odlaw_dot anlaw_dot : Option Addr} {sllaw_dot : Array (Option Value)}
    {flaw_sum : Addr} {oclaw_sum kVlaw_sum dclaw_sum pmlaw_sum ctlaw_sum cdlaw_sum : Value} {odlaw_sum anlaw_sum : Option Addr} {sllaw_sum : Array (Option Value)}
    {flaw_small : Addr} {oclaw_small kVlaw_small dclaw_small pmlaw_small ctlaw_small cdlaw_small : Value} {odlaw_small anlaw_small : Option Addr} {sllaw_small : Array (Option Value)}
    {flaw_point : Addr} {oclaw_point kVlaw_point dclaw_point pmlaw_point ctlaw_point cdlaw_point : Value} {odlaw_point anlaw_point : Option Addr} {sllaw_point : Array (Option Value)}
    {flaw_region_rows : Addr} {oclaw_region_rows kVlaw_region_rows dclaw_region_rows pmlaw_region_rows ctlaw_region_rows cdlaw_region_rows : Value} {odlaw_region_rows anlaw_region_rows : Option Addr} {sllaw_region_rows : Array (Option Value)}
    {flaw_all_hold : Addr} {oclaw_all_hold kVlaw_all_hold dclaw_all_hold pmlaw_all_hold ctlaw_all_hold cdlaw_all_hold : Value} {odlaw_all_hold anlaw_all_hold : Option Addr} {sllaw_all_hold : Array (Option Value)}
    {flaw_mean : Addr} {oclaw_mean kVlaw_mean dclaw_mean pmlaw_mean ctlaw_mean cdlaw_mean : Value} {odlaw_mean anlaw_mean : Option Addr} {sllaw_mean : Array (Option Value)}
    {flaw : Addr} {oclaw kVlaw dclaw pmlaw ctlaw cdlaw : Value} {odlaw anlaw : Option Addr} {sllaw : Array (Option Value)}
    {fech : Addr} {ocech kVech dcech pmech ctech : Value} {odech anech : Option Addr} {slech : Array (Option Value)}
    {fpol : Addr} {ocpol kVpol dcpol pmpol ctpol cdpol : Value} {odpol anpol : Option Addr} {slpol : Array (Option Value)}
    {Td e : Addr} {tcl : Value} {tdd : Option Addr} {tn : Nat} {tsl : Array (Option Value)}
    {finit : Addr} {ocinit kVinit dcinit pminit ctinit cdinit : Value} {odinit aninit : Option Addr} {slinit : Array (Option Value)}
    {fturn_line : Addr} {octurn_line kVturn_line dcturn_line pmturn_line ctturn_line cdturn_line : Value} {odturn_line anturn_line : Option Addr} {slturn_line : Array (Option Value)}
    {fadd : Addr} {ocadd kVadd dcadd pmadd ctadd cdadd : Value} {odadd anadd : Option Addr} {sladd : Array (Option Value)}
    {fjoined : Addr} {ocjoined kVjoined dcjoined pmjoined ctjoined cdjoined : Value} {odjoined anjoined : Option Addr} {sljoined : Array (Option Value)}
    {fare_neighbours : Addr} {ocare_neighbours kVare_neighbours dcare_neighbours pmare_neighbours ctare_neighbours cdare_neighbours : Value} {odare_neighbours anare_neighbours : Option Addr} {slare_neighbours : Array (Option Value)}
    (X : K.In h) (G : h.Ns mainGlobals mg) (hfa : mg "law" = some (.ref fa)) (tab : h.get? Pt = some { cls := .none, data := .fields #[] })
    (aC : PySem.W.nsIn K mainGlobals "Builder" = some (some (.ref C)))
    (acommon_divisor : PySem.W.nsIn K mainGlobals "common_divisor" = some (some (.ref fcommon_divisor)))
    (lcommon_divisor : K.lookup fcommon_divisor = some ⟨occommon_divisor, odcommon_divisor, .func (PySem.W.fnOf "common_divisor" "common_divisor" (defArgs (top 5)) (defBody (top 5)) (defScope (top 5)) .none kVcommon_divisor dccommon_divisor pmcommon_divisor ancommon_divisor cdcommon_divisor ctcommon_divisor), slcommon_divisor⟩)
    (ccommon_divisor : PySem.W.codeIn K cdcommon_divisor "common_divisor" = true)
    (kcommon_divisor : PySem.W.keepIn K (.ref fcommon_divisor) = true)
    (aprimitive : PySem.W.nsIn K mainGlobals "primitive" = some (some (.ref fprimitive)))
    (lprimitive : K.lookup fprimitive = some ⟨ocprimitive, odprimitive, .func (PySem.W.fnOf "primitive" "primitive" (defArgs (top 6)) (defBody (top 6)) (defScope (top 6)) .none kVprimitive dcprimitive pmprimitive anprimitive cdprimitive ctprimitive), slprimitive⟩)
    (cprimitive : PySem.W.codeIn K cdprimitive "primitive" = true)
    (kprimitive : PySem.W.keepIn K (.ref fprimitive) = true)
    (adot : PySem.W.nsIn K mainGlobals "dot" = some (some (.ref fdot)))
    (ldot : K.lookup fdot = some ⟨ocdot, oddot, .func (PySem.W.fnOf "dot" "dot" (defArgs (top 7)) (defBody (top 7)) (defScope (top 7)) .none kVdot dcdot pmdot andot cddot ctdot), sldot⟩)
    (cdot : PySem.W.codeIn K cddot "dot" = true)
    (kdot : PySem.W.keepIn K (.ref fdot) = true)
    (acombined : PySem.W.nsIn K mainGlobals "combined" = some (some (.ref fcombined)))
    (lcombined : K.lookup fcombined = some ⟨occombined, odcombined, .func (PySem.W.fnOf "combined" "combined" (defArgs (top 8)) (defBody (top 8)) (defScope (top 8)) .none kVcombined dccombined pmcombined ancombined cdcombined ctcombined), slcombined⟩)
    (ccombined : PySem.W.codeIn K cdcombined "combined" = true)
    (kcombined : PySem.W.keepIn K (.ref fcombined) = true)
    (apivot_of : PySem.W.nsIn K mainGlobals "pivot_of" = some (some (.ref fpivot_of)))
    (lpivot_of : K.lookup fpivot_of = some ⟨ocpivot_of, odpivot_of, .func (PySem.W.fnOf "pivot_of" "pivot_of" (defArgs (top 9)) (defBody (top 9)) (defScope (top 9)) .none kVpivot_of dcpivot_of pmpivot_of anpivot_of cdpivot_of ctpivot_of), slpivot_of⟩)
    (cpivot_of : PySem.W.codeIn K cdpivot_of "pivot_of" = true)
    (kpivot_of : PySem.W.keepIn K (.ref fpivot_of) = true)
    (acleared : PySem.W.nsIn K mainGlobals "cleared" = some (some (.ref fcleared)))
    (lcleared : K.lookup fcleared = some ⟨occleared, odcleared, .func (PySem.W.fnOf "cleared" "cleared" (defArgs (top 10)) (defBody (top 10)) (defScope (top 10)) .none kVcleared dccleared pmcleared ancleared cdcleared ctcleared), slcleared⟩)
    (ccleared : PySem.W.codeIn K cdcleared "cleared" = true)
    (kcleared : PySem.W.keepIn K (.ref fcleared) = true)
    (areduced : PySem.W.nsIn K mainGlobals "reduced" = some (some (.ref freduced)))
    (lreduced : K.lookup freduced = some ⟨ocreduced, odreduced, .func (PySem.W.fnOf "reduced" "reduced" (defArgs (top 12)) (defBody (top 12)) (defScope (top 12)) .none kVreduced dcreduced pmreduced anreduced cdreduced ctreduced), slreduced⟩)
    (creduced : PySem.W.codeIn K cdreduced "reduced" = true)
    (kreduced : PySem.W.keepIn K (.ref freduced) = true)
    (adual : PySem.W.nsIn K mainGlobals "dual" = some (some (.ref fdual)))
    (ldual : K.lookup fdual = some ⟨ocdual, oddual, .func (PySem.W.fnOf "dual" "dual" (defArgs (top 15)) (defBody (top 15)) (defScope (top 15)) .none kVdual dcdual pmdual andual cddual ctdual), sldual⟩)
    (cdual : PySem.W.codeIn K cddual "dual" = true)
    (kdual : PySem.W.keepIn K (.ref fdual) = true)
    (acheck_count : PySem.W.nsIn K mainGlobals "check_count" = some (some (.ref fcheck_count)))
    (lcheck_count : K.lookup fcheck_count = some ⟨occheck_count, odcheck_count, .func (PySem.W.fnOf "check_count" "check_count" (defArgs (top 18)) (defBody (top 18)) (defScope (top 18)) .none kVcheck_count dccheck_count pmcheck_count ancheck_count cdcheck_count ctcheck_count), slcheck_count⟩)
    (ccheck_count : PySem.W.codeIn K cdcheck_count "check_count" = true)
    (kcheck_count : PySem.W.keepIn K (.ref fcheck_count) = true)
    (ahorizon : PySem.W.nsIn K mainGlobals "horizon" = some (some (.ref fhorizon)))
    (lhorizon : K.lookup fhorizon = some ⟨ochorizon, odhorizon, .func (PySem.W.fnOf "horizon" "horizon" (defArgs (top 19)) (defBody (top 19)) (defScope (top 19)) .none kVhorizon dchorizon pmhorizon anhorizon cdhorizon cthorizon), slhorizon⟩)
    (chorizon : PySem.W.codeIn K cdhorizon "horizon" = true)
    (khorizon : PySem.W.keepIn K (.ref fhorizon) = true)
    (asettled : PySem.W.nsIn K mainGlobals "settled" = some (some (.ref fsettled)))
    (lsettled : K.lookup fsettled = some ⟨ocsettled, odsettled, .func (PySem.W.fnOf "settled" "settled" (defArgs (top 20)) (defBody (top 20)) (defScope (top 20)) .none kVsettled dcsettled pmsettled ansettled cdsettled ctsettled), slsettled⟩)
    (csettled : PySem.W.codeIn K cdsettled "settled" = true)
    (ksettled : PySem.W.keepIn K (.ref fsettled) = true)
    (agenerators : PySem.W.nsIn K mainGlobals "generators" = some (some (.ref fgenerators)))
    (lgenerators : K.lookup fgenerators = some ⟨ocgenerators, odgenerators, .func (PySem.W.fnOf "generators" "generators" (defArgs (top 22)) (defBody (top 22)) (defScope (top 22)) .none kVgenerators dcgenerators pmgenerators angenerators cdgenerators ctgenerators), slgenerators⟩)
    (cgenerators : PySem.W.codeIn K cdgenerators "generators" = true)
    (kgenerators : PySem.W.keepIn K (.ref fgenerators) = true)
    (ahas_point : PySem.W.nsIn K mainGlobals "has_point" = some (some (.ref fhas_point)))
    (lhas_point : K.lookup fhas_point = some ⟨ochas_point, odhas_point, .func (PySem.W.fnOf "has_point" "has_point" (defArgs (top 23)) (defBody (top 23)) (defScope (top 23)) .none kVhas_point dchas_point pmhas_point anhas_point cdhas_point cthas_point), slhas_point⟩)
    (chas_point : PySem.W.codeIn K cdhas_point "has_point" = true)
    (khas_point : PySem.W.keepIn K (.ref fhas_point) = true)
    (alaw_cell : PySem.W.nsIn K mainGlobals "_law_cell" = some (some (.ref flaw_cell)))
    (llaw_cell : K.lookup flaw_cell = some ⟨oclaw_cell, odlaw_cell, .func (PySem.W.fnOf "_law_cell" "_law_cell" (defArgs (top 25)) (defBody (top 25)) (defScope (top 25)) .none kVlaw_cell dclaw_cell pmlaw_cell anlaw_cell cdlaw_cell ctlaw_cell), sllaw_cell⟩)
    (claw_cell : PySem.W.codeIn K cdlaw_cell "_law_cell" = true)
    (klaw_cell : PySem.W.keepIn K (.ref flaw_cell) = true)
    (alaw_draws : PySem.W.nsIn K mainGlobals "_law_draws" = some (some (.ref flaw_draws)))
    (llaw_draws : K.lookup flaw_draws = some ⟨oclaw_draws, odlaw_draws, .func (PySem.W.fnOf "_law_draws" "_law_draws" (defArgs (top 26)) (defBody (top 26)) (defScope (top 26)) .none kVlaw_draws dclaw_draws pmlaw_draws anlaw_draws cdlaw_draws ctlaw_draws), sllaw_draws⟩)
    (claw_draws : PySem.W.codeIn K cdlaw_draws "_law_draws" = true)
    (klaw_draws : PySem.W.keepIn K (.ref flaw_draws) = true)
    (alaw_gcd : PySem.W.nsIn K mainGlobals "_law_gcd" = some (some (.ref flaw_gcd)))
    (llaw_gcd : K.lookup flaw_gcd = some ⟨oclaw_gcd, odlaw_gcd, .func (PySem.W.fnOf "_law_gcd" "_law_gcd" (defArgs (top 27)) (defBody (top 27)) (defScope (top 27)) .none kVlaw_gcd dclaw_gcd pmlaw_gcd anlaw_gcd cdlaw_gcd ctlaw_gcd), sllaw_gcd⟩)
    (claw_gcd : PySem.W.codeIn K cdlaw_gcd "_law_gcd" = true)
    (klaw_gcd : PySem.W.keepIn K (.ref flaw_gcd) = true)
    (alaw_primitive : PySem.W.nsIn K mainGlobals "_law_primitive" = some (some (.ref flaw_primitive)))
    (llaw_primitive : K.lookup flaw_primitive = some ⟨oclaw_primitive, odlaw_primitive, .func (PySem.W.fnOf "_law_primitive" "_law_primitive" (defArgs (top 28)) (defBody (top 28)) (defScope (top 28)) .none kVlaw_primitive dclaw_primitive pmlaw_primitive anlaw_primitive cdlaw_primitive ctlaw_primitive), sllaw_primitive⟩)
    (claw_primitive : PySem.W.codeIn K cdlaw_primitive "_law_primitive" = true)
    (klaw_primitive : PySem.W.keepIn K (.ref flaw_primitive) = true)
    (alaw_dot : PySem.W.nsIn K mainGlobals "_law_dot" = some (some (.ref flaw_dot)))
    (llaw_dot : K.lookup flaw_dot = some ⟨oclaw_dot, odlaw_dot, .func (PySem.W.fnOf "_law_dot" "_law_dot" (defArgs (top 29)) (defBody (top 29)) (defScope (top 29)) .none kVlaw_dot dclaw_dot pmlaw_dot anlaw_dot cdlaw_dot ctlaw_dot), sllaw_dot⟩)
    (claw_dot : PySem.W.codeIn K cdlaw_dot "_law_dot" = true)
    (klaw_dot : PySem.W.keepIn K (.ref flaw_dot) = true)
    (alaw_sum : PySem.W.nsIn K mainGlobals "_law_sum" = some (some (.ref flaw_sum)))
    (llaw_sum : K.lookup flaw_sum = some ⟨oclaw_sum, odlaw_sum, .func (PySem.W.fnOf "_law_sum" "_law_sum" (defArgs (top 30)) (defBody (top 30)) (defScope (top 30)) .none kVlaw_sum dclaw_sum pmlaw_sum anlaw_sum cdlaw_sum ctlaw_sum), sllaw_sum⟩)
    (claw_sum : PySem.W.codeIn K cdlaw_sum "_law_sum" = true)
    (klaw_sum : PySem.W.keepIn K (.ref flaw_sum) = true)
    (alaw_small : PySem.W.nsIn K mainGlobals "_law_small" = some (some (.ref flaw_small)))
    (llaw_small : K.lookup flaw_small = some ⟨oclaw_small, odlaw_small, .func (PySem.W.fnOf "_law_small" "_law_small" (defArgs (top 32)) (defBody (top 32)) (defScope (top 32)) .none kVlaw_small dclaw_small pmlaw_small anlaw_small cdlaw_small ctlaw_small), sllaw_small⟩)
    (claw_small : PySem.W.codeIn K cdlaw_small "_law_small" = true)
    (klaw_small : PySem.W.keepIn K (.ref flaw_small) = true)
    (alaw_point : PySem.W.nsIn K mainGlobals "_law_point" = some (some (.ref flaw_point)))
    (llaw_point : K.lookup flaw_point = some ⟨oclaw_point, odlaw_point, .func (PySem.W.fnOf "_law_point" "_law_point" (defArgs (top 33)) (defBody (top 33)) (defScope (top 33)) .none kVlaw_point dclaw_point pmlaw_point anlaw_point cdlaw_point ctlaw_point), sllaw_point⟩)
    (claw_point : PySem.W.codeIn K cdlaw_point "_law_point" = true)
    (klaw_point : PySem.W.keepIn K (.ref flaw_point) = true)
    (alaw_region_rows : PySem.W.nsIn K mainGlobals "_law_region_rows" = some (some (.ref flaw_region_rows)))
    (llaw_region_rows : K.lookup flaw_region_rows = some ⟨oclaw_region_rows, odlaw_region_rows, .func (PySem.W.fnOf "_law_region_rows" "_law_region_rows" (defArgs (top 34)) (defBody (top 34)) (defScope (top 34)) .none kVlaw_region_rows dclaw_region_rows pmlaw_region_rows anlaw_region_rows cdlaw_region_rows ctlaw_region_rows), sllaw_region_rows⟩)
    (claw_region_rows : PySem.W.codeIn K cdlaw_region_rows "_law_region_rows" = true)
    (klaw_region_rows : PySem.W.keepIn K (.ref flaw_region_rows) = true)
    (alaw_all_hold : PySem.W.nsIn K mainGlobals "_law_all_hold" = some (some (.ref flaw_all_hold)))
    (llaw_all_hold : K.lookup flaw_all_hold = some ⟨oclaw_all_hold, odlaw_all_hold, .func (PySem.W.fnOf "_law_all_hold" "_law_all_hold" (defArgs (top 35)) (defBody (top 35)) (defScope (top 35)) .none kVlaw_all_hold dclaw_all_hold pmlaw_all_hold anlaw_all_hold cdlaw_all_hold ctlaw_all_hold), sllaw_all_hold⟩)
    (claw_all_hold : PySem.W.codeIn K cdlaw_all_hold "_law_all_hold" = true)
    (klaw_all_hold : PySem.W.keepIn K (.ref flaw_all_hold) = true)
    (alaw_mean : PySem.W.nsIn K mainGlobals "_law_mean" = some (some (.ref flaw_mean)))
    (llaw_mean : K.lookup flaw_mean = some ⟨oclaw_mean, odlaw_mean, .func (PySem.W.fnOf "_law_mean" "_law_mean" (defArgs (top 36)) (defBody (top 36)) (defScope (top 36)) .none kVlaw_mean dclaw_mean pmlaw_mean anlaw_mean cdlaw_mean ctlaw_mean), sllaw_mean⟩)
    (claw_mean : PySem.W.codeIn K cdlaw_mean "_law_mean" = true)
    (klaw_mean : PySem.W.keepIn K (.ref flaw_mean) = true)
    (alaw : PySem.W.nsIn K mainGlobals "law" = some (some (.ref flaw)))
    (llaw : K.lookup flaw = some ⟨oclaw, odlaw, .func (PySem.W.fnOf "law" "law" (defArgs (top 37)) (defBody (top 37)) (defScope (top 37)) .none kVlaw dclaw pmlaw anlaw cdlaw ctlaw), sllaw⟩)
    (claw : PySem.W.codeIn K cdlaw "law" = true)
    (klaw : PySem.W.keepIn K (.ref flaw) = true)
    (aech : PySem.W.nsIn K mainGlobals "echelon" = some (some (.ref fech)))
    (lech : K.lookup fech = some ⟨ocech, odech, .func (PySem.W.fnOf "echelon" "echelon" (defArgs (top 11)) (defBody (top 11)) (defScope (top 11)) .none kVech dcech pmech anech (.ref cE) ctech), slech⟩)
    (cech : PySem.W.codeIn K (.ref cE) "echelon" = true)
    (kech : PySem.W.keepIn K (.ref fech) = true)
    (apol : PySem.W.nsIn K mainGlobals "polyhedron" = some (some (.ref fpol)))
    (lpol : K.lookup fpol = some ⟨ocpol, odpol, .func (PySem.W.fnOf "polyhedron" "polyhedron" (defArgs (top 21)) (defBody (top 21)) (defScope (top 21)) (.ref Td) kVpol dcpol pmpol anpol cdpol ctpol), slpol⟩)
    (cpol : PySem.W.codeIn K cdpol "polyhedron" = true)
    (kpol : PySem.W.keepIn K (.ref fpol) = true)
    (ttpol : K.lookup Td = some ⟨tcl, tdd, .seq #[.ref e] tn, tsl⟩)
    (ainit : PySem.W.findIn K (.ref C) "__init__" = some (some (.ref finit)))
    (linit : K.lookup finit = some ⟨ocinit, odinit, .func (PySem.W.fnOf "__init__" "Builder.__init__" (defArgs (inClass (top 14) 0)) (defBody (inClass (top 14) 0)) (defScope (inClass (top 14) 0)) .none kVinit dcinit pminit aninit cdinit ctinit), slinit⟩)
    (cinit : PySem.W.codeIn K cdinit "Builder.__init__" = true)
    (kinit : PySem.W.keepIn K (.ref finit) = true)
    (iinit : PySem.W.isFn K (.ref finit) = true)
    (aturn_line : PySem.W.findIn K (.ref C) "turn_line" = some (some (.ref fturn_line)))
    (lturn_line : K.lookup fturn_line = some ⟨octurn_line, odturn_line, .func (PySem.W.fnOf "turn_line" "Builder.turn_line" (defArgs (inClass (top 14) 1)) (defBody (inClass (top 14) 1)) (defScope (inClass (top 14) 1)) .none kVturn_line dcturn_line pmturn_line anturn_line cdturn_line ctturn_line), slturn_line⟩)
    (cturn_line : PySem.W.codeIn K cdturn_line "Builder.turn_line" = true)
    (kturn_line : PySem.W.keepIn K (.ref fturn_line) = true)
    (iturn_line : PySem.W.isFn K (.ref fturn_line) = true)
    (aadd : PySem.W.findIn K (.ref C) "add" = some (some (.ref fadd)))
    (ladd : K.lookup fadd = some ⟨ocadd, odadd, .func (PySem.W.fnOf "add" "Builder.add" (defArgs (inClass (top 14) 2)) (defBody (inClass (top 14) 2)) (defScope (inClass (top 14) 2)) .none kVadd dcadd pmadd anadd cdadd ctadd), sladd⟩)
    (cadd : PySem.W.codeIn K cdadd "Builder.add" = true)
    (kadd : PySem.W.keepIn K (.ref fadd) = true)
    (iadd : PySem.W.isFn K (.ref fadd) = true)
    (ajoined : PySem.W.findIn K (.ref C) "joined" = some (some (.ref fjoined)))
    (ljoined : K.lookup fjoined = some ⟨ocjoined, odjoined, .func (PySem.W.fnOf "joined" "Builder.joined" (defArgs (inClass (top 14) 3)) (defBody (inClass (top 14) 3)) (defScope (inClass (top 14) 3)) .none kVjoined dcjoined pmjoined anjoined cdjoined ctjoined), sljoined⟩)
    (cjoined : PySem.W.codeIn K cdjoined "Builder.joined" = true)
    (kjoined : PySem.W.keepIn K (.ref fjoined) = true)
    (ijoined : PySem.W.isFn K (.ref fjoined) = true)
    (aare_neighbours : PySem.W.findIn K (.ref C) "are_neighbours" = some (some (.ref fare_neighbours)))
    (lare_neighbours : K.lookup fare_neighbours = some ⟨ocare_neighbours, odare_neighbours, .func (PySem.W.fnOf "are_neighbours" "Builder.are_neighbours" (defArgs (inClass (top 14) 4)) (defBody (inClass (top 14) 4)) (defScope (inClass (top 14) 4)) .none kVare_neighbours dcare_neighbours pmare_neighbours anare_neighbours cdare_neighbours ctare_neighbours), slare_neighbours⟩)
    (care_neighbours : PySem.W.codeIn K cdare_neighbours "Builder.are_neighbours" = true)
    (kare_neighbours : PySem.W.keepIn K (.ref fare_neighbours) = true)
    (iare_neighbours : PySem.W.isFn K (.ref fare_neighbours) = true)
    (pg : PySem.W.plainGet K C Str.empty = true)
    (hd : PySem.W.hasDictIn K C = true)
    (po : PySem.W.plainOver K C = true)
    (sa : PySem.W.findIn K (.ref C) "__setattr__" = some (some (.builtin "object.__setattr__")))
    (mk : PySem.W.makesIn K C = true)
    (kc : PySem.W.keepIn K (.ref C) = true)
    (nL : PySem.W.findIn K (.ref C) "lines" = some none)
    (nR : PySem.W.findIn K (.ref C) "rays" = some none)
    (nC : PySem.W.findIn K (.ref C) "count" = some none)
    (mx : PySem.W.nsIn K mainGlobals "MAX_VARIABLES" = some (some (.int 8 tk)))
    (gc : PySem.W.nsIn K mainGlobals "gcd" = some (some (.builtin "math.gcd")))
    (z_len : PySem.W.nsIn K mainGlobals "len" = some none)
    (z_sum : PySem.W.nsIn K mainGlobals "sum" = some none)
    (z_all : PySem.W.nsIn K mainGlobals "all" = some none)
    (z_abs : PySem.W.nsIn K mainGlobals "abs" = some none)
    (z_max : PySem.W.nsIn K mainGlobals "max" = some none)
    (z_isinstance : PySem.W.nsIn K mainGlobals "isinstance" = some none)
    (z_bool : PySem.W.nsIn K mainGlobals "bool" = some none)
    (z_list : PySem.W.nsIn K mainGlobals "list" = some none)
    (z_int : PySem.W.nsIn K mainGlobals "int" = some none)
    (z_zip : PySem.W.nsIn K mainGlobals "zip" = some none)
    (z_enumerate : PySem.W.nsIn K mainGlobals "enumerate" = some none)
    (z_range : PySem.W.nsIn K mainGlobals "range" = some none)
    (z_sorted : PySem.W.nsIn K mainGlobals "sorted" = some none)
    (cd : PySem.W.codeHdIn K cE Pt = true)
    (nT : K.lookup Pt = none) :
    LawAtS l w K CX0 9 63 "_law_script" mg fa h :=
  law_at X G hfa tab aC ⟨_, _, _, _, _, _, _, _, _, _, acommon_divisor, lcommon_divisor, ccommon_divisor, kcommon_divisor⟩ ⟨_, _, _, _, _, _, _, _, _, _, aprimitive, lprimitive, cprimitive, kprimitive⟩ ⟨_, _, _, _, _, _, _, _, _, _, adot, ldot, cdot, kdot⟩ ⟨_, _, _, _, _, _, _, _, _, _, acombined, lcombined, ccombined, kcombined⟩ ⟨_, _, _, _, _, _, _, _, _, _, apivot_of, lpivot_of, cpivot_of, kpivot_of⟩ ⟨_, _, _, _, _, _, _, _, _, _, acleared, lcleared, ccleared, kcleared⟩ ⟨_, _, _, _, _, _, _, _, _, _, areduced, lreduced, creduced, kreduced⟩ ⟨_, _, _, _, _, _, _, _, _, _, adual, ldual, cdual, kdual⟩ ⟨_, _, _, _, _, _, _, _, _, _, acheck_count, lcheck_count, ccheck_count, kcheck_count⟩ ⟨_, _, _, _, _, _, _, _, _, _, ahorizon, lhorizon, chorizon, khorizon⟩ ⟨_, _, _, _, _, _, _, _, _, _, asettled, lsettled, csettled, ksettled⟩ ⟨_, _, _, _, _, _, _, _, _, _, agenerators, lgenerators, cgenerators, kgenerators⟩ ⟨_, _, _, _, _, _, _, _, _, _, ahas_point, lhas_point, chas_point, khas_point⟩ ⟨_, _, _, _, _, _, _, _, _, _, alaw_cell, llaw_cell, claw_cell, klaw_cell⟩ ⟨_, _, _, _, _, _, _, _, _, _, alaw_draws, llaw_draws, claw_draws, klaw_draws⟩ ⟨_, _, _, _, _, _, _, _, _, _, alaw_gcd, llaw_gcd, claw_gcd, klaw_gcd⟩ ⟨_, _, _, _, _, _, _, _, _, _, alaw_primitive, llaw_primitive, claw_primitive, klaw_primitive⟩ ⟨_, _, _, _, _, _, _, _, _, _, alaw_dot, llaw_dot, claw_dot, klaw_dot⟩ ⟨_, _, _, _, _, _, _, _, _, _, alaw_sum, llaw_sum, claw_sum, klaw_sum⟩ ⟨_, _, _, _, _, _, _, _, _, _, alaw_small, llaw_small, claw_small, klaw_small⟩ ⟨_, _, _, _, _, _, _, _, _, _, alaw_point, llaw_point, claw_point, klaw_point⟩ ⟨_, _, _, _, _, _, _, _, _, _, alaw_region_rows, llaw_region_rows, claw_region_rows, klaw_region_rows⟩ ⟨_, _, _, _, _, _, _, _, _, _, alaw_all_hold, llaw_all_hold, claw_all_hold, klaw_all_hold⟩ ⟨_, _, _, _, _, _, _, _, _, _, alaw_mean, llaw_mean, claw_mean, klaw_mean⟩ ⟨_, _, _, _, _, _, _, _, _, _, alaw, llaw, claw, klaw⟩ ⟨_, _, _, _, _, _, _, _, _, aech, lech, cech, kech⟩ ⟨_, _, _, _, _, _, _, _, _, _, _, _, _, _, apol, lpol, cpol, kpol, ttpol, rfl⟩ ⟨_, _, _, _, _, _, _, _, _, _, ainit, linit, cinit, kinit, iinit⟩ ⟨_, _, _, _, _, _, _, _, _, _, aturn_line, lturn_line, cturn_line, kturn_line, iturn_line⟩ ⟨_, _, _, _, _, _, _, _, _, _, aadd, ladd, cadd, kadd, iadd⟩ ⟨_, _, _, _, _, _, _, _, _, _, ajoined, ljoined, cjoined, kjoined, ijoined⟩ ⟨_, _, _, _, _, _, _, _, _, _, aare_neighbours, lare_neighbours, care_neighbours, kare_neighbours, iare_neighbours⟩ pg hd po sa mk kc nL nR nC mx gc z_len z_sum z_all z_abs z_max z_isinstance z_bool z_list z_int z_zip z_enumerate z_range z_sorted cd nT
end FW
set_option Elab.async false
set_option maxRecDepth 100000
set_option pp.maxSteps 60
open PySem PySem.W PyProof.Rows
set_option maxHeartbeats 0 in
theorem PySem.Challenge.cw_floodmark_k09_whole_points_of_polyhedra_holds : PySem.Challenge.rw_floodmark_k09_whole_points_of_polyhedra.Holds := by
  w_on; o_law; k_head; (case hw => w_witness2)
  k_fill
  refine LamX.walk_ofTs (l := PySem.Challenge.rw_floodmark_k09_whole_points_of_polyhedra) (n := 63) (k := 9) (x := "_law_script") (CX := fun _ => L2.CX0) rfl (by decide) rfl ⟨rfl, by decide, by decide⟩ (fun w h Y => PySem.W.km_in_of Y) ?F (fun _ _ _ _ _ z => z)
  case F =>
    intro w mg fa h Y KX G hmg
    refine' FW.law_facts (Pt := 105) KX G hmg ?tab ?aC ?acommon_divisor ?lcommon_divisor ?ccommon_divisor ?kcommon_divisor ?aprimitive ?lprimitive ?cprimitive ?kprimitive ?adot ?ldot ?cdot ?kdot ?acombined ?lcombined ?ccombined ?kcombined ?apivot_of ?lpivot_of ?cpivot_of ?kpivot_of ?acleared ?lcleared ?ccleared ?kcleared ?areduced ?lreduced ?creduced ?kreduced ?adual ?ldual ?cdual ?kdual ?acheck_count ?lcheck_count ?ccheck_count ?kcheck_count ?ahorizon ?lhorizon ?chorizon ?khorizon ?asettled ?lsettled ?csettled ?ksettled ?agenerators ?lgenerators ?cgenerators ?kgenerators ?ahas_point ?lhas_point ?chas_point ?khas_point ?alaw_cell ?llaw_cell ?claw_cell ?klaw_cell ?alaw_draws ?llaw_draws ?claw_draws ?klaw_draws ?alaw_gcd ?llaw_gcd ?claw_gcd ?klaw_gcd ?alaw_primitive ?llaw_primitive ?claw_primitive ?klaw_primitive ?alaw_dot ?llaw_dot ?claw_dot ?klaw_dot ?alaw_sum ?llaw_sum ?claw_sum ?klaw_sum ?alaw_small ?llaw_small ?claw_small ?klaw_small ?alaw_point ?llaw_point ?claw_point ?klaw_point ?alaw_region_rows ?llaw_region_rows ?claw_region_rows ?klaw_region_rows ?alaw_all_hold ?llaw_all_hold ?claw_all_hold ?klaw_all_hold ?alaw_mean ?llaw_mean ?claw_mean ?klaw_mean ?alaw ?llaw ?claw ?klaw ?aech ?lech ?cech ?kech ?apol ?lpol ?cpol ?kpol ?ttpol ?ainit ?linit ?cinit ?kinit ?iinit ?aturn_line ?lturn_line ?cturn_line ?kturn_line ?iturn_line ?aadd ?ladd ?cadd ?kadd ?iadd ?ajoined ?ljoined ?cjoined ?kjoined ?ijoined ?aare_neighbours ?lare_neighbours ?care_neighbours ?kare_neighbours ?iare_neighbours ?pg ?hd ?po ?sa ?mk ?kc ?nL ?nR ?nC ?mx ?gc ?z_len ?z_sum ?z_all ?z_abs ?z_max ?z_isinstance ?z_bool ?z_list ?z_int ?z_zip ?z_enumerate ?z_range ?z_sorted ?cd ?nT
    (case aC => k_is)
    (case acommon_divisor => k_is)
    (case lcommon_divisor => k_is)
    (case ccommon_divisor => k_is)
    (case kcommon_divisor => k_is)
    (case aprimitive => k_is)
    (case lprimitive => k_is)
    (case cprimitive => k_is)
    (case kprimitive => k_is)
    (case adot => k_is)
    (case ldot => k_is)
    (case cdot => k_is)
    (case kdot => k_is)
    (case acombined => k_is)
    (case lcombined => k_is)
    (case ccombined => k_is)
    (case kcombined => k_is)
    (case apivot_of => k_is)
    (case lpivot_of => k_is)
    (case cpivot_of => k_is)
    (case kpivot_of => k_is)
    (case acleared => k_is)
    (case lcleared => k_is)
    (case ccleared => k_is)
    (case kcleared => k_is)
    (case areduced => k_is)
    (case lreduced => k_is)
    (case creduced => k_is)
    (case kreduced => k_is)
    (case adual => k_is)
    (case ldual => k_is)
    (case cdual => k_is)
    (case kdual => k_is)
    (case acheck_count => k_is)
    (case lcheck_count => k_is)
    (case ccheck_count => k_is)
    (case kcheck_count => k_is)
    (case ahorizon => k_is)
    (case lhorizon => k_is)
    (case chorizon => k_is)
    (case khorizon => k_is)
    (case asettled => k_is)
    (case lsettled => k_is)
    (case csettled => k_is)
    (case ksettled => k_is)
    (case agenerators => k_is)
    (case lgenerators => k_is)
    (case cgenerators => k_is)
    (case kgenerators => k_is)
    (case ahas_point => k_is)
    (case lhas_point => k_is)
    (case chas_point => k_is)
    (case khas_point => k_is)
    (case alaw_cell => k_is)
    (case llaw_cell => k_is)
    (case claw_cell => k_is)
    (case klaw_cell => k_is)
    (case alaw_draws => k_is)
    (case llaw_draws => k_is)
    (case claw_draws => k_is)
    (case klaw_draws => k_is)
    (case alaw_gcd => k_is)
    (case llaw_gcd => k_is)
    (case claw_gcd => k_is)
    (case klaw_gcd => k_is)
    (case alaw_primitive => k_is)
    (case llaw_primitive => k_is)
    (case claw_primitive => k_is)
    (case klaw_primitive => k_is)
    (case alaw_dot => k_is)
    (case llaw_dot => k_is)
    (case claw_dot => k_is)
    (case klaw_dot => k_is)
    (case alaw_sum => k_is)
    (case llaw_sum => k_is)
    (case claw_sum => k_is)
    (case klaw_sum => k_is)
    (case alaw_small => k_is)
    (case llaw_small => k_is)
    (case claw_small => k_is)
    (case klaw_small => k_is)
    (case alaw_point => k_is)
    (case llaw_point => k_is)
    (case claw_point => k_is)
    (case klaw_point => k_is)
    (case alaw_region_rows => k_is)
    (case llaw_region_rows => k_is)
    (case claw_region_rows => k_is)
    (case klaw_region_rows => k_is)
    (case alaw_all_hold => k_is)
    (case llaw_all_hold => k_is)
    (case claw_all_hold => k_is)
    (case klaw_all_hold => k_is)
    (case alaw_mean => k_is)
    (case llaw_mean => k_is)
    (case claw_mean => k_is)
    (case klaw_mean => k_is)
    (case alaw => k_is)
    (case llaw => k_is)
    (case claw => k_is)
    (case klaw => k_is)
    (case aech => k_is)
    (case lech => k_is)
    (case cech => k_is)
    (case kech => k_is)
    (case apol => k_is)
    (case lpol => k_is)
    (case cpol => k_is)
    (case kpol => k_is)
    (case ttpol => k_is)
    (case ainit => k_is)
    (case linit => k_is)
    (case cinit => k_is)
    (case kinit => k_is)
    (case iinit => k_is)
    (case aturn_line => k_is)
    (case lturn_line => k_is)
    (case cturn_line => k_is)
    (case kturn_line => k_is)
    (case iturn_line => k_is)
    (case aadd => k_is)
    (case ladd => k_is)
    (case cadd => k_is)
    (case kadd => k_is)
    (case iadd => k_is)
    (case ajoined => k_is)
    (case ljoined => k_is)
    (case cjoined => k_is)
    (case kjoined => k_is)
    (case ijoined => k_is)
    (case aare_neighbours => k_is)
    (case lare_neighbours => k_is)
    (case care_neighbours => k_is)
    (case kare_neighbours => k_is)
    (case iare_neighbours => k_is)
    (case pg => k_is)
    (case hd => k_is)
    (case po => k_is)
    (case sa => k_is)
    (case mk => k_is)
    (case kc => k_is)
    (case nL => k_is)
    (case nR => k_is)
    (case nC => k_is)
    (case mx => k_is)
    (case gc => k_is)
    (case z_len => k_is)
    (case z_sum => k_is)
    (case z_all => k_is)
    (case z_abs => k_is)
    (case z_max => k_is)
    (case z_isinstance => k_is)
    (case z_bool => k_is)
    (case z_list => k_is)
    (case z_int => k_is)
    (case z_zip => k_is)
    (case z_enumerate => k_is)
    (case z_range => k_is)
    (case z_sorted => k_is)
    (case cd => first | k_is | kernel_rfl | rfl)
    (case nT => first | k_is | kernel_rfl | rfl)
    (case tab => exact PySem.W.km_tabs_of Y 105 (by decide))
#print axioms PySem.Challenge.cw_floodmark_k09_whole_points_of_polyhedra_holds
