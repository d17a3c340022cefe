import PyProof.Rows.All
import Wide.All
import OpenK.AllK
import Wide.FinOn
import Open.SpecLaws
import KE.OsGo
import HandS.ForMost
import HandS.ForSpec
import HandS.Style
import HandS.Flow
import HandS.Walk
import KE.SortData
import PySem.Challenge.RW_idealrows_s01_answers
set_option Elab.async false
set_option autoImplicit false
set_option linter.all false
set_option maxRecDepth 100000
set_option maxHeartbeats 2000000
/-! IrA: vectors, spans, rows in steps, that reduced rows are told by their span. -/
namespace Ir
open Nf02 (plus scale)
abbrev Vec := List Int

theorem len_plus {a b : Vec} (h : a.length = b.length) : (plus a b).length = a.length := by
  simp [plus, h]
theorem len_scale {c : Int} {a : Vec} : (scale c a).length = a.length := by simp [scale]
theorem gd_scale {c : Int} {a : Vec} (i : Nat) : (scale c a).getD i 0 = c * a.getD i 0 := by
  simp only [scale, List.getD_eq_getElem?_getD, List.getElem?_map]
  cases a[i]? <;> simp
theorem gd_plus {a b : Vec} (h : a.length = b.length) (i : Nat) : (plus a b).getD i 0 = a.getD i 0 + b.getD i 0 := by
  simp only [plus, List.getD_eq_getElem?_getD, List.getElem?_map, List.getElem?_zip_eq_some, List.zip]
  by_cases hi : i < a.length
  · have hb : i < b.length := h ▸ hi
    simp [hi, hb, List.getElem?_zipWith]
  · have hb : ¬ i < b.length := h ▸ hi
    simp [List.getElem?_zipWith, List.getElem?_eq_none (Nat.le_of_not_lt hi), List.getElem?_eq_none (Nat.le_of_not_lt hb)]
theorem gd_zero {n : Nat} (i : Nat) : (List.replicate n (0 : Int)).getD i 0 = 0 := by
  simp only [List.getD_eq_getElem?_getD, List.getElem?_replicate]
  split <;> simp
theorem gd_out {a : Vec} {i : Nat} (h : a.length ≤ i) : a.getD i 0 = 0 := by
  simp [List.getD_eq_getElem?_getD, List.getElem?_eq_none h]
theorem vext {a b : Vec} (h : a.length = b.length) (e : ∀ i, i < a.length → a.getD i 0 = b.getD i 0) : a = b := by
  refine List.ext_getElem h fun i h1 h2 => ?_
  have q := e i h1
  simp only [List.getD_eq_getElem?_getD, List.getElem?_eq_getElem h1, List.getElem?_eq_getElem h2, Option.getD_some] at q
  exact q
/-- x and c times y -/
def ax (c : Int) (x y : Vec) : Vec := plus x (scale c y)
theorem len_ax {c : Int} {x y : Vec} (h : x.length = y.length) : (ax c x y).length = x.length := len_plus (h.trans len_scale.symm)
theorem gd_ax {c : Int} {x y : Vec} (h : x.length = y.length) (i : Nat) : (ax c x y).getD i 0 = x.getD i 0 + c * y.getD i 0 := by
  unfold ax
  rw [gd_plus (h.trans len_scale.symm), gd_scale]
abbrev zr (n : Nat) : Vec := List.replicate n 0
theorem len_zr {n : Nat} : (zr n).length = n := List.length_replicate

/-! ### spans -/
/-- all of one length -/
def Wd (n : Nat) (L : List Vec) : Prop := ∀ x ∈ L, x.length = n
inductive Sp (n : Nat) (L : List Vec) : Vec → Prop
  | zero : Sp n L (zr n)
  | add {v x : Vec} (c : Int) : Sp n L v → x ∈ L → Sp n L (ax c v x)
section
variable {n : Nat} {L M : List Vec} {v w x : Vec}
theorem Sp.len (h : Wd n L) (s : Sp n L v) : v.length = n := by
  induction s with
  | zero => exact len_zr
  | add c _ hx ih => rw [len_ax (ih.trans (h _ hx).symm)]; exact ih
theorem Sp.plus (h : Wd n L) (s : Sp n L v) (t : Sp n L w) : Sp n L (Nf02.plus v w) := by
  have lv := s.len h
  induction t with
  | zero =>
    have e : Nf02.plus v (zr n) = v := vext (len_plus (by simp [lv])) fun i _ => by rw [gd_plus (by simp [lv]), gd_zero, Int.add_zero]
    rw [e]; exact s
  | @add w x c t hx ih =>
    have lw := t.len h
    have lx := h _ hx
    have e : Nf02.plus v (ax c w x) = ax c (Nf02.plus v w) x := by
      have l1 : v.length = (ax c w x).length := by rw [len_ax (by omega)]; omega
      have l2 : (Nf02.plus v w).length = x.length := by rw [len_plus (by omega)]; omega
      refine vext (by rw [len_plus l1, len_ax l2, len_plus (by omega)]) fun i _ => ?_
      rw [gd_plus l1, gd_ax (by omega), gd_ax l2, gd_plus (by omega), Int.add_assoc]
    rw [e]
    exact .add c ih hx
theorem Sp.mem (h : Wd n L) (hx : x ∈ L) : Sp n L x := by
  have e : ax 1 (zr n) x = x := by
    have l : (zr n).length = x.length := by rw [len_zr, h _ hx]
    refine vext (by rw [len_ax l, l]) fun i _ => ?_
    rw [gd_ax l, gd_zero]; omega
  have q := Sp.add (n := n) (L := L) 1 .zero hx
  rw [e] at q; exact q
theorem Sp.scale (h : Wd n L) (d : Int) (s : Sp n L v) : Sp n L (Nf02.scale d v) := by
  induction s with
  | zero =>
    have e : Nf02.scale d (zr n) = zr n := vext (by simp [len_scale]) fun i _ => by rw [gd_scale, gd_zero]; omega
    rw [e]; exact .zero
  | @add v x c s hx ih =>
    have lv := s.len h
    have lx := h _ hx
    have e : Nf02.scale d (ax c v x) = ax (d * c) (Nf02.scale d v) x := by
      have l2 : (Nf02.scale d v).length = x.length := by rw [len_scale]; omega
      refine vext (by rw [len_scale, len_ax (by omega), len_ax l2, len_scale]) fun i _ => ?_
      rw [gd_scale, gd_ax (by omega), gd_ax l2, gd_scale, Int.mul_add, Int.mul_assoc]
    rw [e]
    exact .add _ ih hx
theorem Sp.ax (h : Wd n L) (c : Int) (s : Sp n L v) (t : Sp n L w) : Sp n L (ax c v w) := s.plus h (t.scale h c)
theorem Sp.trans (h : Wd n M) (hs : ∀ x ∈ L, Sp n M x) (s : Sp n L v) : Sp n M v := by
  induction s with
  | zero => exact .zero
  | add c _ hx ih => exact ih.ax h c (hs _ hx)
theorem Sp.mono (hs : ∀ x ∈ L, x ∈ M) (s : Sp n L v) : Sp n M v := by
  induction s with
  | zero => exact .zero
  | add c _ hx ih => exact .add c ih (hs _ hx)
/-- a property of all of a span -/
theorem Sp.all {P : Vec → Prop} (h0 : P (zr n)) (hs : ∀ c v x, P v → x ∈ L → P (Ir.ax c v x)) (s : Sp n L v) : P v := by
  induction s with
  | zero => exact h0
  | add c _ hx ih => exact hs c _ _ ih hx
/-- the same span -/
def Eqs (n : Nat) (L M : List Vec) : Prop := ∀ v, Sp n L v ↔ Sp n M v
theorem Eqs.refl : Eqs n L L := fun _ => Iff.rfl
theorem Eqs.symm (e : Eqs n L M) : Eqs n M L := fun v => (e v).symm
theorem Eqs.trans {N : List Vec} (e : Eqs n L M) (f : Eqs n M N) : Eqs n L N := fun v => (e v).trans (f v)
theorem Eqs.of (hL : Wd n L) (hM : Wd n M) (h1 : ∀ x ∈ L, Sp n M x) (h2 : ∀ x ∈ M, Sp n L x) : Eqs n L M := fun _ => ⟨Sp.trans hM h1, Sp.trans hL h2⟩
end

/-! ### zeros behind a place -/
/-- 0 at all places from i on -/
def Zf (i : Nat) (v : Vec) : Prop := ∀ j, i ≤ j → v.getD j 0 = 0
theorem Zf.zr {i n : Nat} : Zf i (zr n) := fun _ _ => gd_zero _
theorem Zf.ax {i : Nat} {c : Int} {x y : Vec} (h : x.length = y.length) (a : Zf i x) (b : Zf i y) : Zf i (Ir.ax c x y) := fun j hj => by
  rw [gd_ax h, a j hj, b j hj]; omega
theorem Zf.mono {i j : Nat} {v : Vec} (h : i ≤ j) (z : Zf i v) : Zf j v := fun k hk => z k (Nat.le_trans h hk)
theorem Zf.of_len {n : Nat} {v : Vec} (h : v.length = n) : Zf n v := fun _ hj => gd_out (h ▸ hj)
theorem Zf.down {i : Nat} {v : Vec} (h : v.getD i 0 = 0) (z : Zf (i + 1) v) : Zf i v := fun j hj => by
  rcases Nat.lt_or_eq_of_le hj with q | q
  · exact z j q
  · rw [← q]; exact h
theorem Zf.eq_zr {v : Vec} {n : Nat} (h : v.length = n) (z : Zf 0 v) : v = Ir.zr n := vext (by simp [h]) fun i _ => by rw [z i (Nat.zero_le _), gd_zero]

/-! ### rows in steps -/
/-- n rows of n places: row i has 0 behind place i, something above 0 there -/
structure Tri (n m : Nat) (R : List Vec) : Prop where
  len : R.length = n
  wd : Wd m R
  zf : ∀ (i : Nat) (r : Vec), R[i]? = some r → Zf (i + 1) r
  pos : ∀ (i : Nat) (r : Vec), R[i]? = some r → 0 < r.getD i 0
/-- .. what stands ahead brought down -/
structure Hnf (n : Nat) (R : List Vec) : Prop extends Tri n n R where
  low : ∀ (i j : Nat) (r q : Vec), j < i → R[i]? = some r → R[j]? = some q → 0 ≤ r.getD j 0 ∧ r.getD j 0 < q.getD j 0

theorem exists_row {n m : Nat} {R : List Vec} (t : Tri n m R) {i : Nat} (h : i < n) : ∃ r, R[i]? = some r ∧ r ∈ R := by
  have h' : i < R.length := t.len ▸ h
  exact ⟨R[i], List.getElem?_eq_getElem h', List.getElem_mem _⟩

/-- of a span of rows in steps: the last row split off -/
theorem tri_split {n m : Nat} {R : List Vec} (t : Tri n m R) {i : Nat} {r u : Vec} (hr : R[i]? = some r) (su : Sp m (R.take (i + 1)) u) : ∃ c w, Sp m (R.take i) w ∧ u = ax c w r := by
  have hm : r ∈ R := List.mem_of_getElem? hr
  have wt : Wd m (R.take i) := fun x hx => t.wd x (List.mem_of_mem_take hx)
  have htk : R.take (i + 1) = R.take i ++ [r] := by
    rw [List.take_add_one, hr]; rfl
  have lr := t.wd r hm
  induction su with
  | zero =>
    refine ⟨0, _, .zero, ?_⟩
    have l : (zr m).length = r.length := by rw [len_zr, lr]
    refine (vext (by rw [len_ax l]) fun j _ => ?_).symm
    rw [gd_ax l]; omega
  | @add u x c su hx ih =>
    obtain ⟨d, w, sw, rfl⟩ := ih
    have lw := sw.len wt
    rw [htk] at hx
    rcases List.mem_append.mp hx with hx | hx
    · have lx := wt x hx
      refine ⟨d, ax c w x, .add c sw hx, ?_⟩
      have l1 : (ax d w r).length = x.length := by rw [len_ax (by omega)]; omega
      have l2 : (ax c w x).length = r.length := by rw [len_ax (by omega)]; omega
      refine vext (by rw [len_ax l1, len_ax l2, len_ax (by omega), len_ax (by omega)]) fun j _ => ?_
      rw [gd_ax l1, gd_ax l2, gd_ax (by omega), gd_ax (by omega)]; omega
    · have : x = r := by simpa using hx
      subst this
      refine ⟨d + c, w, sw, ?_⟩
      have l1 : (ax d w x).length = x.length := by rw [len_ax (by omega)]; omega
      refine vext (by rw [len_ax l1, len_ax (by omega), len_ax (by omega)]) fun j _ => ?_
      rw [gd_ax l1, gd_ax (by omega), gd_ax (by omega), Int.add_mul]; omega
theorem tri_take_zf {n m : Nat} {R : List Vec} (t : Tri n m R) {i : Nat} {w : Vec} (sw : Sp m (R.take i) w) : Zf i w := by
  have wt : Wd m (R.take i) := fun x hx => t.wd x (List.mem_of_mem_take hx)
  have q : w.length = m ∧ Zf i w := by
    refine sw.all (P := fun v => v.length = m ∧ Zf i v) ⟨len_zr, Zf.zr⟩ fun c v x hv hx => ?_
    have lx := wt x hx
    obtain ⟨j, hj, e⟩ := List.getElem_of_mem hx
    have hj' : j < i := by simp at hj; omega
    have hx' : R[j]? = some x := by
      rw [← e, List.getElem_take]; exact List.getElem?_eq_getElem _
    exact ⟨by rw [len_ax (by omega)]; exact hv.1, Zf.ax (by omega) hv.2 ((t.zf j x hx').mono (by omega))⟩
  exact q.2
/-- by the first rows alone, where there are 0s behind -/
theorem tri_sp {n m : Nat} {R : List Vec} (t : Tri n m R) : ∀ (i : Nat) (v : Vec), i ≤ n → Sp m R v → Zf i v → Sp m (R.take i) v := by
  have key : ∀ (k i : Nat) (v : Vec), i + k = n → Sp m R v → Zf i v → Sp m (R.take i) v := by
    intro k
    induction k with
    | zero =>
      intro i v e s _
      have : R.take i = R := List.take_of_length_le (by rw [t.len]; omega)
      rw [this]; exact s
    | succ k ih =>
      intro i v e s z
      have s1 := ih (i + 1) v (by omega) s (z.mono (by omega))
      obtain ⟨r, hr, hm⟩ := exists_row t (i := i) (by omega)
      have wt : Wd m (R.take i) := fun x hx => t.wd x (List.mem_of_mem_take hx)
      obtain ⟨c, w, sw, rfl⟩ := tri_split t hr s1
      have lw := sw.len wt
      have lr := t.wd r hm
      have zw : Zf i w := tri_take_zf t sw
      have e0 := z i (Nat.le_refl _)
      rw [gd_ax (by omega), zw i (Nat.le_refl _)] at e0
      have hp := t.pos i r hr
      have hc : c = 0 := by
        rcases Int.mul_eq_zero.mp (show c * r.getD i 0 = 0 by omega) with h | h
        · exact h
        · omega
      have e1 : ax c w r = w := by
        rw [hc]
        refine vext (by rw [len_ax (by omega)]) fun j _ => ?_
        rw [gd_ax (by omega)]; omega
      rw [e1]; exact sw
  intro i v hi s z
  exact key (n - i) i v (by omega) s z
/-- the own place divides -/
theorem tri_dvd {n m : Nat} {R : List Vec} (t : Tri n m R) {i : Nat} {r v : Vec} (hr : R[i]? = some r) (hi : i < n) (s : Sp m R v) (z : Zf (i + 1) v) : r.getD i 0 ∣ v.getD i 0 := by
  have s1 := tri_sp t (i + 1) v (by omega) s z
  obtain ⟨c, w, sw, rfl⟩ := tri_split t hr s1
  have wt : Wd m (R.take i) := fun x hx => t.wd x (List.mem_of_mem_take hx)
  have lw := sw.len wt
  have lr := t.wd r (List.mem_of_getElem? hr)
  rw [gd_ax (by omega), tri_take_zf t sw i (Nat.le_refl _)]
  exact ⟨c, by rw [Int.mul_comm]; omega⟩
theorem hnf_uniq {n : Nat} {R S : List Vec} (h : Hnf n R) (g : Hnf n S) (e : Eqs n R S) : R = S := by
  have dg : ∀ (i : Nat) (r q : Vec), R[i]? = some r → S[i]? = some q → r.getD i 0 = q.getD i 0 := fun i r q hr hq => by
    have hi : i < n := by
      have := (List.getElem?_eq_some_iff.mp hr).1
      rw [h.len] at this; exact this
    have d1 := tri_dvd h.toTri hr hi ((e q).mpr (.mem g.wd (List.mem_of_getElem? hq))) (g.zf i q hq)
    have d2 := tri_dvd g.toTri hq hi ((e r).mp (.mem h.wd (List.mem_of_getElem? hr))) (h.zf i r hr)
    have p1 := h.pos i r hr
    have p2 := g.pos i q hq
    exact Int.dvd_antisymm (by omega) (by omega) d1 d2
  refine List.ext_getElem (h.len.trans g.len.symm) fun i h1 h2 => ?_
  have hr : R[i]? = some R[i] := List.getElem?_eq_getElem h1
  have hq : S[i]? = some S[i] := List.getElem?_eq_getElem h2
  have hin : i < n := h.len ▸ h1
  generalize R[i] = r at hr
  generalize S[i] = q at hq
  have lr := h.wd r (List.mem_of_getElem? hr)
  have lq := g.wd q (List.mem_of_getElem? hq)
  have sd : Sp n R (ax (-1) r q) := (Sp.mem h.wd (List.mem_of_getElem? hr)).ax h.wd _ ((e q).mpr (.mem g.wd (List.mem_of_getElem? hq)))
  have gd : ∀ j, (ax (-1) r q).getD j 0 = r.getD j 0 - q.getD j 0 := fun j => by rw [gd_ax (by omega)]; omega
  have zi : Zf i (ax (-1) r q) := fun j hj => by
    rw [gd]
    rcases Nat.lt_or_eq_of_le hj with k | k
    · rw [h.zf i r hr j k, g.zf i q hq j k]; omega
    · subst k; rw [dg i r q hr hq]; omega
  have all : ∀ k, k ≤ i → Zf (i - k) (ax (-1) r q) := by
    intro k
    induction k with
    | zero => intro _; exact zi
    | succ k ih =>
      intro hk
      have z := ih (by omega)
      have e1 : i - k = (i - (k + 1)) + 1 := by omega
      rw [e1] at z
      generalize hj : i - (k + 1) = j at z
      obtain ⟨u, hu, _⟩ := exists_row h.toTri (i := j) (by omega)
      obtain ⟨u', hu', _⟩ := exists_row g.toTri (i := j) (by omega)
      have dv := tri_dvd h.toTri hu (by omega) sd z
      have b1 := h.low i j r u (by omega) hr hu
      have b2 := g.low i j q u' (by omega) hq hu'
      have eu := dg j u u' hu hu'
      refine Zf.down ?_ z
      rw [gd] at dv ⊢
      obtain ⟨c, hc⟩ := dv
      have : c = 0 := by
        rcases Int.lt_trichotomy c 0 with hc0 | hc0 | hc0
        · exfalso
          have : u.getD j 0 * c ≤ u.getD j 0 * (-1) := Int.mul_le_mul_of_nonneg_left (by omega) (by omega)
          omega
        · exact hc0
        · exfalso
          have : u.getD j 0 * 1 ≤ u.getD j 0 * c := Int.mul_le_mul_of_nonneg_left (by omega) (by omega)
          omega
      rw [this] at hc; omega
  have z0 := all i (Nat.le_refl _)
  refine vext (lr.trans lq.symm) fun j _ => ?_
  have := z0 j (by omega)
  rw [gd] at this; omega

/-! ### what rows leave of a vector -/
abbrev rest := Nf02.rest
theorem rest_nil {v : Vec} : rest [] v = v := rfl
theorem rest_snoc {D : List Vec} {q v : Vec} : rest (D ++ [q]) v = rest D (plus v (scale (0 - v.getD D.length 0 / q.getD D.length 1) q)) := by
  simp only [rest, Nf02.rest, List.zipIdx_append, List.zipIdx_cons, List.zipIdx_nil, List.reverse_append, List.reverse_cons, List.reverse_nil, List.nil_append, List.cons_append, List.foldl_cons, Nat.zero_add]
theorem tri_snoc {n m : Nat} {D : List Vec} {q : Vec} (t : Tri (n + 1) m (D ++ [q])) : Tri n m D ∧ q.length = m ∧ Zf (n + 1) q ∧ 0 < q.getD n 0 := by
  have hl : D.length = n := by have := t.len; simp at this; exact this
  have up : ∀ (i : Nat) (r : Vec), D[i]? = some r → (D ++ [q])[i]? = some r := fun i r e => by
    rw [List.getElem?_append_left (List.getElem?_eq_some_iff.mp e).1]; exact e
  have last : (D ++ [q])[n]? = some q := by rw [← hl]; simp
  exact ⟨⟨hl, fun x hx => t.wd x (List.mem_append_left _ hx), fun i r e => t.zf i r (up i r e), fun i r e => t.pos i r (up i r e)⟩, t.wd q (by simp), t.zf n q last, t.pos n q last⟩
theorem tri_snoc_mk {n m : Nat} {D : List Vec} {q : Vec} (t : Tri n m D) (h1 : q.length = m) (h2 : Zf (n + 1) q) (h3 : 0 < q.getD n 0) : Tri (n + 1) m (D ++ [q]) := by
  have cs : ∀ (i : Nat) (r : Vec), (D ++ [q])[i]? = some r → D[i]? = some r ∨ (i = n ∧ r = q) := fun i r e => by
    by_cases hi : i < D.length
    · rw [List.getElem?_append_left hi] at e; exact .inl e
    · rw [List.getElem?_append_right (by omega)] at e
      have : i - D.length = 0 := by
        rcases Nat.eq_zero_or_pos (i - D.length) with z | z
        · exact z
        · rw [List.getElem?_eq_none (by simp; omega)] at e; cases e
      rw [this] at e
      simp at e
      exact .inr ⟨by rw [← t.len]; omega, e.symm⟩
  refine ⟨by simp [t.len], fun x hx => ?_, fun i r e => ?_, fun i r e => ?_⟩
  · rcases List.mem_append.mp hx with hx | hx
    · exact t.wd x hx
    · have : x = q := by simpa using hx
      rw [this]; exact h1
  · rcases cs i r e with e | ⟨rfl, rfl⟩
    · exact t.zf i r e
    · exact h2
  · rcases cs i r e with e | ⟨rfl, rfl⟩
    · exact t.pos i r e
    · exact h3
/-- the rest: as far away as a whole sum of the rows, from 0 to below the own places there, unchanged behind -/
theorem rest_ok {m : Nat} : ∀ {n : Nat} {D : List Vec} {v : Vec}, n ≤ m → Tri n m D → v.length = m → (rest D v).length = m ∧ (∃ w, Sp m D w ∧ rest D v = plus v w) ∧ (∀ j, n ≤ j → (rest D v).getD j 0 = v.getD j 0) ∧
    (∀ (j : Nat) (q : Vec), D[j]? = some q → 0 ≤ (rest D v).getD j 0 ∧ (rest D v).getD j 0 < q.getD j 0) := by
  intro n
  induction n with
  | zero =>
    intro D v _ t lv
    have : D = [] := List.eq_nil_of_length_eq_zero t.len
    subst this
    refine ⟨lv, ⟨zr m, .zero, ?_⟩, fun _ _ => rfl, fun j q e => by simp at e⟩
    rw [rest_nil]
    exact (vext (by rw [len_plus (by simp [lv])]) fun i _ => by rw [gd_plus (by simp [lv]), gd_zero]; omega).symm
  | succ n ih =>
    intro D v hnm t lv
    obtain ⟨D, q, rfl⟩ : ∃ D' q, D = D' ++ [q] := by
      have hne : D ≠ [] := fun e => by have := t.len; rw [e] at this; simp at this
      exact ⟨D.dropLast, D.getLast hne, (List.dropLast_concat_getLast hne).symm⟩
    obtain ⟨t', lq, zq, pq⟩ := tri_snoc t
    have hl := t'.len
    have wd : Wd m (D ++ [q]) := t.wd
    rw [rest_snoc, hl]
    have g1 : q.getD n 1 = q.getD n 0 := by
      have : n < q.length := by omega
      simp [List.getD_eq_getElem?_getD, this]
    rw [g1]
    generalize hc : 0 - v.getD n 0 / q.getD n 0 = c
    have lvq : v.length = q.length := by omega
    have lv' : (ax c v q).length = m := by rw [len_ax lvq]; exact lv
    obtain ⟨i1, ⟨w, sw, i2⟩, i3, i4⟩ := ih (v := ax c v q) (by omega) t' lv'
    have lw := sw.len t'.wd
    refine ⟨i1, ⟨plus w (scale c q), ?_, ?_⟩, fun j hj => ?_, fun j u hu => ?_⟩
    · exact Sp.plus wd (sw.mono fun x hx => List.mem_append_left _ hx) ((Sp.mem wd (by simp)).scale wd c)
    · show rest D (ax c v q) = _
      rw [i2]
      have l3 : w.length = (scale c q).length := by rw [len_scale]; omega
      have l4 : v.length = (plus w (scale c q)).length := by rw [len_plus l3]; omega
      refine vext (by rw [len_plus (by omega), len_plus l4]; omega) fun j _ => ?_
      rw [gd_plus (by omega), gd_ax lvq, gd_plus l4, gd_plus l3, gd_scale]; omega
    · show (rest D (ax c v q)).getD j 0 = _
      rw [i3 j (by omega), gd_ax lvq, zq j hj]; omega
    · show 0 ≤ (rest D (ax c v q)).getD j 0 ∧ (rest D (ax c v q)).getD j 0 < _
      by_cases hj : j < D.length
      · rw [List.getElem?_append_left hj] at hu
        exact i4 j u hu
      · have hjn : j = n := by
          have := (List.getElem?_eq_some_iff.mp hu).1
          simp at this; omega
        subst hjn
        have : u = q := by
          rw [← hl] at hu; simp at hu; exact hu.symm
        subst this
        rw [i3 j (Nat.le_refl _), gd_ax lvq, ← hc]
        have e1 := Int.emod_add_mul_ediv (v.getD j 0) (u.getD j 0)
        have e2 := Int.emod_nonneg (v.getD j 0) (show u.getD j 0 ≠ 0 by omega)
        have e3 := Int.emod_lt_of_pos (v.getD j 0) pq
        have e4 : (0 - v.getD j 0 / u.getD j 0) * u.getD j 0 = - (u.getD j 0 * (v.getD j 0 / u.getD j 0)) := by
          rw [Int.sub_mul, Int.zero_mul, Int.mul_comm]; omega
        rw [e4]
        omega
/-! ### rows brought down -/
abbrev lower := Nf02.lower
theorem lower_nil : lower [] = [] := rfl
theorem lower_snoc {D : List Vec} {q : Vec} : lower (D ++ [q]) = lower D ++ [rest (lower D) q] := by
  simp only [lower, Nf02.lower, List.foldl_append, List.foldl_cons, List.foldl_nil]; rfl
def Low (R : List Vec) : Prop := ∀ (i j : Nat) (r q : Vec), j < i → R[i]? = some r → R[j]? = some q → 0 ≤ r.getD j 0 ∧ r.getD j 0 < q.getD j 0
theorem lower_ok {m : Nat} : ∀ {n : Nat} {R : List Vec}, n ≤ m → Tri n m R → Tri n m (lower R) ∧ Low (lower R) ∧ Eqs m R (lower R) := by
  intro n
  induction n with
  | zero =>
    intro R _ t
    have : R = [] := List.eq_nil_of_length_eq_zero t.len
    subst this
    exact ⟨t, fun i j r q _ e _ => by simp [lower_nil] at e, .refl⟩
  | succ n ih =>
    intro R hnm t
    obtain ⟨D, q, rfl⟩ : ∃ D' q, R = D' ++ [q] := by
      have hne : R ≠ [] := fun e => by have := t.len; rw [e] at this; simp at this
      exact ⟨R.dropLast, R.getLast hne, (List.dropLast_concat_getLast hne).symm⟩
    obtain ⟨t', lq, zq, pq⟩ := tri_snoc t
    obtain ⟨t1, lo, eq⟩ := ih (by omega) t'
    obtain ⟨r1, ⟨w, sw, r2⟩, r3, r4⟩ := rest_ok (by omega) t1 lq
    rw [lower_snoc]
    have t2 : Tri (n + 1) m (lower D ++ [rest (lower D) q]) := tri_snoc_mk t1 r1 (fun j hj => by rw [r3 j (by omega)]; exact zq j hj) (by rw [r3 n (Nat.le_refl _)]; exact pq)
    have lw := sw.len t1.wd
    refine ⟨t2, fun i j r u hj hr hu => ?_, Eqs.of t.wd t2.wd (fun x hx => ?_) fun x hx => ?_⟩
    · by_cases hi : i < (lower D).length
      · rw [List.getElem?_append_left hi] at hr
        rw [List.getElem?_append_left (by omega)] at hu
        exact lo i j r u hj hr hu
      · have hin : i = (lower D).length := by
          have := (List.getElem?_eq_some_iff.mp hr).1
          simp at this; omega
        rw [hin] at hr
        have hr' : rest (lower D) q = r := by simpa using hr
        rw [List.getElem?_append_left (by omega)] at hu
        rw [← hr']
        exact r4 j u hu
    · rcases List.mem_append.mp hx with hx | hx
      · exact ((eq x).mp (.mem t'.wd hx)).mono fun y hy => List.mem_append_left _ hy
      · have : x = q := by simpa using hx
        subst this
        have e : x = ax (-1) (rest (lower D) x) w := by
          have l1 : x.length = w.length := by omega
          have l2 : (rest (lower D) x).length = w.length := by omega
          refine vext (by rw [len_ax l2]; omega) fun j _ => ?_
          rw [gd_ax l2, r2, gd_plus l1]; omega
        have s := (Sp.mem t2.wd (show rest (lower D) x ∈ lower D ++ [rest (lower D) x] by simp)).ax t2.wd (-1) (sw.mono fun y hy => List.mem_append_left _ hy)
        rw [← e] at s
        exact s
    · rcases List.mem_append.mp hx with hx | hx
      · exact ((eq x).mpr (.mem t1.wd hx)).mono fun y hy => List.mem_append_left _ hy
      · have : x = rest (lower D) q := by simpa using hx
        subst this
        rw [r2]
        exact Sp.plus t.wd (.mem t.wd (by simp)) (((eq w).mpr sw).mono fun y hy => List.mem_append_left _ hy)
theorem lower_hnf {n : Nat} {R : List Vec} (t : Tri n n R) : Hnf n (lower R) ∧ Eqs n R (lower R) := by
  obtain ⟨a, b, c⟩ := lower_ok (Nat.le_refl _) t
  exact ⟨⟨a, b⟩, c⟩
end Ir

/-! IrB: the Euclid of one place: what it keeps, how long it goes on, how great its numbers grow. -/
namespace Ir
open Nf02 (plus scale)

abbrev at_ (p : Nat) (x : Vec) : Int := x.getD p 0
def nz (p : Nat) (x : Vec) : Bool := x.getD p 0 != 0
def zz (p : Nat) (x : Vec) : Bool := x.getD p 0 == 0
theorem nz_iff {p : Nat} {x : Vec} : nz p x = true ↔ x.getD p 0 ≠ 0 := by unfold nz; exact bne_iff_ne
theorem zz_iff {p : Nat} {x : Vec} : zz p x = true ↔ x.getD p 0 = 0 := by unfold zz; exact beq_iff_eq
theorem nz_no {p : Nat} {x : Vec} (h : x.getD p 0 = 0) : nz p x = false := by unfold nz; rw [h]; rfl
theorem zz_no {p : Nat} {x : Vec} (h : ¬ x.getD p 0 = 0) : zz p x = false := by unfold zz; exact beq_eq_false_iff_ne.mpr h
/-- the one of the least size at a place, the first such -/
def mn (p : Nat) (r : Vec) (s : List Vec) : Vec := s.foldl (fun b x => if (x.getD p 0).natAbs < (b.getD p 0).natAbs then x else b) r
theorem mn_ok (p : Nat) : ∀ (s : List Vec) (r : Vec), mn p r s ∈ r :: s ∧ ∀ x ∈ r :: s, ((mn p r s).getD p 0).natAbs ≤ (x.getD p 0).natAbs
  | [], r => ⟨by simp [mn], fun x hx => by
      have : x = r := by simpa using hx
      subst this; exact Nat.le_refl _⟩
  | y :: s, r => by
    have e : mn p r (y :: s) = mn p (if (y.getD p 0).natAbs < (r.getD p 0).natAbs then y else r) s := rfl
    rw [e]
    obtain ⟨h1, h2⟩ := mn_ok p s (if (y.getD p 0).natAbs < (r.getD p 0).natAbs then y else r)
    have h3 := h2 _ List.mem_cons_self
    split at h1 <;> rename_i c <;> simp only [c, if_true, if_false] at h2 h3 ⊢
    · refine ⟨by simp only [List.mem_cons] at h1 ⊢; rcases h1 with h | h <;> simp [h], fun x hx => ?_⟩
      rcases List.mem_cons.mp hx with rfl | hx
      · omega
      · exact h2 x hx
    · refine ⟨by simp only [List.mem_cons] at h1 ⊢; rcases h1 with h | h <;> simp [h], fun x hx => ?_⟩
      rcases List.mem_cons.mp hx with rfl | hx
      · exact h3
      · rcases List.mem_cons.mp hx with rfl | hx
        · omega
        · exact h2 x (by simp [hx])
/-- x less so often m that its place is brought down -/
def stp (dv : Int → Int → Int) (p : Nat) (m x : Vec) : Vec := ax (0 - dv (x.getD p 0) (m.getD p 0)) x m
/-- all after one turn -/
def nxt (dv : Int → Int → Int) (p : Nat) : List Vec → List Vec
  | [] => []
  | r :: s => mn p r s :: ((r :: s).erase (mn p r s)).map (stp dv p (mn p r s))
def go (dv : Int → Int → Int) (kp : Vec → Bool) (p : Nat) : Nat → List Vec → List Vec → Option (Vec × List Vec)
  | _, [], _ => none
  | _, [m], R => some (m, R)
  | 0, _ :: _ :: _, _ => none
  | f + 1, r :: r' :: s, R => go dv kp p f ((nxt dv p (r :: r' :: s)).filter (nz p)) (R ++ (nxt dv p (r :: r' :: s)).filter fun x => zz p x && kp x)

/-- what a turn is: one of the least size, the others brought down by it -/
structure Turn (dv : Int → Int → Int) (p : Nat) (S T : List Vec) (m : Vec) (O : List Vec) : Prop where
  perm : S.Perm (m :: O)
  least : ∀ x ∈ S, (m.getD p 0).natAbs ≤ (x.getD p 0).natAbs
  is : T = m :: O.map (stp dv p m)
theorem turn_nxt (dv : Int → Int → Int) (p : Nat) (r : Vec) (s : List Vec) : Turn dv p (r :: s) (nxt dv p (r :: s)) (mn p r s) ((r :: s).erase (mn p r s)) :=
  ⟨List.perm_cons_erase (mn_ok p s r).1, (mn_ok p s r).2, rfl⟩

section
variable {dv : Int → Int → Int} {kp : Vec → Bool} {p n : Nat}
theorem Turn.mem {S T O : List Vec} {m : Vec} (t : Turn dv p S T m O) (x : Vec) : x ∈ S ↔ x = m ∨ x ∈ O := by
  rw [t.perm.mem_iff]; simp
theorem Turn.len {S T O : List Vec} {m : Vec} (t : Turn dv p S T m O) : S.length = O.length + 1 ∧ T.length = S.length := by
  have := t.perm.length_eq
  rw [t.is]
  simp at this ⊢
  omega
theorem Turn.all {S T O : List Vec} {m : Vec} (t : Turn dv p S T m O) {P : Vec → Prop} (hP : ∀ c x y, P x → P y → P (ax c x y)) (h : ∀ x ∈ S, P x) : ∀ x ∈ T, P x := by
  intro x hx
  rw [t.is] at hx
  have hm := h m ((t.mem m).mpr (.inl rfl))
  rcases List.mem_cons.mp hx with rfl | hx
  · exact hm
  · obtain ⟨y, hy, rfl⟩ := List.mem_map.mp hx
    exact hP _ _ _ (h y ((t.mem y).mpr (.inr hy))) hm
theorem Turn.sp {S T O : List Vec} {m : Vec} (t : Turn dv p S T m O) (hS : Wd n S) : Eqs n S T ∧ Wd n T := by
  have hm : m ∈ S := (t.mem m).mpr (.inl rfl)
  have lm := hS m hm
  have hT : Wd n T := by
    intro x hx
    rw [t.is] at hx
    rcases List.mem_cons.mp hx with rfl | hx
    · exact lm
    · obtain ⟨y, hy, rfl⟩ := List.mem_map.mp hx
      have := hS y ((t.mem y).mpr (.inr hy))
      unfold stp
      rw [len_ax (by omega)]; exact this
  refine ⟨Eqs.of hS hT (fun x hx => ?_) fun x hx => ?_, hT⟩
  · have sm : Sp n T m := .mem hT (by rw [t.is]; simp)
    rcases (t.mem x).mp hx with rfl | hx'
    · exact sm
    · have lx := hS x hx
      have s1 : Sp n T (stp dv p m x) := .mem hT (by rw [t.is]; exact List.mem_cons_of_mem _ (List.mem_map_of_mem hx'))
      have e : x = ax (dv (x.getD p 0) (m.getD p 0)) (stp dv p m x) m := by
        unfold stp
        have l1 : (ax (0 - dv (x.getD p 0) (m.getD p 0)) x m).length = m.length := by rw [len_ax (by omega)]; omega
        refine vext (by rw [len_ax l1]; omega) fun j _ => ?_
        rw [gd_ax l1, gd_ax (by omega), Int.sub_mul]; omega
      rw [e]
      exact s1.ax hT _ sm
  · rw [t.is] at hx
    rcases List.mem_cons.mp hx with rfl | hx
    · exact .mem hS hm
    · obtain ⟨y, hy, rfl⟩ := List.mem_map.mp hx
      exact (Sp.mem hS ((t.mem y).mpr (.inr hy))).ax hS _ (.mem hS hm)
/-- parted into those that are 0 at a place, the zeros left out, and the others -/
theorem sp_part {T R : List Vec} (hT : Wd n T) (hR : Wd n R) (hk : ∀ x ∈ T, kp x = false → x = zr n) : Eqs n (T.filter (nz p) ++ (R ++ T.filter fun x => zz p x && kp x)) (T ++ R) := by
  have w1 : Wd n (T ++ R) := fun x hx => (List.mem_append.mp hx).elim (hT x) (hR x)
  have w2 : Wd n (T.filter (nz p) ++ (R ++ T.filter fun x => zz p x && kp x)) := fun x hx => by
    simp only [List.mem_append, List.mem_filter] at hx
    rcases hx with h | h | h
    · exact hT x h.1
    · exact hR x h
    · exact hT x h.1
  refine Eqs.of w2 w1 (fun x hx => ?_) fun x hx => ?_
  · simp only [List.mem_append, List.mem_filter] at hx
    rcases hx with h | h | h
    · exact .mem w1 (List.mem_append_left _ h.1)
    · exact .mem w1 (List.mem_append_right _ h)
    · exact .mem w1 (List.mem_append_left _ h.1)
  · rcases List.mem_append.mp hx with h | h
    · by_cases hz : x.getD p 0 = 0
      · cases hq : kp x with
        | true => exact .mem w2 (by simp only [List.mem_append, List.mem_filter]; exact .inr (.inr ⟨h, by simp [zz_iff.mpr hz, hq]⟩))
        | false => rw [hk x h hq]; exact .zero
      · exact .mem w2 (by simp only [List.mem_append, List.mem_filter]; exact .inl ⟨h, nz_iff.mpr hz⟩)
    · exact .mem w2 (by simp only [List.mem_append, List.mem_filter]; exact .inr (.inl h))
theorem sp_app {A B R : List Vec} (hA : Wd n A) (hB : Wd n B) (hR : Wd n R) (e : Eqs n A B) : Eqs n (A ++ R) (B ++ R) := by
  have w1 : Wd n (A ++ R) := fun x hx => (List.mem_append.mp hx).elim (hA x) (hR x)
  have w2 : Wd n (B ++ R) := fun x hx => (List.mem_append.mp hx).elim (hB x) (hR x)
  refine Eqs.of w1 w2 (fun x hx => ?_) fun x hx => ?_
  · rcases List.mem_append.mp hx with h | h
    · exact ((e x).mp (.mem hA h)).mono fun y hy => List.mem_append_left _ hy
    · exact .mem w2 (List.mem_append_right _ h)
  · rcases List.mem_append.mp hx with h | h
    · exact ((e x).mpr (.mem hB h)).mono fun y hy => List.mem_append_left _ hy
    · exact .mem w1 (List.mem_append_right _ h)
/-- what the Euclid comes to, where it comes to an end -/
theorem go_str (hk : ∀ x : Vec, x.length = n → kp x = false → x = zr n) {P : Vec → Prop} (hP : ∀ c x y, P x → P y → P (ax c x y)) : ∀ (f : Nat) (S R : List Vec) (m : Vec) (R' : List Vec), Wd n S → Wd n R → (∀ x ∈ S, P x ∧ x.getD p 0 ≠ 0) →
    (∀ x ∈ R, P x ∧ x.getD p 0 = 0) → go dv kp p f S R = some (m, R') →
    m.length = n ∧ P m ∧ m.getD p 0 ≠ 0 ∧ Wd n R' ∧ (∀ x ∈ R', P x ∧ x.getD p 0 = 0) ∧ Eqs n (m :: R') (S ++ R) ∧ R'.length + 1 ≤ S.length + R.length := by
  intro f
  induction f with
  | zero =>
    intro S R m R' hS hR pS pR h
    match S, h with
    | [], h => simp [go] at h
    | [x], h =>
      simp only [go, Option.some.injEq, Prod.mk.injEq] at h
      obtain ⟨rfl, rfl⟩ := h
      exact ⟨hS x (by simp), (pS x (by simp)).1, (pS x (by simp)).2, hR, pR, .refl, by simp; omega⟩
    | x :: y :: s, h => simp [go] at h
  | succ f ih =>
    intro S R m R' hS hR pS pR h
    match S, h with
    | [], h => simp [go] at h
    | [x], h =>
      simp only [go, Option.some.injEq, Prod.mk.injEq] at h
      obtain ⟨rfl, rfl⟩ := h
      exact ⟨hS x (by simp), (pS x (by simp)).1, (pS x (by simp)).2, hR, pR, .refl, by simp; omega⟩
    | x :: y :: s, h =>
      simp only [go] at h
      have t := turn_nxt dv p x (y :: s)
      generalize nxt dv p (x :: y :: s) = T at h t
      obtain ⟨e1, hT⟩ := t.sp hS
      have pT := t.all hP fun z hz => (pS z hz).1
      obtain ⟨a1, a2, a3, a4, a5, a6, a7⟩ := ih _ _ m R' (fun z hz => hT z (List.mem_filter.mp hz).1)
        (fun z hz => (List.mem_append.mp hz).elim (hR z) fun q => hT z (List.mem_filter.mp q).1)
        (fun z hz => ⟨pT z (List.mem_filter.mp hz).1, nz_iff.mp (List.mem_filter.mp hz).2⟩)
        (fun z hz => (List.mem_append.mp hz).elim (pR z) fun q => ⟨pT z (List.mem_filter.mp q).1, by
          have := (List.mem_filter.mp q).2
          rw [Bool.and_eq_true] at this
          exact zz_iff.mp this.1⟩) h
      refine ⟨a1, a2, a3, a4, a5, a6.trans ((sp_part hT hR fun z hz => hk z (hT z hz)).trans (sp_app hT hS hR e1.symm)), ?_⟩
      have lT := t.len.2
      have q : (T.filter (nz p)).length + (T.filter fun x => zz p x && kp x).length ≤ T.length := by
        clear h t e1 hT pT a6 a7 lT
        induction T with
        | nil => simp
        | cons z T ihT =>
          simp only [List.filter_cons]
          by_cases hz : z.getD p 0 = 0
          · have n1 : nz p z = false := nz_no hz
            rw [if_neg (by simp [n1])]
            split <;> simp <;> omega
          · have n1 : nz p z = true := nz_iff.mpr hz
            have n2 : zz p z = false := zz_no hz
            rw [if_pos n1, if_neg (by simp [n2])]
            simp; omega
      rw [List.length_append] at a7
      omega
end

/-! ### how great, how long -/
def Le (M : Nat) (x : Vec) : Prop := ∀ j, (x.getD j 0).natAbs ≤ M
theorem Le.mono {M N : Nat} {x : Vec} (h : M ≤ N) (l : Le M x) : Le N x := fun j => Nat.le_trans (l j) h
structure Bnd (p : Nat) (S : List Vec) (M t l : Nat) : Prop where
  all : ∀ x ∈ S, Le M x
  lo : ∀ x ∈ S, l ≤ (x.getD p 0).natAbs
  hi : ∀ x ∈ S, (x.getD p 0).natAbs ≤ t
  top : ∃ x ∈ S, (x.getD p 0).natAbs = t
  bot : ∃ x ∈ S, (x.getD p 0).natAbs = l
  pos : 0 < l
/-- what is left is less than the divisor -/
def Quo (dv : Int → Int → Int) : Prop := ∀ x l : Int, l ≠ 0 → (x - dv x l * l).natAbs < l.natAbs
/-- .. and has the divisor's sign, where both have one -/
def Rg (dv : Int → Int → Int) (neg : Bool) : Prop := ∀ x l : Int, (0 < l → 0 ≤ x - dv x l * l) ∧ (neg = true → l < 0 → x - dv x l * l ≤ 0)
section
variable {dv : Int → Int → Int} {p n : Nat} {S T O : List Vec} {m : Vec} {M t l : Nat}
theorem Turn.bot (tu : Turn dv p S T m O) (b : Bnd p S M t l) : (m.getD p 0).natAbs = l := by
  have h1 := b.lo m ((tu.mem m).mpr (.inl rfl))
  obtain ⟨x, hx, e⟩ := b.bot
  have h2 := tu.least x hx
  omega
theorem stp_p {x : Vec} (h : x.length = m.length) : (stp dv p m x).getD p 0 = x.getD p 0 - dv (x.getD p 0) (m.getD p 0) * m.getD p 0 := by
  unfold stp
  rw [gd_ax h, Int.sub_mul]; omega
theorem stp_le {x : Vec} (h : x.length = m.length) {q : Nat} (hx : Le M x) (hm : Le M m) (hq : (dv (x.getD p 0) (m.getD p 0)).natAbs ≤ q) : Le (M + q * M) (stp dv p m x) := fun j => by
  unfold stp
  rw [gd_ax h]
  have h1 := hx j
  have h2 := hm j
  generalize x.getD j 0 = a at *
  generalize m.getD j 0 = b at *
  generalize dv (x.getD p 0) (m.getD p 0) = d at *
  have h3 : ((0 - d) * b).natAbs ≤ q * M := by
    rw [Int.natAbs_mul]
    exact Nat.mul_le_mul (by omega) h2
  omega
/-- the least of those left -/
theorem least_of (L : List Vec) (hL : L ≠ []) : ∃ x ∈ L, ∀ y ∈ L, (x.getD p 0).natAbs ≤ (y.getD p 0).natAbs := by
  match L, hL with
  | r :: s, _ => exact ⟨_, (mn_ok p s r).1, (mn_ok p s r).2⟩
theorem turn_core (tu : Turn dv p S T m O) (hS : Wd n S) (hz : ∀ x ∈ S, x.getD p 0 ≠ 0) (b : Bnd p S M t l) (hq : Quo dv) {q : Nat}
    (hd : ∀ x ∈ O, (dv (x.getD p 0) (m.getD p 0)).natAbs ≤ q) : ∃ l', Bnd p (T.filter (nz p)) (M + q * M) l l' ∧ l' ≤ l ∧ (T.filter (nz p)).length ≤ S.length ∧ (∀ x ∈ T, Le (M + q * M) x) ∧ m ∈ T.filter (nz p) := by
  have mS : m ∈ S := (tu.mem m).mpr (.inl rfl)
  have em := tu.bot b
  have nm := hz m mS
  have mT : m ∈ T.filter (nz p) := List.mem_filter.mpr ⟨by rw [tu.is]; simp, nz_iff.mpr nm⟩
  have allT : ∀ x ∈ T, Le (M + q * M) x ∧ (x.getD p 0).natAbs ≤ l := fun x hx => by
    rw [tu.is] at hx
    rcases List.mem_cons.mp hx with rfl | hx
    · exact ⟨(b.all _ mS).mono (by omega), by omega⟩
    · obtain ⟨y, hy, rfl⟩ := List.mem_map.mp hx
      have yS := (tu.mem y).mpr (.inr hy)
      have ly : y.length = m.length := (hS y yS).trans (hS m mS).symm
      refine ⟨stp_le ly (b.all y yS) (b.all m mS) (hd y hy), ?_⟩
      rw [stp_p ly]
      have := hq (y.getD p 0) (m.getD p 0) nm
      omega
  obtain ⟨z, hz1, hz2⟩ := least_of (p := p) _ (List.ne_nil_of_mem mT)
  refine ⟨(z.getD p 0).natAbs, ⟨fun x hx => (allT x (List.mem_filter.mp hx).1).1, hz2, fun x hx => (allT x (List.mem_filter.mp hx).1).2, ⟨m, mT, em⟩, ⟨z, hz1, rfl⟩, ?_⟩, ?_, ?_, fun x hx => (allT x hx).1, mT⟩
  · have := nz_iff.mp (List.mem_filter.mp hz1).2
    omega
  · have := hz2 m mT
    omega
  · have := List.length_filter_le (nz p) T
    have := tu.len
    omega
theorem div_mul_le' (a b : Nat) : a / b * b ≤ a := Nat.div_mul_le_self a b
/-- any turn -/
theorem turn_any (tu : Turn dv p S T m O) (hS : Wd n S) (hz : ∀ x ∈ S, x.getD p 0 ≠ 0) (b : Bnd p S M t l) (hq : Quo dv) :
    ∃ M' l', Bnd p (T.filter (nz p)) M' l l' ∧ l' ≤ l ∧ (T.filter (nz p)).length ≤ S.length ∧ (∀ x ∈ T, Le M' x) ∧ m ∈ T.filter (nz p) ∧ M' * l ≤ M * (2 * l + t) := by
  have mS : m ∈ S := (tu.mem m).mpr (.inl rfl)
  have em := tu.bot b
  obtain ⟨l', h1, h2, h3, h4, h5⟩ := turn_core (q := t / l + 1) tu hS hz b hq fun x hx => by
    have xS := (tu.mem x).mpr (.inr hx)
    have r := hq (x.getD p 0) (m.getD p 0) (hz m mS)
    have hh := b.hi x xS
    generalize x.getD p 0 = a at *
    generalize m.getD p 0 = c at *
    generalize dv a c = d at *
    have k : (d * c).natAbs ≤ t + l := by omega
    rw [Int.natAbs_mul, em] at k
    have : d.natAbs * l ≤ t + l := k
    have e : (t + l) / l = t / l + 1 := Nat.add_div_right t b.pos
    rw [← e]
    exact (Nat.le_div_iff_mul_le b.pos).mpr this
  refine ⟨_, l', h1, h2, h3, h4, h5, ?_⟩
  have e : (M + (t / l + 1) * M) * l = M * (2 * l) + M * (t / l * l) := by grind
  rw [e, Nat.mul_add]
  exact Nat.add_le_add_left (Nat.mul_le_mul_left _ (div_mul_le' t l)) _
/-- a turn of numbers of one sign -/
theorem turn_reg {neg : Bool} (tu : Turn dv p S T m O) (hS : Wd n S) (b : Bnd p S M t l) (hq : Quo dv) (hr : Rg dv neg) (hs : (∀ x ∈ S, 0 < x.getD p 0) ∨ (neg = true ∧ ∀ x ∈ S, x.getD p 0 < 0)) (h1 : 1 < S.length) :
    ∃ M' l', Bnd p (T.filter (nz p)) M' l l' ∧ (∀ x ∈ T, Le M' x) ∧ M' * l ≤ M * (l + t) ∧ l' ≤ l ∧ ((T.filter (nz p)).length < S.length ∨ ((T.filter (nz p)).length = S.length ∧ l' + l ≤ t)) ∧
      ((∀ x ∈ T.filter (nz p), 0 < x.getD p 0) ∨ (neg = true ∧ ∀ x ∈ T.filter (nz p), x.getD p 0 < 0)) := by
  have mS : m ∈ S := (tu.mem m).mpr (.inl rfl)
  have em := tu.bot b
  have hz : ∀ x ∈ S, x.getD p 0 ≠ 0 := fun x hx => by rcases hs with h | ⟨_, h⟩ <;> have := h x hx <;> omega
  -- one of the others
  have one : ∀ x ∈ O, (dv (x.getD p 0) (m.getD p 0)).natAbs * l ≤ t ∧ (x.getD p 0 - dv (x.getD p 0) (m.getD p 0) * m.getD p 0).natAbs + l ≤ (x.getD p 0).natAbs := fun x hx => by
    have xS := (tu.mem x).mpr (.inr hx)
    have r := hq (x.getD p 0) (m.getD p 0) (hz m mS)
    have hh := b.hi x xS
    have hl := b.lo x xS
    have g := hr (x.getD p 0) (m.getD p 0)
    have sg : (0 < x.getD p 0 ∧ 0 < m.getD p 0) ∨ (neg = true ∧ x.getD p 0 < 0 ∧ m.getD p 0 < 0) := by
      rcases hs with h | ⟨e, h⟩
      · exact .inl ⟨h x xS, h m mS⟩
      · exact .inr ⟨e, h x xS, h m mS⟩
    generalize x.getD p 0 = a at *
    generalize m.getD p 0 = c at *
    generalize dv a c = d at *
    have k : (d * c).natAbs = d.natAbs * l := by rw [Int.natAbs_mul, em]
    have bp := b.pos
    have z1 : d * c ≠ 0 := fun e => by rw [e] at r; omega
    have dn : d ≠ 0 := fun e => z1 (by rw [e, Int.zero_mul])
    have ge : l ≤ (d * c).natAbs := by
      rw [k]; exact Nat.le_mul_of_pos_left _ (by omega)
    rcases sg with ⟨s1, s2⟩ | ⟨e, s1, s2⟩
    · have g1 := g.1 s2
      constructor <;> omega
    · have g1 := g.2 e s2
      constructor <;> omega
  obtain ⟨l', h2, h3, h4, h5, h6⟩ := turn_core (q := t / l) tu hS hz b hq fun x hx => (Nat.le_div_iff_mul_le b.pos).mpr (one x hx).1
  refine ⟨_, l', h2, h5, ?_, h3, ?_, ?_⟩
  · have e : (M + t / l * M) * l = M * l + M * (t / l * l) := by grind
    rw [e, Nat.mul_add]
    exact Nat.add_le_add_left (Nat.mul_le_mul_left _ (div_mul_le' t l)) _
  · by_cases hl : (T.filter (nz p)).length = S.length
    · refine .inr ⟨hl, ?_⟩
      have hTl : (T.filter (nz p)).length = T.length := by rw [hl, tu.len.2]
      have none0 : ∀ x ∈ T, nz p x = true := List.length_filter_eq_length_iff.mp hTl
      obtain ⟨x, hx, ex⟩ := b.top
      have key : ∀ y ∈ O, l' + l ≤ (y.getD p 0).natAbs := fun y hy => by
        have yS := (tu.mem y).mpr (.inr hy)
        have ly : y.length = m.length := (hS y yS).trans (hS m mS).symm
        have yT : stp dv p m y ∈ T := by rw [tu.is]; exact List.mem_cons_of_mem _ (List.mem_map_of_mem hy)
        have q1 := h2.lo _ (List.mem_filter.mpr ⟨yT, none0 _ yT⟩)
        rw [stp_p ly] at q1
        have q2 := (one y hy).2
        omega
      rcases (tu.mem x).mp hx with rfl | hO
      · -- all are of one size: any of the others
        have lO := tu.len.1
        obtain ⟨y, hy⟩ : ∃ y, y ∈ O := List.exists_mem_of_length_pos (by omega)
        have q := key y hy
        have q3 := b.hi y ((tu.mem y).mpr (.inr hy))
        omega
      · have q := key x hO
        omega
    · exact .inl (by omega)
  · have sgn : ∀ x ∈ T.filter (nz p), (∀ y ∈ S, 0 < y.getD p 0) → 0 < x.getD p 0 := fun x hx h => by
      have nx := nz_iff.mp (List.mem_filter.mp hx).2
      have hx' := (List.mem_filter.mp hx).1
      rw [tu.is] at hx'
      rcases List.mem_cons.mp hx' with rfl | hx'
      · exact h _ mS
      · obtain ⟨y, hy, rfl⟩ := List.mem_map.mp hx'
        have yS := (tu.mem y).mpr (.inr hy)
        have ly : y.length = m.length := (hS y yS).trans (hS m mS).symm
        rw [stp_p ly] at nx ⊢
        have := (hr (y.getD p 0) (m.getD p 0)).1 (h m mS)
        omega
    rcases hs with h | ⟨e, h⟩
    · exact .inl fun x hx => sgn x hx h
    · refine .inr ⟨e, fun x hx => ?_⟩
      have nx := nz_iff.mp (List.mem_filter.mp hx).2
      have hx' := (List.mem_filter.mp hx).1
      rw [tu.is] at hx'
      rcases List.mem_cons.mp hx' with rfl | hx'
      · exact h _ mS
      · obtain ⟨y, hy, rfl⟩ := List.mem_map.mp hx'
        have yS := (tu.mem y).mpr (.inr hy)
        have ly : y.length = m.length := (hS y yS).trans (hS m mS).symm
        rw [stp_p ly] at nx ⊢
        have := (hr (y.getD p 0) (m.getD p 0)).2 e (h m mS)
        omega
end
end Ir

/-! IrC: the Euclid of one place comes to its end, its numbers bounded. -/
namespace Ir
open Nf02 (plus scale)
def Fine (dv : Int → Int → Int) (p C : Nat) : Nat → List Vec → Prop
  | 0, S => ∀ x ∈ S, Le C x
  | f + 1, S => (∀ x ∈ S, Le C x) ∧ (1 < S.length → Fine dv p C f ((nxt dv p S).filter (nz p)))
theorem Fine.one {dv : Int → Int → Int} {p C f : Nat} {S : List Vec} (h : ∀ x ∈ S, Le C x) (h1 : S.length ≤ 1) : Fine dv p C f S := by
  cases f with
  | zero => exact h
  | succ f => exact ⟨h, fun q => by omega⟩
theorem Bnd.tl {p M t l : Nat} {S : List Vec} (b : Bnd p S M t l) : l ≤ t := by
  obtain ⟨x, hx, e⟩ := b.top
  have := b.lo x hx
  omega
theorem Bnd.le {p M t l C k : Nat} {S : List Vec} (b : Bnd p S M t l) (h : M * t * (t + l) * 2 ^ k ≤ C) : M ≤ C := by
  have h1 := b.pos
  have h2 := b.tl
  refine Nat.le_trans ?_ h
  rw [Nat.mul_assoc, Nat.mul_assoc]
  exact Nat.le_mul_of_pos_right _ (Nat.mul_pos (by omega) (Nat.mul_pos (by omega) (Nat.pow_pos (by omega))))
section
variable {dv : Int → Int → Int} {kp : Vec → Bool} {p n C : Nat}
theorem pot_reg {M t l M' l' k k' : Nat} (h0 : 0 < l) (ht : l ≤ t) (h1 : M' * l ≤ M * (l + t)) (h2 : l' ≤ l) (h3 : k' < k ∨ (k' = k ∧ l' + l ≤ t)) :
    M' * l * (l + l') * 2 ^ k' ≤ M * t * (t + l) * 2 ^ k ∧ 2 * (l * l' * 2 ^ k') ≤ t * l * 2 ^ k := by
  have a1 : M' * l * ((l + l') * 2 ^ k') ≤ M * (l + t) * ((l + l') * 2 ^ k') := Nat.mul_le_mul_right _ h1
  have a2 : (l + l') * 2 ^ k' ≤ t * 2 ^ k := by
    rcases h3 with h | ⟨rfl, h⟩
    · have e : 2 ^ (k' + 1) ≤ 2 ^ k := Nat.pow_le_pow_right (by omega) h
      rw [Nat.pow_succ] at e
      calc (l + l') * 2 ^ k' ≤ (2 * t) * 2 ^ k' := Nat.mul_le_mul_right _ (by omega)
        _ = t * (2 ^ k' * 2) := by grind
        _ ≤ t * 2 ^ k := Nat.mul_le_mul_left _ e
    · exact Nat.mul_le_mul_right _ (by omega)
  constructor
  · calc M' * l * (l + l') * 2 ^ k' = M' * l * ((l + l') * 2 ^ k') := by grind
      _ ≤ M * (l + t) * ((l + l') * 2 ^ k') := a1
      _ ≤ M * (l + t) * (t * 2 ^ k) := Nat.mul_le_mul_left _ a2
      _ = M * t * (t + l) * 2 ^ k := by grind
  · have a3 : 2 * (l' * 2 ^ k') ≤ t * 2 ^ k := by
      rcases h3 with h | ⟨rfl, h⟩
      · have e : 2 ^ (k' + 1) ≤ 2 ^ k := Nat.pow_le_pow_right (by omega) h
        rw [Nat.pow_succ] at e
        calc 2 * (l' * 2 ^ k') = l' * (2 ^ k' * 2) := by grind
          _ ≤ t * (2 ^ k' * 2) := Nat.mul_le_mul_right _ (by omega)
          _ ≤ t * 2 ^ k := Nat.mul_le_mul_left _ e
      · calc 2 * (l' * 2 ^ k') = (2 * l') * 2 ^ k' := by grind
          _ ≤ t * 2 ^ k' := Nat.mul_le_mul_right _ (by omega)
    calc 2 * (l * l' * 2 ^ k') = l * (2 * (l' * 2 ^ k')) := by grind
      _ ≤ l * (t * 2 ^ k) := Nat.mul_le_mul_left _ a3
      _ = t * l * 2 ^ k := by grind
theorem pot_any {M t l M' l' k k' : Nat} (h0 : 0 < l) (ht : l ≤ t) (h1 : M' * l ≤ M * (2 * l + t)) (h2 : l' ≤ l) (h3 : k' ≤ k) :
    M' * l * (l + l') * 2 ^ k' ≤ 4 * (M * t * (t + l) * 2 ^ k) ∧ l * l' * 2 ^ k' ≤ t * l * 2 ^ k := by
  have e : 2 ^ k' ≤ 2 ^ k := Nat.pow_le_pow_right (by omega) h3
  have a2 : (2 * l + t) * (l + l') ≤ 4 * (t * (t + l)) := by
    calc (2 * l + t) * (l + l') ≤ (2 * l + t) * (2 * t) := Nat.mul_le_mul_left _ (by omega)
      _ ≤ (2 * (t + l)) * (2 * t) := Nat.mul_le_mul_right _ (by omega)
      _ = 4 * (t * (t + l)) := by grind
  constructor
  · calc M' * l * (l + l') * 2 ^ k' ≤ M' * l * (l + l') * 2 ^ k := Nat.mul_le_mul_left _ e
      _ = (M' * l) * ((l + l') * 2 ^ k) := by grind
      _ ≤ (M * (2 * l + t)) * ((l + l') * 2 ^ k) := Nat.mul_le_mul_right _ h1
      _ = M * 2 ^ k * ((2 * l + t) * (l + l')) := by grind
      _ ≤ M * 2 ^ k * (4 * (t * (t + l))) := Nat.mul_le_mul_left _ a2
      _ = 4 * (M * t * (t + l) * 2 ^ k) := by grind
  · calc l * l' * 2 ^ k' ≤ l * l' * 2 ^ k := Nat.mul_le_mul_left _ e
      _ = l' * (l * 2 ^ k) := by grind
      _ ≤ t * (l * 2 ^ k) := Nat.mul_le_mul_right _ (by omega)
      _ = t * l * 2 ^ k := by grind
theorem reg_run {neg : Bool} (hq : Quo dv) (hr : Rg dv neg) : ∀ (f : Nat) (S R : List Vec) (M t l : Nat), Wd n S → Bnd p S M t l → ((∀ x ∈ S, 0 < x.getD p 0) ∨ (neg = true ∧ ∀ x ∈ S, x.getD p 0 < 0)) →
    M * t * (t + l) * 2 ^ S.length ≤ C → t * l * 2 ^ S.length < 2 ^ f →
    ∃ m R', go dv kp p f S R = some (m, R') ∧ Le C m ∧ (∀ x ∈ R', x ∈ R ∨ Le C x) ∧ Fine dv p C f S := by
  intro f
  induction f with
  | zero =>
    intro S R M t l hS b hs hC hf
    have h1 := b.pos
    have h2 := b.tl
    have : 0 < t * l * 2 ^ S.length := Nat.mul_pos (Nat.mul_pos (by omega) h1) (Nat.pow_pos (by omega))
    have : t * l * 2 ^ S.length < 1 := hf
    omega
  | succ f ih =>
    intro S R M t l hS b hs hC hf
    have hM := b.le hC
    match S, hS, b, hs, hC, hf with
    | [], _, b, _, _, _ => obtain ⟨x, hx, _⟩ := b.top; simp at hx
    | [x], hS, b, hs, hC, hf =>
      have lx := (b.all x (by simp)).mono hM
      exact ⟨x, R, by simp [go], lx, fun y hy => .inl hy, Fine.one (fun y hy => (b.all y hy).mono hM) (by simp)⟩
    | r :: r' :: s, hS, b, hs, hC, hf =>
      have tu := turn_nxt dv p r (r' :: s)
      simp only [go]
      have fe : Fine dv p C (f + 1) (r :: r' :: s) ↔ (∀ x ∈ r :: r' :: s, Le C x) ∧ (1 < (r :: r' :: s).length → Fine dv p C f ((nxt dv p (r :: r' :: s)).filter (nz p))) := Iff.rfl
      rw [fe]
      generalize nxt dv p (r :: r' :: s) = T at *
      obtain ⟨M', l', b', hT, h1, h2, h3, h4⟩ := turn_reg tu hS b hq hr hs (by simp)
      have hT' := (tu.sp hS).2
      obtain ⟨p1, p2⟩ := pot_reg b.pos b.tl h1 h2 h3
      have p2' : l * l' * 2 ^ (T.filter (nz p)).length < 2 ^ f := by
        rw [Nat.pow_succ] at hf; omega
      obtain ⟨m, R', g1, g2, g3, g4⟩ := ih (T.filter (nz p)) (R ++ T.filter fun x => zz p x && kp x) M' l l' (fun x hx => hT' x (List.mem_filter.mp hx).1) b' h4 (Nat.le_trans p1 hC) p2'
      have hM' := b'.le (Nat.le_trans p1 hC)
      refine ⟨m, R', g1, g2, fun x hx => ?_, fun x hx => (b.all x hx).mono hM, fun _ => g4⟩
      rcases g3 x hx with h | h
      · rcases List.mem_append.mp h with h | h
        · exact .inl h
        · exact .inr ((hT x (List.mem_filter.mp h).1).mono hM')
      · exact .inr h
/-- one turn of any signs, then what a run gives -/
theorem any_then {f : Nat} {S R : List Vec} {M t l : Nat} (hq : Quo dv) (hS : Wd n S) (hz : ∀ x ∈ S, x.getD p 0 ≠ 0) (b : Bnd p S M t l) (hM : M ≤ C)
    (next : 1 < S.length → ∀ (T : List Vec) (m : Vec) (O R : List Vec) (M' l' : Nat), Turn dv p S T m O → Bnd p (T.filter (nz p)) M' l l' → M' * l ≤ M * (2 * l + t) → l' ≤ l → (T.filter (nz p)).length ≤ S.length → m ∈ T.filter (nz p) → Wd n (T.filter (nz p)) →
      ∃ m R', go dv kp p f (T.filter (nz p)) R = some (m, R') ∧ Le C m ∧ (∀ x ∈ R', x ∈ R ∨ Le C x) ∧ Fine dv p C f (T.filter (nz p))) (hM' : ∀ M' : Nat, M' * l ≤ M * (2 * l + t) → M' ≤ C) :
    ∃ m R', go dv kp p (f + 1) S R = some (m, R') ∧ Le C m ∧ (∀ x ∈ R', x ∈ R ∨ Le C x) ∧ Fine dv p C (f + 1) S := by
  match S, hS, hz, b, next with
  | [], _, _, b, _ => obtain ⟨x, hx, _⟩ := b.top; simp at hx
  | [x], hS, hz, b, next =>
    have lx := (b.all x (by simp)).mono hM
    exact ⟨x, R, by simp [go], lx, fun y hy => .inl hy, Fine.one (fun y hy => (b.all y hy).mono hM) (by simp)⟩
  | r :: r' :: s, hS, hz, b, next =>
    have tu := turn_nxt dv p r (r' :: s)
    simp only [go]
    have fe : Fine dv p C (f + 1) (r :: r' :: s) ↔ (∀ x ∈ r :: r' :: s, Le C x) ∧ (1 < (r :: r' :: s).length → Fine dv p C f ((nxt dv p (r :: r' :: s)).filter (nz p))) := Iff.rfl
    rw [fe]
    generalize nxt dv p (r :: r' :: s) = T at *
    obtain ⟨M', l', b', h2, h3, hT, h5, h1⟩ := turn_any tu hS hz b hq
    have hT' := (tu.sp hS).2
    obtain ⟨m, R', g1, g2, g3, g4⟩ := next (by simp) T _ _ (R ++ T.filter fun x => zz p x && kp x) M' l' tu b' h1 h2 h3 h5 fun x hx => hT' x (List.mem_filter.mp hx).1
    refine ⟨m, R', g1, g2, fun x hx => ?_, fun x hx => (b.all x hx).mono hM, fun _ => g4⟩
    rcases g3 x hx with h | h
    · rcases List.mem_append.mp h with h | h
      · exact .inl h
      · exact .inr ((hT x (List.mem_filter.mp h).1).mono (hM' M' h1))
    · exact .inr h
theorem bnd_of {S : List Vec} {M : Nat} (hS : S ≠ []) (hz : ∀ x ∈ S, x.getD p 0 ≠ 0) (h : ∀ x ∈ S, Le M x) : ∃ t l, Bnd p S M t l ∧ t ≤ M := by
  obtain ⟨z, hz1, hz2⟩ := least_of (p := p) S hS
  -- the greatest
  have big : ∀ (L : List Vec), L ≠ [] → ∃ x ∈ L, ∀ y ∈ L, (y.getD p 0).natAbs ≤ (x.getD p 0).natAbs := by
    intro L
    induction L with
    | nil => intro h; exact absurd rfl h
    | cons a L ih =>
      intro _
      by_cases hL : L = []
      · subst hL; exact ⟨a, by simp, fun y hy => by
          have : y = a := by simpa using hy
          subst this; exact Nat.le_refl _⟩
      · obtain ⟨x, hx, hy⟩ := ih hL
        by_cases c : (a.getD p 0).natAbs ≤ (x.getD p 0).natAbs
        · refine ⟨x, by simp [hx], fun y h => ?_⟩
          rcases List.mem_cons.mp h with rfl | h
          · exact c
          · exact hy y h
        · refine ⟨a, by simp, fun y h => ?_⟩
          rcases List.mem_cons.mp h with rfl | h
          · exact Nat.le_refl _
          · have := hy y h; omega
  obtain ⟨g, hg1, hg2⟩ := big S hS
  refine ⟨_, _, ⟨h, hz2, hg2, ⟨g, hg1, rfl⟩, ⟨z, hz1, rfl⟩, ?_⟩, h g hg1 p⟩
  have := hz z hz1
  omega
theorem Bnd.M_le {S : List Vec} {M t l M' : Nat} (b : Bnd p S M t l) (h : M' * l ≤ M * (2 * l + t)) (k : Nat) : M' ≤ 4 * (M * t * (t + l) * 2 ^ k) := by
  have h1 := b.pos
  have h2 := b.tl
  have h3 : 1 ≤ 2 ^ k := Nat.one_le_two_pow
  calc M' = M' * 1 := by omega
    _ ≤ M' * l := Nat.mul_le_mul_left _ h1
    _ ≤ M * (2 * l + t) := h
    _ ≤ M * (4 * (t * (t + l))) := Nat.mul_le_mul_left _ (by
        calc 2 * l + t ≤ 4 * (t + l) := by omega
          _ = 4 * (1 * (t + l)) := by omega
          _ ≤ 4 * (t * (t + l)) := Nat.mul_le_mul_left _ (Nat.mul_le_mul_right _ (by omega)))
    _ = 4 * (M * t * (t + l)) * 1 := by grind
    _ ≤ 4 * (M * t * (t + l)) * 2 ^ k := Nat.mul_le_mul_left _ h3
    _ = 4 * (M * t * (t + l) * 2 ^ k) := by grind
/-- the two divisions: signs are alike after one turn, after two turns -/
inductive Kind (dv : Int → Int → Int) : Prop
  | floor (h : ∀ x l : Int, (0 < l → 0 ≤ x - dv x l * l) ∧ (l < 0 → x - dv x l * l ≤ 0))
  | euclid (h : ∀ x l : Int, l ≠ 0 → 0 ≤ x - dv x l * l)
theorem start_run (hq : Quo dv) (hk : Kind dv) {f : Nat} {S R : List Vec} {M t l : Nat} (hS : Wd n S) (hz : ∀ x ∈ S, x.getD p 0 ≠ 0) (b : Bnd p S M t l)
    (hC : 16 * (M * t * (t + l) * 2 ^ S.length) ≤ C) (hf : t * l * 2 ^ S.length < 2 ^ f) : ∃ m R', go dv kp p (f + 2) S R = some (m, R') ∧ Le C m ∧ (∀ x ∈ R', x ∈ R ∨ Le C x) ∧ Fine dv p C (f + 2) S := by
  have hM := b.le (k := S.length) (C := C) (by omega)
  have hM4 : ∀ M' : Nat, M' * l ≤ M * (2 * l + t) → M' ≤ C := fun M' h => by
    have := b.M_le h S.length
    omega
  cases hk with
  | floor hd =>
    have hr : Rg dv true := fun x l => ⟨(hd x l).1, fun _ => (hd x l).2⟩
    refine any_then hq hS hz b hM (fun h1 T m O R M' l' tu b' hm hl hlen hmT hT => ?_) hM4
    obtain ⟨p1, p2⟩ := pot_any b.pos b.tl hm hl hlen
    have mS : m ∈ S := (tu.mem m).mpr (.inl rfl)
    have f1 : l * l' * 2 ^ (T.filter (nz p)).length < 2 ^ (f + 1) := by
      rw [Nat.pow_succ]; omega
    refine reg_run (neg := true) hq hr (f + 1) _ R M' l l' hT b' ?_ (by omega) f1
    have nm := hz m mS
    have sg : ∀ x ∈ T.filter (nz p), (0 < m.getD p 0 → 0 < x.getD p 0) ∧ (m.getD p 0 < 0 → x.getD p 0 < 0) := fun x hx => by
      have nx := nz_iff.mp (List.mem_filter.mp hx).2
      have hx' := (List.mem_filter.mp hx).1
      rw [tu.is] at hx'
      rcases List.mem_cons.mp hx' with rfl | hx'
      · exact ⟨fun h => h, fun h => h⟩
      · obtain ⟨y, hy, rfl⟩ := List.mem_map.mp hx'
        have yS := (tu.mem y).mpr (.inr hy)
        have ly : y.length = m.length := (hS y yS).trans (hS m mS).symm
        rw [stp_p ly] at nx ⊢
        have := hd (y.getD p 0) (m.getD p 0)
        exact ⟨fun h => by have := this.1 h; omega, fun h => by have := this.2 h; omega⟩
    rcases Int.lt_or_gt_of_ne nm with h | h
    · exact .inr ⟨rfl, fun x hx => (sg x hx).2 h⟩
    · exact .inl fun x hx => (sg x hx).1 h
  | euclid hd =>
    have hr : Rg dv false := fun x l => ⟨fun h => hd x l (by omega), fun h => by cases h⟩
    refine any_then hq hS hz b hM (fun h1 T m O R M' l' tu b' hm hl hlen hmT hT => ?_) hM4
    obtain ⟨p1, p2⟩ := pot_any b.pos b.tl hm hl hlen
    have mS : m ∈ S := (tu.mem m).mpr (.inl rfl)
    have em := tu.bot b
    have zT : ∀ x ∈ T.filter (nz p), x.getD p 0 ≠ 0 := fun x hx => nz_iff.mp (List.mem_filter.mp hx).2
    -- behind the first turn all but m are above 0
    have sg : ∀ x ∈ T.filter (nz p), x = m ∨ (0 < x.getD p 0 ∧ (x.getD p 0).natAbs < (m.getD p 0).natAbs) := fun x hx => by
      have nx := zT x hx
      have hx' := (List.mem_filter.mp hx).1
      rw [tu.is] at hx'
      rcases List.mem_cons.mp hx' with rfl | hx'
      · exact .inl rfl
      · obtain ⟨y, hy, rfl⟩ := List.mem_map.mp hx'
        have yS := (tu.mem y).mpr (.inr hy)
        have ly : y.length = m.length := (hS y yS).trans (hS m mS).symm
        rw [stp_p ly] at nx ⊢
        have q1 := hd (y.getD p 0) (m.getD p 0) (hz m mS)
        have q2 := hq (y.getD p 0) (m.getD p 0) (hz m mS)
        exact .inr ⟨by omega, q2⟩
    have hM' := b.M_le hm S.length
    refine any_then hq hT zT b' (by omega) (fun h1' T2 m2 O2 R2 M2 l2 tu2 b2 hm2 hl2 hlen2 hmT2 hT2 => ?_) fun M2 h => ?_
    · obtain ⟨p3, p4⟩ := pot_any b'.pos b'.tl hm2 hl2 hlen2
      have m2S := (tu2.mem m2).mpr (.inl rfl)
      -- the second least one is not m, where there are others
      have m2p : 0 < m2.getD p 0 := by
        rcases sg m2 m2S with rfl | h
        · -- then all would be of its size
          exfalso
          have lO := tu2.len.1
          -- m stands once: another one is less
          obtain ⟨y, hy⟩ : ∃ y, y ∈ O2 := List.exists_mem_of_length_pos (by omega)
          have yS := (tu2.mem y).mpr (.inr hy)
          have q := tu2.least y yS
          rcases sg y yS with e | h
          · -- y is m as well: but behind the turn m stands once
            have c2 : (T.filter (nz p)).count m2 = 1 := by
              rw [tu.is, List.filter_cons, if_pos (nz_iff.mpr (hz m2 mS)), List.count_cons_self]
              have : ((O.map (stp dv p m2)).filter (nz p)).count m2 = 0 := by
                refine List.count_eq_zero_of_not_mem fun hmem => ?_
                have hx' := (List.mem_filter.mp hmem).1
                obtain ⟨z, hz', ez⟩ := List.mem_map.mp hx'
                have zS := (tu.mem z).mpr (.inr hz')
                have lz : z.length = m2.length := (hS z zS).trans (hS m2 mS).symm
                have q2 := hq (z.getD p 0) (m2.getD p 0) (hz m2 mS)
                have e2 : (stp dv p m2 z).getD p 0 = m2.getD p 0 := by rw [ez]
                rw [stp_p lz] at e2
                omega
              omega
            have c3 := tu2.perm.count_eq m2
            rw [c2, List.count_cons_self] at c3
            have c4 : 0 < O2.count m2 := List.count_pos_iff.mpr (e ▸ hy)
            omega
          · omega
        · exact h.1
      refine reg_run (neg := false) hq hr f _ R2 M2 l' l2 hT2 b2 (.inl fun x hx => ?_) (by omega) (by omega)
      have nx := nz_iff.mp (List.mem_filter.mp hx).2
      have hx' := (List.mem_filter.mp hx).1
      rw [tu2.is] at hx'
      rcases List.mem_cons.mp hx' with rfl | hx'
      · exact m2p
      · obtain ⟨y, hy, rfl⟩ := List.mem_map.mp hx'
        have yS := (tu2.mem y).mpr (.inr hy)
        have ly : y.length = m2.length := (hT y yS).trans (hT m2 m2S).symm
        rw [stp_p ly] at nx ⊢
        have := hd (y.getD p 0) (m2.getD p 0) (zT m2 m2S)
        omega
    · have := b'.M_le h (T.filter (nz p)).length
      omega
end
end Ir

/-! IrD: all places: rows in steps, of full rank; the specification's steps and the program's. -/
namespace Ir
open Nf02 (plus scale)
/-- below 2 to the b -/
def Lt (b : Nat) (x : Vec) : Prop := ∀ j, (x.getD j 0).natAbs < 2 ^ b
theorem Lt.le {b : Nat} {x : Vec} (h : Lt b x) : Le (2 ^ b - 1) x := fun j => by have := h j; omega
theorem Le.lt {b C : Nat} {x : Vec} (h : Le C x) (hc : C < 2 ^ b) : Lt b x := fun j => by have := h j; omega
theorem Lt.mono {b c : Nat} {x : Vec} (h : b ≤ c) (l : Lt b x) : Lt c x := fun j => Nat.lt_of_lt_of_le (l j) (Nat.pow_le_pow_right (by omega) h)
theorem sp_split {n : Nat} {L : List Vec} {r u : Vec} (hL : Wd n L) (lr : r.length = n) (su : Sp n (r :: L) u) : ∃ c w, Sp n L w ∧ u = ax c w r := by
  induction su with
  | zero =>
    refine ⟨0, _, .zero, ?_⟩
    have l : (zr n).length = r.length := by rw [len_zr, lr]
    refine (vext (by rw [len_ax l]) fun j _ => ?_).symm
    rw [gd_ax l]; omega
  | @add u x c su hx ih =>
    obtain ⟨d, w, sw, rfl⟩ := ih
    have lw := sw.len hL
    rcases List.mem_cons.mp hx with rfl | hx
    · refine ⟨d + c, w, sw, ?_⟩
      have l1 : (ax d w x).length = x.length := by rw [len_ax (by omega)]; omega
      refine vext (by rw [len_ax l1, len_ax (by omega), len_ax (by omega)]) fun j _ => ?_
      rw [gd_ax l1, gd_ax (by omega), gd_ax (by omega), Int.add_mul]; omega
    · have lx := hL x hx
      refine ⟨d, ax c w x, .add c sw hx, ?_⟩
      have l1 : (ax d w r).length = x.length := by rw [len_ax (by omega)]; omega
      have l2 : (ax c w x).length = r.length := by rw [len_ax (by omega)]; omega
      refine vext (by rw [len_ax l1, len_ax l2, len_ax (by omega), len_ax (by omega)]) fun j _ => ?_
      rw [gd_ax l1, gd_ax l2, gd_ax (by omega), gd_ax (by omega)]; omega
/-- at each of the first places something not 0 there, 0 behind -/
def Full (n i : Nat) (l : List Vec) : Prop := ∀ p, p < i → ∃ v, Sp n l v ∧ Zf (p + 1) v ∧ v.getD p 0 ≠ 0
theorem Full.eqs {n i : Nat} {l l' : List Vec} (h : Full n i l) (e : Eqs n l l') : Full n i l' := fun p hp =>
  let ⟨v, a, b, c⟩ := h p hp
  ⟨v, (e v).mp a, b, c⟩
theorem Tri.full {n m : Nat} {R : List Vec} (t : Tri n m R) : Full m n R := fun p hp => by
  obtain ⟨r, hr, hm⟩ := exists_row t hp
  exact ⟨r, .mem t.wd hm, t.zf p r hr, by have := t.pos p r hr; omega⟩
/-- turned up -/
def up (p : Nat) (m : Vec) : Vec := if m.getD p 0 < 0 then scale (-1) m else m
/-- how many rounds, how great: at the place ahead, at those before it -/
def cap (F B : Nat) : Nat → Nat → Nat → Bool
  | 0, _, _ => true
  | i + 1, k, b => (decide (k ≤ 1) || decide (2 * b + k + 2 ≤ F)) && decide (3 * b + k + 6 ≤ B) && cap F B i (k - 1) (3 * b + k + 6)
/-- what the Euclid of a place may be handed -/
structure Good (n F B i : Nat) (l : List Vec) : Prop where
  wd : Wd n l
  zf : ∀ x ∈ l, Zf i x
  full : Full n i l
  le : i ≤ n
  size : ∃ b k, l.length ≤ k ∧ (∀ x ∈ l, Lt b x) ∧ cap F B i k b = true
section
variable {dv : Int → Int → Int} {kp : Vec → Bool} {n F B : Nat}
theorem place_ok (hq : Quo dv) (hk : Kind dv) (hkp : ∀ x : Vec, x.length = n → kp x = false → x = zr n) {p : Nat} {l : List Vec} (g : Good n F B (p + 1) l) :
    ∃ m R, go dv kp p F (l.filter (nz p)) (l.filter (zz p)) = some (m, R) ∧ m.length = n ∧ Zf (p + 1) m ∧ m.getD p 0 ≠ 0 ∧ Eqs n (m :: R) l ∧ Good n F B p R ∧ (∃ C, C < 2 ^ B ∧ Fine dv p C F (l.filter (nz p)) ∧ Le C m) := by
  obtain ⟨b, k, hlk, hb, hcap⟩ := g.size
  simp only [cap, Bool.and_eq_true, Bool.or_eq_true, decide_eq_true_eq] at hcap
  obtain ⟨⟨c1, c2⟩, c3⟩ := hcap
  -- something is not 0 there
  have hne : l.filter (nz p) ≠ [] := by
    intro e
    obtain ⟨v, sv, _, nv⟩ := g.full p (by omega)
    have all0 : ∀ x ∈ l, x.getD p 0 = 0 := fun x hx => by
      by_cases h : x.getD p 0 = 0
      · exact h
      · have : x ∈ l.filter (nz p) := List.mem_filter.mpr ⟨hx, nz_iff.mpr h⟩
        rw [e] at this; simp at this
    refine nv (sv.all (P := fun v => v.length = n ∧ v.getD p 0 = 0) ⟨len_zr, gd_zero _⟩ fun c v x hv hx => ?_).2
    have lx := g.wd x hx
    refine ⟨by rw [len_ax (by omega)]; exact hv.1, ?_⟩
    rw [gd_ax (by omega), hv.2, all0 x hx]; omega
  have wS : Wd n (l.filter (nz p)) := fun x hx => g.wd x (List.mem_filter.mp hx).1
  have wR : Wd n (l.filter (zz p)) := fun x hx => g.wd x (List.mem_filter.mp hx).1
  have hz : ∀ x ∈ l.filter (nz p), x.getD p 0 ≠ 0 := fun x hx => nz_iff.mp (List.mem_filter.mp hx).2
  have hle : ∀ x ∈ l.filter (nz p), Le (2 ^ b - 1) x := fun x hx => (hb x (List.mem_filter.mp hx).1).le
  have hlen : (l.filter (nz p)).length ≤ k := Nat.le_trans (List.length_filter_le _ _) hlk
  have hbig : 2 ^ b - 1 ≤ 2 ^ (3 * b + k + 5) := Nat.le_trans (Nat.sub_le _ _) (Nat.pow_le_pow_right (by omega) (by omega))
  -- it runs
  obtain ⟨m, R, h1, h2, h3, h4⟩ : ∃ m R', go dv kp p F (l.filter (nz p)) (l.filter (zz p)) = some (m, R') ∧ Le (2 ^ (3 * b + k + 5)) m ∧ (∀ x ∈ R', x ∈ l.filter (zz p) ∨ Le (2 ^ (3 * b + k + 5)) x) ∧ Fine dv p (2 ^ (3 * b + k + 5)) F (l.filter (nz p)) := by
    by_cases hk1 : k ≤ 1
    · obtain ⟨x, hx⟩ : ∃ x, l.filter (nz p) = [x] := by
        match hS : l.filter (nz p), hne, hlen with
        | [x], _, _ => exact ⟨x, rfl⟩
        | x :: y :: s, _, h => simp at h; omega
      refine ⟨x, l.filter (zz p), ?_, ?_, fun y hy => .inl hy, Fine.one (fun y hy => (hle y hy).mono hbig) (by rw [hx]; simp)⟩
      · rw [hx]
        cases F <;> simp [go]
      · exact (hle x (by rw [hx]; simp)).mono hbig
    · have hF : 2 * b + k + 2 ≤ F := by
        rcases c1 with h | h
        · exact absurd h hk1
        · exact h
      obtain ⟨t, s, bd, ht⟩ := bnd_of (p := p) hne hz hle
      have hs := bd.tl
      have b0 : 0 < 2 ^ b := Nat.pow_pos (by omega)
      have pk : 2 ^ (l.filter (nz p)).length ≤ 2 ^ k := Nat.pow_le_pow_right (by omega) hlen
      have f1 : t * s * 2 ^ (l.filter (nz p)).length < 2 ^ (F - 2) := by
        have e1 : 2 ^ (2 * b + k) ≤ 2 ^ (F - 2) := Nat.pow_le_pow_right (by omega) (by omega)
        refine Nat.lt_of_lt_of_le ?_ e1
        have e2 : 2 ^ (2 * b + k) = 2 ^ b * 2 ^ b * 2 ^ k := by rw [← Nat.pow_add, ← Nat.pow_add]; congr 1; omega
        rw [e2]
        have e3 : t * s < 2 ^ b * 2 ^ b := Nat.mul_lt_mul'' (by omega) (by omega)
        exact Nat.lt_of_lt_of_le (Nat.mul_lt_mul_of_pos_right e3 (Nat.pow_pos (by omega))) (Nat.mul_le_mul_left _ pk)
      have f2 : 16 * ((2 ^ b - 1) * t * (t + s) * 2 ^ (l.filter (nz p)).length) ≤ 2 ^ (3 * b + k + 5) := by
        have e2 : 2 ^ (3 * b + k + 5) = 16 * (2 ^ b * 2 ^ b * (2 * 2 ^ b) * 2 ^ k) := by
          have : 3 * b + k + 5 = 4 + (b + b + (1 + b) + k) := by omega
          rw [this, Nat.pow_add, Nat.pow_add, Nat.pow_add, Nat.pow_add, Nat.pow_add]
        rw [e2]
        exact Nat.mul_le_mul_left _ (Nat.mul_le_mul (Nat.mul_le_mul (Nat.mul_le_mul (by omega) (by omega)) (by omega)) pk)
      have eF : F = (F - 2) + 2 := by omega
      rw [eF]
      exact start_run hq hk wS hz bd f2 f1
  -- what it came to
  have zfax : ∀ c x y, (x.length = n ∧ Zf (p + 1) x) → (y.length = n ∧ Zf (p + 1) y) → ((ax c x y).length = n ∧ Zf (p + 1) (ax c x y)) := fun c x y hx hy =>
    ⟨by rw [len_ax (by omega)]; exact hx.1, Zf.ax (by omega) hx.2 hy.2⟩
  obtain ⟨a1, a2, a3, a4, a5, a6, a7⟩ := go_str (P := fun x => x.length = n ∧ Zf (p + 1) x) hkp zfax F _ _ m R wS wR
    (fun x hx => ⟨⟨wS x hx, g.zf x (List.mem_filter.mp hx).1⟩, hz x hx⟩) (fun x hx => ⟨⟨wR x hx, g.zf x (List.mem_filter.mp hx).1⟩, zz_iff.mp (List.mem_filter.mp hx).2⟩) h1
  have eq : Eqs n (m :: R) l := by
    refine a6.trans (Eqs.of (fun x hx => (List.mem_append.mp hx).elim (wS x) (wR x)) g.wd (fun x hx => .mem g.wd ?_) fun x hx => .mem (fun x hx => (List.mem_append.mp hx).elim (wS x) (wR x)) ?_)
    · exact (List.mem_append.mp hx).elim (fun h => (List.mem_filter.mp h).1) fun h => (List.mem_filter.mp h).1
    · by_cases h : x.getD p 0 = 0
      · exact List.mem_append_right _ (List.mem_filter.mpr ⟨hx, zz_iff.mpr h⟩)
      · exact List.mem_append_left _ (List.mem_filter.mpr ⟨hx, nz_iff.mpr h⟩)
  have hlast : 2 ^ (3 * b + k + 5) < 2 ^ (3 * b + k + 6) := Nat.pow_lt_pow_right (by omega) (by omega)
  refine ⟨m, R, h1, a1, a2.2, a3, eq, ⟨a4, fun x hx => Zf.down (a5 x hx).2 (a5 x hx).1.2, fun q hq' => ?_, by have := g.le; omega, ⟨3 * b + k + 6, k - 1, ?_, fun x hx => ?_, c3⟩⟩, 2 ^ (3 * b + k + 5), ?_, h4, h2⟩
  · obtain ⟨v, sv, zv, nv⟩ := g.full q (by omega)
    refine ⟨v, ?_, zv, nv⟩
    obtain ⟨c, w, sw, rfl⟩ := sp_split a4 a1 ((eq v).mpr sv)
    have lw := sw.len a4
    have zw : w.getD p 0 = 0 := (sw.all (P := fun v => v.length = n ∧ v.getD p 0 = 0) ⟨len_zr, gd_zero _⟩ fun c v x hv hx => by
      have lx := a4 x hx
      exact ⟨by rw [len_ax (by omega)]; exact hv.1, by rw [gd_ax (by omega), hv.2, (a5 x hx).2]; omega⟩).2
    have z := zv p (by omega)
    rw [gd_ax (by omega), zw] at z
    have hc : c = 0 := by
      rcases Int.mul_eq_zero.mp (show c * m.getD p 0 = 0 by omega) with h | h
      · exact h
      · exact absurd h a3
    have e1 : ax c w m = w := by
      rw [hc]
      refine vext (by rw [len_ax (by omega)]) fun j _ => ?_
      rw [gd_ax (by omega)]; omega
    rw [e1]; exact sw
  · have q : (l.filter (nz p)).length + (l.filter (zz p)).length ≤ l.length := by
      clear hne wS wR hz hle hlen h1 h2 h3 h4 a1 a2 a3 a4 a5 a6 a7 eq hlk hb g
      induction l with
      | nil => simp
      | cons z T ihT =>
        simp only [List.filter_cons]
        by_cases hz : z.getD p 0 = 0
        · rw [if_neg (by rw [nz_no hz]; decide), if_pos (zz_iff.mpr hz), List.length_cons, List.length_cons]; omega
        · rw [if_pos (nz_iff.mpr hz), if_neg (by rw [zz_no hz]; decide), List.length_cons, List.length_cons]; omega
    omega
  · rcases h3 x hx with h | h
    · exact (hb x (List.mem_filter.mp h).1).mono (by omega)
    · exact h.lt hlast
  · exact Nat.lt_of_lt_of_le hlast (Nat.pow_le_pow_right (by omega) c2)
theorem up_ok {p : Nat} {m : Vec} (h : m.getD p 0 ≠ 0) (z : Zf (p + 1) m) : (up p m).length = m.length ∧ Zf (p + 1) (up p m) ∧ 0 < (up p m).getD p 0 := by
  unfold up
  split
  · refine ⟨len_scale, fun j hj => by rw [gd_scale, z j hj]; omega, by rw [gd_scale]; omega⟩
  · exact ⟨rfl, z, by omega⟩
theorem up_sp {p : Nat} {m : Vec} {L : List Vec} (hL : Wd n L) (hm : m.length = n) : (Sp n L (up p m) ↔ Sp n L m) := by
  unfold up
  split
  · constructor
    · intro s
      have := s.scale hL (-1)
      have e : scale (-1) (scale (-1) m) = m := vext (by rw [len_scale, len_scale]) fun j _ => by rw [gd_scale, gd_scale]; omega
      rw [e] at this; exact this
    · intro s; exact s.scale hL (-1)
  · exact Iff.rfl
/-- rows from the last place on, by any Euclid -/
theorem steps_ok (hq : Quo dv) (hk : Kind dv) (hkp : ∀ x : Vec, x.length = n → kp x = false → x = zr n) (st : Nat → List Vec → List Vec) (h0 : ∀ l, st 0 l = [])
    (hst : ∀ p l m R, go dv kp p F (l.filter (nz p)) (l.filter (zz p)) = some (m, R) → st (p + 1) l = st p R ++ [up p m]) :
    ∀ (i : Nat) (l : List Vec), Good n F B i l → Tri i n (st i l) ∧ Eqs n (st i l) l := by
  intro i
  induction i with
  | zero =>
    intro l g
    rw [h0]
    refine ⟨⟨rfl, fun x hx => by simp at hx, fun i r e => by simp at e, fun i r e => by simp at e⟩, Eqs.of (fun x hx => by simp at hx) g.wd (fun x hx => by simp at hx) fun x hx => ?_⟩
    rw [(g.zf x hx).eq_zr (g.wd x hx)]
    exact .zero
  | succ p ih =>
    intro l g
    obtain ⟨m, R, h1, h2, h3, h4, h5, h6, h7⟩ := place_ok hq hk hkp g
    obtain ⟨t, e⟩ := ih R h6
    obtain ⟨u1, u2, u3⟩ := up_ok h4 h3
    rw [hst p l m R h1]
    have t2 := tri_snoc_mk t (u1.trans h2) u2 u3
    have wmR : Wd n (m :: R) := fun x hx => (List.mem_cons.mp hx).elim (fun h => h ▸ h2) (h6.wd x)
    refine ⟨t2, Eqs.trans (Eqs.of t2.wd wmR (fun x hx => ?_) fun x hx => ?_) h5⟩
    · rcases List.mem_append.mp hx with hx | hx
      · exact ((e x).mp (.mem t.wd hx)).mono fun y hy => List.mem_cons_of_mem _ hy
      · have : x = up p m := by simpa using hx
        subst this
        exact (up_sp wmR h2).mpr (.mem wmR List.mem_cons_self)
    · rcases List.mem_cons.mp hx with rfl | hx
      · exact (up_sp (p := p) t2.wd h2).mp (.mem t2.wd (by simp))
      · exact ((e x).mpr (.mem h6.wd hx)).mono fun y hy => List.mem_append_left _ hy
end

/-! ### the specification's own -/
theorem quo_ediv : Quo (fun x l => x / l) := fun x l hl => by
  have e1 := Int.emod_add_mul_ediv x l
  have e2 := Int.emod_nonneg x hl
  have e3 := Int.emod_lt x hl
  have e4 : x / l * l = l * (x / l) := Int.mul_comm _ _
  show (x - x / l * l).natAbs < l.natAbs
  omega
theorem kind_ediv : Kind (fun x l => x / l) := .euclid fun x l hl => by
  have e1 := Int.emod_add_mul_ediv x l
  have e2 := Int.emod_nonneg x hl
  have e4 : x / l * l = l * (x / l) := Int.mul_comm _ _
  show 0 ≤ x - x / l * l
  omega
abbrev gos := go (fun x l : Int => x / l) (fun _ => true)
theorem filter_none {α : Type} {q : α → Bool} : ∀ {l : List α}, (∀ x ∈ l, q x = false) → l.filter q = []
  | [], _ => rfl
  | x :: l, h => by
    rw [List.filter_cons, if_neg (by rw [h x (by simp)]; decide)]
    exact filter_none fun y hy => h y (by simp [hy])
theorem filter_all {α : Type} {q : α → Bool} : ∀ {l : List α}, (∀ x ∈ l, q x = true) → l.filter q = l
  | [], _ => rfl
  | x :: l, h => by
    rw [List.filter_cons, if_pos (h x (by simp)), filter_all fun y hy => h y (by simp [hy])]
theorem euclid_go (p : Nat) : ∀ (f : Nat) (l : List Vec) (m : Vec) (R : List Vec), gos p f (l.filter (nz p)) (l.filter (zz p)) = some (m, R) → Nf02.euclid p (f + 1) l = (some (up p m), R) := by
  intro f
  induction f with
  | zero =>
    intro l m R h
    unfold Nf02.euclid
    show (match l.filter (nz p) with | [] => _ | r :: s => _) = _
    match hS : l.filter (nz p), h with
    | [], h => simp [gos, go] at h
    | [x], h =>
      simp only [gos, go, Option.some.injEq, Prod.mk.injEq] at h
      obtain ⟨rfl, rfl⟩ := h
      show (if ([x].erase x) = [] then _ else _) = _
      rw [if_pos (by simp)]; rfl
    | x :: y :: s, h => simp [gos, go] at h
  | succ f ih =>
    intro l m R h
    unfold Nf02.euclid
    show (match l.filter (nz p) with | [] => _ | r :: s => _) = _
    have hz : ∀ x ∈ l.filter (nz p), x.getD p 0 ≠ 0 := fun x hx => nz_iff.mp (List.mem_filter.mp hx).2
    match hS : l.filter (nz p), h with
    | [], h => simp [gos, go] at h
    | [x], h =>
      simp only [gos, go, Option.some.injEq, Prod.mk.injEq] at h
      obtain ⟨rfl, rfl⟩ := h
      show (if ([x].erase x) = [] then _ else _) = _
      rw [if_pos (by simp)]; rfl
    | x :: y :: s, h =>
      rw [hS] at hz
      simp only [gos, go] at h
      show (if (x :: y :: s).erase (mn p x (y :: s)) = [] then _ else Nf02.euclid p (f + 1) (mn p x (y :: s) :: l.filter (zz p) ++ ((x :: y :: s).erase (mn p x (y :: s))).map (stp (fun x l : Int => x / l) p (mn p x (y :: s))))) = _
      have tu := turn_nxt (fun x l : Int => x / l) p x (y :: s)
      have hO : (x :: y :: s).erase (mn p x (y :: s)) ≠ [] := fun e => by
        have := tu.len.1
        rw [e] at this; simp at this
      rw [if_neg hO]
      refine ih _ m R ?_
      have hm := hz _ (mn_ok p (y :: s) x).1
      have en : nxt (fun x l : Int => x / l) p (x :: y :: s) = mn p x (y :: s) :: ((x :: y :: s).erase (mn p x (y :: s))).map (stp (fun x l : Int => x / l) p (mn p x (y :: s))) := rfl
      rw [en] at h
      generalize hM : mn p x (y :: s) = mm at *
      generalize ((x :: y :: s).erase mm).map (stp (fun x l : Int => x / l) p mm) = Z at *
      have r1 : (l.filter (zz p)).filter (nz p) = [] := filter_none fun z hz => nz_no (zz_iff.mp (List.mem_filter.mp hz).2)
      have r2 : (l.filter (zz p)).filter (zz p) = l.filter (zz p) := filter_all fun z hz => (List.mem_filter.mp hz).2
      have c1 : (mm :: l.filter (zz p) ++ Z).filter (nz p) = (mm :: Z).filter (nz p) := by
        rw [List.cons_append, List.filter_cons, List.filter_cons, List.filter_append, r1, List.nil_append]
      have c2 : (mm :: l.filter (zz p) ++ Z).filter (zz p) = l.filter (zz p) ++ (mm :: Z).filter fun x => zz p x && true := by
        rw [List.cons_append, List.filter_cons, if_neg (by rw [zz_no hm]; decide), List.filter_append, r2, List.filter_cons, if_neg (by rw [zz_no hm]; decide)]
        simp
      rw [c1, c2]
      exact h
/-- rounds that the specification's Euclid may go -/
def SF : Nat := 99999
theorem end_sf : Nf02.END = SF + 1 := by decide +kernel
theorem spec_step_gen {F : Nat} (hF : Nf02.END = F + 1) (p : Nat) (l : List Vec) (m : Vec) (R : List Vec) (h : gos p F (l.filter (nz p)) (l.filter (zz p)) = some (m, R)) : Nf02.steps (p + 1) l = Nf02.steps p R ++ [up p m] := by
  have e := euclid_go p F l m R h
  rw [← hF] at e
  rw [Nf02.steps, e]
theorem spec_step (p : Nat) (l : List Vec) (m : Vec) (R : List Vec) (h : gos p SF (l.filter (nz p)) (l.filter (zz p)) = some (m, R)) : Nf02.steps (p + 1) l = Nf02.steps p R ++ [up p m] :=
  spec_step_gen end_sf p l m R h
theorem spec_steps {n B i : Nat} {l : List Vec} (g : Good n SF B i l) : Tri i n (Nf02.steps i l) ∧ Eqs n (Nf02.steps i l) l :=
  steps_ok quo_ediv kind_ediv (kp := fun _ => true) (fun _ _ h => by cases h) Nf02.steps (fun _ => rfl) spec_step i l g
theorem spec_rows {n B : Nat} {l : List Vec} (g : Good n SF B n l) : Hnf n (Nf02.rows n l) ∧ Eqs n (Nf02.rows n l) l := by
  obtain ⟨t, e⟩ := spec_steps g
  obtain ⟨h, e2⟩ := lower_hnf t
  exact ⟨h, e2.symm.trans e⟩

/-! ### the program's -/
def nought (x : Vec) : Bool := x.all fun z => decide (z = 0)
theorem nought_iff {n : Nat} {x : Vec} (h : x.length = n) : nought x = true ↔ x = zr n := by
  unfold nought
  rw [List.all_eq_true]
  constructor
  · intro a
    refine vext (by rw [len_zr]; exact h) fun i hi => ?_
    rw [gd_zero]
    have := a x[i] (List.getElem_mem hi)
    simp only [decide_eq_true_eq] at this
    simp [List.getD_eq_getElem?_getD, hi, this]
  · intro e z hz
    rw [e] at hz
    have := List.eq_of_mem_replicate hz
    simp [this]
theorem fmod_neg {x l : Int} (h : l < 0) : l < x.fmod l ∧ x.fmod l ≤ 0 := by
  have e := Int.neg_fmod_neg x l
  have e1 := Int.fmod_nonneg_of_pos (-x) (show 0 < -l by omega)
  have e2 := Int.fmod_lt_of_pos (-x) (show 0 < -l by omega)
  omega
theorem quo_fdiv : Quo Int.fdiv := fun x l hl => by
  have e1 := Int.fmod_add_mul_fdiv x l
  have e4 : x.fdiv l * l = l * x.fdiv l := Int.mul_comm _ _
  rcases Int.lt_or_gt_of_ne hl with h | h
  · have e2 := fmod_neg (x := x) h
    omega
  · have e2 := Int.fmod_nonneg_of_pos x h
    have e3 := Int.fmod_lt_of_pos x h
    omega
theorem kind_fdiv : Kind Int.fdiv := .floor fun x l => by
  have e1 := Int.fmod_add_mul_fdiv x l
  have e4 : x.fdiv l * l = l * x.fdiv l := Int.mul_comm _ _
  refine ⟨fun h => ?_, fun h => ?_⟩
  · have e2 := Int.fmod_nonneg_of_pos x h
    omega
  · have e2 := fmod_neg (x := x) h
    omega
abbrev gop := go Int.fdiv (fun x => !nought x)
def PF : Nat := 999999
def psteps : Nat → List Vec → List Vec
  | 0, _ => []
  | p + 1, l => match gop p PF (l.filter (nz p)) (l.filter (zz p)) with
    | none => []
    | some (m, R) => psteps p R ++ [up p m]
def prows (n : Nat) (l : List Vec) : List Vec := lower (psteps n l)
theorem prog_step (p : Nat) (l : List Vec) (m : Vec) (R : List Vec) (h : gop p PF (l.filter (nz p)) (l.filter (zz p)) = some (m, R)) : psteps (p + 1) l = psteps p R ++ [up p m] := by
  rw [psteps, h]
theorem nought_kp {n : Nat} : ∀ x : Vec, x.length = n → (!nought x) = false → x = zr n := fun x hx h => (nought_iff hx).mp (by simpa using h)
theorem prog_steps {n B i : Nat} {l : List Vec} (g : Good n PF B i l) : Tri i n (psteps i l) ∧ Eqs n (psteps i l) l :=
  steps_ok quo_fdiv kind_fdiv nought_kp psteps (fun _ => rfl) prog_step i l g
theorem prog_rows {n B : Nat} {l : List Vec} (g : Good n PF B n l) : Hnf n (prows n l) ∧ Eqs n (prows n l) l := by
  obtain ⟨t, e⟩ := prog_steps g
  obtain ⟨h, e2⟩ := lower_hnf t
  exact ⟨h, e2.symm.trans e⟩
/-- both come to the same rows -/
theorem rows_same {n B B' : Nat} {l : List Vec} (g : Good n PF B n l) (g' : Good n SF B' n l) : prows n l = Nf02.rows n l := by
  obtain ⟨h, e⟩ := prog_rows g
  obtain ⟨h', e'⟩ := spec_rows g'
  exact hnf_uniq h h' (e.trans e'.symm)
end Ir

/-! IrE: the program's own ways to say the same: the least one by its place, sizes behind a bringing down. -/
namespace Ir
open Nf02 (plus scale)
/-- the place of the one of least size, as a loop finds it -/
def lat (p : Nat) (vs : List Vec) : Nat := vs.zipIdx.foldl (fun (f : Nat) x => if (x.1.getD p 0).natAbs < ((vs.getD f []).getD p 0).natAbs then x.2 else f) 0
def latS (p : Nat) (vs : List Vec) (f : Nat) (x : Vec × Nat) : Nat := if (x.1.getD p 0).natAbs < ((vs.getD f []).getD p 0).natAbs then x.2 else f
theorem lat_step {p : Nat} {vs : List Vec} {i : Nat} {v : Vec} (h : vs[i]? = some v) : (vs.zipIdx.take (i + 1)).foldl (latS p vs) 0 = latS p vs ((vs.zipIdx.take i).foldl (latS p vs) 0) (v, i) := by
  have e : vs.zipIdx[i]? = some (v, i) := by rw [List.getElem?_zipIdx, h]; simp
  rw [List.take_add_one, e, List.foldl_append]; rfl
theorem lat_eq (p : Nat) (vs : List Vec) : lat p vs = (vs.zipIdx.take vs.length).foldl (latS p vs) 0 := by
  rw [List.take_of_length_le (by simp)]; rfl
/-- the loop's place and the fold's vector go together: the first of the least -/
theorem lat_mn (p : Nat) (r : Vec) (s : List Vec) : lat p (r :: s) < (r :: s).length ∧ (r :: s)[lat p (r :: s)]? = some (mn p r s) ∧ (r :: s).erase (mn p r s) = (r :: s).take (lat p (r :: s)) ++ (r :: s).drop (lat p (r :: s) + 1) := by
  -- of the first i + 1
  have key : ∀ i, i < (r :: s).length → ∃ j, ((r :: s).zipIdx.take (i + 1)).foldl (latS p (r :: s)) 0 = j ∧ j ≤ i ∧ (r :: s)[j]? = some (mn p r (s.take i)) ∧ (∀ m v, m < j → (r :: s)[m]? = some v → ((mn p r (s.take i)).getD p 0).natAbs < (v.getD p 0).natAbs) := by
    intro i
    induction i with
    | zero =>
      intro _
      refine ⟨0, ?_, Nat.le_refl _, rfl, fun m v h => by omega⟩
      show latS p (r :: s) 0 (r, 0) = 0
      unfold latS
      split <;> rfl
    | succ i ih =>
      intro hi
      obtain ⟨j, e1, e2, e3, e4⟩ := ih (by omega)
      have hi' : i < s.length := by simp at hi; omega
      have hv : (r :: s)[i + 1]? = some s[i] := by simp [hi']
      rw [lat_step hv, e1]
      have em : mn p r (s.take (i + 1)) = if (s[i].getD p 0).natAbs < ((mn p r (s.take i)).getD p 0).natAbs then s[i] else mn p r (s.take i) := by
        unfold mn
        rw [List.take_add_one, List.getElem?_eq_getElem hi', List.foldl_append]; rfl
      have eg : (r :: s).getD j [] = mn p r (s.take i) := by rw [List.getD_eq_getElem?_getD, e3]; rfl
      have el : latS p (r :: s) j (s[i], i + 1) = if (s[i].getD p 0).natAbs < ((mn p r (s.take i)).getD p 0).natAbs then i + 1 else j := by
        unfold latS; rw [eg]
      rw [em, el]
      by_cases c : (s[i].getD p 0).natAbs < ((mn p r (s.take i)).getD p 0).natAbs
      · rw [if_pos c, if_pos c]
        refine ⟨i + 1, rfl, Nat.le_refl _, hv, fun m v hm hv' => ?_⟩
        have hmem : v ∈ r :: s.take i := by
          have : (r :: s.take i)[m]? = some v := by
            rw [← hv']
            cases m with
            | zero => rfl
            | succ m => simp; rw [List.getElem?_take, if_pos (by omega)]
          exact List.mem_of_getElem? this
        have := (mn_ok p (s.take i) r).2 v hmem
        omega
      · rw [if_neg c, if_neg c]
        exact ⟨j, rfl, by omega, e3, e4⟩
  obtain ⟨j, e1, e2, e3, e4⟩ := key s.length (by simp)
  rw [List.take_length] at e3 e4
  have el : lat p (r :: s) = j := by rw [lat_eq]; exact e1
  have hj : j < (r :: s).length := by simp; omega
  rw [el]
  refine ⟨hj, e3, ?_⟩
  -- erase takes the first equal one: it stands at j
  have hne : ∀ x ∈ (r :: s).take j, (x == mn p r s) = false := fun x hx => by
    obtain ⟨m, hm, rfl⟩ := List.getElem_of_mem hx
    have hm' : m < j := by simp at hm; omega
    have := e4 m ((r :: s).take j)[m] hm' (by rw [List.getElem_take]; exact List.getElem?_eq_getElem (by omega))
    refine beq_eq_false_iff_ne.mpr fun e => ?_
    rw [e] at this; omega
  have split : r :: s = (r :: s).take j ++ (mn p r s :: (r :: s).drop (j + 1)) := by
    have h1 : (r :: s)[j]'hj = mn p r s := by
      rw [List.getElem?_eq_getElem hj] at e3; exact Option.some.inj e3
    rw [← h1, ← List.drop_eq_getElem_cons hj, List.take_append_drop]
  have : (r :: s).erase (mn p r s) = ((r :: s).take j ++ (mn p r s :: (r :: s).drop (j + 1))).erase (mn p r s) := by rw [← split]
  rw [this, List.erase_append_right _ (fun hmem => by have := hne _ hmem; simp at this), List.erase_cons_head]
/-- sizes of what a quotient is -/
theorem quo_le {dv : Int → Int → Int} (hq : Quo dv) {x l : Int} (hl : l ≠ 0) : (dv x l).natAbs ≤ x.natAbs + 1 := by
  have h := hq x l hl
  have h1 : (dv x l * l).natAbs < x.natAbs + l.natAbs := by
    generalize dv x l * l = z at *
    omega
  rw [Int.natAbs_mul] at h1
  have h2 : 0 < l.natAbs := Int.natAbs_pos.mpr hl
  have h3 : (dv x l).natAbs * l.natAbs < (x.natAbs + 1) * l.natAbs + l.natAbs := by
    have : x.natAbs ≤ x.natAbs * l.natAbs := Nat.le_mul_of_pos_right _ h2
    rw [Nat.add_mul, Nat.one_mul]; omega
  have h4 : (dv x l).natAbs * l.natAbs < (x.natAbs + 1 + 1) * l.natAbs := by
    rw [Nat.add_mul (x.natAbs + 1) 1, Nat.one_mul]; exact h3
  have := Nat.lt_of_mul_lt_mul_right h4
  omega
theorem fdiv_pos {x l : Int} (h : 0 < l) : x.fdiv l = x / l := Int.fdiv_eq_ediv_of_nonneg x (by omega)
end Ir

/-! IrG: bringing down, turn by turn, its sizes; the second loop of rows_of. -/
namespace Ir
open Nf02 (plus scale)
/-- one more row's multiple taken away -/
def bdn (D : List Vec) (v : Vec) (p : Nat) : Vec := ax (0 - (v.getD p 0).fdiv ((D.getD p []).getD p 0)) v (D.getD p [])
/-- rows whose own places, as far as asked, are above 0 -/
def Own (n e : Nat) (D : List Vec) : Prop := Wd n D ∧ e ≤ D.length ∧ e ≤ n ∧ ∀ (i : Nat) (r : Vec), i < e → D[i]? = some r → 0 < r.getD i 0
theorem rest_turn {n e : Nat} {D : List Vec} {v : Vec} (h : Own n (e + 1) D) (lv : v.length = n) : rest (D.take (e + 1)) v = rest (D.take e) (bdn D v e) := by
  have he : e < D.length := h.2.1
  have hr : D[e]? = some D[e] := List.getElem?_eq_getElem he
  have ht : D.take (e + 1) = D.take e ++ [D[e]] := by rw [List.take_add_one, hr]; rfl
  have hg : D.getD e [] = D[e] := by rw [List.getD_eq_getElem?_getD, hr]; rfl
  have hp := h.2.2.2 e D[e] (Nat.lt_succ_self e) hr
  have hl := h.1 D[e] (List.getElem_mem he)
  rw [ht, rest_snoc]
  have e1 : (D.take e).length = e := by rw [List.length_take]; omega
  rw [e1]
  have e2 : D[e].getD e 1 = D[e].getD e 0 := by
    have := h.2.2.1
    have : e < D[e].length := by omega
    simp [List.getD_eq_getElem?_getD, this]
  unfold bdn
  rw [hg, e2, fdiv_pos hp]; rfl
theorem len_bdn {n e : Nat} {D : List Vec} {v : Vec} (h : Own n (e + 1) D) (lv : v.length = n) : (bdn D v e).length = n := by
  have he : e < D.length := h.2.1
  have hr : D[e]? = some D[e] := List.getElem?_eq_getElem he
  have hg : D.getD e [] = D[e] := by rw [List.getD_eq_getElem?_getD, hr]; rfl
  have hl := h.1 D[e] (List.getElem_mem he)
  unfold bdn
  rw [hg, len_ax (by omega)]; exact lv
theorem Own.less {n e : Nat} {D : List Vec} (h : Own n (e + 1) D) : Own n e D := ⟨h.1, by have := h.2.1; omega, by have := h.2.2.1; omega, fun i r hi => h.2.2.2 i r (by omega)⟩
theorem lt_bdn {n e b c : Nat} {D : List Vec} {v : Vec} (h : Own n (e + 1) D) (lv : v.length = n) (hD : ∀ x ∈ D, Lt b x) (hv : Lt c v) : Lt (c + b + 2) (bdn D v e) := by
  have he : e < D.length := h.2.1
  have hr : D[e]? = some D[e] := List.getElem?_eq_getElem he
  have hg : D.getD e [] = D[e] := by rw [List.getD_eq_getElem?_getD, hr]; rfl
  have hl := h.1 D[e] (List.getElem_mem he)
  have hp := h.2.2.2 e D[e] (Nat.lt_succ_self e) hr
  have hb := hD D[e] (List.getElem_mem he)
  intro j
  unfold bdn
  rw [hg, gd_ax (by omega)]
  have q := quo_le quo_fdiv (x := v.getD e 0) (l := D[e].getD e 0) (by omega)
  have h1 := hv j
  have h2 := hv e
  have h3 := hb j
  generalize (v.getD e 0).fdiv (D[e].getD e 0) = d at *
  generalize v.getD e 0 = x at *
  generalize v.getD j 0 = y at *
  generalize D[e].getD j 0 = z at *
  have h4 : ((0 - d) * z).natAbs ≤ 2 ^ c * 2 ^ b := by
    rw [Int.natAbs_mul]
    exact Nat.mul_le_mul (by omega) (Nat.le_of_lt h3)
  have e5 : 2 ^ (c + b + 2) = 2 ^ c * 2 ^ b * 4 := by rw [Nat.pow_add, Nat.pow_add]
  have h6 : 1 ≤ 2 ^ b := Nat.one_le_two_pow
  have h7 : 2 ^ c ≤ 2 ^ c * 2 ^ b := Nat.le_mul_of_pos_right _ h6
  rw [e5]
  omega
theorem Tri.own {n m : Nat} {D : List Vec} (t : Tri n m D) (h : n ≤ m) : Own m n D := ⟨t.wd, by rw [t.len]; exact Nat.le_refl _, h, fun i r _ e => t.pos i r e⟩
/-- entries of reduced rows are below the greatest own place -/
theorem low_lt {n m b : Nat} {R : List Vec} (t : Tri n m R) (lo : Low R) (hb : ∀ (i : Nat) (r : Vec), R[i]? = some r → (r.getD i 0).natAbs < 2 ^ b) : ∀ x ∈ R, Lt b x := by
  intro x hx j
  obtain ⟨i, hi, rfl⟩ := List.getElem_of_mem hx
  have hr : R[i]? = some R[i] := List.getElem?_eq_getElem hi
  rcases Nat.lt_trichotomy j i with h | h | h
  · have hq : R[j]? = some R[j] := List.getElem?_eq_getElem (by omega)
    have := lo i j _ _ h hr hq
    have := hb j _ hq
    omega
  · subst h; exact hb j _ hr
  · rw [t.zf i _ hr j (by omega)]
    exact Nat.pow_pos (by omega)
/-- the own places stay -/
theorem lower_own {m : Nat} : ∀ {n : Nat} {R : List Vec}, n ≤ m → Tri n m R → ∀ (i : Nat) (r q : Vec), R[i]? = some r → (lower R)[i]? = some q → q.getD i 0 = r.getD i 0 := by
  intro n
  induction n with
  | zero =>
    intro R _ t i r q hr
    have : R = [] := List.eq_nil_of_length_eq_zero t.len
    subst this; simp at hr
  | succ n ih =>
    intro R hnm t i r q hr hq
    obtain ⟨D, u, rfl⟩ : ∃ D' q, R = D' ++ [q] := by
      have hne : R ≠ [] := fun e => by have := t.len; rw [e] at this; simp at this
      exact ⟨R.dropLast, R.getLast hne, (List.dropLast_concat_getLast hne).symm⟩
    obtain ⟨t', lu, zu, pu⟩ := tri_snoc t
    obtain ⟨t1, lo, eq⟩ := lower_ok (by omega) t'
    rw [lower_snoc] at hq
    have l1 := t'.len
    have l2 := t1.len
    by_cases hi : i < D.length
    · rw [List.getElem?_append_left hi] at hr
      rw [List.getElem?_append_left (by omega)] at hq
      exact ih (by omega) t' i r q hr hq
    · have hin : i = D.length := by
        have := (List.getElem?_eq_some_iff.mp hr).1
        simp at this; omega
      subst hin
      have e1 : u = r := by simpa using hr
      have e2 : rest (lower D) u = q := by
        rw [show D.length = (lower D).length by omega] at hq
        simpa using hq
      rw [← e1, ← e2]
      exact (rest_ok (by omega) t1 lu).2.2.1 D.length (by omega)
theorem tri_take {n m i : Nat} {R : List Vec} (t : Tri n m R) (h : i ≤ n) : Tri i m (R.take i) := by
  refine ⟨by rw [List.length_take, t.len]; omega, fun x hx => t.wd x (List.mem_of_mem_take hx), fun j r e => ?_, fun j r e => ?_⟩
  · rw [List.getElem?_take] at e
    split at e
    · exact t.zf j r e
    · cases e
  · rw [List.getElem?_take] at e
    split at e
    · exact t.pos j r e
    · cases e
theorem lower_take {n m i : Nat} {R : List Vec} (t : Tri n m R) (h : i < n) : ∃ r, R[i]? = some r ∧ lower (R.take (i + 1)) = lower (R.take i) ++ [rest (lower (R.take i)) r] := by
  obtain ⟨r, hr, _⟩ := exists_row t h
  refine ⟨r, hr, ?_⟩
  rw [List.take_add_one, hr]
  exact lower_snoc
theorem lower_len {R : List Vec} : (lower R).length = R.length := by
  have key : ∀ n (R : List Vec), R.length = n → (lower R).length = n := by
    intro n
    induction n with
    | zero =>
      intro R h
      have : R = [] := List.eq_nil_of_length_eq_zero h
      subst this; rfl
    | succ n ih =>
      intro R h
      obtain ⟨D, u, rfl⟩ : ∃ D' q, R = D' ++ [q] := by
        have hne : R ≠ [] := fun e => by rw [e] at h; simp at h
        exact ⟨R.dropLast, R.getLast hne, (List.dropLast_concat_getLast hne).symm⟩
      rw [lower_snoc, List.length_append, ih D (by simpa using h)]; rfl
  exact key _ R rfl
end Ir

/-! IrH: products in the ring: linear, commutative; their sizes. -/
namespace Ir
open Nf02 (plus scale)
abbrev up_ := Nf02.up
abbrev times := Nf02.times
theorem len_up_ {k x : Vec} (h : x.length = k.length) (h0 : 0 < k.length) : (up_ k x).length = k.length := by
  unfold up_ Nf02.up Nf02.plus
  simp
  omega
theorem gd_up_ {k x : Vec} (h : x.length = k.length) (h0 : 0 < k.length) (j : Nat) (hj : j < k.length) :
    (up_ k x).getD j 0 = (if j = 0 then 0 else x.getD (j - 1) 0) - x.getD (k.length - 1) 0 * k.getD j 0 := by
  have hl : (0 :: x.dropLast).length = (k.map fun z => 0 - x.getLastD 0 * z).length := by simp; omega
  have e : up_ k x = Nf02.plus (0 :: x.dropLast) (k.map fun z => 0 - x.getLastD 0 * z) := rfl
  rw [e, Ir.gd_plus hl]
  have e1 : (k.map fun z => 0 - x.getLastD 0 * z).getD j 0 = - (x.getLastD 0 * k.getD j 0) := by
    simp [List.getD_eq_getElem?_getD, hj]
  have e2 : x.getLastD 0 = x.getD (k.length - 1) 0 := by
    rw [← h, List.getLastD_eq_getLast?, List.getLast?_eq_getElem?, List.getD_eq_getElem?_getD]
  have e3 : (0 :: x.dropLast).getD j 0 = if j = 0 then 0 else x.getD (j - 1) 0 := by
    cases j with
    | zero => rfl
    | succ j =>
      rw [if_neg (by omega)]
      have : j < x.length - 1 := by omega
      have h2 : j < x.length := by omega
      simp [List.getD_eq_getElem?_getD, List.getElem?_dropLast, this, h2]
  rw [e1, e2, e3]; omega
/-- times the root so often -/
def upn (k : Vec) : Nat → Vec → Vec
  | 0, x => x
  | i + 1, x => upn k i (up_ k x)
theorem len_upn {k : Vec} (h0 : 0 < k.length) : ∀ (i : Nat) {x : Vec}, x.length = k.length → (upn k i x).length = k.length
  | 0, _, h => h
  | i + 1, _, h => len_upn h0 i (len_up_ h h0)
theorem upn_up {k : Vec} : ∀ (i : Nat) (x : Vec), upn k (i + 1) x = up_ k (upn k i x)
  | 0, _ => rfl
  | i + 1, x => upn_up i (up_ k x)
theorem upn_add {k : Vec} : ∀ (i j : Nat) (x : Vec), upn k i (upn k j x) = upn k (i + j) x
  | 0, j, x => by rw [Nat.zero_add]; rfl
  | i + 1, j, x => by
    show upn k i (up_ k (upn k j x)) = _
    rw [← upn_up, upn_add i (j + 1) x]
    congr 1; omega
theorem up_lin {k x y : Vec} (hx : x.length = k.length) (hy : y.length = k.length) (h0 : 0 < k.length) (c : Int) : up_ k (ax c x y) = ax c (up_ k x) (up_ k y) := by
  have l1 : (ax c x y).length = k.length := by rw [len_ax (by omega)]; exact hx
  have l2 := len_up_ hx h0
  have l3 := len_up_ hy h0
  refine vext (by rw [len_up_ l1 h0, len_ax (by omega)]; omega) fun j hj => ?_
  rw [len_up_ l1 h0] at hj
  have a1 : ∀ q, (ax c x y).getD q 0 = x.getD q 0 + c * y.getD q 0 := fun q => gd_ax (by omega) q
  have a2 : ∀ q, (ax c (up_ k x) (up_ k y)).getD q 0 = (up_ k x).getD q 0 + c * (up_ k y).getD q 0 := fun q => gd_ax (by omega) q
  rw [gd_up_ l1 h0 j hj, a1, a1, a2, gd_up_ hx h0 j hj, gd_up_ hy h0 j hj]
  generalize x.getD (k.length - 1) 0 = p
  generalize y.getD (k.length - 1) 0 = q
  generalize k.getD j 0 = r
  by_cases h : j = 0
  · simp only [if_pos h]; grind
  · simp only [if_neg h]; grind
theorem upn_lin {k : Vec} (h0 : 0 < k.length) : ∀ (i : Nat) {x y : Vec} (c : Int), x.length = k.length → y.length = k.length → upn k i (ax c x y) = ax c (upn k i x) (upn k i y)
  | 0, _, _, _, _, _ => rfl
  | i + 1, x, y, c, hx, hy => by
    show upn k i (up_ k (ax c x y)) = ax c (upn k i (up_ k x)) (upn k i (up_ k y))
    rw [up_lin hx hy h0, upn_lin h0 i c (len_up_ hx h0) (len_up_ hy h0)]
/-- a sum over the places -/
def sm : Vec → (Nat → Int) → Int
  | [], _ => 0
  | c :: a, f => c * f 0 + sm a fun i => f (i + 1)
theorem sm_add : ∀ (a : Vec) (f g : Nat → Int), sm a (fun i => f i + g i) = sm a f + sm a g
  | [], _, _ => rfl
  | c :: a, f, g => by
    show c * (f 0 + g 0) + sm a (fun i => f (i + 1) + g (i + 1)) = _
    rw [sm_add a]
    show _ = (c * f 0 + sm a fun i => f (i + 1)) + (c * g 0 + sm a fun i => g (i + 1))
    grind
theorem sm_mul : ∀ (a : Vec) (d : Int) (f : Nat → Int), sm a (fun i => d * f i) = d * sm a f
  | [], d, _ => by simp [sm]
  | c :: a, d, f => by
    show c * (d * f 0) + sm a (fun i => d * f (i + 1)) = d * (c * f 0 + sm a fun i => f (i + 1))
    rw [sm_mul a]; grind
theorem sm_ax : ∀ (a b : Vec) (c : Int) (f : Nat → Int), a.length = b.length → sm (ax c a b) f = sm a f + c * sm b f
  | [], [], c, f, _ => by simp [sm, ax, plus, scale]
  | x :: a, y :: b, c, f, h => by
    have e : ax c (x :: a) (y :: b) = (x + c * y) :: ax c a b := rfl
    rw [e]
    show (x + c * y) * f 0 + sm (ax c a b) (fun i => f (i + 1)) = (x * f 0 + sm a fun i => f (i + 1)) + c * (y * f 0 + sm b fun i => f (i + 1))
    rw [sm_ax a b c _ (by simpa using h)]; grind
theorem sm_congr : ∀ (a : Vec) (f g : Nat → Int), (∀ i, i < a.length → f i = g i) → sm a f = sm a g
  | [], _, _, _ => rfl
  | c :: a, f, g, h => by
    show c * f 0 + sm a (fun i => f (i + 1)) = c * g 0 + sm a fun i => g (i + 1)
    rw [h 0 (by simp), sm_congr a _ _ fun i hi => h (i + 1) (by simp; omega)]
theorem sm_swap : ∀ (a b : Vec) (f : Nat → Nat → Int), sm a (fun i => sm b fun j => f i j) = sm b fun j => sm a fun i => f i j
  | [], b, f => by
    show (0 : Int) = sm b fun j => 0
    have := sm_mul b 0 (fun _ => 0)
    simp at this
    exact this.symm
  | c :: a, b, f => by
    show c * sm b (fun j => f 0 j) + sm a (fun i => sm b fun j => f (i + 1) j) = sm b fun j => (c * f 0 j + sm a fun i => f (i + 1) j)
    rw [sm_add, sm_mul, sm_swap a b]
/-- the product, place by place -/
def tstep (k : Vec) (x : Vec × Vec) (c : Int) : Vec × Vec := (plus x.1 (scale c x.2), up_ k x.2)
theorem times_fold {k : Vec} (h0 : 0 < k.length) : ∀ (a acc pw : Vec), acc.length = k.length → pw.length = k.length →
    ((a.foldl (tstep k) (acc, pw)).1).length = k.length ∧ ∀ j, ((a.foldl (tstep k) (acc, pw)).1).getD j 0 = acc.getD j 0 + sm a fun i => (upn k i pw).getD j 0
  | [], acc, pw, h1, h2 => ⟨h1, fun j => by simp [sm]⟩
  | c :: a, acc, pw, h1, h2 => by
    have l1 : (ax c acc pw).length = k.length := by rw [len_ax (by omega)]; exact h1
    obtain ⟨i1, i2⟩ := times_fold h0 a (ax c acc pw) (up_ k pw) l1 (len_up_ h2 h0)
    refine ⟨i1, fun j => ?_⟩
    have e := i2 j
    rw [gd_ax (by omega)] at e
    show ((a.foldl (tstep k) (ax c acc pw, up_ k pw)).1).getD j 0 = acc.getD j 0 + (c * (upn k 0 pw).getD j 0 + sm a fun i => (upn k (i + 1) pw).getD j 0)
    rw [e]
    show _ = acc.getD j 0 + (c * pw.getD j 0 + sm a fun i => (upn k i (up_ k pw)).getD j 0)
    omega
theorem len_times {k a b : Vec} (h0 : 0 < k.length) (hb : b.length = k.length) : (times k a b).length = k.length :=
  (times_fold h0 a (List.replicate k.length 0) b (by simp) hb).1
theorem gd_times {k a b : Vec} (h0 : 0 < k.length) (hb : b.length = k.length) (j : Nat) : (times k a b).getD j 0 = sm a fun i => (upn k i b).getD j 0 := by
  have := (times_fold h0 a (List.replicate k.length 0) b (by simp) hb).2 j
  rw [gd_zero] at this
  rw [Int.zero_add] at this
  exact this
theorem times_lin {k x y b : Vec} (h0 : 0 < k.length) (hb : b.length = k.length) (c : Int) (h : x.length = y.length) : times k (ax c x y) b = ax c (times k x b) (times k y b) := by
  have l1 := len_times (a := x) h0 hb
  have l2 := len_times (a := y) h0 hb
  refine vext (by rw [len_times h0 hb, len_ax (by omega), l1]) fun j _ => ?_
  rw [gd_times h0 hb, gd_ax (by omega), gd_times h0 hb, gd_times h0 hb, sm_ax _ _ _ _ h]
theorem sm_zr : ∀ (n : Nat) (f : Nat → Int), sm (zr n) f = 0
  | 0, _ => rfl
  | n + 1, f => by
    show 0 * f 0 + sm (List.replicate n 0) (fun i => f (i + 1)) = 0
    have := sm_zr n fun i => f (i + 1)
    rw [this]; omega
theorem times_zr {k b : Vec} {n : Nat} (h0 : 0 < k.length) (hb : b.length = k.length) : times k (zr n) b = zr k.length := by
  refine vext (by rw [len_times h0 hb, len_zr]) fun j _ => ?_
  rw [gd_times h0 hb, gd_zero]
  exact sm_zr _ _
/-- the unit vectors -/
def un (n i : Nat) : Vec := Nf02.unit n i
theorem len_un {n i : Nat} : (un n i).length = n := by simp [un, Nf02.unit]
theorem gd_un {n i j : Nat} (hj : j < n) : (un n i).getD j 0 = if j = i then 1 else 0 := by
  simp [un, Nf02.unit, List.getD_eq_getElem?_getD, hj]
theorem sm_single : ∀ (a : Vec) (i : Nat) (f : Nat → Int), i < a.length → (∀ j, j < a.length → j ≠ i → a.getD j 0 = 0) → sm a f = a.getD i 0 * f i
  | [], i, f, h, _ => by simp at h
  | c :: a, 0, f, h, z => by
    show c * f 0 + sm a (fun i => f (i + 1)) = c * f 0
    have : sm a (fun i => f (i + 1)) = 0 := by
      have za : a = zr a.length := vext (by simp) fun j hj => by
        have := z (j + 1) (by simp; omega) (by omega)
        rw [gd_zero]; simpa using this
      rw [za]
      exact sm_zr _ _
    omega
  | c :: a, i + 1, f, h, z => by
    have hc : c = 0 := by have := z 0 (by simp) (by omega); simpa using this
    show c * f 0 + sm a (fun i => f (i + 1)) = (c :: a).getD (i + 1) 0 * f (i + 1)
    rw [sm_single a i (fun i => f (i + 1)) (by simpa using h) (fun j hj hne => by
      have := z (j + 1) (by simp; omega) (by omega)
      simpa using this), hc]
    simp
theorem times_un {k b : Vec} {i : Nat} (h0 : 0 < k.length) (hb : b.length = k.length) (hi : i < k.length) : times k (un k.length i) b = upn k i b := by
  refine vext (by rw [len_times h0 hb, len_upn h0 i hb]) fun j _ => ?_
  rw [gd_times h0 hb, sm_single _ i _ (by rw [len_un]; exact hi) fun j hj hne => by rw [len_un] at hj; rw [gd_un hj, if_neg hne], gd_un hi, if_pos rfl]; omega
/-- the root's powers, below the degree, are the unit vectors -/
theorem upn_one {k : Vec} (h0 : 0 < k.length) : ∀ (i : Nat), i < k.length → upn k i (un k.length 0) = un k.length i
  | 0, _ => rfl
  | i + 1, hi => by
    rw [upn_up, upn_one h0 i (by omega)]
    refine vext (by rw [len_up_ len_un h0, len_un]) fun j hj => ?_
    rw [len_up_ len_un h0] at hj
    rw [gd_up_ len_un h0 j hj, gd_un hj, gd_un (show k.length - 1 < k.length by omega), if_neg (show ¬ k.length - 1 = i by omega)]
    by_cases h : j = 0
    · rw [if_pos h, if_neg (by omega)]; omega
    · rw [if_neg h, gd_un (by omega)]
      by_cases h2 : j = i + 1
      · rw [if_pos h2, if_pos (by omega)]; omega
      · rw [if_neg h2, if_neg (by omega)]; omega
/-- a vector by the unit vectors' images -/
theorem upn_sm {k : Vec} (h0 : 0 < k.length) (i j : Nat) {b : Vec} (hb : b.length = k.length) : (upn k i b).getD j 0 = sm b fun m => (upn k (i + m) (un k.length 0)).getD j 0 := by
  -- both are linear in b; by the sum of the first places
  have key : ∀ m, m ≤ k.length → ∀ (c : Vec), c.length = k.length → (∀ q, m ≤ q → c.getD q 0 = 0) → (upn k i c).getD j 0 = sm c fun q => (upn k (i + q) (un k.length 0)).getD j 0 := by
    intro m
    induction m with
    | zero =>
      intro _ c hc z
      have e : c = zr k.length := vext (by rw [len_zr]; exact hc) fun q _ => by rw [z q (Nat.zero_le _), gd_zero]
      have e2 : zr k.length = ax (-1) (zr k.length) (zr k.length) := vext (by rw [len_ax rfl]) fun q _ => by rw [gd_ax rfl, gd_zero]; omega
      have e3 : ∀ q, (upn k i (zr k.length)).getD q 0 = 0 := fun q => by
        have l := len_upn h0 i (x := zr k.length) (by simp)
        have := congrArg (fun v : Vec => v.getD q 0) (upn_lin h0 i (-1) (x := zr k.length) (y := zr k.length) (by simp) (by simp))
        simp only [gd_ax rfl] at this
        rw [← e2] at this
        omega
      rw [e, e3 j]
      exact (sm_zr _ _).symm
    | succ m ih =>
      intro hm c hc z
      -- take the place m away
      have l1 : c.length = (un k.length m).length := by rw [len_un]; exact hc
      have hc' : (ax (0 - c.getD m 0) c (un k.length m)).length = k.length := by rw [len_ax l1]; exact hc
      have e : c = ax (c.getD m 0) (ax (0 - c.getD m 0) c (un k.length m)) (un k.length m) := by
        have l2 : (ax (0 - c.getD m 0) c (un k.length m)).length = (un k.length m).length := by rw [len_un]; exact hc'
        refine vext (by rw [len_ax l2]; omega) fun q _ => ?_
        rw [gd_ax l2, gd_ax l1, Int.sub_mul]; omega
      have z' : ∀ q, m ≤ q → (ax (0 - c.getD m 0) c (un k.length m)).getD q 0 = 0 := fun q hq => by
        rw [gd_ax l1]
        by_cases h : q = m
        · subst h; rw [gd_un (by omega), if_pos rfl]; omega
        · rw [z q (by omega)]
          by_cases hqk : q < k.length
          · rw [gd_un hqk, if_neg h]; omega
          · rw [gd_out (show (un k.length m).length ≤ q by rw [len_un]; omega)]; omega
      have ihc := ih (by omega) _ hc' z'
      have lu := len_upn h0 i (x := un k.length m) len_un
      have lc := len_upn h0 i hc'
      have e5 : (upn k i c).getD j 0 = (upn k i (ax (0 - c.getD m 0) c (un k.length m))).getD j 0 + c.getD m 0 * (upn k i (un k.length m)).getD j 0 := by
        have this : (upn k i c).getD j 0 = (upn k i (ax (c.getD m 0) (ax (0 - c.getD m 0) c (un k.length m)) (un k.length m))).getD j 0 := congrArg (fun v : Vec => (upn k i v).getD j 0) e
        rw [this, upn_lin h0 i _ hc' len_un, gd_ax (by omega)]
      have e6 : sm c (fun q => (upn k (i + q) (un k.length 0)).getD j 0) = sm (ax (0 - c.getD m 0) c (un k.length m)) (fun q => (upn k (i + q) (un k.length 0)).getD j 0) + c.getD m 0 * sm (un k.length m) (fun q => (upn k (i + q) (un k.length 0)).getD j 0) := by
        have this : sm c (fun q => (upn k (i + q) (un k.length 0)).getD j 0) = sm (ax (c.getD m 0) (ax (0 - c.getD m 0) c (un k.length m)) (un k.length m)) (fun q => (upn k (i + q) (un k.length 0)).getD j 0) := congrArg (fun v : Vec => sm v (fun q => (upn k (i + q) (un k.length 0)).getD j 0)) e
        rw [this, sm_ax _ _ _ _ (by rw [len_un]; exact hc')]
      rw [e5, e6, ihc, sm_single (un k.length m) m _ (by rw [len_un]; omega) (fun q hq hne => by rw [len_un] at hq; rw [gd_un hq, if_neg hne]), gd_un (by omega), if_pos rfl]
      rw [← upn_one h0 m (by omega), upn_add]
      congr 1
      rw [Int.one_mul]
  exact key k.length (Nat.le_refl _) b hb fun q hq => gd_out (by omega)
theorem times_comm {k a b : Vec} (h0 : 0 < k.length) (ha : a.length = k.length) (hb : b.length = k.length) : times k a b = times k b a := by
  refine vext (by rw [len_times h0 hb, len_times h0 ha]) fun j _ => ?_
  rw [gd_times h0 hb, gd_times h0 ha, sm_congr a _ _ fun i _ => upn_sm h0 i j hb, sm_congr b _ _ fun i _ => upn_sm h0 i j ha, sm_swap]
  refine sm_congr b _ _ fun i _ => sm_congr a _ _ fun m _ => ?_
  rw [Nat.add_comm]
/-! sizes -/
def RingOk (k : Vec) : Prop := 2 ≤ k.length ∧ k.length ≤ 4 ∧ ∀ z ∈ k, z.natAbs ≤ 20
theorem RingOk.pos {k : Vec} (h : RingOk k) : 0 < k.length := by have := h.1; omega
theorem lt_up {k x : Vec} {b : Nat} (hk : RingOk k) (h : x.length = k.length) (hb : Lt b x) : Lt (b + 5) (up_ k x) := by
  have h0 := hk.pos
  intro j
  by_cases hj : j < k.length
  · rw [gd_up_ h h0 j hj]
    have h1 : (if j = 0 then (0 : Int) else x.getD (j - 1) 0).natAbs < 2 ^ b := by
      split
      · exact Nat.pow_pos (by omega)
      · exact hb _
    have h2 := hb (k.length - 1)
    have h3 : (k.getD j 0).natAbs ≤ 20 := by
      have := hk.2.2 k[j] (List.getElem_mem hj)
      simpa [List.getD_eq_getElem?_getD, hj] using this
    generalize (if j = 0 then (0 : Int) else x.getD (j - 1) 0) = u at *
    generalize x.getD (k.length - 1) 0 = v at *
    generalize k.getD j 0 = c at *
    have h4 : (v * c).natAbs ≤ 2 ^ b * 20 := by
      rw [Int.natAbs_mul]
      exact Nat.mul_le_mul (Nat.le_of_lt h2) h3
    have e : 2 ^ (b + 5) = 2 ^ b * 32 := by rw [Nat.pow_add]
    rw [e]
    omega
  · rw [gd_out (by rw [len_up_ h h0]; omega)]
    exact Nat.pow_pos (by omega)
theorem lt_upn {k : Vec} (hk : RingOk k) : ∀ (i : Nat) {x : Vec} {b : Nat}, x.length = k.length → Lt b x → Lt (b + 5 * i) (upn k i x)
  | 0, _, _, _, hb => hb
  | i + 1, x, b, h, hb => by
    have := lt_upn hk i (len_up_ h hk.pos) (lt_up hk h hb)
    rw [show b + 5 * (i + 1) = b + 5 + 5 * i by omega]
    exact this
theorem sm_lt : ∀ (a : Vec) (f : Nat → Int) (A B : Nat), (∀ j, (a.getD j 0).natAbs ≤ A) → (∀ j, j < a.length → (f j).natAbs ≤ B) → (sm a f).natAbs ≤ a.length * (A * B)
  | [], f, A, B, _, _ => by simp [sm]
  | c :: a, f, A, B, ha, hf => by
    have h1 := ha 0
    have h2 := hf 0 (by simp)
    have h3 := sm_lt a (fun i => f (i + 1)) A B (fun j => by have := ha (j + 1); simpa using this) fun j hj => hf (j + 1) (by simp; omega)
    show (c * f 0 + sm a fun i => f (i + 1)).natAbs ≤ (a.length + 1) * (A * B)
    have h4 : (c * f 0).natAbs ≤ A * B := by
      rw [Int.natAbs_mul]
      exact Nat.mul_le_mul (by simpa using h1) h2
    rw [Nat.add_mul, Nat.one_mul]
    omega
theorem lt_times {k x y : Vec} {a b : Nat} (hk : RingOk k) (hx : x.length = k.length) (hy : y.length = k.length) (ha : Lt a x) (hb : Lt b y) : Lt (a + b + 17) (times k x y) := fun j => by
  rw [gd_times hk.pos hy]
  have h := sm_lt x (fun i => (upn k i y).getD j 0) (2 ^ a) (2 ^ (b + 15)) (fun j => Nat.le_of_lt (ha j)) fun i hi => by
    have := lt_upn hk i hy hb j
    have h4 := hk.2.1
    exact Nat.le_trans (Nat.le_of_lt this) (Nat.pow_le_pow_right (by omega) (by omega))
  have e : 2 ^ (a + b + 17) = 4 * (2 ^ a * 2 ^ (b + 15)) := by
    have : a + b + 17 = 2 + (a + (b + 15)) := by omega
    rw [this, Nat.pow_add, Nat.pow_add]
  have h5 : x.length * (2 ^ a * 2 ^ (b + 15)) ≤ 4 * (2 ^ a * 2 ^ (b + 15)) := Nat.mul_le_mul_right _ (by have := hk.2.1; omega)
  -- one less, as each factor is less
  have h6 := sm_lt x (fun i => (upn k i y).getD j 0) (2 ^ a - 1) (2 ^ (b + 15)) (fun j => by have := ha j; omega) fun i hi => by
    have := lt_upn hk i hy hb j
    have h4 := hk.2.1
    exact Nat.le_trans (Nat.le_of_lt this) (Nat.pow_le_pow_right (by omega) (by omega))
  have h7 : x.length * ((2 ^ a - 1) * 2 ^ (b + 15)) < 4 * (2 ^ a * 2 ^ (b + 15)) := by
    have p1 : 0 < 2 ^ a := Nat.pow_pos (by omega)
    have p2 : 0 < 2 ^ (b + 15) := Nat.pow_pos (by omega)
    refine Nat.lt_of_le_of_lt (Nat.mul_le_mul_right _ (show x.length ≤ 4 by have := hk.2.1; omega)) ?_
    exact Nat.mul_lt_mul_of_pos_left (Nat.mul_lt_mul_of_pos_right (by omega) p2) (by omega)
  rw [e]
  omega
end Ir

/-! IrI: sums, products, what two have in common, one by another: program and specification come to the same rows. -/
namespace Ir
open Nf02 (plus scale)
/-- reduced rows, their numbers below 2 to the 40 -/
structure Kp (n : Nat) (a : List Vec) : Prop where
  h : Hnf n a
  lt : ∀ x ∈ a, Lt 40 x
theorem cap_mono {F B : Nat} : ∀ {i k k' b b' : Nat}, cap F B i k b = true → k' ≤ k → b' ≤ b → cap F B i k' b' = true
  | 0, _, _, _, _, _, _, _ => rfl
  | i + 1, k, k', b, b', h, hk, hb => by
    simp only [cap, Bool.and_eq_true, Bool.or_eq_true, decide_eq_true_eq] at h ⊢
    exact ⟨⟨by omega, by omega⟩, cap_mono h.2 (by omega) (by omega)⟩
theorem cap_less {F B : Nat} : ∀ {i k b : Nat}, cap F B (i + 1) k b = true → cap F B i k b = true
  | 0, _, _, _ => rfl
  | i + 1, k, b, h => by
    have h' : ((decide (k ≤ 1) || decide (2 * b + k + 2 ≤ F)) && decide (3 * b + k + 6 ≤ B) && cap F B (i + 1) (k - 1) (3 * b + k + 6)) = true := h
    simp only [Bool.and_eq_true] at h'
    show ((decide (k ≤ 1) || decide (2 * b + k + 2 ≤ F)) && decide (3 * b + k + 6 ≤ B) && cap F B i (k - 1) (3 * b + k + 6)) = true
    simp only [Bool.and_eq_true]
    exact ⟨h'.1, cap_less h'.2⟩
theorem cap_le {F B : Nat} : ∀ {j i k b : Nat}, cap F B (i + j) k b = true → cap F B i k b = true
  | 0, _, _, _, h => h
  | j + 1, i, k, b, h => cap_le (j := j) (cap_less h)
theorem Full.mono {n i : Nat} {l l' : List Vec} (h : Full n i l) (hs : ∀ x ∈ l, Sp n l' x) (w : Wd n l') : Full n i l' := fun p hp =>
  let ⟨v, a, b, c⟩ := h p hp
  ⟨v, a.trans w hs, b, c⟩
theorem good_mk {n F B k b : Nat} {l : List Vec} (w : Wd n l) (f : Full n n l) (hk : l.length ≤ k) (hb : ∀ x ∈ l, Lt b x) (hc : cap F B n k b = true) : Good n F B n l :=
  ⟨w, fun x hx => Zf.of_len (w x hx), f, Nat.le_refl _, b, k, hk, hb, hc⟩
/-! ### sums -/
theorem good_add {n F B : Nat} {a b : List Vec} (ha : Kp n a) (hb : Kp n b) (h4 : n ≤ 4) (hc : cap F B 4 8 40 = true) : Good n F B n (a ++ b) := by
  have w : Wd n (a ++ b) := fun x hx => (List.mem_append.mp hx).elim (ha.h.wd x) (hb.h.wd x)
  refine good_mk w (ha.h.toTri.full.mono (fun x hx => .mem w (List.mem_append_left _ hx)) w) (k := 8) ?_ (fun x hx => (List.mem_append.mp hx).elim (ha.lt x) (hb.lt x)) ?_
  · rw [List.length_append, ha.h.len, hb.h.len]; omega
  · obtain ⟨j, e⟩ : ∃ j, 4 = n + j := ⟨4 - n, by omega⟩
    rw [e] at hc; exact cap_le hc
/-! ### products -/
theorem mem_prod {k : Vec} {a b : List Vec} {x : Vec} : (x ∈ a.flatMap fun x => b.map fun y => times k x y) ↔ ∃ u ∈ a, ∃ v ∈ b, times k u v = x := by
  simp only [List.mem_flatMap, List.mem_map]
/-- the first row is a whole number -/
theorem row0 {n : Nat} {a : List Vec} (h : Hnf n a) (h0 : 0 < n) : ∃ r, r ∈ a ∧ 0 < r.getD 0 0 ∧ ∀ j, 0 < j → r.getD j 0 = 0 := by
  obtain ⟨r, hr, hm⟩ := exists_row h.toTri h0
  exact ⟨r, hm, h.pos 0 r hr, fun j hj => h.zf 0 r hr j (by omega)⟩
theorem times_row0 {k r y : Vec} (h0 : 0 < k.length) (hr : r.length = k.length) (hy : y.length = k.length) (hz : ∀ j, 0 < j → r.getD j 0 = 0) : times k r y = scale (r.getD 0 0) y := by
  refine vext (by rw [len_times h0 hy, len_scale]; exact hy.symm) fun j _ => ?_
  rw [gd_times h0 hy, gd_scale, sm_single r 0 _ (by omega) fun j _ hne => hz j (by omega)]; rfl
theorem len_flat {α β : Type} {a : List α} {f : α → List β} {m : Nat} (h : ∀ x ∈ a, (f x).length = m) : (a.flatMap f).length = a.length * m := by
  induction a with
  | nil => simp
  | cons x a ih =>
    rw [List.flatMap_cons, List.length_append, h x (by simp), ih fun y hy => h y (by simp [hy]), List.length_cons, Nat.add_mul]; omega
theorem good_mul {F B : Nat} {k : Vec} {a b : List Vec} (hk : RingOk k) (ha : Kp k.length a) (hb : Kp k.length b) (hc : cap F B 4 16 97 = true) : Good k.length F B k.length (a.flatMap fun x => b.map fun y => times k x y) := by
  have h0 := hk.pos
  have w : Wd k.length (a.flatMap fun x => b.map fun y => times k x y) := fun x hx => by
    obtain ⟨u, hu, v, hv, rfl⟩ := mem_prod.mp hx
    exact len_times h0 (hb.h.wd v hv)
  refine good_mk w (fun p hp => ?_) (k := 16) ?_ (fun x hx => ?_) (b := 97) ?_
  · obtain ⟨r, hr, r0, rz⟩ := row0 ha.h h0
    obtain ⟨v, hv, hm⟩ := exists_row hb.h.toTri hp
    have lv := hb.h.wd v hm
    refine ⟨scale (r.getD 0 0) v, ?_, fun j hj => ?_, ?_⟩
    · rw [← times_row0 h0 (ha.h.wd r hr) lv rz]
      exact .mem w (mem_prod.mpr ⟨r, hr, v, hm, rfl⟩)
    · rw [gd_scale, hb.h.zf p v hv j hj]; omega
    · rw [gd_scale]
      have := hb.h.pos p v hv
      exact Int.ne_of_gt (Int.mul_pos r0 this)
  · rw [len_flat (m := b.length) (fun x _ => by simp), ha.h.len, hb.h.len]
    have h4 := hk.2.1
    exact Nat.mul_le_mul h4 h4
  · obtain ⟨u, hu, v, hv, rfl⟩ := mem_prod.mp hx
    exact (lt_times hk (ha.h.wd u hu) (hb.h.wd v hv) (ha.lt u hu) (hb.lt v hv)).mono (by omega)
  · have h4 := hk.2.1
    obtain ⟨j, e⟩ : ∃ j, 4 = k.length + j := ⟨4 - k.length, by omega⟩
    rw [e] at hc; exact cap_le hc
/-! ### what a lattice takes in: so often any vector -/
/-- so often any vector is in it -/
def Kills (n : Nat) (N : Int) (L : List Vec) : Prop := ∀ v : Vec, v.length = n → Sp n L (scale N v)
theorem tri_kills {n m : Nat} : ∀ {i : Nat} {D : List Vec}, i ≤ n → Tri n n D → m = i → ∃ N : Int, 0 < N ∧ (∀ v : Vec, v.length = n → Zf i v → Sp n D (scale N v)) := by
  intro i
  revert m
  induction i with
  | zero =>
    intro m D _ t _
    refine ⟨1, by omega, fun v lv z => ?_⟩
    have : scale 1 v = zr n := vext (by rw [len_scale, len_zr, lv]) fun j _ => by rw [gd_scale, z j (Nat.zero_le _), gd_zero]; omega
    rw [this]; exact .zero
  | succ i ih =>
    intro m D hi t _
    obtain ⟨N, hN, hh⟩ := ih (m := i) (by omega) t rfl
    obtain ⟨r, hr, hm⟩ := exists_row t (show i < n by omega)
    have lr := t.wd r hm
    have hp := t.pos i r hr
    refine ⟨N * r.getD i 0, Int.mul_pos hN hp, fun v lv z => ?_⟩
    -- r i times v less v i times r has 0 from i on
    have lu : (ax (0 - v.getD i 0) (scale (r.getD i 0) v) r).length = n := by rw [len_ax (by rw [len_scale]; omega), len_scale, lv]
    have zu : Zf i (ax (0 - v.getD i 0) (scale (r.getD i 0) v) r) := fun j hj => by
      rw [gd_ax (by rw [len_scale]; omega), gd_scale]
      rcases Nat.lt_or_eq_of_le hj with q | q
      · rw [z j q, t.zf i r hr j q]; omega
      · subst q; grind
    have s1 := hh _ lu zu
    have s2 := (Sp.mem t.wd hm).scale t.wd (N * v.getD i 0)
    have s3 := s1.plus t.wd s2
    have e : plus (scale N (ax (0 - v.getD i 0) (scale (r.getD i 0) v) r)) (scale (N * v.getD i 0) r) = scale (N * r.getD i 0) v := by
      refine vext (by rw [len_plus (by rw [len_scale, len_scale]; omega), len_scale, len_scale]; omega) fun j _ => ?_
      rw [gd_plus (by rw [len_scale, len_scale]; omega), gd_scale, gd_scale, gd_scale, gd_ax (by rw [len_scale]; omega), gd_scale]; grind
    rw [e] at s3; exact s3
theorem kills_of {n : Nat} {D : List Vec} (t : Tri n n D) : ∃ N : Int, 0 < N ∧ Kills n N D := by
  obtain ⟨N, h, h2⟩ := tri_kills (m := n) (Nat.le_refl n) t rfl
  exact ⟨N, h, fun v lv => h2 v lv (Zf.of_len lv)⟩
/-- own places of reduced rows are bounded by what kills -/
theorem kills_lt {n b : Nat} {N : Int} {D : List Vec} (h : Hnf n D) (hN : 0 < N) (hk : Kills n N D) (hb : N < 2 ^ b) : ∀ x ∈ D, Lt b x := by
  refine low_lt h.toTri h.low fun i r hr => ?_
  have hi : i < n := by
    have := (List.getElem?_eq_some_iff.mp hr).1
    rw [h.len] at this; exact this
  have z : Zf (i + 1) (scale N (un n i)) := fun j hj => by
    rw [gd_scale]
    by_cases hjn : j < n
    · rw [gd_un hjn, if_neg (by omega)]; omega
    · rw [gd_out (show (un n i).length ≤ j by rw [len_un]; omega)]; omega
  have d := tri_dvd h.toTri hr hi (hk (un n i) len_un) z
  rw [gd_scale, gd_un hi, if_pos rfl, Int.mul_one] at d
  have hp := h.pos i r hr
  have := Int.le_of_dvd hN d
  have : ((r.getD i 0).natAbs : Int) < ((2 ^ b : Nat) : Int) := by
    have e : (((2 ^ b : Nat) : Int)) = (2 : Int) ^ b := by norm_cast
    omega
  omega

/-! ### pairs: first halves whose second halves are in a lattice -/
/-- vectors of twice the places -/
def pairs (P : List (Vec × Vec)) (D : List Vec) (n : Nat) : List Vec := P.map (fun p => p.1 ++ p.2) ++ D.map fun d => zr n ++ d
/-- the second halves are told by the first ones -/
structure Lin (n : Nat) (f : Vec → Vec) : Prop where
  len : ∀ x : Vec, x.length = n → (f x).length = n
  zero : f (zr n) = zr n
  lin : ∀ (c : Int) (x y : Vec), x.length = n → y.length = n → f (ax c x y) = ax c (f x) (f y)
theorem gd_app {a b : Vec} {n : Nat} (ha : a.length = n) (j : Nat) : (a ++ b).getD j 0 = if j < n then a.getD j 0 else b.getD (j - n) 0 := by
  simp only [List.getD_eq_getElem?_getD]
  split
  · rw [List.getElem?_append_left (by omega)]
  · rw [List.getElem?_append_right (by omega), ha]
theorem ax_app {a b c d : Vec} {n : Nat} {z : Int} (ha : a.length = n) (hb : b.length = n) (hc : c.length = n) (hd : d.length = n) : ax z (a ++ b) (c ++ d) = ax z a c ++ ax z b d := by
  have l : (a ++ b).length = (c ++ d).length := by simp; omega
  refine vext (by rw [len_ax l, List.length_append, List.length_append, len_ax (by omega), len_ax (by omega)]) fun j _ => ?_
  rw [gd_ax l, gd_app ha, gd_app hc, gd_app (show (ax z a c).length = n by rw [len_ax (by omega)]; exact ha), gd_ax (by omega), gd_ax (by omega)]
  split <;> rfl
theorem zr_app {n : Nat} : zr n ++ zr n = zr (2 * n) := by
  rw [List.replicate_append_replicate]; congr 1; omega
section
variable {n : Nat} {P : List (Vec × Vec)} {D : List Vec} {f : Vec → Vec}
theorem pairs_wd (hP : ∀ p ∈ P, p.1.length = n ∧ p.2.length = n) (hD : Wd n D) : Wd (2 * n) (pairs P D n) := fun x hx => by
  rcases List.mem_append.mp hx with h | h
  · obtain ⟨p, hp, rfl⟩ := List.mem_map.mp h
    have := hP p hp
    rw [List.length_append]; omega
  · obtain ⟨d, hd, rfl⟩ := List.mem_map.mp h
    have := hD d hd
    simp; omega
/-- a sum of first halves, with its second half -/
theorem pairs_first (hf : Lin n f) (hP : ∀ p ∈ P, p.1.length = n ∧ p.2 = f p.1) (hD : Wd n D) {v : Vec} (s : Sp n (P.map (·.1)) v) : Sp (2 * n) (pairs P D n) (v ++ f v) := by
  have wP : Wd n (P.map (·.1)) := fun x hx => by
    obtain ⟨p, hp, rfl⟩ := List.mem_map.mp hx
    exact (hP p hp).1
  induction s with
  | zero => rw [hf.zero, zr_app]; exact .zero
  | @add v x c s hx ih =>
    obtain ⟨p, hp, rfl⟩ := List.mem_map.mp hx
    have lv := s.len wP
    obtain ⟨lp, ep⟩ := hP p hp
    rw [hf.lin c v p.1 lv lp, ← ax_app lv (hf.len v lv) lp (hf.len _ lp)]
    refine .add c ih (List.mem_append_left _ (List.mem_map.mpr ⟨p, hp, ?_⟩))
    rw [ep]
theorem pairs_second (hD : Wd n D) {u : Vec} (s : Sp n D u) : Sp (2 * n) (pairs P D n) (zr n ++ u) := by
  induction s with
  | zero => rw [zr_app]; exact .zero
  | @add v x c s hx ih =>
    have lv := s.len hD
    have lx := hD x hx
    have e : zr n ++ ax c v x = ax c (zr n ++ v) (zr n ++ x) := by
      rw [ax_app len_zr lv len_zr lx]
      congr 1
      exact vext (by rw [len_ax rfl]) fun j _ => by rw [gd_ax rfl, gd_zero]; omega
    rw [e]
    exact .add c ih (List.mem_append_right _ (List.mem_map_of_mem hx))
theorem pairs_split (hf : Lin n f) (hP : ∀ p ∈ P, p.1.length = n ∧ p.2 = f p.1) (hD : Wd n D) {w : Vec} (s : Sp (2 * n) (pairs P D n) w) : ∃ v u, Sp n (P.map (·.1)) v ∧ Sp n D u ∧ w = v ++ plus (f v) u := by
  have wP : Wd n (P.map (·.1)) := fun x hx => by
    obtain ⟨p, hp, rfl⟩ := List.mem_map.mp hx
    exact (hP p hp).1
  induction s with
  | zero =>
    refine ⟨zr n, zr n, .zero, .zero, ?_⟩
    rw [hf.zero, ← zr_app]
    congr 1
    exact vext (by rw [len_plus rfl]) fun j _ => by rw [gd_plus rfl, gd_zero]; omega
  | @add w x c s hx ih =>
    obtain ⟨v, u, sv, su, rfl⟩ := ih
    have lv := sv.len wP
    have lu := su.len hD
    have lf := hf.len v lv
    have l1 : (plus (f v) u).length = n := by rw [len_plus (by omega)]; exact lf
    rcases List.mem_append.mp hx with h | h
    · obtain ⟨p, hp, rfl⟩ := List.mem_map.mp h
      obtain ⟨lp, ep⟩ := hP p hp
      have lfp := hf.len _ lp
      refine ⟨ax c v p.1, u, .add c sv (List.mem_map_of_mem hp), su, ?_⟩
      simp only [ep]
      rw [ax_app lv l1 lp lfp, hf.lin c v p.1 lv lp]
      congr 1
      have l2 : (ax c (f v) (f p.1)).length = u.length := by rw [len_ax (by omega)]; omega
      refine vext (by rw [len_ax (by omega), len_plus l2, len_ax (by omega)]; omega) fun j _ => ?_
      rw [gd_ax (by omega), gd_plus (by omega), gd_plus l2, gd_ax (by omega)]; omega
    · obtain ⟨d, hd, rfl⟩ := List.mem_map.mp h
      have ld := hD d hd
      refine ⟨v, ax c u d, sv, .add c su hd, ?_⟩
      rw [ax_app lv l1 len_zr ld]
      have l2 : (f v).length = (ax c u d).length := by rw [len_ax (by omega)]; omega
      congr 1
      · exact vext (by rw [len_ax (by rw [len_zr]; exact lv)]) fun j _ => by rw [gd_ax (by rw [len_zr]; exact lv), gd_zero]; omega
      · refine vext (by rw [len_ax (by omega), len_plus l2]; omega) fun j _ => ?_
        rw [gd_ax (by omega), gd_plus (by omega), gd_plus l2, gd_ax (by omega)]; omega
/-- first halves: those of the sums whose second halves are in the lattice -/
theorem pairs_iff (hf : Lin n f) (hP : ∀ p ∈ P, p.1.length = n ∧ p.2 = f p.1) (hD : Wd n D) {v : Vec} (lv : v.length = n) : Sp (2 * n) (pairs P D n) (v ++ zr n) ↔ Sp n (P.map (·.1)) v ∧ Sp n D (f v) := by
  have wP : Wd n (P.map (·.1)) := fun x hx => by
    obtain ⟨p, hp, rfl⟩ := List.mem_map.mp hx
    exact (hP p hp).1
  have hw := pairs_wd (P := P) (D := D) (n := n) (fun p hp => ⟨(hP p hp).1, by rw [(hP p hp).2]; exact hf.len _ (hP p hp).1⟩) hD
  constructor
  · intro s
    obtain ⟨v', u, sv, su, e⟩ := pairs_split hf hP hD s
    have lv' := sv.len wP
    have lu := su.len hD
    have lf := hf.len v' lv'
    obtain ⟨e1, e2⟩ := List.append_inj e (by omega)
    subst e1
    refine ⟨sv, ?_⟩
    have e3 : f v = scale (-1) u := vext (by rw [len_scale]; omega) fun j _ => by
      have := congrArg (fun x : Vec => x.getD j 0) e2
      simp only [gd_zero] at this
      rw [gd_plus (by omega)] at this
      rw [gd_scale]; omega
    rw [e3]; exact su.scale hD _
  · rintro ⟨s1, s2⟩
    have t := (pairs_first hf hP hD s1).ax hw (-1) (pairs_second (P := P) hD s2)
    have lf := hf.len v lv
    rw [ax_app lv lf len_zr lf] at t
    have e1 : ax (-1) v (zr n) = v := vext (by rw [len_ax (by rw [len_zr]; exact lv)]) fun j _ => by rw [gd_ax (by rw [len_zr]; exact lv), gd_zero]; omega
    have e2 : ax (-1) (f v) (f v) = zr n := vext (by rw [len_ax rfl, len_zr]; exact lf) fun j _ => by rw [gd_ax rfl, gd_zero]; omega
    rw [e1, e2] at t; exact t
theorem pairs_full (hf : Lin n f) (hP : ∀ p ∈ P, p.1.length = n ∧ p.2 = f p.1) (hD : Tri n n D) (hF : Full n n (P.map (·.1))) : Full (2 * n) (2 * n) (pairs P D n) := fun p hp => by
  by_cases h : p < n
  · obtain ⟨v, sv, zv, nv⟩ := hF p h
    have wP : Wd n (P.map (·.1)) := fun x hx => by
      obtain ⟨p, hp, rfl⟩ := List.mem_map.mp hx
      exact (hP p hp).1
    have lv := sv.len wP
    obtain ⟨N, hN, hk⟩ := kills_of hD
    have ls : (scale N v).length = n := by rw [len_scale]; exact lv
    have fs : f (scale N v) = scale N (f v) := by
      have e : scale N v = ax N (zr n) v := vext (by rw [len_ax (by rw [len_zr]; exact lv.symm), len_zr]; exact ls) fun j _ => by rw [gd_scale, gd_ax (by rw [len_zr]; exact lv.symm), gd_zero]; omega
      have lf := hf.len v lv
      rw [e, hf.lin N _ v len_zr lv, hf.zero]
      exact vext (by rw [len_ax (by rw [len_zr]; exact lf.symm), len_zr, len_scale]; exact lf.symm) fun j _ => by rw [gd_scale, gd_ax (by rw [len_zr]; exact lf.symm), gd_zero]; omega
    refine ⟨scale N v ++ zr n, (pairs_iff hf hP hD.wd ls).mpr ⟨sv.scale wP N, by rw [fs]; exact hk _ (hf.len v lv)⟩, fun j hj => ?_, ?_⟩
    · rw [gd_app ls]
      split
      · rw [gd_scale, zv j hj]; omega
      · exact gd_zero _
    · rw [gd_app ls, if_pos h, gd_scale]
      intro e
      rcases Int.mul_eq_zero.mp e with e | e
      · omega
      · exact nv e
  · obtain ⟨r, hr, hm⟩ := exists_row hD (i := p - n) (by omega)
    refine ⟨zr n ++ r, pairs_second hD.wd (.mem hD.wd hm), fun j hj => ?_, ?_⟩
    · rw [gd_app len_zr, if_neg (by omega)]
      exact hD.zf _ r hr _ (by omega)
    · rw [gd_app len_zr, if_neg h]
      have := hD.pos _ r hr
      omega
/-- of rows in steps of twice the places the first half -/
def half (n : Nat) (R : List Vec) : List Vec := (R.take n).map fun r => r.take n
theorem gd_take {v : Vec} {n j : Nat} : (v.take n).getD j 0 = if j < n then v.getD j 0 else 0 := by
  simp only [List.getD_eq_getElem?_getD, List.getElem?_take]
  split <;> rfl
theorem half_get {R : List Vec} {i : Nat} {r : Vec} (h : (half n R)[i]? = some r) : ∃ q, R[i]? = some q ∧ i < n ∧ r = q.take n := by
  unfold half at h
  rw [List.getElem?_map, Option.map_eq_some_iff] at h
  obtain ⟨q, hq, rfl⟩ := h
  rw [List.getElem?_take] at hq
  split at hq
  · exact ⟨q, hq, by assumption, rfl⟩
  · cases hq
theorem half_tri {R : List Vec} (t : Tri (2 * n) (2 * n) R) : Tri n n (half n R) := by
  refine ⟨by unfold half; rw [List.length_map, List.length_take, t.len]; omega, fun x hx => ?_, fun i r hr => ?_, fun i r hr => ?_⟩
  · unfold half at hx
    obtain ⟨q, hq, rfl⟩ := List.mem_map.mp hx
    rw [List.length_take, t.wd q (List.mem_of_mem_take hq)]; omega
  · obtain ⟨q, hq, hi, rfl⟩ := half_get hr
    intro j hj
    rw [gd_take]
    split
    · exact t.zf i q hq j hj
    · rfl
  · obtain ⟨q, hq, hi, rfl⟩ := half_get hr
    rw [gd_take, if_pos hi]; exact t.pos i q hq
theorem half_low {R : List Vec} (lo : Low R) : Low (half n R) := fun i j r q hj hr hq => by
  obtain ⟨r', hr', hi, rfl⟩ := half_get hr
  obtain ⟨q', hq', hj', rfl⟩ := half_get hq
  rw [gd_take, if_pos hj', gd_take, if_pos hj']
  exact lo i j r' q' hj hr' hq'
/-- their span: what has 0 in all of the second half -/
theorem half_sp {R : List Vec} (t : Tri (2 * n) (2 * n) R) {v : Vec} (lv : v.length = n) : Sp n (half n R) v ↔ Sp (2 * n) R (v ++ zr n) := by
  have tail : ∀ q ∈ R.take n, q = q.take n ++ zr n := fun q hq => by
    obtain ⟨i, hi, rfl⟩ := List.getElem_of_mem hq
    have hin : i < n := by simp at hi; omega
    have hq' : R[i]? = some (R.take n)[i] := by
      rw [List.getElem_take]; exact List.getElem?_eq_getElem _
    have lq := t.wd _ (List.mem_of_getElem? hq')
    have zq := t.zf i _ hq'
    generalize (R.take n)[i] = q at *
    refine vext (by rw [List.length_append, List.length_take, len_zr]; omega) fun j _ => ?_
    rw [gd_app (show (q.take n).length = n by rw [List.length_take]; omega)]
    split
    · rw [gd_take, if_pos (by assumption)]
    · rw [zq j (by omega), gd_zero]
  have wt : Wd (2 * n) (R.take n) := fun x hx => t.wd x (List.mem_of_mem_take hx)
  constructor
  · intro s
    have : Sp (2 * n) (R.take n) (v ++ zr n) := by
      clear lv
      induction s with
      | zero => rw [zr_app]; exact .zero
      | @add v x c s hx ih =>
        have lv := s.len (half_tri t).wd
        obtain ⟨q, hq, rfl⟩ := List.mem_map.mp hx
        have lq := t.wd q (List.mem_of_mem_take hq)
        have lqt : (q.take n).length = n := by rw [List.length_take]; omega
        have e : ax c v (q.take n) ++ zr n = ax c (v ++ zr n) q := by
          rw [tail q hq, show (q.take n ++ zr n).take n = q.take n by rw [List.take_append_of_le_length (by omega), List.take_of_length_le (by omega)], ax_app lv len_zr lqt len_zr]
          congr 1
          exact vext (by rw [len_ax rfl]) fun j _ => by rw [gd_ax rfl, gd_zero]; omega
        rw [e]
        exact .add c ih hq
    exact this.mono fun x hx => List.mem_of_mem_take hx
  · intro s
    have z : Zf n (v ++ zr n) := fun j hj => by rw [gd_app lv, if_neg (by omega), gd_zero]
    have s1 := tri_sp t n _ (by omega) s z
    -- cut
    have cut : ∀ w, Sp (2 * n) (R.take n) w → Sp n (half n R) (w.take n) := by
      intro w sw
      induction sw with
      | zero =>
        have : (zr (2 * n)).take n = zr n := by rw [List.take_replicate]; congr 1; omega
        rw [this]; exact .zero
      | @add w x c sw hx ih =>
        have lw := sw.len wt
        have lx := wt x hx
        have lt : (w.take n).length = (x.take n).length := by rw [List.length_take, List.length_take]; omega
        have e : (ax c w x).take n = ax c (w.take n) (x.take n) := by
          refine vext (by rw [List.length_take, len_ax (by omega), len_ax lt, List.length_take]) fun j _ => ?_
          rw [gd_take, gd_ax lt, gd_take, gd_take]
          split
          · rw [gd_ax (by omega)]
          · omega
        rw [e]
        exact .add c ih (List.mem_map_of_mem hx)
    have := cut _ s1
    rw [List.take_append_of_le_length (by omega), List.take_of_length_le (by omega)] at this
    exact this
/-- the program's way and the specification's come to the same -/
theorem both_same {B : Nat} (hf : Lin n f) (hP : ∀ p ∈ P, p.1.length = n ∧ p.2 = f p.1) (hD : Wd n D) (g : Good (2 * n) PF B (2 * n) (pairs P D n)) :
    Hnf n (half n (prows (2 * n) (pairs P D n))) ∧ (∀ v : Vec, v.length = n → (Sp n (half n (prows (2 * n) (pairs P D n))) v ↔ Sp n (P.map (·.1)) v ∧ Sp n D (f v))) := by
  obtain ⟨h, e⟩ := prog_rows g
  exact ⟨⟨half_tri h.toTri, half_low h.low⟩, fun v lv => (half_sp h.toTri lv).trans ((e _).trans (pairs_iff hf hP hD lv))⟩
theorem firsts_is {B : Nat} (hf : Lin n f) (hP : ∀ p ∈ P, p.1.length = n ∧ p.2 = f p.1) (hD : Wd n D) (g : Good (2 * n) SF B (2 * n) (pairs P D n)) :
    Hnf n (Nf02.firsts n (pairs P D n)) ∧ (∀ v : Vec, v.length = n → (Sp n (Nf02.firsts n (pairs P D n)) v ↔ Sp n (P.map (·.1)) v ∧ Sp n D (f v))) := by
  obtain ⟨t, e⟩ := spec_steps g
  obtain ⟨h, e2⟩ := lower_hnf (half_tri t)
  exact ⟨h, fun v lv => ((e2 v).symm.trans (half_sp t lv)).trans ((e _).trans (pairs_iff hf hP hD lv))⟩
theorem hnf_same {R S : List Vec} (h : Hnf n R) (g : Hnf n S) (e : ∀ v : Vec, v.length = n → (Sp n R v ↔ Sp n S v)) : R = S :=
  hnf_uniq h g fun v => ⟨fun s => (e v (s.len h.wd)).mp s, fun s => (e v (s.len g.wd)).mpr s⟩
end
end Ir

/-! IrJ: each of the four that make an ideal of two: the program's rows are the specification's. -/
namespace Ir
open Nf02 (plus scale)
def BF : Nat := 1000000
theorem cap_pa : cap PF BF 4 8 40 = true := by decide +kernel
theorem cap_sa : cap SF BF 4 8 40 = true := by decide +kernel
theorem cap_pm : cap PF BF 4 16 97 = true := by decide +kernel
theorem cap_sm : cap SF BF 4 16 97 = true := by decide +kernel
theorem cap_pb : cap PF BF 8 8 97 = true := by decide +kernel
theorem cap_sb : cap SF BF 8 8 55 = true := by decide +kernel
theorem cap_pc : cap PF BF 8 8 55 = true := by decide +kernel
theorem add_same {k : Vec} {a b : List Vec} (hk : RingOk k) (ha : Kp k.length a) (hb : Kp k.length b) : Good k.length PF BF k.length (a ++ b) ∧ prows k.length (a ++ b) = Nf02.add k a b ∧ Hnf k.length (Nf02.add k a b) := by
  have g := good_add ha hb hk.2.1 cap_pa
  have g' := good_add ha hb hk.2.1 cap_sa
  exact ⟨g, rows_same g g', (spec_rows g').1⟩
theorem mul_same {k : Vec} {a b : List Vec} (hk : RingOk k) (ha : Kp k.length a) (hb : Kp k.length b) :
    Good k.length PF BF k.length (a.flatMap fun x => b.map fun y => times k x y) ∧ prows k.length (a.flatMap fun x => b.map fun y => times k x y) = Nf02.mul k a b ∧ Hnf k.length (Nf02.mul k a b) := by
  have g := good_mul hk ha hb cap_pm
  have g' := good_mul hk ha hb cap_sm
  exact ⟨g, rows_same g g', (spec_rows g').1⟩
theorem good_pairs {n F B c : Nat} {P : List (Vec × Vec)} {D : List Vec} {f : Vec → Vec} (h4 : n ≤ 4) (hf : Lin n f) (hP : ∀ p ∈ P, p.1.length = n ∧ p.2 = f p.1) (hF : Full n n (P.map (·.1))) (hl : P.length = n) (hD : Hnf n D)
    (b1 : ∀ p ∈ P, Lt c p.1 ∧ Lt c p.2) (b2 : ∀ x ∈ D, Lt c x) (hc : cap F B 8 8 c = true) : Good (2 * n) F B (2 * n) (pairs P D n) := by
  have w := pairs_wd (P := P) (D := D) (n := n) (fun p hp => ⟨(hP p hp).1, by rw [(hP p hp).2]; exact hf.len _ (hP p hp).1⟩) hD.wd
  refine good_mk w (pairs_full hf hP hD.toTri hF) (k := 8) (b := c) ?_ (fun x hx j => ?_) ?_
  · simp only [pairs, List.length_append, List.length_map, hl, hD.len]; omega
  · rcases List.mem_append.mp hx with h | h
    · obtain ⟨p, hp, rfl⟩ := List.mem_map.mp h
      rw [gd_app (hP p hp).1]
      split
      · exact (b1 p hp).1 j
      · exact (b1 p hp).2 _
    · obtain ⟨d, hd, rfl⟩ := List.mem_map.mp h
      rw [gd_app len_zr]
      split
      · rw [gd_zero]; exact Nat.pow_pos (by omega)
      · exact b2 d hd _
  · obtain ⟨j, e⟩ : ∃ j, 8 = 2 * n + j := ⟨8 - 2 * n, by omega⟩
    have hc' : cap F B (2 * n + j) 8 c = true := e ▸ hc
    exact cap_le hc'
theorem Full.self {n : Nat} {a : List Vec} (h : Hnf n a) : Full n n a := h.toTri.full
theorem lin_id {n : Nat} : Lin n (fun x => x) := ⟨fun _ h => h, rfl, fun _ _ _ _ _ => rfl⟩
theorem lin_times {k y : Vec} (hk : RingOk k) (hy : y.length = k.length) : Lin k.length (fun x => times k x y) :=
  ⟨fun _ _ => len_times hk.pos hy, times_zr hk.pos hy, fun c _ _ h1 h2 => times_lin hk.pos hy c (h1.trans h2.symm)⟩
theorem map_fst {c : List Vec} {f : Vec → Vec} : (c.map fun r => (r, f r)).map (·.1) = c := by
  rw [List.map_map]; exact List.map_id' c
/-- pairs of a row and what is told by it -/
theorem hP_of {n : Nat} {c : List Vec} {f : Vec → Vec} (w : Wd n c) : ∀ p ∈ c.map (fun r => (r, f r)), p.1.length = n ∧ p.2 = f p.1 := fun p hp => by
  obtain ⟨r, hr, rfl⟩ := List.mem_map.mp hp
  exact ⟨w r hr, rfl⟩
theorem pairs_self {a b : List Vec} {n : Nat} : pairs (a.map fun r => (r, r)) b n = a.map (fun x => x ++ x) ++ b.map fun y => List.replicate n 0 ++ y := by
  unfold pairs
  rw [List.map_map]; rfl
theorem common_spec {k : Vec} {a b : List Vec} (hk : RingOk k) (ha : Kp k.length a) (hb : Kp k.length b) :
    Hnf k.length (Nf02.common k a b) ∧ ∀ v : Vec, v.length = k.length → (Sp k.length (Nf02.common k a b) v ↔ Sp k.length a v ∧ Sp k.length b v) := by
  have g : Good (2 * k.length) SF BF (2 * k.length) (pairs (a.map fun r => (r, r)) b k.length) :=
    good_pairs hk.2.1 lin_id (hP_of ha.h.wd) (by rw [map_fst (f := fun r => r)]; exact Full.self ha.h) (by rw [List.length_map]; exact ha.h.len) hb.h (fun p hp => by
      obtain ⟨r, hr, rfl⟩ := List.mem_map.mp hp
      exact ⟨(ha.lt r hr).mono (by omega), (ha.lt r hr).mono (by omega)⟩) (fun x hx => (hb.lt x hx).mono (by omega)) cap_sb
  have h := firsts_is lin_id (hP_of (f := fun r => r) ha.h.wd) hb.h.wd g
  rw [map_fst (f := fun r => r), pairs_self] at h
  exact h
theorem common_same {k : Vec} {a b : List Vec} (hk : RingOk k) (ha : Kp k.length a) (hb : Kp k.length b) :
    Good (2 * k.length) PF BF (2 * k.length) (pairs (a.map fun r => (r, r)) b k.length) ∧ half k.length (prows (2 * k.length) (pairs (a.map fun r => (r, r)) b k.length)) = Nf02.common k a b ∧ Hnf k.length (Nf02.common k a b) := by
  have g : Good (2 * k.length) PF BF (2 * k.length) (pairs (a.map fun r => (r, r)) b k.length) :=
    good_pairs hk.2.1 lin_id (hP_of ha.h.wd) (by rw [map_fst (f := fun r => r)]; exact Full.self ha.h) (by rw [List.length_map]; exact ha.h.len) hb.h (fun p hp => by
      obtain ⟨r, hr, rfl⟩ := List.mem_map.mp hp
      exact ⟨(ha.lt r hr).mono (by omega), (ha.lt r hr).mono (by omega)⟩) (fun x hx => (hb.lt x hx).mono (by omega)) cap_pc
  obtain ⟨h1, h2⟩ := both_same lin_id (hP_of (f := fun r => r) ha.h.wd) hb.h.wd g
  rw [map_fst (f := fun r => r)] at h2
  obtain ⟨h3, h4⟩ := common_spec hk ha hb
  exact ⟨g, hnf_same h1 h3 fun v lv => (h2 v lv).trans (h4 v lv).symm, h3⟩
/-- the whole ring -/
theorem all_hnf {k : Vec} : Hnf k.length (Nf02.all k) := by
  have hg : ∀ (i : Nat) (r : Vec), (Nf02.all k)[i]? = some r → i < k.length ∧ r = un k.length i := fun i r h => by
    unfold Nf02.all at h
    rw [List.getElem?_map, Option.map_eq_some_iff] at h
    obtain ⟨j, hj, rfl⟩ := h
    have hn : Nf01.Field.n k = k.length := rfl
    rw [hn] at hj
    by_cases h : i < k.length
    · rw [List.getElem?_range h] at hj
      cases hj
      exact ⟨h, rfl⟩
    · rw [List.getElem?_eq_none (by simp; omega)] at hj; cases hj
  refine ⟨⟨by unfold Nf02.all; simp [Nf01.Field.n], fun x hx => ?_, fun i r h => ?_, fun i r h => ?_⟩, fun i j r q hj hr hq => ?_⟩
  · obtain ⟨i, hi, rfl⟩ := List.getElem_of_mem hx
    have := (hg i _ (List.getElem?_eq_getElem hi)).2
    rw [this, len_un]
  · obtain ⟨hi, rfl⟩ := hg i r h
    intro j hj
    by_cases h : j < k.length
    · rw [gd_un h, if_neg (by omega)]
    · exact gd_out (by rw [len_un]; omega)
  · obtain ⟨hi, rfl⟩ := hg i r h
    rw [gd_un hi, if_pos rfl]; omega
  · obtain ⟨hi, rfl⟩ := hg i r hr
    obtain ⟨hj', rfl⟩ := hg j q hq
    rw [gd_un hj', gd_un hj', if_neg (by omega), if_pos rfl]; omega
theorem all_sp {k v : Vec} (lv : v.length = k.length) : Sp k.length (Nf02.all k) v := by
  have key : ∀ m, m ≤ k.length → ∀ v : Vec, v.length = k.length → Zf m v → Sp k.length (Nf02.all k) v := by
    intro m
    induction m with
    | zero => intro _ v lv z; rw [z.eq_zr lv]; exact .zero
    | succ m ih =>
      intro hm v lv z
      have hu : un k.length m ∈ Nf02.all k := by
        unfold Nf02.all
        exact List.mem_map.mpr ⟨m, List.mem_range.mpr (by show m < k.length; omega), rfl⟩
      have l1 : v.length = (un k.length m).length := by rw [len_un]; exact lv
      have lw : (ax (0 - v.getD m 0) v (un k.length m)).length = k.length := by rw [len_ax l1]; exact lv
      have s := ih (by omega) _ lw fun j hj => by
        rw [gd_ax l1]
        rcases Nat.lt_or_eq_of_le hj with q | q
        · rw [z j q]
          by_cases hjk : j < k.length
          · rw [gd_un hjk, if_neg (by omega)]; omega
          · rw [gd_out (show (un k.length m).length ≤ j by rw [len_un]; omega)]; omega
        · subst q; rw [gd_un (by omega), if_pos rfl]; omega
      have e : v = ax (v.getD m 0) (ax (0 - v.getD m 0) v (un k.length m)) (un k.length m) := by
        have l2 : (ax (0 - v.getD m 0) v (un k.length m)).length = (un k.length m).length := by rw [len_un]; exact lw
        refine vext (by rw [len_ax l2]; omega) fun j _ => ?_
        rw [gd_ax l2, gd_ax l1, Int.sub_mul]; omega
      rw [e]
      exact .add _ s hu
  exact key k.length (Nat.le_refl _) v lv (Zf.of_len lv)
theorem all_lt {k : Vec} : ∀ x ∈ Nf02.all k, Lt 40 x := fun x hx => by
  unfold Nf02.all at hx
  obtain ⟨i, hi, rfl⟩ := List.mem_map.mp hx
  intro j
  by_cases h : j < k.length
  · have := gd_un (n := k.length) (i := i) h
    have e : (Nf02.unit (Nf01.Field.n k) i).getD j 0 = (un k.length i).getD j 0 := rfl
    rw [e, this]
    split
    · decide
    · decide
  · rw [gd_out (show (Nf02.unit (Nf01.Field.n k) i).length ≤ j by simp [Nf02.unit]; show k.length ≤ j; omega)]
    exact Nat.pow_pos (by omega)
theorem before_spec {k y : Vec} {a : List Vec} (hk : RingOk k) (ha : Kp k.length a) (ly : y.length = k.length) (by_ : Lt 40 y) :
    Hnf k.length (Nf02.before k a y) ∧ ∀ v : Vec, v.length = k.length → (Sp k.length (Nf02.before k a y) v ↔ Sp k.length a (times k v y)) := by
  have hP : ∀ p ∈ (Nf02.all k).map (fun r => (r, times k r y)), p.1.length = k.length ∧ p.2 = times k p.1 y := hP_of (f := fun r => times k r y) all_hnf.wd
  have g : Good (2 * k.length) SF BF (2 * k.length) (pairs ((Nf02.all k).map fun r => (r, times k r y)) a k.length) :=
    good_pairs hk.2.1 (lin_times hk ly) hP (by rw [map_fst (f := fun r => times k r y)]; exact Full.self all_hnf) (by rw [List.length_map]; exact all_hnf.len) ha.h (fun p hp => by
      obtain ⟨r, hr, rfl⟩ := List.mem_map.mp hp
      refine ⟨(all_lt r hr).mono (by omega), ?_⟩
      unfold Nf02.all at hr
      obtain ⟨i, hi, rfl⟩ := List.mem_map.mp hr
      have hi' : i < k.length := List.mem_range.mp hi
      show Lt 55 (times k (un k.length i) y)
      rw [times_un hk.pos ly hi']
      have h4 := hk.2.1
      exact (lt_upn hk i ly by_).mono (by omega)) (fun x hx => (ha.lt x hx).mono (by omega)) cap_sb
  have h := firsts_is (lin_times hk ly) hP ha.h.wd g
  rw [map_fst (f := fun r => times k r y)] at h
  have e : pairs ((Nf02.all k).map fun r => (r, times k r y)) a k.length = ((List.range (Nf01.Field.n k)).map fun i => Nf02.unit (Nf01.Field.n k) i ++ Nf02.times k (Nf02.unit (Nf01.Field.n k) i) y) ++ a.map fun x => List.replicate (Nf01.Field.n k) 0 ++ x := by
    unfold pairs Nf02.all
    rw [List.map_map, List.map_map]; rfl
  rw [e] at h
  exact ⟨h.1, fun v lv => (h.2 v lv).trans ⟨fun x => x.2, fun x => ⟨all_sp lv, x⟩⟩⟩
/-- one row of the other: what is left takes part in the one -/
theorem turn_same {k y : Vec} {a c : List Vec} {N : Int} (hk : RingOk k) (ha : Kp k.length a) (hN : 0 < N) (hN2 : N < 2 ^ 40) (ka : Kills k.length N a) (hc : Kp k.length c) (kc : Kills k.length N c) (ly : y.length = k.length) (by_ : Lt 40 y) :
    Good (2 * k.length) PF BF (2 * k.length) (pairs (c.map fun r => (r, times k r y)) a k.length) ∧ half k.length (prows (2 * k.length) (pairs (c.map fun r => (r, times k r y)) a k.length)) = Nf02.common k c (Nf02.before k a y) ∧
      Kp k.length (Nf02.common k c (Nf02.before k a y)) ∧ Kills k.length N (Nf02.common k c (Nf02.before k a y)) := by
  have hP : ∀ p ∈ c.map (fun r => (r, times k r y)), p.1.length = k.length ∧ p.2 = times k p.1 y := hP_of (f := fun r => times k r y) hc.h.wd
  have g : Good (2 * k.length) PF BF (2 * k.length) (pairs (c.map fun r => (r, times k r y)) a k.length) :=
    good_pairs hk.2.1 (lin_times hk ly) hP (by rw [map_fst (f := fun r => times k r y)]; exact Full.self hc.h) (by rw [List.length_map]; exact hc.h.len) ha.h (fun p hp => by
      obtain ⟨r, hr, rfl⟩ := List.mem_map.mp hp
      exact ⟨(hc.lt r hr).mono (by omega), (lt_times hk (hc.h.wd r hr) ly (hc.lt r hr) by_).mono (by omega)⟩) (fun x hx => (ha.lt x hx).mono (by omega)) cap_pb
  obtain ⟨h1, h2⟩ := both_same (lin_times hk ly) hP ha.h.wd g
  rw [map_fst (f := fun r => times k r y)] at h2
  obtain ⟨b1, b2⟩ := before_spec hk ha ly by_
  have l0 : ∀ v : Vec, v.length = k.length → times k (scale N v) y = scale N (times k v y) := fun v lv => by
    have e : scale N v = ax N (zr k.length) v := vext (by rw [len_scale, len_ax (by rw [len_zr]; exact lv.symm), len_zr]; exact lv) fun j _ => by rw [gd_scale, gd_ax (by rw [len_zr]; exact lv.symm), gd_zero]; omega
    have lt := len_times (a := v) hk.pos ly
    rw [e, times_lin hk.pos ly N (by rw [len_zr]; exact lv.symm), times_zr hk.pos ly]
    exact vext (by rw [len_ax (by rw [len_zr]; exact lt.symm), len_zr, len_scale]; exact lt.symm) fun j _ => by rw [gd_scale, gd_ax (by rw [len_zr]; exact lt.symm), gd_zero]; omega
  have kb : Kills k.length N (Nf02.before k a y) := fun v lv => (b2 _ (by rw [len_scale]; exact lv)).mpr (by rw [l0 v lv]; exact ka _ (len_times hk.pos ly))
  have hb : Kp k.length (Nf02.before k a y) := ⟨b1, kills_lt b1 hN kb hN2⟩
  obtain ⟨c1, c2⟩ := common_spec hk hc hb
  have kc' : Kills k.length N (Nf02.common k c (Nf02.before k a y)) := fun v lv => (c2 _ (by rw [len_scale]; exact lv)).mpr ⟨kc v lv, kb v lv⟩
  refine ⟨g, hnf_same h1 c1 fun v lv => (h2 v lv).trans ((c2 v lv).trans ⟨fun x => ⟨x.1, (b2 v lv).mp x.2⟩, fun x => ⟨x.1, (b2 v lv).mpr x.2⟩⟩).symm, ⟨c1, kills_lt c1 hN kc' hN2⟩, kc'⟩
/-! ### the norm -/
/-- the product of the first own places -/
def dg (a : List Vec) : Nat := Nf02.norm a
theorem norm_snoc {D : List Vec} {q : Vec} : Nf02.norm (D ++ [q]) = Nf02.norm D * (q.getD D.length 0).natAbs := by
  unfold Nf02.norm
  rw [List.zipIdx_append, List.foldl_append]
  simp
theorem norm_kills {n : Nat} : ∀ {i : Nat} {D : List Vec}, i ≤ n → Tri i n D → 0 < Nf02.norm D ∧ (∀ v : Vec, v.length = n → Zf i v → Sp n D (scale (Nf02.norm D : Int) v)) := by
  intro i
  induction i with
  | zero =>
    intro D _ t
    have : D = [] := List.eq_nil_of_length_eq_zero t.len
    subst this
    refine ⟨by decide, fun v lv z => ?_⟩
    have : scale ((Nf02.norm ([] : List Vec) : Nat) : Int) v = zr n := vext (by rw [len_scale, len_zr, lv]) fun j _ => by rw [gd_scale, z j (Nat.zero_le _), gd_zero]; omega
    rw [this]; exact .zero
  | succ i ih =>
    intro D hi t
    obtain ⟨D, r, rfl⟩ : ∃ D' q, D = D' ++ [q] := by
      have hne : D ≠ [] := fun e => by have := t.len; rw [e] at this; simp at this
      exact ⟨D.dropLast, D.getLast hne, (List.dropLast_concat_getLast hne).symm⟩
    obtain ⟨t', lr, zr_, hp⟩ := tri_snoc t
    obtain ⟨h1, hh⟩ := ih (by omega) t'
    have hl := t'.len
    rw [norm_snoc, hl]
    refine ⟨Nat.mul_pos h1 (by omega), fun v lv z => ?_⟩
    have lu : (ax (0 - v.getD i 0) (scale (r.getD i 0) v) r).length = n := by rw [len_ax (by rw [len_scale]; omega), len_scale, lv]
    have zu : Zf i (ax (0 - v.getD i 0) (scale (r.getD i 0) v) r) := fun j hj => by
      rw [gd_ax (by rw [len_scale]; omega), gd_scale]
      rcases Nat.lt_or_eq_of_le hj with q | q
      · rw [z j q, zr_ j q]; omega
      · subst q; grind
    have s1 := (hh _ lu zu).mono (M := D ++ [r]) fun x hx => List.mem_append_left _ hx
    have s2 := (Sp.mem t.wd (show r ∈ D ++ [r] by simp)).scale t.wd ((Nf02.norm D : Int) * v.getD i 0)
    have s3 := s1.plus t.wd s2
    have ea : ((r.getD i 0).natAbs : Int) = r.getD i 0 := by omega
    have e : plus (scale (Nf02.norm D : Int) (ax (0 - v.getD i 0) (scale (r.getD i 0) v) r)) (scale ((Nf02.norm D : Int) * v.getD i 0) r) = scale ((Nf02.norm D * (r.getD i 0).natAbs : Nat) : Int) v := by
      refine vext (by rw [len_plus (by rw [len_scale, len_scale]; omega), len_scale, len_scale]; omega) fun j _ => ?_
      rw [gd_plus (by rw [len_scale, len_scale]; omega), gd_scale, gd_scale, gd_scale, gd_ax (by rw [len_scale]; omega), gd_scale, Int.natCast_mul, ea]; grind
    rw [e] at s3; exact s3
theorem norm_kp {n : Nat} {a : List Vec} (h : Hnf n a) (hb : Nf02.norm a ≤ Nf02.BIG) : Kp n a ∧ 0 < (Nf02.norm a : Int) ∧ (Nf02.norm a : Int) < 2 ^ 40 ∧ Kills n (Nf02.norm a : Int) a := by
  obtain ⟨h1, h2⟩ := norm_kills (Nat.le_refl n) h.toTri
  have hlt : (Nf02.norm a : Int) < 2 ^ 40 := by
    have e : Nf02.BIG = 1000000000000 := by decide
    have : (2 : Int) ^ 40 = 1099511627776 := by decide
    omega
  have hk : Kills n (Nf02.norm a : Int) a := fun v lv => h2 v lv (Zf.of_len lv)
  exact ⟨⟨h, kills_lt h (by omega) hk hlt⟩, by omega, hlt, hk⟩
/-! ### sizes of what the program's rows are -/
theorem psteps_lt {n B : Nat} : ∀ {i : Nat} {l : List Vec}, Good n PF B i l → ∀ x ∈ psteps i l, Lt B x := by
  intro i
  induction i with
  | zero => intro l _ x hx; simp [psteps] at hx
  | succ p ih =>
    intro l g x hx
    obtain ⟨m, R, h1, _, _, _, _, h6, C, hC, _, hm⟩ := place_ok quo_fdiv kind_fdiv nought_kp g
    rw [prog_step p l m R h1] at hx
    rcases List.mem_append.mp hx with h | h
    · exact ih h6 x h
    · have : x = up p m := by simpa using h
      subst this
      intro j
      have := hm j
      unfold up
      split
      · rw [gd_scale]; omega
      · omega
theorem prows_lt {n B : Nat} {l : List Vec} (g : Good n PF B n l) : ∀ x ∈ prows n l, Lt B x := by
  obtain ⟨t, _⟩ := prog_steps g
  obtain ⟨t1, lo, _⟩ := lower_ok (Nat.le_refl n) t
  refine low_lt t1 lo fun i r hr => ?_
  obtain ⟨q, hq, hm⟩ := exists_row t (i := i) (by rw [← t1.len]; exact (List.getElem?_eq_some_iff.mp hr).1)
  rw [lower_own (Nat.le_refl n) t i q r hq hr]
  exact psteps_lt g q hm i
theorem half_lt {n B : Nat} {R : List Vec} (h : ∀ x ∈ R, Lt B x) : ∀ x ∈ half n R, Lt B x := fun x hx j => by
  unfold half at hx
  obtain ⟨q, hq, rfl⟩ := List.mem_map.mp hx
  rw [gd_take]
  split
  · exact h q (List.mem_of_mem_take hq) j
  · exact Nat.pow_pos (by omega)
theorem fold_upn {k : Vec} : ∀ (i : Nat) (x : Vec), (List.range i).foldl (fun b _ => Nf02.up k b) x = upn k i x
  | 0, _ => rfl
  | i + 1, x => by
    rw [List.range_succ, List.foldl_append, fold_upn i x, upn_up]; rfl
theorem spread_eq {k : Vec} {x : Vec} : Nf02.spread k x = (List.range k.length).map fun i => upn k i x := by
  unfold Nf02.spread
  refine List.map_congr_left fun i _ => fold_upn i x
end Ir

/-! IrK: classes; whether prime; rows that may come next. -/
namespace Ir
open Nf02 (plus scale)
/-- all lists with numbers from 0 to below these -/
def cl (ms : List Nat) : List Vec := ms.foldr (fun m l => (List.range m).flatMap fun (i : Nat) => l.map fun v => (i : Int) :: v) [[]]
def spr (f : List Vec) (m : Nat) : List Vec := f.flatMap fun one => (List.range m).map fun (i : Nat) => one ++ [(i : Int)]
theorem cl_cons {m : Nat} {ms : List Nat} : cl (m :: ms) = (List.range m).flatMap fun (i : Nat) => (cl ms).map fun v => (i : Int) :: v := rfl
theorem spr_foldl : ∀ (ms : List Nat) (acc : List Vec), ms.foldl spr acc = acc.flatMap fun one => (cl ms).map fun v => one ++ v
  | [], acc => by
    show acc = acc.flatMap fun one => [one ++ []]
    simp
  | m :: ms, acc => by
    rw [List.foldl_cons, spr_foldl ms]
    unfold spr
    rw [List.flatMap_assoc]
    congr 1
    funext one
    rw [cl_cons, List.flatMap_map, List.map_flatMap]
    congr 1
    funext i
    rw [List.map_map]
    congr 1
    funext v
    simp
theorem spr_cl (ms : List Nat) : ms.foldl spr [[]] = cl ms := by
  rw [spr_foldl]; simp
theorem cl_len : ∀ ms : List Nat, (cl ms).length = ms.foldr (· * ·) 1
  | [] => rfl
  | m :: ms => by
    rw [cl_cons, len_flat (m := (cl ms).length) fun x _ => by simp, List.length_range, cl_len ms]; rfl
theorem cl_mem : ∀ {ms : List Nat} {v : Vec}, v ∈ cl ms ↔ v.length = ms.length ∧ ∀ (i : Nat) (m : Nat), ms[i]? = some m → 0 ≤ v.getD i 0 ∧ v.getD i 0 < m
  | [], v => by
    constructor
    · intro h
      have : v = [] := by simpa [cl] using h
      subst this
      exact ⟨rfl, fun i m h => by simp at h⟩
    · intro ⟨h, _⟩
      have : v = [] := List.eq_nil_of_length_eq_zero h
      simp [cl, this]
  | m :: ms, v => by
    rw [cl_cons]
    simp only [List.mem_flatMap, List.mem_range, List.mem_map]
    constructor
    · rintro ⟨i, hi, u, hu, rfl⟩
      obtain ⟨h1, h2⟩ := cl_mem.mp hu
      refine ⟨by simp [h1], fun j q hq => ?_⟩
      cases j with
      | zero =>
        have : m = q := by simpa using hq
        subst this
        exact ⟨by simp, by simp; omega⟩
      | succ j => exact h2 j q (by simpa using hq)
    · rintro ⟨h1, h2⟩
      cases v with
      | nil => simp at h1
      | cons x u =>
        have h0 := h2 0 m rfl
        simp only [List.getD_cons_zero] at h0
        refine ⟨x.toNat, by omega, u, cl_mem.mpr ⟨by simpa using h1, fun i q hq => ?_⟩, ?_⟩
        · exact h2 (i + 1) q (by simpa using hq)
        · rw [Int.toNat_of_nonneg h0.1]
/-- the own places -/
def owns (a : List Vec) : List Nat := a.zipIdx.map fun x => (x.1.getD x.2 0).toNat
theorem classes_cl (a : List Vec) : Nf02.classes a = cl (owns a) := rfl
theorem owns_snoc {a : List Vec} {r : Vec} : owns (a ++ [r]) = owns a ++ [(r.getD a.length 0).toNat] := by
  unfold owns
  rw [List.zipIdx_append, List.map_append]; simp
theorem owns_len {a : List Vec} : (owns a).length = a.length := by simp [owns]
theorem owns_get {a : List Vec} {i : Nat} {r : Vec} (h : a[i]? = some r) : (owns a)[i]? = some (r.getD i 0).toNat := by
  unfold owns
  rw [List.getElem?_map, List.getElem?_zipIdx, h]; simp
theorem owns_take {a : List Vec} {i : Nat} : owns (a.take i) = (owns a).take i := by
  refine List.ext_getElem? fun j => ?_
  by_cases h : j < (a.take i).length
  · have h' : j < a.length ∧ j < i := by rw [List.length_take] at h; omega
    have e1 : (a.take i)[j]? = some a[j] := by rw [List.getElem?_take, if_pos h'.2]; exact List.getElem?_eq_getElem _
    rw [owns_get e1, List.getElem?_take, if_pos h'.2, owns_get (List.getElem?_eq_getElem h'.1)]
  · rw [List.getElem?_eq_none (by rw [owns_len]; omega), List.getElem?_eq_none (by rw [List.length_take, owns_len]; rw [List.length_take] at h; omega)]
theorem mul_foldr : ∀ (l : List Nat) (b : Nat), l.foldr (· * ·) b = l.foldr (· * ·) 1 * b
  | [], b => by simp
  | x :: l, b => by
    rw [List.foldr_cons, List.foldr_cons, mul_foldr l b, Nat.mul_assoc]
theorem norm_owns {n m : Nat} {a : List Vec} (t : Tri n m a) : Nf02.norm a = (owns a).foldr (· * ·) 1 := by
  induction n generalizing a with
  | zero =>
    have : a = [] := List.eq_nil_of_length_eq_zero t.len
    subst this; rfl
  | succ n ih =>
    obtain ⟨D, r, rfl⟩ : ∃ D' q, a = D' ++ [q] := by
      have hne : a ≠ [] := fun e => by have := t.len; rw [e] at this; simp at this
      exact ⟨a.dropLast, a.getLast hne, (List.dropLast_concat_getLast hne).symm⟩
    obtain ⟨t', _, _, hp⟩ := tri_snoc t
    have hl := t'.len
    rw [norm_snoc, owns_snoc, ih t', List.foldr_append]
    simp only [List.foldr_cons, List.foldr_nil, Nat.mul_one]
    rw [mul_foldr (owns D) ((r.getD D.length 0).toNat), hl]
    congr 1
    omega
theorem norm_take_le {n m : Nat} {a : List Vec} (t : Tri n m a) (i : Nat) (hi : i ≤ n) : Nf02.norm (a.take i) ≤ Nf02.norm a := by
  rw [norm_owns (tri_take t hi), norm_owns t, owns_take]
  have key : ∀ (l : List Nat) (i : Nat), (∀ x ∈ l, 0 < x) → (l.take i).foldr (· * ·) 1 ≤ l.foldr (· * ·) 1 := by
    intro l
    induction l with
    | nil => intro i _; simp
    | cons x l ih =>
      intro i h
      have hpos : ∀ l : List Nat, (∀ x ∈ l, 0 < x) → 0 < l.foldr (· * ·) 1 := by
        intro l
        induction l with
        | nil => intro _; decide
        | cons y l ih => intro h; exact Nat.mul_pos (h y (by simp)) (ih fun z hz => h z (by simp [hz]))
      cases i with
      | zero => exact hpos _ h
      | succ i => exact Nat.mul_le_mul_left _ (ih i fun y hy => h y (by simp [hy]))
  refine key _ _ fun x hx => ?_
  obtain ⟨j, hj, rfl⟩ := List.getElem_of_mem hx
  rw [owns_len] at hj
  have e := owns_get (List.getElem?_eq_getElem hj)
  rw [List.getElem?_eq_getElem (by rw [owns_len]; exact hj)] at e
  rw [Option.some.inj e]
  have := t.pos j a[j] (List.getElem?_eq_getElem hj)
  omega
theorem cl_len_norm {n m : Nat} {a : List Vec} (t : Tri n m a) : (cl (owns a)).length = Nf02.norm a := by
  rw [cl_len, norm_owns t]
/-! ### whether prime -/
/-- reduced already: it stays -/
theorem rest_self {n : Nat} {D : List Vec} {v : Vec} {m : Nat} (hnm : n ≤ m) (t : Tri n m D) (lv : v.length = m) (h : ∀ (j : Nat) (q : Vec), D[j]? = some q → 0 ≤ v.getD j 0 ∧ v.getD j 0 < q.getD j 0) : rest D v = v := by
  induction n generalizing D v with
  | zero =>
    have : D = [] := List.eq_nil_of_length_eq_zero t.len
    subst this; rfl
  | succ n ih =>
    obtain ⟨D, q, rfl⟩ : ∃ D' q, D = D' ++ [q] := by
      have hne : D ≠ [] := fun e => by have := t.len; rw [e] at this; simp at this
      exact ⟨D.dropLast, D.getLast hne, (List.dropLast_concat_getLast hne).symm⟩
    obtain ⟨t', lq, zq, pq⟩ := tri_snoc t
    have hl := t'.len
    have hq := h n q (by rw [← hl]; simp)
    rw [rest_snoc, hl]
    have g1 : q.getD n 1 = q.getD n 0 := by
      have : n < q.length := by omega
      simp [List.getD_eq_getElem?_getD, this]
    have e0 : v.getD n 0 / q.getD n 0 = 0 := Int.ediv_eq_zero_of_lt hq.1 hq.2
    have e1 : plus v (scale (0 - v.getD n 0 / q.getD n 1) q) = v := by
      rw [g1, e0]
      have l : v.length = (scale (0 - 0) q).length := by rw [len_scale]; omega
      refine vext (len_plus l) fun j _ => ?_
      rw [gd_plus l, gd_scale]; omega
    rw [e1]
    exact ih (by omega) t' lv fun j u hu => h j u (by rw [List.getElem?_append_left (List.getElem?_eq_some_iff.mp hu).1]; exact hu)
theorem has_class {n : Nat} {a : List Vec} {v : Vec} (h : Hnf n a) (hv : v ∈ cl (owns a)) : Nf02.has a v = v.all fun z => z == 0 := by
  obtain ⟨h1, h2⟩ := cl_mem.mp hv
  have e : rest a v = v := by
    refine rest_self (Nat.le_refl n) h.toTri (by rw [h1, owns_len, h.len]) fun j q hq => ?_
    have := h2 j _ (owns_get hq)
    have hp := h.pos j q hq
    omega
  show (rest a v).all _ = _
  rw [e]
theorem cl_head (ms : List Nat) (h : ∀ m ∈ ms, 0 < m) : ∃ r, cl ms = zr ms.length :: r ∧ ∀ v ∈ r, ¬ (v.all fun z => z == 0) = true := by
  induction ms with
  | nil => exact ⟨[], rfl, fun v hv => by simp at hv⟩
  | cons m ms ih =>
    obtain ⟨r, e, hr⟩ := ih fun x hx => h x (by simp [hx])
    obtain ⟨m', hm⟩ : ∃ m', m = m' + 1 := ⟨m - 1, by have := h m (by simp); omega⟩
    subst hm
    rw [cl_cons, List.range_succ_eq_map, List.flatMap_cons, e]
    refine ⟨(r.map fun v => (((0 : Nat) : Int)) :: v) ++ (List.map Nat.succ (List.range m')).flatMap fun (i : Nat) => (zr ms.length :: r).map fun v => (i : Int) :: v, ?_, fun v hv => ?_⟩
    · simp [List.replicate_succ]
    · rcases List.mem_append.mp hv with h1 | h1
      · obtain ⟨u, hu, rfl⟩ := List.mem_map.mp h1
        intro hall
        rw [List.all_cons, Bool.and_eq_true] at hall
        exact hr u hu hall.2
      · obtain ⟨i, hi, h2⟩ := List.mem_flatMap.mp h1
        obtain ⟨j, _, rfl⟩ := List.mem_map.mp hi
        obtain ⟨u, _, rfl⟩ := List.mem_map.mp h2
        intro hall
        rw [List.all_cons, Bool.and_eq_true] at hall
        have := hall.1
        simp at this
        omega
/-- the program's look: each with itself and those behind it -/
theorem prime_is {k : Vec} {a : List Vec} (hk : RingOk k) (h : Hnf k.length a) :
    (Nf02.prime k a = true ↔ (cl (owns a)).drop 1 ≠ [] ∧ ∀ (i : Nat) (x : Vec), ((cl (owns a)).drop 1)[i]? = some x → ∀ y ∈ ((cl (owns a)).drop 1).drop i, Nf02.has a (times k x y) = false) := by
  have hpos : ∀ m ∈ owns a, 0 < m := fun x hx => by
    obtain ⟨j, hj, rfl⟩ := List.getElem_of_mem hx
    rw [owns_len] at hj
    have e := owns_get (List.getElem?_eq_getElem hj)
    rw [List.getElem?_eq_getElem (by rw [owns_len]; exact hj)] at e
    rw [Option.some.inj e]
    have := h.pos j a[j] (List.getElem?_eq_getElem hj)
    omega
  obtain ⟨r, er, hr⟩ := cl_head (owns a) hpos
  have hlen : (cl (owns a)).length = Nf02.norm a := cl_len_norm h.toTri
  have hmem : ∀ v ∈ r, v ∈ cl (owns a) := fun v hv => by rw [er]; simp [hv]
  have hl : ∀ v ∈ r, v.length = k.length := fun v hv => by rw [(cl_mem.mp (hmem v hv)).1, owns_len, h.len]
  have efil : (Nf02.classes a).filter (fun v => !Nf02.has a v) = r := by
    rw [classes_cl, er, List.filter_cons]
    have e0 : Nf02.has a (zr (owns a).length) = true := by
      rw [has_class h (by rw [er]; simp)]
      rw [List.all_eq_true]
      intro z hz
      rw [List.eq_of_mem_replicate hz]; rfl
    rw [if_neg (by rw [e0]; decide)]
    refine filter_all fun v hv => ?_
    rw [has_class h (hmem v hv)]
    have := hr v hv
    simpa using this
  have edrop : (cl (owns a)).drop 1 = r := by rw [er]; rfl
  have eprime : Nf02.prime k a = (Nf02.norm a != 1 && r.all fun x => r.all fun y => !Nf02.has a (times k x y)) := by
    unfold Nf02.prime
    rw [efil]
  rw [edrop, eprime, Bool.and_eq_true]
  have en : (Nf02.norm a != 1) = true ↔ r ≠ [] := by
    rw [bne_iff_ne, ← hlen, er]
    constructor
    · intro h1 h2; rw [h2] at h1; exact h1 rfl
    · intro h1 h2
      exact h1 (List.eq_nil_of_length_eq_zero (by simpa using h2))
  rw [en]
  refine and_congr_right fun _ => ?_
  rw [List.all_eq_true]
  constructor
  · intro H i x hx y hy
    have := H x (List.mem_of_getElem? hx)
    rw [List.all_eq_true] at this
    have := this y (List.mem_of_mem_drop hy)
    simpa using this
  · intro H x hx
    rw [List.all_eq_true]
    intro y hy
    obtain ⟨i, hi, rfl⟩ := List.getElem_of_mem hx
    obtain ⟨j, hj, rfl⟩ := List.getElem_of_mem hy
    rcases Nat.le_total i j with hij | hij
    · have := H i _ (List.getElem?_eq_getElem hi) r[j] (List.mem_of_getElem? (i := j - i) (by rw [List.getElem?_drop, show i + (j - i) = j by omega]; exact List.getElem?_eq_getElem hj))
      simp [this]
    · have := H j _ (List.getElem?_eq_getElem hj) r[i] (List.mem_of_getElem? (i := i - j) (by rw [List.getElem?_drop, show j + (i - j) = i by omega]; exact List.getElem?_eq_getElem hi))
      rw [times_comm hk.pos (hl _ hx) (hl _ hy)]
      simp [this]
end Ir

/-! IrL: all ideals of a norm: the order, and what is in the list. -/
namespace Ir
open Nf02 (plus scale)
/-! ### the order -/
def ownI (a : List Vec) : List Int := (owns a).map fun (x : Nat) => (x : Int)
def klt (a b : List Vec) : Prop := ownI a < ownI b ∨ ownI a = ownI b ∧ a < b
theorem ltI_trans {a b c : Vec} (h : a < b) (g : b < c) : a < c := List.lt_trans h g
theorem ltI_irr (a : Vec) : ¬ a < a := List.lt_irrefl a
theorem ltI_tri {a b : Vec} (h : ¬ a < b) (g : ¬ b < a) : a = b := List.le_antisymm (List.not_lt.mp g) (List.not_lt.mp h)
theorem ltR_irr : ∀ (a : List Vec), ¬ a < a
  | [], h => by simp at h
  | x :: a, h => by
    rcases List.cons_lt_cons_iff.mp h with h | h
    · exact ltI_irr x h
    · exact ltR_irr a h.2
theorem ltR_trans : ∀ {a b c : List Vec}, a < b → b < c → a < c
  | _, [], _, h, _ => by simp at h
  | _, _ :: _, [], _, h => by simp at h
  | [], _ :: _, _ :: _, _, _ => by simp
  | x :: a, y :: b, z :: c, h, g => by
    rcases List.cons_lt_cons_iff.mp h with h | h <;> rcases List.cons_lt_cons_iff.mp g with g | g
    · exact List.cons_lt_cons_iff.mpr (.inl (ltI_trans h g))
    · exact List.cons_lt_cons_iff.mpr (.inl (g.1 ▸ h))
    · exact List.cons_lt_cons_iff.mpr (.inl (h.1 ▸ g))
    · exact List.cons_lt_cons_iff.mpr (.inr ⟨h.1.trans g.1, ltR_trans h.2 g.2⟩)
theorem ltR_tri : ∀ {a b : List Vec}, ¬ a < b → ¬ b < a → a = b
  | [], [], _, _ => rfl
  | [], _ :: _, h, _ => by simp at h
  | _ :: _, [], _, h => by simp at h
  | x :: a, y :: b, h, g => by
    rw [List.cons_lt_cons_iff, not_or] at h g
    have e : x = y := ltI_tri h.1 g.1
    subst e
    rw [ltR_tri (fun q => h.2 ⟨rfl, q⟩) (fun q => g.2 ⟨rfl, q⟩)]
theorem klt_irr (a : List Vec) : ¬ klt a a := fun h => h.elim (ltI_irr _) fun h => ltR_irr _ h.2
theorem klt_trans {a b c : List Vec} (h : klt a b) (g : klt b c) : klt a c := by
  rcases h with h | h <;> rcases g with g | g
  · exact .inl (ltI_trans h g)
  · exact .inl (g.1 ▸ h)
  · exact .inl (h.1 ▸ g)
  · exact .inr ⟨h.1.trans g.1, ltR_trans h.2 g.2⟩
theorem klt_tri {a b : List Vec} (h : ¬ klt a b) (g : ¬ klt b a) : a = b := by
  unfold klt at h g
  rw [not_or] at h g
  have e := ltI_tri h.1 g.1
  exact ltR_tri (fun q => h.2 ⟨e, q⟩) (fun q => g.2 ⟨e.symm, q⟩)
theorem klt_le_trans {a b c : List Vec} (h : ¬ klt b a) (g : ¬ klt c b) : ¬ klt c a := fun q => by
  by_cases e : klt b c
  · exact h (klt_trans e q)
  · have := klt_tri e g
    subst this; exact h q
theorem klt_le_total (a b : List Vec) : ¬ klt b a ∨ ¬ klt a b := by
  by_cases e : klt b a
  · exact .inr fun h => klt_irr _ (klt_trans e h)
  · exact .inl e
theorem lex_app : ∀ {v w x y : Vec}, v.length = w.length → v < w → v ++ x < w ++ y
  | [], [], _, _, _, h => absurd h (ltI_irr _)
  | [], _ :: _, _, _, h, _ => by simp at h
  | _ :: _, [], _, _, h, _ => by simp at h
  | a :: v, b :: w, x, y, hl, h => by
    rw [List.cons_append, List.cons_append, List.cons_lt_cons_iff]
    rcases List.cons_lt_cons_iff.mp h with h | h
    · exact .inl h
    · exact .inr ⟨h.1, lex_app (by simpa using hl) h.2⟩
theorem cl_lt : ∀ ms : List Nat, (cl ms).Pairwise (· < ·)
  | [] => by simp [cl]
  | m :: ms => by
    rw [cl_cons, List.pairwise_flatMap]
    refine ⟨fun i _ => ?_, ?_⟩
    · rw [List.pairwise_map]
      exact (cl_lt ms).imp fun h => List.cons_lt_cons_iff.mpr (.inr ⟨rfl, h⟩)
    · refine List.pairwise_lt_range.imp fun h x hx y hy => ?_
      obtain ⟨u, _, rfl⟩ := List.mem_map.mp hx
      obtain ⟨w, _, rfl⟩ := List.mem_map.mp hy
      exact List.cons_lt_cons_iff.mpr (.inl (by omega))
/-! ### own places -/
theorem shapes_lt : ∀ (n m : Nat), ((Nf02.shapes n m).map fun l => l.map fun (x : Nat) => (x : Int)).Pairwise (· < ·)
  | 0, m => by
    show (List.map _ (if m = 1 then [[]] else [])).Pairwise _
    split <;> simp
  | n + 1, m => by
    show (List.map _ ((List.range m).flatMap fun i => if m % (i + 1) = 0 then (Nf02.shapes n (m / (i + 1))).map fun l => (i + 1) :: l else [])).Pairwise _
    rw [List.pairwise_map, List.pairwise_flatMap]
    refine ⟨fun i _ => ?_, ?_⟩
    · split
      · rw [List.pairwise_map]
        have := shapes_lt n (m / (i + 1))
        rw [List.pairwise_map] at this
        exact this.imp fun h => List.cons_lt_cons_iff.mpr (.inr ⟨rfl, h⟩)
      · exact .nil
    · refine List.pairwise_lt_range.imp fun {i j} h x hx y hy => ?_
      have key : ∀ {i : Nat} {x : List Nat}, x ∈ (if m % (i + 1) = 0 then (Nf02.shapes n (m / (i + 1))).map fun l => (i + 1) :: l else []) → ∃ t, x = (i + 1) :: t := by
        intro i x hx
        split at hx
        · obtain ⟨u, _, rfl⟩ := List.mem_map.mp hx
          exact ⟨u, rfl⟩
        · cases hx
      obtain ⟨u, rfl⟩ := key hx
      obtain ⟨w, rfl⟩ := key hy
      exact List.cons_lt_cons_iff.mpr (.inl (show ((i + 1 : Nat) : Int) < ((j + 1 : Nat) : Int) by omega))
theorem mem_shapes : ∀ {n m : Nat} {l : List Nat}, 0 < m → (l ∈ Nf02.shapes n m ↔ l.length = n ∧ (∀ x ∈ l, 0 < x) ∧ l.foldr (· * ·) 1 = m)
  | 0, m, l, hm => by
    show l ∈ (if m = 1 then [[]] else []) ↔ _
    constructor
    · intro h
      split at h
      · have : l = [] := by simpa using h
        subst this
        exact ⟨rfl, (fun x hx => absurd hx (by simp)), (show 1 = m by omega)⟩
      · cases h
    · rintro ⟨h1, _, h3⟩
      have : l = [] := List.eq_nil_of_length_eq_zero h1
      subst this
      have : m = 1 := by simpa using h3.symm
      rw [if_pos this]; simp
  | n + 1, m, l, hm => by
    show l ∈ ((List.range m).flatMap fun i => if m % (i + 1) = 0 then (Nf02.shapes n (m / (i + 1))).map fun l => (i + 1) :: l else []) ↔ _
    rw [List.mem_flatMap]
    constructor
    · rintro ⟨i, hi, h⟩
      rw [List.mem_range] at hi
      split at h
      next hd =>
        obtain ⟨u, hu, rfl⟩ := List.mem_map.mp h
        have hq : (i + 1) * (m / (i + 1)) = m := Nat.mul_div_cancel' (Nat.dvd_of_mod_eq_zero hd)
        have hp : 0 < m / (i + 1) := by
          refine Nat.pos_of_ne_zero fun e => ?_
          rw [e] at hq; omega
        obtain ⟨h1, h2, h3⟩ := (mem_shapes hp).mp hu
        refine ⟨by simp [h1], fun x hx => ?_, ?_⟩
        · rcases List.mem_cons.mp hx with rfl | hx
          · omega
          · exact h2 x hx
        · rw [List.foldr_cons, h3, hq]
      next => cases h
    · rintro ⟨h1, h2, h3⟩
      cases l with
      | nil => simp at h1
      | cons x u =>
        rw [List.foldr_cons] at h3
        have hx := h2 x (by simp)
        have hP : 0 < u.foldr (· * ·) 1 := Nat.pos_of_ne_zero fun e => by rw [e] at h3; omega
        have hle : x ≤ m := by rw [← h3]; exact Nat.le_mul_of_pos_right _ hP
        refine ⟨x - 1, List.mem_range.mpr (by omega), ?_⟩
        have e1 : x - 1 + 1 = x := by omega
        have e2 : m % x = 0 := by rw [← h3]; exact Nat.mul_mod_right _ _
        have e3 : m / x = u.foldr (· * ·) 1 := by rw [← h3]; exact Nat.mul_div_cancel_left _ hx
        rw [e1, if_pos e2, e3, List.mem_map]
        exact ⟨u, (mem_shapes hP).mpr ⟨by simpa using h1, fun y hy => h2 y (by simp [hy]), rfl⟩, rfl⟩
/-! ### rows with some own places -/
def rowOf (n i : Nat) (v : Vec) (d : Nat) : Vec := v ++ (d : Int) :: List.replicate (n - 1 - i) 0
theorem fill_cons {n : Nat} {ahead : List Nat} {d : Nat} {l : List Nat} : Nf02.fill n ahead (d :: l) = (cl ahead).flatMap fun v => (Nf02.fill n (ahead ++ [d]) l).map fun r => rowOf n ahead.length v d :: r := rfl
theorem fill_lt {n : Nat} : ∀ (l ahead : List Nat), (Nf02.fill n ahead l).Pairwise (· < ·)
  | [], _ => by simp [Nf02.fill]
  | d :: l, ahead => by
    rw [fill_cons, List.pairwise_flatMap]
    refine ⟨fun v _ => ?_, ?_⟩
    · rw [List.pairwise_map]
      exact (fill_lt l _).imp fun h => List.cons_lt_cons_iff.mpr (.inr ⟨rfl, h⟩)
    · refine (cl_lt ahead).imp_of_mem fun {v w} hv hw h x hx y hy => ?_
      obtain ⟨u, _, rfl⟩ := List.mem_map.mp hx
      obtain ⟨q, _, rfl⟩ := List.mem_map.mp hy
      exact List.cons_lt_cons_iff.mpr (.inl (lex_app (by rw [(cl_mem.mp hv).1, (cl_mem.mp hw).1]) h))
theorem mem_fill {n : Nat} : ∀ (l ahead : List Nat) (a : List Vec), a ∈ Nf02.fill n ahead l ↔ a.length = l.length ∧ ∀ (i d : Nat) (r : Vec), a[i]? = some r → l[i]? = some d → ∃ v, v ∈ cl (ahead ++ l.take i) ∧ r = rowOf n (ahead.length + i) v d
  | [], ahead, a => by
    show a ∈ [[]] ↔ _
    constructor
    · intro h
      have : a = [] := by simpa using h
      subst this
      exact ⟨rfl, fun i d r h => by simp at h⟩
    · rintro ⟨h, _⟩
      have : a = [] := List.eq_nil_of_length_eq_zero h
      subst this; simp
  | d :: l, ahead, a => by
    rw [fill_cons, List.mem_flatMap]
    constructor
    · rintro ⟨v, hv, h⟩
      obtain ⟨u, hu, rfl⟩ := List.mem_map.mp h
      obtain ⟨h1, h2⟩ := (mem_fill l _ u).mp hu
      refine ⟨by simp [h1], fun i e r hr he => ?_⟩
      cases i with
      | zero =>
        simp only [List.getElem?_cons_zero, Option.some.injEq] at hr he
        subst hr; subst he
        exact ⟨v, by simpa using hv, rfl⟩
      | succ i =>
        rw [List.getElem?_cons_succ] at hr he
        obtain ⟨w, hw, rfl⟩ := h2 i e r hr he
        refine ⟨w, by simpa using hw, ?_⟩
        have : (ahead ++ [d]).length + i = ahead.length + (i + 1) := by simp; omega
        rw [this]
    · rintro ⟨h1, h2⟩
      cases a with
      | nil => simp at h1
      | cons r u =>
        obtain ⟨v, hv, rfl⟩ := h2 0 d r rfl rfl
        refine ⟨v, by simpa using hv, List.mem_map.mpr ⟨u, ?_, rfl⟩⟩
        refine (mem_fill l _ u).mpr ⟨by simpa using h1, fun i e q hq he => ?_⟩
        obtain ⟨w, hw, e'⟩ := h2 (i + 1) e q (by simpa using hq) (by simpa using he)
        refine ⟨w, by simpa using hw, ?_⟩
        have : (ahead ++ [d]).length + i = ahead.length + (i + 1) := by simp; omega
        rw [this]; exact e'
theorem rowOf_len {n i : Nat} {v : Vec} {d : Nat} (h : v.length = i) (hi : i < n) : (rowOf n i v d).length = n := by
  unfold rowOf; simp; omega
theorem rowOf_own {n i : Nat} {v : Vec} {d : Nat} (h : v.length = i) : (rowOf n i v d).getD i 0 = d := by
  unfold rowOf
  rw [List.getD_eq_getElem?_getD, List.getElem?_append_right (by omega)]
  simp [h]
theorem rowOf_zf {n i : Nat} {v : Vec} {d : Nat} (h : v.length = i) : Zf (i + 1) (rowOf n i v d) := fun j hj => by
  unfold rowOf
  obtain ⟨q, rfl⟩ : ∃ q, j = i + 1 + q := ⟨j - (i + 1), by omega⟩
  rw [List.getD_eq_getElem?_getD, List.getElem?_append_right (by omega)]
  have : i + 1 + q - v.length = q + 1 := by omega
  rw [this, List.getElem?_cons_succ, ← List.getD_eq_getElem?_getD, gd_zero]
theorem rowOf_ahead {n i j : Nat} {v : Vec} {d : Nat} (h : v.length = i) (hj : j < i) : (rowOf n i v d).getD j 0 = v.getD j 0 := by
  unfold rowOf
  rw [List.getD_eq_getElem?_getD, List.getElem?_append_left (by omega), ← List.getD_eq_getElem?_getD]
/-- rows that stand as they should -/
def Pt (n : Nat) (a : List Vec) : Prop := ∀ (i : Nat) (r : Vec), a[i]? = some r → ∃ v d, 0 < d ∧ v ∈ cl (owns (a.take i)) ∧ r = rowOf n i v d
theorem Pt.tri {n : Nat} {a : List Vec} (p : Pt n a) (h : a.length ≤ n) : Tri a.length n a ∧ Low a := by
  have vl : ∀ {i : Nat} {r v : Vec}, a[i]? = some r → v ∈ cl (owns (a.take i)) → v.length = i := by
    intro i r v hr hv
    have : i < a.length := (List.getElem?_eq_some_iff.mp hr).1
    rw [(cl_mem.mp hv).1, owns_len, List.length_take]; omega
  refine ⟨⟨rfl, fun x hx => ?_, fun i r hr => ?_, fun i r hr => ?_⟩, fun i j r q hj hr hq => ?_⟩
  · obtain ⟨i, hi, rfl⟩ := List.getElem_of_mem hx
    obtain ⟨v, d, _, hv, e⟩ := p i _ (List.getElem?_eq_getElem hi)
    rw [e]; exact rowOf_len (vl (List.getElem?_eq_getElem hi) hv) (by omega)
  · obtain ⟨v, d, _, hv, e⟩ := p i r hr
    rw [e]; exact rowOf_zf (vl hr hv)
  · obtain ⟨v, d, hd, hv, e⟩ := p i r hr
    rw [e, rowOf_own (vl hr hv)]; omega
  · obtain ⟨v, d, hd, hv, e⟩ := p i r hr
    rw [e, rowOf_ahead (vl hr hv) hj]
    obtain ⟨w, c, hc, hw, e2⟩ := p j q hq
    have h3 := (cl_mem.mp hv).2 j (q.getD j 0).toNat (by rw [owns_get (by rw [List.getElem?_take, if_pos hj]; exact hq)])
    rw [e2, rowOf_own (vl hq hw)] at h3 ⊢
    omega
theorem Pt.of_tri {n : Nat} {a : List Vec} (t : Tri a.length n a) (lo : Low a) (h : a.length ≤ n) : Pt n a := fun i r hr => by
  have hi : i < a.length := (List.getElem?_eq_some_iff.mp hr).1
  have hp := t.pos i r hr
  have hl : r.length = n := t.wd r (List.mem_of_getElem? hr)
  have ht : (r.take i).length = i := by rw [List.length_take]; omega
  refine ⟨r.take i, (r.getD i 0).toNat, by omega, cl_mem.mpr ⟨by rw [owns_len, List.length_take, List.length_take]; omega, fun j m hm => ?_⟩, ?_⟩
  · have hj : j < i := by
      have := (List.getElem?_eq_some_iff.mp hm).1
      rw [owns_len, List.length_take] at this; omega
    obtain ⟨q, hq⟩ : ∃ q, a[j]? = some q := ⟨a[j], List.getElem?_eq_getElem (by omega)⟩
    rw [owns_get (by rw [List.getElem?_take, if_pos hj]; exact hq)] at hm
    have h3 := lo i j r q hj hr hq
    rw [gd_take, if_pos hj, ← Option.some.inj hm]
    omega
  · refine vext (by rw [rowOf_len ht (by omega)]; exact hl) fun j hj => ?_
    rcases Nat.lt_trichotomy j i with q | q | q
    · rw [rowOf_ahead ht q, gd_take, if_pos q]
    · subst q; rw [rowOf_own ht]; omega
    · rw [rowOf_zf ht j (by omega), t.zf i r hr j (by omega)]
theorem Pt.take {n i : Nat} {a : List Vec} (p : Pt n a) : Pt n (a.take i) := fun j r hr => by
  rw [List.getElem?_take] at hr
  by_cases h : j < i
  · rw [if_pos h] at hr
    rw [List.take_take, Nat.min_eq_left (by omega)]
    exact p j r hr
  · rw [if_neg h] at hr; cases hr
theorem Pt.snoc {n : Nat} {a : List Vec} {r : Vec} : Pt n (a ++ [r]) ↔ Pt n a ∧ ∃ v d, 0 < d ∧ v ∈ cl (owns a) ∧ r = rowOf n a.length v d := by
  constructor
  · intro p
    refine ⟨?_, ?_⟩
    · have := p.take (i := a.length)
      rwa [List.take_left'] at this; rfl
    · have := p a.length r (by simp)
      rwa [List.take_left'] at this; rfl
  · rintro ⟨p, q⟩ i x hx
    by_cases h : i < a.length
    · rw [List.getElem?_append_left h] at hx
      rw [List.take_append_of_le_length (by omega)]
      exact p i x hx
    · have h2 : i < a.length + 1 := by
        have := (List.getElem?_eq_some_iff.mp hx).1
        simpa using this
      have e : i = a.length := by omega
      subst e
      rw [List.take_left' rfl]
      have : r = x := by simpa using hx
      rw [← this]; exact q
end Ir

/-! IrM: all ideals of a norm: the program's list, put in order, is the other one. -/
namespace Ir
open Nf02 (plus scale)
theorem red_zero {i n : Nat} {a : List Vec} (t : Tri i n a) {u : Vec} (s : Sp n a u) (hr : ∀ (j : Nat) (q : Vec), a[j]? = some q → 0 ≤ u.getD j 0 ∧ u.getD j 0 < q.getD j 0) (z : Zf i u) : u = zr n := by
  have lu := s.len t.wd
  have key : ∀ p, p ≤ i → Zf (i - p) u := by
    intro p
    induction p with
    | zero => intro _; exact z
    | succ p ih =>
      intro hp
      have z' := ih (by omega)
      obtain ⟨r, hr', _⟩ := exists_row t (i := i - (p + 1)) (by omega)
      have hd := tri_dvd t hr' (by omega) s (by rw [show i - (p + 1) + 1 = i - p by omega]; exact z')
      have h2 := hr _ r hr'
      have h3 : u.getD (i - (p + 1)) 0 = 0 := (by
        have := Int.emod_eq_of_lt h2.1 h2.2
        rw [← this]; exact Int.emod_eq_zero_of_dvd hd)
      exact Zf.down h3 (by rw [show i - (p + 1) + 1 = i - p by omega]; exact z')
  have := key i (Nat.le_refl i)
  rw [Nat.sub_self] at this
  exact this.eq_zr lu
theorem has_zr {u : Vec} : (u.all fun z => z == 0) = true ↔ u = zr u.length := by
  rw [List.all_eq_true]
  constructor
  · intro h
    refine List.eq_replicate_iff.mpr ⟨rfl, fun x hx => ?_⟩
    have := h x hx
    simpa using this
  · intro h z hz
    rw [h] at hz
    rw [List.eq_of_mem_replicate hz]; rfl
theorem has_sp {i n : Nat} {a : List Vec} (hi : i ≤ n) (t : Tri i n a) {v : Vec} (lv : v.length = n) : Nf02.has a v = true ↔ Sp n a v := by
  obtain ⟨h1, ⟨w, sw, ew⟩, h3, h4⟩ := rest_ok hi t lv
  have lw := sw.len t.wd
  show ((rest a v).all fun z => z == 0) = true ↔ _
  rw [has_zr, h1]
  constructor
  · intro e
    rw [ew] at e
    have : v = scale (-1) w := by
      refine vext (by rw [len_scale]; omega) fun j hj => ?_
      have e2 : (plus v w).getD j 0 = (zr n).getD j 0 := congrArg (fun x : Vec => x.getD j 0) e
      rw [gd_plus (by omega), gd_zero] at e2
      rw [gd_scale]; omega
    rw [this]
    exact sw.scale t.wd _
  · intro s
    have sr : Sp n a (rest a v) := by rw [ew]; exact s.plus t.wd sw
    have zv : Zf i v := by
      refine Sp.all (P := fun v => v.length = n ∧ Zf i v) ⟨len_zr, Zf.zr⟩ (fun c v x p hx => ?_) s |>.2
      obtain ⟨j, hj, rfl⟩ := List.getElem_of_mem hx
      have lx := t.wd _ hx
      refine ⟨by rw [len_ax (by omega)]; exact p.1, Zf.ax (by omega) p.2 ((t.zf j _ (List.getElem?_eq_getElem hj)).mono (by have := t.len; omega))⟩
    exact red_zero t sr h4 fun j hj => by rw [h3 j hj]; exact zv j hj
/-! ### what the other list has -/
theorem fill_pt {n : Nat} {l : List Nat} {a : List Vec} (hl : l.length ≤ n) (hp : ∀ x ∈ l, 0 < x) : a ∈ Nf02.fill n [] l ↔ owns a = l ∧ Pt n a := by
  rw [mem_fill]
  constructor
  · rintro ⟨h1, h2⟩
    have vl : ∀ {i : Nat} {v : Vec}, i < l.length → v ∈ cl ([] ++ l.take i) → v.length = i := by
      intro i v hi hv
      rw [(cl_mem.mp hv).1, List.nil_append, List.length_take]; omega
    have eo : owns a = l := by
      refine List.ext_getElem? fun i => ?_
      by_cases h : i < a.length
      · have e1 : a[i]? = some a[i] := List.getElem?_eq_getElem h
        have e2 : l[i]? = some (l[i]'(by omega)) := List.getElem?_eq_getElem (by omega)
        obtain ⟨v, hv, e⟩ := h2 i _ _ e1 e2
        rw [owns_get e1, e2, e, List.length_nil, Nat.zero_add, rowOf_own (vl (by omega) hv)]
        simp
      · rw [List.getElem?_eq_none (by rw [owns_len]; omega), List.getElem?_eq_none (by omega)]
    refine ⟨eo, fun i r hr => ?_⟩
    have hi : i < a.length := (List.getElem?_eq_some_iff.mp hr).1
    have e2 : l[i]? = some (l[i]'(by omega)) := List.getElem?_eq_getElem (by omega)
    obtain ⟨v, hv, e⟩ := h2 i _ r hr e2
    refine ⟨v, l[i]'(by omega), hp _ (List.getElem_mem _), ?_, by rw [e, List.length_nil, Nat.zero_add]⟩
    rw [owns_take, eo]; simpa using hv
  · rintro ⟨rfl, p⟩
    refine ⟨owns_len.symm, fun i d r hr hd => ?_⟩
    obtain ⟨v, c, hc, hv, e⟩ := p i r hr
    have hi : i < a.length := (List.getElem?_eq_some_iff.mp hr).1
    have vl : v.length = i := by rw [(cl_mem.mp hv).1, owns_len, List.length_take]; omega
    refine ⟨v, by rw [List.nil_append, ← owns_take]; exact hv, ?_⟩
    rw [owns_get hr, e, rowOf_own vl] at hd
    have : c = d := by simpa using hd
    rw [e, this, List.length_nil, Nat.zero_add]
theorem pt_norm {n : Nat} {a : List Vec} (p : Pt n a) (h : a.length ≤ n) : Nf02.norm a = (owns a).foldr (· * ·) 1 := norm_owns (p.tri h).1
theorem pt_pos {n : Nat} {a : List Vec} (p : Pt n a) (h : a.length ≤ n) : ∀ x ∈ owns a, 0 < x := fun x hx => by
  obtain ⟨j, hj, rfl⟩ := List.getElem_of_mem hx
  rw [owns_len] at hj
  have e := owns_get (List.getElem?_eq_getElem hj)
  rw [List.getElem?_eq_getElem (by rw [owns_len]; exact hj)] at e
  rw [Option.some.inj e]
  have := (p.tri h).1.pos j a[j] (List.getElem?_eq_getElem hj)
  omega
theorem norm_pos {n : Nat} {a : List Vec} (p : Pt n a) (h : a.length ≤ n) : 0 < Nf02.norm a := (norm_kills h (p.tri h).1).1
theorem mem_ofNorm {k : Vec} {m : Nat} {a : List Vec} (hm : 0 < m) : a ∈ Nf02.ofNorm k m ↔ a.length = k.length ∧ Pt k.length a ∧ Nf02.norm a = m ∧ ∀ r ∈ a, Nf02.has a (up_ k r) = true := by
  show a ∈ List.filter _ _ ↔ _
  rw [List.mem_filter, List.mem_flatMap, List.all_eq_true]
  constructor
  · rintro ⟨⟨l, hl, ha⟩, h⟩
    obtain ⟨h1, h2, h3⟩ := (mem_shapes hm).mp hl
    have h1' : l.length = k.length := h1
    obtain ⟨h4, h5⟩ := (fill_pt (by show l.length ≤ k.length; omega) h2).mp ha
    have hlen : a.length = k.length := by rw [← h1', ← h4, owns_len]
    exact ⟨hlen, h5, by rw [pt_norm h5 (by show a.length ≤ k.length; omega), h4, h3], h⟩
  · rintro ⟨h1, h2, h3, h4⟩
    have hp := pt_pos h2 (by omega)
    exact ⟨⟨owns a, (mem_shapes hm).mpr ⟨by rw [owns_len, h1]; rfl, hp, by rw [← pt_norm h2 (by omega), h3]⟩, (fill_pt (by rw [owns_len]; show a.length ≤ k.length; omega) hp).mpr ⟨rfl, h2⟩⟩, h4⟩
theorem ofNorm_lt {k : Vec} {m : Nat} (hm : 0 < m) : (Nf02.ofNorm k m).Pairwise klt := by
  refine List.Pairwise.filter _ ?_
  rw [List.pairwise_flatMap]
  have ho : ∀ {l : List Nat} {a : List Vec}, l ∈ Nf02.shapes (Nf01.Field.n k) m → a ∈ Nf02.fill (Nf01.Field.n k) [] l → ownI a = l.map fun (x : Nat) => (x : Int) := by
    intro l a hl ha
    obtain ⟨h1, h2, h3⟩ := (mem_shapes hm).mp hl
    unfold ownI
    rw [((fill_pt (by omega) h2).mp ha).1]
  refine ⟨fun l hl => ?_, ?_⟩
  · exact (fill_lt l []).imp_of_mem fun hx hy h => .inr ⟨by rw [ho hl hx, ho hl hy], h⟩
  · have := shapes_lt (Nf01.Field.n k) m
    rw [List.pairwise_map] at this
    exact this.imp_of_mem fun ha hb h x hx y hy => .inl (by rw [ho ha hx, ho hb hy]; exact h)
/-! ### what the program's list has -/
def nxr (n : Nat) (a : List Vec) (left : Nat) : List Vec := (List.range left).flatMap fun i => if left % (i + 1) = 0 ∧ (a.length < n - 1 ∨ i + 1 = left) then (cl (owns a)).map fun v => rowOf n a.length v (i + 1) else []
def clsd (k : Vec) (a : List Vec) : Bool := decide (a.length < 2) || Nf02.has a (up_ k (a.getD (a.length - 2) []))
def lng (k : Vec) (some : List (List Vec)) (m : Nat) : List (List Vec) := some.flatMap fun a => ((nxr k.length a (m / Nf02.norm a)).filter fun r => clsd k (a ++ [r])).map fun r => a ++ [r]
def lev (k : Vec) (m : Nat) : Nat → List (List Vec)
  | 0 => [[]]
  | i + 1 => lng k (lev k m i) m
def pfin (k : Vec) (m : Nat) : List (List Vec) := (lev k m k.length).filter fun a => Nf02.has a (up_ k (a.getD (a.length - 1) []))
theorem mem_nxr {n : Nat} {a : List Vec} {left : Nat} {r : Vec} : r ∈ nxr n a left ↔ ∃ v d, 0 < d ∧ d ≤ left ∧ left % d = 0 ∧ (a.length < n - 1 ∨ d = left) ∧ v ∈ cl (owns a) ∧ r = rowOf n a.length v d := by
  unfold nxr
  rw [List.mem_flatMap]
  constructor
  · rintro ⟨i, hi, h⟩
    rw [List.mem_range] at hi
    split at h
    next hc =>
      obtain ⟨v, hv, rfl⟩ := List.mem_map.mp h
      exact ⟨v, i + 1, by omega, by omega, hc.1, hc.2, hv, rfl⟩
    next => cases h
  · rintro ⟨v, d, h1, h2, h3, h4, h5, rfl⟩
    refine ⟨d - 1, List.mem_range.mpr (by omega), ?_⟩
    rw [show d - 1 + 1 = d by omega, if_pos ⟨h3, h4⟩]
    exact List.mem_map.mpr ⟨v, h5, rfl⟩
theorem up_zf {k r : Vec} {j : Nat} (hr : r.length = k.length) (hj : j + 2 ≤ k.length) (z : Zf (j + 1) r) : Zf (j + 2) (up_ k r) := fun q hq => by
  have h0 : 0 < k.length := by omega
  by_cases h : q < k.length
  · rw [gd_up_ hr h0 q h, if_neg (by omega), z (q - 1) (by omega), z (k.length - 1) (by omega)]; omega
  · exact gd_out (by rw [len_up_ hr h0]; omega)
def Lv (k : Vec) (m i : Nat) (a : List Vec) : Prop := a.length = i ∧ Pt k.length a ∧ Nf02.norm a ∣ m ∧ (i = k.length → Nf02.norm a = m) ∧ ∀ (j : Nat) (r : Vec), j + 1 < i → a[j]? = some r → Sp k.length a (up_ k r)
theorem clsd_iff {k : Vec} {a : List Vec} {r : Vec} (p : Pt k.length (a ++ [r])) (h : a.length < k.length) : clsd k (a ++ [r]) = true ↔ ∀ q, 0 < a.length → a[a.length - 1]? = some q → Sp k.length (a ++ [r]) (up_ k q) := by
  have t := (p.tri (by simp; omega)).1
  unfold clsd
  rw [Bool.or_eq_true, decide_eq_true_eq, List.length_append, List.length_singleton]
  by_cases h0 : a.length = 0
  · exact ⟨fun _ q hq => by omega, fun _ => .inl (by omega)⟩
  · have e : (a ++ [r]).getD (a.length + 1 - 2) [] = a[a.length - 1]'(by omega) := by
      rw [List.getD_eq_getElem?_getD, List.getElem?_append_left (by omega), show a.length + 1 - 2 = a.length - 1 by omega, List.getElem?_eq_getElem (by omega)]; rfl
    have lq : (a[a.length - 1]'(by omega)).length = k.length := t.wd _ (List.mem_append_left _ (List.getElem_mem _))
    have h1 := has_sp (by rw [List.length_append, List.length_singleton]; omega) t (v := up_ k (a[a.length - 1]'(by omega))) (len_up_ lq (by omega))
    rw [e, h1]
    constructor
    · rintro (h | h) q _ hq
      · omega
      · rw [List.getElem?_eq_getElem (by omega)] at hq
        rw [← Option.some.inj hq]; exact h
    · intro H
      exact .inr (H _ (by omega) (List.getElem?_eq_getElem _))
theorem mem_lev {k : Vec} {m : Nat} (hm : 0 < m) (h0 : 0 < k.length) : ∀ (i : Nat), i ≤ k.length → ∀ a, a ∈ lev k m i ↔ Lv k m i a
  | 0, _, a => by
    show a ∈ [[]] ↔ _
    constructor
    · intro h
      have : a = [] := by simpa using h
      subst this
      exact ⟨rfl, fun i r h => by simp at h, by show 1 ∣ m; exact Nat.one_dvd m, fun e => by omega, fun j r hj => by omega⟩
    · rintro ⟨h, _⟩
      have : a = [] := List.eq_nil_of_length_eq_zero h
      subst this; simp
  | i + 1, hi, a' => by
    have ih := mem_lev hm h0 i (by omega)
    show a' ∈ List.flatMap _ _ ↔ _
    rw [List.mem_flatMap]
    constructor
    · rintro ⟨a, ha, h⟩
      obtain ⟨r, hr, rfl⟩ := List.mem_map.mp h
      rw [List.mem_filter] at hr
      obtain ⟨h1, h2, h3, h4, h5⟩ := (ih a).mp ha
      obtain ⟨v, d, d1, d2, d3, d4, d5, rfl⟩ := mem_nxr.mp hr.1
      have p : Pt k.length (a ++ [rowOf k.length a.length v d]) := Pt.snoc.mpr ⟨h2, v, d, d1, d5, rfl⟩
      have vl : v.length = a.length := by rw [(cl_mem.mp d5).1, owns_len]
      have hq : Nf02.norm a * (m / Nf02.norm a) = m := Nat.mul_div_cancel' h3
      have en : Nf02.norm (a ++ [rowOf k.length a.length v d]) = Nf02.norm a * d := by
        rw [norm_snoc, rowOf_own vl]; rfl
      have hc := (clsd_iff p (by omega)).mp hr.2
      refine ⟨by simp [h1], p, ?_, fun e => ?_, fun j q hj hq' => ?_⟩
      · rw [en]
        have := Nat.mul_dvd_mul_left (Nf02.norm a) (Nat.dvd_of_mod_eq_zero d3)
        rwa [hq] at this
      · rw [en]
        rcases d4 with d4 | d4
        · omega
        · rw [d4, hq]
      · rw [List.getElem?_append_left (by omega)] at hq'
        by_cases e : j + 1 = i
        · have e2 : a.length - 1 = j := by omega
          exact hc q (by omega) (by rw [e2]; exact hq')
        · exact (h5 j q (by omega) hq').mono fun x hx => List.mem_append_left _ hx
    · rintro ⟨h1, h2, h3, h4, h5⟩
      obtain ⟨a, r, rfl⟩ : ∃ D' q, a' = D' ++ [q] := by
        have hne : a' ≠ [] := fun e => by rw [e] at h1; simp at h1
        exact ⟨a'.dropLast, a'.getLast hne, (List.dropLast_concat_getLast hne).symm⟩
      have hl : a.length = i := by simpa using h1
      have t := (h2.tri (by omega)).1
      obtain ⟨p, v, d, d1, d2, rfl⟩ := Pt.snoc.mp h2
      have vl : v.length = a.length := by rw [(cl_mem.mp d2).1, owns_len]
      have en : Nf02.norm (a ++ [rowOf k.length a.length v d]) = Nf02.norm a * d := by
        rw [norm_snoc, rowOf_own vl]; rfl
      rw [en] at h3 h4
      have hp := norm_pos p (by omega)
      have hdv : d ∣ m / Nf02.norm a := Nat.dvd_div_of_mul_dvd h3
      have hna : Nf02.norm a ∣ m := Nat.dvd_trans (Nat.dvd_mul_right _ _) h3
      have hlp : 0 < m / Nf02.norm a := Nat.div_pos (Nat.le_of_dvd hm hna) hp
      refine ⟨a, (ih a).mpr ⟨hl, p, hna, fun e => by omega, fun j q hj hq => ?_⟩, List.mem_map.mpr ⟨_, List.mem_filter.mpr ⟨mem_nxr.mpr ⟨v, d, d1, Nat.le_of_dvd hlp hdv, Nat.mod_eq_zero_of_dvd hdv, ?_, d2, rfl⟩, ?_⟩, rfl⟩⟩
      · have s := h5 j q (by omega) (by rw [List.getElem?_append_left (by omega)]; exact hq)
        have lq : q.length = k.length := (p.tri (by omega)).1.wd q (List.mem_of_getElem? hq)
        have z := up_zf lq (by omega) ((p.tri (by omega)).1.zf j q hq)
        have := tri_sp t i _ (by simp; omega) s (z.mono (by omega))
        rwa [List.take_left' hl] at this
      · by_cases e : i + 1 = k.length
        · right
          rw [← h4 e, Nat.mul_div_cancel_left _ hp]
        · left; omega
      · refine (clsd_iff h2 (by omega)).mpr fun q hq hq' => ?_
        exact h5 (a.length - 1) q (by omega) (by rw [List.getElem?_append_left (by omega)]; exact hq')
theorem mem_pfin {k : Vec} {m : Nat} (hm : 0 < m) (h0 : 0 < k.length) (a : List Vec) : a ∈ pfin k m ↔ a ∈ Nf02.ofNorm k m := by
  rw [mem_ofNorm hm]
  unfold pfin
  rw [List.mem_filter, mem_lev hm h0 _ (Nat.le_refl _)]
  constructor
  · rintro ⟨⟨h1, h2, h3, h4, h5⟩, h6⟩
    have t := (h2.tri (by omega)).1
    rw [h1] at t
    refine ⟨h1, h2, h4 rfl, fun r hr => ?_⟩
    obtain ⟨j, hj, rfl⟩ := List.getElem_of_mem hr
    by_cases e : j + 1 < k.length
    · exact (has_sp (Nat.le_refl _) t (len_up_ (t.wd _ hr) h0)).mpr (h5 j _ e (List.getElem?_eq_getElem hj))
    · have e2 : a.length - 1 = j := by omega
      have e3 : a.getD (a.length - 1) [] = a[j] := by rw [e2, List.getD_eq_getElem?_getD, List.getElem?_eq_getElem hj]; rfl
      rw [e3] at h6; exact h6
  · rintro ⟨h1, h2, h3, h4⟩
    have t := (h2.tri (by omega)).1
    rw [h1] at t
    refine ⟨⟨h1, h2, h3 ▸ Nat.dvd_refl _, fun _ => h3, fun j r _ hr => ?_⟩, ?_⟩
    · have hm := List.mem_of_getElem? hr
      exact (has_sp (Nat.le_refl _) t (len_up_ (t.wd _ hm) h0)).mp (h4 r hm)
    · have hj : a.length - 1 < a.length := by omega
      have e3 : a.getD (a.length - 1) [] = a[a.length - 1] := by rw [List.getD_eq_getElem?_getD, List.getElem?_eq_getElem hj]; rfl
      rw [e3]; exact h4 _ (List.getElem_mem _)
/-! ### no two alike; how many -/
theorem nxr_nodup {n : Nat} {a : List Vec} {left : Nat} : (nxr n a left).Nodup := by
  have vl : ∀ {v : Vec}, v ∈ cl (owns a) → v.length = a.length := fun hv => by rw [(cl_mem.mp hv).1, owns_len]
  unfold nxr
  rw [List.nodup_iff_pairwise_ne, List.pairwise_flatMap]
  refine ⟨fun i _ => ?_, ?_⟩
  · split
    · rw [List.pairwise_map]
      refine (cl_lt (owns a)).imp_of_mem fun {v w} hv hw h e => ?_
      have e2 := congrArg (List.take a.length) e
      unfold rowOf at e2
      rw [List.take_left' (vl hv), List.take_left' (vl hw)] at e2
      subst e2; exact ltI_irr _ h
    · exact .nil
  · refine List.pairwise_lt_range.imp fun {i j} h x hx y hy e => ?_
    have key : ∀ {i : Nat} {x : Vec}, x ∈ (if left % (i + 1) = 0 ∧ (a.length < n - 1 ∨ i + 1 = left) then (cl (owns a)).map fun v => rowOf n a.length v (i + 1) else []) → x.getD a.length 0 = ((i + 1 : Nat) : Int) := by
      intro i x hx
      split at hx
      · obtain ⟨v, hv, rfl⟩ := List.mem_map.mp hx
        exact rowOf_own (vl hv)
      · cases hx
    have h1 := key hx
    have h2 := key hy
    rw [e, h2] at h1
    omega
theorem lng_nodup {k : Vec} {m : Nat} {l : List (List Vec)} (h : l.Nodup) : (lng k l m).Nodup := by
  unfold lng
  rw [List.nodup_iff_pairwise_ne, List.pairwise_flatMap]
  refine ⟨fun a _ => ?_, ?_⟩
  · rw [List.pairwise_map]
    refine (List.Pairwise.filter _ (List.nodup_iff_pairwise_ne.mp nxr_nodup)).imp fun {r s} h e => h ?_
    have := List.append_cancel_left e
    simpa using this
  · refine (List.nodup_iff_pairwise_ne.mp h).imp fun {a b} h x hx y hy e => h ?_
    obtain ⟨r, _, rfl⟩ := List.mem_map.mp hx
    obtain ⟨s, _, rfl⟩ := List.mem_map.mp hy
    have := congrArg List.dropLast e
    simpa using this
theorem lev_nodup {k : Vec} {m : Nat} : ∀ i, (lev k m i).Nodup
  | 0 => by simp [lev]
  | i + 1 => lng_nodup (lev_nodup i)
theorem pfin_nodup {k : Vec} {m : Nat} : (pfin k m).Nodup := List.Pairwise.filter _ (lev_nodup _)
/-- **the order makes it** -/
theorem sorted_norm {k : Vec} {m : Nat} (hm : 0 < m) (h0 : 0 < k.length) {l : List (List Vec)} (hp : l.Perm (pfin k m)) (hs : l.Pairwise fun a b => ¬ klt b a) : l = Nf02.ofNorm k m := by
  have h1 := ofNorm_lt (k := k) hm
  have h2 : (Nf02.ofNorm k m).Nodup := List.nodup_iff_pairwise_ne.mpr (h1.imp fun h e => by subst e; exact klt_irr _ h)
  have h3 : l.Perm (Nf02.ofNorm k m) := hp.trans ((List.perm_ext_iff_of_nodup pfin_nodup h2).mpr fun a => mem_pfin hm h0 a)
  refine List.Perm.eq_of_pairwise (le := fun a b => ¬ klt b a) (fun a b _ _ h g => klt_tri g h) hs (h1.imp fun h g => klt_irr _ (klt_trans h g)) h3
theorem len_flat_le {α β : Type} {f : α → List β} {c : Nat} : ∀ {l : List α}, (∀ x ∈ l, (f x).length ≤ c) → (l.flatMap f).length ≤ l.length * c
  | [], _ => by simp
  | x :: l, h => by
    rw [List.flatMap_cons, List.length_append, List.length_cons, Nat.add_mul, Nat.one_mul]
    have h1 := h x (by simp)
    have h2 := len_flat_le (l := l) fun y hy => h y (by simp [hy])
    omega
theorem nxr_len {n : Nat} {a : List Vec} {m : Nat} (t : Tri a.length n a) : (nxr n a (m / Nf02.norm a)).length ≤ m := by
  refine Nat.le_trans (len_flat_le (c := Nf02.norm a) fun i _ => ?_) ?_
  · split
    · rw [List.length_map, cl_len_norm t]; exact Nat.le_refl _
    · exact Nat.zero_le _
  · rw [List.length_range]; exact Nat.div_mul_le_self _ _
theorem lev_len {k : Vec} {m : Nat} (hm : 0 < m) (h0 : 0 < k.length) : ∀ i, i ≤ k.length → (lev k m i).length ≤ m ^ i
  | 0, _ => by simp [lev]
  | i + 1, hi => by
    refine Nat.le_trans (len_flat_le (c := m) fun a ha => ?_) ?_
    · rw [List.length_map]
      refine Nat.le_trans (List.length_filter_le _ _) ?_
      have h := (mem_lev hm h0 i (by omega) a).mp ha
      exact nxr_len (h.2.1.tri (by rw [h.1]; omega)).1
    · rw [Nat.pow_succ]; exact Nat.mul_le_mul_right _ (lev_len hm h0 i (by omega))
end Ir

/-! IrN: when a ring's polynomial has no part of a lower degree. -/
namespace Ir
/-- what it comes to at a whole number -/
def val (k : List Int) (x : Int) : Int := k.reverse.foldl (fun v a => v * x + a) 1
theorem value_eq (k : List Int) (x : Int) : Nf01.value (Nf01.poly k) x = val k x := by
  unfold Nf01.value Nf01.poly val
  rw [List.reverse_append]
  simp
/-! ### the rest by x x + b x + c -/
def rm (b c : Int) : List Int → Int × Int
  | [] => (0, 0)
  | a :: f => (a - c * (rm b c f).2, (rm b c f).1 - b * (rm b c f).2)
def Zr (b c : Int) (f : List Int) : Prop := rm b c f = (0, 0)
section
variable {b c : Int}
theorem rm_plus : ∀ (f g : List Int), rm b c (Re02.plus f g) = ((rm b c f).1 + (rm b c g).1, (rm b c f).2 + (rm b c g).2)
  | [], g => by
    have : Re02.plus [] g = g := by cases g <;> rfl
    rw [this]; simp [rm]
  | a :: f, [] => by
    have : Re02.plus (a :: f) [] = a :: f := rfl
    rw [this]; simp [rm]
  | a :: f, d :: g => by
    have : Re02.plus (a :: f) (d :: g) = (a + d) :: Re02.plus f g := rfl
    rw [this]
    simp only [rm, rm_plus f g]
    ext <;> grind
theorem rm_scale (d : Int) : ∀ f : List Int, rm b c (Re02.scale d f) = (d * (rm b c f).1, d * (rm b c f).2)
  | [] => by simp [Re02.scale, rm]
  | a :: f => by
    have : Re02.scale d (a :: f) = (d * a) :: Re02.scale d f := rfl
    rw [this]
    simp only [rm, rm_scale d f]
    ext <;> grind
theorem rm_zeros : ∀ (n : Nat) {f : List Int}, Zr b c f → Zr b c (List.replicate n 0 ++ f)
  | 0, f, h => by simpa using h
  | n + 1, f, h => by
    rw [List.replicate_succ, List.cons_append]
    have := rm_zeros n h
    unfold Zr at this ⊢
    simp [rm, this]
theorem rm_self : Zr b c [c, b, 1] := by
  unfold Zr; simp [rm]
theorem trim_cons (a : Int) (f : List Int) : Re02.trim (a :: f) = if a = 0 ∧ Re02.trim f = [] then [] else a :: Re02.trim f := rfl
theorem rm_trim : ∀ f : List Int, rm b c (Re02.trim f) = rm b c f
  | [] => rfl
  | a :: f => by
    have ih := rm_trim f
    rw [trim_cons]
    split
    next h =>
      rw [h.2] at ih
      have e : rm b c f = (0, 0) := ih.symm
      rw [h.1]; simp [rm, e]
    next => simp only [rm, ih]
theorem content_foldl : ∀ (f : List Int) (n : Nat), (f.foldl (fun n a => Nat.gcd n a.natAbs) n ∣ n) ∧ ∀ a ∈ f, f.foldl (fun n a => Nat.gcd n a.natAbs) n ∣ a.natAbs
  | [], n => ⟨Nat.dvd_refl _, fun a h => by cases h⟩
  | x :: f, n => by
    obtain ⟨h1, h2⟩ := content_foldl f (Nat.gcd n x.natAbs)
    refine ⟨Nat.dvd_trans h1 (Nat.gcd_dvd_left _ _), fun a ha => ?_⟩
    rcases List.mem_cons.mp ha with rfl | ha
    · exact Nat.dvd_trans h1 (Nat.gcd_dvd_right _ _)
    · exact h2 a ha
theorem content_dvd {f : List Int} {a : Int} (h : a ∈ f) : (Re02.content f : Int) ∣ a := Int.dvd_natAbs.mp (Int.natCast_dvd_natCast.mpr ((content_foldl f 0).2 a h))
theorem content_zero {f : List Int} (h : Re02.content f = 0) : ∀ a ∈ f, a = 0 := fun a ha => by
  have := content_dvd ha
  rw [h] at this
  simpa using this
theorem rm_allzero : ∀ {f : List Int}, (∀ a ∈ f, a = 0) → Zr b c f
  | [], _ => rfl
  | a :: f, h => by
    have := rm_allzero (f := f) fun x hx => h x (by simp [hx])
    have h0 := h a (by simp)
    unfold Zr at this ⊢
    simp [rm, this, h0]
theorem rm_plain (f : List Int) : Zr b c (Re02.plain f) ↔ Zr b c f := by
  unfold Re02.plain
  by_cases h : Re02.content f = 0
  · rw [if_pos h]
    exact ⟨fun _ => rm_allzero (content_zero h), fun _ => rfl⟩
  · rw [if_neg h]
    have e : Re02.scale (Re02.content f : Int) (f.map fun a => a / (Re02.content f : Int)) = f := by
      unfold Re02.scale
      rw [List.map_map]
      refine List.ext_getElem (by simp) fun i h1 h2 => ?_
      simp only [List.getElem_map, Function.comp]
      exact Int.mul_ediv_cancel' (content_dvd (List.getElem_mem _))
    have e2 := congrArg (rm b c) e
    rw [rm_scale] at e2
    have hz : (Re02.content f : Int) ≠ 0 := by omega
    unfold Zr
    constructor
    · intro hh
      rw [hh] at e2
      rw [← e2]; simp
    · intro hh
      rw [hh, Prod.mk.injEq] at e2
      have h1 := (Int.mul_eq_zero.mp e2.1).resolve_left hz
      have h2 := (Int.mul_eq_zero.mp e2.2).resolve_left hz
      exact Prod.ext h1 h2
/-! its end isn't 0 -/
def Tr (f : List Int) : Prop := f = [] ∨ f.getLastD 0 ≠ 0
theorem trim_tr : ∀ f : List Int, Tr (Re02.trim f)
  | [] => .inl rfl
  | a :: f => by
    rw [trim_cons]
    split
    · exact .inl rfl
    next h =>
      right
      rcases trim_tr f with e | e
      · rw [e]
        have : a ≠ 0 := fun e2 => h ⟨e2, e⟩
        simpa using this
      · cases hf : Re02.trim f with
        | nil => rw [hf] at e; exact absurd rfl e
        | cons d g =>
          rw [hf] at e
          simpa using e
theorem plain_tr {f : List Int} (h : Tr f) : Tr (Re02.plain f) := by
  unfold Re02.plain
  by_cases hc : Re02.content f = 0
  · rw [if_pos hc]; exact .inl rfl
  · rw [if_neg hc]
    rcases h with h | h
    · left; rw [h]; rfl
    · right
      cases f with
      | nil => exact absurd rfl h
      | cons a f =>
        rw [List.getLastD_eq_getLast?, List.getLast?_map]
        rw [List.getLastD_eq_getLast?] at h
        have hm := List.getLast?_eq_some_getLast (List.cons_ne_nil a f)
        rw [hm] at h ⊢
        simp only [Option.getD_some, Option.map_some] at h ⊢
        intro e
        have := Int.mul_ediv_cancel' (content_dvd (List.getLast_mem (List.cons_ne_nil a f)))
        rw [e, Int.mul_zero] at this
        exact h this.symm
theorem plain_len (f : List Int) : (Re02.plain f).length ≤ f.length := by
  unfold Re02.plain
  split
  · exact Nat.zero_le _
  · simp
theorem trim_len : ∀ f : List Int, (Re02.trim f).length ≤ f.length
  | [] => Nat.zero_le _
  | a :: f => by
    rw [trim_cons]
    split
    · exact Nat.zero_le _
    · simp only [List.length_cons]
      have := trim_len f; omega
theorem trim_less : ∀ (f : List Int), (Re02.trim (f ++ [0])).length ≤ f.length
  | [] => by decide
  | a :: f => by
    rw [List.cons_append, trim_cons]
    split
    · exact Nat.zero_le _
    · simp only [List.length_cons]
      have := trim_less f; omega
theorem plus_snoc : ∀ {f g : List Int} {x y : Int}, f.length = g.length → Re02.plus (f ++ [x]) (g ++ [y]) = Re02.plus f g ++ [x + y]
  | [], [], _, _, _ => rfl
  | [], _ :: _, _, _, h => by simp at h
  | _ :: _, [], _, _, h => by simp at h
  | a :: f, d :: g, x, y, h => by
    show (a + d) :: Re02.plus (f ++ [x]) (g ++ [y]) = _
    rw [plus_snoc (by simpa using h)]; rfl
theorem len_plus2 : ∀ {f g : List Int}, f.length = g.length → (Re02.plus f g).length = f.length
  | [], [], _ => rfl
  | [], _ :: _, h => by simp at h
  | _ :: _, [], h => by simp at h
  | a :: f, d :: g, h => by
    show (Re02.plus f g).length + 1 = _
    rw [len_plus2 (by simpa using h)]; rfl
/-- one step down -/
def dn (b c : Int) (f : List Int) : List Int := Re02.plain (Re02.trim (Re02.plus (Re02.scale 1 f) (Re02.scale (-1) (List.replicate (f.length - 3) 0 ++ Re02.scale (Re02.lead f) [c, b, 1]))))
theorem rest_succ (n : Nat) (f : List Int) : Re02.rest (n + 1) f [c, b, 1] = if f.length < 3 then f else Re02.rest n (dn b c f) [c, b, 1] := by
  show (if f.length < 3 ∨ ([c, b, 1] : List Int) = [] then f else _) = _
  by_cases h : f.length < 3
  · rw [if_pos h, if_pos (.inl h)]
  · rw [if_neg h, if_neg (by simp [h])]; rfl
theorem dn_zr (f : List Int) : Zr b c (dn b c f) ↔ Zr b c f := by
  unfold dn
  rw [rm_plain]
  unfold Zr
  rw [rm_trim, rm_plus, rm_scale, rm_scale]
  have h : rm b c (List.replicate (f.length - 3) 0 ++ Re02.scale (Re02.lead f) [c, b, 1]) = (0, 0) := rm_zeros _ (by
    show rm b c _ = _
    rw [rm_scale, show rm b c [c, b, 1] = (0, 0) from rm_self]; simp)
  rw [h]
  constructor
  · intro e
    rw [Prod.mk.injEq] at e
    exact Prod.ext (by simpa using e.1) (by simpa using e.2)
  · intro e
    rw [e]; simp
theorem dn_tr (f : List Int) : Tr (dn b c f) := plain_tr (trim_tr _)
theorem dn_len {f : List Int} (h : 3 ≤ f.length) : (dn b c f).length < f.length := by
  unfold dn
  refine Nat.lt_of_le_of_lt (plain_len _) ?_
  obtain ⟨g, x, rfl⟩ : ∃ g x, f = g ++ [x] := by
    have hne : f ≠ [] := fun e => by rw [e] at h; simp at h
    exact ⟨f.dropLast, f.getLast hne, (List.dropLast_concat_getLast hne).symm⟩
  have hl : Re02.lead (g ++ [x]) = x := by simp [Re02.lead]
  have e1 : Re02.scale 1 (g ++ [x]) = g ++ [x] := by simp [Re02.scale]
  have e2 : Re02.scale (-1) (List.replicate ((g ++ [x]).length - 3) 0 ++ Re02.scale x [c, b, 1]) = Re02.scale (-1) (List.replicate ((g ++ [x]).length - 3) 0 ++ [x * c, x * b]) ++ [-x] := by simp [Re02.scale]
  have hg : 2 ≤ g.length := by simp at h; omega
  rw [hl, e1, e2, plus_snoc (by simp [Re02.scale]; omega), show x + -x = 0 by omega]
  refine Nat.lt_of_le_of_lt (trim_less _) ?_
  rw [len_plus2 (by simp [Re02.scale]; omega)]; simp
theorem rest_zero : ∀ (n : Nat) (f : List Int), f.length ≤ n + 2 → Tr f → ((Re02.rest n f [c, b, 1]).isEmpty = true ↔ Zr b c f)
  | 0, f, h, t => by
    show f.isEmpty = true ↔ _
    exact small h t
  | n + 1, f, h, t => by
    rw [rest_succ]
    split
    next hl => exact small (by omega) t
    next hl =>
      rw [rest_zero n _ (by have := dn_len (b := b) (c := c) (f := f) (by omega); omega) (dn_tr f), dn_zr]
where
  small {f : List Int} (h : f.length ≤ 2) (t : Tr f) : f.isEmpty = true ↔ Zr b c f := by
    match f, h with
    | [], _ => exact ⟨fun _ => rfl, fun _ => rfl⟩
    | [x], _ =>
      have hx : x ≠ 0 := by
        rcases t with t | t
        · simp at t
        · simpa using t
      simp [Zr, rm, hx]
    | [x, y], _ =>
      have hy : y ≠ 0 := by
        rcases t with t | t
        · simp at t
        · simpa using t
      simp [Zr, rm, hy]
end
/-- two parts of degree 2 -/
def Pair4 (k0 k1 k2 k3 b c e f : Int) : Prop := c * f = k0 ∧ b * f + e * c = k1 ∧ c + f + b * e = k2 ∧ b + e = k3
theorem divides_iff {k0 k1 k2 k3 b c : Int} : Nf01.divides [c, b, 1] [k0, k1, k2, k3, 1] = true ↔ ∃ e f, Pair4 k0 k1 k2 k3 b c e f := by
  show (Re02.rest 5 [k0, k1, k2, k3, 1] [c, b, 1]).isEmpty = true ↔ _
  rw [rest_zero 5 _ (by simp) (.inr (by simp))]
  unfold Zr Pair4
  simp only [rm, Prod.mk.injEq]
  constructor
  · rintro ⟨h1, h2⟩
    exact ⟨k3 - b, k2 - c - b * (k3 - b), by grind, by grind, by grind, by grind⟩
  · rintro ⟨e, f, h1, h2, h3, h4⟩
    subst h1 h2 h3 h4
    constructor <;> grind
theorem mem_divisors {z r : Int} : r ∈ Nf01.divisors z ↔ z ≠ 0 ∧ r ∣ z := by
  unfold Nf01.divisors
  rw [List.mem_flatMap]
  constructor
  · rintro ⟨i, hi, h⟩
    rw [List.mem_range] at hi
    split at h
    next hd =>
      refine ⟨by omega, ?_⟩
      have h1 : ((i + 1 : Nat) : Int) ∣ z := Int.dvd_natAbs.mp (Int.natCast_dvd_natCast.mpr (Nat.dvd_of_mod_eq_zero hd))
      rcases List.mem_cons.mp h with rfl | h
      · exact h1
      · have : r = 0 - ((i + 1 : Nat) : Int) := by simpa using h
        rw [this, Int.zero_sub]; exact Int.neg_dvd.mpr h1
    next => cases h
  · rintro ⟨h0, h⟩
    have hn : r.natAbs ∣ z.natAbs := Int.natAbs_dvd_natAbs.mpr h
    have hr : 0 < r.natAbs := Nat.pos_of_ne_zero fun e => by
      rw [e] at hn
      have := Nat.eq_zero_of_zero_dvd hn
      omega
    have hle := Nat.le_of_dvd (by omega) hn
    refine ⟨r.natAbs - 1, List.mem_range.mpr (by omega), ?_⟩
    rw [show r.natAbs - 1 + 1 = r.natAbs by omega, if_pos (Nat.mod_eq_zero_of_dvd hn)]
    simp only [List.mem_cons, List.not_mem_nil, or_false]
    omega
end Ir

/-! IrO: the ring's polynomial: whether it can be parted, as the program and as the other one tell it. -/
namespace Ir
def Irr (k : List Int) : Prop := (∀ x, val k x ≠ 0) ∧ ∀ k0 k1 k2 k3, k = [k0, k1, k2, k3] → ∀ b c e f, ¬ Pair4 k0 k1 k2 k3 b c e f
theorem val_cons (a : Int) (k : List Int) (x : Int) : val (a :: k) x = val k x * x + a := by
  unfold val
  rw [List.reverse_cons, List.foldl_append]; rfl
theorem root_dvd {k : List Int} {x : Int} (h0 : 0 < k.length) (h : val k x = 0) : x ∣ k.headD 0 := by
  cases k with
  | nil => simp at h0
  | cons a k =>
    rw [val_cons] at h
    exact ⟨- val k x, by show a = _; grind⟩
theorem val_zero {k : List Int} (h0 : 0 < k.length) : val k 0 = k.headD 0 := by
  cases k with
  | nil => simp at h0
  | cons a k => rw [val_cons]; simp
theorem four {k : List Int} (h : k.length = 4) : ∃ k0 k1 k2 k3, k = [k0, k1, k2, k3] := by
  match k, h with
  | [a, b, c, d], _ => exact ⟨a, b, c, d, rfl⟩
theorem far_eq (k0 k1 k2 k3 : Int) : Re02.far (Nf01.poly [k0, k1, k2, k3]) = k0.natAbs + k1.natAbs + k2.natAbs + k3.natAbs + 2 := by
  unfold Re02.far Nf01.poly
  simp; omega
theorem pair_small {k0 k1 k2 k3 b c e f : Int} (h : Pair4 k0 k1 k2 k3 b c e f) (h0 : k0 ≠ 0) :
    b.natAbs ≤ 2 * (k0.natAbs + k1.natAbs + k2.natAbs + k3.natAbs + 2) ∧ c ≠ 0 ∧ f ≠ 0 ∧ c.natAbs ≤ k0.natAbs ∧ f.natAbs ≤ k0.natAbs ∧ (k0.natAbs ≤ 20 → k2.natAbs ≤ 20 → k3.natAbs ≤ 20 → b.natAbs ≤ 42) := by
  obtain ⟨h1, h2, h3, h4⟩ := h
  have hc : c ≠ 0 := fun e => by rw [e] at h1; omega
  have hf : f ≠ 0 := fun e => by rw [e] at h1; omega
  have e1 : c.natAbs * f.natAbs = k0.natAbs := by rw [← Int.natAbs_mul, h1]
  have c1 : c.natAbs ≤ k0.natAbs := by rw [← e1]; exact Nat.le_mul_of_pos_right _ (by omega)
  have f1 : f.natAbs ≤ k0.natAbs := by rw [← e1]; exact Nat.le_mul_of_pos_left _ (by omega)
  have e2 : b.natAbs * e.natAbs = (k2 - c - f).natAbs := by rw [← Int.natAbs_mul]; congr 1; omega
  refine ⟨Nat.le_of_not_lt fun hb => ?_, hc, hf, c1, f1, fun a1 a2 a3 => Nat.le_of_not_lt fun hb => ?_⟩
  · have he : 4 ≤ e.natAbs := by omega
    have := Nat.mul_le_mul (Nat.le_of_lt hb) he
    omega
  · have he : 23 ≤ e.natAbs := by omega
    have := Nat.mul_le_mul (show 43 ≤ b.natAbs by omega) he
    omega
theorem prime_irr {k : List Int} (hk : RingOk k) : Nf01.prime k = true ↔ Irr k := by
  have h0 : 0 < k.length := hk.pos
  have hn : ¬ Nf01.Field.n k = 1 := by have := hk.1; show ¬ k.length = 1; omega
  have ex : Nf01.prime k = (if k.headD 0 = 0 then false else (Nf01.divisors (k.headD 0)).all (fun r => Nf01.value (Nf01.poly k) r != 0) && (Nf01.Field.n k != 4 || (Nf01.divisors (k.headD 0)).all fun c =>
      (List.range (4 * Re02.far (Nf01.poly k) + 1)).all fun i => !Nf01.divides [c, (i : Int) - 2 * Re02.far (Nf01.poly k), 1] (Nf01.poly k))) := by
    show (if Nf01.Field.n k = 1 then true else _) = _
    rw [if_neg hn]
  rw [ex]
  by_cases hz : k.headD 0 = 0
  · rw [if_pos hz]
    refine ⟨fun h => absurd h (by decide), fun h => absurd ?_ (h.1 0)⟩
    rw [val_zero h0]; exact hz
  · rw [if_neg hz, Bool.and_eq_true, List.all_eq_true]
    have hr : (∀ r ∈ Nf01.divisors (k.headD 0), (Nf01.value (Nf01.poly k) r != 0) = true) ↔ ∀ x, val k x ≠ 0 := by
      constructor
      · intro H x hx
        have := H x (mem_divisors.mpr ⟨hz, root_dvd h0 hx⟩)
        rw [value_eq, hx] at this
        exact absurd this (by decide)
      · intro H r _
        rw [value_eq]
        exact bne_iff_ne.mpr (H r)
    rw [hr]
    refine and_congr_right fun _ => ?_
    by_cases h4 : k.length = 4
    · obtain ⟨k0, k1, k2, k3, rfl⟩ := four h4
      have hz' : k0 ≠ 0 := hz
      have hb : (Nf01.Field.n [k0, k1, k2, k3] != 4) = false := by rfl
      rw [hb, Bool.false_or, List.all_eq_true, far_eq]
      constructor
      · intro H j0 j1 j2 j3 ej b c e f hp
        simp only [List.cons.injEq, and_true] at ej
        obtain ⟨rfl, rfl, rfl, rfl⟩ := ej
        obtain ⟨s1, s2, s3, s4, s5, _⟩ := pair_small hp hz'
        have h1 := H c (mem_divisors.mpr ⟨hz, ⟨f, hp.1.symm⟩⟩)
        rw [List.all_eq_true] at h1
        have h2 := h1 (b + 2 * ((k0.natAbs + k1.natAbs + k2.natAbs + k3.natAbs + 2 : Nat) : Int)).toNat (List.mem_range.mpr (by omega))
        have e3 : (((b + 2 * ((k0.natAbs + k1.natAbs + k2.natAbs + k3.natAbs + 2 : Nat) : Int)).toNat : Nat) : Int) - 2 * ((k0.natAbs + k1.natAbs + k2.natAbs + k3.natAbs + 2 : Nat) : Int) = b := by omega
        rw [e3] at h2
        have h3 : Nf01.divides [c, b, 1] [k0, k1, k2, k3, 1] = true := divides_iff.mpr ⟨e, f, hp⟩
        have h4 : Nf01.divides [c, b, 1] (Nf01.poly [k0, k1, k2, k3]) = true := h3
        rw [h4] at h2
        exact absurd h2 (by decide)
      · intro H c hc
        rw [List.all_eq_true]
        intro i _
        rw [Bool.not_eq_true']
        refine Bool.eq_false_iff.mpr fun hd => ?_
        have hd' : Nf01.divides [c, (i : Int) - 2 * ((k0.natAbs + k1.natAbs + k2.natAbs + k3.natAbs + 2 : Nat) : Int), 1] [k0, k1, k2, k3, 1] = true := hd
        obtain ⟨e, f, hp⟩ := divides_iff.mp hd'
        exact H k0 k1 k2 k3 rfl _ c e f hp
    · have hb : (Nf01.Field.n k != 4) = true := bne_iff_ne.mpr h4
      rw [hb, Bool.true_or]
      refine ⟨fun _ k0 k1 k2 k3 e => ?_, fun _ => rfl⟩
      rw [e] at h4; exact absurd rfl h4
/-! ### the program's look -/
def hasRoot (k : List Int) : Bool := (List.range 41).any fun i => val k ((i : Int) - 20) == 0
def partsB (k : List Int) (m l : Int) : Bool := if (k.getD 0 0).fmod l ≠ 0 then false else
  if l + (k.getD 0 0).fdiv l + m * (k.getD 3 0 - m) ≠ k.getD 2 0 then false else m * (k.getD 0 0).fdiv l + l * (k.getD 3 0 - m) == k.getD 1 0
def hasTwo (k : List Int) : Bool := (List.range 41).any fun i => (List.range 85).any fun j => decide ((i : Int) - 20 ≠ 0) && partsB k ((j : Int) - 42) ((i : Int) - 20)
def canPart (k : List Int) : Bool := hasRoot k || (k.length == 4 && hasTwo k)
theorem root_iff {k : List Int} (hk : RingOk k) : hasRoot k = true ↔ ∃ x, val k x = 0 := by
  unfold hasRoot
  rw [List.any_eq_true]
  constructor
  · rintro ⟨i, _, h⟩
    exact ⟨_, by simpa using h⟩
  · rintro ⟨x, hx⟩
    have hd := root_dvd hk.pos hx
    have hle : x.natAbs ≤ 20 := by
      by_cases hz : k.headD 0 = 0
      · -- 0 is a root, but this one may be another: then the next number's
        by_cases hx0 : x = 0
        · omega
        · -- it divides the first number that is not 0
          have key : ∀ l : List Int, (∀ z ∈ l, z.natAbs ≤ 20) → val l x = 0 → x.natAbs ≤ 20 := by
            intro l
            induction l with
            | nil => intro _ h; exact absurd h (by show (1 : Int) ≠ 0; decide)
            | cons a l ih =>
              intro hl h
              rw [val_cons] at h
              by_cases ha : a = 0
              · rw [ha, Int.add_zero] at h
                exact ih (fun z hz => hl z (by simp [hz])) ((Int.mul_eq_zero.mp h).resolve_right hx0)
              · have hd : x ∣ a := ⟨- val l x, by grind⟩
                have hn : x.natAbs ∣ a.natAbs := Int.natAbs_dvd_natAbs.mpr hd
                have := Nat.le_of_dvd (by omega) hn
                have := hl a (by simp)
                omega
          exact key k hk.2.2 hx
      · have hn : x.natAbs ∣ (k.headD 0).natAbs := Int.natAbs_dvd_natAbs.mpr hd
        have h1 := Nat.le_of_dvd (by omega) hn
        have h2 : (k.headD 0).natAbs ≤ 20 := by
          have := hk.pos
          cases k with
          | nil => simp at this
          | cons a k => exact hk.2.2 a (by simp)
        omega
    refine ⟨(x + 20).toNat, List.mem_range.mpr (by omega), ?_⟩
    rw [show (((x + 20).toNat : Nat) : Int) - 20 = x by omega, hx]; rfl
theorem parts_iff {k0 k1 k2 k3 m l : Int} (hl : l ≠ 0) : partsB [k0, k1, k2, k3] m l = true ↔ ∃ e f, Pair4 k0 k1 k2 k3 m l e f := by
  unfold partsB Pair4
  simp only [List.getD_cons_zero, List.getD_cons_succ]
  constructor
  · intro h
    split at h
    · exact absurd h (by decide)
    next h1 =>
      split at h
      · exact absurd h (by decide)
      next h2 =>
        have h1' : k0.fmod l = 0 := Decidable.not_not.mp h1
        have e0 : l * k0.fdiv l = k0 := by
          have := Int.fmod_add_mul_fdiv k0 l
          omega
        have h2' := Decidable.not_not.mp h2
        have h3 : m * k0.fdiv l + l * (k3 - m) = k1 := by simpa using h
        exact ⟨k3 - m, k0.fdiv l, e0, by rw [Int.mul_comm (k3 - m) l]; exact h3, h2', by omega⟩
  · rintro ⟨e, f, h1, h2, h3, h4⟩
    have e1 : k0.fdiv l = f := by rw [← h1]; exact Int.mul_fdiv_cancel_left f hl
    have e2 : k0.fmod l = 0 := by
      have := Int.fmod_add_mul_fdiv k0 l
      rw [e1, h1] at this; omega
    have e3 : k3 - m = e := by omega
    rw [e1, e3, if_neg (by rw [e2]; exact fun h => h rfl), if_neg (by rw [h3]; exact fun h => h rfl)]
    rw [← h2, Int.mul_comm l e]; simp
theorem two_iff {k0 k1 k2 k3 : Int} (hk : RingOk [k0, k1, k2, k3]) (h0 : k0 ≠ 0) : hasTwo [k0, k1, k2, k3] = true ↔ ∃ b c e f, Pair4 k0 k1 k2 k3 b c e f := by
  unfold hasTwo
  rw [List.any_eq_true]
  constructor
  · rintro ⟨i, _, h⟩
    rw [List.any_eq_true] at h
    obtain ⟨j, _, h⟩ := h
    rw [Bool.and_eq_true, decide_eq_true_eq] at h
    obtain ⟨e, f, hp⟩ := (parts_iff h.1).mp h.2
    exact ⟨_, _, e, f, hp⟩
  · rintro ⟨b, c, e, f, hp⟩
    obtain ⟨s1, s2, s3, s4, s5, s6⟩ := pair_small hp h0
    have a0 := hk.2.2 k0 (by simp)
    have a2 := hk.2.2 k2 (by simp)
    have a3 := hk.2.2 k3 (by simp)
    have sb := s6 a0 a2 a3
    refine ⟨(c + 20).toNat, List.mem_range.mpr (by omega), ?_⟩
    rw [show (((c + 20).toNat : Nat) : Int) - 20 = c by omega, List.any_eq_true]
    refine ⟨(b + 42).toNat, List.mem_range.mpr (by omega), ?_⟩
    rw [show (((b + 42).toNat : Nat) : Int) - 42 = b by omega, Bool.and_eq_true, decide_eq_true_eq]
    exact ⟨s2, (parts_iff s2).mpr ⟨e, f, hp⟩⟩
/-- **the program and the other one agree** -/
theorem canPart_eq {k : List Int} (hk : RingOk k) : canPart k = !Nf01.prime k := by
  have key : canPart k = true ↔ ¬ Nf01.prime k = true := by
    rw [prime_irr hk]
    unfold canPart
    rw [Bool.or_eq_true, root_iff hk, Bool.and_eq_true]
    constructor
    · rintro (⟨x, hx⟩ | ⟨h4, h2⟩) hi
      · exact hi.1 x hx
      · obtain ⟨k0, k1, k2, k3, rfl⟩ := four (by simpa using h4)
        have hz : k0 ≠ 0 := fun e => hi.1 0 (by rw [val_zero (by simp)]; exact e)
        obtain ⟨b, c, e, f, hp⟩ := (two_iff hk hz).mp h2
        exact hi.2 k0 k1 k2 k3 rfl b c e f hp
    · intro h
      refine Classical.byContradiction fun hn => h ⟨fun x hx => hn (.inl ⟨x, hx⟩), fun k0 k1 k2 k3 ek b c e f hp => hn ?_⟩
      subst ek
      by_cases hz : k0 = 0
      · exact .inl ⟨0, by rw [val_zero (by simp)]; exact hz⟩
      · exact .inr ⟨rfl, (two_iff hk hz).mpr ⟨b, c, e, f, hp⟩⟩
  cases h : Nf01.prime k
  · rw [h] at key; exact key.mpr (by decide)
  · rw [h] at key
    cases h2 : canPart k
    · rfl
    · exact absurd rfl (key.mp h2)
end Ir

/-! IrP: a ring whose polynomial has no part: its numbers' products with the root's powers make full rows. -/
namespace Ir
open Nf02 (plus scale)
/-! ### a root of the two-place form is a whole one -/
theorem cop {u w : Int} (hw : w ≠ 0) : ∃ g u' w' : Int, g ≠ 0 ∧ w' ≠ 0 ∧ u = g * u' ∧ w = g * w' ∧ Int.gcd u' w' = 1 := by
  have hg : 0 < Int.gcd u w := Int.gcd_pos_of_ne_zero_right u hw
  obtain ⟨a, ha⟩ := Int.gcd_dvd_left (a := u) (b := w)
  obtain ⟨b, hb⟩ := Int.gcd_dvd_right (a := u) (b := w)
  refine ⟨(Int.gcd u w : Int), a, b, by omega, fun e => ?_, ha, hb, ?_⟩
  · rw [e, Int.mul_zero] at hb; exact hw hb
  · have h1 : Int.gcd u w = Int.gcd u w * Int.gcd a b := by
      have := Int.gcd_mul_left (Int.gcd u w : Int) a b
      rw [← ha, ← hb] at this
      simpa using this
    have h2 : Int.gcd u w * Int.gcd a b = Int.gcd u w * 1 := by omega
    exact Nat.eq_of_mul_eq_mul_left hg h2
theorem unit_of {u w : Int} (hc : Int.gcd u w = 1) : ∀ (n : Nat), w ∣ u ^ n → w = 1 ∨ w = -1 := by
  intro n h
  have h1 : w.natAbs ∣ u.natAbs ^ n := by
    have := Int.natAbs_dvd_natAbs.mpr h
    rwa [Int.natAbs_pow] at this
  have h2 : Nat.Coprime w.natAbs (u.natAbs ^ n) := (Nat.Coprime.pow_left n (show Nat.Coprime u.natAbs w.natAbs from hc)).symm
  have h3 := Nat.Coprime.eq_one_of_dvd h2 h1
  omega
theorem hom2 {k0 k1 u w : Int} (hw : w ≠ 0) (h : u * u + k1 * u * w + k0 * w * w = 0) : ∃ x, val [k0, k1] x = 0 := by
  obtain ⟨g, a, b, hg, hb, rfl, rfl, hc⟩ := cop (u := u) hw
  have h1 : g * g * (a * a + k1 * a * b + k0 * b * b) = 0 := by grind
  have h2 := (Int.mul_eq_zero.mp h1).resolve_left (by simp [hg])
  have hd : b ∣ a ^ 2 := ⟨- (k1 * a + k0 * b), by grind⟩
  rcases unit_of hc 2 hd with rfl | rfl
  · exact ⟨a, by simp only [val, List.reverse_cons, List.reverse_nil, List.nil_append, List.cons_append, List.foldl_cons, List.foldl_nil]; grind⟩
  · exact ⟨-a, by simp only [val, List.reverse_cons, List.reverse_nil, List.nil_append, List.cons_append, List.foldl_cons, List.foldl_nil]; grind⟩
theorem hom3 {k0 k1 k2 u w : Int} (hw : w ≠ 0) (h : u * u * u + k2 * u * u * w + k1 * u * w * w + k0 * w * w * w = 0) : ∃ x, val [k0, k1, k2] x = 0 := by
  obtain ⟨g, a, b, hg, hb, rfl, rfl, hc⟩ := cop (u := u) hw
  have h1 : g * g * g * (a * a * a + k2 * a * a * b + k1 * a * b * b + k0 * b * b * b) = 0 := by grind
  have h2 := (Int.mul_eq_zero.mp h1).resolve_left (by simp [hg])
  have hd : b ∣ a ^ 3 := ⟨- (k2 * a * a + k1 * a * b + k0 * b * b), by grind⟩
  rcases unit_of hc 3 hd with rfl | rfl
  · exact ⟨a, by simp only [val, List.reverse_cons, List.reverse_nil, List.nil_append, List.cons_append, List.foldl_cons, List.foldl_nil]; grind⟩
  · exact ⟨-a, by simp only [val, List.reverse_cons, List.reverse_nil, List.nil_append, List.cons_append, List.foldl_cons, List.foldl_nil]; grind⟩
theorem hom4 {k0 k1 k2 k3 u w : Int} (hw : w ≠ 0) (h : u * u * u * u + k3 * u * u * u * w + k2 * u * u * w * w + k1 * u * w * w * w + k0 * w * w * w * w = 0) : ∃ x, val [k0, k1, k2, k3] x = 0 := by
  obtain ⟨g, a, b, hg, hb, rfl, rfl, hc⟩ := cop (u := u) hw
  have h1 : g * g * g * g * (a * a * a * a + k3 * a * a * a * b + k2 * a * a * b * b + k1 * a * b * b * b + k0 * b * b * b * b) = 0 := by grind
  have h2 := (Int.mul_eq_zero.mp h1).resolve_left (by simp [hg])
  have hd : b ∣ a ^ 4 := ⟨- (k3 * a * a * a + k2 * a * a * b + k1 * a * b * b + k0 * b * b * b), by grind⟩
  rcases unit_of hc 4 hd with rfl | rfl
  · exact ⟨a, by simp only [val, List.reverse_cons, List.reverse_nil, List.nil_append, List.cons_append, List.foldl_cons, List.foldl_nil]; grind⟩
  · exact ⟨-a, by simp only [val, List.reverse_cons, List.reverse_nil, List.nil_append, List.cons_append, List.foldl_cons, List.foldl_nil]; grind⟩
/-! ### two parts of degree 2, times something -/
theorem least_div : ∀ (m : Nat), 1 < m → ∃ q, 1 < q ∧ q ∣ m ∧ ∀ d, d ∣ q → d = 1 ∨ d = q := by
  intro m
  induction m using Nat.strongRecOn with
  | _ m ih =>
    intro hm
    by_cases h : ∀ d, d ∣ m → d = 1 ∨ d = m
    · exact ⟨m, hm, Nat.dvd_refl _, h⟩
    · obtain ⟨d, hd⟩ := Classical.not_forall.mp h
      rw [Classical.not_imp, not_or] at hd
      obtain ⟨h1, h2, h3⟩ := hd
      have h4 : d ≤ m := Nat.le_of_dvd (by omega) h1
      have h5 : d ≠ 0 := fun e => by rw [e] at h1; have := Nat.eq_zero_of_zero_dvd h1; omega
      obtain ⟨q, q1, q2, q3⟩ := ih d (by omega) (by omega)
      exact ⟨q, q1, Nat.dvd_trans q2 h1, q3⟩
theorem prime_mul {q : Nat} (hq : ∀ d, d ∣ q → d = 1 ∨ d = q) {a b : Int} (h : (q : Int) ∣ a * b) : (q : Int) ∣ a ∨ (q : Int) ∣ b := by
  have h1 : q ∣ a.natAbs * b.natAbs := by
    have := Int.natAbs_dvd_natAbs.mpr h
    rwa [Int.natAbs_mul] at this
  rcases hq (Nat.gcd q a.natAbs) (Nat.gcd_dvd_left _ _) with h2 | h2
  · right
    exact Int.dvd_natAbs.mp (Int.natCast_dvd_natCast.mpr (Nat.Coprime.dvd_of_dvd_mul_left h2 h1))
  · left
    have : q ∣ a.natAbs := by
      have := Nat.gcd_dvd_right q a.natAbs
      rwa [h2] at this
    exact Int.dvd_natAbs.mp (Int.natCast_dvd_natCast.mpr this)
def Mul4 (N k0 k1 k2 k3 g0 g1 g2 h0 h1 h2 : Int) : Prop := g0 * h0 = N * k0 ∧ g0 * h1 + g1 * h0 = N * k1 ∧ g0 * h2 + g1 * h1 + g2 * h0 = N * k2 ∧ g1 * h2 + g2 * h1 = N * k3 ∧ g2 * h2 = N
theorem all_one {q : Int} (hq : ∀ a b : Int, q ∣ a * b → q ∣ a ∨ q ∣ b) {N k0 k1 k2 k3 g0 g1 g2 h0 h1 h2 : Int} (hN : q ∣ N) (h : Mul4 N k0 k1 k2 k3 g0 g1 g2 h0 h1 h2) (ng : ¬ (q ∣ g0 ∧ q ∣ g1 ∧ q ∣ g2)) : q ∣ h0 ∧ q ∣ h1 ∧ q ∣ h2 := by
  obtain ⟨e0, e1, e2, e3, e4⟩ := h
  have d0 : q ∣ g0 * h0 := by rw [e0]; exact Int.dvd_mul_of_dvd_left hN
  have d1 : q ∣ g0 * h1 + g1 * h0 := by rw [e1]; exact Int.dvd_mul_of_dvd_left hN
  have d2 : q ∣ g0 * h2 + g1 * h1 + g2 * h0 := by rw [e2]; exact Int.dvd_mul_of_dvd_left hN
  have d3 : q ∣ g1 * h2 + g2 * h1 := by rw [e3]; exact Int.dvd_mul_of_dvd_left hN
  have d4 : q ∣ g2 * h2 := by rw [e4]; exact hN
  have ml : ∀ {a b : Int}, q ∣ a → q ∣ a * b := fun h => Int.dvd_mul_of_dvd_left h
  have mr : ∀ {a b : Int}, q ∣ b → q ∣ a * b := fun h => Int.dvd_mul_of_dvd_right h
  by_cases c0 : q ∣ g0
  · by_cases c1 : q ∣ g1
    · have c2 : ¬ q ∣ g2 := fun c2 => ng ⟨c0, c1, c2⟩
      have x0 : q ∣ h0 := by
        have : q ∣ g2 * h0 := (Int.dvd_add_right (Int.dvd_add (ml c0) (ml c1))).mp d2
        exact (hq _ _ this).resolve_left c2
      have x1 : q ∣ h1 := by
        have : q ∣ g2 * h1 := (Int.dvd_add_right (ml c1)).mp d3
        exact (hq _ _ this).resolve_left c2
      exact ⟨x0, x1, (hq _ _ d4).resolve_left c2⟩
    · have x0 : q ∣ h0 := by
        have : q ∣ g1 * h0 := (Int.dvd_add_right (ml c0)).mp d1
        exact (hq _ _ this).resolve_left c1
      have x1 : q ∣ h1 := by
        have : q ∣ g0 * h2 + g1 * h1 := (Int.dvd_add_left (mr x0)).mp d2
        have : q ∣ g1 * h1 := (Int.dvd_add_right (ml c0)).mp this
        exact (hq _ _ this).resolve_left c1
      have x2 : q ∣ h2 := by
        have : q ∣ g1 * h2 := (Int.dvd_add_left (mr x1)).mp d3
        exact (hq _ _ this).resolve_left c1
      exact ⟨x0, x1, x2⟩
  · have x0 : q ∣ h0 := (hq _ _ d0).resolve_left c0
    have x1 : q ∣ h1 := by
      have : q ∣ g0 * h1 := (Int.dvd_add_left (mr x0)).mp d1
      exact (hq _ _ this).resolve_left c0
    have x2 : q ∣ h2 := by
      have : q ∣ g0 * h2 + g1 * h1 := (Int.dvd_add_left (mr x0)).mp d2
      have : q ∣ g0 * h2 := (Int.dvd_add_left (mr x1)).mp this
      exact (hq _ _ this).resolve_left c0
    exact ⟨x0, x1, x2⟩
theorem gauss4 {k0 k1 k2 k3 : Int} : ∀ (m : Nat) (N g0 g1 g2 h0 h1 h2 : Int), N.natAbs = m → N ≠ 0 → Mul4 N k0 k1 k2 k3 g0 g1 g2 h0 h1 h2 → ∃ b c e f, Pair4 k0 k1 k2 k3 b c e f := by
  intro m
  induction m using Nat.strongRecOn with
  | _ m ih =>
    intro N g0 g1 g2 h0 h1 h2 hm hN h
    by_cases h1' : m = 1
    · obtain ⟨e0, e1, e2, e3, e4⟩ := h
      have hd : g2 ∣ N := ⟨h2, e4.symm⟩
      have hg : g2 = 1 ∨ g2 = -1 := by
        have h5 : g2.natAbs ∣ N.natAbs := Int.natAbs_dvd_natAbs.mpr hd
        rw [hm, h1'] at h5
        have := Nat.eq_one_of_dvd_one h5
        omega
      refine ⟨g1 * g2, g0 * g2, h1 * h2, h0 * h2, ?_⟩
      have hNN : N = 1 ∨ N = -1 := by omega
      unfold Pair4
      rcases hg with rfl | rfl <;> rcases hNN with rfl | rfl <;>
        (have e5 : h2 = 1 ∨ h2 = -1 := by omega
         rcases e5 with rfl | rfl <;> first | (exfalso; omega) | (refine ⟨?_, ?_, ?_, ?_⟩ <;> grind))
    · obtain ⟨q, q1, q2, q3⟩ := least_div m (by omega)
      have hq : ∀ a b : Int, (q : Int) ∣ a * b → (q : Int) ∣ a ∨ (q : Int) ∣ b := fun a b => prime_mul q3
      have hqN : (q : Int) ∣ N := Int.dvd_natAbs.mp (Int.natCast_dvd_natCast.mpr (hm ▸ q2))
      obtain ⟨M, rfl⟩ := hqN
      have hq0 : (q : Int) ≠ 0 := by omega
      have hM : M ≠ 0 := fun e => by rw [e] at hN; simp at hN
      have hlt : M.natAbs < m := by
        rw [← hm, Int.natAbs_mul, Int.natAbs_natCast]
        have := Nat.mul_le_mul_right M.natAbs q1
        omega
      by_cases ng : (q : Int) ∣ g0 ∧ (q : Int) ∣ g1 ∧ (q : Int) ∣ g2
      · obtain ⟨⟨a0, rfl⟩, ⟨a1, rfl⟩, ⟨a2, rfl⟩⟩ := ng
        obtain ⟨e0, e1, e2, e3, e4⟩ := h
        refine ih M.natAbs hlt M a0 a1 a2 h0 h1 h2 rfl hM ⟨?_, ?_, ?_, ?_, ?_⟩
        · exact Int.eq_of_mul_eq_mul_left hq0 (by grind)
        · exact Int.eq_of_mul_eq_mul_left hq0 (by grind)
        · exact Int.eq_of_mul_eq_mul_left hq0 (by grind)
        · exact Int.eq_of_mul_eq_mul_left hq0 (by grind)
        · exact Int.eq_of_mul_eq_mul_left hq0 (by grind)
      · obtain ⟨⟨a0, rfl⟩, ⟨a1, rfl⟩, ⟨a2, rfl⟩⟩ := all_one hq (Int.dvd_mul_right _ _) h ng
        obtain ⟨e0, e1, e2, e3, e4⟩ := h
        refine ih M.natAbs hlt M g0 g1 g2 a0 a1 a2 rfl hM ⟨?_, ?_, ?_, ?_, ?_⟩
        · exact Int.eq_of_mul_eq_mul_left hq0 (by grind)
        · exact Int.eq_of_mul_eq_mul_left hq0 (by grind)
        · exact Int.eq_of_mul_eq_mul_left hq0 (by grind)
        · exact Int.eq_of_mul_eq_mul_left hq0 (by grind)
        · exact Int.eq_of_mul_eq_mul_left hq0 (by grind)
end Ir

/-! IrQ: full rows of a number's products with the root's powers. -/
namespace Ir
open Nf02 (plus scale)
/-! ### relations -/
def Rl (X : Nat → Nat → Int) (g : Vec) : Prop := ∀ j, sm g (fun i => X i j) = 0
structure Md (k : Vec) (X : Nat → Nat → Int) : Prop where
  sh : ∀ g, Rl X g → ∀ j, sm g (fun i => X (i + 1) j) = 0
  p : ∀ j, X k.length j + sm k (fun i => X i j) = 0
  nz : ∃ j, X 0 j ≠ 0
  irr : Irr k
section
variable {X : Nat → Nat → Int}
theorem rl1 {b a : Int} : Rl X [b, a] ↔ ∀ j, b * X 0 j + a * X 1 j = 0 := by
  unfold Rl; simp [sm]
theorem rl2 {c b a : Int} : Rl X [c, b, a] ↔ ∀ j, c * X 0 j + (b * X 1 j + a * X 2 j) = 0 := by
  unfold Rl; simp [sm]
theorem rl3 {d c b a : Int} : Rl X [d, c, b, a] ↔ ∀ j, d * X 0 j + (c * X 1 j + (b * X 2 j + a * X 3 j)) = 0 := by
  unfold Rl; simp [sm]
theorem Md.up {k : Vec} (m : Md k X) {g : Vec} (h : Rl X g) : Rl X (0 :: g) := fun j => by
  show 0 * X 0 j + sm g (fun i => X (i + 1) j) = 0
  rw [m.sh g h j]; omega
theorem one0 {k : Vec} (m : Md k X) {b : Int} (h : Rl X [b, 0]) : b = 0 := by
  obtain ⟨j, hj⟩ := m.nz
  have := rl1.mp h j
  rw [Int.zero_mul, Int.add_zero] at this
  exact (Int.mul_eq_zero.mp this).resolve_right hj
theorem a2 {k0 k1 : Int} (m : Md [k0, k1] X) {b a : Int} (h : Rl X [b, a]) : b = 0 ∧ a = 0 := by
  by_cases ha : a = 0
  · subst ha; exact ⟨one0 m h, rfl⟩
  · exfalso
    obtain ⟨j, hj⟩ := m.nz
    have e1 := rl1.mp h j
    have e2 := rl2.mp (m.up h) j
    have p : X 2 j + (k0 * X 0 j + (k1 * X 1 j + 0)) = 0 := m.p j
    have hh : ((-b) * (-b) + k1 * (-b) * a + k0 * a * a) * X 0 j = 0 := by grind
    obtain ⟨x, hx⟩ := hom2 ha ((Int.mul_eq_zero.mp hh).resolve_right hj)
    exact m.irr.1 x hx
theorem a3 {k0 k1 k2 : Int} (m : Md [k0, k1, k2] X) {b a : Int} (h : Rl X [b, a]) : b = 0 ∧ a = 0 := by
  by_cases ha : a = 0
  · subst ha; exact ⟨one0 m h, rfl⟩
  · exfalso
    obtain ⟨j, hj⟩ := m.nz
    have e1 := rl1.mp h j
    have e2 := rl2.mp (m.up h) j
    have e3 := rl3.mp (m.up (m.up h)) j
    have p : X 3 j + (k0 * X 0 j + (k1 * X 1 j + (k2 * X 2 j + 0))) = 0 := m.p j
    have f1 : a * X 1 j = -b * X 0 j := by grind
    have f2 : a * a * X 2 j = b * b * X 0 j := by grind
    have f3 : a * a * a * X 3 j = - b * b * b * X 0 j := by grind
    have hh : ((-b) * (-b) * (-b) + k2 * (-b) * (-b) * a + k1 * (-b) * a * a + k0 * a * a * a) * X 0 j = 0 := by grind
    obtain ⟨x, hx⟩ := hom3 ha ((Int.mul_eq_zero.mp hh).resolve_right hj)
    exact m.irr.1 x hx
theorem a4 {k0 k1 k2 k3 : Int} (m : Md [k0, k1, k2, k3] X) {b a : Int} (h : Rl X [b, a]) : b = 0 ∧ a = 0 := by
  by_cases ha : a = 0
  · subst ha; exact ⟨one0 m h, rfl⟩
  · exfalso
    obtain ⟨j, hj⟩ := m.nz
    have e1 := rl1.mp h j
    have e2 := rl2.mp (m.up h) j
    have e3 := rl3.mp (m.up (m.up h)) j
    have e4 := m.sh _ (m.up (m.up h)) j
    simp only [sm] at e4
    have p : X 4 j + (k0 * X 0 j + (k1 * X 1 j + (k2 * X 2 j + (k3 * X 3 j + 0)))) = 0 := m.p j
    have f1 : a * X 1 j = -b * X 0 j := by grind
    have f2 : a * a * X 2 j = b * b * X 0 j := by grind
    have f3 : a * a * a * X 3 j = - b * b * b * X 0 j := by grind
    have f4' : a * X 4 j = - b * X 3 j := by grind
    have f4 : a * a * a * a * X 4 j = b * b * b * b * X 0 j := by grind
    have hh : ((-b) * (-b) * (-b) * (-b) + k3 * (-b) * (-b) * (-b) * a + k2 * (-b) * (-b) * a * a + k1 * (-b) * a * a * a + k0 * a * a * a * a) * X 0 j = 0 := by grind
    obtain ⟨x, hx⟩ := hom4 ha ((Int.mul_eq_zero.mp hh).resolve_right hj)
    exact m.irr.1 x hx
theorem b3 {k0 k1 k2 : Int} (m : Md [k0, k1, k2] X) {g0 g1 a : Int} (h : Rl X [g0, g1, a]) : g0 = 0 ∧ g1 = 0 ∧ a = 0 := by
  by_cases ha : a = 0
  · subst ha
    have : Rl X [g0, g1] := rl1.mpr fun j => by have := rl2.mp h j; grind
    obtain ⟨h1, h2⟩ := a3 m this
    exact ⟨h1, h2, rfl⟩
  · exfalso
    have hr : Rl X [a * a * k0 - (a * k2 - g1) * g0, a * a * k1 - a * g0 - (a * k2 - g1) * g1] := rl1.mpr fun j => by
      have e2 := rl2.mp h j
      have e3 := rl3.mp (m.up h) j
      have p : X 3 j + (k0 * X 0 j + (k1 * X 1 j + (k2 * X 2 j + 0))) = 0 := m.p j
      grind
    obtain ⟨r0, r1⟩ := a3 m hr
    have hh : a * a * (-(a * k2 - g1) * -(a * k2 - g1) * -(a * k2 - g1) + k2 * -(a * k2 - g1) * -(a * k2 - g1) * a + k1 * -(a * k2 - g1) * a * a + k0 * a * a * a) = 0 := by grind
    obtain ⟨x, hx⟩ := hom3 ha ((Int.mul_eq_zero.mp hh).resolve_left (by simp [ha]))
    exact m.irr.1 x hx
theorem quo4 (a c e g0 g1 k0 k1 k2 k3 x0 x1 x2 x3 x4 : Int) (hc : a * k3 - g1 = c) (he : a * a * k2 - a * g0 - g1 * c = e) :
    (a * a * a * k0 - e * g0) * x0 + (a * a * a * k1 - a * c * g0 - e * g1) * x1 = a * a * a * (x4 + (k0 * x0 + (k1 * x1 + (k2 * x2 + (k3 * x3 + 0))))) - a * a * (g0 * x2 + (g1 * x3 + a * x4)) - a * c * (g0 * x1 + (g1 * x2 + a * x3)) - e * (g0 * x0 + (g1 * x1 + a * x2)) := by
  subst he; subst hc; grind
theorem b4 {k0 k1 k2 k3 : Int} (m : Md [k0, k1, k2, k3] X) {g0 g1 a : Int} (h : Rl X [g0, g1, a]) : g0 = 0 ∧ g1 = 0 ∧ a = 0 := by
  by_cases ha : a = 0
  · subst ha
    have : Rl X [g0, g1] := rl1.mpr fun j => by have := rl2.mp h j; grind
    obtain ⟨h1, h2⟩ := a4 m this
    exact ⟨h1, h2, rfl⟩
  · exfalso
    -- the quotient's numbers
    generalize hc : a * k3 - g1 = c
    generalize he : a * a * k2 - a * g0 - g1 * c = e
    have hr : Rl X [a * a * a * k0 - e * g0, a * a * a * k1 - a * c * g0 - e * g1] := rl1.mpr fun j => by
      have e2 := rl2.mp h j
      have e3 := rl3.mp (m.up h) j
      have e4 : 0 * X 1 j + (g0 * X 2 j + (g1 * X 3 j + (a * X 4 j + 0))) = 0 := m.sh _ (m.up h) j
      have p : X 4 j + (k0 * X 0 j + (k1 * X 1 j + (k2 * X 2 j + (k3 * X 3 j + 0)))) = 0 := m.p j
      have e3' : g0 * X 1 j + (g1 * X 2 j + a * X 3 j) = 0 := by omega
      have e4' : g0 * X 2 j + (g1 * X 3 j + a * X 4 j) = 0 := by omega
      rw [quo4 a c e g0 g1 k0 k1 k2 k3 _ _ (X 2 j) (X 3 j) (X 4 j) hc he, p, e2, e3', e4']; simp
    obtain ⟨r0, r1⟩ := a4 m hr
    have m0 : g0 * e = a * a * a * k0 := by rw [Int.mul_comm]; omega
    have m1 : g0 * (a * c) + g1 * e = a * a * a * k1 := by
      have e1 : g0 * (a * c) + g1 * e = a * c * g0 + e * g1 := by rw [Int.mul_comm g0, Int.mul_comm g1]
      omega
    have m2 : g0 * (a * a) + g1 * (a * c) + a * e = a * a * a * k2 := by rw [← he]; clear he m0 m1 r0 r1 hr h m; grind
    have m3 : g1 * (a * a) + a * (a * c) = a * a * a * k3 := by rw [← hc]; clear he m0 m1 m2 r0 r1 hr h m; grind
    have m4 : a * (a * a) = a * a * a := (Int.mul_assoc a a a).symm
    obtain ⟨b, c', e', f, hp⟩ := gauss4 (k0 := k0) (k1 := k1) (k2 := k2) (k3 := k3) _ (a * a * a) g0 g1 a e (a * c) (a * a) rfl (by simp [ha]) ⟨m0, m1, m2, m3, m4⟩
    exact m.irr.2 k0 k1 k2 k3 rfl b c' e' f hp
theorem c4 {k0 k1 k2 k3 : Int} (m : Md [k0, k1, k2, k3] X) {g0 g1 g2 a : Int} (h : Rl X [g0, g1, g2, a]) : g0 = 0 ∧ g1 = 0 ∧ g2 = 0 ∧ a = 0 := by
  by_cases ha : a = 0
  · subst ha
    have : Rl X [g0, g1, g2] := rl2.mpr fun j => by have := rl3.mp h j; grind
    obtain ⟨h1, h2, h3⟩ := b4 m this
    exact ⟨h1, h2, h3, rfl⟩
  · exfalso
    generalize hc : a * k3 - g2 = c
    have hr : Rl X [a * a * k0 - c * g0, a * a * k1 - a * g0 - c * g1, a * a * k2 - a * g1 - c * g2] := rl2.mpr fun j => by
      have e3 := rl3.mp h j
      have e4 := m.sh _ h j
      simp only [sm] at e4
      have p : X 4 j + (k0 * X 0 j + (k1 * X 1 j + (k2 * X 2 j + (k3 * X 3 j + 0)))) = 0 := m.p j
      grind
    obtain ⟨r0, r1, r2⟩ := b4 m hr
    have hh : a * a * (-c * -c * -c * -c + k3 * -c * -c * -c * a + k2 * -c * -c * a * a + k1 * -c * a * a * a + k0 * a * a * a * a) = 0 := by
      have e0 : a * a * k0 = c * g0 := by omega
      have e1 : a * a * k1 = a * g0 + c * g1 := by omega
      have e2 : a * a * k2 = a * g1 + c * g2 := by omega
      have e3 : a * k3 = c + g2 := by omega
      have : a * a * (-c * -c * -c * -c + k3 * -c * -c * -c * a + k2 * -c * -c * a * a + k1 * -c * a * a * a + k0 * a * a * a * a) = a * a * c * c * c * c - (a * k3) * a * a * c * c * c + (a * a * k2) * a * a * c * c - (a * a * k1) * a * a * a * c + (a * a * k0) * a * a * a * a := by grind
      rw [this, e0, e1, e2, e3]
      grind
    obtain ⟨x, hx⟩ := hom4 ha ((Int.mul_eq_zero.mp hh).resolve_left (by simp [ha]))
    exact m.irr.1 x hx
/-- no relation of so many -/
theorem no_rel {k : Vec} (hk : RingOk k) (m : Md k X) {g : Vec} (hg : g.length = k.length) (h : Rl X g) : ∀ z ∈ g, z = 0 := by
  obtain ⟨h2, h4, _⟩ := hk
  match k, g, hg, h2, h4 with
  | [_, _], [_, _], _, _, _ =>
    obtain ⟨rfl, rfl⟩ := a2 m h
    intro z hz; simpa using hz
  | [_, _, _], [_, _, _], _, _, _ =>
    obtain ⟨rfl, rfl, rfl⟩ := b3 m h
    intro z hz; simpa using hz
  | [_, _, _, _], [_, _, _, _], _, _, _ =>
    obtain ⟨rfl, rfl, rfl, rfl⟩ := c4 m h
    intro z hz; simpa using hz
end
/-! ### more vectors than places -/
def cmb : Vec → List (Nat → Int) → Nat → Int
  | c :: cs, x :: xs, j => c * x j + cmb cs xs j
  | _, _, _ => 0
theorem cmb_app : ∀ {c1 : Vec} {l1 : List (Nat → Int)} {c2 : Vec} {l2 : List (Nat → Int)} (j : Nat), c1.length = l1.length → cmb (c1 ++ c2) (l1 ++ l2) j = cmb c1 l1 j + cmb c2 l2 j
  | [], [], _, _, _, _ => by simp [cmb]
  | [], _ :: _, _, _, _, h => by simp at h
  | _ :: _, [], _, _, _, h => by simp at h
  | c :: c1, x :: l1, c2, l2, j, h => by
    show c * x j + cmb (c1 ++ c2) (l1 ++ l2) j = c * x j + cmb c1 l1 j + cmb c2 l2 j
    rw [cmb_app j (by simpa using h)]; omega
theorem cmb_turn (a : Int) (m : Nat) (x : Nat → Int) : ∀ (c : Vec) (l : List (Nat → Int)) (j : Nat), cmb c (l.map fun y => fun j => a * y j - y m * x j) j = a * cmb c l j - cmb c l m * x j
  | [], l, j => by simp [cmb]
  | _ :: _, [], j => by simp [cmb]
  | d :: c, y :: l, j => by
    show d * (a * y j - y m * x j) + cmb c (l.map fun y => fun j => a * y j - y m * x j) j = a * (d * y j + cmb c l j) - (d * y m + cmb c l m) * x j
    rw [cmb_turn a m x c l j]; grind
theorem cmb_zero : ∀ (n : Nat) (l : List (Nat → Int)) (j : Nat), cmb (List.replicate n 0) l j = 0
  | 0, _, _ => by simp [cmb]
  | n + 1, [], _ => by simp [cmb]
  | n + 1, x :: l, j => by
    rw [List.replicate_succ]
    show 0 * x j + cmb (List.replicate n 0) l j = 0
    rw [cmb_zero n l j]; omega
theorem dep : ∀ (m : Nat) (l : List (Nat → Int)), m < l.length → (∀ x ∈ l, ∀ j, m ≤ j → x j = 0) → ∃ c : Vec, c.length = l.length ∧ (∃ z ∈ c, z ≠ 0) ∧ ∀ j, cmb c l j = 0
  | 0, l, hl, hz => by
    cases l with
    | nil => simp at hl
    | cons x l =>
      refine ⟨1 :: List.replicate l.length 0, by simp, ⟨1, by simp, by decide⟩, fun j => ?_⟩
      show 1 * x j + cmb (List.replicate l.length 0) l j = 0
      rw [cmb_zero, hz x (by simp) j (Nat.zero_le _)]; omega
  | m + 1, l, hl, hz => by
    by_cases h : ∀ x ∈ l, x m = 0
    · exact dep m l (by omega) fun x hx j hj => by
        rcases Nat.lt_or_eq_of_le hj with q | q
        · exact hz x hx j q
        · rw [← q]; exact h x hx
    · obtain ⟨x, hx⟩ := Classical.not_forall.mp h
      rw [Classical.not_imp] at hx
      obtain ⟨hx, hne⟩ := hx
      obtain ⟨A, B, rfl⟩ := List.append_of_mem hx
      obtain ⟨c, hc, ⟨z, hz1, hz2⟩, hj⟩ := dep m ((A ++ B).map fun y => fun j => x m * y j - y m * x j) (by simp at hl ⊢; omega) fun y hy j hj => by
        obtain ⟨w, hw, rfl⟩ := List.mem_map.mp hy
        have hw' : w ∈ A ++ x :: B := by
          rcases List.mem_append.mp hw with q | q
          · exact List.mem_append_left _ q
          · exact List.mem_append_right _ (List.mem_cons_of_mem _ q)
        show x m * w j - w m * x j = 0
        rcases Nat.lt_or_eq_of_le hj with q | q
        · rw [hz w hw' j q, hz x hx j q]; omega
        · rw [← q, Int.mul_comm]; omega
      rw [List.length_map, List.length_append] at hc
      obtain ⟨c1, c2, rfl, h1, h2⟩ : ∃ c1 c2, c = c1 ++ c2 ∧ c1.length = A.length ∧ c2.length = B.length := ⟨c.take A.length, c.drop A.length, (List.take_append_drop _ _).symm, by rw [List.length_take]; omega, by rw [List.length_drop]; omega⟩
      refine ⟨c1.map (fun d => x m * d) ++ (- cmb (c1 ++ c2) (A ++ B) m) :: c2.map (fun d => x m * d), by simp [h1, h2], ?_, fun j => ?_⟩
      · rcases List.mem_append.mp hz1 with q | q
        · exact ⟨x m * z, List.mem_append_left _ (List.mem_map.mpr ⟨z, q, rfl⟩), fun e => (Int.mul_eq_zero.mp e).elim hne hz2⟩
        · exact ⟨x m * z, List.mem_append_right _ (List.mem_cons_of_mem _ (List.mem_map.mpr ⟨z, q, rfl⟩)), fun e => (Int.mul_eq_zero.mp e).elim hne hz2⟩
      · have sc : ∀ (c : Vec) (l : List (Nat → Int)) (j : Nat), cmb (c.map fun d => x m * d) l j = x m * cmb c l j := by
          intro c
          induction c with
          | nil => intro l j; simp [cmb]
          | cons d c ih =>
            intro l j
            cases l with
            | nil => simp [cmb]
            | cons y l =>
              show x m * d * y j + cmb (c.map fun d => x m * d) l j = x m * (d * y j + cmb c l j)
              rw [ih]; grind
        have e := hj j
        rw [cmb_turn, cmb_app j h1, cmb_app m h1] at e
        rw [cmb_app j (by simpa using h1), cmb_app m h1, sc]
        show _ + ((- (cmb c1 A m + cmb c2 B m)) * x j + cmb (c2.map fun d => x m * d) B j) = 0
        rw [sc]
        grind
theorem cmb_range (f : Nat → Nat → Int) : ∀ (c : Vec) (s : Nat) (j : Nat), cmb c ((List.range' s c.length).map f) j = sm c fun i => f (s + i) j
  | [], s, j => by simp [cmb, sm]
  | d :: c, s, j => by
    rw [List.length_cons, List.range'_succ, List.map_cons]
    show d * f s j + cmb c ((List.range' (s + 1) c.length).map f) j = d * f (s + 0) j + sm c fun i => f (s + (i + 1)) j
    rw [cmb_range f c (s + 1) j]
    congr 1
    refine sm_congr c _ _ fun i _ => ?_
    rw [show s + 1 + i = s + (i + 1) by omega]
/-! ### the ring's -/
theorem upn_neg {k x : Vec} (h0 : 0 < k.length) (i : Nat) (hx : x.length = k.length) (j : Nat) : (upn k i (scale (-1) x)).getD j 0 = - (upn k i x).getD j 0 := by
  have e : scale (-1) x = ax (-2) x x := vext (by rw [len_scale, len_ax rfl]) fun q _ => by rw [gd_scale, gd_ax rfl]; omega
  have l := len_upn h0 i hx
  rw [e, upn_lin h0 i _ hx hx, gd_ax rfl]; omega
theorem cay {k v : Vec} (h0 : 0 < k.length) (hv : v.length = k.length) (j : Nat) : (upn k k.length v).getD j 0 + sm k (fun i => (upn k i v).getD j 0) = 0 := by
  have e1 : sm k (fun i => (upn k i v).getD j 0) = sm v (fun i => (upn k i k).getD j 0) := by
    rw [← gd_times h0 hv, times_comm h0 rfl hv, gd_times h0 rfl]
  have e3 : upn k k.length (un k.length 0) = scale (-1) k := by
    obtain ⟨n, hn⟩ : ∃ n, k.length = n + 1 := ⟨k.length - 1, by omega⟩
    have : upn k k.length (un k.length 0) = up_ k (un k.length n) := by
      have h := upn_up (k := k) n (un k.length 0)
      rw [upn_one h0 n (by omega), ← hn] at h; exact h
    rw [this]
    refine vext (by rw [len_up_ len_un h0, len_scale]) fun q hq => ?_
    rw [len_up_ len_un h0] at hq
    rw [gd_up_ len_un h0 q hq, gd_un (show k.length - 1 < k.length by omega), if_pos (show k.length - 1 = n by omega), gd_scale]
    by_cases h : q = 0
    · rw [if_pos h]; omega
    · rw [if_neg h, gd_un (by omega), if_neg (by omega)]; omega
  rw [upn_sm h0 k.length j hv, e1]
  have e4 : ∀ i, (upn k (k.length + i) (un k.length 0)).getD j 0 = (-1) * (upn k i k).getD j 0 := fun i => by
    rw [Nat.add_comm, ← upn_add, e3, upn_neg h0 i rfl]; omega
  rw [sm_congr v _ (fun i => (-1) * (upn k i k).getD j 0) fun i _ => e4 i, sm_mul]; omega
theorem md_of {k v : Vec} (hk : RingOk k) (hp : Nf01.prime k = true) (hv : v.length = k.length) (nz : v ≠ zr k.length) : Md k (fun i j => (upn k i v).getD j 0) := by
  have h0 := hk.pos
  refine ⟨fun g hg j => ?_, fun j => cay h0 hv j, ?_, (prime_irr hk).mp hp⟩
  · by_cases hj : j < k.length
    · have e : ∀ i, (upn k (i + 1) v).getD j 0 = (if j = 0 then 0 else (upn k i v).getD (j - 1) 0) + (- k.getD j 0) * (upn k i v).getD (k.length - 1) 0 := fun i => by
        rw [upn_up, gd_up_ (len_upn h0 i hv) h0 j hj]; grind
      rw [sm_congr g _ _ fun i _ => e i, sm_add, sm_mul, hg (k.length - 1), Int.mul_zero, Int.add_zero]
      by_cases hz : j = 0
      · simp only [if_pos hz]
        have := sm_mul g 0 (fun _ => 0)
        simpa using this
      · simp only [if_neg hz]
        exact hg (j - 1)
    · have e : ∀ i, (upn k (i + 1) v).getD j 0 = 0 * 0 := fun i => gd_out (by rw [len_upn h0 (i + 1) hv]; omega)
      rw [sm_congr g _ _ fun i _ => e i, sm_mul]; omega
  · refine Classical.byContradiction fun h => nz ?_
    refine vext (by rw [hv, len_zr]) fun j _ => ?_
    rw [gd_zero]
    exact Classical.byContradiction fun hj => h ⟨j, hj⟩
theorem wd_spread {k v : Vec} (h0 : 0 < k.length) (hv : v.length = k.length) : Wd k.length (Nf02.spread k v) := fun x hx => by
  rw [spread_eq] at hx
  obtain ⟨i, _, rfl⟩ := List.mem_map.mp hx
  exact len_upn h0 i hv
theorem sp_spread {k v : Vec} (h0 : 0 < k.length) (hv : v.length = k.length) : ∀ (c : Vec) (s : Nat), s + c.length ≤ k.length → ∃ u, Sp k.length (Nf02.spread k v) u ∧ ∀ j, u.getD j 0 = sm c fun i => (upn k (s + i) v).getD j 0
  | [], s, _ => ⟨zr k.length, .zero, fun j => by rw [gd_zero]; rfl⟩
  | d :: c, s, h => by
    rw [List.length_cons] at h
    obtain ⟨u, su, eu⟩ := sp_spread h0 hv c (s + 1) (by omega)
    have lu := su.len (wd_spread h0 hv)
    have hm : upn k s v ∈ Nf02.spread k v := by
      rw [spread_eq]; exact List.mem_map.mpr ⟨s, List.mem_range.mpr (by omega), rfl⟩
    refine ⟨ax d u (upn k s v), .add d su hm, fun j => ?_⟩
    have ls := len_upn h0 s hv
    rw [gd_ax (by omega), eu j]
    show _ = d * (upn k (s + 0) v).getD j 0 + sm c fun i => (upn k (s + (i + 1)) v).getD j 0
    rw [sm_congr c _ (fun i => (upn k (s + (i + 1)) v).getD j 0) fun i _ => by rw [show s + 1 + i = s + (i + 1) by omega], Nat.add_zero]
    omega
/-- **no number but 0 makes less than all places** -/
theorem spread_full {k v : Vec} (hk : RingOk k) (hp : Nf01.prime k = true) (hv : v.length = k.length) (nz : v ≠ zr k.length) : Full k.length k.length (Nf02.spread k v) := fun p hpn => by
  have h0 := hk.pos
  have m := md_of hk hp hv nz
  have wz : ∀ i j, k.length ≤ j → (upn k i v).getD j 0 = 0 := fun i j hj => gd_out (by rw [len_upn h0 i hv]; exact hj)
  obtain ⟨c, hc, ⟨z, hz1, hz2⟩, hj⟩ := dep k.length ((fun j => (un k.length p).getD j 0) :: (List.range' 0 k.length).map fun i j => (upn k i v).getD j 0) (by simp) fun x hx j hj => by
    rcases List.mem_cons.mp hx with rfl | hx
    · exact gd_out (by rw [len_un]; exact hj)
    · obtain ⟨i, _, rfl⟩ := List.mem_map.mp hx
      exact wz i j hj
  cases c with
  | nil => simp at hc
  | cons c0 c =>
    have hcl : c.length = k.length := by simpa using hc
    have hs : ∀ j, c0 * (un k.length p).getD j 0 + sm c (fun i => (upn k i v).getD j 0) = 0 := fun j => by
      have e := hj j
      have e2 := cmb_range (fun i j => (upn k i v).getD j 0) c 0 j
      rw [hcl] at e2
      have e3 : c0 * (un k.length p).getD j 0 + cmb c ((List.range' 0 k.length).map fun i j => (upn k i v).getD j 0) j = 0 := e
      rw [e2, sm_congr c _ (fun i => (upn k i v).getD j 0) fun i _ => by rw [Nat.zero_add]] at e3
      exact e3
    have hc0 : c0 ≠ 0 := fun e0 => by
      have hr : Rl (fun i j => (upn k i v).getD j 0) c := fun j => by
        have := hs j
        rw [e0, Int.zero_mul, Int.zero_add] at this; exact this
      have hall := no_rel hk m hcl hr
      rcases List.mem_cons.mp hz1 with rfl | hz
      · exact hz2 e0
      · exact hz2 (hall z hz)
    obtain ⟨u, su, eu⟩ := sp_spread h0 hv c 0 (by omega)
    have eu' : ∀ j, u.getD j 0 = - (c0 * (un k.length p).getD j 0) := fun j => by
      rw [eu j, sm_congr c _ (fun i => (upn k i v).getD j 0) fun i _ => by rw [Nat.zero_add]]
      have := hs j; omega
    refine ⟨u, su, fun j hj => ?_, ?_⟩
    · rw [eu' j]
      by_cases q : j < k.length
      · rw [gd_un q, if_neg (by omega)]; omega
      · rw [gd_out (by rw [len_un]; omega)]; omega
    · rw [eu' p, gd_un hpn, if_pos rfl]; omega
end Ir

/-! IrR: an ideal made of numbers: the same rows. -/
namespace Ir
open Nf02 (plus scale)
def mvs' (k : Vec) (l : List Vec) : List Vec := (l.filter fun x => !nought x).flatMap (Nf02.spread k)
theorem cap_p2 : cap PF BF 4 12 22 = true := by decide +kernel
theorem cap_s2 : cap SF BF 4 12 22 = true := by decide +kernel
theorem spread_lt {k x : Vec} (hk : RingOk k) (hx : x.length = k.length) (hb : Lt 7 x) : ∀ y ∈ Nf02.spread k x, Lt 22 y := fun y hy => by
  rw [spread_eq] at hy
  obtain ⟨i, hi, rfl⟩ := List.mem_map.mp hy
  rw [List.mem_range] at hi
  have := hk.2.1
  exact (lt_upn hk i hx hb).mono (by omega)
theorem spread_len' {k x : Vec} : (Nf02.spread k x).length = k.length := by rw [spread_eq]; simp
theorem nought_zr {x : Vec} : nought x = true ↔ x = zr x.length := by
  unfold nought
  rw [List.all_eq_true]
  constructor
  · intro h
    exact List.eq_replicate_iff.mpr ⟨rfl, fun y hy => by have := h y hy; simpa using this⟩
  · intro h z hz
    rw [h] at hz
    rw [List.eq_of_mem_replicate hz]; rfl
theorem flat_wd {k : Vec} {l : List Vec} (h0 : 0 < k.length) (hw : Wd k.length l) : Wd k.length (l.flatMap (Nf02.spread k)) := fun x hx => by
  obtain ⟨v, hv, hx⟩ := List.mem_flatMap.mp hx
  exact wd_spread h0 (hw v hv) x hx
theorem flat_good {F : Nat} {k : Vec} {l : List Vec} (hk : RingOk k) (hp : Nf01.prime k = true) (hw : Wd k.length l) (hb : ∀ x ∈ l, Lt 7 x) (hl : l.length ≤ 3) (hn : ∃ x ∈ l, nought x = false) (hc : cap F BF 4 12 22 = true) :
    Good k.length F BF k.length (l.flatMap (Nf02.spread k)) := by
  have h0 := hk.pos
  have w := flat_wd h0 hw
  have h4 := hk.2.1
  obtain ⟨x, hx, hnx⟩ := hn
  refine good_mk w ((spread_full hk hp (hw x hx) fun e => ?_).mono (fun y hy => .mem w (List.mem_flatMap.mpr ⟨x, hx, hy⟩)) w) (k := 12) (b := 22) ?_ (fun y hy => ?_) ?_
  · rw [nought_zr.mpr (by rw [hw x hx]; exact e)] at hnx
    cases hnx
  · rw [len_flat (m := k.length) fun y _ => spread_len']
    have := Nat.mul_le_mul hl h4
    omega
  · obtain ⟨v, hv, hy⟩ := List.mem_flatMap.mp hy
    exact spread_lt hk (hw v hv) (hb v hv) y hy
  · obtain ⟨j, e⟩ : ∃ j, 4 = k.length + j := ⟨4 - k.length, by omega⟩
    rw [e] at hc; exact cap_le hc
theorem upn_zr {k : Vec} (h0 : 0 < k.length) (i : Nat) : upn k i (zr k.length) = zr k.length := by
  refine vext (by rw [len_upn h0 i len_zr, len_zr]) fun j _ => ?_
  have := upn_neg h0 i (x := zr k.length) len_zr j
  have e : scale (-1) (zr k.length) = zr k.length := vext (by rw [len_scale]) fun q _ => by rw [gd_scale, gd_zero]; omega
  rw [e] at this
  rw [gd_zero]; omega
theorem made_same {k : Vec} {l : List Vec} (hk : RingOk k) (hp : Nf01.prime k = true) (hw : Wd k.length l) (hb : ∀ x ∈ l, Lt 7 x) (hl : l.length ≤ 3) (hn : ∃ x ∈ l, nought x = false) :
    Good k.length PF BF k.length (mvs' k l) ∧ prows k.length (mvs' k l) = Nf02.make k l ∧ Hnf k.length (Nf02.make k l) := by
  have h0 := hk.pos
  have hw' : Wd k.length (l.filter fun x => !nought x) := fun x hx => hw x (List.mem_filter.mp hx).1
  have g1 : Good k.length PF BF k.length (mvs' k l) := by
    refine flat_good hk hp hw' (fun x hx => hb x (List.mem_filter.mp hx).1) (Nat.le_trans (List.length_filter_le _ _) hl) ?_ cap_p2
    obtain ⟨x, hx, hnx⟩ := hn
    exact ⟨x, List.mem_filter.mpr ⟨hx, by rw [hnx]; rfl⟩, hnx⟩
  have g2 := flat_good hk hp hw hb hl hn cap_s2
  have e : Eqs k.length (mvs' k l) (l.flatMap (Nf02.spread k)) := by
    refine Eqs.of g1.wd g2.wd (fun x hx => ?_) fun x hx => ?_
    · obtain ⟨v, hv, hx⟩ := List.mem_flatMap.mp hx
      exact .mem g2.wd (List.mem_flatMap.mpr ⟨v, (List.mem_filter.mp hv).1, hx⟩)
    · obtain ⟨v, hv, hx⟩ := List.mem_flatMap.mp hx
      by_cases hz : nought v = true
      · have e1 : v = zr k.length := by rw [← hw v hv]; exact nought_zr.mp hz
        rw [spread_eq] at hx
        obtain ⟨i, _, rfl⟩ := List.mem_map.mp hx
        rw [e1, upn_zr h0]; exact .zero
      · exact .mem g1.wd (List.mem_flatMap.mpr ⟨v, List.mem_filter.mpr ⟨hv, by simpa using hz⟩, hx⟩)
  obtain ⟨p1, p2⟩ := prog_rows g1
  obtain ⟨s1, s2⟩ := spec_rows g2
  exact ⟨g1, hnf_uniq p1 s1 (p2.trans (e.trans s2.symm)), s1⟩
end Ir

/-! IrS: what is left of the plain law: the numbers put in, of nought, one by another. -/
namespace Ir
open Nf02 (plus scale)
/-- a list in pieces of one length -/
def chunks (n q : Nat) (x : Vec) : List Vec := (List.range q).map fun i => (x.drop (i * n)).take n
theorem chunks_mem {n q : Nat} {x : Vec} (h : x.length = q * n) (hn : 0 < n) {z : Int} : z ∈ x ↔ ∃ v ∈ chunks n q x, z ∈ v := by
  constructor
  · intro hz
    obtain ⟨j, hj, rfl⟩ := List.getElem_of_mem hz
    have hd : j / n < q := Nat.div_lt_of_lt_mul (by rw [Nat.mul_comm]; omega)
    refine ⟨_, List.mem_map.mpr ⟨j / n, List.mem_range.mpr hd, rfl⟩, List.mem_iff_getElem?.mpr ⟨j % n, ?_⟩⟩
    have hm := Nat.mod_lt j hn
    have hdm := Nat.div_add_mod j n
    rw [List.getElem?_take, if_pos hm, List.getElem?_drop]
    rw [show j / n * n + j % n = j by rw [Nat.mul_comm]; exact hdm]
    exact List.getElem?_eq_getElem hj
  · rintro ⟨v, hv, hz⟩
    obtain ⟨i, _, rfl⟩ := List.mem_map.mp hv
    exact List.mem_of_mem_drop (List.mem_of_mem_take hz)
theorem chunks_len {n q : Nat} {x : Vec} (h : x.length = q * n) : ∀ v ∈ chunks n q x, v.length = n := fun v hv => by
  obtain ⟨i, hi, rfl⟩ := List.mem_map.mp hv
  rw [List.mem_range] at hi
  rw [List.length_take, List.length_drop, h]
  have : (i + 1) * n ≤ q * n := Nat.mul_le_mul_right _ hi
  rw [Nat.add_mul, Nat.one_mul] at this
  omega
/-- whether so many numbers may be put in -/
def Fits (n : Nat) (x : Vec) : Prop := (x.length = n ∨ x.length = 2 * n ∨ x.length = 3 * n) ∧ ∀ z ∈ x, z.natAbs ≤ 100
theorem any_top {x : Vec} : x.any (fun z => decide (Nf02.TOP < z.natAbs)) = true ↔ ¬ ∀ z ∈ x, z.natAbs ≤ 100 := by
  have e : Nf02.TOP = 100 := rfl
  rw [List.any_eq_true, e]
  constructor
  · rintro ⟨z, hz, h⟩ hh
    have h1 := of_decide_eq_true h
    have h2 := hh z hz
    omega
  · intro h
    refine Classical.byContradiction fun hn => h fun z hz => ?_
    have : ¬ 100 < z.natAbs := fun h => hn ⟨z, hz, decide_eq_true h⟩
    omega
theorem vecs_yes {n q : Nat} {x : Vec} (hn : 0 < n) (hq : 1 ≤ q) (hq3 : q ≤ 3) (h : x.length = q * n) (hz : ∀ z ∈ x, z.natAbs ≤ 100) : Nf02.vecs n x = some (chunks n q x) := by
  unfold Nf02.vecs
  have h1 : 0 < x.length := by rw [h]; exact Nat.mul_pos hq hn
  have h3 : q * n ≤ 3 * n := Nat.mul_le_mul_right _ hq3
  rw [if_neg]
  · rw [h, Nat.mul_div_cancel _ hn]; rfl
  · rintro (e | e | e | e)
    · rw [e] at h1; exact absurd h1 (by simp)
    · rw [h] at e; exact e (Nat.mul_mod_left q n)
    · omega
    · exact any_top.mp e hz
theorem vecs_no {n : Nat} {x : Vec} (hn : 0 < n) (h : ¬ Fits n x) : Nf02.vecs n x = none := by
  unfold Nf02.vecs
  rw [if_pos]
  refine Classical.byContradiction fun hc => h ⟨?_, ?_⟩
  · rw [not_or, not_or, not_or] at hc
    obtain ⟨c1, c2, c3, _⟩ := hc
    have c2' : x.length % n = 0 := Decidable.not_not.mp c2
    have hl : 0 < x.length := List.length_pos_iff.mpr c1
    obtain ⟨q, hq⟩ := Nat.dvd_of_mod_eq_zero c2'
    have q1 : q ≠ 0 := fun e => by rw [e] at hq; omega
    have q3 : q ≤ 3 := by
      refine Nat.le_of_not_lt fun h4 => ?_
      have : n * 4 ≤ n * q := Nat.mul_le_mul_left _ h4
      omega
    have : q = 1 ∨ q = 2 ∨ q = 3 := by omega
    rcases this with rfl | rfl | rfl
    · exact .inl (by omega)
    · exact .inr (.inl (by omega))
    · exact .inr (.inr (by omega))
  · rw [not_or, not_or, not_or] at hc
    exact Classical.byContradiction fun hh => hc.2.2.2 (any_top.mpr hh)
/-! ### of nought there are no rows -/
theorem euclid_dead {i f : Nat} {l : List Vec} (h : ∀ x ∈ l, x.getD i 0 = 0) : Nf02.euclid i (f + 1) l = (none, l) := by
  have e1 : l.filter (fun r => r.getD i 0 != 0) = [] := List.filter_eq_nil_iff.mpr fun x hx => by rw [h x hx]; decide
  have e2 : l.filter (fun r => r.getD i 0 == 0) = l := List.filter_eq_self.mpr fun x hx => by rw [h x hx]; rfl
  rw [Nf02.euclid]
  simp only [e1, e2]
theorem steps_dead {l : List Vec} (h : ∀ x ∈ l, ∀ i, x.getD i 0 = 0) : ∀ i, Nf02.steps i l = []
  | 0 => rfl
  | i + 1 => by
    have e : Nf02.euclid i Nf02.END l = (none, l) := by
      rw [end_sf]; exact euclid_dead fun x hx => h x hx i
    rw [Nf02.steps, e]
    exact steps_dead h i
theorem make_dead {k : Vec} {l : List Vec} (h0 : 0 < k.length) (h : ∀ v ∈ l, v = zr k.length) : Nf02.make k l = [] := by
  unfold Nf02.make Nf02.rows
  rw [steps_dead fun x hx i => ?_]
  · rfl
  · obtain ⟨v, hv, hx⟩ := List.mem_flatMap.mp hx
    rw [spread_eq] at hx
    obtain ⟨j, _, rfl⟩ := List.mem_map.mp hx
    rw [h v hv, upn_zr h0, gd_zero]
/-! ### what two ideals make is rows, not too great -/
theorem add_lt {k : Vec} {a b : List Vec} (hk : RingOk k) (ha : Kp k.length a) (hb : Kp k.length b) : Hnf k.length (Nf02.add k a b) ∧ ∀ x ∈ Nf02.add k a b, Lt BF x := by
  obtain ⟨g, e, h⟩ := add_same hk ha hb
  exact ⟨h, by rw [← e]; exact prows_lt g⟩
theorem mul_lt {k : Vec} {a b : List Vec} (hk : RingOk k) (ha : Kp k.length a) (hb : Kp k.length b) : Hnf k.length (Nf02.mul k a b) ∧ ∀ x ∈ Nf02.mul k a b, Lt BF x := by
  obtain ⟨g, e, h⟩ := mul_same hk ha hb
  exact ⟨h, by rw [← e]; exact prows_lt g⟩
theorem common_lt {k : Vec} {a b : List Vec} (hk : RingOk k) (ha : Kp k.length a) (hb : Kp k.length b) : Hnf k.length (Nf02.common k a b) ∧ ∀ x ∈ Nf02.common k a b, Lt BF x := by
  obtain ⟨g, e, h⟩ := common_same hk ha hb
  exact ⟨h, by rw [← e]; exact half_lt (prows_lt g)⟩
theorem by_lt {k : Vec} {a b : List Vec} (hk : RingOk k) (hna : Hnf k.length a) (hno : Nf02.norm a ≤ Nf02.BIG) (hb : Kp k.length b) : Hnf k.length (Nf02.by_ k a b) ∧ ∀ x ∈ Nf02.by_ k a b, Lt BF x := by
  obtain ⟨ha, hN, hN2, ka⟩ := norm_kp hna hno
  have key : ∀ (l : List Vec) (c : List Vec), (∀ y ∈ l, y.length = k.length ∧ Lt 40 y) → Kp k.length c → Kills k.length (Nf02.norm a : Int) c → Kp k.length (l.foldl (fun c y => Nf02.common k c (Nf02.before k a y)) c) := by
    intro l
    induction l with
    | nil => intro c _ h _; exact h
    | cons y l ih =>
      intro c hl hc kc
      obtain ⟨ly, by'⟩ := hl y (by simp)
      obtain ⟨_, _, h1, h2⟩ := turn_same hk ha hN hN2 ka hc kc ly by'
      exact ih _ (fun z hz => hl z (by simp [hz])) h1 h2
  have h := key b (Nf02.all k) (fun y hy => ⟨hb.h.wd y hy, hb.lt y hy⟩) ⟨all_hnf, all_lt⟩ fun v lv => all_sp (by rw [len_scale]; exact lv)
  exact ⟨h.h, fun x hx => (h.lt x hx).mono (by decide)⟩
theorem lt7 {x : Vec} (h : ∀ z ∈ x, z.natAbs ≤ 100) : Lt 7 x := fun j => by
  have e : (2 : Nat) ^ 7 = 128 := by decide
  by_cases hj : j < x.length
  · rw [List.getD_eq_getElem?_getD, List.getElem?_eq_getElem hj]
    have := h x[j] (List.getElem_mem hj)
    show (x[j]).natAbs < _
    omega
  · rw [gd_out (by omega), e]; decide
end Ir

/-! WkA: what a def does, told without the heap: typed data, slots, one list of one's own. -/
namespace Wk
open PySem L2

/-! ### data -/
inductive Ty where
  | int | bl | lst (t : Ty) | pr (a b : Ty) | tr (a b c : Ty) | fz (K : PySem.W.Frag)
abbrev Ty.den : Ty → Type
  | .int => Int
  | .bl => Bool
  | .lst t => List t.den
  | .pr a b => a.den × b.den
  | .tr a b c => a.den × b.den × c.den
  | .fz _ => List Int
/-- v stands for x, its lists and tuples as H tells them -/
def Rp (H : Hp) : (t : Ty) → V → t.den → Prop
  | .int, v, i => v = .int i
  | .bl, v, b => v = .bl b
  | .lst t, v, xs => ∃ (a : Addr) (vs : List V), v = .ref a ∧ H a = some (.lst vs) ∧ Paired (fun (u : V) (x : t.den) => Rp H t u x) vs xs
  | .pr s t, v, p => ∃ (a : Addr) (x y : V), v = .ref a ∧ H a = some (.tup [x, y]) ∧ Rp H s x p.1 ∧ Rp H t y p.2
  | .tr s t u, v, p => ∃ (a : Addr) (x y z : V), v = .ref a ∧ H a = some (.tup [x, y, z]) ∧ Rp H s x p.1 ∧ Rp H t y p.2.1 ∧ Rp H u z p.2.2
  | .fz K, v, xs => ∃ a : Addr, v = .ref a ∧ SqL K H a (xs.map V.int)
def Ex (H H' : Hp) : Prop := ∀ (at_ : Addr) (it : HO), H at_ = some it → H' at_ = some it
theorem Ex.refl (H : Hp) : Ex H H := fun _ _ same => same
theorem Ex.trans {H H1 H2 : Hp} (one : Ex H H1) (two : Ex H1 H2) : Ex H H2 := fun x u e => two x u (one x u e)
theorem Ex.new {H : Hp} {p : Addr} {o : HO} (free : H p = none) : Ex H (upd H p o) := fun at_ it e => by
  rw [upd_ne (ne_of_none e free)]; exact e
theorem Paired.imp {α β : Type} {F G : α → β → Prop} (h : ∀ a b, F a b → G a b) : ∀ {xs : List α} {ys : List β}, Paired F xs ys → Paired G xs ys
  | _, _, .nil => .nil
  | _, _, .cons a b => .cons (h _ _ a) (Paired.imp h b)
theorem Rp.mono {H H' : Hp} (e : Ex H H') : ∀ (t : Ty) (v : V) (x : t.den), Rp H t v x → Rp H' t v x
  | .int, _, _, h => h
  | .bl, _, _, h => h
  | .lst t, _, _, ⟨a, vs, h1, h2, h3⟩ => ⟨a, vs, h1, e a _ h2, Paired.imp (fun u y h => Rp.mono e t u y h) h3⟩
  | .pr s t, _, _, ⟨a, x, y, h1, h2, h3, h4⟩ => ⟨a, x, y, h1, e a _ h2, Rp.mono e s _ _ h3, Rp.mono e t _ _ h4⟩
  | .tr s t u, _, _, ⟨a, x, y, z, h1, h2, h3, h4, h5⟩ => ⟨a, x, y, z, h1, e a _ h2, Rp.mono e s _ _ h3, Rp.mono e t _ _ h4, Rp.mono e u _ _ h5⟩
  | .fz K, _, _, ⟨a, h1, h2⟩ => ⟨a, h1, by
    rcases h2 with (h | ⟨o, h⟩) | h
    · exact .inl (.inl (e _ _ h))
    · exact .inl (.inr ⟨o, e _ _ h⟩)
    · exact .inr h⟩
abbrev Dy : Type := Σ t : Ty, t.den
abbrev dI (i : Int) : Dy := ⟨.int, i⟩
abbrev dB (b : Bool) : Dy := ⟨.bl, b⟩
abbrev dL (t : Ty) (xs : List t.den) : Dy := ⟨.lst t, xs⟩
abbrev dV (xs : List Int) : Dy := ⟨.lst .int, xs⟩
abbrev dM (m : List (List Int)) : Dy := ⟨.lst (.lst .int), m⟩
abbrev dN (m : List (List (List Int))) : Dy := ⟨.lst (.lst (.lst .int)), m⟩
def RpD (H : Hp) (v : V) (d : Dy) : Prop := Rp H d.1 v d.2
theorem RpD.mono {H H' : Hp} (e : Ex H H') {v : V} {d : Dy} (h : RpD H v d) : RpD H' v d := Rp.mono e d.1 v d.2 h
theorem paired_get {α β : Type} {F : α → β → Prop} : ∀ {xs : List α} {ys : List β} {i : Nat} {y : β}, Paired F xs ys → ys[i]? = some y → ∃ x, xs[i]? = some x ∧ F x y
  | _, _, _, _, .nil, e => by simp at e
  | _, _, 0, _, .cons a b, e => ⟨_, rfl, by simp at e; subst e; exact a⟩
  | _, _, i + 1, y, .cons a b, e => by
    obtain ⟨x, h1, h2⟩ := paired_get (i := i) (y := y) b (by simpa using e)
    exact ⟨x, by simpa using h1, h2⟩
theorem paired_get' {α β : Type} {F : α → β → Prop} : ∀ {xs : List α} {ys : List β} {i : Nat} {x : α}, Paired F xs ys → xs[i]? = some x → ∃ y, ys[i]? = some y ∧ F x y
  | _, _, _, _, .nil, e => by simp at e
  | _, _, 0, _, .cons a b, e => ⟨_, rfl, by simp at e; subst e; exact a⟩
  | _, _, i + 1, y, .cons a b, e => by
    obtain ⟨x, h1, h2⟩ := paired_get' (i := i) (x := y) b (by simpa using e)
    exact ⟨x, by simpa using h1, h2⟩
theorem paired_len {α β : Type} {F : α → β → Prop} : ∀ {xs : List α} {ys : List β}, Paired F xs ys → xs.length = ys.length
  | _, _, .nil => rfl
  | _, _, .cons _ b => by simp [paired_len b]
theorem paired_app {α β : Type} {F : α → β → Prop} : ∀ {xs xs' : List α} {ys ys' : List β}, Paired F xs ys → Paired F xs' ys' → Paired F (xs ++ xs') (ys ++ ys')
  | _, _, _, _, .nil, h => h
  | _, _, _, _, .cons a b, h => .cons a (paired_app b h)
theorem paired_drop {α β : Type} {F : α → β → Prop} : ∀ {xs : List α} {ys : List β} (n : Nat), Paired F xs ys → Paired F (xs.drop n) (ys.drop n)
  | _, _, 0, h => h
  | _, _, n + 1, .nil => .nil
  | _, _, n + 1, .cons _ b => paired_drop n b
theorem paired_take {α β : Type} {F : α → β → Prop} : ∀ {xs : List α} {ys : List β} (n : Nat), Paired F xs ys → Paired F (xs.take n) (ys.take n)
  | _, _, 0, _ => .nil
  | _, _, n + 1, .nil => .nil
  | _, _, n + 1, .cons a b => .cons a (paired_take n b)
theorem paired_set {α β : Type} {F : α → β → Prop} {x : α} {y : β} (h : F x y) : ∀ {xs : List α} {ys : List β} (n : Nat), Paired F xs ys → Paired F (xs.set n x) (ys.set n y)
  | _, _, _, .nil => .nil
  | _, _, 0, .cons _ b => .cons h b
  | _, _, n + 1, .cons a b => .cons a (paired_set h n b)
theorem rp_ints {H : Hp} : ∀ {vs : List V} {xs : List Int}, Paired (fun (u : V) (x : Int) => Rp H .int u x) vs xs ↔ vs = xs.map V.int
  | [], [] => ⟨fun _ => rfl, fun _ => .nil⟩
  | [], x :: xs => ⟨fun h => (by cases h), fun h => (by simp at h)⟩
  | v :: vs, [] => ⟨fun h => (by cases h), fun h => (by simp at h)⟩
  | v :: vs, x :: xs => by
    constructor
    · intro h
      cases h with
      | cons a b => rw [show v = .int x from a, rp_ints.mp b]; rfl
    · intro h
      simp only [List.map_cons, List.cons.injEq] at h
      exact .cons h.1 (rp_ints.mpr h.2)
theorem rp_bls {H : Hp} : ∀ {vs : List V} {xs : List Bool}, Paired (fun (u : V) (x : Bool) => Rp H .bl u x) vs xs → vs = xs.map V.bl
  | _, _, .nil => rfl
  | _, _, .cons a b => by rw [show _ = V.bl _ from a, rp_bls b]; rfl
theorem rpV {H : Hp} {v : V} {xs : List Int} : RpD H v (dV xs) ↔ ∃ a, v = .ref a ∧ H a = some (.lst (xs.map V.int)) := by
  constructor
  · intro ⟨a, vs, h1, h2, h3⟩
    exact ⟨a, h1, by rw [h2, rp_ints.mp h3]⟩
  · intro ⟨a, h1, h2⟩
    exact ⟨a, _, h1, h2, rp_ints.mpr rfl⟩

/-! ### frames -/
/-- G is what is known of H; both have grown, and nothing that stood in H beside G has come into G -/
structure Fr (G H G' H' : Hp) : Prop where
  g : Ex G G'
  l : Ex G' H'
  h : Ex H H'
  n : ∀ a, H a ≠ none → G a = none → G' a = none
theorem Fr.refl {G H : Hp} (e : Ex G H) : Fr G H G H := ⟨.refl _, e, .refl _, fun _ _ h => h⟩
theorem Fr.trans {G H G1 H1 G2 H2 : Hp} (a : Fr G H G1 H1) (b : Fr G1 H1 G2 H2) : Fr G H G2 H2 :=
  ⟨a.g.trans b.g, b.l, a.h.trans b.h, fun x h1 h2 => b.n x (fun e => by
    cases q : H x with
    | none => exact h1 q
    | some o => rw [a.h x o q] at e; cases e) (a.n x h1 h2)⟩
/-- a new object -/
theorem Fr.new {G H : Hp} {p : Addr} {o : HO} (e : Ex G H) (hp : H p = none) : Fr G H (upd G p o) (upd H p o) ∧ (upd G p o) p = some o := by
  have gp : G p = none := by
    cases q : G p with
    | none => rfl
    | some u => rw [e p u q] at hp; cases hp
  refine ⟨⟨Ex.new gp, fun a u h => ?_, Ex.new hp, fun a h1 h2 => ?_⟩, upd_same⟩
  · by_cases ha : a = p
    · subst ha; rw [upd_same] at h ⊢; exact h
    · rw [upd_ne ha] at h ⊢; exact e a u h
  · rw [upd_ne (fun z => h1 (by rw [z]; exact hp))]; exact h2
theorem Ex.none {G H : Hp} (e : Ex G H) {p : Addr} (hp : H p = none) : G p = none := by
  cases q : G p with
  | none => rfl
  | some u => rw [e p u q] at hp; cases hp

/-! ### slots -/
abbrev Tau := List (Option Dy)
/-- a list of one's own: its slot, its items -/
structure Ow1 where
  i : Nat
  t : Ty
  xs : List t.den
abbrev Ow := Option Ow1
def OwAt (σ : L2.St) (G H : Hp) : Ow → Prop
  | none => True
  | some o => ∃ (l : Addr) (vs : List V), σ[o.i]? = some (some (.ref l)) ∧ H l = some (.lst vs) ∧ G l = none ∧ Paired (fun (u : V) (x : o.t.den) => Rp G o.t u x) vs o.xs
structure Sls (σ : L2.St) (G H : Hp) (τ : Tau) (o : Ow) : Prop where
  sh : ∀ (i : Nat) (d : Dy), τ[i]? = some (some d) → ∃ v, σ[i]? = some (some v) ∧ RpD G v d
  len : τ.length = σ.length
  ow : OwAt σ G H o
/-- the own list was not there at the entry -/
def OwNew (H0 : Hp) (σ : L2.St) : Ow → Prop
  | none => True
  | some o => ∀ l, σ[o.i]? = some (some (.ref l)) → H0 l = none
theorem Sls.step {σ : L2.St} {G H G' H' : Hp} {τ : Tau} {o : Ow} (s : Sls σ G H τ o) (f : Fr G H G' H') : Sls σ G' H' τ o := by
  refine ⟨fun i d h => ?_, s.len, ?_⟩
  · obtain ⟨v, h1, h2⟩ := s.sh i d h
    exact ⟨v, h1, h2.mono f.g⟩
  · cases o with
    | none => trivial
    | some o =>
      obtain ⟨l, vs, h1, h2, h3, h4⟩ := s.ow
      exact ⟨l, vs, h1, f.h l _ h2, f.n l (by rw [h2]; simp) h3, Paired.imp (fun u x h => Rp.mono f.g o.t u x h) h4⟩
theorem Sls.set {σ : L2.St} {G H : Hp} {τ : Tau} {o : Ow} (s : Sls σ G H τ o) {j : Nat} {v : V} {d : Dy} (hr : RpD G v d) (hj : ∀ w, o = some w → w.i ≠ j) : Sls (σ.set j (some v)) G H (τ.set j (some d)) o := by
  refine ⟨fun i e h => ?_, by simp [s.len], ?_⟩
  · by_cases hij : j = i
    · subst hij
      have hlt : j < τ.length := by
        by_cases hlt : j < τ.length
        · exact hlt
        · rw [List.getElem?_eq_none (by simp; omega)] at h; cases h
      rw [List.getElem?_set_self hlt] at h
      cases h
      exact ⟨v, List.getElem?_set_self (by rw [← s.len]; exact hlt), hr⟩
    · rw [List.getElem?_set_ne hij] at h
      obtain ⟨w, h1, h2⟩ := s.sh i e h
      exact ⟨w, by rw [List.getElem?_set_ne hij]; exact h1, h2⟩
  · cases o with
    | none => trivial
    | some o =>
      obtain ⟨l, vs, h1, h2, h3, h4⟩ := s.ow
      exact ⟨l, vs, by rw [List.getElem?_set_ne (fun e => hj o rfl e.symm)]; exact h1, h2, h3, h4⟩
theorem OwNew.set {H0 : Hp} {σ : L2.St} {o : Ow} (h : OwNew H0 σ o) {j : Nat} {v : Option V} (hj : ∀ w, o = some w → w.i ≠ j) : OwNew H0 (σ.set j v) o := by
  cases o with
  | none => trivial
  | some o =>
    intro l hl
    rw [List.getElem?_set_ne (fun e => hj o rfl e.symm)] at hl
    exact h l hl

/-! ### expressions, tests, arguments -/
def Ev (te : TE) (τ : Tau) (o : Ow) (d : Dy) : Prop := ∀ σ G H, Ex G H → Sls σ G H τ o → ∀ Q : VK, (∀ v G' H', Fr G H G' H' → RpD G' v d → Q v H') → te σ H Q
def Et (tt : TT) (τ : Tau) (o : Ow) (b : Bool) : Prop := ∀ σ G H, Ex G H → Sls σ G H τ o → ∀ Q : Bool → Hp → Prop, (∀ G' H', Fr G H G' H' → Q b H') → tt σ H Q
inductive RpA (G : Hp) : List V → List Dy → Prop
  | nil : RpA G [] []
  | cons {v : V} {d : Dy} {vs : List V} {ds : List Dy} : RpD G v d → RpA G vs ds → RpA G (v :: vs) (d :: ds)
theorem RpA.mono {G G' : Hp} (e : Ex G G') : ∀ {vs : List V} {ds : List Dy}, RpA G vs ds → RpA G' vs ds
  | _, _, .nil => .nil
  | _, _, .cons a b => .cons (a.mono e) (b.mono e)
theorem RpA.len {G : Hp} : ∀ {vs : List V} {ds : List Dy}, RpA G vs ds → vs.length = ds.length
  | _, _, .nil => rfl
  | _, _, .cons _ b => by simp [b.len]
def Ea (ta : TA) (τ : Tau) (o : Ow) (ds : List Dy) : Prop := ∀ σ G H, Ex G H → Sls σ G H τ o → ∀ Q : List V → Hp → Prop, (∀ vs G' H', Fr G H G' H' → RpA G' vs ds → Q vs H') → ta σ H Q
section
variable {τ : Tau} {o : Ow} {ta tb te : TE} {t u : TT} {K : PySem.W.Frag}
theorem Ev.eq {d d' : Dy} (h : Ev te τ o d) (e : d = d') : Ev te τ o d' := e ▸ h
theorem Et.eq {b b' : Bool} (h : Et t τ o b) (e : b = b') : Et t τ o b' := e ▸ h
theorem ev_var {i : Nat} {d : Dy} (h : τ[i]? = some (some d)) : Ev (tVar i) τ o d := fun σ G H e s Q q => by
  obtain ⟨v, h1, h2⟩ := s.sh i d h
  exact ⟨v, h1, q v G H (.refl e) h2⟩
theorem ev_int {i : Int} : Ev (tC (.int i)) τ o (dI i) := fun σ G H e s Q q => q _ G H (.refl e) rfl
theorem ev_bl {b : Bool} : Ev (tC (.bl b)) τ o (dB b) := fun σ G H e s Q q => q _ G H (.refl e) rfl
/-- two operands, then what the operator does -/
theorem ev_op {r : R2} {a b c : Dy} (ha : Ev ta τ o a) (hb : Ev tb τ o b)
    (hr : ∀ G H x y, Ex G H → RpD G x a → RpD G y b → ∀ Q : VK, (∀ v G' H', Fr G H G' H' → RpD G' v c → Q v H') → r x y H Q) : Ev (tOp r ta tb) τ o c := fun σ G H e s Q q =>
  ha σ G H e s _ fun x G1 H1 f1 r1 => hb σ G1 H1 f1.l (s.step f1) _ fun y G2 H2 f2 r2 => hr G2 H2 x y f2.l (r1.mono f2.g) r2 Q fun v G' H' f3 r3 => q v G' H' ((f1.trans f2).trans f3) r3
theorem ev_I0 {g : Int → Int → Int} {i j : Int} (ha : Ev ta τ o (dI i)) (hb : Ev tb τ o (dI j)) : Ev (tOp (rI0 fun i j => .int (g i j)) ta tb) τ o (dI (g i j)) :=
  ev_op ha hb fun G H x y e h1 h2 Q q => ⟨i, j, h1, h2, q _ G H (.refl e) rfl⟩
theorem ev_B0 {g : Int → Int → Bool} {i j : Int} (ha : Ev ta τ o (dI i)) (hb : Ev tb τ o (dI j)) : Ev (tOp (rI0 fun i j => .bl (g i j)) ta tb) τ o (dB (g i j)) :=
  ev_op ha hb fun G H x y e h1 h2 Q q => ⟨i, j, h1, h2, q _ G H (.refl e) rfl⟩
theorem ev_I {C : Int → Int → Prop} {g : Int → Int → Int} {i j : Int} (ha : Ev ta τ o (dI i)) (hb : Ev tb τ o (dI j)) (hc : C i j) : Ev (tOp (rI C fun i j => .int (g i j)) ta tb) τ o (dI (g i j)) :=
  ev_op ha hb fun G H x y e h1 h2 Q q => ⟨i, j, h1, h2, hc, q _ G H (.refl e) rfl⟩
theorem ev_eqI {i j : Int} (ha : Ev ta τ o (dI i)) (hb : Ev tb τ o (dI j)) : Ev (tOp rEq ta tb) τ o (dB (decide (i = j))) :=
  ev_op ha hb fun G H x y e h1 h2 Q q => by
    obtain rfl : x = .int i := h1
    obtain rfl : y = .int j := h2
    exact ⟨rfl, q _ G H (.refl e) (by show V.bl _ = V.bl _; rw [dec_int, Bool.beq_eq_decide_eq])⟩
theorem ev_neI {i j : Int} (ha : Ev ta τ o (dI i)) (hb : Ev tb τ o (dI j)) : Ev (tOp rNe ta tb) τ o (dB (!decide (i = j))) :=
  ev_op ha hb fun G H x y e h1 h2 Q q => by
    obtain rfl : x = .int i := h1
    obtain rfl : y = .int j := h2
    exact ⟨rfl, q _ G H (.refl e) (by show V.bl _ = V.bl _; rw [dec_int, Bool.beq_eq_decide_eq])⟩
theorem ev_neg {i : Int} (ha : Ev ta τ o (dI i)) : Ev (tUn (rU fun i => .int (-i)) ta) τ o (dI (-i)) := fun σ G H e s Q q =>
  ha σ G H e s _ fun x G1 H1 f1 r1 => ⟨i, r1, q _ G1 H1 f1 rfl⟩
/-- an item -/
theorem ev_ix {ty : Ty} {xs : List ty.den} {i : Int} {x : ty.den} (ha : Ev ta τ o (dL ty xs)) (hb : Ev tb τ o (dI i)) (hx : atI xs i = some x) : Ev (tOp (rIxL K) ta tb) τ o ⟨ty, x⟩ :=
  ev_op ha hb fun G H v y e h1 h2 Q q => by
    obtain ⟨a, vs, rfl, h3, h4⟩ := h1
    obtain rfl : y = .int i := h2
    unfold atI at hx
    obtain ⟨k, hk, hx⟩ := Option.bind_eq_some_iff.mp hx
    obtain ⟨w, hw, rw_⟩ := paired_get h4 hx
    refine ⟨a, vs, i, w, rfl, rfl, .of (e a _ h3), ?_, q w G H (.refl e) rw_⟩
    unfold atI
    rw [paired_len h4, hk]
    exact hw
/-- an item of one's own list -/
theorem ev_ixO {ty : Ty} {xs : List ty.den} {k : Nat} {i : Int} {x : ty.den} (hb : Ev tb τ (some ⟨k, ty, xs⟩) (dI i)) (hx : atI xs i = some x) : Ev (tOp (rIxL K) (tVar k) tb) τ (some ⟨k, ty, xs⟩) ⟨ty, x⟩ := fun σ G H e s Q q => by
  obtain ⟨l, vs, h1, h2, h3, h4⟩ := s.ow
  refine ⟨.ref l, h1, hb σ G H e s _ fun y G1 H1 f1 r1 => ?_⟩
  obtain rfl : y = .int i := r1
  unfold atI at hx
  obtain ⟨k, hk, hx⟩ := Option.bind_eq_some_iff.mp hx
  obtain ⟨w, hw, rw_⟩ := paired_get h4 hx
  refine ⟨l, vs, i, w, rfl, rfl, .of (f1.h l _ h2), ?_, q w G1 H1 f1 (Rp.mono f1.g _ _ _ rw_)⟩
  unfold atI
  rw [paired_len h4, hk]
  exact hw
theorem ev_pr1 {s t : Ty} {p : s.den × t.den} (ha : Ev ta τ o ⟨.pr s t, p⟩) (hb : Ev tb τ o (dI 0)) : Ev (tOp (rIxT K) ta tb) τ o ⟨s, p.1⟩ :=
  ev_op ha hb fun G H v y e h1 h2 Q q => by
    obtain ⟨a, x, z, rfl, h3, h4, h5⟩ := h1
    obtain rfl : y = .int 0 := h2
    exact ⟨a, _, 0, x, rfl, rfl, .of (e a _ h3), rfl, q _ G H (.refl e) h4⟩
theorem ev_pr2 {s t : Ty} {p : s.den × t.den} (ha : Ev ta τ o ⟨.pr s t, p⟩) (hb : Ev tb τ o (dI 1)) : Ev (tOp (rIxT K) ta tb) τ o ⟨t, p.2⟩ :=
  ev_op ha hb fun G H v y e h1 h2 Q q => by
    obtain ⟨a, x, z, rfl, h3, h4, h5⟩ := h1
    obtain rfl : y = .int 1 := h2
    exact ⟨a, _, 1, z, rfl, rfl, .of (e a _ h3), rfl, q _ G H (.refl e) h5⟩
/-- a new list by an operator -/
theorem fr_list {G H : Hp} {p : Addr} {ty : Ty} {vs : List V} {xs : List ty.den} (e : Ex G H) (hp : H p = none) (h : Paired (fun (u : V) (x : ty.den) => Rp G ty u x) vs xs) :
    Fr G H (upd G p (.lst vs)) (upd H p (.lst vs)) ∧ RpD (upd G p (.lst vs)) (.ref p) (dL ty xs) := by
  obtain ⟨f, hp'⟩ := Fr.new (o := .lst vs) e hp
  exact ⟨f, ⟨p, vs, rfl, hp', Paired.imp (fun u x h => Rp.mono f.g _ _ _ h) h⟩⟩
theorem ev_cat {ty : Ty} {xs ys : List ty.den} (ha : Ev ta τ o (dL ty xs)) (hb : Ev tb τ o (dL ty ys)) (hl : xs.length + ys.length ≤ sizeLine) : Ev (tOp rCat ta tb) τ o (dL ty (xs ++ ys)) :=
  ev_op ha hb fun G H v y e h1 h2 Q q => by
    obtain ⟨a, vs, rfl, h3, h4⟩ := h1
    obtain ⟨b, us, rfl, h5, h6⟩ := h2
    refine ⟨a, b, vs, us, rfl, rfl, e a _ h3, e b _ h5, by rw [paired_len h4, paired_len h6]; exact hl, fun p hp => ?_⟩
    obtain ⟨f, r⟩ := fr_list e hp (paired_app h4 h6)
    exact q _ _ _ f r
theorem ev_cut {to1 to2 : TO} {lo hi : Option Int} {ty : Ty} {xs : List ty.den} (ha : Ev ta τ o (dL ty xs))
    (h1 : ∀ σ G H, Ex G H → Sls σ G H τ o → ∀ Q : Option Int → Hp → Prop, (∀ G' H', Fr G H G' H' → Q lo H') → to1 σ H Q) (h2 : ∀ σ G H, Ex G H → Sls σ G H τ o → ∀ Q : Option Int → Hp → Prop, (∀ G' H', Fr G H G' H' → Q hi H') → to2 σ H Q) :
    Ev (tSl (rSlL K) ta to1 to2) τ o (dL ty ((xs.drop (HT.sIx xs.length 0 lo)).take (HT.sIx xs.length xs.length hi - HT.sIx xs.length 0 lo))) := fun σ G H e s Q q =>
  ha σ G H e s _ fun v G1 H1 f1 r1 => h1 σ G1 H1 f1.l (s.step f1) _ fun G2 H2 f2 => h2 σ G2 H2 f2.l (s.step (f1.trans f2)) _ fun G3 H3 f3 => by
    obtain ⟨a, vs, rfl, h3, h4⟩ := r1
    refine ⟨a, vs, rfl, .of (f3.l a _ (f3.g a _ (f2.g a _ h3))), fun p hp => ?_⟩
    have h4' : Paired (fun (u : V) (x : ty.den) => Rp G3 ty u x) vs xs := Paired.imp (fun u x h => Rp.mono (f2.g.trans f3.g) _ _ _ h) h4
    obtain ⟨f, r⟩ := fr_list f3.l hp (paired_take (HT.sIx xs.length xs.length hi - HT.sIx xs.length 0 lo) (paired_drop (HT.sIx xs.length 0 lo) h4'))
    unfold cutV
    rw [paired_len h4]
    exact q _ _ _ (((f1.trans f2).trans f3).trans f) r
theorem eo_none : ∀ σ G H, Ex G H → Sls σ G H τ o → ∀ Q : Option Int → Hp → Prop, (∀ G' H', Fr G H G' H' → Q none H') → tNoPart σ H Q := fun σ G H e _ Q q => q G H (.refl e)
theorem eo_some {i : Int} (h : Ev te τ o (dI i)) : ∀ σ G H, Ex G H → Sls σ G H τ o → ∀ Q : Option Int → Hp → Prop, (∀ G' H', Fr G H G' H' → Q (some i) H') → tPart te σ H Q := fun σ G H e s Q q =>
  h σ G H e s _ fun v G1 H1 f1 r1 => ⟨i, r1, q G1 H1 f1⟩
theorem ea_nil : Ea tNil τ o [] := fun σ G H e s Q q => q [] G H (.refl e) .nil
theorem ea_cons {d : Dy} {ds : List Dy} {tr : TA} (ha : Ev ta τ o d) (hr : Ea tr τ o ds) : Ea (tCons ta tr) τ o (d :: ds) := fun σ G H e s Q q =>
  ha σ G H e s _ fun v G1 H1 f1 r1 => hr σ G1 H1 f1.l (s.step f1) _ fun vs G2 H2 f2 r2 => q (v :: vs) G2 H2 (f1.trans f2) (.cons (r1.mono f2.g) r2)
/-- displays -/
def allTy (ty : Ty) : List Dy → Option (List ty.den) := fun _ => none
theorem rpA_pairs {G : Hp} {ty : Ty} : ∀ {vs : List V} {xs : List ty.den}, RpA G vs (xs.map fun x => (⟨ty, x⟩ : Dy)) → Paired (fun (u : V) (x : ty.den) => Rp G ty u x) vs xs
  | _, [], h => by
    have h' : RpA G _ [] := h
    cases h'; exact .nil
  | _, x :: xs, h => by
    have h' : RpA G _ (⟨ty, x⟩ :: xs.map fun x => (⟨ty, x⟩ : Dy)) := h
    cases h' with
    | cons a b => exact .cons a (rpA_pairs b)
theorem ev_lst {ty : Ty} {xs : List ty.den} {tr : TA} (h : Ea tr τ o (xs.map fun x => (⟨ty, x⟩ : Dy))) (hl : xs.length ≤ 1000) : Ev (tLst tr) τ o (dL ty xs) := fun σ G H e s Q q =>
  h σ G H e s _ fun vs G1 H1 f1 r1 => ⟨by
    have := (rpA_pairs r1)
    rw [paired_len this]
    exact Nat.le_trans hl (by decide), fun p hp => by
    obtain ⟨f, r⟩ := fr_list f1.l hp (rpA_pairs r1)
    exact q _ _ _ (f1.trans f) r⟩
theorem ev_pr {s t : Ty} {x : s.den} {y : t.den} {tr : TA} (h : Ea tr τ o [⟨s, x⟩, ⟨t, y⟩]) : Ev (tTup tr) τ o ⟨.pr s t, (x, y)⟩ := fun σ G H e st Q q =>
  h σ G H e st _ fun vs G1 H1 f1 r1 => by
    cases r1 with
    | @cons v _ _ _ a b =>
      cases b with
      | @cons w _ _ _ b c =>
        cases c
        refine ⟨by show 2 ≤ sizeLine; decide, fun p hp => ?_⟩
        obtain ⟨f, hp'⟩ := Fr.new (o := .tup [v, w]) f1.l hp
        exact q _ _ _ (f1.trans f) ⟨p, v, w, rfl, hp', Rp.mono f.g _ _ _ a, Rp.mono f.g _ _ _ b⟩
theorem ev_tr {s t r : Ty} {x : s.den} {y : t.den} {z : r.den} {tr : TA} (h : Ea tr τ o [⟨s, x⟩, ⟨t, y⟩, ⟨r, z⟩]) : Ev (tTup tr) τ o ⟨.tr s t r, (x, y, z)⟩ := fun σ G H e st Q q =>
  h σ G H e st _ fun vs G1 H1 f1 r1 => by
    cases r1 with
    | @cons v _ _ _ a b =>
      cases b with
      | @cons w _ _ _ b c =>
        cases c with
        | @cons u _ _ _ c d =>
          cases d
          refine ⟨by show 3 ≤ sizeLine; decide, fun p hp => ?_⟩
          obtain ⟨f, hp'⟩ := Fr.new (o := .tup [v, w, u]) f1.l hp
          exact q _ _ _ (f1.trans f) ⟨p, v, w, u, rfl, hp', Rp.mono f.g _ _ _ a, Rp.mono f.g _ _ _ b, Rp.mono f.g _ _ _ c⟩
/-! tests -/
theorem et_test {b : Bool} (h : Ev te τ o (dB b)) : Et (tTest te) τ o b := fun σ G H e s Q q => h σ G H e s _ fun v G1 H1 f1 r1 => ⟨b, r1, q G1 H1 f1⟩
theorem et_B {b : Bool} (h : Ev te τ o (dB b)) : Et (tB te) τ o b := fun σ G H e s Q q => h σ G H e s _ fun v G1 H1 f1 r1 => ⟨b, r1, q G1 H1 f1⟩
theorem et_yes : Et tYes τ o true := fun σ G H e s Q q => q G H (.refl e)
theorem et_and {a b : Bool} (h1 : Et t τ o a) (h2 : a = true → Et u τ o b) : Et (tAnd t u) τ o (a && b) := fun σ G H e s Q q => h1 σ G H e s _ fun G1 H1 f1 => by
  cases a with
  | true => exact h2 rfl σ G1 H1 f1.l (s.step f1) Q fun G2 H2 f2 => q G2 H2 (f1.trans f2)
  | false => exact q G1 H1 f1
theorem et_or {a b : Bool} (h1 : Et t τ o a) (h2 : a = false → Et u τ o b) : Et (tOr t u) τ o (a || b) := fun σ G H e s Q q => h1 σ G H e s _ fun G1 H1 f1 => by
  cases a with
  | true => exact q G1 H1 f1
  | false => exact h2 rfl σ G1 H1 f1.l (s.step f1) Q fun G2 H2 f2 => q G2 H2 (f1.trans f2)
theorem et_not {a : Bool} (h1 : Et t τ o a) : Et (tNot t) τ o (!a) := fun σ G H e s Q q => h1 σ G H e s _ fun G1 H1 f1 => q G1 H1 f1
theorem ev_andV {a b : Bool} (h1 : Ev ta τ o (dB a)) (h2 : a = true → Ev tb τ o (dB b)) : Ev (tAndV ta tb) τ o (dB (a && b)) := fun σ G H e s Q q => h1 σ G H e s _ fun v G1 H1 f1 r1 => ⟨a, r1, by
  cases a with
  | true => exact h2 rfl σ G1 H1 f1.l (s.step f1) Q fun v G2 H2 f2 => q v G2 H2 (f1.trans f2)
  | false => exact q _ G1 H1 f1 rfl⟩
theorem ev_orV {a b : Bool} (h1 : Ev ta τ o (dB a)) (h2 : a = false → Ev tb τ o (dB b)) : Ev (tOrV ta tb) τ o (dB (a || b)) := fun σ G H e s Q q => h1 σ G H e s _ fun v G1 H1 f1 r1 => ⟨a, r1, by
  cases a with
  | true => exact q _ G1 H1 f1 rfl
  | false => exact h2 rfl σ G1 H1 f1.l (s.step f1) Q fun v G2 H2 f2 => q v G2 H2 (f1.trans f2)⟩
theorem ev_notV {a : Bool} (h1 : Ev ta τ o (dB a)) : Ev (tNotV ta) τ o (dB (!a)) := fun σ G H e s Q q => h1 σ G H e s _ fun v G1 H1 f1 r1 => ⟨a, r1, q _ G1 H1 f1 rfl⟩
theorem ev_if {b : Bool} {d : Dy} (h : Et t τ o b) (h1 : b = true → Ev ta τ o d) (h2 : b = false → Ev tb τ o d) : Ev (tIf t ta tb) τ o d := fun σ G H e s Q q => h σ G H e s _ fun G1 H1 f1 => by
  cases b with
  | true => exact h1 rfl σ G1 H1 f1.l (s.step f1) Q fun v G2 H2 f2 => q v G2 H2 (f1.trans f2)
  | false => exact h2 rfl σ G1 H1 f1.l (s.step f1) Q fun v G2 H2 f2 => q v G2 H2 (f1.trans f2)
/-! calls -/
/-- a promise of a def that changes nothing: F tells what is due of what is handed in -/
def spD (F : List Dy → Dy → Prop) : Sp := fun vs H Q _ => ∃ G ds d, Ex G H ∧ RpA G vs ds ∧ F ds d ∧ ∀ v G' H', Fr G H G' H' → RpD G' v d → Q v H'
theorem ev_call {F : List Dy → Dy → Prop} {tr : TA} {E : XK} {ds : List Dy} {d : Dy} (h : Ea tr τ o ds) (hF : F ds d) : Ev (tCall (spD F) [] E tr) τ o d := fun σ G H e s Q q =>
  h σ G H e s _ fun vs G1 H1 f1 r1 => ⟨G1, ds, d, f1.l, by rw [List.append_nil]; exact r1, hF, fun v G' H' f2 r2 => q v G' H' (f1.trans f2) r2⟩
/-- a call of a built-in -/
theorem ev_cb {r : List V → Hp → VK → Prop} {tr : TA} {ds : List Dy} {d : Dy} (h : Ea tr τ o ds)
    (hr : ∀ G H vs, Ex G H → RpA G vs ds → ∀ Q : VK, (∀ v G' H', Fr G H G' H' → RpD G' v d → Q v H') → r vs H Q) : Ev (tCB r tr) τ o d := fun σ G H e s Q q =>
  h σ G H e s _ fun vs G1 H1 f1 r1 => hr G1 H1 vs f1.l r1 Q fun v G' H' f2 r2 => q v G' H' (f1.trans f2) r2
end
end Wk

/-! WkB: what is walked, comprehensions, statements, loops. -/
namespace Wk
open PySem L2

/-! ### what is walked -/
/-- alike but at some slots -/
def Dif (ts : List Nat) (σ σ' : L2.St) : Prop := σ'.length = σ.length ∧ ∀ k, k ∉ ts → σ'[k]? = σ[k]?
theorem wipe_at {σ : L2.St} : ∀ {vs : List Nat} {k : Nat}, (wipe σ vs)[k]? = if k ∈ vs then (if k < σ.length then some none else none) else σ[k]?
  | [], k => by simp [wipe]
  | v :: vs, k => by
    show ((wipe σ vs).set v none)[k]? = _
    by_cases hk : v = k
    · subst hk
      rw [if_pos List.mem_cons_self]
      split
      · rename_i h
        exact List.getElem?_set_self (by rw [wipe_length]; exact h)
      · rename_i h
        rw [List.getElem?_eq_none (by rw [List.length_set, wipe_length]; omega)]
    · rw [List.getElem?_set_ne hk, wipe_at]
      have : (k ∈ v :: vs) ↔ k ∈ vs := by
        simp only [List.mem_cons]
        exact ⟨fun h => h.elim (fun e => absurd e.symm hk) id, .inr⟩
      simp only [this]
theorem Dif.wipe {ts vs : List Nat} {σ σ' : L2.St} (d : Dif ts σ σ') (h : ∀ k ∈ ts, k ∈ vs) : wipe σ' vs = wipe σ vs := by
  refine List.ext_getElem? fun k => ?_
  rw [wipe_at, wipe_at, d.1]
  split
  · rfl
  · rename_i hk
    exact d.2 k fun hts => hk (h k hts)
theorem Dif.set {σ : L2.St} {j : Nat} {v : Option V} : Dif [j] σ (σ.set j v) := ⟨by simp, fun k hk => List.getElem?_set_ne (by simpa using fun e => hk (by simp [e]))⟩
theorem Dif.trans {ts us : List Nat} {a b c : L2.St} (x : Dif ts a b) (y : Dif us b c) : Dif (ts ++ us) a c :=
  ⟨y.1.trans x.1, fun k hk => (y.2 k fun h => hk (List.mem_append_right _ h)).trans (x.2 k fun h => hk (List.mem_append_left _ h))⟩
/-- the own list is at none of these slots -/
def Off (o : Ow) (ts : List Nat) : Prop := ∀ w, o = some w → w.i ∉ ts
theorem OwNew.dif {H0 : Hp} {σ σ' : L2.St} {o : Ow} {ts : List Nat} (h : OwNew H0 σ o) (d : Dif ts σ σ') (f : Off o ts) : OwNew H0 σ' o := by
  cases o with
  | none => trivial
  | some o =>
    intro l hl
    rw [d.2 o.i (f o rfl)] at hl
    exact h l hl
/-- n turns; at turn i the target's slots are told by up -/
structure Wlk (J : It) (n : Nat) (g : TG) (ts : List Nat) (up : Nat → Tau → Tau) (G1 : Hp) : Prop where
  go : ∀ i σ G H τ o, i < n → Ex G1 G → Ex G H → Sls σ G H τ o → Off o ts → J.go i H ∧ ∀ x H1, J.yld i H x H1 → ∀ Q : L2.St → Hp → Prop,
    (∀ σ' G' H', Fr G H G' H' → Sls σ' G' H' (up i τ) o → Dif ts σ σ' → Q σ' H') → g x σ H1 Q
  stop : ∀ G H, Ex G1 G → Ex G H → J.stop n H
/-- an iterable told: how many turns, what they bring -/
def Src (wi : TI) (g : TG) (ts : List Nat) (τ : Tau) (o : Ow) (n : Nat) (up : Nat → Tau → Tau) : Prop :=
  ∀ σ G H, Ex G H → Sls σ G H τ o → ∀ R : It → Hp → Prop, (∀ J G1 H1, Fr G H G1 H1 → Wlk J n g ts up G1 → R J H1) → wi σ H R
section
variable {K : PySem.W.Frag} {τ : Tau} {o : Ow} {te tl : TE}
theorem wlk_list {a : Addr} {ty : Ty} {vs : List V} {xs : List ty.den} {j : Nat} {G1 : Hp} (ha : G1 a = some (.lst vs)) (h : Paired (fun (u : V) (x : ty.den) => Rp G1 ty u x) vs xs) :
    Wlk (Itl K a) xs.length (gName j) [j] (fun i τ => match xs[i]? with | some x => τ.set j (some ⟨ty, x⟩) | none => τ) G1 where
  go := by
    intro i σ G H τ o hi e1 e2 s f
    have hlen := paired_len h
    have hv : vs[i]? = some (vs[i]'(by omega)) := List.getElem?_eq_getElem _
    have hH : H a = some (.lst vs) := e2 a _ (e1 a _ ha)
    refine ⟨⟨vs, _, .of hH, hv⟩, fun x H1 y Q q => ?_⟩
    obtain ⟨rfl, y2⟩ := y
    have hx := y2 vs (.of hH)
    obtain ⟨z, hz, hr⟩ := paired_get' h hx
    refine q _ G H1 (.refl e2) ?_ .set
    simp only [hz]
    exact s.set (Rp.mono e1 _ _ _ hr) fun w hw e => f w hw (by simp [e])
  stop := fun G H e1 e2 => ⟨vs, .of (e2 a _ (e1 a _ ha)), by rw [paired_len h]; exact Nat.le_refl _⟩
theorem src_list {ty : Ty} {xs : List ty.den} {j : Nat} (h : Ev tl τ o (dL ty xs)) : Src (iList K tl) (gName j) [j] τ o xs.length (fun i τ => match xs[i]? with | some x => τ.set j (some ⟨ty, x⟩) | none => τ) := fun σ G H e s R r =>
  h σ G H e s _ fun v G1 H1 f1 r1 => by
    obtain ⟨a, vs, rfl, h3, h4⟩ := r1
    exact ⟨a, rfl, ⟨vs, .of (f1.l a _ h3)⟩, r _ G1 H1 f1 (wlk_list h3 h4)⟩
theorem src_range1 {ta : TA} {n : Nat} {m : Int} {j : Nat} (h : Ea ta τ o [dI m]) (hm : -(2 ^ 62) ≤ m) (hm' : m < 2 ^ 62) (hn : m.toNat = n) : Src (iRng1 ta) (gName j) [j] τ o n (fun i τ => τ.set j (some (dI (i : Int)))) := fun σ G H e s R r =>
  h σ G H e s _ fun vs G1 H1 f1 r1 => by
    cases r1 with
    | cons a b =>
      cases b
      refine ⟨m, by rw [show _ = V.int m from a], hm, hm', ?_⟩
      rw [hn]
      refine r _ G1 H1 f1 ⟨fun i σ G H τ o hi e1 e2 s f => ⟨hi, fun x H2 y Q q => ?_⟩, fun G H _ _ => Nat.le_refl n⟩
      obtain ⟨rfl, rfl⟩ := y
      rw [Int.zero_add]
      exact q _ G H2 (.refl e2) (s.set rfl fun w hw e => f w hw (by simp [e])) .set
theorem src_range2 {ta : TA} {n : Nat} {l m : Int} {j : Nat} (h : Ea ta τ o [dI l, dI m]) (hm : -(2 ^ 62) ≤ l ∧ l < 2 ^ 62 ∧ -(2 ^ 62) ≤ m ∧ m < 2 ^ 62) (hn : (m - l).toNat = n) : Src (iRng2 ta) (gName j) [j] τ o n (fun i τ => τ.set j (some (dI (l + (i : Int))))) := fun σ G H e s R r =>
  h σ G H e s _ fun vs G1 H1 f1 r1 => by
    cases r1 with
    | cons a b =>
      cases b with
      | cons b c =>
        cases c
        refine ⟨l, m, by rw [show _ = V.int l from a, show _ = V.int m from b], hm, ?_⟩
        rw [hn]
        refine r _ G1 H1 f1 ⟨fun i σ G H τ o hi e1 e2 s f => ⟨hi, fun x H2 y Q q => ?_⟩, fun G H _ _ => Nat.le_refl n⟩
        obtain ⟨rfl, rfl⟩ := y
        exact q _ G H2 (.refl e2) (s.set rfl fun w hw e => f w hw (by simp [e])) .set
theorem src_range3 {ta : TA} {n : Nat} {l m c : Int} {j : Nat} (h : Ea ta τ o [dI l, dI m, dI c]) (hn : RgC l m c n) : Src (iRng3 ta) (gName j) [j] τ o n (fun i τ => τ.set j (some (dI (l + (i : Int) * c)))) := fun σ G H e s R r =>
  h σ G H e s _ fun vs G1 H1 f1 r1 => by
    cases r1 with
    | cons a b =>
      cases b with
      | cons b cc =>
        cases cc with
        | cons cc d =>
          cases d
          refine ⟨l, m, c, n, by rw [show _ = V.int l from a, show _ = V.int m from b, show _ = V.int c from cc], hn, ?_⟩
          refine r _ G1 H1 f1 ⟨fun i σ G H τ o hi e1 e2 s f => ⟨hi, fun x H2 y Q q => ?_⟩, fun G H _ _ => Nat.le_refl n⟩
          obtain ⟨rfl, rfl⟩ := y
          exact q _ G H2 (.refl e2) (s.set rfl fun w hw e => f w hw (by simp [e])) .set
/-- a pair's two names set -/
theorem two_set {i j : Nat} {σ : L2.St} {G H : Hp} {o : Ow} {T : Addr} {x y : V} {a b : Dy} {Q : L2.St → Hp → Prop} (s : Sls σ G H τ o) (e : Ex G H) (hT : H T = some (.tup [x, y])) (ra : RpD G x a) (rb : RpD G y b) (f : Off o [i, j])
    (q : ∀ σ', Sls σ' G H ((τ.set i (some a)).set j (some b)) o → Dif [i, j] σ σ' → Q σ' H) : gTup K 2 (gCons (gName i) (gCons (gName j) gNil)) (.ref T) σ H Q := by
  refine ⟨T, [x, y], rfl, .of hT, rfl, x, [y], rfl, y, [], rfl, rfl, q _ ?_ (Dif.trans .set .set)⟩
  exact (s.set ra fun w hw e => f w hw (by simp [e])).set rb fun w hw e => f w hw (by simp [e])
theorem src_zip {ta : TA} {s t : Ty} {xs : List s.den} {ys : List t.den} {i j : Nat} (h : Ea ta τ o [dL s xs, dL t ys]) :
    Src (iZip K ta) (gTup K 2 (gCons (gName i) (gCons (gName j) gNil))) [i, j] τ o (min xs.length ys.length) (fun k τ => match xs[k]?, ys[k]? with | some x, some y => (τ.set i (some ⟨s, x⟩)).set j (some ⟨t, y⟩) | _, _ => τ) := fun σ G H e st R r =>
  h σ G H e st _ fun vs G1 H1 f1 r1 => by
    cases r1 with
    | cons ra b =>
      cases b with
      | cons rb cc =>
        cases cc
        obtain ⟨a, us, rfl, h3, h4⟩ := ra
        obtain ⟨b, ws, rfl, h5, h6⟩ := rb
        refine ⟨a, b, us, ws, rfl, .of (f1.l a _ h3), .of (f1.l b _ h5), r _ G1 H1 f1 ⟨fun k σ G H τ o hi e1 e2 s f => ?_, fun G H e1 e2 => ⟨us, ws, .of (e2 a _ (e1 a _ h3)), .of (e2 b _ (e1 b _ h5)), ?_⟩⟩⟩
        · have l1 : us.length = xs.length := paired_len h4
          have l2 : ws.length = ys.length := paired_len h6
          have hu : us[k]? = some (us[k]'(by omega)) := List.getElem?_eq_getElem _
          have hw : ws[k]? = some (ws[k]'(by omega)) := List.getElem?_eq_getElem _
          refine ⟨⟨us, ws, _, _, .of (e2 a _ (e1 a _ h3)), .of (e2 b _ (e1 b _ h5)), hu, hw⟩, fun x H2 y Q q => ?_⟩
          obtain ⟨T, x1, y1, rfl, hT, rfl, g1, g2⟩ := y
          obtain ⟨z, hz, hr⟩ := paired_get' h4 (g1 us (.of (e2 a _ (e1 a _ h3))))
          obtain ⟨z2, hz2, hr2⟩ := paired_get' h6 (g2 ws (.of (e2 b _ (e1 b _ h5))))
          obtain ⟨fr, hT'⟩ := Fr.new (o := .tup [x1, y1]) e2 hT
          refine two_set (s.step fr) fr.l upd_same (Rp.mono (e1.trans fr.g) _ _ _ hr : RpD _ _ ⟨_, z⟩) (Rp.mono (e1.trans fr.g) _ _ _ hr2 : RpD _ _ ⟨_, z2⟩) f fun σ' s' d => q σ' _ _ fr ?_ d
          simp only [hz, hz2]
          exact s'
        · have l1 : us.length = xs.length := paired_len h4
          have l2 : ws.length = ys.length := paired_len h6
          omega
theorem src_enum {ta : TA} {t : Ty} {xs : List t.den} {i j : Nat} (h : Ea ta τ o [dL t xs]) :
    Src (iEnum K ta) (gTup K 2 (gCons (gName i) (gCons (gName j) gNil))) [i, j] τ o xs.length (fun k τ => match xs[k]? with | some x => (τ.set i (some (dI (k : Int)))).set j (some ⟨t, x⟩) | none => τ) := fun σ G H e st R r =>
  h σ G H e st _ fun vs G1 H1 f1 r1 => by
    cases r1 with
    | cons ra b =>
      cases b
      obtain ⟨a, us, rfl, h3, h4⟩ := ra
      refine ⟨a, us, rfl, .of (f1.l a _ h3), r _ G1 H1 f1 ⟨fun k σ G H τ o hi e1 e2 s f => ?_, fun G H e1 e2 => ⟨us, .of (e2 a _ (e1 a _ h3)), by rw [paired_len h4]; exact Nat.le_refl _⟩⟩⟩
      have l1 : us.length = xs.length := paired_len h4
      have hu : us[k]? = some (us[k]'(by omega)) := List.getElem?_eq_getElem _
      refine ⟨⟨us, _, .of (e2 a _ (e1 a _ h3)), hu⟩, fun x H2 y Q q => ?_⟩
      obtain ⟨T, x1, rfl, hT, rfl, g1⟩ := y
      obtain ⟨z, hz, hr⟩ := paired_get' h4 (g1 us (.of (e2 a _ (e1 a _ h3))))
      obtain ⟨fr, hT'⟩ := Fr.new (o := .tup [.int (k : Nat), x1]) e2 hT
      refine two_set (s.step fr) fr.l upd_same (show RpD _ _ (dI (k : Int)) from rfl) (Rp.mono (e1.trans fr.g) _ _ _ hr : RpD _ _ ⟨_, z⟩) f fun σ' s' d => q σ' _ _ fr ?_ d
      simp only [hz]
      exact s'
/-- over a list of pairs -/
theorem src_pairs {s t : Ty} {xs : List (s.den × t.den)} {i j : Nat} (h : Ev tl τ o (dL (.pr s t) xs)) :
    Src (iList K tl) (gTup K 2 (gCons (gName i) (gCons (gName j) gNil))) [i, j] τ o xs.length (fun k τ => match xs[k]? with | some x => (τ.set i (some ⟨s, x.1⟩)).set j (some ⟨t, x.2⟩) | none => τ) := fun σ G H e st R r =>
  h σ G H e st _ fun v G1 H1 f1 r1 => by
    obtain ⟨a, vs, rfl, h3, h4⟩ := r1
    refine ⟨a, rfl, ⟨vs, .of (f1.l a _ h3)⟩, r _ G1 H1 f1 ⟨fun k σ G H τ o hi e1 e2 s f => ?_, fun G H e1 e2 => ⟨vs, .of (e2 a _ (e1 a _ h3)), by rw [paired_len h4]; exact Nat.le_refl _⟩⟩⟩
    have hlen : vs.length = xs.length := paired_len h4
    have hv : vs[k]? = some (vs[k]'(by omega)) := List.getElem?_eq_getElem _
    have hH : H a = some (.lst vs) := e2 a _ (e1 a _ h3)
    refine ⟨⟨vs, _, .of hH, hv⟩, fun x H1 y Q q => ?_⟩
    obtain ⟨rfl, y2⟩ := y
    obtain ⟨z, hz, hr⟩ := paired_get' h4 (y2 vs (.of hH))
    obtain ⟨T, x1, y1, rfl, hT, ra, rb⟩ := hr
    refine two_set s e2 (e2 T _ (e1 T _ hT)) (Rp.mono e1 _ _ _ ra : RpD _ _ ⟨_, z.1⟩) (Rp.mono e1 _ _ _ rb : RpD _ _ ⟨_, z.2⟩) f fun σ' s' d => q σ' G H1 (.refl e2) ?_ d
    simp only [hz]
    exact s'

/-! ### comprehensions -/
def wipeT (τ : Tau) : List Nat → Tau
  | [] => τ
  | v :: vs => (wipeT τ vs).set v none
theorem wipeT_len (τ : Tau) : ∀ vs : List Nat, (wipeT τ vs).length = τ.length
  | [] => rfl
  | v :: vs => by simp [wipeT, wipeT_len τ vs]
theorem wipeT_some {τ : Tau} {i : Nat} {d : Dy} : ∀ {vs : List Nat}, (wipeT τ vs)[i]? = some (some d) → τ[i]? = some (some d) ∧ i ∉ vs
  | [], h => ⟨h, by simp⟩
  | v :: vs, h => by
    unfold wipeT at h
    by_cases hi : v = i
    · subst hi
      by_cases hv : v < (wipeT τ vs).length
      · rw [List.getElem?_set_self hv] at h; cases h
      · rw [List.getElem?_eq_none (by simpa using hv)] at h; cases h
    · rw [List.getElem?_set_ne hi] at h
      obtain ⟨h1, h2⟩ := wipeT_some h
      exact ⟨h1, by simp only [List.mem_cons, not_or]; exact ⟨fun e => hi e.symm, h2⟩⟩
theorem Sls.wipe {σ : L2.St} {G H : Hp} (s : Sls σ G H τ o) {vs : List Nat} (f : Off o vs) : Sls (wipe σ vs) G H (wipeT τ vs) o := by
  refine ⟨fun i d h => ?_, by rw [wipeT_len, wipe_length]; exact s.len, ?_⟩
  · obtain ⟨h1, h2⟩ := wipeT_some h
    obtain ⟨v, h3, h4⟩ := s.sh i d h1
    exact ⟨v, by rw [wipe_at, if_neg h2]; exact h3, h4⟩
  · cases o with
    | none => trivial
    | some w =>
      obtain ⟨l, us, h1, h2, h3, h4⟩ := s.ow
      exact ⟨l, us, by rw [wipe_at, if_neg (f w rfl)]; exact h1, h2, h3, h4⟩
/-- a new list -/
def EvN (te : TE) (τ : Tau) (o : Ow) (ty : Ty) (xs : List ty.den) : Prop := ∀ σ G H, Ex G H → Sls σ G H τ o → ∀ Q : VK, (∀ l vs G' H', Fr G H G' H' → G' l = none → H l = none → H' l = some (.lst vs) → Paired (fun (u : V) (x : ty.den) => Rp G' ty u x) vs xs → Q (.ref l) H') → te σ H Q
theorem EvN.ev {ty : Ty} {xs : List ty.den} (h : EvN te τ o ty xs) : Ev te τ o (dL ty xs) := fun σ G H e s Q q => h σ G H e s Q fun l vs G' H' f gl hl hl' hp => by
  refine q (.ref l) (upd G' l (.lst vs)) H' ⟨f.g.trans (Ex.new gl), fun a u hu => ?_, f.h, fun a h1 h2 => ?_⟩ ⟨l, vs, rfl, upd_same, Paired.imp (fun u x h => Rp.mono (Ex.new gl) _ _ _ h) hp⟩
  · by_cases ha : a = l
    · subst ha; rw [upd_same] at hu; rw [← hu]; exact hl'
    · rw [upd_ne ha] at hu; exact f.l a u hu
  · rw [upd_ne (fun z => h1 (by rw [z]; exact hl))]
    exact f.n a h1 h2
theorem en_lc {wi : TI} {g : TG} {tt : TT} {vs ts : List Nat} {n : Nat} {up : Nat → Tau → Tau} {ty : Ty} {p : Nat → Bool} {f : Nat → ty.den} (h : Src wi g ts τ o n up) (hts : ∀ k ∈ ts, k ∈ vs) (ho : Off o vs) (hn : n < sizeLine)
    (ht : ∀ i, i < n → Et tt (up i (wipeT τ vs)) o (p i)) (he : ∀ i, i < n → p i = true → Ev te (up i (wipeT τ vs)) o ⟨ty, f i⟩) : EvN (tLc wi g tt te vs) τ o ty (((List.range n).filter p).map f) := fun σ G H e s Q q =>
  h σ G H e s _ fun J G1 H1 f1 w => by
    intro D hD
    have s1 := (s.step f1).wipe ho
    -- what holds ahead of turn i: the list at D, the rest as it was and more
    refine ⟨fun i m H' => m = n - i ∧ i ≤ n ∧ ∃ G' us, Fr G1 H1 G' H' ∧ G' D = none ∧ H' D = some (.lst us) ∧ Paired (fun (u : V) (x : ty.den) => Rp G' ty u x) us (((List.range i).filter p).map f), ⟨n, ?_⟩, ?_⟩
    · obtain ⟨fr, _⟩ := Fr.new (o := .lst []) f1.l hD
      refine ⟨by simp, Nat.zero_le _, G1, [], ⟨.refl _, fun a u hu => ?_, Ex.new hD, fun _ _ h => h⟩, f1.l.none hD, upd_same, .nil⟩
      rw [upd_ne (ne_of_none hu (f1.l.none hD))]
      exact f1.l a u hu
    · rintro i m H' ⟨rfl, hi, G', us, fr, gD, hHD, hp⟩
      have hlen := paired_len hp
      have hcnt : (((List.range i).filter p).map f).length ≤ i := by
        rw [List.length_map]
        exact Nat.le_trans (List.length_filter_le _ _) (by simp)
      rcases Nat.lt_or_eq_of_le hi with hlt | rfl
      · obtain ⟨g1, g2⟩ := w.go i (wipe σ vs) G' H' _ o hlt fr.g fr.l (s1.step fr) fun x hx hm => ho x hx (hts _ hm)
        refine .inr ⟨g1, _, fun H2 h2 => ⟨n - (i + 1), by omega, h2⟩, fun x H2 y => g2 x H2 y _ fun σ3 G3 H3 f3 s3 d3 => ?_⟩
        have hpt := ht i hlt
        refine ⟨d3.wipe hts |>.trans (by
          refine List.ext_getElem? fun k => ?_
          rw [wipe_at, wipe_at, wipe_length]
          split <;> rfl), ?_⟩
        refine hpt σ3 G3 H3 f3.l s3 _ fun G4 H4 f4 => ?_
        have n3 : G3 D = none := f3.n D (by rw [hHD]; simp) gD
        have d3' : H3 D = some (.lst us) := f3.h D _ hHD
        have n4 : G4 D = none := f4.n D (by rw [d3']; simp) n3
        have d4 : H4 D = some (.lst us) := f4.h D _ d3'
        have F4 := (fr.trans f3).trans f4
        cases hpi : p i with
        | false =>
          simp only [Bool.false_eq_true, if_false]
          refine ⟨by first | rfl | trivial, hlt, G4, us, F4, n4, d4, ?_⟩
          rw [List.range_succ, List.filter_append, List.filter_cons, if_neg (by rw [hpi]; exact Bool.false_ne_true), List.filter_nil, List.append_nil]
          exact Paired.imp (fun u x h => Rp.mono (f3.g.trans f4.g) _ _ _ h) hp
        | true =>
          simp only [if_true]
          refine he i hlt hpi σ3 G4 H4 f4.l (s3.step f4) _ fun v G5 H5 f5 r5 => ?_
          have n5 : G5 D = none := f5.n D (by rw [d4]; simp) n4
          have d5 : H5 D = some (.lst us) := f5.h D _ d4
          have F5 := F4.trans f5
          refine ⟨us, d5, by omega, by first | rfl | trivial, hlt, G5, us ++ [v], ⟨F5.g, fun a u hu => ?_, fun a u hu => ?_, F5.n⟩, n5, upd_same, ?_⟩
          · rw [upd_ne (ne_of_none hu n5)]; exact f5.l a u hu
          · rw [upd_ne (fun z => by rw [z, hD] at hu; cases hu)]; exact F5.h a u hu
          · rw [List.range_succ, List.filter_append, List.filter_cons, if_pos hpi, List.filter_nil, List.map_append]
            exact paired_app (Paired.imp (fun u x h => Rp.mono ((f3.g.trans f4.g).trans f5.g) _ _ _ h) hp) (.cons r5 .nil)
      · refine .inl ⟨w.stop G' H' fr.g fr.l, q D us G' H' (f1.trans fr) gD ?_ hHD hp⟩
        cases qa : H D with
        | none => rfl
        | some u => rw [f1.h D u qa] at hD; cases hD
theorem ev_lc {wi : TI} {g : TG} {tt : TT} {vs ts : List Nat} {n : Nat} {up : Nat → Tau → Tau} {ty : Ty} {p : Nat → Bool} {f : Nat → ty.den} (h : Src wi g ts τ o n up) (hts : ∀ k ∈ ts, k ∈ vs) (ho : Off o vs) (hn : n < sizeLine)
    (ht : ∀ i, i < n → Et tt (up i (wipeT τ vs)) o (p i)) (he : ∀ i, i < n → p i = true → Ev te (up i (wipeT τ vs)) o ⟨ty, f i⟩) : Ev (tLc wi g tt te vs) τ o (dL ty (((List.range n).filter p).map f)) :=
  (en_lc h hts ho hn ht he).ev
theorem en_lst {ty : Ty} {xs : List ty.den} {tr : TA} (h : Ea tr τ o (xs.map fun x => (⟨ty, x⟩ : Dy))) (hl : xs.length ≤ 1000) : EvN (tLst tr) τ o ty xs := fun σ G H e s Q q =>
  h σ G H e s _ fun vs G1 H1 f1 r1 => ⟨by
    have := (rpA_pairs r1)
    rw [paired_len this]
    exact Nat.le_trans hl (by decide), fun p hp => by
    refine q p vs G1 _ ⟨f1.g, fun a u hu => ?_, f1.h.trans (Ex.new hp), f1.n⟩ (f1.l.none hp) ?_ upd_same (rpA_pairs r1)
    · rw [upd_ne (ne_of_none (f1.l a u hu) hp)]; exact f1.l a u hu
    · exact f1.h.none hp⟩
end
end Wk

/-! WkB2: comprehensions by what they walk. -/
namespace Wk
open PySem L2
def Ty.df : (t : Ty) → t.den
  | .int => (0 : Int)
  | .bl => false
  | .lst _ => []
  | .pr s t => (s.df, t.df)
  | .tr s t u => (s.df, t.df, u.df)
  | .fz _ => ([] : List Int)
theorem range_lc {α β : Type} {xs : List α} {P : Nat → Bool} {Fn : Nat → β} {p : α → Bool} {f : α → β} (hp : ∀ (i : Nat) (x : α), xs[i]? = some x → P i = p x) (hf : ∀ (i : Nat) (x : α), xs[i]? = some x → p x = true → Fn i = f x) :
    ((List.range xs.length).filter P).map Fn = (xs.filter p).map f := by
  have key : ∀ n, n ≤ xs.length → ((List.range n).filter P).map Fn = ((xs.take n).filter p).map f := by
    intro n
    induction n with
    | zero => intro _; simp
    | succ n ih =>
      intro hn
      have hx : xs[n]? = some xs[n] := List.getElem?_eq_getElem (by omega)
      rw [List.range_succ, List.filter_append, List.map_append, ih (by omega), List.take_add_one, hx, List.filter_append, List.map_append]
      congr 1
      simp only [Option.toList]
      rw [List.filter_cons, List.filter_cons, hp n _ hx]
      split
      · rename_i h
        simp [hf n _ hx h]
      · rfl
  have := key xs.length (Nat.le_refl _)
  rw [List.take_length] at this
  exact this
section
variable {K : PySem.W.Frag} {τ : Tau} {o : Ow} {te tl : TE} {tt : TT} {ta : TA}
/-- [e for x in xs if t] -/
theorem en_lcL {s u : Ty} {xs : List s.den} {j : Nat} {vs : List Nat} {p : s.den → Bool} {f : s.den → u.den} (h : Ev tl τ o (dL s xs)) (hj : j ∈ vs) (ho : Off o vs) (hn : xs.length < sizeLine)
    (ht : ∀ (i : Nat) x, xs[i]? = some x → Et tt ((wipeT τ vs).set j (some ⟨s, x⟩)) o (p x)) (he : ∀ (i : Nat) x, xs[i]? = some x → p x = true → Ev te ((wipeT τ vs).set j (some ⟨s, x⟩)) o ⟨u, f x⟩) :
    EvN (tLc (iList K tl) (gName j) tt te vs) τ o u ((xs.filter p).map f) := by
  rw [← range_lc (xs := xs) (P := fun i => match xs[i]? with | some x => p x | none => true) (Fn := fun i => match xs[i]? with | some x => f x | none => u.df) (fun i x hx => by simp only [hx]) fun i x hx _ => by simp only [hx]]
  refine en_lc (src_list h) (by intro k hk; simp at hk; rw [hk]; exact hj) ho hn (fun i hi => ?_) fun i hi hpi => ?_
  · have hx : xs[i]? = some xs[i] := List.getElem?_eq_getElem hi
    simp only [hx]
    exact ht i _ hx
  · have hx : xs[i]? = some xs[i] := List.getElem?_eq_getElem hi
    simp only [hx] at hpi ⊢
    exact he i _ hx hpi
/-- [e for x in xs] -/
theorem en_lcM {s u : Ty} {xs : List s.den} {j : Nat} {vs : List Nat} {f : s.den → u.den} (h : Ev tl τ o (dL s xs)) (hj : j ∈ vs) (ho : Off o vs) (hn : xs.length < sizeLine)
    (he : ∀ (i : Nat) x, xs[i]? = some x → Ev te ((wipeT τ vs).set j (some ⟨s, x⟩)) o ⟨u, f x⟩) : EvN (tLc (iList K tl) (gName j) tYes te vs) τ o u (xs.map f) := by
  have := en_lcL (K := K) (p := fun _ => true) (f := f) h hj ho hn (fun _ _ _ => et_yes) fun i x hx _ => he i x hx
  rw [List.filter_eq_self.mpr fun _ _ => rfl] at this
  exact this
/-- [e for i in range(..)] -/
theorem en_lcR {wi : TI} {u : Ty} {j n : Nat} {vs : List Nat} {g : Nat → Int} {f : Nat → u.den} (h : Src wi (gName j) [j] τ o n (fun i τ => τ.set j (some (dI (g i))))) (hj : j ∈ vs) (ho : Off o vs) (hn : n < sizeLine)
    (he : ∀ i, i < n → Ev te ((wipeT τ vs).set j (some (dI (g i)))) o ⟨u, f i⟩) : EvN (tLc wi (gName j) tYes te vs) τ o u ((List.range n).map f) := by
  have := en_lc (p := fun _ => true) (f := f) h (by intro k hk; simp at hk; rw [hk]; exact hj) ho hn (fun _ _ => et_yes) fun i hi _ => he i hi
  rw [List.filter_eq_self.mpr fun _ _ => rfl] at this
  exact this
/-- [e for a, b in zip(xs, ys)] -/
theorem en_lcZ {s t u : Ty} {xs : List s.den} {ys : List t.den} {i j : Nat} {vs : List Nat} {f : s.den → t.den → u.den} (h : Ea ta τ o [dL s xs, dL t ys]) (hi : i ∈ vs) (hj : j ∈ vs) (ho : Off o vs) (hn : xs.length < sizeLine)
    (he : ∀ (k : Nat) x y, xs[k]? = some x → ys[k]? = some y → Ev te (((wipeT τ vs).set i (some ⟨s, x⟩)).set j (some ⟨t, y⟩)) o ⟨u, f x y⟩) :
    EvN (tLc (iZip K ta) (gTup K 2 (gCons (gName i) (gCons (gName j) gNil))) tYes te vs) τ o u ((xs.zip ys).map fun p => f p.1 p.2) := by
  have e := range_lc (xs := xs.zip ys) (P := fun _ => true) (Fn := fun k => match (xs.zip ys)[k]? with | some p => f p.1 p.2 | none => u.df) (p := fun _ => true) (f := fun p => f p.1 p.2) (fun _ _ _ => rfl) fun k p hp _ => by simp only [hp]
  rw [List.filter_eq_self.mpr fun _ _ => rfl] at e
  rw [List.filter_eq_self.mpr fun _ _ => rfl] at e
  rw [← e]
  have hl : (xs.zip ys).length = min xs.length ys.length := List.length_zip
  rw [hl]
  have := en_lc (p := fun _ => true) (f := fun k => match (xs.zip ys)[k]? with | some p => f p.1 p.2 | none => u.df) (src_zip (K := K) (i := i) (j := j) h) (by intro k hk; simp at hk; rcases hk with rfl | rfl <;> assumption) ho (by omega) (fun _ _ => et_yes) fun k hk _ => by
    have hx : xs[k]? = some (xs[k]'(by omega)) := List.getElem?_eq_getElem _
    have hy : ys[k]? = some (ys[k]'(by omega)) := List.getElem?_eq_getElem _
    have hz : (xs.zip ys)[k]? = some (xs[k]'(by omega), ys[k]'(by omega)) := by
      rw [List.getElem?_zip_eq_some]; exact ⟨hx, hy⟩
    simp only [hx, hy, hz]
    exact he k _ _ hx hy
  rw [List.filter_eq_self.mpr fun _ _ => rfl] at this
  exact this
/-- [e for i, x in enumerate(xs)] -/
theorem en_lcE {t u : Ty} {xs : List t.den} {i j : Nat} {vs : List Nat} {f : Nat → t.den → u.den} (h : Ea ta τ o [dL t xs]) (hi : i ∈ vs) (hj : j ∈ vs) (ho : Off o vs) (hn : xs.length < sizeLine)
    (he : ∀ (k : Nat) x, xs[k]? = some x → Ev te (((wipeT τ vs).set i (some (dI (k : Int)))).set j (some ⟨t, x⟩)) o ⟨u, f k x⟩) :
    EvN (tLc (iEnum K ta) (gTup K 2 (gCons (gName i) (gCons (gName j) gNil))) tYes te vs) τ o u (xs.zipIdx.map fun p => f p.2 p.1) := by
  have e := range_lc (xs := xs.zipIdx) (P := fun _ => true) (Fn := fun k => match xs[k]? with | some x => f k x | none => u.df) (p := fun _ => true) (f := fun p => f p.2 p.1) (fun _ _ _ => rfl) fun k p hp _ => by
    rw [List.getElem?_zipIdx] at hp
    obtain ⟨x, hx, rfl⟩ := Option.map_eq_some_iff.mp hp
    simp only [hx, Nat.zero_add]
  rw [List.filter_eq_self.mpr fun _ _ => rfl] at e
  rw [List.filter_eq_self.mpr fun _ _ => rfl] at e
  rw [← e, List.length_zipIdx]
  have := en_lc (p := fun _ => true) (f := fun k => match xs[k]? with | some x => f k x | none => u.df) (src_enum (K := K) (i := i) (j := j) h) (by intro k hk; simp at hk; rcases hk with rfl | rfl <;> assumption) ho hn (fun _ _ => et_yes) fun k hk _ => by
    have hx : xs[k]? = some xs[k] := List.getElem?_eq_getElem hk
    simp only [hx]
    exact he k _ hx
  rw [List.filter_eq_self.mpr fun _ _ => rfl] at this
  exact this
/-- [e for a, b in pairs] -/
theorem en_lcP {s t u : Ty} {xs : List (s.den × t.den)} {i j : Nat} {vs : List Nat} {f : s.den → t.den → u.den} (h : Ev tl τ o (dL (.pr s t) xs)) (hi : i ∈ vs) (hj : j ∈ vs) (ho : Off o vs) (hn : xs.length < sizeLine)
    (he : ∀ (k : Nat) x, xs[k]? = some x → Ev te (((wipeT τ vs).set i (some ⟨s, x.1⟩)).set j (some ⟨t, x.2⟩)) o ⟨u, f x.1 x.2⟩) :
    EvN (tLc (iList K tl) (gTup K 2 (gCons (gName i) (gCons (gName j) gNil))) tYes te vs) τ o u (xs.map fun p => f p.1 p.2) := by
  have e := range_lc (xs := xs) (P := fun _ => true) (Fn := fun k => match xs[k]? with | some x => f x.1 x.2 | none => u.df) (p := fun _ => true) (f := fun p => f p.1 p.2) (fun _ _ _ => rfl) fun k p hp _ => by simp only [hp]
  rw [List.filter_eq_self.mpr fun _ _ => rfl] at e
  rw [List.filter_eq_self.mpr fun _ _ => rfl] at e
  rw [← e]
  have := en_lc (p := fun _ => true) (f := fun k => match xs[k]? with | some x => f x.1 x.2 | none => u.df) (src_pairs (K := K) (i := i) (j := j) h) (by intro k hk; simp at hk; rcases hk with rfl | rfl <;> assumption) ho hn (fun _ _ => et_yes) fun k hk _ => by
    have hx : xs[k]? = some xs[k] := List.getElem?_eq_getElem hk
    simp only [hx]
    exact he k _ hx
  rw [List.filter_eq_self.mpr fun _ _ => rfl] at this
  exact this
end
end Wk

/-! WkC: statements, loops, a def's promise. -/
namespace Wk
open PySem L2 PyProof.Rows PySem.Spec
/-- from these slots the statement comes to slots of nx, or it returns what rt tells -/
def Sd (t : TS) (τ : Tau) (o : Ow) (nx : Tau → Ow → Prop) (rt : Dy → Prop) : Prop := ∀ G0 H0 σ G H (D : Ends), Fr G0 H0 G H → Sls σ G H τ o → OwNew H0 σ o →
  (∀ τ' o' σ' G' H', nx τ' o' → Fr G0 H0 G' H' → Ex G G' → Sls σ' G' H' τ' o' → OwNew H0 σ' o' → D.nx σ' H') → (∀ d v G' H', rt d → Fr G0 H0 G' H' → RpD G' v d → D.rt v H') → t D σ H
section
variable {K : PySem.W.Frag} {τ : Tau} {o : Ow} {te tl ta tb : TE} {t u : TS} {nx : Tau → Ow → Prop} {rt : Dy → Prop}
theorem sd_seq {mid : Tau → Ow → Prop} (h1 : Sd t τ o mid rt) (h2 : ∀ τ' o', mid τ' o' → Sd u τ' o' nx rt) : Sd (tSeq t u) τ o nx rt := fun G0 H0 σ G H D f s w n r =>
  h1 G0 H0 σ G H { D with nx := u D } f s w (fun τ' o' σ' G' H' m f' e s' w' => h2 τ' o' m G0 H0 σ' G' H' D f' s' w' (fun τ2 o2 σ2 G2 H2 m2 f2 e2 s2 w2 => n τ2 o2 σ2 G2 H2 m2 f2 (e.trans e2) s2 w2) r) r
/-- .. the slots between known -/
theorem sd_then {τ1 : Tau} {o1 : Ow} (h1 : Sd t τ o (fun τ' o' => τ' = τ1 ∧ o' = o1) rt) (h2 : Sd u τ1 o1 nx rt) : Sd (tSeq t u) τ o nx rt := sd_seq h1 fun _ _ ⟨a, b⟩ => by subst a b; exact h2
theorem sd_mono {nx' : Tau → Ow → Prop} {rt' : Dy → Prop} (h : Sd t τ o nx rt) (hn : ∀ τ o, nx τ o → nx' τ o) (hr : ∀ d, rt d → rt' d) : Sd t τ o nx' rt' := fun G0 H0 σ G H D f s w n r =>
  h G0 H0 σ G H D f s w (fun τ' o' σ' G' H' m => n τ' o' σ' G' H' (hn _ _ m)) fun d v G' H' m => r d v G' H' (hr _ m)
theorem sd_asg {i : Nat} {d : Dy} (h : Ev te τ o d) (ho : Off o [i]) (q : nx (τ.set i (some d)) o) : Sd (tAsg te (gName i)) τ o nx rt := fun G0 H0 σ G H D f s w n r =>
  h σ G H f.l s _ fun v G1 H1 f1 r1 => n _ o _ G1 H1 q (f.trans f1) f1.g ((s.step f1).set r1 fun x hx e => ho x hx (by simp [e])) (w.set fun x hx e => ho x hx (by simp [e]))
theorem sd_asgN {i : Nat} {ty : Ty} {xs : List ty.den} (h : EvN te τ none ty xs) (hi : i < τ.length) (q : nx (τ.set i none) (some ⟨i, ty, xs⟩)) : Sd (tAsg te (gName i)) τ none nx rt := fun G0 H0 σ G H D f s w n r =>
  h σ G H f.l s _ fun l vs G1 H1 f1 gl hl hl' hp => by
    have s1 := s.step f1
    have hσ : i < σ.length := by rw [← s.len]; exact hi
    refine n _ _ _ G1 H1 q (f.trans f1) f1.g ⟨fun j d hj => ?_, by simp [s.len], ⟨l, vs, List.getElem?_set_self hσ, hl', gl, hp⟩⟩ fun l' e => ?_
    · by_cases hij : i = j
      · subst hij; rw [List.getElem?_set_self hi] at hj; cases hj
      · rw [List.getElem?_set_ne hij] at hj ⊢
        exact s1.sh j d hj
    · have e : (σ.set i (some (.ref l)))[i]? = some (some (.ref l')) := e
      rw [List.getElem?_set_self hσ] at e
      cases e
      exact f.h.none hl
/-- the own list is one's own no more -/
theorem sd_share {i : Nat} {ty : Ty} {xs : List ty.den} (hi : i < τ.length) (h : Sd t (τ.set i (some (dL ty xs))) none nx rt) : Sd t τ (some ⟨i, ty, xs⟩) nx rt := fun G0 H0 σ G H D f s w n r => by
  obtain ⟨l, vs, h1, h2, h3, h4⟩ := s.ow
  have eg : Ex G (upd G l (.lst vs)) := Ex.new h3
  refine h G0 H0 σ (upd G l (.lst vs)) H D ⟨f.g.trans eg, fun a u hu => ?_, f.h, fun a x1 x2 => ?_⟩ ⟨fun j d hj => ?_, by simp [s.len], trivial⟩ trivial (fun τ' o' σ' G' H' m f' e s' w' => n τ' o' σ' G' H' m f' (eg.trans e) s' w') r
  · by_cases ha : a = l
    · subst ha; rw [upd_same] at hu; rw [← hu]; exact h2
    · rw [upd_ne ha] at hu; exact f.l a u hu
  · rw [upd_ne (fun z => x1 (by rw [z]; exact w l h1))]
    exact f.n a x1 x2
  · by_cases hij : i = j
    · subst hij
      rw [List.getElem?_set_self hi] at hj
      cases hj
      exact ⟨.ref l, h1, l, vs, rfl, upd_same, Paired.imp (fun u x h => Rp.mono eg _ _ _ h) h4⟩
    · rw [List.getElem?_set_ne hij] at hj
      obtain ⟨v, a, b⟩ := s.sh j d hj
      exact ⟨v, a, b.mono eg⟩
/-- the own list changed -/
theorem own_upd {G0 H0 : Hp} {σ : L2.St} {G H G1 H1 : Hp} {i : Nat} {ty : Ty} {xs ys : List ty.den} {vs ws : List V} {l : Addr} (f : Fr G0 H0 G H) (s : Sls σ G H τ (some ⟨i, ty, xs⟩)) (w : OwNew H0 σ (some ⟨i, ty, xs⟩)) (f1 : Fr G H G1 H1)
    (h1 : σ[i]? = some (some (.ref l))) (hl : H l = some (.lst vs)) (gl : G l = none) (hp : Paired (fun (u : V) (x : ty.den) => Rp G1 ty u x) ws ys) :
    Fr G0 H0 G1 (upd H1 l (.lst ws)) ∧ Sls σ G1 (upd H1 l (.lst ws)) τ (some ⟨i, ty, ys⟩) ∧ OwNew H0 σ (some ⟨i, ty, ys⟩) := by
  have g1 : G1 l = none := f1.n l (by rw [hl]; simp) gl
  have h0 := w l h1
  have F := f.trans f1
  refine ⟨⟨F.g, fun a u hu => ?_, fun a u hu => ?_, F.n⟩, ⟨fun j d hj => ?_, s.len, l, ws, h1, upd_same, g1, hp⟩, fun l' e => w l' e⟩
  · rw [upd_ne (ne_of_none hu g1)]; exact F.l a u hu
  · rw [upd_ne (ne_of_none hu h0)]; exact F.h a u hu
  · obtain ⟨v, a, b⟩ := s.sh j d hj
    exact ⟨v, a, b.mono f1.g⟩
theorem sd_append {i : Nat} {ty : Ty} {xs : List ty.den} {x : ty.den} (h : Ev te τ (some ⟨i, ty, xs⟩) ⟨ty, x⟩) (hz : xs.length < sizeLine) (q : nx τ (some ⟨i, ty, xs ++ [x]⟩)) :
    Sd (tDrop (tBM K "list" rAppend (tVar i) (tCons te tNil))) τ (some ⟨i, ty, xs⟩) nx rt := fun G0 H0 σ G H D f s w n r => by
  obtain ⟨l, vs, h1, h2, h3, h4⟩ := s.ow
  refine ⟨.ref l, h1, .inl ⟨rfl, _, SqL.of h2⟩, h σ G H f.l s _ fun v G1 H1 f1 r1 => ⟨l, vs, v, rfl, rfl, f1.h l _ h2, by rw [paired_len h4]; exact hz, ?_⟩⟩
  obtain ⟨a, b, c⟩ := own_upd f s w f1 h1 h2 h3 (paired_app (Paired.imp (fun u x h => Rp.mono f1.g _ _ _ h) h4) (.cons r1 .nil))
  exact n _ _ _ _ _ q a f1.g b c
theorem sd_extend {i : Nat} {ty : Ty} {xs ys : List ty.den} (h : Ev te τ (some ⟨i, ty, xs⟩) (dL ty ys)) (hz : xs.length + ys.length ≤ sizeLine) (q : nx τ (some ⟨i, ty, xs ++ ys⟩)) :
    Sd (tDrop (tBM K "list" rExtend (tVar i) (tCons te tNil))) τ (some ⟨i, ty, xs⟩) nx rt := fun G0 H0 σ G H D f s w n r => by
  obtain ⟨l, vs, h1, h2, h3, h4⟩ := s.ow
  refine ⟨.ref l, h1, .inl ⟨rfl, _, SqL.of h2⟩, h σ G H f.l s _ fun v G1 H1 f1 r1 => ?_⟩
  obtain ⟨b, us, rfl, h5, h6⟩ := r1
  refine ⟨l, b, vs, us, rfl, rfl, f1.h l _ h2, f1.l b _ h5, by rw [paired_len h4, paired_len h6]; exact hz, ?_⟩
  obtain ⟨a, b, c⟩ := own_upd f s w f1 h1 h2 h3 (paired_app (Paired.imp (fun u x h => Rp.mono f1.g _ _ _ h) h4) h6)
  exact n _ _ _ _ _ q a f1.g b c
theorem sd_setitem {i : Nat} {ty : Ty} {xs : List ty.den} {x : ty.den} {k : Int} (h : Ev te τ (some ⟨i, ty, xs⟩) ⟨ty, x⟩) (hk : Ev tb τ (some ⟨i, ty, xs⟩) (dI k)) (k0 : 0 ≤ k) (k1 : k < xs.length) (q : nx τ (some ⟨i, ty, xs.set k.toNat x⟩)) :
    Sd (tAsg te (gSub (tVar i) tb rSetL)) τ (some ⟨i, ty, xs⟩) nx rt := fun G0 H0 σ G H D f s w n r => by
  obtain ⟨l, vs, h1, h2, h3, h4⟩ := s.ow
  refine h σ G H f.l s _ fun v G1 H1 f1 r1 => ⟨.ref l, h1, hk σ G1 H1 f1.l (s.step f1) _ fun kv G2 H2 f2 r2 => ?_⟩
  obtain rfl : kv = .int k := r2
  have e : ixN vs.length k = some k.toNat := by
    unfold ixN
    rw [if_pos k0, if_pos (by rw [paired_len h4]; exact k1)]
  refine ⟨l, vs, k, k.toNat, rfl, rfl, f2.h l _ (f1.h l _ h2), e, ?_⟩
  obtain ⟨a, b, c⟩ := own_upd f s w (f1.trans f2) h1 h2 h3 (paired_set (Rp.mono f2.g _ _ _ r1) k.toNat (Paired.imp (fun u x h => Rp.mono (f1.g.trans f2.g) _ _ _ h) h4))
  exact n _ _ _ _ _ q a (f1.g.trans f2.g) b c
theorem sd_asg2 {i j : Nat} {s t : Ty} {x : s.den} {y : t.den} (h : Ev te τ o ⟨.pr s t, (x, y)⟩) (ho : Off o [i, j]) (q : nx ((τ.set i (some ⟨s, x⟩)).set j (some ⟨t, y⟩)) o) :
    Sd (tAsg te (gTup K 2 (gCons (gName i) (gCons (gName j) gNil)))) τ o nx rt := fun G0 H0 σ G H D f st w n r =>
  h σ G H f.l st _ fun v G1 H1 f1 r1 => by
    obtain ⟨T, u, z, rfl, hT, ra, rb⟩ := r1
    exact two_set (st.step f1) f1.l (f1.l T _ hT) (show RpD G1 u ⟨s, x⟩ from ra) (show RpD G1 z ⟨t, y⟩ from rb) ho fun σ' s' d => n _ o σ' G1 H1 q (f.trans f1) f1.g s' (w.dif d ho)
theorem sd_asg3 {i j k : Nat} {s t r : Ty} {x : s.den} {y : t.den} {z : r.den} (h : Ev te τ o ⟨.tr s t r, (x, y, z)⟩) (ho : Off o [i, j, k]) (q : nx (((τ.set i (some ⟨s, x⟩)).set j (some ⟨t, y⟩)).set k (some ⟨r, z⟩)) o) :
    Sd (tAsg te (gTup K 3 (gCons (gName i) (gCons (gName j) (gCons (gName k) gNil))))) τ o nx rt := fun G0 H0 σ G H D f st w n rr =>
  h σ G H f.l st _ fun v G1 H1 f1 r1 => by
    obtain ⟨T, a, b, c, rfl, hT, ra, rb, rc⟩ := r1
    refine ⟨T, [a, b, c], rfl, .of (f1.l T _ hT), rfl, a, [b, c], rfl, b, [c], rfl, c, [], rfl, rfl, n _ o _ G1 H1 q (f.trans f1) f1.g ?_ (w.dif (Dif.trans .set (Dif.trans .set .set)) ho)⟩
    exact (((st.step f1).set (show RpD G1 a ⟨s, x⟩ from ra) fun w hw e => ho w hw (by simp [e])).set (show RpD G1 b ⟨t, y⟩ from rb) fun w hw e => ho w hw (by simp [e])).set (show RpD G1 c ⟨r, z⟩ from rc) fun w hw e => ho w hw (by simp [e])
theorem sd_par {i j : Nat} {tr : TA} {d e : Dy} (h : Ea tr τ o [d, e]) (ho : Off o [i, j]) (q : nx ((τ.set i (some d)).set j (some e)) o) : Sd (tPar i j tr) τ o nx rt := fun G0 H0 σ G H D f st w n r =>
  h σ G H f.l st _ fun vs G1 H1 f1 r1 => by
    cases r1 with
    | @cons u _ _ _ ra b =>
      cases b with
      | @cons z _ _ _ rb c =>
        cases c
        exact ⟨u, z, rfl, n _ o _ G1 H1 q (f.trans f1) f1.g (((st.step f1).set ra fun w hw e => ho w hw (by simp [e])).set rb fun w hw e => ho w hw (by simp [e])) (w.dif (Dif.trans .set .set) ho)⟩
theorem sd_if {c : TT} {b : Bool} (h : Et c τ o b) (h1 : b = true → Sd t τ o nx rt) (h2 : b = false → Sd u τ o nx rt) : Sd (tIfS c t u) τ o nx rt := fun G0 H0 σ G H D f s w n r =>
  h σ G H f.l s _ fun G1 H1 f1 => by
    have n' : ∀ τ' o' σ' G' H', nx τ' o' → Fr G0 H0 G' H' → Ex G1 G' → Sls σ' G' H' τ' o' → OwNew H0 σ' o' → D.nx σ' H' := fun τ' o' σ' G' H' m f' e s' w' => n τ' o' σ' G' H' m f' (f1.g.trans e) s' w'
    cases b with
    | true => exact h1 rfl G0 H0 σ G1 H1 D (f.trans f1) (s.step f1) w n' r
    | false => exact h2 rfl G0 H0 σ G1 H1 D (f.trans f1) (s.step f1) w n' r
theorem sd_next (q : nx τ o) : Sd tNext τ o nx rt := fun G0 H0 σ G H D f s w n r => n τ o σ G H q f (.refl _) s w
theorem sd_ret {d : Dy} (h : Ev te τ o d) (q : rt d) : Sd (tRet te) τ o nx rt := fun G0 H0 σ G H D f s w n r =>
  h σ G H f.l s _ fun v G1 H1 f1 r1 => r d v G1 H1 q (f.trans f1) r1
/-- a for over what is told; I holds ahead of each turn -/
theorem sd_for {wi : TI} {g : TG} {ts : List Nat} {m : Nat} {up : Nat → Tau → Tau} (h : Src wi g ts τ o m up) (I : Nat → Tau → Ow → Prop) (h0 : I 0 τ o) (ho : ∀ i τ' o', I i τ' o' → Off o' ts)
    (hs : ∀ i τ' o', i < m → I i τ' o' → Sd t (up i τ') o' (I (i + 1)) rt) (hd : ∀ τ' o', I m τ' o' → nx τ' o') : Sd (tFor wi g t) τ o nx rt := fun G0 H0 σ G H D f s w n r =>
  h σ G H f.l s _ fun J G1 H1 f1 wk => by
    refine ⟨fun i k σ' H' => k = m - i ∧ i ≤ m ∧ ∃ τ' o' G', I i τ' o' ∧ Fr G0 H0 G' H' ∧ Ex G1 G' ∧ Sls σ' G' H' τ' o' ∧ OwNew H0 σ' o', ⟨m, by simp, Nat.zero_le _, τ, o, G1, h0, f.trans f1, .refl _, s.step f1, w⟩, ?_⟩
    rintro i k σ' H' ⟨rfl, hi, τ', o', G', hI, f', e', s', w'⟩
    rcases Nat.lt_or_eq_of_le hi with hlt | rfl
    · have off := ho i τ' o' hI
      obtain ⟨g1, g2⟩ := wk.go i σ' G' H' τ' o' hlt e' f'.l s' off
      refine .inr ⟨g1, fun σ2 H2 => ∃ τ2 o2 G2, I (i + 1) τ2 o2 ∧ Fr G0 H0 G2 H2 ∧ Ex G1 G2 ∧ Sls σ2 G2 H2 τ2 o2 ∧ OwNew H0 σ2 o2, fun σ2 H2 z => ⟨m - (i + 1), by omega, rfl, hlt, z⟩, fun x H2 y => g2 x H2 y _ fun σ3 G3 H3 f3 s3 d3 => ?_⟩
      exact hs i τ' o' hlt hI G0 H0 σ3 G3 H3 _ (f'.trans f3) s3 (w'.dif d3 off) (fun τ4 o4 σ4 G4 H4 m4 f4 e4 s4 w4 => ⟨τ4, o4, G4, m4, f4, (e'.trans f3.g).trans e4, s4, w4⟩) r
    · exact .inl ⟨wk.stop G' H' e' f'.l, n τ' o' σ' G' H' (hd τ' o' hI) f' (f1.g.trans e') s' w'⟩
/-- a while; I holds ahead of each test, with a measure that falls -/
theorem sd_while {c : TT} (I : Nat → Tau → Ow → Prop) (m0 : Nat) (h0 : I m0 τ o) (hs : ∀ m τ' o', I m τ' o' → ∃ b, Et c τ' o' b ∧ (b = true → Sd t τ' o' (fun τ2 o2 => ∃ m2, m2 < m ∧ I m2 τ2 o2) rt) ∧ (b = false → nx τ' o')) :
    Sd (tWhile c t) τ o nx rt := fun G0 H0 σ G H D f s w n r => by
  refine ⟨fun m σ' H' => ∃ τ' o' G', I m τ' o' ∧ Fr G0 H0 G' H' ∧ Ex G G' ∧ Sls σ' G' H' τ' o' ∧ OwNew H0 σ' o', ⟨m0, τ, o, G, h0, f, .refl _, s, w⟩, ?_⟩
  rintro m σ' H' ⟨τ', o', G', hI, f', e', s', w'⟩
  obtain ⟨b, hc, h1, h2⟩ := hs m τ' o' hI
  refine hc σ' G' H' f'.l s' _ fun G1 H1 f1 => ?_
  cases b with
  | true =>
    simp only [if_true]
    refine ⟨fun σ2 H2 => ∃ m2, m2 < m ∧ ∃ τ2 o2 G2, I m2 τ2 o2 ∧ Fr G0 H0 G2 H2 ∧ Ex G G2 ∧ Sls σ2 G2 H2 τ2 o2 ∧ OwNew H0 σ2 o2, fun σ2 H2 z => z, ?_⟩
    refine h1 rfl G0 H0 σ' G1 H1 _ (f'.trans f1) (s'.step f1) w' (fun τ4 o4 σ4 G4 H4 m4 f4 e4 s4 w4 => ?_) r
    obtain ⟨m2, hm, hI2⟩ := m4
    exact ⟨m2, hm, τ4, o4, G4, hI2, f4, (e'.trans f1.g).trans e4, s4, w4⟩
  | false =>
    simp only [Bool.false_eq_true, if_false]
    exact n τ' o' σ' G1 H1 (h2 rfl) (f'.trans f1) (e'.trans f1.g) (s'.step f1) w'
end
/-! ### a def -/
def startT (N : List Str) (ds : List Dy) : Tau := ds.map some ++ List.replicate (N.length - ds.length) none
theorem rpA_get {G : Hp} : ∀ {vs : List V} {ds : List Dy} {i : Nat} {d : Dy}, RpA G vs ds → ds[i]? = some d → ∃ v, vs[i]? = some v ∧ RpD G v d
  | _, _, _, _, .nil, e => by simp at e
  | _, _, 0, _, .cons a b, e => ⟨_, rfl, by simp at e; subst e; exact a⟩
  | _, _, i + 1, y, .cons a b, e => by
    obtain ⟨x, h1, h2⟩ := rpA_get (i := i) (d := y) b (by simpa using e)
    exact ⟨x, by simpa using h1, h2⟩
theorem sls_start {G H : Hp} {N : List Str} {vs : List V} {ds : List Dy} (r : RpA G vs ds) : Sls (L2.start N vs) G H (startT N ds) none := by
  refine ⟨fun i d h => ?_, by simp [L2.start, startT, r.len], trivial⟩
  unfold startT at h
  by_cases hi : i < (ds.map some).length
  · rw [List.getElem?_append_left hi] at h
    simp only [List.getElem?_map, Option.map_eq_some_iff] at h
    obtain ⟨d', h, e⟩ := h
    cases e
    obtain ⟨v, h1, h2⟩ := rpA_get r h
    refine ⟨v, ?_, h2⟩
    unfold L2.start
    rw [List.getElem?_append_left (by simp at hi; simp [r.len, hi])]
    simp [h1]
  · rw [List.getElem?_append_right (by omega), List.getElem?_replicate] at h
    split at h <;> cases h
/-- THE RULE for a def that changes nothing that stood: its body as a term of rules, what it does slot by slot -/
theorem fn_pure {P : Program} {w : World} {K : PySem.W.Frag} {mg : Str → Option Value} {base : Heap} {x qual : Str} {st : Stmt} {f : Addr} {fd : FuncData} {N ps : List Str} {k : Nat} {F : List Dy → Dy → Prop} (Fn : Fun K x qual st f fd) (S : FnScope N ps (defScope st))
    (len : ∀ ds d, F ds d → ds.length = ps.length)
    (hbody : ∀ (cdv : Value) (A : Around) (outer : List Env) (s : Shared) (H : Hp) (E : XK), Room k (A.deeper (envOfC qual (defScope st) s.heap.objs.size f cdv)) → ∀ ds d, F ds d →
      ∃ t, PSs (cxOf CX0 P w K mg base N qual (defScope st) f cdv A outer s H E).nox (defBody st) t ∧ Sd t (startT N ds) none (fun _ _ => False) (fun d' => d' = d)) : FnOk P w K mg base CX0 (k + 1) f fd ps (spD F) := by
  refine Fn.ok S (fun vs H Q E ⟨G, ds, d, e, r, hF, _⟩ => r.len.trans (len ds d hF)) fun cdv A outer s H vs Q E hr ⟨G, ds, d, e, r, hF, q⟩ => ?_
  obtain ⟨t, h1, h2⟩ := hbody cdv A outer s H E hr ds d hF
  refine ⟨t, h1, h2 G H _ G H _ (.refl e) (sls_start r) trivial (fun _ _ _ _ _ m => m.elim) fun d' v G' H' m f' r' => ?_⟩
  subst m
  exact q v G' H' f' r'
end Wk

/-! WkD: this program's text; a def that is called; division and products of great numbers. -/
namespace Wk
open PySem L2 PyProof.Rows PySem.Spec
def topS (i : Nat) : Stmt := PySem.Challenge.pw_idealrows_s01_answers.main.body.getD i (.Pass ⟨0, 0, 0, 0⟩)
/-- a def that may be called by its name -/
structure DefOk (P : Program) (w : World) (K : PySem.W.Frag) (mg : Str → Option Value) (base : Heap) (k : Nat) (x : Str) (ps : List Str) (sp : Sp) : Prop where
  ex : ∃ (f : Addr) (fd : FuncData), FnOk P w K mg base CX0 k f fd ps sp ∧ mg x = some (.ref f) ∧ PySem.W.keepIn K (.ref f) = true ∧ Binds K fd ps []
theorem pe_callD {X : Cx} {k : Nat} {x : Str} {ps : List Str} {sp : Sp} {p pos : Pos} {e : Expr} {es : List Expr} {t : TA} (d : DefOk X.prog X.w X.K X.mg X.base k x ps sp) (hr : Room k X.A) (hg : Gl X x)
    (ha : PA X (e :: es) t) (hdb : (x == ("__debug__" : Str)) = false := by decide)
    (he : starEach (e :: es) X.env = (false, eval e X.env) :: starEach es X.env := by rfl) (hpl : (backTo pos (starEach es X.env)).any (·.1) = false := by rfl) :
    PE X (.Call (.Name x p) (e :: es) [] pos) (tCall sp [] E0 t) := by
  obtain ⟨f, fd, F, hm, hk, hb⟩ := d.ex
  exact pe_call F hr hg hm hk hb .nil pass0 ha hdb he hpl
/-- x // y of numbers of any size -/
theorem op_fd {X : Cx} {e : Env} {l : List Env} (hN : X.base.NoSeer) (ht : X.prog.given.tree = none) (hr : Room 39 X.A) (hs : X.stack = e :: l) (hgen : e.scope.isGenerator = false) (hco : e.scope.isCoroutine = false) (hb : e.builtins = builtinsNs) (hg : e.globals = mainGlobals) :
    OpR X (binaryOp .FloorDiv) (rI (fun _ j => j ≠ 0) fun i j => .int (i.fdiv j)) := by
  intro pins s σ H x y v u Q I rx ry h
  obtain ⟨i, j, rfl, rfl, hj, q⟩ := h
  obtain ⟨t, rfl⟩ := rx
  obtain ⟨t', rfl⟩ := ry
  have hd : X.A.depth + Builtin.pylongFrames < recursionLimit := by
    have := hr.dp
    have e : Builtin.pylongFrames = 100 := rfl
    omega
  have hfr : X.A.frames = some (e :: l) := I.ok.frames.trans (congrArg some hs)
  exact floordiv_int hj ⟨.int _, H, I.tok _, ⟨_, rfl⟩, q⟩ (.inr (PylongRoom.of I.nolimit hd (SeerAt.of (hN.keeps I.bk) ht hfr hgen hco hb hg)))
/-- x * y, together not too great -/
def MulB (i j : Int) : Prop := i.natAbs.log2 + j.natAbs.log2 < 100000000
theorem MulB.ok {i j : Int} (h : MulB i j) : IntMulOk i j := by
  have b : ∀ x : Int, Builtin.Int.intBits x ≤ x.natAbs.log2 + 1 := fun x => by
    unfold Builtin.Int.intBits
    split <;> omega
  have h1 := b i
  have h2 := b j
  have h3 : i.natAbs.log2 + j.natAbs.log2 < 100000000 := h
  have e : bitsLine = 134217728 := by decide
  intro z
  rw [Bool.and_eq_true] at z
  have z2 := of_decide_eq_true z.2
  rw [e] at z2
  omega
theorem op_mulB {X : Cx} : OpR X (binaryOp .Mult) (rI MulB fun i j => .int (i * j)) := opI fun _ _ _ _ _ _ _ hc q => mul_int q hc.ok
theorem mulB_of {i j : Int} {a b : Nat} (ha : i.natAbs < 2 ^ a) (hb : j.natAbs < 2 ^ b) (h : a + b ≤ 100000000) : MulB i j := by
  have f : ∀ {x : Int} {c : Nat}, x.natAbs < 2 ^ c → x.natAbs.log2 ≤ c ∧ (0 < c → x.natAbs.log2 < c) := fun {x c} hx => by
    by_cases h0 : x.natAbs = 0
    · rw [h0]
      have : Nat.log2 0 = 0 := by decide
      rw [this]; omega
    · have := (Nat.log2_lt h0).mpr hx
      omega
  have h1 := f ha
  have h2 := f hb
  unfold MulB
  by_cases h0 : a = 0
  · by_cases h3 : b = 0
    · omega
    · have := h2.2 (by omega); omega
  · have := h1.2 (by omega); omega
/-- within an int's value of a bool -/
theorem ev_intb {τ : Tau} {o : Ow} {ta : TE} {b : Bool} (h : Ev ta τ o (dB b)) : Ev (tCB (fun xs H Q => (∃ i, xs = [.int i] ∧ Q (.int i) H) ∨ ∃ k, xs = [.bl k] ∧ Q (.int (if k then 1 else 0)) H) (tCons ta tNil)) τ o (dI (if b then 1 else 0)) :=
  ev_cb (ea_cons h ea_nil) fun G H vs e r Q q => by
    cases r with
    | cons a c =>
      cases c
      exact .inr ⟨b, by rw [show _ = V.bl b from a], q _ G H (.refl e) rfl⟩
theorem ev_abs {τ : Tau} {o : Ow} {ta : TE} {i : Int} (h : Ev ta τ o (dI i)) : Ev (tCB (fun xs H Q => ∃ i, xs = [.int i] ∧ Q (.int (if i < 0 then -i else i)) H) (tCons ta tNil)) τ o (dI (i.natAbs : Int)) :=
  ev_cb (ea_cons h ea_nil) fun G H vs e r Q q => by
    cases r with
    | cons a c =>
      cases c
      exact ⟨i, by rw [show _ = V.int i from a], q _ G H (.refl e) (by show V.int (if i < 0 then -i else i) = V.int (i.natAbs : Int); congr 1; split <;> omega)⟩
theorem ev_len {τ : Tau} {o : Ow} {ta : TE} {K : PySem.W.Frag} {ty : Ty} {xs : List ty.den} (h : Ev ta τ o (dL ty xs)) : Ev (tCB (fun xs H Q => ∃ p ys, xs = [.ref p] ∧ (SqL K H p ys ∨ SqT K H p ys) ∧ Q (.int ys.length) H) (tCons ta tNil)) τ o (dI (xs.length : Int)) :=
  ev_cb (ea_cons h ea_nil) fun G H vs e r Q q => by
    cases r with
    | cons a c =>
      cases c
      obtain ⟨p, us, rfl, h1, h2⟩ := a
      exact ⟨p, us, rfl, .inl (.of (e p _ h1)), q _ G H (.refl e) (by show V.int _ = V.int _; rw [paired_len h2])⟩
theorem ev_lenO {τ : Tau} {K : PySem.W.Frag} {i : Nat} {ty : Ty} {xs : List ty.den} : Ev (tCB (fun xs H Q => ∃ p ys, xs = [.ref p] ∧ (SqL K H p ys ∨ SqT K H p ys) ∧ Q (.int ys.length) H) (tCons (tVar i) tNil)) τ (some ⟨i, ty, xs⟩) (dI (xs.length : Int)) := fun σ G H e s Q q => by
  obtain ⟨l, vs, h1, h2, h3, h4⟩ := s.ow
  exact ⟨.ref l, h1, l, vs, rfl, .inl (.of h2), q _ G H (.refl e) (by show V.int _ = V.int _; rw [paired_len h4])⟩
theorem ev_any {τ : Tau} {o : Ow} {ta : TE} {K : PySem.W.Frag} {bs : List Bool} (h : Ev ta τ o (dL .bl bs)) : Ev (tCB (rAny K) (tCons ta tNil)) τ o (dB (bs.any id)) :=
  ev_cb (ea_cons h ea_nil) fun G H vs e r Q q => by
    cases r with
    | cons a c =>
      cases c
      obtain ⟨p, us, rfl, h1, h2⟩ := a
      rw [rp_bls h2] at h1
      exact ⟨p, bs, rfl, .of (e p _ h1), q _ G H (.refl e) rfl⟩
theorem ev_all {τ : Tau} {o : Ow} {ta : TE} {K : PySem.W.Frag} {bs : List Bool} (h : Ev ta τ o (dL .bl bs)) : Ev (tCB (rAll K) (tCons ta tNil)) τ o (dB (bs.all id)) :=
  ev_cb (ea_cons h ea_nil) fun G H vs e r Q q => by
    cases r with
    | cons a c =>
      cases c
      obtain ⟨p, us, rfl, h1, h2⟩ := a
      rw [rp_bls h2] at h1
      exact ⟨p, bs, rfl, .of (e p _ h1), q _ G H (.refl e) rfl⟩
/-- a list so often -/
theorem ev_rep {τ : Tau} {o : Ow} {ta tb : TE} {x : Int} {k : Int} (ha : Ev ta τ o (dV [x])) (hb : Ev tb τ o (dI k)) (h0 : 0 ≤ k) (h1 : k ≤ 1000) : Ev (tOp rRep ta tb) τ o (dV (List.replicate k.toNat x)) :=
  ev_op ha hb fun G H v y e r1 r2 Q q => by
    obtain ⟨a, rfl, h3⟩ := rpV.mp r1
    obtain rfl : y = .int k := r2
    refine ⟨a, k, _, rfl, rfl, e a _ h3, by omega, by omega, ?_, fun p hp => ?_⟩
    · show 1 * k.toNat ≤ sizeLine
      exact Nat.le_trans (by omega : 1 * k.toNat ≤ 1000) (by decide)
    · have eq : (List.replicate k.toNat ([x].map V.int)).flatten = (List.replicate k.toNat x).map V.int := by
        generalize k.toNat = n
        induction n with
        | zero => rfl
        | succ n ih => rw [List.replicate_succ, List.flatten_cons, ih, List.replicate_succ]; rfl
      obtain ⟨f, r⟩ := fr_list (ty := .int) (xs := List.replicate k.toNat x) e hp (rp_ints.mpr rfl)
      rw [eq]
      exact q _ _ _ f r
/-! ### the rules with the written part named -/
section
variable {X : Cx} {K : PySem.W.Frag}
theorem ixL (h : X.K = K) : IxR X (rIxL K) := h ▸ ix_list
theorem ixT (h : X.K = K) : IxR X (rIxT K) := h ▸ ix_tup
theorem slL (h : X.K = K) : SlR X (rSlL K) := h ▸ sl_list
theorem inL (h : X.K = K) : OpR X (compareOp .In) (rIn K false) := h ▸ op_in_seq
theorem niL (h : X.K = K) : OpR X (compareOp .NotIn) (rIn K true) := h ▸ op_notIn_seq
theorem lenK (h : X.K = K) : CallR X (.builtin "len") (fun xs H Q => ∃ p ys, xs = [.ref p] ∧ (SqL K H p ys ∨ SqT K H p ys) ∧ Q (.int ys.length) H) := h ▸ call_len_seq
theorem anyK (h : X.K = K) (hc : X.calm = true) : CallR X (.builtin "any") (rAny K) := h ▸ cr_any hc
theorem allK (h : X.K = K) (hc : X.calm = true) : CallR X (.builtin "all") (rAll K) := h ▸ cr_all hc
theorem pi_listK (h : X.K = K) {tg l : Expr} {tl : TE} (hl : PE X l tl) : PI X tg l (iList K tl) := h ▸ pi_list hl
theorem pi_zipK (h : X.K = K) {e e2 : Expr} {ta : TA} {p pos tpos : Pos} {elts : List Expr} {kk : Nat} (hg : Gl X "zip") (hm : X.mg "zip" = none) (ha : PA X [e, e2] ta)
    (hs : starEach [e, e2] X.env = (false, eval e X.env) :: starEach [e2] X.env := by rfl) (hpl : (backTo pos (starEach [e2] X.env)).any (·.1) = false := by rfl) :
    PI X (.Tuple elts kk tpos) (.Call (.Name "zip" p) [e, e2] [] pos) (iZip K ta) := h ▸ pi_zip hg hm ha hs hpl
theorem pi_enumK (h : X.K = K) {e : Expr} {ta : TA} {p pos tpos : Pos} {elts : List Expr} {kk : Nat} (hg : Gl X "enumerate") (hm : X.mg "enumerate" = none) (ha : PA X [e] ta) (hs : starEach [e] X.env = [(false, eval e X.env)] := by rfl) :
    PI X (.Tuple elts kk tpos) (.Call (.Name "enumerate" p) [e] [] pos) (iEnum K ta) := h ▸ pi_enum hg hm ha hs
theorem pg_tupK (h : X.K = K) {es : List Expr} {k : Nat} {pos : Pos} {t : TGs} {n : Nat} (hc : X.calm = true) (hh : PGs X es t)
    (hn : (assignEach es X.env).length = n := by rfl) (hst : (assignEach es X.env).findIdx? (·.1) = none := by rfl) : PG X (.Tuple es k pos) (gTup K n t) := h ▸ pg_tup hc hh hn hst
theorem eqDK (h : X.K = K) (hu : X.A.units + 64 < cLine) : OpR X (compareOp .Eq) (rEqD K) := h ▸ op_eqD hu
theorem neDK (h : X.K = K) (hu : X.A.units + 64 < cLine) : OpR X (compareOp .NotEq) (rNeD K) := h ▸ op_neD hu
end
end Wk

/-! WkD2: indices and slices in plain words; what is asked of numbers. -/
namespace Wk
open PySem L2 PyProof.Rows PySem.Spec
theorem at_nat {α : Type} {xs : List α} {i : Int} {j : Nat} {v : α} (e : i = (j : Int)) (h : xs[j]? = some v) : atI xs i = some v := e ▸ atI_nat h
theorem at_lt {α : Type} {xs : List α} {j : Nat} (h : j < xs.length) : atI xs (j : Int) = some xs[j] := atI_nat (List.getElem?_eq_getElem h)
theorem at_getD {xs : List Int} {j : Nat} (h : j < xs.length) : atI xs (j : Int) = some (xs.getD j 0) := by
  rw [at_lt h]
  simp [List.getD_eq_getElem?_getD, h]
theorem at_back {α : Type} {xs : List α} {k : Nat} {v : α} (h0 : 0 < k) (hk : k ≤ xs.length) (h : xs[xs.length - k]? = some v) : atI xs (-(k : Int)) = some v := by
  have e : ixN xs.length (-(k : Int)) = some (xs.length - k) := by
    unfold ixN
    rw [if_neg (by omega), if_pos (by omega)]
    congr 1; omega
  unfold atI; rw [e]; exact h
theorem at_last {α : Type} {xs : List α} (h : xs ≠ []) : atI xs (-1) = some (xs.getLast h) := by
  have hl : 0 < xs.length := List.length_pos_iff.mpr h
  refine at_back (k := 1) (by omega) hl ?_
  rw [List.getLast_eq_getElem h, List.getElem?_eq_getElem]
theorem cut_init {α : Type} (xs : List α) : (xs.drop (HT.sIx xs.length 0 none)).take (HT.sIx xs.length xs.length (some (-1)) - HT.sIx xs.length 0 none) = xs.dropLast := by
  rw [HT.sIx_none]
  have e : HT.sIx xs.length xs.length (some (-1)) = xs.length - 1 := by
    show (if (-1 : Int) < 0 then ((-1 : Int) + (xs.length : Int)).toNat else min (-1 : Int).toNat xs.length) = xs.length - 1
    rw [if_pos (by omega)]; omega
  rw [e, List.drop_zero, Nat.sub_zero, List.dropLast_eq_take]
theorem cut_to {α : Type} (xs : List α) (k : Nat) : (xs.drop (HT.sIx xs.length 0 none)).take (HT.sIx xs.length xs.length (some (k : Int)) - HT.sIx xs.length 0 none) = xs.take k := by
  rw [HT.sIx_none, HT.sIx_nat, List.drop_zero, Nat.sub_zero]
  by_cases h : k ≤ xs.length
  · rw [Nat.min_eq_left h]
  · rw [Nat.min_eq_right (by omega), List.take_of_length_le (Nat.le_refl _), List.take_of_length_le (by omega)]
theorem cut_from {α : Type} (xs : List α) (k : Nat) : (xs.drop (HT.sIx xs.length 0 (some (k : Int)))).take (HT.sIx xs.length xs.length none - HT.sIx xs.length 0 (some (k : Int))) = xs.drop k := by
  rw [HT.sIx_none, HT.sIx_nat]
  by_cases h : k ≤ xs.length
  · rw [Nat.min_eq_left h, List.take_of_length_le (by simp)]
  · rw [Nat.min_eq_right (by omega), Nat.sub_self, List.take_zero, List.drop_eq_nil_of_le (by omega)]
theorem cut_mid {α : Type} (xs : List α) (a b : Nat) : (xs.drop (HT.sIx xs.length 0 (some (a : Int)))).take (HT.sIx xs.length xs.length (some (b : Int)) - HT.sIx xs.length 0 (some (a : Int))) = (xs.drop a).take (b - a) := by
  rw [HT.sIx_nat, HT.sIx_nat]
  by_cases h : a ≤ xs.length
  · rw [Nat.min_eq_left h]
    by_cases h2 : b ≤ xs.length
    · rw [Nat.min_eq_left h2]
    · rw [Nat.min_eq_right (by omega), List.take_of_length_le (by simp), List.take_of_length_le (by simp; omega)]
  · rw [Nat.min_eq_right (show xs.length ≤ a by omega), List.drop_eq_nil_of_le (Nat.le_refl _), List.drop_eq_nil_of_le (show xs.length ≤ a by omega)]; simp
abbrev RingOk := Ir.RingOk
theorem mulB_right {i j : Int} (hi : i.natAbs < 2 ^ 90000000) (hj : j.natAbs < 2 ^ 1000) : MulB i j := mulB_of hi hj (by decide)
/-- of at most so many bits -/
def Bits (b : Nat) (x : List Int) : Prop := ∀ z ∈ x, z.natAbs < 2 ^ b
theorem Bits.mono {b c : Nat} {x : List Int} (h : Bits b x) (hc : b ≤ c) : Bits c x := fun z hz => Nat.lt_of_lt_of_le (h z hz) (Nat.pow_le_pow_right (by omega) hc)
theorem bits_lt {b : Nat} {x : List Int} : Bits b x ↔ Ir.Lt b x := by
  constructor
  · intro h j
    by_cases hj : j < x.length
    · have := h x[j] (List.getElem_mem hj)
      simpa [List.getD_eq_getElem?_getD, hj] using this
    · rw [Ir.gd_out (by omega)]
      exact Nat.pow_pos (by omega)
  · intro h z hz
    obtain ⟨j, hj, rfl⟩ := List.getElem_of_mem hz
    have := h j
    simpa [List.getD_eq_getElem?_getD, hj] using this
theorem len_up {k x : List Int} (h : x.length = k.length) (h0 : 0 < k.length) : (Nf02.up k x).length = k.length := by
  unfold Nf02.up Nf02.plus
  simp
  omega
theorem gd_up {k x : List Int} (h : x.length = k.length) (h0 : 0 < k.length) (j : Nat) (hj : j < k.length) :
    (Nf02.up k x).getD j 0 = (if j = 0 then 0 else x.getD (j - 1) 0) - x.getD (k.length - 1) 0 * k.getD j 0 := by
  have hl : (0 :: x.dropLast).length = (k.map fun z => 0 - x.getLastD 0 * z).length := by simp; omega
  have e : Nf02.up k x = Nf02.plus (0 :: x.dropLast) (k.map fun z => 0 - x.getLastD 0 * z) := rfl
  rw [e, Ir.gd_plus hl]
  have e1 : (k.map fun z => 0 - x.getLastD 0 * z).getD j 0 = - (x.getLastD 0 * k.getD j 0) := by
    simp [List.getD_eq_getElem?_getD, hj]
  have e2 : x.getLastD 0 = x.getD (k.length - 1) 0 := by
    rw [← h, List.getLastD_eq_getLast?, List.getLast?_eq_getElem?, List.getD_eq_getElem?_getD]
  have e3 : (0 :: x.dropLast).getD j 0 = if j = 0 then 0 else x.getD (j - 1) 0 := by
    cases j with
    | zero => rfl
    | succ j =>
      rw [if_neg (by omega)]
      have : j < x.length - 1 := by omega
      have h2 : j < x.length := by omega
      simp [List.getD_eq_getElem?_getD, List.getElem?_dropLast, this, h2]
  rw [e1, e2, e3]; omega
theorem bits_up {k x : List Int} {b : Nat} (hk : RingOk k) (h : x.length = k.length) (hb : Bits b x) : Bits (b + 5) (Nf02.up k x) := by
  rw [bits_lt] at hb ⊢
  have h0 : 0 < k.length := by have := hk.1; omega
  intro j
  by_cases hj : j < k.length
  · rw [gd_up h h0 j hj]
    have h1 : (if j = 0 then (0 : Int) else x.getD (j - 1) 0).natAbs < 2 ^ b := by
      split
      · exact Nat.pow_pos (by omega)
      · exact hb _
    have h2 := hb (k.length - 1)
    have h3 : (k.getD j 0).natAbs ≤ 20 := by
      have := hk.2.2 k[j] (List.getElem_mem hj)
      simpa [List.getD_eq_getElem?_getD, hj] using this
    generalize (if j = 0 then (0 : Int) else x.getD (j - 1) 0) = u at *
    generalize x.getD (k.length - 1) 0 = v at *
    generalize k.getD j 0 = c at *
    have h4 : (v * c).natAbs ≤ 2 ^ b * 20 := by
      rw [Int.natAbs_mul]
      exact Nat.mul_le_mul (Nat.le_of_lt h2) h3
    have e : 2 ^ (b + 5) = 2 ^ b * 32 := by rw [Nat.pow_add]
    rw [e]
    omega
  · rw [Ir.gd_out (by rw [len_up h h0]; omega)]
    exact Nat.pow_pos (by omega)
end Wk

/-! WkD3: lists of lists compared; pairs put in order. -/
namespace Wk
open PySem L2 PyProof.Rows PySem.Spec PySem.W
def enc : (t : Ty) → t.den → PyData
  | .int, i => .int i
  | .bl, b => .bool b
  | .lst t, xs => .list (xs.map (enc t))
  | .pr s t, p => .tuple [enc s p.1, enc t p.2]
  | .tr s t u, p => .tuple [enc s p.1, enc t p.2.1, enc u p.2.2]
  | .fz _, xs => .list (xs.map PyData.int)
theorem dpAll {K : PySem.W.Frag} {H : Hp} {α : Type} {R : V → α → Prop} {f : α → PyData} (h : ∀ v x, R v x → Dp K H v (f x)) : ∀ {vs : List V} {xs : List α}, Paired R vs xs → DpAll K H vs (xs.map f)
  | _, _, .nil => .nil
  | _, _, .cons a b => .cons (h _ _ a) (dpAll h b)
def pln : Ty → Bool
  | .int => true
  | .bl => true
  | .lst t => pln t
  | .pr s t => pln s && pln t
  | .tr s t u => pln s && (pln t && pln u)
  | .fz _ => false
theorem dp_of {K : PySem.W.Frag} {H : Hp} : ∀ (t : Ty) (v : V) (x : t.den), pln t = true → Rp H t v x → Dp K H v (enc t x)
  | .int, _, _, _, h => by rw [show _ = V.int _ from h]; exact .int _
  | .bl, _, _, _, h => by rw [show _ = V.bl _ from h]; exact .bl _
  | .lst t, _, _, p, ⟨a, vs, h1, h2, h3⟩ => by
    rw [h1]; exact .lst (.of h2) (dpAll (fun v x => dp_of t v x p) h3)
  | .pr s t, _, _, p, ⟨a, x, y, h1, h2, h3, h4⟩ => by
    have p' : pln s = true ∧ pln t = true := Bool.and_eq_true_iff.mp p
    rw [h1]; exact .tup (.of h2) (.cons (dp_of s _ _ p'.1 h3) (.cons (dp_of t _ _ p'.2 h4) .nil))
  | .tr s t u, _, _, p, ⟨a, x, y, z, h1, h2, h3, h4, h5⟩ => by
    have p' : pln s = true ∧ (pln t && pln u) = true := Bool.and_eq_true_iff.mp p
    have p2 : pln t = true ∧ pln u = true := Bool.and_eq_true_iff.mp p'.2
    rw [h1]; exact .tup (.of h2) (.cons (dp_of s _ _ p'.1 h3) (.cons (dp_of t _ _ p2.1 h4) (.cons (dp_of u _ _ p2.2 h5) .nil)))
  | .fz _, _, _, p, _ => Bool.noConfusion (show false = true from p)
theorem eqvAll_map {α : Type} {f : α → PyData} (h : ∀ x y, PyData.eqv (f x) (f y) = true ↔ x = y) : ∀ (xs ys : List α), PyData.eqvAll (xs.map f) (ys.map f) = true ↔ xs = ys
  | [], [] => by simp [PyData.eqvAll]
  | [], _ :: _ => by simp [PyData.eqvAll]
  | _ :: _, [] => by simp [PyData.eqvAll]
  | x :: xs, y :: ys => by
    simp only [List.map_cons, PyData.eqvAll, Bool.and_eq_true, h, eqvAll_map h xs ys, List.cons.injEq]
theorem eqv_int (x y : Int) : PyData.eqv (enc .int x) (enc .int y) = true ↔ x = y := by
  simp [enc, PyData.eqv]
theorem eqv_V (x y : List Int) : PyData.eqv (enc (.lst .int) x) (enc (.lst .int) y) = true ↔ x = y := by
  show PyData.eqv (.list _) (.list _) = true ↔ _
  rw [PyData.eqv]; exact eqvAll_map eqv_int x y
theorem eqv_M (x y : List (List Int)) : PyData.eqv (enc (.lst (.lst .int)) x) (enc (.lst (.lst .int)) y) = true ↔ x = y := by
  show PyData.eqv (.list _) (.list _) = true ↔ _
  rw [PyData.eqv]; exact eqvAll_map eqv_V x y
theorem eqv_N (x y : List (List (List Int))) : PyData.eqv (enc (.lst (.lst (.lst .int))) x) (enc (.lst (.lst (.lst .int))) y) = true ↔ x = y := by
  show PyData.eqv (.list _) (.list _) = true ↔ _
  rw [PyData.eqv]; exact eqvAll_map eqv_M x y
theorem canAll_map {α : Type} {f : α → PyData} (h : ∀ x, (f x).canLay0 = true) : ∀ xs : List α, PyData.canLayAll0 (xs.map f) = true
  | [] => by simp [PyData.canLayAll0]
  | x :: xs => by simp [PyData.canLayAll0, h x, canAll_map h xs]
theorem can_enc : ∀ (t : Ty) (x : t.den), (enc t x).canLay0 = true
  | .int, _ => by simp [enc, PyData.canLay0]
  | .bl, _ => by simp [enc, PyData.canLay0]
  | .lst t, xs => by
    simp only [enc, PyData.canLay0]
    exact canAll_map (can_enc t) xs
  | .pr s t, p => by simp [enc, PyData.canLay0, PyData.canLayAll0, can_enc s, can_enc t]
  | .tr s t u, p => by simp [enc, PyData.canLay0, PyData.canLayAll0, can_enc s, can_enc t, can_enc u]
  | .fz _, xs => by
    simp only [enc, PyData.canLay0]
    exact canAll_map (fun x => by simp [PyData.canLay0]) xs
def dep : Ty → Nat
  | .int => 0
  | .bl => 0
  | .lst t => dep t + 1
  | .pr s t => max (dep s) (dep t) + 1
  | .tr s t u => max (dep s) (max (dep t) (dep u)) + 1
  | .fz _ => 1
theorem depAll_map {α : Type} {f : α → PyData} {n : Nat} (h : ∀ x, (f x).depth ≤ n) : ∀ xs : List α, PyData.depthAll (xs.map f) ≤ n
  | [] => by simp [PyData.depthAll]
  | x :: xs => by
    simp only [List.map_cons, PyData.depthAll]
    exact Nat.max_le.mpr ⟨h x, depAll_map h xs⟩
theorem dep_enc : ∀ (t : Ty) (x : t.den), (enc t x).depth ≤ dep t
  | .int, _ => by simp [enc, PyData.depth]
  | .bl, _ => by simp [enc, PyData.depth]
  | .lst t, xs => by
    simp only [enc, PyData.depth, dep]
    exact Nat.succ_le_succ (depAll_map (dep_enc t) xs)
  | .pr s t, p => by
    have h1 := dep_enc s p.1
    have h2 := dep_enc t p.2
    simp only [enc, PyData.depth, PyData.depthAll, dep]
    omega
  | .tr s t u, p => by
    have h1 := dep_enc s p.1
    have h2 := dep_enc t p.2.1
    have h3 := dep_enc u p.2.2
    simp only [enc, PyData.depth, PyData.depthAll, dep]
    omega
  | .fz _, xs => by
    simp only [enc, PyData.depth, dep]
    exact Nat.succ_le_succ (depAll_map (fun x => by simp [PyData.depth]) xs)
theorem shaped_enc {t : Ty} {x : t.den} (h : dep t ≤ 64) : SeqAt.shaped (enc t x) = true := by
  unfold SeqAt.shaped
  rw [can_enc, Bool.true_and]
  exact decide_eq_true (Nat.le_trans (dep_enc t x) h)
section
variable {τ : Tau} {o : Ow} {ta tb : TE} {K : PySem.W.Frag}
theorem ev_eqD {t : Ty} {x y : t.den} {b : Bool} (ha : Ev ta τ o ⟨t, x⟩) (hb : Ev tb τ o ⟨t, y⟩) (hd : dep t ≤ 64 ∧ pln t = true) (he : PyData.eqv (enc t x) (enc t y) = b) : Ev (tOp (rEqD K) ta tb) τ o (dB b) :=
  ev_op ha hb fun G H v w e h1 h2 Q q => ⟨_, _, dp_of t v x hd.2 (Rp.mono e _ _ _ h1), dp_of t w y hd.2 (Rp.mono e _ _ _ h2), shaped_enc hd.1, shaped_enc hd.1, by rw [he]; exact q _ G H (.refl e) rfl⟩
theorem ev_neD {t : Ty} {x y : t.den} {b : Bool} (ha : Ev ta τ o ⟨t, x⟩) (hb : Ev tb τ o ⟨t, y⟩) (hd : dep t ≤ 64 ∧ pln t = true) (he : PyData.eqv (enc t x) (enc t y) = b) : Ev (tOp (rNeD K) ta tb) τ o (dB (!b)) :=
  ev_op ha hb fun G H v w e h1 h2 Q q => ⟨_, _, dp_of t v x hd.2 (Rp.mono e _ _ _ h1), dp_of t w y hd.2 (Rp.mono e _ _ _ h2), shaped_enc hd.1, shaped_enc hd.1, by rw [he]; exact q _ G H (.refl e) rfl⟩
end
/-! ### order -/
abbrev tyK : Ty := .pr (.lst .int) (.lst (.lst .int))
theorem alikeAll_map {α : Type} {f : α → PyData} (h : ∀ x y, alike (f x) (f y) = true) : ∀ (xs ys : List α), alikeAll (xs.map f) (ys.map f) = true
  | [], _ => by simp [alikeAll]
  | _ :: _, [] => by simp [alikeAll]
  | x :: xs, y :: ys => by simp [alikeAll, h x y, alikeAll_map h xs ys]
theorem alike_V (x y : List Int) : alike (enc (.lst .int) x) (enc (.lst .int) y) = true := by
  show alike (.list _) (.list _) = true
  rw [alike]; exact alikeAll_map (fun a b => by simp [enc, alike]) x y
theorem alike_M (x y : List (List Int)) : alike (enc (.lst (.lst .int)) x) (enc (.lst (.lst .int)) y) = true := by
  show alike (.list _) (.list _) = true
  rw [alike]; exact alikeAll_map alike_V x y
theorem alike_K (x y : tyK.den) : alike (enc tyK x) (enc tyK y) = true := by
  show alike (.tuple [_, _]) (.tuple [_, _]) = true
  simp [alike, alikeAll, alike_V, alike_M]
theorem lt_V (x y : List Int) : dataLt (enc (.lst .int) x) (enc (.lst .int) y) = decide (x < y) := by
  show dataLt (.list (x.map PyData.int)) (.list (y.map PyData.int)) = _
  rw [dataLt_list]
  exact dataLt_ints x y
theorem lt_rows : ∀ xs ys : List (List Int), rowLt (xs.map (enc (.lst .int))) (ys.map (enc (.lst .int))) = decide (xs < ys)
  | [], [] => by
    have e : rowLt [] [] = false := lex_irrefl _
    simp [e]
  | [], y :: ys => by
    have e : rowLt [] (enc (.lst .int) y :: ys.map (enc (.lst .int))) = true := by
      unfold rowLt
      simp only [enc, keyToksAll]
      first | rfl | (rw [lex_diff (O := itemOrd) (by simp)]; rfl)
    simpa using e
  | x :: xs, [] => by
    have e : rowLt (enc (.lst .int) x :: xs.map (enc (.lst .int))) [] = false := by
      unfold rowLt
      simp only [enc, keyToksAll]
      first | rfl | (rw [lex_diff (O := itemOrd) (by simp)]; rfl)
    simpa using e
  | x :: xs, y :: ys => by
    have e : rowLt (enc (.lst .int) x :: xs.map (enc (.lst .int))) (enc (.lst .int) y :: ys.map (enc (.lst .int))) = if x = y then rowLt (xs.map (enc (.lst .int))) (ys.map (enc (.lst .int))) else decide (x < y) := by
      unfold rowLt
      rw [dataLt_cons (alike_V x y), lt_V]
      simp only [eqv_V]
    show rowLt (enc (.lst .int) x :: xs.map (enc (.lst .int))) (enc (.lst .int) y :: ys.map (enc (.lst .int))) = _
    rw [e]
    by_cases h : x = y
    · rw [if_pos h, lt_rows xs ys]
      simp [h, List.cons_lt_cons_iff]
    · rw [if_neg h]
      simp [h, List.cons_lt_cons_iff]
theorem lt_M (x y : List (List Int)) : dataLt (enc (.lst (.lst .int)) x) (enc (.lst (.lst .int)) y) = decide (x < y) := by
  show dataLt (.list _) (.list _) = _
  rw [dataLt_list]
  exact lt_rows x y
theorem lt_K (p q : List Int × List (List Int)) : dataLt (enc tyK p) (enc tyK q) = decide (p.1 < q.1 ∨ p.1 = q.1 ∧ p.2 < q.2) := by
  show dataLt (.tuple [enc (.lst .int) p.1, enc (.lst (.lst .int)) p.2]) (.tuple [enc (.lst .int) q.1, enc (.lst (.lst .int)) q.2]) = _
  rw [dataLt_pair (alike_V _ _) (alike_M _ _), lt_V, lt_M]
  by_cases h1 : p.1 = q.1
  · rw [if_pos ((eqv_V _ _).mpr h1)]
    by_cases h2 : p.2 = q.2
    · rw [if_pos ((eqv_M _ _).mpr h2)]
      symm
      refine decide_eq_false ?_
      rw [h1, h2]
      rintro (h | h)
      · exact Ir.ltI_irr _ h
      · exact Ir.ltR_irr _ h.2
    · rw [if_neg (fun h => h2 ((eqv_M _ _).mp h))]
      refine decide_eq_decide.mpr ⟨fun h => .inr ⟨h1, h⟩, fun h => ?_⟩
      rcases h with h | h
      · rw [h1] at h; exact absurd h (Ir.ltI_irr _)
      · exact h.2
  · rw [if_neg (fun h => h1 ((eqv_V _ _).mp h))]
    refine decide_eq_decide.mpr ⟨fun h => .inl h, fun h => ?_⟩
    rcases h with h | h
    · exact h
    · exact absurd h.1 h1
def keyOf (a : List (List Int)) : List Int × List (List Int) := (Ir.ownI a, a)
/-- sorted(xs) of keys with what they're of -/
def rSortedK (K : PySem.W.Frag) : List V → Hp → VK → Prop := fun vs H Q => ∃ (a : Addr) (us : List V) (xs : List (List (List Int))) (R : V → List (List Int) → Prop), vs = [V.ref a] ∧ SqL K H a us ∧ (∀ u x, R u x → Rp H tyK u (keyOf x)) ∧ Paired R us xs ∧
  ∀ (ys : List (List (List Int))) (ws : List V) (p : Addr), ys.Perm xs → (ys.Pairwise fun x y => ¬ Ir.klt y x) → Paired R ws ys → H p = none → Q (.ref p) (upd H p (.lst ws))
theorem each_of {α β γ : Type} {R : α → β → Prop} {S : α → γ → Prop} : ∀ {us : List α} {xs : List β} {vs : List γ}, Paired R us xs → Paired S us vs → EachIs (fun v x => ∃ u, S u v ∧ R u x) vs xs
  | _, _, _, .nil, h => by cases h; exact .nil
  | _, _, _, .cons a b, h => by
    cases h with
    | cons c d => exact .cons ⟨_, c, a⟩ (each_of b d)
theorem of_each {α β γ : Type} {R : α → β → Prop} {S : α → γ → Prop} : ∀ {xs : List β} {vs : List γ}, EachIs (fun v x => ∃ u, S u v ∧ R u x) vs xs → ∃ us, Paired R us xs ∧ Paired S us vs
  | _, _, .nil => ⟨[], .nil, .nil⟩
  | _, _, .cons ⟨u, c, a⟩ b => by
    obtain ⟨us, h1, h2⟩ := of_each b
    exact ⟨u :: us, .cons a h1, .cons c h2⟩
instance kltDec (x y : List (List Int)) : Decidable (Ir.klt x y) := inferInstanceAs (Decidable (Ir.ownI x < Ir.ownI y ∨ Ir.ownI x = Ir.ownI y ∧ x < y))
theorem le_key : dataLe false (fun x => enc tyK (keyOf x)) = fun (x y : List (List Int)) => decide (¬ Ir.klt y x) := by
  funext x y
  show (!dataLt (enc tyK (keyOf y)) (enc tyK (keyOf x))) = _
  rw [lt_K, ← decide_not]
  rfl
theorem cr_sortedK {X : Cx} {K : PySem.W.Frag} (hK : X.K = K) (hu : X.A.units + 64 < cLine) : CallR X (.builtin "sorted") (rSortedK K) := by
  subst hK
  intro pins s σ H vs us Q I r h
  obtain ⟨a, ws, xs, R, rfl, hs, hR, hp, q⟩ := h
  obtain ⟨its, rv, hl, hz⟩ := I.list hs
  rw [Vals.ref1 r]
  have e := each_of hp rv
  refine sorted_data (enc := fun x => enc tyK (keyOf x)) hl.isList e (e.mono fun v x ⟨u, h1, h2⟩ => Dp.reads I _ u v (dp_of tyK u (keyOf x) rfl (hR u x h2)) h1) (AllAlike.of fun _ _ => alike_K _ _) (Sortable.tuples fun _ => ⟨_, _, rfl⟩) (by rw [← paired_len hp]; exact hz) (fun b _ => ?_) fun out ho eo => ?_
  · have := dep_enc tyK (keyOf b)
    have e2 : dep tyK = 3 := by decide
    show X.A.units + 2 + (enc tyK (keyOf b)).depth < cLine
    omega
  · rw [le_key] at eo
    obtain ⟨zs, h1, h2⟩ := of_each eo
    obtain ⟨ep, he'⟩ := PyProof.Rows.sortedAll_at s.heap its out.toArray
    have hlen : zs.length ≤ sizeLine := by
      rw [paired_len h1, (List.mergeSort_perm _ _).length_eq, ← paired_len hp]; exact hz
    refine ⟨.ref _, upd H (s.heap.objs.size + 1) (.lst zs), I.laid (t' := s.toks) (fun _ _ => PyProof.Rows.sortedAll_old) (Nat.le_succ _) ⟨hlen, out, ep, h2, he'⟩, rfl, q _ zs _ (List.mergeSort_perm _ _) ?_ h1 (I.hok.fresh (Nat.le_succ _))⟩
    have hs := List.pairwise_mergeSort (le := fun (x y : List (List Int)) => decide (¬ Ir.klt y x)) (fun a b c h g => ?_) (fun a b => ?_) xs
    · exact hs.imp fun h => of_decide_eq_true h
    · exact decide_eq_true (Ir.klt_le_trans (of_decide_eq_true h) (of_decide_eq_true g))
    · rcases Ir.klt_le_total a b with h | h
      · rw [decide_eq_true h]; rfl
      · rw [decide_eq_true h]; simp
end Wk

/-! WkE: numbers.py -/
namespace Wk
open PySem L2 PyProof.Rows PySem.Spec
/-- built-ins that are still the built-ins -/
structure Bt (mg : Str → Option Value) : Prop where
  b_len : mg "len" = none
  b_abs : mg "abs" = none
  b_int : mg "int" = none
  b_any : mg "any" = none
  b_all : mg "all" = none
  b_sorted : mg "sorted" = none
  b_zip : mg "zip" = none
  b_range : mg "range" = none
  b_enumerate : mg "enumerate" = none
abbrev s_by_root : Stmt := topS 1
abbrev N_by_root : List Str := ["ring", "number", "last", "found", "place", "one"]
theorem sc_by_root : FnScope N_by_root ["ring", "number"] (defScope s_by_root) := ⟨rfl, rfl, rfl, by decide +kernel, rfl, by decide +kernel, by decide +kernel⟩
abbrev s_summed : Stmt := topS 2
abbrev N_summed : List Str := ["one", "often", "other", "here", "there"]
theorem sc_summed : FnScope N_summed ["one", "often", "other"] (defScope s_summed) := ⟨rfl, rfl, rfl, by decide +kernel, rfl, by decide +kernel, by decide +kernel⟩
abbrev s_is_nought : Stmt := topS 4
abbrev N_is_nought : List Str := ["number", "place"]
theorem sc_is_nought : FnScope N_is_nought ["number"] (defScope s_is_nought) := ⟨rfl, rfl, rfl, by decide +kernel, rfl, by decide +kernel, by decide +kernel⟩
abbrev s_multiplied : Stmt := topS 3
abbrev N_multiplied : List Str := ["ring", "one", "other", "found", "power", "place"]
theorem sc_multiplied : FnScope N_multiplied ["ring", "one", "other"] (defScope s_multiplied) := ⟨rfl, rfl, rfl, by decide +kernel, rfl, by decide +kernel, by decide +kernel⟩
section
variable {K : PySem.W.Frag} {mg : Str → Option Value} {base : Heap} {P : Program} {w : World}
def F_by_root : List Dy → Dy → Prop := fun ds d => ∃ k x : List Int, ds = [dV k, dV x] ∧ RingOk k ∧ x.length = k.length ∧ Bits 90000000 x ∧ d = dV (Nf02.up k x)
def F_summed : List Dy → Dy → Prop := fun ds d => ∃ (x y : List Int) (c : Int), ds = [dV x, dI c, dV y] ∧ x.length = y.length ∧ x.length ≤ 1000 ∧ (∀ z ∈ y, MulB c z) ∧ d = dV (Ir.ax c x y)
def F_is_nought : List Dy → Dy → Prop := fun ds d => ∃ x : List Int, ds = [dV x] ∧ x.length ≤ 1000 ∧ d = dB (Ir.nought x)
def F_multiplied : List Dy → Dy → Prop := fun ds d => ∃ k x y : List Int, ds = [dV k, dV x, dV y] ∧ RingOk k ∧ x.length = k.length ∧ y.length = k.length ∧ Bits 200 x ∧ Bits 200 y ∧ d = dV (Nf02.times k x y)
theorem small_line {n : Nat} (h : n ≤ 1000) : n < sizeLine := Nat.lt_of_le_of_lt h (by decide)
theorem ok_summed {f : Addr} {fd : FuncData} {k : Nat} (Fn : Fun K "summed" "summed" s_summed f fd) (T : Bt mg) : FnOk P w K mg base CX0 (k + 1) f fd ["one", "often", "other"] (spD F_summed) := by
  refine fn_pure Fn sc_summed (fun ds d ⟨x, y, c, e, _⟩ => by rw [e]; rfl) fun cdv A outer s H E hr ds d ⟨x, y, c, e, hl, hz, hm, ed⟩ => ?_
  subst e ed
  refine ⟨_, (pss_one (ps_ret (pe_lc (own := [("here", 3), ("there", 4)]) rfl sc_summed.nd (pi_zipK (K := K) rfl (by rfl) T.b_zip (pa_cons (pv 0) (pa_cons (pv 2) pa_nil))) (blkOk_by (own := [("here", 3), ("there", 4)]) (N := N_summed) (sc := defScope s_summed) (by decide +kernel)) (fun _ _ _ _ _ => (pg_tupK (K := K) (n := 2) rfl rfl (pgs_cons (pg_name (i := 3) sc_summed.nd rfl (Or.inl rfl)) (pgs_cons (pg_name (i := 4) sc_summed.nd rfl (Or.inl rfl)) pgs_nil)))) (fun _ _ _ _ _ => pts_nil) (fun _ _ _ _ _ => (pe_op op_add (pv 3) (pe_op op_mulB (pv 1) (pv 4))))))), ?_⟩
  refine sd_ret (Ev.eq (en_lcZ (s := .int) (t := .int) (u := .int) (f := fun a b => a + c * b) (ea_cons (ev_var rfl) (ea_cons (ev_var rfl) ea_nil)) (by decide) (by decide) (by intro w hw; cases hw) (small_line hz) fun k a b ha hb => ?_).ev ?_) rfl
  · exact ev_I0 (ev_var rfl) (ev_I (ev_var rfl) (ev_var rfl) (hm b (List.mem_of_getElem? hb)))
  · congr 1
    simp only [Ir.ax, Nf02.plus, Nf02.scale, List.zip_map_right, List.map_map]
    rfl
theorem no_ow {ts : List Nat} : Off none ts := fun w hw => by cases hw
theorem ok_by_root {f : Addr} {fd : FuncData} {k : Nat} (Fn : Fun K "by_root" "by_root" s_by_root f fd) (T : Bt mg) : FnOk P w K mg base CX0 (k + 1) f fd ["ring", "number"] (spD F_by_root) := by
  refine fn_pure Fn sc_by_root (fun ds d ⟨x, y, e, _⟩ => by rw [e]; rfl) fun cdv A outer s H E hr ds d ⟨k, x, e, hk, hl, hb, ed⟩ => ?_
  subst e ed
  refine ⟨_, (pss_cons (ps_set (i := 2) sc_by_root.nd rfl (Or.inr rfl) (pe_ix (ixL (K := K) rfl) (pv 1) (pe_un un_neg pe_int) (fun _ _ => rfl)))
    (pss_cons (ps_set (i := 3) sc_by_root.nd rfl (Or.inl rfl) (pe_op op_cat (pe_lst (pa_cons pe_int pa_nil)) (pe_slice (slL (K := K) rfl) (pv 1) po_none (po_some (pe_un un_neg pe_int)))))
    (pss_one (ps_ret (pe_lc (own := [("place", 4), ("one", 5)]) rfl sc_by_root.nd (pi_zipK (K := K) rfl (by rfl) T.b_zip (pa_cons (pv 3) (pa_cons (pv 0) pa_nil))) (blkOk_by (own := [("place", 4), ("one", 5)]) (N := N_by_root) (sc := defScope s_by_root) (by decide +kernel)) (fun _ _ _ _ _ => (pg_tupK (K := K) (n := 2) rfl rfl (pgs_cons (pg_name (i := 4) sc_by_root.nd rfl (Or.inl rfl)) (pgs_cons (pg_name (i := 5) sc_by_root.nd rfl (Or.inl rfl)) pgs_nil)))) (fun _ _ _ _ _ => pts_nil) (fun _ _ _ _ _ => (pe_op op_sub (pv 4) (pe_op op_mulB (pv 2) (pv 5))))))))), ?_⟩
  obtain ⟨h2, h4, hz⟩ := hk
  have hx : x ≠ [] := fun e => by rw [e] at hl; simp at hl; omega
  have hlast : (x.getLast hx).natAbs < 2 ^ 90000000 := hb _ (List.getLast_mem hx)
  refine sd_then (sd_asg (d := dI (x.getLast hx)) (ev_ix (ty := .int) (ev_var rfl) (ev_neg ev_int) (at_last hx)) no_ow ⟨rfl, rfl⟩) ?_
  refine sd_then (sd_asg (d := dV (0 :: x.dropLast)) (ev_cat (ty := .int) (xs := [0]) (en_lst (xs := [(0 : Int)]) (ea_cons ev_int ea_nil) (by decide)).ev ((ev_cut (ty := .int) (ev_var rfl) eo_none (eo_some (ev_neg ev_int))).eq (congrArg dV (cut_init x))) ?_) no_ow ⟨rfl, rfl⟩) ?_
  · show 1 + x.dropLast.length ≤ sizeLine
    rw [List.length_dropLast]
    exact Nat.le_trans (show 1 + (x.length - 1) ≤ 1000 by omega) (by decide)
  refine sd_ret (Ev.eq (en_lcZ (s := .int) (t := .int) (u := .int) (f := fun a b => a - x.getLast hx * b) (ea_cons (ev_var rfl) (ea_cons (ev_var rfl) ea_nil)) (by decide) (by decide) no_ow (small_line (by simp; omega)) fun k a b ha hb => ?_).ev ?_) rfl
  · exact ev_I0 (ev_var rfl) (ev_I (ev_var rfl) (ev_var rfl) (mulB_right hlast (Nat.lt_of_le_of_lt (hz b (List.mem_of_getElem? hb)) (by decide))))
  · refine congrArg dV (Ir.vext ?_ fun j hj => ?_)
    · rw [len_up hl (by omega)]; simp; omega
    · have hj' : j < k.length := by simp at hj; omega
      rw [gd_up hl (by omega) j hj']
      have e1 : x.getD (k.length - 1) 0 = x.getLast hx := by
        rw [← hl, List.getLast_eq_getElem]
        have : x.length - 1 < x.length := by omega
        simp [List.getD_eq_getElem?_getD, this]
      rw [e1]
      have hz1 : ((0 :: x.dropLast).zip k)[j]? = some ((if j = 0 then 0 else x.getD (j - 1) 0), k.getD j 0) := by
        rw [List.getElem?_zip_eq_some]
        constructor
        · cases j with
          | zero => rfl
          | succ j =>
            have h1 : j < x.length - 1 := by omega
            have h2 : j < x.length := by omega
            simp [List.getD_eq_getElem?_getD, List.getElem?_dropLast, h1, h2]
        · simp [List.getD_eq_getElem?_getD, hj']
      rw [List.getD_eq_getElem?_getD, List.getElem?_map, hz1]
      rfl
theorem ok_is_nought {f : Addr} {fd : FuncData} {k : Nat} (Fn : Fun K "is_nought" "is_nought" s_is_nought f fd) (T : Bt mg) : FnOk P w K mg base CX0 (k + 1) f fd ["number"] (spD F_is_nought) := by
  refine fn_pure Fn sc_is_nought (fun ds d ⟨x, e, _⟩ => by rw [e]; rfl) fun cdv A outer s H E hr ds d ⟨x, e, hl, ed⟩ => ?_
  subst e ed
  refine ⟨_, (pss_one (ps_ret (pe_callB (allK (K := K) rfl rfl) (by rfl) T.b_all (by decide +kernel) (pa_cons (pe_lc (own := [("place", 1)]) rfl sc_is_nought.nd (pi_listK (K := K) rfl (pv 0)) (blkOk_by (own := [("place", 1)]) (N := N_is_nought) (sc := defScope s_is_nought) (by decide +kernel)) (fun _ _ _ _ _ => (pg_name (i := 1) sc_is_nought.nd rfl (Or.inl rfl))) (fun _ _ _ _ _ => pts_nil) (fun _ _ _ _ _ => (pe_cmpR op_eq (pv 1) pe_int (nomark _)))) pa_nil)))), ?_⟩
  refine sd_ret (Ev.eq (ev_all (bs := x.map fun z => decide (z = 0)) (en_lcM (s := .int) (u := .bl) (ev_var rfl) (by decide) no_ow (small_line hl) fun i z hz => ?_).ev) ?_) rfl
  · exact ev_eqI (ev_var rfl) ev_int
  · rw [List.all_map]; rfl
/-- the turns of multiplied -/
def mst (k : List Int) (st : List Int × List Int) (c : Int) : List Int × List Int := (Nf02.plus st.1 (Nf02.scale c st.2), Nf02.up k st.2)
theorem mst_take {k x : List Int} {st : List Int × List Int} {i : Nat} {c : Int} (h : x[i]? = some c) : (x.take (i + 1)).foldl (mst k) st = mst k ((x.take i).foldl (mst k) st) c := by
  rw [List.take_add_one, h, List.foldl_append]; rfl
theorem ok_multiplied {f : Addr} {fd : FuncData} {k : Nat} (Fn : Fun K "multiplied" "multiplied" s_multiplied f fd) (T : Bt mg) (d_by_root : DefOk P w K mg base 40 "by_root" ["ring", "number"] (spD F_by_root)) (d_summed : DefOk P w K mg base 40 "summed" ["one", "often", "other"] (spD F_summed)) :
    FnOk P w K mg base CX0 41 f fd ["ring", "one", "other"] (spD F_multiplied) := by
  refine fn_pure Fn sc_multiplied (fun ds d ⟨k, x, y, e, _⟩ => by rw [e]; rfl) fun cdv A outer s H E hr ds d ⟨k, x, y, e, hk, hx, hy, bx, bY, ed⟩ => ?_
  subst e ed
  refine ⟨_, (pss_cons (ps_setLc (i := 3) (own := [("place", 5)]) rfl sc_multiplied.nd rfl rfl (sw_true rfl rfl rfl (by decide +kernel)) (pi_listK (K := K) rfl (pv 0)) (blkOk_by (own := [("place", 5)]) (N := N_multiplied) (sc := defScope s_multiplied) (by decide +kernel)) (fun _ _ _ _ _ => (pg_name (i := 5) sc_multiplied.nd rfl (Or.inl rfl))) (fun _ _ _ _ _ => pts_nil) (fun _ _ _ _ _ => pe_int))
    (pss_cons (ps_set (i := 4) sc_multiplied.nd rfl (Or.inl rfl) (pv 2))
    (pss_cons (ps_for PassesOwn.never rfl (pi_listK (K := K) rfl (pv 1)) (pg_name (i := 5) sc_multiplied.nd rfl (Or.inl rfl)) (pss_cons (ps_set (i := 3) sc_multiplied.nd rfl (Or.inl rfl) (pe_callD d_summed (hr.mono (by decide)) rfl (pa_cons (pv 3) (pa_cons (pv 5) (pa_cons (pv 4) pa_nil)))))
    (pss_one (ps_set (i := 4) sc_multiplied.nd rfl (Or.inl rfl) (pe_callD d_by_root (hr.mono (by decide)) rfl (pa_cons (pv 0) (pa_cons (pv 4) pa_nil)))))))
    (pss_one (ps_ret (pv 3)))))), ?_⟩
  have hl1 : k.length ≤ 4 := hk.2.1
  have hl2 : 0 < k.length := by have := hk.1; omega
  refine sd_then (sd_asg (d := dV (List.replicate k.length 0)) ((en_lcM (s := .int) (u := .int) (f := fun _ => 0) (ev_var rfl) (by decide) no_ow (small_line (by omega)) fun i z hz => ev_int).ev.eq (by rw [List.map_const'])) no_ow ⟨rfl, rfl⟩) ?_
  refine sd_then (sd_asg (d := dV y) (ev_var rfl) no_ow ⟨rfl, rfl⟩) ?_
  refine sd_seq (sd_for (src_list (ty := .int) (xs := x) (ev_var rfl)) (fun i τ o => ∃ (st : List Int × List Int) (t5 : Option Dy), (x.take i).foldl (mst k) (List.replicate k.length 0, y) = st ∧ st.1.length = k.length ∧ st.2.length = k.length ∧ Bits (200 + 5 * i) st.2 ∧
      τ = [some (dV k), some (dV x), some (dV y), some (dV st.1), some (dV st.2), t5] ∧ o = none) ?_ ?_ ?_ fun _ _ h => h) ?_
  · exact ⟨(List.replicate k.length 0, y), _, rfl, by simp, hy, bY, rfl, rfl⟩
  · rintro i τ o ⟨_, _, _, _, _, _, _, rfl⟩; exact no_ow
  · rintro i τ o hi ⟨st, t5, e1, l1, l2, bs, rfl, rfl⟩
    have hxi : x[i]? = some x[i] := List.getElem?_eq_getElem hi
    simp only [hxi]
    have hb2 : Bits 90000000 st.2 := bs.mono (by omega)
    refine sd_then (sd_asg (d := dV (Ir.ax x[i] st.1 st.2)) (ev_call (ea_cons (ev_var rfl) (ea_cons (ev_var rfl) (ea_cons (ev_var rfl) ea_nil))) ⟨st.1, st.2, x[i], rfl, by omega, by omega, fun z hz => ?_, rfl⟩) no_ow ⟨rfl, rfl⟩) ?_
    · exact mulB_of (bx x[i] (List.getElem_mem hi)) (bs z hz) (by omega)
    refine sd_asg (d := dV (Nf02.up k st.2)) (ev_call (ea_cons (ev_var rfl) (ea_cons (ev_var rfl) ea_nil)) ⟨k, st.2, rfl, hk, l2, hb2, rfl⟩) no_ow ?_
    refine ⟨(Ir.ax x[i] st.1 st.2, Nf02.up k st.2), some (dI x[i]), ?_, ?_, len_up l2 hl2, ?_, rfl, rfl⟩
    · rw [mst_take hxi, e1]; rfl
    · rw [Ir.len_ax (by omega)]; exact l1
    · exact (bits_up hk l2 bs).mono (by omega)
  · rintro τ o ⟨st, t5, e1, l1, l2, bs, rfl, rfl⟩
    refine sd_ret (ev_var rfl) ?_
    rw [List.take_length] at e1
    show dV st.1 = dV (Nf02.times k x y)
    rw [← e1]; rfl
end
end Wk

/-! WkF: lattices.py, the Euclid of one place -/
namespace Wk
open PySem L2 PyProof.Rows PySem.Spec
abbrev s_least_at : Stmt := topS 6
abbrev N_least_at : List Str := ["vectors", "place", "found", "at", "vector"]
theorem sc_least_at : FnScope N_least_at ["vectors", "place"] (defScope s_least_at) := ⟨rfl, rfl, rfl, by decide +kernel, rfl, by decide +kernel, by decide +kernel⟩
abbrev s_led_down : Stmt := topS 7
abbrev N_led_down : List Str := ["vectors", "place", "at", "lead", "others", "one"]
theorem sc_led_down : FnScope N_led_down ["vectors", "place"] (defScope s_led_down) := ⟨rfl, rfl, rfl, by decide +kernel, rfl, by decide +kernel, by decide +kernel⟩
abbrev s_parted : Stmt := topS 8
abbrev N_parted : List Str := ["vectors", "place", "some", "rest", "led", "vector"]
theorem sc_parted : FnScope N_parted ["vectors", "place"] (defScope s_parted) := ⟨rfl, rfl, rfl, by decide +kernel, rfl, by decide +kernel, by decide +kernel⟩
section
variable {K : PySem.W.Frag} {mg : Str → Option Value} {base : Heap} {P : Program} {w : World}
/-- vectors of one length, a place within them -/
def Vs (n p : Nat) (l : List (List Int)) : Prop := Ir.Wd n l ∧ p < n ∧ n ≤ 100 ∧ l.length ≤ 1000
def F_least_at : List Dy → Dy → Prop := fun ds d => ∃ (l : List (List Int)) (n p : Nat), ds = [dM l, dI (p : Int)] ∧ Vs n p l ∧ d = dI (Ir.lat p l : Int)
def F_led_down : List Dy → Dy → Prop := fun ds d => ∃ (l : List (List Int)) (n p b : Nat), ds = [dM l, dI (p : Int)] ∧ Vs n p l ∧ l ≠ [] ∧ (∀ x ∈ l, x.getD p 0 ≠ 0) ∧ 2 * b + 1 ≤ 100000000 ∧ (∀ x ∈ l, Bits b x) ∧ d = dM (Ir.nxt Int.fdiv p l)
theorem pow_more {b x y : Nat} (h : y ≤ x + 1) (hx : x < 2 ^ b) : y < 2 ^ (b + 1) := by
  have : 0 < 2 ^ b := Nat.pow_pos (by omega)
  rw [Nat.pow_succ]; omega
theorem off_of {i : Nat} {t : Ty} {xs : List t.den} {ts : List Nat} (h : ts.contains i = false) : Off (some ⟨i, t, xs⟩) ts := fun w hw hm => by
  cases hw
  rw [List.contains_iff_mem.mpr hm] at h
  cases h
theorem nz_dec {p : Nat} (x : List Int) : (!decide (x.getD p 0 = 0)) = Ir.nz p x := by
  unfold Ir.nz
  rw [bne, Bool.beq_eq_decide_eq]
theorem zz_dec {p : Nat} (x : List Int) : decide (x.getD p 0 = 0) = Ir.zz p x := by
  unfold Ir.zz
  rw [Bool.beq_eq_decide_eq]
theorem part_len (p : Nat) (l : List (List Int)) : (l.filter (Ir.nz p)).length + (l.filter (Ir.zz p)).length ≤ l.length := by
  induction l with
  | nil => simp
  | cons z T ih =>
    simp only [List.filter_cons]
    by_cases hz : z.getD p 0 = 0
    · rw [if_neg (by rw [Ir.nz_no hz]; decide), if_pos (Ir.zz_iff.mpr hz), List.length_cons, List.length_cons]; omega
    · rw [if_pos (Ir.nz_iff.mpr hz), if_neg (by rw [Ir.zz_no hz]; decide), List.length_cons, List.length_cons]; omega
theorem part_len2 (p : Nat) (l : List (List Int)) : (l.filter (Ir.nz p)).length + (l.filter fun x => Ir.zz p x && !Ir.nought x).length ≤ l.length := by
  refine Nat.le_trans (Nat.add_le_add_left ?_ _) (part_len p l)
  rw [show (l.filter fun x => Ir.zz p x && !Ir.nought x) = (l.filter (Ir.zz p)).filter (fun x => !Ir.nought x) by rw [List.filter_filter]; congr 1; funext x; rw [Bool.and_comm]]
  exact List.length_filter_le _ _
theorem vs_at {n p : Nat} {l : List (List Int)} (h : Vs n p l) {x : List Int} (hx : x ∈ l) : atI x (p : Int) = some (x.getD p 0) := at_getD (by rw [h.1 x hx]; exact h.2.1)
theorem ok_least_at {f : Addr} {fd : FuncData} {k : Nat} (Fn : Fun K "least_at" "least_at" s_least_at f fd) (T : Bt mg) : FnOk P w K mg base CX0 (k + 1) f fd ["vectors", "place"] (spD F_least_at) := by
  refine fn_pure Fn sc_least_at (fun ds d ⟨l, n, p, e, _⟩ => by rw [e]; rfl) fun cdv A outer s H E hr ds d ⟨l, n, p, e, hv, ed⟩ => ?_
  subst e ed
  refine ⟨_, (pss_cons (ps_set (i := 2) sc_least_at.nd rfl (Or.inl rfl) pe_int)
    (pss_cons (ps_for PassesOwn.never rfl (pi_enumK (K := K) rfl (by rfl) T.b_enumerate (pa_cons (pv 0) pa_nil)) (pg_tupK (K := K) (n := 2) rfl rfl (pgs_cons (pg_name (i := 3) sc_least_at.nd rfl (Or.inl rfl)) (pgs_cons (pg_name (i := 4) sc_least_at.nd rfl (Or.inl rfl)) pgs_nil))) (pss_one (ps_if (pt_cmpR op_lt (pe_callB call_abs (by rfl) T.b_abs (by decide +kernel) (pa_cons (pe_ix (ixL (K := K) rfl) (pv 4) (pv 1) (fun _ _ => rfl)) pa_nil)) (pe_callB call_abs (by rfl) T.b_abs (by decide +kernel) (pa_cons (pe_ix (ixL (K := K) rfl) (pe_ix (ixL (K := K) rfl) (pv 0) (pv 2) (fun _ _ => rfl)) (pv 1) (fun _ _ => rfl)) pa_nil)) (nomark _)) (pss_one (ps_set (i := 2) sc_least_at.nd rfl (Or.inl rfl) (pv 3))) pss_nil)))
    (pss_one (ps_ret (pv 2))))), ?_⟩
  refine sd_then (sd_asg (d := dI 0) ev_int no_ow ⟨rfl, rfl⟩) ?_
  refine sd_seq (sd_for (src_enum (t := .lst .int) (xs := l) (ea_cons (ev_var rfl) ea_nil)) (fun i τ o => ∃ (j : Nat) (t3 t4 : Option Dy), (l.zipIdx.take i).foldl (Ir.latS p l) 0 = j ∧ (j < i ∨ (i = 0 ∧ j = 0)) ∧
      τ = [some (dM l), some (dI (p : Int)), some (dI (j : Int)), t3, t4] ∧ o = none) ?_ ?_ ?_ fun _ _ h => h) ?_
  · exact ⟨0, _, _, rfl, .inr ⟨rfl, rfl⟩, rfl, rfl⟩
  · rintro i τ o ⟨_, _, _, _, _, _, rfl⟩; exact no_ow
  · rintro i τ o hi ⟨j, t3, t4, e1, hj, rfl, rfl⟩
    have hxi : l[i]? = some l[i] := List.getElem?_eq_getElem hi
    simp only [hxi]
    have hjl : j < l.length := by omega
    have hxj : l[j]? = some l[j] := List.getElem?_eq_getElem hjl
    have ej : l.getD j [] = l[j] := by rw [List.getD_eq_getElem?_getD, hxj]; rfl
    have st := Ir.lat_step (p := p) hxi
    refine sd_if (b := decide (((l[i].getD p 0).natAbs : Int) < ((l[j].getD p 0).natAbs : Int))) ?_ (fun hb => ?_) fun hb => ?_
    · exact et_test (ev_B0 (g := fun i j => decide (i < j)) (ev_abs (ev_ix (ty := .int) (xs := l[i]) (ev_var rfl) (ev_var rfl) (vs_at hv (List.getElem_mem hi))))
        (ev_abs (ev_ix (ty := .int) (xs := l[j]) (ev_ix (ty := .lst .int) (xs := l) (ev_var rfl) (ev_var rfl) (at_lt hjl)) (ev_var rfl) (vs_at hv (List.getElem_mem hjl)))))
    · refine sd_asg (d := dI (i : Int)) (ev_var rfl) no_ow ⟨i, _, _, ?_, .inl (Nat.lt_succ_self i), rfl, rfl⟩
      rw [st, e1]
      unfold Ir.latS
      rw [ej, if_pos (show (l[i].getD p 0).natAbs < (l[j].getD p 0).natAbs by have := of_decide_eq_true hb; omega)]
    · refine sd_next ⟨j, _, _, ?_, .inl (by omega), rfl, rfl⟩
      rw [st, e1]
      unfold Ir.latS
      rw [ej, if_neg (show ¬ (l[i].getD p 0).natAbs < (l[j].getD p 0).natAbs by have := of_decide_eq_false hb; omega)]
  · rintro τ o ⟨j, t3, t4, e1, hj, rfl, rfl⟩
    refine sd_ret (ev_var rfl) ?_
    rw [Ir.lat_eq, e1]
theorem ok_led_down {f : Addr} {fd : FuncData} (hP : P.given.tree = none) (hN : base.NoSeer) (Fn : Fun K "led_down" "led_down" s_led_down f fd) (T : Bt mg) (d_least_at : DefOk P w K mg base 40 "least_at" ["vectors", "place"] (spD F_least_at))
    (d_summed : DefOk P w K mg base 40 "summed" ["one", "often", "other"] (spD F_summed)) : FnOk P w K mg base CX0 41 f fd ["vectors", "place"] (spD F_led_down) := by
  refine fn_pure Fn sc_led_down (fun ds d ⟨l, n, p, b, e, _⟩ => by rw [e]; rfl) fun cdv A outer s H E hr ds d ⟨l, n, p, b, e, hv, hne, hnz, hb9, hb, ed⟩ => ?_
  subst e ed
  refine ⟨_, (pss_cons (ps_set (i := 2) sc_led_down.nd rfl (Or.inl rfl) (pe_callD d_least_at (hr.mono (by decide)) rfl (pa_cons (pv 0) (pa_cons (pv 1) pa_nil))))
    (pss_cons (ps_set (i := 3) sc_led_down.nd rfl (Or.inr rfl) (pe_ix (ixL (K := K) rfl) (pv 0) (pv 2) (fun _ _ => rfl)))
    (pss_cons (ps_set (i := 4) sc_led_down.nd rfl (Or.inl rfl) (pe_op op_cat (pe_slice (slL (K := K) rfl) (pv 0) po_none (po_some (pv 2))) (pe_slice (slL (K := K) rfl) (pv 0) (po_some (pe_op op_add (pv 2) pe_int)) po_none)))
    (pss_one (ps_ret (pe_op op_cat (pe_lst (pa_cons (pv 3) pa_nil)) (pe_lc (own := [("one", 5)]) rfl sc_led_down.nd (pi_listK (K := K) rfl (pv 4)) (blkOk_by (own := [("one", 5)]) (N := N_led_down) (sc := defScope s_led_down) (by decide +kernel)) (fun _ _ _ _ _ => (pg_name (i := 5) sc_led_down.nd rfl (Or.inl rfl))) (fun _ _ _ _ _ => pts_nil) (fun _ _ _ _ _ => (pe_callD d_summed (hr.mono (by decide)) rfl (pa_cons (pv 5) (pa_cons (pe_op op_sub pe_int (pe_op (op_fd hN hP (hr.mono (by decide)) rfl rfl rfl rfl rfl) (pe_ix (ixL (K := K) rfl) (pv 5) (pv 1) (fun _ _ => rfl)) (pe_ix (ixL (K := K) rfl) (pv 3) (pv 1) (fun _ _ => rfl)))) (pa_cons (pv 3) pa_nil)))))))))))), ?_⟩
  obtain ⟨r, t, rfl⟩ := List.exists_cons_of_ne_nil hne
  obtain ⟨h1, h2, h3⟩ := Ir.lat_mn p r t
  have hm : Ir.mn p r t ∈ r :: t := List.mem_of_getElem? h2
  have hm0 := hnz _ hm
  have lm := hv.1 _ hm
  have bm := hb _ hm
  refine sd_then (sd_asg (d := dI (Ir.lat p (r :: t) : Int)) (ev_call (ea_cons (ev_var rfl) (ea_cons (ev_var rfl) ea_nil)) ⟨r :: t, n, p, rfl, hv, rfl⟩) no_ow ⟨rfl, rfl⟩) ?_
  refine sd_then (sd_asg (d := dV (Ir.mn p r t)) (ev_ix (ty := .lst .int) (xs := r :: t) (ev_var rfl) (ev_var rfl) (atI_nat h2)) no_ow ⟨rfl, rfl⟩) ?_
  refine sd_then (sd_asg (d := dM ((r :: t).erase (Ir.mn p r t))) ((ev_cat (ty := .lst .int) ((ev_cut (ty := .lst .int) (xs := r :: t) (ev_var rfl) eo_none (eo_some (ev_var rfl))).eq (congrArg dM (cut_to _ _)))
    ((ev_cut (ty := .lst .int) (xs := r :: t) (ev_var rfl) (eo_some (ev_I0 (g := fun i j => i + j) (ev_var rfl) ev_int)) eo_none).eq (congrArg dM (cut_from (r :: t) (Ir.lat p (r :: t) + 1)))) ?_).eq (congrArg dM h3.symm)) no_ow ⟨rfl, rfl⟩) ?_
  · refine Nat.le_trans (show _ ≤ 2000 from ?_) (by decide)
    have := hv.2.2.2
    simp only [List.length_take, List.length_drop]
    omega
  have hsub : ∀ x ∈ (r :: t).erase (Ir.mn p r t), x ∈ r :: t := fun x hx => List.mem_of_mem_erase hx
  have hlen : ((r :: t).erase (Ir.mn p r t)).length ≤ 1000 := Nat.le_trans List.length_erase_le hv.2.2.2
  refine sd_ret (Ev.eq (ev_cat (ty := .lst .int) (xs := [Ir.mn p r t]) (en_lst (ty := .lst .int) (xs := [Ir.mn p r t]) (ea_cons (ev_var rfl) ea_nil) (by simp)).ev
    (en_lcM (s := .lst .int) (u := .lst .int) (f := fun x => Ir.stp Int.fdiv p (Ir.mn p r t) x) (ev_var rfl) (by decide) no_ow (small_line hlen) fun i x hx => ?_).ev ?_) rfl) rfl
  · have hx' := hsub x (List.mem_of_getElem? hx)
    have bx := hb x hx'
    have lx := hv.1 x hx'
    refine ev_call (ds := [dV x, dI (0 - (x.getD p 0).fdiv ((Ir.mn p r t).getD p 0)), dV (Ir.mn p r t)]) (ea_cons (ev_var rfl) (ea_cons (ev_I0 (g := fun i j => i - j) ev_int (ev_I (g := Int.fdiv) (ev_ix (ty := .int) (xs := x) (ev_var rfl) (ev_var rfl) (vs_at hv hx')) (ev_ix (ty := .int) (xs := Ir.mn p r t) (ev_var rfl) (ev_var rfl) (vs_at hv hm)) hm0)) (ea_cons (ev_var rfl) ea_nil))) ⟨_, _, _, rfl, by omega, by have := hv.2.2.1; omega, fun z hz => ?_, rfl⟩
    have q1 := Ir.quo_le Ir.quo_fdiv (x := x.getD p 0) hm0
    have q2 := bits_lt.mp bx p
    refine mulB_of (a := b + 1) (b := b) ?_ (bm z hz) (by omega)
    exact pow_more (by omega) q2
  · rw [List.length_map]
    exact Nat.le_trans (show _ ≤ 1001 by simp; omega) (by decide)
/-- the Euclid of a place, where it comes to its end with numbers that are not too great -/
def F_parted : List Dy → Dy → Prop := fun ds d => ∃ (l : List (List Int)) (n p f C b : Nat) (m : List Int) (R : List (List Int)), ds = [dM l, dI (p : Int)] ∧ Vs n p l ∧ Ir.gop p f (l.filter (Ir.nz p)) (l.filter (Ir.zz p)) = some (m, R) ∧
  2 * b + 1 ≤ 100000000 ∧ C < 2 ^ b ∧ Ir.Fine Int.fdiv p C f (l.filter (Ir.nz p)) ∧ d = ⟨.pr (.lst .int) (.lst (.lst .int)), (m, R)⟩
theorem fine_all {C p f : Nat} {S : List (List Int)} (h : Ir.Fine Int.fdiv p C f S) : ∀ x ∈ S, Ir.Le C x := by
  cases f with
  | zero => exact h
  | succ f => exact h.1
theorem le_bits {C b : Nat} {x : List Int} (h : Ir.Le C x) (hc : C < 2 ^ b) : Bits b x := bits_lt.mpr (h.lt hc)
theorem nxt_len (dv : Int → Int → Int) (p : Nat) (S : List (List Int)) : (Ir.nxt dv p S).length = S.length := by
  cases S with
  | nil => rfl
  | cons r s => exact (Ir.turn_nxt dv p r s).len.2
theorem nxt_wd {n p : Nat} {S : List (List Int)} (h : Ir.Wd n S) : Ir.Wd n (Ir.nxt Int.fdiv p S) := by
  cases S with
  | nil => intro x hx; simp [Ir.nxt] at hx
  | cons r s => exact ((Ir.turn_nxt Int.fdiv p r s).sp h).2
theorem ok_parted {f : Addr} {fd : FuncData} (Fn : Fun K "parted" "parted" s_parted f fd) (T : Bt mg) (d_is_nought : DefOk P w K mg base 40 "is_nought" ["number"] (spD F_is_nought)) (d_led_down : DefOk P w K mg base 41 "led_down" ["vectors", "place"] (spD F_led_down)) :
    FnOk P w K mg base CX0 42 f fd ["vectors", "place"] (spD F_parted) := by
  refine fn_pure Fn sc_parted (fun ds d ⟨l, n, p, f, C, b, m, R, e, _⟩ => by rw [e]; rfl) fun cdv A outer s H E hr ds d ⟨l, n, p, f, C, b, m, R, e, hv, hgo, hb9, hC, hfine, ed⟩ => ?_
  subst e ed
  refine ⟨_, (pss_cons (ps_setLc (i := 2) (own := [("vector", 5)]) rfl sc_parted.nd rfl rfl (sw_true rfl rfl rfl (by decide +kernel)) (pi_listK (K := K) rfl (pv 0)) (blkOk_by (own := [("vector", 5)]) (N := N_parted) (sc := defScope s_parted) (by decide +kernel)) (fun _ _ _ _ _ => (pg_name (i := 5) sc_parted.nd rfl (Or.inl rfl))) (fun _ _ _ _ _ => (pts_one (pt_cmpR op_ne (pe_ix (ixL (K := K) rfl) (pv 5) (pv 1) (fun _ _ => rfl)) pe_int (nomark _)))) (fun _ _ _ _ _ => (pv 5)))
    (pss_cons (ps_setLc (i := 3) (own := [("vector", 5)]) rfl sc_parted.nd rfl rfl (sw_true rfl rfl rfl (by decide +kernel)) (pi_listK (K := K) rfl (pv 0)) (blkOk_by (own := [("vector", 5)]) (N := N_parted) (sc := defScope s_parted) (by decide +kernel)) (fun _ _ _ _ _ => (pg_name (i := 5) sc_parted.nd rfl (Or.inl rfl))) (fun _ _ _ _ _ => (pts_one (pt_cmpR op_eq (pe_ix (ixL (K := K) rfl) (pv 5) (pv 1) (fun _ _ => rfl)) pe_int (nomark _)))) (fun _ _ _ _ _ => (pv 5)))
    (pss_cons (ps_while PassesOwn.never (pt_cmpR op_gt (pe_callB (lenK (K := K) rfl) (by rfl) T.b_len (by decide +kernel) (pa_cons (pv 2) pa_nil)) pe_int (nomark _)) (pss_cons (ps_set (i := 4) sc_parted.nd rfl (Or.inl rfl) (pe_callD d_led_down (hr.mono (by decide)) rfl (pa_cons (pv 2) (pa_cons (pv 1) pa_nil))))
    (pss_cons (ps_expr (pe_bm PySem.F.plainAttrs_list PySem.F.slot_list_extend PySem.F.type_list_extend mt_extend (pv 3) (pa_cons (pe_lc (own := [("vector", 5)]) rfl sc_parted.nd (pi_listK (K := K) rfl (pv 4)) (blkOk_by (own := [("vector", 5)]) (N := N_parted) (sc := defScope s_parted) (by decide +kernel)) (fun _ _ _ _ _ => (pg_name (i := 5) sc_parted.nd rfl (Or.inl rfl))) (fun _ _ _ _ _ => (pts_one (PW.pt (pw_and (pt_cmpR op_eq (pe_ix (ixL (K := K) rfl) (pv 5) (pv 1) (fun _ _ => rfl)) pe_int (nomark _)) (pw_and1 (pt_not (pt_val (pe_callD d_is_nought (hr.mono (by decide)) rfl (pa_cons (pv 5) pa_nil))))))))) (fun _ _ _ _ _ => (pv 5))) pa_nil)))
    (pss_one (ps_setLc (i := 2) (own := [("vector", 5)]) rfl sc_parted.nd rfl rfl (sw_true rfl rfl rfl (by decide +kernel)) (pi_listK (K := K) rfl (pv 4)) (blkOk_by (own := [("vector", 5)]) (N := N_parted) (sc := defScope s_parted) (by decide +kernel)) (fun _ _ _ _ _ => (pg_name (i := 5) sc_parted.nd rfl (Or.inl rfl))) (fun _ _ _ _ _ => (pts_one (pt_cmpR op_ne (pe_ix (ixL (K := K) rfl) (pv 5) (pv 1) (fun _ _ => rfl)) pe_int (nomark _)))) (fun _ _ _ _ _ => (pv 5)))))))
    (pss_one (ps_ret (pe_tup (pa_cons (pe_ix (ixL (K := K) rfl) (pv 2) pe_int (fun _ _ => rfl)) (pa_cons (pv 3) pa_nil)))))))), ?_⟩
  have hll := small_line hv.2.2.2
  have fl : ∀ {q : List Int → Bool}, (l.filter q).length ≤ l.length := fun {q} => List.length_filter_le _ _
  refine sd_then (sd_asg (d := dM (l.filter (Ir.nz p))) ((en_lcL (s := .lst .int) (u := .lst .int) (p := Ir.nz p) (f := fun x => x) (ev_var rfl) (by decide) no_ow hll (fun i x hx => ?_) fun i x hx _ => ev_var rfl).ev.eq (by rw [List.map_id'])) no_ow ⟨rfl, rfl⟩) ?_
  · exact (et_test (ev_neI (ev_ix (ty := .int) (xs := x) (ev_var rfl) (ev_var rfl) (vs_at hv (List.mem_of_getElem? hx))) ev_int)).eq (nz_dec x)
  refine sd_then (sd_asgN (ty := .lst .int) (xs := (l.filter (Ir.zz p)).map fun x => x) (en_lcL (s := .lst .int) (u := .lst .int) (p := Ir.zz p) (f := fun x => x) (ev_var rfl) (by decide) no_ow hll (fun i x hx => ?_) fun i x hx _ => ev_var rfl) (by simp [startT]) ⟨rfl, rfl⟩) ?_
  · exact (et_test (ev_eqI (ev_ix (ty := .int) (xs := x) (ev_var rfl) (ev_var rfl) (vs_at hv (List.mem_of_getElem? hx))) ev_int)).eq (zz_dec x)
  rw [List.map_id']
  refine sd_seq (sd_while (fun f' τ o => ∃ (S R' : List (List Int)) (t4 t5 : Option Dy), Ir.gop p f' S R' = some (m, R) ∧ Ir.Fine Int.fdiv p C f' S ∧ Ir.Wd n S ∧ Ir.Wd n R' ∧ (∀ x ∈ S, x.getD p 0 ≠ 0) ∧ S.length + R'.length ≤ 1000 ∧
      τ = [some (dM l), some (dI (p : Int)), some (dM S), none, t4, t5] ∧ o = some ⟨3, .lst .int, R'⟩) f ?_ ?_ (nx := fun τ o => ∃ (t4 t5 : Option Dy), τ = [some (dM l), some (dI (p : Int)), some (dM [m]), none, t4, t5] ∧ o = some ⟨3, .lst .int, R⟩)) ?_
  · refine ⟨_, _, _, _, hgo, hfine, fun x hx => hv.1 x (List.mem_filter.mp hx).1, fun x hx => hv.1 x (List.mem_filter.mp hx).1, fun x hx => Ir.nz_iff.mp (List.mem_filter.mp hx).2, ?_, rfl, rfl⟩
    have := part_len p l
    have := hv.2.2.2
    omega
  · rintro f' τ o ⟨S, R', t4, t5, g1, g2, g3, g4, g5, g6, rfl, rfl⟩
    refine ⟨decide ((1 : Int) < (S.length : Int)), et_test (ev_B0 (g := fun i j => decide (j < i)) (ev_len (ty := .lst .int) (ev_var rfl)) ev_int), fun hb => ?_, fun hb => ?_⟩
    · have hb : (1 : Int) < (S.length : Int) := of_decide_eq_true hb
      obtain ⟨r, r', t, rfl⟩ : ∃ r r' t, S = r :: r' :: t := by
        match S, hb with
        | r :: r' :: t, _ => exact ⟨r, r', t, rfl⟩
        | [x], h => simp at h
        | [], h => simp at h
      cases f' with
      | zero => simp [Ir.gop, Ir.go] at g1
      | succ f' =>
        have hfn := g2.2 (by simp)
        have hvS : Vs n p (r :: r' :: t) := ⟨g3, hv.2.1, hv.2.2.1, by omega⟩
        simp only [Ir.gop, Ir.go] at g1
        have wT := nxt_wd (p := p) g3
        have lT := nxt_len Int.fdiv p (r :: r' :: t)
        generalize hTT : Ir.nxt Int.fdiv p (r :: r' :: t) = TT at g1 wT lT hfn
        have hvT : Vs n p TT := ⟨wT, hv.2.1, hv.2.2.1, by omega⟩
        have hlT := small_line hvT.2.2.2
        have hpl := part_len2 p TT
        refine sd_then (sd_asg (d := dM TT) (ev_call (ea_cons (ev_var rfl) (ea_cons (ev_var rfl) ea_nil)) ⟨_, n, p, b, rfl, hvS, by simp, g5, hb9, fun x hx => le_bits (g2.1 x hx) hC, by rw [hTT]⟩) (off_of (by decide)) ⟨rfl, rfl⟩) ?_
        refine sd_then (sd_extend (ty := .lst .int) (ys := TT.filter fun x => Ir.zz p x && !Ir.nought x) ((en_lcL (s := .lst .int) (u := .lst .int) (p := fun x => Ir.zz p x && !Ir.nought x) (f := fun x => x) (ev_var rfl) (by decide) (off_of (by decide)) hlT (fun i x hx => ?_) fun i x hx _ => ev_var rfl).ev.eq (by rw [List.map_id'])) ?_ ⟨rfl, rfl⟩) ?_
        · refine et_and ((et_test (ev_eqI (ev_ix (ty := .int) (xs := x) (ev_var rfl) (ev_var rfl) (vs_at hvT (List.mem_of_getElem? hx))) ev_int)).eq (zz_dec x)) fun _ => ?_
          exact et_not (et_B (ev_call (ea_cons (ev_var rfl) ea_nil) ⟨x, rfl, by have := wT x (List.mem_of_getElem? hx); have := hv.2.2.1; omega, rfl⟩))
        · exact Nat.le_trans (show R'.length + (TT.filter fun x => Ir.zz p x && !Ir.nought x).length ≤ 2000 by omega) (by decide)
        refine sd_asg (d := dM (TT.filter (Ir.nz p))) ((en_lcL (s := .lst .int) (u := .lst .int) (p := Ir.nz p) (f := fun x => x) (ev_var rfl) (by decide) (off_of (by decide)) hlT (fun i x hx => ?_) fun i x hx _ => ev_var rfl).ev.eq (by rw [List.map_id'])) (off_of (by decide)) ?_
        · exact (et_test (ev_neI (ev_ix (ty := .int) (xs := x) (ev_var rfl) (ev_var rfl) (vs_at hvT (List.mem_of_getElem? hx))) ev_int)).eq (nz_dec x)
        refine ⟨f', Nat.lt_succ_self _, _, _, _, _, g1, hfn, fun x hx => wT x (List.mem_filter.mp hx).1, fun x hx => (List.mem_append.mp hx).elim (g4 x) fun q => wT x (List.mem_filter.mp q).1, fun x hx => Ir.nz_iff.mp (List.mem_filter.mp hx).2, ?_, rfl, rfl⟩
        rw [List.length_append]; omega
    · have hb : ¬ (1 : Int) < (S.length : Int) := of_decide_eq_false hb
      match S, hb, g1 with
      | [], _, g1 => simp [Ir.gop, Ir.go] at g1
      | [x], _, g1 =>
        have : Ir.gop p f' [x] R' = some (x, R') := by cases f' <;> rfl
        rw [this] at g1
        cases g1
        exact ⟨_, _, rfl, rfl⟩
      | x :: y :: t, h, _ => exact absurd (show (1 : Int) < ((x :: y :: t).length : Int) by simp; omega) h
  · rintro τ o ⟨t4, t5, rfl, rfl⟩
    refine sd_share (by simp) ?_
    exact sd_ret (ev_pr (s := .lst .int) (t := .lst (.lst .int)) (ea_cons (ev_ix (ty := .lst .int) (xs := [m]) (ev_var rfl) ev_int rfl) (ea_cons (ev_var rfl) ea_nil))) rfl
end
end Wk

/-! WkG: lattices.py, rows -/
namespace Wk
open PySem L2 PyProof.Rows PySem.Spec
abbrev s_turned_up : Stmt := topS 9
abbrev N_turned_up : List Str := ["vector", "place", "one"]
theorem sc_turned_up : FnScope N_turned_up ["vector", "place"] (defScope s_turned_up) := ⟨rfl, rfl, rfl, by decide +kernel, rfl, by decide +kernel, by decide +kernel⟩
abbrev s_brought_down : Stmt := topS 10
abbrev N_brought_down : List Str := ["vector", "rows", "end", "place"]
theorem sc_brought_down : FnScope N_brought_down ["vector", "rows", "end"] (defScope s_brought_down) := ⟨rfl, rfl, rfl, by decide +kernel, rfl, by decide +kernel, by decide +kernel⟩
abbrev s_rows_of : Stmt := topS 11
abbrev N_rows_of : List Str := ["vectors", "many", "found", "place", "turn", "lead"]
theorem sc_rows_of : FnScope N_rows_of ["vectors", "many"] (defScope s_rows_of) := ⟨rfl, rfl, rfl, by decide +kernel, rfl, by decide +kernel, by decide +kernel⟩
section
variable {K : PySem.W.Frag} {mg : Str → Option Value} {base : Heap} {P : Program} {w : World}
def F_turned_up : List Dy → Dy → Prop := fun ds d => ∃ (x : List Int) (p : Nat), ds = [dV x, dI (p : Int)] ∧ p < x.length ∧ x.length ≤ 1000 ∧ x.getD p 0 ≠ 0 ∧ d = dV (Ir.up p x)
def F_brought_down : List Dy → Dy → Prop := fun ds d => ∃ (x : List Int) (D : List (List Int)) (n e b c : Nat), ds = [dV x, dM D, dI (e : Int)] ∧ Ir.Own n e D ∧ x.length = n ∧ n ≤ 100 ∧ (∀ r ∈ D, Bits b r) ∧ Bits c x ∧ c + (e + 1) * (b + 2) + b ≤ 100000000 ∧ d = dV (Ir.rest (D.take e) x)
theorem ok_turned_up {f : Addr} {fd : FuncData} {k : Nat} (Fn : Fun K "turned_up" "turned_up" s_turned_up f fd) (T : Bt mg) : FnOk P w K mg base CX0 (k + 1) f fd ["vector", "place"] (spD F_turned_up) := by
  refine fn_pure Fn sc_turned_up (fun ds d ⟨x, p, e, _⟩ => by rw [e]; rfl) fun cdv A outer s H E hr ds d ⟨x, p, e, hp, hl, hz, ed⟩ => ?_
  subst e ed
  refine ⟨_, (pss_one (ps_ret (pe_ifExp (pt_cmpR op_gt (pe_ix (ixL (K := K) rfl) (pv 0) (pv 1) (fun _ _ => rfl)) pe_int (nomark _)) (pv 0) (pe_lc (own := [("one", 2)]) rfl sc_turned_up.nd (pi_listK (K := K) rfl (pv 0)) (blkOk_by (own := [("one", 2)]) (N := N_turned_up) (sc := defScope s_turned_up) (by decide +kernel)) (fun _ _ _ _ _ => (pg_name (i := 2) sc_turned_up.nd rfl (Or.inl rfl))) (fun _ _ _ _ _ => pts_nil) (fun _ _ _ _ _ => (pe_op op_sub pe_int (pv 2))))))), ?_⟩
  refine sd_ret (ev_if (b := decide (0 < x.getD p 0)) (et_test (ev_B0 (g := fun i j => decide (j < i)) (ev_ix (ty := .int) (xs := x) (ev_var rfl) (ev_var rfl) (at_getD hp)) ev_int)) (fun hb => ?_) fun hb => ?_) rfl
  · have hb := of_decide_eq_true hb
    refine (ev_var rfl : Ev _ _ _ (dV x)).eq (congrArg dV ?_)
    unfold Ir.up
    rw [if_neg (by omega)]
  · have hb := of_decide_eq_false hb
    refine ((en_lcM (s := .int) (u := .int) (f := fun z => 0 - z) (ev_var rfl) (by decide) no_ow (small_line hl) fun i z hz => ev_I0 (g := fun i j => i - j) ev_int (ev_var rfl)).ev).eq (congrArg dV ?_)
    unfold Ir.up
    rw [if_pos (by omega)]
    unfold Nf02.scale
    refine List.map_congr_left fun z _ => ?_
    exact (show ∀ a : Int, 0 - a = -1 * a from fun a => by omega) z
theorem ok_brought_down {f : Addr} {fd : FuncData} (hP : P.given.tree = none) (hN : base.NoSeer) (Fn : Fun K "brought_down" "brought_down" s_brought_down f fd) (T : Bt mg) (d_summed : DefOk P w K mg base 40 "summed" ["one", "often", "other"] (spD F_summed)) :
    FnOk P w K mg base CX0 41 f fd ["vector", "rows", "end"] (spD F_brought_down) := by
  refine fn_pure Fn sc_brought_down (fun ds d ⟨x, D, n, e, b, c, e', _⟩ => by rw [e']; rfl) fun cdv A outer s H E hr ds d ⟨x, D, n, e, b, c, e', hD, lx, hn, bD, bx, hs, ed⟩ => ?_
  subst e' ed
  refine ⟨_, (pss_cons (ps_for PassesOwn.never rfl (pi_range3 (by rfl) T.b_range (pa_cons (pe_op op_sub (pv 2) pe_int) (pa_cons (pe_un un_neg pe_int) (pa_cons (pe_un un_neg pe_int) pa_nil)))) (pg_name (i := 3) sc_brought_down.nd rfl (Or.inl rfl)) (pss_one (ps_set (i := 0) sc_brought_down.nd rfl (Or.inl rfl) (pe_callD d_summed (hr.mono (by decide)) rfl (pa_cons (pv 0) (pa_cons (pe_op op_sub pe_int (pe_op (op_fd hN hP (hr.mono (by decide)) rfl rfl rfl rfl rfl) (pe_ix (ixL (K := K) rfl) (pv 0) (pv 3) (fun _ _ => rfl)) (pe_ix (ixL (K := K) rfl) (pe_ix (ixL (K := K) rfl) (pv 1) (pv 3) (fun _ _ => rfl)) (pv 3) (fun _ _ => rfl)))) (pa_cons (pe_ix (ixL (K := K) rfl) (pv 1) (pv 3) (fun _ _ => rfl)) pa_nil)))))))
    (pss_one (ps_ret (pv 0)))), ?_⟩
  refine sd_seq (sd_for (src_range3 (n := e) (l := (e : Int) - 1) (m := -1) (c := -1) (ea_cons (ev_I0 (g := fun i j => i - j) (ev_var rfl) ev_int) (ea_cons (ev_neg ev_int) (ea_cons (ev_neg ev_int) ea_nil))) ?_) (fun i τ o => ∃ (y : List Int) (t3 : Option Dy), i ≤ e ∧ y.length = n ∧ Bits (c + i * (b + 2)) y ∧ Ir.rest (D.take (e - i)) y = Ir.rest (D.take e) x ∧
      τ = [some (dV y), some (dM D), some (dI (e : Int)), t3] ∧ o = none) ?_ ?_ ?_ fun _ _ h => h) ?_
  · have := hD.2.2.1
    have h := RgC.neg (i := (e : Int) - 1) (j := -1) (by omega) (by omega) (by omega) (by omega)
    have e2 : ((e : Int) - 1 - -1).toNat = e := by omega
    rw [e2] at h; exact h
  · exact ⟨x, _, Nat.zero_le _, lx, by simpa using bx, rfl, rfl, rfl⟩
  · rintro i τ o ⟨_, _, _, _, _, _, _, rfl⟩; exact no_ow
  · rintro i τ o hi ⟨y, t3, _, ly, bY, er, rfl, rfl⟩
    obtain ⟨q, hq⟩ : ∃ q, e - i = q + 1 := ⟨e - i - 1, by omega⟩
    have ep : (e : Int) - 1 + (i : Int) * -1 = (q : Int) := by omega
    rw [ep]
    have hDq : Ir.Own n (q + 1) D := ⟨hD.1, by have := hD.2.1; omega, by have := hD.2.2.1; omega, fun j r hj => hD.2.2.2 j r (by omega)⟩
    have hql : q < D.length := hDq.2.1
    have hrq : D[q]? = some D[q] := List.getElem?_eq_getElem hql
    have hg : D.getD q [] = D[q] := by rw [List.getD_eq_getElem?_getD, hrq]; rfl
    have hwr := hD.1 D[q] (List.getElem_mem hql)
    have hqn : q < n := by have := hDq.2.2.1; omega
    have hpos := hDq.2.2.2 q D[q] (Nat.lt_succ_self q) hrq
    have hbd := bits_lt.mp (bD D[q] (List.getElem_mem hql))
    have hmul : ∀ z ∈ D[q], MulB (0 - (y.getD q 0).fdiv (D[q].getD q 0)) z := fun z hz => by
      have q1 := Ir.quo_le Ir.quo_fdiv (x := y.getD q 0) (l := D[q].getD q 0) (by omega)
      have hm : (i + 1) * (b + 2) ≤ (e + 1) * (b + 2) := Nat.mul_le_mul_right _ (by omega)
      rw [Nat.add_mul, Nat.one_mul] at hm
      refine mulB_of (a := c + i * (b + 2) + 1) (b := b) ?_ (bD D[q] (List.getElem_mem hql) z hz) (by omega)
      exact pow_more (by omega) (bits_lt.mp bY q)
    have hbdn : Ir.ax (0 - (y.getD q 0).fdiv (D[q].getD q 0)) y D[q] = Ir.bdn D y q := by unfold Ir.bdn; rw [hg]
    refine sd_asg (d := dV (Ir.bdn D y q)) ((ev_call (ds := [dV y, dI (0 - (y.getD q 0).fdiv (D[q].getD q 0)), dV D[q]]) (ea_cons (ev_var rfl) (ea_cons (ev_I0 (g := fun i j => i - j) ev_int (ev_I (g := Int.fdiv) (ev_ix (ty := .int) (xs := y) (ev_var rfl) (ev_var rfl) (at_getD (by omega)))
      (ev_ix (ty := .int) (xs := D[q]) (ev_ix (ty := .lst .int) (xs := D) (ev_var rfl) (ev_var rfl) (at_lt hql)) (ev_var rfl) (at_getD (by omega))) (by omega))) (ea_cons (ev_ix (ty := .lst .int) (xs := D) (ev_var rfl) (ev_var rfl) (at_lt hql)) ea_nil))) ⟨_, _, _, rfl, by omega, by omega, hmul, rfl⟩).eq (congrArg dV hbdn)) no_ow ?_
    refine ⟨Ir.bdn D y q, _, by omega, Ir.len_bdn hDq ly, ?_, ?_, rfl, rfl⟩
    · have := Ir.lt_bdn hDq ly (fun r hr => bits_lt.mp (bD r hr)) (bits_lt.mp bY)
      have e3 : c + (i + 1) * (b + 2) = c + i * (b + 2) + b + 2 := by rw [Nat.add_mul]; omega
      rw [e3]; exact bits_lt.mpr this
    · rw [show e - (i + 1) = q by omega, ← er, hq]
      exact (Ir.rest_turn hDq ly).symm
  · rintro τ o ⟨y, t3, _, ly, bY, er, rfl, rfl⟩
    refine sd_ret (ev_var rfl) ?_
    rw [Nat.sub_self, List.take_zero] at er
    rw [← er]; rfl
/-- one's own list of vectors lent to what gives a vector back -/
theorem ev_borrow {te : TE} {τ : Tau} {i : Nat} {xs : List (List Int)} {y : List Int} (hi : i < τ.length) (h : Ev te (τ.set i (some (dM xs))) none (dV y)) (hx : xs ≠ []) : Ev te τ (some ⟨i, .lst .int, xs⟩) (dV y) := fun σ G H e s Q q => by
  obtain ⟨l, vs, h1, h2, h3, h4⟩ := s.ow
  have eg : Ex G (upd G l (.lst vs)) := Ex.new h3
  have el : Ex (upd G l (.lst vs)) H := fun a u hu => by
    by_cases ha : a = l
    · subst ha; rw [upd_same] at hu; rw [← hu]; exact h2
    · rw [upd_ne ha] at hu; exact e a u hu
  refine h σ (upd G l (.lst vs)) H el ⟨fun j d hj => ?_, by simp [s.len], trivial⟩ Q fun v G' H' f r => ?_
  · by_cases hij : i = j
    · subst hij
      rw [List.getElem?_set_self hi] at hj
      cases hj
      exact ⟨.ref l, h1, l, vs, rfl, upd_same, Paired.imp (fun u x h => Rp.mono eg _ _ _ h) h4⟩
    · rw [List.getElem?_set_ne hij] at hj
      obtain ⟨v, a, b⟩ := s.sh j d hj
      exact ⟨v, a, b.mono eg⟩
  · obtain ⟨b, rfl, hb⟩ := rpV.mp r
    have hl : G' l = some (.lst vs) := f.g l _ upd_same
    have hbl : b ≠ l := fun z => by
      rw [z, hl] at hb
      have e1 : vs = y.map V.int := by injection Option.some.inj hb
      rw [e1] at h4
      match xs, y, hx, h4 with
      | x :: xs, [], _, h4 => cases h4
      | x :: xs, z :: y, _, h4 =>
        have h4' : Paired (fun (u : V) (x : List Int) => Rp G (.lst .int) u x) (V.int z :: y.map V.int) (x :: xs) := h4
        cases h4' with
        | cons a _ => obtain ⟨_, _, ha, _⟩ := a; cases ha
    refine q (.ref b) (fun a => if a = l then none else G' a) H' ⟨fun a u hu => ?_, fun a u hu => ?_, f.h, fun a x1 x2 => ?_⟩ (rpV.mpr ⟨b, rfl, by rw [if_neg hbl]; exact hb⟩)
    · have ha : a ≠ l := fun z => by rw [z, h3] at hu; cases hu
      show (if a = l then none else G' a) = some u
      rw [if_neg ha]; exact f.g a u (eg a u hu)
    · have hu : (if a = l then none else G' a) = some u := hu
      split at hu
      · cases hu
      · exact f.l a u hu
    · show (if a = l then none else G' a) = none
      by_cases ha : a = l
      · rw [if_pos ha]
      · rw [if_neg ha]; exact f.n a x1 (by rw [upd_ne ha]; exact x2)
def F_rows_of : List Dy → Dy → Prop := fun ds d => ∃ (l : List (List Int)) (n B : Nat), ds = [dM l, dI (n : Int)] ∧ Ir.Good n Ir.PF B n l ∧ 1 ≤ n ∧ n ≤ 8 ∧ l.length ≤ 1000 ∧ B ≤ 1000000 ∧ d = dM (Ir.prows n l)
theorem ok_rows_of {f : Addr} {fd : FuncData} (Fn : Fun K "rows_of" "rows_of" s_rows_of f fd) (T : Bt mg) (d_parted : DefOk P w K mg base 42 "parted" ["vectors", "place"] (spD F_parted)) (d_turned_up : DefOk P w K mg base 40 "turned_up" ["vector", "place"] (spD F_turned_up))
    (d_brought_down : DefOk P w K mg base 41 "brought_down" ["vector", "rows", "end"] (spD F_brought_down)) : FnOk P w K mg base CX0 43 f fd ["vectors", "many"] (spD F_rows_of) := by
  refine fn_pure Fn sc_rows_of (fun ds d ⟨l, n, B, e, _⟩ => by rw [e]; rfl) fun cdv A outer s H E hr ds d ⟨l, n, B, e, hg, n1, n8, hl, hB, ed⟩ => ?_
  subst e ed
  refine ⟨_, (pss_cons (ps_setLc (i := 2) (own := [("turn", 4)]) rfl sc_rows_of.nd rfl rfl (sw_true rfl rfl rfl (by decide +kernel)) (pi_range1 (by rfl) T.b_range (pa_cons (pv 1) pa_nil)) (blkOk_by (own := [("turn", 4)]) (N := N_rows_of) (sc := defScope s_rows_of) (by decide +kernel)) (fun _ _ _ _ _ => (pg_name (i := 4) sc_rows_of.nd rfl (Or.inl rfl))) (fun _ _ _ _ _ => pts_nil) (fun _ _ _ _ _ => (pe_lst pa_nil)))
    (pss_cons (ps_for PassesOwn.never rfl (pi_range3 (by rfl) T.b_range (pa_cons (pe_op op_sub (pv 1) pe_int) (pa_cons (pe_un un_neg pe_int) (pa_cons (pe_un un_neg pe_int) pa_nil)))) (pg_name (i := 3) sc_rows_of.nd rfl (Or.inl rfl)) (pss_cons (ps_asg (pe_callD d_parted (hr.mono (by decide)) rfl (pa_cons (pv 0) (pa_cons (pv 3) pa_nil))) (pg_tupK (K := K) (n := 2) rfl rfl (pgs_cons (pg_name (i := 5) sc_rows_of.nd rfl (Or.inl rfl)) (pgs_cons (pg_name (i := 0) sc_rows_of.nd rfl (Or.inl rfl)) pgs_nil))))
    (pss_one (ps_asg (pe_callD d_turned_up (hr.mono (by decide)) rfl (pa_cons (pv 5) (pa_cons (pv 3) pa_nil))) (pg_sub (pv 2) (pv 3) set_list)))))
    (pss_cons (ps_for PassesOwn.never rfl (pi_range1 (by rfl) T.b_range (pa_cons (pv 1) pa_nil)) (pg_name (i := 3) sc_rows_of.nd rfl (Or.inl rfl)) (pss_one (ps_asg (pe_callD d_brought_down (hr.mono (by decide)) rfl (pa_cons (pe_ix (ixL (K := K) rfl) (pv 2) (pv 3) (fun _ _ => rfl)) (pa_cons (pv 2) (pa_cons (pv 3) pa_nil)))) (pg_sub (pv 2) (pv 3) set_list))))
    (pss_one (ps_ret (pv 2)))))), ?_⟩
  refine sd_then (sd_asgN (ty := .lst .int) (xs := (List.range n).map fun _ => []) (en_lcR (u := .lst .int) (g := fun i => (i : Int)) (f := fun _ => []) (src_range1 (n := n) (ea_cons (ev_var rfl) ea_nil) (by omega) (by omega) (by omega)) (by decide) no_ow (small_line (by omega)) fun i hi => ?_) (by simp [startT]) ⟨rfl, rfl⟩) ?_
  · exact (en_lst (ty := .int) (xs := []) ea_nil (by simp)).ev
  -- the rows from the last place on
  refine sd_seq (sd_for (src_range3 (n := n) (l := (n : Int) - 1) (m := -1) (c := -1) (ea_cons (ev_I0 (g := fun i j => i - j) (ev_var rfl) ev_int) (ea_cons (ev_neg ev_int) (ea_cons (ev_neg ev_int) ea_nil))) ?_)
    (fun i τ o => ∃ (R S : List (List Int)) (t3 t4 t5 : Option Dy), i ≤ n ∧ Ir.Good n Ir.PF B (n - i) R ∧ R.length ≤ 1000 ∧ Ir.psteps n l = Ir.psteps (n - i) R ++ S ∧ S.length = i ∧ (∀ (j : Nat) (r : List Int), S[j]? = some r → (r.getD (n - i + j) 0).natAbs < 2 ^ B ∧ ∀ j, (r.getD j 0).natAbs < 2 ^ B) ∧
      τ = [some (dM R), some (dI (n : Int)), none, t3, t4, t5] ∧ o = some ⟨2, .lst .int, List.replicate (n - i) [] ++ S⟩) ?_ ?_ ?_ fun _ _ h => h) ?_
  · have h := RgC.neg (i := (n : Int) - 1) (j := -1) (by omega) (by omega) (by omega) (by omega)
    have e2 : ((n : Int) - 1 - -1).toNat = n := by omega
    rw [e2] at h; exact h
  · refine ⟨l, [], _, _, _, Nat.zero_le _, hg, hl, by simp, rfl, fun j r e => by simp at e, rfl, ?_⟩
    rw [List.map_const']; simp
  · rintro i τ o ⟨_, _, _, _, _, _, _, _, _, _, _, _, rfl⟩; exact off_of (by decide)
  · rintro i τ o hi ⟨R, S, t3, t4, t5, _, gR, lR, eS, lS, bS, rfl, rfl⟩
    obtain ⟨q, hq⟩ : ∃ q, n - i = q + 1 := ⟨n - i - 1, by omega⟩
    have ep : (n : Int) - 1 + (i : Int) * -1 = (q : Int) := by omega
    rw [ep]
    rw [hq] at gR eS
    obtain ⟨m, R', g1, g2, g3, g4, g5, g6, C, hC, hf, hm⟩ := Ir.place_ok Ir.quo_fdiv Ir.kind_fdiv Ir.nought_kp gR
    have hv : Vs n q R := ⟨gR.wd, by omega, by omega, lR⟩
    have hlen := Ir.go_str (p := q) (P := fun _ => True) (fun x hx h => Ir.nought_kp x hx h) (fun _ _ _ _ _ => trivial) Ir.PF _ _ m R' (fun x hx => gR.wd x (List.mem_filter.mp hx).1) (fun x hx => gR.wd x (List.mem_filter.mp hx).1) (fun x hx => ⟨trivial, Ir.nz_iff.mp (List.mem_filter.mp hx).2⟩) (fun x hx => ⟨trivial, Ir.zz_iff.mp (List.mem_filter.mp hx).2⟩) g1
    have hlR' : R'.length ≤ 1000 := by
      have := hlen.2.2.2.2.2.2
      have := part_len q R
      omega
    refine sd_then (sd_asg2 (s := .lst .int) (t := .lst (.lst .int)) (x := m) (y := R') (ev_call (ea_cons (ev_var rfl) (ea_cons (ev_var rfl) ea_nil)) ⟨R, n, q, Ir.PF, C, B, m, R', rfl, hv, g1, by omega, hC, hf, rfl⟩) (off_of (by decide)) ⟨rfl, rfl⟩) ?_
    refine sd_setitem (ty := .lst .int) (k := (q : Int)) (x := Ir.up q m) (ev_call (ds := [dV m, dI (q : Int)]) (ea_cons (ev_var rfl) (ea_cons (ev_var rfl) ea_nil)) ⟨m, q, rfl, by omega, by omega, g4, rfl⟩) (ev_var rfl) (by omega) (by simp; omega) ?_
    have st := Ir.prog_step q R m R' g1
    have hupl : ∀ j, ((Ir.up q m).getD j 0).natAbs < 2 ^ B := fun j => by
      have := hm j
      unfold Ir.up
      split
      · rw [Ir.gd_scale]; omega
      · omega
    refine ⟨R', Ir.up q m :: S, _, _, _, by omega, ?_, hlR', ?_, by simp [lS], fun j r e => ?_, rfl, ?_⟩
    · rw [show n - (i + 1) = q by omega]; exact g6
    · rw [show n - (i + 1) = q by omega, eS, st]; simp
    · cases j with
      | zero =>
        have : Ir.up q m = r := by simpa using e
        rw [← this]; exact ⟨hupl _, hupl⟩
      | succ j =>
        have := bS j r (by simpa using e)
        refine ⟨?_, this.2⟩
        exact this.2 _
    · rw [show n - (i + 1) = q by omega, hq]
      congr 1
      congr 1
      rw [Int.toNat_natCast, List.set_append, if_pos (by simp), List.replicate_succ', List.set_append, if_neg (by simp)]
      simp
  · rintro τ o ⟨R, S, t3, t4, t5, _, gR, lR, eS, lS, bS, rfl, rfl⟩
    obtain ⟨tri, _⟩ := Ir.prog_steps hg
    rw [Nat.sub_self] at eS bS
    have eS' : Ir.psteps n l = S := by rw [eS]; rfl
    rw [eS'] at tri
    rw [Nat.sub_self]
    show Sd _ _ (some ⟨2, .lst .int, S⟩) _ _
    -- each brought down by those ahead
    refine sd_seq (sd_for (src_range1 (n := n) (ea_cons (ev_var rfl) ea_nil) (by omega) (by omega) (by omega)) (fun i τ o => ∃ (t3 t4 t5 : Option Dy), i ≤ n ∧ τ = [some (dM R), some (dI (n : Int)), none, t3, t4, t5] ∧ o = some ⟨2, .lst .int, Ir.lower (S.take i) ++ S.drop i⟩) ?_ ?_ ?_ fun _ _ h => h) ?_
    · exact ⟨_, _, _, Nat.zero_le _, rfl, by simp [Ir.lower_nil]⟩
    · rintro i τ o ⟨_, _, _, _, _, rfl⟩; exact off_of (by decide)
    · rintro i τ o hi ⟨t3, t4, t5, _, rfl, rfl⟩
      obtain ⟨r, hr, hlow⟩ := Ir.lower_take tri hi
      have ti := Ir.tri_take tri (show i ≤ n by omega)
      obtain ⟨tl, lo, _⟩ := Ir.lower_ok (show i ≤ n by omega) ti
      have hli : (Ir.lower (S.take i)).length = i := tl.len
      have hSl : S.length = n := lS
      have hrm : r ∈ S := List.mem_of_getElem? hr
      have lr : r.length = n := tri.wd r hrm
      have hdrop : S.drop i = r :: S.drop (i + 1) := by
        rw [List.drop_eq_getElem_cons (by omega)]
        congr 1
        rw [List.getElem?_eq_getElem (by omega)] at hr
        exact Option.some.inj hr
      have hat : (Ir.lower (S.take i) ++ S.drop i)[i]? = some r := by
        rw [List.getElem?_append_right (by omega), hli, Nat.sub_self, hdrop]; rfl
      have hlt : i < (Ir.lower (S.take i) ++ S.drop i).length := by simp [hli]; omega
      -- what the call is handed
      have own : Ir.Own n i (Ir.lower (S.take i) ++ S.drop i) := by
        refine ⟨fun x hx => (List.mem_append.mp hx).elim (tl.wd x) fun h => tri.wd x (List.mem_of_mem_drop h), by simp [hli], by omega, fun j u hj hu => ?_⟩
        rw [List.getElem?_append_left (by omega)] at hu
        exact tl.pos j u hu
      have bits : ∀ u ∈ Ir.lower (S.take i) ++ S.drop i, Bits B u := fun u hu => by
        rcases List.mem_append.mp hu with h | h
        · refine bits_lt.mpr (Ir.low_lt tl lo (fun j u hu => ?_) u h)
          obtain ⟨z, hz, _⟩ := Ir.exists_row ti (i := j) (by rw [← hli]; exact (List.getElem?_eq_some_iff.mp hu).1)
          rw [Ir.lower_own (show i ≤ n by omega) ti j z u hz hu]
          have hz' : S[j]? = some z := by
            rw [List.getElem?_take] at hz
            split at hz
            · exact hz
            · cases hz
          exact (bS j z hz').2 j
        · obtain ⟨j, hj, rfl⟩ := List.getElem_of_mem (List.mem_of_mem_drop h)
          exact bits_lt.mpr fun m => (bS j S[j] (List.getElem?_eq_getElem hj)).2 m
      have brr : Bits B r := by
        obtain ⟨j, hj, rfl⟩ := List.getElem_of_mem hrm
        exact bits_lt.mpr fun m => (bS j S[j] (List.getElem?_eq_getElem hj)).2 m
      have hcap : B + (i + 1) * (B + 2) + B ≤ 100000000 := by
        have : (i + 1) * (B + 2) ≤ 9 * (B + 2) := Nat.mul_le_mul_right _ (by omega)
        omega
      have etake : (Ir.lower (S.take i) ++ S.drop i).take i = Ir.lower (S.take i) := by
        rw [List.take_append_of_le_length (by omega), List.take_of_length_le (by omega)]
      refine sd_setitem (ty := .lst .int) (k := (i : Int)) (x := Ir.rest (Ir.lower (S.take i)) r) (ev_borrow (by simp) ?_ (fun z => by rw [z] at hlt; simp at hlt)) (ev_var rfl) (by omega) (by omega) ?_
      · refine (ev_call (ea_cons (ev_ix (ty := .lst .int) (xs := Ir.lower (S.take i) ++ S.drop i) (ev_var rfl) (ev_var rfl) (atI_nat hat)) (ea_cons (ev_var rfl) (ea_cons (ev_var rfl) ea_nil))) ⟨r, _, n, i, B, B, rfl, own, lr, by omega, bits, brr, hcap, rfl⟩).eq (congrArg dV ?_)
        rw [etake]
      · refine ⟨_, _, _, by omega, rfl, ?_⟩
        congr 1
        congr 1
        rw [Int.toNat_natCast, hlow, hdrop, List.set_append, if_neg (by omega), hli, Nat.sub_self]
        simp
    · rintro τ o ⟨t3, t4, t5, _, rfl, rfl⟩
      refine sd_share (by simp) ?_
      refine sd_ret (ev_var rfl) ?_
      show dM _ = dM _
      rw [List.drop_eq_nil_of_le (by omega), List.append_nil, List.take_of_length_le (by omega)]
      unfold Ir.prows
      rw [eS']
end
end Wk

/-! WkH: has, in_both; ideals.py, the four that make an ideal of two -/
namespace Wk
open PySem L2 PyProof.Rows PySem.Spec
abbrev s_has : Stmt := topS 12
abbrev N_has : List Str := ["rows", "vector"]
theorem sc_has : FnScope N_has ["rows", "vector"] (defScope s_has) := ⟨rfl, rfl, rfl, by decide +kernel, rfl, by decide +kernel, by decide +kernel⟩
abbrev s_in_both : Stmt := topS 13
abbrev N_in_both : List Str := ["pairs", "rows", "many", "vectors", "row", "first", "second"]
theorem sc_in_both : FnScope N_in_both ["pairs", "rows"] (defScope s_in_both) := ⟨rfl, rfl, rfl, by decide +kernel, rfl, by decide +kernel, by decide +kernel⟩
abbrev s_with_powers : Stmt := topS 15
abbrev N_with_powers : List Str := ["ring", "number", "found", "turn"]
theorem sc_with_powers : FnScope N_with_powers ["ring", "number"] (defScope s_with_powers) := ⟨rfl, rfl, rfl, by decide +kernel, rfl, by decide +kernel, by decide +kernel⟩
abbrev s_made_of : Stmt := topS 16
abbrev N_made_of : List Str := ["ring", "numbers", "vectors", "number"]
theorem sc_made_of : FnScope N_made_of ["ring", "numbers"] (defScope s_made_of) := ⟨rfl, rfl, rfl, by decide +kernel, rfl, by decide +kernel, by decide +kernel⟩
abbrev s_sum_of : Stmt := topS 17
abbrev N_sum_of : List Str := ["one", "other"]
theorem sc_sum_of : FnScope N_sum_of ["one", "other"] (defScope s_sum_of) := ⟨rfl, rfl, rfl, by decide +kernel, rfl, by decide +kernel, by decide +kernel⟩
abbrev s_product_of : Stmt := topS 18
abbrev N_product_of : List Str := ["ring", "one", "other", "vectors", "row", "far"]
theorem sc_product_of : FnScope N_product_of ["ring", "one", "other"] (defScope s_product_of) := ⟨rfl, rfl, rfl, by decide +kernel, rfl, by decide +kernel, by decide +kernel⟩
abbrev s_in_common : Stmt := topS 19
abbrev N_in_common : List Str := ["one", "other", "row"]
theorem sc_in_common : FnScope N_in_common ["one", "other"] (defScope s_in_common) := ⟨rfl, rfl, rfl, by decide +kernel, rfl, by decide +kernel, by decide +kernel⟩
abbrev s_whole : Stmt := topS 20
abbrev N_whole : List Str := ["ring", "own", "place"]
theorem sc_whole : FnScope N_whole ["ring"] (defScope s_whole) := ⟨rfl, rfl, rfl, by decide +kernel, rfl, by decide +kernel, by decide +kernel⟩
abbrev s_one_by_another : Stmt := topS 21
abbrev N_one_by_another : List Str := ["ring", "one", "other", "found", "far", "row"]
theorem sc_one_by_another : FnScope N_one_by_another ["ring", "one", "other"] (defScope s_one_by_another) := ⟨rfl, rfl, rfl, by decide +kernel, rfl, by decide +kernel, by decide +kernel⟩
abbrev s_holds : Stmt := topS 22
abbrev N_holds : List Str := ["one", "other", "row"]
theorem sc_holds : FnScope N_holds ["one", "other"] (defScope s_holds) := ⟨rfl, rfl, rfl, by decide +kernel, rfl, by decide +kernel, by decide +kernel⟩
abbrev s_norm : Stmt := topS 23
abbrev N_norm : List Str := ["rows", "found", "place", "row"]
theorem sc_norm : FnScope N_norm ["rows"] (defScope s_norm) := ⟨rfl, rfl, rfl, by decide +kernel, rfl, by decide +kernel, by decide +kernel⟩
section
variable {K : PySem.W.Frag} {mg : Str → Option Value} {base : Heap} {P : Program} {w : World}
def F_has : List Dy → Dy → Prop := fun ds d => ∃ (D : List (List Int)) (x : List Int) (n b c : Nat), ds = [dM D, dV x] ∧ Ir.Own n D.length D ∧ x.length = n ∧ n ≤ 100 ∧ (∀ r ∈ D, Bits b r) ∧ Bits c x ∧ c + (D.length + 1) * (b + 2) + b ≤ 100000000 ∧ d = dB (Nf02.has D x)
theorem nought_all (x : List Int) : Ir.nought x = x.all fun z => z == 0 := by
  unfold Ir.nought
  congr 1
theorem rest_len {n e : Nat} {D : List (List Int)} : ∀ {e : Nat} {x : List Int}, Ir.Own n e D → x.length = n → (Ir.rest (D.take e) x).length = n
  | 0, x, _, h => h
  | e + 1, x, hD, h => by
    rw [Ir.rest_turn hD h]
    exact rest_len (e := e) hD.less (Ir.len_bdn hD h)
theorem ok_has {f : Addr} {fd : FuncData} (Fn : Fun K "has" "has" s_has f fd) (T : Bt mg) (d_is_nought : DefOk P w K mg base 40 "is_nought" ["number"] (spD F_is_nought)) (d_brought_down : DefOk P w K mg base 41 "brought_down" ["vector", "rows", "end"] (spD F_brought_down)) :
    FnOk P w K mg base CX0 42 f fd ["rows", "vector"] (spD F_has) := by
  refine fn_pure Fn sc_has (fun ds d ⟨D, x, n, b, c, e, _⟩ => by rw [e]; rfl) fun cdv A outer s H E hr ds d ⟨D, x, n, b, c, e, hD, lx, hn, bD, bx, hs, ed⟩ => ?_
  subst e ed
  refine ⟨_, (pss_one (ps_ret (pe_callD d_is_nought (hr.mono (by decide)) rfl (pa_cons (pe_callD d_brought_down (hr.mono (by decide)) rfl (pa_cons (pv 1) (pa_cons (pv 0) (pa_cons (pe_callB (lenK (K := K) rfl) (by rfl) T.b_len (by decide +kernel) (pa_cons (pv 0) pa_nil)) pa_nil)))) pa_nil)))), ?_⟩
  have hl := rest_len (e := D.length) hD lx
  rw [List.take_length] at hl
  refine sd_ret (Ev.eq (ev_call (ea_cons (ev_call (d := dV (Ir.rest D x)) (ea_cons (ev_var rfl) (ea_cons (ev_var rfl) (ea_cons (ev_len (ty := .lst .int) (ev_var rfl)) ea_nil))) ⟨x, D, n, D.length, b, c, rfl, hD, lx, hn, bD, bx, hs, by rw [List.take_length]⟩) ea_nil) ⟨_, rfl, by omega, rfl⟩) ?_) rfl
  rw [nought_all]; rfl
def F_in_both : List Dy → Dy → Prop := fun ds d => ∃ (Q : List (List Int × List Int)) (D : List (List Int)) (n : Nat), ds = [⟨.lst (.pr (.lst .int) (.lst .int)), Q⟩, dM D] ∧ D.length = n ∧ 1 ≤ n ∧ n ≤ 4 ∧ Q.length ≤ 100 ∧ (∀ p ∈ Q, p.1.length = n ∧ p.2.length = n) ∧ Ir.Wd n D ∧
  Ir.Good (2 * n) Ir.PF Ir.BF (2 * n) (Ir.pairs Q D n) ∧ d = dM (Ir.half n (Ir.prows (2 * n) (Ir.pairs Q D n)))
theorem mulB_small {i j : Int} (hi : i.natAbs < 2 ^ 64) (hj : j.natAbs < 2 ^ 64) : MulB i j := mulB_of hi hj (by decide)
theorem ok_in_both {f : Addr} {fd : FuncData} (Fn : Fun K "in_both" "in_both" s_in_both f fd) (T : Bt mg) (d_rows_of : DefOk P w K mg base 43 "rows_of" ["vectors", "many"] (spD F_rows_of)) : FnOk P w K mg base CX0 44 f fd ["pairs", "rows"] (spD F_in_both) := by
  refine fn_pure Fn sc_in_both (fun ds d ⟨Q, D, n, e, _⟩ => by rw [e]; rfl) fun cdv A outer s H E hr ds d ⟨Q, D, n, e, lD, n1, n4, lQ, hQ, hD, hg, ed⟩ => ?_
  subst e ed
  refine ⟨_, (pss_cons (ps_set (i := 2) sc_in_both.nd rfl (Or.inr rfl) (pe_callB (lenK (K := K) rfl) (by rfl) T.b_len (by decide +kernel) (pa_cons (pv 1) pa_nil)))
    (pss_cons (ps_setLc (i := 3) (own := [("first", 5), ("second", 6)]) rfl sc_in_both.nd rfl rfl (sw_true rfl rfl rfl (by decide +kernel)) (pi_listK (K := K) rfl (pv 0)) (blkOk_by (own := [("first", 5), ("second", 6)]) (N := N_in_both) (sc := defScope s_in_both) (by decide +kernel)) (fun _ _ _ _ _ => (pg_tupK (K := K) (n := 2) rfl rfl (pgs_cons (pg_name (i := 5) sc_in_both.nd rfl (Or.inl rfl)) (pgs_cons (pg_name (i := 6) sc_in_both.nd rfl (Or.inl rfl)) pgs_nil)))) (fun _ _ _ _ _ => pts_nil) (fun _ _ _ _ _ => (pe_op op_cat (pv 5) (pv 6))))
    (pss_cons (ps_expr (pe_bm PySem.F.plainAttrs_list PySem.F.slot_list_extend PySem.F.type_list_extend mt_extend (pv 3) (pa_cons (pe_lc (own := [("row", 4)]) rfl sc_in_both.nd (pi_listK (K := K) rfl (pv 1)) (blkOk_by (own := [("row", 4)]) (N := N_in_both) (sc := defScope s_in_both) (by decide +kernel)) (fun _ _ _ _ _ => (pg_name (i := 4) sc_in_both.nd rfl (Or.inl rfl))) (fun _ _ _ _ _ => pts_nil) (fun _ _ _ _ _ => (pe_op op_cat (pe_op op_rep (pe_lst (pa_cons pe_int pa_nil)) (pv 2)) (pv 4)))) pa_nil)))
    (pss_one (ps_ret (pe_lc (own := [("row", 4)]) rfl sc_in_both.nd (pi_listK (K := K) rfl (pe_slice (slL (K := K) rfl) (pe_callD d_rows_of (hr.mono (by decide)) rfl (pa_cons (pv 3) (pa_cons (pe_op op_mulB pe_int (pv 2)) pa_nil))) po_none (po_some (pv 2)))) (blkOk_by (own := [("row", 4)]) (N := N_in_both) (sc := defScope s_in_both) (by decide +kernel)) (fun _ _ _ _ _ => (pg_name (i := 4) sc_in_both.nd rfl (Or.inl rfl))) (fun _ _ _ _ _ => pts_nil) (fun _ _ _ _ _ => (pe_slice (slL (K := K) rfl) (pv 4) po_none (po_some (pv 2)))))))))), ?_⟩
  refine sd_then (sd_asg (d := dI (n : Int)) ((ev_len (ty := .lst .int) (xs := D) (ev_var rfl)).eq (by rw [lD])) no_ow ⟨rfl, rfl⟩) ?_
  refine sd_then (sd_asgN (ty := .lst .int) (xs := Q.map fun p => p.1 ++ p.2) (en_lcP (s := .lst .int) (t := .lst .int) (u := .lst .int) (xs := Q) (f := fun a b => a ++ b) (ev_var rfl) (by decide) (by decide) no_ow (small_line (by omega)) fun k p hp => ?_) (by simp [startT]) ⟨rfl, rfl⟩) ?_
  · have := hQ p (List.mem_of_getElem? hp)
    exact ev_cat (ty := .int) (ev_var rfl) (ev_var rfl) (Nat.le_trans (show _ ≤ 1000 by omega) (by decide))
  refine sd_then (sd_extend (ty := .lst .int) (ys := D.map fun d => Ir.zr n ++ d) (en_lcM (s := .lst .int) (u := .lst .int) (xs := D) (f := fun d => Ir.zr n ++ d) (ev_var rfl) (by decide) (off_of (by decide)) (small_line (by omega)) fun i x hx => ?_).ev (Nat.le_trans (show _ ≤ 1000 by simp; omega) (by decide)) ⟨rfl, rfl⟩) ?_
  · have hx' := hD x (List.mem_of_getElem? hx)
    exact ev_cat (ty := .int) (xs := Ir.zr n) ((ev_rep (x := 0) (k := (n : Int)) (en_lst (xs := [(0 : Int)]) (ea_cons ev_int ea_nil) (by decide)).ev (ev_var rfl) (by omega) (by omega)).eq (by rw [Int.toNat_natCast])) (ev_var rfl) (Nat.le_trans (show _ ≤ 1000 by simp; omega) (by decide))
  refine sd_share (by simp [startT]) ?_
  have hlen : (Ir.pairs Q D n).length ≤ 1000 := by simp [Ir.pairs]; omega
  have e2 : (2 : Int) * (n : Int) = ((2 * n : Nat) : Int) := by omega
  have hR := (Ir.prog_rows hg).1
  have hRl := hR.len
  refine sd_ret (Ev.eq (en_lcM (s := .lst .int) (u := .lst .int) (xs := (Ir.prows (2 * n) (Ir.pairs Q D n)).take n) (f := fun r => r.take n) ((ev_cut (ty := .lst .int) (xs := Ir.prows (2 * n) (Ir.pairs Q D n)) (ev_call (ds := [dM (Ir.pairs Q D n), dI ((2 * n : Nat) : Int)]) (ea_cons (ev_var rfl) (ea_cons ((ev_I (g := fun i j => i * j) (C := MulB) ev_int (ev_var rfl) (mulB_small (by decide) (Nat.lt_of_le_of_lt (show _ ≤ 4 by omega) (by decide)))).eq (by rw [e2])) ea_nil)) ⟨_, 2 * n, Ir.BF, rfl, hg, by omega, by omega, hlen, by decide, rfl⟩)
    eo_none (eo_some (ev_var rfl))).eq (congrArg dM (cut_to _ n))) (by decide) no_ow (small_line (by rw [List.length_take]; omega)) fun i x hx => ?_).ev rfl) rfl
  exact (ev_cut (ty := .int) (xs := x) (ev_var rfl) eo_none (eo_some (ev_var rfl))).eq (congrArg dV (cut_to x n))
def F_with_powers : List Dy → Dy → Prop := fun ds d => ∃ k x : List Int, ds = [dV k, dV x] ∧ RingOk k ∧ x.length = k.length ∧ Bits 1000 x ∧ d = dM (Nf02.spread k x)
theorem ok_with_powers {f : Addr} {fd : FuncData} (Fn : Fun K "with_powers" "with_powers" s_with_powers f fd) (T : Bt mg) (d_by_root : DefOk P w K mg base 40 "by_root" ["ring", "number"] (spD F_by_root)) : FnOk P w K mg base CX0 41 f fd ["ring", "number"] (spD F_with_powers) := by
  refine fn_pure Fn sc_with_powers (fun ds d ⟨k, x, e, _⟩ => by rw [e]; rfl) fun cdv A outer s H E hr ds d ⟨k, x, e, hk, lx, bx, ed⟩ => ?_
  subst e ed
  refine ⟨_, (pss_cons (ps_set (i := 2) sc_with_powers.nd rfl (Or.inl rfl) (pe_lst (pa_cons (pv 1) pa_nil)))
    (pss_cons (ps_for PassesOwn.never rfl (pi_range1 (by rfl) T.b_range (pa_cons (pe_op op_sub (pe_callB (lenK (K := K) rfl) (by rfl) T.b_len (by decide +kernel) (pa_cons (pv 0) pa_nil)) pe_int) pa_nil)) (pg_name (i := 3) sc_with_powers.nd rfl (Or.inl rfl)) (pss_one (ps_expr (pe_bm PySem.F.plainAttrs_list PySem.F.slot_list_append PySem.F.type_list_append mt_append (pv 2) (pa_cons (pe_callD d_by_root (hr.mono (by decide)) rfl (pa_cons (pv 0) (pa_cons (pe_ix (ixL (K := K) rfl) (pv 2) (pe_un un_neg pe_int) (fun _ _ => rfl)) pa_nil))) pa_nil)))))
    (pss_one (ps_ret (pv 2))))), ?_⟩
  have h4 := hk.2.1
  have h2 := hk.1
  have h0 := hk.pos
  refine sd_then (sd_asgN (ty := .lst .int) (xs := [x]) (en_lst (ty := .lst .int) (xs := [x]) (ea_cons (ev_var rfl) ea_nil) (by simp)) (by simp [startT]) ⟨rfl, rfl⟩) ?_
  refine sd_seq (sd_for (src_range1 (n := k.length - 1) (ea_cons (ev_I0 (g := fun i j => i - j) (ev_len (ty := .int) (ev_var rfl)) ev_int) ea_nil) (by omega) (by omega) (by omega)) (fun i τ o => ∃ t3 : Option Dy, τ = [some (dV k), some (dV x), none, t3] ∧ o = some ⟨2, .lst .int, (List.range (i + 1)).map fun i => Ir.upn k i x⟩) ?_ ?_ ?_ fun _ _ h => h) ?_
  · exact ⟨_, rfl, rfl⟩
  · rintro i τ o ⟨_, _, rfl⟩; exact off_of (by decide)
  · rintro i τ o hi ⟨t3, rfl, rfl⟩
    have hlast : atI ((List.range (i + 1)).map fun i => Ir.upn k i x) (-1) = some (Ir.upn k i x) := by
      rw [at_last (by simp)]
      congr 1
      rw [List.getLast_map]
      simp
    have lu := Ir.len_upn h0 i lx
    have bu : Bits 90000000 (Ir.upn k i x) := bits_lt.mpr ((Ir.lt_upn hk i lx (bits_lt.mp bx)).mono (by omega))
    refine sd_append (ty := .lst .int) (x := Nf02.up k (Ir.upn k i x)) (ev_call (ea_cons (ev_var rfl) (ea_cons (ev_ixO (ty := .lst .int) (k := 2) (ev_neg ev_int) hlast) ea_nil)) ⟨k, _, rfl, hk, lu, bu, rfl⟩) (small_line (by simp; omega)) ⟨_, rfl, ?_⟩
    congr 1
    congr 1
    rw [List.range_succ (n := i + 1), List.map_append]
    show _ ++ [Nf02.up k (Ir.upn k i x)] = _ ++ [Ir.upn k (i + 1) x]
    rw [Ir.upn_up]
  · rintro τ o ⟨t3, rfl, rfl⟩
    refine sd_share (by simp) ?_
    refine sd_ret (ev_var rfl) ?_
    rw [Ir.spread_eq]
    show dM _ = dM _
    rw [show k.length - 1 + 1 = k.length by omega]
/-- what an ideal is made of: the numbers that are not 0, with their products by the root -/
def mvs (k : List Int) (l : List (List Int)) : List (List Int) := (l.filter fun x => !Ir.nought x).flatMap (Nf02.spread k)
def F_made_of : List Dy → Dy → Prop := fun ds d => ∃ (k : List Int) (l : List (List Int)), ds = [dV k, dM l] ∧ RingOk k ∧ l.length ≤ 3 ∧ Ir.Wd k.length l ∧ (∀ x ∈ l, Bits 1000 x) ∧ Ir.Good k.length Ir.PF Ir.BF k.length (mvs k l) ∧ d = dM (Ir.prows k.length (mvs k l))
theorem spread_len {k x : List Int} : (Nf02.spread k x).length = k.length := by unfold Nf02.spread; simp [Nf01.Field.n]
theorem mvs_take {k : List Int} {l : List (List Int)} {i : Nat} {x : List Int} (h : l[i]? = some x) : mvs k (l.take (i + 1)) = mvs k (l.take i) ++ if Ir.nought x = true then [] else Nf02.spread k x := by
  unfold mvs
  rw [List.take_add_one, h, List.filter_append, List.flatMap_append]
  congr 1
  simp only [Option.toList, List.filter_cons, List.filter_nil]
  cases Ir.nought x <;> simp
theorem mvs_len {k : List Int} {l : List (List Int)} : (mvs k l).length ≤ l.length * k.length := by
  unfold mvs
  rw [Ir.len_flat (m := k.length) fun x _ => spread_len]
  exact Nat.mul_le_mul_right _ (List.length_filter_le _ _)
theorem ok_made_of {f : Addr} {fd : FuncData} (Fn : Fun K "made_of" "made_of" s_made_of f fd) (T : Bt mg) (d_is_nought : DefOk P w K mg base 40 "is_nought" ["number"] (spD F_is_nought)) (d_with_powers : DefOk P w K mg base 41 "with_powers" ["ring", "number"] (spD F_with_powers))
    (d_rows_of : DefOk P w K mg base 43 "rows_of" ["vectors", "many"] (spD F_rows_of)) : FnOk P w K mg base CX0 44 f fd ["ring", "numbers"] (spD F_made_of) := by
  refine fn_pure Fn sc_made_of (fun ds d ⟨k, l, e, _⟩ => by rw [e]; rfl) fun cdv A outer s H E hr ds d ⟨k, l, e, hk, hl, hw, hb, hg, ed⟩ => ?_
  subst e ed
  refine ⟨_, (pss_cons (ps_set (i := 2) sc_made_of.nd rfl (Or.inl rfl) (pe_lst pa_nil))
    (pss_cons (ps_for PassesOwn.never rfl (pi_listK (K := K) rfl (pv 1)) (pg_name (i := 3) sc_made_of.nd rfl (Or.inl rfl)) (pss_one (ps_if (pt_not (pt_val (pe_callD d_is_nought (hr.mono (by decide)) rfl (pa_cons (pv 3) pa_nil)))) (pss_one (ps_expr (pe_bm PySem.F.plainAttrs_list PySem.F.slot_list_extend PySem.F.type_list_extend mt_extend (pv 2) (pa_cons (pe_callD d_with_powers (hr.mono (by decide)) rfl (pa_cons (pv 0) (pa_cons (pv 3) pa_nil))) pa_nil)))) pss_nil)))
    (pss_one (ps_ret (pe_callD d_rows_of (hr.mono (by decide)) rfl (pa_cons (pv 2) (pa_cons (pe_callB (lenK (K := K) rfl) (by rfl) T.b_len (by decide +kernel) (pa_cons (pv 0) pa_nil)) pa_nil))))))), ?_⟩
  have h4 := hk.2.1
  have h2 := hk.1
  refine sd_then (sd_asgN (ty := .lst .int) (xs := []) (en_lst (ty := .lst .int) (xs := []) ea_nil (by simp)) (by simp [startT]) ⟨rfl, rfl⟩) ?_
  refine sd_seq (sd_for (src_list (ty := .lst .int) (xs := l) (ev_var rfl)) (fun i τ o => ∃ t3 : Option Dy, i ≤ l.length ∧ τ = [some (dV k), some (dM l), none, t3] ∧ o = some ⟨2, .lst .int, mvs k (l.take i)⟩) ?_ ?_ ?_ fun _ _ h => h) ?_
  · exact ⟨_, Nat.zero_le _, rfl, rfl⟩
  · rintro i τ o ⟨_, _, _, rfl⟩; exact off_of (by decide)
  · rintro i τ o hi ⟨t3, _, rfl, rfl⟩
    have hxi : l[i]? = some l[i] := List.getElem?_eq_getElem hi
    simp only [hxi]
    have lx := hw l[i] (List.getElem_mem hi)
    have e := mvs_take (k := k) hxi
    refine sd_if (b := !Ir.nought l[i]) (et_not (et_B (ev_call (ea_cons (ev_var rfl) ea_nil) ⟨_, rfl, by omega, rfl⟩))) (fun hb' => ?_) fun hb' => ?_
    · have hn : Ir.nought l[i] = false := by simpa using hb'
      refine sd_extend (ty := .lst .int) (ys := Nf02.spread k l[i]) (ev_call (ea_cons (ev_var rfl) (ea_cons (ev_var rfl) ea_nil)) ⟨k, l[i], rfl, hk, lx, hb _ (List.getElem_mem hi), rfl⟩) ?_ ⟨_, hi, rfl, ?_⟩
      · have := mvs_len (k := k) (l := l.take i)
        have h3 : (l.take i).length * k.length ≤ 3 * 4 := Nat.mul_le_mul (by rw [List.length_take]; omega) h4
        rw [spread_len]
        exact Nat.le_trans (show _ ≤ 1000 by omega) (by decide)
      · rw [e, hn]; rfl
    · have hn : Ir.nought l[i] = true := by simpa using hb'
      refine sd_next ⟨_, hi, rfl, ?_⟩
      rw [e, hn]; simp
  · rintro τ o ⟨t3, _, rfl, rfl⟩
    rw [List.take_length]
    refine sd_share (by simp) ?_
    have := mvs_len (k := k) (l := l)
    have h3 : l.length * k.length ≤ 3 * 4 := Nat.mul_le_mul hl h4
    exact sd_ret (ev_call (ea_cons (ev_var rfl) (ea_cons (ev_len (ty := .int) (ev_var rfl)) ea_nil)) ⟨_, k.length, Ir.BF, rfl, hg, by omega, by omega, by omega, by decide, rfl⟩) rfl
def F_sum_of : List Dy → Dy → Prop := fun ds d => ∃ (k : List Int) (a b : List (List Int)), ds = [dM a, dM b] ∧ RingOk k ∧ Ir.Kp k.length a ∧ Ir.Kp k.length b ∧ d = dM (Nf02.add k a b)
theorem ok_sum_of {f : Addr} {fd : FuncData} (Fn : Fun K "sum_of" "sum_of" s_sum_of f fd) (T : Bt mg) (d_rows_of : DefOk P w K mg base 43 "rows_of" ["vectors", "many"] (spD F_rows_of)) : FnOk P w K mg base CX0 44 f fd ["one", "other"] (spD F_sum_of) := by
  refine fn_pure Fn sc_sum_of (fun ds d ⟨k, a, b, e, _⟩ => by rw [e]; rfl) fun cdv A outer s H E hr ds d ⟨k, a, b, e, hk, ha, hb, ed⟩ => ?_
  subst e ed
  refine ⟨_, (pss_one (ps_ret (pe_callD d_rows_of (hr.mono (by decide)) rfl (pa_cons (pe_op op_cat (pv 0) (pv 1)) (pa_cons (pe_callB (lenK (K := K) rfl) (by rfl) T.b_len (by decide +kernel) (pa_cons (pv 0) pa_nil)) pa_nil))))), ?_⟩
  have h4 := hk.2.1
  have h2 := hk.1
  have la := ha.h.len
  have lb := hb.h.len
  obtain ⟨g, e, _⟩ := Ir.add_same hk ha hb
  refine sd_ret (Ev.eq (ev_call (ds := [dM (a ++ b), dI (k.length : Int)]) (ea_cons (ev_cat (ty := .lst .int) (ev_var rfl) (ev_var rfl) (Nat.le_trans (show _ ≤ 1000 by omega) (by decide))) (ea_cons ((ev_len (ty := .lst .int) (xs := a) (ev_var rfl)).eq (by rw [la])) ea_nil)) ⟨_, k.length, Ir.BF, rfl, g, by omega, by omega, by simp; omega, by decide, rfl⟩) (congrArg dM e)) rfl
def F_product_of : List Dy → Dy → Prop := fun ds d => ∃ (k : List Int) (a b : List (List Int)), ds = [dV k, dM a, dM b] ∧ RingOk k ∧ Ir.Kp k.length a ∧ Ir.Kp k.length b ∧ d = dM (Nf02.mul k a b)
theorem ok_product_of {f : Addr} {fd : FuncData} (Fn : Fun K "product_of" "product_of" s_product_of f fd) (T : Bt mg) (d_multiplied : DefOk P w K mg base 41 "multiplied" ["ring", "one", "other"] (spD F_multiplied)) (d_rows_of : DefOk P w K mg base 43 "rows_of" ["vectors", "many"] (spD F_rows_of)) :
    FnOk P w K mg base CX0 44 f fd ["ring", "one", "other"] (spD F_product_of) := by
  refine fn_pure Fn sc_product_of (fun ds d ⟨k, a, b, e, _⟩ => by rw [e]; rfl) fun cdv A outer s H E hr ds d ⟨k, a, b, e, hk, ha, hb, ed⟩ => ?_
  subst e ed
  refine ⟨_, (pss_cons (ps_set (i := 3) sc_product_of.nd rfl (Or.inl rfl) (pe_lst pa_nil))
    (pss_cons (ps_for PassesOwn.never rfl (pi_listK (K := K) rfl (pv 1)) (pg_name (i := 4) sc_product_of.nd rfl (Or.inr rfl)) (pss_one (ps_expr (pe_bm PySem.F.plainAttrs_list PySem.F.slot_list_extend PySem.F.type_list_extend mt_extend (pv 3) (pa_cons (pe_lc (own := [("far", 5)]) rfl sc_product_of.nd (pi_listK (K := K) rfl (pv 2)) (blkOk_by (own := [("far", 5)]) (N := N_product_of) (sc := defScope s_product_of) (by decide +kernel)) (fun _ _ _ _ _ => (pg_name (i := 5) sc_product_of.nd rfl (Or.inl rfl))) (fun _ _ _ _ _ => pts_nil) (fun _ _ _ _ _ => (pe_callD d_multiplied (hr.mono (by decide)) rfl (pa_cons (pv 0) (pa_cons (pv 4) (pa_cons (pv 5) pa_nil)))))) pa_nil)))))
    (pss_one (ps_ret (pe_callD d_rows_of (hr.mono (by decide)) rfl (pa_cons (pv 3) (pa_cons (pe_callB (lenK (K := K) rfl) (by rfl) T.b_len (by decide +kernel) (pa_cons (pv 1) pa_nil)) pa_nil))))))), ?_⟩
  have h4 := hk.2.1
  have h2 := hk.1
  have la := ha.h.len
  have lb := hb.h.len
  obtain ⟨g, e, _⟩ := Ir.mul_same hk ha hb
  have fl : ∀ i, ((a.take i).flatMap fun x => b.map fun y => Ir.times k x y).length ≤ 16 := fun i => by
    rw [Ir.len_flat (m := b.length) (fun x _ => by simp), List.length_take, la, lb]
    exact Nat.mul_le_mul (show _ ≤ 4 by omega) h4
  refine sd_then (sd_asgN (ty := .lst .int) (xs := []) (en_lst (ty := .lst .int) (xs := []) ea_nil (by simp)) (by simp [startT]) ⟨rfl, rfl⟩) ?_
  refine sd_seq (sd_for (src_list (ty := .lst .int) (xs := a) (ev_var rfl)) (fun i τ o => ∃ t4 t5 : Option Dy, τ = [some (dV k), some (dM a), some (dM b), none, t4, t5] ∧ o = some ⟨3, .lst .int, (a.take i).flatMap fun x => b.map fun y => Ir.times k x y⟩) ?_ ?_ ?_ fun _ _ h => h) ?_
  · exact ⟨_, _, rfl, rfl⟩
  · rintro i τ o ⟨_, _, _, rfl⟩; exact off_of (by decide)
  · rintro i τ o hi ⟨t4, t5, rfl, rfl⟩
    have hxi : a[i]? = some a[i] := List.getElem?_eq_getElem hi
    simp only [hxi]
    have lx := ha.h.wd a[i] (List.getElem_mem hi)
    have bx : Bits 200 a[i] := bits_lt.mpr ((ha.lt a[i] (List.getElem_mem hi)).mono (by omega))
    refine sd_extend (ty := .lst .int) (ys := b.map fun y => Ir.times k a[i] y) (en_lcM (s := .lst .int) (u := .lst .int) (xs := b) (f := fun y => Ir.times k a[i] y) (ev_var rfl) (by decide) (off_of (by decide)) (small_line (by omega)) fun j y hy => ?_).ev ?_ ⟨_, _, rfl, ?_⟩
    · have ly := hb.h.wd y (List.mem_of_getElem? hy)
      have bY : Bits 200 y := bits_lt.mpr ((hb.lt y (List.mem_of_getElem? hy)).mono (by omega))
      exact ev_call (ea_cons (ev_var rfl) (ea_cons (ev_var rfl) (ea_cons (ev_var rfl) ea_nil))) ⟨k, a[i], y, rfl, hk, lx, ly, bx, bY, rfl⟩
    · have := fl i
      refine Nat.le_trans (show _ ≤ 1000 from ?_) (by decide)
      rw [List.length_map]; omega
    · congr 1
      congr 1
      rw [List.take_add_one, hxi, List.flatMap_append]
      simp
  · rintro τ o ⟨t4, t5, rfl, rfl⟩
    have := fl a.length
    rw [List.take_length] at this ⊢
    refine sd_share (by simp) ?_
    exact sd_ret (Ev.eq (ev_call (ds := [dM (a.flatMap fun x => b.map fun y => Ir.times k x y), dI (k.length : Int)]) (ea_cons (ev_var rfl) (ea_cons ((ev_len (ty := .lst .int) (xs := a) (ev_var rfl)).eq (by rw [la])) ea_nil)) ⟨_, k.length, Ir.BF, rfl, g, by omega, by omega, by omega, by decide, rfl⟩) (congrArg dM e)) rfl
def F_in_common : List Dy → Dy → Prop := fun ds d => ∃ (k : List Int) (a b : List (List Int)), ds = [dM a, dM b] ∧ RingOk k ∧ Ir.Kp k.length a ∧ Ir.Kp k.length b ∧ d = dM (Nf02.common k a b)
theorem ok_in_common {f : Addr} {fd : FuncData} (Fn : Fun K "in_common" "in_common" s_in_common f fd) (T : Bt mg) (d_in_both : DefOk P w K mg base 44 "in_both" ["pairs", "rows"] (spD F_in_both)) : FnOk P w K mg base CX0 45 f fd ["one", "other"] (spD F_in_common) := by
  refine fn_pure Fn sc_in_common (fun ds d ⟨k, a, b, e, _⟩ => by rw [e]; rfl) fun cdv A outer s H E hr ds d ⟨k, a, b, e, hk, ha, hb, ed⟩ => ?_
  subst e ed
  refine ⟨_, (pss_one (ps_ret (pe_callD d_in_both (hr.mono (by decide)) rfl (pa_cons (pe_lc (own := [("row", 2)]) rfl sc_in_common.nd (pi_listK (K := K) rfl (pv 0)) (blkOk_by (own := [("row", 2)]) (N := N_in_common) (sc := defScope s_in_common) (by decide +kernel)) (fun _ _ _ _ _ => (pg_name (i := 2) sc_in_common.nd rfl (Or.inl rfl))) (fun _ _ _ _ _ => pts_nil) (fun _ _ _ _ _ => (pe_tup (pa_cons (pv 2) (pa_cons (pv 2) pa_nil))))) (pa_cons (pv 1) pa_nil))))), ?_⟩
  have h4 := hk.2.1
  have h2 := hk.1
  have la := ha.h.len
  have lb := hb.h.len
  obtain ⟨g, e, _⟩ := Ir.common_same hk ha hb
  refine sd_ret (Ev.eq (ev_call (ds := [⟨.lst (.pr (.lst .int) (.lst .int)), a.map fun r => (r, r)⟩, dM b]) (ea_cons (en_lcM (s := .lst .int) (u := .pr (.lst .int) (.lst .int)) (xs := a) (f := fun r => (r, r)) (ev_var rfl) (by decide) no_ow (small_line (by omega)) fun i x hx => ev_pr (s := .lst .int) (t := .lst .int) (ea_cons (ev_var rfl) (ea_cons (ev_var rfl) ea_nil))).ev (ea_cons (ev_var rfl) ea_nil))
    ⟨a.map fun r => (r, r), b, k.length, rfl, lb, by omega, h4, by simp; omega, fun p hp => ?_, hb.h.wd, g, rfl⟩) (congrArg dM e)) rfl
  obtain ⟨r, hr, rfl⟩ := List.mem_map.mp hp
  exact ⟨ha.h.wd r hr, ha.h.wd r hr⟩
def F_whole : List Dy → Dy → Prop := fun ds d => ∃ k : List Int, ds = [dV k] ∧ RingOk k ∧ d = dM (Nf02.all k)
theorem ok_whole {f : Addr} {fd : FuncData} {j : Nat} (Fn : Fun K "whole" "whole" s_whole f fd) (T : Bt mg) : FnOk P w K mg base CX0 (j + 1) f fd ["ring"] (spD F_whole) := by
  refine fn_pure Fn sc_whole (fun ds d ⟨k, e, _⟩ => by rw [e]; rfl) fun cdv A outer s H E hr ds d ⟨k, e, hk, ed⟩ => ?_
  subst e ed
  refine ⟨_, (pss_one (ps_ret (pe_lc (own := [("own", 1)]) rfl sc_whole.nd (pi_range1 (by rfl) T.b_range (pa_cons (pe_callB (lenK (K := K) rfl) (by rfl) T.b_len (by decide +kernel) (pa_cons (pv 0) pa_nil)) pa_nil)) (blkOk_by (own := [("own", 1)]) (N := N_whole) (sc := defScope s_whole) (by decide +kernel)) (fun _ _ _ _ _ => (pg_name (i := 1) sc_whole.nd rfl (Or.inr rfl))) (fun _ _ _ _ _ => pts_nil) (fun _ _ _ _ _ => (pe_lc (own := [("place", 2)]) rfl sc_whole.nd (pi_range1 (by rfl) T.b_range (pa_cons (pe_callB (lenK (K := K) rfl) (by rfl) T.b_len (by decide +kernel) (pa_cons (pv 0) pa_nil)) pa_nil)) (blkOk_by (own := [("place", 2)]) (N := N_whole) (by show blkC N_whole (relS _ (defScope s_whole)) _ _ = true; decide +kernel)) (fun _ _ _ _ _ => (pg_name (i := 2) sc_whole.nd rfl (Or.inl rfl))) (fun _ _ _ _ _ => pts_nil) (fun _ _ _ _ _ => (pe_callTy call_int1 (by rfl) T.b_int (by decide +kernel) (pa_cons (pe_cmpR op_eq (pv 2) (pv 1) (nomark _)) pa_nil)))))))), ?_⟩
  have h4 := hk.2.1
  refine sd_ret (Ev.eq (en_lcR (u := .lst .int) (n := k.length) (g := fun i => (i : Int)) (f := fun i => (List.range k.length).map fun j => if j = i then 1 else 0) (src_range1 (n := k.length) (ea_cons (ev_len (ty := .int) (ev_var rfl)) ea_nil) (by omega) (by omega) (by omega)) (by decide) no_ow (small_line (by omega)) fun i hi => ?_).ev rfl) rfl
  refine (en_lcR (u := .int) (n := k.length) (g := fun i => (i : Int)) (f := fun j => if j = i then 1 else 0) (src_range1 (n := k.length) (ea_cons (ev_len (ty := .int) (xs := k) (ev_var rfl)) ea_nil) (by omega) (by omega) (by omega)) (by decide) no_ow (small_line (by omega)) fun j hj => ?_).ev
  refine (ev_intb (b := decide ((j : Int) = (i : Int))) (ev_eqI (ev_var rfl) (ev_var rfl))).eq (congrArg dI ?_)
  by_cases h : j = i
  · rw [if_pos h, decide_eq_true (by omega)]; rfl
  · rw [if_neg h, decide_eq_false (by omega)]; rfl
def F_one_by_another : List Dy → Dy → Prop := fun ds d => ∃ (k : List Int) (a b : List (List Int)), ds = [dV k, dM a, dM b] ∧ RingOk k ∧ Ir.Hnf k.length a ∧ Nf02.norm a ≤ Nf02.BIG ∧ Ir.Kp k.length b ∧ d = dM (Nf02.by_ k a b)
/-- the turns of one by another -/
def bst (k : List Int) (a : List (List Int)) (c : List (List Int)) (y : List Int) : List (List Int) := Nf02.common k c (Nf02.before k a y)
theorem ok_one_by_another {f : Addr} {fd : FuncData} (Fn : Fun K "one_by_another" "one_by_another" s_one_by_another f fd) (T : Bt mg) (d_whole : DefOk P w K mg base 40 "whole" ["ring"] (spD F_whole)) (d_multiplied : DefOk P w K mg base 41 "multiplied" ["ring", "one", "other"] (spD F_multiplied)) (d_in_both : DefOk P w K mg base 44 "in_both" ["pairs", "rows"] (spD F_in_both)) :
    FnOk P w K mg base CX0 45 f fd ["ring", "one", "other"] (spD F_one_by_another) := by
  refine fn_pure Fn sc_one_by_another (fun ds d ⟨k, a, b, e, _⟩ => by rw [e]; rfl) fun cdv A outer s H E hr ds d ⟨k, a, b, e, hk, hna, hno, hb, ed⟩ => ?_
  subst e ed
  refine ⟨_, (pss_cons (ps_set (i := 3) sc_one_by_another.nd rfl (Or.inl rfl) (pe_callD d_whole (hr.mono (by decide)) rfl (pa_cons (pv 0) pa_nil)))
    (pss_cons (ps_for PassesOwn.never rfl (pi_listK (K := K) rfl (pv 2)) (pg_name (i := 4) sc_one_by_another.nd rfl (Or.inr rfl)) (pss_one (ps_set (i := 3) sc_one_by_another.nd rfl (Or.inl rfl) (pe_callD d_in_both (hr.mono (by decide)) rfl (pa_cons (pe_lc (own := [("row", 5)]) rfl sc_one_by_another.nd (pi_listK (K := K) rfl (pv 3)) (blkOk_by (own := [("row", 5)]) (N := N_one_by_another) (sc := defScope s_one_by_another) (by decide +kernel)) (fun _ _ _ _ _ => (pg_name (i := 5) sc_one_by_another.nd rfl (Or.inl rfl))) (fun _ _ _ _ _ => pts_nil) (fun _ _ _ _ _ => (pe_tup (pa_cons (pv 5) (pa_cons (pe_callD d_multiplied (hr.mono (by decide)) rfl (pa_cons (pv 0) (pa_cons (pv 5) (pa_cons (pv 4) pa_nil)))) pa_nil))))) (pa_cons (pv 1) pa_nil))))))
    (pss_one (ps_ret (pv 3))))), ?_⟩
  have h4 := hk.2.1
  have h2 := hk.1
  obtain ⟨ha, hN, hN2, ka⟩ := Ir.norm_kp hna hno
  have la := ha.h.len
  refine sd_then (sd_asg (d := dM (Nf02.all k)) (ev_call (ea_cons (ev_var rfl) ea_nil) ⟨k, rfl, hk, rfl⟩) no_ow ⟨rfl, rfl⟩) ?_
  refine sd_seq (sd_for (src_list (ty := .lst .int) (xs := b) (ev_var rfl)) (fun i τ o => ∃ (c : List (List Int)) (t4 t5 : Option Dy), (b.take i).foldl (bst k a) (Nf02.all k) = c ∧ Ir.Kp k.length c ∧ Ir.Kills k.length (Nf02.norm a : Int) c ∧
      τ = [some (dV k), some (dM a), some (dM b), some (dM c), t4, t5] ∧ o = none) ?_ ?_ ?_ fun _ _ h => h) ?_
  · exact ⟨_, _, _, rfl, ⟨Ir.all_hnf, Ir.all_lt⟩, fun v lv => Ir.all_sp (by rw [Ir.len_scale]; exact lv), rfl, rfl⟩
  · rintro i τ o ⟨_, _, _, _, _, _, _, rfl⟩; exact no_ow
  · rintro i τ o hi ⟨c, t4, t5, e1, kc, kl, rfl, rfl⟩
    have hxi : b[i]? = some b[i] := List.getElem?_eq_getElem hi
    simp only [hxi]
    have ly := hb.h.wd b[i] (List.getElem_mem hi)
    have by' := hb.lt b[i] (List.getElem_mem hi)
    have lc := kc.h.len
    obtain ⟨g, e2, kp2, kl2⟩ := Ir.turn_same hk ha hN hN2 ka kc kl ly by'
    have hpl : ∀ p ∈ c.map (fun r => (r, Ir.times k r b[i])), p.1.length = k.length ∧ p.2.length = k.length := fun p hp => by
      obtain ⟨r, hr, rfl⟩ := List.mem_map.mp hp
      exact ⟨kc.h.wd r hr, Ir.len_times hk.pos ly⟩
    refine sd_asg (d := dM (bst k a c b[i])) ((ev_call (ds := [⟨.lst (.pr (.lst .int) (.lst .int)), c.map fun r => (r, Ir.times k r b[i])⟩, dM a]) (ea_cons (en_lcM (s := .lst .int) (u := .pr (.lst .int) (.lst .int)) (xs := c) (f := fun r => (r, Ir.times k r b[i])) (ev_var rfl) (by decide) no_ow (small_line (by omega)) fun j x hx => ?_).ev (ea_cons (ev_var rfl) ea_nil))
      ⟨c.map fun r => (r, Ir.times k r b[i]), a, k.length, rfl, la, by omega, h4, by simp; omega, hpl, ha.h.wd, g, rfl⟩).eq (congrArg dM e2)) no_ow ?_
    · have hx' := List.mem_of_getElem? hx
      refine ev_pr (s := .lst .int) (t := .lst .int) (ea_cons (ev_var rfl) (ea_cons (ev_call (ea_cons (ev_var rfl) (ea_cons (ev_var rfl) (ea_cons (ev_var rfl) ea_nil))) ⟨k, x, b[i], rfl, hk, kc.h.wd x hx', ly, ?_, ?_, rfl⟩) ea_nil))
      · exact bits_lt.mpr ((kc.lt x hx').mono (by omega))
      · exact bits_lt.mpr (by'.mono (by omega))
    · refine ⟨_, _, _, ?_, kp2, kl2, rfl, rfl⟩
      rw [List.take_add_one, hxi, List.foldl_append, e1]; rfl
  · rintro τ o ⟨c, t4, t5, e1, kc, kl, rfl, rfl⟩
    refine sd_ret (ev_var rfl) ?_
    rw [List.take_length] at e1
    rw [← e1]; rfl
def F_holds : List Dy → Dy → Prop := fun ds d => ∃ (n : Nat) (a b : List (List Int)), ds = [dM a, dM b] ∧ n ≤ 4 ∧ Ir.Kp n a ∧ Ir.Kp n b ∧ d = dB (Nf02.holds a b)
theorem own_of {n : Nat} {a : List (List Int)} (h : Ir.Hnf n a) : Ir.Own n a.length a := by
  have := Ir.Tri.own h.toTri (Nat.le_refl n)
  rw [h.len]; exact this
theorem ok_holds {f : Addr} {fd : FuncData} (Fn : Fun K "holds" "holds" s_holds f fd) (T : Bt mg) (d_has : DefOk P w K mg base 42 "has" ["rows", "vector"] (spD F_has)) : FnOk P w K mg base CX0 43 f fd ["one", "other"] (spD F_holds) := by
  refine fn_pure Fn sc_holds (fun ds d ⟨n, a, b, e, _⟩ => by rw [e]; rfl) fun cdv A outer s H E hr ds d ⟨n, a, b, e, h4, ha, hb, ed⟩ => ?_
  subst e ed
  refine ⟨_, (pss_one (ps_ret (pe_callB (allK (K := K) rfl rfl) (by rfl) T.b_all (by decide +kernel) (pa_cons (pe_lc (own := [("row", 2)]) rfl sc_holds.nd (pi_listK (K := K) rfl (pv 1)) (blkOk_by (own := [("row", 2)]) (N := N_holds) (sc := defScope s_holds) (by decide +kernel)) (fun _ _ _ _ _ => (pg_name (i := 2) sc_holds.nd rfl (Or.inl rfl))) (fun _ _ _ _ _ => pts_nil) (fun _ _ _ _ _ => (pe_callD d_has (hr.mono (by decide)) rfl (pa_cons (pv 0) (pa_cons (pv 2) pa_nil))))) pa_nil)))), ?_⟩
  have la := ha.h.len
  have lb := hb.h.len
  refine sd_ret (Ev.eq (ev_all (bs := b.map fun x => Nf02.has a x) (en_lcM (s := .lst .int) (u := .bl) (xs := b) (f := fun x => Nf02.has a x) (ev_var rfl) (by decide) no_ow (small_line (by omega)) fun i x hx => ?_).ev) ?_) rfl
  · have hx' := List.mem_of_getElem? hx
    refine ev_call (ea_cons (ev_var rfl) (ea_cons (ev_var rfl) ea_nil)) ⟨a, x, n, 40, 40, rfl, own_of ha.h, hb.h.wd x hx', by omega, fun r hr => bits_lt.mpr (ha.lt r hr), bits_lt.mpr (hb.lt x hx'), ?_, rfl⟩
    have : (a.length + 1) * (40 + 2) ≤ 5 * 42 := Nat.mul_le_mul_right _ (by omega)
    omega
  · rw [List.all_map]; rfl
def F_norm : List Dy → Dy → Prop := fun ds d => ∃ (n m b : Nat) (a : List (List Int)), ds = [dM a] ∧ n ≤ m ∧ m ≤ 100 ∧ Ir.Tri n m a ∧ (∀ x ∈ a, Bits b x) ∧ n * b + b ≤ 90000000 ∧ d = dI (Nf02.norm a : Int)
theorem ok_norm {f : Addr} {fd : FuncData} {j : Nat} (Fn : Fun K "norm" "norm" s_norm f fd) (T : Bt mg) : FnOk P w K mg base CX0 (j + 1) f fd ["rows"] (spD F_norm) := by
  refine fn_pure Fn sc_norm (fun ds d ⟨n, m, b, a, e, _⟩ => by rw [e]; rfl) fun cdv A outer s H E hr ds d ⟨n, m, b, a, e, hnm, hm, ht, hb, hb9, ed⟩ => ?_
  subst e ed
  refine ⟨_, (pss_cons (ps_set (i := 1) sc_norm.nd rfl (Or.inl rfl) pe_int)
    (pss_cons (ps_for PassesOwn.never rfl (pi_enumK (K := K) rfl (by rfl) T.b_enumerate (pa_cons (pv 0) pa_nil)) (pg_tupK (K := K) (n := 2) rfl rfl (pgs_cons (pg_name (i := 2) sc_norm.nd rfl (Or.inl rfl)) (pgs_cons (pg_name (i := 3) sc_norm.nd rfl (Or.inl rfl)) pgs_nil))) (pss_one (ps_set (i := 1) sc_norm.nd rfl (Or.inl rfl) (pe_op op_mulB (pv 1) (pe_ix (ixL (K := K) rfl) (pv 3) (pv 2) (fun _ _ => rfl))))))
    (pss_one (ps_ret (pv 1))))), ?_⟩
  have la := ht.len
  refine sd_then (sd_asg (d := dI 1) ev_int no_ow ⟨rfl, rfl⟩) ?_
  refine sd_seq (sd_for (src_enum (t := .lst .int) (xs := a) (ea_cons (ev_var rfl) ea_nil)) (fun i τ o => ∃ (t2 t3 : Option Dy), i ≤ a.length ∧ Nf02.norm (a.take i) < 2 ^ (i * b + 1) ∧
      τ = [some (dM a), some (dI (Nf02.norm (a.take i) : Int)), t2, t3] ∧ o = none) ?_ ?_ ?_ fun _ _ h => h) ?_
  · exact ⟨_, _, Nat.zero_le _, by rw [Nat.zero_mul]; show 1 < 2 ^ 1; decide, rfl, rfl⟩
  · rintro i τ o ⟨_, _, _, _, _, rfl⟩; exact no_ow
  · rintro i τ o hi ⟨t2, t3, _, hlt, rfl, rfl⟩
    have hxi : a[i]? = some a[i] := List.getElem?_eq_getElem hi
    simp only [hxi]
    have lx := ht.wd a[i] (List.getElem_mem hi)
    have hp := ht.pos i a[i] hxi
    have bx := bits_lt.mp (hb a[i] (List.getElem_mem hi)) i
    have et : Nf02.norm (a.take (i + 1)) = Nf02.norm (a.take i) * (a[i].getD i 0).natAbs := by
      have e1 : a.take (i + 1) = a.take i ++ [a[i]] := by rw [List.take_add_one, hxi]; rfl
      rw [e1, Ir.norm_snoc, List.length_take, Nat.min_eq_left (by omega)]
    have hib : i * b ≤ n * b := Nat.mul_le_mul_right _ (by omega)
    have ea : ((a[i].getD i 0).natAbs : Int) = a[i].getD i 0 := by omega
    refine sd_asg (d := dI (Nf02.norm (a.take (i + 1)) : Int)) ((ev_I (g := fun i j => i * j) (C := MulB) (ev_var rfl) (ev_ix (ty := .int) (xs := a[i]) (ev_var rfl) (ev_var rfl) (at_getD (by omega))) (mulB_of (a := i * b + 1) (b := b) (by rw [Int.natAbs_natCast]; exact hlt) bx (by omega))).eq (congrArg dI (by rw [et, Int.natCast_mul, ea]))) no_ow ⟨_, _, hi, ?_, rfl, rfl⟩
    · rw [et, show (i + 1) * b + 1 = (i * b + 1) + b by rw [Nat.add_mul]; omega, Nat.pow_add]
      exact Nat.mul_lt_mul'' hlt bx
  · rintro τ o ⟨t2, t3, _, hlt, rfl, rfl⟩
    refine sd_ret (ev_var rfl) ?_
    rw [List.take_length]
end
end Wk

/-! WkI: ideals.py, classes and all of a norm -/
namespace Wk
open PySem L2 PyProof.Rows PySem.Spec
abbrev s_spread : Stmt := topS 24
abbrev N_spread : List Str := ["found", "bound", "longer", "one", "place"]
theorem sc_spread : FnScope N_spread ["found", "bound"] (defScope s_spread) := ⟨rfl, rfl, rfl, by decide +kernel, rfl, by decide +kernel, by decide +kernel⟩
abbrev s_classes : Stmt := topS 25
abbrev N_classes : List Str := ["rows", "found", "place", "row"]
theorem sc_classes : FnScope N_classes ["rows"] (defScope s_classes) := ⟨rfl, rfl, rfl, by decide +kernel, rfl, by decide +kernel, by decide +kernel⟩
abbrev s_is_prime : Stmt := topS 26
abbrev N_is_prime : List Str := ["ring", "rows", "some", "at", "one", "other"]
theorem sc_is_prime : FnScope N_is_prime ["ring", "rows"] (defScope s_is_prime) := ⟨rfl, rfl, rfl, by decide +kernel, rfl, by decide +kernel, by decide +kernel⟩
theorem line_ge : 1000000 < sizeLine := by decide
section
variable {K : PySem.W.Frag} {mg : Str → Option Value} {base : Heap} {P : Program} {w : World}
def F_spread : List Dy → Dy → Prop := fun ds d => ∃ (f : List (List Int)) (m : Nat), ds = [dM f, dI (m : Int)] ∧ f.length * m ≤ 100000 ∧ m ≤ 100000 ∧ (∀ x ∈ f, x.length ≤ 1000) ∧ d = dM (Ir.spr f m)
theorem ok_spread {f : Addr} {fd : FuncData} {j : Nat} (Fn : Fun K "spread" "spread" s_spread f fd) (T : Bt mg) : FnOk P w K mg base CX0 (j + 1) f fd ["found", "bound"] (spD F_spread) := by
  refine fn_pure Fn sc_spread (fun ds d ⟨f, m, e, _⟩ => by rw [e]; rfl) fun cdv A outer s H E hr ds d ⟨f, m, e, hs, hm, hl, ed⟩ => ?_
  subst e ed
  refine ⟨_, (pss_cons (ps_set (i := 2) sc_spread.nd rfl (Or.inl rfl) (pe_lst pa_nil))
    (pss_cons (ps_for PassesOwn.never rfl (pi_listK (K := K) rfl (pv 0)) (pg_name (i := 3) sc_spread.nd rfl (Or.inr rfl)) (pss_one (ps_expr (pe_bm PySem.F.plainAttrs_list PySem.F.slot_list_extend PySem.F.type_list_extend mt_extend (pv 2) (pa_cons (pe_lc (own := [("place", 4)]) rfl sc_spread.nd (pi_range1 (by rfl) T.b_range (pa_cons (pv 1) pa_nil)) (blkOk_by (own := [("place", 4)]) (N := N_spread) (sc := defScope s_spread) (by decide +kernel)) (fun _ _ _ _ _ => (pg_name (i := 4) sc_spread.nd rfl (Or.inl rfl))) (fun _ _ _ _ _ => pts_nil) (fun _ _ _ _ _ => (pe_op op_cat (pv 3) (pe_lst (pa_cons (pv 4) pa_nil))))) pa_nil)))))
    (pss_one (ps_ret (pv 2))))), ?_⟩
  refine sd_then (sd_asgN (ty := .lst .int) (xs := []) (en_lst (ty := .lst .int) (xs := []) ea_nil (by decide)) (by simp [startT]) ⟨rfl, rfl⟩) ?_
  refine sd_seq (sd_for (src_list (ty := .lst .int) (xs := f) (ev_var rfl)) (fun i τ o => ∃ (t3 t4 : Option Dy), τ = [some (dM f), some (dI (m : Int)), none, t3, t4] ∧ o = some ⟨2, .lst .int, Ir.spr (f.take i) m⟩) ?_ ?_ ?_ fun _ _ h => h) ?_
  · exact ⟨_, _, rfl, rfl⟩
  · rintro i τ o ⟨_, _, rfl, rfl⟩
    exact off_of (by decide)
  · rintro i τ o hi ⟨t3, t4, rfl, rfl⟩
    have hxi : f[i]? = some f[i] := List.getElem?_eq_getElem hi
    simp only [hxi]
    have lx := hl f[i] (List.getElem_mem hi)
    have hlen : ∀ g : List (List Int), (Ir.spr g m).length = g.length * m := fun g => Ir.len_flat fun x _ => by simp
    refine sd_extend (ty := .lst .int) (ys := (List.range m).map fun (p : Nat) => f[i] ++ [(p : Int)]) (en_lcR (u := .lst .int) (n := m) (g := fun p => (p : Int)) (f := fun (p : Nat) => f[i] ++ [(p : Int)]) (src_range1 (n := m) (ea_cons (ev_var rfl) ea_nil) (by omega) (by omega) (by omega)) (by decide) (off_of (by decide)) (Nat.lt_of_le_of_lt (by omega) line_ge) fun p hp => ?_).ev ?_ ⟨_, _, rfl, ?_⟩
    · exact ev_cat (ty := .int) (ev_var rfl) (en_lst (ty := .int) (xs := [(p : Int)]) (ea_cons (ev_var rfl) ea_nil) (by simp)).ev (Nat.le_trans (show _ ≤ 1001 by simp; omega) (by decide))
    · rw [hlen, List.length_map, List.length_range, List.length_take]
      have : (min i f.length + 1) * m ≤ f.length * m := Nat.mul_le_mul_right _ (by omega)
      rw [Nat.add_mul, Nat.one_mul] at this
      exact Nat.le_of_lt (Nat.lt_of_le_of_lt (by omega) line_ge)
    · congr 2
      unfold Ir.spr
      rw [List.take_add_one, hxi, List.flatMap_append]
      simp
  · rintro τ o ⟨t3, t4, rfl, rfl⟩
    refine sd_share (by simp) (sd_ret (ev_var rfl) ?_)
    rw [List.take_length]
def F_classes : List Dy → Dy → Prop := fun ds d => ∃ (n m : Nat) (a : List (List Int)), ds = [dM a] ∧ Ir.Tri n m a ∧ n ≤ m ∧ m ≤ 100 ∧ Nf02.norm a ≤ 100000 ∧ d = dM (Ir.cl (Ir.owns a))
theorem owns_le {n m : Nat} {a : List (List Int)} (t : Ir.Tri n m a) {i : Nat} (hi : i < n) : Nf02.norm (a.take (i + 1)) = Nf02.norm (a.take i) * ((a.getD i []).getD i 0).toNat ∧ 0 < ((a.getD i []).getD i 0) := by
  have hl := t.len
  have hxi : a[i]? = some a[i] := List.getElem?_eq_getElem (by omega)
  have e1 : a.take (i + 1) = a.take i ++ [a[i]] := by rw [List.take_add_one, hxi]; rfl
  have hp := t.pos i _ hxi
  have e2 : a.getD i [] = a[i] := by rw [List.getD_eq_getElem?_getD, hxi]; rfl
  rw [e1, Ir.norm_snoc, List.length_take, Nat.min_eq_left (by omega), e2]
  exact ⟨by congr 1; omega, hp⟩
theorem cl_snoc {a : List (List Int)} {x : List Int} : Ir.cl (Ir.owns (a ++ [x])) = Ir.spr (Ir.cl (Ir.owns a)) (x.getD a.length 0).toNat := by
  rw [← Ir.spr_cl, ← Ir.spr_cl, Ir.owns_snoc, List.foldl_append]; rfl
theorem ok_classes {f : Addr} {fd : FuncData} (Fn : Fun K "classes" "classes" s_classes f fd) (T : Bt mg) (d_spread : DefOk P w K mg base 40 "spread" ["found", "bound"] (spD F_spread)) : FnOk P w K mg base CX0 41 f fd ["rows"] (spD F_classes) := by
  refine fn_pure Fn sc_classes (fun ds d ⟨n, m, a, e, _⟩ => by rw [e]; rfl) fun cdv A outer s H E hr ds d ⟨n, m, a, e, ht, hnm, hm, hno, ed⟩ => ?_
  subst e ed
  refine ⟨_, (pss_cons (ps_set (i := 1) sc_classes.nd rfl (Or.inl rfl) (pe_lst (pa_cons (pe_lst pa_nil) pa_nil)))
    (pss_cons (ps_for PassesOwn.never rfl (pi_enumK (K := K) rfl (by rfl) T.b_enumerate (pa_cons (pv 0) pa_nil)) (pg_tupK (K := K) (n := 2) rfl rfl (pgs_cons (pg_name (i := 2) sc_classes.nd rfl (Or.inl rfl)) (pgs_cons (pg_name (i := 3) sc_classes.nd rfl (Or.inl rfl)) pgs_nil))) (pss_one (ps_set (i := 1) sc_classes.nd rfl (Or.inl rfl) (pe_callD d_spread (hr.mono (by decide)) rfl (pa_cons (pv 1) (pa_cons (pe_ix (ixL (K := K) rfl) (pv 3) (pv 2) (fun _ _ => rfl)) pa_nil))))))
    (pss_one (ps_ret (pv 1))))), ?_⟩
  have la := ht.len
  refine sd_then (sd_asg (d := dM [[]]) (en_lst (ty := .lst .int) (xs := [[]]) (ea_cons (en_lst (ty := .int) (xs := []) ea_nil (by decide)).ev ea_nil) (by decide)).ev no_ow ⟨rfl, rfl⟩) ?_
  refine sd_seq (sd_for (src_enum (t := .lst .int) (xs := a) (ea_cons (ev_var rfl) ea_nil)) (fun i τ o => ∃ (t2 t3 : Option Dy), τ = [some (dM a), some (dM (Ir.cl (Ir.owns (a.take i)))), t2, t3] ∧ o = none) ?_ ?_ ?_ fun _ _ h => h) ?_
  · exact ⟨_, _, rfl, rfl⟩
  · rintro i τ o ⟨_, _, _, rfl⟩; exact no_ow
  · rintro i τ o hi ⟨t2, t3, rfl, rfl⟩
    have hxi : a[i]? = some a[i] := List.getElem?_eq_getElem hi
    simp only [hxi]
    have lx := ht.wd a[i] (List.getElem_mem hi)
    obtain ⟨o1, o2⟩ := owns_le ht (i := i) (by omega)
    have e2 : a.getD i [] = a[i] := by rw [List.getD_eq_getElem?_getD, hxi]; rfl
    rw [e2] at o1 o2
    have hle := Ir.norm_take_le ht (i + 1) (by omega)
    have hn1 : (Ir.cl (Ir.owns (a.take i))).length = Nf02.norm (a.take i) := Ir.cl_len_norm (Ir.tri_take ht (by omega))
    have hpos := (Ir.norm_kills (by omega) (Ir.tri_take ht (i := i) (by omega))).1
    have e3 : a.take (i + 1) = a.take i ++ [a[i]] := by rw [List.take_add_one, hxi]; rfl
    have hm1 : (a[i].getD i 0).toNat ≤ Nf02.norm (a.take (i + 1)) := by rw [o1]; exact Nat.le_mul_of_pos_left _ hpos
    have f1 : (Ir.cl (Ir.owns (a.take i))).length * (a[i].getD i 0).toNat ≤ 100000 := by rw [hn1, ← o1]; omega
    have f2 : (a[i].getD i 0).toNat ≤ 100000 := by omega
    have f3 : ∀ x ∈ Ir.cl (Ir.owns (a.take i)), x.length ≤ 1000 := fun x hx => by
      rw [(Ir.cl_mem.mp hx).1, Ir.owns_len, List.length_take]; omega
    have f4 : Ir.spr (Ir.cl (Ir.owns (a.take i))) (a[i].getD i 0).toNat = Ir.cl (Ir.owns (a.take (i + 1))) := by
      rw [e3, cl_snoc, List.length_take, Nat.min_eq_left (by omega)]
    exact sd_asg (d := dM (Ir.cl (Ir.owns (a.take (i + 1))))) ((ev_call (ea_cons (ev_var rfl) (ea_cons ((ev_ix (ty := .int) (xs := a[i]) (ev_var rfl) (ev_var rfl) (at_getD (by omega))).eq (congrArg dI (show a[i].getD i 0 = ((a[i].getD i 0).toNat : Int) by omega))) ea_nil)) ⟨_, (a[i].getD i 0).toNat, rfl, f1, f2, f3, rfl⟩).eq (congrArg dM f4)) no_ow ⟨_, _, rfl, rfl⟩
  · rintro τ o ⟨t2, t3, rfl, rfl⟩
    refine sd_ret (ev_var rfl) ?_
    rw [List.take_length]
def F_is_prime : List Dy → Dy → Prop := fun ds d => ∃ (k : List Int) (a : List (List Int)), ds = [dV k, dM a] ∧ RingOk k ∧ Ir.Kp k.length a ∧ Nf02.norm a ≤ 100000 ∧ d = dB (Nf02.prime k a)
theorem ok_is_prime {f : Addr} {fd : FuncData} (Fn : Fun K "is_prime" "is_prime" s_is_prime f fd) (T : Bt mg) (d_classes : DefOk P w K mg base 41 "classes" ["rows"] (spD F_classes)) (d_multiplied : DefOk P w K mg base 41 "multiplied" ["ring", "one", "other"] (spD F_multiplied)) (d_has : DefOk P w K mg base 42 "has" ["rows", "vector"] (spD F_has)) :
    FnOk P w K mg base CX0 43 f fd ["ring", "rows"] (spD F_is_prime) := by
  refine fn_pure Fn sc_is_prime (fun ds d ⟨k, a, e, _⟩ => by rw [e]; rfl) fun cdv A outer s H E hr ds d ⟨k, a, e, hk, ha, hno, ed⟩ => ?_
  subst e ed
  refine ⟨_, (pss_cons (ps_set (i := 2) sc_is_prime.nd rfl (Or.inl rfl) (pe_slice (slL (K := K) rfl) (pe_callD d_classes (hr.mono (by decide)) rfl (pa_cons (pv 1) pa_nil)) (po_some pe_int) po_none))
    (pss_cons (ps_for PassesOwn.never rfl (pi_enumK (K := K) rfl (by rfl) T.b_enumerate (pa_cons (pv 2) pa_nil)) (pg_tupK (K := K) (n := 2) rfl rfl (pgs_cons (pg_name (i := 3) sc_is_prime.nd rfl (Or.inl rfl)) (pgs_cons (pg_name (i := 4) sc_is_prime.nd rfl (Or.inr rfl)) pgs_nil))) (pss_one (ps_if (pt_val (pe_callB (anyK (K := K) rfl rfl) (by rfl) T.b_any (by decide +kernel) (pa_cons (pe_lc (own := [("other", 5)]) rfl sc_is_prime.nd (pi_listK (K := K) rfl (pe_slice (slL (K := K) rfl) (pv 2) (po_some (pv 3)) po_none)) (blkOk_by (own := [("other", 5)]) (N := N_is_prime) (sc := defScope s_is_prime) (by decide +kernel)) (fun _ _ _ _ _ => (pg_name (i := 5) sc_is_prime.nd rfl (Or.inl rfl))) (fun _ _ _ _ _ => pts_nil) (fun _ _ _ _ _ => (pe_callD d_has (hr.mono (by decide)) rfl (pa_cons (pv 1) (pa_cons (pe_callD d_multiplied (hr.mono (by decide)) rfl (pa_cons (pv 0) (pa_cons (pv 4) (pa_cons (pv 5) pa_nil)))) pa_nil))))) pa_nil))) (pss_one (ps_ret pe_bl)) pss_nil)))
    (pss_one (ps_ret (pe_cmpR (neDK (K := K) rfl hr.units) (pv 2) (pe_lst pa_nil) (nomark _)))))), ?_⟩
  have h4 := hk.2.1
  have la := ha.h.len
  generalize hsm : (Ir.cl (Ir.owns a)).drop 1 = sm
  have hP := Ir.prime_is hk ha.h
  rw [hsm] at hP
  have hlen : sm.length ≤ 100000 := by
    rw [← hsm, List.length_drop, Ir.cl_len_norm ha.h.toTri]; omega
  have hmem : ∀ x ∈ sm, x.length = k.length ∧ Bits 40 x := fun x hx => by
    rw [← hsm] at hx
    obtain ⟨h1, h2⟩ := Ir.cl_mem.mp (List.mem_of_mem_drop hx)
    rw [Ir.owns_len, la] at h1
    refine ⟨h1, bits_lt.mpr fun j => ?_⟩
    by_cases hj : j < k.length
    · have hxj : a[j]? = some (a[j]'(by omega)) := List.getElem?_eq_getElem _
      have := h2 j _ (Ir.owns_get hxj)
      have hb := ha.lt _ (List.getElem_mem (show j < a.length by omega)) j
      omega
    · rw [Ir.gd_out (by omega)]; exact Nat.pow_pos (by decide)
  refine sd_then (sd_asg (d := dM sm) ((ev_cut (ty := .lst .int) (xs := Ir.cl (Ir.owns a)) (ev_call (ea_cons (ev_var rfl) ea_nil) ⟨k.length, k.length, a, rfl, ha.h.toTri, Nat.le_refl _, by omega, hno, rfl⟩) (eo_some (i := ((1 : Nat) : Int)) ev_int) eo_none).eq (congrArg dM ((cut_from _ 1).trans hsm))) no_ow ⟨rfl, rfl⟩) ?_
  refine sd_seq (sd_for (src_enum (t := .lst .int) (xs := sm) (ea_cons (ev_var rfl) ea_nil)) (fun i τ o => ∃ (t3 t4 t5 : Option Dy), (∀ (q : Nat) (x : List Int), q < i → sm[q]? = some x → ∀ y ∈ sm.drop q, Nf02.has a (Ir.times k x y) = false) ∧ τ = [some (dV k), some (dM a), some (dM sm), t3, t4, t5] ∧ o = none) ?_ ?_ ?_ fun _ _ h => h) ?_
  · exact ⟨_, _, _, fun q x hq => by omega, rfl, rfl⟩
  · rintro i τ o ⟨_, _, _, _, _, rfl⟩; exact no_ow
  · rintro i τ o hi ⟨t3, t4, t5, hall, rfl, rfl⟩
    have hxi : sm[i]? = some sm[i] := List.getElem?_eq_getElem hi
    simp only [hxi]
    obtain ⟨lx, bx⟩ := hmem sm[i] (List.getElem_mem hi)
    refine sd_if (b := ((sm.drop i).map fun y => Nf02.has a (Ir.times k sm[i] y)).any id) (et_test (ev_any (en_lcM (s := .lst .int) (u := .bl) (xs := sm.drop i) (f := fun y => Nf02.has a (Ir.times k sm[i] y)) ((ev_cut (ty := .lst .int) (xs := sm) (ev_var rfl) (eo_some (ev_var rfl)) eo_none).eq (congrArg dM (cut_from sm i))) (by decide) no_ow (Nat.lt_of_le_of_lt (by rw [List.length_drop]; omega) line_ge) fun j y hy => ?_).ev)) (fun hb => ?_) (fun hb => ?_)
    · obtain ⟨ly, by'⟩ := hmem y (List.mem_of_mem_drop (List.mem_of_getElem? hy))
      refine ev_call (ea_cons (ev_var rfl) (ea_cons (ev_call (ea_cons (ev_var rfl) (ea_cons (ev_var rfl) (ea_cons (ev_var rfl) ea_nil))) ⟨k, sm[i], y, rfl, hk, lx, ly, bx.mono (by omega), by'.mono (by omega), rfl⟩) ea_nil)) ⟨a, Ir.times k sm[i] y, k.length, 40, 97, rfl, own_of ha.h, Ir.len_times hk.pos ly, by omega, fun r hr => bits_lt.mpr (ha.lt r hr), bits_lt.mpr ((Ir.lt_times hk lx ly (bits_lt.mp bx) (bits_lt.mp by')).mono (by omega)), ?_, rfl⟩
      have : (a.length + 1) * (40 + 2) ≤ 5 * 42 := Nat.mul_le_mul_right _ (by omega)
      omega
    · refine sd_ret ev_bl ?_
      rw [List.any_map, List.any_eq_true] at hb
      obtain ⟨y, hy, hh⟩ := hb
      have : ¬ Nf02.prime k a = true := fun hp => by
        have := (hP.mp hp).2 i sm[i] hxi y hy
        rw [show Nf02.has a (Ir.times k sm[i] y) = true from hh] at this
        cases this
      rw [Bool.eq_false_iff.mpr this]
    · refine sd_next ⟨_, _, _, fun q x hq hx y hy => ?_, rfl, rfl⟩
      by_cases e : q = i
      · subst e
        rw [hxi] at hx
        obtain rfl := Option.some.inj hx
        have h2 : ¬ ((sm.drop q).map fun y => Nf02.has a (Ir.times k sm[q] y)).any id = true := by rw [hb]; decide
        rw [List.any_map, List.any_eq_true] at h2
        exact Bool.eq_false_iff.mpr fun hh => h2 ⟨y, hy, hh⟩
      · exact hall q x (by omega) hx y hy
  · rintro τ o ⟨t3, t4, t5, hall, rfl, rfl⟩
    refine sd_ret ((ev_neD (t := .lst (.lst .int)) (x := sm) (y := []) (b := decide (sm = [])) (ev_var rfl) (en_lst (ty := .lst .int) (xs := []) ea_nil (by decide)).ev (by decide) ?_).eq (congrArg dB ?_)) rfl
    · by_cases h : sm = []
      · rw [decide_eq_true h]; exact (eqv_M _ _).mpr h
      · rw [decide_eq_false h]; exact Bool.eq_false_iff.mpr fun hh => h ((eqv_M _ _).mp hh)
    · by_cases h : sm = []
      · rw [decide_eq_true h]
        symm
        exact Bool.eq_false_iff.mpr fun hp => (hP.mp hp).1 h
      · rw [decide_eq_false h]
        symm
        exact hP.mpr ⟨h, fun i x hx y hy => hall i x (List.getElem?_eq_some_iff.mp hx).1 hx y hy⟩
end
end Wk

/-! WkJ: ideals.py, all of a norm -/
namespace Wk
open PySem L2 PyProof.Rows PySem.Spec
abbrev s_next_rows : Stmt := topS 27
abbrev N_next_rows : List Str := ["rows", "left", "many", "own", "found", "lead", "ahead"]
theorem sc_next_rows : FnScope N_next_rows ["rows", "left", "many"] (defScope s_next_rows) := ⟨rfl, rfl, rfl, by decide +kernel, rfl, by decide +kernel, by decide +kernel⟩
abbrev s_is_closed : Stmt := topS 28
abbrev N_is_closed : List Str := ["ring", "rows"]
theorem sc_is_closed : FnScope N_is_closed ["ring", "rows"] (defScope s_is_closed) := ⟨rfl, rfl, rfl, by decide +kernel, rfl, by decide +kernel, by decide +kernel⟩
abbrev s_longer_ones : Stmt := topS 29
abbrev N_longer_ones : List Str := ["ring", "some", "bound", "found", "rows", "row"]
theorem sc_longer_ones : FnScope N_longer_ones ["ring", "some", "bound"] (defScope s_longer_ones) := ⟨rfl, rfl, rfl, by decide +kernel, rfl, by decide +kernel, by decide +kernel⟩
abbrev s_by_own_places : Stmt := topS 30
abbrev N_by_own_places : List Str := ["rows", "place", "row"]
theorem sc_by_own_places : FnScope N_by_own_places ["rows"] (defScope s_by_own_places) := ⟨rfl, rfl, rfl, by decide +kernel, rfl, by decide +kernel, by decide +kernel⟩
abbrev s_all_of_norm : Stmt := topS 31
abbrev N_all_of_norm : List Str := ["ring", "bound", "found", "turn", "closed", "rows", "pair"]
theorem sc_all_of_norm : FnScope N_all_of_norm ["ring", "bound"] (defScope s_all_of_norm) := ⟨rfl, rfl, rfl, by decide +kernel, rfl, by decide +kernel, by decide +kernel⟩
theorem mem_prod_le : ∀ {l : List Nat} {x : Nat}, (∀ y ∈ l, 0 < y) → x ∈ l → x ≤ l.foldr (· * ·) 1
  | [], _, _, h => by cases h
  | y :: l, x, hp, h => by
    have hpos : 0 < l.foldr (· * ·) 1 := by
      have : ∀ l : List Nat, (∀ y ∈ l, 0 < y) → 0 < l.foldr (· * ·) 1 := by
        intro l
        induction l with
        | nil => intro _; decide
        | cons y l ih => intro h; exact Nat.mul_pos (h y (by simp)) (ih fun z hz => h z (by simp [hz]))
      exact this l fun z hz => hp z (by simp [hz])
    rw [List.foldr_cons]
    rcases List.mem_cons.mp h with rfl | h
    · exact Nat.le_mul_of_pos_right _ hpos
    · exact Nat.le_trans (mem_prod_le (fun z hz => hp z (by simp [hz])) h) (Nat.le_mul_of_pos_left _ (hp y (by simp)))
theorem pt_lt {n : Nat} {a : List (List Int)} (p : Ir.Pt n a) (h : a.length ≤ n) (hn : Nf02.norm a ≤ 100000) : ∀ x ∈ a, Ir.Lt 40 x := by
  obtain ⟨t, lo⟩ := p.tri h
  refine Ir.low_lt t lo fun i r hr => ?_
  have hp := t.pos i r hr
  have hm : (r.getD i 0).toNat ∈ Ir.owns a := List.mem_of_getElem? (Ir.owns_get hr)
  have h1 := mem_prod_le (Ir.pt_pos p h) hm
  rw [← Ir.pt_norm p h] at h1
  have : (2 : Nat) ^ 40 = 1099511627776 := by decide
  omega
theorem own_pt {n : Nat} {a : List (List Int)} (t : Ir.Tri a.length n a) (h : a.length ≤ n) : Ir.Own n a.length a := Ir.Tri.own t h
section
variable {K : PySem.W.Frag} {mg : Str → Option Value} {base : Heap} {P : Program} {w : World}
def F_next_rows : List Dy → Dy → Prop := fun ds d => ∃ (n left : Nat) (a : List (List Int)), ds = [dM a, dI (left : Int), dI (n : Int)] ∧ Ir.Tri a.length n a ∧ a.length < n ∧ n ≤ 4 ∧ left ≤ 100 ∧ Nf02.norm a ≤ 100 ∧ d = dM (Ir.nxr n a left)
def nxq (n left : Nat) (a : List (List Int)) (i : Nat) : List (List Int) := if left % (i + 1) = 0 ∧ (a.length < n - 1 ∨ i + 1 = left) then (Ir.cl (Ir.owns a)).map fun v => Ir.rowOf n a.length v (i + 1) else []
theorem nxq_len {n left : Nat} {a : List (List Int)} (t : Ir.Tri a.length n a) (i : Nat) : (nxq n left a i).length ≤ Nf02.norm a := by
  unfold nxq
  split
  · rw [List.length_map, Ir.cl_len_norm t]; exact Nat.le_refl _
  · exact Nat.zero_le _
theorem ok_next_rows {f : Addr} {fd : FuncData} (Fn : Fun K "next_rows" "next_rows" s_next_rows f fd) (T : Bt mg) (d_classes : DefOk P w K mg base 41 "classes" ["rows"] (spD F_classes)) : FnOk P w K mg base CX0 42 f fd ["rows", "left", "many"] (spD F_next_rows) := by
  refine fn_pure Fn sc_next_rows (fun ds d ⟨n, left, a, e, _⟩ => by rw [e]; rfl) fun cdv A outer s H E hr ds d ⟨n, left, a, e, ht, hln, h4, hle, hno, ed⟩ => ?_
  subst e ed
  refine ⟨_, (pss_cons (ps_set (i := 3) sc_next_rows.nd rfl (Or.inr rfl) (pe_callB (lenK (K := K) rfl) (by rfl) T.b_len (by decide +kernel) (pa_cons (pv 0) pa_nil)))
    (pss_cons (ps_set (i := 4) sc_next_rows.nd rfl (Or.inl rfl) (pe_lst pa_nil))
    (pss_cons (ps_for PassesOwn.never rfl (pi_range2 (by rfl) T.b_range (pa_cons pe_int (pa_cons (pe_op op_add (pv 1) pe_int) pa_nil))) (pg_name (i := 5) sc_next_rows.nd rfl (Or.inr rfl)) (pss_one (ps_if (PW.pt (pw_and (pt_cmpR op_eq (pe_op op_modN (pv 1) (pv 5)) pe_int (nomark _)) (pw_and1 (PW.pt (pw_or (pt_cmpR op_lt (pv 3) (pe_op op_sub (pv 2) pe_int) (nomark _)) (pw_or1 (pt_cmpR op_eq (pv 5) (pv 1) (nomark _)))))))) (pss_one (ps_expr (pe_bm PySem.F.plainAttrs_list PySem.F.slot_list_extend PySem.F.type_list_extend mt_extend (pv 4) (pa_cons (pe_lc (own := [("ahead", 6)]) rfl sc_next_rows.nd (pi_listK (K := K) rfl (pe_callD d_classes (hr.mono (by decide)) rfl (pa_cons (pv 0) pa_nil))) (blkOk_by (own := [("ahead", 6)]) (N := N_next_rows) (sc := defScope s_next_rows) (by decide +kernel)) (fun _ _ _ _ _ => (pg_name (i := 6) sc_next_rows.nd rfl (Or.inl rfl))) (fun _ _ _ _ _ => pts_nil) (fun _ _ _ _ _ => (pe_op op_cat (pe_op op_cat (pv 6) (pe_lst (pa_cons (pv 5) pa_nil))) (pe_op op_rep (pe_lst (pa_cons pe_int pa_nil)) (pe_op op_sub (pe_op op_sub (pv 2) pe_int) (pv 3)))))) pa_nil)))) pss_nil)))
    (pss_one (ps_ret (pv 4)))))), ?_⟩
  refine sd_then (sd_asg (d := dI (a.length : Int)) (ev_len (ty := .lst .int) (xs := a) (ev_var rfl)) no_ow ⟨rfl, rfl⟩) ?_
  refine sd_then (sd_asgN (ty := .lst .int) (xs := []) (en_lst (ty := .lst .int) (xs := []) ea_nil (by decide)) (by simp [startT]) ⟨rfl, rfl⟩) ?_
  refine sd_seq (sd_for (src_range2 (n := left) (l := 1) (m := (left : Int) + 1) (ea_cons ev_int (ea_cons (ev_I0 (g := fun i j => i + j) (ev_var rfl) ev_int) ea_nil)) ⟨by omega, by omega, by omega, by omega⟩ (by omega)) (fun i τ o => ∃ (t5 t6 : Option Dy), τ = [some (dM a), some (dI (left : Int)), some (dI (n : Int)), some (dI (a.length : Int)), none, t5, t6] ∧ o = some ⟨4, .lst .int, (List.range i).flatMap (nxq n left a)⟩) ?_ ?_ ?_ fun _ _ h => h) ?_
  · exact ⟨_, _, rfl, rfl⟩
  · rintro i τ o ⟨_, _, rfl, rfl⟩
    exact off_of (by decide)
  · rintro i τ o hi ⟨t5, t6, rfl, rfl⟩
    have e1 : (List.range (i + 1)).flatMap (nxq n left a) = (List.range i).flatMap (nxq n left a) ++ nxq n left a i := by
      rw [List.range_succ, List.flatMap_append]; simp
    have hz : ((List.range i).flatMap (nxq n left a)).length ≤ i * 100 := by
      refine Nat.le_trans (Ir.len_flat_le (c := 100) fun x _ => Nat.le_trans (nxq_len ht x) hno) ?_
      rw [List.length_range]; exact Nat.le_refl _
    have hm : ((left : Int).fmod (1 + (i : Int)) = 0) ↔ left % (i + 1) = 0 := by
      rw [Int.fmod_eq_emod_of_nonneg _ (by omega), show (1 + (i : Int)) = ((i + 1 : Nat) : Int) by omega]
      omega
    refine sd_if (b := decide ((left : Int).fmod (1 + (i : Int)) = 0) && (decide ((a.length : Int) < (n : Int) - 1) || decide (1 + (i : Int) = (left : Int)))) (et_and (et_test (ev_eqI (ev_I (g := fun i j => i.fmod j) (C := fun _ j => j ≠ 0) (ev_var rfl) (ev_var rfl) (show 1 + (i : Int) ≠ 0 by omega)) ev_int)) fun _ => et_or (et_test (ev_B0 (g := fun i j => decide (i < j)) (ev_var rfl) (ev_I0 (g := fun i j => i - j) (ev_var rfl) ev_int))) fun _ => et_test (ev_eqI (ev_var rfl) (ev_var rfl))) (fun hb => ?_) (fun hb => ?_)
    · rw [Bool.and_eq_true, Bool.or_eq_true, decide_eq_true_eq, decide_eq_true_eq, decide_eq_true_eq, hm] at hb
      have hq : nxq n left a i = (Ir.cl (Ir.owns a)).map fun v => Ir.rowOf n a.length v (i + 1) := by
        unfold nxq
        rw [if_pos ⟨hb.1, by rcases hb.2 with h | h; exact .inl (by omega); exact .inr (by omega)⟩]
      have hcl : (Ir.cl (Ir.owns a)).length ≤ 100 := by rw [Ir.cl_len_norm ht]; exact hno
      refine sd_extend (ty := .lst .int) (ys := nxq n left a i) (Ev.eq (en_lcM (s := .lst .int) (u := .lst .int) (xs := Ir.cl (Ir.owns a)) (f := fun v => Ir.rowOf n a.length v (i + 1)) (ev_call (ea_cons (ev_var rfl) ea_nil) ⟨a.length, n, a, rfl, ht, by omega, by omega, by omega, rfl⟩) (by decide) (off_of (by decide)) (small_line (by omega)) fun q v hv => ?_).ev (by rw [hq])) ?_ ⟨_, _, rfl, by rw [e1]⟩
      · have lv : v.length = a.length := by rw [(Ir.cl_mem.mp (List.mem_of_getElem? hv)).1, Ir.owns_len]
        refine Ev.eq (ev_cat (ty := .int) (ev_cat (ty := .int) (ev_var rfl) (en_lst (ty := .int) (xs := [(1 + (i : Int))]) (ea_cons (ev_var rfl) ea_nil) (by simp)).ev (Nat.le_trans (show _ ≤ 1001 by simp; omega) (by decide)))
          (ev_rep (x := 0) (k := (n : Int) - 1 - (a.length : Int)) (en_lst (xs := [(0 : Int)]) (ea_cons ev_int ea_nil) (by decide)).ev (ev_I0 (g := fun i j => i - j) (ev_I0 (g := fun i j => i - j) (ev_var rfl) ev_int) (ev_var rfl)) (by omega) (by omega)) (Nat.le_trans (show _ ≤ 1001 by simp; omega) (by decide))) (congrArg dV ?_)
        unfold Ir.rowOf
        rw [show (1 + (i : Int)) = ((i + 1 : Nat) : Int) by omega, show ((n : Int) - 1 - (a.length : Int)).toNat = n - 1 - a.length by omega]
        simp
      · have := nxq_len (left := left) ht i
        exact Nat.le_trans (show _ ≤ 100 * 100 + 100 by omega) (by decide)
    · have hq : nxq n left a i = [] := by
        unfold nxq
        rw [if_neg]
        rintro ⟨h1, h2⟩
        have : (decide ((left : Int).fmod (1 + (i : Int)) = 0) && (decide ((a.length : Int) < (n : Int) - 1) || decide (1 + (i : Int) = (left : Int)))) = true := by
          rw [Bool.and_eq_true, Bool.or_eq_true, decide_eq_true_eq, decide_eq_true_eq, decide_eq_true_eq, hm]
          exact ⟨h1, by rcases h2 with h | h; exact .inl (by omega); exact .inr (by omega)⟩
        rw [this] at hb; cases hb
      refine sd_next ⟨_, _, rfl, ?_⟩
      rw [e1, hq, List.append_nil]
  · rintro τ o ⟨t5, t6, rfl, rfl⟩
    exact sd_share (by simp) (sd_ret (ev_var rfl) rfl)
def F_is_closed : List Dy → Dy → Prop := fun ds d => ∃ (k : List Int) (a : List (List Int)), ds = [dV k, dM a] ∧ RingOk k ∧ Ir.Tri a.length k.length a ∧ a.length ≤ k.length ∧ (∀ x ∈ a, Ir.Lt 40 x) ∧ d = dB (Ir.clsd k a)
theorem has_root_ok {k : List Int} {a : List (List Int)} {x : List Int} (hk : RingOk k) (ht : Ir.Tri a.length k.length a) (hl : a.length ≤ k.length) (hb : ∀ x ∈ a, Ir.Lt 40 x) (hx : x ∈ a) : F_has [dM a, dV (Ir.up_ k x)] (dB (Nf02.has a (Ir.up_ k x))) := by
  have h4 := hk.2.1
  refine ⟨a, Ir.up_ k x, k.length, 40, 45, rfl, own_pt ht hl, Ir.len_up_ (ht.wd x hx) hk.pos, by omega, fun r hr => bits_lt.mpr (hb r hr), bits_lt.mpr ((Ir.lt_up hk (ht.wd x hx) (hb x hx)).mono (by omega)), ?_, rfl⟩
  have : (a.length + 1) * (40 + 2) ≤ 5 * 42 := Nat.mul_le_mul_right _ (by omega)
  omega
theorem ok_is_closed {f : Addr} {fd : FuncData} (Fn : Fun K "is_closed" "is_closed" s_is_closed f fd) (T : Bt mg) (d_by_root : DefOk P w K mg base 40 "by_root" ["ring", "number"] (spD F_by_root)) (d_has : DefOk P w K mg base 42 "has" ["rows", "vector"] (spD F_has)) : FnOk P w K mg base CX0 43 f fd ["ring", "rows"] (spD F_is_closed) := by
  refine fn_pure Fn sc_is_closed (fun ds d ⟨k, a, e, _⟩ => by rw [e]; rfl) fun cdv A outer s H E hr ds d ⟨k, a, e, hk, ht, hl, hb, ed⟩ => ?_
  subst e ed
  refine ⟨_, (pss_one (ps_ret (pe_or (pe_cmpR op_lt (pe_callB (lenK (K := K) rfl) (by rfl) T.b_len (by decide +kernel) (pa_cons (pv 1) pa_nil)) pe_int (nomark _)) (pe_one (pe_callD d_has (hr.mono (by decide)) rfl (pa_cons (pv 1) (pa_cons (pe_callD d_by_root (hr.mono (by decide)) rfl (pa_cons (pv 0) (pa_cons (pe_ix (ixL (K := K) rfl) (pv 1) (pe_un un_neg pe_int) (fun _ _ => rfl)) pa_nil))) pa_nil))))))), ?_⟩
  refine sd_ret (Ev.eq (ev_orV (a := decide ((a.length : Int) < 2)) (b := Nf02.has a (Ir.up_ k (a.getD (a.length - 2) []))) (ev_B0 (g := fun i j => decide (i < j)) (ev_len (ty := .lst .int) (ev_var rfl)) ev_int) fun h2 => ?_) (congrArg dB ?_)) rfl
  · have h2' : 2 ≤ a.length := by
      have := of_decide_eq_false h2
      omega
    have hxi : a[a.length - 2]? = some (a[a.length - 2]'(by omega)) := List.getElem?_eq_getElem _
    have e2 : a.getD (a.length - 2) [] = a[a.length - 2]'(by omega) := by rw [List.getD_eq_getElem?_getD, hxi]; rfl
    have hm : a[a.length - 2]'(by omega) ∈ a := List.getElem_mem _
    rw [e2]
    exact ev_call (ea_cons (ev_var rfl) (ea_cons (ev_call (ea_cons (ev_var rfl) (ea_cons (ev_ix (ty := .lst .int) (xs := a) (i := -((2 : Nat) : Int)) (ev_var rfl) (ev_neg ev_int) (at_back (by decide) h2' hxi)) ea_nil)) ⟨k, _, rfl, hk, ht.wd _ hm, bits_lt.mpr ((hb _ hm).mono (by omega)), rfl⟩) ea_nil)) (has_root_ok hk ht hl hb hm)
  · unfold Ir.clsd
    congr 1
    exact decide_eq_decide.mpr (by omega)
def F_longer_ones : List Dy → Dy → Prop := fun ds d => ∃ (k : List Int) (l : List (List (List Int))) (m i : Nat), ds = [dV k, dN l, dI (m : Int)] ∧ RingOk k ∧ 0 < m ∧ m ≤ 30 ∧ i < k.length ∧ (∀ a ∈ l, Ir.Lv k m i a) ∧ l.length ≤ 27000 ∧ d = dN (Ir.lng k l m)
def lnq (k : List Int) (m : Nat) (a : List (List Int)) : List (List (List Int)) := ((Ir.nxr k.length a (m / Nf02.norm a)).filter fun r => Ir.clsd k (a ++ [r])).map fun r => a ++ [r]
theorem ok_longer_ones {f : Addr} {fd : FuncData} (hN : base.NoSeer) (hP : P.given.tree = none) (Fn : Fun K "longer_ones" "longer_ones" s_longer_ones f fd) (T : Bt mg) (d_next_rows : DefOk P w K mg base 42 "next_rows" ["rows", "left", "many"] (spD F_next_rows)) (d_norm : DefOk P w K mg base 40 "norm" ["rows"] (spD F_norm))
    (d_is_closed : DefOk P w K mg base 43 "is_closed" ["ring", "rows"] (spD F_is_closed)) : FnOk P w K mg base CX0 44 f fd ["ring", "some", "bound"] (spD F_longer_ones) := by
  refine fn_pure Fn sc_longer_ones (fun ds d ⟨k, l, m, i, e, _⟩ => by rw [e]; rfl) fun cdv A outer s H E hr ds d ⟨k, l, m, i0, e, hk, hm0, hm, hi0, hl, hz, ed⟩ => ?_
  subst e ed
  refine ⟨_, (pss_cons (ps_set (i := 3) sc_longer_ones.nd rfl (Or.inl rfl) (pe_lst pa_nil))
    (pss_cons (ps_for PassesOwn.never rfl (pi_listK (K := K) rfl (pv 1)) (pg_name (i := 4) sc_longer_ones.nd rfl (Or.inl rfl)) (pss_one (ps_for PassesOwn.never rfl (pi_listK (K := K) rfl (pe_callD d_next_rows (hr.mono (by decide)) rfl (pa_cons (pv 4) (pa_cons (pe_op (op_fd hN hP (hr.mono (by decide)) rfl rfl rfl rfl rfl) (pv 2) (pe_callD d_norm (hr.mono (by decide)) rfl (pa_cons (pv 4) pa_nil))) (pa_cons (pe_callB (lenK (K := K) rfl) (by rfl) T.b_len (by decide +kernel) (pa_cons (pv 0) pa_nil)) pa_nil))))) (pg_name (i := 5) sc_longer_ones.nd rfl (Or.inl rfl)) (pss_one (ps_if (pt_val (pe_callD d_is_closed (hr.mono (by decide)) rfl (pa_cons (pv 0) (pa_cons (pe_op op_cat (pv 4) (pe_lst (pa_cons (pv 5) pa_nil))) pa_nil)))) (pss_one (ps_expr (pe_bm PySem.F.plainAttrs_list PySem.F.slot_list_append PySem.F.type_list_append mt_append (pv 3) (pa_cons (pe_op op_cat (pv 4) (pe_lst (pa_cons (pv 5) pa_nil))) pa_nil)))) pss_nil)))))
    (pss_one (ps_ret (pv 3))))), ?_⟩
  have h4 := hk.2.1
  have hq : ∀ a ∈ l, (lnq k m a).length ≤ 30 := fun a ha => by
    obtain ⟨h1, h2, _⟩ := hl a ha
    unfold lnq
    rw [List.length_map]
    exact Nat.le_trans (List.length_filter_le _ _) (Nat.le_trans (Ir.nxr_len (h2.tri (by omega)).1) hm)
  have hlen : ∀ i, ((l.take i).flatMap (lnq k m)).length ≤ 810000 := fun i => by
    refine Nat.le_trans (Ir.len_flat_le (c := 30) fun x hx => hq x (List.mem_of_mem_take hx)) ?_
    rw [List.length_take]; omega
  refine sd_then (sd_asgN (ty := .lst (.lst .int)) (xs := []) (en_lst (ty := .lst (.lst .int)) (xs := []) ea_nil (by decide)) (by simp [startT]) ⟨rfl, rfl⟩) ?_
  refine sd_seq (sd_for (src_list (ty := .lst (.lst .int)) (xs := l) (ev_var rfl)) (fun i τ o => ∃ (t4 t5 : Option Dy), τ = [some (dV k), some (dN l), some (dI (m : Int)), none, t4, t5] ∧ o = some ⟨3, .lst (.lst .int), (l.take i).flatMap (lnq k m)⟩) ?_ ?_ ?_ fun _ _ h => h) ?_
  · exact ⟨_, _, rfl, rfl⟩
  · rintro i τ o ⟨_, _, rfl, rfl⟩
    exact off_of (by decide)
  · rintro i τ o hi ⟨t4, t5, rfl, rfl⟩
    have hxi : l[i]? = some l[i] := List.getElem?_eq_getElem hi
    simp only [hxi]
    have hmem := List.getElem_mem hi
    obtain ⟨h1, h2, h3, _, _⟩ := hl l[i] hmem
    have ha4 := hq l[i] hmem
    have hl1 := hlen i
    generalize l[i] = a at *
    have ht := (h2.tri (by omega)).1
    have hnp := Ir.norm_pos h2 (by omega)
    have hnm := Nat.le_of_dvd hm0 h3
    have hlt := pt_lt h2 (by omega) (by omega)
    have hdv : (m : Int).fdiv (Nf02.norm a : Int) = ((m / Nf02.norm a : Nat) : Int) := by
      rw [Int.fdiv_eq_ediv_of_nonneg _ (by omega)]; omega
    have hle : m / Nf02.norm a ≤ 30 := Nat.le_trans (Nat.div_le_self _ _) hm
    have e1 : (l.take (i + 1)).flatMap (lnq k m) = (l.take i).flatMap (lnq k m) ++ lnq k m a := by
      rw [List.take_add_one, hxi, List.flatMap_append]; simp
    generalize hX : Ir.nxr k.length a (m / Nf02.norm a) = xs
    have hev : ∀ {τ : Tau} {o : Ow} {te ta tb tc : TE} {F0 : List Dy → Dy → Prop}, True := fun {_ _ _ _ _ _ _} => trivial
    refine sd_mono (sd_for (src_list (ty := .lst .int) (xs := xs) ((ev_call (ds := [dM a, dI ((m / Nf02.norm a : Nat) : Int), dI (k.length : Int)]) (ea_cons (ev_var rfl) (ea_cons ((ev_I (g := fun i j => i.fdiv j) (C := fun _ j => j ≠ 0) (ev_var rfl) (ev_call (ea_cons (ev_var rfl) ea_nil) ⟨a.length, k.length, 40, a, rfl, by omega, by omega, ht, fun x hx => bits_lt.mpr (hlt x hx), by omega, rfl⟩) (show (Nf02.norm a : Int) ≠ 0 by omega)).eq (congrArg dI hdv)) (ea_cons (ev_len (ty := .int) (xs := k) (ev_var rfl)) ea_nil)))
      ⟨k.length, m / Nf02.norm a, a, rfl, ht, by omega, h4, by omega, by omega, rfl⟩).eq (congrArg dM hX))) (fun j τ o => ∃ (t5 : Option Dy), τ = [some (dV k), some (dN l), some (dI (m : Int)), none, some (dM a), t5] ∧ o = some ⟨3, .lst (.lst .int), (l.take i).flatMap (lnq k m) ++ ((xs.take j).filter fun r => Ir.clsd k (a ++ [r])).map fun r => a ++ [r]⟩) ?_ ?_ ?_ fun _ _ h => h) (fun τ o h => ?_) (fun _ h => h)
    · exact ⟨_, rfl, by simp⟩
    · rintro j τ o ⟨_, rfl, rfl⟩
      exact off_of (by decide)
    · rintro j τ o hj ⟨t5, rfl, rfl⟩
      have hxj : xs[j]? = some xs[j] := List.getElem?_eq_getElem hj
      simp only [hxj]
      have hr' : xs[j] ∈ Ir.nxr k.length a (m / Nf02.norm a) := by rw [hX]; exact List.getElem_mem hj
      obtain ⟨v, d, d1, d2, d3, d4, d5, er⟩ := Ir.mem_nxr.mp hr'
      have hxl : xs.length ≤ 30 := by rw [← hX]; exact Nat.le_trans (Ir.nxr_len ht) hm
      generalize xs[j] = r at *
      have p2 : Ir.Pt k.length (a ++ [r]) := Ir.Pt.snoc.mpr ⟨h2, v, d, d1, d5, er⟩
      have vl : v.length = a.length := by rw [(Ir.cl_mem.mp d5).1, Ir.owns_len]
      have en : Nf02.norm (a ++ [r]) = Nf02.norm a * d := by
        rw [Ir.norm_snoc, er, Ir.rowOf_own vl]; rfl
      have hbig : Nf02.norm (a ++ [r]) ≤ 100000 := by
        rw [en]
        have := Nat.mul_le_mul hnm (Nat.le_trans d2 hle)
        omega
      have hl2 : (a ++ [r]).length ≤ k.length := by simp; omega
      have hcat : ∀ {o : Ow} {t5 : Option Dy}, Ev (tOp rCat (tVar 4) (tLst (tCons (tVar 5) tNil))) [some (dV k), some (dN l), some (dI (m : Int)), none, some (dM a), some (dV r)] o (dM (a ++ [r])) := fun {_ _} =>
        ev_cat (ty := .lst .int) (ev_var rfl) (en_lst (ty := .lst .int) (xs := [r]) (ea_cons (ev_var rfl) ea_nil) (by simp)).ev (Nat.le_trans (show _ ≤ 1000 by simp; omega) (by decide))
      have e2 : ((xs.take (j + 1)).filter fun r => Ir.clsd k (a ++ [r])) = ((xs.take j).filter fun r => Ir.clsd k (a ++ [r])) ++ if Ir.clsd k (a ++ [r]) = true then [r] else [] := by
        rw [List.take_add_one, hxj, List.filter_append]
        congr 1
        simp only [Option.toList, List.filter_cons, List.filter_nil]
      have hcnt : (((xs.take j).filter fun r => Ir.clsd k (a ++ [r])).map fun r => a ++ [r]).length ≤ 30 := by
        rw [List.length_map]
        refine Nat.le_trans (List.length_filter_le _ _) ?_
        rw [List.length_take]; omega
      refine sd_if (b := Ir.clsd k (a ++ [r])) (et_B (ev_call (ea_cons (ev_var rfl) (ea_cons (hcat (t5 := none)) ea_nil)) ⟨k, a ++ [r], rfl, hk, (p2.tri hl2).1, hl2, pt_lt p2 hl2 hbig, rfl⟩)) (fun hb => ?_) (fun hb => ?_)
      · refine sd_append (ty := .lst (.lst .int)) (hcat (t5 := none)) (Nat.lt_of_le_of_lt (show _ ≤ 810030 by rw [List.length_append]; omega) (Nat.lt_trans (by decide) line_ge)) ⟨_, rfl, ?_⟩
        rw [e2, if_pos hb, List.map_append, List.append_assoc]; rfl
      · refine sd_next ⟨_, rfl, ?_⟩
        rw [e2, if_neg (by rw [hb]; decide), List.append_nil]
    · obtain ⟨t5, rfl, rfl⟩ := h
      refine ⟨_, _, rfl, ?_⟩
      rw [e1, List.take_length]
      unfold lnq
      rw [hX]
  · rintro τ o ⟨t4, t5, rfl, rfl⟩
    refine sd_share (by simp) (sd_ret (ev_var rfl) ?_)
    rw [List.take_length]; rfl
def F_by_own_places : List Dy → Dy → Prop := fun ds d => ∃ (a : List (List Int)) (n : Nat), ds = [dM a] ∧ Ir.Tri a.length n a ∧ a.length ≤ n ∧ n ≤ 4 ∧ d = ⟨tyK, keyOf a⟩
theorem ok_by_own_places {f : Addr} {fd : FuncData} {j : Nat} (Fn : Fun K "by_own_places" "by_own_places" s_by_own_places f fd) (T : Bt mg) : FnOk P w K mg base CX0 (j + 1) f fd ["rows"] (spD F_by_own_places) := by
  refine fn_pure Fn sc_by_own_places (fun ds d ⟨a, n, e, _⟩ => by rw [e]; rfl) fun cdv A outer s H E hr ds d ⟨a, n, e, ht, hl, h4, ed⟩ => ?_
  subst e ed
  refine ⟨_, (pss_one (ps_ret (pe_tup (pa_cons (pe_lc (own := [("place", 1), ("row", 2)]) rfl sc_by_own_places.nd (pi_enumK (K := K) rfl (by rfl) T.b_enumerate (pa_cons (pv 0) pa_nil)) (blkOk_by (own := [("place", 1), ("row", 2)]) (N := N_by_own_places) (sc := defScope s_by_own_places) (by decide +kernel)) (fun _ _ _ _ _ => (pg_tupK (K := K) (n := 2) rfl rfl (pgs_cons (pg_name (i := 1) sc_by_own_places.nd rfl (Or.inl rfl)) (pgs_cons (pg_name (i := 2) sc_by_own_places.nd rfl (Or.inl rfl)) pgs_nil)))) (fun _ _ _ _ _ => pts_nil) (fun _ _ _ _ _ => (pe_ix (ixL (K := K) rfl) (pv 2) (pv 1) (fun _ _ => rfl)))) (pa_cons (pv 0) pa_nil))))), ?_⟩
  refine sd_ret (ev_pr (s := .lst .int) (t := .lst (.lst .int)) (x := Ir.ownI a) (y := a) (ea_cons (Ev.eq (en_lcE (t := .lst .int) (u := .int) (xs := a) (f := fun k x => x.getD k 0) (ea_cons (ev_var rfl) ea_nil) (by decide) (by decide) no_ow (small_line (by omega)) fun k x hx => ?_).ev (congrArg dV ?_)) (ea_cons (ev_var rfl) ea_nil))) rfl
  · have hk := (List.getElem?_eq_some_iff.mp hx).1
    have := ht.wd x (List.mem_of_getElem? hx)
    exact ev_ix (ty := .int) (xs := x) (ev_var rfl) (ev_var rfl) (at_getD (by omega))
  · unfold Ir.ownI Ir.owns
    rw [List.map_map]
    refine List.map_congr_left fun p hp => ?_
    obtain ⟨x, i⟩ := p
    have hx : a[i]? = some x := by
      have := List.mem_zipIdx_iff_getElem?.mp hp
      simpa using this
    have := ht.pos i x hx
    exact (Int.toNat_of_nonneg (Int.le_of_lt this)).symm
theorem paired_map_r {α β γ : Type} {R : α → γ → Prop} {f : β → γ} : ∀ {us : List α} {xs : List β}, Paired R us (xs.map f) → Paired (fun u x => R u (f x)) us xs
  | _, [], h => by
    have h' : Paired R _ [] := h
    cases h'; exact .nil
  | _, x :: xs, h => by
    have h' : Paired R _ (f x :: xs.map f) := h
    cases h' with
    | cons a b => exact .cons a (paired_map_r b)
theorem paired_map_l {α β γ : Type} {R : α → γ → Prop} {f : β → γ} : ∀ {us : List α} {xs : List β}, Paired (fun u x => R u (f x)) us xs → Paired R us (xs.map f)
  | _, _, .nil => .nil
  | _, _, .cons a b => .cons a (paired_map_l b)
theorem ev_sortedK {τ : Tau} {o : Ow} {ta : TE} {xs zs : List (List (List Int))} (h : Ev ta τ o (dL tyK (xs.map keyOf))) (hz : ∀ ys : List (List (List Int)), ys.Perm xs → (ys.Pairwise fun x y => ¬ Ir.klt y x) → ys = zs) : Ev (tCB (rSortedK K) (tCons ta tNil)) τ o (dL tyK (zs.map keyOf)) :=
  ev_cb (ea_cons h ea_nil) fun G H vs e r Q q => by
    cases r with
    | cons a c =>
      cases c
      obtain ⟨p, us, rfl, h1, h2⟩ := a
      refine ⟨p, us, xs, fun u x => Rp G tyK u (keyOf x), rfl, .of (e p _ h1), fun u x h => Rp.mono e _ _ _ h, paired_map_r h2, fun ys ws D hp hs hw hD => ?_⟩
      obtain rfl := hz ys hp hs
      obtain ⟨f, r⟩ := fr_list (ty := tyK) (xs := ys.map keyOf) e hD (paired_map_l hw)
      exact q _ _ _ f r
def F_all_of_norm : List Dy → Dy → Prop := fun ds d => ∃ (k : List Int) (m : Nat), ds = [dV k, dI (m : Int)] ∧ RingOk k ∧ 0 < m ∧ m ≤ 30 ∧ d = dN (Nf02.ofNorm k m)
theorem ok_all_of_norm {f : Addr} {fd : FuncData} (Fn : Fun K "all_of_norm" "all_of_norm" s_all_of_norm f fd) (T : Bt mg) (d_longer_ones : DefOk P w K mg base 44 "longer_ones" ["ring", "some", "bound"] (spD F_longer_ones)) (d_by_root : DefOk P w K mg base 40 "by_root" ["ring", "number"] (spD F_by_root))
    (d_has : DefOk P w K mg base 42 "has" ["rows", "vector"] (spD F_has)) (d_by_own_places : DefOk P w K mg base 40 "by_own_places" ["rows"] (spD F_by_own_places)) : FnOk P w K mg base CX0 45 f fd ["ring", "bound"] (spD F_all_of_norm) := by
  refine fn_pure Fn sc_all_of_norm (fun ds d ⟨k, m, e, _⟩ => by rw [e]; rfl) fun cdv A outer s H E hr ds d ⟨k, m, e, hk, hm0, hm, ed⟩ => ?_
  subst e ed
  refine ⟨_, (pss_cons (ps_set (i := 2) sc_all_of_norm.nd rfl (Or.inl rfl) (pe_lst (pa_cons (pe_lst pa_nil) pa_nil)))
    (pss_cons (ps_for PassesOwn.never rfl (pi_range1 (by rfl) T.b_range (pa_cons (pe_callB (lenK (K := K) rfl) (by rfl) T.b_len (by decide +kernel) (pa_cons (pv 0) pa_nil)) pa_nil)) (pg_name (i := 3) sc_all_of_norm.nd rfl (Or.inl rfl)) (pss_one (ps_set (i := 2) sc_all_of_norm.nd rfl (Or.inl rfl) (pe_callD d_longer_ones (hr.mono (by decide)) rfl (pa_cons (pv 0) (pa_cons (pv 2) (pa_cons (pv 1) pa_nil)))))))
    (pss_cons (ps_setLc (i := 4) (own := [("rows", 5)]) rfl sc_all_of_norm.nd rfl rfl (sw_true rfl rfl rfl (by decide +kernel)) (pi_listK (K := K) rfl (pv 2)) (blkOk_by (own := [("rows", 5)]) (N := N_all_of_norm) (sc := defScope s_all_of_norm) (by decide +kernel)) (fun _ _ _ _ _ => (pg_name (i := 5) sc_all_of_norm.nd rfl (Or.inl rfl))) (fun _ _ _ _ _ => (pts_one (pt_val (pe_callD d_has (hr.mono (by decide)) rfl (pa_cons (pv 5) (pa_cons (pe_callD d_by_root (hr.mono (by decide)) rfl (pa_cons (pv 0) (pa_cons (pe_ix (ixL (K := K) rfl) (pv 5) (pe_un un_neg pe_int) (fun _ _ => rfl)) pa_nil))) pa_nil)))))) (fun _ _ _ _ _ => (pv 5)))
    (pss_one (ps_ret (pe_lc (own := [("pair", 6)]) rfl sc_all_of_norm.nd (pi_listK (K := K) rfl (pe_callB (cr_sortedK (K := K) rfl hr.units) (by rfl) T.b_sorted (by decide +kernel) (pa_cons (pe_lc (own := [("rows", 5)]) rfl sc_all_of_norm.nd (pi_listK (K := K) rfl (pv 4)) (blkOk_by (own := [("rows", 5)]) (N := N_all_of_norm) (sc := defScope s_all_of_norm) (by decide +kernel)) (fun _ _ _ _ _ => (pg_name (i := 5) sc_all_of_norm.nd rfl (Or.inl rfl))) (fun _ _ _ _ _ => pts_nil) (fun _ _ _ _ _ => (pe_callD d_by_own_places (hr.mono (by decide)) rfl (pa_cons (pv 5) pa_nil)))) pa_nil))) (blkOk_by (own := [("pair", 6)]) (N := N_all_of_norm) (sc := defScope s_all_of_norm) (by decide +kernel)) (fun _ _ _ _ _ => (pg_name (i := 6) sc_all_of_norm.nd rfl (Or.inl rfl))) (fun _ _ _ _ _ => pts_nil) (fun _ _ _ _ _ => (pe_ix (ixT (K := K) rfl) (pv 6) pe_int (fun _ _ => rfl))))))))), ?_⟩
  have h4 := hk.2.1
  have h0 := hk.pos
  have hlv : ∀ i, i ≤ k.length → (Ir.lev k m i).length ≤ 30 ^ i := fun i hi => Nat.le_trans (Ir.lev_len hm0 h0 i hi) (Nat.pow_le_pow_left hm i)
  have hl3 : ∀ i, i < k.length → (Ir.lev k m i).length ≤ 27000 := fun i hi => Nat.le_trans (hlv i (by omega)) (Nat.le_trans (Nat.pow_le_pow_right (by omega) (show i ≤ 3 by omega)) (by decide))
  have hl4 : (Ir.lev k m k.length).length ≤ 810000 := Nat.le_trans (hlv _ (Nat.le_refl _)) (Nat.le_trans (Nat.pow_le_pow_right (by omega) h4) (by decide))
  have hlt4 : (Ir.lev k m k.length).length < sizeLine := Nat.lt_of_le_of_lt hl4 (Nat.lt_trans (by decide) line_ge)
  refine sd_then (sd_asg (d := dN [[]]) (en_lst (ty := .lst (.lst .int)) (xs := [[]]) (ea_cons (en_lst (ty := .lst .int) (xs := []) ea_nil (by decide)).ev ea_nil) (by decide)).ev no_ow ⟨rfl, rfl⟩) ?_
  refine sd_seq (sd_for (src_range1 (n := k.length) (ea_cons (ev_len (ty := .int) (ev_var rfl)) ea_nil) (by omega) (by omega) (by omega)) (fun i τ o => ∃ (t3 t4 t5 t6 : Option Dy), τ = [some (dV k), some (dI (m : Int)), some (dN (Ir.lev k m i)), t3, t4, t5, t6] ∧ o = none) ?_ ?_ ?_ fun _ _ h => h) ?_
  · exact ⟨_, _, _, _, rfl, rfl⟩
  · rintro i τ o ⟨_, _, _, _, _, rfl⟩; exact no_ow
  · rintro i τ o hi ⟨t3, t4, t5, t6, rfl, rfl⟩
    exact sd_asg (d := dN (Ir.lev k m (i + 1))) (ev_call (ea_cons (ev_var rfl) (ea_cons (ev_var rfl) (ea_cons (ev_var rfl) ea_nil))) ⟨k, Ir.lev k m i, m, i, rfl, hk, hm0, hm, hi, fun a ha => (Ir.mem_lev hm0 h0 i (by omega) a).mp ha, hl3 i hi, rfl⟩) no_ow ⟨_, _, _, _, rfl, rfl⟩
  · rintro τ o ⟨t3, t4, t5, t6, rfl, rfl⟩
    have hmem : ∀ a ∈ Ir.lev k m k.length, Ir.Lv k m k.length a := fun a ha => (Ir.mem_lev hm0 h0 _ (Nat.le_refl _) a).mp ha
    refine sd_then (sd_asg (d := dN (Ir.pfin k m)) (Ev.eq (en_lcL (s := .lst (.lst .int)) (u := .lst (.lst .int)) (xs := Ir.lev k m k.length) (p := fun a => Nf02.has a (Ir.up_ k (a.getD (a.length - 1) []))) (f := fun a => a) (ev_var rfl) (by decide) no_ow hlt4 (fun i a ha => ?_) fun i a ha _ => ev_var rfl).ev (congrArg dN (by rw [List.map_id']; rfl))) no_ow ⟨rfl, rfl⟩) ?_
    · obtain ⟨l1, l2, l3, _, _⟩ := hmem a (List.mem_of_getElem? ha)
      have hne : a ≠ [] := fun e => by rw [e] at l1; simp at l1; omega
      have ht := (l2.tri (by omega)).1
      have hxi : a[a.length - 1]? = some (a[a.length - 1]'(by omega)) := List.getElem?_eq_getElem _
      have e2 : a.getD (a.length - 1) [] = a.getLast hne := by rw [List.getD_eq_getElem?_getD, hxi, List.getLast_eq_getElem]; rfl
      have hm' := List.getLast_mem hne
      have hlt := pt_lt l2 (by omega) (Nat.le_trans (Nat.le_of_dvd hm0 l3) (by omega))
      rw [e2]
      exact et_test (ev_call (ea_cons (ev_var rfl) (ea_cons (ev_call (ea_cons (ev_var rfl) (ea_cons (ev_ix (ty := .lst .int) (xs := a) (ev_var rfl) (ev_neg ev_int) (at_last hne)) ea_nil)) ⟨k, _, rfl, hk, ht.wd _ hm', bits_lt.mpr ((hlt _ hm').mono (by omega)), rfl⟩) ea_nil)) (has_root_ok hk ht (by omega) hlt hm'))
    · have hpl : (Ir.pfin k m).length < sizeLine := Nat.lt_of_le_of_lt (List.length_filter_le _ _) hlt4
      have hpm : ∀ a ∈ Ir.pfin k m, Ir.Lv k m k.length a := fun a ha => hmem a (List.mem_filter.mp ha).1
      have hperm : ∀ ys : List (List (List Int)), ys.Perm (Ir.pfin k m) → (ys.Pairwise fun x y => ¬ Ir.klt y x) → ys = Nf02.ofNorm k m := fun ys h1 h2 => Ir.sorted_norm hm0 h0 h1 h2
      have hol : (Nf02.ofNorm k m).length < sizeLine := by
        have hp : (Nf02.ofNorm k m).Perm (Ir.pfin k m) := by
          have h1 := Ir.ofNorm_lt (k := k) hm0
          have h2 : (Nf02.ofNorm k m).Nodup := List.nodup_iff_pairwise_ne.mpr (h1.imp fun h e => by subst e; exact Ir.klt_irr _ h)
          exact (List.perm_ext_iff_of_nodup h2 Ir.pfin_nodup).mpr fun a => (Ir.mem_pfin hm0 h0 a).symm
        rw [hp.length_eq]; exact hpl
      refine sd_ret (Ev.eq (en_lcM (s := tyK) (u := .lst (.lst .int)) (xs := (Nf02.ofNorm k m).map keyOf) (f := fun p => p.2) (ev_sortedK (xs := Ir.pfin k m) (en_lcM (s := .lst (.lst .int)) (u := tyK) (xs := Ir.pfin k m) (f := keyOf) (ev_var rfl) (by decide) no_ow hpl fun i a ha => ?_).ev hperm) (by decide) no_ow (by rw [List.length_map]; exact hol) fun i p hp => ?_).ev (congrArg dN ?_)) rfl
      · obtain ⟨l1, l2, _⟩ := hpm a (List.mem_of_getElem? ha)
        exact ev_call (ea_cons (ev_var rfl) ea_nil) ⟨a, k.length, rfl, (l2.tri (by omega)).1, by omega, h4, rfl⟩
      · exact ev_pr2 (s := .lst .int) (t := .lst (.lst .int)) (p := p) (ev_var rfl) ev_int
      · rw [List.map_map]
        exact List.map_id' _
end
end Wk

/-! WkK: parting.py -/
namespace Wk
open PySem L2 PyProof.Rows PySem.Spec
abbrev s_worth : Stmt := topS 35
abbrev N_worth : List Str := ["numbers", "at", "found", "number"]
theorem sc_worth : FnScope N_worth ["numbers", "at"] (defScope s_worth) := ⟨rfl, rfl, rfl, by decide +kernel, rfl, by decide +kernel, by decide +kernel⟩
abbrev s_has_root : Stmt := topS 36
abbrev N_has_root : List Str := ["numbers", "at"]
theorem sc_has_root : FnScope N_has_root ["numbers"] (defScope s_has_root) := ⟨rfl, rfl, rfl, by decide +kernel, rfl, by decide +kernel, by decide +kernel⟩
abbrev s_are_parts : Stmt := topS 37
abbrev N_are_parts : List Str := ["numbers", "middle", "last", "other", "beside"]
theorem sc_are_parts : FnScope N_are_parts ["numbers", "middle", "last"] (defScope s_are_parts) := ⟨rfl, rfl, rfl, by decide +kernel, rfl, by decide +kernel, by decide +kernel⟩
abbrev s_has_two : Stmt := topS 38
abbrev N_has_two : List Str := ["numbers", "last", "middle"]
theorem sc_has_two : FnScope N_has_two ["numbers"] (defScope s_has_two) := ⟨rfl, rfl, rfl, by decide +kernel, rfl, by decide +kernel, by decide +kernel⟩
abbrev s_can_be_parted : Stmt := topS 39
abbrev N_can_be_parted : List Str := ["numbers"]
theorem sc_can_be_parted : FnScope N_can_be_parted ["numbers"] (defScope s_can_be_parted) := ⟨rfl, rfl, rfl, by decide +kernel, rfl, by decide +kernel, by decide +kernel⟩
/-- a number that the text names -/
def CI (mg : Str → Option Value) (x : Str) (i : Int) : Prop := ∃ t, mg x = some (.int i t)
/-- a tuple of numbers that the text names -/
def CT (K : PySem.W.Frag) (mg : Str → Option Value) (x : Str) (ns : List Int) : Prop := ∃ a, mg x = some (.ref a) ∧ ∀ H : Hp, SqT K H a (ns.map V.int)
structure Ct (K : PySem.W.Frag) (mg : Str → Option Value) : Prop where
  c_MOST_ROOT : CI mg "MOST_ROOT" 20
  c_MOST_MIDDLE : CI mg "MOST_MIDDLE" 42
  c_WRONG : CI mg "WRONG" (-1)
  c_NO_IDEAL : CI mg "NO_IDEAL" (-2)
  c_NOT_SO : CI mg "NOT_SO" (-3)
  c_NOTHING : CI mg "NOTHING" (-4)
  c_FULL : CI mg "FULL" (-5)
  c_TOO_GREAT : CI mg "TOO_GREAT" (-8)
  c_TOO_WIDE : CI mg "TOO_WIDE" (-9)
  c_LEAST_DEGREE : CI mg "LEAST_DEGREE" 2
  c_MOST_DEGREE : CI mg "MOST_DEGREE" 4
  c_MOST_COEFFICIENT : CI mg "MOST_COEFFICIENT" 20
  c_MOST_PLACE : CI mg "MOST_PLACE" 100
  c_MOST_NUMBERS : CI mg "MOST_NUMBERS" 3
  c_MOST_KEPT : CI mg "MOST_KEPT" 8
  c_MOST_NORM : CI mg "MOST_NORM" 1000000000000
  c_MOST_PRIME : CI mg "MOST_PRIME" 200
  c_MOST_ALL : CI mg "MOST_ALL" 30
  c_RING : CI mg "RING" 0
  c_IDEAL : CI mg "IDEAL" 1
  c_SUM : CI mg "SUM" 2
  c_PRODUCT : CI mg "PRODUCT" 3
  c_COMMON : CI mg "COMMON" 4
  c_BY : CI mg "BY" 5
  c_TOLD : CI mg "TOLD" 6
  c_NORM : CI mg "NORM" 7
  c_HAS : CI mg "HAS" 8
  c_HOLDS : CI mg "HOLDS" 10
  c_PRIME : CI mg "PRIME" 11
  c_ALL : CI mg "ALL" 12
  t_NUMBERS : CT K mg "NUMBERS" [0, 0, 2, 2, 2, 2, 1, 1, 1, 1, 2, 1, 1, 0]
  t_ROWS : CT K mg "ROWS" [1, 1, 0, 0, 0, 0, 0, 0, 1, 1, 0, 0, 0, 0]
  t_OF_TWO : CT K mg "OF_TWO" [2, 3, 4, 5, 10]
theorem pe_globI {X : Cx} {x : Str} {i : Int} {pos : Pos} (hg : Gl X x) (h : CI X.mg x i) (hd : (x == ("__debug__" : Str)) = false := by decide) : PE X (.Name x pos) (tC (.int i)) := pe_glob hg h.choose_spec ⟨_, rfl⟩ hd
theorem pe_globT {X : Cx} {K : PySem.W.Frag} {x : Str} {ns : List Int} {pos : Pos} (hg : Gl X x) (h : CT K X.mg x ns) (hd : (x == ("__debug__" : Str)) = false := by decide) : PE X (.Name x pos) (tC (.ref h.choose)) := pe_glob hg h.choose_spec.1 rfl hd
theorem pe_revLK {X : Cx} {K : PySem.W.Frag} (h : X.K = K) {e : Expr} {te : TE} {k : Nat} {p1 p2 p3 pos : Pos} (he : PE X e te) : PE X (.Subscript e (.Slice none none (some (.UnaryOp .USub (.Constant (.int 1) k p1) p2)) p3) pos) (tRevL K te) := h ▸ pe_revL he
theorem paired_rev {α β : Type} {F : α → β → Prop} : ∀ {xs : List α} {ys : List β}, Paired F xs ys → Paired F xs.reverse ys.reverse
  | _, _, .nil => .nil
  | _, _, .cons a b => by
    rw [List.reverse_cons, List.reverse_cons]
    exact paired_app (paired_rev b) (.cons a .nil)
theorem beq_dec {α : Type} [DecidableEq α] [BEq α] [LawfulBEq α] (a b : α) : (a == b) = decide (a = b) := by
  rw [Bool.eq_iff_iff]; simp
theorem any_congr {α : Type} {f g : α → Bool} (h : ∀ x, f x = g x) {l : List α} : l.any f = l.any g := by rw [show f = g from funext h]
section
variable {K : PySem.W.Frag} {mg : Str → Option Value} {base : Heap} {P : Program} {w : World}
theorem ev_rev {τ : Tau} {o : Ow} {ta : TE} {ty : Ty} {xs : List ty.den} (h : Ev ta τ o (dL ty xs)) : Ev (tRevL K ta) τ o (dL ty xs.reverse) := fun σ G H e s Q q =>
  h σ G H e s _ fun v G1 H1 f1 r1 => by
    obtain ⟨a, vs, rfl, h3, h4⟩ := r1
    refine ⟨a, vs, rfl, .of (f1.l a _ h3), fun p hp => ?_⟩
    obtain ⟨f, r⟩ := fr_list f1.l hp (paired_rev h4)
    exact q _ _ _ (f1.trans f) r
theorem ev_cI {τ : Tau} {o : Ow} {i : Int} : Ev (tC (.int i)) τ o (dI i) := ev_int
def F_worth : List Dy → Dy → Prop := fun ds d => ∃ (k : List Int) (x : Int), ds = [dV k, dI x] ∧ RingOk k ∧ x.natAbs ≤ 20 ∧ d = dI (Ir.val k x)
theorem ok_worth {f : Addr} {fd : FuncData} {j : Nat} (Fn : Fun K "worth" "worth" s_worth f fd) : FnOk P w K mg base CX0 (j + 1) f fd ["numbers", "at"] (spD F_worth) := by
  refine fn_pure Fn sc_worth (fun ds d ⟨k, x, e, _⟩ => by rw [e]; rfl) fun cdv A outer s H E hr ds d ⟨k, x, e, hk, hx, ed⟩ => ?_
  subst e ed
  refine ⟨_, (pss_cons (ps_set (i := 2) sc_worth.nd rfl (Or.inl rfl) pe_int)
    (pss_cons (ps_for PassesOwn.never rfl (pi_listK (K := K) rfl (pe_revLK (K := K) rfl (pv 0))) (pg_name (i := 3) sc_worth.nd rfl (Or.inl rfl)) (pss_one (ps_set (i := 2) sc_worth.nd rfl (Or.inl rfl) (pe_op op_add (pe_op op_mulB (pv 2) (pv 1)) (pv 3)))))
    (pss_one (ps_ret (pv 2))))), ?_⟩
  have h4 := hk.2.1
  refine sd_then (sd_asg (d := dI 1) ev_int no_ow ⟨rfl, rfl⟩) ?_
  have hlen : k.reverse.length = k.length := List.length_reverse
  have hmem : ∀ z ∈ k.reverse, z.natAbs ≤ 20 := fun z hz => hk.2.2 z (List.mem_reverse.mp hz)
  refine sd_seq (sd_for (src_list (ty := .int) (xs := k.reverse) (ev_rev (ty := .int) (ev_var rfl))) (fun i τ o => ∃ (f : Int) (t3 : Option Dy), f = (k.reverse.take i).foldl (fun v a => v * x + a) 1 ∧ f.natAbs ≤ 40 ^ i ∧ τ = [some (dV k), some (dI x), some (dI f), t3] ∧ o = none) ?_ ?_ ?_ fun _ _ h => h) ?_
  · exact ⟨1, _, rfl, by decide, rfl, rfl⟩
  · rintro i τ o ⟨_, _, _, _, _, rfl⟩; exact no_ow
  · rintro i τ o hi ⟨f, t3, ef, hf, rfl, rfl⟩
    have hxi : k.reverse[i]? = some k.reverse[i] := List.getElem?_eq_getElem hi
    simp only [hxi]
    have hz := hmem k.reverse[i] (List.getElem_mem hi)
    have ec : (k.reverse.take (i + 1)).foldl (fun v a => v * x + a) 1 = f * x + k.reverse[i] := by
      rw [List.take_add_one, hxi, List.foldl_append, ← ef]; rfl
    have hp : (40 : Nat) ^ i ≤ 40 ^ 4 := Nat.pow_le_pow_right (by omega) (by omega)
    have e4 : (40 : Nat) ^ 4 = 2560000 := by decide
    have e64 : (2 : Nat) ^ 64 = 18446744073709551616 := by decide
    have h1 : 1 ≤ (40 : Nat) ^ i := Nat.pow_pos (by omega)
    have hm : (f * x).natAbs ≤ 40 ^ i * 20 := by rw [Int.natAbs_mul]; exact Nat.mul_le_mul hf hx
    have hg : (f * x + k.reverse[i]).natAbs ≤ 40 ^ (i + 1) := by
      rw [Nat.pow_succ]
      have : ∀ a b : Int, (a + b).natAbs ≤ a.natAbs + b.natAbs := fun a b => by omega
      have := this (f * x) k.reverse[i]
      omega
    exact sd_asg (d := dI (f * x + k.reverse[i])) (ev_I0 (g := fun i j => i + j) (ev_I (g := fun i j => i * j) (C := MulB) (ev_var rfl) (ev_var rfl) (mulB_small (by omega) (by omega))) (ev_var rfl)) no_ow ⟨_, _, ec.symm, hg, rfl, rfl⟩
  · rintro τ o ⟨f, t3, ef, hf, rfl, rfl⟩
    refine sd_ret (ev_var rfl) ?_
    rw [ef, List.take_length]; rfl
def F_has_root : List Dy → Dy → Prop := fun ds d => ∃ (k : List Int), ds = [dV k] ∧ RingOk k ∧ d = dB (Ir.hasRoot k)
theorem ok_has_root {f : Addr} {fd : FuncData} (Fn : Fun K "has_root" "has_root" s_has_root f fd) (T : Bt mg) (Cn : Ct K mg) (d_worth : DefOk P w K mg base 40 "worth" ["numbers", "at"] (spD F_worth)) : FnOk P w K mg base CX0 41 f fd ["numbers"] (spD F_has_root) := by
  refine fn_pure Fn sc_has_root (fun ds d ⟨k, e, _⟩ => by rw [e]; rfl) fun cdv A outer s H E hr ds d ⟨k, e, hk, ed⟩ => ?_
  subst e ed
  refine ⟨_, (pss_one (ps_ret (pe_callB (anyK (K := K) rfl rfl) (by rfl) T.b_any (by decide +kernel) (pa_cons (pe_lc (own := [("at", 1)]) rfl sc_has_root.nd (pi_range2 (by rfl) T.b_range (pa_cons (pe_op op_sub pe_int (pe_globI rfl Cn.c_MOST_ROOT)) (pa_cons (pe_op op_add (pe_globI rfl Cn.c_MOST_ROOT) pe_int) pa_nil))) (blkOk_by (own := [("at", 1)]) (N := N_has_root) (sc := defScope s_has_root) (by decide +kernel)) (fun _ _ _ _ _ => (pg_name (i := 1) sc_has_root.nd rfl (Or.inl rfl))) (fun _ _ _ _ _ => pts_nil) (fun _ _ _ _ _ => (pe_cmpR op_eq (pe_callD d_worth (hr.mono (by decide)) rfl (pa_cons (pv 0) (pa_cons (pv 1) pa_nil))) pe_int (nomark _)))) pa_nil)))), ?_⟩
  refine sd_ret (Ev.eq (ev_any (bs := (List.range 41).map fun (i : Nat) => decide (Ir.val k (0 - 20 + (i : Int)) = 0)) (en_lcR (u := .bl) (n := 41) (g := fun i => 0 - 20 + (i : Int)) (f := fun (i : Nat) => decide (Ir.val k (0 - 20 + (i : Int)) = 0)) (src_range2 (n := 41) (l := 0 - 20) (m := 20 + 1) (ea_cons (ev_I0 (g := fun i j => i - j) ev_int ev_int) (ea_cons (ev_I0 (g := fun i j => i + j) ev_int ev_int) ea_nil)) (by decide) (by decide)) (by decide) no_ow (small_line (by omega)) fun i hi => ?_).ev) (congrArg dB ?_)) rfl
  · exact ev_eqI (ev_call (ea_cons (ev_var rfl) (ea_cons (ev_var rfl) ea_nil)) ⟨k, _, rfl, hk, by omega, rfl⟩) ev_int
  · rw [List.any_map]
    unfold Ir.hasRoot
    refine any_congr fun i => ?_
    show decide (Ir.val k (0 - 20 + (i : Int)) = 0) = (Ir.val k ((i : Int) - 20) == 0)
    rw [show (0 - 20 + (i : Int)) = (i : Int) - 20 by omega, beq_dec]
def F_are_parts : List Dy → Dy → Prop := fun ds d => ∃ (k : List Int) (m l : Int), ds = [dV k, dI m, dI l] ∧ RingOk k ∧ k.length = 4 ∧ m.natAbs ≤ 42 ∧ l.natAbs ≤ 20 ∧ l ≠ 0 ∧ d = dB (Ir.partsB k m l)
theorem ok_are_parts {f : Addr} {fd : FuncData} (hN : base.NoSeer) (hP : P.given.tree = none) (Fn : Fun K "are_parts" "are_parts" s_are_parts f fd) (T : Bt mg) : FnOk P w K mg base CX0 40 f fd ["numbers", "middle", "last"] (spD F_are_parts) := by
  refine fn_pure Fn sc_are_parts (fun ds d ⟨k, m, l, e, _⟩ => by rw [e]; rfl) fun cdv A outer s H E hr ds d ⟨k, m, l, e, hk, h4, hm, hl, hl0, ed⟩ => ?_
  subst e ed
  refine ⟨_, (pss_cons (ps_if (pt_cmpR op_ne (pe_op op_modN (pe_ix (ixL (K := K) rfl) (pv 0) pe_int (fun _ _ => rfl)) (pv 2)) pe_int (nomark _)) (pss_one (ps_ret pe_bl)) pss_nil)
    (pss_cons (ps_par (i := 3) (j := 4) rfl sc_are_parts.nd rfl rfl (by decide) rfl rfl (pa_cons (pe_op (op_fd hN hP (hr.mono (by decide)) rfl rfl rfl rfl rfl) (pe_ix (ixL (K := K) rfl) (pv 0) pe_int (fun _ _ => rfl)) (pv 2)) (pa_cons (pe_op op_sub (pe_ix (ixL (K := K) rfl) (pv 0) pe_int (fun _ _ => rfl)) (pv 1)) pa_nil)) (by rfl))
    (pss_cons (ps_if (pt_cmpR op_ne (pe_op op_add (pe_op op_add (pv 2) (pv 3)) (pe_op op_mulB (pv 1) (pv 4))) (pe_ix (ixL (K := K) rfl) (pv 0) pe_int (fun _ _ => rfl)) (nomark _)) (pss_one (ps_ret pe_bl)) pss_nil)
    (pss_one (ps_ret (pe_cmpR op_eq (pe_op op_add (pe_op op_mulB (pv 1) (pv 3)) (pe_op op_mulB (pv 2) (pv 4))) (pe_ix (ixL (K := K) rfl) (pv 0) pe_int (fun _ _ => rfl)) (nomark _))))))), ?_⟩
  have hg : ∀ i, (k.getD i 0).natAbs ≤ 20 := fun i => by
    by_cases hi : i < k.length
    · rw [List.getD_eq_getElem?_getD, List.getElem?_eq_getElem hi]; exact hk.2.2 _ (List.getElem_mem hi)
    · rw [Ir.gd_out (by omega)]; decide
  have g0 := hg 0
  have g3 := hg 3
  have at0 : ∀ {τ : Tau} {o : Ow} (j : Nat), τ[0]? = some (some (dV k)) → j < 4 → Ev (tOp (rIxL K) (tVar 0) (tC (.int (j : Int)))) τ o (dI (k.getD j 0)) := fun {τ o} j h hj => ev_ix (ty := .int) (xs := k) (ev_var h) ev_int (at_getD (by omega))
  refine sd_seq (mid := fun τ' o' => τ' = startT N_are_parts [dV k, dI m, dI l] ∧ o' = none ∧ (k.getD 0 0).fmod l = 0) (sd_if (b := !decide ((k.getD 0 0).fmod l = 0)) (et_test (ev_neI (ev_I (g := fun i j => i.fmod j) (C := fun _ j => j ≠ 0) (at0 0 rfl (by decide)) (ev_var rfl) hl0) ev_int)) (fun hb => sd_ret ev_bl ?_) fun hb => sd_next ⟨rfl, rfl, ?_⟩) ?_
  · have hh : ¬ (k.getD 0 0).fmod l = 0 := by simpa using hb
    unfold Ir.partsB
    rw [if_pos hh]
  · simpa using hb
  · rintro τ o ⟨rfl, rfl, h0⟩
    have e0 : l * (k.getD 0 0).fdiv l = k.getD 0 0 := by
      have h := Int.fmod_add_mul_fdiv (k.getD 0 0) l
      rw [h0] at h; omega
    have hf : ((k.getD 0 0).fdiv l).natAbs ≤ 20 := by
      have : l.natAbs * ((k.getD 0 0).fdiv l).natAbs = (k.getD 0 0).natAbs := by rw [← Int.natAbs_mul, e0]
      have h2 : ((k.getD 0 0).fdiv l).natAbs ≤ l.natAbs * ((k.getD 0 0).fdiv l).natAbs := Nat.le_mul_of_pos_left _ (by omega)
      omega
    have ep : Ir.partsB k m l = (if l + (k.getD 0 0).fdiv l + m * (k.getD 3 0 - m) ≠ k.getD 2 0 then false else m * (k.getD 0 0).fdiv l + l * (k.getD 3 0 - m) == k.getD 1 0) := by
      unfold Ir.partsB
      rw [if_neg (by rw [h0]; exact fun h => h rfl)]
    rw [ep]
    have e64 : (2 : Nat) ^ 64 = 18446744073709551616 := by decide
    generalize hq : (k.getD 0 0).fdiv l = q at *
    generalize hb' : k.getD 3 0 - m = b at *
    have hbb : b.natAbs ≤ 62 := by omega
    refine sd_then (sd_par (d := dI q) (e := dI b) (ea_cons ((ev_I (g := fun i j => i.fdiv j) (C := fun _ j => j ≠ 0) (at0 0 rfl (by decide)) (ev_var rfl) hl0).eq (congrArg dI hq)) (ea_cons ((ev_I0 (g := fun i j => i - j) (at0 3 rfl (by decide)) (ev_var rfl)).eq (congrArg dI hb')) ea_nil)) no_ow ⟨rfl, rfl⟩) ?_
    refine sd_seq (mid := fun τ' o' => τ' = [some (dV k), some (dI m), some (dI l), some (dI q), some (dI b)] ∧ o' = none ∧ l + q + m * b = k.getD 2 0) (sd_if (b := !decide (l + q + m * b = k.getD 2 0)) (et_test (ev_neI (ev_I0 (g := fun i j => i + j) (ev_I0 (g := fun i j => i + j) (ev_var rfl) (ev_var rfl)) (ev_I (g := fun i j => i * j) (C := MulB) (ev_var rfl) (ev_var rfl) (mulB_small (by omega) (by omega)))) (at0 2 rfl (by decide)))) (fun hb => sd_ret ev_bl ?_) fun hb => sd_next ⟨rfl, rfl, ?_⟩) ?_
    · have hh : ¬ l + q + m * b = k.getD 2 0 := by simpa using hb
      rw [if_pos hh]
    · simpa using hb
    · rintro τ o ⟨rfl, rfl, h1⟩
      rw [if_neg (by rw [h1]; exact fun h => h rfl), beq_dec]
      exact sd_ret (ev_eqI (ev_I0 (g := fun i j => i + j) (ev_I (g := fun i j => i * j) (C := MulB) (ev_var rfl) (ev_var rfl) (mulB_small (by omega) (by omega))) (ev_I (g := fun i j => i * j) (C := MulB) (ev_var rfl) (ev_var rfl) (mulB_small (by omega) (by omega)))) (at0 1 rfl (by decide))) rfl
def F_has_two : List Dy → Dy → Prop := fun ds d => ∃ (k : List Int), ds = [dV k] ∧ RingOk k ∧ k.length = 4 ∧ d = dB (Ir.hasTwo k)
theorem ok_has_two {f : Addr} {fd : FuncData} (Fn : Fun K "has_two" "has_two" s_has_two f fd) (T : Bt mg) (Cn : Ct K mg) (d_are_parts : DefOk P w K mg base 40 "are_parts" ["numbers", "middle", "last"] (spD F_are_parts)) : FnOk P w K mg base CX0 41 f fd ["numbers"] (spD F_has_two) := by
  refine fn_pure Fn sc_has_two (fun ds d ⟨k, e, _⟩ => by rw [e]; rfl) fun cdv A outer s H E hr ds d ⟨k, e, hk, h4, ed⟩ => ?_
  subst e ed
  refine ⟨_, (pss_cons (ps_for PassesOwn.never rfl (pi_range2 (by rfl) T.b_range (pa_cons (pe_op op_sub pe_int (pe_globI rfl Cn.c_MOST_ROOT)) (pa_cons (pe_op op_add (pe_globI rfl Cn.c_MOST_ROOT) pe_int) pa_nil))) (pg_name (i := 1) sc_has_two.nd rfl (Or.inl rfl)) (pss_one (ps_for PassesOwn.never rfl (pi_range2 (by rfl) T.b_range (pa_cons (pe_op op_sub pe_int (pe_globI rfl Cn.c_MOST_MIDDLE)) (pa_cons (pe_op op_add (pe_globI rfl Cn.c_MOST_MIDDLE) pe_int) pa_nil))) (pg_name (i := 2) sc_has_two.nd rfl (Or.inl rfl)) (pss_one (ps_if (PW.pt (pw_and (pt_cmpR op_ne (pv 1) pe_int (nomark _)) (pw_and1 (pt_val (pe_callD d_are_parts (hr.mono (by decide)) rfl (pa_cons (pv 0) (pa_cons (pv 2) (pa_cons (pv 1) pa_nil)))))))) (pss_one (ps_ret pe_bl)) pss_nil)))))
    (pss_one (ps_ret pe_bl))), ?_⟩
  -- what one pair of numbers tells
  generalize hpb : (fun (i j : Nat) => decide ((i : Int) - 20 ≠ 0) && Ir.partsB k ((j : Int) - 42) ((i : Int) - 20)) = pb
  have eh : Ir.hasTwo k = (List.range 41).any fun i => (List.range 85).any fun j => pb i j := by
    rw [← hpb]; rfl
  refine sd_seq (sd_for (src_range2 (n := 41) (l := 0 - 20) (m := 20 + 1) (ea_cons (ev_I0 (g := fun i j => i - j) ev_int ev_int) (ea_cons (ev_I0 (g := fun i j => i + j) ev_int ev_int) ea_nil)) (by decide) (by decide)) (fun i τ o => ∃ (t1 t2 : Option Dy), (∀ q, q < i → ∀ j, j < 85 → pb q j = false) ∧ τ = [some (dV k), t1, t2] ∧ o = none) ?_ ?_ ?_ fun _ _ h => h) ?_
  · exact ⟨_, _, fun q hq => by omega, rfl, rfl⟩
  · rintro i τ o ⟨_, _, _, _, rfl⟩; exact no_ow
  · rintro i τ o hi ⟨t1, t2, hall, rfl, rfl⟩
    refine sd_mono (sd_for (src_range2 (n := 85) (l := 0 - 42) (m := 42 + 1) (ea_cons (ev_I0 (g := fun i j => i - j) ev_int ev_int) (ea_cons (ev_I0 (g := fun i j => i + j) ev_int ev_int) ea_nil)) (by decide) (by decide)) (fun j τ o => ∃ (t2 : Option Dy), (∀ q, q < j → pb i q = false) ∧ τ = [some (dV k), some (dI (0 - 20 + (i : Int))), t2] ∧ o = none) ?_ ?_ ?_ fun _ _ h => h) (fun τ o h => ?_) (fun _ h => h)
    · exact ⟨_, fun q hq => by omega, rfl, rfl⟩
    · rintro j τ o ⟨_, _, _, rfl⟩; exact no_ow
    · rintro j τ o hj ⟨t2, hin, rfl, rfl⟩
      have ei : 0 - 20 + (i : Int) = (i : Int) - 20 := by omega
      have ej : 0 - 42 + (j : Int) = (j : Int) - 42 := by omega
      rw [ei, ej]
      have epb : pb i j = (!decide ((i : Int) - 20 = 0) && Ir.partsB k ((j : Int) - 42) ((i : Int) - 20)) := by
        rw [← hpb]
        show (decide (¬ (i : Int) - 20 = 0) && _) = _
        rw [decide_not]
      refine sd_if (b := pb i j) ((et_and (et_test (ev_neI (ev_var rfl) ev_int)) fun h => et_B (ev_call (ea_cons (ev_var rfl) (ea_cons (ev_var rfl) (ea_cons (ev_var rfl) ea_nil))) ⟨k, (j : Int) - 42, (i : Int) - 20, rfl, hk, h4, by omega, by omega, by simpa using h, rfl⟩)).eq epb.symm) (fun hb => sd_ret ev_bl ?_) fun hb => sd_next ⟨_, fun q hq => ?_, rfl, rfl⟩
      · have : Ir.hasTwo k = true := by
          rw [eh, List.any_eq_true]
          exact ⟨i, List.mem_range.mpr hi, by rw [List.any_eq_true]; exact ⟨j, List.mem_range.mpr hj, hb⟩⟩
        rw [this]
      · by_cases e : q = j
        · rw [e]; exact hb
        · exact hin q (by omega)
    · obtain ⟨t2, hin, rfl, rfl⟩ := h
      refine ⟨_, _, fun q hq j hj => ?_, rfl, rfl⟩
      by_cases e : q = i
      · rw [e]; exact hin j hj
      · exact hall q (by omega) j hj
  · rintro τ o ⟨t1, t2, hall, rfl, rfl⟩
    refine sd_ret ev_bl ?_
    have : Ir.hasTwo k = false := by
      rw [eh]
      refine Bool.eq_false_iff.mpr fun h => ?_
      obtain ⟨i, hi, h⟩ := List.any_eq_true.mp h
      obtain ⟨j, hj, h⟩ := List.any_eq_true.mp h
      rw [hall i (List.mem_range.mp hi) j (List.mem_range.mp hj)] at h
      cases h
    rw [this]
def F_can_be_parted : List Dy → Dy → Prop := fun ds d => ∃ (k : List Int), ds = [dV k] ∧ RingOk k ∧ d = dB (!Nf01.prime k)
theorem ok_can_be_parted {f : Addr} {fd : FuncData} (Fn : Fun K "can_be_parted" "can_be_parted" s_can_be_parted f fd) (T : Bt mg) (d_has_root : DefOk P w K mg base 41 "has_root" ["numbers"] (spD F_has_root)) (d_has_two : DefOk P w K mg base 41 "has_two" ["numbers"] (spD F_has_two)) : FnOk P w K mg base CX0 42 f fd ["numbers"] (spD F_can_be_parted) := by
  refine fn_pure Fn sc_can_be_parted (fun ds d ⟨k, e, _⟩ => by rw [e]; rfl) fun cdv A outer s H E hr ds d ⟨k, e, hk, ed⟩ => ?_
  subst e ed
  refine ⟨_, (pss_one (ps_ret (pe_or (pe_callD d_has_root (hr.mono (by decide)) rfl (pa_cons (pv 0) pa_nil)) (pe_one (pe_and (pe_cmpR op_eq (pe_callB (lenK (K := K) rfl) (by rfl) T.b_len (by decide +kernel) (pa_cons (pv 0) pa_nil)) pe_int (nomark _)) (pe_one (pe_callD d_has_two (hr.mono (by decide)) rfl (pa_cons (pv 0) pa_nil)))))))), ?_⟩
  rw [← Ir.canPart_eq hk]
  have e4 : decide ((k.length : Int) = 4) = (k.length == 4) := by
    rw [beq_dec]; exact decide_eq_decide.mpr (by omega)
  refine sd_ret (Ev.eq (ev_orV (a := Ir.hasRoot k) (b := (k.length == 4) && Ir.hasTwo k) (ev_call (ea_cons (ev_var rfl) ea_nil) ⟨k, rfl, hk, rfl⟩) fun _ => (ev_andV (a := (k.length == 4)) (b := Ir.hasTwo k) (Ev.eq (ev_eqI (ev_len (ty := .int) (xs := k) (ev_var rfl)) ev_int) (congrArg dB e4)) fun h => ev_call (ea_cons (ev_var rfl) ea_nil) ⟨k, rfl, hk, by simpa using h, rfl⟩)) rfl) rfl
end
end Wk

/-! WkL: the desk: an object with a ring and a list that grows. -/
namespace Wk
open PySem L2 PyProof.Rows PySem.Spec
/-! ### in any context -/
abbrev Cxt := L2.St → Hp → Hp → Prop
structure Stb (Γ : Cxt) : Prop where
  run : ∀ {σ : L2.St} {G H G' H' : Hp}, Γ σ G H → Fr G H G' H' → Γ σ G' H'
def Gv (te : TE) (Γ : Cxt) (d : Dy) : Prop := ∀ σ G H, Ex G H → Γ σ G H → ∀ Q : VK, (∀ v G' H', Fr G H G' H' → RpD G' v d → Q v H') → te σ H Q
def Gt (tt : TT) (Γ : Cxt) (b : Bool) : Prop := ∀ σ G H, Ex G H → Γ σ G H → ∀ Q : Bool → Hp → Prop, (∀ G' H', Fr G H G' H' → Q b H') → tt σ H Q
def Ga (ta : TA) (Γ : Cxt) (ds : List Dy) : Prop := ∀ σ G H, Ex G H → Γ σ G H → ∀ Q : List V → Hp → Prop, (∀ vs G' H', Fr G H G' H' → RpA G' vs ds → Q vs H') → ta σ H Q
section
variable {Γ : Cxt} {ta tb te : TE} {t u : TT} {K : PySem.W.Frag} {τ : Tau} {o : Ow}
theorem gv_of {d : Dy} (h : Ev te τ o d) (hs : ∀ {σ G H}, Γ σ G H → Sls σ G H τ o) : Gv te Γ d := fun σ G H e g Q q => h σ G H e (hs g) Q q
theorem gt_of {b : Bool} (h : Et t τ o b) (hs : ∀ {σ G H}, Γ σ G H → Sls σ G H τ o) : Gt t Γ b := fun σ G H e g Q q => h σ G H e (hs g) Q q
theorem Gv.eq {d d' : Dy} (h : Gv te Γ d) (e : d = d') : Gv te Γ d' := e ▸ h
theorem Gt.eq {b b' : Bool} (h : Gt t Γ b) (e : b = b') : Gt t Γ b' := e ▸ h
theorem gv_int {i : Int} : Gv (tC (.int i)) Γ (dI i) := fun σ G H e _ Q q => q _ G H (.refl e) rfl
theorem gv_op {r : R2} {a b c : Dy} (st : Stb Γ) (ha : Gv ta Γ a) (hb : Gv tb Γ b) (hr : ∀ G H x y, Ex G H → RpD G x a → RpD G y b → ∀ Q : VK, (∀ v G' H', Fr G H G' H' → RpD G' v c → Q v H') → r x y H Q) : Gv (tOp r ta tb) Γ c := fun σ G H e g Q q =>
  ha σ G H e g _ fun x G1 H1 f1 r1 => hb σ G1 H1 f1.l (st.run g f1) _ fun y G2 H2 f2 r2 => hr G2 H2 x y f2.l (r1.mono f2.g) r2 Q fun v G' H' f3 r3 => q v G' H' ((f1.trans f2).trans f3) r3
theorem gv_I0 {g : Int → Int → Int} {i j : Int} (st : Stb Γ) (ha : Gv ta Γ (dI i)) (hb : Gv tb Γ (dI j)) : Gv (tOp (rI0 fun i j => .int (g i j)) ta tb) Γ (dI (g i j)) :=
  gv_op st ha hb fun G H x y e h1 h2 Q q => ⟨i, j, h1, h2, q _ G H (.refl e) rfl⟩
theorem gv_B0 {g : Int → Int → Bool} {i j : Int} (st : Stb Γ) (ha : Gv ta Γ (dI i)) (hb : Gv tb Γ (dI j)) : Gv (tOp (rI0 fun i j => .bl (g i j)) ta tb) Γ (dB (g i j)) :=
  gv_op st ha hb fun G H x y e h1 h2 Q q => ⟨i, j, h1, h2, q _ G H (.refl e) rfl⟩
theorem gv_eqI {i j : Int} (st : Stb Γ) (ha : Gv ta Γ (dI i)) (hb : Gv tb Γ (dI j)) : Gv (tOp rEq ta tb) Γ (dB (decide (i = j))) :=
  gv_op st ha hb fun G H x y e h1 h2 Q q => by
    obtain rfl : x = .int i := h1
    obtain rfl : y = .int j := h2
    exact ⟨rfl, q _ G H (.refl e) (by show V.bl _ = V.bl _; rw [dec_int, Bool.beq_eq_decide_eq])⟩
theorem gv_neI {i j : Int} (st : Stb Γ) (ha : Gv ta Γ (dI i)) (hb : Gv tb Γ (dI j)) : Gv (tOp rNe ta tb) Γ (dB (!decide (i = j))) :=
  gv_op st ha hb fun G H x y e h1 h2 Q q => by
    obtain rfl : x = .int i := h1
    obtain rfl : y = .int j := h2
    exact ⟨rfl, q _ G H (.refl e) (by show V.bl _ = V.bl _; rw [dec_int, Bool.beq_eq_decide_eq])⟩
theorem gv_eqD {t : Ty} {x y : t.den} {b : Bool} (st : Stb Γ) (ha : Gv ta Γ ⟨t, x⟩) (hb : Gv tb Γ ⟨t, y⟩) (hd : dep t ≤ 64 ∧ pln t = true) (he : PyData.eqv (enc t x) (enc t y) = b) : Gv (tOp (rEqD K) ta tb) Γ (dB b) :=
  gv_op st ha hb fun G H v w e h1 h2 Q q => ⟨_, _, dp_of t v x hd.2 (Rp.mono e _ _ _ h1), dp_of t w y hd.2 (Rp.mono e _ _ _ h2), shaped_enc hd.1, shaped_enc hd.1, by rw [he]; exact q _ G H (.refl e) rfl⟩
theorem ga_nil : Ga tNil Γ [] := fun σ G H e _ Q q => q [] G H (.refl e) .nil
theorem ga_cons {d : Dy} {ds : List Dy} {tr : TA} (st : Stb Γ) (ha : Gv ta Γ d) (hr : Ga tr Γ ds) : Ga (tCons ta tr) Γ (d :: ds) := fun σ G H e g Q q =>
  ha σ G H e g _ fun v G1 H1 f1 r1 => hr σ G1 H1 f1.l (st.run g f1) _ fun vs G2 H2 f2 r2 => q (v :: vs) G2 H2 (f1.trans f2) (.cons (r1.mono f2.g) r2)
theorem gv_call {F : List Dy → Dy → Prop} {tr : TA} {E : XK} {ds : List Dy} {d : Dy} (h : Ga tr Γ ds) (hF : F ds d) : Gv (tCall (spD F) [] E tr) Γ d := fun σ G H e g Q q =>
  h σ G H e g _ fun vs G1 H1 f1 r1 => ⟨G1, ds, d, f1.l, by rw [List.append_nil]; exact r1, hF, fun v G' H' f2 r2 => q v G' H' (f1.trans f2) r2⟩
theorem gv_cb {r : List V → Hp → VK → Prop} {tr : TA} {ds : List Dy} {d : Dy} (h : Ga tr Γ ds) (hr : ∀ G H vs, Ex G H → RpA G vs ds → ∀ Q : VK, (∀ v G' H', Fr G H G' H' → RpD G' v d → Q v H') → r vs H Q) : Gv (tCB r tr) Γ d := fun σ G H e g Q q =>
  h σ G H e g _ fun vs G1 H1 f1 r1 => hr G1 H1 vs f1.l r1 Q fun v G' H' f2 r2 => q v G' H' (f1.trans f2) r2
theorem gv_intb {b : Bool} (st : Stb Γ) (h : Gv ta Γ (dB b)) : Gv (tCB (fun xs H Q => (∃ i, xs = [.int i] ∧ Q (.int i) H) ∨ ∃ k, xs = [.bl k] ∧ Q (.int (if k then 1 else 0)) H) (tCons ta tNil)) Γ (dI (if b then 1 else 0)) :=
  gv_cb (ga_cons st h ga_nil) fun G H vs e r Q q => by
    cases r with
    | cons a c =>
      cases c
      exact .inr ⟨b, by rw [show _ = V.bl b from a], q _ G H (.refl e) rfl⟩
theorem gv_len {ty : Ty} {xs : List ty.den} (st : Stb Γ) (h : Gv ta Γ (dL ty xs)) : Gv (tCB (fun xs H Q => ∃ p ys, xs = [.ref p] ∧ (SqL K H p ys ∨ SqT K H p ys) ∧ Q (.int ys.length) H) (tCons ta tNil)) Γ (dI (xs.length : Int)) :=
  gv_cb (ga_cons st h ga_nil) fun G H vs e r Q q => by
    cases r with
    | cons a c =>
      cases c
      obtain ⟨p, us, rfl, h1, h2⟩ := a
      exact ⟨p, us, rfl, .inl (.of (e p _ h1)), q _ G H (.refl e) (by show V.int _ = V.int _; rw [paired_len h2])⟩
theorem gv_lst {ty : Ty} {xs : List ty.den} {tr : TA} (h : Ga tr Γ (xs.map fun x => (⟨ty, x⟩ : Dy))) (hl : xs.length ≤ 1000) : Gv (tLst tr) Γ (dL ty xs) := fun σ G H e g Q q =>
  h σ G H e g _ fun vs G1 H1 f1 r1 => ⟨by
    have := (rpA_pairs r1)
    rw [paired_len this]
    exact Nat.le_trans hl (by decide), fun p hp => by
    obtain ⟨f, r⟩ := fr_list f1.l hp (rpA_pairs r1)
    exact q _ _ _ (f1.trans f) r⟩
theorem gt_test {b : Bool} (h : Gv te Γ (dB b)) : Gt (tTest te) Γ b := fun σ G H e g Q q => h σ G H e g _ fun v G1 H1 f1 r1 => ⟨b, r1, q G1 H1 f1⟩
theorem gt_B {b : Bool} (h : Gv te Γ (dB b)) : Gt (tB te) Γ b := fun σ G H e g Q q => h σ G H e g _ fun v G1 H1 f1 r1 => ⟨b, r1, q G1 H1 f1⟩
theorem gt_and {a b : Bool} (st : Stb Γ) (h1 : Gt t Γ a) (h2 : a = true → Gt u Γ b) : Gt (tAnd t u) Γ (a && b) := fun σ G H e g Q q => h1 σ G H e g _ fun G1 H1 f1 => by
  cases a with
  | true => exact h2 rfl σ G1 H1 f1.l (st.run g f1) Q fun G2 H2 f2 => q G2 H2 (f1.trans f2)
  | false => exact q G1 H1 f1
theorem gt_or {a b : Bool} (st : Stb Γ) (h1 : Gt t Γ a) (h2 : a = false → Gt u Γ b) : Gt (tOr t u) Γ (a || b) := fun σ G H e g Q q => h1 σ G H e g _ fun G1 H1 f1 => by
  cases a with
  | true => exact q G1 H1 f1
  | false => exact h2 rfl σ G1 H1 f1.l (st.run g f1) Q fun G2 H2 f2 => q G2 H2 (f1.trans f2)
theorem gt_not {a : Bool} (h1 : Gt t Γ a) : Gt (tNot t) Γ (!a) := fun σ G H e g Q q => h1 σ G H e g _ fun G1 H1 f1 => q G1 H1 f1
theorem gv_andV {a b : Bool} (st : Stb Γ) (h1 : Gv ta Γ (dB a)) (h2 : a = true → Gv tb Γ (dB b)) : Gv (tAndV ta tb) Γ (dB (a && b)) := fun σ G H e g Q q => h1 σ G H e g _ fun v G1 H1 f1 r1 => ⟨a, r1, by
  cases a with
  | true => exact h2 rfl σ G1 H1 f1.l (st.run g f1) Q fun v G2 H2 f2 => q v G2 H2 (f1.trans f2)
  | false => exact q _ G1 H1 f1 rfl⟩
theorem gv_notV {a : Bool} (h1 : Gv ta Γ (dB a)) : Gv (tNotV ta) Γ (dB (!a)) := fun σ G H e g Q q => h1 σ G H e g _ fun v G1 H1 f1 r1 => ⟨a, r1, q _ G1 H1 f1 rfl⟩
theorem gv_if {b : Bool} {d : Dy} (st : Stb Γ) (h : Gt t Γ b) (h1 : b = true → Gv ta Γ d) (h2 : b = false → Gv tb Γ d) : Gv (tIf t ta tb) Γ d := fun σ G H e g Q q => h σ G H e g _ fun G1 H1 f1 => by
  cases b with
  | true => exact h1 rfl σ G1 H1 f1.l (st.run g f1) Q fun v G2 H2 f2 => q v G2 H2 (f1.trans f2)
  | false => exact h2 rfl σ G1 H1 f1.l (st.run g f1) Q fun v G2 H2 f2 => q v G2 H2 (f1.trans f2)
end
/-- a < b < c, both known -/
theorem ev_chain {τ : Tau} {o : Ow} {ta tb tc : TE} {g h : Int → Int → Bool} {i j k : Int} (ha : Ev ta τ o (dI i)) (hb : Ev tb τ o (dI j)) (hc : Ev tc τ o (dI k)) : Ev (tChain (rI0 fun i j => .bl (g i j)) (rI0 fun i j => .bl (h i j)) ta tb tc) τ o (dB (g i j && h j k)) := fun σ G H e s Q q =>
  ha σ G H e s _ fun x G1 H1 f1 r1 => hb σ G1 H1 f1.l (s.step f1) _ fun y G2 H2 f2 r2 => by
    refine ⟨i, j, r1, r2, g i j, rfl, ?_⟩
    cases hg : g i j with
    | true =>
      simp only [if_true]
      refine hc σ G2 H2 f2.l (s.step (f1.trans f2)) _ fun w G3 H3 f3 r3 => ⟨j, k, r2, r3, q _ G3 H3 ((f1.trans f2).trans f3) ?_⟩
      show V.bl (h j k) = V.bl (g i j && h j k)
      rw [hg, Bool.true_and]
    | false =>
      simp only [Bool.false_eq_true, if_false]
      exact q _ G2 H2 (f1.trans f2) (by show V.bl false = V.bl (g i j && h j k); rw [hg, Bool.false_and])
/-! ### statements -/
abbrev RTy := Hp → Hp → V → Hp → Hp → Prop
structure TrR (RT : RTy) : Prop where
  run : ∀ {G H G1 H1 : Hp} {v : V} {G' H' : Hp}, Fr G H G1 H1 → RT G1 H1 v G' H' → RT G H v G' H'
def Gd (t : TS) (Γ NX : Cxt) (RT : RTy) : Prop := ∀ σ G H (D : Ends), Ex G H → Γ σ G H → (∀ σ' G' H', Fr G H G' H' → NX σ' G' H' → D.nx σ' H') → (∀ v G' H', RT G H v G' H' → D.rt v H') → t D σ H
def GvR (te : TE) (Γ : Cxt) (RT : RTy) : Prop := ∀ σ G H, Ex G H → Γ σ G H → ∀ Q : VK, (∀ v G' H', RT G H v G' H' → Q v H') → te σ H Q
section
variable {Γ MID NX : Cxt} {RT : RTy} {te ta tb : TE} {t u : TS}
theorem gd_seq (tr : TrR RT) (h1 : Gd t Γ MID RT) (h2 : Gd u MID NX RT) : Gd (tSeq t u) Γ NX RT := fun σ G H D e g n r =>
  h1 σ G H { D with nx := u D } e g (fun σ' G' H' f m => h2 σ' G' H' D f.l m (fun σ2 G2 H2 f2 m2 => n σ2 G2 H2 (f.trans f2) m2) fun v G2 H2 x => r v G2 H2 (tr.run f x)) r
theorem gd_if {c : TT} {b : Bool} (st : Stb Γ) (tr : TrR RT) (h : Gt c Γ b) (h1 : b = true → Gd t Γ NX RT) (h2 : b = false → Gd u Γ NX RT) : Gd (tIfS c t u) Γ NX RT := fun σ G H D e g n r =>
  h σ G H e g _ fun G1 H1 f1 => by
    have n' : ∀ σ' G' H', Fr G1 H1 G' H' → NX σ' G' H' → D.nx σ' H' := fun σ' G' H' f m => n σ' G' H' (f1.trans f) m
    have r' : ∀ v G' H', RT G1 H1 v G' H' → D.rt v H' := fun v G' H' x => r v G' H' (tr.run f1 x)
    cases b with
    | true => exact h1 rfl σ G1 H1 D f1.l (st.run g f1) n' r'
    | false => exact h2 rfl σ G1 H1 D f1.l (st.run g f1) n' r'
theorem gd_next (h : ∀ σ G H, Γ σ G H → NX σ G H) : Gd tNext Γ NX RT := fun σ G H D e g n r => n σ G H (.refl e) (h σ G H g)
theorem gd_ret (h : GvR te Γ RT) : Gd (tRet te) Γ NX RT := fun σ G H D e g n r => h σ G H e g _ r
theorem gd_asg {i : Nat} {d : Dy} (st : Stb Γ) (h : Gv te Γ d) (q : ∀ σ G H v, Γ σ G H → RpD G v d → NX (σ.set i (some v)) G H) : Gd (tAsg te (gName i)) Γ NX RT := fun σ G H D e g n r =>
  h σ G H e g _ fun v G1 H1 f1 r1 => n _ G1 H1 f1 (q σ G1 H1 v (st.run g f1) r1)
theorem gvR_if {c : TT} {b : Bool} (st : Stb Γ) (tr : TrR RT) (h : Gt c Γ b) (h1 : b = true → GvR ta Γ RT) (h2 : b = false → GvR tb Γ RT) : GvR (tIf c ta tb) Γ RT := fun σ G H e g Q q =>
  h σ G H e g _ fun G1 H1 f1 => by
    cases b with
    | true => exact h1 rfl σ G1 H1 f1.l (st.run g f1) Q fun v G' H' x => q v G' H' (tr.run f1 x)
    | false => exact h2 rfl σ G1 H1 f1.l (st.run g f1) Q fun v G' H' x => q v G' H' (tr.run f1 x)
end
/-! ### the desk -/
abbrev DS : Type := List Int × List (List (List Int))
abbrev tyM : Ty := .lst (.lst .int)
def DeskAt (C : Addr) (G H : Hp) (a q : Addr) (S : DS) : Prop := ∃ (dx r : Addr) (vs : List V), H a = some (.ins C dx [("ring", .ref r), ("kept", .ref q)]) ∧ G a = none ∧ G q = none ∧ H q = some (.lst vs) ∧ Paired (fun (u : V) (x : List (List Int)) => Rp G tyM u x) vs S.2 ∧ RpD G (.ref r) (dV S.1)
theorem DeskAt.step {C : Addr} {G H G' H' : Hp} {a q : Addr} {S : DS} (d : DeskAt C G H a q S) (f : Fr G H G' H') : DeskAt C G' H' a q S := by
  obtain ⟨dx, r, vs, h1, h2, h3, h4, h5, h6⟩ := d
  exact ⟨dx, r, vs, f.h a _ h1, f.n a (by rw [h1]; simp) h2, f.n q (by rw [h4]; simp) h3, f.h q _ h4, Paired.imp (fun u x h => Rp.mono f.g _ _ _ h) h5, h6.mono f.g⟩
/-- all but the desk stands -/
structure FrD (a q : Addr) (G H G' H' : Hp) : Prop where
  g : Ex G G'
  l : Ex G' H'
  h : ∀ x o, x ≠ a → x ≠ q → H x = some o → H' x = some o
  n : ∀ x, H x ≠ none → G x = none → G' x = none
  k : ∀ x, H x ≠ none → H' x ≠ none
theorem Fr.toD {a q : Addr} {G H G' H' : Hp} (f : Fr G H G' H') : FrD a q G H G' H' := ⟨f.g, f.l, fun x o _ _ h => f.h x o h, f.n, fun x h e => by
  cases q : H x with
  | none => exact h q
  | some o => rw [f.h x o q] at e; cases e⟩
theorem FrD.trans {a q q1 : Addr} {G H G1 H1 G' H' : Hp} (f : FrD a q G H G1 H1) (hq : q1 = q ∨ H q1 = none) (g : FrD a q1 G1 H1 G' H') : FrD a q G H G' H' :=
  ⟨f.g.trans g.g, g.l, fun x o h1 h2 e => g.h x o h1 (fun z => hq.elim (fun y => h2 (z.trans y)) fun y => by rw [← z, e] at y; cases y) (f.h x o h1 h2 e), fun x h1 h2 => g.n x (f.k x h1) (f.n x h1 h2), fun x h => g.k x (f.k x h)⟩
def RtM (C a q : Addr) (rt : Dy → DS → Prop) : RTy := fun G H v G' H' => ∃ d S' q', rt d S' ∧ FrD a q G H G' H' ∧ DeskAt C G' H' a q' S' ∧ (q' = q ∨ H q' = none) ∧ RpD G' v d
theorem none_back {G H G1 H1 : Hp} (f : Fr G H G1 H1) {x : Addr} (h : H1 x = none) : H x = none := by
  cases e : H x with
  | none => rfl
  | some o => rw [f.h x o e] at h; cases h
theorem RtM.tr {C a q : Addr} {rt : Dy → DS → Prop} : TrR (RtM C a q rt) := ⟨fun f ⟨d, S', q', h1, h2, h3, h4, h5⟩ => ⟨d, S', q', h1, f.toD.trans (.inl rfl) h2, h3, h4.imp id fun h => none_back f h, h5⟩⟩
def RtP (rt : Dy → Prop) : RTy := fun G H v G' H' => Fr G H G' H' ∧ ∃ d, rt d ∧ RpD G' v d
theorem RtP.tr {rt : Dy → Prop} : TrR (RtP rt) := ⟨fun f ⟨h1, h2⟩ => ⟨f.trans h1, h2⟩⟩
/-- the slots, and the desk in the first one -/
def Kx (C : Addr) (τ : Tau) (S : DS) (a q : Addr) : Cxt := fun σ G H => Sls σ G H τ none ∧ DeskAt C G H a q S ∧ σ[0]? = some (some (.ref a))
theorem Kx.st {C : Addr} {τ : Tau} {S : DS} {a q : Addr} : Stb (Kx C τ S a q) := ⟨fun ⟨h1, h2, h3⟩ f => ⟨h1.step f, h2.step f, h3⟩⟩
theorem Kx.set {C : Addr} {τ : Tau} {S : DS} {a q : Addr} {i : Nat} {d : Dy} (hi : i ≠ 0) (σ : L2.St) (G H : Hp) (v : V) (k : Kx C τ S a q σ G H) (r : RpD G v d) : Kx C (τ.set i (some d)) S a q (σ.set i (some v)) G H :=
  ⟨k.1.set r fun w hw => (by cases hw), k.2.1, by rw [List.getElem?_set_ne hi]; exact k.2.2⟩
structure DTx (K : PySem.W.Frag) (C : Addr) : Prop where
  cl : Cls K C
  nR : NoAttr K C "ring"
  nK : NoAttr K C "kept"
theorem lk_here {name : Str} {it : V} {more : List (Str × V)} : List.lookup name ((name, it) :: more) = some it := by
  simp only [List.lookup, beq_self_eq_true name]
theorem lk_past {name other : Str} {it : V} {more : List (Str × V)} (apart : (name == other) = false) : List.lookup name ((other, it) :: more) = List.lookup name more := by
  simp only [List.lookup, apart]
section
variable {K : PySem.W.Frag} {C a q : Addr} {τ : Tau} {S : DS} {te ta tb : TE}
theorem gv_k {d : Dy} (h : Ev te τ none d) : Gv te (Kx C τ S a q) d := gv_of h fun g => g.1
theorem gt_k {t : TT} {b : Bool} (h : Et t τ none b) : Gt t (Kx C τ S a q) b := gt_of h fun g => g.1
theorem fld_ring (T : DTx K C) {σ : L2.St} {G H : Hp} (k : Kx C τ S a q σ G H) {Q : VK} (h : ∀ r, RpD G (.ref r) (dV S.1) → Q (.ref r) H) : tFld K (tVar 0) "ring" σ H Q := by
  obtain ⟨h1, ⟨dx, r, vs, h2, _, _, _, _, h6⟩, h3⟩ := k
  exact ⟨.ref a, h3, a, C, dx, _, .ref r, rfl, h2, T.cl, T.nR, lk_here, h r h6⟩
theorem fld_kept (T : DTx K C) {σ : L2.St} {G H : Hp} (k : Kx C τ S a q σ G H) {Q : VK} (h : Q (.ref q) H) : tFld K (tVar 0) "kept" σ H Q := by
  obtain ⟨h1, ⟨dx, r, vs, h2, _, _, _, _, h6⟩, h3⟩ := k
  exact ⟨.ref a, h3, a, C, dx, _, .ref q, rfl, h2, T.cl, T.nK, (lk_past (by decide +kernel)).trans lk_here, h⟩
theorem gv_ring (T : DTx K C) : Gv (tFld K (tVar 0) "ring") (Kx C τ S a q) (dV S.1) := fun σ G H e k Q h => fld_ring T k fun r x => h _ G H (.refl e) x
theorem gv_lenKept (T : DTx K C) : Gv (tCB (fun xs H Q => ∃ p ys, xs = [.ref p] ∧ (SqL K H p ys ∨ SqT K H p ys) ∧ Q (.int ys.length) H) (tCons (tFld K (tVar 0) "kept") tNil)) (Kx C τ S a q) (dI (S.2.length : Int)) := fun σ G H e k Q h => by
  obtain ⟨dx, r, vs, h2, _, _, h4, h5, h6⟩ := k.2.1
  refine fld_kept T k ?_
  exact ⟨q, vs, rfl, .inl (.of h4), h _ G H (.refl e) (by show V.int _ = V.int _; rw [paired_len h5])⟩
theorem gv_kept (T : DTx K C) {i : Int} {x : List (List Int)} (hb : Gv tb (Kx C τ S a q) (dI i)) (hx : atI S.2 i = some x) : Gv (tOp (rIxL K) (tFld K (tVar 0) "kept") tb) (Kx C τ S a q) (dM x) := fun σ G H e k Q h => by
  refine fld_kept T k ?_
  refine hb σ G H e k _ fun y G1 H1 f1 r1 => ?_
  obtain rfl : y = .int i := r1
  obtain ⟨dx, r, vs, h2, _, _, h4, h5, h6⟩ := (Kx.st.run k f1).2.1
  unfold atI at hx
  obtain ⟨j, hj, hx⟩ := Option.bind_eq_some_iff.mp hx
  obtain ⟨w, hw, rw_⟩ := paired_get h5 hx
  refine ⟨q, vs, i, w, rfl, rfl, .of h4, ?_, h w G1 H1 f1 rw_⟩
  unfold atI
  rw [paired_len h5, hj]
  exact hw
theorem gt_keptNil (T : DTx K C) : Gt (tTest (tOp (rEqD K) (tFld K (tVar 0) "kept") (tLst tNil))) (Kx C τ S a q) (decide (S.2 = [])) := fun σ G H e k Q h => by
  unfold tTest tOp
  refine fld_kept T k ?_
  refine ⟨by show 0 ≤ sizeLine; exact Nat.zero_le _, fun p hp => ?_⟩
  obtain ⟨f, hp'⟩ := Fr.new (o := .lst []) e hp
  obtain ⟨dx, r, vs, h2, _, _, h4, h5, h6⟩ := (Kx.st.run k f).2.1
  refine ⟨.list (S.2.map (enc tyM)), .list [], .lst (.of h4) (dpAll (fun v x h => dp_of tyM v x rfl (Rp.mono f.l _ _ _ h)) h5), .lst (.of upd_same) .nil, ?_, ?_, ?_⟩
  · exact shaped_enc (t := .lst tyM) (x := S.2) (by decide)
  · exact shaped_enc (t := .lst tyM) (x := ([] : List (List (List Int)))) (by decide)
  · refine ⟨_, rfl, ?_⟩
    have : PyData.eqv (.list (S.2.map (enc tyM))) (.list []) = decide (S.2 = []) := by
      cases S.2 with
      | nil => simp [PyData.eqv, PyData.eqvAll]
      | cons x l => simp [PyData.eqv, PyData.eqvAll]
    rw [this]
    exact h _ _ f
/-! calls with the desk -/
def spR (C : Addr) (F : DS → List Dy → Dy → Prop) : Sp := fun vs H Q _ => ∃ G a q us S ds d, Ex G H ∧ DeskAt C G H a q S ∧ vs = V.ref a :: us ∧ RpA G us ds ∧ F S ds d ∧ ∀ v G' H', Fr G H G' H' → RpD G' v d → Q v H'
def spM (C : Addr) (F : DS → List Dy → Dy → DS → Prop) : Sp := fun vs H Q _ => ∃ G a q us S ds d S', Ex G H ∧ DeskAt C G H a q S ∧ vs = V.ref a :: us ∧ RpA G us ds ∧ F S ds d S' ∧ ∀ v G' H' q', FrD a q G H G' H' → DeskAt C G' H' a q' S' → (q' = q ∨ H q' = none) → RpD G' v d → Q v H'
theorem gv_callR {F : DS → List Dy → Dy → Prop} {tr : TA} {E : XK} {ds : List Dy} {d : Dy} (h : Ga tr (Kx C τ S a q) ds) (hF : F S ds d) : Gv (tCall (spR C F) [] E (tCons (tVar 0) tr)) (Kx C τ S a q) d := fun σ G H e k Q z =>
  ⟨.ref a, k.2.2, h σ G H e k _ fun vs G1 H1 f1 r1 => ⟨G1, a, q, vs, S, ds, d, f1.l, (Kx.st.run k f1).2.1, by rw [List.append_nil], r1, hF, fun v G' H' f2 r2 => z v G' H' (f1.trans f2) r2⟩⟩
theorem gvR_callM {F : DS → List Dy → Dy → DS → Prop} {rt : Dy → DS → Prop} {tr : TA} {E : XK} {ds : List Dy} {d : Dy} {S' : DS} (h : Ga tr (Kx C τ S a q) ds) (hF : F S ds d S') (hr : rt d S') : GvR (tCall (spM C F) [] E (tCons (tVar 0) tr)) (Kx C τ S a q) (RtM C a q rt) := fun σ G H e k Q z =>
  ⟨.ref a, k.2.2, h σ G H e k _ fun vs G1 H1 f1 r1 => ⟨G1, a, q, vs, S, ds, d, S', f1.l, (Kx.st.run k f1).2.1, by rw [List.append_nil], r1, hF, fun v G' H' q' f2 hd hq r2 => z v G' H' (RtM.tr.run f1 ⟨d, S', q', hr, f2, hd, hq, r2⟩)⟩⟩
theorem gvR_P {d : Dy} {rt : Dy → Prop} {Γ : Cxt} (h : Gv te Γ d) (hr : rt d) : GvR te Γ (RtP rt) := fun σ G H e g Q z => h σ G H e g Q fun v G' H' f r => z v G' H' ⟨f, d, hr, r⟩
theorem gvR_M {d : Dy} {rt : Dy → DS → Prop} (h : Gv te (Kx C τ S a q) d) (hr : rt d S) : GvR te (Kx C τ S a q) (RtM C a q rt) := fun σ G H e g Q z => h σ G H e g Q fun v G' H' f r => z v G' H' ⟨d, S, q, hr, f.toD, g.2.1.step f, .inl rfl, r⟩
/-- the rest asks nothing of the desk -/
theorem gd_pure {t : TS} {rt : Dy → Prop} {NX : Cxt} (h : Sd t τ none (fun _ _ => False) rt) : Gd t (Kx C τ S a q) NX (RtP rt) := fun σ G H D e k n r =>
  h G H σ G H D (.refl e) k.1 trivial (fun _ _ _ _ _ m => m.elim) fun d v G' H' hd f x => r v G' H' ⟨f, d, hd, x⟩
/-- a statement that changes the desk, then a return -/
theorem gd_mut {t : TS} {τ' : Tau} {S' : DS} {rt : Dy → DS → Prop} {NX : Cxt} (h : ∀ σ G H (D : Ends), Ex G H → Kx C τ S a q σ G H → (∀ G1 H1 q1, FrD a q G H G1 H1 → Kx C τ' S' a q1 σ G1 H1 → (q1 = q ∨ H q1 = none) → D.nx σ H1) → t D σ H)
    (hr : ∀ q1, GvR te (Kx C τ' S' a q1) (RtM C a q1 rt)) : Gd (tSeq t (tRet te)) (Kx C τ S a q) NX (RtM C a q rt) := fun σ G H D e k n r =>
  h σ G H { D with nx := (tRet te) D } e k fun G1 H1 q1 f k1 hq => hr q1 σ G1 H1 f.l k1 _ fun v G' H' ⟨d, S2, q2, h1, h2, h3, h4, h5⟩ => r v G' H' ⟨d, S2, q2, h1, f.trans hq h2, h3, by
    rcases h4 with h4 | h4
    · rw [h4]; exact hq
    · right
      cases e : H q2 with
      | none => rfl
      | some o => exact absurd h4 (f.k q2 (by rw [e]; simp)), h5⟩
end
/-! ### defs with the desk -/
def startK (N : List Str) (ds : List Dy) : Tau := none :: (ds.map some ++ List.replicate (N.length - (ds.length + 1)) none)
theorem kx_start {C : Addr} {G H : Hp} {N : List Str} {a q : Addr} {us : List V} {ds : List Dy} {S : DS} (r : RpA G us ds) (d : DeskAt C G H a q S) : Kx C (startK N ds) S a q (L2.start N (V.ref a :: us)) G H := by
  refine ⟨⟨fun i d h => ?_, by simp [L2.start, startK, r.len], trivial⟩, d, rfl⟩
  unfold startK at h
  cases i with
  | zero => simp at h
  | succ i =>
    rw [List.getElem?_cons_succ] at h
    by_cases hi : i < (ds.map some).length
    · rw [List.getElem?_append_left hi] at h
      simp only [List.getElem?_map, Option.map_eq_some_iff] at h
      obtain ⟨d', h, e⟩ := h
      cases e
      obtain ⟨v, h1, h2⟩ := rpA_get r h
      refine ⟨v, ?_, h2⟩
      unfold L2.start
      rw [List.map_cons, List.cons_append, List.getElem?_cons_succ, List.getElem?_append_left (by simp at hi; simp [r.len, hi])]
      simp [h1]
    · rw [List.getElem?_append_right (by omega), List.getElem?_replicate] at h
      split at h <;> cases h
theorem fn_read {P : Program} {w : World} {K : PySem.W.Frag} {mg : Str → Option Value} {base : Heap} {x qual : Str} {st : Stmt} {f C : Addr} {fd : FuncData} {N ps : List Str} {k : Nat} {F : DS → List Dy → Dy → Prop} (Fn : Fun K x qual st f fd) (Sc : FnScope N ps (defScope st))
    (len : ∀ S ds d, F S ds d → ds.length + 1 = ps.length)
    (hbody : ∀ (cdv : Value) (A : Around) (outer : List Env) (s : Shared) (H : Hp) (E : XK), Room k (A.deeper (envOfC qual (defScope st) s.heap.objs.size f cdv)) → ∀ S ds d, F S ds d →
      ∃ t, PSs (cxOf CX0 P w K mg base N qual (defScope st) f cdv A outer s H E).nox (defBody st) t ∧ ∀ a q, Gd t (Kx C (startK N ds) S a q) (fun _ _ _ => False) (RtP fun d' => d' = d)) : FnOk P w K mg base CX0 (k + 1) f fd ps (spR C F) := by
  refine Fn.ok Sc (fun vs H Q E ⟨G, a, q, us, S, ds, d, e, hd, ev, r, hF, _⟩ => by rw [ev, List.length_cons, r.len]; exact len S ds d hF) fun cdv A outer s H vs Q E hr ⟨G, a, q, us, S, ds, d, e, hd, ev, r, hF, z⟩ => ?_
  subst ev
  obtain ⟨t, h1, h2⟩ := hbody cdv A outer s H E hr S ds d hF
  exact ⟨t, h1, h2 a q _ G H _ e (kx_start r hd) (fun _ _ _ _ m => m.elim) fun v G' H' ⟨f', d', e', r'⟩ => by subst e'; exact z v G' H' f' r'⟩
theorem fn_mut {P : Program} {w : World} {K : PySem.W.Frag} {mg : Str → Option Value} {base : Heap} {x qual : Str} {st : Stmt} {f C : Addr} {fd : FuncData} {N ps : List Str} {k : Nat} {F : DS → List Dy → Dy → DS → Prop} (Fn : Fun K x qual st f fd) (Sc : FnScope N ps (defScope st))
    (len : ∀ S ds d S', F S ds d S' → ds.length + 1 = ps.length)
    (hbody : ∀ (cdv : Value) (A : Around) (outer : List Env) (s : Shared) (H : Hp) (E : XK), Room k (A.deeper (envOfC qual (defScope st) s.heap.objs.size f cdv)) → ∀ S ds d S', F S ds d S' →
      ∃ t, PSs (cxOf CX0 P w K mg base N qual (defScope st) f cdv A outer s H E).nox (defBody st) t ∧ ∀ a q, Gd t (Kx C (startK N ds) S a q) (fun _ _ _ => False) (RtM C a q fun d' S2 => d' = d ∧ S2 = S')) : FnOk P w K mg base CX0 (k + 1) f fd ps (spM C F) := by
  refine Fn.ok Sc (fun vs H Q E ⟨G, a, q, us, S, ds, d, S', e, hd, ev, r, hF, _⟩ => by rw [ev, List.length_cons, r.len]; exact len S ds d S' hF) fun cdv A outer s H vs Q E hr ⟨G, a, q, us, S, ds, d, S', e, hd, ev, r, hF, z⟩ => ?_
  subst ev
  obtain ⟨t, h1, h2⟩ := hbody cdv A outer s H E hr S ds d S' hF
  exact ⟨t, h1, h2 a q _ G H _ e (kx_start r hd) (fun _ _ _ _ m => m.elim) fun v G' H' ⟨d', S2, q', ⟨e1, e2⟩, f', hd', hq, r'⟩ => by subst e1 e2; exact z v G' H' q' f' hd' hq r'⟩
end Wk

/-! WkM: ring.py, what changes the desk -/
namespace Wk
open PySem L2 PyProof.Rows PySem.Spec
/-! ### rules that were lacking -/
theorem pe_fldK {X : Cx} {K : PySem.W.Frag} {e : Expr} {f : Str} {pos : Pos} {ta : TE} (h : X.K = K) (he : PE X e ta) (hb : attributeBase e f X.env (eval e X.env) = eval e X.env) : PE X (.Attribute e f pos) (tFld K ta f) := h ▸ pe_fld he hb
/-- an attribute among targets -/
def gFld (K : PySem.W.Frag) (to : TE) (f : Str) : TG := fun v σ H Q => to σ H fun x H2 => ∃ a C dx fs, x = V.ref a ∧ H2 a = some (.ins C dx fs) ∧ Cls K C ∧ NoAttr K C f ∧ fs.length < 1000 ∧ Q σ (upd H2 a (.ins C dx (putF f v fs)))
theorem pg_fldK {X : Cx} {K : PySem.W.Frag} {o : Expr} {f : Str} {pos : Pos} {to : TE} (hK : X.K = K) (ho : PE X o to) : PG X (.Attribute o f pos) (gFld K to f) := by
  subst hK
  refine ⟨fun pins s σ H v u Q I r h => ?_⟩
  rw [arm_assign_Attribute]
  refine wpAny_bind (wpAny_holding (thn (ho.run pins s σ H _ I h) fun ov s1 ⟨x, H1, I1, rx, a, C, dx, fs, ex, ea, c, n, l, q⟩ => ?_))
  subst ex
  obtain rfl : ov = Value.ref a := rx
  refine wpAny_bind (wpAny_standAt (wpAny_bind (wpAny_holding (setattr_ok I1 ea c n l r fun s2 I2 => ?_))))
  exact wpAny_release ⟨σ, _, I2, q⟩
/-- a method that may be called -/
structure MtOk (P : Program) (w : World) (K : PySem.W.Frag) (mg : Str → Option Value) (base : Heap) (k : Nat) (C : Addr) (m : Str) (ps : List Str) (sp : Sp) : Prop where
  ex : ∃ (f : Addr) (fd : FuncData), FnOk P w K mg base CX0 k f fd ps sp ∧ Meth K C m f ∧ Binds K fd ps []
theorem pe_methD {X : Cx} {k : Nat} {C : Addr} {m : Str} {ps : List Str} {sp : Sp} {pos apos : Pos} {o e : Expr} {es : List Expr} {ta : TE} {t : TA} {pl : Sem Bool} (d : MtOk X.prog X.w X.K X.mg X.base k C m ps sp) (c : Cls X.K C) (hr : Room k X.A) (he : PE X o ta) (ha : PA X (e :: es) t)
    (plain1 : starEach (e :: es) X.env = (false, eval e X.env) :: starEach es X.env := by rfl) (plain2 : (backTo pos (starEach es X.env)).any (·.1) = false := by rfl)
    (told : eval (.Call (.Attribute o m apos) (e :: es) [] pos) X.env = (do let owner ← eval o X.env; standAt apos.atName; let (its, first) ← holding [owner] (getMethod owner m pl); callWith pos its first (backTo pos (starEach (e :: es) X.env)) (backToKw pos (keywordEach [] X.env))) := by rfl) : PE X (.Call (.Attribute o m apos) (e :: es) [] pos) (tMeth C m sp [] E0 ta t) := by
  obtain ⟨f, fd, F, hm, hb⟩ := d.ex
  exact pe_meth (pl := pl) he c hm F hr hb .nil pass0 ha plain1 plain2 told
section
variable {Γ NX : Cxt} {RT : RTy} {te : TE} {t u : TS}
theorem gd_exit {c : TT} (st : Stb Γ) (tr : TrR RT) (h : Gt c Γ true) (hr : GvR te Γ RT) : Gd (tSeq (tIfS c (tRet te) tNext) u) Γ NX RT :=
  gd_seq (MID := fun _ _ _ => False) tr (gd_if st tr h (fun _ => gd_ret hr) (fun h => Bool.noConfusion h)) fun σ G H D e g => g.elim
theorem gd_pass {c : TT} (st : Stb Γ) (tr : TrR RT) (h : Gt c Γ false) (hu : Gd u Γ NX RT) : Gd (tSeq (tIfS c t tNext) u) Γ NX RT :=
  gd_seq tr (gd_if st tr h (fun h => Bool.noConfusion h) (fun _ => gd_next fun _ _ _ g => g)) hu
end
/-! ### what is kept -/
def DOk (S : DS) : Prop := RingOk S.1 ∧ Nf01.prime S.1 = true ∧ S.2.length ≤ 8 ∧ ∀ a ∈ S.2, Ir.Hnf S.1.length a ∧ Nf02.norm a ≤ Nf02.BIG
def stp (S : DS) (c : Nf02.Call) : DS := ((Nf02.step ⟨S.1, S.2⟩ c).1.k, (Nf02.step ⟨S.1, S.2⟩ c).1.l)
def ans (S : DS) (c : Nf02.Call) : List Int := Nf02Neutral.out (Nf02.step ⟨S.1, S.2⟩ c).2
theorem DOk.kp {S : DS} (h : DOk S) {a : List (List Int)} (ha : a ∈ S.2) : Ir.Kp S.1.length a := (Ir.norm_kp (h.2.2.2 a ha).1 (h.2.2.2 a ha).2).1
/-- a list of one number -/
theorem en_one {τ : Tau} {o : Ow} {ta : TE} {i : Int} (h : Ev ta τ o (dI i)) : Ev (tLst (tCons ta tNil)) τ o (dV [i]) := ev_lst (ty := .int) (xs := [i]) (ea_cons h ea_nil) (by simp)
theorem gv_one {Γ : Cxt} {ta : TE} {i : Int} (st : Stb Γ) (h : Gv ta Γ (dI i)) : Gv (tLst (tCons ta tNil)) Γ (dV [i]) := gv_lst (ty := .int) (xs := [i]) (ga_cons st h ga_nil) (by simp)
abbrev s_are_within : Stmt := topS 73
abbrev N_are_within : List Str := ["numbers", "bound", "number"]
theorem sc_are_within : FnScope N_are_within ["numbers", "bound"] (defScope s_are_within) := ⟨rfl, rfl, rfl, by decide +kernel, rfl, by decide +kernel, by decide +kernel⟩
abbrev s_put_ring : Stmt := topS 74
abbrev N_put_ring : List Str := ["desk", "numbers"]
theorem sc_put_ring : FnScope N_put_ring ["desk", "numbers"] (defScope s_put_ring) := ⟨rfl, rfl, rfl, by decide +kernel, rfl, by decide +kernel, by decide +kernel⟩
abbrev s_keep : Stmt := topS 75
abbrev N_keep : List Str := ["desk", "rows"]
theorem sc_keep : FnScope N_keep ["desk", "rows"] (defScope s_keep) := ⟨rfl, rfl, rfl, by decide +kernel, rfl, by decide +kernel, by decide +kernel⟩
abbrev s_drop : Stmt := topS 83
abbrev N_drop : List Str := ["desk"]
theorem sc_drop : FnScope N_drop ["desk"] (defScope s_drop) := ⟨rfl, rfl, rfl, by decide +kernel, rfl, by decide +kernel, by decide +kernel⟩
abbrev s_init : Stmt := inClass (topS 72) 0
abbrev s_is_there : Stmt := inClass (topS 72) 1
theorem sc_init : FnScope ["self"] ["self"] (defScope s_init) := ⟨rfl, rfl, rfl, by decide +kernel, rfl, by decide +kernel, by decide +kernel⟩
theorem sc_is_there : FnScope ["self", "number"] ["self", "number"] (defScope s_is_there) := ⟨rfl, rfl, rfl, by decide +kernel, rfl, by decide +kernel, by decide +kernel⟩
section
variable {K : PySem.W.Frag} {mg : Str → Option Value} {base : Heap} {P : Program} {w : World} {C : Addr}
def F_are_within : List Dy → Dy → Prop := fun ds d => ∃ (x : List Int) (b : Int), ds = [dV x, dI b] ∧ x.length ≤ 1000 ∧ d = dB (x.all fun z => decide ((z.natAbs : Int) ≤ b))
theorem ok_are_within {f : Addr} {fd : FuncData} {j : Nat} (Fn : Fun K "are_within" "are_within" s_are_within f fd) (T : Bt mg) : FnOk P w K mg base CX0 (j + 1) f fd ["numbers", "bound"] (spD F_are_within) := by
  refine fn_pure Fn sc_are_within (fun ds d ⟨x, b, e, _⟩ => by rw [e]; rfl) fun cdv A outer s H E hr ds d ⟨x, b, e, hl, ed⟩ => ?_
  subst e ed
  refine ⟨_, (pss_one (ps_ret (pe_callB (allK (K := K) rfl rfl) (by rfl) T.b_all (by decide +kernel) (pa_cons (pe_lc (own := [("number", 2)]) rfl sc_are_within.nd (pi_listK (K := K) rfl (pv 0)) (blkOk_by (own := [("number", 2)]) (N := N_are_within) (sc := defScope s_are_within) (by decide +kernel)) (fun _ _ _ _ _ => (pg_name (i := 2) sc_are_within.nd rfl (Or.inl rfl))) (fun _ _ _ _ _ => pts_nil) (fun _ _ _ _ _ => (pe_cmpR op_le (pe_callB call_abs (by rfl) T.b_abs (by decide +kernel) (pa_cons (pv 2) pa_nil)) (pv 1) (nomark _)))) pa_nil)))), ?_⟩
  refine sd_ret (Ev.eq (ev_all (bs := x.map fun z => decide ((z.natAbs : Int) ≤ b)) (en_lcM (s := .int) (u := .bl) (xs := x) (f := fun (z : Int) => decide ((z.natAbs : Int) ≤ b)) (ev_var rfl) (by decide) no_ow (small_line hl) fun i z hz => ?_).ev) (congrArg dB ?_)) rfl
  · exact ev_B0 (g := fun i j => decide (i ≤ j)) (ev_abs (ev_var rfl)) (ev_var rfl)
  · rw [List.all_map]; rfl
/-! the object -/
def spInit (C : Addr) : Sp := fun vs H Q _ => ∃ (p dx : Addr), vs = [V.ref p] ∧ H p = some (.ins C dx []) ∧ ∀ (H' : Hp) (r q : Addr), H r = none → H q = none → r ≠ q → H' p = some (.ins C dx [("ring", .ref r), ("kept", .ref q)]) → H' r = some (.lst [.int 1, .int 0]) → H' q = some (.lst []) → (∀ x o, x ≠ p → H x = some o → H' x = some o) → Q .non H'
theorem putF_1 {v : V} : putF "ring" v [] = [(("ring" : Str), v)] := rfl
theorem putF_2 {v w : V} : putF "kept" w [(("ring" : Str), v)] = [(("ring" : Str), v), (("kept" : Str), w)] := by
  unfold putF
  rw [if_neg (by decide +kernel)]; rfl
theorem putF_both {v w x y : V} : putF "kept" w (putF "ring" v [(("ring" : Str), x), (("kept" : Str), y)]) = [(("ring" : Str), v), (("kept" : Str), w)] := by
  have e1 : putF "ring" v [(("ring" : Str), x), (("kept" : Str), y)] = [(("ring" : Str), v), (("kept" : Str), y)] := if_pos rfl
  rw [e1]
  unfold putF
  rw [if_neg (by decide +kernel)]
  exact congrArg _ (if_pos rfl)
theorem ok_init {f : Addr} {fd : FuncData} {j : Nat} (Fn : Fun K "__init__" "Desk.__init__" s_init f fd) (D : DTx K C) : FnOk P w K mg base CX0 (j + 1) f fd ["self"] (spInit C) := by
  refine Fn.ok sc_init (fun vs H Q E ⟨p, dx, e, _⟩ => by rw [e]; rfl) fun cdv A outer s H vs Q E hr ⟨p, dx, e, hp, z⟩ => ?_
  subst e
  refine ⟨_, pss_cons (ps_fld (pv 0) (pe_lst (pa_cons pe_int (pa_cons pe_int pa_nil))) rfl) (pss_one (ps_fld (pv 0) (pe_lst pa_nil) rfl)), ?_⟩
  refine ⟨by show 2 ≤ sizeLine; decide, fun r hr' => ?_⟩
  have hpr : p ≠ r := fun e => by rw [← e, hp] at hr'; cases hr'
  refine ⟨.ref p, rfl, p, C, dx, [], rfl, by rw [upd_ne hpr]; exact hp, D.cl, D.nR, by show 0 < 1000; decide, ?_⟩
  refine ⟨by show 0 ≤ sizeLine; exact Nat.zero_le _, fun q hq => ?_⟩
  have hqp : p ≠ q := fun e => by rw [← e, upd_same] at hq; cases hq
  have hqr : r ≠ q := fun e => by rw [← e, upd_ne (Ne.symm hpr), upd_same] at hq; cases hq
  have hq0 : H q = none := by rw [upd_ne (Ne.symm hqp), upd_ne (Ne.symm hqr)] at hq; exact hq
  refine ⟨.ref p, rfl, p, C, dx, [("ring", .ref r)], rfl, by rw [upd_ne hqp, upd_same, putF_1], D.cl, D.nK, by show 1 < 1000; decide, ?_⟩
  refine z _ r q hr' hq0 hqr (by rw [upd_same, putF_2]) ?_ ?_ fun x o hx e => ?_
  · rw [upd_ne (Ne.symm hpr), upd_ne hqr, upd_ne (Ne.symm hpr), upd_same]
  · rw [upd_ne (Ne.symm hqp), upd_same]
  · rw [upd_ne hx, upd_ne (ne_of_none e hq0), upd_ne hx, upd_ne (ne_of_none e hr')]; exact e
def F_is_there : DS → List Dy → Dy → Prop := fun S ds d => ∃ i : Int, ds = [dI i] ∧ d = dB (decide (0 ≤ i) && decide (i < (S.2.length : Int)))
theorem gv_chain {Γ : Cxt} {ta tb tc : TE} {g h : Int → Int → Bool} {i j k : Int} (st : Stb Γ) (ha : Gv ta Γ (dI i)) (hb : Gv tb Γ (dI j)) (hc : Gv tc Γ (dI k)) : Gv (tChain (rI0 fun i j => .bl (g i j)) (rI0 fun i j => .bl (h i j)) ta tb tc) Γ (dB (g i j && h j k)) := fun σ G H e s Q q =>
  ha σ G H e s _ fun x G1 H1 f1 r1 => hb σ G1 H1 f1.l (st.run s f1) _ fun y G2 H2 f2 r2 => by
    refine ⟨i, j, r1, r2, g i j, rfl, ?_⟩
    cases hg : g i j with
    | true =>
      simp only [if_true]
      refine hc σ G2 H2 f2.l (st.run s (f1.trans f2)) _ fun w G3 H3 f3 r3 => ⟨j, k, r2, r3, q _ G3 H3 ((f1.trans f2).trans f3) ?_⟩
      show V.bl (h j k) = V.bl (g i j && h j k)
      rw [hg, Bool.true_and]
    | false =>
      simp only [Bool.false_eq_true, if_false]
      exact q _ G2 H2 (f1.trans f2) (by show V.bl false = V.bl (g i j && h j k); rw [hg, Bool.false_and])
theorem ok_is_there {f : Addr} {fd : FuncData} {j : Nat} (Fn : Fun K "is_there" "Desk.is_there" s_is_there f fd) (T : Bt mg) (Dt : DTx K C) : FnOk P w K mg base CX0 (j + 1) f fd ["self", "number"] (spR C F_is_there) := by
  refine fn_read Fn sc_is_there (fun S ds d ⟨i, e, _⟩ => by rw [e]; rfl) fun cdv A outer s H E hr S ds d ⟨i, e, ed⟩ => ?_
  subst e ed
  refine ⟨_, pss_one (ps_ret (pe_chain op_le op_lt pe_int (pv 1) (pe_callB (lenK (K := K) rfl) (by rfl) T.b_len (by decide +kernel) (pa_cons (pe_fldK (K := K) rfl (pv 0) rfl) pa_nil)))), fun a q => ?_⟩
  exact gd_ret (gvR_P (gv_chain (g := fun i j => decide (i ≤ j)) (h := fun i j => decide (i < j)) Kx.st gv_int (gv_k (ev_var rfl)) (gv_lenKept Dt)) rfl)
theorem gv_is_there {a q : Addr} {τ : Tau} {S : DS} {te : TE} {i : Int} (h : Gv te (Kx C τ S a q) (dI i)) : Gv (tMeth C "is_there" (spR C F_is_there) [] E0 (tVar 0) (tCons te tNil)) (Kx C τ S a q) (dB (decide (0 ≤ i) && decide (i < (S.2.length : Int)))) := fun σ G H e k Q z => by
  obtain ⟨h1, ⟨dx, r, vs, h2, _⟩, h3⟩ := id k
  refine ⟨.ref a, h3, a, dx, _, rfl, h2, (lk_past (by decide +kernel)).trans ((lk_past (by decide +kernel)).trans rfl), h σ G H e k _ fun v G1 H1 f1 r1 => ?_⟩
  exact ⟨G1, a, q, [v], S, [dI i], _, f1.l, (Kx.st.run k f1).2.1, rfl, .cons r1 .nil, ⟨i, rfl, rfl⟩, fun v G' H' f2 r2 => z v G' H' (f1.trans f2) r2⟩
/-! one more -/
def F_keep : DS → List Dy → Dy → DS → Prop := fun S ds d S' => ∃ (rows : List (List Int)) (n : Nat), ds = [dM rows] ∧ n ≤ 4 ∧ Ir.Tri n n rows ∧ (∀ x ∈ rows, Bits Ir.BF x) ∧ S.2.length ≤ 1000 ∧
  (Nf02.BIG < Nf02.norm rows → d = dV [-8] ∧ S' = S) ∧ (Nf02.norm rows ≤ Nf02.BIG → d = dV [(S.2.length : Int)] ∧ S' = (S.1, S.2 ++ [rows]))
theorem mut_append (Dt : DTx K C) {τ : Tau} {S : DS} {a q : Addr} {i : Nat} {x : List (List Int)} (hi : τ[i]? = some (some (dM x))) (hz : S.2.length < sizeLine) : ∀ σ G H (D : Ends), Ex G H → Kx C τ S a q σ G H → (∀ G1 H1 q1, FrD a q G H G1 H1 → Kx C τ (S.1, S.2 ++ [x]) a q1 σ G1 H1 → (q1 = q ∨ H q1 = none) → D.nx σ H1) →
    tDrop (tBM K "list" rAppend (tFld K (tVar 0) "kept") (tCons (tVar i) tNil)) D σ H := fun σ G H D e k n => by
  obtain ⟨h1, ⟨dx, r, vs, h2, ga, gq, h4, h5, h6⟩, h3⟩ := id k
  unfold tDrop tBM
  refine fld_kept Dt k ?_
  obtain ⟨v, hv, rv⟩ := h1.sh i (dM x) hi
  have haq : a ≠ q := fun e => by rw [e, h4] at h2; cases h2
  refine ⟨.inl ⟨rfl, _, SqL.of h4⟩, v, hv, q, vs, v, rfl, rfl, h4, by rw [paired_len h5]; exact hz, ?_⟩
  refine n G _ q ⟨.refl _, fun b u hb => ?_, fun b u _ hb hu => ?_, fun b _ h => h, fun b hb => ?_⟩ ⟨⟨h1.sh, h1.len, trivial⟩, ⟨dx, r, vs ++ [v], ?_, ga, gq, upd_same, paired_app h5 (.cons rv .nil), h6⟩, h3⟩ (.inl rfl)
  · rw [upd_ne (ne_of_none hb gq)]; exact e b u hb
  · rw [upd_ne hb]; exact hu
  · by_cases z : b = q
    · rw [z, upd_same]; simp
    · rw [upd_ne z]; exact hb
  · rw [upd_ne haq]; exact h2
theorem ok_keep {f : Addr} {fd : FuncData} (Fn : Fun K "keep" "keep" s_keep f fd) (T : Bt mg) (Cn : Ct K mg) (Dt : DTx K C) (d_norm : DefOk P w K mg base 40 "norm" ["rows"] (spD F_norm)) : FnOk P w K mg base CX0 41 f fd ["desk", "rows"] (spM C F_keep) := by
  refine fn_mut Fn sc_keep (fun S ds d S' ⟨x, n, e, _⟩ => by rw [e]; rfl) fun cdv A outer s H E hr S ds d S' ⟨x, n, e, h4, ht, hb, hz, c1, c2⟩ => ?_
  subst e
  refine ⟨_, (pss_cons (ps_if (pt_cmpR op_gt (pe_callD d_norm (hr.mono (by decide)) rfl (pa_cons (pv 1) pa_nil)) (pe_globI rfl Cn.c_MOST_NORM) (nomark _)) (pss_one (ps_ret (pe_lst (pa_cons (pe_globI rfl Cn.c_TOO_GREAT) pa_nil)))) pss_nil)
    (pss_cons (ps_expr (pe_bm PySem.F.plainAttrs_list PySem.F.slot_list_append PySem.F.type_list_append mt_append (pe_fldK (K := K) rfl (pv 0) rfl) (pa_cons (pv 1) pa_nil)))
    (pss_one (ps_ret (pe_lst (pa_cons (pe_op op_sub (pe_callB (lenK (K := K) rfl) (by rfl) T.b_len (by decide +kernel) (pa_cons (pe_fldK (K := K) rfl (pv 0) rfl) pa_nil)) pe_int) pa_nil)))))), ?_⟩
  have e12 : (1000000000000 : Int) = ((Nf02.BIG : Nat) : Int) := by decide
  intro a q
  have hz' : S.2.length < sizeLine := Nat.lt_of_le_of_lt hz (by decide)
  have eBF : Ir.BF = 1000000 := rfl
  have hn : n * Ir.BF ≤ 4 * Ir.BF := Nat.mul_le_mul_right _ h4
  have hn2 : n * Ir.BF + Ir.BF ≤ 90000000 := by omega
  have htest : Gt (tTest (tOp (rI0 fun i j => .bl (decide (j < i))) (tCall (spD F_norm) [] E0 (tCons (tVar 1) tNil)) (tC (.int 1000000000000)))) (Kx C (startK N_keep [dM x]) S a q) (decide ((1000000000000 : Int) < (Nf02.norm x : Int))) :=
    gt_k (et_test (ev_B0 (g := fun i j => decide (j < i)) (ev_call (ea_cons (ev_var rfl) ea_nil) ⟨n, n, Ir.BF, x, rfl, Nat.le_refl _, by omega, ht, hb, hn2, rfl⟩) ev_int))
  by_cases hc : Nf02.BIG < Nf02.norm x
  · obtain ⟨rfl, rfl⟩ := c1 hc
    exact gd_exit Kx.st RtM.tr (htest.eq (decide_eq_true (by omega))) (gvR_M (gv_k (en_one ev_int)) ⟨rfl, rfl⟩)
  · obtain ⟨rfl, rfl⟩ := c2 (by omega)
    refine gd_pass Kx.st RtM.tr (htest.eq (decide_eq_false (by omega))) ?_
    refine gd_mut (mut_append Dt (x := x) rfl hz') fun q1 => gvR_M ((gv_one Kx.st (gv_I0 (g := fun i j => i - j) Kx.st (gv_lenKept Dt) gv_int)).eq (congrArg dV ?_)) ⟨rfl, rfl⟩
    show [((S.2 ++ [x]).length : Int) - 1] = _
    rw [List.length_append, List.length_singleton]
    congr 1; omega
/-! the ring -/
def F_put_ring : DS → List Dy → Dy → DS → Prop := fun S ds d S' => ∃ x : List Int, ds = [dV x] ∧ x.length ≤ 1000 ∧ d = dV (ans S (.field x)) ∧ S' = stp S (.field x)
theorem ok_put_ring {f : Addr} {fd : FuncData} (Fn : Fun K "put_ring" "put_ring" s_put_ring f fd) (T : Bt mg) (Cn : Ct K mg) (Dt : DTx K C) (d_are_within : DefOk P w K mg base 40 "are_within" ["numbers", "bound"] (spD F_are_within)) (d_can_be_parted : DefOk P w K mg base 42 "can_be_parted" ["numbers"] (spD F_can_be_parted)) :
    FnOk P w K mg base CX0 43 f fd ["desk", "numbers"] (spM C F_put_ring) := by
  refine fn_mut Fn sc_put_ring (fun S ds d S' ⟨x, e, _⟩ => by rw [e]; rfl) fun cdv A outer s H E hr S ds d S' ⟨x, e, hx, ed, es⟩ => ?_
  subst e
  refine ⟨_, (pss_cons (ps_if (PW.pt (pw_or (pt_not (pt_chain op_le op_le (pe_globI rfl Cn.c_LEAST_DEGREE) (pe_callB (lenK (K := K) rfl) (by rfl) T.b_len (by decide +kernel) (pa_cons (pv 1) pa_nil)) (pe_globI rfl Cn.c_MOST_DEGREE))) (pw_or1 (pt_not (pt_val (pe_callD d_are_within (hr.mono (by decide)) rfl (pa_cons (pv 1) (pa_cons (pe_globI rfl Cn.c_MOST_COEFFICIENT) pa_nil)))))))) (pss_one (ps_ret (pe_lst (pa_cons (pe_globI rfl Cn.c_WRONG) pa_nil)))) pss_nil)
    (pss_cons (ps_if (pt_val (pe_callD d_can_be_parted (hr.mono (by decide)) rfl (pa_cons (pv 1) pa_nil))) (pss_one (ps_ret (pe_lst (pa_cons (pe_globI rfl Cn.c_NOT_SO) pa_nil)))) pss_nil)
    (pss_cons (ps_asg (pe_tup (pa_cons (pv 1) (pa_cons (pe_lst pa_nil) pa_nil))) (pg_tupK (K := K) (n := 2) rfl rfl (pgs_cons (pg_fldK (K := K) rfl (pv 0)) (pgs_cons (pg_fldK (K := K) rfl (pv 0)) pgs_nil))))
    (pss_one (ps_ret (pe_lst (pa_cons pe_int pa_nil))))))), ?_⟩
  intro a q
  have hch : ∀ {τ : Tau} {o : Ow}, τ[1]? = some (some (dV x)) → Ev (tChain (rI0 fun i j => .bl (decide (i ≤ j))) (rI0 fun i j => .bl (decide (i ≤ j))) (tC (.int 2)) (tCB (fun xs H Q => ∃ p ys, xs = [.ref p] ∧ (SqL K H p ys ∨ SqT K H p ys) ∧ Q (.int ys.length) H) (tCons (tVar 1) tNil)) (tC (.int 4))) τ o (dB (decide ((2 : Int) ≤ (x.length : Int)) && decide ((x.length : Int) ≤ 4))) := fun h => ev_chain (g := fun i j => decide (i ≤ j)) (h := fun i j => decide (i ≤ j)) ev_int (ev_len (ty := .int) (xs := x) (ev_var h)) ev_int
  have hcond : (x.length < 2 ∨ 4 < x.length ∨ x.any (fun z => decide (Nf01.TOP < z.natAbs)) = true) ↔ ((!(decide ((2 : Int) ≤ (x.length : Int)) && decide ((x.length : Int) ≤ 4)) || !(x.all fun z => decide ((z.natAbs : Int) ≤ 20))) = true) := by
    have e20 : Nf01.TOP = 20 := rfl
    rw [Bool.or_eq_true, Bool.not_eq_true', Bool.not_eq_true', Bool.and_eq_false_iff, decide_eq_false_iff_not, decide_eq_false_iff_not, ← Bool.not_eq_true, List.all_eq_true, List.any_eq_true, e20]
    constructor
    · rintro (h | h | ⟨z, hz, h⟩)
      · exact .inl (.inl (by omega))
      · exact .inl (.inr (by omega))
      · refine .inr fun hh => ?_
        have h1 := of_decide_eq_true h
        have h2 := of_decide_eq_true (hh z hz)
        omega
    · rintro ((h | h) | h)
      · exact .inl (by omega)
      · exact .inr (.inl (by omega))
      · refine .inr (.inr ?_)
        refine Classical.byContradiction fun hn => h fun z hz => decide_eq_true ?_
        have : ¬ 20 < z.natAbs := fun h => hn ⟨z, hz, decide_eq_true h⟩
        omega
  have htest : Gt (tOr (tNot (tTest (tChain (rI0 fun i j => .bl (decide (i ≤ j))) (rI0 fun i j => .bl (decide (i ≤ j))) (tC (.int 2)) (tCB (fun xs H Q => ∃ p ys, xs = [.ref p] ∧ (SqL K H p ys ∨ SqT K H p ys) ∧ Q (.int ys.length) H) (tCons (tVar 1) tNil)) (tC (.int 4))))) (tNot (tB (tCall (spD F_are_within) [] E0 (tCons (tVar 1) (tCons (tC (.int 20)) tNil)))))) (Kx C (startK N_put_ring [dV x]) S a q) (!(decide ((2 : Int) ≤ (x.length : Int)) && decide ((x.length : Int) ≤ 4)) || !(x.all fun z => decide ((z.natAbs : Int) ≤ 20))) :=
    gt_k (et_or (et_not (et_test (hch rfl))) fun _ => et_not (et_B (ev_call (ea_cons (ev_var rfl) (ea_cons ev_int ea_nil)) ⟨x, 20, rfl, hx, rfl⟩)))
  have est : Nf02.step ⟨S.1, S.2⟩ (.field x) = if x.length < 2 ∨ 4 < x.length ∨ x.any (fun z => decide (Nf01.TOP < z.natAbs)) = true then (⟨S.1, S.2⟩, Nf02.ok (-1)) else if Nf01.prime x = false then (⟨S.1, S.2⟩, Nf02.ok (-3)) else (⟨x, []⟩, Nf02.ok 0) := rfl
  unfold ans at ed
  unfold stp at es
  rw [est] at ed es
  by_cases hc : x.length < 2 ∨ 4 < x.length ∨ x.any (fun z => decide (Nf01.TOP < z.natAbs)) = true
  · rw [if_pos hc] at ed es
    subst ed es
    exact gd_exit Kx.st RtM.tr (htest.eq (hcond.mp hc)) (gvR_M (gv_k (en_one ev_int)) ⟨rfl, rfl⟩)
  · rw [if_neg hc] at ed es
    refine gd_pass Kx.st RtM.tr (htest.eq (Bool.eq_false_iff.mpr fun h => hc (hcond.mpr h))) ?_
    have hk : RingOk x := by
      refine ⟨by omega, by omega, fun z hz => Classical.byContradiction fun h => hc (.inr (.inr ?_))⟩
      rw [List.any_eq_true]
      exact ⟨z, hz, decide_eq_true (by show 20 < _; omega)⟩
    have htest2 : Gt (tB (tCall (spD F_can_be_parted) [] E0 (tCons (tVar 1) tNil))) (Kx C (startK N_put_ring [dV x]) S a q) (!Nf01.prime x) := gt_k (et_B (ev_call (ea_cons (ev_var rfl) ea_nil) ⟨x, rfl, hk, rfl⟩))
    by_cases hp : Nf01.prime x = false
    · rw [if_pos hp] at ed es
      subst ed es
      exact gd_exit Kx.st RtM.tr (htest2.eq (by rw [hp]; rfl)) (gvR_M (gv_k (en_one ev_int)) ⟨rfl, rfl⟩)
    · rw [if_neg hp] at ed es
      subst ed es
      refine gd_pass Kx.st RtM.tr (htest2.eq (by rw [Bool.not_eq_false] at hp; rw [hp]; rfl)) ?_
      refine gd_mut (τ' := startK N_put_ring [dV x]) (S' := (x, [])) (fun σ G H D e k n => ?_) fun q1 => gvR_M (gv_k (en_one ev_int)) ⟨rfl, rfl⟩
      obtain ⟨h1, ⟨dx, r, vs, h2, ga, gq, h4, h5, h6⟩, h3⟩ := id k
      obtain ⟨v, hv, rv⟩ := h1.sh 1 (dV x) rfl
      obtain ⟨r', us, rfl, hr', hu⟩ := rv
      refine ⟨.ref r', hv, by show 0 ≤ sizeLine; exact Nat.zero_le _, fun p hp => ?_⟩
      refine ⟨by show 2 ≤ sizeLine; decide, fun t ht => ?_⟩
      have gp := e.none hp
      have hap : a ≠ p := fun z => by rw [z, hp] at h2; cases h2
      have hat : a ≠ t := fun z => by rw [z] at h2; rw [upd_ne (fun z2 => hap (z.trans z2)), h2] at ht; cases ht
      have hpt : p ≠ t := fun z => by rw [← z, upd_same] at ht; cases ht
      have ht0 : H t = none := by rw [upd_ne (Ne.symm hpt)] at ht; exact ht
      refine ⟨t, [.ref r', .ref p], rfl, .of upd_same, rfl, .ref r', [.ref p], rfl, ?_⟩
      refine ⟨.ref a, h3, a, C, dx, _, rfl, by rw [upd_ne hat, upd_ne hap]; exact h2, Dt.cl, Dt.nR, by show 2 < 1000; decide, .ref p, [], rfl, ?_⟩
      refine ⟨.ref a, h3, a, C, dx, _, rfl, upd_same, Dt.cl, Dt.nK, by show 2 < 1000; decide, rfl, ?_⟩
      refine n G _ p ⟨.refl _, fun b u hb => ?_, fun b u hb1 hb2 hu => ?_, fun b _ h => h, fun b hb => ?_⟩ ⟨⟨h1.sh, h1.len, trivial⟩, ⟨dx, r', [], by rw [upd_same, putF_both], ga, gp, ?_, .nil, ⟨r', us, rfl, hr', hu⟩⟩, h3⟩ (.inr hp)
      · have h := e b u hb
        rw [upd_ne (ne_of_none hb ga), upd_ne (ne_of_none hb ga), upd_ne (ne_of_none h ht0), upd_ne (ne_of_none h hp)]; exact h
      · rw [upd_ne hb1, upd_ne hb1, upd_ne (ne_of_none hu ht0), upd_ne (ne_of_none hu hp)]; exact hu
      · by_cases z : b = a
        · rw [z, upd_same]; simp
        · rw [upd_ne z, upd_ne z]
          by_cases z2 : b = t
          · rw [z2, upd_same]; simp
          · rw [upd_ne z2]
            by_cases z3 : b = p
            · rw [z3, upd_same]; simp
            · rw [upd_ne z3]; exact hb
      · rw [upd_ne (Ne.symm hap), upd_ne (Ne.symm hap), upd_ne hpt, upd_same]
/-! one less -/
def F_drop : DS → List Dy → Dy → DS → Prop := fun S ds d S' => ds = [] ∧ d = dV (ans S .drop) ∧ S' = stp S .drop
theorem paired_dropLast {α β : Type} {F : α → β → Prop} {xs : List α} {ys : List β} (h : Paired F xs ys) : Paired F xs.dropLast ys.dropLast := by
  rw [List.dropLast_eq_take, List.dropLast_eq_take, paired_len h]
  exact paired_take _ h
theorem ok_drop {f : Addr} {fd : FuncData} {j : Nat} (Fn : Fun K "drop" "drop" s_drop f fd) (T : Bt mg) (Cn : Ct K mg) (Dt : DTx K C) : FnOk P w K mg base CX0 (j + 1) f fd ["desk"] (spM C F_drop) := by
  refine fn_mut Fn sc_drop (fun S ds d S' ⟨e, _⟩ => by rw [e]; rfl) fun cdv A outer s H E hr S ds d S' ⟨e, ed, es⟩ => ?_
  subst e
  refine ⟨_, (pss_cons (ps_if (pt_cmpR (eqDK (K := K) rfl hr.units) (pe_fldK (K := K) rfl (pv 0) rfl) (pe_lst pa_nil) (nomark _)) (pss_one (ps_ret (pe_lst (pa_cons (pe_globI rfl Cn.c_NOTHING) pa_nil)))) pss_nil)
    (pss_cons (ps_expr (pe_bm0 PySem.F.plainAttrs_list PySem.F.slot_list_pop PySem.F.type_list_pop mt_pop (pe_fldK (K := K) rfl (pv 0) rfl)))
    (pss_one (ps_ret (pe_lst (pa_cons (pe_callB (lenK (K := K) rfl) (by rfl) T.b_len (by decide +kernel) (pa_cons (pe_fldK (K := K) rfl (pv 0) rfl) pa_nil)) pa_nil)))))), ?_⟩
  intro a q
  have est : Nf02.step ⟨S.1, S.2⟩ .drop = if S.2 = [] then (⟨S.1, S.2⟩, Nf02.ok (-4)) else (⟨S.1, S.2.dropLast⟩, Nf02.ok (S.2.length - 1 : Nat)) := rfl
  unfold ans at ed
  unfold stp at es
  rw [est] at ed es
  by_cases hc : S.2 = []
  · rw [if_pos hc] at ed es
    subst ed es
    exact gd_exit Kx.st RtM.tr ((gt_keptNil Dt).eq (decide_eq_true hc)) (gvR_M (gv_k (en_one ev_int)) ⟨rfl, rfl⟩)
  · rw [if_neg hc] at ed es
    subst ed es
    refine gd_pass Kx.st RtM.tr ((gt_keptNil Dt).eq (decide_eq_false hc)) ?_
    refine gd_mut (τ' := startK N_drop []) (S' := (S.1, S.2.dropLast)) (fun σ G H D e k n => ?_) fun q1 => gvR_M ((gv_one Kx.st (gv_lenKept Dt)).eq (congrArg dV ?_)) ⟨rfl, rfl⟩
    · obtain ⟨h1, ⟨dx, r, vs, h2, ga, gq, h4, h5, h6⟩, h3⟩ := id k
      unfold tDrop tBM0
      refine fld_kept Dt k ?_
      have haq : a ≠ q := fun e => by rw [e, h4] at h2; cases h2
      have hlen := paired_len h5
      have hpos : 0 < S.2.length := List.length_pos_iff.mpr hc
      refine ⟨.inl ⟨rfl, _, SqL.of h4⟩, q, vs, vs[vs.length - 1]'(by omega), rfl, rfl, h4, List.getElem?_eq_getElem _, ?_⟩
      refine n G _ q ⟨.refl _, fun b u hb => ?_, fun b u _ hb hu => ?_, fun b _ h => h, fun b hb => ?_⟩ ⟨⟨h1.sh, h1.len, trivial⟩, ⟨dx, r, vs.dropLast, ?_, ga, gq, upd_same, paired_dropLast h5, h6⟩, h3⟩ (.inl rfl)
      · rw [upd_ne (ne_of_none hb gq)]; exact e b u hb
      · rw [upd_ne hb]; exact hu
      · by_cases z : b = q
        · rw [z, upd_same]; simp
        · rw [upd_ne z]; exact hb
      · rw [upd_ne haq]; exact h2
    · show [((S.2.dropLast).length : Int)] = [((S.2.length - 1 : Nat) : Int)]
      rw [List.length_dropLast]
end
end Wk

/-! WkN: ring.py, the calls of ideals -/
namespace Wk
open PySem L2 PyProof.Rows PySem.Spec
abbrev s_put_ideal : Stmt := topS 76
abbrev N_put_ideal : List Str := ["desk", "numbers", "many", "at"]
theorem sc_put_ideal : FnScope N_put_ideal ["desk", "numbers"] (defScope s_put_ideal) := ⟨rfl, rfl, rfl, by decide +kernel, rfl, by decide +kernel, by decide +kernel⟩
abbrev s_made_by : Stmt := topS 77
abbrev N_made_by : List Str := ["desk", "kind", "one", "other"]
theorem sc_made_by : FnScope N_made_by ["desk", "kind", "one", "other"] (defScope s_made_by) := ⟨rfl, rfl, rfl, by decide +kernel, rfl, by decide +kernel, by decide +kernel⟩
abbrev s_told_of_two : Stmt := topS 78
abbrev N_told_of_two : List Str := ["desk", "kind", "one", "other"]
theorem sc_told_of_two : FnScope N_told_of_two ["desk", "kind", "one", "other"] (defScope s_told_of_two) := ⟨rfl, rfl, rfl, by decide +kernel, rfl, by decide +kernel, by decide +kernel⟩
abbrev s_told : Stmt := topS 79
abbrev N_told : List Str := ["rows", "found", "row"]
theorem sc_told : FnScope N_told ["rows"] (defScope s_told) := ⟨rfl, rfl, rfl, by decide +kernel, rfl, by decide +kernel, by decide +kernel⟩
abbrev s_told_of_places : Stmt := topS 80
abbrev N_told_of_places : List Str := ["desk", "kind", "rows", "places"]
theorem sc_told_of_places : FnScope N_told_of_places ["desk", "kind", "rows", "places"] (defScope s_told_of_places) := ⟨rfl, rfl, rfl, by decide +kernel, rfl, by decide +kernel, by decide +kernel⟩
abbrev s_prime : Stmt := topS 81
abbrev N_prime : List Str := ["desk", "rows"]
theorem sc_prime : FnScope N_prime ["desk", "rows"] (defScope s_prime) := ⟨rfl, rfl, rfl, by decide +kernel, rfl, by decide +kernel, by decide +kernel⟩
abbrev s_every_ideal : Stmt := topS 82
abbrev N_every_ideal : List Str := ["desk", "bound", "some", "found", "rows"]
theorem sc_every_ideal : FnScope N_every_ideal ["desk", "bound"] (defScope s_every_ideal) := ⟨rfl, rfl, rfl, by decide +kernel, rfl, by decide +kernel, by decide +kernel⟩
abbrev s_told_of_one : Stmt := topS 84
abbrev N_told_of_one : List Str := ["desk", "kind", "rows", "behind"]
theorem sc_told_of_one : FnScope N_told_of_one ["desk", "kind", "rows", "behind"] (defScope s_told_of_one) := ⟨rfl, rfl, rfl, by decide +kernel, rfl, by decide +kernel, by decide +kernel⟩
/-! ### in a list of numbers -/
theorem inV_ints {i : Int} : ∀ {ns : List Int}, inV (.int i) (ns.map V.int) = decide (i ∈ ns)
  | [] => by simp [inV]
  | n :: ns => by
    have ih := inV_ints (i := i) (ns := ns)
    unfold inV at ih ⊢
    rw [List.map_cons, List.any_cons, ih]
    show ((n == i) || decide (i ∈ ns)) = decide (i ∈ n :: ns)
    rw [beq_dec, ← Bool.decide_or]
    exact decide_eq_decide.mpr (by simp only [List.mem_cons]; exact or_congr_left eq_comm)
theorem flat_ints : ∀ ns : List Int, (ns.map V.int).all flatV = true
  | [] => rfl
  | n :: ns => by
    rw [List.map_cons, List.all_cons, flat_ints ns]; rfl
section
variable {K : PySem.W.Frag} {Γ : Cxt} {ta tr : TE}
theorem rpA_ints {G : Hp} : ∀ {vs : List V} {ns : List Int}, RpA G vs (ns.map dI) → vs = ns.map V.int
  | _, [], h => by
    have h' : RpA G _ [] := h
    cases h'; rfl
  | _, n :: ns, h => by
    have h' : RpA G _ (dI n :: ns.map dI) := h
    cases h' with
    | cons a b => rw [show _ = V.int n from a, rpA_ints b]; rfl
/-- not in a written tuple -/
theorem gv_notin {tb : TA} {i : Int} {ns : List Int} (st : Stb Γ) (ha : Gv ta Γ (dI i)) (hb : Ga tb Γ (ns.map dI)) (hl : ns.length ≤ 1000) : Gv (tOp (rIn K true) ta (tTup tb)) Γ (dB (!decide (i ∈ ns))) := fun σ G H e g Q q =>
  ha σ G H e g _ fun x G1 H1 f1 r1 => hb σ G1 H1 f1.l (st.run g f1) _ fun vs G2 H2 f2 r2 => by
    obtain rfl : x = .int i := r1
    obtain rfl := rpA_ints r2
    refine ⟨by rw [List.length_map]; exact Nat.le_trans hl (by decide), fun p hp => ?_⟩
    obtain ⟨f, hp'⟩ := Fr.new (o := .tup (ns.map V.int)) f2.l hp
    refine ⟨p, ns.map V.int, rfl, .inr (.of upd_same), rfl, flat_ints ns, q _ _ _ ((f1.trans f2).trans f) ?_⟩
    show V.bl _ = V.bl _
    rw [inV_ints]; rfl
/-- in a tuple that the text names -/
theorem gv_inT {mg : Str → Option Value} {x : Str} {i : Int} {ns : List Int} (c : CT K mg x ns) (ha : Gv ta Γ (dI i)) : Gv (tOp (rIn K false) ta (tC (.ref c.choose))) Γ (dB (decide (i ∈ ns))) := fun σ G H e g Q q =>
  ha σ G H e g _ fun v G1 H1 f1 r1 => by
    obtain rfl : v = .int i := r1
    refine ⟨c.choose, ns.map V.int, rfl, .inr (c.choose_spec.2 H1), rfl, flat_ints ns, q _ _ _ f1 ?_⟩
    show V.bl _ = V.bl _
    rw [inV_ints]; rfl
end
theorem rg_is {n q : Nat} (hn : 2 ≤ n ∧ n ≤ 4) (hq : 1 ≤ q ∧ q ≤ 3) : RgC 0 ((q * n : Nat) : Int) (n : Int) q := by
  obtain ⟨n1, n2⟩ := hn
  obtain ⟨q1, q2⟩ := hq
  have h1 : n = 2 ∨ n = 3 ∨ n = 4 := by omega
  have h2 : q = 1 ∨ q = 2 ∨ q = 3 := by omega
  rcases h1 with rfl | rfl | rfl <;> rcases h2 with rfl | rfl | rfl <;> exact ⟨by decide, by decide, by decide, by decide⟩
section
variable {K : PySem.W.Frag} {mg : Str → Option Value} {base : Heap} {P : Program} {w : World} {C : Addr}
/-! what is put in -/
def F_put_ideal : DS → List Dy → Dy → DS → Prop := fun S ds d S' => ∃ x : List Int, ds = [dV x] ∧ DOk S ∧ x.length ≤ 1000 ∧ d = dV (ans S (.ideal x)) ∧ S' = stp S (.ideal x)
theorem put_keep {S : DS} {rows : List (List Int)} (hl : S.2.length < 8) (hk : RingOk S.1) (h : Ir.Hnf S.1.length rows ∧ ∀ x ∈ rows, Ir.Lt Ir.BF x) {c : Nf02.Call} (hc : Nf02.step ⟨S.1, S.2⟩ c = Nf02.State.put ⟨S.1, S.2⟩ rows) : F_keep S [dM rows] (dV (ans S c)) (stp S c) := by
  refine ⟨rows, S.1.length, rfl, hk.2.1, h.1.toTri, fun x hx => bits_lt.mpr (h.2 x hx), by omega, fun hb => ?_, fun hb => ?_⟩
  · have e : Nf02.State.put ⟨S.1, S.2⟩ rows = (⟨S.1, S.2⟩, Nf02.ok (-8)) := by
      show (if 8 ≤ S.2.length then _ else if Nf02.BIG < Nf02.norm rows then _ else _) = _
      rw [if_neg (show ¬ 8 ≤ S.2.length by omega), if_pos hb]
    unfold ans stp
    rw [hc, e]; exact ⟨rfl, rfl⟩
  · have e : Nf02.State.put ⟨S.1, S.2⟩ rows = (⟨S.1, S.2 ++ [rows]⟩, Nf02.ok (S.2.length : Nat)) := by
      show (if 8 ≤ S.2.length then _ else if Nf02.BIG < Nf02.norm rows then _ else _) = _
      rw [if_neg (show ¬ 8 ≤ S.2.length by omega), if_neg (by omega)]
    unfold ans stp
    rw [hc, e]; exact ⟨rfl, rfl⟩
theorem put_full {S : DS} {rows : List (List Int)} (hl : S.2.length = 8) {c : Nf02.Call} (hc : Nf02.step ⟨S.1, S.2⟩ c = Nf02.State.put ⟨S.1, S.2⟩ rows) : ans S c = [-5] ∧ stp S c = S := by
  have e : Nf02.State.put ⟨S.1, S.2⟩ rows = (⟨S.1, S.2⟩, Nf02.ok (-5)) := by
    show (if 8 ≤ S.2.length then _ else _) = _
    rw [if_pos (show 8 ≤ S.2.length by omega)]
  unfold ans stp
  rw [hc, e]; exact ⟨rfl, rfl⟩
theorem ok_put_ideal {f : Addr} {fd : FuncData} (Fn : Fun K "put_ideal" "put_ideal" s_put_ideal f fd) (T : Bt mg) (Cn : Ct K mg) (Dt : DTx K C) (d_are_within : DefOk P w K mg base 40 "are_within" ["numbers", "bound"] (spD F_are_within)) (d_is_nought : DefOk P w K mg base 40 "is_nought" ["number"] (spD F_is_nought))
    (d_made_of : DefOk P w K mg base 44 "made_of" ["ring", "numbers"] (spD F_made_of)) (d_keep : DefOk P w K mg base 41 "keep" ["desk", "rows"] (spM C F_keep)) : FnOk P w K mg base CX0 45 f fd ["desk", "numbers"] (spM C F_put_ideal) := by
  refine fn_mut Fn sc_put_ideal (fun S ds d S' ⟨x, e, _⟩ => by rw [e]; rfl) fun cdv A outer s H E hr S ds d S' ⟨x, e, hS, hx, ed, es⟩ => ?_
  subst e
  refine ⟨_, (pss_cons (ps_set (i := 2) sc_put_ideal.nd rfl (Or.inr rfl) (pe_callB (lenK (K := K) rfl) (by rfl) T.b_len (by decide +kernel) (pa_cons (pe_fldK (K := K) rfl (pv 0) rfl) pa_nil)))
    (pss_cons (ps_if (PW.pt (pw_or (pt_cmpR (niL (K := K) rfl) (pe_callB (lenK (K := K) rfl) (by rfl) T.b_len (by decide +kernel) (pa_cons (pv 1) pa_nil)) (pe_tup (pa_cons (pv 2) (pa_cons (pe_op op_mulB pe_int (pv 2)) (pa_cons (pe_op op_mulB (pe_globI rfl Cn.c_MOST_NUMBERS) (pv 2)) pa_nil)))) rfl) (pw_or1 (pt_not (pt_val (pe_callD d_are_within (hr.mono (by decide)) rfl (pa_cons (pv 1) (pa_cons (pe_globI rfl Cn.c_MOST_PLACE) pa_nil)))))))) (pss_one (ps_ret (pe_lst (pa_cons (pe_globI rfl Cn.c_WRONG) pa_nil)))) pss_nil)
    (pss_cons (ps_if (pt_val (pe_callD d_is_nought (hr.mono (by decide)) rfl (pa_cons (pv 1) pa_nil))) (pss_one (ps_ret (pe_lst (pa_cons (pe_globI rfl Cn.c_NOT_SO) pa_nil)))) pss_nil)
    (pss_cons (ps_if (pt_cmpR op_eq (pe_callB (lenK (K := K) rfl) (by rfl) T.b_len (by decide +kernel) (pa_cons (pe_fldK (K := K) rfl (pv 0) rfl) pa_nil)) (pe_globI rfl Cn.c_MOST_KEPT) (nomark _)) (pss_one (ps_ret (pe_lst (pa_cons (pe_globI rfl Cn.c_FULL) pa_nil)))) pss_nil)
    (pss_one (ps_ret (pe_callD d_keep (hr.mono (by decide)) rfl (pa_cons (pv 0) (pa_cons (pe_callD d_made_of (hr.mono (by decide)) rfl (pa_cons (pe_fldK (K := K) rfl (pv 0) rfl) (pa_cons (pe_lc (own := [("at", 3)]) rfl sc_put_ideal.nd (pi_range3 (by rfl) T.b_range (pa_cons pe_int (pa_cons (pe_callB (lenK (K := K) rfl) (by rfl) T.b_len (by decide +kernel) (pa_cons (pv 1) pa_nil)) (pa_cons (pv 2) pa_nil)))) (blkOk_by (own := [("at", 3)]) (N := N_put_ideal) (sc := defScope s_put_ideal) (by decide +kernel)) (fun _ _ _ _ _ => (pg_name (i := 3) sc_put_ideal.nd rfl (Or.inl rfl))) (fun _ _ _ _ _ => pts_nil) (fun _ _ _ _ _ => (pe_slice (slL (K := K) rfl) (pv 1) (po_some (pv 3)) (po_some (pe_op op_add (pv 3) (pv 2)))))) pa_nil))) pa_nil))))))))), ?_⟩
  obtain ⟨hk, hp, hl8, hkept⟩ := hS
  have h4 := hk.2.1
  have h2 := hk.1
  intro a q
  generalize hn : S.1.length = n at *
  have hn0 : 0 < n := by omega
  refine gd_seq RtM.tr (gd_asg (i := 2) (d := dI (n : Int)) Kx.st ((gv_len (ty := .int) Kx.st (gv_ring Dt)).eq (by rw [hn])) fun σ G H v k r => Kx.set (by decide) σ G H v k r) ?_
  have e64 : (2 : Nat) ^ 64 = 18446744073709551616 := by decide
  generalize hτ : (startK N_put_ideal [dV x]).set 2 (some (dI (n : Int))) = τ
  have t1 : τ[1]? = some (some (dV x)) := by rw [← hτ]; rfl
  have t2 : τ[2]? = some (some (dI (n : Int))) := by rw [← hτ]; rfl
  have hmul : ∀ c : Int, c.natAbs ≤ 3 → Ev (tOp (rI MulB fun i j => .int (i * j)) (tC (.int c)) (tVar 2)) τ none (dI (c * (n : Int))) := fun c hc => ev_I (g := fun i j => i * j) (C := MulB) ev_int (ev_var t2) (mulB_small (by omega) (by omega))
  have hcond : Ir.Fits n x ↔ (!decide ((x.length : Int) ∈ [(n : Int), 2 * (n : Int), 3 * (n : Int)]) || !(x.all fun z => decide ((z.natAbs : Int) ≤ 100))) = false := by
    rw [Bool.or_eq_false_iff, Bool.not_eq_false', Bool.not_eq_false', decide_eq_true_eq, List.all_eq_true]
    unfold Ir.Fits
    refine and_congr ?_ ?_
    · simp only [List.mem_cons, List.not_mem_nil, or_false]; omega
    · exact forall_congr' fun z => forall_congr' fun _ => by rw [decide_eq_true_eq]; omega
  have htest : Gt (tOr (tTest (tOp (rIn K true) (tCB (fun xs H Q => ∃ p ys, xs = [.ref p] ∧ (SqL K H p ys ∨ SqT K H p ys) ∧ Q (.int ys.length) H) (tCons (tVar 1) tNil)) (tTup (tCons (tVar 2) (tCons (tOp (rI MulB fun i j => .int (i * j)) (tC (.int 2)) (tVar 2)) (tCons (tOp (rI MulB fun i j => .int (i * j)) (tC (.int 3)) (tVar 2)) tNil)))))) (tNot (tB (tCall (spD F_are_within) [] E0 (tCons (tVar 1) (tCons (tC (.int 100)) tNil)))))) (Kx C τ S a q) (!decide ((x.length : Int) ∈ [(n : Int), 2 * (n : Int), 3 * (n : Int)]) || !(x.all fun z => decide ((z.natAbs : Int) ≤ 100))) :=
    gt_or Kx.st (gt_test (gv_notin (ns := [(n : Int), 2 * (n : Int), 3 * (n : Int)]) Kx.st (gv_k (ev_len (ty := .int) (xs := x) (ev_var t1))) (ga_cons Kx.st (gv_k (ev_var t2)) (ga_cons Kx.st (gv_k (hmul 2 (by decide))) (ga_cons Kx.st (gv_k (hmul 3 (by decide))) ga_nil))) (by simp))) fun _ => gt_k (et_not (et_B (ev_call (ea_cons (ev_var t1) (ea_cons ev_int ea_nil)) ⟨x, 100, rfl, hx, rfl⟩)))
  by_cases hc : Ir.Fits n x
  · refine gd_pass Kx.st RtM.tr (htest.eq (hcond.mp hc)) ?_
    obtain ⟨hlen, hz⟩ := hc
    obtain ⟨c, c1, c3, hxl⟩ : ∃ c, 1 ≤ c ∧ c ≤ 3 ∧ x.length = c * n := by
      rcases hlen with h | h | h
      · exact ⟨1, by omega, by omega, by omega⟩
      · exact ⟨2, by omega, by omega, by omega⟩
      · exact ⟨3, by omega, by omega, by omega⟩
    have ev := Ir.vecs_yes hn0 c1 c3 hxl hz
    have eall : ((Ir.chunks n c x).all fun v => v.all fun z => z == 0) = Ir.nought x := by
      rw [Bool.eq_iff_iff, List.all_eq_true]
      unfold Ir.nought
      rw [List.all_eq_true]
      constructor
      · intro h z hz'
        obtain ⟨v, hv, hzv⟩ := (Ir.chunks_mem hxl hn0).mp hz'
        have := List.all_eq_true.mp (h v hv) z hzv
        simpa using this
      · intro h v hv
        rw [List.all_eq_true]
        intro z hzv
        have := h z ((Ir.chunks_mem hxl hn0).mpr ⟨v, hv, hzv⟩)
        simpa using this
    have est : Nf02.step ⟨S.1, S.2⟩ (.ideal x) = if Ir.nought x = true then (⟨S.1, S.2⟩, Nf02.ok (-3)) else Nf02.State.put ⟨S.1, S.2⟩ (Nf02.make S.1 (Ir.chunks n c x)) := by
      have e0 : Nf02.step ⟨S.1, S.2⟩ (.ideal x) = (match Nf02.vecs S.1.length x with
        | none => ((⟨S.1, S.2⟩ : Nf02.State), Nf02.ok (-1))
        | some vs => if (vs.all fun v => v.all fun z => z == 0) = true then (⟨S.1, S.2⟩, Nf02.ok (-3)) else Nf02.State.put ⟨S.1, S.2⟩ (Nf02.make S.1 vs)) := rfl
      rw [e0, hn, ev]
      show (if ((Ir.chunks n c x).all fun v => v.all fun z => z == 0) = true then _ else _) = _
      rw [eall]
    have htest2 : Gt (tB (tCall (spD F_is_nought) [] E0 (tCons (tVar 1) tNil))) (Kx C τ S a q) (Ir.nought x) := gt_k (et_B (ev_call (ea_cons (ev_var t1) ea_nil) ⟨x, rfl, hx, rfl⟩))
    by_cases hno : Ir.nought x = true
    · rw [if_pos hno] at est
      unfold ans at ed
      unfold stp at es
      rw [est] at ed es
      subst ed es
      exact gd_exit Kx.st RtM.tr (htest2.eq hno) (gvR_M (gv_k (en_one ev_int)) ⟨rfl, rfl⟩)
    · rw [if_neg hno] at est
      refine gd_pass Kx.st RtM.tr (htest2.eq (Bool.eq_false_iff.mpr hno)) ?_
      have htest3 : Gt (tTest (tOp rEq (tCB (fun xs H Q => ∃ p ys, xs = [.ref p] ∧ (SqL K H p ys ∨ SqT K H p ys) ∧ Q (.int ys.length) H) (tCons (tFld K (tVar 0) "kept") tNil)) (tC (.int 8)))) (Kx C τ S a q) (decide ((S.2.length : Int) = 8)) := gt_test (gv_eqI Kx.st (gv_lenKept Dt) gv_int)
      by_cases h8 : S.2.length = 8
      · obtain ⟨e1, e2⟩ := put_full h8 est
        rw [e1] at ed
        rw [e2] at es
        subst ed es
        exact gd_exit Kx.st RtM.tr (htest3.eq (decide_eq_true (by omega))) (gvR_M (gv_k (en_one ev_int)) ⟨rfl, rfl⟩)
      · refine gd_pass Kx.st RtM.tr (htest3.eq (decide_eq_false (by omega))) ?_
        have hw : Ir.Wd S.1.length (Ir.chunks n c x) := fun v hv => by rw [hn]; exact Ir.chunks_len hxl v hv
        have hzv : ∀ v ∈ Ir.chunks n c x, ∀ z ∈ v, z.natAbs ≤ 100 := fun v hv z hzv => hz z ((Ir.chunks_mem hxl hn0).mpr ⟨v, hv, hzv⟩)
        have hex : ∃ v ∈ Ir.chunks n c x, Ir.nought v = false := by
          refine Classical.byContradiction fun h => hno ?_
          rw [← eall, List.all_eq_true]
          intro v hv
          have : ¬ Ir.nought v = false := fun h2 => h ⟨v, hv, h2⟩
          rw [Bool.not_eq_false] at this
          rw [← nought_all]; exact this
        have hcl : (Ir.chunks n c x).length ≤ 3 := by unfold Ir.chunks; simp; exact c3
        obtain ⟨g, em, hh⟩ := Ir.made_same hk hp hw (fun v hv => Ir.lt7 (hzv v hv)) hcl hex
        have hkeep := put_keep (rows := Nf02.make S.1 (Ir.chunks n c x)) (by omega) hk ⟨hh, by rw [← em]; exact Ir.prows_lt g⟩ est
        rw [← ed, ← es] at hkeep
        refine gd_ret (gvR_callM (ga_cons Kx.st (gv_call (ga_cons Kx.st (gv_ring Dt) (ga_cons Kx.st (gv_k (Ev.eq (en_lcR (u := .lst .int) (n := c) (g := fun i => 0 + (i : Int) * (n : Int)) (f := fun i => (x.drop (i * n)).take n) (src_range3 (n := c) (l := 0) (m := (x.length : Int)) (c := (n : Int)) (ea_cons ev_int (ea_cons (ev_len (ty := .int) (xs := x) (ev_var t1)) (ea_cons (ev_var t2) ea_nil))) (by rw [hxl]; exact rg_is ⟨by omega, h4⟩ ⟨c1, c3⟩)) (by decide) no_ow (small_line (by omega)) fun i hi => ?_).ev rfl)) ga_nil))
          ⟨S.1, Ir.chunks n c x, rfl, hk, hcl, hw, fun v hv => bits_lt.mpr ((Ir.lt7 (hzv v hv)).mono (by omega)), g, by rw [show Ir.prows S.1.length (mvs S.1 (Ir.chunks n c x)) = Nf02.make S.1 (Ir.chunks n c x) from em]⟩) ga_nil) hkeep ⟨rfl, rfl⟩)
        have ei : (0 : Int) + (i : Int) * (n : Int) = ((i * n : Nat) : Int) := by rw [Int.zero_add, Int.natCast_mul]
        rw [ei]
        have t1' : ((wipeT τ [3]).set 3 (some (dI ((i * n : Nat) : Int))))[1]? = some (some (dV x)) := by rw [← hτ]; rfl
        have t2' : ((wipeT τ [3]).set 3 (some (dI ((i * n : Nat) : Int))))[2]? = some (some (dI (n : Int))) := by rw [← hτ]; rfl
        have t3' : ((wipeT τ [3]).set 3 (some (dI ((i * n : Nat) : Int))))[3]? = some (some (dI ((i * n : Nat) : Int))) := by rw [← hτ]; rfl
        refine (ev_cut (ty := .int) (xs := x) (ev_var t1') (eo_some (ev_var t3')) (eo_some ((ev_I0 (g := fun i j => i + j) (ev_var t3') (ev_var t2')).eq (congrArg dI (show ((i * n : Nat) : Int) + (n : Int) = ((i * n + n : Nat) : Int) by omega))))).eq (congrArg dV ?_)
        rw [cut_mid, Nat.add_sub_cancel_left]
  · have ev := Ir.vecs_no hn0 hc
    have est : Nf02.step ⟨S.1, S.2⟩ (.ideal x) = (⟨S.1, S.2⟩, Nf02.ok (-1)) := by
      have e0 : Nf02.step ⟨S.1, S.2⟩ (.ideal x) = (match Nf02.vecs S.1.length x with
        | none => ((⟨S.1, S.2⟩ : Nf02.State), Nf02.ok (-1))
        | some vs => if (vs.all fun v => v.all fun z => z == 0) = true then (⟨S.1, S.2⟩, Nf02.ok (-3)) else Nf02.State.put ⟨S.1, S.2⟩ (Nf02.make S.1 vs)) := rfl
      rw [e0, hn, ev]
    unfold ans at ed
    unfold stp at es
    rw [est] at ed es
    subst ed es
    refine gd_exit Kx.st RtM.tr (htest.eq ?_) (gvR_M (gv_k (en_one ev_int)) ⟨rfl, rfl⟩)
    rw [← Bool.not_eq_false]
    exact fun h => hc (hcond.mpr h)
/-! of two -/
def mkd (k : List Int) (kind : Int) (a b : List (List Int)) : List (List Int) := if kind = 2 then Nf02.add k a b else if kind = 3 then Nf02.mul k a b else if kind = 4 then Nf02.common k a b else Nf02.by_ k a b
def F_made_by : DS → List Dy → Dy → Prop := fun S ds d => ∃ (kind : Int) (a b : List (List Int)), ds = [dI kind, dM a, dM b] ∧ DOk S ∧ a ∈ S.2 ∧ b ∈ S.2 ∧ d = dM (mkd S.1 kind a b)
theorem ok_made_by {f : Addr} {fd : FuncData} (Fn : Fun K "made_by" "made_by" s_made_by f fd) (Cn : Ct K mg) (Dt : DTx K C) (d_sum_of : DefOk P w K mg base 44 "sum_of" ["one", "other"] (spD F_sum_of)) (d_product_of : DefOk P w K mg base 44 "product_of" ["ring", "one", "other"] (spD F_product_of))
    (d_in_common : DefOk P w K mg base 45 "in_common" ["one", "other"] (spD F_in_common)) (d_one_by_another : DefOk P w K mg base 45 "one_by_another" ["ring", "one", "other"] (spD F_one_by_another)) : FnOk P w K mg base CX0 46 f fd ["desk", "kind", "one", "other"] (spR C F_made_by) := by
  refine fn_read Fn sc_made_by (fun S ds d ⟨kind, x, y, e, _⟩ => by rw [e]; rfl) fun cdv A outer s H E hr S ds d ⟨kind, x, y, e, hS, hx, hy, ed⟩ => ?_
  subst e ed
  refine ⟨_, (pss_cons (ps_if (pt_cmpR op_eq (pv 1) (pe_globI rfl Cn.c_SUM) (nomark _)) (pss_one (ps_ret (pe_callD d_sum_of (hr.mono (by decide)) rfl (pa_cons (pv 2) (pa_cons (pv 3) pa_nil))))) pss_nil)
    (pss_cons (ps_if (pt_cmpR op_eq (pv 1) (pe_globI rfl Cn.c_PRODUCT) (nomark _)) (pss_one (ps_ret (pe_callD d_product_of (hr.mono (by decide)) rfl (pa_cons (pe_fldK (K := K) rfl (pv 0) rfl) (pa_cons (pv 2) (pa_cons (pv 3) pa_nil)))))) pss_nil)
    (pss_one (ps_ret (pe_ifExp (pt_cmpR op_eq (pv 1) (pe_globI rfl Cn.c_COMMON) (nomark _)) (pe_callD d_in_common (hr.mono (by decide)) rfl (pa_cons (pv 2) (pa_cons (pv 3) pa_nil))) (pe_callD d_one_by_another (hr.mono (by decide)) rfl (pa_cons (pe_fldK (K := K) rfl (pv 0) rfl) (pa_cons (pv 2) (pa_cons (pv 3) pa_nil))))))))), ?_⟩
  intro a q
  have kx := hS.kp hx
  have ky := hS.kp hy
  have hk := hS.1
  obtain ⟨hxn, hxb⟩ := hS.2.2.2 x hx
  have hkind : ∀ c : Int, Gt (tTest (tOp rEq (tVar 1) (tC (.int c)))) (Kx C (startK N_made_by [dI kind, dM x, dM y]) S a q) (decide (kind = c)) := fun c => gt_k (et_test (ev_eqI (ev_var rfl) ev_int))
  have ao : Ga (tCons (tVar 2) (tCons (tVar 3) tNil)) (Kx C (startK N_made_by [dI kind, dM x, dM y]) S a q) [dM x, dM y] := ga_cons Kx.st (gv_k (ev_var rfl)) (ga_cons Kx.st (gv_k (ev_var rfl)) ga_nil)
  unfold mkd
  by_cases h2 : kind = 2
  · rw [if_pos h2]
    exact gd_exit Kx.st RtP.tr ((hkind 2).eq (decide_eq_true h2)) (gvR_P (gv_call ao ⟨S.1, x, y, rfl, hk, kx, ky, rfl⟩) rfl)
  · rw [if_neg h2]
    refine gd_pass Kx.st RtP.tr ((hkind 2).eq (decide_eq_false h2)) ?_
    by_cases h3 : kind = 3
    · rw [if_pos h3]
      exact gd_exit Kx.st RtP.tr ((hkind 3).eq (decide_eq_true h3)) (gvR_P (gv_call (ga_cons Kx.st (gv_ring Dt) ao) ⟨S.1, x, y, rfl, hk, kx, ky, rfl⟩) rfl)
    · rw [if_neg h3]
      refine gd_pass Kx.st RtP.tr ((hkind 3).eq (decide_eq_false h3)) ?_
      refine gd_ret (gvR_P (gv_if (b := decide (kind = 4)) Kx.st (hkind 4) (fun h4 => ?_) fun h4 => ?_) rfl)
      · rw [if_pos (of_decide_eq_true h4)]
        exact gv_call ao ⟨S.1, x, y, rfl, hk, kx, ky, rfl⟩
      · rw [if_neg (of_decide_eq_false h4)]
        exact gv_call (ga_cons Kx.st (gv_ring Dt) ao) ⟨S.1, x, y, rfl, hk, hxn, hxb, ky, rfl⟩
def two (kind : Int) (i j : Nat) : Nf02.Call := if kind = 2 then .add i j else if kind = 3 then .mul i j else if kind = 4 then .common i j else .by_ i j
def F_told_of_two : DS → List Dy → Dy → DS → Prop := fun S ds d S' => ∃ (kind : Int) (i j : Nat) (a b : List (List Int)), ds = [dI kind, dM a, dM b] ∧ DOk S ∧ S.2[i]? = some a ∧ S.2[j]? = some b ∧ (kind = 10 → d = dV (ans S (.holds i j)) ∧ S' = S) ∧ (kind ≠ 10 → d = dV (ans S (two kind i j)) ∧ S' = stp S (two kind i j))
theorem at_two {S : DS} {i j : Nat} {a b : List (List Int)} (hi : S.2[i]? = some a) (hj : S.2[j]? = some b) (g : List (List Int) → List (List Int) → Nf02.State × Nf02.Ans) : Nf02.State.at_ ⟨S.1, S.2⟩ i (fun x => Nf02.State.at_ ⟨S.1, S.2⟩ j fun y => g x y) = g a b := by
  unfold Nf02.State.at_
  show (match S.2[i]? with | none => _ | some x => _) = _
  rw [hi]
  show (match S.2[j]? with | none => _ | some x => _) = _
  rw [hj]
theorem at_one {S : DS} {i : Nat} {a : List (List Int)} (hi : S.2[i]? = some a) (g : List (List Int) → Nf02.State × Nf02.Ans) : Nf02.State.at_ ⟨S.1, S.2⟩ i g = g a := by
  unfold Nf02.State.at_
  show (match S.2[i]? with | none => _ | some x => _) = _
  rw [hi]
theorem step_two {S : DS} {kind : Int} {i j : Nat} {a b : List (List Int)} (hi : S.2[i]? = some a) (hj : S.2[j]? = some b) : Nf02.step ⟨S.1, S.2⟩ (two kind i j) = Nf02.State.put ⟨S.1, S.2⟩ (mkd S.1 kind a b) := by
  unfold two mkd
  by_cases h2 : kind = 2
  · rw [if_pos h2, if_pos h2]; exact at_two hi hj fun a b => Nf02.State.put ⟨S.1, S.2⟩ (Nf02.add S.1 a b)
  · rw [if_neg h2, if_neg h2]
    by_cases h3 : kind = 3
    · rw [if_pos h3, if_pos h3]; exact at_two hi hj fun a b => Nf02.State.put ⟨S.1, S.2⟩ (Nf02.mul S.1 a b)
    · rw [if_neg h3, if_neg h3]
      by_cases h4 : kind = 4
      · rw [if_pos h4, if_pos h4]; exact at_two hi hj fun a b => Nf02.State.put ⟨S.1, S.2⟩ (Nf02.common S.1 a b)
      · rw [if_neg h4, if_neg h4]; exact at_two hi hj fun a b => Nf02.State.put ⟨S.1, S.2⟩ (Nf02.by_ S.1 a b)
theorem mkd_lt {S : DS} {kind : Int} {a b : List (List Int)} (hS : DOk S) (ha : a ∈ S.2) (hb : b ∈ S.2) : Ir.Hnf S.1.length (mkd S.1 kind a b) ∧ ∀ x ∈ mkd S.1 kind a b, Ir.Lt Ir.BF x := by
  unfold mkd
  have ka := hS.kp ha
  have kb := hS.kp hb
  by_cases h2 : kind = 2
  · rw [if_pos h2]; exact Ir.add_lt hS.1 ka kb
  · rw [if_neg h2]
    by_cases h3 : kind = 3
    · rw [if_pos h3]; exact Ir.mul_lt hS.1 ka kb
    · rw [if_neg h3]
      by_cases h4 : kind = 4
      · rw [if_pos h4]; exact Ir.common_lt hS.1 ka kb
      · rw [if_neg h4]; exact Ir.by_lt hS.1 (hS.2.2.2 a ha).1 (hS.2.2.2 a ha).2 kb
theorem ok_told_of_two {f : Addr} {fd : FuncData} (Fn : Fun K "told_of_two" "told_of_two" s_told_of_two f fd) (T : Bt mg) (Cn : Ct K mg) (Dt : DTx K C) (d_holds : DefOk P w K mg base 43 "holds" ["one", "other"] (spD F_holds)) (d_made_by : DefOk P w K mg base 46 "made_by" ["desk", "kind", "one", "other"] (spR C F_made_by)) (d_keep : DefOk P w K mg base 41 "keep" ["desk", "rows"] (spM C F_keep)) :
    FnOk P w K mg base CX0 47 f fd ["desk", "kind", "one", "other"] (spM C F_told_of_two) := by
  refine fn_mut Fn sc_told_of_two (fun S ds d S' ⟨kind, i, j, x, y, e, _⟩ => by rw [e]; rfl) fun cdv A outer s H E hr S ds d S' ⟨kind, i, j, x, y, e, hS, hi, hj, c1, c2⟩ => ?_
  subst e
  refine ⟨_, (pss_cons (ps_if (pt_cmpR op_eq (pv 1) (pe_globI rfl Cn.c_HOLDS) (nomark _)) (pss_one (ps_ret (pe_lst (pa_cons (pe_callTy call_int1 (by rfl) T.b_int (by decide +kernel) (pa_cons (pe_callD d_holds (hr.mono (by decide)) rfl (pa_cons (pv 2) (pa_cons (pv 3) pa_nil))) pa_nil)) pa_nil)))) pss_nil)
    (pss_one (ps_ret (pe_ifExp (pt_cmpR op_eq (pe_callB (lenK (K := K) rfl) (by rfl) T.b_len (by decide +kernel) (pa_cons (pe_fldK (K := K) rfl (pv 0) rfl) pa_nil)) (pe_globI rfl Cn.c_MOST_KEPT) (nomark _)) (pe_lst (pa_cons (pe_globI rfl Cn.c_FULL) pa_nil)) (pe_callD d_keep (hr.mono (by decide)) rfl (pa_cons (pv 0) (pa_cons (pe_callD d_made_by (hr.mono (by decide)) rfl (pa_cons (pv 0) (pa_cons (pv 1) (pa_cons (pv 2) (pa_cons (pv 3) pa_nil))))) pa_nil))))))), ?_⟩
  intro a q
  have mx := List.mem_of_getElem? hi
  have my := List.mem_of_getElem? hj
  have htest : Gt (tTest (tOp rEq (tVar 1) (tC (.int 10)))) (Kx C (startK N_told_of_two [dI kind, dM x, dM y]) S a q) (decide (kind = 10)) := gt_k (et_test (ev_eqI (ev_var rfl) ev_int))
  have h4 := hS.1.2.1
  by_cases h10 : kind = 10
  · obtain ⟨rfl, rfl⟩ := c1 h10
    have e : ans S' (.holds i j) = [if Nf02.holds x y = true then 1 else 0] := by
      have est : Nf02.step ⟨S'.1, S'.2⟩ (.holds i j) = (⟨S'.1, S'.2⟩, Nf02.ok (Nf02.flag (Nf02.holds x y))) := at_two hi hj fun a b => (⟨S'.1, S'.2⟩, Nf02.ok (Nf02.flag (Nf02.holds a b)))
      unfold ans
      rw [est]; rfl
    rw [e]
    exact gd_exit Kx.st RtM.tr (htest.eq (decide_eq_true h10)) (gvR_M (gv_k (en_one (ev_intb (ev_call (ea_cons (ev_var rfl) (ea_cons (ev_var rfl) ea_nil)) ⟨S'.1.length, x, y, rfl, h4, hS.kp mx, hS.kp my, rfl⟩)))) ⟨rfl, rfl⟩)
  · obtain ⟨ed, es⟩ := c2 h10
    refine gd_pass Kx.st RtM.tr (htest.eq (decide_eq_false h10)) ?_
    have est := step_two (kind := kind) hi hj
    have htest3 : Gt (tTest (tOp rEq (tCB (fun xs H Q => ∃ p ys, xs = [.ref p] ∧ (SqL K H p ys ∨ SqT K H p ys) ∧ Q (.int ys.length) H) (tCons (tFld K (tVar 0) "kept") tNil)) (tC (.int 8)))) (Kx C (startK N_told_of_two [dI kind, dM x, dM y]) S a q) (decide ((S.2.length : Int) = 8)) := gt_test (gv_eqI Kx.st (gv_lenKept Dt) gv_int)
    refine gd_ret (gvR_if Kx.st RtM.tr htest3 (fun h8 => ?_) fun h8 => ?_)
    · have h8' : S.2.length = 8 := by have := of_decide_eq_true h8; omega
      obtain ⟨e1, e2⟩ := put_full h8' est
      rw [e1] at ed
      rw [e2] at es
      subst ed es
      exact gvR_M (gv_k (en_one ev_int)) ⟨rfl, rfl⟩
    · have h8' : S.2.length < 8 := by have := of_decide_eq_false h8; have := hS.2.2.1; omega
      have hkeep := put_keep h8' hS.1 (mkd_lt (kind := kind) hS mx my) est
      rw [← ed, ← es] at hkeep
      exact gvR_callM (ga_cons Kx.st (gv_callR (ga_cons Kx.st (gv_k (ev_var rfl)) (ga_cons Kx.st (gv_k (ev_var rfl)) (ga_cons Kx.st (gv_k (ev_var rfl)) ga_nil))) ⟨kind, x, y, rfl, hS, mx, my, rfl⟩) ga_nil) hkeep ⟨rfl, rfl⟩
/-! of one -/
def F_told : List Dy → Dy → Prop := fun ds d => ∃ (rows : List (List Int)), ds = [dM rows] ∧ rows.flatten.length < sizeLine ∧ d = dV (0 :: rows.flatten)
theorem ok_told {f : Addr} {fd : FuncData} {j : Nat} (Fn : Fun K "told" "told" s_told f fd) : FnOk P w K mg base CX0 (j + 1) f fd ["rows"] (spD F_told) := by
  refine fn_pure Fn sc_told (fun ds d ⟨x, e, _⟩ => by rw [e]; rfl) fun cdv A outer s H E hr ds d ⟨x, e, hl, ed⟩ => ?_
  subst e ed
  refine ⟨_, (pss_cons (ps_set (i := 1) sc_told.nd rfl (Or.inl rfl) (pe_lst (pa_cons pe_int pa_nil)))
    (pss_cons (ps_for PassesOwn.never rfl (pi_listK (K := K) rfl (pv 0)) (pg_name (i := 2) sc_told.nd rfl (Or.inl rfl)) (pss_one (ps_set (i := 1) sc_told.nd rfl (Or.inl rfl) (pe_op op_cat (pv 1) (pv 2)))))
    (pss_one (ps_ret (pv 1))))), ?_⟩
  refine sd_then (sd_asg (d := dV [0]) (en_one ev_int) no_ow ⟨rfl, rfl⟩) ?_
  have hle : ∀ i, (x.take i).flatten.length ≤ x.flatten.length := fun i => by
    have e : x.flatten = (x.take i).flatten ++ (x.drop i).flatten := by rw [← List.flatten_append, List.take_append_drop]
    rw [e, List.length_append]; omega
  refine sd_seq (sd_for (src_list (ty := .lst .int) (xs := x) (ev_var rfl)) (fun i τ o => ∃ (t2 : Option Dy), τ = [some (dM x), some (dV (0 :: (x.take i).flatten)), t2] ∧ o = none) ?_ ?_ ?_ fun _ _ h => h) ?_
  · exact ⟨_, rfl, rfl⟩
  · rintro i τ o ⟨_, _, rfl⟩; exact no_ow
  · rintro i τ o hi ⟨t2, rfl, rfl⟩
    have hxi : x[i]? = some x[i] := List.getElem?_eq_getElem hi
    simp only [hxi]
    have e1 : (x.take (i + 1)).flatten = (x.take i).flatten ++ x[i] := by
      rw [List.take_add_one, hxi, List.flatten_append]; simp
    have h1 := hle (i + 1)
    rw [e1, List.length_append] at h1
    refine sd_asg (d := dV (0 :: (x.take (i + 1)).flatten)) ((ev_cat (ty := .int) (ev_var rfl) (ev_var rfl) ?_).eq (congrArg dV (by rw [e1]; rfl))) no_ow ⟨_, rfl, rfl⟩
    rw [List.length_cons]; omega
  · rintro τ o ⟨t2, rfl, rfl⟩
    refine sd_ret (ev_var rfl) ?_
    rw [List.take_length]
def F_prime : DS → List Dy → Dy → Prop := fun S ds d => ∃ (i : Nat) (a : List (List Int)), ds = [dM a] ∧ DOk S ∧ S.2[i]? = some a ∧ d = dV (ans S (.prime i))
theorem nlt {n : Nat} (h : n ≤ 4) : n * 40 + 40 ≤ 90000000 := by
  have := Nat.mul_le_mul_right 40 h
  omega
theorem ok_prime {f : Addr} {fd : FuncData} (Fn : Fun K "prime" "prime" s_prime f fd) (T : Bt mg) (Cn : Ct K mg) (Dt : DTx K C) (d_norm : DefOk P w K mg base 40 "norm" ["rows"] (spD F_norm)) (d_is_prime : DefOk P w K mg base 43 "is_prime" ["ring", "rows"] (spD F_is_prime)) : FnOk P w K mg base CX0 44 f fd ["desk", "rows"] (spR C F_prime) := by
  refine fn_read Fn sc_prime (fun S ds d ⟨i, x, e, _⟩ => by rw [e]; rfl) fun cdv A outer s H E hr S ds d ⟨i, x, e, hS, hi, ed⟩ => ?_
  subst e ed
  refine ⟨_, (pss_one (ps_ret (pe_ifExp (pt_cmpR op_gt (pe_callD d_norm (hr.mono (by decide)) rfl (pa_cons (pv 1) pa_nil)) (pe_globI rfl Cn.c_MOST_PRIME) (nomark _)) (pe_lst (pa_cons (pe_globI rfl Cn.c_TOO_WIDE) pa_nil)) (pe_lst (pa_cons (pe_callTy call_int1 (by rfl) T.b_int (by decide +kernel) (pa_cons (pe_callD d_is_prime (hr.mono (by decide)) rfl (pa_cons (pe_fldK (K := K) rfl (pv 0) rfl) (pa_cons (pv 1) pa_nil))) pa_nil)) pa_nil))))), ?_⟩
  intro a q
  have mx := List.mem_of_getElem? hi
  have kx := hS.kp mx
  have h4 := hS.1.2.1
  have est : ans S (.prime i) = if 200 < Nf02.norm x then [-9] else [if Nf02.prime S.1 x = true then 1 else 0] := by
    have e1 : Nf02.step ⟨S.1, S.2⟩ (.prime i) = (⟨S.1, S.2⟩, if 200 < Nf02.norm x then Nf02.ok (-9) else Nf02.ok (Nf02.flag (Nf02.prime S.1 x))) := at_one hi fun a => (⟨S.1, S.2⟩, if 200 < Nf02.norm a then Nf02.ok (-9) else Nf02.ok (Nf02.flag (Nf02.prime S.1 a)))
    unfold ans
    rw [e1]
    by_cases h : 200 < Nf02.norm x
    · rw [if_pos h, if_pos h]; rfl
    · rw [if_neg h, if_neg h]; rfl
  rw [est]
  refine gd_ret (gvR_P (gv_if (b := decide ((200 : Int) < (Nf02.norm x : Int))) Kx.st (gt_k (et_test (ev_B0 (g := fun i j => decide (j < i)) (ev_call (ea_cons (ev_var rfl) ea_nil) ⟨S.1.length, S.1.length, 40, x, rfl, Nat.le_refl _, by omega, kx.h.toTri, fun y hy => bits_lt.mpr (kx.lt y hy), nlt h4, rfl⟩) ev_int))) (fun h => ?_) fun h => ?_) rfl)
  · have := of_decide_eq_true h
    rw [if_pos (by omega)]
    exact gv_k (en_one ev_int)
  · have := of_decide_eq_false h
    rw [if_neg (by omega)]
    exact gv_one Kx.st (gv_intb Kx.st (gv_call (ga_cons Kx.st (gv_ring Dt) (ga_cons Kx.st (gv_k (ev_var rfl)) ga_nil)) ⟨S.1, x, rfl, hS.1, kx, by omega, rfl⟩))
end
end Wk

/-! WkO: ring.py, what a call answers -/
namespace Wk
open PySem L2 PyProof.Rows PySem.Spec
abbrev s_told_of_ideals : Stmt := topS 85
abbrev N_told_of_ideals : List Str := ["desk", "kind", "one", "behind", "rows"]
theorem sc_told_of_ideals : FnScope N_told_of_ideals ["desk", "kind", "one", "behind"] (defScope s_told_of_ideals) := ⟨rfl, rfl, rfl, by decide +kernel, rfl, by decide +kernel, by decide +kernel⟩
abbrev s_told_by : Stmt := topS 86
abbrev N_told_by : List Str := ["desk", "kind", "one", "behind"]
theorem sc_told_by : FnScope N_told_by ["desk", "kind", "one", "behind"] (defScope s_told_by) := ⟨rfl, rfl, rfl, by decide +kernel, rfl, by decide +kernel, by decide +kernel⟩
section
variable {K : PySem.W.Frag} {mg : Str → Option Value} {base : Heap} {P : Program} {w : World} {C : Addr}
def placesCall (kind : Int) (i : Nat) (x : List Int) : Nf02.Call := if kind = 8 then .has i x else .made i x
def F_told_of_places : DS → List Dy → Dy → Prop := fun S ds d => ∃ (kind : Int) (i : Nat) (a : List (List Int)) (x : List Int), ds = [dI kind, dM a, dV x] ∧ DOk S ∧ S.2[i]? = some a ∧ x.length ≤ 1000 ∧ d = dV (ans S (placesCall kind i x))
theorem one_vec {n : Nat} {x : List Int} (hn : 2 ≤ n) : (x.length = n ∧ (∀ z ∈ x, z.natAbs ≤ 100) → Nf02.vecs n x = some [x]) ∧ (¬ (x.length = n ∧ ∀ z ∈ x, z.natAbs ≤ 100) → ∀ v, Nf02.vecs n x ≠ some [v]) := by
  constructor
  · rintro ⟨h1, h2⟩
    rw [Ir.vecs_yes (q := 1) (by omega) (by omega) (by omega) (by omega) h2]
    unfold Ir.chunks
    simp [← h1]
  · intro h v e
    by_cases hf : Ir.Fits n x
    · obtain ⟨hl, hz⟩ := hf
      rcases hl with hl | hl | hl
      · exact h ⟨hl, hz⟩
      · rw [Ir.vecs_yes (q := 2) (by omega) (by omega) (by omega) hl hz] at e
        have := congrArg List.length (Option.some.inj e)
        simp [Ir.chunks] at this
      · rw [Ir.vecs_yes (q := 3) (by omega) (by omega) (by omega) hl hz] at e
        have := congrArg List.length (Option.some.inj e)
        simp [Ir.chunks] at this
    · rw [Ir.vecs_no (by omega) hf] at e; cases e
def vone (o : Option (List (List Int))) (g : List Int → Nf02.Ans) : Nf02.Ans := match o with
  | some [v] => g v
  | _ => Nf02.ok (-1)
theorem vone_yes {x : List Int} {g : List Int → Nf02.Ans} : vone (some [x]) g = g x := rfl
theorem vone_no {o : Option (List (List Int))} {g : List Int → Nf02.Ans} (h : ∀ v, o ≠ some [v]) : vone o g = Nf02.ok (-1) := by
  unfold vone
  split
  · next v => exact absurd rfl (h v)
  · rfl
theorem ok_told_of_places {f : Addr} {fd : FuncData} (Fn : Fun K "told_of_places" "told_of_places" s_told_of_places f fd) (T : Bt mg) (Cn : Ct K mg) (Dt : DTx K C) (d_are_within : DefOk P w K mg base 40 "are_within" ["numbers", "bound"] (spD F_are_within)) (d_is_nought : DefOk P w K mg base 40 "is_nought" ["number"] (spD F_is_nought))
    (d_has : DefOk P w K mg base 42 "has" ["rows", "vector"] (spD F_has)) (d_made_of : DefOk P w K mg base 44 "made_of" ["ring", "numbers"] (spD F_made_of)) : FnOk P w K mg base CX0 45 f fd ["desk", "kind", "rows", "places"] (spR C F_told_of_places) := by
  refine fn_read Fn sc_told_of_places (fun S ds d ⟨kind, i, y, x, e, _⟩ => by rw [e]; rfl) fun cdv A outer s H E hr S ds d ⟨kind, i, y, x, e, hS, hi, hx, ed⟩ => ?_
  subst e ed
  refine ⟨_, (pss_cons (ps_if (PW.pt (pw_or (pt_cmpR op_ne (pe_callB (lenK (K := K) rfl) (by rfl) T.b_len (by decide +kernel) (pa_cons (pv 3) pa_nil)) (pe_callB (lenK (K := K) rfl) (by rfl) T.b_len (by decide +kernel) (pa_cons (pe_fldK (K := K) rfl (pv 0) rfl) pa_nil)) (nomark _)) (pw_or1 (pt_not (pt_val (pe_callD d_are_within (hr.mono (by decide)) rfl (pa_cons (pv 3) (pa_cons (pe_globI rfl Cn.c_MOST_PLACE) pa_nil)))))))) (pss_one (ps_ret (pe_lst (pa_cons (pe_globI rfl Cn.c_WRONG) pa_nil)))) pss_nil)
    (pss_cons (ps_if (pt_cmpR op_eq (pv 1) (pe_globI rfl Cn.c_HAS) (nomark _)) (pss_one (ps_ret (pe_lst (pa_cons (pe_callTy call_int1 (by rfl) T.b_int (by decide +kernel) (pa_cons (pe_callD d_has (hr.mono (by decide)) rfl (pa_cons (pv 2) (pa_cons (pv 3) pa_nil))) pa_nil)) pa_nil)))) pss_nil)
    (pss_one (ps_ret (pe_lst (pa_cons (pe_callTy call_int1 (by rfl) T.b_int (by decide +kernel) (pa_cons (pe_and (pe_not (pe_callD d_is_nought (hr.mono (by decide)) rfl (pa_cons (pv 3) pa_nil))) (pe_one (pe_cmpR (eqDK (K := K) rfl hr.units) (pe_callD d_made_of (hr.mono (by decide)) rfl (pa_cons (pe_fldK (K := K) rfl (pv 0) rfl) (pa_cons (pe_lst (pa_cons (pv 3) pa_nil)) pa_nil))) (pv 2) (nomark _)))) pa_nil)) pa_nil)))))), ?_⟩
  intro a q
  have my := List.mem_of_getElem? hi
  have ky := hS.kp my
  have hk := hS.1
  have h4 := hk.2.1
  obtain ⟨v1, v2⟩ := one_vec (n := S.1.length) (x := x) hk.1
  have est : ans S (placesCall kind i x) = Nf02Neutral.out (vone (Nf02.vecs S.1.length x) fun v => if kind = 8 then Nf02.ok (Nf02.flag (Nf02.has y v)) else Nf02.ok (Nf02.flag (Nf02.make S.1 [v] == y))) := by
    unfold ans placesCall
    by_cases h8 : kind = 8
    · rw [if_pos h8]
      have e1 : Nf02.step ⟨S.1, S.2⟩ (.has i x) = (⟨S.1, S.2⟩, vone (Nf02.vecs S.1.length x) fun v => Nf02.ok (Nf02.flag (Nf02.has y v))) := at_one hi fun a => (⟨S.1, S.2⟩, vone (Nf02.vecs S.1.length x) fun v => Nf02.ok (Nf02.flag (Nf02.has a v)))
      rw [e1]; simp only [if_pos h8]
    · rw [if_neg h8]
      have e1 : Nf02.step ⟨S.1, S.2⟩ (.made i x) = (⟨S.1, S.2⟩, vone (Nf02.vecs S.1.length x) fun v => Nf02.ok (Nf02.flag (Nf02.make S.1 [v] == y))) := at_one hi fun a => (⟨S.1, S.2⟩, vone (Nf02.vecs S.1.length x) fun v => Nf02.ok (Nf02.flag (Nf02.make S.1 [v] == a)))
      rw [e1]; simp only [if_neg h8]
  rw [est]
  have hcond : (x.length = S.1.length ∧ ∀ z ∈ x, z.natAbs ≤ 100) ↔ (!decide ((x.length : Int) = (S.1.length : Int)) || !(x.all fun z => decide ((z.natAbs : Int) ≤ 100))) = false := by
    rw [Bool.or_eq_false_iff, Bool.not_eq_false', Bool.not_eq_false', decide_eq_true_eq, List.all_eq_true]
    refine and_congr (by omega) ?_
    exact forall_congr' fun z => forall_congr' fun _ => by rw [decide_eq_true_eq]; omega
  have htest : Gt (tOr (tTest (tOp rNe (tCB (fun xs H Q => ∃ p ys, xs = [.ref p] ∧ (SqL K H p ys ∨ SqT K H p ys) ∧ Q (.int ys.length) H) (tCons (tVar 3) tNil)) (tCB (fun xs H Q => ∃ p ys, xs = [.ref p] ∧ (SqL K H p ys ∨ SqT K H p ys) ∧ Q (.int ys.length) H) (tCons (tFld K (tVar 0) "ring") tNil)))) (tNot (tB (tCall (spD F_are_within) [] E0 (tCons (tVar 3) (tCons (tC (.int 100)) tNil))))))
      (Kx C (startK N_told_of_places [dI kind, dM y, dV x]) S a q) (!decide ((x.length : Int) = (S.1.length : Int)) || !(x.all fun z => decide ((z.natAbs : Int) ≤ 100))) :=
    gt_or Kx.st (gt_test (gv_neI Kx.st (gv_k (ev_len (ty := .int) (xs := x) (ev_var rfl))) (gv_len (ty := .int) Kx.st (gv_ring Dt)))) fun _ => gt_k (et_not (et_B (ev_call (ea_cons (ev_var rfl) (ea_cons ev_int ea_nil)) ⟨x, 100, rfl, hx, rfl⟩)))
  by_cases hc : x.length = S.1.length ∧ ∀ z ∈ x, z.natAbs ≤ 100
  · refine gd_pass Kx.st RtP.tr (htest.eq (hcond.mp hc)) ?_
    rw [v1 hc, vone_yes]
    obtain ⟨hl, hz⟩ := hc
    have htest8 : Gt (tTest (tOp rEq (tVar 1) (tC (.int 8)))) (Kx C (startK N_told_of_places [dI kind, dM y, dV x]) S a q) (decide (kind = 8)) := gt_k (et_test (ev_eqI (ev_var rfl) ev_int))
    by_cases h8 : kind = 8
    · simp only [if_pos h8]
      refine gd_exit Kx.st RtP.tr (htest8.eq (decide_eq_true h8)) (gvR_P (gv_k (en_one (ev_intb (ev_call (ea_cons (ev_var rfl) (ea_cons (ev_var rfl) ea_nil)) ⟨y, x, S.1.length, 40, 7, rfl, own_of ky.h, hl, by omega, fun r hr => bits_lt.mpr (ky.lt r hr), bits_lt.mpr (Ir.lt7 hz), ?_, rfl⟩)))) rfl)
      have h1 : (y.length + 1) * (40 + 2) ≤ 5 * 42 := Nat.mul_le_mul_right _ (by have := ky.h.len; omega)
      omega
    · simp only [if_neg h8]
      refine gd_pass Kx.st RtP.tr (htest8.eq (decide_eq_false h8)) ?_
      have ewd : Ir.Wd S.1.length [x] := fun v hv => by rw [List.mem_singleton.mp hv]; exact hl
      have emk : (!Ir.nought x && (Nf02.make S.1 [x] == y)) = (Nf02.make S.1 [x] == y) := by
        by_cases hno : Ir.nought x = true
        · have hd := Ir.make_dead (k := S.1) (l := [x]) hk.pos fun v hv => by rw [List.mem_singleton.mp hv, ← hl]; exact Ir.nought_zr.mp hno
          have hy : y ≠ [] := fun e => by have := ky.h.len; rw [e] at this; have := hk.1; simp at *; omega
          have e2 : (Nf02.make S.1 [x] == y) = false := by rw [hd, beq_dec]; exact decide_eq_false fun e => hy e.symm
          rw [e2, hno]; rfl
        · rw [Bool.not_eq_true] at hno
          rw [hno]; rfl
      refine gd_ret (gvR_P ((gv_one Kx.st (gv_intb (b := !Ir.nought x && (Nf02.make S.1 [x] == y)) Kx.st (gv_andV Kx.st (gv_notV (gv_call (ga_cons Kx.st (gv_k (ev_var rfl)) ga_nil) ⟨x, rfl, hx, rfl⟩)) fun hno => ?_))).eq (congrArg dV (by rw [emk]; rfl))) rfl)
      have hno' : Ir.nought x = false := by simpa using hno
      obtain ⟨g, em, hh⟩ := Ir.made_same hk hS.2.1 (l := [x]) ewd (fun v hv => by rw [List.mem_singleton.mp hv]; exact Ir.lt7 hz) (by simp) ⟨x, by simp, hno'⟩
      refine gv_eqD (t := .lst (.lst .int)) (x := Nf02.make S.1 [x]) (y := y) Kx.st ((gv_call (ga_cons Kx.st (gv_ring Dt) (ga_cons Kx.st (gv_lst (ty := .lst .int) (xs := [x]) (ga_cons Kx.st (gv_k (ev_var rfl)) ga_nil) (by simp)) ga_nil)) ⟨S.1, [x], rfl, hk, by simp, ewd, fun v hv => by rw [List.mem_singleton.mp hv]; exact bits_lt.mpr ((Ir.lt7 hz).mono (by omega)), g, rfl⟩).eq (congrArg dM em)) (gv_k (ev_var rfl)) (by decide) ?_
      rw [beq_dec, Bool.eq_iff_iff, decide_eq_true_eq]
      exact eqv_M _ _
  · rw [vone_no (v2 hc)]
    refine gd_exit Kx.st RtP.tr (htest.eq ?_) (gvR_P (gv_k (en_one ev_int)) rfl)
    rw [← Bool.not_eq_false]
    exact fun h => hc (hcond.mpr h)
def F_every_ideal : DS → List Dy → Dy → Prop := fun S ds d => ∃ (m : Nat), ds = [dI (m : Int)] ∧ DOk S ∧ (ans S (.ofNorm m)).length ≤ 1000000 ∧ d = dV (ans S (.ofNorm m))
theorem ok_every_ideal {f : Addr} {fd : FuncData} (Fn : Fun K "every_ideal" "every_ideal" s_every_ideal f fd) (T : Bt mg) (Cn : Ct K mg) (Dt : DTx K C) (d_all_of_norm : DefOk P w K mg base 45 "all_of_norm" ["ring", "bound"] (spD F_all_of_norm)) (d_told : DefOk P w K mg base 40 "told" ["rows"] (spD F_told)) :
    FnOk P w K mg base CX0 46 f fd ["desk", "bound"] (spR C F_every_ideal) := by
  refine fn_read Fn sc_every_ideal (fun S ds d ⟨m, e, _⟩ => by rw [e]; rfl) fun cdv A outer s H E hr S ds d ⟨m, e, hS, hlen, ed⟩ => ?_
  subst e ed
  refine ⟨_, (pss_cons (ps_if (pt_not (pt_chain op_le op_le pe_int (pv 1) (pe_globI rfl Cn.c_MOST_ALL))) (pss_one (ps_ret (pe_lst (pa_cons (pe_globI rfl Cn.c_WRONG) pa_nil)))) pss_nil)
    (pss_cons (ps_set (i := 2) sc_every_ideal.nd rfl (Or.inl rfl) (pe_callD d_all_of_norm (hr.mono (by decide)) rfl (pa_cons (pe_fldK (K := K) rfl (pv 0) rfl) (pa_cons (pv 1) pa_nil))))
    (pss_cons (ps_set (i := 3) sc_every_ideal.nd rfl (Or.inl rfl) (pe_lst (pa_cons (pe_callB (lenK (K := K) rfl) (by rfl) T.b_len (by decide +kernel) (pa_cons (pv 2) pa_nil)) pa_nil)))
    (pss_cons (ps_for PassesOwn.never rfl (pi_listK (K := K) rfl (pv 2)) (pg_name (i := 4) sc_every_ideal.nd rfl (Or.inl rfl)) (pss_one (ps_set (i := 3) sc_every_ideal.nd rfl (Or.inl rfl) (pe_op op_cat (pv 3) (pe_slice (slL (K := K) rfl) (pe_callD d_told (hr.mono (by decide)) rfl (pa_cons (pv 4) pa_nil)) (po_some pe_int) po_none)))))
    (pss_one (ps_ret (pv 3))))))), ?_⟩
  intro a q
  have htest : Gt (tNot (tTest (tChain (rI0 fun i j => .bl (decide (i ≤ j))) (rI0 fun i j => .bl (decide (i ≤ j))) (tC (.int 1)) (tVar 1) (tC (.int 30))))) (Kx C (startK N_every_ideal [dI (m : Int)]) S a q) (!(decide ((1 : Int) ≤ (m : Int)) && decide ((m : Int) ≤ 30))) :=
    gt_k (et_not (et_test (ev_chain (g := fun i j => decide (i ≤ j)) (h := fun i j => decide (i ≤ j)) ev_int (ev_var rfl) ev_int)))
  have est : Nf02.step ⟨S.1, S.2⟩ (.ofNorm m) = (⟨S.1, S.2⟩, if m = 0 ∨ 30 < m then Nf02.ok (-1) else ⟨((Nf02.ofNorm S.1 m).length : Nat), (Nf02.ofNorm S.1 m).flatten.flatten⟩) := rfl
  have ea : ans S (.ofNorm m) = if m = 0 ∨ 30 < m then [-1] else ((Nf02.ofNorm S.1 m).length : Int) :: (Nf02.ofNorm S.1 m).flatten.flatten := by
    unfold ans
    rw [est]
    by_cases h : m = 0 ∨ 30 < m
    · rw [if_pos h, if_pos h]; rfl
    · rw [if_neg h, if_neg h]; rfl
  rw [ea] at hlen ⊢
  by_cases hc : m = 0 ∨ 30 < m
  · rw [if_pos hc]
    refine gd_exit Kx.st RtP.tr (htest.eq ?_) (gvR_P (gv_k (en_one ev_int)) rfl)
    rw [Bool.not_eq_true', Bool.and_eq_false_iff]
    rcases hc with h | h
    · exact .inl (decide_eq_false (by omega))
    · exact .inr (decide_eq_false (by omega))
  · rw [if_neg hc] at hlen ⊢
    refine gd_pass Kx.st RtP.tr (htest.eq ?_) ?_
    · rw [decide_eq_true (by omega), decide_eq_true (by omega)]; rfl
    · generalize hl : Nf02.ofNorm S.1 m = l at *
      refine gd_seq (MID := Kx C ((startK N_every_ideal [dI (m : Int)]).set 2 (some (dN l))) S a q) RtP.tr (gd_asg (d := dN l) Kx.st ((gv_call (ga_cons Kx.st (gv_ring Dt) (ga_cons Kx.st (gv_k (ev_var rfl)) ga_nil)) ⟨S.1, m, rfl, hS.1, by omega, by omega, rfl⟩).eq (congrArg dN hl)) fun σ G H v k r => Kx.set (by decide) σ G H v k r) ?_
      refine gd_pure ?_
      rw [List.length_cons] at hlen
      have hle : ∀ i, (l.take i).flatten.flatten.length ≤ l.flatten.flatten.length := fun i => by
        have e : l.flatten = (l.take i).flatten ++ (l.drop i).flatten := by rw [← List.flatten_append, List.take_append_drop]
        rw [e, List.flatten_append, List.length_append]; omega
      refine sd_then (sd_asg (d := dV [(l.length : Int)]) (en_one (ev_len (ty := .lst (.lst .int)) (xs := l) (ev_var rfl))) no_ow ⟨rfl, rfl⟩) ?_
      refine sd_seq (sd_for (src_list (ty := .lst (.lst .int)) (xs := l) (ev_var rfl)) (fun i τ o => ∃ (t4 : Option Dy), τ = [none, some (dI (m : Int)), some (dN l), some (dV ((l.length : Int) :: (l.take i).flatten.flatten)), t4] ∧ o = none) ?_ ?_ ?_ fun _ _ h => h) ?_
      · exact ⟨_, rfl, rfl⟩
      · rintro i τ o ⟨_, _, rfl⟩; exact no_ow
      · rintro i τ o hi ⟨t4, rfl, rfl⟩
        have hxi : l[i]? = some l[i] := List.getElem?_eq_getElem hi
        simp only [hxi]
        have e1 : (l.take (i + 1)).flatten.flatten = (l.take i).flatten.flatten ++ l[i].flatten := by
          rw [List.take_add_one, hxi, List.flatten_append, List.flatten_append]; simp
        have h1 := hle (i + 1)
        rw [e1, List.length_append] at h1
        have hz1 : l[i].flatten.length < sizeLine := Nat.lt_of_le_of_lt (by omega) line_ge
        refine sd_asg (d := dV ((l.length : Int) :: (l.take (i + 1)).flatten.flatten)) ((ev_cat (ty := .int) (ev_var rfl) ((ev_cut (ty := .int) (xs := 0 :: l[i].flatten) (ev_call (ea_cons (ev_var rfl) ea_nil) ⟨l[i], rfl, hz1, rfl⟩) (eo_some (i := ((1 : Nat) : Int)) ev_int) eo_none).eq (congrArg dV ((cut_from _ 1).trans (show (0 :: l[i].flatten).drop 1 = l[i].flatten from rfl)))) ?_).eq (congrArg dV (by rw [e1]; rfl))) no_ow ⟨_, rfl, rfl⟩
        rw [List.length_cons]
        exact Nat.le_of_lt (Nat.lt_of_le_of_lt (by omega) line_ge)
      · rintro τ o ⟨t4, rfl, rfl⟩
        refine sd_ret (ev_var rfl) ?_
        rw [List.take_length]
inductive OneIs : Int → Nat → List (List Int) → Nf02.Call → Prop
  | told {i : Nat} : OneIs 6 i [] (.told i)
  | norm {i : Nat} : OneIs 7 i [] (.norm i)
  | has {i : Nat} {x : List Int} : x.length ≤ 1000 → OneIs 8 i [x] (.has i x)
  | made {i : Nat} {x : List Int} : x.length ≤ 1000 → OneIs 9 i [x] (.made i x)
  | prime {i : Nat} : OneIs 11 i [] (.prime i)
def F_told_of_one : DS → List Dy → Dy → Prop := fun S ds d => ∃ (kind : Int) (i : Nat) (a : List (List Int)) (b : List (List Int)) (c : Nf02.Call), ds = [dI kind, dM a, dM b] ∧ DOk S ∧ S.2[i]? = some a ∧ OneIs kind i b c ∧ d = dV (ans S c)
theorem flat_small {k : List Int} {a : List (List Int)} (hk : RingOk k) (h : Ir.Hnf k.length a) : a.flatten.length < sizeLine := by
  have h4 := hk.2.1
  have e : a.flatten.length ≤ a.length * 4 := by
    have : ∀ l : List (List Int), (∀ x ∈ l, x.length ≤ 4) → l.flatten.length ≤ l.length * 4 := by
      intro l
      induction l with
      | nil => intro _; simp
      | cons x l ih =>
        intro hl
        rw [List.flatten_cons, List.length_append, List.length_cons]
        have := hl x (by simp)
        have := ih fun y hy => hl y (by simp [hy])
        omega
    exact this a fun x hx => by rw [h.wd x hx]; exact h4
  have := h.len
  exact Nat.lt_of_le_of_lt (show _ ≤ 1000000 by omega) line_ge
theorem ok_told_of_one {f : Addr} {fd : FuncData} (Fn : Fun K "told_of_one" "told_of_one" s_told_of_one f fd) (Cn : Ct K mg) (d_told : DefOk P w K mg base 40 "told" ["rows"] (spD F_told)) (d_norm : DefOk P w K mg base 40 "norm" ["rows"] (spD F_norm)) (d_prime : DefOk P w K mg base 44 "prime" ["desk", "rows"] (spR C F_prime))
    (d_told_of_places : DefOk P w K mg base 45 "told_of_places" ["desk", "kind", "rows", "places"] (spR C F_told_of_places)) : FnOk P w K mg base CX0 46 f fd ["desk", "kind", "rows", "behind"] (spR C F_told_of_one) := by
  refine fn_read Fn sc_told_of_one (fun S ds d ⟨kind, i, x, b, c, e, _⟩ => by rw [e]; rfl) fun cdv A outer s H E hr S ds d ⟨kind, i, x, b, c, e, hS, hi, hc, ed⟩ => ?_
  subst e ed
  refine ⟨_, (pss_cons (ps_if (pt_cmpR op_eq (pv 1) (pe_globI rfl Cn.c_TOLD) (nomark _)) (pss_one (ps_ret (pe_callD d_told (hr.mono (by decide)) rfl (pa_cons (pv 2) pa_nil)))) pss_nil)
    (pss_cons (ps_if (pt_cmpR op_eq (pv 1) (pe_globI rfl Cn.c_NORM) (nomark _)) (pss_one (ps_ret (pe_lst (pa_cons pe_int (pa_cons (pe_callD d_norm (hr.mono (by decide)) rfl (pa_cons (pv 2) pa_nil)) pa_nil))))) pss_nil)
    (pss_one (ps_ret (pe_ifExp (pt_cmpR op_eq (pv 1) (pe_globI rfl Cn.c_PRIME) (nomark _)) (pe_callD d_prime (hr.mono (by decide)) rfl (pa_cons (pv 0) (pa_cons (pv 2) pa_nil))) (pe_callD d_told_of_places (hr.mono (by decide)) rfl (pa_cons (pv 0) (pa_cons (pv 1) (pa_cons (pv 2) (pa_cons (pe_ix (ixL (K := K) rfl) (pv 3) pe_int (fun _ _ => rfl)) pa_nil)))))))))), ?_⟩
  intro a q
  have mx := List.mem_of_getElem? hi
  have kx := hS.kp mx
  have h4 := hS.1.2.1
  have hkind : ∀ c : Int, Gt (tTest (tOp rEq (tVar 1) (tC (.int c)))) (Kx C (startK N_told_of_one [dI kind, dM x, dM b]) S a q) (decide (kind = c)) := fun c => gt_k (et_test (ev_eqI (ev_var rfl) ev_int))
  cases hc with
  | told =>
    have e : ans S (.told i) = 0 :: x.flatten := by
      have e1 : Nf02.step ⟨S.1, S.2⟩ (.told i) = (⟨S.1, S.2⟩, ⟨0, x.flatten⟩) := at_one hi fun a => (⟨S.1, S.2⟩, ⟨0, a.flatten⟩)
      unfold ans; rw [e1]; rfl
    rw [e]
    exact gd_exit Kx.st RtP.tr ((hkind 6).eq (by decide)) (gvR_P (gv_k (ev_call (ea_cons (ev_var rfl) ea_nil) ⟨x, rfl, flat_small hS.1 kx.h, rfl⟩)) rfl)
  | norm =>
    have e : ans S (.norm i) = [0, (Nf02.norm x : Int)] := by
      have e1 : Nf02.step ⟨S.1, S.2⟩ (.norm i) = (⟨S.1, S.2⟩, ⟨0, [(Nf02.norm x : Nat)]⟩) := at_one hi fun a => (⟨S.1, S.2⟩, ⟨0, [(Nf02.norm a : Nat)]⟩)
      unfold ans; rw [e1]; rfl
    rw [e]
    refine gd_pass Kx.st RtP.tr ((hkind 6).eq (by decide)) (gd_exit Kx.st RtP.tr ((hkind 7).eq (by decide)) (gvR_P (gv_k (ev_lst (ty := .int) (xs := [0, (Nf02.norm x : Int)]) (ea_cons ev_int (ea_cons (ev_call (ea_cons (ev_var rfl) ea_nil) ⟨S.1.length, S.1.length, 40, x, rfl, Nat.le_refl _, by omega, kx.h.toTri, fun y hy => bits_lt.mpr (kx.lt y hy), nlt h4, rfl⟩) ea_nil)) (by simp))) rfl))
  | prime =>
    refine gd_pass Kx.st RtP.tr ((hkind 6).eq (by decide)) (gd_pass Kx.st RtP.tr ((hkind 7).eq (by decide)) (gd_ret (gvR_P (gv_if (b := true) Kx.st ((hkind 11).eq (by decide)) (fun _ => ?_) (fun h => Bool.noConfusion h)) rfl)))
    exact gv_callR (ga_cons Kx.st (gv_k (ev_var rfl)) ga_nil) ⟨i, x, rfl, hS, hi, rfl⟩
  | @has _ y hy =>
    refine gd_pass Kx.st RtP.tr ((hkind 6).eq (by decide)) (gd_pass Kx.st RtP.tr ((hkind 7).eq (by decide)) (gd_ret (gvR_P (gv_if (b := false) Kx.st ((hkind 11).eq (by decide)) (fun h => Bool.noConfusion h) (fun _ => ?_)) rfl)))
    exact gv_callR (ga_cons Kx.st (gv_k (ev_var rfl)) (ga_cons Kx.st (gv_k (ev_var rfl)) (ga_cons Kx.st (gv_k (ev_ix (ty := .lst .int) (xs := [y]) (i := ((0 : Nat) : Int)) (ev_var rfl) ev_int (atI_nat rfl))) ga_nil))) ⟨8, i, x, y, rfl, hS, hi, hy, rfl⟩
  | @made _ y hy =>
    refine gd_pass Kx.st RtP.tr ((hkind 6).eq (by decide)) (gd_pass Kx.st RtP.tr ((hkind 7).eq (by decide)) (gd_ret (gvR_P (gv_if (b := false) Kx.st ((hkind 11).eq (by decide)) (fun h => Bool.noConfusion h) (fun _ => ?_)) rfl)))
    exact gv_callR (ga_cons Kx.st (gv_k (ev_var rfl)) (ga_cons Kx.st (gv_k (ev_var rfl)) (ga_cons Kx.st (gv_k (ev_ix (ty := .lst .int) (xs := [y]) (i := ((0 : Nat) : Int)) (ev_var rfl) ev_int (atI_nat rfl))) ga_nil))) ⟨9, i, x, y, rfl, hS, hi, hy, rfl⟩
end
end Wk

/-! WkP: ring.py, told_by; what is kept stays in order -/
namespace Wk
open PySem L2 PyProof.Rows PySem.Spec
abbrev s_taken : Stmt := topS 87
abbrev N_taken : List Str := ["calls", "at", "end", "turn", "one", "rows", "behind"]
theorem sc_taken : FnScope N_taken ["calls", "at"] (defScope s_taken) := ⟨rfl, rfl, rfl, by decide +kernel, rfl, by decide +kernel, by decide +kernel⟩
inductive IdealsIs : Int → List Int → List (List Int) → Nf02.Call → Prop
  | one {kind : Int} {i : Nat} {b : List (List Int)} {c : Nf02.Call} : OneIs kind i b c → IdealsIs kind [(i : Int)] b c
  | two {kind : Int} {i j : Nat} : kind = 2 ∨ kind = 3 ∨ kind = 4 ∨ kind = 5 → IdealsIs kind [(i : Int), (j : Int)] [] (two kind i j)
  | holds {i j : Nat} : IdealsIs 10 [(i : Int), (j : Int)] [] (.holds i j)
inductive CallIs : Int → List Int → List (List Int) → Nf02.Call → Prop
  | field {x : List Int} : x.length ≤ 1000 → CallIs 0 [] [x] (.field x)
  | ideal {x : List Int} : x.length ≤ 1000 → CallIs 1 [] [x] (.ideal x)
  | ideals {kind : Int} {one : List Int} {b : List (List Int)} {c : Nf02.Call} : IdealsIs kind one b c → CallIs kind one b c
  | all {m : Nat} : CallIs 12 [(m : Int)] [] (.ofNorm m)
  | drop : CallIs 13 [] [] .drop
theorem at_none {S : DS} {i : Nat} (hi : S.2[i]? = none) (g : List (List Int) → Nf02.State × Nf02.Ans) : Nf02.State.at_ ⟨S.1, S.2⟩ i g = (⟨S.1, S.2⟩, Nf02.ok (-2)) := by
  unfold Nf02.State.at_
  show (match S.2[i]? with | none => _ | some x => _) = _
  rw [hi]
theorem at_none2 {S : DS} {i j : Nat} {a : List (List Int)} (hi : S.2[i]? = some a) (hj : S.2[j]? = none) (g : List (List Int) → List (List Int) → Nf02.State × Nf02.Ans) : Nf02.State.at_ ⟨S.1, S.2⟩ i (fun x => Nf02.State.at_ ⟨S.1, S.2⟩ j fun y => g x y) = (⟨S.1, S.2⟩, Nf02.ok (-2)) := by
  rw [at_one hi]; exact at_none hj _
/-- a call of one ideal, the ideal first -/
theorem one_at {kind : Int} {i : Nat} {b : List (List Int)} {c : Nf02.Call} (h : OneIs kind i b c) (S : DS) : ∃ g, Nf02.step ⟨S.1, S.2⟩ c = Nf02.State.at_ ⟨S.1, S.2⟩ i g ∧ ∀ a, (g a).1 = ⟨S.1, S.2⟩ := by
  cases h with
  | told => exact ⟨_, rfl, fun _ => rfl⟩
  | norm => exact ⟨_, rfl, fun _ => rfl⟩
  | has _ => exact ⟨_, rfl, fun _ => rfl⟩
  | made _ => exact ⟨_, rfl, fun _ => rfl⟩
  | prime => exact ⟨_, rfl, fun _ => rfl⟩
theorem one_stp {kind : Int} {i : Nat} {b : List (List Int)} {c : Nf02.Call} (h : OneIs kind i b c) (S : DS) : stp S c = S := by
  obtain ⟨g, e, hg⟩ := one_at h S
  unfold stp
  rw [e]
  cases hi : S.2[i]? with
  | none => rw [at_none hi]
  | some a => rw [at_one hi, hg]
theorem two_at (kind : Int) (i j : Nat) (S : DS) : Nf02.step ⟨S.1, S.2⟩ (two kind i j) = Nf02.State.at_ ⟨S.1, S.2⟩ i (fun x => Nf02.State.at_ ⟨S.1, S.2⟩ j fun y => Nf02.State.put ⟨S.1, S.2⟩ (mkd S.1 kind x y)) := by
  unfold two mkd
  by_cases h2 : kind = 2
  · simp only [if_pos h2]; rfl
  · simp only [if_neg h2]
    by_cases h3 : kind = 3
    · simp only [if_pos h3]; rfl
    · simp only [if_neg h3]
      by_cases h4 : kind = 4
      · simp only [if_pos h4]; rfl
      · simp only [if_neg h4]; rfl
theorem ans_no {S : DS} {c : Nf02.Call} (h : Nf02.step ⟨S.1, S.2⟩ c = (⟨S.1, S.2⟩, Nf02.ok (-2))) : ans S c = [-2] ∧ stp S c = S := by
  unfold ans stp
  rw [h]; exact ⟨rfl, rfl⟩
/-! what is kept stays in order -/
theorem dok_put {S : DS} {rows : List (List Int)} {c : Nf02.Call} (hS : DOk S) (h : Ir.Hnf S.1.length rows) (hc : Nf02.step ⟨S.1, S.2⟩ c = Nf02.State.put ⟨S.1, S.2⟩ rows) : DOk (stp S c) := by
  unfold stp
  rw [hc]
  show DOk ((if 8 ≤ S.2.length then ((⟨S.1, S.2⟩ : Nf02.State), Nf02.ok (-5)) else if Nf02.BIG < Nf02.norm rows then (⟨S.1, S.2⟩, Nf02.ok (-8)) else (⟨S.1, S.2 ++ [rows]⟩, Nf02.ok (S.2.length : Nat))).1.k, (if 8 ≤ S.2.length then ((⟨S.1, S.2⟩ : Nf02.State), Nf02.ok (-5)) else if Nf02.BIG < Nf02.norm rows then (⟨S.1, S.2⟩, Nf02.ok (-8)) else (⟨S.1, S.2 ++ [rows]⟩, Nf02.ok (S.2.length : Nat))).1.l)
  by_cases h1 : 8 ≤ S.2.length
  · rw [if_pos h1]; exact hS
  · rw [if_neg h1]
    by_cases h2 : Nf02.BIG < Nf02.norm rows
    · rw [if_pos h2]; exact hS
    · rw [if_neg h2]
      obtain ⟨a, b, c, d⟩ := hS
      refine ⟨a, b, by rw [List.length_append, List.length_singleton]; omega, fun x hx => ?_⟩
      rcases List.mem_append.mp hx with hx | hx
      · exact d x hx
      · rw [List.mem_singleton.mp hx]; exact ⟨h, by omega⟩
theorem dok_ideal {S : DS} {x : List Int} (hS : DOk S) : DOk (stp S (.ideal x)) := by
  have e0 : Nf02.step ⟨S.1, S.2⟩ (.ideal x) = (match Nf02.vecs S.1.length x with
    | none => ((⟨S.1, S.2⟩ : Nf02.State), Nf02.ok (-1))
    | some vs => if (vs.all fun v => v.all fun z => z == 0) = true then (⟨S.1, S.2⟩, Nf02.ok (-3)) else Nf02.State.put ⟨S.1, S.2⟩ (Nf02.make S.1 vs)) := rfl
  have hk := hS.1
  have hn0 := hk.pos
  by_cases hc : Ir.Fits S.1.length x
  · obtain ⟨hlen, hz⟩ := hc
    obtain ⟨c, c1, c3, hxl⟩ : ∃ c, 1 ≤ c ∧ c ≤ 3 ∧ x.length = c * S.1.length := by
      rcases hlen with h | h | h
      · exact ⟨1, by omega, by omega, by omega⟩
      · exact ⟨2, by omega, by omega, by omega⟩
      · exact ⟨3, by omega, by omega, by omega⟩
    rw [Ir.vecs_yes hn0 c1 c3 hxl hz] at e0
    have e0' : Nf02.step ⟨S.1, S.2⟩ (.ideal x) = if ((Ir.chunks S.1.length c x).all fun v => v.all fun z => z == 0) = true then (⟨S.1, S.2⟩, Nf02.ok (-3)) else Nf02.State.put ⟨S.1, S.2⟩ (Nf02.make S.1 (Ir.chunks S.1.length c x)) := e0
    by_cases hall : ((Ir.chunks S.1.length c x).all fun v => v.all fun z => z == 0) = true
    · rw [if_pos hall] at e0'
      unfold stp
      rw [e0']; exact hS
    · rw [if_neg hall] at e0'
      refine dok_put hS ?_ e0'
      have hzv : ∀ v ∈ Ir.chunks S.1.length c x, ∀ z ∈ v, z.natAbs ≤ 100 := fun v hv z hzv => hz z ((Ir.chunks_mem hxl hn0).mpr ⟨v, hv, hzv⟩)
      refine (Ir.made_same hk hS.2.1 (fun v hv => Ir.chunks_len hxl v hv) (fun v hv => Ir.lt7 (hzv v hv)) (by unfold Ir.chunks; simp; exact c3) ?_).2.2
      refine Classical.byContradiction fun h => hall ?_
      rw [List.all_eq_true]
      intro v hv
      have : ¬ Ir.nought v = false := fun h2 => h ⟨v, hv, h2⟩
      rw [Bool.not_eq_false] at this
      rw [← nought_all]; exact this
  · rw [Ir.vecs_no hn0 hc] at e0
    unfold stp
    rw [e0]; exact hS
theorem dok_step {S : DS} {kind : Int} {one : List Int} {b : List (List Int)} {c : Nf02.Call} (hS : DOk S) (h : CallIs kind one b c) : DOk (stp S c) := by
  cases h with
  | @field x hx =>
    have est : Nf02.step ⟨S.1, S.2⟩ (.field x) = if x.length < 2 ∨ 4 < x.length ∨ x.any (fun z => decide (Nf01.TOP < z.natAbs)) = true then (⟨S.1, S.2⟩, Nf02.ok (-1)) else if Nf01.prime x = false then (⟨S.1, S.2⟩, Nf02.ok (-3)) else (⟨x, []⟩, Nf02.ok 0) := rfl
    unfold stp
    rw [est]
    by_cases hc : x.length < 2 ∨ 4 < x.length ∨ x.any (fun z => decide (Nf01.TOP < z.natAbs)) = true
    · rw [if_pos hc]; exact hS
    · rw [if_neg hc]
      by_cases hp : Nf01.prime x = false
      · rw [if_pos hp]; exact hS
      · rw [if_neg hp]
        refine ⟨⟨by show 2 ≤ x.length; omega, by show x.length ≤ 4; omega, fun z hz => Classical.byContradiction fun h => hc (.inr (.inr ?_))⟩, by simpa using hp, by simp, fun a ha => by cases ha⟩
        rw [List.any_eq_true]
        exact ⟨z, hz, decide_eq_true (by show 20 < _; omega)⟩
  | ideal _ => exact dok_ideal hS
  | ideals h =>
    cases h with
    | one h => rw [one_stp h]; exact hS
    | @two _ i j _ =>
      have e := two_at kind i j S
      cases hi : S.2[i]? with
      | none =>
        rw [at_none hi] at e
        rw [(ans_no e).2]; exact hS
      | some x =>
        cases hj : S.2[j]? with
        | none =>
          rw [at_none2 hi hj] at e
          rw [(ans_no e).2]; exact hS
        | some y => exact dok_put hS (mkd_lt hS (List.mem_of_getElem? hi) (List.mem_of_getElem? hj)).1 (step_two hi hj)
    | @holds i j =>
      have e : stp S (.holds i j) = S := by
        unfold stp
        have e1 : Nf02.step ⟨S.1, S.2⟩ (.holds i j) = Nf02.State.at_ ⟨S.1, S.2⟩ i (fun x => Nf02.State.at_ ⟨S.1, S.2⟩ j fun y => (⟨S.1, S.2⟩, Nf02.ok (Nf02.flag (Nf02.holds x y)))) := rfl
        rw [e1]
        cases hi : S.2[i]? with
        | none => rw [at_none hi]
        | some x =>
          cases hj : S.2[j]? with
          | none => rw [at_none2 hi hj]
          | some y => rw [at_two hi hj]
      rw [e]; exact hS
  | all => exact hS
  | drop =>
    have est : Nf02.step ⟨S.1, S.2⟩ .drop = if S.2 = [] then (⟨S.1, S.2⟩, Nf02.ok (-4)) else (⟨S.1, S.2.dropLast⟩, Nf02.ok (S.2.length - 1 : Nat)) := rfl
    unfold stp
    rw [est]
    by_cases hc : S.2 = []
    · rw [if_pos hc]; exact hS
    · rw [if_neg hc]
      exact ⟨hS.1, hS.2.1, by have := hS.2.2.1; rw [List.length_dropLast]; omega, fun a ha => hS.2.2.2 a (List.dropLast_subset _ ha)⟩
section
variable {K : PySem.W.Frag} {mg : Str → Option Value} {base : Heap} {P : Program} {w : World} {C : Addr}
def F_told_of_ideals : DS → List Dy → Dy → DS → Prop := fun S ds d S' => ∃ (kind : Int) (one : List Int) (b : List (List Int)) (c : Nf02.Call), ds = [dI kind, dV one, dM b] ∧ DOk S ∧ IdealsIs kind one b c ∧ d = dV (ans S c) ∧ S' = stp S c
theorem there_iff {S : DS} {i : Nat} : (decide (0 ≤ (i : Int)) && decide ((i : Int) < (S.2.length : Int))) = (S.2[i]?).isSome := by
  by_cases h : i < S.2.length
  · rw [List.getElem?_eq_getElem h, decide_eq_true (by omega), decide_eq_true (by omega)]; rfl
  · rw [List.getElem?_eq_none (by omega), decide_eq_true (by omega), decide_eq_false (by omega)]; rfl
theorem at_int {S : DS} {i : Nat} {x : List (List Int)} (h : S.2[i]? = some x) : atI S.2 (i : Int) = some x := atI_nat h
theorem ok_told_of_ideals {f : Addr} {fd : FuncData} (Fn : Fun K "told_of_ideals" "told_of_ideals" s_told_of_ideals f fd) (Cn : Ct K mg) (Dt : DTx K C) (d_is_there : MtOk P w K mg base 40 C "is_there" ["self", "number"] (spR C F_is_there)) (d_told_of_two : DefOk P w K mg base 47 "told_of_two" ["desk", "kind", "one", "other"] (spM C F_told_of_two))
    (d_told_of_one : DefOk P w K mg base 46 "told_of_one" ["desk", "kind", "rows", "behind"] (spR C F_told_of_one)) : FnOk P w K mg base CX0 48 f fd ["desk", "kind", "one", "behind"] (spM C F_told_of_ideals) := by
  refine fn_mut Fn sc_told_of_ideals (fun S ds d S' ⟨kind, one, b, c, e, _⟩ => by rw [e]; rfl) fun cdv A outer s H E hr S ds d S' ⟨kind, one, b, c, e, hS, hc, ed, es⟩ => ?_
  subst e ed es
  refine ⟨_, (pss_cons (ps_if (PW.pt (pw_or (pt_not (pt_val (pe_methD d_is_there Dt.cl (hr.mono (by decide)) (pv 0) (pa_cons (pe_ix (ixL (K := K) rfl) (pv 2) pe_int (fun _ _ => rfl)) pa_nil)))) (pw_or1 (PW.pt (pw_and (pt_cmpR (inL (K := K) rfl) (pv 1) (pe_globT (by rfl) Cn.t_OF_TWO) rfl) (pw_and1 (pt_not (pt_val (pe_methD d_is_there Dt.cl (hr.mono (by decide)) (pv 0) (pa_cons (pe_ix (ixL (K := K) rfl) (pv 2) pe_int (fun _ _ => rfl)) pa_nil)))))))))) (pss_one (ps_ret (pe_lst (pa_cons (pe_globI rfl Cn.c_NO_IDEAL) pa_nil)))) pss_nil)
    (pss_cons (ps_set (i := 4) sc_told_of_ideals.nd rfl (Or.inl rfl) (pe_ix (ixL (K := K) rfl) (pe_fldK (K := K) rfl (pv 0) rfl) (pe_ix (ixL (K := K) rfl) (pv 2) pe_int (fun _ _ => rfl)) (fun _ _ => rfl)))
    (pss_one (ps_ret (pe_ifExp (pt_cmpR (inL (K := K) rfl) (pv 1) (pe_globT (by rfl) Cn.t_OF_TWO) rfl) (pe_callD d_told_of_two (hr.mono (by decide)) rfl (pa_cons (pv 0) (pa_cons (pv 1) (pa_cons (pv 4) (pa_cons (pe_ix (ixL (K := K) rfl) (pe_fldK (K := K) rfl (pv 0) rfl) (pe_ix (ixL (K := K) rfl) (pv 2) pe_int (fun _ _ => rfl)) (fun _ _ => rfl)) pa_nil))))) (pe_callD d_told_of_one (hr.mono (by decide)) rfl (pa_cons (pv 0) (pa_cons (pv 1) (pa_cons (pv 4) (pa_cons (pv 3) pa_nil)))))))))), ?_⟩
  intro a q
  have hin : ∀ {τ : Tau}, τ[1]? = some (some (dI kind)) → Gt (tTest (tOp (rIn K false) (tVar 1) (tC (.ref Cn.t_OF_TWO.choose)))) (Kx C τ S a q) (decide (kind ∈ ([2, 3, 4, 5, 10] : List Int))) := fun h => gt_test (gv_inT Cn.t_OF_TWO (gv_k (ev_var h)))
  cases hc with
  | @one _ i _ _ h =>
    have hnot : decide (kind ∈ ([2, 3, 4, 5, 10] : List Int)) = false := by cases h <;> decide
    have e0 : ∀ {τ : Tau}, τ[2]? = some (some (dV [(i : Int)])) → Gv (tOp (rIxL K) (tVar 2) (tC (.int 0))) (Kx C τ S a q) (dI (i : Int)) := fun h => gv_k (ev_ix (ty := .int) (xs := [(i : Int)]) (i := ((0 : Nat) : Int)) (ev_var h) ev_int (atI_nat rfl))
    obtain ⟨g, eg, hg⟩ := one_at h S
    have htest : ∀ bb, (S.2[i]?).isSome = bb → Gt (tOr (tNot (tB (tMeth C "is_there" (spR C F_is_there) [] E0 (tVar 0) (tCons (tOp (rIxL K) (tVar 2) (tC (.int 0))) tNil)))) (tAnd (tTest (tOp (rIn K false) (tVar 1) (tC (.ref Cn.t_OF_TWO.choose)))) (tNot (tB (tMeth C "is_there" (spR C F_is_there) [] E0 (tVar 0) (tCons (tOp (rIxL K) (tVar 2) (tC (.int 1))) tNil)))))) (Kx C (startK N_told_of_ideals [dI kind, dV [(i : Int)], dM b]) S a q) (!bb) := fun bb hb => by
      have e2 : (!bb) = (!(decide (0 ≤ (i : Int)) && decide ((i : Int) < (S.2.length : Int))) || (decide (kind ∈ ([2, 3, 4, 5, 10] : List Int)) && false)) := by
        rw [there_iff, hb, Bool.and_false, Bool.or_false]
      rw [e2]
      refine gt_or Kx.st (gt_not (gt_B (gv_is_there (e0 rfl)))) fun _ => gt_and Kx.st (hin rfl) fun h2 => ?_
      rw [hnot] at h2; cases h2
    cases hi : S.2[i]? with
    | none =>
      rw [at_none hi] at eg
      obtain ⟨e1, e2⟩ := ans_no eg
      rw [e1, e2]
      exact gd_exit Kx.st RtM.tr (htest false (by rw [hi]; rfl)) (gvR_M (gv_k (en_one ev_int)) ⟨rfl, rfl⟩)
    | some x =>
      refine gd_pass Kx.st RtM.tr (htest true (by rw [hi]; rfl)) ?_
      refine gd_seq (MID := Kx C ((startK N_told_of_ideals [dI kind, dV [(i : Int)], dM b]).set 4 (some (dM x))) S a q) RtM.tr (gd_asg (d := dM x) Kx.st (gv_kept Dt (e0 rfl) (at_int hi)) fun σ G H v k r => Kx.set (by decide) σ G H v k r) ?_
      refine gd_ret (gvR_if Kx.st RtM.tr (hin rfl) (fun h2 => by rw [hnot] at h2; cases h2) fun _ => ?_)
      exact gvR_M (gv_callR (ga_cons Kx.st (gv_k (ev_var rfl)) (ga_cons Kx.st (gv_k (ev_var rfl)) (ga_cons Kx.st (gv_k (ev_var rfl)) ga_nil))) ⟨kind, i, x, b, c, rfl, hS, hi, h, rfl⟩) ⟨rfl, (one_stp h S).symm⟩
  | @two _ i j h =>
    have hyes : decide (kind ∈ ([2, 3, 4, 5, 10] : List Int)) = true := by rcases h with rfl | rfl | rfl | rfl <;> decide
    have hne : kind ≠ 10 := by rcases h with rfl | rfl | rfl | rfl <;> decide
    exact two_part hS Dt Cn hin hyes i j (two_at kind i j S) fun x y hi hj => ⟨kind, i, j, x, y, rfl, hS, hi, hj, fun h10 => absurd h10 hne, fun _ => ⟨rfl, rfl⟩⟩
  | @holds i j =>
    have e1 : Nf02.step ⟨S.1, S.2⟩ (.holds i j) = Nf02.State.at_ ⟨S.1, S.2⟩ i (fun x => Nf02.State.at_ ⟨S.1, S.2⟩ j fun y => (⟨S.1, S.2⟩, Nf02.ok (Nf02.flag (Nf02.holds x y)))) := rfl
    refine two_part hS Dt Cn hin (by decide) i j e1 fun x y hi hj => ⟨10, i, j, x, y, rfl, hS, hi, hj, fun _ => ⟨rfl, ?_⟩, fun h => absurd rfl h⟩
    unfold stp
    rw [e1, at_two hi hj]
where
  two_part {K : PySem.W.Frag} {mg : Str → Option Value} {C a q : Addr} {S : DS} {kind : Int} {c : Nf02.Call} (hS : DOk S) (Dt : DTx K C) (Cn : Ct K mg) (hin : ∀ {τ : Tau}, τ[1]? = some (some (dI kind)) → Gt (tTest (tOp (rIn K false) (tVar 1) (tC (.ref Cn.t_OF_TWO.choose)))) (Kx C τ S a q) (decide (kind ∈ ([2, 3, 4, 5, 10] : List Int)))) (hyes : decide (kind ∈ ([2, 3, 4, 5, 10] : List Int)) = true)
      (i j : Nat) {g : List (List Int) → List (List Int) → Nf02.State × Nf02.Ans} (eg : Nf02.step ⟨S.1, S.2⟩ c = Nf02.State.at_ ⟨S.1, S.2⟩ i (fun x => Nf02.State.at_ ⟨S.1, S.2⟩ j fun y => g x y))
      (hF : ∀ x y, S.2[i]? = some x → S.2[j]? = some y → F_told_of_two S [dI kind, dM x, dM y] (dV (ans S c)) (stp S c)) :
      Gd (tSeq (tIfS (tOr (tNot (tB (tMeth C "is_there" (spR C F_is_there) [] E0 (tVar 0) (tCons (tOp (rIxL K) (tVar 2) (tC (.int 0))) tNil)))) (tAnd (tTest (tOp (rIn K false) (tVar 1) (tC (.ref Cn.t_OF_TWO.choose)))) (tNot (tB (tMeth C "is_there" (spR C F_is_there) [] E0 (tVar 0) (tCons (tOp (rIxL K) (tVar 2) (tC (.int 1))) tNil)))))) (tRet (tLst (tCons (tC (.int (-2))) tNil))) tNext)
        (tSeq (tAsg (tOp (rIxL K) (tFld K (tVar 0) "kept") (tOp (rIxL K) (tVar 2) (tC (.int 0)))) (gName 4))
          (tRet (tIf (tTest (tOp (rIn K false) (tVar 1) (tC (.ref Cn.t_OF_TWO.choose)))) (tCall (spM C F_told_of_two) [] E0 (tCons (tVar 0) (tCons (tVar 1) (tCons (tVar 4) (tCons (tOp (rIxL K) (tFld K (tVar 0) "kept") (tOp (rIxL K) (tVar 2) (tC (.int 1)))) tNil))))) (tCall (spR C F_told_of_one) [] E0 (tCons (tVar 0) (tCons (tVar 1) (tCons (tVar 4) (tCons (tVar 3) tNil)))))))))
        (Kx C (startK N_told_of_ideals [dI kind, dV [(i : Int), (j : Int)], dM []]) S a q) (fun _ _ _ => False) (RtM C a q fun d' S2 => d' = dV (ans S c) ∧ S2 = stp S c) := by
    have e0 : ∀ {τ : Tau}, τ[2]? = some (some (dV [(i : Int), (j : Int)])) → Gv (tOp (rIxL K) (tVar 2) (tC (.int 0))) (Kx C τ S a q) (dI (i : Int)) := fun h => gv_k (ev_ix (ty := .int) (xs := [(i : Int), (j : Int)]) (i := ((0 : Nat) : Int)) (ev_var h) ev_int (atI_nat rfl))
    have e1 : ∀ {τ : Tau}, τ[2]? = some (some (dV [(i : Int), (j : Int)])) → Gv (tOp (rIxL K) (tVar 2) (tC (.int 1))) (Kx C τ S a q) (dI (j : Int)) := fun h => gv_k (ev_ix (ty := .int) (xs := [(i : Int), (j : Int)]) (i := ((1 : Nat) : Int)) (ev_var h) ev_int (atI_nat rfl))
    have htest : Gt (tOr (tNot (tB (tMeth C "is_there" (spR C F_is_there) [] E0 (tVar 0) (tCons (tOp (rIxL K) (tVar 2) (tC (.int 0))) tNil)))) (tAnd (tTest (tOp (rIn K false) (tVar 1) (tC (.ref Cn.t_OF_TWO.choose)))) (tNot (tB (tMeth C "is_there" (spR C F_is_there) [] E0 (tVar 0) (tCons (tOp (rIxL K) (tVar 2) (tC (.int 1))) tNil)))))) (Kx C (startK N_told_of_ideals [dI kind, dV [(i : Int), (j : Int)], dM []]) S a q) (!(S.2[i]?).isSome || (true && !(S.2[j]?).isSome)) := by
      rw [← there_iff, ← there_iff, ← hyes]
      exact gt_or Kx.st (gt_not (gt_B (gv_is_there (e0 rfl)))) fun _ => gt_and Kx.st (hin rfl) fun _ => gt_not (gt_B (gv_is_there (e1 rfl)))
    cases hi : S.2[i]? with
    | none =>
      rw [at_none hi] at eg
      obtain ⟨x1, x2⟩ := ans_no eg
      rw [x1, x2]
      exact gd_exit Kx.st RtM.tr (htest.eq (by rw [hi]; rfl)) (gvR_M (gv_k (en_one ev_int)) ⟨rfl, rfl⟩)
    | some x =>
      cases hj : S.2[j]? with
      | none =>
        rw [at_none2 hi hj] at eg
        obtain ⟨x1, x2⟩ := ans_no eg
        rw [x1, x2]
        exact gd_exit Kx.st RtM.tr (htest.eq (by rw [hi, hj]; rfl)) (gvR_M (gv_k (en_one ev_int)) ⟨rfl, rfl⟩)
      | some y =>
        refine gd_pass Kx.st RtM.tr (htest.eq (by rw [hi, hj]; rfl)) ?_
        refine gd_seq (MID := Kx C ((startK N_told_of_ideals [dI kind, dV [(i : Int), (j : Int)], dM []]).set 4 (some (dM x))) S a q) RtM.tr (gd_asg (d := dM x) Kx.st (gv_kept Dt (e0 rfl) (at_int hi)) fun σ G H v k r => Kx.set (by decide) σ G H v k r) ?_
        refine gd_ret (gvR_if Kx.st RtM.tr (hin rfl) (fun _ => ?_) fun h2 => by rw [hyes] at h2; cases h2)
        exact gvR_callM (ga_cons Kx.st (gv_k (ev_var rfl)) (ga_cons Kx.st (gv_k (ev_var rfl)) (ga_cons Kx.st (gv_kept Dt (e1 rfl) (at_int hj)) ga_nil))) (hF x y hi hj) ⟨rfl, rfl⟩
def F_told_by : DS → List Dy → Dy → DS → Prop := fun S ds d S' => ∃ (kind : Int) (one : List Int) (b : List (List Int)) (c : Nf02.Call), ds = [dI kind, dV one, dM b] ∧ DOk S ∧ CallIs kind one b c ∧ (ans S c).length ≤ 1000000 ∧ d = dV (ans S c) ∧ S' = stp S c
theorem ok_told_by {f : Addr} {fd : FuncData} (Fn : Fun K "told_by" "told_by" s_told_by f fd) (Cn : Ct K mg) (d_put_ring : DefOk P w K mg base 43 "put_ring" ["desk", "numbers"] (spM C F_put_ring)) (d_put_ideal : DefOk P w K mg base 45 "put_ideal" ["desk", "numbers"] (spM C F_put_ideal))
    (d_told_of_ideals : DefOk P w K mg base 48 "told_of_ideals" ["desk", "kind", "one", "behind"] (spM C F_told_of_ideals)) (d_every_ideal : DefOk P w K mg base 46 "every_ideal" ["desk", "bound"] (spR C F_every_ideal)) (d_drop : DefOk P w K mg base 40 "drop" ["desk"] (spM C F_drop)) : FnOk P w K mg base CX0 49 f fd ["desk", "kind", "one", "behind"] (spM C F_told_by) := by
  refine fn_mut Fn sc_told_by (fun S ds d S' ⟨kind, one, b, c, e, _⟩ => by rw [e]; rfl) fun cdv A outer s H E hr S ds d S' ⟨kind, one, b, c, e, hS, hc, hlen, ed, es⟩ => ?_
  subst e ed es
  refine ⟨_, (pss_cons (ps_if (pt_cmpR op_eq (pv 1) (pe_globI rfl Cn.c_RING) (nomark _)) (pss_one (ps_ret (pe_callD d_put_ring (hr.mono (by decide)) rfl (pa_cons (pv 0) (pa_cons (pe_ix (ixL (K := K) rfl) (pv 3) pe_int (fun _ _ => rfl)) pa_nil))))) pss_nil)
    (pss_cons (ps_if (pt_cmpR op_eq (pv 1) (pe_globI rfl Cn.c_IDEAL) (nomark _)) (pss_one (ps_ret (pe_callD d_put_ideal (hr.mono (by decide)) rfl (pa_cons (pv 0) (pa_cons (pe_ix (ixL (K := K) rfl) (pv 3) pe_int (fun _ _ => rfl)) pa_nil))))) pss_nil)
    (pss_cons (ps_if (pt_chain op_le op_le (pe_globI rfl Cn.c_SUM) (pv 1) (pe_globI rfl Cn.c_PRIME)) (pss_one (ps_ret (pe_callD d_told_of_ideals (hr.mono (by decide)) rfl (pa_cons (pv 0) (pa_cons (pv 1) (pa_cons (pv 2) (pa_cons (pv 3) pa_nil))))))) pss_nil)
    (pss_one (ps_ret (pe_ifExp (pt_cmpR op_eq (pv 1) (pe_globI rfl Cn.c_ALL) (nomark _)) (pe_callD d_every_ideal (hr.mono (by decide)) rfl (pa_cons (pv 0) (pa_cons (pe_ix (ixL (K := K) rfl) (pv 2) pe_int (fun _ _ => rfl)) pa_nil))) (pe_callD d_drop (hr.mono (by decide)) rfl (pa_cons (pv 0) pa_nil)))))))), ?_⟩
  intro a q
  have hkind : ∀ c : Int, Gt (tTest (tOp rEq (tVar 1) (tC (.int c)))) (Kx C (startK N_told_by [dI kind, dV one, dM b]) S a q) (decide (kind = c)) := fun c => gt_k (et_test (ev_eqI (ev_var rfl) ev_int))
  have hch : Gt (tTest (tChain (rI0 fun i j => .bl (decide (i ≤ j))) (rI0 fun i j => .bl (decide (i ≤ j))) (tC (.int 2)) (tVar 1) (tC (.int 11)))) (Kx C (startK N_told_by [dI kind, dV one, dM b]) S a q) (decide ((2 : Int) ≤ kind) && decide (kind ≤ 11)) :=
    gt_k (et_test (ev_chain (g := fun i j => decide (i ≤ j)) (h := fun i j => decide (i ≤ j)) ev_int (ev_var rfl) ev_int))
  have hb0 : ∀ {x : List Int}, b = [x] → Gv (tOp (rIxL K) (tVar 3) (tC (.int 0))) (Kx C (startK N_told_by [dI kind, dV one, dM b]) S a q) (dV x) := fun {x} h => by
    subst h
    exact gv_k (ev_ix (ty := .lst .int) (xs := [x]) (i := ((0 : Nat) : Int)) (ev_var rfl) ev_int (atI_nat rfl))
  cases hc with
  | @field x hx =>
    exact gd_exit Kx.st RtM.tr ((hkind 0).eq (by decide)) (gvR_callM (ga_cons Kx.st (hb0 rfl) ga_nil) ⟨x, rfl, hx, rfl, rfl⟩ ⟨rfl, rfl⟩)
  | @ideal x hx =>
    exact gd_pass Kx.st RtM.tr ((hkind 0).eq (by decide)) (gd_exit Kx.st RtM.tr ((hkind 1).eq (by decide)) (gvR_callM (ga_cons Kx.st (hb0 rfl) ga_nil) ⟨x, rfl, hS, hx, rfl, rfl⟩ ⟨rfl, rfl⟩))
  | ideals h =>
    have hk : kind ≠ 0 ∧ kind ≠ 1 ∧ (2 : Int) ≤ kind ∧ kind ≤ 11 := by
      cases h with
      | one h => cases h <;> decide
      | two h => rcases h with rfl | rfl | rfl | rfl <;> decide
      | holds => decide
    refine gd_pass Kx.st RtM.tr ((hkind 0).eq (decide_eq_false hk.1)) (gd_pass Kx.st RtM.tr ((hkind 1).eq (decide_eq_false hk.2.1)) (gd_exit Kx.st RtM.tr (hch.eq ?_) (gvR_callM (ga_cons Kx.st (gv_k (ev_var rfl)) (ga_cons Kx.st (gv_k (ev_var rfl)) (ga_cons Kx.st (gv_k (ev_var rfl)) ga_nil))) ⟨kind, one, b, c, rfl, hS, h, rfl, rfl⟩ ⟨rfl, rfl⟩)))
    rw [decide_eq_true hk.2.2.1, decide_eq_true hk.2.2.2]; rfl
  | @all m =>
    refine gd_pass Kx.st RtM.tr ((hkind 0).eq (by decide)) (gd_pass Kx.st RtM.tr ((hkind 1).eq (by decide)) (gd_pass Kx.st RtM.tr (hch.eq (by decide)) (gd_ret (gvR_if Kx.st RtM.tr ((hkind 12).eq (show _ = true by decide)) (fun _ => ?_) fun h => Bool.noConfusion h))))
    exact gvR_M (gv_callR (ga_cons Kx.st (gv_k (ev_ix (ty := .int) (xs := [(m : Int)]) (i := ((0 : Nat) : Int)) (ev_var rfl) ev_int (atI_nat rfl))) ga_nil) ⟨m, rfl, hS, hlen, rfl⟩) ⟨rfl, rfl⟩
  | drop =>
    refine gd_pass Kx.st RtM.tr ((hkind 0).eq (by decide)) (gd_pass Kx.st RtM.tr ((hkind 1).eq (by decide)) (gd_pass Kx.st RtM.tr (hch.eq (by decide)) (gd_ret (gvR_if Kx.st RtM.tr ((hkind 12).eq (show _ = false by decide)) (fun h => Bool.noConfusion h) fun _ => ?_))))
    exact gvR_callM ga_nil ⟨rfl, rfl, rfl⟩ ⟨rfl, rfl⟩
end
end Wk

/-! WkQ: a list of calls, parted -/
namespace Wk
open PySem L2 PyProof.Rows PySem.Spec
/-! ### the list of calls -/
def NUM : List Int := [0, 0, 2, 2, 2, 2, 1, 1, 1, 1, 2, 1, 1, 0]
def ROW : List Int := [1, 1, 0, 0, 0, 0, 0, 0, 1, 1, 0, 0, 0, 0]
theorem shape_cases {p : Int} {nr : Nat × Nat} (h : PyNf02.shape p = some nr) : p = 0 ∨ p = 1 ∨ p = 2 ∨ p = 3 ∨ p = 4 ∨ p = 5 ∨ p = 6 ∨ p = 7 ∨ p = 8 ∨ p = 9 ∨ p = 10 ∨ p = 11 ∨ p = 12 ∨ p = 13 := by
  refine Classical.byContradiction fun hn => ?_
  simp only [not_or] at hn
  obtain ⟨h0, h1, h2, h3, h4, h5, h6, h7, h8, h9, h10, h11, h12, h13⟩ := hn
  unfold PyNf02.shape at h
  rw [if_neg h0, if_neg h1, if_neg h2, if_neg h3, if_neg h4, if_neg h5, if_neg h6, if_neg h7, if_neg h8, if_neg h9, if_neg h10, if_neg h11, if_neg h12, if_neg h13] at h
  cases h
theorem shape_at {p : Int} {n r : Nat} (h : PyNf02.shape p = some (n, r)) : ∃ κ : Nat, p = (κ : Int) ∧ NUM[κ]? = some (n : Int) ∧ ROW[κ]? = some (r : Int) := by
  rcases shape_cases h with rfl | rfl | rfl | rfl | rfl | rfl | rfl | rfl | rfl | rfl | rfl | rfl | rfl | rfl
  · have h' : (some (0, 1) : Option (Nat × Nat)) = some (n, r) := h
    cases h'; exact ⟨0, rfl, rfl, rfl⟩
  · have h' : (some (0, 1) : Option (Nat × Nat)) = some (n, r) := h
    cases h'; exact ⟨1, rfl, rfl, rfl⟩
  · have h' : (some (2, 0) : Option (Nat × Nat)) = some (n, r) := h
    cases h'; exact ⟨2, rfl, rfl, rfl⟩
  · have h' : (some (2, 0) : Option (Nat × Nat)) = some (n, r) := h
    cases h'; exact ⟨3, rfl, rfl, rfl⟩
  · have h' : (some (2, 0) : Option (Nat × Nat)) = some (n, r) := h
    cases h'; exact ⟨4, rfl, rfl, rfl⟩
  · have h' : (some (2, 0) : Option (Nat × Nat)) = some (n, r) := h
    cases h'; exact ⟨5, rfl, rfl, rfl⟩
  · have h' : (some (1, 0) : Option (Nat × Nat)) = some (n, r) := h
    cases h'; exact ⟨6, rfl, rfl, rfl⟩
  · have h' : (some (1, 0) : Option (Nat × Nat)) = some (n, r) := h
    cases h'; exact ⟨7, rfl, rfl, rfl⟩
  · have h' : (some (1, 1) : Option (Nat × Nat)) = some (n, r) := h
    cases h'; exact ⟨8, rfl, rfl, rfl⟩
  · have h' : (some (1, 1) : Option (Nat × Nat)) = some (n, r) := h
    cases h'; exact ⟨9, rfl, rfl, rfl⟩
  · have h' : (some (2, 0) : Option (Nat × Nat)) = some (n, r) := h
    cases h'; exact ⟨10, rfl, rfl, rfl⟩
  · have h' : (some (1, 0) : Option (Nat × Nat)) = some (n, r) := h
    cases h'; exact ⟨11, rfl, rfl, rfl⟩
  · have h' : (some (1, 0) : Option (Nat × Nat)) = some (n, r) := h
    cases h'; exact ⟨12, rfl, rfl, rfl⟩
  · have h' : (some (0, 0) : Option (Nat × Nat)) = some (n, r) := h
    cases h'; exact ⟨13, rfl, rfl, rfl⟩
theorem row_le {κ : Nat} {r : Nat} (h : ROW[κ]? = some (r : Int)) : r = 0 ∨ r = 1 := by
  have hm := List.mem_of_getElem? h
  simp only [ROW, List.mem_cons, List.not_mem_nil, or_false] at hm
  omega
theorem num_le {κ : Nat} {r : Nat} (h : NUM[κ]? = some (r : Int)) : r ≤ 2 := by
  have hm := List.mem_of_getElem? h
  simp only [NUM, List.mem_cons, List.not_mem_nil, or_false] at hm
  omega
/-- one call, from a place of the list on -/
def Tk (l : List Int) (p : Nat) (kind : Int) (one : List Int) (rows : List (List Int)) (p' : Nat) : Prop := ∃ κ n r : Nat, l[p]? = some kind ∧ kind = (κ : Int) ∧ NUM[κ]? = some (n : Int) ∧ ROW[κ]? = some (r : Int) ∧ one = (l.drop (p + 1)).take n ∧ p + 1 + n ≤ l.length ∧
  ((r = 0 ∧ rows = [] ∧ p' = p + 1 + n) ∨ (r = 1 ∧ ∃ m : Nat, l[p + 1 + n]? = some (m : Int) ∧ rows = [(l.drop (p + 2 + n)).take m] ∧ p' = p + 2 + n + m ∧ p' ≤ l.length))
theorem call_tk {l : List Int} {p : Nat} {c : List (List Int)} {t : List Int} (h : PyFlat.call PyNf02.shape (l.drop p) = some (c, t)) : ∃ kind one rows p', c = (kind :: one) :: rows ∧ t = l.drop p' ∧ Tk l p kind one rows p' ∧ p < p' ∧ p' ≤ l.length ∧ PyNf02.shape kind = some (one.length, rows.length) := by
  have hp : p < l.length := by
    refine Nat.lt_of_not_le fun h2 => ?_
    rw [List.drop_eq_nil_of_le h2] at h
    cases h
  have ed : l.drop p = l[p] :: l.drop (p + 1) := List.drop_eq_getElem_cons hp
  rw [ed] at h
  unfold PyFlat.call at h
  cases hs : PyNf02.shape l[p] with
  | none => simp only [hs] at h; cases h
  | some nr =>
    obtain ⟨n, r⟩ := nr
    simp only [hs] at h
    obtain ⟨κ, k1, k2, k3⟩ := shape_at hs
    by_cases hl : (l.drop (p + 1)).length < n
    · rw [if_pos hl] at h; cases h
    · rw [if_neg hl] at h
      rw [List.length_drop] at hl
      have hlen : ((l.drop (p + 1)).take n).length = n := by rw [List.length_take, List.length_drop]; omega
      rcases row_le k3 with rfl | rfl
      · have h' : (some ((l[p] :: (l.drop (p + 1)).take n) :: [], (l.drop (p + 1)).drop n) : Option (List (List Int) × List Int)) = some (c, t) := h
        simp only [Option.some.injEq, Prod.mk.injEq] at h'
        obtain ⟨rfl, rfl⟩ := h'
        refine ⟨l[p], _, [], p + 1 + n, rfl, by rw [List.drop_drop], ⟨κ, n, 0, List.getElem?_eq_getElem hp, k1, k2, k3, rfl, by omega, .inl ⟨rfl, rfl, rfl⟩⟩, by omega, by omega, ?_⟩
        rw [hs, hlen]; rfl
      · rw [List.drop_drop] at h
        cases hd : l.drop (p + 1 + n) with
        | nil => rw [hd] at h; cases h
        | cons m s =>
          have hq : p + 1 + n < l.length := by
            refine Nat.lt_of_not_le fun h2 => ?_
            rw [List.drop_eq_nil_of_le h2] at hd; cases hd
          have ed2 : l.drop (p + 1 + n) = l[p + 1 + n] :: l.drop (p + 1 + n + 1) := List.drop_eq_getElem_cons hq
          rw [hd] at ed2
          simp only [List.cons.injEq] at ed2
          obtain ⟨em, es⟩ := ed2
          rw [hd] at h
          by_cases hm : 0 ≤ m ∧ m.toNat ≤ s.length
          · have h1 : PyFlat.rows 1 (m :: s) = some ([s.take m.toNat], s.drop m.toNat) := by
              unfold PyFlat.rows PyFlat.row
              simp only [if_pos hm]
              rfl
            rw [h1] at h
            have h' : (some ((l[p] :: (l.drop (p + 1)).take n) :: [s.take m.toNat], s.drop m.toNat) : Option (List (List Int) × List Int)) = some (c, t) := h
            simp only [Option.some.injEq, Prod.mk.injEq] at h'
            obtain ⟨rfl, rfl⟩ := h'
            have hsl : s.length = l.length - (p + 1 + n + 1) := by rw [es, List.length_drop]
            refine ⟨l[p], _, _, p + 2 + n + m.toNat, rfl, ?_, ⟨κ, n, 1, List.getElem?_eq_getElem hp, k1, k2, k3, rfl, by omega, .inr ⟨rfl, m.toNat, ?_, ?_, rfl, by omega⟩⟩, by omega, by omega, ?_⟩
            · rw [es, List.drop_drop]; congr 1; omega
            · rw [List.getElem?_eq_getElem hq, ← em, Int.toNat_of_nonneg hm.1]
            · rw [es, show p + 1 + n + 1 = p + 2 + n by omega]
            · rw [hs, hlen]; rfl
          · have h1 : PyFlat.rows 1 (m :: s) = none := by
              unfold PyFlat.rows PyFlat.row
              simp only [if_neg hm]
            rw [h1] at h
            cases h
theorem len1 {one : List Int} (h : one.length = 1) : ∃ a, one = [a] := by
  match one, h with
  | [a], _ => exact ⟨a, rfl⟩
theorem len2 {one : List Int} (h : one.length = 2) : ∃ a b, one = [a, b] := by
  match one, h with
  | [a, b], _ => exact ⟨a, b, rfl⟩
theorem lenr {rows : List (List Int)} (h : rows.length = 1) : ∃ a, rows = [a] := by
  match rows, h with
  | [a], _ => exact ⟨a, rfl⟩
theorem two_some {a b : Int} {f : Nat × Nat → Nf02.Call} {x : Nf02.Call} (h : (Nf02Neutral.two [a, b]).map f = some x) : a = ((a.toNat : Nat) : Int) ∧ b = ((b.toNat : Nat) : Int) ∧ x = f (a.toNat, b.toNat) := by
  unfold Nf02Neutral.two at h
  by_cases hc : 0 ≤ a ∧ 0 ≤ b
  · simp only [if_pos hc, Option.map_some, Option.some.injEq] at h
    exact ⟨by omega, by omega, h.symm⟩
  · simp only [if_neg hc, Option.map_none] at h; cases h
theorem one_some {a : Int} {f : Nat → Nf02.Call} {x : Nf02.Call} (h : (Nf02Neutral.one [a]).map f = some x) : a = ((a.toNat : Nat) : Int) ∧ x = f a.toNat := by
  unfold Nf02Neutral.one at h
  by_cases hc : 0 ≤ a
  · simp only [if_pos hc, Option.map_some, Option.some.injEq] at h
    exact ⟨by omega, h.symm⟩
  · simp only [if_neg hc, Option.map_none] at h; cases h
theorem with_some {a : Int} {r : List Int} {f : Nat × List Int → Nf02.Call} {x : Nf02.Call} (h : (Nf02Neutral.with_ (a :: r)).map f = some x) : a = ((a.toNat : Nat) : Int) ∧ r.length ≤ 6 ∧ x = f (a.toNat, r) := by
  unfold Nf02Neutral.with_ at h
  by_cases hc : 0 ≤ a ∧ r.length ≤ 6
  · simp only [if_pos hc, Option.map_some, Option.some.injEq] at h
    exact ⟨by omega, hc.2, h.symm⟩
  · simp only [if_neg hc, Option.map_none] at h; cases h
theorem callin_of {l : List Int} {x : Nf02.Call} (h : Nf02Neutral.callOf l = some x) : Nf02Neutral.callIn l = some x := by
  unfold Nf02Neutral.callOf at h
  split at h
  · cases h
  · exact h
theorem call_is {kind : Int} {one : List Int} {rows : List (List Int)} {x : Nf02.Call} (hs : PyNf02.shape kind = some (one.length, rows.length)) (h : Nf02Neutral.callOf ((PyNf02.whole ((kind :: one) :: rows)).headD []) = some x) : CallIs kind one rows x := by
  rcases shape_cases hs with rfl | rfl | rfl | rfl | rfl | rfl | rfl | rfl | rfl | rfl | rfl | rfl | rfl | rfl
  · have hs' : (some (0, 1) : Option (Nat × Nat)) = some (one.length, rows.length) := hs
    simp only [Option.some.injEq, Prod.mk.injEq] at hs'
    obtain ⟨h1, h2⟩ := hs'
    obtain rfl := List.eq_nil_of_length_eq_zero h1.symm
    obtain ⟨r, rfl⟩ := lenr h2.symm
    have h' : (if r.length ≤ 6 then some (Nf02.Call.field r) else none) = some x := callin_of h
    by_cases hc : r.length ≤ 6
    · rw [if_pos hc] at h'
      rw [← Option.some.inj h']; exact .field (by omega)
    · rw [if_neg hc] at h'; cases h'
  · have hs' : (some (0, 1) : Option (Nat × Nat)) = some (one.length, rows.length) := hs
    simp only [Option.some.injEq, Prod.mk.injEq] at hs'
    obtain ⟨h1, h2⟩ := hs'
    obtain rfl := List.eq_nil_of_length_eq_zero h1.symm
    obtain ⟨r, rfl⟩ := lenr h2.symm
    have h' : (if r.length ≤ 14 then some (Nf02.Call.ideal r) else none) = some x := callin_of h
    by_cases hc : r.length ≤ 14
    · rw [if_pos hc] at h'
      rw [← Option.some.inj h']; exact .ideal (by omega)
    · rw [if_neg hc] at h'; cases h'
  · have hs' : (some (2, 0) : Option (Nat × Nat)) = some (one.length, rows.length) := hs
    simp only [Option.some.injEq, Prod.mk.injEq] at hs'
    obtain ⟨h1, h2⟩ := hs'
    obtain ⟨a, b, rfl⟩ := len2 h1.symm
    obtain rfl := List.eq_nil_of_length_eq_zero h2.symm
    have h' : (Nf02Neutral.two [a, b]).map (fun x => Nf02.Call.add x.1 x.2) = some x := callin_of h
    obtain ⟨e1, e2, rfl⟩ := two_some h'
    rw [e1, e2]; exact .ideals (.two (kind := 2) (.inl rfl))
  · have hs' : (some (2, 0) : Option (Nat × Nat)) = some (one.length, rows.length) := hs
    simp only [Option.some.injEq, Prod.mk.injEq] at hs'
    obtain ⟨h1, h2⟩ := hs'
    obtain ⟨a, b, rfl⟩ := len2 h1.symm
    obtain rfl := List.eq_nil_of_length_eq_zero h2.symm
    have h' : (Nf02Neutral.two [a, b]).map (fun x => Nf02.Call.mul x.1 x.2) = some x := callin_of h
    obtain ⟨e1, e2, rfl⟩ := two_some h'
    rw [e1, e2]; exact .ideals (.two (kind := 3) (.inr (.inl rfl)))
  · have hs' : (some (2, 0) : Option (Nat × Nat)) = some (one.length, rows.length) := hs
    simp only [Option.some.injEq, Prod.mk.injEq] at hs'
    obtain ⟨h1, h2⟩ := hs'
    obtain ⟨a, b, rfl⟩ := len2 h1.symm
    obtain rfl := List.eq_nil_of_length_eq_zero h2.symm
    have h' : (Nf02Neutral.two [a, b]).map (fun x => Nf02.Call.common x.1 x.2) = some x := callin_of h
    obtain ⟨e1, e2, rfl⟩ := two_some h'
    rw [e1, e2]; exact .ideals (.two (kind := 4) (.inr (.inr (.inl rfl))))
  · have hs' : (some (2, 0) : Option (Nat × Nat)) = some (one.length, rows.length) := hs
    simp only [Option.some.injEq, Prod.mk.injEq] at hs'
    obtain ⟨h1, h2⟩ := hs'
    obtain ⟨a, b, rfl⟩ := len2 h1.symm
    obtain rfl := List.eq_nil_of_length_eq_zero h2.symm
    have h' : (Nf02Neutral.two [a, b]).map (fun x => Nf02.Call.by_ x.1 x.2) = some x := callin_of h
    obtain ⟨e1, e2, rfl⟩ := two_some h'
    rw [e1, e2]; exact .ideals (.two (kind := 5) (.inr (.inr (.inr rfl))))
  · have hs' : (some (1, 0) : Option (Nat × Nat)) = some (one.length, rows.length) := hs
    simp only [Option.some.injEq, Prod.mk.injEq] at hs'
    obtain ⟨h1, h2⟩ := hs'
    obtain ⟨a, rfl⟩ := len1 h1.symm
    obtain rfl := List.eq_nil_of_length_eq_zero h2.symm
    have h' : (Nf02Neutral.one [a]).map Nf02.Call.told = some x := callin_of h
    obtain ⟨e1, rfl⟩ := one_some h'
    rw [e1]; exact .ideals (.one .told)
  · have hs' : (some (1, 0) : Option (Nat × Nat)) = some (one.length, rows.length) := hs
    simp only [Option.some.injEq, Prod.mk.injEq] at hs'
    obtain ⟨h1, h2⟩ := hs'
    obtain ⟨a, rfl⟩ := len1 h1.symm
    obtain rfl := List.eq_nil_of_length_eq_zero h2.symm
    have h' : (Nf02Neutral.one [a]).map Nf02.Call.norm = some x := callin_of h
    obtain ⟨e1, rfl⟩ := one_some h'
    rw [e1]; exact .ideals (.one .norm)
  · have hs' : (some (1, 1) : Option (Nat × Nat)) = some (one.length, rows.length) := hs
    simp only [Option.some.injEq, Prod.mk.injEq] at hs'
    obtain ⟨h1, h2⟩ := hs'
    obtain ⟨a, rfl⟩ := len1 h1.symm
    obtain ⟨r, rfl⟩ := lenr h2.symm
    have h' : (Nf02Neutral.with_ (a :: r)).map (fun x => Nf02.Call.has x.1 x.2) = some x := callin_of h
    obtain ⟨e1, e2, rfl⟩ := with_some h'
    rw [e1]; exact .ideals (.one (.has (by omega)))
  · have hs' : (some (1, 1) : Option (Nat × Nat)) = some (one.length, rows.length) := hs
    simp only [Option.some.injEq, Prod.mk.injEq] at hs'
    obtain ⟨h1, h2⟩ := hs'
    obtain ⟨a, rfl⟩ := len1 h1.symm
    obtain ⟨r, rfl⟩ := lenr h2.symm
    have h' : (Nf02Neutral.with_ (a :: r)).map (fun x => Nf02.Call.made x.1 x.2) = some x := callin_of h
    obtain ⟨e1, e2, rfl⟩ := with_some h'
    rw [e1]; exact .ideals (.one (.made (by omega)))
  · have hs' : (some (2, 0) : Option (Nat × Nat)) = some (one.length, rows.length) := hs
    simp only [Option.some.injEq, Prod.mk.injEq] at hs'
    obtain ⟨h1, h2⟩ := hs'
    obtain ⟨a, b, rfl⟩ := len2 h1.symm
    obtain rfl := List.eq_nil_of_length_eq_zero h2.symm
    have h' : (Nf02Neutral.two [a, b]).map (fun x => Nf02.Call.holds x.1 x.2) = some x := callin_of h
    obtain ⟨e1, e2, rfl⟩ := two_some h'
    rw [e1, e2]; exact .ideals .holds
  · have hs' : (some (1, 0) : Option (Nat × Nat)) = some (one.length, rows.length) := hs
    simp only [Option.some.injEq, Prod.mk.injEq] at hs'
    obtain ⟨h1, h2⟩ := hs'
    obtain ⟨a, rfl⟩ := len1 h1.symm
    obtain rfl := List.eq_nil_of_length_eq_zero h2.symm
    have h' : (Nf02Neutral.one [a]).map Nf02.Call.prime = some x := callin_of h
    obtain ⟨e1, rfl⟩ := one_some h'
    rw [e1]; exact .ideals (.one .prime)
  · have hs' : (some (1, 0) : Option (Nat × Nat)) = some (one.length, rows.length) := hs
    simp only [Option.some.injEq, Prod.mk.injEq] at hs'
    obtain ⟨h1, h2⟩ := hs'
    obtain ⟨a, rfl⟩ := len1 h1.symm
    obtain rfl := List.eq_nil_of_length_eq_zero h2.symm
    have h' : (Nf02Neutral.one [a]).map Nf02.Call.ofNorm = some x := callin_of h
    obtain ⟨e1, rfl⟩ := one_some h'
    rw [e1]; exact .all
  · have hs' : (some (0, 0) : Option (Nat × Nat)) = some (one.length, rows.length) := hs
    simp only [Option.some.injEq, Prod.mk.injEq] at hs'
    obtain ⟨h1, h2⟩ := hs'
    obtain rfl := List.eq_nil_of_length_eq_zero h1.symm
    obtain rfl := List.eq_nil_of_length_eq_zero h2.symm
    have h' : (some Nf02.Call.drop : Option Nf02.Call) = some x := callin_of h
    rw [← Option.some.inj h']; exact .drop
end Wk

/-! WkR: ring.py, taken -/
namespace Wk
open PySem L2 PyProof.Rows PySem.Spec
section
variable {K : PySem.W.Frag} {τ : Tau} {o : Ow} {ta tb te : TE}
theorem ev_ixF {l : List Int} {i : Int} {z : Int} (ha : Ev ta τ o ⟨.fz K, l⟩) (hb : Ev tb τ o (dI i)) (hz : atI l i = some z) : Ev (tOp (rIxL K) ta tb) τ o (dI z) :=
  ev_op ha hb fun G H v y e h1 h2 Q q => by
    obtain ⟨a, rfl, hs⟩ := (Rp.mono e (.fz K) _ _ h1 : Rp H (.fz K) v l)
    obtain rfl : y = .int i := h2
    unfold atI at hz
    obtain ⟨k, hk, hx⟩ := Option.bind_eq_some_iff.mp hz
    refine ⟨a, l.map V.int, i, .int z, rfl, rfl, hs, ?_, q _ G H (.refl e) rfl⟩
    unfold atI
    rw [List.length_map, hk]
    show (l.map V.int)[k]? = _
    rw [List.getElem?_map, hx]; rfl
theorem ev_cutF {to1 to2 : TO} {lo hi : Option Int} {l : List Int} (ha : Ev ta τ o ⟨.fz K, l⟩)
    (h1 : ∀ σ G H, Ex G H → Sls σ G H τ o → ∀ Q : Option Int → Hp → Prop, (∀ G' H', Fr G H G' H' → Q lo H') → to1 σ H Q) (h2 : ∀ σ G H, Ex G H → Sls σ G H τ o → ∀ Q : Option Int → Hp → Prop, (∀ G' H', Fr G H G' H' → Q hi H') → to2 σ H Q) :
    Ev (tSl (rSlL K) ta to1 to2) τ o (dV ((l.drop (HT.sIx l.length 0 lo)).take (HT.sIx l.length l.length hi - HT.sIx l.length 0 lo))) := fun σ G H e s Q q =>
  ha σ G H e s _ fun v G1 H1 f1 r1 => h1 σ G1 H1 f1.l (s.step f1) _ fun G2 H2 f2 => h2 σ G2 H2 f2.l (s.step (f1.trans f2)) _ fun G3 H3 f3 => by
    obtain ⟨a, rfl, hs⟩ := (Rp.mono ((f2.g.trans f3.g).trans f3.l) (.fz K) _ _ r1 : Rp H3 (.fz K) v l)
    refine ⟨a, l.map V.int, rfl, hs, fun p hp => ?_⟩
    obtain ⟨f, r⟩ := fr_list (ty := .int) (vs := ((l.drop (HT.sIx l.length 0 lo)).take (HT.sIx l.length l.length hi - HT.sIx l.length 0 lo)).map V.int) f3.l hp (rp_ints.mpr rfl)
    have e : cutV (l.map V.int) lo hi = ((l.drop (HT.sIx l.length 0 lo)).take (HT.sIx l.length l.length hi - HT.sIx l.length 0 lo)).map V.int := by
      unfold cutV
      rw [List.length_map, ← List.map_drop, ← List.map_take]
    rw [e]
    exact q _ _ _ (((f1.trans f2).trans f3).trans f) r
theorem ev_lenF {l : List Int} (h : Ev ta τ o ⟨.fz K, l⟩) : Ev (tCB (fun xs H Q => ∃ p ys, xs = [.ref p] ∧ (SqL K H p ys ∨ SqT K H p ys) ∧ Q (.int ys.length) H) (tCons ta tNil)) τ o (dI (l.length : Int)) :=
  ev_cb (ea_cons h ea_nil) fun G H vs e r Q q => by
    cases r with
    | cons a c =>
      cases c
      obtain ⟨p, rfl, hs⟩ := (Rp.mono e (.fz K) _ _ a : Rp H (.fz K) _ l)
      exact ⟨p, _, rfl, .inl hs, q _ G H (.refl e) (by show V.int _ = V.int _; rw [List.length_map])⟩
theorem ev_ixG {mg : Str → Option Value} {x : Str} {ns : List Int} {κ : Nat} {z : Int} (c : CT K mg x ns) (hb : Ev tb τ o (dI (κ : Int))) (hz : ns[κ]? = some z) : Ev (tOp (rIxT K) (tC (.ref c.choose)) tb) τ o (dI z) := fun σ G H e s Q q =>
  hb σ G H e s _ fun y G1 H1 f1 r1 => by
    obtain rfl : y = .int (κ : Int) := r1
    refine ⟨c.choose, ns.map V.int, (κ : Int), .int z, rfl, rfl, c.choose_spec.2 H1, atI_nat ?_, q _ G1 H1 f1 rfl⟩
    rw [List.getElem?_map, hz]; rfl
theorem sd_parN {i j : Nat} {t1 t2 : TE} {d : Dy} {ty : Ty} {xs : List ty.den} {nx : Tau → Ow → Prop} {rt : Dy → Prop} (h1 : Ev t1 τ none d) (h2 : EvN t2 τ none ty xs) (hij : i ≠ j) (hj : j < τ.length) (q : nx ((τ.set i (some d)).set j none) (some ⟨j, ty, xs⟩)) : Sd (tPar i j (tCons t1 (tCons t2 tNil))) τ none nx rt := fun G0 H0 σ G H D f s w n r =>
  h1 σ G H f.l s _ fun v G1 H1 f1 r1 => h2 σ G1 H1 f1.l (s.step f1) _ fun l vs G2 H2 f2 gl hl hl' hp => by
    have s2 := (s.step (f1.trans f2)).set (j := i) (r1.mono f2.g) fun w hw => (by cases hw)
    have hσ : j < (σ.set i (some v)).length := by rw [List.length_set, ← s.len]; exact hj
    refine ⟨v, .ref l, rfl, n _ _ _ G2 H2 q (f.trans (f1.trans f2)) (f1.g.trans f2.g) ⟨fun k d hk => ?_, by simp [s.len], ⟨l, vs, List.getElem?_set_self hσ, hl', gl, hp⟩⟩ fun l' e => ?_⟩
    · by_cases hjk : j = k
      · subst hjk
        rw [List.getElem?_set_self (by rw [List.length_set]; exact hj)] at hk
        cases hk
      · rw [List.getElem?_set_ne hjk] at hk ⊢
        exact s2.sh k d hk
    · have e : ((σ.set i (some v)).set j (some (.ref l)))[j]? = some (some (.ref l')) := e
      rw [List.getElem?_set_self hσ] at e
      cases e
      exact none_back f (none_back f1 hl)
end
section
variable {K : PySem.W.Frag} {mg : Str → Option Value} {base : Heap} {P : Program} {w : World}
def F_taken (K : PySem.W.Frag) : List Dy → Dy → Prop := fun ds d => ∃ (l : List Int) (p : Nat) (kind : Int) (one : List Int) (rows : List (List Int)) (p' : Nat), ds = [⟨.fz K, l⟩, dI (p : Int)] ∧ l.length ≤ 100000 ∧ Tk l p kind one rows p' ∧ d = ⟨.tr (.lst .int) (.lst (.lst .int)) .int, (one, rows, (p' : Int))⟩
theorem ok_taken {f : Addr} {fd : FuncData} {j : Nat} (Fn : Fun K "taken" "taken" s_taken f fd) (T : Bt mg) (Cn : Ct K mg) : FnOk P w K mg base CX0 (j + 1) f fd ["calls", "at"] (spD (F_taken K)) := by
  refine fn_pure Fn sc_taken (fun ds d ⟨l, p, kind, one, rows, p', e, _⟩ => by rw [e]; rfl) fun cdv A outer s H E hr ds d ⟨l, p, kind, one, rows, p', e, hl, ht, ed⟩ => ?_
  subst e ed
  refine ⟨_, (pss_cons (ps_set (i := 2) sc_taken.nd rfl (Or.inl rfl) (pe_op op_add (pe_op op_add (pv 1) pe_int) (pe_ix (ixT (K := K) rfl) (pe_globT (by rfl) Cn.t_NUMBERS) (pe_ix (ixL (K := K) rfl) (pv 0) (pv 1) (fun _ _ => rfl)) (fun _ _ => rfl))))
    (pss_cons (ps_par (i := 4) (j := 5) rfl sc_taken.nd rfl rfl (by decide) rfl rfl (pa_cons (pe_slice (slL (K := K) rfl) (pv 0) (po_some (pe_op op_add (pv 1) pe_int)) (po_some (pv 2))) (pa_cons (pe_lst pa_nil) pa_nil)) (by rfl))
    (pss_cons (ps_for PassesOwn.never rfl (pi_range1 (by rfl) T.b_range (pa_cons (pe_ix (ixT (K := K) rfl) (pe_globT (by rfl) Cn.t_ROWS) (pe_ix (ixL (K := K) rfl) (pv 0) (pv 1) (fun _ _ => rfl)) (fun _ _ => rfl)) pa_nil)) (pg_name (i := 3) sc_taken.nd rfl (Or.inl rfl)) (pss_cons (ps_set (i := 6) sc_taken.nd rfl (Or.inl rfl) (pe_op op_add (pe_op op_add (pv 2) pe_int) (pe_ix (ixL (K := K) rfl) (pv 0) (pv 2) (fun _ _ => rfl))))
    (pss_cons (ps_expr (pe_bm PySem.F.plainAttrs_list PySem.F.slot_list_append PySem.F.type_list_append mt_append (pv 5) (pa_cons (pe_slice (slL (K := K) rfl) (pv 0) (po_some (pe_op op_add (pv 2) pe_int)) (po_some (pv 6))) pa_nil)))
    (pss_one (ps_set (i := 2) sc_taken.nd rfl (Or.inl rfl) (pv 6))))))
    (pss_one (ps_ret (pe_tup (pa_cons (pv 4) (pa_cons (pv 5) (pa_cons (pv 2) pa_nil))))))))), ?_⟩
  obtain ⟨κ, n, r, h1, h2, h3, h4, h5, h6, h7⟩ := ht
  have hkap : ∀ {τ : Tau} {o : Ow}, τ[0]? = some (some ⟨.fz K, l⟩) → τ[1]? = some (some (dI (p : Int))) → Ev (tOp (rIxL K) (tVar 0) (tVar 1)) τ o (dI (κ : Int)) := fun a b => ev_ixF (ev_var a) (ev_var b) (atI_nat (by rw [h1, h2]))
  refine sd_then (sd_asg (d := dI ((p + 1 + n : Nat) : Int)) ((ev_I0 (g := fun i j => i + j) (ev_I0 (g := fun i j => i + j) (ev_var rfl) ev_int) (ev_ixG Cn.t_NUMBERS (hkap rfl rfl) h3)).eq (congrArg dI (by omega))) no_ow ⟨rfl, rfl⟩) ?_
  refine sd_seq (mid := fun τ' o' => τ' = [some ⟨.fz K, l⟩, some (dI (p : Int)), some (dI ((p + 1 + n : Nat) : Int)), none, some (dV one), none, none] ∧ o' = some ⟨5, .lst .int, []⟩) (sd_parN (d := dV one) (ty := .lst .int) (xs := []) ((ev_cutF (l := l) (ev_var rfl) (eo_some ((ev_I0 (g := fun i j => i + j) (ev_var rfl) ev_int).eq (congrArg dI (show (p : Int) + 1 = ((p + 1 : Nat) : Int) by omega)))) (eo_some (ev_var rfl))).eq (congrArg dV (by rw [cut_mid, h5, Nat.add_sub_cancel_left]))) (en_lst (ty := .lst .int) (xs := []) ea_nil (by decide)) (by decide) (by simp [startT]) ⟨rfl, rfl⟩) ?_
  rintro τ o ⟨rfl, rfl⟩
  have hr2 : ∀ {τ : Tau} {o : Ow}, τ[0]? = some (some ⟨.fz K, l⟩) → τ[1]? = some (some (dI (p : Int))) → Ev (tOp (rIxT K) (tC (.ref Cn.t_ROWS.choose)) (tOp (rIxL K) (tVar 0) (tVar 1))) τ o (dI (r : Int)) := fun a b => ev_ixG Cn.t_ROWS (hkap a b) h4
  have hr1 : r ≤ 1 := by rcases h7 with h | h; omega; omega
  refine sd_seq (sd_for (src_range1 (n := r) (ea_cons (hr2 rfl rfl) ea_nil) (by omega) (by omega) (by omega)) (fun i τ o => ∃ (t3 t6 : Option Dy) (rs : List (List Int)) (e : Nat), τ = [some ⟨.fz K, l⟩, some (dI (p : Int)), some (dI (e : Int)), t3, some (dV one), none, t6] ∧ o = some ⟨5, .lst .int, rs⟩ ∧ (i = 0 → rs = [] ∧ e = p + 1 + n) ∧ (i = 1 → rs = rows ∧ e = p')) ?_ ?_ ?_ fun _ _ h => h) ?_
  · exact ⟨_, _, [], p + 1 + n, rfl, rfl, fun _ => ⟨rfl, rfl⟩, fun h => by omega⟩
  · rintro i τ o ⟨_, _, _, _, rfl, rfl, _⟩
    exact off_of (by decide)
  · rintro i τ o hi ⟨t3, t6, rs, e, rfl, rfl, c1, c2⟩
    obtain ⟨rfl, rfl⟩ := c1 (by omega)
    obtain ⟨r1, m, hm, hrows, hp', hle⟩ : r = 1 ∧ ∃ m : Nat, l[p + 1 + n]? = some (m : Int) ∧ rows = [(l.drop (p + 2 + n)).take m] ∧ p' = p + 2 + n + m ∧ p' ≤ l.length := h7.resolve_left fun h => by omega
    have i0 : i = 0 := by omega
    subst i0
    refine sd_then (sd_asg (d := dI (p' : Int)) ((ev_I0 (g := fun i j => i + j) (ev_I0 (g := fun i j => i + j) (ev_var rfl) ev_int) (ev_ixF (l := l) (ev_var rfl) (ev_var rfl) (atI_nat hm))).eq (congrArg dI (by omega))) (off_of (by decide)) ⟨rfl, rfl⟩) ?_
    refine sd_seq (mid := fun τ' o' => τ' = [some ⟨.fz K, l⟩, some (dI (p : Int)), some (dI ((p + 1 + n : Nat) : Int)), some (dI ((0 : Nat) : Int)), some (dV one), none, some (dI (p' : Int))] ∧ o' = some ⟨5, .lst .int, rows⟩) (sd_append (ty := .lst .int) (x := (l.drop (p + 2 + n)).take m) ((ev_cutF (l := l) (ev_var rfl) (eo_some ((ev_I0 (g := fun i j => i + j) (ev_var rfl) ev_int).eq (congrArg dI (show ((p + 1 + n : Nat) : Int) + 1 = ((p + 2 + n : Nat) : Int) by omega)))) (eo_some (ev_var rfl))).eq (congrArg dV (by rw [cut_mid, hp', Nat.add_sub_cancel_left]))) (by show 0 < sizeLine; decide) ⟨rfl, by rw [hrows]; rfl⟩) ?_
    rintro τ o ⟨rfl, rfl⟩
    exact sd_asg (d := dI (p' : Int)) (ev_var rfl) (off_of (by decide)) ⟨_, _, rows, p', rfl, rfl, fun h => by omega, fun _ => ⟨rfl, rfl⟩⟩
  · rintro τ o ⟨t3, t6, rs, e, rfl, rfl, c1, c2⟩
    have hfin : rs = rows ∧ e = p' := by
      rcases h7 with ⟨r0, hr0, hp0⟩ | ⟨r1, _⟩
      · obtain ⟨a, b⟩ := c1 r0
        exact ⟨by rw [a, hr0], by rw [b, hp0]⟩
      · exact c2 r1
    obtain ⟨rfl, rfl⟩ := hfin
    exact sd_share (by simp) (sd_ret (ev_tr (s := .lst .int) (t := .lst (.lst .int)) (r := .int) (ea_cons (ev_var rfl) (ea_cons (ev_var rfl) (ea_cons (ev_var rfl) ea_nil)))) rfl)
end
end Wk

/-! WkS: ring.py, answers -/
namespace Wk
open PySem L2 PyProof.Rows PySem.Spec
abbrev s_answers : Stmt := topS 88
abbrev N_answers : List Str := ["calls", "desk", "found", "at", "kind", "answer", "one", "rows"]
theorem sc_answers : FnScope N_answers ["calls"] (defScope s_answers) := ⟨rfl, rfl, rfl, by decide +kernel, rfl, by decide +kernel, by decide +kernel⟩
/-! ### what is left to be answered -/
abbrev stN (S : DS) : Nf02.State := ⟨S.1, S.2⟩
structure Left (l : List Int) (p : Nat) (S : DS) (out : List Int) (raw : List (List (List Int))) (f : Nat) : Prop where
  parse : PyFlat.calls PyNf02.shape f (l.drop p) = some raw
  dok : DOk S
  ask : ∀ c ∈ raw, (Nf02Neutral.callOf ((PyNf02.whole c).headD [])).isSome = true
  few : Nf02Neutral.many (stN S) (raw.map fun c => (PyNf02.whole c).headD []) ≤ 1000000
  sum : PyNf02.answers l = out ++ PyFlat.told (PyFlat.played (fun s c => Nf02Neutral.step s (c.headD [])) (stN S) (raw.map PyNf02.whole))
theorem step_is {S : DS} {c : List Int} {x : Nf02.Call} (h : Nf02Neutral.callOf c = some x) : Nf02Neutral.step (stN S) c = (stN (stp S x), ans S x) := by
  unfold Nf02Neutral.step
  rw [h]
  rfl
theorem left_end {l : List Int} {p : Nat} {S : DS} {out : List Int} {raw : List (List (List Int))} {f : Nat} (h : Left l p S out raw f) (hp : l.length ≤ p) : PyNf02.answers l = out := by
  have h1 := h.parse
  rw [List.drop_eq_nil_of_le hp] at h1
  have e : raw = [] := by
    cases f <;> exact (Option.some.inj h1).symm
  have h2 := h.sum
  rw [e] at h2
  rw [h2]
  show out ++ [] = out
  simp
theorem left_step {l : List Int} {p : Nat} {S : DS} {out : List Int} {raw : List (List (List Int))} {f : Nat} (h : Left l p S out raw f) (hp : p < l.length) :
    ∃ (kind : Int) (one : List Int) (rows : List (List Int)) (p' : Nat) (c : Nf02.Call) (raw' : List (List (List Int))) (f' : Nat), Tk l p kind one rows p' ∧ p < p' ∧ p' ≤ l.length ∧ CallIs kind one rows c ∧ (ans S c).length ≤ 1000000 ∧ Left l p' (stp S c) (out ++ ((ans S c).length : Int) :: ans S c) raw' f' := by
  have h1 := h.parse
  have ed : l.drop p = l[p] :: l.drop (p + 1) := List.drop_eq_getElem_cons hp
  cases f with
  | zero => rw [ed] at h1; cases h1
  | succ f =>
    have h1' : (match PyFlat.call PyNf02.shape (l.drop p) with
      | none => none
      | some (c, t) => match PyFlat.calls PyNf02.shape f t with
        | none => none
        | some cs => some (c :: cs)) = some raw := by
      rw [ed] at h1 ⊢; exact h1
    cases hc : PyFlat.call PyNf02.shape (l.drop p) with
    | none => rw [hc] at h1'; cases h1'
    | some ct =>
      obtain ⟨cc, t⟩ := ct
      rw [hc] at h1'
      obtain ⟨kind, one, rows, p', rfl, rfl, htk, hlt, hle, hsh⟩ := call_tk hc
      cases hcs : PyFlat.calls PyNf02.shape f (l.drop p') with
      | none => simp only [hcs] at h1'; cases h1'
      | some cs =>
        simp only [hcs] at h1'
        obtain rfl := (Option.some.inj h1').symm
        have hask := h.ask ((kind :: one) :: rows) (by simp)
        obtain ⟨x, hx⟩ := Option.isSome_iff_exists.mp hask
        have hci := call_is hsh hx
        have hst := step_is (S := S) hx
        have hfew := h.few
        rw [List.map_cons] at hfew
        have hfew' : (Nf02Neutral.step (stN S) ((PyNf02.whole ((kind :: one) :: rows)).headD [])).2.length + Nf02Neutral.many (Nf02Neutral.step (stN S) ((PyNf02.whole ((kind :: one) :: rows)).headD [])).1 (cs.map fun c => (PyNf02.whole c).headD []) ≤ 1000000 := hfew
        rw [hst] at hfew'
        have hfew2 : (ans S x).length + Nf02Neutral.many (stN (stp S x)) (cs.map fun c => (PyNf02.whole c).headD []) ≤ 1000000 := hfew'
        have hsum := h.sum
        rw [List.map_cons] at hsum
        have hsum' : PyNf02.answers l = out ++ PyFlat.told ((Nf02Neutral.step (stN S) ((PyNf02.whole ((kind :: one) :: rows)).headD [])).2 :: PyFlat.played (fun s c => Nf02Neutral.step s (c.headD [])) (Nf02Neutral.step (stN S) ((PyNf02.whole ((kind :: one) :: rows)).headD [])).1 (cs.map PyNf02.whole)) := hsum
        rw [hst] at hsum'
        refine ⟨kind, one, rows, p', x, cs, f, htk, hlt, hle, hci, by omega, ⟨hcs, dok_step h.dok hci, fun c hc => h.ask c (by simp [hc]), by omega, ?_⟩⟩
        rw [hsum']
        show out ++ (((ans S x).length : Int) :: ans S x ++ PyFlat.told _) = _
        rw [List.append_assoc]
theorem left_start {l : List Int} (h : PyNf02.answers_asked l = true) : (∃ raw, Left l 0 ([1, 0], []) [] raw l.length) ∧ (PyNf02.answers l).length ≤ 10000000 := by
  unfold PyNf02.answers_asked at h
  cases hc : PyFlat.calls PyNf02.shape l.length l with
  | none => simp only [hc] at h; cases h
  | some raw =>
    simp only [hc, Bool.and_eq_true] at h
    obtain ⟨⟨⟨⟨h1, h2⟩, h3⟩, h4⟩, h5⟩ := h
    have hs : (PyNf02.answers l).length ≤ 10000000 := of_decide_eq_true h5
    have hmany : Nf02Neutral.many Nf02Neutral.start ((raw.map PyNf02.whole).map fun c => c.headD []) ≤ 1000000 := by
      unfold Nf02Neutral.asked at h4
      simp only [Bool.and_eq_true, decide_eq_true_eq] at h4
      exact h4.2.2.1.2
    refine ⟨⟨raw, ⟨hc, ⟨⟨by decide, by decide, by decide⟩, by decide +kernel, by decide, fun a ha => by cases ha⟩, fun c hcm => ?_, ?_, ?_⟩⟩, hs⟩
    · unfold Nf02Neutral.asked at h4
      rw [Bool.and_eq_true] at h4
      exact List.all_eq_true.mp h4.1 _ (List.mem_map.mpr ⟨PyNf02.whole c, List.mem_map.mpr ⟨c, hcm, rfl⟩, rfl⟩)
    · rw [List.map_map] at hmany
      exact hmany
    · rw [List.nil_append]
      unfold PyNf02.answers PyNf02.calls
      rw [hc]
      rfl
/-! ### turns, by hand -/
section
variable {K : PySem.W.Frag} {C a q fo : Addr} {τ : Tau} {te : TE} {tr : TA} {u : TS} {D : Ends} {σ : L2.St} {G H : Hp} {S : DS}
theorem asg_run {i : Nat} {d : Dy} (h : Ev te τ none d) (e : Ex G H) (s : Sls σ G H τ none) (k : ∀ v G' H', Fr G H G' H' → RpD G' v d → u D (σ.set i (some v)) H') : tSeq (tAsg te (gName i)) u D σ H := h σ G H e s _ k
theorem asg3_run {i j k : Nat} {s t r : Ty} {x : s.den} {y : t.den} {z : r.den} (h : Ev te τ none ⟨.tr s t r, (x, y, z)⟩) (e : Ex G H) (sl : Sls σ G H τ none) (kk : ∀ va vb vc G' H', Fr G H G' H' → RpD G' va ⟨s, x⟩ → RpD G' vb ⟨t, y⟩ → RpD G' vc ⟨r, z⟩ → u D (((σ.set i (some va)).set j (some vb)).set k (some vc)) H') :
    tSeq (tAsg te (gTup K 3 (gCons (gName i) (gCons (gName j) (gCons (gName k) gNil))))) u D σ H := h σ G H e sl _ fun v G1 H1 f1 r1 => by
  obtain ⟨T, va, vb, vc, rfl, hT, ra, rb, rc⟩ := r1
  exact ⟨T, [va, vb, vc], rfl, .of (f1.l T _ hT), rfl, va, [vb, vc], rfl, vb, [vc], rfl, vc, [], rfl, rfl, kk va vb vc G1 H1 f1 ra rb rc⟩
theorem asgM_run {i j : Nat} {F : DS → List Dy → Dy → DS → Prop} {E : XK} {ds : List Dy} {d : Dy} {S' : DS} (hσ : σ[j]? = some (some (.ref a))) (h : Ea tr τ none ds) (e : Ex G H) (s : Sls σ G H τ none) (hd : DeskAt C G H a q S) (hF : F S ds d S')
    (k : ∀ v G' H' q', FrD a q G H G' H' → DeskAt C G' H' a q' S' → (q' = q ∨ H q' = none) → RpD G' v d → u D (σ.set i (some v)) H') : tSeq (tAsg (tCall (spM C F) [] E (tCons (tVar j) tr)) (gName i)) u D σ H :=
  ⟨.ref a, hσ, h σ G H e s _ fun vs G1 H1 f1 r1 => ⟨G1, a, q, vs, S, ds, d, S', f1.l, hd.step f1, by rw [List.append_nil], r1, hF, fun v G' H' q' f2 hd' hq r2 => k v G' H' q' (f1.toD.trans (.inl rfl) f2) hd' (hq.imp id (none_back f1)) r2⟩⟩
theorem app_run {j : Nat} {i : Int} {vs : List V} (hσ : σ[j]? = some (some (.ref fo))) (hl : H fo = some (.lst vs)) (hz : vs.length < sizeLine) (h : Ev te τ none (dI i)) (e : Ex G H) (s : Sls σ G H τ none) (k : ∀ G' H', Fr G H G' H' → u D σ (upd H' fo (.lst (vs ++ [.int i])))) :
    tSeq (tDrop (tBM K "list" rAppend (tVar j) (tCons te tNil))) u D σ H :=
  ⟨.ref fo, hσ, .inl ⟨rfl, _, SqL.of hl⟩, h σ G H e s _ fun v G1 H1 f1 r1 => by
    obtain rfl : v = .int i := r1
    exact ⟨fo, vs, _, rfl, rfl, f1.h fo _ hl, hz, k G1 H1 f1⟩⟩
theorem ext_run {j : Nat} {ys : List Int} {vs : List V} (hσ : σ[j]? = some (some (.ref fo))) (hl : H fo = some (.lst vs)) (hz : vs.length + ys.length ≤ sizeLine) (h : Ev te τ none (dV ys)) (e : Ex G H) (s : Sls σ G H τ none) (k : ∀ G' H', Fr G H G' H' → D.nx σ (upd H' fo (.lst (vs ++ ys.map V.int)))) :
    tDrop (tBM K "list" rExtend (tVar j) (tCons te tNil)) D σ H :=
  ⟨.ref fo, hσ, .inl ⟨rfl, _, SqL.of hl⟩, h σ G H e s _ fun v G1 H1 f1 r1 => by
    obtain ⟨b, rfl, h5⟩ := rpV.mp r1
    exact ⟨fo, b, vs, _, rfl, rfl, f1.h fo _ hl, f1.l b _ h5, by rw [List.length_map]; exact hz, k G1 H1 f1⟩⟩
theorem desk_upd {o : HO} (d : DeskAt C G H a q S) (h1 : fo ≠ a) (h2 : fo ≠ q) : DeskAt C G (upd H fo o) a q S := by
  obtain ⟨dx, r, vs, e1, e2, e3, e4, e5, e6⟩ := d
  exact ⟨dx, r, vs, by rw [upd_ne (Ne.symm h1)]; exact e1, e2, e3, by rw [upd_ne (Ne.symm h2)]; exact e4, e5, e6⟩
theorem desk_ne {vs : List V} (d : DeskAt C G H a q S) (hl : H fo = some (.lst vs)) : fo ≠ a := fun e => by
  obtain ⟨dx, r, us, e1, _⟩ := d
  rw [e, e1] at hl; cases hl
theorem ex_upd {o : HO} (e : Ex G H) (h : G fo = none) : Ex G (upd H fo o) := fun b u hb => by
  rw [upd_ne (ne_of_none hb h)]; exact e b u hb
end
/-- the maker of a class's objects -/
structure MkOk (P : Program) (w : World) (K : PySem.W.Frag) (mg : Str → Option Value) (base : Heap) (k : Nat) (C : Addr) : Prop where
  ex : ∃ (f : Addr) (fd : FuncData), FnOk P w K mg base CX0 k f fd ["self"] (spInit C) ∧ Mk K C f ∧ mg "Desk" = some (.ref C) ∧ Binds K fd ["self"] []
theorem pe_makeD {X : Cx} {k : Nat} {C : Addr} {p pos : Pos} (d : MkOk X.prog X.w X.K X.mg X.base k C) (hr : Room (k + 1) X.A) (hg : Gl X "Desk") : PE X (.Call (.Name "Desk" p) [] [] pos) (tMake C (spInit C) [] E0 tNil) := by
  obtain ⟨f, fd, F, M, hm, hb⟩ := d.ex
  exact pe_make0 M F hr hg hm hb .nil pass0
def spAns (K : PySem.W.Frag) : Sp := fun vs H Q _ => ∃ (ca : Addr) (l : List Int), vs = [V.ref ca] ∧ SqL K H ca (l.map V.int) ∧ l.length ≤ 1000 ∧ PyNf02.answers_asked l = true ∧ ∀ (H' : Hp) (p : Addr), H' p = some (.lst ((PyNf02.answers l).map V.int)) → Q (.ref p) H'
section
variable {K : PySem.W.Frag} {mg : Str → Option Value} {base : Heap} {P : Program} {w : World} {C : Addr}
def tauA (K : PySem.W.Frag) (l : List Int) (p : Nat) : Tau := [some ⟨.fz K, l⟩, none, none, some (dI (p : Int)), none, none, none, none]
theorem sls_a {ca x fo : Addr} {l : List Int} {p : Nat} {G H : Hp} {t4 t5 t6 t7 : Option V} (h : RpD G (.ref ca) ⟨.fz K, l⟩) : Sls [some (.ref ca), some (.ref x), some (.ref fo), some (.int (p : Int)), t4, t5, t6, t7] G H (tauA K l p) none := by
  refine ⟨fun i d hd => ?_, rfl, trivial⟩
  match i, hd with
  | 0, hd => cases hd; exact ⟨_, rfl, h⟩
  | 1, hd => cases hd
  | 2, hd => cases hd
  | 3, hd => cases hd; exact ⟨_, rfl, rfl⟩
  | 4, hd => cases hd
  | 5, hd => cases hd
  | 6, hd => cases hd
  | 7, hd => cases hd
  | n + 8, hd => simp [tauA] at hd
/-- ahead of each turn -/
def Wl (K : PySem.W.Frag) (C ca x fo : Addr) (l : List Int) (m : Nat) (σ : L2.St) (H : Hp) : Prop := ∃ (G : Hp) (q : Addr) (p : Nat) (S : DS) (out : List Int) (raw : List (List (List Int))) (f : Nat) (t4 t5 t6 t7 : Option V), m = l.length - p ∧ p ≤ l.length ∧
  σ = [some (.ref ca), some (.ref x), some (.ref fo), some (.int (p : Int)), t4, t5, t6, t7] ∧ Ex G H ∧ RpD G (.ref ca) ⟨.fz K, l⟩ ∧ DeskAt C G H x q S ∧ H fo = some (.lst (out.map V.int)) ∧ G fo = none ∧ fo ≠ q ∧ Left l p S out raw f
theorem ok_answers {f : Addr} {fd : FuncData} (Fn : Fun K "answers" "answers" s_answers f fd) (T : Bt mg) (Dt : DTx K C) (d_Desk : MkOk P w K mg base 40 C) (d_taken : DefOk P w K mg base 40 "taken" ["calls", "at"] (spD (F_taken K))) (d_told_by : DefOk P w K mg base 49 "told_by" ["desk", "kind", "one", "behind"] (spM C F_told_by)) :
    FnOk P w K mg base CX0 50 f fd ["calls"] (spAns K) := by
  refine Fn.ok sc_answers (fun vs H Q E ⟨ca, l, e, _⟩ => by rw [e]; rfl) fun cdv A outer s H vs Q E hr ⟨ca, l, e, hs, hll, hask, z⟩ => ?_
  subst e
  refine ⟨_, (pss_cons (ps_set (i := 1) sc_answers.nd rfl (Or.inl rfl) (pe_makeD d_Desk (hr.mono (by decide)) rfl))
    (pss_cons (ps_set (i := 2) sc_answers.nd rfl (Or.inl rfl) (pe_lst pa_nil))
    (pss_cons (ps_set (i := 3) sc_answers.nd rfl (Or.inl rfl) pe_int)
    (pss_cons (ps_while PassesOwn.never (pt_cmpR op_lt (pv 3) (pe_callB (lenK (K := K) rfl) (by rfl) T.b_len (by decide +kernel) (pa_cons (pv 0) pa_nil)) (nomark _)) (pss_cons (ps_set (i := 4) sc_answers.nd rfl (Or.inl rfl) (pe_ix (ixL (K := K) rfl) (pv 0) (pv 3) (fun _ _ => rfl)))
    (pss_cons (ps_asg (pe_callD d_taken (hr.mono (by decide)) rfl (pa_cons (pv 0) (pa_cons (pv 3) pa_nil))) (pg_tupK (K := K) (n := 3) rfl rfl (pgs_cons (pg_name (i := 6) sc_answers.nd rfl (Or.inl rfl)) (pgs_cons (pg_name (i := 7) sc_answers.nd rfl (Or.inl rfl)) (pgs_cons (pg_name (i := 3) sc_answers.nd rfl (Or.inl rfl)) pgs_nil)))))
    (pss_cons (ps_set (i := 5) sc_answers.nd rfl (Or.inl rfl) (pe_callD d_told_by (hr.mono (by decide)) rfl (pa_cons (pv 1) (pa_cons (pv 4) (pa_cons (pv 6) (pa_cons (pv 7) pa_nil))))))
    (pss_cons (ps_expr (pe_bm PySem.F.plainAttrs_list PySem.F.slot_list_append PySem.F.type_list_append mt_append (pv 2) (pa_cons (pe_callB (lenK (K := K) rfl) (by rfl) T.b_len (by decide +kernel) (pa_cons (pv 5) pa_nil)) pa_nil)))
    (pss_one (ps_expr (pe_bm PySem.F.plainAttrs_list PySem.F.slot_list_extend PySem.F.type_list_extend mt_extend (pv 2) (pa_cons (pv 5) pa_nil)))))))))
    (pss_one (ps_ret (pv 2))))))), ?_⟩
  obtain ⟨⟨raw, hleft⟩, hbig⟩ := left_start hask
  -- the desk is made
  intro x dx hx hdx hne
  refine ⟨x, dx, rfl, upd_same, fun H1 r q hr1 hq1 hrq e1 e2 e3 kp => ⟨rfl, ?_⟩⟩
  have hxr : r ≠ x := fun e => by rw [e, upd_same] at hr1; cases hr1
  have hxq : q ≠ x := fun e => by rw [e, upd_same] at hq1; cases hq1
  have hrd : r ≠ dx := fun e => by rw [e, upd_ne hne, upd_same] at hr1; cases hr1
  have hqd : q ≠ dx := fun e => by rw [e, upd_ne hne, upd_same] at hq1; cases hq1
  have hr0 : H r = none := by rw [upd_ne hxr, upd_ne hrd] at hr1; exact hr1
  have hq0 : H q = none := by rw [upd_ne hxq, upd_ne hqd] at hq1; exact hq1
  have hH : Ex H H1 := fun b o hb => by
    have h1 : b ≠ x := ne_of_none hb hx
    have h2 : b ≠ dx := ne_of_none hb hdx
    exact kp b o h1 (by rw [upd_ne h1, upd_ne h2]; exact hb)
  refine ⟨by show 0 ≤ sizeLine; exact Nat.zero_le _, fun fo hfo => ?_⟩
  have hfr : fo ≠ r := fun e => by rw [e, e2] at hfo; cases hfo
  have hfq : fo ≠ q := fun e => by rw [e, e3] at hfo; cases hfo
  have hfx : fo ≠ x := fun e => by rw [e, e1] at hfo; cases hfo
  -- what is known: the list of calls, the ring
  let G0 : Hp := fun b => if b = r then some (.lst [.int 1, .int 0]) else if b = ca then H b else none
  have hG0 : Ex G0 (upd H1 fo (.lst [])) := fun b o hb => by
    have hb' : (if b = r then some (.lst [.int 1, .int 0]) else if b = ca then H b else none) = some o := hb
    by_cases c2 : b = r
    · rw [if_pos c2] at hb'
      rw [c2, upd_ne (Ne.symm hfr), e2]; exact hb'
    · rw [if_neg c2] at hb'
      by_cases c1 : b = ca
      · rw [if_pos c1] at hb'
        have := hH b o hb'
        rw [upd_ne (ne_of_none this hfo)]; exact this
      · rw [if_neg c1] at hb'; cases hb'
  have hnone : ∀ b, H b = none → b ≠ r → G0 b = none := fun b h1 h2 => by
    show (if b = r then some (.lst [.int 1, .int 0]) else if b = ca then H b else none) = none
    rw [if_neg h2]
    by_cases c1 : b = ca
    · rw [if_pos c1]; exact h1
    · rw [if_neg c1]
  have hfo0 : H fo = none := by
    cases c : H fo with
    | none => rfl
    | some o => rw [hH fo o c] at hfo; cases hfo
  have hca : RpD G0 (.ref ca) ⟨.fz K, l⟩ := by
    refine ⟨ca, rfl, ?_⟩
    have e : ∀ o, H ca = some o → G0 ca = H ca := fun o ho => by
      show (if ca = r then some (.lst [.int 1, .int 0]) else if ca = ca then H ca else none) = _
      rw [if_neg (fun c => by rw [c, hr0] at ho; cases ho), if_pos rfl]
    rcases hs with (h | ⟨o, h⟩) | h
    · exact .inl (.inl (by rw [e _ h]; exact h))
    · exact .inl (.inr ⟨o, by rw [e _ h]; exact h⟩)
    · exact .inr h
  have hGr : G0 r = some (.lst [.int 1, .int 0]) := if_pos rfl
  have hdesk : DeskAt C G0 (upd H1 fo (.lst [])) x q ([1, 0], []) := ⟨dx, r, [], by rw [upd_ne (Ne.symm hfx)]; exact e1, hnone x hx (Ne.symm hxr), hnone q hq0 (Ne.symm hrq), by rw [upd_ne (Ne.symm hfq)]; exact e3, .nil, rpV.mpr ⟨r, rfl, hGr⟩⟩
  refine ⟨fun m σ H' => Wl K C ca x fo l m σ H', ⟨l.length, G0, q, 0, ([1, 0], []), [], raw, l.length, none, none, none, none, rfl, Nat.zero_le _, rfl, hG0, hca, hdesk, upd_same, hnone fo hfo0 hfr, hfq, hleft⟩, ?_⟩
  rintro m σ H2 ⟨G, q2, p, S, out, raw2, f2, t4, t5, t6, t7, rfl, hp, rfl, eG, hca2, hd2, hfo2, hGfo, hfq2, hl2⟩
  refine (et_test (ev_B0 (g := fun i j => decide (i < j)) (ev_var (d := dI (p : Int)) rfl) (ev_lenF (K := K) (l := l) (ev_var rfl))) : Et _ (tauA K l p) none _) _ G H2 eG (sls_a hca2) _ fun G3 H3 f3 => ?_
  have hfo3 := f3.h fo _ hfo2
  have hG3 := f3.n fo (by rw [hfo2]; simp) hGfo
  have hd3 := hd2.step f3
  have hca3 := hca2.mono f3.g
  have hsum := hl2.sum
  have hout : out.length ≤ 10000000 := by
    rw [hsum, List.length_append] at hbig; omega
  by_cases hlt : p < l.length
  · rw [decide_eq_true (show (p : Int) < (l.length : Int) by omega)]
    simp only [if_true]
    obtain ⟨kind, one, rows, p', c, raw3, f4, htk, hlt', hle', hci, hans, hl3⟩ := left_step hl2 hlt
    have hk : l[p]? = some kind := htk.choose_spec.choose_spec.choose_spec.1
    refine ⟨fun σ' H' => ∃ m', m' < l.length - p ∧ Wl K C ca x fo l m' σ' H', fun σ' H' h => h, ?_⟩
    -- kind = calls[at]
    refine asg_run (τ := tauA K l p) (d := dI kind) (ev_ixF (K := K) (l := l) (ev_var rfl) (ev_var rfl) (atI_nat hk)) f3.l (sls_a hca3) fun v4 G4 H4 g4 r4 => ?_
    obtain rfl : v4 = .int kind := r4
    have hca4 := hca3.mono g4.g
    have hd4 := hd3.step g4
    have hfo4 := g4.h fo _ hfo3
    have hG4 := g4.n fo (by rw [hfo3]; simp) hG3
    -- one, rows, at = taken(calls, at)
    refine asg3_run (τ := tauA K l p) (s := .lst .int) (t := .lst (.lst .int)) (r := .int) (x := one) (y := rows) (z := (p' : Int)) (ev_call (ea_cons (ev_var (d := ⟨.fz K, l⟩) rfl) (ea_cons (ev_var rfl) ea_nil)) ⟨l, p, kind, one, rows, p', rfl, by omega, htk, rfl⟩) g4.l (sls_a hca4) fun va vb vc G5 H5 g5 ra rb rc => ?_
    obtain rfl : vc = .int (p' : Int) := rc
    have hca5 := hca4.mono g5.g
    have hd5 := hd4.step g5
    have hfo5 := g5.h fo _ hfo4
    have hG5 := g5.n fo (by rw [hfo4]; simp) hG4
    -- answer = told_by(desk, kind, one, rows)
    have s5 : Sls [some (.ref ca), some (.ref x), some (.ref fo), some (.int (p' : Int)), some (.int kind), t5, some va, some vb] G5 H5 [some ⟨.fz K, l⟩, none, none, some (dI (p' : Int)), some (dI kind), none, some (dV one), some (dM rows)] none := by
      refine ⟨fun i d hd => ?_, rfl, trivial⟩
      match i, hd with
      | 0, hd => cases hd; exact ⟨_, rfl, hca5⟩
      | 1, hd => cases hd
      | 2, hd => cases hd
      | 3, hd => cases hd; exact ⟨_, rfl, rfl⟩
      | 4, hd => cases hd; exact ⟨_, rfl, rfl⟩
      | 5, hd => cases hd
      | 6, hd => cases hd; exact ⟨_, rfl, ra⟩
      | 7, hd => cases hd; exact ⟨_, rfl, rb⟩
      | n + 8, hd => simp at hd
    refine asgM_run (i := 5) (j := 1) (a := x) (ds := [dI kind, dV one, dM rows]) (d := dV (ans S c)) (S' := stp S c) rfl (ea_cons (ev_var rfl) (ea_cons (ev_var rfl) (ea_cons (ev_var rfl) ea_nil))) g5.l s5 hd5 ⟨kind, one, rows, c, rfl, hl2.dok, hci, hans, rfl, rfl⟩ fun v6 G6 H6 q6 g6 hd6 hq6 r6 => ?_
    have hxf := desk_ne hd5 hfo5
    have hfo6 : H6 fo = some (.lst (out.map V.int)) := g6.h fo _ hxf hfq2 hfo5
    have hG6 := g6.n fo (by rw [hfo5]; simp) hG5
    have hfq6 : fo ≠ q6 := fun e => by
      rcases hq6 with h | h
      · exact hfq2 (e.trans h)
      · rw [← e, hfo5] at h; cases h
    have hca6 := hca5.mono g6.g
    have s6 : ∀ {G' H' : Hp}, Ex G6 G' → Sls [some (.ref ca), some (.ref x), some (.ref fo), some (.int (p' : Int)), some (.int kind), some v6, some va, some vb] G' H' [some ⟨.fz K, l⟩, none, none, some (dI (p' : Int)), none, some (dV (ans S c)), none, none] none := fun e => by
      refine ⟨fun i d hd => ?_, rfl, trivial⟩
      match i, hd with
      | 0, hd => cases hd; exact ⟨_, rfl, hca6.mono e⟩
      | 1, hd => cases hd
      | 2, hd => cases hd
      | 3, hd => cases hd; exact ⟨_, rfl, rfl⟩
      | 4, hd => cases hd
      | 5, hd => cases hd; exact ⟨_, rfl, r6.mono e⟩
      | 6, hd => cases hd
      | 7, hd => cases hd
      | n + 8, hd => simp at hd
    have hz : out.length + (ans S c).length + 1 < sizeLine := by rw [sizeLine_eq]; omega
    -- found.append(len(answer))
    refine app_run (fo := fo) (i := ((ans S c).length : Int)) (vs := out.map V.int) rfl hfo6 (by rw [List.length_map]; omega) (ev_len (ty := .int) (xs := ans S c) (ev_var rfl)) g6.l (s6 (.refl _)) fun G7 H7 g7 => ?_
    have hG7 := g7.n fo (by rw [hfo6]; simp) hG6
    have hd7 := desk_upd (fo := fo) (o := .lst (out.map V.int ++ [.int ((ans S c).length : Int)])) (hd6.step g7) hxf hfq6
    -- found.extend(answer)
    refine ext_run (fo := fo) (ys := ans S c) (vs := out.map V.int ++ [.int ((ans S c).length : Int)]) rfl upd_same (by rw [List.length_append, List.length_map, List.length_singleton]; omega) (ev_var rfl) (ex_upd g7.l hG7) (s6 g7.g) fun G8 H8 g8 => ?_
    have hG8 := g8.n fo (by rw [upd_same]; simp) hG7
    have hd8 := desk_upd (fo := fo) (o := .lst (out.map V.int ++ [.int ((ans S c).length : Int)] ++ (ans S c).map V.int)) (hd7.step g8) hxf hfq6
    refine ⟨l.length - p', by omega, G8, q6, p', stp S c, out ++ ((ans S c).length : Int) :: ans S c, raw3, f4, _, _, _, _, rfl, hle', rfl, ex_upd g8.l hG8, hca6.mono (g7.g.trans g8.g), hd8, ?_, hG8, hfq6, hl3⟩
    rw [upd_same]
    simp
  · rw [decide_eq_false (show ¬ (p : Int) < (l.length : Int) by omega)]
    simp only [Bool.false_eq_true, if_false]
    have e := left_end hl2 (by omega)
    refine ⟨.ref fo, rfl, z H3 fo ?_⟩
    rw [e]; exact hfo3
end
end Wk

/-! WkT: the call of answers, from the top; the base is known to have no _pylong. -/
namespace Wk
open PySem L2 PyProof.Rows PySem.Spec
open PySem.W (WData Codec OpenSpec Well WellAll ReadsW ReadsAllW)
/-- what is hidden of a heap is lists and tuples alone: all dicts and modules stand -/
theorem seer_hid {h : Heap} {T : Hp} (x : h.NoSeer) (lone : ∀ b u, T b = some u → ∃ vs : List Value, h.get? b = some { cls := .type "list", data := .seq vs.toArray } ∨ h.get? b = some { cls := .type "tuple", data := .seq vs.toArray }) :
    (hidT h T).NoSeer ∧ ∀ {b : Addr} {m : Str → Option Value}, h.Ns b m → (hidT h T).Ns b m := by
  have free : ∀ {b : Addr} {o : Obj}, h.get? b = some o → ((∃ es ep, o.data = .dict es ep) ∨ o.cls = .type "module") → T b = none := by
    intro b o e c
    cases q : T b with
    | none => rfl
    | some u =>
      exfalso
      obtain ⟨vs, e2 | e2⟩ := lone b u q
      · rw [e2] at e
        obtain rfl := Option.some.inj e
        rcases c with ⟨es, ep, c⟩ | c
        · have c' : Data.seq vs.toArray _ = Data.dict es ep := c
          cases c'
        · exact absurd (Value.type.inj c) (by decide)
      · rw [e2] at e
        obtain rfl := Option.some.inj e
        rcases c with ⟨es, ep, c⟩ | c
        · have c' : Data.seq vs.toArray _ = Data.dict es ep := c
          cases c'
        · exact absurd (Value.type.inj c) (by decide)
  have ns : ∀ {b : Addr} {m : Str → Option Value}, h.Ns b m → (hidT h T).Ns b m := by
    intro b m ⟨o, es, ep, e, d, r⟩
    exact ⟨o, es, ep, hidT_get e (free e (.inl ⟨es, ep, d⟩)), d, r⟩
  refine ⟨⟨?_, ?_, ?_, ?_⟩, ns⟩
  · obtain ⟨mc, a, b⟩ := x.statics
    exact ⟨mc, ns a, b⟩
  · obtain ⟨mm, a, b⟩ := x.mods
    exact ⟨mm, ns a, b⟩
  · obtain ⟨mb, a, b⟩ := x.imp
    exact ⟨mb, ns a, b⟩
  · obtain ⟨mg, bm, ob, a, b, c, d, e⟩ := x.main
    exact ⟨mg, bm, ob, ns a, b, hidT_get c (free c (.inr d)), d, e⟩
/-- one list of whole numbers in, one list out -/
theorem call_top {P : Program} {w : World} {K : PySem.W.Frag} {mg mb : Str → Option Value} {k : Nat} {fa : Addr} {fd : FuncData} {sp : Sp} {s₁ : Shared} {vals : List Value} {l r : List Int} {R : PySem.W.WRecords} {cl : Str → Option Addr}
    (inK : K.In s₁.heap) (seer : s₁.heap.NoSeer) (g1 : s₁.heap.Ns mainGlobals mg) (g2 : s₁.heap.Ns builtinsNs mb) (g3 : ∀ x : Str, x ≠ "__name__" → mb x = bootBuiltins x) (g4 : s₁.heap.NoLimit) (g5 : s₁.gens = #[])
    (well : WellAll w.params s₁.heap vals [.list (l.map WData.int)]) (light : (WData.list (l.map WData.int)).weight ≤ 1048576) (room : Room k callerA)
    (defOk : ∀ base : Heap, base.NoSeer → FnOk P w K mg base CX0 k fa fd ["calls"] sp) (binds : Binds K fd ["calls"] [])
    (due : ∀ (T : Hp) (ca : Addr), SqL K T ca (l.map V.int) → sp [.ref ca] T (fun v T' => ∃ p, v = V.ref p ∧ T' p = some (.lst (r.map V.int))) fun _ _ _ => False) :
    codeAny (model P w) callerA (.call (.ref fa) ⟨vals, []⟩) (fun res s' => ∃ u as, res = .ok (.ret u) ∧ ReadsW R cl s'.heap u (.list (r.map WData.int)) as ∧ OldK s₁.heap s'.heap ∧ s'.os = s₁.os ∧ AllBare s'.gens) s₁ := by
  have flat : plWs [WData.list (l.map WData.int)] = true := by
    show (plWs (l.map WData.int) && true) = true
    rw [plWs_map fun _ => rfl]; rfl
  obtain ⟨A, okU, lying⟩ := area_all _ vals well flat fun d hd => by rw [List.mem_singleton.mp hd]; exact light
  have stand := argH_ok (P := P) (w := w) (K := K) lying
  have frozen := argH_only (K := K) lying
  have what : ∀ b u, argH K s₁.heap A b = some u → K.lookup b = none ∧ ∃ vs : List Value, s₁.heap.get? b = some { cls := .type "list", data := .seq vs.toArray } ∨ s₁.heap.get? b = some { cls := .type "tuple", data := .seq vs.toArray } := by
    intro b u q
    obtain ⟨n, vs, _, _, ⟨e, _⟩ | ⟨e, _⟩⟩ := argH_is lying q
    · exact ⟨n, vs, .inl e⟩
    · exact ⟨n, vs, .inr e⟩
  have said := dw_all inK lying _ vals well flat okU
  have seen := vals_toV okU
  generalize argH K s₁.heap A = T at stand frozen what said
  obtain ⟨noSeer, nsH⟩ := seer_hid (T := T) seer fun b u q => (what b u q).2
  have inB : K.In (hidT s₁.heap T) := by
    intro b o e
    refine hidT_get (inK b o e) ?_
    cases q : T b with
    | none => rfl
    | some u =>
      rw [(what b u q).1] at e
      cases e
  have start : Env0 P w K mg (hidT s₁.heap T) callerA [] s₁ T := by
    refine ⟨rfl, ⟨inB, nsH g1, ⟨mb, nsH g2, g3⟩, ?_⟩, fun b o e => of_hidT e, Nat.le_of_eq (hidT_size _ _), trivial, fun b hb => absurd (show b ∈ ([] : List Addr) from hb) (by simp), stand, .of_eq g5⟩
    obtain ⟨mc, a, b⟩ := g4
    exact ⟨mc, nsH a, b⟩
  have one : vals.length = 1 := wellAll_len well
  have bb : BindsTo s₁ fd ⟨vals, []⟩ (((["calls"] : List Str)).zip vals) := by
    have := binds s₁ vals inK (by rw [List.append_nil]; exact one)
    rwa [List.append_nil] at this
  obtain ⟨ca, hca, hsq⟩ : ∃ ca, vals.map toV = [V.ref ca] ∧ SqL K T ca (l.map V.int) := by
    generalize vals.map toV = vv at said
    cases said with
    | cons a b =>
      cases b
      cases a with
      | lst hs ha =>
        obtain rfl := ints_dw l _ ha
        exact ⟨_, rfl, hs⟩
  refine codeAny_mono ((defOk _ noSeer).run callerA [] s₁ T ⟨vals, []⟩ vals (vals.map toV) _ _ room start bb seen (by rw [hca]; exact due T ca hsq)) fun res s' fin => ?_
  cases res with
  | error e => exact False.elim fin
  | ok fl =>
    cases fl with
    | ret u =>
      obtain ⟨v, T', os, bare, un, stand', rel, p, rfl, at_p⟩ := fin
      have still : ∀ b o, s₁.heap.get? b = some o → s'.heap.get? b = some o := by
        intro b o e
        cases q : T b with
        | none => exact un.keep b o e q (fun none_such => absurd (show b ∈ ([] : List Addr) from none_such) (by simp)) (by simp)
        | some t =>
          rcases frozen b with z | ⟨ob, t2, z⟩
          · rw [q] at z; cases z
          · obtain ⟨x1, _⟩ := stand b _ z
            obtain ⟨x2, _⟩ := stand' b _ (un.frzs b ob _ z)
            rw [x1] at e
            rw [x2]; exact e
      obtain ⟨as, hr⟩ := Dw.reads (R := R) (cl := cl) stand' (fun b o e => still b o (inK b o e)) (.list (r.map WData.int)) (.ref p) u (.lst (.of at_p) (dw_ints r)) rel
      exact ⟨u, as, rfl, hr, OldK.of_keep still, os, bare⟩
    | next => exact False.elim fin
    | brk => exact False.elim fin
    | cont => exact False.elim fin
end Wk

/-! WkU: all defs together. Printed by mkU.py. -/
namespace Wk
open PySem L2 PyProof.Rows PySem.Spec
open PySem.W (WData Codec OpenSpec Well WellAll ReadsW ReadsAllW)
/-- a def of the text stands at its name -/
structure DefAt (K : PySem.W.Frag) (mg : Str → Option Value) (x : Str) (st : Stmt) : Prop where
  ex : ∃ (f : Addr) (fd : FuncData), Fun K x x st f fd ∧ mg x = some (.ref f) ∧ PySem.W.keepIn K (.ref f) = true
theorem mk_def {P : Program} {w : World} {K : PySem.W.Frag} {mg : Str → Option Value} {base : Heap} {k : Nat} {x : Str} {st : Stmt} {ps : List Str} {sp : Sp} (d : DefAt K mg x st)
    (hb : ∀ (kV doc pm : Value) (an : Option Addr) (cdv ct : Value) (us : List Value), us.length = ps.length → bindArgs (PySem.W.fnOf x x (defArgs st) (defBody st) (defScope st) .none kV doc pm an cdv ct) ⟨us, []⟩ = pure (ps.zip us))
    (ok : ∀ (f : Addr) (fd : FuncData), Fun K x x st f fd → FnOk P w K mg base CX0 k f fd ps sp) : DefOk P w K mg base k x ps sp := by
  obtain ⟨f, fd, F, hm, hk⟩ := d.ex
  exact ⟨f, fd, ok f fd F, hm, hk, F.binds hb⟩
structure All (K : PySem.W.Frag) (mg : Str → Option Value) (C : Addr) : Prop where
  T : Bt mg
  Cn : Ct K mg
  Dt : DTx K C
  gC : mg "Desk" = some (.ref C)
  ini : ∃ (f : Addr) (fd : FuncData), Fun K "__init__" "Desk.__init__" s_init f fd ∧ Mk K C f
  isT : ∃ (f : Addr) (fd : FuncData), Fun K "is_there" "Desk.is_there" s_is_there f fd ∧ Meth K C "is_there" f
  a_by_root : DefAt K mg "by_root" s_by_root
  a_summed : DefAt K mg "summed" s_summed
  a_is_nought : DefAt K mg "is_nought" s_is_nought
  a_multiplied : DefAt K mg "multiplied" s_multiplied
  a_least_at : DefAt K mg "least_at" s_least_at
  a_led_down : DefAt K mg "led_down" s_led_down
  a_parted : DefAt K mg "parted" s_parted
  a_turned_up : DefAt K mg "turned_up" s_turned_up
  a_brought_down : DefAt K mg "brought_down" s_brought_down
  a_rows_of : DefAt K mg "rows_of" s_rows_of
  a_has : DefAt K mg "has" s_has
  a_in_both : DefAt K mg "in_both" s_in_both
  a_with_powers : DefAt K mg "with_powers" s_with_powers
  a_made_of : DefAt K mg "made_of" s_made_of
  a_sum_of : DefAt K mg "sum_of" s_sum_of
  a_product_of : DefAt K mg "product_of" s_product_of
  a_in_common : DefAt K mg "in_common" s_in_common
  a_whole : DefAt K mg "whole" s_whole
  a_one_by_another : DefAt K mg "one_by_another" s_one_by_another
  a_holds : DefAt K mg "holds" s_holds
  a_norm : DefAt K mg "norm" s_norm
  a_spread : DefAt K mg "spread" s_spread
  a_classes : DefAt K mg "classes" s_classes
  a_is_prime : DefAt K mg "is_prime" s_is_prime
  a_next_rows : DefAt K mg "next_rows" s_next_rows
  a_is_closed : DefAt K mg "is_closed" s_is_closed
  a_longer_ones : DefAt K mg "longer_ones" s_longer_ones
  a_by_own_places : DefAt K mg "by_own_places" s_by_own_places
  a_all_of_norm : DefAt K mg "all_of_norm" s_all_of_norm
  a_worth : DefAt K mg "worth" s_worth
  a_has_root : DefAt K mg "has_root" s_has_root
  a_are_parts : DefAt K mg "are_parts" s_are_parts
  a_has_two : DefAt K mg "has_two" s_has_two
  a_can_be_parted : DefAt K mg "can_be_parted" s_can_be_parted
  a_are_within : DefAt K mg "are_within" s_are_within
  a_put_ring : DefAt K mg "put_ring" s_put_ring
  a_keep : DefAt K mg "keep" s_keep
  a_put_ideal : DefAt K mg "put_ideal" s_put_ideal
  a_made_by : DefAt K mg "made_by" s_made_by
  a_told_of_two : DefAt K mg "told_of_two" s_told_of_two
  a_told : DefAt K mg "told" s_told
  a_told_of_places : DefAt K mg "told_of_places" s_told_of_places
  a_prime : DefAt K mg "prime" s_prime
  a_every_ideal : DefAt K mg "every_ideal" s_every_ideal
  a_drop : DefAt K mg "drop" s_drop
  a_told_of_one : DefAt K mg "told_of_one" s_told_of_one
  a_told_of_ideals : DefAt K mg "told_of_ideals" s_told_of_ideals
  a_told_by : DefAt K mg "told_by" s_told_by
  a_taken : DefAt K mg "taken" s_taken
section
variable {K : PySem.W.Frag} {mg : Str → Option Value} {base : Heap} {P : Program} {w : World} {C : Addr}
theorem all_ok (A : All K mg C) (hN : base.NoSeer) (hP : P.given.tree = none) {f : Addr} {fd : FuncData} (Fn : Fun K "answers" "answers" s_answers f fd) : FnOk P w K mg base CX0 50 f fd ["calls"] (spAns K) := by
  have T := A.T
  have Cn := A.Cn
  have Dt := A.Dt
  have d_Desk : MkOk P w K mg base 40 C := by
    obtain ⟨f, fd, F, M⟩ := A.ini
    exact ⟨f, fd, ok_init (j := 39) F Dt, M, A.gC, F.binds fun _ _ _ _ _ _ us hl => match us, hl with | [_], _ => rfl⟩
  have d_is_there : MtOk P w K mg base 40 C "is_there" ["self", "number"] (spR C F_is_there) := by
    obtain ⟨f, fd, F, M⟩ := A.isT
    exact ⟨f, fd, ok_is_there (j := 39) F T Dt, M, F.binds fun _ _ _ _ _ _ us hl => match us, hl with | [_, _], _ => rfl⟩
  have d_by_root : DefOk P w K mg base 40 "by_root" ["ring", "number"] (spD F_by_root) := mk_def A.a_by_root (fun _ _ _ _ _ _ us hl => match us, hl with | [_, _], _ => rfl) fun f fd F => ok_by_root (Fn := F) (T := T)
  have d_summed : DefOk P w K mg base 40 "summed" ["one", "often", "other"] (spD F_summed) := mk_def A.a_summed (fun _ _ _ _ _ _ us hl => match us, hl with | [_, _, _], _ => rfl) fun f fd F => ok_summed (Fn := F) (T := T)
  have d_is_nought : DefOk P w K mg base 40 "is_nought" ["number"] (spD F_is_nought) := mk_def A.a_is_nought (fun _ _ _ _ _ _ us hl => match us, hl with | [_], _ => rfl) fun f fd F => ok_is_nought (Fn := F) (T := T)
  have d_multiplied : DefOk P w K mg base 41 "multiplied" ["ring", "one", "other"] (spD F_multiplied) := mk_def A.a_multiplied (fun _ _ _ _ _ _ us hl => match us, hl with | [_, _, _], _ => rfl) fun f fd F => ok_multiplied (k := 0) (Fn := F) (T := T) (d_by_root := d_by_root) (d_summed := d_summed)
  have d_least_at : DefOk P w K mg base 40 "least_at" ["vectors", "place"] (spD F_least_at) := mk_def A.a_least_at (fun _ _ _ _ _ _ us hl => match us, hl with | [_, _], _ => rfl) fun f fd F => ok_least_at (Fn := F) (T := T)
  have d_led_down : DefOk P w K mg base 41 "led_down" ["vectors", "place"] (spD F_led_down) := mk_def A.a_led_down (fun _ _ _ _ _ _ us hl => match us, hl with | [_, _], _ => rfl) fun f fd F => ok_led_down (hP := hP) (hN := hN) (Fn := F) (T := T) (d_least_at := d_least_at) (d_summed := d_summed)
  have d_parted : DefOk P w K mg base 42 "parted" ["vectors", "place"] (spD F_parted) := mk_def A.a_parted (fun _ _ _ _ _ _ us hl => match us, hl with | [_, _], _ => rfl) fun f fd F => ok_parted (Fn := F) (T := T) (d_is_nought := d_is_nought) (d_led_down := d_led_down)
  have d_turned_up : DefOk P w K mg base 40 "turned_up" ["vector", "place"] (spD F_turned_up) := mk_def A.a_turned_up (fun _ _ _ _ _ _ us hl => match us, hl with | [_, _], _ => rfl) fun f fd F => ok_turned_up (Fn := F) (T := T)
  have d_brought_down : DefOk P w K mg base 41 "brought_down" ["vector", "rows", "end"] (spD F_brought_down) := mk_def A.a_brought_down (fun _ _ _ _ _ _ us hl => match us, hl with | [_, _, _], _ => rfl) fun f fd F => ok_brought_down (hP := hP) (hN := hN) (Fn := F) (T := T) (d_summed := d_summed)
  have d_rows_of : DefOk P w K mg base 43 "rows_of" ["vectors", "many"] (spD F_rows_of) := mk_def A.a_rows_of (fun _ _ _ _ _ _ us hl => match us, hl with | [_, _], _ => rfl) fun f fd F => ok_rows_of (Fn := F) (T := T) (d_parted := d_parted) (d_turned_up := d_turned_up) (d_brought_down := d_brought_down)
  have d_has : DefOk P w K mg base 42 "has" ["rows", "vector"] (spD F_has) := mk_def A.a_has (fun _ _ _ _ _ _ us hl => match us, hl with | [_, _], _ => rfl) fun f fd F => ok_has (Fn := F) (T := T) (d_is_nought := d_is_nought) (d_brought_down := d_brought_down)
  have d_in_both : DefOk P w K mg base 44 "in_both" ["pairs", "rows"] (spD F_in_both) := mk_def A.a_in_both (fun _ _ _ _ _ _ us hl => match us, hl with | [_, _], _ => rfl) fun f fd F => ok_in_both (Fn := F) (T := T) (d_rows_of := d_rows_of)
  have d_with_powers : DefOk P w K mg base 41 "with_powers" ["ring", "number"] (spD F_with_powers) := mk_def A.a_with_powers (fun _ _ _ _ _ _ us hl => match us, hl with | [_, _], _ => rfl) fun f fd F => ok_with_powers (Fn := F) (T := T) (d_by_root := d_by_root)
  have d_made_of : DefOk P w K mg base 44 "made_of" ["ring", "numbers"] (spD F_made_of) := mk_def A.a_made_of (fun _ _ _ _ _ _ us hl => match us, hl with | [_, _], _ => rfl) fun f fd F => ok_made_of (Fn := F) (T := T) (d_is_nought := d_is_nought) (d_with_powers := d_with_powers) (d_rows_of := d_rows_of)
  have d_sum_of : DefOk P w K mg base 44 "sum_of" ["one", "other"] (spD F_sum_of) := mk_def A.a_sum_of (fun _ _ _ _ _ _ us hl => match us, hl with | [_, _], _ => rfl) fun f fd F => ok_sum_of (Fn := F) (T := T) (d_rows_of := d_rows_of)
  have d_product_of : DefOk P w K mg base 44 "product_of" ["ring", "one", "other"] (spD F_product_of) := mk_def A.a_product_of (fun _ _ _ _ _ _ us hl => match us, hl with | [_, _, _], _ => rfl) fun f fd F => ok_product_of (Fn := F) (T := T) (d_multiplied := d_multiplied) (d_rows_of := d_rows_of)
  have d_in_common : DefOk P w K mg base 45 "in_common" ["one", "other"] (spD F_in_common) := mk_def A.a_in_common (fun _ _ _ _ _ _ us hl => match us, hl with | [_, _], _ => rfl) fun f fd F => ok_in_common (Fn := F) (T := T) (d_in_both := d_in_both)
  have d_whole : DefOk P w K mg base 40 "whole" ["ring"] (spD F_whole) := mk_def A.a_whole (fun _ _ _ _ _ _ us hl => match us, hl with | [_], _ => rfl) fun f fd F => ok_whole (Fn := F) (T := T)
  have d_one_by_another : DefOk P w K mg base 45 "one_by_another" ["ring", "one", "other"] (spD F_one_by_another) := mk_def A.a_one_by_another (fun _ _ _ _ _ _ us hl => match us, hl with | [_, _, _], _ => rfl) fun f fd F => ok_one_by_another (Fn := F) (T := T) (d_whole := d_whole) (d_multiplied := d_multiplied) (d_in_both := d_in_both)
  have d_holds : DefOk P w K mg base 43 "holds" ["one", "other"] (spD F_holds) := mk_def A.a_holds (fun _ _ _ _ _ _ us hl => match us, hl with | [_, _], _ => rfl) fun f fd F => ok_holds (Fn := F) (T := T) (d_has := d_has)
  have d_norm : DefOk P w K mg base 40 "norm" ["rows"] (spD F_norm) := mk_def A.a_norm (fun _ _ _ _ _ _ us hl => match us, hl with | [_], _ => rfl) fun f fd F => ok_norm (Fn := F) (T := T)
  have d_spread : DefOk P w K mg base 40 "spread" ["found", "bound"] (spD F_spread) := mk_def A.a_spread (fun _ _ _ _ _ _ us hl => match us, hl with | [_, _], _ => rfl) fun f fd F => ok_spread (Fn := F) (T := T)
  have d_classes : DefOk P w K mg base 41 "classes" ["rows"] (spD F_classes) := mk_def A.a_classes (fun _ _ _ _ _ _ us hl => match us, hl with | [_], _ => rfl) fun f fd F => ok_classes (Fn := F) (T := T) (d_spread := d_spread)
  have d_is_prime : DefOk P w K mg base 43 "is_prime" ["ring", "rows"] (spD F_is_prime) := mk_def A.a_is_prime (fun _ _ _ _ _ _ us hl => match us, hl with | [_, _], _ => rfl) fun f fd F => ok_is_prime (Fn := F) (T := T) (d_classes := d_classes) (d_multiplied := d_multiplied) (d_has := d_has)
  have d_next_rows : DefOk P w K mg base 42 "next_rows" ["rows", "left", "many"] (spD F_next_rows) := mk_def A.a_next_rows (fun _ _ _ _ _ _ us hl => match us, hl with | [_, _, _], _ => rfl) fun f fd F => ok_next_rows (Fn := F) (T := T) (d_classes := d_classes)
  have d_is_closed : DefOk P w K mg base 43 "is_closed" ["ring", "rows"] (spD F_is_closed) := mk_def A.a_is_closed (fun _ _ _ _ _ _ us hl => match us, hl with | [_, _], _ => rfl) fun f fd F => ok_is_closed (Fn := F) (T := T) (d_by_root := d_by_root) (d_has := d_has)
  have d_longer_ones : DefOk P w K mg base 44 "longer_ones" ["ring", "some", "bound"] (spD F_longer_ones) := mk_def A.a_longer_ones (fun _ _ _ _ _ _ us hl => match us, hl with | [_, _, _], _ => rfl) fun f fd F => ok_longer_ones (hN := hN) (hP := hP) (Fn := F) (T := T) (d_next_rows := d_next_rows) (d_norm := d_norm) (d_is_closed := d_is_closed)
  have d_by_own_places : DefOk P w K mg base 40 "by_own_places" ["rows"] (spD F_by_own_places) := mk_def A.a_by_own_places (fun _ _ _ _ _ _ us hl => match us, hl with | [_], _ => rfl) fun f fd F => ok_by_own_places (Fn := F) (T := T)
  have d_all_of_norm : DefOk P w K mg base 45 "all_of_norm" ["ring", "bound"] (spD F_all_of_norm) := mk_def A.a_all_of_norm (fun _ _ _ _ _ _ us hl => match us, hl with | [_, _], _ => rfl) fun f fd F => ok_all_of_norm (Fn := F) (T := T) (d_longer_ones := d_longer_ones) (d_by_root := d_by_root) (d_has := d_has) (d_by_own_places := d_by_own_places)
  have d_worth : DefOk P w K mg base 40 "worth" ["numbers", "at"] (spD F_worth) := mk_def A.a_worth (fun _ _ _ _ _ _ us hl => match us, hl with | [_, _], _ => rfl) fun f fd F => ok_worth (Fn := F)
  have d_has_root : DefOk P w K mg base 41 "has_root" ["numbers"] (spD F_has_root) := mk_def A.a_has_root (fun _ _ _ _ _ _ us hl => match us, hl with | [_], _ => rfl) fun f fd F => ok_has_root (Fn := F) (T := T) (Cn := Cn) (d_worth := d_worth)
  have d_are_parts : DefOk P w K mg base 40 "are_parts" ["numbers", "middle", "last"] (spD F_are_parts) := mk_def A.a_are_parts (fun _ _ _ _ _ _ us hl => match us, hl with | [_, _, _], _ => rfl) fun f fd F => ok_are_parts (hN := hN) (hP := hP) (Fn := F) (T := T)
  have d_has_two : DefOk P w K mg base 41 "has_two" ["numbers"] (spD F_has_two) := mk_def A.a_has_two (fun _ _ _ _ _ _ us hl => match us, hl with | [_], _ => rfl) fun f fd F => ok_has_two (Fn := F) (T := T) (Cn := Cn) (d_are_parts := d_are_parts)
  have d_can_be_parted : DefOk P w K mg base 42 "can_be_parted" ["numbers"] (spD F_can_be_parted) := mk_def A.a_can_be_parted (fun _ _ _ _ _ _ us hl => match us, hl with | [_], _ => rfl) fun f fd F => ok_can_be_parted (Fn := F) (T := T) (d_has_root := d_has_root) (d_has_two := d_has_two)
  have d_are_within : DefOk P w K mg base 40 "are_within" ["numbers", "bound"] (spD F_are_within) := mk_def A.a_are_within (fun _ _ _ _ _ _ us hl => match us, hl with | [_, _], _ => rfl) fun f fd F => ok_are_within (Fn := F) (T := T)
  have d_put_ring : DefOk P w K mg base 43 "put_ring" ["desk", "numbers"] (spM C F_put_ring) := mk_def A.a_put_ring (fun _ _ _ _ _ _ us hl => match us, hl with | [_, _], _ => rfl) fun f fd F => ok_put_ring (Fn := F) (T := T) (Cn := Cn) (Dt := Dt) (d_are_within := d_are_within) (d_can_be_parted := d_can_be_parted)
  have d_keep : DefOk P w K mg base 41 "keep" ["desk", "rows"] (spM C F_keep) := mk_def A.a_keep (fun _ _ _ _ _ _ us hl => match us, hl with | [_, _], _ => rfl) fun f fd F => ok_keep (Fn := F) (T := T) (Cn := Cn) (Dt := Dt) (d_norm := d_norm)
  have d_put_ideal : DefOk P w K mg base 45 "put_ideal" ["desk", "numbers"] (spM C F_put_ideal) := mk_def A.a_put_ideal (fun _ _ _ _ _ _ us hl => match us, hl with | [_, _], _ => rfl) fun f fd F => ok_put_ideal (Fn := F) (T := T) (Cn := Cn) (Dt := Dt) (d_are_within := d_are_within) (d_is_nought := d_is_nought) (d_made_of := d_made_of) (d_keep := d_keep)
  have d_made_by : DefOk P w K mg base 46 "made_by" ["desk", "kind", "one", "other"] (spR C F_made_by) := mk_def A.a_made_by (fun _ _ _ _ _ _ us hl => match us, hl with | [_, _, _, _], _ => rfl) fun f fd F => ok_made_by (Fn := F) (Cn := Cn) (Dt := Dt) (d_sum_of := d_sum_of) (d_product_of := d_product_of) (d_in_common := d_in_common) (d_one_by_another := d_one_by_another)
  have d_told_of_two : DefOk P w K mg base 47 "told_of_two" ["desk", "kind", "one", "other"] (spM C F_told_of_two) := mk_def A.a_told_of_two (fun _ _ _ _ _ _ us hl => match us, hl with | [_, _, _, _], _ => rfl) fun f fd F => ok_told_of_two (Fn := F) (T := T) (Cn := Cn) (Dt := Dt) (d_holds := d_holds) (d_made_by := d_made_by) (d_keep := d_keep)
  have d_told : DefOk P w K mg base 40 "told" ["rows"] (spD F_told) := mk_def A.a_told (fun _ _ _ _ _ _ us hl => match us, hl with | [_], _ => rfl) fun f fd F => ok_told (Fn := F)
  have d_told_of_places : DefOk P w K mg base 45 "told_of_places" ["desk", "kind", "rows", "places"] (spR C F_told_of_places) := mk_def A.a_told_of_places (fun _ _ _ _ _ _ us hl => match us, hl with | [_, _, _, _], _ => rfl) fun f fd F => ok_told_of_places (Fn := F) (T := T) (Cn := Cn) (Dt := Dt) (d_are_within := d_are_within) (d_is_nought := d_is_nought) (d_has := d_has) (d_made_of := d_made_of)
  have d_prime : DefOk P w K mg base 44 "prime" ["desk", "rows"] (spR C F_prime) := mk_def A.a_prime (fun _ _ _ _ _ _ us hl => match us, hl with | [_, _], _ => rfl) fun f fd F => ok_prime (Fn := F) (T := T) (Cn := Cn) (Dt := Dt) (d_norm := d_norm) (d_is_prime := d_is_prime)
  have d_every_ideal : DefOk P w K mg base 46 "every_ideal" ["desk", "bound"] (spR C F_every_ideal) := mk_def A.a_every_ideal (fun _ _ _ _ _ _ us hl => match us, hl with | [_, _], _ => rfl) fun f fd F => ok_every_ideal (Fn := F) (T := T) (Cn := Cn) (Dt := Dt) (d_all_of_norm := d_all_of_norm) (d_told := d_told)
  have d_drop : DefOk P w K mg base 40 "drop" ["desk"] (spM C F_drop) := mk_def A.a_drop (fun _ _ _ _ _ _ us hl => match us, hl with | [_], _ => rfl) fun f fd F => ok_drop (Fn := F) (T := T) (Cn := Cn) (Dt := Dt)
  have d_told_of_one : DefOk P w K mg base 46 "told_of_one" ["desk", "kind", "rows", "behind"] (spR C F_told_of_one) := mk_def A.a_told_of_one (fun _ _ _ _ _ _ us hl => match us, hl with | [_, _, _, _], _ => rfl) fun f fd F => ok_told_of_one (Fn := F) (Cn := Cn) (d_told := d_told) (d_norm := d_norm) (d_prime := d_prime) (d_told_of_places := d_told_of_places)
  have d_told_of_ideals : DefOk P w K mg base 48 "told_of_ideals" ["desk", "kind", "one", "behind"] (spM C F_told_of_ideals) := mk_def A.a_told_of_ideals (fun _ _ _ _ _ _ us hl => match us, hl with | [_, _, _, _], _ => rfl) fun f fd F => ok_told_of_ideals (Fn := F) (Cn := Cn) (Dt := Dt) (d_is_there := d_is_there) (d_told_of_two := d_told_of_two) (d_told_of_one := d_told_of_one)
  have d_told_by : DefOk P w K mg base 49 "told_by" ["desk", "kind", "one", "behind"] (spM C F_told_by) := mk_def A.a_told_by (fun _ _ _ _ _ _ us hl => match us, hl with | [_, _, _, _], _ => rfl) fun f fd F => ok_told_by (Fn := F) (Cn := Cn) (d_put_ring := d_put_ring) (d_put_ideal := d_put_ideal) (d_told_of_ideals := d_told_of_ideals) (d_every_ideal := d_every_ideal) (d_drop := d_drop)
  have d_taken : DefOk P w K mg base 40 "taken" ["calls", "at"] (spD (F_taken K)) := mk_def A.a_taken (fun _ _ _ _ _ _ us hl => match us, hl with | [_, _], _ => rfl) fun f fd F => ok_taken (Fn := F) (T := T) (Cn := Cn)
  exact ok_answers (Fn := Fn) (T := T) (Dt := Dt) (d_Desk := d_Desk) (d_taken := d_taken) (d_told_by := d_told_by)
end
theorem at_def {K : PySem.W.Frag} {h : Heap} {mg : Str → Option Value} {x : Str} {st : Stmt} {f : Addr} {oc : Value} {od an : Option Addr} {sl : Array (Option Value)} {kV dc pm cd ct : Value} (X : K.In h) (G : h.Ns mainGlobals mg)
    (a : PySem.W.nsIn K mainGlobals x = some (some (.ref f))) (l : K.lookup f = some ⟨oc, od, .func (PySem.W.fnOf x x (defArgs st) (defBody st) (defScope st) .none kV dc pm an cd ct), sl⟩) (c : PySem.W.codeIn K cd x = true) (k : PySem.W.keepIn K (.ref f) = true) : DefAt K mg x st :=
  ⟨f, _, fun_mk l c k, PySem.W.mg_of X G a, k⟩
theorem at_tup {K : PySem.W.Frag} {h : Heap} {mg : Str → Option Value} {x : Str} {a : Addr} {d : Option Addr} {its : Array Value} {n : Nat} {sl : Array (Option Value)} {ns : List Int} (X : K.In h) (G : h.Ns mainGlobals mg) (e : PySem.W.nsIn K mainGlobals x = some (some (.ref a)))
    (l : K.lookup a = some ⟨.type "tuple", d, .seq its n, sl⟩) (v : Vals (ns.map V.int) its.toList) (hz : ns.length ≤ 1000) : CT K mg x ns := by
  refine ⟨a, PySem.W.mg_of X G e, fun H => .inr ⟨_, its, n, l, rfl, rfl, ?_, v⟩⟩
  have e1 := v.length
  have e2 : its.size = ns.length := by
    rw [List.length_map] at e1
    exact e1.symm
  rw [e2]
  exact Nat.le_trans hz (by decide)
theorem all_mk {K : PySem.W.Frag} {h : Heap} {mg : Str → Option Value} {C f0 f1 f2 f3 f4 f5 f6 f7 f8 f9 f10 f11 f12 f13 f14 f15 f16 f17 f18 f19 f20 f21 f22 f23 f24 f25 f26 f27 f28 f29 f30 f31 f32 f33 f34 f35 f36 f37 f38 f39 f40 f41 f42 f43 f44 f45 f46 f47 f48 f49 f50 f51 ta0 ta1 ta2 : Addr} {od0 od1 od2 od3 od4 od5 od6 od7 od8 od9 od10 od11 od12 od13 od14 od15 od16 od17 od18 od19 od20 od21 od22 od23 od24 od25 od26 od27 od28 od29 od30 od31 od32 od33 od34 od35 od36 od37 od38 od39 od40 od41 od42 od43 od44 od45 od46 od47 od48 od49 od50 od51 an0 an1 an2 an3 an4 an5 an6 an7 an8 an9 an10 an11 an12 an13 an14 an15 an16 an17 an18 an19 an20 an21 an22 an23 an24 an25 an26 an27 an28 an29 an30 an31 an32 an33 an34 an35 an36 an37 an38 an39 an40 an41 an42 an43 an44 an45 an46 an47 an48 an49 an50 an51 td0 td1 td2 : Option Addr} {sl0 sl1 sl2 sl3 sl4 sl5 sl6 sl7 sl8 sl9 sl10 sl11 sl12 sl13 sl14 sl15 sl16 sl17 sl18 sl19 sl20 sl21 sl22 sl23 sl24 sl25 sl26 sl27 sl28 sl29 sl30 sl31 sl32 sl33 sl34 sl35 sl36 sl37 sl38 sl39 sl40 sl41 sl42 sl43 sl44 sl45 sl46 sl47 sl48 sl49 sl50 sl51 ts0 ts1 ts2 : Array (Option Value)} {oc0 oc1 oc2 oc3 oc4 oc5 oc6 oc7 oc8 oc9 oc10 oc11 oc12 oc13 oc14 oc15 oc16 oc17 oc18 oc19 oc20 oc21 oc22 oc23 oc24 oc25 oc26 oc27 oc28 oc29 oc30 oc31 oc32 oc33 oc34 oc35 oc36 oc37 oc38 oc39 oc40 oc41 oc42 oc43 oc44 oc45 oc46 oc47 oc48 oc49 oc50 oc51 kV0 kV1 kV2 kV3 kV4 kV5 kV6 kV7 kV8 kV9 kV10 kV11 kV12 kV13 kV14 kV15 kV16 kV17 kV18 kV19 kV20 kV21 kV22 kV23 kV24 kV25 kV26 kV27 kV28 kV29 kV30 kV31 kV32 kV33 kV34 kV35 kV36 kV37 kV38 kV39 kV40 kV41 kV42 kV43 kV44 kV45 kV46 kV47 kV48 kV49 kV50 kV51 dc0 dc1 dc2 dc3 dc4 dc5 dc6 dc7 dc8 dc9 dc10 dc11 dc12 dc13 dc14 dc15 dc16 dc17 dc18 dc19 dc20 dc21 dc22 dc23 dc24 dc25 dc26 dc27 dc28 dc29 dc30 dc31 dc32 dc33 dc34 dc35 dc36 dc37 dc38 dc39 dc40 dc41 dc42 dc43 dc44 dc45 dc46 dc47 dc48 dc49 dc50 dc51 pm0 pm1 pm2 pm3 pm4 pm5 pm6 pm7 pm8 pm9 pm10 pm11 pm12 pm13 pm14 pm15 pm16 pm17 pm18 pm19 pm20 pm21 pm22 pm23 pm24 pm25 pm26 pm27 pm28 pm29 pm30 pm31 pm32 pm33 pm34 pm35 pm36 pm37 pm38 pm39 pm40 pm41 pm42 pm43 pm44 pm45 pm46 pm47 pm48 pm49 pm50 pm51 cd0 cd1 cd2 cd3 cd4 cd5 cd6 cd7 cd8 cd9 cd10 cd11 cd12 cd13 cd14 cd15 cd16 cd17 cd18 cd19 cd20 cd21 cd22 cd23 cd24 cd25 cd26 cd27 cd28 cd29 cd30 cd31 cd32 cd33 cd34 cd35 cd36 cd37 cd38 cd39 cd40 cd41 cd42 cd43 cd44 cd45 cd46 cd47 cd48 cd49 cd50 cd51 ct0 ct1 ct2 ct3 ct4 ct5 ct6 ct7 ct8 ct9 ct10 ct11 ct12 ct13 ct14 ct15 ct16 ct17 ct18 ct19 ct20 ct21 ct22 ct23 ct24 ct25 ct26 ct27 ct28 ct29 ct30 ct31 ct32 ct33 ct34 ct35 ct36 ct37 ct38 ct39 ct40 ct41 ct42 ct43 ct44 ct45 ct46 ct47 ct48 ct49 ct50 ct51 : Value} {i0 i1 i2 i3 i4 i5 i6 i7 i8 i9 i10 i11 i12 i13 i14 i15 i16 i17 i18 i19 i20 i21 i22 i23 i24 i25 i26 i27 i28 i29 tn0 tn1 tn2 : Nat} {ti0 ti1 ti2 : Array Value} (X : K.In h) (G : h.Ns mainGlobals mg)
    (a0 : PySem.W.nsIn K mainGlobals "by_root" = some (some (.ref f0))) (l0 : K.lookup f0 = some ⟨oc0, od0, .func (PySem.W.fnOf "by_root" "by_root" (defArgs s_by_root) (defBody s_by_root) (defScope s_by_root) .none kV0 dc0 pm0 an0 cd0 ct0), sl0⟩) (c0 : PySem.W.codeIn K cd0 "by_root" = true) (k0 : PySem.W.keepIn K (.ref f0) = true)
    (a1 : PySem.W.nsIn K mainGlobals "summed" = some (some (.ref f1))) (l1 : K.lookup f1 = some ⟨oc1, od1, .func (PySem.W.fnOf "summed" "summed" (defArgs s_summed) (defBody s_summed) (defScope s_summed) .none kV1 dc1 pm1 an1 cd1 ct1), sl1⟩) (c1 : PySem.W.codeIn K cd1 "summed" = true) (k1 : PySem.W.keepIn K (.ref f1) = true)
    (a2 : PySem.W.nsIn K mainGlobals "is_nought" = some (some (.ref f2))) (l2 : K.lookup f2 = some ⟨oc2, od2, .func (PySem.W.fnOf "is_nought" "is_nought" (defArgs s_is_nought) (defBody s_is_nought) (defScope s_is_nought) .none kV2 dc2 pm2 an2 cd2 ct2), sl2⟩) (c2 : PySem.W.codeIn K cd2 "is_nought" = true) (k2 : PySem.W.keepIn K (.ref f2) = true)
    (a3 : PySem.W.nsIn K mainGlobals "multiplied" = some (some (.ref f3))) (l3 : K.lookup f3 = some ⟨oc3, od3, .func (PySem.W.fnOf "multiplied" "multiplied" (defArgs s_multiplied) (defBody s_multiplied) (defScope s_multiplied) .none kV3 dc3 pm3 an3 cd3 ct3), sl3⟩) (c3 : PySem.W.codeIn K cd3 "multiplied" = true) (k3 : PySem.W.keepIn K (.ref f3) = true)
    (a4 : PySem.W.nsIn K mainGlobals "least_at" = some (some (.ref f4))) (l4 : K.lookup f4 = some ⟨oc4, od4, .func (PySem.W.fnOf "least_at" "least_at" (defArgs s_least_at) (defBody s_least_at) (defScope s_least_at) .none kV4 dc4 pm4 an4 cd4 ct4), sl4⟩) (c4 : PySem.W.codeIn K cd4 "least_at" = true) (k4 : PySem.W.keepIn K (.ref f4) = true)
    (a5 : PySem.W.nsIn K mainGlobals "led_down" = some (some (.ref f5))) (l5 : K.lookup f5 = some ⟨oc5, od5, .func (PySem.W.fnOf "led_down" "led_down" (defArgs s_led_down) (defBody s_led_down) (defScope s_led_down) .none kV5 dc5 pm5 an5 cd5 ct5), sl5⟩) (c5 : PySem.W.codeIn K cd5 "led_down" = true) (k5 : PySem.W.keepIn K (.ref f5) = true)
    (a6 : PySem.W.nsIn K mainGlobals "parted" = some (some (.ref f6))) (l6 : K.lookup f6 = some ⟨oc6, od6, .func (PySem.W.fnOf "parted" "parted" (defArgs s_parted) (defBody s_parted) (defScope s_parted) .none kV6 dc6 pm6 an6 cd6 ct6), sl6⟩) (c6 : PySem.W.codeIn K cd6 "parted" = true) (k6 : PySem.W.keepIn K (.ref f6) = true)
    (a7 : PySem.W.nsIn K mainGlobals "turned_up" = some (some (.ref f7))) (l7 : K.lookup f7 = some ⟨oc7, od7, .func (PySem.W.fnOf "turned_up" "turned_up" (defArgs s_turned_up) (defBody s_turned_up) (defScope s_turned_up) .none kV7 dc7 pm7 an7 cd7 ct7), sl7⟩) (c7 : PySem.W.codeIn K cd7 "turned_up" = true) (k7 : PySem.W.keepIn K (.ref f7) = true)
    (a8 : PySem.W.nsIn K mainGlobals "brought_down" = some (some (.ref f8))) (l8 : K.lookup f8 = some ⟨oc8, od8, .func (PySem.W.fnOf "brought_down" "brought_down" (defArgs s_brought_down) (defBody s_brought_down) (defScope s_brought_down) .none kV8 dc8 pm8 an8 cd8 ct8), sl8⟩) (c8 : PySem.W.codeIn K cd8 "brought_down" = true) (k8 : PySem.W.keepIn K (.ref f8) = true)
    (a9 : PySem.W.nsIn K mainGlobals "rows_of" = some (some (.ref f9))) (l9 : K.lookup f9 = some ⟨oc9, od9, .func (PySem.W.fnOf "rows_of" "rows_of" (defArgs s_rows_of) (defBody s_rows_of) (defScope s_rows_of) .none kV9 dc9 pm9 an9 cd9 ct9), sl9⟩) (c9 : PySem.W.codeIn K cd9 "rows_of" = true) (k9 : PySem.W.keepIn K (.ref f9) = true)
    (a10 : PySem.W.nsIn K mainGlobals "has" = some (some (.ref f10))) (l10 : K.lookup f10 = some ⟨oc10, od10, .func (PySem.W.fnOf "has" "has" (defArgs s_has) (defBody s_has) (defScope s_has) .none kV10 dc10 pm10 an10 cd10 ct10), sl10⟩) (c10 : PySem.W.codeIn K cd10 "has" = true) (k10 : PySem.W.keepIn K (.ref f10) = true)
    (a11 : PySem.W.nsIn K mainGlobals "in_both" = some (some (.ref f11))) (l11 : K.lookup f11 = some ⟨oc11, od11, .func (PySem.W.fnOf "in_both" "in_both" (defArgs s_in_both) (defBody s_in_both) (defScope s_in_both) .none kV11 dc11 pm11 an11 cd11 ct11), sl11⟩) (c11 : PySem.W.codeIn K cd11 "in_both" = true) (k11 : PySem.W.keepIn K (.ref f11) = true)
    (a12 : PySem.W.nsIn K mainGlobals "with_powers" = some (some (.ref f12))) (l12 : K.lookup f12 = some ⟨oc12, od12, .func (PySem.W.fnOf "with_powers" "with_powers" (defArgs s_with_powers) (defBody s_with_powers) (defScope s_with_powers) .none kV12 dc12 pm12 an12 cd12 ct12), sl12⟩) (c12 : PySem.W.codeIn K cd12 "with_powers" = true) (k12 : PySem.W.keepIn K (.ref f12) = true)
    (a13 : PySem.W.nsIn K mainGlobals "made_of" = some (some (.ref f13))) (l13 : K.lookup f13 = some ⟨oc13, od13, .func (PySem.W.fnOf "made_of" "made_of" (defArgs s_made_of) (defBody s_made_of) (defScope s_made_of) .none kV13 dc13 pm13 an13 cd13 ct13), sl13⟩) (c13 : PySem.W.codeIn K cd13 "made_of" = true) (k13 : PySem.W.keepIn K (.ref f13) = true)
    (a14 : PySem.W.nsIn K mainGlobals "sum_of" = some (some (.ref f14))) (l14 : K.lookup f14 = some ⟨oc14, od14, .func (PySem.W.fnOf "sum_of" "sum_of" (defArgs s_sum_of) (defBody s_sum_of) (defScope s_sum_of) .none kV14 dc14 pm14 an14 cd14 ct14), sl14⟩) (c14 : PySem.W.codeIn K cd14 "sum_of" = true) (k14 : PySem.W.keepIn K (.ref f14) = true)
    (a15 : PySem.W.nsIn K mainGlobals "product_of" = some (some (.ref f15))) (l15 : K.lookup f15 = some ⟨oc15, od15, .func (PySem.W.fnOf "product_of" "product_of" (defArgs s_product_of) (defBody s_product_of) (defScope s_product_of) .none kV15 dc15 pm15 an15 cd15 ct15), sl15⟩) (c15 : PySem.W.codeIn K cd15 "product_of" = true) (k15 : PySem.W.keepIn K (.ref f15) = true)
    (a16 : PySem.W.nsIn K mainGlobals "in_common" = some (some (.ref f16))) (l16 : K.lookup f16 = some ⟨oc16, od16, .func (PySem.W.fnOf "in_common" "in_common" (defArgs s_in_common) (defBody s_in_common) (defScope s_in_common) .none kV16 dc16 pm16 an16 cd16 ct16), sl16⟩) (c16 : PySem.W.codeIn K cd16 "in_common" = true) (k16 : PySem.W.keepIn K (.ref f16) = true)
    (a17 : PySem.W.nsIn K mainGlobals "whole" = some (some (.ref f17))) (l17 : K.lookup f17 = some ⟨oc17, od17, .func (PySem.W.fnOf "whole" "whole" (defArgs s_whole) (defBody s_whole) (defScope s_whole) .none kV17 dc17 pm17 an17 cd17 ct17), sl17⟩) (c17 : PySem.W.codeIn K cd17 "whole" = true) (k17 : PySem.W.keepIn K (.ref f17) = true)
    (a18 : PySem.W.nsIn K mainGlobals "one_by_another" = some (some (.ref f18))) (l18 : K.lookup f18 = some ⟨oc18, od18, .func (PySem.W.fnOf "one_by_another" "one_by_another" (defArgs s_one_by_another) (defBody s_one_by_another) (defScope s_one_by_another) .none kV18 dc18 pm18 an18 cd18 ct18), sl18⟩) (c18 : PySem.W.codeIn K cd18 "one_by_another" = true) (k18 : PySem.W.keepIn K (.ref f18) = true)
    (a19 : PySem.W.nsIn K mainGlobals "holds" = some (some (.ref f19))) (l19 : K.lookup f19 = some ⟨oc19, od19, .func (PySem.W.fnOf "holds" "holds" (defArgs s_holds) (defBody s_holds) (defScope s_holds) .none kV19 dc19 pm19 an19 cd19 ct19), sl19⟩) (c19 : PySem.W.codeIn K cd19 "holds" = true) (k19 : PySem.W.keepIn K (.ref f19) = true)
    (a20 : PySem.W.nsIn K mainGlobals "norm" = some (some (.ref f20))) (l20 : K.lookup f20 = some ⟨oc20, od20, .func (PySem.W.fnOf "norm" "norm" (defArgs s_norm) (defBody s_norm) (defScope s_norm) .none kV20 dc20 pm20 an20 cd20 ct20), sl20⟩) (c20 : PySem.W.codeIn K cd20 "norm" = true) (k20 : PySem.W.keepIn K (.ref f20) = true)
    (a21 : PySem.W.nsIn K mainGlobals "spread" = some (some (.ref f21))) (l21 : K.lookup f21 = some ⟨oc21, od21, .func (PySem.W.fnOf "spread" "spread" (defArgs s_spread) (defBody s_spread) (defScope s_spread) .none kV21 dc21 pm21 an21 cd21 ct21), sl21⟩) (c21 : PySem.W.codeIn K cd21 "spread" = true) (k21 : PySem.W.keepIn K (.ref f21) = true)
    (a22 : PySem.W.nsIn K mainGlobals "classes" = some (some (.ref f22))) (l22 : K.lookup f22 = some ⟨oc22, od22, .func (PySem.W.fnOf "classes" "classes" (defArgs s_classes) (defBody s_classes) (defScope s_classes) .none kV22 dc22 pm22 an22 cd22 ct22), sl22⟩) (c22 : PySem.W.codeIn K cd22 "classes" = true) (k22 : PySem.W.keepIn K (.ref f22) = true)
    (a23 : PySem.W.nsIn K mainGlobals "is_prime" = some (some (.ref f23))) (l23 : K.lookup f23 = some ⟨oc23, od23, .func (PySem.W.fnOf "is_prime" "is_prime" (defArgs s_is_prime) (defBody s_is_prime) (defScope s_is_prime) .none kV23 dc23 pm23 an23 cd23 ct23), sl23⟩) (c23 : PySem.W.codeIn K cd23 "is_prime" = true) (k23 : PySem.W.keepIn K (.ref f23) = true)
    (a24 : PySem.W.nsIn K mainGlobals "next_rows" = some (some (.ref f24))) (l24 : K.lookup f24 = some ⟨oc24, od24, .func (PySem.W.fnOf "next_rows" "next_rows" (defArgs s_next_rows) (defBody s_next_rows) (defScope s_next_rows) .none kV24 dc24 pm24 an24 cd24 ct24), sl24⟩) (c24 : PySem.W.codeIn K cd24 "next_rows" = true) (k24 : PySem.W.keepIn K (.ref f24) = true)
    (a25 : PySem.W.nsIn K mainGlobals "is_closed" = some (some (.ref f25))) (l25 : K.lookup f25 = some ⟨oc25, od25, .func (PySem.W.fnOf "is_closed" "is_closed" (defArgs s_is_closed) (defBody s_is_closed) (defScope s_is_closed) .none kV25 dc25 pm25 an25 cd25 ct25), sl25⟩) (c25 : PySem.W.codeIn K cd25 "is_closed" = true) (k25 : PySem.W.keepIn K (.ref f25) = true)
    (a26 : PySem.W.nsIn K mainGlobals "longer_ones" = some (some (.ref f26))) (l26 : K.lookup f26 = some ⟨oc26, od26, .func (PySem.W.fnOf "longer_ones" "longer_ones" (defArgs s_longer_ones) (defBody s_longer_ones) (defScope s_longer_ones) .none kV26 dc26 pm26 an26 cd26 ct26), sl26⟩) (c26 : PySem.W.codeIn K cd26 "longer_ones" = true) (k26 : PySem.W.keepIn K (.ref f26) = true)
    (a27 : PySem.W.nsIn K mainGlobals "by_own_places" = some (some (.ref f27))) (l27 : K.lookup f27 = some ⟨oc27, od27, .func (PySem.W.fnOf "by_own_places" "by_own_places" (defArgs s_by_own_places) (defBody s_by_own_places) (defScope s_by_own_places) .none kV27 dc27 pm27 an27 cd27 ct27), sl27⟩) (c27 : PySem.W.codeIn K cd27 "by_own_places" = true) (k27 : PySem.W.keepIn K (.ref f27) = true)
    (a28 : PySem.W.nsIn K mainGlobals "all_of_norm" = some (some (.ref f28))) (l28 : K.lookup f28 = some ⟨oc28, od28, .func (PySem.W.fnOf "all_of_norm" "all_of_norm" (defArgs s_all_of_norm) (defBody s_all_of_norm) (defScope s_all_of_norm) .none kV28 dc28 pm28 an28 cd28 ct28), sl28⟩) (c28 : PySem.W.codeIn K cd28 "all_of_norm" = true) (k28 : PySem.W.keepIn K (.ref f28) = true)
    (a29 : PySem.W.nsIn K mainGlobals "worth" = some (some (.ref f29))) (l29 : K.lookup f29 = some ⟨oc29, od29, .func (PySem.W.fnOf "worth" "worth" (defArgs s_worth) (defBody s_worth) (defScope s_worth) .none kV29 dc29 pm29 an29 cd29 ct29), sl29⟩) (c29 : PySem.W.codeIn K cd29 "worth" = true) (k29 : PySem.W.keepIn K (.ref f29) = true)
    (a30 : PySem.W.nsIn K mainGlobals "has_root" = some (some (.ref f30))) (l30 : K.lookup f30 = some ⟨oc30, od30, .func (PySem.W.fnOf "has_root" "has_root" (defArgs s_has_root) (defBody s_has_root) (defScope s_has_root) .none kV30 dc30 pm30 an30 cd30 ct30), sl30⟩) (c30 : PySem.W.codeIn K cd30 "has_root" = true) (k30 : PySem.W.keepIn K (.ref f30) = true)
    (a31 : PySem.W.nsIn K mainGlobals "are_parts" = some (some (.ref f31))) (l31 : K.lookup f31 = some ⟨oc31, od31, .func (PySem.W.fnOf "are_parts" "are_parts" (defArgs s_are_parts) (defBody s_are_parts) (defScope s_are_parts) .none kV31 dc31 pm31 an31 cd31 ct31), sl31⟩) (c31 : PySem.W.codeIn K cd31 "are_parts" = true) (k31 : PySem.W.keepIn K (.ref f31) = true)
    (a32 : PySem.W.nsIn K mainGlobals "has_two" = some (some (.ref f32))) (l32 : K.lookup f32 = some ⟨oc32, od32, .func (PySem.W.fnOf "has_two" "has_two" (defArgs s_has_two) (defBody s_has_two) (defScope s_has_two) .none kV32 dc32 pm32 an32 cd32 ct32), sl32⟩) (c32 : PySem.W.codeIn K cd32 "has_two" = true) (k32 : PySem.W.keepIn K (.ref f32) = true)
    (a33 : PySem.W.nsIn K mainGlobals "can_be_parted" = some (some (.ref f33))) (l33 : K.lookup f33 = some ⟨oc33, od33, .func (PySem.W.fnOf "can_be_parted" "can_be_parted" (defArgs s_can_be_parted) (defBody s_can_be_parted) (defScope s_can_be_parted) .none kV33 dc33 pm33 an33 cd33 ct33), sl33⟩) (c33 : PySem.W.codeIn K cd33 "can_be_parted" = true) (k33 : PySem.W.keepIn K (.ref f33) = true)
    (a34 : PySem.W.nsIn K mainGlobals "are_within" = some (some (.ref f34))) (l34 : K.lookup f34 = some ⟨oc34, od34, .func (PySem.W.fnOf "are_within" "are_within" (defArgs s_are_within) (defBody s_are_within) (defScope s_are_within) .none kV34 dc34 pm34 an34 cd34 ct34), sl34⟩) (c34 : PySem.W.codeIn K cd34 "are_within" = true) (k34 : PySem.W.keepIn K (.ref f34) = true)
    (a35 : PySem.W.nsIn K mainGlobals "put_ring" = some (some (.ref f35))) (l35 : K.lookup f35 = some ⟨oc35, od35, .func (PySem.W.fnOf "put_ring" "put_ring" (defArgs s_put_ring) (defBody s_put_ring) (defScope s_put_ring) .none kV35 dc35 pm35 an35 cd35 ct35), sl35⟩) (c35 : PySem.W.codeIn K cd35 "put_ring" = true) (k35 : PySem.W.keepIn K (.ref f35) = true)
    (a36 : PySem.W.nsIn K mainGlobals "keep" = some (some (.ref f36))) (l36 : K.lookup f36 = some ⟨oc36, od36, .func (PySem.W.fnOf "keep" "keep" (defArgs s_keep) (defBody s_keep) (defScope s_keep) .none kV36 dc36 pm36 an36 cd36 ct36), sl36⟩) (c36 : PySem.W.codeIn K cd36 "keep" = true) (k36 : PySem.W.keepIn K (.ref f36) = true)
    (a37 : PySem.W.nsIn K mainGlobals "put_ideal" = some (some (.ref f37))) (l37 : K.lookup f37 = some ⟨oc37, od37, .func (PySem.W.fnOf "put_ideal" "put_ideal" (defArgs s_put_ideal) (defBody s_put_ideal) (defScope s_put_ideal) .none kV37 dc37 pm37 an37 cd37 ct37), sl37⟩) (c37 : PySem.W.codeIn K cd37 "put_ideal" = true) (k37 : PySem.W.keepIn K (.ref f37) = true)
    (a38 : PySem.W.nsIn K mainGlobals "made_by" = some (some (.ref f38))) (l38 : K.lookup f38 = some ⟨oc38, od38, .func (PySem.W.fnOf "made_by" "made_by" (defArgs s_made_by) (defBody s_made_by) (defScope s_made_by) .none kV38 dc38 pm38 an38 cd38 ct38), sl38⟩) (c38 : PySem.W.codeIn K cd38 "made_by" = true) (k38 : PySem.W.keepIn K (.ref f38) = true)
    (a39 : PySem.W.nsIn K mainGlobals "told_of_two" = some (some (.ref f39))) (l39 : K.lookup f39 = some ⟨oc39, od39, .func (PySem.W.fnOf "told_of_two" "told_of_two" (defArgs s_told_of_two) (defBody s_told_of_two) (defScope s_told_of_two) .none kV39 dc39 pm39 an39 cd39 ct39), sl39⟩) (c39 : PySem.W.codeIn K cd39 "told_of_two" = true) (k39 : PySem.W.keepIn K (.ref f39) = true)
    (a40 : PySem.W.nsIn K mainGlobals "told" = some (some (.ref f40))) (l40 : K.lookup f40 = some ⟨oc40, od40, .func (PySem.W.fnOf "told" "told" (defArgs s_told) (defBody s_told) (defScope s_told) .none kV40 dc40 pm40 an40 cd40 ct40), sl40⟩) (c40 : PySem.W.codeIn K cd40 "told" = true) (k40 : PySem.W.keepIn K (.ref f40) = true)
    (a41 : PySem.W.nsIn K mainGlobals "told_of_places" = some (some (.ref f41))) (l41 : K.lookup f41 = some ⟨oc41, od41, .func (PySem.W.fnOf "told_of_places" "told_of_places" (defArgs s_told_of_places) (defBody s_told_of_places) (defScope s_told_of_places) .none kV41 dc41 pm41 an41 cd41 ct41), sl41⟩) (c41 : PySem.W.codeIn K cd41 "told_of_places" = true) (k41 : PySem.W.keepIn K (.ref f41) = true)
    (a42 : PySem.W.nsIn K mainGlobals "prime" = some (some (.ref f42))) (l42 : K.lookup f42 = some ⟨oc42, od42, .func (PySem.W.fnOf "prime" "prime" (defArgs s_prime) (defBody s_prime) (defScope s_prime) .none kV42 dc42 pm42 an42 cd42 ct42), sl42⟩) (c42 : PySem.W.codeIn K cd42 "prime" = true) (k42 : PySem.W.keepIn K (.ref f42) = true)
    (a43 : PySem.W.nsIn K mainGlobals "every_ideal" = some (some (.ref f43))) (l43 : K.lookup f43 = some ⟨oc43, od43, .func (PySem.W.fnOf "every_ideal" "every_ideal" (defArgs s_every_ideal) (defBody s_every_ideal) (defScope s_every_ideal) .none kV43 dc43 pm43 an43 cd43 ct43), sl43⟩) (c43 : PySem.W.codeIn K cd43 "every_ideal" = true) (k43 : PySem.W.keepIn K (.ref f43) = true)
    (a44 : PySem.W.nsIn K mainGlobals "drop" = some (some (.ref f44))) (l44 : K.lookup f44 = some ⟨oc44, od44, .func (PySem.W.fnOf "drop" "drop" (defArgs s_drop) (defBody s_drop) (defScope s_drop) .none kV44 dc44 pm44 an44 cd44 ct44), sl44⟩) (c44 : PySem.W.codeIn K cd44 "drop" = true) (k44 : PySem.W.keepIn K (.ref f44) = true)
    (a45 : PySem.W.nsIn K mainGlobals "told_of_one" = some (some (.ref f45))) (l45 : K.lookup f45 = some ⟨oc45, od45, .func (PySem.W.fnOf "told_of_one" "told_of_one" (defArgs s_told_of_one) (defBody s_told_of_one) (defScope s_told_of_one) .none kV45 dc45 pm45 an45 cd45 ct45), sl45⟩) (c45 : PySem.W.codeIn K cd45 "told_of_one" = true) (k45 : PySem.W.keepIn K (.ref f45) = true)
    (a46 : PySem.W.nsIn K mainGlobals "told_of_ideals" = some (some (.ref f46))) (l46 : K.lookup f46 = some ⟨oc46, od46, .func (PySem.W.fnOf "told_of_ideals" "told_of_ideals" (defArgs s_told_of_ideals) (defBody s_told_of_ideals) (defScope s_told_of_ideals) .none kV46 dc46 pm46 an46 cd46 ct46), sl46⟩) (c46 : PySem.W.codeIn K cd46 "told_of_ideals" = true) (k46 : PySem.W.keepIn K (.ref f46) = true)
    (a47 : PySem.W.nsIn K mainGlobals "told_by" = some (some (.ref f47))) (l47 : K.lookup f47 = some ⟨oc47, od47, .func (PySem.W.fnOf "told_by" "told_by" (defArgs s_told_by) (defBody s_told_by) (defScope s_told_by) .none kV47 dc47 pm47 an47 cd47 ct47), sl47⟩) (c47 : PySem.W.codeIn K cd47 "told_by" = true) (k47 : PySem.W.keepIn K (.ref f47) = true)
    (a48 : PySem.W.nsIn K mainGlobals "taken" = some (some (.ref f48))) (l48 : K.lookup f48 = some ⟨oc48, od48, .func (PySem.W.fnOf "taken" "taken" (defArgs s_taken) (defBody s_taken) (defScope s_taken) .none kV48 dc48 pm48 an48 cd48 ct48), sl48⟩) (c48 : PySem.W.codeIn K cd48 "taken" = true) (k48 : PySem.W.keepIn K (.ref f48) = true)
    (a49 : PySem.W.nsIn K mainGlobals "answers" = some (some (.ref f49))) (l49 : K.lookup f49 = some ⟨oc49, od49, .func (PySem.W.fnOf "answers" "answers" (defArgs s_answers) (defBody s_answers) (defScope s_answers) .none kV49 dc49 pm49 an49 cd49 ct49), sl49⟩) (c49 : PySem.W.codeIn K cd49 "answers" = true) (k49 : PySem.W.keepIn K (.ref f49) = true)
    (a50 : PySem.W.findIn K (.ref C) "__init__" = some (some (.ref f50))) (n50 : PySem.W.isFn K (.ref f50) = true) (l50 : K.lookup f50 = some ⟨oc50, od50, .func (PySem.W.fnOf "__init__" "Desk.__init__" (defArgs s_init) (defBody s_init) (defScope s_init) .none kV50 dc50 pm50 an50 cd50 ct50), sl50⟩) (c50 : PySem.W.codeIn K cd50 "Desk.__init__" = true) (k50 : PySem.W.keepIn K (.ref f50) = true)
    (a51 : PySem.W.findIn K (.ref C) "is_there" = some (some (.ref f51))) (n51 : PySem.W.isFn K (.ref f51) = true) (l51 : K.lookup f51 = some ⟨oc51, od51, .func (PySem.W.fnOf "is_there" "Desk.is_there" (defArgs s_is_there) (defBody s_is_there) (defScope s_is_there) .none kV51 dc51 pm51 an51 cd51 ct51), sl51⟩) (c51 : PySem.W.codeIn K cd51 "Desk.is_there" = true) (k51 : PySem.W.keepIn K (.ref f51) = true)
    (v0 : PySem.W.nsIn K mainGlobals "MOST_ROOT" = some (some (.int 20 i0)))
    (v1 : PySem.W.nsIn K mainGlobals "MOST_MIDDLE" = some (some (.int 42 i1)))
    (v2 : PySem.W.nsIn K mainGlobals "WRONG" = some (some (.int (-1) i2)))
    (v3 : PySem.W.nsIn K mainGlobals "NO_IDEAL" = some (some (.int (-2) i3)))
    (v4 : PySem.W.nsIn K mainGlobals "NOT_SO" = some (some (.int (-3) i4)))
    (v5 : PySem.W.nsIn K mainGlobals "NOTHING" = some (some (.int (-4) i5)))
    (v6 : PySem.W.nsIn K mainGlobals "FULL" = some (some (.int (-5) i6)))
    (v7 : PySem.W.nsIn K mainGlobals "TOO_GREAT" = some (some (.int (-8) i7)))
    (v8 : PySem.W.nsIn K mainGlobals "TOO_WIDE" = some (some (.int (-9) i8)))
    (v9 : PySem.W.nsIn K mainGlobals "LEAST_DEGREE" = some (some (.int 2 i9)))
    (v10 : PySem.W.nsIn K mainGlobals "MOST_DEGREE" = some (some (.int 4 i10)))
    (v11 : PySem.W.nsIn K mainGlobals "MOST_COEFFICIENT" = some (some (.int 20 i11)))
    (v12 : PySem.W.nsIn K mainGlobals "MOST_PLACE" = some (some (.int 100 i12)))
    (v13 : PySem.W.nsIn K mainGlobals "MOST_NUMBERS" = some (some (.int 3 i13)))
    (v14 : PySem.W.nsIn K mainGlobals "MOST_KEPT" = some (some (.int 8 i14)))
    (v15 : PySem.W.nsIn K mainGlobals "MOST_NORM" = some (some (.int 1000000000000 i15)))
    (v16 : PySem.W.nsIn K mainGlobals "MOST_PRIME" = some (some (.int 200 i16)))
    (v17 : PySem.W.nsIn K mainGlobals "MOST_ALL" = some (some (.int 30 i17)))
    (v18 : PySem.W.nsIn K mainGlobals "RING" = some (some (.int 0 i18)))
    (v19 : PySem.W.nsIn K mainGlobals "IDEAL" = some (some (.int 1 i19)))
    (v20 : PySem.W.nsIn K mainGlobals "SUM" = some (some (.int 2 i20)))
    (v21 : PySem.W.nsIn K mainGlobals "PRODUCT" = some (some (.int 3 i21)))
    (v22 : PySem.W.nsIn K mainGlobals "COMMON" = some (some (.int 4 i22)))
    (v23 : PySem.W.nsIn K mainGlobals "BY" = some (some (.int 5 i23)))
    (v24 : PySem.W.nsIn K mainGlobals "TOLD" = some (some (.int 6 i24)))
    (v25 : PySem.W.nsIn K mainGlobals "NORM" = some (some (.int 7 i25)))
    (v26 : PySem.W.nsIn K mainGlobals "HAS" = some (some (.int 8 i26)))
    (v27 : PySem.W.nsIn K mainGlobals "HOLDS" = some (some (.int 10 i27)))
    (v28 : PySem.W.nsIn K mainGlobals "PRIME" = some (some (.int 11 i28)))
    (v29 : PySem.W.nsIn K mainGlobals "ALL" = some (some (.int 12 i29)))
    (tA0 : PySem.W.nsIn K mainGlobals "NUMBERS" = some (some (.ref ta0))) (tL0 : K.lookup ta0 = some ⟨.type "tuple", td0, .seq ti0 tn0, ts0⟩) (tV0 : Vals (([0, 0, 2, 2, 2, 2, 1, 1, 1, 1, 2, 1, 1, 0] : List Int).map V.int) ti0.toList)
    (tA1 : PySem.W.nsIn K mainGlobals "ROWS" = some (some (.ref ta1))) (tL1 : K.lookup ta1 = some ⟨.type "tuple", td1, .seq ti1 tn1, ts1⟩) (tV1 : Vals (([1, 1, 0, 0, 0, 0, 0, 0, 1, 1, 0, 0, 0, 0] : List Int).map V.int) ti1.toList)
    (tA2 : PySem.W.nsIn K mainGlobals "OF_TWO" = some (some (.ref ta2))) (tL2 : K.lookup ta2 = some ⟨.type "tuple", td2, .seq ti2 tn2, ts2⟩) (tV2 : Vals (([2, 3, 4, 5, 10] : List Int).map V.int) ti2.toList)
    (b0 : PySem.W.nsIn K mainGlobals "len" = some none)
    (b1 : PySem.W.nsIn K mainGlobals "abs" = some none)
    (b2 : PySem.W.nsIn K mainGlobals "int" = some none)
    (b3 : PySem.W.nsIn K mainGlobals "any" = some none)
    (b4 : PySem.W.nsIn K mainGlobals "all" = some none)
    (b5 : PySem.W.nsIn K mainGlobals "sorted" = some none)
    (b6 : PySem.W.nsIn K mainGlobals "zip" = some none)
    (b7 : PySem.W.nsIn K mainGlobals "range" = some none)
    (b8 : PySem.W.nsIn K mainGlobals "enumerate" = some none)
    (aC : PySem.W.nsIn K mainGlobals "Desk" = some (some (.ref C))) (pg : PySem.W.plainGet K C Str.empty = true) (hd : PySem.W.hasDictIn K C = true) (po : PySem.W.plainOver K C = true) (sa : PySem.W.findIn K (.ref C) "__setattr__" = some (some (.builtin "object.__setattr__"))) (mk : PySem.W.makesIn K C = true) (kc : PySem.W.keepIn K (.ref C) = true)
    (nR : PySem.W.findIn K (.ref C) "ring" = some none) (nK : PySem.W.findIn K (.ref C) "kept" = some none) :
    ∃ (C f : Addr) (fd : FuncData), All K mg C ∧ Fun K "answers" "answers" s_answers f fd ∧ mg "answers" = some (.ref f) := by
  have mi : ∀ {x : Str} {v : Int} {t : Nat}, PySem.W.nsIn K mainGlobals x = some (some (.int v t)) → CI mg x v := fun e => ⟨_, PySem.W.mg_of X G e⟩
  refine ⟨C, f49, _, ⟨⟨PySem.W.mg_none_of X G b0, PySem.W.mg_none_of X G b1, PySem.W.mg_none_of X G b2, PySem.W.mg_none_of X G b3, PySem.W.mg_none_of X G b4, PySem.W.mg_none_of X G b5, PySem.W.mg_none_of X G b6, PySem.W.mg_none_of X G b7, PySem.W.mg_none_of X G b8⟩, ⟨mi v0, mi v1, mi v2, mi v3, mi v4, mi v5, mi v6, mi v7, mi v8, mi v9, mi v10, mi v11, mi v12, mi v13, mi v14, mi v15, mi v16, mi v17, mi v18, mi v19, mi v20, mi v21, mi v22, mi v23, mi v24, mi v25, mi v26, mi v27, mi v28, mi v29, at_tup X G tA0 tL0 tV0 (by decide), at_tup X G tA1 tL1 tV1 (by decide), at_tup X G tA2 tL2 tV2 (by decide)⟩, ⟨⟨pg, hd, po, sa⟩, nR, nK⟩, PySem.W.mg_of X G aC, ⟨f50, _, fun_mk l50 c50 k50, ⟨mk, a50, n50, kc⟩⟩, ⟨f51, _, fun_mk l51 c51 k51, ⟨a51, n51, k51⟩⟩, at_def X G a0 l0 c0 k0, at_def X G a1 l1 c1 k1, at_def X G a2 l2 c2 k2, at_def X G a3 l3 c3 k3, at_def X G a4 l4 c4 k4, at_def X G a5 l5 c5 k5, at_def X G a6 l6 c6 k6, at_def X G a7 l7 c7 k7, at_def X G a8 l8 c8 k8, at_def X G a9 l9 c9 k9, at_def X G a10 l10 c10 k10, at_def X G a11 l11 c11 k11, at_def X G a12 l12 c12 k12, at_def X G a13 l13 c13 k13, at_def X G a14 l14 c14 k14, at_def X G a15 l15 c15 k15, at_def X G a16 l16 c16 k16, at_def X G a17 l17 c17 k17, at_def X G a18 l18 c18 k18, at_def X G a19 l19 c19 k19, at_def X G a20 l20 c20 k20, at_def X G a21 l21 c21 k21, at_def X G a22 l22 c22 k22, at_def X G a23 l23 c23 k23, at_def X G a24 l24 c24 k24, at_def X G a25 l25 c25 k25, at_def X G a26 l26 c26 k26, at_def X G a27 l27 c27 k27, at_def X G a28 l28 c28 k28, at_def X G a29 l29 c29 k29, at_def X G a30 l30 c30 k30, at_def X G a31 l31 c31 k31, at_def X G a32 l32 c32 k32, at_def X G a33 l33 c33 k33, at_def X G a34 l34 c34 k34, at_def X G a35 l35 c35 k35, at_def X G a36 l36 c36 k36, at_def X G a37 l37 c37 k37, at_def X G a38 l38 c38 k38, at_def X G a39 l39 c39 k39, at_def X G a40 l40 c40 k40, at_def X G a41 l41 c41 k41, at_def X G a42 l42 c42 k42, at_def X G a43 l43 c43 k43, at_def X G a44 l44 c44 k44, at_def X G a45 l45 c45 k45, at_def X G a46 l46 c46 k46, at_def X G a47 l47 c47 k47, at_def X G a48 l48 c48 k48⟩, fun_mk l49 c49 k49, PySem.W.mg_of X G a49⟩
/-- the goal that the head leaves, from the facts of the text -/
theorem walk {q : Program} {loose : List Str} {XP : (Str → Option Value) → Heap → Prop} {YP : World → Heap → Prop} {d : DefRec} {Kf : Params → PySem.W.Frag} (hname : d.name = "answers") (hi : importsNone q = true)
    (hY : ∀ (w : World) (h : Heap), YP w h → (Kf w.params).In h) (hA : ∀ (w : World) (mg : Str → Option Value) (h : Heap), YP w h → (Kf w.params).In h → h.Ns mainGlobals mg → ∃ (C f : Addr) (fd : FuncData), All (Kf w.params) mg C ∧ Fun (Kf w.params) "answers" "answers" s_answers f fd ∧ mg "answers" = some (.ref f)) :
    PySem.W.WalkOS q loose XP YP PySem.Challenge.rw_idealrows_s01_answers d [] (fun f vs => PySem.call f vs) := by
  intro w s₀ s₁ mg mb G Y fa _ _ _ _ _ _ _ _ _ _ hmg hg args vals _ asked hlay _ hwl _
  obtain ⟨a, e1, e2⟩ := PySem.W.os_pre_some asked
  obtain ⟨e3, hwi⟩ := Codec.encAll_of_decAll _ args a e1
  subst e3
  have KX := hY w _ Y
  obtain ⟨C, f, fd, A, F, hm⟩ := hA w mg _ Y KX G.T.g
  rw [hname] at hmg
  rw [hm] at hmg
  obtain rfl : f = fa := by
    have := Option.some.inj hmg
    exact Value.ref.inj this
  obtain ⟨l, u⟩ := a
  have hask : PyNf02.answers_asked l = true := e2
  have hll : l.length ≤ 1000 := by
    have h1 := (Bool.and_eq_true_iff.mp hwi).1
    have h3 : Codec.inNat 0 640 l.length = true := (Bool.and_eq_true_iff.mp h1).1
    have h2 := of_decide_eq_true (Bool.and_eq_true_iff.mp h3).2
    exact Nat.le_trans h2 (by decide)
  refine PySem.W.enter_call (codeAny_mono (call_top (l := l) (r := PyNf02.answers l) (k := 50) (fd := fd) (sp := spAns (Kf w.params)) (R := []) (cl := classAt s₀.heap) KX (G.T.seer hi) G.T.g G.T.b G.T.builtins G.T.nolimit hg hwl (layable_weight hlay _ (List.mem_singleton.mpr rfl)) ⟨rfl, by decide, by decide⟩ (fun base hN => all_ok A hN rfl F)
    (F.binds (ps := ["calls"]) fun _ _ _ _ _ _ us hl => match us, hl with | [_], _ => rfl) fun T ca hs => ?_) fun r' s' hq => ?_)
  · exact ⟨ca, l, rfl, hs, hll, hask, fun H' p hp => ⟨p, rfl, hp⟩⟩
  · obtain ⟨v, as', rfl, h1, h2, h3, h4⟩ := hq
    exact ⟨.inl ⟨v, _, as', rfl, fun _ => rfl, h1, (OpenSpec.post_iff (by decide +kernel) hwi _ _).mpr rfl, fun z => Bool.noConfusion (show false = true from z)⟩, h2, h3, h4⟩
end Wk

open PySem PyProof.Rows PySem.W
set_option maxRecDepth 100000 in
set_option maxHeartbeats 0 in
theorem PySem.Challenge.cw_idealrows_s01_answers_holds : PySem.Challenge.rw_idealrows_s01_answers.Holds := by
  w_on; k_headS; (case hw => exact ⟨[.list [.int 13]], by decide +kernel, by decide +kernel⟩)
  k_fillS
  refine Wk.walk rfl (by decide +kernel) (fun w h Y => PySem.W.kIn_of Y) ?_
  intro w mg h Y KX G
  refine' Wk.all_mk KX G ?a0 ?l0 ?c0 ?k0 ?a1 ?l1 ?c1 ?k1 ?a2 ?l2 ?c2 ?k2 ?a3 ?l3 ?c3 ?k3 ?a4 ?l4 ?c4 ?k4 ?a5 ?l5 ?c5 ?k5 ?a6 ?l6 ?c6 ?k6 ?a7 ?l7 ?c7 ?k7 ?a8 ?l8 ?c8 ?k8 ?a9 ?l9 ?c9 ?k9 ?a10 ?l10 ?c10 ?k10 ?a11 ?l11 ?c11 ?k11 ?a12 ?l12 ?c12 ?k12 ?a13 ?l13 ?c13 ?k13 ?a14 ?l14 ?c14 ?k14 ?a15 ?l15 ?c15 ?k15 ?a16 ?l16 ?c16 ?k16 ?a17 ?l17 ?c17 ?k17 ?a18 ?l18 ?c18 ?k18 ?a19 ?l19 ?c19 ?k19 ?a20 ?l20 ?c20 ?k20 ?a21 ?l21 ?c21 ?k21 ?a22 ?l22 ?c22 ?k22 ?a23 ?l23 ?c23 ?k23 ?a24 ?l24 ?c24 ?k24 ?a25 ?l25 ?c25 ?k25 ?a26 ?l26 ?c26 ?k26 ?a27 ?l27 ?c27 ?k27 ?a28 ?l28 ?c28 ?k28 ?a29 ?l29 ?c29 ?k29 ?a30 ?l30 ?c30 ?k30 ?a31 ?l31 ?c31 ?k31 ?a32 ?l32 ?c32 ?k32 ?a33 ?l33 ?c33 ?k33 ?a34 ?l34 ?c34 ?k34 ?a35 ?l35 ?c35 ?k35 ?a36 ?l36 ?c36 ?k36 ?a37 ?l37 ?c37 ?k37 ?a38 ?l38 ?c38 ?k38 ?a39 ?l39 ?c39 ?k39 ?a40 ?l40 ?c40 ?k40 ?a41 ?l41 ?c41 ?k41 ?a42 ?l42 ?c42 ?k42 ?a43 ?l43 ?c43 ?k43 ?a44 ?l44 ?c44 ?k44 ?a45 ?l45 ?c45 ?k45 ?a46 ?l46 ?c46 ?k46 ?a47 ?l47 ?c47 ?k47 ?a48 ?l48 ?c48 ?k48 ?a49 ?l49 ?c49 ?k49 ?a50 ?n50 ?l50 ?c50 ?k50 ?a51 ?n51 ?l51 ?c51 ?k51 ?v0 ?v1 ?v2 ?v3 ?v4 ?v5 ?v6 ?v7 ?v8 ?v9 ?v10 ?v11 ?v12 ?v13 ?v14 ?v15 ?v16 ?v17 ?v18 ?v19 ?v20 ?v21 ?v22 ?v23 ?v24 ?v25 ?v26 ?v27 ?v28 ?v29 ?tA0 ?tL0 ?tV0 ?tA1 ?tL1 ?tV1 ?tA2 ?tL2 ?tV2 ?b0 ?b1 ?b2 ?b3 ?b4 ?b5 ?b6 ?b7 ?b8 ?aC ?pg ?hd ?po ?sa ?mk ?kc ?nR ?nK
  (case aC => k_is)
  (case a0 => k_is)
  (case l0 => k_is)
  (case c0 => k_is)
  (case k0 => k_is)
  (case a1 => k_is)
  (case l1 => k_is)
  (case c1 => k_is)
  (case k1 => k_is)
  (case a2 => k_is)
  (case l2 => k_is)
  (case c2 => k_is)
  (case k2 => k_is)
  (case a3 => k_is)
  (case l3 => k_is)
  (case c3 => k_is)
  (case k3 => k_is)
  (case a4 => k_is)
  (case l4 => k_is)
  (case c4 => k_is)
  (case k4 => k_is)
  (case a5 => k_is)
  (case l5 => k_is)
  (case c5 => k_is)
  (case k5 => k_is)
  (case a6 => k_is)
  (case l6 => k_is)
  (case c6 => k_is)
  (case k6 => k_is)
  (case a7 => k_is)
  (case l7 => k_is)
  (case c7 => k_is)
  (case k7 => k_is)
  (case a8 => k_is)
  (case l8 => k_is)
  (case c8 => k_is)
  (case k8 => k_is)
  (case a9 => k_is)
  (case l9 => k_is)
  (case c9 => k_is)
  (case k9 => k_is)
  (case a10 => k_is)
  (case l10 => k_is)
  (case c10 => k_is)
  (case k10 => k_is)
  (case a11 => k_is)
  (case l11 => k_is)
  (case c11 => k_is)
  (case k11 => k_is)
  (case a12 => k_is)
  (case l12 => k_is)
  (case c12 => k_is)
  (case k12 => k_is)
  (case a13 => k_is)
  (case l13 => k_is)
  (case c13 => k_is)
  (case k13 => k_is)
  (case a14 => k_is)
  (case l14 => k_is)
  (case c14 => k_is)
  (case k14 => k_is)
  (case a15 => k_is)
  (case l15 => k_is)
  (case c15 => k_is)
  (case k15 => k_is)
  (case a16 => k_is)
  (case l16 => k_is)
  (case c16 => k_is)
  (case k16 => k_is)
  (case a17 => k_is)
  (case l17 => k_is)
  (case c17 => k_is)
  (case k17 => k_is)
  (case a18 => k_is)
  (case l18 => k_is)
  (case c18 => k_is)
  (case k18 => k_is)
  (case a19 => k_is)
  (case l19 => k_is)
  (case c19 => k_is)
  (case k19 => k_is)
  (case a20 => k_is)
  (case l20 => k_is)
  (case c20 => k_is)
  (case k20 => k_is)
  (case a21 => k_is)
  (case l21 => k_is)
  (case c21 => k_is)
  (case k21 => k_is)
  (case a22 => k_is)
  (case l22 => k_is)
  (case c22 => k_is)
  (case k22 => k_is)
  (case a23 => k_is)
  (case l23 => k_is)
  (case c23 => k_is)
  (case k23 => k_is)
  (case a24 => k_is)
  (case l24 => k_is)
  (case c24 => k_is)
  (case k24 => k_is)
  (case a25 => k_is)
  (case l25 => k_is)
  (case c25 => k_is)
  (case k25 => k_is)
  (case a26 => k_is)
  (case l26 => k_is)
  (case c26 => k_is)
  (case k26 => k_is)
  (case a27 => k_is)
  (case l27 => k_is)
  (case c27 => k_is)
  (case k27 => k_is)
  (case a28 => k_is)
  (case l28 => k_is)
  (case c28 => k_is)
  (case k28 => k_is)
  (case a29 => k_is)
  (case l29 => k_is)
  (case c29 => k_is)
  (case k29 => k_is)
  (case a30 => k_is)
  (case l30 => k_is)
  (case c30 => k_is)
  (case k30 => k_is)
  (case a31 => k_is)
  (case l31 => k_is)
  (case c31 => k_is)
  (case k31 => k_is)
  (case a32 => k_is)
  (case l32 => k_is)
  (case c32 => k_is)
  (case k32 => k_is)
  (case a33 => k_is)
  (case l33 => k_is)
  (case c33 => k_is)
  (case k33 => k_is)
  (case a34 => k_is)
  (case l34 => k_is)
  (case c34 => k_is)
  (case k34 => k_is)
  (case a35 => k_is)
  (case l35 => k_is)
  (case c35 => k_is)
  (case k35 => k_is)
  (case a36 => k_is)
  (case l36 => k_is)
  (case c36 => k_is)
  (case k36 => k_is)
  (case a37 => k_is)
  (case l37 => k_is)
  (case c37 => k_is)
  (case k37 => k_is)
  (case a38 => k_is)
  (case l38 => k_is)
  (case c38 => k_is)
  (case k38 => k_is)
  (case a39 => k_is)
  (case l39 => k_is)
  (case c39 => k_is)
  (case k39 => k_is)
  (case a40 => k_is)
  (case l40 => k_is)
  (case c40 => k_is)
  (case k40 => k_is)
  (case a41 => k_is)
  (case l41 => k_is)
  (case c41 => k_is)
  (case k41 => k_is)
  (case a42 => k_is)
  (case l42 => k_is)
  (case c42 => k_is)
  (case k42 => k_is)
  (case a43 => k_is)
  (case l43 => k_is)
  (case c43 => k_is)
  (case k43 => k_is)
  (case a44 => k_is)
  (case l44 => k_is)
  (case c44 => k_is)
  (case k44 => k_is)
  (case a45 => k_is)
  (case l45 => k_is)
  (case c45 => k_is)
  (case k45 => k_is)
  (case a46 => k_is)
  (case l46 => k_is)
  (case c46 => k_is)
  (case k46 => k_is)
  (case a47 => k_is)
  (case l47 => k_is)
  (case c47 => k_is)
  (case k47 => k_is)
  (case a48 => k_is)
  (case l48 => k_is)
  (case c48 => k_is)
  (case k48 => k_is)
  (case a49 => k_is)
  (case l49 => k_is)
  (case c49 => k_is)
  (case k49 => k_is)
  (case a50 => k_is)
  (case n50 => k_is)
  (case l50 => k_is)
  (case c50 => k_is)
  (case k50 => k_is)
  (case a51 => k_is)
  (case n51 => k_is)
  (case l51 => k_is)
  (case c51 => k_is)
  (case k51 => k_is)
  (case v0 => k_is)
  (case v1 => k_is)
  (case v2 => k_is)
  (case v3 => k_is)
  (case v4 => k_is)
  (case v5 => k_is)
  (case v6 => k_is)
  (case v7 => k_is)
  (case v8 => k_is)
  (case v9 => k_is)
  (case v10 => k_is)
  (case v11 => k_is)
  (case v12 => k_is)
  (case v13 => k_is)
  (case v14 => k_is)
  (case v15 => k_is)
  (case v16 => k_is)
  (case v17 => k_is)
  (case v18 => k_is)
  (case v19 => k_is)
  (case v20 => k_is)
  (case v21 => k_is)
  (case v22 => k_is)
  (case v23 => k_is)
  (case v24 => k_is)
  (case v25 => k_is)
  (case v26 => k_is)
  (case v27 => k_is)
  (case v28 => k_is)
  (case v29 => k_is)
  (case tA0 => k_is)
  (case tL0 => k_is)
  (case tV0 => exact (by repeat (first | exact .nil | refine .cons ⟨_, rfl⟩ ?_)))
  (case tA1 => k_is)
  (case tL1 => k_is)
  (case tV1 => exact (by repeat (first | exact .nil | refine .cons ⟨_, rfl⟩ ?_)))
  (case tA2 => k_is)
  (case tL2 => k_is)
  (case tV2 => exact (by repeat (first | exact .nil | refine .cons ⟨_, rfl⟩ ?_)))
  (case b0 => k_is)
  (case b1 => k_is)
  (case b2 => k_is)
  (case b3 => k_is)
  (case b4 => k_is)
  (case b5 => k_is)
  (case b6 => k_is)
  (case b7 => k_is)
  (case b8 => k_is)
  (case pg => k_is)
  (case hd => k_is)
  (case po => k_is)
  (case sa => k_is)
  (case mk => k_is)
  (case kc => k_is)
  (case nR => k_is)
  (case nK => k_is)

