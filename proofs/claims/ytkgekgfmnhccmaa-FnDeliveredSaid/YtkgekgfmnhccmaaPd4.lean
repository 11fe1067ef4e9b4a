/- Part 4 of the proof of FnDelivered. -/
import Derived.Test.YtkgekgfmnhccmaaPd3
namespace Go.Proofs.Ytkgekgfmnhccmaa
open Go Go.Abs Go.Proofs
-- shared
theorem into_lt {n : TN6} (h : NetP n) {i : Nat} {e : List Int} (he : n.2.2.2.1[i]? = some e) {x : Int} (hx : x ∈ intoV n.2.2.2.1 (e0 e)) : ∃ j : Nat, x = (j : Int) ∧ j < i := by
 obtain ⟨j, q, hq, hj⟩ := (mem_pickI _ 0).1 hx
 rw [Nat.zero_add] at hj
 split at hj
 case isFalse => cases hj
 rename_i h1
 refine ⟨j, (Option.some.inj hj).symm, ?_⟩
 obtain ⟨a, b, rfl, ha, hab, hb⟩ := h.two hq
 have mono : ∀ d k : Nat, ∀ p r : List Int, n.2.2.2.1[k]? = some p → n.2.2.2.1[k + d]? = some r → e0 p ≤ e0 r := by
  intro d
  induction d with
  | zero => intro k p r hp hr; rw [Nat.add_zero, hp] at hr; cases hr; exact Int.le_refl _
  | succ d ih =>
   intro k p r hp hr
   obtain ⟨s, hs⟩ : ∃ s, n.2.2.2.1[k + d]? = some s := ⟨_, List.getElem?_eq_getElem (by have := (List.getElem?_eq_some_iff.1 hr).1; omega)⟩
   have h2 := h.edges _ _ hr
   unfold edgeOk at h2
   rw [Bool.and_eq_true, Bool.and_eq_true] at h2
   have h3 := h2.2.2
   rw [Bool.or_eq_true, decide_eq_true_eq, decide_eq_true_eq, show k + (d + 1) - 1 = k + d by omega, getD_of hs] at h3
   have := ih k p s hp hs
   omega
 rcases Nat.lt_or_ge j i with hlt | hge
 ·exact hlt
 ·obtain ⟨d, rfl⟩ : ∃ d, j = i + d := ⟨j - i, by omega⟩
  have h2 := mono d i e [a, b] he hq
  simp only [e0, e1, List.getD_cons_zero, List.getD_cons_succ] at h1 h2
  omega
def unitV (M k : Nat) : List Int := (List.replicate M 0).set k 1
def okV (f : TF3) (M : Nat) (r : List Int) : Prop := r.length = M ∧ ∀ y ∈ r, inF f y
theorem unitV_ok {f : TF3} (hf : fieldOk f = true) (M k : Nat) : okV f M (unitV M k) := by
 refine ⟨by simp [unitV], fun y hy => ?_⟩
 rcases List.mem_or_eq_of_mem_set hy with h | rfl
 ·rw [(List.mem_replicate.1 h).2]; exact inF_zero
 ·exact inF_one hf
theorem zeroV_ok {f : TF3} (M : Nat) : okV f M (List.replicate M 0) := ⟨by simp, fun y hy => by rw [(List.mem_replicate.1 hy).2]; exact inF_zero⟩
theorem addV_ok {f : TF3} (hf : fieldOk f = true) {M : Nat} {u w : List Int} {x : Int} (hu : okV f M u) (hw : okV f M w) (hx : inF f x) : okV f M (addV f u w x) := by
 unfold addV
 refine ⟨by simp [hu.1, hw.1], fun y hy => ?_⟩
 obtain ⟨p, hp, rfl⟩ := List.mem_map.1 hy
 have h1 := List.of_mem_zip (a := p.1) (b := p.2) hp
 exact inF_xor hf (hu.2 _ h1.1) (mulI_in hf (hw.2 _ h1.2) hx)
def combV (f : TF3) (src : Nat → List Int) : Nat → List Int → List Int → List Int
 | _, acc, [] => acc
 | k, acc, x :: cs => combV f src (k + 1) (addV f acc (src k) x) cs
theorem combV_ok {f : TF3} (hf : fieldOk f = true) {M : Nat} {src : Nat → List Int} : ∀ (cs : List Int) (k : Nat) (acc : List Int), okV f M acc → (∀ x ∈ cs, inF f x) → (∀ j, k ≤ j → j < k + cs.length → okV f M (src j)) → okV f M (combV f src k acc cs) := by
 intro cs
 induction cs with
 | nil => intro k acc h _ _; exact h
 | cons x cs ih =>
  intro k acc h hx hs
  exact ih (k + 1) _ (addV_ok hf h (hs k (Nat.le_refl _) (by simp)) (hx x (List.mem_cons_self ..))) (fun y hy => hx y (List.mem_cons_of_mem _ hy)) fun j h1 h2 => hs j (by omega) (by simp; omega)
def srcV (M : Nat) (vs : List (List Int)) (a : Int) (into : List Int) (k : Nat) : List Int := if a = 0 then unitV M k else vs.getD (into.getD k 0).toNat []
def edgeA (n : TN6) (i : Nat) : Int := e0 (n.2.2.2.1.getD i [])
def edgeC (n : TN6) (i : Nat) : List Int := n.2.2.2.2.1.getD i []
def messN (n : TN6) : Nat := n.2.2.1.toNat
def vecV (n : TN6) (vs : List (List Int)) (i : Nat) : List Int := combV n.1 (srcV (messN n) vs (edgeA n i) (intoV n.2.2.2.1 (edgeA n i))) 0 (List.replicate (messN n) 0) (edgeC n i)
def vecsV (n : TN6) : Nat → List (List Int)
 | 0 => []
 | i + 1 => vecsV n i ++ [vecV n (vecsV n i) i]
def vectorsV (n : TN6) : List (List Int) := vecsV n n.2.2.2.1.length
theorem vecsV_len (n : TN6) : ∀ i, (vecsV n i).length = i := by
 intro i
 induction i with
 | zero => rfl
 | succ i ih => simp [vecsV, ih]
theorem vecsV_get (n : TN6) : ∀ i j, j < i → (vecsV n i)[j]? = some (vecV n (vecsV n j) j) := by
 intro i
 induction i with
 | zero => intro j h; omega
 | succ i ih =>
  intro j h
  rw [show vecsV n (i + 1) = vecsV n i ++ [vecV n (vecsV n i) i] from rfl, List.getElem?_append, vecsV_len]
  by_cases hj : j < i
  ·rw [if_pos hj]; exact ih j hj
  ·have : j = i := by omega
   subst this
   rw [if_neg hj, Nat.sub_self]; rfl
theorem elsOk_in {f : TF3} (_ : fieldOk f = true) {c : List Int} (h : elsOk f c = true) : ∀ x ∈ c, inF f x := by
 intro x hx
 have := inR_iff.1 (List.all_eq_true.1 h x hx)
 unfold topF at this
 refine ⟨this.1, ?_⟩
 push_cast
 omega
theorem edgeC_ok {n : TN6} (h : NetP n) {i : Nat} (hi : i < n.2.2.2.1.length) : n.2.2.2.2.1[i]? = some (edgeC n i) ∧ ((edgeC n i).length : Int) = hasV n (edgeA n i) ∧ ∀ x ∈ edgeC n i, inF n.1 x := by
 have hc : n.2.2.2.2.1[i]? = some (edgeC n i) := by
  unfold edgeC
  rw [List.getD_eq_getElem?_getD, List.getElem?_eq_getElem (by rw [h.clen]; exact hi)]
  rfl
 have := h.coefs i _ hc
 unfold coefOk at this
 rw [Bool.and_eq_true, decide_eq_true_eq] at this
 exact ⟨hc, this.1, elsOk_in h.field this.2⟩
theorem edgeA_ok {n : TN6} (h : NetP n) {i : Nat} (hi : i < n.2.2.2.1.length) : ∃ e, n.2.2.2.1[i]? = some e ∧ edgeA n i = e0 e ∧ e[0]? = some (e0 e) ∧ e.length = 2 := by
 have he := List.getElem?_eq_getElem hi
 obtain ⟨a, b, hab, _⟩ := h.two he
 refine ⟨_, he, ?_, ?_, ?_⟩
 ·unfold edgeA; rw [getD_of he]
 ·rw [hab]; rfl
 ·rw [hab]; rfl
theorem mess_ok {n : TN6} (h : NetP n) : n.2.2.1 = (messN n : Int) ∧ 1 ≤ messN n ∧ messN n ≤ 3 := by
 have := h.mess
 unfold messN
 omega
theorem into_get {n : TN6} (h : NetP n) {i : Nat} (hi : i < n.2.2.2.1.length) {k : Nat} (hk : k < (intoV n.2.2.2.1 (edgeA n i)).length) : ∃ j : Nat, (intoV n.2.2.2.1 (edgeA n i))[k]? = some (j : Int) ∧ j < i := by
 obtain ⟨e, he, ha, _⟩ := edgeA_ok h hi
 obtain ⟨x, hx⟩ : ∃ x, (intoV n.2.2.2.1 (edgeA n i))[k]? = some x := ⟨_, List.getElem?_eq_getElem hk⟩
 rw [ha] at hx ⊢
 obtain ⟨j, hj, hlt⟩ := into_lt h he (List.mem_of_getElem? hx)
 rw [hj] at hx
 exact ⟨j, hx, hlt⟩
theorem srcV_ok {n : TN6} (h : NetP n) {i : Nat} (hi : i < n.2.2.2.1.length) {vs : List (List Int)} (hv : ∀ j, j < i → ∃ v, vs[j]? = some v ∧ okV n.1 (messN n) v) {k : Nat} (hk : k < (edgeC n i).length) : okV n.1 (messN n) (srcV (messN n) vs (edgeA n i) (intoV n.2.2.2.1 (edgeA n i)) k) := by
 have hl := (edgeC_ok h hi).2.1
 unfold srcV
 split
 ·exact unitV_ok h.field _ _
 ·rename_i h0
  unfold hasV at hl
  rw [if_neg h0] at hl
  obtain ⟨j, h1, h2⟩ := into_get h hi (k := k) (by omega)
  obtain ⟨v, hv1, hv2⟩ := hv j h2
  rw [getD_of h1, Int.toNat_natCast, getD_of hv1]
  exact hv2
theorem vecsV_ok {n : TN6} (h : NetP n) : ∀ i, i ≤ n.2.2.2.1.length → ∀ j, j < i → ∃ v, (vecsV n i)[j]? = some v ∧ okV n.1 (messN n) v := by
 intro i
 induction i using Nat.strongRecOn with
 | ind i ih =>
  intro hi j hj
  refine ⟨_, vecsV_get n i j hj, ?_⟩
  have hj2 : j < n.2.2.2.1.length := by omega
  exact combV_ok h.field _ 0 _ (zeroV_ok _) (edgeC_ok h hj2).2.2 fun k _ hk => srcV_ok h hj2 (ih j hj (by omega)) (by omega)
theorem vectorsV_ok {n : TN6} (h : NetP n) {j : Nat} (hj : j < n.2.2.2.1.length) : ∃ v, (vectorsV n)[j]? = some v ∧ okV n.1 (messN n) v := vecsV_ok h _ (Nat.le_refl _) j hj
theorem vectorsV_len (n : TN6) : (vectorsV n).length = n.2.2.2.1.length := vecsV_len n _
theorem into_all {n : TN6} (_ : NetP n) {a x : Int} (hx : x ∈ intoV n.2.2.2.1 a) : ∃ j : Nat, x = (j : Int) ∧ j < n.2.2.2.1.length := by
 obtain ⟨j, q, hq, hj⟩ := (mem_pickI _ 0).1 hx
 rw [Nat.zero_add] at hj
 split at hj
 ·exact ⟨j, (Option.some.inj hj).symm, (List.getElem?_eq_some_iff.1 hq).1⟩
 ·cases hj
def rowsV (n : TN6) (node : Int) : List (List Int) := if node = 0 then (List.range (messN n)).map (unitV (messN n)) else (intoV n.2.2.2.1 node).map fun x => (vectorsV n).getD x.toNat []
theorem rowsV_GR {n : TN6} (h : NetP n) (node : Int) : GR n.1 (messN n) (rowsV n node) := by
 intro r hr
 unfold rowsV at hr
 split at hr
 ·obtain ⟨k, _, rfl⟩ := List.mem_map.1 hr
  exact unitV_ok h.field _ _
 ·obtain ⟨x, hx, rfl⟩ := List.mem_map.1 hr
  obtain ⟨j, rfl, hj⟩ := into_all h hx
  obtain ⟨v, hv, hok⟩ := vectorsV_ok h hj
  rw [Int.toNat_natCast, getD_of hv]
  exact hok
theorem rowsV_len {n : TN6} (h : NetP n) (node : Int) : (rowsV n node).length ≤ 14 := by
 have := pickI_len (f := fun i e => if e1 e = node then some (i : Int) else none) n.2.2.2.1 0
 have h2 := (mess_ok h).2.2
 have h3 := h.len
 unfold rowsV
 split
 ·simp; omega
 ·rw [List.length_map]; unfold intoV; omega
def dotV (f : TF3) : List Int → List Int → Int
 | x :: u, y :: w => ixor .i64 (mulI f x y) (dotV f u w)
 | _, _ => 0
theorem dotV_in {f : TF3} (hf : fieldOk f = true) : ∀ {u w : List Int}, (∀ x ∈ u, inF f x) → (∀ x ∈ w, inF f x) → inF f (dotV f u w) := by
 intro u
 induction u with
 | nil => intro w _ _; exact inF_zero
 | cons x u ih =>
  intro w hu hw
  cases w with
  | nil => exact inF_zero
  | cons y w => exact inF_xor hf (mulI_in hf (hu x (List.mem_cons_self ..)) (hw y (List.mem_cons_self ..))) (ih (fun z hz => hu z (List.mem_cons_of_mem _ hz)) fun z hz => hw z (List.mem_cons_of_mem _ hz))
theorem dotV_comm {f : TF3} (hf : fieldOk f = true) : ∀ {u w : List Int}, (∀ x ∈ u, inF f x) → (∀ x ∈ w, inF f x) → dotV f u w = dotV f w u := by
 intro u
 induction u with
 | nil => intro w _ _; cases w <;> rfl
 | cons x u ih =>
  intro w hu hw
  cases w with
  | nil => rfl
  | cons y w =>
   simp only [dotV]
   rw [mulI_comm hf (hu x (List.mem_cons_self ..)) (hw y (List.mem_cons_self ..)), ih (fun z hz => hu z (List.mem_cons_of_mem _ hz)) fun z hz => hw z (List.mem_cons_of_mem _ hz)]
theorem xor4 {f : TF3} (hf : fieldOk f = true) {a b c d : Int} (ha : inF f a) (hb : inF f b) (hc : inF f c) (hd : inF f d) : ixor .i64 (ixor .i64 a b) (ixor .i64 c d) = ixor .i64 (ixor .i64 a c) (ixor .i64 b d) := by
 rw [xorF_assoc hf ha hb (inF_xor hf hc hd), ← xorF_assoc hf hb hc hd, xorF_comm hf hb hc, xorF_assoc hf hc hb hd, ← xorF_assoc hf ha hc (inF_xor hf hb hd)]
theorem dotV_addV {f : TF3} (hf : fieldOk f = true) {c : Int} (hc : inF f c) : ∀ {u v w : List Int}, u.length = v.length → (∀ x ∈ u, inF f x) → (∀ x ∈ v, inF f x) → (∀ x ∈ w, inF f x) → dotV f (addV f u v c) w = ixor .i64 (dotV f u w) (mulI f c (dotV f v w)) := by
 intro u
 induction u with
 | nil =>
  intro v w hl _ _ _
  cases v with
  | nil => simp only [addV, List.zip_nil_left, List.map_nil, dotV]; rw [mulI_zero hf hc, zero_xorF hf inF_zero]
  | cons y v => simp at hl
 | cons x u ih =>
  intro v w hl hu hv hw
  cases v with
  | nil => simp at hl
  | cons y v =>
   cases w with
   | nil => simp only [dotV, addV, List.zip_cons_cons, List.map_cons]; rw [mulI_zero hf hc, zero_xorF hf inF_zero]
   | cons z w =>
    have hx := hu x (List.mem_cons_self ..)
    have hy := hv y (List.mem_cons_self ..)
    have hz := hw z (List.mem_cons_self ..)
    have hu2 : ∀ x ∈ u, inF f x := fun z hz => hu z (List.mem_cons_of_mem _ hz)
    have hv2 : ∀ x ∈ v, inF f x := fun z hz => hv z (List.mem_cons_of_mem _ hz)
    have hw2 : ∀ x ∈ w, inF f x := fun z hz => hw z (List.mem_cons_of_mem _ hz)
    have := ih (by simpa using hl) hu2 hv2 hw2
    unfold addV at this
    simp only [addV, List.zip_cons_cons, List.map_cons, dotV]
    rw [this]
    have hd1 := dotV_in hf hu2 hw2
    have hd2 := dotV_in hf hv2 hw2
    have hyc := mulI_in hf hy hc
    rw [mulI_xor hf hc (mulI_in hf hy hz) hd2]
    rw [mulI_comm hf (inF_xor hf hx hyc) hz, mulI_xor hf hz hx hyc, mulI_comm hf hz hx]
    rw [show mulI f z (mulI f y c) = mulI f c (mulI f y z) from by
     rw [mulI_comm hf hy hc, ← mulI_assoc hf hz hc hy, mulI_comm hf hz hc, mulI_assoc hf hc hz hy, mulI_comm hf hz hy]]
    exact xor4 hf (mulI_in hf hx hz) (mulI_in hf hc (mulI_in hf hy hz)) hd1 (mulI_in hf hc hd2)
theorem dotV_zero {f : TF3} (hf : fieldOk f = true) : ∀ {w : List Int} (n : Nat), (∀ x ∈ w, inF f x) → dotV f (List.replicate n 0) w = 0 := by
 intro w n
 induction n generalizing w with
 | zero => intro _; rfl
 | succ n ih =>
  intro hw
  cases w with
  | nil => rfl
  | cons y w =>
   simp only [List.replicate_succ, dotV]
   rw [ih fun z hz => hw z (List.mem_cons_of_mem _ hz), mulI_comm hf inF_zero (hw y (List.mem_cons_self ..)), mulI_zero hf (hw y (List.mem_cons_self ..)), zero_xorF hf inF_zero]
theorem dotV_unit {f : TF3} (hf : fieldOk f = true) : ∀ {w : List Int} (n k : Nat), (∀ x ∈ w, inF f x) → n = w.length → k < n → dotV f (unitV n k) w = w.getD k 0 := by
 intro w
 induction w with
 | nil => intro n k _ h1 h2; simp at h1; omega
 | cons y w ih =>
  intro n k hw h1 h2
  simp only [List.length_cons] at h1
  subst h1
  have hy := hw y (List.mem_cons_self ..)
  have hw2 : ∀ x ∈ w, inF f x := fun z hz => hw z (List.mem_cons_of_mem _ hz)
  cases k with
  | zero =>
   simp only [unitV, List.replicate_succ, List.set_cons_zero, dotV, List.getD_cons_zero]
   rw [dotV_zero hf _ hw2, mulI_comm hf (inF_one hf) hy, mulI_one hf hy, xorF_zero hf hy]
  | succ k =>
   have := ih w.length k hw2 rfl (by omega)
   unfold unitV at this
   simp only [unitV, List.replicate_succ, List.set_cons_succ, dotV, List.getD_cons_succ]
   rw [this, mulI_comm hf inF_zero hy, mulI_zero hf hy]
   refine zero_xorF hf ?_
   rw [List.getD_eq_getElem?_getD, List.getElem?_eq_getElem (by omega)]
   exact hw2 _ (List.getElem_mem _)
theorem dotV_combV {f : TF3} (hf : fieldOk f = true) {M : Nat} {src : Nat → List Int} {w : List Int} (hw : ∀ x ∈ w, inF f x) : ∀ (cs : List Int) (k : Nat) (acc : List Int), okV f M acc → (∀ x ∈ cs, inF f x) → (∀ j, k ≤ j → j < k + cs.length → okV f M (src j)) →
  dotV f (combV f src k acc cs) w = ixor .i64 (dotV f acc w) (dotV f cs ((List.range' k cs.length).map fun j => dotV f (src j) w)) := by
 intro cs
 induction cs with
 | nil => intro k acc h _ _; simp only [combV, dotV]; rw [xorF_zero hf (dotV_in hf h.2 hw)]
 | cons x cs ih =>
  intro k acc h hx hs
  have hk := hs k (Nat.le_refl _) (by simp)
  have hx0 := hx x (List.mem_cons_self ..)
  have hx2 : ∀ y ∈ cs, inF f y := fun y hy => hx y (List.mem_cons_of_mem _ hy)
  have hs2 : ∀ j, k + 1 ≤ j → j < k + 1 + cs.length → okV f M (src j) := fun j h1 h2 => hs j (by omega) (by simp; omega)
  have hd : ∀ y ∈ (List.range' (k + 1) cs.length).map (fun j => dotV f (src j) w), inF f y := by
   intro y hy
   obtain ⟨j, hj, rfl⟩ := List.mem_map.1 hy
   have := List.mem_range'_1.1 hj
   exact dotV_in hf (hs2 j (by omega) (by omega)).2 hw
  unfold combV
  rw [ih (k + 1) _ (addV_ok hf h hk hx0) hx2 hs2, dotV_addV hf hx0 (by rw [h.1, hk.1]) h.2 hk.2 hw]
  simp only [List.length_cons, List.range'_succ, List.map_cons, dotV]
  exact xorF_assoc hf (dotV_in hf h.2 hw) (mulI_in hf hx0 (dotV_in hf hk.2 hw)) (dotV_in hf hx2 hd)
def atV (n : TN6) (node : Int) (ms car : List Int) : List Int := if node = 0 then ms else (intoV n.2.2.2.1 node).map fun x => car.getD x.toNat 0
def carV (n : TN6) (ms es : List Int) : Nat → List Int
 | 0 => []
 | i + 1 => carV n ms es i ++ [ixor .i64 (dotV n.1 (edgeC n i) (atV n (edgeA n i) ms (carV n ms es i))) (es.getD i 0)]
def carriedV (n : TN6) (ms es : List Int) : List Int := carV n ms es n.2.2.2.1.length
theorem carV_len (n : TN6) (ms es : List Int) : ∀ i, (carV n ms es i).length = i := by
 intro i
 induction i with
 | zero => rfl
 | succ i ih => simp [carV, ih]
theorem carV_get (n : TN6) (ms es : List Int) : ∀ i j, j < i → (carV n ms es i)[j]? = some (ixor .i64 (dotV n.1 (edgeC n j) (atV n (edgeA n j) ms (carV n ms es j))) (es.getD j 0)) := by
 intro i
 induction i with
 | zero => intro j h; omega
 | succ i ih =>
  intro j h
  rw [show carV n ms es (i + 1) = carV n ms es i ++ [ixor .i64 (dotV n.1 (edgeC n i) (atV n (edgeA n i) ms (carV n ms es i))) (es.getD i 0)] from rfl, List.getElem?_append, carV_len]
  by_cases hj : j < i
  ·rw [if_pos hj]; exact ih j hj
  ·have : j = i := by omega
   subst this
   rw [if_neg hj, Nat.sub_self]; rfl
theorem car_lin {n : TN6} (h : NetP n) {ms : List Int} (hm : okV n.1 (messN n) ms) : ∀ j, j < n.2.2.2.1.length → ∀ i, j < i → (carV n ms (List.replicate n.2.2.2.1.length 0) i)[j]? = some (dotV n.1 (vecV n (vecsV n j) j) ms) := by
 intro j
 induction j using Nat.strongRecOn with
 | ind j ih =>
  intro hj i hi
  have hf := h.field
  obtain ⟨hc1, hc2, hc3⟩ := edgeC_ok h hj
  have hvs := vecsV_ok h j (by omega)
  have hsrc : ∀ k, 0 ≤ k → k < 0 + (edgeC n j).length → okV n.1 (messN n) (srcV (messN n) (vecsV n j) (edgeA n j) (intoV n.2.2.2.1 (edgeA n j)) k) := fun k _ hk => srcV_ok h hj hvs (by omega)
  have hd := dotV_combV hf (w := ms) hm.2 (edgeC n j) 0 (List.replicate (messN n) 0) (zeroV_ok _) hc3 hsrc
  rw [carV_get n ms _ i j hi]
  unfold vecV
  rw [hd, dotV_zero hf _ hm.2]
  have e0 : (List.replicate n.2.2.2.1.length (0 : Int)).getD j 0 = 0 := by
   rw [List.getD_eq_getElem?_getD, List.getElem?_replicate]; split <;> rfl
  have hat : atV n (edgeA n j) ms (carV n ms (List.replicate n.2.2.2.1.length 0) j) = (List.range' 0 (edgeC n j).length).map fun k => dotV n.1 (srcV (messN n) (vecsV n j) (edgeA n j) (intoV n.2.2.2.1 (edgeA n j)) k) ms := by
   unfold hasV at hc2
   unfold atV srcV
   by_cases h0 : edgeA n j = 0
   ·rw [if_pos h0] at hc2 ⊢
    have hl : (edgeC n j).length = messN n := by have := (mess_ok h).1; omega
    apply List.ext_getElem?
    intro k
    rw [List.getElem?_map, hl]
    by_cases hk : k < messN n
    ·rw [List.getElem?_range' hk]
     simp only [Option.map_some, h0, if_true]
     rw [dotV_unit hf (messN n) _ hm.2 hm.1.symm (by omega), List.getD_eq_getElem?_getD]
     simp [List.getElem?_eq_getElem (show k < ms.length by rw [hm.1]; exact hk)]
    ·rw [List.getElem?_eq_none (by rw [hm.1]; omega), List.getElem?_eq_none (by simp; omega)]; rfl
   ·rw [if_neg h0] at hc2 ⊢
    have hl : (edgeC n j).length = (intoV n.2.2.2.1 (edgeA n j)).length := by omega
    apply List.ext_getElem?
    intro k
    rw [List.getElem?_map, List.getElem?_map, hl]
    by_cases hk : k < (intoV n.2.2.2.1 (edgeA n j)).length
    ·rw [List.getElem?_range' hk]
     obtain ⟨x, hx, hlt⟩ := into_get h hj hk
     simp only [Option.map_some, h0, if_false, Nat.zero_add, Nat.one_mul]
     rw [hx, getD_of hx, Int.toNat_natCast]
     rw [getD_of (vecsV_get n j x hlt), Option.map_some, Int.toNat_natCast, getD_of (ih x hlt (by omega) j hlt)]
    ·rw [List.getElem?_eq_none (by omega), List.getElem?_eq_none (by simp; omega)]; rfl
  rw [e0, hat]
  have hin : inF n.1 (dotV n.1 (edgeC n j) ((List.range' 0 (edgeC n j).length).map fun k => dotV n.1 (srcV (messN n) (vecsV n j) (edgeA n j) (intoV n.2.2.2.1 (edgeA n j)) k) ms)) := by
   refine dotV_in hf hc3 fun y hy => ?_
   obtain ⟨k, hk, rfl⟩ := List.mem_map.1 hy
   have := List.mem_range'_1.1 hk
   exact dotV_in hf (hsrc k (by omega) (by omega)).2 hm.2
  rw [xorF_zero hf hin, zero_xorF hf hin]
end Go.Proofs.Ytkgekgfmnhccmaa

namespace Go.Proofs.Ytkgekgfmnhccmaa
open Go Go.Abs Go.Proofs
-- shared
def nodeC (n : TN6) (node k : Int) : Int := if netOk n = true then (if inR node k (n.2.1 - 1) = true then 0 else 2) else 1
theorem nodeC_net {n : TN6} {node k : Int} (h : nodeC n node k = 0) : NetP n ∧ k ≤ node ∧ node ≤ n.2.1 - 1 := by
 unfold nodeC at h
 split at h
 ·rename_i h1
  split at h
  ·rename_i h2; exact ⟨netOk_iff.1 h1, inR_iff.1 h2⟩
  ·cases h
 ·cases h
end Go.Proofs.Ytkgekgfmnhccmaa

namespace Go.Proofs.Ytkgekgfmnhccmaa
open Go Go.Abs Go.Proofs
noncomputable def i_nodeCode_i_DeliveredWithc1 (p0 : TNet) (p1 : Int) (p2 : (List Int)) (p3 : TNet) (p4 : (List Int)) : Tre Int :=
 .mat (i_ValidNet_F p0) fun r1 =>
 .cond (!r1)
  (.ret 1)
  (.cond (!(i_Net_isNode_S p0 p1))
   (.ret 2)
   (.mat (i_DeliveredWithc1_3688_F p2 p3 p4) fun r2 =>
   .cond (!r2)
    (.ret 2)
    (.ret 0)))
noncomputable def i_nodeCode_i_DeliveredWithc1_F (p0 : TNet) (p1 : Int) (p2 : (List Int)) (p3 : TNet) (p4 : (List Int)) : Option Int := (i_nodeCode_i_DeliveredWithc1 p0 p1 p2 p3 p4).run some
-- more
theorem nodeC_of {n : TN6} (h : NetP n) {node : Int} (h0 : 0 ≤ node) (h1 : node < n.2.1) : nodeC n node 0 = 0 := by
 unfold nodeC
 rw [if_pos (netOk_iff.2 h), if_pos (inR_iff.2 ⟨h0, by omega⟩)]
theorem elsOk_from {f : TF3} {c : List Int} (h : ∀ x ∈ c, inF f x) : elsOk f c = true := by
 refine List.all_eq_true.2 fun x hx => inR_iff.2 ?_
 have := h x hx
 unfold topF
 refine ⟨this.1, ?_⟩
 have h2 := this.2
 push_cast at h2
 omega
theorem idelc_is {n : TN6} (h : NetP n) {ms es : List Int} (hm : okV n.1 (messN n) ms) (he : okV n.1 n.2.2.2.1.length es) : i_DeliveredWithc1_3688_F ms n es = some true := by
 have hM := mess_ok h
 have hE := h.len
 have h1 := hm.1
 have h2 := he.1
 unfold i_DeliveredWithc1_3688_F i_DeliveredWithc1_3688
 rw [Tre.run_cond, decide_eq_true (by omega), cond_true, run_some_mat (i_Field_has_is h.field ms (by omega)), elsOk_from hm.2, Tre.run_cond, cond_true, Tre.run_cond, decide_eq_true (by omega), cond_true, run_some_mat (i_Field_has_is h.field es (by omega)), elsOk_from he.2]
 rfl
theorem ideln_is {n : TN6} (h : NetP n) {node : Int} (h0 : 0 ≤ node) (h1 : node < n.2.1) {ms es : List Int} (hm : okV n.1 (messN n) ms) (he : okV n.1 n.2.2.2.1.length es) : i_nodeCode_i_DeliveredWithc1_F n node ms n es = some 0 := by
 have hn := h.nodes
 unfold i_nodeCode_i_DeliveredWithc1_F i_nodeCode_i_DeliveredWithc1
 rw [run_some_mat (i_ValidNet_is n), Tre.run_cond, netOk_iff.2 h, Bool.not_true, cond_false, Tre.run_cond]
 unfold i_Net_isNode_S
 dsimp only
 rw [iwrap_i64 (by omega) (by omega), show inR node 0 (n.2.1 - 1) = true from inR_iff.2 ⟨h0, by omega⟩, Bool.not_true, cond_false, run_some_mat (idelc_is h hm he)]
 rfl
noncomputable def i_nodeCode_i_DeliveredWithc1_V : Env := ⟨tau, [(42, i_ValidNet_c), (93, i_Net_isNode_c), (88, i_DeliveredWithc1_3688_c)], []⟩
noncomputable def i_nodeCode_i_DeliveredWithc1_b : Code := (Try.f48.body).getD .skip
noncomputable def i_nodeCode_i_DeliveredWithc1_I : FnI := ⟨i_nodeCode_i_DeliveredWithc1_b, Try.f48.results.toList, Try.f48.resultTypes.toList, []⟩
noncomputable def i_nodeCode_i_DeliveredWithc1_out (_zp0 : Bool) (zp1 : Bool) (zp2 : Bool) (zp3 : Bool) (_p0 : TNet) (_p1 : Int) (p2 : (List Int)) (p3 : TNet) (p4 : (List Int)) : Int → CallOut := fun r => ⟨(.imm true (.int .i64) r), [⟨true, (.sl (.int .i64)), (.imm zp1), p2⟩, ⟨true, kNet, (.imm zp2), p3⟩, ⟨true, (.sl (.int .i64)), (.imm zp3), p4⟩], []⟩
set_option maxRecDepth 100000 in
theorem i_nodeCode_i_DeliveredWithc1_eq : ∀ (zp0 : Bool) (zp1 : Bool) (zp2 : Bool) (zp3 : Bool) (p0 : TNet) (p1 : Int) (p2 : (List Int)) (p3 : TNet) (p4 : (List Int)), denFn i_nodeCode_i_DeliveredWithc1_V i_nodeCode_i_DeliveredWithc1_I ⟨[(.imm zp0 kNet p0), (.imm true (.int .i64) p1), (.fn 88 [(0, 0), (0, 1), (0, 2)])], [⟨true, (.sl (.int .i64)), (.imm zp1), p2⟩, ⟨true, kNet, (.imm zp2), p3⟩, ⟨true, (.sl (.int .i64)), (.imm zp3), p4⟩]⟩ = (i_nodeCode_i_DeliveredWithc1 p0 p1 p2 p3 p4).run fun r => some (i_nodeCode_i_DeliveredWithc1_out zp0 zp1 zp2 zp3 p0 p1 p2 p3 p4 r) := fun _ _ _ _ _ _ _ _ _ => by kernel_rfl
noncomputable def i_nodeCode_i_DeliveredWithc1_G (av : List AV) (rs : List Root) : Tre CallOut :=
 asCons av fun a0_ av0 =>
 asCons av0 fun a1_ av1 =>
 asCons av1 fun a2_ av2 =>
 asEnd av2 <|
 asCons rs fun r0_ rs0 =>
 asCons rs0 fun r1_ rs1 =>
 asCons rs1 fun r2_ rs2 =>
 asEnd rs2 <|
 asImm kNet a0_ fun z2 d1 =>
 asImmZ true (.int .i64) a1_ fun d3 =>
 asFn 88 [(0, 0), (0, 1), (0, 2)] a2_ <|
 asRt true (.sl (.int .i64)) r0_ fun m4 d5 =>
 asMImm m4 fun z6 =>
 asRt true kNet r1_ fun m7 d8 =>
 asMImm m7 fun z9 =>
 asRt true (.sl (.int .i64)) r2_ fun m10 d11 =>
 asMImm m10 fun z12 =>
 .mat (i_nodeCode_i_DeliveredWithc1_F d1 d3 d5 d8 d11) fun r => .ret (i_nodeCode_i_DeliveredWithc1_out z2 z6 z9 z12 d1 d3 d5 d8 d11 r)
noncomputable def i_nodeCode_i_DeliveredWithc1_c : Ctr := ⟨[], fun ci => i_nodeCode_i_DeliveredWithc1_G ci.args ci.roots, false⟩
theorem i_nodeCode_i_DeliveredWithc1_env : EnvOK Try.prog .none i_nodeCode_i_DeliveredWithc1_V := (envOK_cons i_ValidNet_ok ent42 (envOK_cons i_Net_isNode_ok ent93 (envOK_cons i_DeliveredWithc1_3688_ok ent88 envOK_nil)))
set_option maxRecDepth 100000 in
theorem i_nodeCode_i_DeliveredWithc1_ok : Contract Try.prog .none 48 i_nodeCode_i_DeliveredWithc1_c := by
 have hl : LoopsOK i_nodeCode_i_DeliveredWithc1_V [] i_nodeCode_i_DeliveredWithc1_b := loopsOK_nil (by kernel_rfl)
 refine (contract_of (F := i_nodeCode_i_DeliveredWithc1_I) tau_tys i_nodeCode_i_DeliveredWithc1_env Try.func48 (by kernel_rfl) (by kernel_rfl) (by kernel_rfl) hl []).weaken ?_
 rintro ⟨av, rs⟩ co h
 have h : (i_nodeCode_i_DeliveredWithc1_G av rs).run some = some co := h
 obtain ⟨a0_, av0, rfl, h_0⟩ := asCons_spec h
 obtain ⟨a1_, av1, rfl, h_1⟩ := asCons_spec h_0
 obtain ⟨a2_, av2, rfl, h_2⟩ := asCons_spec h_1
 obtain ⟨rfl, h_3⟩ := asEnd_spec h_2
 obtain ⟨r0_, rs0, rfl, h_4⟩ := asCons_spec h_3
 obtain ⟨r1_, rs1, rfl, h_5⟩ := asCons_spec h_4
 obtain ⟨r2_, rs2, rfl, h_6⟩ := asCons_spec h_5
 obtain ⟨rfl, h_7⟩ := asEnd_spec h_6
 obtain ⟨z2, d1, rfl, h_8⟩ := asImm_spec h_7
 obtain ⟨d3, rfl, h_9⟩ := asImmZ_spec h_8
 obtain ⟨rfl, h_10⟩ := asFn_spec h_9
 obtain ⟨m4, d5, rfl, h_11⟩ := asRt_spec h_10
 obtain ⟨z6, rfl, h_12⟩ := asMImm_spec h_11
 obtain ⟨m7, d8, rfl, h_13⟩ := asRt_spec h_12
 obtain ⟨z9, rfl, h_14⟩ := asMImm_spec h_13
 obtain ⟨m10, d11, rfl, h_15⟩ := asRt_spec h_14
 obtain ⟨z12, rfl, h_16⟩ := asMImm_spec h_15
 exact fin_mat (i_nodeCode_i_DeliveredWithc1_eq z2 z6 z9 z12 d1 d3 d5 d8 d11) h_16
end Go.Proofs.Ytkgekgfmnhccmaa

namespace Go.Proofs.Ytkgekgfmnhccmaa
open Go Go.Abs Go.Proofs
noncomputable def slices_Clone_int64_b930 : Tre (List Int) :=
 .ret []
noncomputable def slices_Clone_int64_b930_F : Option (List Int) := (slices_Clone_int64_b930).run some
theorem slices_Clone_int64_b930_spec : slices_Clone_int64_b930_F = some [] := rfl
noncomputable def slices_Clone_int64_b930_V : Env := ⟨tau, [], []⟩
noncomputable def slices_Clone_int64_b930_b : Code := (Try.f57.body).getD .skip
noncomputable def slices_Clone_int64_b930_I : FnI := ⟨slices_Clone_int64_b930_b, Try.f57.results.toList, Try.f57.resultTypes.toList, []⟩
noncomputable def slices_Clone_int64_b930_out : (List Int) → CallOut := fun r => ⟨(.ref (1, 0) []), [], [⟨false, (.sl (.int .i64)), .own, r⟩]⟩
set_option maxRecDepth 100000 in
theorem slices_Clone_int64_b930_eq : denFn slices_Clone_int64_b930_V slices_Clone_int64_b930_I ⟨[.nil], []⟩ = (slices_Clone_int64_b930).run fun r => some (slices_Clone_int64_b930_out r) := by kernel_rfl
noncomputable def slices_Clone_int64_b930_G (av : List AV) (rs : List Root) : Tre CallOut :=
 asCons av fun a0_ av0 =>
 asEnd av0 <|
 asEnd rs <|
 asNil a0_ <|
 .ret (slices_Clone_int64_b930_out [])
noncomputable def slices_Clone_int64_b930_c : Ctr := ⟨[], fun ci => slices_Clone_int64_b930_G ci.args ci.roots, false⟩
theorem slices_Clone_int64_b930_env : EnvOK Try.prog .none slices_Clone_int64_b930_V := envOK_nil
set_option maxRecDepth 100000 in
theorem slices_Clone_int64_b930_ok : Contract Try.prog .none 57 slices_Clone_int64_b930_c := by
 have hl : LoopsOK slices_Clone_int64_b930_V [] slices_Clone_int64_b930_b := loopsOK_nil (by kernel_rfl)
 refine (contract_of (F := slices_Clone_int64_b930_I) tau_tys slices_Clone_int64_b930_env Try.func57 (by kernel_rfl) (by kernel_rfl) (by kernel_rfl) hl []).weaken ?_
 rintro ⟨av, rs⟩ co h
 have h : (slices_Clone_int64_b930_G av rs).run some = some co := h
 obtain ⟨a0_, av0, rfl, h_0⟩ := asCons_spec h
 obtain ⟨rfl, h_1⟩ := asEnd_spec h_0
 obtain ⟨rfl, h_2⟩ := asEnd_spec h_1
 obtain ⟨rfl, h_3⟩ := asNil_spec h_2
 exact fin_ret (slices_Clone_int64_b930_eq) (slices_Clone_int64_b930_spec) h_3
end Go.Proofs.Ytkgekgfmnhccmaa

namespace Go.Proofs.Ytkgekgfmnhccmaa
open Go Go.Abs Go.Proofs
noncomputable def slices_Clone_int64_6661 (p0 : (List Int)) : Tre (List Int) :=
 .ite ((0 + p0.length) * 8 ≤ appendMax ∧ 1 ≤ 8) <|
 .ret ([] ++ p0)
noncomputable def slices_Clone_int64_6661_F (p0 : (List Int)) : Option (List Int) := (slices_Clone_int64_6661 p0).run some
theorem slices_Clone_int64_6661_spec (p0 : List Int) (y : List Int) (h : cloneR p0 = some y) : slices_Clone_int64_6661_F p0 = some y := by
 obtain ⟨hl, rfl⟩ := lim_some h
 have hb : (0 + p0.length) * 8 ≤ appendMax ∧ 1 ≤ 8 := by unfold appendMax; omega
 unfold slices_Clone_int64_6661_F slices_Clone_int64_6661
 rw [Tre.run_ite, if_pos hb]
 rfl
noncomputable def slices_Clone_int64_6661_V : Env := ⟨tau, [], []⟩
noncomputable def slices_Clone_int64_6661_b : Code := (Try.f57.body).getD .skip
noncomputable def slices_Clone_int64_6661_I : FnI := ⟨slices_Clone_int64_6661_b, Try.f57.results.toList, Try.f57.resultTypes.toList, []⟩
noncomputable def slices_Clone_int64_6661_out (_zp0 : Bool) (_p0 : (List Int)) : (List Int) → CallOut := fun r => ⟨(.ref (1, 0) []), [], [⟨false, (.sl (.int .i64)), .own, r⟩]⟩
set_option maxRecDepth 100000 in
theorem slices_Clone_int64_6661_eq : ∀ (zp0 : Bool) (p0 : (List Int)), denFn slices_Clone_int64_6661_V slices_Clone_int64_6661_I ⟨[(.nn zp0 (.int .i64) p0)], []⟩ = (slices_Clone_int64_6661 p0).run fun r => some (slices_Clone_int64_6661_out zp0 p0 r) := fun _ _ => by kernel_rfl
noncomputable def slices_Clone_int64_6661_G (av : List AV) (rs : List Root) : Tre CallOut :=
 asCons av fun a0_ av0 =>
 asEnd av0 <|
 asEnd rs <|
 asNn (.int .i64) a0_ fun z1 d2 =>
 .mat (cloneR d2) fun r => .ret (slices_Clone_int64_6661_out z1 d2 r)
noncomputable def slices_Clone_int64_6661_c : Ctr := ⟨[], fun ci => slices_Clone_int64_6661_G ci.args ci.roots, false⟩
theorem slices_Clone_int64_6661_env : EnvOK Try.prog .none slices_Clone_int64_6661_V := envOK_nil
set_option maxRecDepth 100000 in
theorem slices_Clone_int64_6661_ok : Contract Try.prog .none 57 slices_Clone_int64_6661_c := by
 have hl : LoopsOK slices_Clone_int64_6661_V [] slices_Clone_int64_6661_b := loopsOK_nil (by kernel_rfl)
 refine (contract_of (F := slices_Clone_int64_6661_I) tau_tys slices_Clone_int64_6661_env Try.func57 (by kernel_rfl) (by kernel_rfl) (by kernel_rfl) hl []).weaken ?_
 rintro ⟨av, rs⟩ co h
 have h : (slices_Clone_int64_6661_G av rs).run some = some co := h
 obtain ⟨a0_, av0, rfl, h_0⟩ := asCons_spec h
 obtain ⟨rfl, h_1⟩ := asEnd_spec h_0
 obtain ⟨rfl, h_2⟩ := asEnd_spec h_1
 obtain ⟨z1, d2, rfl, h_3⟩ := asNn_spec h_2
 exact fin_opt (slices_Clone_int64_6661_eq z1 d2) (slices_Clone_int64_6661_spec d2) h_3
end Go.Proofs.Ytkgekgfmnhccmaa

namespace Go.Proofs.Ytkgekgfmnhccmaa
open Go Go.Abs Go.Proofs
theorem slices_Clone_int64_nil (y : List Int) (h : cloneR ([] : List Int) = some y) : y = [] := (lim_some h).2.symm
noncomputable def slices_Clone_int64_G (av : List AV) (rs : List Root) : Tre CallOut :=
 asCons av fun a0_ av0 =>
 asEnd av0 <|
 asEnd rs <|
 asImm (.sl (.int .i64)) a0_ fun z2 d1 =>
 .mat (cloneR d1) fun r => .ret ⟨(.ref (1, 0) []), [], [⟨false, (.sl (.int .i64)), .own, r⟩]⟩
noncomputable def slices_Clone_int64_c : Ctr := ⟨[], fun ci => slices_Clone_int64_G ci.args ci.roots, false⟩
theorem slices_Clone_int64_ok : Contract Try.prog .none 57 slices_Clone_int64_c := by
 refine contract_nil (e := (.int .i64)) slices_Clone_int64_b930_ok slices_Clone_int64_6661_ok ?_
 rintro ⟨av, rs⟩ co h
 have h : (slices_Clone_int64_G av rs).run some = some co := h
 obtain ⟨a0_, av0, rfl, h_0⟩ := asCons_spec h
 obtain ⟨rfl, h_1⟩ := asEnd_spec h_0
 obtain ⟨rfl, h_2⟩ := asEnd_spec h_1
 obtain ⟨z2, d1, rfl, h_3⟩ := asImm_spec h_2
 refine ⟨z2, d1, rfl, ?_, ?_⟩
 ·exact h_3
 ·rintro rfl
  obtain ⟨y, h1, h2⟩ := mat_ret h_3
  have hy : y = [] := by
   have := slices_Clone_int64_nil y h1
   exact this
  subst hy
  rw [← h2]; rfl
end Go.Proofs.Ytkgekgfmnhccmaa

namespace Go.Proofs.Ytkgekgfmnhccmaa
open Go Go.Abs Go.Proofs
noncomputable def i_Net_at_l5 (h5_0_0 : (List Int)) (h5_0_1 : Int) (h5_0_4 : (List Int)) : (Int × (List Int)) → Tre ((Int × (List Int)) ⊕ (List Int)) := fun s5 =>
 .cond (decide (s5.1 < h5_0_1))
  (.ite (0 ≤ s5.1 ∧ s5.1 < (h5_0_4.length : Int)) <|
  .mat (h5_0_4[s5.1.toNat]?) fun x3 =>
  .ite (0 ≤ x3 ∧ x3 < (h5_0_0.length : Int)) <|
  .mat (h5_0_0[x3.toNat]?) fun x4 =>
  .ite ((s5.2.length + 1) * 8 ≤ appendMax ∧ 1 ≤ 8) <|
  .ret (.inl (iwrap .i64 (s5.1 + 1), s5.2 ++ ([x4]))))
  (.ret (.inr s5.2))
noncomputable def i_Net_at (p0 : TNet) (p1 : Int) (p2 : (List Int)) (p3 : (List Int)) : Tre (List Int) :=
 .cond (decide (p1 = 0))
  (.mat (cloneR p2) fun r1 =>
  .ret r1)
  (.mat (i_Net_into_F p0 p1) fun r2 =>
  .mat (loopF (i_Net_at_l5 p3 (r2.length : Int) r2) (0, [])) fun l5 =>
  .ret l5)
noncomputable def i_Net_at_F (p0 : TNet) (p1 : Int) (p2 : (List Int)) (p3 : (List Int)) : Option (List Int) := (i_Net_at p0 p1 p2 p3).run some
-- more
theorem NetP.two2 {n : TN6} (h : NetP n) : ∀ e ∈ n.2.2.2.1, e.length = 2 := by
 intro e he
 obtain ⟨i, hi⟩ := List.mem_iff_getElem?.1 he
 exact edgeOk_len (h.edges i e hi)
theorem intoV_len (es : List (List Int)) (a : Int) : (intoV es a).length ≤ es.length := by
 have := pickI_len (f := fun i e => if e1 e = a then some (i : Int) else none) es 0
 unfold intoV
 exact this
theorem inat_is {n : TN6} (h : NetP n) {node : Int} {ms car : List Int} (hm : ms.length ≤ 1000000) (hc : car.length = n.2.2.2.1.length) : i_Net_at_F n node ms car = some (atV n node ms car) := by
 have hil := intoV_len n.2.2.2.1 node
 have hE := h.len
 unfold i_Net_at_F i_Net_at atV
 rw [Tre.run_cond]
 by_cases h0 : node = 0
 ·rw [decide_eq_true h0, cond_true, if_pos h0, run_some_mat (show cloneR ms = some ms from lim_of (by omega))]
  rfl
 ·rw [decide_eq_false h0, cond_false, if_neg h0, run_some_mat (i_Net_into_is n h.len h.two2 node)]
  have key := fold_loop (xs := intoV n.2.2.2.1 node) (step := i_Net_at_l5 car ((intoV n.2.2.2.1 node).length : Int) (intoV n.2.2.2.1 node)) (γ := List Int) (fun (i : Nat) acc => ((i : Int), acc)) (fun _ acc x => .inl (acc ++ [car.getD x.toNat 0])) id (fun i acc => acc.length = i) (by
   intro i acc x hx hi
   have hlt := (List.getElem?_eq_some_iff.1 hx).1
   obtain ⟨j, rfl, hj⟩ := into_all h (List.mem_of_getElem? hx)
   have hcj := List.getElem?_eq_getElem (show j < car.length by omega)
   refine ⟨?_, fun a ha => ?_⟩
   ·unfold i_Net_at_l5
    dsimp only
    rw [Tre.run_cond, decide_eq_true (by omega), cond_true, Tre.run_ite, if_pos (by omega), Int.toNat_natCast, run_some_mat hx, Tre.run_ite, if_pos (by omega), Int.toNat_natCast, run_some_mat hcj, Tre.run_ite, if_pos (by unfold appendMax; omega), Tre.run_ret, iwrap_succ (by omega), getD_of hcj]
   ·cases ha; simp [hi]) (by
   intro acc _
   unfold i_Net_at_l5
   dsimp only
   rw [Tre.run_cond, decide_eq_false (by omega), cond_false]
   rfl) _ 0 [] rfl (Nat.zero_le _) rfl
  rw [foldE_app] at key
  have key : loopF (i_Net_at_l5 car ((intoV n.2.2.2.1 node).length : Int) (intoV n.2.2.2.1 node)) (0, []) = some ((intoV n.2.2.2.1 node).map fun x => car.getD x.toNat 0) := key
  rw [run_some_mat key]
  rfl
noncomputable def i_Net_at_V : Env := ⟨tau, [(57, slices_Clone_int64_c), (102, i_Net_into_c)], []⟩
noncomputable def i_Net_at_b : Code := (Try.f89.body).getD .skip
noncomputable def i_Net_at_l5_mk (z5_0 : Bool) (h5_0_0 : (List Int)) (h5_0_1 : Int) (h5_0_4 : (List Int)) : (Int × (List Int)) → St := fun x => stOf [(3, (.imm z5_0 (.sl (.int .i64)) h5_0_0)), (9, (.ref (11, 0) [])), (19, (.ref (21, 0) [])), (20, (.imm true (.int .i64) h5_0_1)), (21, (.imm true (.int .i64) x.1))] [((11, 0), some ⟨false, (.sl (.int .i64)), .own, x.2⟩), ((21, 0), some ⟨false, (.sl (.int .i64)), .own, h5_0_4⟩)]
noncomputable def i_Net_at_l5_out (_z5_0 : Bool) (_h5_0_0 : (List Int)) (_h5_0_1 : Int) (_h5_0_4 : (List Int)) : (List Int) → Ex × St := fun x => (.exit 0, stOf [(9, (.ref (11, 0) []))] [((11, 0), some ⟨false, (.sl (.int .i64)), .own, x⟩)])
noncomputable def i_Net_at_l5_D (s : St) : Tre (Ex × St) :=
 asImm (.sl (.int .i64)) (s.tmps 3) fun z3 d2 =>
 asRef (11, 0) [] (s.tmps 9) <|
 asRef (21, 0) [] (s.tmps 19) <|
 asImmZ true (.int .i64) (s.tmps 20) fun d7 =>
 asImmZ true (.int .i64) (s.tmps 21) fun d9 =>
 asRoot false (.sl (.int .i64)) (s.roots (11, 0)) fun m11 d12 =>
 asM .own m11 <|
 asRoot false (.sl (.int .i64)) (s.roots (21, 0)) fun m14 d15 =>
 asM .own m14 <|
 .mat (loopF (i_Net_at_l5 d2 d7 d15) (d9, d12)) fun x => .ret (i_Net_at_l5_out z3 d2 d7 d15 x)
noncomputable def i_Net_at_l5_L : LoopI := ⟨([3, 9, 19, 20, 21], [(11, 0), (21, 0)]), ([9], [(11, 0)]), i_Net_at_l5_D⟩
noncomputable def i_Net_at_A : List (Nat × LoopI) := [(5, i_Net_at_l5_L)]
set_option maxRecDepth 100000 in
theorem i_Net_at_l5_step : ∀ (z5_0 : Bool) (h5_0_0 : (List Int)) (h5_0_1 : Int) (h5_0_4 : (List Int)) (x : (Int × (List Int))) (c : St → Option (Ex × St)), den i_Net_at_V i_Net_at_A (loopAt i_Net_at_b 0) (i_Net_at_l5_mk z5_0 h5_0_0 h5_0_1 h5_0_4 x) (roundK i_Net_at_l5_L.kp i_Net_at_l5_L.kx c) = (i_Net_at_l5 h5_0_0 h5_0_1 h5_0_4 x).run (roundR (i_Net_at_l5_mk z5_0 h5_0_0 h5_0_1 h5_0_4) (i_Net_at_l5_out z5_0 h5_0_0 h5_0_1 h5_0_4) c) := fun _ _ _ _ _ _ => by
 kernel_rfl
theorem i_Net_at_l5_ok : LoopOK i_Net_at_V i_Net_at_A (loopAt i_Net_at_b 0) i_Net_at_l5_L := loopOK_of fun s e s' h => by
 generalize hs : restrict i_Net_at_l5_L.kp s = s1 at h
 have h : (i_Net_at_l5_D s1).run some = some (e, s') := h
 obtain ⟨z3, d2, e1, h_0⟩ := asImm_spec h
 obtain ⟨e4, h_1⟩ := asRef_spec h_0
 obtain ⟨e5, h_2⟩ := asRef_spec h_1
 obtain ⟨d7, e6, h_3⟩ := asImmZ_spec h_2
 obtain ⟨d9, e8, h_4⟩ := asImmZ_spec h_3
 obtain ⟨m11, d12, e10, h_5⟩ := asRoot_spec h_4
 obtain ⟨rfl, h_6⟩ := asM_spec h_5
 obtain ⟨m14, d15, e13, h_7⟩ := asRoot_spec h_6
 obtain ⟨rfl, h_8⟩ := asM_spec h_7
 obtain ⟨y, hy, hz⟩ := mat_ret h_8
 refine ⟨_, _, i_Net_at_l5_mk z3 d2 d7 d15, i_Net_at_l5_out z3 d2 d7 d15, i_Net_at_l5 d2 d7 d15, (d9, d12), y, ?_, hy, ?_, i_Net_at_l5_step z3 d2 d7 d15⟩
 ·subst hs; exact restrict_eq (T := [(3, (.imm z3 (.sl (.int .i64)) d2)), (9, (.ref (11, 0) [])), (19, (.ref (21, 0) [])), (20, (.imm true (.int .i64) d7)), (21, (.imm true (.int .i64) d9))]) (U := [((11, 0), some ⟨false, (.sl (.int .i64)), .own, d12⟩), ((21, 0), some ⟨false, (.sl (.int .i64)), .own, d15⟩)]) rfl rfl ⟨e1, e4, e5, e6, e8, trivial⟩ ⟨e10, e13, trivial⟩
 ·exact Option.some.inj hz
noncomputable def i_Net_at_I : FnI := ⟨i_Net_at_b, Try.f89.results.toList, Try.f89.resultTypes.toList, i_Net_at_A⟩
noncomputable def i_Net_at_out (_zp0 : Bool) (_zp1 : Bool) (_zp2 : Bool) (_p0 : TNet) (_p1 : Int) (_p2 : (List Int)) (_p3 : (List Int)) : (List Int) → CallOut := fun r => ⟨(.ref (1, 0) []), [], [⟨false, (.sl (.int .i64)), .own, r⟩]⟩
set_option maxRecDepth 100000 in
theorem i_Net_at_eq : ∀ (zp0 : Bool) (zp1 : Bool) (zp2 : Bool) (p0 : TNet) (p1 : Int) (p2 : (List Int)) (p3 : (List Int)), denFn i_Net_at_V i_Net_at_I ⟨[(.imm zp0 kNet p0), (.imm true (.int .i64) p1), (.imm zp1 (.sl (.int .i64)) p2), (.imm zp2 (.sl (.int .i64)) p3)], []⟩ = (i_Net_at p0 p1 p2 p3).run fun r => some (i_Net_at_out zp0 zp1 zp2 p0 p1 p2 p3 r) := fun _ _ _ _ _ _ _ => by kernel_rfl
noncomputable def i_Net_at_G (av : List AV) (rs : List Root) : Tre CallOut :=
 asCons av fun a0_ av0 =>
 asCons av0 fun a1_ av1 =>
 asCons av1 fun a2_ av2 =>
 asCons av2 fun a3_ av3 =>
 asEnd av3 <|
 asEnd rs <|
 asImm kNet a0_ fun z2 d1 =>
 asImmZ true (.int .i64) a1_ fun d3 =>
 asImm (.sl (.int .i64)) a2_ fun z5 d4 =>
 asImm (.sl (.int .i64)) a3_ fun z7 d6 =>
 .mat (i_Net_at_F d1 d3 d4 d6) fun r => .ret (i_Net_at_out z2 z5 z7 d1 d3 d4 d6 r)
noncomputable def i_Net_at_c : Ctr := ⟨[], fun ci => i_Net_at_G ci.args ci.roots, false⟩
theorem i_Net_at_env : EnvOK Try.prog .none i_Net_at_V := (envOK_cons slices_Clone_int64_ok ent57 (envOK_cons i_Net_into_ok ent102 envOK_nil))
set_option maxRecDepth 100000 in
theorem i_Net_at_ok : Contract Try.prog .none 89 i_Net_at_c := by
 have hl : LoopsOK i_Net_at_V i_Net_at_A i_Net_at_b := (loopsOK_all (n := 1) (by kernel_rfl) fun k hk => by
   match k, hk with
   | 0, _ => exact loopOK_at (id := 5) (L := i_Net_at_l5_L) (by kernel_rfl) (by kernel_rfl) i_Net_at_l5_ok)
 refine (contract_of (F := i_Net_at_I) tau_tys i_Net_at_env Try.func89 (by kernel_rfl) (by kernel_rfl) (by kernel_rfl) hl []).weaken ?_
 rintro ⟨av, rs⟩ co h
 have h : (i_Net_at_G av rs).run some = some co := h
 obtain ⟨a0_, av0, rfl, h_0⟩ := asCons_spec h
 obtain ⟨a1_, av1, rfl, h_1⟩ := asCons_spec h_0
 obtain ⟨a2_, av2, rfl, h_2⟩ := asCons_spec h_1
 obtain ⟨a3_, av3, rfl, h_3⟩ := asCons_spec h_2
 obtain ⟨rfl, h_4⟩ := asEnd_spec h_3
 obtain ⟨rfl, h_5⟩ := asEnd_spec h_4
 obtain ⟨z2, d1, rfl, h_6⟩ := asImm_spec h_5
 obtain ⟨d3, rfl, h_7⟩ := asImmZ_spec h_6
 obtain ⟨z5, d4, rfl, h_8⟩ := asImm_spec h_7
 obtain ⟨z7, d6, rfl, h_9⟩ := asImm_spec h_8
 exact fin_mat (i_Net_at_eq z2 z5 z7 d1 d3 d4 d6) h_9
end Go.Proofs.Ytkgekgfmnhccmaa

namespace Go.Proofs.Ytkgekgfmnhccmaa
open Go Go.Abs Go.Proofs
noncomputable def i_product_l2 : (Int × Int × Int) → Tre ((Int × Int × Int) ⊕ Int) := fun s2 =>
 .cond (decide (s2.2.1 > 0))
  (.cond (decide (iand .i64 s2.2.1 1 = 1))
   (.ret (.inl (ishl .i64 s2.1 1, ishr .i64 s2.2.1 1, ixor .i64 s2.2.2 s2.1)))
   (.ret (.inl (ishl .i64 s2.1 1, ishr .i64 s2.2.1 1, s2.2.2))))
  (.ret (.inr s2.2.2))
noncomputable def i_product (p0 : Int) (p1 : Int) : Tre Int :=
 .mat (loopF i_product_l2 (p0, p1, 0)) fun l1 =>
 .ret l1
noncomputable def i_product_F (p0 : Int) (p1 : Int) : Option Int := (i_product p0 p1).run some
noncomputable def i_product_V : Env := ⟨tau, [], []⟩
noncomputable def i_product_b : Code := (Try.f143.body).getD .skip
noncomputable def i_product_l2_mk : (Int × Int × Int) → St := fun x => stOf [(0, (.imm true (.int .i64) x.1)), (1, (.imm true (.int .i64) x.2.1)), (5, (.imm true (.int .i64) x.2.2))] []
noncomputable def i_product_l2_out : Int → Ex × St := fun x => (.exit 0, stOf [(5, (.imm true (.int .i64) x))] [])
noncomputable def i_product_l2_D (s : St) : Tre (Ex × St) :=
 asImmZ true (.int .i64) (s.tmps 0) fun d2 =>
 asImmZ true (.int .i64) (s.tmps 1) fun d4 =>
 asImmZ true (.int .i64) (s.tmps 5) fun d6 =>
 .mat (loopF i_product_l2 (d2, d4, d6)) fun x => .ret (i_product_l2_out x)
noncomputable def i_product_l2_L : LoopI := ⟨([0, 1, 5], []), ([5], []), i_product_l2_D⟩
noncomputable def i_product_A : List (Nat × LoopI) := [(2, i_product_l2_L)]
set_option maxRecDepth 100000 in
theorem i_product_l2_step : ∀ (x : (Int × Int × Int)) (c : St → Option (Ex × St)), den i_product_V i_product_A (loopAt i_product_b 0) (i_product_l2_mk x) (roundK i_product_l2_L.kp i_product_l2_L.kx c) = (i_product_l2 x).run (roundR (i_product_l2_mk) (i_product_l2_out) c) := fun _ _ => by
 kernel_rfl
theorem i_product_l2_ok : LoopOK i_product_V i_product_A (loopAt i_product_b 0) i_product_l2_L := loopOK_of fun s e s' h => by
 generalize hs : restrict i_product_l2_L.kp s = s1 at h
 have h : (i_product_l2_D s1).run some = some (e, s') := h
 obtain ⟨d2, e1, h_0⟩ := asImmZ_spec h
 obtain ⟨d4, e3, h_1⟩ := asImmZ_spec h_0
 obtain ⟨d6, e5, h_2⟩ := asImmZ_spec h_1
 obtain ⟨y, hy, hz⟩ := mat_ret h_2
 refine ⟨_, _, i_product_l2_mk, i_product_l2_out, i_product_l2, (d2, d4, d6), y, ?_, hy, ?_, i_product_l2_step⟩
 ·subst hs; exact restrict_eq (T := [(0, (.imm true (.int .i64) d2)), (1, (.imm true (.int .i64) d4)), (5, (.imm true (.int .i64) d6))]) (U := []) rfl rfl ⟨e1, e3, e5, trivial⟩ trivial
 ·exact Option.some.inj hz
noncomputable def i_product_I : FnI := ⟨i_product_b, Try.f143.results.toList, Try.f143.resultTypes.toList, i_product_A⟩
noncomputable def i_product_out (_p0 : Int) (_p1 : Int) : Int → CallOut := fun r => ⟨(.imm true (.int .i64) r), [], []⟩
set_option maxRecDepth 100000 in
theorem i_product_eq : ∀ (p0 : Int) (p1 : Int), denFn i_product_V i_product_I ⟨[(.imm true (.int .i64) p0), (.imm true (.int .i64) p1)], []⟩ = (i_product p0 p1).run fun r => some (i_product_out p0 p1 r) := fun _ _ => by kernel_rfl
noncomputable def i_product_G (av : List AV) (rs : List Root) : Tre CallOut :=
 asCons av fun a0_ av0 =>
 asCons av0 fun a1_ av1 =>
 asEnd av1 <|
 asEnd rs <|
 asImmZ true (.int .i64) a0_ fun d1 =>
 asImmZ true (.int .i64) a1_ fun d2 =>
 .mat (i_product_F d1 d2) fun r => .ret (i_product_out d1 d2 r)
noncomputable def i_product_c : Ctr := ⟨[], fun ci => i_product_G ci.args ci.roots, false⟩
theorem i_product_env : EnvOK Try.prog .none i_product_V := envOK_nil
set_option maxRecDepth 100000 in
theorem i_product_ok : Contract Try.prog .none 143 i_product_c := by
 have hl : LoopsOK i_product_V i_product_A i_product_b := (loopsOK_all (n := 1) (by kernel_rfl) fun k hk => by
   match k, hk with
   | 0, _ => exact loopOK_at (id := 2) (L := i_product_l2_L) (by kernel_rfl) (by kernel_rfl) i_product_l2_ok)
 refine (contract_of (F := i_product_I) tau_tys i_product_env Try.func143 (by kernel_rfl) (by kernel_rfl) (by kernel_rfl) hl []).weaken ?_
 rintro ⟨av, rs⟩ co h
 have h : (i_product_G av rs).run some = some co := h
 obtain ⟨a0_, av0, rfl, h_0⟩ := asCons_spec h
 obtain ⟨a1_, av1, rfl, h_1⟩ := asCons_spec h_0
 obtain ⟨rfl, h_2⟩ := asEnd_spec h_1
 obtain ⟨rfl, h_3⟩ := asEnd_spec h_2
 obtain ⟨d1, rfl, h_4⟩ := asImmZ_spec h_3
 obtain ⟨d2, rfl, h_5⟩ := asImmZ_spec h_4
 exact fin_mat (i_product_eq d1 d2) h_5
end Go.Proofs.Ytkgekgfmnhccmaa

namespace Go.Proofs.Ytkgekgfmnhccmaa
open Go Go.Abs Go.Proofs
noncomputable def i_Field_mul (p0 : (Int × (Int × Unit))) (p1 : Int) (p2 : Int) : Tre Int :=
 .mat (i_product_F p1 p2) fun r1 =>
 .mat (i_restOf_F r1 p0.2.1) fun r2 =>
 .ret r2
noncomputable def i_Field_mul_F (p0 : (Int × (Int × Unit))) (p1 : Int) (p2 : Int) : Option Int := (i_Field_mul p0 p1 p2).run some
-- more
set_option maxRecDepth 100000
theorem imul_2 : chk2 i_Field_mul_F mulN 1 2 = true := by kernel_rfl
theorem imul_3 : chk2 i_Field_mul_F mulN 1 3 = true := by kernel_rfl
theorem imul_7 : chk2 i_Field_mul_F mulN 2 7 = true := by kernel_rfl
theorem imul_11 : chk2 i_Field_mul_F mulN 3 11 = true := by kernel_rfl
theorem imul_13 : chk2 i_Field_mul_F mulN 3 13 = true := by kernel_rfl
theorem imul_19 : chk2 i_Field_mul_F mulN 4 19 = true := by kernel_rfl
theorem imul_25 : chk2 i_Field_mul_F mulN 4 25 = true := by kernel_rfl
theorem imul_31 : chk2 i_Field_mul_F mulN 4 31 = true := by kernel_rfl
theorem imul_37 : chk2 i_Field_mul_F mulN 5 37 = true := by kernel_rfl
theorem imul_41 : chk2 i_Field_mul_F mulN 5 41 = true := by kernel_rfl
theorem imul_47 : chk2 i_Field_mul_F mulN 5 47 = true := by kernel_rfl
theorem imul_55 : chk2 i_Field_mul_F mulN 5 55 = true := by kernel_rfl
theorem imul_59 : chk2 i_Field_mul_F mulN 5 59 = true := by kernel_rfl
theorem imul_61 : chk2 i_Field_mul_F mulN 5 61 = true := by kernel_rfl
theorem imul_is {f : TF3} (hf : fieldOk f = true) {a b : Int} (ha : inF f a) (hb : inF f b) : i_Field_mul_F f a b = some (mulI f a b) := by
 refine two_of (fun q hq => ?_) hf ha hb
 simp only [fieldN, List.mem_cons, List.not_mem_nil, or_false] at hq
 rcases hq with rfl | rfl | rfl | rfl | rfl | rfl | rfl | rfl | rfl | rfl | rfl | rfl | rfl | rfl
 ·exact imul_2
 ·exact imul_3
 ·exact imul_7
 ·exact imul_11
 ·exact imul_13
 ·exact imul_19
 ·exact imul_25
 ·exact imul_31
 ·exact imul_37
 ·exact imul_41
 ·exact imul_47
 ·exact imul_55
 ·exact imul_59
 ·exact imul_61
noncomputable def i_Field_mul_V : Env := ⟨tau, [(143, i_product_c), (142, i_restOf_c)], []⟩
noncomputable def i_Field_mul_b : Code := (Try.f109.body).getD .skip
noncomputable def i_Field_mul_I : FnI := ⟨i_Field_mul_b, Try.f109.results.toList, Try.f109.resultTypes.toList, []⟩
noncomputable def i_Field_mul_out (_p0 : (Int × (Int × Unit))) (_p1 : Int) (_p2 : Int) : Int → CallOut := fun r => ⟨(.imm true (.int .i64) r), [], []⟩
set_option maxRecDepth 100000 in
theorem i_Field_mul_eq : ∀ (p0 : (Int × (Int × Unit))) (p1 : Int) (p2 : Int), denFn i_Field_mul_V i_Field_mul_I ⟨[(.imm true kField p0), (.imm true (.int .i64) p1), (.imm true (.int .i64) p2)], []⟩ = (i_Field_mul p0 p1 p2).run fun r => some (i_Field_mul_out p0 p1 p2 r) := fun _ _ _ => by kernel_rfl
noncomputable def i_Field_mul_G (av : List AV) (rs : List Root) : Tre CallOut :=
 asCons av fun a0_ av0 =>
 asCons av0 fun a1_ av1 =>
 asCons av1 fun a2_ av2 =>
 asEnd av2 <|
 asEnd rs <|
 asImmZ true kField a0_ fun d1 =>
 asImmZ true (.int .i64) a1_ fun d2 =>
 asImmZ true (.int .i64) a2_ fun d3 =>
 .mat (i_Field_mul_F d1 d2 d3) fun r => .ret (i_Field_mul_out d1 d2 d3 r)
noncomputable def i_Field_mul_c : Ctr := ⟨[], fun ci => i_Field_mul_G ci.args ci.roots, false⟩
theorem i_Field_mul_env : EnvOK Try.prog .none i_Field_mul_V := (envOK_cons i_product_ok ent143 (envOK_cons i_restOf_ok ent142 envOK_nil))
set_option maxRecDepth 100000 in
theorem i_Field_mul_ok : Contract Try.prog .none 109 i_Field_mul_c := by
 have hl : LoopsOK i_Field_mul_V [] i_Field_mul_b := loopsOK_nil (by kernel_rfl)
 refine (contract_of (F := i_Field_mul_I) tau_tys i_Field_mul_env Try.func109 (by kernel_rfl) (by kernel_rfl) (by kernel_rfl) hl []).weaken ?_
 rintro ⟨av, rs⟩ co h
 have h : (i_Field_mul_G av rs).run some = some co := h
 obtain ⟨a0_, av0, rfl, h_0⟩ := asCons_spec h
 obtain ⟨a1_, av1, rfl, h_1⟩ := asCons_spec h_0
 obtain ⟨a2_, av2, rfl, h_2⟩ := asCons_spec h_1
 obtain ⟨rfl, h_3⟩ := asEnd_spec h_2
 obtain ⟨rfl, h_4⟩ := asEnd_spec h_3
 obtain ⟨d1, rfl, h_5⟩ := asImmZ_spec h_4
 obtain ⟨d2, rfl, h_6⟩ := asImmZ_spec h_5
 obtain ⟨d3, rfl, h_7⟩ := asImmZ_spec h_6
 exact fin_mat (i_Field_mul_eq d1 d2 d3) h_7
end Go.Proofs.Ytkgekgfmnhccmaa

namespace Go.Proofs.Ytkgekgfmnhccmaa
open Go Go.Abs Go.Proofs
noncomputable def i_Field_inner_l3 (h3_0_0 : (List Int)) (h3_0_2 : (List Int)) (h3_0_3 : Int) (h3_0_5 : (Int × (Int × Unit))) : (Int × Int) → Tre ((Int × Int) ⊕ Int) := fun s3 =>
 .cond (decide (s3.2 < h3_0_3))
  (.ite (0 ≤ s3.2 ∧ s3.2 < (h3_0_2.length : Int)) <|
  .mat (h3_0_2[s3.2.toNat]?) fun x1 =>
  .ite (0 ≤ s3.2 ∧ s3.2 < (h3_0_0.length : Int)) <|
  .mat (h3_0_0[s3.2.toNat]?) fun x2 =>
  .mat (i_Field_mul_F h3_0_5 x1 x2) fun r3 =>
  .ret (.inl (ixor .i64 s3.1 r3, iwrap .i64 (s3.2 + 1))))
  (.ret (.inr s3.1))
noncomputable def i_Field_inner (p0 : (Int × (Int × Unit))) (p1 : (List Int)) (p2 : (List Int)) : Tre Int :=
 .mat (loopF (i_Field_inner_l3 p2 p1 (p1.length : Int) p0) (0, 0)) fun l4 =>
 .ret l4
noncomputable def i_Field_inner_F (p0 : (Int × (Int × Unit))) (p1 : (List Int)) (p2 : (List Int)) : Option Int := (i_Field_inner p0 p1 p2).run some
-- more
theorem foldE_dot {f : TF3} (hf : fieldOk f = true) : ∀ (u w : List Int) (i : Nat) (acc : Int), inF f acc → (∀ x ∈ u, inF f x) → (∀ x ∈ w, inF f x) → foldE (γ := Int) (β := Int) (fun _ acc (p : Int × Int) => .inl (ixor .i64 acc (mulI f p.1 p.2))) id i acc (u.zip w) = ixor .i64 acc (dotV f u w) := by
 intro u
 induction u with
 | nil => intro w i acc h _ _; simp only [List.zip_nil_left, foldE, dotV, id]; rw [xorF_zero hf h]
 | cons x u ih =>
  intro w i acc h hu hw
  cases w with
  | nil => simp only [List.zip_nil_right, foldE, dotV, id]; rw [xorF_zero hf h]
  | cons y w =>
   have hu2 : ∀ x ∈ u, inF f x := fun z hz => hu z (List.mem_cons_of_mem _ hz)
   have hw2 : ∀ x ∈ w, inF f x := fun z hz => hw z (List.mem_cons_of_mem _ hz)
   have hm := mulI_in hf (hu x (List.mem_cons_self ..)) (hw y (List.mem_cons_self ..))
   simp only [List.zip_cons_cons, foldE, dotV]
   rw [ih w (i + 1) _ (inF_xor hf h hm) hu2 hw2, xorF_assoc hf h hm (dotV_in hf hu2 hw2)]
theorem inner_is {f : TF3} (hf : fieldOk f = true) {u w : List Int} (hl : u.length = w.length) (hn : u.length ≤ 1000000) (hu : ∀ x ∈ u, inF f x) (hw : ∀ x ∈ w, inF f x) : i_Field_inner_F f u w = some (dotV f u w) := by
 have key := fold_loop (xs := u.zip w) (step := i_Field_inner_l3 w u (u.length : Int) f) (γ := Int) (fun (i : Nat) (acc : Int) => (acc, (i : Int))) (fun _ acc p => .inl (ixor .i64 acc (mulI f p.1 p.2))) id (fun _ _ => True) (by
  intro i acc p hp _
  have hlt := (List.getElem?_eq_some_iff.1 hp).1
  rw [List.length_zip] at hlt
  obtain ⟨p1, p2⟩ := p
  rw [List.getElem?_zip_eq_some] at hp
  obtain ⟨h1, h2⟩ := hp
  refine ⟨?_, fun _ _ => trivial⟩
  unfold i_Field_inner_l3
  dsimp only
  rw [Tre.run_cond, decide_eq_true (by omega), cond_true, Tre.run_ite, if_pos (by omega), Int.toNat_natCast, run_some_mat h1, Tre.run_ite, if_pos (by omega), run_some_mat h2, run_some_mat (imul_is hf (hu _ (List.mem_of_getElem? h1)) (hw _ (List.mem_of_getElem? h2))), Tre.run_ret, iwrap_succ (by omega)]) (by
  intro acc _
  unfold i_Field_inner_l3
  dsimp only
  rw [Tre.run_cond, decide_eq_false (by rw [List.length_zip]; omega), cond_false]
  rfl) (u.zip w) 0 0 rfl (Nat.zero_le _) trivial
 rw [foldE_dot hf u w 0 0 inF_zero hu hw, zero_xorF hf (dotV_in hf hu hw)] at key
 have key : loopF (i_Field_inner_l3 w u (u.length : Int) f) (0, 0) = some (dotV f u w) := key
 unfold i_Field_inner_F i_Field_inner
 rw [run_some_mat key]
 rfl
noncomputable def i_Field_inner_V : Env := ⟨tau, [(109, i_Field_mul_c)], []⟩
noncomputable def i_Field_inner_b : Code := (Try.f134.body).getD .skip
noncomputable def i_Field_inner_l3_mk (z3_0 : Bool) (z3_1 : Bool) (h3_0_0 : (List Int)) (h3_0_2 : (List Int)) (h3_0_3 : Int) (h3_0_5 : (Int × (Int × Unit))) : (Int × Int) → St := fun x => stOf [(2, (.imm z3_0 (.sl (.int .i64)) h3_0_0)), (3, (.ptr (5, 0) [])), (7, (.imm true (.int .i64) x.1)), (10, (.imm z3_1 (.sl (.int .i64)) h3_0_2)), (11, (.imm true (.int .i64) h3_0_3)), (12, (.imm true (.int .i64) x.2))] [((5, 0), some ⟨true, kField, .own, h3_0_5⟩)]
noncomputable def i_Field_inner_l3_out (_z3_0 : Bool) (_z3_1 : Bool) (_h3_0_0 : (List Int)) (_h3_0_2 : (List Int)) (_h3_0_3 : Int) (_h3_0_5 : (Int × (Int × Unit))) : Int → Ex × St := fun x => (.exit 0, stOf [(7, (.imm true (.int .i64) x))] [])
noncomputable def i_Field_inner_l3_D (s : St) : Tre (Ex × St) :=
 asImm (.sl (.int .i64)) (s.tmps 2) fun z3 d2 =>
 asPtr (5, 0) [] (s.tmps 3) <|
 asImmZ true (.int .i64) (s.tmps 7) fun d6 =>
 asImm (.sl (.int .i64)) (s.tmps 10) fun z9 d8 =>
 asImmZ true (.int .i64) (s.tmps 11) fun d11 =>
 asImmZ true (.int .i64) (s.tmps 12) fun d13 =>
 asRoot true kField (s.roots (5, 0)) fun m15 d16 =>
 asM .own m15 <|
 .mat (loopF (i_Field_inner_l3 d2 d8 d11 d16) (d6, d13)) fun x => .ret (i_Field_inner_l3_out z3 z9 d2 d8 d11 d16 x)
noncomputable def i_Field_inner_l3_L : LoopI := ⟨([2, 3, 7, 10, 11, 12], [(5, 0)]), ([7], []), i_Field_inner_l3_D⟩
noncomputable def i_Field_inner_A : List (Nat × LoopI) := [(3, i_Field_inner_l3_L)]
set_option maxRecDepth 100000 in
theorem i_Field_inner_l3_step : ∀ (z3_0 : Bool) (z3_1 : Bool) (h3_0_0 : (List Int)) (h3_0_2 : (List Int)) (h3_0_3 : Int) (h3_0_5 : (Int × (Int × Unit))) (x : (Int × Int)) (c : St → Option (Ex × St)), den i_Field_inner_V i_Field_inner_A (loopAt i_Field_inner_b 0) (i_Field_inner_l3_mk z3_0 z3_1 h3_0_0 h3_0_2 h3_0_3 h3_0_5 x) (roundK i_Field_inner_l3_L.kp i_Field_inner_l3_L.kx c) = (i_Field_inner_l3 h3_0_0 h3_0_2 h3_0_3 h3_0_5 x).run (roundR (i_Field_inner_l3_mk z3_0 z3_1 h3_0_0 h3_0_2 h3_0_3 h3_0_5) (i_Field_inner_l3_out z3_0 z3_1 h3_0_0 h3_0_2 h3_0_3 h3_0_5) c) := fun _ _ _ _ _ _ _ _ => by
 kernel_rfl
theorem i_Field_inner_l3_ok : LoopOK i_Field_inner_V i_Field_inner_A (loopAt i_Field_inner_b 0) i_Field_inner_l3_L := loopOK_of fun s e s' h => by
 generalize hs : restrict i_Field_inner_l3_L.kp s = s1 at h
 have h : (i_Field_inner_l3_D s1).run some = some (e, s') := h
 obtain ⟨z3, d2, e1, h_0⟩ := asImm_spec h
 obtain ⟨e4, h_1⟩ := asPtr_spec h_0
 obtain ⟨d6, e5, h_2⟩ := asImmZ_spec h_1
 obtain ⟨z9, d8, e7, h_3⟩ := asImm_spec h_2
 obtain ⟨d11, e10, h_4⟩ := asImmZ_spec h_3
 obtain ⟨d13, e12, h_5⟩ := asImmZ_spec h_4
 obtain ⟨m15, d16, e14, h_6⟩ := asRoot_spec h_5
 obtain ⟨rfl, h_7⟩ := asM_spec h_6
 obtain ⟨y, hy, hz⟩ := mat_ret h_7
 refine ⟨_, _, i_Field_inner_l3_mk z3 z9 d2 d8 d11 d16, i_Field_inner_l3_out z3 z9 d2 d8 d11 d16, i_Field_inner_l3 d2 d8 d11 d16, (d6, d13), y, ?_, hy, ?_, i_Field_inner_l3_step z3 z9 d2 d8 d11 d16⟩
 ·subst hs; exact restrict_eq (T := [(2, (.imm z3 (.sl (.int .i64)) d2)), (3, (.ptr (5, 0) [])), (7, (.imm true (.int .i64) d6)), (10, (.imm z9 (.sl (.int .i64)) d8)), (11, (.imm true (.int .i64) d11)), (12, (.imm true (.int .i64) d13))]) (U := [((5, 0), some ⟨true, kField, .own, d16⟩)]) rfl rfl ⟨e1, e4, e5, e7, e10, e12, trivial⟩ ⟨e14, trivial⟩
 ·exact Option.some.inj hz
noncomputable def i_Field_inner_I : FnI := ⟨i_Field_inner_b, Try.f134.results.toList, Try.f134.resultTypes.toList, i_Field_inner_A⟩
noncomputable def i_Field_inner_out (_zp0 : Bool) (_zp1 : Bool) (_p0 : (Int × (Int × Unit))) (_p1 : (List Int)) (_p2 : (List Int)) : Int → CallOut := fun r => ⟨(.imm true (.int .i64) r), [], []⟩
set_option maxRecDepth 100000 in
theorem i_Field_inner_eq : ∀ (zp0 : Bool) (zp1 : Bool) (p0 : (Int × (Int × Unit))) (p1 : (List Int)) (p2 : (List Int)), denFn i_Field_inner_V i_Field_inner_I ⟨[(.imm true kField p0), (.imm zp0 (.sl (.int .i64)) p1), (.imm zp1 (.sl (.int .i64)) p2)], []⟩ = (i_Field_inner p0 p1 p2).run fun r => some (i_Field_inner_out zp0 zp1 p0 p1 p2 r) := fun _ _ _ _ _ => by kernel_rfl
noncomputable def i_Field_inner_G (av : List AV) (rs : List Root) : Tre CallOut :=
 asCons av fun a0_ av0 =>
 asCons av0 fun a1_ av1 =>
 asCons av1 fun a2_ av2 =>
 asEnd av2 <|
 asEnd rs <|
 asImmZ true kField a0_ fun d1 =>
 asImm (.sl (.int .i64)) a1_ fun z3 d2 =>
 asImm (.sl (.int .i64)) a2_ fun z5 d4 =>
 .mat (i_Field_inner_F d1 d2 d4) fun r => .ret (i_Field_inner_out z3 z5 d1 d2 d4 r)
noncomputable def i_Field_inner_c : Ctr := ⟨[], fun ci => i_Field_inner_G ci.args ci.roots, false⟩
theorem i_Field_inner_env : EnvOK Try.prog .none i_Field_inner_V := (envOK_cons i_Field_mul_ok ent109 envOK_nil)
set_option maxRecDepth 100000 in
theorem i_Field_inner_ok : Contract Try.prog .none 134 i_Field_inner_c := by
 have hl : LoopsOK i_Field_inner_V i_Field_inner_A i_Field_inner_b := (loopsOK_all (n := 1) (by kernel_rfl) fun k hk => by
   match k, hk with
   | 0, _ => exact loopOK_at (id := 3) (L := i_Field_inner_l3_L) (by kernel_rfl) (by kernel_rfl) i_Field_inner_l3_ok)
 refine (contract_of (F := i_Field_inner_I) tau_tys i_Field_inner_env Try.func134 (by kernel_rfl) (by kernel_rfl) (by kernel_rfl) hl []).weaken ?_
 rintro ⟨av, rs⟩ co h
 have h : (i_Field_inner_G av rs).run some = some co := h
 obtain ⟨a0_, av0, rfl, h_0⟩ := asCons_spec h
 obtain ⟨a1_, av1, rfl, h_1⟩ := asCons_spec h_0
 obtain ⟨a2_, av2, rfl, h_2⟩ := asCons_spec h_1
 obtain ⟨rfl, h_3⟩ := asEnd_spec h_2
 obtain ⟨rfl, h_4⟩ := asEnd_spec h_3
 obtain ⟨d1, rfl, h_5⟩ := asImmZ_spec h_4
 obtain ⟨z3, d2, rfl, h_6⟩ := asImm_spec h_5
 obtain ⟨z5, d4, rfl, h_7⟩ := asImm_spec h_6
 exact fin_mat (i_Field_inner_eq z3 z5 d1 d2 d4) h_7
end Go.Proofs.Ytkgekgfmnhccmaa

namespace Go.Proofs.Ytkgekgfmnhccmaa
open Go Go.Abs Go.Proofs
noncomputable def i_Net_carried_l3 (h3_0_0 : (List Int)) (h3_0_1 : (List Int)) (h3_0_2 : (List (List Int))) (h3_0_3 : Int) (h3_0_5 : TNet) : (Int × (List Int)) → Tre ((Int × (List Int)) ⊕ (List Int)) := fun s3 =>
 .cond (decide (s3.1 < h3_0_3))
  (.ite (0 ≤ s3.1 ∧ s3.1 < (h3_0_2.length : Int)) <|
  .mat (h3_0_2[s3.1.toNat]?) fun x1 =>
  .ite (0 ≤ s3.1 ∧ s3.1 < (h3_0_5.2.2.2.2.1.length : Int)) <|
  .mat (h3_0_5.2.2.2.2.1[s3.1.toNat]?) fun x2 =>
  .ite ((0 : Int) ≤ 0 ∧ (0 : Int) < (x1.length : Int)) <|
  .mat (x1[0]?) fun x3 =>
  .mat (i_Net_at_F h3_0_5 x3 h3_0_0 s3.2) fun r4 =>
  .mat (i_Field_inner_F h3_0_5.1 x2 r4) fun r5 =>
  .ite (0 ≤ s3.1 ∧ s3.1 < (h3_0_1.length : Int)) <|
  .mat (h3_0_1[s3.1.toNat]?) fun x6 =>
  .ite (0 ≤ s3.1 ∧ s3.1 < (s3.2.length : Int)) <|
  .mat (s3.2[s3.1.toNat]?) fun _ =>
  let v8 := s3.2.set s3.1.toNat (ixor .i64 r5 x6)
  .ret (.inl (iwrap .i64 (s3.1 + 1), v8)))
  (.ret (.inr s3.2))
noncomputable def i_Net_carried (p0 : TNet) (p1 : (List Int)) (p2 : (List Int)) : Tre (List Int) :=
 .ite (((.int .i64) : K) = (.int .i64) ∧ 0 ≤ (p0.2.2.2.1.length : Int) ∧ (p0.2.2.2.1.length : Int) = (p0.2.2.2.1.length : Int) ∧ (p0.2.2.2.1.length : Int) * (8 : Nat) ≤ 140737488355328 ∧ 1 ≤ 8) <|
 .mat (loopF (i_Net_carried_l3 p1 p2 p0.2.2.2.1 (p0.2.2.2.1.length : Int) p0) (0, List.replicate (p0.2.2.2.1.length : Int).toNat (0 : Int))) fun l9 =>
 .ret l9
noncomputable def i_Net_carried_F (p0 : TNet) (p1 : (List Int)) (p2 : (List Int)) : Option (List Int) := (i_Net_carried p0 p1 p2).run some
-- more
theorem atV_len {n : TN6} (h : NetP n) {i : Nat} (hi : i < n.2.2.2.1.length) {ms car : List Int} (hm : ms.length = messN n) : (atV n (edgeA n i) ms car).length = (edgeC n i).length := by
 have h1 := (edgeC_ok h hi).2.1
 have h2 := (mess_ok h).1
 unfold hasV at h1
 unfold atV
 split
 ·rename_i h0; rw [if_pos h0] at h1; omega
 ·rename_i h0; rw [if_neg h0] at h1; rw [List.length_map]; omega
theorem atV_in {n : TN6} {node : Int} {ms car : List Int} (hm : ∀ x ∈ ms, inF n.1 x) (hc : ∀ x ∈ car, inF n.1 x) : ∀ x ∈ atV n node ms car, inF n.1 x := by
 intro x hx
 unfold atV at hx
 split at hx
 ·exact hm x hx
 ·obtain ⟨y, _, rfl⟩ := List.mem_map.1 hx
  rw [List.getD_eq_getElem?_getD]
  cases hg : car[y.toNat]? with
  | none => exact inF_zero
  | some z => exact hc z (List.mem_of_getElem? hg)
theorem atV_pre {n : TN6} (h : NetP n) {i : Nat} (hi : i < n.2.2.2.1.length) {ms car : List Int} (hc : car.length = i) (l : List Int) : atV n (edgeA n i) ms (car ++ l) = atV n (edgeA n i) ms car := by
 obtain ⟨e, he, ha, _⟩ := edgeA_ok h hi
 unfold atV
 split
 ·rfl
 ·refine List.map_congr_left fun x hx => ?_
  rw [ha] at hx
  obtain ⟨j, rfl, hj⟩ := into_lt h he hx
  rw [Int.toNat_natCast, List.getD_eq_getElem?_getD, List.getD_eq_getElem?_getD, List.getElem?_append_left (by omega)]
theorem carV_in {n : TN6} (h : NetP n) {ms es : List Int} (hm : okV n.1 (messN n) ms) (he : ∀ x ∈ es, inF n.1 x) : ∀ i, i ≤ n.2.2.2.1.length → ∀ x ∈ carV n ms es i, inF n.1 x := by
 intro i
 induction i with
 | zero => intro _ x hx; cases hx
 | succ i ih =>
  intro hi x hx
  have ih := ih (by omega)
  rcases List.mem_append.1 hx with hx | hx
  ·exact ih x hx
  ·simp only [List.mem_singleton] at hx
   subst hx
   refine inF_xor h.field (dotV_in h.field (edgeC_ok h (by omega)).2.2 (atV_in hm.2 ih)) ?_
   rw [List.getD_eq_getElem?_getD]
   cases hg : es[i]? with
   | none => exact inF_zero
   | some z => exact he z (List.mem_of_getElem? hg)
theorem carried_loop {n : TN6} (h : NetP n) {ms es : List Int} (hm : okV n.1 (messN n) ms) (he : ∀ x ∈ es, inF n.1 x) (hel : es.length = n.2.2.2.1.length) : ∀ m i, i + m = n.2.2.2.1.length →
  loopF (i_Net_carried_l3 ms es n.2.2.2.1 (n.2.2.2.1.length : Int) n) ((i : Int), carV n ms es i ++ List.replicate m 0) = some (carV n ms es n.2.2.2.1.length) := by
 intro m
 have hE := h.len
 induction m with
 | zero =>
  intro i hi
  have hi : i = n.2.2.2.1.length := hi
  rw [← hi]
  refine loopF_done ?_
  unfold i_Net_carried_l3
  rw [hi]
  rw [run_out]
  simp
  rfl
 | succ m ih =>
  intro i hi
  obtain ⟨e, he1, ha, he0, hel2⟩ := edgeA_ok h (i := i) (by omega)
  obtain ⟨hc1, hc2, hc3⟩ := edgeC_ok h (i := i) (by omega)
  have hci := carV_in h hm he i (by omega)
  have hlen := carV_len n ms es i
  have hmm := (mess_ok h).2.2
  rw [← ih (i + 1) (by omega)]
  refine loopF_step ?_
  have hee := List.getElem?_eq_getElem (show i < es.length by omega)
  have hin : ∀ x ∈ carV n ms es i ++ List.replicate (m + 1) (0 : Int), inF n.1 x := by
   intro x hx
   rcases List.mem_append.1 hx with hx | hx
   ·exact hci x hx
   ·rw [(List.mem_replicate.1 hx).2]; exact inF_zero
  have hat := inat_is h (node := e0 e) (ms := ms) (car := carV n ms es i ++ List.replicate (m + 1) 0) (by rw [hm.1]; omega) (by simp [hlen]; omega)
  rw [← ha] at hat
  have hlr := atV_len h (i := i) (by omega) (ms := ms) (car := carV n ms es i ++ List.replicate (m + 1) 0) hm.1
  have hcl : (edgeC n i).length ≤ 14 := by have := hasV_le n h.mess.2 h.len (edgeA n i); omega
  have hout : (carV n ms es i ++ List.replicate (m + 1) (0 : Int))[i]? = some 0 := by
   rw [List.getElem?_append_right (by omega), hlen, Nat.sub_self]; rfl
  unfold i_Net_carried_l3
  dsimp only
  rw [Tre.run_cond, decide_eq_true (by omega), cond_true, Tre.run_ite, if_pos (by omega), Int.toNat_natCast, run_some_mat he1, Tre.run_ite, if_pos (by rw [h.clen]; omega), run_some_mat hc1, Tre.run_ite, if_pos (by omega), run_some_mat he0, ← ha, run_some_mat hat]
  rw [run_some_mat (inner_is h.field (by rw [hlr]) (by omega) hc3 (atV_in hm.2 hin)), Tre.run_ite, if_pos (by omega), run_some_mat hee, Tre.run_ite, if_pos (by simp [hlen]; omega), run_some_mat hout, Tre.run_ret, iwrap_succ (by omega), atV_pre h (by omega) hlen]
  have : (carV n ms es i ++ List.replicate (m + 1) 0).set i (ixor .i64 (dotV n.1 (edgeC n i) (atV n (edgeA n i) ms (carV n ms es i))) es[i]) = carV n ms es (i + 1) ++ List.replicate m 0 := by
   rw [List.set_append_right _ _ (by omega), hlen, Nat.sub_self, show carV n ms es (i + 1) = carV n ms es i ++ [ixor .i64 (dotV n.1 (edgeC n i) (atV n (edgeA n i) ms (carV n ms es i))) (es.getD i 0)] from rfl, getD_of hee, List.append_assoc]
   rfl
  rw [this]
theorem carried_is {n : TN6} (h : NetP n) {ms es : List Int} (hm : okV n.1 (messN n) ms) (he : ∀ x ∈ es, inF n.1 x) (hel : es.length = n.2.2.2.1.length) : i_Net_carried_F n ms es = some (carriedV n ms es) := by
 have hE := h.len
 have hl := carried_loop h hm he hel n.2.2.2.1.length 0 (by omega)
 have hl : loopF (i_Net_carried_l3 ms es n.2.2.2.1 (n.2.2.2.1.length : Int) n) (0, List.replicate n.2.2.2.1.length 0) = some (carriedV n ms es) := by
  rw [show carV n ms es 0 = [] from rfl, List.nil_append] at hl
  exact hl
 unfold i_Net_carried_F i_Net_carried
 rw [Tre.run_ite, if_pos ⟨rfl, by omega, rfl, by omega, by decide⟩, Int.toNat_natCast, run_some_mat hl]
 rfl
noncomputable def i_Net_carried_V : Env := ⟨tau, [(89, i_Net_at_c), (134, i_Field_inner_c)], []⟩
noncomputable def i_Net_carried_b : Code := (Try.f90.body).getD .skip
noncomputable def i_Net_carried_l3_mk (z3_0 : Bool) (z3_1 : Bool) (z3_2 : Bool) (z3_3 : Bool) (h3_0_0 : (List Int)) (h3_0_1 : (List Int)) (h3_0_2 : (List (List Int))) (h3_0_3 : Int) (h3_0_5 : TNet) : (Int × (List Int)) → St := fun x => stOf [(1, (.imm z3_0 (.sl (.int .i64)) h3_0_0)), (2, (.imm z3_1 (.sl (.int .i64)) h3_0_1)), (3, (.ptr (5, 0) [])), (7, (.ref (9, 0) [])), (15, (.imm z3_2 (.sl (.sl (.int .i64))) h3_0_2)), (16, (.imm true (.int .i64) h3_0_3)), (17, (.imm true (.int .i64) x.1))] [((5, 0), some ⟨true, kNet, (.imm z3_3), h3_0_5⟩), ((9, 0), some ⟨false, (.sl (.int .i64)), .own, x.2⟩)]
noncomputable def i_Net_carried_l3_out (_z3_0 : Bool) (_z3_1 : Bool) (_z3_2 : Bool) (_z3_3 : Bool) (_h3_0_0 : (List Int)) (_h3_0_1 : (List Int)) (_h3_0_2 : (List (List Int))) (_h3_0_3 : Int) (_h3_0_5 : TNet) : (List Int) → Ex × St := fun x => (.exit 0, stOf [(7, (.ref (9, 0) []))] [((9, 0), some ⟨false, (.sl (.int .i64)), .own, x⟩)])
noncomputable def i_Net_carried_l3_D (s : St) : Tre (Ex × St) :=
 asImm (.sl (.int .i64)) (s.tmps 1) fun z3 d2 =>
 asImm (.sl (.int .i64)) (s.tmps 2) fun z6 d5 =>
 asPtr (5, 0) [] (s.tmps 3) <|
 asRef (9, 0) [] (s.tmps 7) <|
 asImm (.sl (.sl (.int .i64))) (s.tmps 15) fun z11 d10 =>
 asImmZ true (.int .i64) (s.tmps 16) fun d13 =>
 asImmZ true (.int .i64) (s.tmps 17) fun d15 =>
 asRoot true kNet (s.roots (5, 0)) fun m17 d18 =>
 asMImm m17 fun z19 =>
 asRoot false (.sl (.int .i64)) (s.roots (9, 0)) fun m21 d22 =>
 asM .own m21 <|
 .mat (loopF (i_Net_carried_l3 d2 d5 d10 d13 d18) (d15, d22)) fun x => .ret (i_Net_carried_l3_out z3 z6 z11 z19 d2 d5 d10 d13 d18 x)
noncomputable def i_Net_carried_l3_L : LoopI := ⟨([1, 2, 3, 7, 15, 16, 17], [(5, 0), (9, 0)]), ([7], [(9, 0)]), i_Net_carried_l3_D⟩
noncomputable def i_Net_carried_A : List (Nat × LoopI) := [(3, i_Net_carried_l3_L)]
set_option maxRecDepth 100000 in
theorem i_Net_carried_l3_step : ∀ (z3_0 : Bool) (z3_1 : Bool) (z3_2 : Bool) (z3_3 : Bool) (h3_0_0 : (List Int)) (h3_0_1 : (List Int)) (h3_0_2 : (List (List Int))) (h3_0_3 : Int) (h3_0_5 : TNet) (x : (Int × (List Int))) (c : St → Option (Ex × St)), den i_Net_carried_V i_Net_carried_A (loopAt i_Net_carried_b 0) (i_Net_carried_l3_mk z3_0 z3_1 z3_2 z3_3 h3_0_0 h3_0_1 h3_0_2 h3_0_3 h3_0_5 x) (roundK i_Net_carried_l3_L.kp i_Net_carried_l3_L.kx c) = (i_Net_carried_l3 h3_0_0 h3_0_1 h3_0_2 h3_0_3 h3_0_5 x).run (roundR (i_Net_carried_l3_mk z3_0 z3_1 z3_2 z3_3 h3_0_0 h3_0_1 h3_0_2 h3_0_3 h3_0_5) (i_Net_carried_l3_out z3_0 z3_1 z3_2 z3_3 h3_0_0 h3_0_1 h3_0_2 h3_0_3 h3_0_5) c) := fun _ _ _ _ _ _ _ _ _ _ _ => by
 kernel_rfl
theorem i_Net_carried_l3_ok : LoopOK i_Net_carried_V i_Net_carried_A (loopAt i_Net_carried_b 0) i_Net_carried_l3_L := loopOK_of fun s e s' h => by
 generalize hs : restrict i_Net_carried_l3_L.kp s = s1 at h
 have h : (i_Net_carried_l3_D s1).run some = some (e, s') := h
 obtain ⟨z3, d2, e1, h_0⟩ := asImm_spec h
 obtain ⟨z6, d5, e4, h_1⟩ := asImm_spec h_0
 obtain ⟨e7, h_2⟩ := asPtr_spec h_1
 obtain ⟨e8, h_3⟩ := asRef_spec h_2
 obtain ⟨z11, d10, e9, h_4⟩ := asImm_spec h_3
 obtain ⟨d13, e12, h_5⟩ := asImmZ_spec h_4
 obtain ⟨d15, e14, h_6⟩ := asImmZ_spec h_5
 obtain ⟨m17, d18, e16, h_7⟩ := asRoot_spec h_6
 obtain ⟨z19, rfl, h_8⟩ := asMImm_spec h_7
 obtain ⟨m21, d22, e20, h_9⟩ := asRoot_spec h_8
 obtain ⟨rfl, h_10⟩ := asM_spec h_9
 obtain ⟨y, hy, hz⟩ := mat_ret h_10
 refine ⟨_, _, i_Net_carried_l3_mk z3 z6 z11 z19 d2 d5 d10 d13 d18, i_Net_carried_l3_out z3 z6 z11 z19 d2 d5 d10 d13 d18, i_Net_carried_l3 d2 d5 d10 d13 d18, (d15, d22), y, ?_, hy, ?_, i_Net_carried_l3_step z3 z6 z11 z19 d2 d5 d10 d13 d18⟩
 ·subst hs; exact restrict_eq (T := [(1, (.imm z3 (.sl (.int .i64)) d2)), (2, (.imm z6 (.sl (.int .i64)) d5)), (3, (.ptr (5, 0) [])), (7, (.ref (9, 0) [])), (15, (.imm z11 (.sl (.sl (.int .i64))) d10)), (16, (.imm true (.int .i64) d13)), (17, (.imm true (.int .i64) d15))]) (U := [((5, 0), some ⟨true, kNet, (.imm z19), d18⟩), ((9, 0), some ⟨false, (.sl (.int .i64)), .own, d22⟩)]) rfl rfl ⟨e1, e4, e7, e8, e9, e12, e14, trivial⟩ ⟨e16, e20, trivial⟩
 ·exact Option.some.inj hz
noncomputable def i_Net_carried_I : FnI := ⟨i_Net_carried_b, Try.f90.results.toList, Try.f90.resultTypes.toList, i_Net_carried_A⟩
noncomputable def i_Net_carried_out (_zp0 : Bool) (_zp1 : Bool) (_zp2 : Bool) (_p0 : TNet) (_p1 : (List Int)) (_p2 : (List Int)) : (List Int) → CallOut := fun r => ⟨(.ref (1, 0) []), [], [⟨false, (.sl (.int .i64)), .own, r⟩]⟩
set_option maxRecDepth 100000 in
theorem i_Net_carried_eq : ∀ (zp0 : Bool) (zp1 : Bool) (zp2 : Bool) (p0 : TNet) (p1 : (List Int)) (p2 : (List Int)), denFn i_Net_carried_V i_Net_carried_I ⟨[(.imm zp0 kNet p0), (.imm zp1 (.sl (.int .i64)) p1), (.imm zp2 (.sl (.int .i64)) p2)], []⟩ = (i_Net_carried p0 p1 p2).run fun r => some (i_Net_carried_out zp0 zp1 zp2 p0 p1 p2 r) := fun _ _ _ _ _ _ => by kernel_rfl
noncomputable def i_Net_carried_G (av : List AV) (rs : List Root) : Tre CallOut :=
 asCons av fun a0_ av0 =>
 asCons av0 fun a1_ av1 =>
 asCons av1 fun a2_ av2 =>
 asEnd av2 <|
 asEnd rs <|
 asImm kNet a0_ fun z2 d1 =>
 asImm (.sl (.int .i64)) a1_ fun z4 d3 =>
 asImm (.sl (.int .i64)) a2_ fun z6 d5 =>
 .mat (i_Net_carried_F d1 d3 d5) fun r => .ret (i_Net_carried_out z2 z4 z6 d1 d3 d5 r)
noncomputable def i_Net_carried_c : Ctr := ⟨[], fun ci => i_Net_carried_G ci.args ci.roots, false⟩
theorem i_Net_carried_env : EnvOK Try.prog .none i_Net_carried_V := (envOK_cons i_Net_at_ok ent89 (envOK_cons i_Field_inner_ok ent134 envOK_nil))
set_option maxRecDepth 100000 in
theorem i_Net_carried_ok : Contract Try.prog .none 90 i_Net_carried_c := by
 have hl : LoopsOK i_Net_carried_V i_Net_carried_A i_Net_carried_b := (loopsOK_all (n := 1) (by kernel_rfl) fun k hk => by
   match k, hk with
   | 0, _ => exact loopOK_at (id := 3) (L := i_Net_carried_l3_L) (by kernel_rfl) (by kernel_rfl) i_Net_carried_l3_ok)
 refine (contract_of (F := i_Net_carried_I) tau_tys i_Net_carried_env Try.func90 (by kernel_rfl) (by kernel_rfl) (by kernel_rfl) hl []).weaken ?_
 rintro ⟨av, rs⟩ co h
 have h : (i_Net_carried_G av rs).run some = some co := h
 obtain ⟨a0_, av0, rfl, h_0⟩ := asCons_spec h
 obtain ⟨a1_, av1, rfl, h_1⟩ := asCons_spec h_0
 obtain ⟨a2_, av2, rfl, h_2⟩ := asCons_spec h_1
 obtain ⟨rfl, h_3⟩ := asEnd_spec h_2
 obtain ⟨rfl, h_4⟩ := asEnd_spec h_3
 obtain ⟨z2, d1, rfl, h_5⟩ := asImm_spec h_4
 obtain ⟨z4, d3, rfl, h_6⟩ := asImm_spec h_5
 obtain ⟨z6, d5, rfl, h_7⟩ := asImm_spec h_6
 exact fin_mat (i_Net_carried_eq z2 z4 z6 d1 d3 d5) h_7
end Go.Proofs.Ytkgekgfmnhccmaa

namespace Go.Proofs.Ytkgekgfmnhccmaa
open Go Go.Abs Go.Proofs
noncomputable def i_DeliveredWith (p0 : TNet) (p1 : (List Int)) (p2 : (List Int)) (p3 : Int) : Tre (Int × (List Int)) :=
 .mat (i_nodeCode_i_DeliveredWithc1_F p0 p3 p1 p0 p2) fun r1 =>
 .cond (!decide (r1 = 0))
  (.ret (r1, []))
  (.mat (i_Net_carried_F p0 p1 p2) fun r2 =>
  .mat (i_Net_at_F p0 p3 p1 r2) fun r3 =>
  .ret (0, r3))
noncomputable def i_DeliveredWith_F (p0 : TNet) (p1 : (List Int)) (p2 : (List Int)) (p3 : Int) : Option (Int × (List Int)) := (i_DeliveredWith p0 p1 p2 p3).run some
noncomputable def i_DeliveredWith_V : Env := ⟨tau, [(48, i_nodeCode_i_DeliveredWithc1_c), (90, i_Net_carried_c), (89, i_Net_at_c)], []⟩
noncomputable def i_DeliveredWith_b : Code := (Try.f41.body).getD .skip
noncomputable def i_DeliveredWith_I : FnI := ⟨i_DeliveredWith_b, Try.f41.results.toList, Try.f41.resultTypes.toList, []⟩
noncomputable def i_DeliveredWith_out (_zp0 : Bool) (_zp1 : Bool) (_zp2 : Bool) (_p0 : TNet) (_p1 : (List Int)) (_p2 : (List Int)) (_p3 : Int) : (Int × (List Int)) → CallOut := fun r => ⟨(.tcons (.ref (1, 0) []) (.tcons (.imm true (.int .i64) r.1) .tnil)), [], [⟨false, (.sl (.int .i64)), .own, r.2⟩]⟩
set_option maxRecDepth 100000 in
theorem i_DeliveredWith_eq : ∀ (zp0 : Bool) (zp1 : Bool) (zp2 : Bool) (p0 : TNet) (p1 : (List Int)) (p2 : (List Int)) (p3 : Int), denFn i_DeliveredWith_V i_DeliveredWith_I ⟨[(.imm zp0 kNet p0), (.imm zp1 (.sl (.int .i64)) p1), (.imm zp2 (.sl (.int .i64)) p2), (.imm true (.int .i64) p3)], []⟩ = (i_DeliveredWith p0 p1 p2 p3).run fun r => some (i_DeliveredWith_out zp0 zp1 zp2 p0 p1 p2 p3 r) := fun _ _ _ _ _ _ _ => by kernel_rfl
noncomputable def i_DeliveredWith_G (av : List AV) (rs : List Root) : Tre CallOut :=
 asCons av fun a0_ av0 =>
 asCons av0 fun a1_ av1 =>
 asCons av1 fun a2_ av2 =>
 asCons av2 fun a3_ av3 =>
 asEnd av3 <|
 asEnd rs <|
 asImm kNet a0_ fun z2 d1 =>
 asImm (.sl (.int .i64)) a1_ fun z4 d3 =>
 asImm (.sl (.int .i64)) a2_ fun z6 d5 =>
 asImmZ true (.int .i64) a3_ fun d7 =>
 .mat (i_DeliveredWith_F d1 d3 d5 d7) fun r => .ret (i_DeliveredWith_out z2 z4 z6 d1 d3 d5 d7 r)
noncomputable def i_DeliveredWith_c : Ctr := ⟨[], fun ci => i_DeliveredWith_G ci.args ci.roots, false⟩
theorem i_DeliveredWith_env : EnvOK Try.prog .none i_DeliveredWith_V := (envOK_cons i_nodeCode_i_DeliveredWithc1_ok ent48 (envOK_cons i_Net_carried_ok ent90 (envOK_cons i_Net_at_ok ent89 envOK_nil)))
set_option maxRecDepth 100000 in
theorem i_DeliveredWith_ok : Contract Try.prog .none 41 i_DeliveredWith_c := by
 have hl : LoopsOK i_DeliveredWith_V [] i_DeliveredWith_b := loopsOK_nil (by kernel_rfl)
 refine (contract_of (F := i_DeliveredWith_I) tau_tys i_DeliveredWith_env Try.func41 (by kernel_rfl) (by kernel_rfl) (by kernel_rfl) hl []).weaken ?_
 rintro ⟨av, rs⟩ co h
 have h : (i_DeliveredWith_G av rs).run some = some co := h
 obtain ⟨a0_, av0, rfl, h_0⟩ := asCons_spec h
 obtain ⟨a1_, av1, rfl, h_1⟩ := asCons_spec h_0
 obtain ⟨a2_, av2, rfl, h_2⟩ := asCons_spec h_1
 obtain ⟨a3_, av3, rfl, h_3⟩ := asCons_spec h_2
 obtain ⟨rfl, h_4⟩ := asEnd_spec h_3
 obtain ⟨rfl, h_5⟩ := asEnd_spec h_4
 obtain ⟨z2, d1, rfl, h_6⟩ := asImm_spec h_5
 obtain ⟨z4, d3, rfl, h_7⟩ := asImm_spec h_6
 obtain ⟨z6, d5, rfl, h_8⟩ := asImm_spec h_7
 obtain ⟨d7, rfl, h_9⟩ := asImmZ_spec h_8
 exact fin_mat (i_DeliveredWith_eq z2 z4 z6 d1 d3 d5 d7) h_9
end Go.Proofs.Ytkgekgfmnhccmaa

namespace Go.Proofs.Ytkgekgfmnhccmaa
open Go Go.Abs Go.Proofs
noncomputable def i_DeliveredZ (p0 : TNet) (p1 : (List Int)) (p2 : Int) : Tre ((List Int) × Int) :=
 .ite (((.int .i64) : K) = (.int .i64) ∧ 0 ≤ (p0.2.2.2.1.length : Int) ∧ (p0.2.2.2.1.length : Int) = (p0.2.2.2.1.length : Int) ∧ (p0.2.2.2.1.length : Int) * (8 : Nat) ≤ 140737488355328 ∧ 1 ≤ 8) <|
 .mat (i_DeliveredWith_F p0 p1 (List.replicate (p0.2.2.2.1.length : Int).toNat (0 : Int)) p2) fun r1 =>
 .ret (r1.2, r1.1)
noncomputable def i_DeliveredZ_F (p0 : TNet) (p1 : (List Int)) (p2 : Int) : Option ((List Int) × Int) := (i_DeliveredZ p0 p1 p2).run some
-- more
def delivV (n : TN6) (ms : List Int) (node : Int) : List Int := (rowsV n node).map fun r => dotV n.1 r ms
theorem at_deliv {n : TN6} (h : NetP n) {ms : List Int} (hm : okV n.1 (messN n) ms) (node : Int) : atV n node ms (carriedV n ms (List.replicate n.2.2.2.1.length 0)) = delivV n ms node := by
 unfold atV delivV rowsV
 split
 ·rw [List.map_map]
  apply List.ext_getElem?
  intro k
  rw [List.getElem?_map]
  by_cases hk : k < messN n
  ·rw [List.getElem?_range hk]
   simp only [Option.map_some, Function.comp]
   rw [dotV_unit h.field (messN n) k hm.2 hm.1.symm hk, List.getD_eq_getElem?_getD, List.getElem?_eq_getElem (by rw [hm.1]; exact hk)]
   rfl
  ·rw [List.getElem?_eq_none (by rw [hm.1]; omega), List.getElem?_eq_none (by simp; omega)]
   rfl
 ·rw [List.map_map]
  refine List.map_congr_left fun x hx => ?_
  obtain ⟨j, rfl, hj⟩ := into_all h hx
  have hl := car_lin h hm j hj n.2.2.2.1.length hj
  have hv := vecsV_get n n.2.2.2.1.length j hj
  simp only [Function.comp, Int.toNat_natCast]
  have hv2 : (vectorsV n)[j]? = some (vecV n (vecsV n j) j) := hv
  have hl2 : (carriedV n ms (List.replicate n.2.2.2.1.length 0))[j]? = some (dotV n.1 (vecV n (vecsV n j) j) ms) := hl
  rw [getD_of hv2, getD_of hl2]
theorem ideliv_is {n : TN6} (h : NetP n) {node : Int} (h0 : 0 ≤ node) (h1 : node < n.2.1) {ms : List Int} (hm : okV n.1 (messN n) ms) : i_DeliveredZ_F n ms node = some (delivV n ms node, 0) := by
 have hE := h.len
 have hM := mess_ok h
 have hml := hm.1
 have he : okV n.1 n.2.2.2.1.length (List.replicate n.2.2.2.1.length 0) := zeroV_ok _
 have hat := inat_is h (node := node) (ms := ms) (car := carriedV n ms (List.replicate n.2.2.2.1.length 0)) (by omega) (carV_len ..)
 have hw : i_DeliveredWith_F n ms (List.replicate n.2.2.2.1.length 0) node = some (0, delivV n ms node) := by
  unfold i_DeliveredWith_F i_DeliveredWith
  rw [run_some_mat (ideln_is h h0 h1 hm he), Tre.run_cond, decide_eq_true rfl, Bool.not_true, cond_false, run_some_mat (carried_is h hm he.2 he.1), run_some_mat hat, at_deliv h hm]
  rfl
 unfold i_DeliveredZ_F i_DeliveredZ
 rw [Tre.run_ite, if_pos ⟨rfl, by omega, rfl, by omega, by decide⟩, Int.toNat_natCast, run_some_mat hw]
 rfl
noncomputable def i_DeliveredZ_V : Env := ⟨tau, [(41, i_DeliveredWith_c)], [(1000000, [((8, 0), [], false)])]⟩
noncomputable def i_DeliveredZ_b : Code := (Try.f10.body).getD .skip
noncomputable def i_DeliveredZ_I : FnI := ⟨i_DeliveredZ_b, Try.f10.results.toList, Try.f10.resultTypes.toList, []⟩
noncomputable def i_DeliveredZ_out (_zp0 : Bool) (_zp1 : Bool) (_p0 : TNet) (_p1 : (List Int)) (_p2 : Int) : ((List Int) × Int) → CallOut := fun r => ⟨(.tcons (.imm true (.sl (.int .i64)) r.1) (.tcons (.imm true (.int .i64) r.2) .tnil)), [], []⟩
set_option maxRecDepth 100000 in
theorem i_DeliveredZ_eq : ∀ (zp0 : Bool) (zp1 : Bool) (p0 : TNet) (p1 : (List Int)) (p2 : Int), denFn i_DeliveredZ_V i_DeliveredZ_I ⟨[(.imm zp0 kNet p0), (.imm zp1 (.sl (.int .i64)) p1), (.imm true (.int .i64) p2)], []⟩ = (i_DeliveredZ p0 p1 p2).run fun r => some (i_DeliveredZ_out zp0 zp1 p0 p1 p2 r) := fun _ _ _ _ _ => by kernel_rfl
noncomputable def i_DeliveredZ_G (av : List AV) (rs : List Root) : Tre CallOut :=
 asCons av fun a0_ av0 =>
 asCons av0 fun a1_ av1 =>
 asCons av1 fun a2_ av2 =>
 asEnd av2 <|
 asEnd rs <|
 asImm kNet a0_ fun z2 d1 =>
 asImm (.sl (.int .i64)) a1_ fun z4 d3 =>
 asImmZ true (.int .i64) a2_ fun d5 =>
 .mat (i_DeliveredZ_F d1 d3 d5) fun r => .ret (i_DeliveredZ_out z2 z4 d1 d3 d5 r)
noncomputable def i_DeliveredZ_c : Ctr := ⟨[], fun ci => i_DeliveredZ_G ci.args ci.roots, false⟩
theorem i_DeliveredZ_env : EnvOK Try.prog .none i_DeliveredZ_V := (envOK_cons i_DeliveredWith_ok ent41 envOK_nil)
set_option maxRecDepth 100000 in
theorem i_DeliveredZ_ok : Contract Try.prog .none 10 i_DeliveredZ_c := by
 have hl : LoopsOK i_DeliveredZ_V [] i_DeliveredZ_b := loopsOK_nil (by kernel_rfl)
 refine (contract_of (F := i_DeliveredZ_I) tau_tys i_DeliveredZ_env Try.func10 (by kernel_rfl) (by kernel_rfl) (by kernel_rfl) hl []).weaken ?_
 rintro ⟨av, rs⟩ co h
 have h : (i_DeliveredZ_G av rs).run some = some co := h
 obtain ⟨a0_, av0, rfl, h_0⟩ := asCons_spec h
 obtain ⟨a1_, av1, rfl, h_1⟩ := asCons_spec h_0
 obtain ⟨a2_, av2, rfl, h_2⟩ := asCons_spec h_1
 obtain ⟨rfl, h_3⟩ := asEnd_spec h_2
 obtain ⟨rfl, h_4⟩ := asEnd_spec h_3
 obtain ⟨z2, d1, rfl, h_5⟩ := asImm_spec h_4
 obtain ⟨z4, d3, rfl, h_6⟩ := asImm_spec h_5
 obtain ⟨d5, rfl, h_7⟩ := asImmZ_spec h_6
 exact fin_mat (i_DeliveredZ_eq z2 z4 d1 d3 d5) h_7
end Go.Proofs.Ytkgekgfmnhccmaa

namespace Go.Proofs.Ytkgekgfmnhccmaa
open Go Go.Abs Go.Proofs
noncomputable def l_f6sum_l3 (h3_0_0 : (List Int)) (h3_0_1 : (List Int)) : (Int × (List Int)) → Tre ((Int × (List Int)) ⊕ (List Int)) := fun s3 =>
 .cond (decide (s3.1 < (h3_0_0.length : Int)))
  (.cond (decide (s3.1 < (h3_0_1.length : Int)))
   (.ite (0 ≤ s3.1 ∧ s3.1 < (h3_0_0.length : Int)) <|
   .mat (h3_0_0[s3.1.toNat]?) fun x1 =>
   .ite (0 ≤ s3.1 ∧ s3.1 < (h3_0_1.length : Int)) <|
   .mat (h3_0_1[s3.1.toNat]?) fun x2 =>
   .ite ((s3.2.length + 1) * 8 ≤ appendMax ∧ 1 ≤ 8) <|
   let v3 := s3.2 ++ ([ixor .i64 x1 x2])
   .ret (.inl (iwrap .i64 (s3.1 + 1), v3)))
   (.ret (.inr s3.2)))
  (.ret (.inr s3.2))
noncomputable def l_f6sum (p0 : (List Int)) (p1 : (List Int)) : Tre (List Int) :=
 .mat (loopF (l_f6sum_l3 p0 p1) (0, [])) fun l4 =>
 .ret l4
noncomputable def l_f6sum_F (p0 : (List Int)) (p1 : (List Int)) : Option (List Int) := (l_f6sum p0 p1).run some
-- more
def sumV (u w : List Int) : List Int := (u.zip w).map fun p => ixor .i64 p.1 p.2
theorem f6sum_is {u w : List Int} (hl : u.length = w.length) (hs : u.length ≤ 1000000) : l_f6sum_F u w = some (sumV u w) := by
 have key := fold_loop (xs := u.zip w) (step := l_f6sum_l3 u w) (γ := List Int) (fun (i : Nat) acc => ((i : Int), acc)) (fun _ acc p => .inl (acc ++ [ixor .i64 p.1 p.2])) id (fun i acc => acc.length = i) (by
  intro i acc p hp hi
  have hlt := (List.getElem?_eq_some_iff.1 hp).1
  rw [List.length_zip] at hlt
  obtain ⟨p1, p2⟩ := p
  rw [List.getElem?_zip_eq_some] at hp
  obtain ⟨h1, h2⟩ := hp
  refine ⟨?_, fun a ha => ?_⟩
  ·unfold l_f6sum_l3
   dsimp only
   rw [Tre.run_cond, decide_eq_true (by omega), cond_true, Tre.run_cond, decide_eq_true (by omega), cond_true, Tre.run_ite, if_pos (by omega), Int.toNat_natCast, run_some_mat h1, Tre.run_ite, if_pos (by omega), run_some_mat h2, Tre.run_ite, if_pos (by unfold appendMax; omega), Tre.run_ret, iwrap_succ (by omega)]
  ·cases ha; simp [hi]) (by
  intro acc _
  unfold l_f6sum_l3
  dsimp only
  rw [Tre.run_cond, decide_eq_false (by rw [List.length_zip]; omega), cond_false]
  rfl) (u.zip w) 0 [] rfl (Nat.zero_le _) rfl
 rw [foldE_app] at key
 have key : loopF (l_f6sum_l3 u w) (0, []) = some (sumV u w) := key
 unfold l_f6sum_F l_f6sum
 rw [run_some_mat key]
 rfl
noncomputable def l_f6sum_V : Env := ⟨tau, [], []⟩
noncomputable def l_f6sum_b : Code := (Try.f11.body).getD .skip
noncomputable def l_f6sum_l3_mk (z3_0 : Bool) (z3_1 : Bool) (h3_0_0 : (List Int)) (h3_0_1 : (List Int)) : (Int × (List Int)) → St := fun x => stOf [(0, (.imm z3_0 (.sl (.int .i64)) h3_0_0)), (1, (.imm z3_1 (.sl (.int .i64)) h3_0_1)), (5, (.ref (7, 0) [])), (6, (.imm true (.int .i64) x.1))] [((7, 0), some ⟨false, (.sl (.int .i64)), .own, x.2⟩)]
noncomputable def l_f6sum_l3_out (_z3_0 : Bool) (_z3_1 : Bool) (_h3_0_0 : (List Int)) (_h3_0_1 : (List Int)) : (List Int) → Ex × St := fun x => (.exit 0, stOf [(5, (.ref (7, 0) []))] [((7, 0), some ⟨false, (.sl (.int .i64)), .own, x⟩)])
noncomputable def l_f6sum_l3_D (s : St) : Tre (Ex × St) :=
 asImm (.sl (.int .i64)) (s.tmps 0) fun z3 d2 =>
 asImm (.sl (.int .i64)) (s.tmps 1) fun z6 d5 =>
 asRef (7, 0) [] (s.tmps 5) <|
 asImmZ true (.int .i64) (s.tmps 6) fun d9 =>
 asRoot false (.sl (.int .i64)) (s.roots (7, 0)) fun m11 d12 =>
 asM .own m11 <|
 .mat (loopF (l_f6sum_l3 d2 d5) (d9, d12)) fun x => .ret (l_f6sum_l3_out z3 z6 d2 d5 x)
noncomputable def l_f6sum_l3_L : LoopI := ⟨([0, 1, 5, 6], [(7, 0)]), ([5], [(7, 0)]), l_f6sum_l3_D⟩
noncomputable def l_f6sum_A : List (Nat × LoopI) := [(3, l_f6sum_l3_L)]
set_option maxRecDepth 100000 in
theorem l_f6sum_l3_step : ∀ (z3_0 : Bool) (z3_1 : Bool) (h3_0_0 : (List Int)) (h3_0_1 : (List Int)) (x : (Int × (List Int))) (c : St → Option (Ex × St)), den l_f6sum_V l_f6sum_A (loopAt l_f6sum_b 0) (l_f6sum_l3_mk z3_0 z3_1 h3_0_0 h3_0_1 x) (roundK l_f6sum_l3_L.kp l_f6sum_l3_L.kx c) = (l_f6sum_l3 h3_0_0 h3_0_1 x).run (roundR (l_f6sum_l3_mk z3_0 z3_1 h3_0_0 h3_0_1) (l_f6sum_l3_out z3_0 z3_1 h3_0_0 h3_0_1) c) := fun _ _ _ _ _ _ => by
 kernel_rfl
theorem l_f6sum_l3_ok : LoopOK l_f6sum_V l_f6sum_A (loopAt l_f6sum_b 0) l_f6sum_l3_L := loopOK_of fun s e s' h => by
 generalize hs : restrict l_f6sum_l3_L.kp s = s1 at h
 have h : (l_f6sum_l3_D s1).run some = some (e, s') := h
 obtain ⟨z3, d2, e1, h_0⟩ := asImm_spec h
 obtain ⟨z6, d5, e4, h_1⟩ := asImm_spec h_0
 obtain ⟨e7, h_2⟩ := asRef_spec h_1
 obtain ⟨d9, e8, h_3⟩ := asImmZ_spec h_2
 obtain ⟨m11, d12, e10, h_4⟩ := asRoot_spec h_3
 obtain ⟨rfl, h_5⟩ := asM_spec h_4
 obtain ⟨y, hy, hz⟩ := mat_ret h_5
 refine ⟨_, _, l_f6sum_l3_mk z3 z6 d2 d5, l_f6sum_l3_out z3 z6 d2 d5, l_f6sum_l3 d2 d5, (d9, d12), y, ?_, hy, ?_, l_f6sum_l3_step z3 z6 d2 d5⟩
 ·subst hs; exact restrict_eq (T := [(0, (.imm z3 (.sl (.int .i64)) d2)), (1, (.imm z6 (.sl (.int .i64)) d5)), (5, (.ref (7, 0) [])), (6, (.imm true (.int .i64) d9))]) (U := [((7, 0), some ⟨false, (.sl (.int .i64)), .own, d12⟩)]) rfl rfl ⟨e1, e4, e7, e8, trivial⟩ ⟨e10, trivial⟩
 ·exact Option.some.inj hz
noncomputable def l_f6sum_I : FnI := ⟨l_f6sum_b, Try.f11.results.toList, Try.f11.resultTypes.toList, l_f6sum_A⟩
noncomputable def l_f6sum_out (_zp0 : Bool) (_zp1 : Bool) (_p0 : (List Int)) (_p1 : (List Int)) : (List Int) → CallOut := fun r => ⟨(.ref (1, 0) []), [], [⟨false, (.sl (.int .i64)), .own, r⟩]⟩
set_option maxRecDepth 100000 in
theorem l_f6sum_eq : ∀ (zp0 : Bool) (zp1 : Bool) (p0 : (List Int)) (p1 : (List Int)), denFn l_f6sum_V l_f6sum_I ⟨[(.imm zp0 (.sl (.int .i64)) p0), (.imm zp1 (.sl (.int .i64)) p1)], []⟩ = (l_f6sum p0 p1).run fun r => some (l_f6sum_out zp0 zp1 p0 p1 r) := fun _ _ _ _ => by kernel_rfl
noncomputable def l_f6sum_G (av : List AV) (rs : List Root) : Tre CallOut :=
 asCons av fun a0_ av0 =>
 asCons av0 fun a1_ av1 =>
 asEnd av1 <|
 asEnd rs <|
 asImm (.sl (.int .i64)) a0_ fun z2 d1 =>
 asImm (.sl (.int .i64)) a1_ fun z4 d3 =>
 .mat (l_f6sum_F d1 d3) fun r => .ret (l_f6sum_out z2 z4 d1 d3 r)
noncomputable def l_f6sum_c : Ctr := ⟨[], fun ci => l_f6sum_G ci.args ci.roots, false⟩
theorem l_f6sum_env : EnvOK Try.prog .none l_f6sum_V := envOK_nil
set_option maxRecDepth 100000 in
theorem l_f6sum_ok : Contract Try.prog .none 11 l_f6sum_c := by
 have hl : LoopsOK l_f6sum_V l_f6sum_A l_f6sum_b := (loopsOK_all (n := 1) (by kernel_rfl) fun k hk => by
   match k, hk with
   | 0, _ => exact loopOK_at (id := 3) (L := l_f6sum_l3_L) (by kernel_rfl) (by kernel_rfl) l_f6sum_l3_ok)
 refine (contract_of (F := l_f6sum_I) tau_tys l_f6sum_env Try.func11 (by kernel_rfl) (by kernel_rfl) (by kernel_rfl) hl []).weaken ?_
 rintro ⟨av, rs⟩ co h
 have h : (l_f6sum_G av rs).run some = some co := h
 obtain ⟨a0_, av0, rfl, h_0⟩ := asCons_spec h
 obtain ⟨a1_, av1, rfl, h_1⟩ := asCons_spec h_0
 obtain ⟨rfl, h_2⟩ := asEnd_spec h_1
 obtain ⟨rfl, h_3⟩ := asEnd_spec h_2
 obtain ⟨z2, d1, rfl, h_4⟩ := asImm_spec h_3
 obtain ⟨z4, d3, rfl, h_5⟩ := asImm_spec h_4
 exact fin_mat (l_f6sum_eq z2 z4 d1 d3) h_5
end Go.Proofs.Ytkgekgfmnhccmaa

namespace Go.Proofs.Ytkgekgfmnhccmaa
open Go Go.Abs Go.Proofs
noncomputable def i_unit (p0 : Int) (p1 : Int) : Tre (List Int) :=
 .ite (((.int .i64) : K) = (.int .i64) ∧ 0 ≤ p0 ∧ p0 = p0 ∧ p0 * (8 : Nat) ≤ 140737488355328 ∧ 1 ≤ 8) <|
 .ite (0 ≤ p1 ∧ p1 < ((List.replicate p0.toNat (0 : Int)).length : Int)) <|
 .mat ((List.replicate p0.toNat (0 : Int))[p1.toNat]?) fun _ =>
 let v2 := (List.replicate p0.toNat (0 : Int)).set p1.toNat 1
 .ret v2
noncomputable def i_unit_F (p0 : Int) (p1 : Int) : Option (List Int) := (i_unit p0 p1).run some
-- more
theorem iunit_is {M k : Nat} (hk : k < M) (hM : M ≤ 1000000) : i_unit_F (M : Int) (k : Int) = some (unitV M k) := by
 have hg : (List.replicate M (0 : Int))[k]? = some 0 := by rw [List.getElem?_replicate, if_pos hk]
 unfold i_unit_F i_unit
 rw [Tre.run_ite, if_pos ⟨rfl, by omega, rfl, by omega, by decide⟩, Int.toNat_natCast, Int.toNat_natCast, Tre.run_ite, if_pos (by rw [List.length_replicate]; omega), run_some_mat hg]
 rfl
noncomputable def i_unit_V : Env := ⟨tau, [], []⟩
noncomputable def i_unit_b : Code := (Try.f94.body).getD .skip
noncomputable def i_unit_I : FnI := ⟨i_unit_b, Try.f94.results.toList, Try.f94.resultTypes.toList, []⟩
noncomputable def i_unit_out (_p0 : Int) (_p1 : Int) : (List Int) → CallOut := fun r => ⟨(.ref (1, 0) []), [], [⟨false, (.sl (.int .i64)), .own, r⟩]⟩
set_option maxRecDepth 100000 in
theorem i_unit_eq : ∀ (p0 : Int) (p1 : Int), denFn i_unit_V i_unit_I ⟨[(.imm true (.int .i64) p0), (.imm true (.int .i64) p1)], []⟩ = (i_unit p0 p1).run fun r => some (i_unit_out p0 p1 r) := fun _ _ => by kernel_rfl
noncomputable def i_unit_G (av : List AV) (rs : List Root) : Tre CallOut :=
 asCons av fun a0_ av0 =>
 asCons av0 fun a1_ av1 =>
 asEnd av1 <|
 asEnd rs <|
 asImmZ true (.int .i64) a0_ fun d1 =>
 asImmZ true (.int .i64) a1_ fun d2 =>
 .mat (i_unit_F d1 d2) fun r => .ret (i_unit_out d1 d2 r)
noncomputable def i_unit_c : Ctr := ⟨[], fun ci => i_unit_G ci.args ci.roots, false⟩
theorem i_unit_env : EnvOK Try.prog .none i_unit_V := envOK_nil
set_option maxRecDepth 100000 in
theorem i_unit_ok : Contract Try.prog .none 94 i_unit_c := by
 have hl : LoopsOK i_unit_V [] i_unit_b := loopsOK_nil (by kernel_rfl)
 refine (contract_of (F := i_unit_I) tau_tys i_unit_env Try.func94 (by kernel_rfl) (by kernel_rfl) (by kernel_rfl) hl []).weaken ?_
 rintro ⟨av, rs⟩ co h
 have h : (i_unit_G av rs).run some = some co := h
 obtain ⟨a0_, av0, rfl, h_0⟩ := asCons_spec h
 obtain ⟨a1_, av1, rfl, h_1⟩ := asCons_spec h_0
 obtain ⟨rfl, h_2⟩ := asEnd_spec h_1
 obtain ⟨rfl, h_3⟩ := asEnd_spec h_2
 obtain ⟨d1, rfl, h_4⟩ := asImmZ_spec h_3
 obtain ⟨d2, rfl, h_5⟩ := asImmZ_spec h_4
 exact fin_mat (i_unit_eq d1 d2) h_5
end Go.Proofs.Ytkgekgfmnhccmaa

namespace Go.Proofs.Ytkgekgfmnhccmaa
open Go Go.Abs Go.Proofs
-- shared
def matV (E M : Nat) (g : Nat → Nat → Int) : List (List Int) := (List.range E).map fun i => (List.range M).map (g i)
theorem matV_get {E M : Nat} {g : Nat → Nat → Int} {i : Nat} (hi : i < E) : (matV E M g)[i]? = some ((List.range M).map (g i)) := by
 unfold matV
 rw [List.getElem?_map, List.getElem?_range hi]; rfl
theorem matV_none {E M : Nat} {g : Nat → Nat → Int} {i : Nat} (hi : ¬ i < E) : (matV E M g)[i]? = none := List.getElem?_eq_none (by unfold matV; simp; omega)
theorem matV_len {E M : Nat} {g : Nat → Nat → Int} : (matV E M g).length = E := by unfold matV; simp
theorem matV_congr {E M : Nat} {g h : Nat → Nat → Int} (H : ∀ i j, i < E → j < M → g i j = h i j) : matV E M g = matV E M h := by
 unfold matV
 refine List.map_congr_left fun i hi => List.map_congr_left fun j hj => H i j (List.mem_range.1 hi) (List.mem_range.1 hj)
theorem matV_set {E M : Nat} {g : Nat → Nat → Int} {i m : Nat} {x : Int} : (matV E M g).set i (((List.range M).map (g i)).set m x) = matV E M fun i' j => if i' = i ∧ j = m then x else g i' j := by
 apply List.ext_getElem?
 intro k
 rw [List.getElem?_set, matV_len]
 by_cases hk : k < E
 ·rw [matV_get hk, matV_get hk]
  split
  ·rename_i h; subst h
   rw [if_pos hk]
   congr 1
   apply List.ext_getElem?
   intro j
   rw [List.getElem?_set, List.getElem?_map, List.getElem?_map]
   by_cases hj : j < M
   ·rw [List.getElem?_range hj]
    split
    ·rename_i h; subst h; simp [hj]
    ·rename_i h; simp [Ne.symm h]
   ·rw [List.getElem?_eq_none (by simp; omega)]
    split
    ·rename_i h; subst h; simp [hj]
    ·rfl
  ·rename_i h
   congr 1
   refine List.map_congr_left fun j _ => ?_
   rw [if_neg (fun hh => h hh.1.symm)]
 ·rw [matV_none hk, matV_none hk]
  split
  ·rename_i h; subst h; rw [if_neg hk]
  ·rfl
theorem matV_zero {E M : Nat} : List.replicate E (List.replicate M (0 : Int)) = matV E M fun _ _ => 0 := by
 unfold matV
 apply List.ext_getElem?
 intro k
 rw [List.getElem?_map, List.getElem?_replicate]
 by_cases hk : k < E
 ·rw [if_pos hk, List.getElem?_range hk]
  simp only [Option.map_some]
  congr 1
  apply List.ext_getElem?
  intro j
  rw [List.getElem?_map, List.getElem?_replicate]
  by_cases hj : j < M
  ·rw [if_pos hj, List.getElem?_range hj]; rfl
  ·rw [if_neg hj, List.getElem?_eq_none (by simp; omega)]; rfl
 ·rw [if_neg hk, List.getElem?_eq_none (by simp; omega)]; rfl
theorem mat_vectors {n : TN6} (h : NetP n) : (matV n.2.2.2.1.length (messN n) fun i j => (carriedV n (unitV (messN n) j) (List.replicate n.2.2.2.1.length 0)).getD i 0) = vectorsV n := by
 apply List.ext_getElem?
 intro i
 by_cases hi : i < n.2.2.2.1.length
 ·rw [matV_get hi]
  obtain ⟨v, hv, hvl, hvf⟩ := vectorsV_ok h hi
  have hv2 := vecsV_get n n.2.2.2.1.length i hi
  rw [show vecsV n n.2.2.2.1.length = vectorsV n from rfl, hv] at hv2
  rw [hv]
  congr 1
  apply List.ext_getElem?
  intro j
  rw [List.getElem?_map]
  by_cases hj : j < messN n
  ·rw [List.getElem?_range hj]
   simp only [Option.map_some]
   have hl := car_lin h (unitV_ok h.field (messN n) j) i hi n.2.2.2.1.length hi
   rw [show carV n (unitV (messN n) j) (List.replicate n.2.2.2.1.length 0) n.2.2.2.1.length = carriedV n (unitV (messN n) j) (List.replicate n.2.2.2.1.length 0) from rfl] at hl
   rw [getD_of hl, ← Option.some.inj hv2, dotV_comm h.field hvf (unitV_ok h.field _ _).2, dotV_unit h.field (messN n) j hvf hvl.symm hj]
   rw [List.getD_eq_getElem?_getD, List.getElem?_eq_getElem (by omega)]
   rfl
  ·rw [List.getElem?_eq_none (by simp; omega), List.getElem?_eq_none (by omega)]; rfl
 ·rw [matV_none hi, List.getElem?_eq_none (by rw [vectorsV_len]; omega)]
end Go.Proofs.Ytkgekgfmnhccmaa

namespace Go.Proofs.Ytkgekgfmnhccmaa
open Go Go.Abs Go.Proofs
noncomputable def i_Net_vectors_l3 (h3_0_0 : Int) (h3_0_2 : TNet) : (Int × (List (List Int))) → Tre ((Int × (List (List Int))) ⊕ (List (List Int))) := fun s3 =>
 .cond (decide (s3.1 < h3_0_0))
  (.ite (((.int .i64) : K) = (.int .i64) ∧ 0 ≤ h3_0_2.2.2.1 ∧ h3_0_2.2.2.1 = h3_0_2.2.2.1 ∧ h3_0_2.2.2.1 * (8 : Nat) ≤ 140737488355328 ∧ 1 ≤ 8) <|
  .ite (0 ≤ s3.1 ∧ s3.1 < (s3.2.length : Int)) <|
  .mat (s3.2[s3.1.toNat]?) fun _ =>
  let v2 := s3.2.set s3.1.toNat (List.replicate h3_0_2.2.2.1.toNat (0 : Int))
  .ret (.inl (iwrap .i64 (s3.1 + 1), v2)))
  (.ret (.inr s3.2))
noncomputable def i_Net_vectors_l11 (h11_0_0 : Int) (h11_0_3 : Int) (h11_0_7 : (List Int)) : (Int × (List (List Int))) → Tre ((Int × (List (List Int))) ⊕ (List (List Int))) := fun s11 =>
 .cond (decide (s11.1 < h11_0_3))
  (.ite (0 ≤ s11.1 ∧ s11.1 < (h11_0_7.length : Int)) <|
  .mat (h11_0_7[s11.1.toNat]?) fun x6 =>
  .ite (0 ≤ s11.1 ∧ s11.1 < (s11.2.length : Int)) <|
  .mat (s11.2[s11.1.toNat]?) fun _ =>
  .mat (s11.2[s11.1.toNat]?) fun x8 =>
  .ite (0 ≤ h11_0_0 ∧ h11_0_0 < (x8.length : Int)) <|
  .mat (s11.2[s11.1.toNat]?) fun x9 =>
  .mat (x9[h11_0_0.toNat]?) fun _ =>
  let v11 := s11.2.set s11.1.toNat (x9.set h11_0_0.toNat x6)
  .ret (.inl (iwrap .i64 (s11.1 + 1), v11)))
  (.ret (.inr s11.2))
noncomputable def i_Net_vectors_l8 (h8_0_0 : Int) (h8_0_2 : TNet) : (Int × (List (List Int))) → Tre ((Int × (List (List Int))) ⊕ (List (List Int))) := fun s8 =>
 .cond (decide (s8.1 < h8_0_0))
  (.mat (i_unit_F h8_0_2.2.2.1 s8.1) fun r4 =>
  .ite (((.int .i64) : K) = (.int .i64) ∧ 0 ≤ (h8_0_2.2.2.2.1.length : Int) ∧ (h8_0_2.2.2.2.1.length : Int) = (h8_0_2.2.2.2.1.length : Int) ∧ (h8_0_2.2.2.2.1.length : Int) * (8 : Nat) ≤ 140737488355328 ∧ 1 ≤ 8) <|
  .mat (i_Net_carried_F h8_0_2 r4 (List.replicate (h8_0_2.2.2.2.1.length : Int).toNat (0 : Int))) fun r5 =>
  .mat (loopF (i_Net_vectors_l11 s8.1 (r5.length : Int) r5) (0, s8.2)) fun l12 =>
  .ret (.inl (iwrap .i64 (s8.1 + 1), l12)))
  (.ret (.inr s8.2))
noncomputable def i_Net_vectors (p0 : TNet) : Tre (List (List Int)) :=
 .ite (((.sl (.int .i64)) : K) = (.sl (.int .i64)) ∧ 0 ≤ (p0.2.2.2.1.length : Int) ∧ (p0.2.2.2.1.length : Int) = (p0.2.2.2.1.length : Int) ∧ (p0.2.2.2.1.length : Int) * (24 : Nat) ≤ 140737488355328 ∧ 1 ≤ 24) <|
 .mat (loopF (i_Net_vectors_l3 ((List.replicate (p0.2.2.2.1.length : Int).toNat ([] : (List Int))).length : Int) p0) (0, List.replicate (p0.2.2.2.1.length : Int).toNat ([] : (List Int)))) fun l3 =>
 .mat (loopF (i_Net_vectors_l8 p0.2.2.1 p0) (0, l3)) fun l13 =>
 .ret l13
noncomputable def i_Net_vectors_F (p0 : TNet) : Option (List (List Int)) := (i_Net_vectors p0).run some
-- more
theorem vectors_rows {n : TN6} (h : NetP n) : ∀ m i, i + m = n.2.2.2.1.length →
  loopF (i_Net_vectors_l3 (n.2.2.2.1.length : Int) n) ((i : Int), List.replicate i (List.replicate (messN n) 0) ++ List.replicate m []) = some (matV n.2.2.2.1.length (messN n) fun _ _ => 0) := by
 have hE := h.len
 obtain ⟨hm1, hm2, hm3⟩ := mess_ok h
 intro m
 induction m with
 | zero =>
  intro i hi
  have hi : i = n.2.2.2.1.length := hi
  rw [← hi]
  refine loopF_done ?_
  unfold i_Net_vectors_l3
  rw [run_out]
  simp [matV_zero]
  rfl
 | succ m ih =>
  intro i hi
  rw [← ih (i + 1) (by omega)]
  refine loopF_step ?_
  have hg : (List.replicate i (List.replicate (messN n) (0 : Int)) ++ List.replicate (m + 1) [])[i]? = some [] := by
   rw [List.getElem?_append_right (by simp), List.length_replicate, Nat.sub_self]; rfl
  unfold i_Net_vectors_l3
  dsimp only
  rw [Tre.run_cond, decide_eq_true (by omega), cond_true, Tre.run_ite, if_pos ⟨rfl, by omega, rfl, by omega, by decide⟩, Tre.run_ite, if_pos (by simp; omega), Int.toNat_natCast, run_some_mat hg, Tre.run_ret, iwrap_succ (by omega)]
  have : (List.replicate i (List.replicate (messN n) (0 : Int)) ++ List.replicate (m + 1) []).set i (List.replicate n.2.2.1.toNat 0) = List.replicate (i + 1) (List.replicate (messN n) 0) ++ List.replicate m [] := by
   rw [List.set_append_right _ _ (by simp), List.length_replicate, Nat.sub_self, List.replicate_succ' (n := i), List.append_assoc]
   rfl
  rw [this]
theorem vectors_col {E M m : Nat} (hE : E ≤ 14) (hm : m < M) {car : List Int} (hc : car.length = E) {g : Nat → Nat → Int} : ∀ k i, i + k = E →
  loopF (i_Net_vectors_l11 (m : Int) (car.length : Int) car) ((i : Int), matV E M fun i' j => if i' < i ∧ j = m then car.getD i' 0 else g i' j) = some (matV E M fun i' j => if j = m then car.getD i' 0 else g i' j) := by
 intro k
 induction k with
 | zero =>
  intro i hi
  have hi : i = E := hi
  subst hi
  refine loopF_done ?_
  unfold i_Net_vectors_l11
  rw [hc, run_out, Tre.run_ret]
  have : matV i M (fun i' j => if i' < i ∧ j = m then car.getD i' 0 else g i' j) = matV i M fun i' j => if j = m then car.getD i' 0 else g i' j := matV_congr fun i' j h1 _ => by simp [h1]
  rw [this]
 | succ k ih =>
  intro i hi
  rw [← ih (i + 1) (by omega)]
  refine loopF_step ?_
  have hx := List.getElem?_eq_getElem (show i < car.length by omega)
  have hr := matV_get (E := E) (M := M) (g := fun i' j => if i' < i ∧ j = m then car.getD i' 0 else g i' j) (i := i) (by omega)
  obtain ⟨y, hy⟩ : ∃ y, ((List.range M).map fun j => if i < i ∧ j = m then car.getD i 0 else g i j)[m]? = some y := ⟨_, List.getElem?_eq_getElem (by simpa using hm)⟩
  unfold i_Net_vectors_l11
  dsimp only
  rw [Tre.run_cond, decide_eq_true (by omega), cond_true, Tre.run_ite, if_pos (by omega), Int.toNat_natCast, run_some_mat hx, Tre.run_ite, if_pos (by rw [matV_len]; omega), run_some_mat hr, run_some_mat hr, Tre.run_ite, if_pos (by simp; omega), run_some_mat hr, Int.toNat_natCast, run_some_mat hy, Tre.run_ret, iwrap_succ (by omega)]
  rw [matV_set (g := fun i' j => if i' < i ∧ j = m then car.getD i' 0 else g i' j)]
  refine congrArg (fun z => some (Sum.inl (((i + 1 : Nat) : Int), z))) (matV_congr fun i' j h1 h2 => ?_)
  by_cases hj : j = m
  ·by_cases hi' : i' = i
   ·subst hi'; rw [if_pos ⟨rfl, hj⟩, if_pos ⟨by omega, hj⟩, getD_of hx]
   ·rw [if_neg (fun hh => hi' hh.1)]
    by_cases hlt : i' < i
    ·rw [if_pos ⟨hlt, hj⟩, if_pos ⟨by omega, hj⟩]
    ·rw [if_neg (fun hh => hlt hh.1), if_neg (fun hh => by omega)]
  ·rw [if_neg (fun hh => hj hh.2), if_neg (fun hh => hj hh.2), if_neg (fun hh => hj hh.2)]
theorem vectors_loop {n : TN6} (h : NetP n) : ∀ k m, m + k = messN n →
  loopF (i_Net_vectors_l8 n.2.2.1 n) ((m : Int), matV n.2.2.2.1.length (messN n) fun i j => if j < m then (carriedV n (unitV (messN n) j) (List.replicate n.2.2.2.1.length 0)).getD i 0 else 0) = some (vectorsV n) := by
 have hE := h.len
 obtain ⟨hm1, hm2, hm3⟩ := mess_ok h
 intro k
 induction k with
 | zero =>
  intro m hm
  have hm : m = messN n := hm
  rw [← mat_vectors h]
  refine loopF_done ?_
  unfold i_Net_vectors_l8
  rw [hm, hm1, run_out, Tre.run_ret]
  refine congrArg (fun z => some (Sum.inr z)) (matV_congr fun i j h1 h2 => ?_)
  rw [if_pos h2]
 | succ k ih =>
  intro m hm
  rw [← ih (m + 1) (by omega)]
  refine loopF_step ?_
  have hcar := carried_is h (unitV_ok h.field (messN n) m) (es := List.replicate n.2.2.2.1.length 0) (fun x hx => by rw [(List.mem_replicate.1 hx).2]; exact inF_zero) (by simp)
  have hcl : (carriedV n (unitV (messN n) m) (List.replicate n.2.2.2.1.length 0)).length = n.2.2.2.1.length := carV_len ..
  have hcol := vectors_col (E := n.2.2.2.1.length) (M := messN n) (m := m) h.len (by omega) hcl (g := fun i j => if j < m then (carriedV n (unitV (messN n) j) (List.replicate n.2.2.2.1.length 0)).getD i 0 else 0) n.2.2.2.1.length 0 (by omega)
  have hcol2 : matV n.2.2.2.1.length (messN n) (fun i' j => if i' < 0 ∧ j = m then (carriedV n (unitV (messN n) m) (List.replicate n.2.2.2.1.length 0)).getD i' 0 else if j < m then (carriedV n (unitV (messN n) j) (List.replicate n.2.2.2.1.length 0)).getD i' 0 else 0) = matV n.2.2.2.1.length (messN n) fun i j => if j < m then (carriedV n (unitV (messN n) j) (List.replicate n.2.2.2.1.length 0)).getD i 0 else 0 := matV_congr fun i j _ _ => by rw [if_neg (fun hh => by omega)]
  rw [hcol2] at hcol
  have hcol : loopF (i_Net_vectors_l11 (m : Int) _ _) (0, _) = _ := hcol
  unfold i_Net_vectors_l8
  dsimp only
  rw [Tre.run_cond, decide_eq_true (by omega), cond_true, hm1, run_some_mat (iunit_is (by omega) (by omega)), Tre.run_ite, if_pos ⟨rfl, by omega, rfl, by omega, by decide⟩, Int.toNat_natCast, run_some_mat hcar, run_some_mat hcol, Tre.run_ret, iwrap_succ (by omega)]
  refine congrArg (fun z => some (Sum.inl (((m + 1 : Nat) : Int), z))) (matV_congr fun i j h1 h2 => ?_)
  by_cases hj : j = m
  ·subst hj; rw [if_pos rfl, if_pos (by omega)]
  ·rw [if_neg hj]
   by_cases hlt : j < m
   ·rw [if_pos hlt, if_pos (by omega)]
   ·rw [if_neg hlt, if_neg (by omega)]
theorem vectors_is {n : TN6} (h : NetP n) : i_Net_vectors_F n = some (vectorsV n) := by
 have hE := h.len
 have h1 := vectors_rows h n.2.2.2.1.length 0 (by omega)
 have h1 : loopF (i_Net_vectors_l3 (n.2.2.2.1.length : Int) n) (0, List.replicate n.2.2.2.1.length []) = some (matV n.2.2.2.1.length (messN n) fun _ _ => 0) := h1
 have h2 := vectors_loop h (messN n) 0 (by omega)
 have h3 : matV n.2.2.2.1.length (messN n) (fun i j => if j < 0 then (carriedV n (unitV (messN n) j) (List.replicate n.2.2.2.1.length 0)).getD i 0 else 0) = matV n.2.2.2.1.length (messN n) fun _ _ => 0 := matV_congr fun i j _ _ => by rw [if_neg (by omega)]
 rw [h3] at h2
 have h2 : loopF (i_Net_vectors_l8 n.2.2.1 n) (0, _) = _ := h2
 unfold i_Net_vectors_F i_Net_vectors
 rw [Tre.run_ite, if_pos ⟨rfl, by omega, rfl, by omega, by decide⟩]
 simp only [Int.toNat_natCast, List.length_replicate]
 rw [run_some_mat h1, run_some_mat h2]
 rfl
noncomputable def i_Net_vectors_V : Env := ⟨tau, [(94, i_unit_c), (90, i_Net_carried_c)], []⟩
noncomputable def i_Net_vectors_b : Code := (Try.f43.body).getD .skip
noncomputable def i_Net_vectors_l3_mk (z3_0 : Bool) (h3_0_0 : Int) (h3_0_2 : TNet) : (Int × (List (List Int))) → St := fun x => stOf [(1, (.ptr (3, 0) [])), (3, (.ref (5, 0) [])), (13, (.imm true (.int .i64) h3_0_0)), (14, (.imm true (.int .i64) x.1))] [((3, 0), some ⟨true, kNet, (.imm z3_0), h3_0_2⟩), ((5, 0), some ⟨false, (.sl (.sl (.int .i64))), .own, x.2⟩)]
noncomputable def i_Net_vectors_l3_out (z3_0 : Bool) (_h3_0_0 : Int) (h3_0_2 : TNet) : (List (List Int)) → Ex × St := fun x => (.exit 0, stOf [(1, (.ptr (3, 0) [])), (3, (.ref (5, 0) []))] [((3, 0), some ⟨true, kNet, (.imm z3_0), h3_0_2⟩), ((5, 0), some ⟨false, (.sl (.sl (.int .i64))), .own, x⟩)])
noncomputable def i_Net_vectors_l3_D (s : St) : Tre (Ex × St) :=
 asPtr (3, 0) [] (s.tmps 1) <|
 asRef (5, 0) [] (s.tmps 3) <|
 asImmZ true (.int .i64) (s.tmps 13) fun d4 =>
 asImmZ true (.int .i64) (s.tmps 14) fun d6 =>
 asRoot true kNet (s.roots (3, 0)) fun m8 d9 =>
 asMImm m8 fun z10 =>
 asRoot false (.sl (.sl (.int .i64))) (s.roots (5, 0)) fun m12 d13 =>
 asM .own m12 <|
 .mat (loopF (i_Net_vectors_l3 d4 d9) (d6, d13)) fun x => .ret (i_Net_vectors_l3_out z10 d4 d9 x)
noncomputable def i_Net_vectors_l3_L : LoopI := ⟨([1, 3, 13, 14], [(3, 0), (5, 0)]), ([1, 3], [(3, 0), (5, 0)]), i_Net_vectors_l3_D⟩
noncomputable def i_Net_vectors_l11_mk (z11_0 : Bool) (h11_0_0 : Int) (h11_0_1 : Int) (h11_0_2 : Int) (h11_0_3 : Int) (h11_0_5 : TNet) (h11_0_7 : (List Int)) : (Int × (List (List Int))) → St := fun x => stOf [(1, (.ptr (3, 0) [])), (3, (.ref (5, 0) [])), (5, (.imm true (.int .i64) h11_0_0)), (25, (.imm true (.int .i64) h11_0_1)), (26, (.imm true (.int .i64) h11_0_2)), (38, (.ref (40, 0) [])), (39, (.imm true (.int .i64) h11_0_3)), (40, (.imm true (.int .i64) x.1))] [((3, 0), some ⟨true, kNet, (.imm z11_0), h11_0_5⟩), ((5, 0), some ⟨false, (.sl (.sl (.int .i64))), .own, x.2⟩), ((40, 0), some ⟨false, (.sl (.int .i64)), .own, h11_0_7⟩)]
noncomputable def i_Net_vectors_l11_out (z11_0 : Bool) (_h11_0_0 : Int) (h11_0_1 : Int) (h11_0_2 : Int) (_h11_0_3 : Int) (h11_0_5 : TNet) (_h11_0_7 : (List Int)) : (List (List Int)) → Ex × St := fun x => (.exit 4, stOf [(1, (.ptr (3, 0) [])), (3, (.ref (5, 0) [])), (25, (.imm true (.int .i64) h11_0_1)), (26, (.imm true (.int .i64) h11_0_2))] [((3, 0), some ⟨true, kNet, (.imm z11_0), h11_0_5⟩), ((5, 0), some ⟨false, (.sl (.sl (.int .i64))), .own, x⟩)])
noncomputable def i_Net_vectors_l11_D (s : St) : Tre (Ex × St) :=
 asPtr (3, 0) [] (s.tmps 1) <|
 asRef (5, 0) [] (s.tmps 3) <|
 asImmZ true (.int .i64) (s.tmps 5) fun d4 =>
 asImmZ true (.int .i64) (s.tmps 25) fun d6 =>
 asImmZ true (.int .i64) (s.tmps 26) fun d8 =>
 asRef (40, 0) [] (s.tmps 38) <|
 asImmZ true (.int .i64) (s.tmps 39) fun d11 =>
 asImmZ true (.int .i64) (s.tmps 40) fun d13 =>
 asRoot true kNet (s.roots (3, 0)) fun m15 d16 =>
 asMImm m15 fun z17 =>
 asRoot false (.sl (.sl (.int .i64))) (s.roots (5, 0)) fun m19 d20 =>
 asM .own m19 <|
 asRoot false (.sl (.int .i64)) (s.roots (40, 0)) fun m22 d23 =>
 asM .own m22 <|
 .mat (loopF (i_Net_vectors_l11 d4 d11 d23) (d13, d20)) fun x => .ret (i_Net_vectors_l11_out z17 d4 d6 d8 d11 d16 d23 x)
noncomputable def i_Net_vectors_l11_L : LoopI := ⟨([1, 3, 5, 25, 26, 38, 39, 40], [(3, 0), (5, 0), (40, 0)]), ([1, 3, 25, 26], [(3, 0), (5, 0)]), i_Net_vectors_l11_D⟩
noncomputable def i_Net_vectors_l8_mk (z8_0 : Bool) (h8_0_0 : Int) (h8_0_2 : TNet) : (Int × (List (List Int))) → St := fun x => stOf [(1, (.ptr (3, 0) [])), (3, (.ref (5, 0) [])), (25, (.imm true (.int .i64) h8_0_0)), (26, (.imm true (.int .i64) x.1))] [((3, 0), some ⟨true, kNet, (.imm z8_0), h8_0_2⟩), ((5, 0), some ⟨false, (.sl (.sl (.int .i64))), .own, x.2⟩)]
noncomputable def i_Net_vectors_l8_out (_z8_0 : Bool) (_h8_0_0 : Int) (_h8_0_2 : TNet) : (List (List Int)) → Ex × St := fun x => (.exit 2, stOf [(3, (.ref (5, 0) []))] [((5, 0), some ⟨false, (.sl (.sl (.int .i64))), .own, x⟩)])
noncomputable def i_Net_vectors_l8_D (s : St) : Tre (Ex × St) :=
 asPtr (3, 0) [] (s.tmps 1) <|
 asRef (5, 0) [] (s.tmps 3) <|
 asImmZ true (.int .i64) (s.tmps 25) fun d4 =>
 asImmZ true (.int .i64) (s.tmps 26) fun d6 =>
 asRoot true kNet (s.roots (3, 0)) fun m8 d9 =>
 asMImm m8 fun z10 =>
 asRoot false (.sl (.sl (.int .i64))) (s.roots (5, 0)) fun m12 d13 =>
 asM .own m12 <|
 .mat (loopF (i_Net_vectors_l8 d4 d9) (d6, d13)) fun x => .ret (i_Net_vectors_l8_out z10 d4 d9 x)
noncomputable def i_Net_vectors_l8_L : LoopI := ⟨([1, 3, 25, 26], [(3, 0), (5, 0)]), ([3], [(5, 0)]), i_Net_vectors_l8_D⟩
noncomputable def i_Net_vectors_A : List (Nat × LoopI) := [(3, i_Net_vectors_l3_L), (11, i_Net_vectors_l11_L), (8, i_Net_vectors_l8_L)]
set_option maxRecDepth 100000 in
theorem i_Net_vectors_l3_step : ∀ (z3_0 : Bool) (h3_0_0 : Int) (h3_0_2 : TNet) (x : (Int × (List (List Int)))) (c : St → Option (Ex × St)), den i_Net_vectors_V i_Net_vectors_A (loopAt i_Net_vectors_b 0) (i_Net_vectors_l3_mk z3_0 h3_0_0 h3_0_2 x) (roundK i_Net_vectors_l3_L.kp i_Net_vectors_l3_L.kx c) = (i_Net_vectors_l3 h3_0_0 h3_0_2 x).run (roundR (i_Net_vectors_l3_mk z3_0 h3_0_0 h3_0_2) (i_Net_vectors_l3_out z3_0 h3_0_0 h3_0_2) c) := fun _ _ _ _ _ => by
 kernel_rfl
theorem i_Net_vectors_l3_ok : LoopOK i_Net_vectors_V i_Net_vectors_A (loopAt i_Net_vectors_b 0) i_Net_vectors_l3_L := loopOK_of fun s e s' h => by
 generalize hs : restrict i_Net_vectors_l3_L.kp s = s1 at h
 have h : (i_Net_vectors_l3_D s1).run some = some (e, s') := h
 obtain ⟨e1, h_0⟩ := asPtr_spec h
 obtain ⟨e2, h_1⟩ := asRef_spec h_0
 obtain ⟨d4, e3, h_2⟩ := asImmZ_spec h_1
 obtain ⟨d6, e5, h_3⟩ := asImmZ_spec h_2
 obtain ⟨m8, d9, e7, h_4⟩ := asRoot_spec h_3
 obtain ⟨z10, rfl, h_5⟩ := asMImm_spec h_4
 obtain ⟨m12, d13, e11, h_6⟩ := asRoot_spec h_5
 obtain ⟨rfl, h_7⟩ := asM_spec h_6
 obtain ⟨y, hy, hz⟩ := mat_ret h_7
 refine ⟨_, _, i_Net_vectors_l3_mk z10 d4 d9, i_Net_vectors_l3_out z10 d4 d9, i_Net_vectors_l3 d4 d9, (d6, d13), y, ?_, hy, ?_, i_Net_vectors_l3_step z10 d4 d9⟩
 ·subst hs; exact restrict_eq (T := [(1, (.ptr (3, 0) [])), (3, (.ref (5, 0) [])), (13, (.imm true (.int .i64) d4)), (14, (.imm true (.int .i64) d6))]) (U := [((3, 0), some ⟨true, kNet, (.imm z10), d9⟩), ((5, 0), some ⟨false, (.sl (.sl (.int .i64))), .own, d13⟩)]) rfl rfl ⟨e1, e2, e3, e5, trivial⟩ ⟨e7, e11, trivial⟩
 ·exact Option.some.inj hz
set_option maxRecDepth 100000 in
theorem i_Net_vectors_l11_step : ∀ (z11_0 : Bool) (h11_0_0 : Int) (h11_0_1 : Int) (h11_0_2 : Int) (h11_0_3 : Int) (h11_0_5 : TNet) (h11_0_7 : (List Int)) (x : (Int × (List (List Int)))) (c : St → Option (Ex × St)), den i_Net_vectors_V i_Net_vectors_A (loopAt i_Net_vectors_b 2) (i_Net_vectors_l11_mk z11_0 h11_0_0 h11_0_1 h11_0_2 h11_0_3 h11_0_5 h11_0_7 x) (roundK i_Net_vectors_l11_L.kp i_Net_vectors_l11_L.kx c) = (i_Net_vectors_l11 h11_0_0 h11_0_3 h11_0_7 x).run (roundR (i_Net_vectors_l11_mk z11_0 h11_0_0 h11_0_1 h11_0_2 h11_0_3 h11_0_5 h11_0_7) (i_Net_vectors_l11_out z11_0 h11_0_0 h11_0_1 h11_0_2 h11_0_3 h11_0_5 h11_0_7) c) := fun _ _ _ _ _ _ _ _ _ => by
 kernel_rfl
theorem i_Net_vectors_l11_ok : LoopOK i_Net_vectors_V i_Net_vectors_A (loopAt i_Net_vectors_b 2) i_Net_vectors_l11_L := loopOK_of fun s e s' h => by
 generalize hs : restrict i_Net_vectors_l11_L.kp s = s1 at h
 have h : (i_Net_vectors_l11_D s1).run some = some (e, s') := h
 obtain ⟨e1, h_0⟩ := asPtr_spec h
 obtain ⟨e2, h_1⟩ := asRef_spec h_0
 obtain ⟨d4, e3, h_2⟩ := asImmZ_spec h_1
 obtain ⟨d6, e5, h_3⟩ := asImmZ_spec h_2
 obtain ⟨d8, e7, h_4⟩ := asImmZ_spec h_3
 obtain ⟨e9, h_5⟩ := asRef_spec h_4
 obtain ⟨d11, e10, h_6⟩ := asImmZ_spec h_5
 obtain ⟨d13, e12, h_7⟩ := asImmZ_spec h_6
 obtain ⟨m15, d16, e14, h_8⟩ := asRoot_spec h_7
 obtain ⟨z17, rfl, h_9⟩ := asMImm_spec h_8
 obtain ⟨m19, d20, e18, h_10⟩ := asRoot_spec h_9
 obtain ⟨rfl, h_11⟩ := asM_spec h_10
 obtain ⟨m22, d23, e21, h_12⟩ := asRoot_spec h_11
 obtain ⟨rfl, h_13⟩ := asM_spec h_12
 obtain ⟨y, hy, hz⟩ := mat_ret h_13
 refine ⟨_, _, i_Net_vectors_l11_mk z17 d4 d6 d8 d11 d16 d23, i_Net_vectors_l11_out z17 d4 d6 d8 d11 d16 d23, i_Net_vectors_l11 d4 d11 d23, (d13, d20), y, ?_, hy, ?_, i_Net_vectors_l11_step z17 d4 d6 d8 d11 d16 d23⟩
 ·subst hs; exact restrict_eq (T := [(1, (.ptr (3, 0) [])), (3, (.ref (5, 0) [])), (5, (.imm true (.int .i64) d4)), (25, (.imm true (.int .i64) d6)), (26, (.imm true (.int .i64) d8)), (38, (.ref (40, 0) [])), (39, (.imm true (.int .i64) d11)), (40, (.imm true (.int .i64) d13))]) (U := [((3, 0), some ⟨true, kNet, (.imm z17), d16⟩), ((5, 0), some ⟨false, (.sl (.sl (.int .i64))), .own, d20⟩), ((40, 0), some ⟨false, (.sl (.int .i64)), .own, d23⟩)]) rfl rfl ⟨e1, e2, e3, e5, e7, e9, e10, e12, trivial⟩ ⟨e14, e18, e21, trivial⟩
 ·exact Option.some.inj hz
set_option maxRecDepth 100000 in
theorem i_Net_vectors_l8_step : ∀ (z8_0 : Bool) (h8_0_0 : Int) (h8_0_2 : TNet) (x : (Int × (List (List Int)))) (c : St → Option (Ex × St)), den i_Net_vectors_V i_Net_vectors_A (loopAt i_Net_vectors_b 1) (i_Net_vectors_l8_mk z8_0 h8_0_0 h8_0_2 x) (roundK i_Net_vectors_l8_L.kp i_Net_vectors_l8_L.kx c) = (i_Net_vectors_l8 h8_0_0 h8_0_2 x).run (roundR (i_Net_vectors_l8_mk z8_0 h8_0_0 h8_0_2) (i_Net_vectors_l8_out z8_0 h8_0_0 h8_0_2) c) := fun _ _ _ _ _ => by
 kernel_rfl
theorem i_Net_vectors_l8_ok : LoopOK i_Net_vectors_V i_Net_vectors_A (loopAt i_Net_vectors_b 1) i_Net_vectors_l8_L := loopOK_of fun s e s' h => by
 generalize hs : restrict i_Net_vectors_l8_L.kp s = s1 at h
 have h : (i_Net_vectors_l8_D s1).run some = some (e, s') := h
 obtain ⟨e1, h_0⟩ := asPtr_spec h
 obtain ⟨e2, h_1⟩ := asRef_spec h_0
 obtain ⟨d4, e3, h_2⟩ := asImmZ_spec h_1
 obtain ⟨d6, e5, h_3⟩ := asImmZ_spec h_2
 obtain ⟨m8, d9, e7, h_4⟩ := asRoot_spec h_3
 obtain ⟨z10, rfl, h_5⟩ := asMImm_spec h_4
 obtain ⟨m12, d13, e11, h_6⟩ := asRoot_spec h_5
 obtain ⟨rfl, h_7⟩ := asM_spec h_6
 obtain ⟨y, hy, hz⟩ := mat_ret h_7
 refine ⟨_, _, i_Net_vectors_l8_mk z10 d4 d9, i_Net_vectors_l8_out z10 d4 d9, i_Net_vectors_l8 d4 d9, (d6, d13), y, ?_, hy, ?_, i_Net_vectors_l8_step z10 d4 d9⟩
 ·subst hs; exact restrict_eq (T := [(1, (.ptr (3, 0) [])), (3, (.ref (5, 0) [])), (25, (.imm true (.int .i64) d4)), (26, (.imm true (.int .i64) d6))]) (U := [((3, 0), some ⟨true, kNet, (.imm z10), d9⟩), ((5, 0), some ⟨false, (.sl (.sl (.int .i64))), .own, d13⟩)]) rfl rfl ⟨e1, e2, e3, e5, trivial⟩ ⟨e7, e11, trivial⟩
 ·exact Option.some.inj hz
noncomputable def i_Net_vectors_I : FnI := ⟨i_Net_vectors_b, Try.f43.results.toList, Try.f43.resultTypes.toList, i_Net_vectors_A⟩
noncomputable def i_Net_vectors_out (_zp0 : Bool) (_p0 : TNet) : (List (List Int)) → CallOut := fun r => ⟨(.ref (1, 0) []), [], [⟨false, (.sl (.sl (.int .i64))), .own, r⟩]⟩
set_option maxRecDepth 100000 in
theorem i_Net_vectors_eq : ∀ (zp0 : Bool) (p0 : TNet), denFn i_Net_vectors_V i_Net_vectors_I ⟨[(.imm zp0 kNet p0)], []⟩ = (i_Net_vectors p0).run fun r => some (i_Net_vectors_out zp0 p0 r) := fun _ _ => by kernel_rfl
noncomputable def i_Net_vectors_G (av : List AV) (rs : List Root) : Tre CallOut :=
 asCons av fun a0_ av0 =>
 asEnd av0 <|
 asEnd rs <|
 asImm kNet a0_ fun z2 d1 =>
 .mat (i_Net_vectors_F d1) fun r => .ret (i_Net_vectors_out z2 d1 r)
noncomputable def i_Net_vectors_c : Ctr := ⟨[], fun ci => i_Net_vectors_G ci.args ci.roots, false⟩
theorem i_Net_vectors_env : EnvOK Try.prog .none i_Net_vectors_V := (envOK_cons i_unit_ok ent94 (envOK_cons i_Net_carried_ok ent90 envOK_nil))
set_option maxRecDepth 100000 in
theorem i_Net_vectors_ok : Contract Try.prog .none 43 i_Net_vectors_c := by
 have hl : LoopsOK i_Net_vectors_V i_Net_vectors_A i_Net_vectors_b := (loopsOK_all (n := 3) (by kernel_rfl) fun k hk => by
   match k, hk with
   | 0, _ => exact loopOK_at (id := 3) (L := i_Net_vectors_l3_L) (by kernel_rfl) (by kernel_rfl) i_Net_vectors_l3_ok
   | 1, _ => exact loopOK_at (id := 8) (L := i_Net_vectors_l8_L) (by kernel_rfl) (by kernel_rfl) i_Net_vectors_l8_ok
   | 2, _ => exact loopOK_at (id := 11) (L := i_Net_vectors_l11_L) (by kernel_rfl) (by kernel_rfl) i_Net_vectors_l11_ok)
 refine (contract_of (F := i_Net_vectors_I) tau_tys i_Net_vectors_env Try.func43 (by kernel_rfl) (by kernel_rfl) (by kernel_rfl) hl []).weaken ?_
 rintro ⟨av, rs⟩ co h
 have h : (i_Net_vectors_G av rs).run some = some co := h
 obtain ⟨a0_, av0, rfl, h_0⟩ := asCons_spec h
 obtain ⟨rfl, h_1⟩ := asEnd_spec h_0
 obtain ⟨rfl, h_2⟩ := asEnd_spec h_1
 obtain ⟨z2, d1, rfl, h_3⟩ := asImm_spec h_2
 exact fin_mat (i_Net_vectors_eq z2 d1) h_3
end Go.Proofs.Ytkgekgfmnhccmaa

namespace Go.Proofs.Ytkgekgfmnhccmaa
open Go Go.Abs Go.Proofs
noncomputable def i_EdgeVectors (p0 : TNet) : Tre (Int × (List (List Int))) :=
 .mat (i_ValidNet_F p0) fun r1 =>
 .cond (!r1)
  (.ret (1, []))
  (.mat (i_Net_vectors_F p0) fun r2 =>
  .ret (0, r2))
noncomputable def i_EdgeVectors_F (p0 : TNet) : Option (Int × (List (List Int))) := (i_EdgeVectors p0).run some
-- more
theorem iedgev_is {n : TN6} (h : NetP n) : i_EdgeVectors_F n = some (0, vectorsV n) := by
 unfold i_EdgeVectors_F i_EdgeVectors
 rw [run_some_mat (i_ValidNet_is n), Tre.run_cond, netOk_iff.2 h, Bool.not_true, cond_false, run_some_mat (vectors_is h)]
 rfl
noncomputable def i_EdgeVectors_V : Env := ⟨tau, [(42, i_ValidNet_c), (43, i_Net_vectors_c)], []⟩
noncomputable def i_EdgeVectors_b : Code := (Try.f12.body).getD .skip
noncomputable def i_EdgeVectors_I : FnI := ⟨i_EdgeVectors_b, Try.f12.results.toList, Try.f12.resultTypes.toList, []⟩
noncomputable def i_EdgeVectors_out (_zp0 : Bool) (_p0 : TNet) : (Int × (List (List Int))) → CallOut := fun r => ⟨(.tcons (.ref (1, 0) []) (.tcons (.imm true (.int .i64) r.1) .tnil)), [], [⟨false, (.sl (.sl (.int .i64))), .own, r.2⟩]⟩
set_option maxRecDepth 100000 in
theorem i_EdgeVectors_eq : ∀ (zp0 : Bool) (p0 : TNet), denFn i_EdgeVectors_V i_EdgeVectors_I ⟨[(.imm zp0 kNet p0)], []⟩ = (i_EdgeVectors p0).run fun r => some (i_EdgeVectors_out zp0 p0 r) := fun _ _ => by kernel_rfl
noncomputable def i_EdgeVectors_G (av : List AV) (rs : List Root) : Tre CallOut :=
 asCons av fun a0_ av0 =>
 asEnd av0 <|
 asEnd rs <|
 asImm kNet a0_ fun z2 d1 =>
 .mat (i_EdgeVectors_F d1) fun r => .ret (i_EdgeVectors_out z2 d1 r)
noncomputable def i_EdgeVectors_c : Ctr := ⟨[], fun ci => i_EdgeVectors_G ci.args ci.roots, false⟩
theorem i_EdgeVectors_env : EnvOK Try.prog .none i_EdgeVectors_V := (envOK_cons i_ValidNet_ok ent42 (envOK_cons i_Net_vectors_ok ent43 envOK_nil))
set_option maxRecDepth 100000 in
theorem i_EdgeVectors_ok : Contract Try.prog .none 12 i_EdgeVectors_c := by
 have hl : LoopsOK i_EdgeVectors_V [] i_EdgeVectors_b := loopsOK_nil (by kernel_rfl)
 refine (contract_of (F := i_EdgeVectors_I) tau_tys i_EdgeVectors_env Try.func12 (by kernel_rfl) (by kernel_rfl) (by kernel_rfl) hl []).weaken ?_
 rintro ⟨av, rs⟩ co h
 have h : (i_EdgeVectors_G av rs).run some = some co := h
 obtain ⟨a0_, av0, rfl, h_0⟩ := asCons_spec h
 obtain ⟨rfl, h_1⟩ := asEnd_spec h_0
 obtain ⟨rfl, h_2⟩ := asEnd_spec h_1
 obtain ⟨z2, d1, rfl, h_3⟩ := asImm_spec h_2
 exact fin_mat (i_EdgeVectors_eq z2 d1) h_3
end Go.Proofs.Ytkgekgfmnhccmaa

namespace Go.Proofs.Ytkgekgfmnhccmaa
open Go Go.Abs Go.Proofs
noncomputable def s_l00In (p0 : Int) (p1 : Int) (p2 : Int) : Tre Bool :=
 .cond (decide (p0 ≥ p1))
  (.ret (decide (p0 ≤ p2)))
  (.ret false)
noncomputable def s_l00In_F (p0 : Int) (p1 : Int) (p2 : Int) : Option Bool := (s_l00In p0 p1 p2).run some
theorem s_l00In_spec (n a b : Int) : s_l00In_F n a b = some (inR n a b) := by
 unfold s_l00In_F s_l00In inR
 by_cases h : a ≤ n
 ·simp [Tre.run_cond, Tre.run_ret, h]
 ·simp [Tre.run_cond, Tre.run_ret, h]
noncomputable def s_l00In_V : Env := ⟨tau, [], []⟩
noncomputable def s_l00In_b : Code := (Try.f96.body).getD .skip
noncomputable def s_l00In_I : FnI := ⟨s_l00In_b, Try.f96.results.toList, Try.f96.resultTypes.toList, []⟩
noncomputable def s_l00In_out (_p0 : Int) (_p1 : Int) (_p2 : Int) : Bool → CallOut := fun r => ⟨(.imm true .bool r), [], []⟩
set_option maxRecDepth 100000 in
theorem s_l00In_eq : ∀ (p0 : Int) (p1 : Int) (p2 : Int), denFn s_l00In_V s_l00In_I ⟨[(.imm true (.int .i64) p0), (.imm true (.int .i64) p1), (.imm true (.int .i64) p2)], []⟩ = (s_l00In p0 p1 p2).run fun r => some (s_l00In_out p0 p1 p2 r) := fun _ _ _ => by kernel_rfl
noncomputable def s_l00In_G (av : List AV) (rs : List Root) : Tre CallOut :=
 asCons av fun a0_ av0 =>
 asCons av0 fun a1_ av1 =>
 asCons av1 fun a2_ av2 =>
 asEnd av2 <|
 asEnd rs <|
 asImmZ true (.int .i64) a0_ fun d1 =>
 asImmZ true (.int .i64) a1_ fun d2 =>
 asImmZ true (.int .i64) a2_ fun d3 =>
 .ret (s_l00In_out d1 d2 d3 (inR d1 d2 d3))
noncomputable def s_l00In_c : Ctr := ⟨[], fun ci => s_l00In_G ci.args ci.roots, false⟩
theorem s_l00In_env : EnvOK Try.prog .none s_l00In_V := envOK_nil
set_option maxRecDepth 100000 in
theorem s_l00In_ok : Contract Try.prog .none 96 s_l00In_c := by
 have hl : LoopsOK s_l00In_V [] s_l00In_b := loopsOK_nil (by kernel_rfl)
 refine (contract_of (F := s_l00In_I) tau_tys s_l00In_env Try.func96 (by kernel_rfl) (by kernel_rfl) (by kernel_rfl) hl []).weaken ?_
 rintro ⟨av, rs⟩ co h
 have h : (s_l00In_G av rs).run some = some co := h
 obtain ⟨a0_, av0, rfl, h_0⟩ := asCons_spec h
 obtain ⟨a1_, av1, rfl, h_1⟩ := asCons_spec h_0
 obtain ⟨a2_, av2, rfl, h_2⟩ := asCons_spec h_1
 obtain ⟨rfl, h_3⟩ := asEnd_spec h_2
 obtain ⟨rfl, h_4⟩ := asEnd_spec h_3
 obtain ⟨d1, rfl, h_5⟩ := asImmZ_spec h_4
 obtain ⟨d2, rfl, h_6⟩ := asImmZ_spec h_5
 obtain ⟨d3, rfl, h_7⟩ := asImmZ_spec h_6
 exact fin_ret (s_l00In_eq d1 d2 d3) (s_l00In_spec d1 d2 d3) h_7
end Go.Proofs.Ytkgekgfmnhccmaa

namespace Go.Proofs.Ytkgekgfmnhccmaa
open Go Go.Abs Go.Proofs
noncomputable def s_IsIrreducible (p0 : Int) : Tre Bool :=
 .cond (decide (p0 > 0))
  (.cond (decide (p0 < 64))
   (.mat (s_l01Irreducible_F p0) fun r1 =>
   .ret r1)
   (.ret false))
  (.ret false)
noncomputable def s_IsIrreducible_F (p0 : Int) : Option Bool := (s_IsIrreducible p0).run some
noncomputable def s_IsIrreducible_V : Env := ⟨tau, [(160, s_l01Irreducible_c)], []⟩
noncomputable def s_IsIrreducible_b : Code := (Try.f137.body).getD .skip
noncomputable def s_IsIrreducible_I : FnI := ⟨s_IsIrreducible_b, Try.f137.results.toList, Try.f137.resultTypes.toList, []⟩
noncomputable def s_IsIrreducible_out (_p0 : Int) : Bool → CallOut := fun r => ⟨(.imm true .bool r), [], []⟩
set_option maxRecDepth 100000 in
theorem s_IsIrreducible_eq : ∀ (p0 : Int), denFn s_IsIrreducible_V s_IsIrreducible_I ⟨[(.imm true (.int .i64) p0)], []⟩ = (s_IsIrreducible p0).run fun r => some (s_IsIrreducible_out p0 r) := fun _ => by kernel_rfl
noncomputable def s_IsIrreducible_G (av : List AV) (rs : List Root) : Tre CallOut :=
 asCons av fun a0_ av0 =>
 asEnd av0 <|
 asEnd rs <|
 asImmZ true (.int .i64) a0_ fun d1 =>
 .mat (s_IsIrreducible_F d1) fun r => .ret (s_IsIrreducible_out d1 r)
noncomputable def s_IsIrreducible_c : Ctr := ⟨[], fun ci => s_IsIrreducible_G ci.args ci.roots, false⟩
theorem s_IsIrreducible_env : EnvOK Try.prog .none s_IsIrreducible_V := (envOK_cons s_l01Irreducible_ok ent160 envOK_nil)
set_option maxRecDepth 100000 in
theorem s_IsIrreducible_ok : Contract Try.prog .none 137 s_IsIrreducible_c := by
 have hl : LoopsOK s_IsIrreducible_V [] s_IsIrreducible_b := loopsOK_nil (by kernel_rfl)
 refine (contract_of (F := s_IsIrreducible_I) tau_tys s_IsIrreducible_env Try.func137 (by kernel_rfl) (by kernel_rfl) (by kernel_rfl) hl []).weaken ?_
 rintro ⟨av, rs⟩ co h
 have h : (s_IsIrreducible_G av rs).run some = some co := h
 obtain ⟨a0_, av0, rfl, h_0⟩ := asCons_spec h
 obtain ⟨rfl, h_1⟩ := asEnd_spec h_0
 obtain ⟨rfl, h_2⟩ := asEnd_spec h_1
 obtain ⟨d1, rfl, h_3⟩ := asImmZ_spec h_2
 exact fin_mat (s_IsIrreducible_eq d1) h_3
end Go.Proofs.Ytkgekgfmnhccmaa

namespace Go.Proofs.Ytkgekgfmnhccmaa
open Go Go.Abs Go.Proofs
noncomputable def s_l01Ok (p0 : (Int × (Int × Unit))) : Tre Bool :=
 .cond (inR p0.1 1 5)
  (.mat (s_IsIrreducible_F p0.2.1) fun r1 =>
  .cond r1
   (.mat (s_l01Degree_F p0.2.1) fun r2 =>
   .ret (decide (r2 = p0.1)))
   (.ret false))
  (.ret false)
noncomputable def s_l01Ok_F (p0 : (Int × (Int × Unit))) : Option Bool := (s_l01Ok p0).run some
-- more
set_option maxRecDepth 100000 in
theorem s_l01Ok_is (f : Int × Int × Unit) : s_l01Ok_F f = some (fieldOk f) := by
 refine field_of ?_ ?_ (by kernel_rfl) f
 ·intro f h
  unfold s_l01Ok_F s_l01Ok
  rw [Tre.run_cond, h]; rfl
 ·intro f h
  unfold s_l01Ok_F s_l01Ok
  rw [Tre.run_cond]
  have : s_IsIrreducible_F f.2.1 = some false := by
   unfold s_IsIrreducible_F s_IsIrreducible
   rw [Tre.run_cond]
   by_cases h1 : f.2.1 > 0
   ·rw [decide_eq_true h1, cond_true, Tre.run_cond, decide_eq_false (by omega)]; rfl
   ·rw [decide_eq_false h1]; rfl
  rw [run_some_mat this]
  cases inR f.1 1 5 <;> rfl
noncomputable def s_l01Ok_V : Env := ⟨tau, [(96, s_l00In_c), (137, s_IsIrreducible_c), (138, s_l01Degree_c)], []⟩
noncomputable def s_l01Ok_b : Code := (Try.f95.body).getD .skip
noncomputable def s_l01Ok_I : FnI := ⟨s_l01Ok_b, Try.f95.results.toList, Try.f95.resultTypes.toList, []⟩
noncomputable def s_l01Ok_out (_p0 : (Int × (Int × Unit))) : Bool → CallOut := fun r => ⟨(.imm true .bool r), [], []⟩
set_option maxRecDepth 100000 in
theorem s_l01Ok_eq : ∀ (p0 : (Int × (Int × Unit))), denFn s_l01Ok_V s_l01Ok_I ⟨[(.imm true kField p0)], []⟩ = (s_l01Ok p0).run fun r => some (s_l01Ok_out p0 r) := fun _ => by kernel_rfl
noncomputable def s_l01Ok_G (av : List AV) (rs : List Root) : Tre CallOut :=
 asCons av fun a0_ av0 =>
 asEnd av0 <|
 asEnd rs <|
 asImmZ true kField a0_ fun d1 =>
 .mat (s_l01Ok_F d1) fun r => .ret (s_l01Ok_out d1 r)
noncomputable def s_l01Ok_c : Ctr := ⟨[], fun ci => s_l01Ok_G ci.args ci.roots, false⟩
theorem s_l01Ok_env : EnvOK Try.prog .none s_l01Ok_V := (envOK_cons s_l00In_ok ent96 (envOK_cons s_IsIrreducible_ok ent137 (envOK_cons s_l01Degree_ok ent138 envOK_nil)))
set_option maxRecDepth 100000 in
theorem s_l01Ok_ok : Contract Try.prog .none 95 s_l01Ok_c := by
 have hl : LoopsOK s_l01Ok_V [] s_l01Ok_b := loopsOK_nil (by kernel_rfl)
 refine (contract_of (F := s_l01Ok_I) tau_tys s_l01Ok_env Try.func95 (by kernel_rfl) (by kernel_rfl) (by kernel_rfl) hl []).weaken ?_
 rintro ⟨av, rs⟩ co h
 have h : (s_l01Ok_G av rs).run some = some co := h
 obtain ⟨a0_, av0, rfl, h_0⟩ := asCons_spec h
 obtain ⟨rfl, h_1⟩ := asEnd_spec h_0
 obtain ⟨rfl, h_2⟩ := asEnd_spec h_1
 obtain ⟨d1, rfl, h_3⟩ := asImmZ_spec h_2
 exact fin_mat (s_l01Ok_eq d1) h_3
end Go.Proofs.Ytkgekgfmnhccmaa

namespace Go.Proofs.Ytkgekgfmnhccmaa
open Go Go.Abs Go.Proofs
noncomputable def s_l00Rises_l2 (h2_0_0 : (List Int)) (h2_0_1 : Int) (h2_0_2 : Int) : Int → Tre (Int ⊕ (Bool ⊕ Unit)) := fun s2 =>
 .cond (decide (s2 < (h2_0_0.length : Int)))
  (.ite (0 ≤ s2 ∧ s2 < (h2_0_0.length : Int)) <|
  .mat (h2_0_0[s2.toNat]?) fun x1 =>
  .cond (!(inR x1 h2_0_1 h2_0_2))
   (.ret (.inr (.inl false)))
   (.cond (decide (s2 > 0))
    (.ite (0 ≤ iwrap .i64 (s2 - 1) ∧ iwrap .i64 (s2 - 1) < (h2_0_0.length : Int)) <|
    .mat (h2_0_0[(iwrap .i64 (s2 - 1)).toNat]?) fun x2 =>
    .ite (0 ≤ s2 ∧ s2 < (h2_0_0.length : Int)) <|
    .mat (h2_0_0[s2.toNat]?) fun x3 =>
    .cond (decide (x2 ≥ x3))
     (.ret (.inr (.inl false)))
     (.ret (.inl (iwrap .i64 (s2 + 1)))))
    (.ret (.inl (iwrap .i64 (s2 + 1))))))
  (.ret (.inr (.inr ())))
noncomputable def s_l00Rises (p0 : (List Int)) (p1 : Int) (p2 : Int) : Tre Bool :=
 .mat (loopF (s_l00Rises_l2 p0 p1 p2) 0) fun l4 =>
 .alt l4
  (fun a5 =>
   .ret a5)
  (fun _ =>
   .ret true)
noncomputable def s_l00Rises_F (p0 : (List Int)) (p1 : Int) (p2 : Int) : Option Bool := (s_l00Rises p0 p1 p2).run some
-- more
theorem s_l00Rises_two (a b lo hi : Int) : s_l00Rises_F [a, b] lo hi = some (inR a lo hi && (inR b lo hi && decide (a < b))) := by
 unfold s_l00Rises_F s_l00Rises
 rw [Tre.run_mat, all_loop (xs := [a, b]) (fun i x => inR x lo hi && (decide (i = 0) || decide (a < x))) (.inl false) (.inr ())]
 ·simp only [allI, Nat.zero_add, decide_true, Bool.true_or, Bool.and_true, show decide (1 = 0) = false from rfl, Bool.false_or]
  generalize (inR a lo hi && (inR b lo hi && decide (a < b))) = z
  cases z <;> rfl
 ·intro i x hx _
  unfold s_l00Rises_l2
  rw [run_inb hx, Tre.run_cond]
  cases inR x lo hi
  ·rfl
  rw [Bool.not_true, cond_false, Tre.run_cond]
  match i, hx with
  | 0, _ => rfl
  | 1, hx =>
   rw [decide_eq_true (by decide), cond_true, show iwrap .i64 ((1 : Nat) - 1 : Int) = ((0 : Nat) : Int) from by decide, run_at (x := a) rfl, run_at hx, Tre.run_cond]
   by_cases h : a < x
   ·rw [decide_eq_false (by omega), decide_eq_true h]; rfl
   ·rw [decide_eq_true (by omega), decide_eq_false h]; rfl
 ·unfold s_l00Rises_l2
  exact run_out
noncomputable def s_l00Rises_V : Env := ⟨tau, [(96, s_l00In_c)], []⟩
noncomputable def s_l00Rises_b : Code := (Try.f97.body).getD .skip
noncomputable def s_l00Rises_l2_mk (z2_0 : Bool) (h2_0_0 : (List Int)) (h2_0_1 : Int) (h2_0_2 : Int) : Int → St := fun x => stOf [(0, (.imm z2_0 (.sl (.int .i64)) h2_0_0)), (1, (.imm true (.int .i64) h2_0_1)), (2, (.imm true (.int .i64) h2_0_2)), (7, (.imm true (.int .i64) x))] []
noncomputable def s_l00Rises_l2_out (_z2_0 : Bool) (_h2_0_0 : (List Int)) (_h2_0_1 : Int) (_h2_0_2 : Int) : (Bool ⊕ Unit) → Ex × St
 | .inl x => (.ret, stOf [(6, (.imm true .bool x))] [])
 | .inr _ => (.exit 0, stOf [(6, .dead)] [])
noncomputable def s_l00Rises_l2_D (s : St) : Tre (Ex × St) :=
 asImm (.sl (.int .i64)) (s.tmps 0) fun z3 d2 =>
 asImmZ true (.int .i64) (s.tmps 1) fun d5 =>
 asImmZ true (.int .i64) (s.tmps 2) fun d7 =>
 asImmZ true (.int .i64) (s.tmps 7) fun d9 =>
 .mat (loopF (s_l00Rises_l2 d2 d5 d7) d9) fun x => .alt x (fun a0 => .ret (s_l00Rises_l2_out z3 d2 d5 d7 (.inl a0))) (fun b0 => .ret (s_l00Rises_l2_out z3 d2 d5 d7 (.inr b0)))
noncomputable def s_l00Rises_l2_L : LoopI := ⟨([0, 1, 2, 7], []), ([6], []), s_l00Rises_l2_D⟩
noncomputable def s_l00Rises_A : List (Nat × LoopI) := [(2, s_l00Rises_l2_L)]
set_option maxRecDepth 100000 in
theorem s_l00Rises_l2_step : ∀ (z2_0 : Bool) (h2_0_0 : (List Int)) (h2_0_1 : Int) (h2_0_2 : Int) (x : Int) (c : St → Option (Ex × St)), den s_l00Rises_V s_l00Rises_A (loopAt s_l00Rises_b 0) (s_l00Rises_l2_mk z2_0 h2_0_0 h2_0_1 h2_0_2 x) (roundK s_l00Rises_l2_L.kp s_l00Rises_l2_L.kx c) = (s_l00Rises_l2 h2_0_0 h2_0_1 h2_0_2 x).run (roundR (s_l00Rises_l2_mk z2_0 h2_0_0 h2_0_1 h2_0_2) (s_l00Rises_l2_out z2_0 h2_0_0 h2_0_1 h2_0_2) c) := fun _ _ _ _ _ _ => by
 kernel_rfl
theorem s_l00Rises_l2_ok : LoopOK s_l00Rises_V s_l00Rises_A (loopAt s_l00Rises_b 0) s_l00Rises_l2_L := loopOK_of fun s e s' h => by
 generalize hs : restrict s_l00Rises_l2_L.kp s = s1 at h
 have h : (s_l00Rises_l2_D s1).run some = some (e, s') := h
 obtain ⟨z3, d2, e1, h_0⟩ := asImm_spec h
 obtain ⟨d5, e4, h_1⟩ := asImmZ_spec h_0
 obtain ⟨d7, e6, h_2⟩ := asImmZ_spec h_1
 obtain ⟨d9, e8, h_3⟩ := asImmZ_spec h_2
 obtain ⟨y, hy, hz⟩ := mat_some h_3
 refine ⟨_, _, s_l00Rises_l2_mk z3 d2 d5 d7, s_l00Rises_l2_out z3 d2 d5 d7, s_l00Rises_l2 d2 d5 d7, d9, y, ?_, hy, ?_, s_l00Rises_l2_step z3 d2 d5 d7⟩
 ·subst hs; exact restrict_eq (T := [(0, (.imm z3 (.sl (.int .i64)) d2)), (1, (.imm true (.int .i64) d5)), (2, (.imm true (.int .i64) d7)), (7, (.imm true (.int .i64) d9))]) (U := []) rfl rfl ⟨e1, e4, e6, e8, trivial⟩ trivial
 ·rcases y with x | x <;> exact Option.some.inj hz
noncomputable def s_l00Rises_I : FnI := ⟨s_l00Rises_b, Try.f97.results.toList, Try.f97.resultTypes.toList, s_l00Rises_A⟩
noncomputable def s_l00Rises_out (_zp0 : Bool) (_p0 : (List Int)) (_p1 : Int) (_p2 : Int) : Bool → CallOut := fun r => ⟨(.imm true .bool r), [], []⟩
set_option maxRecDepth 100000 in
theorem s_l00Rises_eq : ∀ (zp0 : Bool) (p0 : (List Int)) (p1 : Int) (p2 : Int), denFn s_l00Rises_V s_l00Rises_I ⟨[(.imm zp0 (.sl (.int .i64)) p0), (.imm true (.int .i64) p1), (.imm true (.int .i64) p2)], []⟩ = (s_l00Rises p0 p1 p2).run fun r => some (s_l00Rises_out zp0 p0 p1 p2 r) := fun _ _ _ _ => by kernel_rfl
noncomputable def s_l00Rises_G (av : List AV) (rs : List Root) : Tre CallOut :=
 asCons av fun a0_ av0 =>
 asCons av0 fun a1_ av1 =>
 asCons av1 fun a2_ av2 =>
 asEnd av2 <|
 asEnd rs <|
 asImm (.sl (.int .i64)) a0_ fun z2 d1 =>
 asImmZ true (.int .i64) a1_ fun d3 =>
 asImmZ true (.int .i64) a2_ fun d4 =>
 .mat (s_l00Rises_F d1 d3 d4) fun r => .ret (s_l00Rises_out z2 d1 d3 d4 r)
noncomputable def s_l00Rises_c : Ctr := ⟨[], fun ci => s_l00Rises_G ci.args ci.roots, false⟩
theorem s_l00Rises_env : EnvOK Try.prog .none s_l00Rises_V := (envOK_cons s_l00In_ok ent96 envOK_nil)
set_option maxRecDepth 100000 in
theorem s_l00Rises_ok : Contract Try.prog .none 97 s_l00Rises_c := by
 have hl : LoopsOK s_l00Rises_V s_l00Rises_A s_l00Rises_b := (loopsOK_all (n := 1) (by kernel_rfl) fun k hk => by
   match k, hk with
   | 0, _ => exact loopOK_at (id := 2) (L := s_l00Rises_l2_L) (by kernel_rfl) (by kernel_rfl) s_l00Rises_l2_ok)
 refine (contract_of (F := s_l00Rises_I) tau_tys s_l00Rises_env Try.func97 (by kernel_rfl) (by kernel_rfl) (by kernel_rfl) hl []).weaken ?_
 rintro ⟨av, rs⟩ co h
 have h : (s_l00Rises_G av rs).run some = some co := h
 obtain ⟨a0_, av0, rfl, h_0⟩ := asCons_spec h
 obtain ⟨a1_, av1, rfl, h_1⟩ := asCons_spec h_0
 obtain ⟨a2_, av2, rfl, h_2⟩ := asCons_spec h_1
 obtain ⟨rfl, h_3⟩ := asEnd_spec h_2
 obtain ⟨rfl, h_4⟩ := asEnd_spec h_3
 obtain ⟨z2, d1, rfl, h_5⟩ := asImm_spec h_4
 obtain ⟨d3, rfl, h_6⟩ := asImmZ_spec h_5
 obtain ⟨d4, rfl, h_7⟩ := asImmZ_spec h_6
 exact fin_mat (s_l00Rises_eq z2 d1 d3 d4) h_7
end Go.Proofs.Ytkgekgfmnhccmaa

namespace Go.Proofs.Ytkgekgfmnhccmaa
open Go Go.Abs Go.Proofs
noncomputable def s_l04Elements_l2 (h2_0_0 : (List Int)) (h2_0_2 : (Int × (Int × Unit))) : Int → Tre (Int ⊕ (Bool ⊕ Unit)) := fun s2 =>
 .cond (decide (s2 < (h2_0_0.length : Int)))
  (.ite (0 ≤ s2 ∧ s2 < (h2_0_0.length : Int)) <|
  .mat (h2_0_0[s2.toNat]?) fun x1 =>
  .mat (s_l01Size_F h2_0_2) fun r2 =>
  let v3 := inR x1 0 (iwrap .i64 (r2 - 1))
  .cond (!v3)
   (.ret (.inr (.inl false)))
   (.ret (.inl (iwrap .i64 (s2 + 1)))))
  (.ret (.inr (.inr ())))
noncomputable def s_l04Elements (p0 : (Int × (Int × Unit))) (p1 : (List Int)) : Tre Bool :=
 .mat (loopF (s_l04Elements_l2 p1 p0) 0) fun l4 =>
 .alt l4
  (fun a5 =>
   .ret a5)
  (fun _ =>
   .ret true)
noncomputable def s_l04Elements_F (p0 : (Int × (Int × Unit))) (p1 : (List Int)) : Option Bool := (s_l04Elements p0 p1).run some
-- more
theorem s_l01Size_is {f : TF3} (hf : fieldOk f = true) : s_l01Size_F f = some (ishl .i64 1 (iwrap .u64 f.1)) := by
 have := fieldOk_deg hf
 unfold s_l01Size_F s_l01Size
 rw [Tre.run_ite, if_pos (iwrap_u64_nonneg _)]
 rfl
theorem s_l04Elements_is {f : TF3} (hf : fieldOk f = true) (c : List Int) (hc : c.length < 4611686018427387904) : s_l04Elements_F f c = some (elsOk f c) := by
 unfold s_l04Elements_F s_l04Elements elsOk
 rw [Tre.run_mat, all_loop' (xs := c) (fun x => inR x 0 (topF f)) (.inl false) (.inr ())]
 ·generalize List.all _ _ = z
  cases z <;> rfl
 ·intro i x hx
  have hi : i < c.length := (List.getElem?_eq_some_iff.1 hx).1
  unfold s_l04Elements_l2
  rw [run_inb hx, run_some_mat (s_l01Size_is hf), topF_is hf]
  dsimp only
  rw [Tre.run_cond]
  cases inR x 0 (topF f)
  ·rfl
  ·simp only [Bool.not_true, cond_false, cond_true, Tre.run_ret, iwrap_succ (show i < 4611686018427387904 by omega)]
 ·unfold s_l04Elements_l2
  exact run_out
noncomputable def s_l04Elements_V : Env := ⟨tau, [(86, s_l01Size_c), (96, s_l00In_c)], []⟩
noncomputable def s_l04Elements_b : Code := (Try.f61.body).getD .skip
noncomputable def s_l04Elements_l2_mk (z2_0 : Bool) (h2_0_0 : (List Int)) (h2_0_2 : (Int × (Int × Unit))) : Int → St := fun x => stOf [(1, (.imm z2_0 (.sl (.int .i64)) h2_0_0)), (2, (.ptr (4, 0) [])), (5, (.imm true (.int .i64) x))] [((4, 0), some ⟨true, kField, .own, h2_0_2⟩)]
noncomputable def s_l04Elements_l2_out (_z2_0 : Bool) (_h2_0_0 : (List Int)) (_h2_0_2 : (Int × (Int × Unit))) : (Bool ⊕ Unit) → Ex × St
 | .inl x => (.ret, stOf [(4, (.imm true .bool x))] [])
 | .inr _ => (.exit 0, stOf [(4, .dead)] [])
noncomputable def s_l04Elements_l2_D (s : St) : Tre (Ex × St) :=
 asImm (.sl (.int .i64)) (s.tmps 1) fun z3 d2 =>
 asPtr (4, 0) [] (s.tmps 2) <|
 asImmZ true (.int .i64) (s.tmps 5) fun d6 =>
 asRoot true kField (s.roots (4, 0)) fun m8 d9 =>
 asM .own m8 <|
 .mat (loopF (s_l04Elements_l2 d2 d9) d6) fun x => .alt x (fun a0 => .ret (s_l04Elements_l2_out z3 d2 d9 (.inl a0))) (fun b0 => .ret (s_l04Elements_l2_out z3 d2 d9 (.inr b0)))
noncomputable def s_l04Elements_l2_L : LoopI := ⟨([1, 2, 5], [(4, 0)]), ([4], []), s_l04Elements_l2_D⟩
noncomputable def s_l04Elements_A : List (Nat × LoopI) := [(2, s_l04Elements_l2_L)]
set_option maxRecDepth 100000 in
theorem s_l04Elements_l2_step : ∀ (z2_0 : Bool) (h2_0_0 : (List Int)) (h2_0_2 : (Int × (Int × Unit))) (x : Int) (c : St → Option (Ex × St)), den s_l04Elements_V s_l04Elements_A (loopAt s_l04Elements_b 0) (s_l04Elements_l2_mk z2_0 h2_0_0 h2_0_2 x) (roundK s_l04Elements_l2_L.kp s_l04Elements_l2_L.kx c) = (s_l04Elements_l2 h2_0_0 h2_0_2 x).run (roundR (s_l04Elements_l2_mk z2_0 h2_0_0 h2_0_2) (s_l04Elements_l2_out z2_0 h2_0_0 h2_0_2) c) := fun _ _ _ _ _ => by
 kernel_rfl
theorem s_l04Elements_l2_ok : LoopOK s_l04Elements_V s_l04Elements_A (loopAt s_l04Elements_b 0) s_l04Elements_l2_L := loopOK_of fun s e s' h => by
 generalize hs : restrict s_l04Elements_l2_L.kp s = s1 at h
 have h : (s_l04Elements_l2_D s1).run some = some (e, s') := h
 obtain ⟨z3, d2, e1, h_0⟩ := asImm_spec h
 obtain ⟨e4, h_1⟩ := asPtr_spec h_0
 obtain ⟨d6, e5, h_2⟩ := asImmZ_spec h_1
 obtain ⟨m8, d9, e7, h_3⟩ := asRoot_spec h_2
 obtain ⟨rfl, h_4⟩ := asM_spec h_3
 obtain ⟨y, hy, hz⟩ := mat_some h_4
 refine ⟨_, _, s_l04Elements_l2_mk z3 d2 d9, s_l04Elements_l2_out z3 d2 d9, s_l04Elements_l2 d2 d9, d6, y, ?_, hy, ?_, s_l04Elements_l2_step z3 d2 d9⟩
 ·subst hs; exact restrict_eq (T := [(1, (.imm z3 (.sl (.int .i64)) d2)), (2, (.ptr (4, 0) [])), (5, (.imm true (.int .i64) d6))]) (U := [((4, 0), some ⟨true, kField, .own, d9⟩)]) rfl rfl ⟨e1, e4, e5, trivial⟩ ⟨e7, trivial⟩
 ·rcases y with x | x <;> exact Option.some.inj hz
noncomputable def s_l04Elements_I : FnI := ⟨s_l04Elements_b, Try.f61.results.toList, Try.f61.resultTypes.toList, s_l04Elements_A⟩
noncomputable def s_l04Elements_out (_zp0 : Bool) (_p0 : (Int × (Int × Unit))) (_p1 : (List Int)) : Bool → CallOut := fun r => ⟨(.imm true .bool r), [], []⟩
set_option maxRecDepth 100000 in
theorem s_l04Elements_eq : ∀ (zp0 : Bool) (p0 : (Int × (Int × Unit))) (p1 : (List Int)), denFn s_l04Elements_V s_l04Elements_I ⟨[(.imm true kField p0), (.imm zp0 (.sl (.int .i64)) p1)], []⟩ = (s_l04Elements p0 p1).run fun r => some (s_l04Elements_out zp0 p0 p1 r) := fun _ _ _ => by kernel_rfl
noncomputable def s_l04Elements_G (av : List AV) (rs : List Root) : Tre CallOut :=
 asCons av fun a0_ av0 =>
 asCons av0 fun a1_ av1 =>
 asEnd av1 <|
 asEnd rs <|
 asImmZ true kField a0_ fun d1 =>
 asImm (.sl (.int .i64)) a1_ fun z3 d2 =>
 .mat (s_l04Elements_F d1 d2) fun r => .ret (s_l04Elements_out z3 d1 d2 r)
noncomputable def s_l04Elements_c : Ctr := ⟨[], fun ci => s_l04Elements_G ci.args ci.roots, false⟩
theorem s_l04Elements_env : EnvOK Try.prog .none s_l04Elements_V := (envOK_cons s_l01Size_ok ent86 (envOK_cons s_l00In_ok ent96 envOK_nil))
set_option maxRecDepth 100000 in
theorem s_l04Elements_ok : Contract Try.prog .none 61 s_l04Elements_c := by
 have hl : LoopsOK s_l04Elements_V s_l04Elements_A s_l04Elements_b := (loopsOK_all (n := 1) (by kernel_rfl) fun k hk => by
   match k, hk with
   | 0, _ => exact loopOK_at (id := 2) (L := s_l04Elements_l2_L) (by kernel_rfl) (by kernel_rfl) s_l04Elements_l2_ok)
 refine (contract_of (F := s_l04Elements_I) tau_tys s_l04Elements_env Try.func61 (by kernel_rfl) (by kernel_rfl) (by kernel_rfl) hl []).weaken ?_
 rintro ⟨av, rs⟩ co h
 have h : (s_l04Elements_G av rs).run some = some co := h
 obtain ⟨a0_, av0, rfl, h_0⟩ := asCons_spec h
 obtain ⟨a1_, av1, rfl, h_1⟩ := asCons_spec h_0
 obtain ⟨rfl, h_2⟩ := asEnd_spec h_1
 obtain ⟨rfl, h_3⟩ := asEnd_spec h_2
 obtain ⟨d1, rfl, h_4⟩ := asImmZ_spec h_3
 obtain ⟨z3, d2, rfl, h_5⟩ := asImm_spec h_4
 exact fin_mat (s_l04Elements_eq z3 d1 d2) h_5
end Go.Proofs.Ytkgekgfmnhccmaa

namespace Go.Proofs.Ytkgekgfmnhccmaa
open Go Go.Abs Go.Proofs
noncomputable def s_l07Ok_d9f5_l4 (h4_0_1 : TNet) : Int → Tre (Int ⊕ (Bool ⊕ Unit)) := fun s4 =>
 .cond (decide (s4 < (h4_0_1.2.2.2.1.length : Int)))
  (.ite (0 ≤ s4 ∧ s4 < (h4_0_1.2.2.2.1.length : Int)) <|
  .mat (h4_0_1.2.2.2.1[s4.toNat]?) fun x2 =>
  .cond (!decide ((x2.length : Int) = 2))
   (.ret (.inr (.inl false)))
   (.ite (0 ≤ s4 ∧ s4 < (h4_0_1.2.2.2.1.length : Int)) <|
   .mat (h4_0_1.2.2.2.1[s4.toNat]?) fun x3 =>
   let v4 := iwrap .i64 (h4_0_1.2.1 - 1)
   .mat (s_l00Rises_F x3 0 v4) fun r5 =>
   .cond (!r5)
    (.ret (.inr (.inl false)))
    (.cond (decide (s4 > 0))
     (.ite (0 ≤ iwrap .i64 (s4 - 1) ∧ iwrap .i64 (s4 - 1) < (h4_0_1.2.2.2.1.length : Int)) <|
     .mat (h4_0_1.2.2.2.1[(iwrap .i64 (s4 - 1)).toNat]?) fun x6 =>
     .ite ((0 : Int) ≤ 0 ∧ (0 : Int) < (x6.length : Int)) <|
     .mat (x6[0]?) fun x7 =>
     .ite (0 ≤ s4 ∧ s4 < (h4_0_1.2.2.2.1.length : Int)) <|
     .mat (h4_0_1.2.2.2.1[s4.toNat]?) fun x8 =>
     .ite ((0 : Int) ≤ 0 ∧ (0 : Int) < (x8.length : Int)) <|
     .mat (x8[0]?) fun x9 =>
     .cond (decide (x7 > x9))
      (.ret (.inr (.inl false)))
      (.ret (.inl (iwrap .i64 (s4 + 1)))))
     (.ret (.inl (iwrap .i64 (s4 + 1)))))))
  (.ret (.inr (.inr ())))
noncomputable def s_l07Ok_d9f5_l9 (h9_0_1 : TNet) : Int → Tre (Int ⊕ (Bool ⊕ Unit)) := fun s9 =>
 .cond (decide (s9 < (h9_0_1.2.2.2.2.1.length : Int)))
  (.ite (0 ≤ s9 ∧ s9 < (h9_0_1.2.2.2.2.1.length : Int)) <|
  .mat (h9_0_1.2.2.2.2.1[s9.toNat]?) fun x13 =>
  .ite (0 ≤ s9 ∧ s9 < (h9_0_1.2.2.2.1.length : Int)) <|
  .mat (h9_0_1.2.2.2.1[s9.toNat]?) fun x14 =>
  .ite ((0 : Int) ≤ 0 ∧ (0 : Int) < (x14.length : Int)) <|
  .mat (x14[0]?) fun x15 =>
  .mat (s_l07Has_e270_F h9_0_1 x15) fun r16 =>
  .cond (!decide ((x13.length : Int) = r16))
   (.ret (.inr (.inl false)))
   (.ite (0 ≤ s9 ∧ s9 < (h9_0_1.2.2.2.2.1.length : Int)) <|
   .mat (h9_0_1.2.2.2.2.1[s9.toNat]?) fun x17 =>
   .mat (s_l04Elements_F h9_0_1.1 x17) fun r18 =>
   .cond (!r18)
    (.ret (.inr (.inl false)))
    (.ret (.inl (iwrap .i64 (s9 + 1))))))
  (.ret (.inr (.inr ())))
noncomputable def s_l07Ok_d9f5 (p0 : TNet) : Tre Bool :=
 .mat (s_l01Ok_F p0.1) fun r1 =>
 .cond (!r1)
  (.ret false)
  (.cond (!(inR p0.2.1 2 8))
   (.ret false)
   (.cond (!(inR p0.2.2.1 1 3))
    (.ret false)
    (.cond (decide ((p0.2.2.2.1.length : Int) > 14))
     (.ret false)
     (.cond (!decide ((p0.2.2.2.2.1.length : Int) = (p0.2.2.2.1.length : Int)))
      (.ret false)
      (.mat (loopF (s_l07Ok_d9f5_l4 p0) 0) fun l10 =>
      .alt l10
       (fun a11 =>
        .ret a11)
       (fun _ =>
        .mat (loopF (s_l07Ok_d9f5_l9 p0) 0) fun l19 =>
        .alt l19
         (fun a20 =>
          .ret a20)
         (fun _ =>
          .ret true)))))))
noncomputable def s_l07Ok_d9f5_F (p0 : TNet) : Option Bool := (s_l07Ok_d9f5 p0).run some
-- more
theorem s_l07Ok_edges (n : TN6) (hN : 2 ≤ n.2.1 ∧ n.2.1 ≤ 8) (hl : n.2.2.2.1.length ≤ 14) : loopF (s_l07Ok_d9f5_l4 n) 0 = some (cond (allI (edgeOk n.2.1 n.2.2.2.1) 0 n.2.2.2.1) (.inr ()) (.inl false)) := by
 refine all_loop (β := Bool ⊕ Unit) (edgeOk n.2.1 n.2.2.2.1) (.inl false) (.inr ()) ?_ ?_
 ·intro i e he hp
  have hi : i < n.2.2.2.1.length := (List.getElem?_eq_some_iff.1 he).1
  unfold s_l07Ok_d9f5_l4
  rw [run_inb he, Tre.run_cond]
  by_cases h2 : e.length = 2
  case neg =>
   rw [decide_eq_false (by omega), show edgeOk n.2.1 n.2.2.2.1 i e = false from by unfold edgeOk; rw [decide_eq_false h2]; rfl]
   rfl
  obtain ⟨a, b, rfl⟩ := len2 h2
  rw [show (!decide ((([a, b] : List Int).length : Int) = 2)) = false from rfl, cond_false, run_at he]
  dsimp only
  rw [run_some_mat (s_l00Rises_two a b 0 _), Tre.run_cond, iwrap_i64 (by omega) (by omega)]
  rw [show edgeOk n.2.1 n.2.2.2.1 i [a, b] = ((inR a 0 (n.2.1 - 1) && (inR b 0 (n.2.1 - 1) && decide (a < b))) && (decide (i = 0) || decide (e0 (n.2.2.2.1.getD (i - 1) []) ≤ a))) from by unfold edgeOk; rfl]
  generalize (inR a 0 (n.2.1 - 1) && (inR b 0 (n.2.1 - 1) && decide (a < b))) = z
  cases z
  ·rfl
  rw [Bool.not_true, cond_false, Tre.run_cond, Bool.true_and]
  by_cases h0 : i = 0
  ·subst h0; rfl
  obtain ⟨q, hq⟩ : ∃ q, n.2.2.2.1[i - 1]? = some q := ⟨_, List.getElem?_eq_getElem (by omega)⟩
  obtain ⟨c, d, rfl⟩ := len2 (edgeOk_len (hp (i - 1) q (by omega) hq))
  rw [decide_eq_true (by omega), cond_true, iwrap_pred (by omega) (by omega), run_at hq, Tre.run_ite, if_pos ⟨by decide, by simp⟩, Tre.run_mat]
  simp only [List.getElem?_cons_zero, Option.bind_some]
  rw [run_at he, Tre.run_ite, if_pos ⟨by decide, by simp⟩, Tre.run_mat]
  simp only [List.getElem?_cons_zero, Option.bind_some]
  rw [Tre.run_cond, getD_of hq, decide_eq_false h0, Bool.false_or, show e0 [c, d] = c from rfl]
  by_cases h3 : c ≤ a
  ·rw [decide_eq_false (by omega), decide_eq_true h3, cond_false, cond_true, Tre.run_ret, iwrap_succ (by omega)]
  ·rw [decide_eq_true (by omega), decide_eq_false h3]; rfl
 ·unfold s_l07Ok_d9f5_l4
  exact run_out
theorem s_l07Ok_coefs (n : TN6) (hf : fieldOk n.1 = true) (hM : n.2.2.1 ≤ 3) (hl : n.2.2.2.1.length ≤ 14) (hc : n.2.2.2.2.1.length = n.2.2.2.1.length) (h2 : ∀ e ∈ n.2.2.2.1, e.length = 2) : loopF (s_l07Ok_d9f5_l9 n) 0 = some (cond (allI (coefOk n) 0 n.2.2.2.2.1) (.inr ()) (.inl false)) := by
 refine all_loop (β := Bool ⊕ Unit) (coefOk n) (.inl false) (.inr ()) ?_ ?_
 ·intro i x hx _
  have hi : i < n.2.2.2.2.1.length := (List.getElem?_eq_some_iff.1 hx).1
  obtain ⟨e, he⟩ : ∃ e, n.2.2.2.1[i]? = some e := ⟨_, List.getElem?_eq_getElem (by omega)⟩
  obtain ⟨a, b, rfl⟩ := len2 (h2 e (List.mem_of_getElem? he))
  unfold s_l07Ok_d9f5_l9 coefOk
  rw [getD_of he, show e0 [a, b] = a from rfl, run_inb hx, run_at he, Tre.run_ite, if_pos ⟨by decide, by simp⟩, Tre.run_mat]
  simp only [List.getElem?_cons_zero, Option.bind_some]
  rw [run_some_mat (s_l07Has_is n hl h2 a), Tre.run_cond]
  by_cases h : (x.length : Int) = hasV n a
  ·rw [decide_eq_true h, Bool.not_true, cond_false, run_at hx, run_some_mat (s_l04Elements_is hf x ?_), Tre.run_cond]
   ·cases elsOk n.1 x
    ·rfl
    ·simp only [Bool.not_true, Bool.true_and, cond_false, cond_true, Tre.run_ret, iwrap_succ (show i < 4611686018427387904 by omega)]
   ·have := hasV_le n hM hl a; omega
  ·rw [decide_eq_false h]; rfl
 ·unfold s_l07Ok_d9f5_l9
  exact run_out
theorem s_l07Ok_is (n : TN6) : s_l07Ok_d9f5_F n = some (netOk n) := by
 unfold s_l07Ok_d9f5_F s_l07Ok_d9f5 netOk
 rw [run_some_mat (s_l01Ok_is n.1), Tre.run_cond]
 cases hf : fieldOk n.1
 ·rfl
 rw [Bool.not_true, cond_false, Tre.run_cond, Bool.true_and]
 cases hN : inR n.2.1 2 8
 ·rfl
 rw [Bool.not_true, cond_false, Tre.run_cond, Bool.true_and]
 cases hM : inR n.2.2.1 1 3
 ·rfl
 rw [Bool.not_true, cond_false, Tre.run_cond, Bool.true_and]
 by_cases hl : n.2.2.2.1.length ≤ 14
 case neg => rw [decide_eq_true (by omega), decide_eq_false hl]; rfl
 rw [decide_eq_false (by omega), decide_eq_true hl, cond_false, Tre.run_cond, Bool.true_and]
 by_cases hc : n.2.2.2.2.1.length = n.2.2.2.1.length
 case neg => rw [decide_eq_false (by omega), decide_eq_false hc]; rfl
 rw [decide_eq_true (by omega), decide_eq_true hc, Bool.not_true, cond_false, run_some_mat (s_l07Ok_edges n (inR_iff.1 hN) hl), Bool.true_and]
 cases he : allI (edgeOk n.2.1 n.2.2.2.1) 0 n.2.2.2.1
 ·rfl
 rw [cond_true, Tre.run_inr, run_some_mat (s_l07Ok_coefs n hf (inR_iff.1 hM).2 hl hc ?_)]
 ·cases allI (coefOk n) 0 n.2.2.2.2.1 <;> rfl
 ·intro e hm
  obtain ⟨i, hi⟩ := List.mem_iff_getElem?.1 hm
  have := (allI_iff _ 0).1 he i e hi
  rw [Nat.zero_add] at this
  exact edgeOk_len this
noncomputable def s_l07Ok_d9f5_V : Env := ⟨tau, [(95, s_l01Ok_c), (96, s_l00In_c), (97, s_l00Rises_c), (60, s_l07Has_e270_c), (61, s_l04Elements_c)], []⟩
noncomputable def s_l07Ok_d9f5_b : Code := (Try.f44.body).getD .skip
noncomputable def s_l07Ok_d9f5_l4_mk (z4_0 : Bool) (h4_0_1 : TNet) : Int → St := fun x => stOf [(0, (.ptr (0, 0) [])), (3, (.imm true (.int .i64) x))] [((0, 0), some ⟨true, kNet, (.imm z4_0), h4_0_1⟩)]
noncomputable def s_l07Ok_d9f5_l4_out (z4_0 : Bool) (h4_0_1 : TNet) : (Bool ⊕ Unit) → Ex × St
 | .inl x => (.ret, stOf [(0, (.ptr (0, 0) [])), (2, (.imm true .bool x))] [((0, 0), some ⟨true, kNet, (.imm z4_0), h4_0_1⟩)])
 | .inr _ => (.exit 0, stOf [(0, (.ptr (0, 0) [])), (2, .dead)] [((0, 0), some ⟨true, kNet, (.imm z4_0), h4_0_1⟩)])
noncomputable def s_l07Ok_d9f5_l4_D (s : St) : Tre (Ex × St) :=
 asPtr (0, 0) [] (s.tmps 0) <|
 asImmZ true (.int .i64) (s.tmps 3) fun d3 =>
 asRoot true kNet (s.roots (0, 0)) fun m5 d6 =>
 asMImm m5 fun z7 =>
 .mat (loopF (s_l07Ok_d9f5_l4 d6) d3) fun x => .alt x (fun a0 => .ret (s_l07Ok_d9f5_l4_out z7 d6 (.inl a0))) (fun b0 => .ret (s_l07Ok_d9f5_l4_out z7 d6 (.inr b0)))
noncomputable def s_l07Ok_d9f5_l4_L : LoopI := ⟨([0, 3], [(0, 0)]), ([0, 2], [(0, 0)]), s_l07Ok_d9f5_l4_D⟩
noncomputable def s_l07Ok_d9f5_l9_mk (z9_0 : Bool) (h9_0_1 : TNet) : Int → St := fun x => stOf [(0, (.ptr (0, 0) [])), (4, (.imm true (.int .i64) x))] [((0, 0), some ⟨true, kNet, (.imm z9_0), h9_0_1⟩)]
noncomputable def s_l07Ok_d9f5_l9_out (z9_0 : Bool) (h9_0_1 : TNet) : (Bool ⊕ Unit) → Ex × St
 | .inl x => (.ret, stOf [(2, (.imm true .bool x))] [((0, 0), some ⟨true, kNet, (.imm z9_0), h9_0_1⟩)])
 | .inr _ => (.exit 2, stOf [(2, .dead)] [((0, 0), some ⟨true, kNet, (.imm z9_0), h9_0_1⟩)])
noncomputable def s_l07Ok_d9f5_l9_D (s : St) : Tre (Ex × St) :=
 asPtr (0, 0) [] (s.tmps 0) <|
 asImmZ true (.int .i64) (s.tmps 4) fun d3 =>
 asRoot true kNet (s.roots (0, 0)) fun m5 d6 =>
 asMImm m5 fun z7 =>
 .mat (loopF (s_l07Ok_d9f5_l9 d6) d3) fun x => .alt x (fun a0 => .ret (s_l07Ok_d9f5_l9_out z7 d6 (.inl a0))) (fun b0 => .ret (s_l07Ok_d9f5_l9_out z7 d6 (.inr b0)))
noncomputable def s_l07Ok_d9f5_l9_L : LoopI := ⟨([0, 4], [(0, 0)]), ([2], [(0, 0)]), s_l07Ok_d9f5_l9_D⟩
noncomputable def s_l07Ok_d9f5_A : List (Nat × LoopI) := [(4, s_l07Ok_d9f5_l4_L), (9, s_l07Ok_d9f5_l9_L)]
set_option maxRecDepth 100000 in
theorem s_l07Ok_d9f5_l4_step : ∀ (z4_0 : Bool) (h4_0_1 : TNet) (x : Int) (c : St → Option (Ex × St)), den s_l07Ok_d9f5_V s_l07Ok_d9f5_A (loopAt s_l07Ok_d9f5_b 0) (s_l07Ok_d9f5_l4_mk z4_0 h4_0_1 x) (roundK s_l07Ok_d9f5_l4_L.kp s_l07Ok_d9f5_l4_L.kx c) = (s_l07Ok_d9f5_l4 h4_0_1 x).run (roundR (s_l07Ok_d9f5_l4_mk z4_0 h4_0_1) (s_l07Ok_d9f5_l4_out z4_0 h4_0_1) c) := fun _ _ _ _ => by
 kernel_rfl
theorem s_l07Ok_d9f5_l4_ok : LoopOK s_l07Ok_d9f5_V s_l07Ok_d9f5_A (loopAt s_l07Ok_d9f5_b 0) s_l07Ok_d9f5_l4_L := loopOK_of fun s e s' h => by
 generalize hs : restrict s_l07Ok_d9f5_l4_L.kp s = s1 at h
 have h : (s_l07Ok_d9f5_l4_D s1).run some = some (e, s') := h
 obtain ⟨e1, h_0⟩ := asPtr_spec h
 obtain ⟨d3, e2, h_1⟩ := asImmZ_spec h_0
 obtain ⟨m5, d6, e4, h_2⟩ := asRoot_spec h_1
 obtain ⟨z7, rfl, h_3⟩ := asMImm_spec h_2
 obtain ⟨y, hy, hz⟩ := mat_some h_3
 refine ⟨_, _, s_l07Ok_d9f5_l4_mk z7 d6, s_l07Ok_d9f5_l4_out z7 d6, s_l07Ok_d9f5_l4 d6, d3, y, ?_, hy, ?_, s_l07Ok_d9f5_l4_step z7 d6⟩
 ·subst hs; exact restrict_eq (T := [(0, (.ptr (0, 0) [])), (3, (.imm true (.int .i64) d3))]) (U := [((0, 0), some ⟨true, kNet, (.imm z7), d6⟩)]) rfl rfl ⟨e1, e2, trivial⟩ ⟨e4, trivial⟩
 ·rcases y with x | x <;> exact Option.some.inj hz
set_option maxRecDepth 100000 in
theorem s_l07Ok_d9f5_l9_step : ∀ (z9_0 : Bool) (h9_0_1 : TNet) (x : Int) (c : St → Option (Ex × St)), den s_l07Ok_d9f5_V s_l07Ok_d9f5_A (loopAt s_l07Ok_d9f5_b 1) (s_l07Ok_d9f5_l9_mk z9_0 h9_0_1 x) (roundK s_l07Ok_d9f5_l9_L.kp s_l07Ok_d9f5_l9_L.kx c) = (s_l07Ok_d9f5_l9 h9_0_1 x).run (roundR (s_l07Ok_d9f5_l9_mk z9_0 h9_0_1) (s_l07Ok_d9f5_l9_out z9_0 h9_0_1) c) := fun _ _ _ _ => by
 kernel_rfl
theorem s_l07Ok_d9f5_l9_ok : LoopOK s_l07Ok_d9f5_V s_l07Ok_d9f5_A (loopAt s_l07Ok_d9f5_b 1) s_l07Ok_d9f5_l9_L := loopOK_of fun s e s' h => by
 generalize hs : restrict s_l07Ok_d9f5_l9_L.kp s = s1 at h
 have h : (s_l07Ok_d9f5_l9_D s1).run some = some (e, s') := h
 obtain ⟨e1, h_0⟩ := asPtr_spec h
 obtain ⟨d3, e2, h_1⟩ := asImmZ_spec h_0
 obtain ⟨m5, d6, e4, h_2⟩ := asRoot_spec h_1
 obtain ⟨z7, rfl, h_3⟩ := asMImm_spec h_2
 obtain ⟨y, hy, hz⟩ := mat_some h_3
 refine ⟨_, _, s_l07Ok_d9f5_l9_mk z7 d6, s_l07Ok_d9f5_l9_out z7 d6, s_l07Ok_d9f5_l9 d6, d3, y, ?_, hy, ?_, s_l07Ok_d9f5_l9_step z7 d6⟩
 ·subst hs; exact restrict_eq (T := [(0, (.ptr (0, 0) [])), (4, (.imm true (.int .i64) d3))]) (U := [((0, 0), some ⟨true, kNet, (.imm z7), d6⟩)]) rfl rfl ⟨e1, e2, trivial⟩ ⟨e4, trivial⟩
 ·rcases y with x | x <;> exact Option.some.inj hz
noncomputable def s_l07Ok_d9f5_I : FnI := ⟨s_l07Ok_d9f5_b, Try.f44.results.toList, Try.f44.resultTypes.toList, s_l07Ok_d9f5_A⟩
noncomputable def s_l07Ok_d9f5_out (zp0 : Bool) (p0 : TNet) : Bool → CallOut := fun r => ⟨(.imm true .bool r), [⟨true, kNet, (.imm zp0), p0⟩], []⟩
set_option maxRecDepth 100000 in
theorem s_l07Ok_d9f5_eq : ∀ (zp0 : Bool) (p0 : TNet), denFn s_l07Ok_d9f5_V s_l07Ok_d9f5_I ⟨[(.ptr (0, 0) [])], [⟨true, kNet, (.imm zp0), p0⟩]⟩ = (s_l07Ok_d9f5 p0).run fun r => some (s_l07Ok_d9f5_out zp0 p0 r) := fun _ _ => by kernel_rfl
noncomputable def s_l07Ok_d9f5_G (av : List AV) (rs : List Root) : Tre CallOut :=
 asCons av fun a0_ av0 =>
 asEnd av0 <|
 asCons rs fun r0_ rs0 =>
 asEnd rs0 <|
 asPtr (0, 0) [] a0_ <|
 asRt true kNet r0_ fun m1 d2 =>
 asMImm m1 fun z3 =>
 .mat (s_l07Ok_d9f5_F d2) fun r => .ret (s_l07Ok_d9f5_out z3 d2 r)
noncomputable def s_l07Ok_d9f5_c : Ctr := ⟨[], fun ci => s_l07Ok_d9f5_G ci.args ci.roots, false⟩
theorem s_l07Ok_d9f5_env : EnvOK Try.prog .none s_l07Ok_d9f5_V := (envOK_cons s_l01Ok_ok ent95 (envOK_cons s_l00In_ok ent96 (envOK_cons s_l00Rises_ok ent97 (envOK_cons s_l07Has_e270_ok ent60 (envOK_cons s_l04Elements_ok ent61 envOK_nil)))))
set_option maxRecDepth 100000 in
theorem s_l07Ok_d9f5_ok : Contract Try.prog .none 44 s_l07Ok_d9f5_c := by
 have hl : LoopsOK s_l07Ok_d9f5_V s_l07Ok_d9f5_A s_l07Ok_d9f5_b := (loopsOK_all (n := 2) (by kernel_rfl) fun k hk => by
   match k, hk with
   | 0, _ => exact loopOK_at (id := 4) (L := s_l07Ok_d9f5_l4_L) (by kernel_rfl) (by kernel_rfl) s_l07Ok_d9f5_l4_ok
   | 1, _ => exact loopOK_at (id := 9) (L := s_l07Ok_d9f5_l9_L) (by kernel_rfl) (by kernel_rfl) s_l07Ok_d9f5_l9_ok)
 refine (contract_of (F := s_l07Ok_d9f5_I) tau_tys s_l07Ok_d9f5_env Try.func44 (by kernel_rfl) (by kernel_rfl) (by kernel_rfl) hl []).weaken ?_
 rintro ⟨av, rs⟩ co h
 have h : (s_l07Ok_d9f5_G av rs).run some = some co := h
 obtain ⟨a0_, av0, rfl, h_0⟩ := asCons_spec h
 obtain ⟨rfl, h_1⟩ := asEnd_spec h_0
 obtain ⟨r0_, rs0, rfl, h_2⟩ := asCons_spec h_1
 obtain ⟨rfl, h_3⟩ := asEnd_spec h_2
 obtain ⟨rfl, h_4⟩ := asPtr_spec h_3
 obtain ⟨m1, d2, rfl, h_5⟩ := asRt_spec h_4
 obtain ⟨z3, rfl, h_6⟩ := asMImm_spec h_5
 exact fin_mat (s_l07Ok_d9f5_eq z3 d2) h_6
end Go.Proofs.Ytkgekgfmnhccmaa

namespace Go.Proofs.Ytkgekgfmnhccmaa
open Go Go.Abs Go.Proofs
noncomputable def s_l07Unit (p0 : Int) (p1 : Int) : Tre (List Int) :=
 .ite (((.int .i64) : K) = (.int .i64) ∧ 0 ≤ p0 ∧ p0 = p0 ∧ p0 * (8 : Nat) ≤ 140737488355328 ∧ 1 ≤ 8) <|
 .ite (0 ≤ p1 ∧ p1 < ((List.replicate p0.toNat (0 : Int)).length : Int)) <|
 .mat ((List.replicate p0.toNat (0 : Int))[p1.toNat]?) fun _ =>
 let v2 := (List.replicate p0.toNat (0 : Int)).set p1.toNat 1
 .ret v2
noncomputable def s_l07Unit_F (p0 : Int) (p1 : Int) : Option (List Int) := (s_l07Unit p0 p1).run some
-- more
theorem sunit_is {M k : Nat} (hk : k < M) (hM : M ≤ 1000000) : s_l07Unit_F (M : Int) (k : Int) = some (unitV M k) := by
 have hg : (List.replicate M (0 : Int))[k]? = some 0 := by rw [List.getElem?_replicate, if_pos hk]
 unfold s_l07Unit_F s_l07Unit
 rw [Tre.run_ite, if_pos ⟨rfl, by omega, rfl, by omega, by decide⟩, Int.toNat_natCast, Int.toNat_natCast, Tre.run_ite, if_pos (by rw [List.length_replicate]; omega), run_some_mat hg]
 rfl
noncomputable def s_l07Unit_V : Env := ⟨tau, [], []⟩
noncomputable def s_l07Unit_b : Code := (Try.f111.body).getD .skip
noncomputable def s_l07Unit_I : FnI := ⟨s_l07Unit_b, Try.f111.results.toList, Try.f111.resultTypes.toList, []⟩
noncomputable def s_l07Unit_out (_p0 : Int) (_p1 : Int) : (List Int) → CallOut := fun r => ⟨(.ref (1, 0) []), [], [⟨false, (.sl (.int .i64)), .own, r⟩]⟩
set_option maxRecDepth 100000 in
theorem s_l07Unit_eq : ∀ (p0 : Int) (p1 : Int), denFn s_l07Unit_V s_l07Unit_I ⟨[(.imm true (.int .i64) p0), (.imm true (.int .i64) p1)], []⟩ = (s_l07Unit p0 p1).run fun r => some (s_l07Unit_out p0 p1 r) := fun _ _ => by kernel_rfl
noncomputable def s_l07Unit_G (av : List AV) (rs : List Root) : Tre CallOut :=
 asCons av fun a0_ av0 =>
 asCons av0 fun a1_ av1 =>
 asEnd av1 <|
 asEnd rs <|
 asImmZ true (.int .i64) a0_ fun d1 =>
 asImmZ true (.int .i64) a1_ fun d2 =>
 .mat (s_l07Unit_F d1 d2) fun r => .ret (s_l07Unit_out d1 d2 r)
noncomputable def s_l07Unit_c : Ctr := ⟨[], fun ci => s_l07Unit_G ci.args ci.roots, false⟩
theorem s_l07Unit_env : EnvOK Try.prog .none s_l07Unit_V := envOK_nil
set_option maxRecDepth 100000 in
theorem s_l07Unit_ok : Contract Try.prog .none 111 s_l07Unit_c := by
 have hl : LoopsOK s_l07Unit_V [] s_l07Unit_b := loopsOK_nil (by kernel_rfl)
 refine (contract_of (F := s_l07Unit_I) tau_tys s_l07Unit_env Try.func111 (by kernel_rfl) (by kernel_rfl) (by kernel_rfl) hl []).weaken ?_
 rintro ⟨av, rs⟩ co h
 have h : (s_l07Unit_G av rs).run some = some co := h
 obtain ⟨a0_, av0, rfl, h_0⟩ := asCons_spec h
 obtain ⟨a1_, av1, rfl, h_1⟩ := asCons_spec h_0
 obtain ⟨rfl, h_2⟩ := asEnd_spec h_1
 obtain ⟨rfl, h_3⟩ := asEnd_spec h_2
 obtain ⟨d1, rfl, h_4⟩ := asImmZ_spec h_3
 obtain ⟨d2, rfl, h_5⟩ := asImmZ_spec h_4
 exact fin_mat (s_l07Unit_eq d1 d2) h_5
end Go.Proofs.Ytkgekgfmnhccmaa

namespace Go.Proofs.Ytkgekgfmnhccmaa
open Go Go.Abs Go.Proofs
noncomputable def s_l01Mul_l3 (h3_0_0 : Int) (h3_0_1 : Int) (h3_0_4 : (Int × (Int × Unit))) : (Int × Int) → Tre ((Int × Int) ⊕ Int) := fun s3 =>
 .cond (decide (s3.2 < h3_0_4.1))
  (.ite (0 ≤ iwrap .u64 s3.2) <|
  let v1 := ishr .i64 h3_0_1 (iwrap .u64 s3.2)
  .cond (decide (iand .i64 v1 1 = 1))
   (.ite (0 ≤ iwrap .u64 s3.2) <|
   let v2 := ishl .i64 h3_0_0 (iwrap .u64 s3.2)
   .ret (.inl (ixor .i64 s3.1 v2, iwrap .i64 (s3.2 + 1))))
   (.ret (.inl (s3.1, iwrap .i64 (s3.2 + 1)))))
  (.ret (.inr s3.1))
noncomputable def s_l01Mul (p0 : (Int × (Int × Unit))) (p1 : Int) (p2 : Int) : Tre Int :=
 .mat (loopF (s_l01Mul_l3 p1 p2 p0) (0, 0)) fun l3 =>
 .mat (s_l01Rest_F l3 p0.2.1) fun r4 =>
 .ret r4
noncomputable def s_l01Mul_F (p0 : (Int × (Int × Unit))) (p1 : Int) (p2 : Int) : Option Int := (s_l01Mul p0 p1 p2).run some
-- more
set_option maxRecDepth 100000
theorem smul_2 : chk2 s_l01Mul_F mulN 1 2 = true := by kernel_rfl
theorem smul_3 : chk2 s_l01Mul_F mulN 1 3 = true := by kernel_rfl
theorem smul_7 : chk2 s_l01Mul_F mulN 2 7 = true := by kernel_rfl
theorem smul_11 : chk2 s_l01Mul_F mulN 3 11 = true := by kernel_rfl
theorem smul_13 : chk2 s_l01Mul_F mulN 3 13 = true := by kernel_rfl
theorem smul_19 : chk2 s_l01Mul_F mulN 4 19 = true := by kernel_rfl
theorem smul_25 : chk2 s_l01Mul_F mulN 4 25 = true := by kernel_rfl
theorem smul_31 : chk2 s_l01Mul_F mulN 4 31 = true := by kernel_rfl
theorem smul_37 : chk2 s_l01Mul_F mulN 5 37 = true := by kernel_rfl
theorem smul_41 : chk2 s_l01Mul_F mulN 5 41 = true := by kernel_rfl
theorem smul_47 : chk2 s_l01Mul_F mulN 5 47 = true := by kernel_rfl
theorem smul_55 : chk2 s_l01Mul_F mulN 5 55 = true := by kernel_rfl
theorem smul_59 : chk2 s_l01Mul_F mulN 5 59 = true := by kernel_rfl
theorem smul_61 : chk2 s_l01Mul_F mulN 5 61 = true := by kernel_rfl
theorem smul_is {f : TF3} (hf : fieldOk f = true) {a b : Int} (ha : inF f a) (hb : inF f b) : s_l01Mul_F f a b = some (mulI f a b) := by
 refine two_of (fun q hq => ?_) hf ha hb
 simp only [fieldN, List.mem_cons, List.not_mem_nil, or_false] at hq
 rcases hq with rfl | rfl | rfl | rfl | rfl | rfl | rfl | rfl | rfl | rfl | rfl | rfl | rfl | rfl
 ·exact smul_2
 ·exact smul_3
 ·exact smul_7
 ·exact smul_11
 ·exact smul_13
 ·exact smul_19
 ·exact smul_25
 ·exact smul_31
 ·exact smul_37
 ·exact smul_41
 ·exact smul_47
 ·exact smul_55
 ·exact smul_59
 ·exact smul_61
noncomputable def s_l01Mul_V : Env := ⟨tau, [(139, s_l01Rest_c)], []⟩
noncomputable def s_l01Mul_b : Code := (Try.f101.body).getD .skip
noncomputable def s_l01Mul_l3_mk (h3_0_0 : Int) (h3_0_1 : Int) (h3_0_4 : (Int × (Int × Unit))) : (Int × Int) → St := fun x => stOf [(1, (.imm true (.int .i64) h3_0_0)), (2, (.imm true (.int .i64) h3_0_1)), (3, (.ptr (5, 0) [])), (7, (.imm true (.int .i64) x.1)), (8, (.imm true (.int .i64) x.2))] [((5, 0), some ⟨true, kField, .own, h3_0_4⟩)]
noncomputable def s_l01Mul_l3_out (_h3_0_0 : Int) (_h3_0_1 : Int) (h3_0_4 : (Int × (Int × Unit))) : Int → Ex × St := fun x => (.exit 0, stOf [(3, (.ptr (5, 0) [])), (7, (.imm true (.int .i64) x))] [((5, 0), some ⟨true, kField, .own, h3_0_4⟩)])
noncomputable def s_l01Mul_l3_D (s : St) : Tre (Ex × St) :=
 asImmZ true (.int .i64) (s.tmps 1) fun d2 =>
 asImmZ true (.int .i64) (s.tmps 2) fun d4 =>
 asPtr (5, 0) [] (s.tmps 3) <|
 asImmZ true (.int .i64) (s.tmps 7) fun d7 =>
 asImmZ true (.int .i64) (s.tmps 8) fun d9 =>
 asRoot true kField (s.roots (5, 0)) fun m11 d12 =>
 asM .own m11 <|
 .mat (loopF (s_l01Mul_l3 d2 d4 d12) (d7, d9)) fun x => .ret (s_l01Mul_l3_out d2 d4 d12 x)
noncomputable def s_l01Mul_l3_L : LoopI := ⟨([1, 2, 3, 7, 8], [(5, 0)]), ([3, 7], [(5, 0)]), s_l01Mul_l3_D⟩
noncomputable def s_l01Mul_A : List (Nat × LoopI) := [(3, s_l01Mul_l3_L)]
set_option maxRecDepth 100000 in
theorem s_l01Mul_l3_step : ∀ (h3_0_0 : Int) (h3_0_1 : Int) (h3_0_4 : (Int × (Int × Unit))) (x : (Int × Int)) (c : St → Option (Ex × St)), den s_l01Mul_V s_l01Mul_A (loopAt s_l01Mul_b 0) (s_l01Mul_l3_mk h3_0_0 h3_0_1 h3_0_4 x) (roundK s_l01Mul_l3_L.kp s_l01Mul_l3_L.kx c) = (s_l01Mul_l3 h3_0_0 h3_0_1 h3_0_4 x).run (roundR (s_l01Mul_l3_mk h3_0_0 h3_0_1 h3_0_4) (s_l01Mul_l3_out h3_0_0 h3_0_1 h3_0_4) c) := fun _ _ _ _ _ => by
 kernel_rfl
theorem s_l01Mul_l3_ok : LoopOK s_l01Mul_V s_l01Mul_A (loopAt s_l01Mul_b 0) s_l01Mul_l3_L := loopOK_of fun s e s' h => by
 generalize hs : restrict s_l01Mul_l3_L.kp s = s1 at h
 have h : (s_l01Mul_l3_D s1).run some = some (e, s') := h
 obtain ⟨d2, e1, h_0⟩ := asImmZ_spec h
 obtain ⟨d4, e3, h_1⟩ := asImmZ_spec h_0
 obtain ⟨e5, h_2⟩ := asPtr_spec h_1
 obtain ⟨d7, e6, h_3⟩ := asImmZ_spec h_2
 obtain ⟨d9, e8, h_4⟩ := asImmZ_spec h_3
 obtain ⟨m11, d12, e10, h_5⟩ := asRoot_spec h_4
 obtain ⟨rfl, h_6⟩ := asM_spec h_5
 obtain ⟨y, hy, hz⟩ := mat_ret h_6
 refine ⟨_, _, s_l01Mul_l3_mk d2 d4 d12, s_l01Mul_l3_out d2 d4 d12, s_l01Mul_l3 d2 d4 d12, (d7, d9), y, ?_, hy, ?_, s_l01Mul_l3_step d2 d4 d12⟩
 ·subst hs; exact restrict_eq (T := [(1, (.imm true (.int .i64) d2)), (2, (.imm true (.int .i64) d4)), (3, (.ptr (5, 0) [])), (7, (.imm true (.int .i64) d7)), (8, (.imm true (.int .i64) d9))]) (U := [((5, 0), some ⟨true, kField, .own, d12⟩)]) rfl rfl ⟨e1, e3, e5, e6, e8, trivial⟩ ⟨e10, trivial⟩
 ·exact Option.some.inj hz
noncomputable def s_l01Mul_I : FnI := ⟨s_l01Mul_b, Try.f101.results.toList, Try.f101.resultTypes.toList, s_l01Mul_A⟩
noncomputable def s_l01Mul_out (_p0 : (Int × (Int × Unit))) (_p1 : Int) (_p2 : Int) : Int → CallOut := fun r => ⟨(.imm true (.int .i64) r), [], []⟩
set_option maxRecDepth 100000 in
theorem s_l01Mul_eq : ∀ (p0 : (Int × (Int × Unit))) (p1 : Int) (p2 : Int), denFn s_l01Mul_V s_l01Mul_I ⟨[(.imm true kField p0), (.imm true (.int .i64) p1), (.imm true (.int .i64) p2)], []⟩ = (s_l01Mul p0 p1 p2).run fun r => some (s_l01Mul_out p0 p1 p2 r) := fun _ _ _ => by kernel_rfl
noncomputable def s_l01Mul_G (av : List AV) (rs : List Root) : Tre CallOut :=
 asCons av fun a0_ av0 =>
 asCons av0 fun a1_ av1 =>
 asCons av1 fun a2_ av2 =>
 asEnd av2 <|
 asEnd rs <|
 asImmZ true kField a0_ fun d1 =>
 asImmZ true (.int .i64) a1_ fun d2 =>
 asImmZ true (.int .i64) a2_ fun d3 =>
 .mat (s_l01Mul_F d1 d2 d3) fun r => .ret (s_l01Mul_out d1 d2 d3 r)
noncomputable def s_l01Mul_c : Ctr := ⟨[], fun ci => s_l01Mul_G ci.args ci.roots, false⟩
theorem s_l01Mul_env : EnvOK Try.prog .none s_l01Mul_V := (envOK_cons s_l01Rest_ok ent139 envOK_nil)
set_option maxRecDepth 100000 in
theorem s_l01Mul_ok : Contract Try.prog .none 101 s_l01Mul_c := by
 have hl : LoopsOK s_l01Mul_V s_l01Mul_A s_l01Mul_b := (loopsOK_all (n := 1) (by kernel_rfl) fun k hk => by
   match k, hk with
   | 0, _ => exact loopOK_at (id := 3) (L := s_l01Mul_l3_L) (by kernel_rfl) (by kernel_rfl) s_l01Mul_l3_ok)
 refine (contract_of (F := s_l01Mul_I) tau_tys s_l01Mul_env Try.func101 (by kernel_rfl) (by kernel_rfl) (by kernel_rfl) hl []).weaken ?_
 rintro ⟨av, rs⟩ co h
 have h : (s_l01Mul_G av rs).run some = some co := h
 obtain ⟨a0_, av0, rfl, h_0⟩ := asCons_spec h
 obtain ⟨a1_, av1, rfl, h_1⟩ := asCons_spec h_0
 obtain ⟨a2_, av2, rfl, h_2⟩ := asCons_spec h_1
 obtain ⟨rfl, h_3⟩ := asEnd_spec h_2
 obtain ⟨rfl, h_4⟩ := asEnd_spec h_3
 obtain ⟨d1, rfl, h_5⟩ := asImmZ_spec h_4
 obtain ⟨d2, rfl, h_6⟩ := asImmZ_spec h_5
 obtain ⟨d3, rfl, h_7⟩ := asImmZ_spec h_6
 exact fin_mat (s_l01Mul_eq d1 d2 d3) h_7
end Go.Proofs.Ytkgekgfmnhccmaa

namespace Go.Proofs.Ytkgekgfmnhccmaa
open Go Go.Abs Go.Proofs
noncomputable def s_l04Add_l3 (h3_0_0 : (List Int)) (h3_0_1 : (List Int)) (h3_0_2 : Int) (h3_0_4 : (Int × (Int × Unit))) : (Int × (List Int)) → Tre ((Int × (List Int)) ⊕ (List Int)) := fun s3 =>
 .cond (decide (s3.1 < (h3_0_0.length : Int)))
  (.ite (0 ≤ s3.1 ∧ s3.1 < (h3_0_0.length : Int)) <|
  .mat (h3_0_0[s3.1.toNat]?) fun x1 =>
  .ite (0 ≤ s3.1 ∧ s3.1 < (h3_0_1.length : Int)) <|
  .mat (h3_0_1[s3.1.toNat]?) fun x2 =>
  .mat (s_l01Mul_F h3_0_4 x2 h3_0_2) fun r3 =>
  .ite ((s3.2.length + 1) * 8 ≤ appendMax ∧ 1 ≤ 8) <|
  let v4 := s3.2 ++ ([ixor .i64 x1 r3])
  .ret (.inl (iwrap .i64 (s3.1 + 1), v4)))
  (.ret (.inr s3.2))
noncomputable def s_l04Add (p0 : (Int × (Int × Unit))) (p1 : (List Int)) (p2 : (List Int)) (p3 : Int) : Tre (List Int) :=
 .mat (loopF (s_l04Add_l3 p1 p2 p3 p0) (0, [])) fun l5 =>
 .ret l5
noncomputable def s_l04Add_F (p0 : (Int × (Int × Unit))) (p1 : (List Int)) (p2 : (List Int)) (p3 : Int) : Option (List Int) := (s_l04Add p0 p1 p2 p3).run some
-- more
theorem s_l04Add_is {f : TF3} (hf : fieldOk f = true) {u w : List Int} (hl : u.length = w.length) (hs : u.length ≤ 1000000) (hw : ∀ y ∈ w, inF f y) {x : Int} (hx : inF f x) : s_l04Add_F f u w x = some (addV f u w x) := by
 have key := fold_loop (xs := u.zip w) (step := s_l04Add_l3 u w x f) (fun (i : Nat) (acc : List Int) => ((i : Int), acc)) (fun _ acc p => .inl (acc ++ [ixor .i64 p.1 (mulI f p.2 x)])) id (fun i acc => acc.length = i) (by
  intro i acc p hp hi
  have hlt := (List.getElem?_eq_some_iff.1 hp).1
  rw [List.length_zip] at hlt
  obtain ⟨p1, p2⟩ := p
  rw [List.getElem?_zip_eq_some] at hp
  obtain ⟨h1, h2⟩ := hp
  refine ⟨?_, fun a ha => ?_⟩
  ·unfold s_l04Add_l3
   dsimp only
   rw [Tre.run_cond, decide_eq_true (by omega), cond_true, Tre.run_ite, if_pos (by omega), Int.toNat_natCast, run_some_mat h1, Tre.run_ite, if_pos (by omega), run_some_mat h2, run_some_mat (smul_is hf (hw _ (List.mem_of_getElem? h2)) hx), Tre.run_ite, if_pos (by unfold appendMax; omega), Tre.run_ret, iwrap_succ (by omega)]
  ·cases ha; simp [hi]) (by
  intro acc _
  unfold s_l04Add_l3
  dsimp only
  rw [Tre.run_cond, decide_eq_false (by rw [List.length_zip]; omega), cond_false]
  rfl) (u.zip w) 0 [] rfl (Nat.zero_le _) rfl
 rw [foldE_app] at key
 have key : loopF (s_l04Add_l3 u w x f) (0, []) = some (addV f u w x) := key
 unfold s_l04Add_F s_l04Add
 rw [run_some_mat key]
 rfl
noncomputable def s_l04Add_V : Env := ⟨tau, [(101, s_l01Mul_c)], []⟩
noncomputable def s_l04Add_b : Code := (Try.f112.body).getD .skip
noncomputable def s_l04Add_l3_mk (z3_0 : Bool) (z3_1 : Bool) (h3_0_0 : (List Int)) (h3_0_1 : (List Int)) (h3_0_2 : Int) (h3_0_4 : (Int × (Int × Unit))) : (Int × (List Int)) → St := fun x => stOf [(1, (.imm z3_0 (.sl (.int .i64)) h3_0_0)), (2, (.imm z3_1 (.sl (.int .i64)) h3_0_1)), (3, (.imm true (.int .i64) h3_0_2)), (4, (.ptr (6, 0) [])), (9, (.ref (11, 0) [])), (10, (.imm true (.int .i64) x.1))] [((6, 0), some ⟨true, kField, .own, h3_0_4⟩), ((11, 0), some ⟨false, (.sl (.int .i64)), .own, x.2⟩)]
noncomputable def s_l04Add_l3_out (_z3_0 : Bool) (_z3_1 : Bool) (_h3_0_0 : (List Int)) (_h3_0_1 : (List Int)) (_h3_0_2 : Int) (_h3_0_4 : (Int × (Int × Unit))) : (List Int) → Ex × St := fun x => (.exit 0, stOf [(9, (.ref (11, 0) []))] [((11, 0), some ⟨false, (.sl (.int .i64)), .own, x⟩)])
noncomputable def s_l04Add_l3_D (s : St) : Tre (Ex × St) :=
 asImm (.sl (.int .i64)) (s.tmps 1) fun z3 d2 =>
 asImm (.sl (.int .i64)) (s.tmps 2) fun z6 d5 =>
 asImmZ true (.int .i64) (s.tmps 3) fun d8 =>
 asPtr (6, 0) [] (s.tmps 4) <|
 asRef (11, 0) [] (s.tmps 9) <|
 asImmZ true (.int .i64) (s.tmps 10) fun d12 =>
 asRoot true kField (s.roots (6, 0)) fun m14 d15 =>
 asM .own m14 <|
 asRoot false (.sl (.int .i64)) (s.roots (11, 0)) fun m17 d18 =>
 asM .own m17 <|
 .mat (loopF (s_l04Add_l3 d2 d5 d8 d15) (d12, d18)) fun x => .ret (s_l04Add_l3_out z3 z6 d2 d5 d8 d15 x)
noncomputable def s_l04Add_l3_L : LoopI := ⟨([1, 2, 3, 4, 9, 10], [(6, 0), (11, 0)]), ([9], [(11, 0)]), s_l04Add_l3_D⟩
noncomputable def s_l04Add_A : List (Nat × LoopI) := [(3, s_l04Add_l3_L)]
set_option maxRecDepth 100000 in
theorem s_l04Add_l3_step : ∀ (z3_0 : Bool) (z3_1 : Bool) (h3_0_0 : (List Int)) (h3_0_1 : (List Int)) (h3_0_2 : Int) (h3_0_4 : (Int × (Int × Unit))) (x : (Int × (List Int))) (c : St → Option (Ex × St)), den s_l04Add_V s_l04Add_A (loopAt s_l04Add_b 0) (s_l04Add_l3_mk z3_0 z3_1 h3_0_0 h3_0_1 h3_0_2 h3_0_4 x) (roundK s_l04Add_l3_L.kp s_l04Add_l3_L.kx c) = (s_l04Add_l3 h3_0_0 h3_0_1 h3_0_2 h3_0_4 x).run (roundR (s_l04Add_l3_mk z3_0 z3_1 h3_0_0 h3_0_1 h3_0_2 h3_0_4) (s_l04Add_l3_out z3_0 z3_1 h3_0_0 h3_0_1 h3_0_2 h3_0_4) c) := fun _ _ _ _ _ _ _ _ => by
 kernel_rfl
theorem s_l04Add_l3_ok : LoopOK s_l04Add_V s_l04Add_A (loopAt s_l04Add_b 0) s_l04Add_l3_L := loopOK_of fun s e s' h => by
 generalize hs : restrict s_l04Add_l3_L.kp s = s1 at h
 have h : (s_l04Add_l3_D s1).run some = some (e, s') := h
 obtain ⟨z3, d2, e1, h_0⟩ := asImm_spec h
 obtain ⟨z6, d5, e4, h_1⟩ := asImm_spec h_0
 obtain ⟨d8, e7, h_2⟩ := asImmZ_spec h_1
 obtain ⟨e9, h_3⟩ := asPtr_spec h_2
 obtain ⟨e10, h_4⟩ := asRef_spec h_3
 obtain ⟨d12, e11, h_5⟩ := asImmZ_spec h_4
 obtain ⟨m14, d15, e13, h_6⟩ := asRoot_spec h_5
 obtain ⟨rfl, h_7⟩ := asM_spec h_6
 obtain ⟨m17, d18, e16, h_8⟩ := asRoot_spec h_7
 obtain ⟨rfl, h_9⟩ := asM_spec h_8
 obtain ⟨y, hy, hz⟩ := mat_ret h_9
 refine ⟨_, _, s_l04Add_l3_mk z3 z6 d2 d5 d8 d15, s_l04Add_l3_out z3 z6 d2 d5 d8 d15, s_l04Add_l3 d2 d5 d8 d15, (d12, d18), y, ?_, hy, ?_, s_l04Add_l3_step z3 z6 d2 d5 d8 d15⟩
 ·subst hs; exact restrict_eq (T := [(1, (.imm z3 (.sl (.int .i64)) d2)), (2, (.imm z6 (.sl (.int .i64)) d5)), (3, (.imm true (.int .i64) d8)), (4, (.ptr (6, 0) [])), (9, (.ref (11, 0) [])), (10, (.imm true (.int .i64) d12))]) (U := [((6, 0), some ⟨true, kField, .own, d15⟩), ((11, 0), some ⟨false, (.sl (.int .i64)), .own, d18⟩)]) rfl rfl ⟨e1, e4, e7, e9, e10, e11, trivial⟩ ⟨e13, e16, trivial⟩
 ·exact Option.some.inj hz
noncomputable def s_l04Add_I : FnI := ⟨s_l04Add_b, Try.f112.results.toList, Try.f112.resultTypes.toList, s_l04Add_A⟩
noncomputable def s_l04Add_out (_zp0 : Bool) (_zp1 : Bool) (_p0 : (Int × (Int × Unit))) (_p1 : (List Int)) (_p2 : (List Int)) (_p3 : Int) : (List Int) → CallOut := fun r => ⟨(.ref (1, 0) []), [], [⟨false, (.sl (.int .i64)), .own, r⟩]⟩
set_option maxRecDepth 100000 in
theorem s_l04Add_eq : ∀ (zp0 : Bool) (zp1 : Bool) (p0 : (Int × (Int × Unit))) (p1 : (List Int)) (p2 : (List Int)) (p3 : Int), denFn s_l04Add_V s_l04Add_I ⟨[(.imm true kField p0), (.imm zp0 (.sl (.int .i64)) p1), (.imm zp1 (.sl (.int .i64)) p2), (.imm true (.int .i64) p3)], []⟩ = (s_l04Add p0 p1 p2 p3).run fun r => some (s_l04Add_out zp0 zp1 p0 p1 p2 p3 r) := fun _ _ _ _ _ _ => by kernel_rfl
noncomputable def s_l04Add_G (av : List AV) (rs : List Root) : Tre CallOut :=
 asCons av fun a0_ av0 =>
 asCons av0 fun a1_ av1 =>
 asCons av1 fun a2_ av2 =>
 asCons av2 fun a3_ av3 =>
 asEnd av3 <|
 asEnd rs <|
 asImmZ true kField a0_ fun d1 =>
 asImm (.sl (.int .i64)) a1_ fun z3 d2 =>
 asImm (.sl (.int .i64)) a2_ fun z5 d4 =>
 asImmZ true (.int .i64) a3_ fun d6 =>
 .mat (s_l04Add_F d1 d2 d4 d6) fun r => .ret (s_l04Add_out z3 z5 d1 d2 d4 d6 r)
noncomputable def s_l04Add_c : Ctr := ⟨[], fun ci => s_l04Add_G ci.args ci.roots, false⟩
theorem s_l04Add_env : EnvOK Try.prog .none s_l04Add_V := (envOK_cons s_l01Mul_ok ent101 envOK_nil)
set_option maxRecDepth 100000 in
theorem s_l04Add_ok : Contract Try.prog .none 112 s_l04Add_c := by
 have hl : LoopsOK s_l04Add_V s_l04Add_A s_l04Add_b := (loopsOK_all (n := 1) (by kernel_rfl) fun k hk => by
   match k, hk with
   | 0, _ => exact loopOK_at (id := 3) (L := s_l04Add_l3_L) (by kernel_rfl) (by kernel_rfl) s_l04Add_l3_ok)
 refine (contract_of (F := s_l04Add_I) tau_tys s_l04Add_env Try.func112 (by kernel_rfl) (by kernel_rfl) (by kernel_rfl) hl []).weaken ?_
 rintro ⟨av, rs⟩ co h
 have h : (s_l04Add_G av rs).run some = some co := h
 obtain ⟨a0_, av0, rfl, h_0⟩ := asCons_spec h
 obtain ⟨a1_, av1, rfl, h_1⟩ := asCons_spec h_0
 obtain ⟨a2_, av2, rfl, h_2⟩ := asCons_spec h_1
 obtain ⟨a3_, av3, rfl, h_3⟩ := asCons_spec h_2
 obtain ⟨rfl, h_4⟩ := asEnd_spec h_3
 obtain ⟨rfl, h_5⟩ := asEnd_spec h_4
 obtain ⟨d1, rfl, h_6⟩ := asImmZ_spec h_5
 obtain ⟨z3, d2, rfl, h_7⟩ := asImm_spec h_6
 obtain ⟨z5, d4, rfl, h_8⟩ := asImm_spec h_7
 obtain ⟨d6, rfl, h_9⟩ := asImmZ_spec h_8
 exact fin_mat (s_l04Add_eq z3 z5 d1 d2 d4 d6) h_9
end Go.Proofs.Ytkgekgfmnhccmaa

namespace Go.Proofs.Ytkgekgfmnhccmaa
open Go Go.Abs Go.Proofs
noncomputable def s_l07Vector_9419_l5 (h5_0_0 : TNet) (h5_0_1 : (List (List Int))) (h5_0_2 : (List Int)) (h5_0_3 : Int) (h5_0_6 : (List Int)) : (Int × (List Int)) → Tre ((Int × (List Int)) ⊕ (List Int)) := fun s5 =>
 .cond (decide (s5.1 < (h5_0_2.length : Int)))
  (.cond (decide (h5_0_3 = 0))
   (.mat (s_l07Unit_F h5_0_0.2.2.1 s5.1) fun r4 =>
   .ite (0 ≤ s5.1 ∧ s5.1 < (h5_0_2.length : Int)) <|
   .mat (h5_0_2[s5.1.toNat]?) fun x5 =>
   .mat (s_l04Add_F h5_0_0.1 s5.2 r4 x5) fun r6 =>
   .ret (.inl (iwrap .i64 (s5.1 + 1), r6)))
   (.ite (0 ≤ s5.1 ∧ s5.1 < (h5_0_6.length : Int)) <|
   .mat (h5_0_6[s5.1.toNat]?) fun x7 =>
   .ite (0 ≤ x7 ∧ x7 < (h5_0_1.length : Int)) <|
   .mat (h5_0_1[x7.toNat]?) fun x8 =>
   .ite (0 ≤ s5.1 ∧ s5.1 < (h5_0_2.length : Int)) <|
   .mat (h5_0_2[s5.1.toNat]?) fun x9 =>
   .mat (s_l04Add_F h5_0_0.1 s5.2 x8 x9) fun r10 =>
   .ret (.inl (iwrap .i64 (s5.1 + 1), r10))))
  (.ret (.inr s5.2))
noncomputable def s_l07Vector_9419 (p0 : TNet) (p1 : (List (List Int))) (p2 : Int) (p3 : (List Int)) : Tre (List Int) :=
 .ite (((.int .i64) : K) = (.int .i64) ∧ 0 ≤ p0.2.2.1 ∧ p0.2.2.1 = p0.2.2.1 ∧ p0.2.2.1 * (8 : Nat) ≤ 140737488355328 ∧ 1 ≤ 8) <|
 .ite (0 ≤ p2 ∧ p2 < (p0.2.2.2.1.length : Int)) <|
 .mat (p0.2.2.2.1[p2.toNat]?) fun x1 =>
 .ite ((0 : Int) ≤ 0 ∧ (0 : Int) < (x1.length : Int)) <|
 .mat (x1[0]?) fun x2 =>
 .mat (s_l07Into_e270_F p0 x2) fun r3 =>
 .mat (loopF (s_l07Vector_9419_l5 p0 p1 p3 x2 r3) (0, List.replicate p0.2.2.1.toNat (0 : Int))) fun l11 =>
 .ret l11
noncomputable def s_l07Vector_9419_F (p0 : TNet) (p1 : (List (List Int))) (p2 : Int) (p3 : (List Int)) : Option (List Int) := (s_l07Vector_9419 p0 p1 p2 p3).run some
-- more
theorem NetP.two3 {n : TN6} (h : NetP n) : ∀ e ∈ n.2.2.2.1, e.length = 2 := by
 intro e he
 obtain ⟨i, hi⟩ := List.mem_iff_getElem?.1 he
 exact edgeOk_len (h.edges i e hi)
theorem foldE_comb {f : TF3} {src : Nat → List Int} : ∀ (cs : List Int) (k : Nat) (acc : List Int), foldE (γ := List Int) (β := List Int) (fun k acc x => .inl (addV f acc (src k) x)) id k acc cs = combV f src k acc cs := by
 intro cs
 induction cs with
 | nil => intro k acc; rfl
 | cons x cs ih => intro k acc; simp only [foldE, combV]; exact ih _ _
theorem svec_is {n : TN6} (h : NetP n) {i : Nat} (hi : i < n.2.2.2.1.length) : s_l07Vector_9419_F n (vecsV n i) (i : Int) (edgeC n i) = some (vecV n (vecsV n i) i) := by
 have hE := h.len
 obtain ⟨hm1, hm2, hm3⟩ := mess_ok h
 obtain ⟨e, he1, ha, he0, hel2⟩ := edgeA_ok h hi
 obtain ⟨hc1, hc2, hc3⟩ := edgeC_ok h hi
 have hvs := vecsV_ok h i (by omega)
 have hcl : (edgeC n i).length ≤ 14 := by have := hasV_le n h.mess.2 h.len (edgeA n i); omega
 have hlen := vecsV_len n i
 have key := fold_loop (xs := edgeC n i) (step := s_l07Vector_9419_l5 n (vecsV n i) (edgeC n i) (edgeA n i) (intoV n.2.2.2.1 (edgeA n i))) (γ := List Int) (fun (k : Nat) acc => ((k : Int), acc)) (fun k acc x => .inl (addV n.1 acc (srcV (messN n) (vecsV n i) (edgeA n i) (intoV n.2.2.2.1 (edgeA n i)) k) x)) id (fun _ acc => okV n.1 (messN n) acc) (by
  intro k acc x hx hacc
  have hlt := (List.getElem?_eq_some_iff.1 hx).1
  have hxf := hc3 x (List.mem_of_getElem? hx)
  have hso := srcV_ok h hi hvs hlt
  refine ⟨?_, fun a hb => ?_⟩
  ·unfold s_l07Vector_9419_l5
   dsimp only
   rw [Tre.run_cond, decide_eq_true (by omega), cond_true, Tre.run_cond]
   unfold hasV at hc2
   by_cases h0 : edgeA n i = 0
   ·rw [if_pos h0] at hc2
    rw [decide_eq_true h0, cond_true, hm1, run_some_mat (sunit_is (by omega) (by omega)), Tre.run_ite, if_pos (by omega), Int.toNat_natCast, run_some_mat hx]
    unfold srcV at hso ⊢
    rw [if_pos h0] at hso ⊢
    rw [run_some_mat (s_l04Add_is h.field (by rw [hacc.1, hso.1]) (by rw [hacc.1]; omega) hso.2 hxf), Tre.run_ret, iwrap_succ (by omega)]
   ·rw [if_neg h0] at hc2
    obtain ⟨j, hj1, hj2⟩ := into_get h hi (k := k) (by omega)
    obtain ⟨v, hv1, hv2⟩ := hvs j hj2
    rw [decide_eq_false h0, cond_false, Tre.run_ite, if_pos (by omega), Int.toNat_natCast, run_some_mat hj1, Tre.run_ite, if_pos (by omega), Int.toNat_natCast, run_some_mat hv1, Tre.run_ite, if_pos (by omega), run_some_mat hx]
    unfold srcV at hso ⊢
    rw [if_neg h0] at hso ⊢
    rw [getD_of hj1, Int.toNat_natCast, getD_of hv1] at hso ⊢
    rw [run_some_mat (s_l04Add_is h.field (by rw [hacc.1, hso.1]) (by rw [hacc.1]; omega) hso.2 hxf), Tre.run_ret, iwrap_succ (by omega)]
  ·cases hb
   exact addV_ok h.field hacc hso hxf) (by
  intro acc _
  unfold s_l07Vector_9419_l5
  dsimp only
  rw [Tre.run_cond, decide_eq_false (by omega), cond_false]
  rfl) _ 0 (List.replicate (messN n) 0) rfl (Nat.zero_le _) (zeroV_ok _)
 rw [foldE_comb] at key
 have key : loopF (s_l07Vector_9419_l5 n (vecsV n i) (edgeC n i) (edgeA n i) (intoV n.2.2.2.1 (edgeA n i))) (0, List.replicate n.2.2.1.toNat 0) = some (vecV n (vecsV n i) i) := key
 unfold s_l07Vector_9419_F s_l07Vector_9419
 rw [Tre.run_ite, if_pos ⟨rfl, by omega, rfl, by omega, by decide⟩, Tre.run_ite, if_pos (by omega), Int.toNat_natCast, run_some_mat he1, Tre.run_ite, if_pos (by omega), run_some_mat he0, ← ha, run_some_mat (s_l07Into_is n h.len h.two3 _), run_some_mat key]
 rfl
noncomputable def s_l07Vector_9419_V : Env := ⟨tau, [(47, s_l07Into_e270_c), (111, s_l07Unit_c), (112, s_l04Add_c)], []⟩
noncomputable def s_l07Vector_9419_b : Code := (Try.f98.body).getD .skip
noncomputable def s_l07Vector_9419_l5_mk (z5_0 : Bool) (z5_1 : Bool) (z5_2 : Bool) (h5_0_0 : TNet) (h5_0_1 : (List (List Int))) (h5_0_2 : (List Int)) (h5_0_3 : Int) (h5_0_6 : (List Int)) : (Int × (List Int)) → St := fun x => stOf [(0, (.iptr z5_0 (.sl kNet) ([h5_0_0]) [.idx 0])), (1, (.imm z5_1 (.sl (.sl (.int .i64))) h5_0_1)), (3, (.imm z5_2 (.sl (.int .i64)) h5_0_2)), (9, (.ref (11, 0) [])), (10, (.imm true (.int .i64) h5_0_3)), (11, (.ref (13, 0) [])), (12, (.imm true (.int .i64) x.1))] [((11, 0), some ⟨false, (.sl (.int .i64)), .own, x.2⟩), ((13, 0), some ⟨false, (.sl (.int .i64)), .own, h5_0_6⟩)]
noncomputable def s_l07Vector_9419_l5_out (_z5_0 : Bool) (_z5_1 : Bool) (_z5_2 : Bool) (_h5_0_0 : TNet) (_h5_0_1 : (List (List Int))) (_h5_0_2 : (List Int)) (_h5_0_3 : Int) (_h5_0_6 : (List Int)) : (List Int) → Ex × St := fun x => (.exit 0, stOf [(9, (.ref (11, 0) []))] [((11, 0), some ⟨false, (.sl (.int .i64)), .own, x⟩)])
noncomputable def s_l07Vector_9419_l5_D (s : St) : Tre (Ex × St) :=
 asIptr kNet (s.tmps 0) fun z2 d3 =>
 asImm (.sl (.sl (.int .i64))) (s.tmps 1) fun z6 d5 =>
 asImm (.sl (.int .i64)) (s.tmps 3) fun z9 d8 =>
 asRef (11, 0) [] (s.tmps 9) <|
 asImmZ true (.int .i64) (s.tmps 10) fun d12 =>
 asRef (13, 0) [] (s.tmps 11) <|
 asImmZ true (.int .i64) (s.tmps 12) fun d15 =>
 asRoot false (.sl (.int .i64)) (s.roots (11, 0)) fun m17 d18 =>
 asM .own m17 <|
 asRoot false (.sl (.int .i64)) (s.roots (13, 0)) fun m20 d21 =>
 asM .own m20 <|
 .mat (loopF (s_l07Vector_9419_l5 d3 d5 d8 d12 d21) (d15, d18)) fun x => .ret (s_l07Vector_9419_l5_out z2 z6 z9 d3 d5 d8 d12 d21 x)
noncomputable def s_l07Vector_9419_l5_L : LoopI := ⟨([0, 1, 3, 9, 10, 11, 12], [(11, 0), (13, 0)]), ([9], [(11, 0)]), s_l07Vector_9419_l5_D⟩
noncomputable def s_l07Vector_9419_A : List (Nat × LoopI) := [(5, s_l07Vector_9419_l5_L)]
set_option maxRecDepth 100000 in
theorem s_l07Vector_9419_l5_step : ∀ (z5_0 : Bool) (z5_1 : Bool) (z5_2 : Bool) (h5_0_0 : TNet) (h5_0_1 : (List (List Int))) (h5_0_2 : (List Int)) (h5_0_3 : Int) (h5_0_6 : (List Int)) (x : (Int × (List Int))) (c : St → Option (Ex × St)), den s_l07Vector_9419_V s_l07Vector_9419_A (loopAt s_l07Vector_9419_b 0) (s_l07Vector_9419_l5_mk z5_0 z5_1 z5_2 h5_0_0 h5_0_1 h5_0_2 h5_0_3 h5_0_6 x) (roundK s_l07Vector_9419_l5_L.kp s_l07Vector_9419_l5_L.kx c) = (s_l07Vector_9419_l5 h5_0_0 h5_0_1 h5_0_2 h5_0_3 h5_0_6 x).run (roundR (s_l07Vector_9419_l5_mk z5_0 z5_1 z5_2 h5_0_0 h5_0_1 h5_0_2 h5_0_3 h5_0_6) (s_l07Vector_9419_l5_out z5_0 z5_1 z5_2 h5_0_0 h5_0_1 h5_0_2 h5_0_3 h5_0_6) c) := fun _ _ _ _ _ _ _ _ _ _ => by
 kernel_rfl
theorem s_l07Vector_9419_l5_ok : LoopOK s_l07Vector_9419_V s_l07Vector_9419_A (loopAt s_l07Vector_9419_b 0) s_l07Vector_9419_l5_L := loopOK_of fun s e s' h => by
 generalize hs : restrict s_l07Vector_9419_l5_L.kp s = s1 at h
 have h : (s_l07Vector_9419_l5_D s1).run some = some (e, s') := h
 obtain ⟨z2, d3, e1, h_0⟩ := asIptr_spec h
 obtain ⟨z6, d5, e4, h_1⟩ := asImm_spec h_0
 obtain ⟨z9, d8, e7, h_2⟩ := asImm_spec h_1
 obtain ⟨e10, h_3⟩ := asRef_spec h_2
 obtain ⟨d12, e11, h_4⟩ := asImmZ_spec h_3
 obtain ⟨e13, h_5⟩ := asRef_spec h_4
 obtain ⟨d15, e14, h_6⟩ := asImmZ_spec h_5
 obtain ⟨m17, d18, e16, h_7⟩ := asRoot_spec h_6
 obtain ⟨rfl, h_8⟩ := asM_spec h_7
 obtain ⟨m20, d21, e19, h_9⟩ := asRoot_spec h_8
 obtain ⟨rfl, h_10⟩ := asM_spec h_9
 obtain ⟨y, hy, hz⟩ := mat_ret h_10
 refine ⟨_, _, s_l07Vector_9419_l5_mk z2 z6 z9 d3 d5 d8 d12 d21, s_l07Vector_9419_l5_out z2 z6 z9 d3 d5 d8 d12 d21, s_l07Vector_9419_l5 d3 d5 d8 d12 d21, (d15, d18), y, ?_, hy, ?_, s_l07Vector_9419_l5_step z2 z6 z9 d3 d5 d8 d12 d21⟩
 ·subst hs; exact restrict_eq (T := [(0, (.iptr z2 (.sl kNet) ([d3]) [.idx 0])), (1, (.imm z6 (.sl (.sl (.int .i64))) d5)), (3, (.imm z9 (.sl (.int .i64)) d8)), (9, (.ref (11, 0) [])), (10, (.imm true (.int .i64) d12)), (11, (.ref (13, 0) [])), (12, (.imm true (.int .i64) d15))]) (U := [((11, 0), some ⟨false, (.sl (.int .i64)), .own, d18⟩), ((13, 0), some ⟨false, (.sl (.int .i64)), .own, d21⟩)]) rfl rfl ⟨e1, e4, e7, e10, e11, e13, e14, trivial⟩ ⟨e16, e19, trivial⟩
 ·exact Option.some.inj hz
noncomputable def s_l07Vector_9419_I : FnI := ⟨s_l07Vector_9419_b, Try.f98.results.toList, Try.f98.resultTypes.toList, s_l07Vector_9419_A⟩
noncomputable def s_l07Vector_9419_out (_zp0 : Bool) (_zp1 : Bool) (_zp2 : Bool) (_p0 : TNet) (_p1 : (List (List Int))) (_p2 : Int) (_p3 : (List Int)) : (List Int) → CallOut := fun r => ⟨(.ref (1, 0) []), [], [⟨false, (.sl (.int .i64)), .own, r⟩]⟩
set_option maxRecDepth 100000 in
theorem s_l07Vector_9419_eq : ∀ (zp0 : Bool) (zp1 : Bool) (zp2 : Bool) (p0 : TNet) (p1 : (List (List Int))) (p2 : Int) (p3 : (List Int)), denFn s_l07Vector_9419_V s_l07Vector_9419_I ⟨[(.iptr zp0 (.sl kNet) ([p0]) [.idx 0]), (.imm zp1 (.sl (.sl (.int .i64))) p1), (.imm true (.int .i64) p2), (.imm zp2 (.sl (.int .i64)) p3)], []⟩ = (s_l07Vector_9419 p0 p1 p2 p3).run fun r => some (s_l07Vector_9419_out zp0 zp1 zp2 p0 p1 p2 p3 r) := fun _ _ _ _ _ _ _ => by kernel_rfl
noncomputable def s_l07Vector_9419_G (av : List AV) (rs : List Root) : Tre CallOut :=
 asCons av fun a0_ av0 =>
 asCons av0 fun a1_ av1 =>
 asCons av1 fun a2_ av2 =>
 asCons av2 fun a3_ av3 =>
 asEnd av3 <|
 asEnd rs <|
 asIptr kNet a0_ fun z1 d2 =>
 asImm (.sl (.sl (.int .i64))) a1_ fun z4 d3 =>
 asImmZ true (.int .i64) a2_ fun d5 =>
 asImm (.sl (.int .i64)) a3_ fun z7 d6 =>
 .mat (s_l07Vector_9419_F d2 d3 d5 d6) fun r => .ret (s_l07Vector_9419_out z1 z4 z7 d2 d3 d5 d6 r)
noncomputable def s_l07Vector_9419_c : Ctr := ⟨[0], fun ci => s_l07Vector_9419_G ci.args ci.roots, false⟩
theorem s_l07Vector_9419_env : EnvOK Try.prog .none s_l07Vector_9419_V := (envOK_cons s_l07Into_e270_ok ent47 (envOK_cons s_l07Unit_ok ent111 (envOK_cons s_l04Add_ok ent112 envOK_nil)))
set_option maxRecDepth 100000 in
theorem s_l07Vector_9419_ok : Contract Try.prog .none 98 s_l07Vector_9419_c := by
 have hl : LoopsOK s_l07Vector_9419_V s_l07Vector_9419_A s_l07Vector_9419_b := (loopsOK_all (n := 1) (by kernel_rfl) fun k hk => by
   match k, hk with
   | 0, _ => exact loopOK_at (id := 5) (L := s_l07Vector_9419_l5_L) (by kernel_rfl) (by kernel_rfl) s_l07Vector_9419_l5_ok)
 refine (contract_of (F := s_l07Vector_9419_I) tau_tys s_l07Vector_9419_env Try.func98 (by kernel_rfl) (by kernel_rfl) (by kernel_rfl) hl [0]).weaken ?_
 rintro ⟨av, rs⟩ co h
 have h : (s_l07Vector_9419_G av rs).run some = some co := h
 obtain ⟨a0_, av0, rfl, h_0⟩ := asCons_spec h
 obtain ⟨a1_, av1, rfl, h_1⟩ := asCons_spec h_0
 obtain ⟨a2_, av2, rfl, h_2⟩ := asCons_spec h_1
 obtain ⟨a3_, av3, rfl, h_3⟩ := asCons_spec h_2
 obtain ⟨rfl, h_4⟩ := asEnd_spec h_3
 obtain ⟨rfl, h_5⟩ := asEnd_spec h_4
 obtain ⟨z1, d2, rfl, h_6⟩ := asIptr_spec h_5
 obtain ⟨z4, d3, rfl, h_7⟩ := asImm_spec h_6
 obtain ⟨d5, rfl, h_8⟩ := asImmZ_spec h_7
 obtain ⟨z7, d6, rfl, h_9⟩ := asImm_spec h_8
 exact fin_mat (s_l07Vector_9419_eq z1 z4 z7 d2 d3 d5 d6) h_9
end Go.Proofs.Ytkgekgfmnhccmaa

namespace Go.Proofs.Ytkgekgfmnhccmaa
open Go Go.Abs Go.Proofs
noncomputable def s_l07Vectors_d9f5_l3 (h3_0_1 : TNet) : (Int × (List (List Int))) → Tre ((Int × (List (List Int))) ⊕ (List (List Int))) := fun s3 =>
 .cond (decide (s3.1 < (h3_0_1.2.2.2.1.length : Int)))
  (.ite (0 ≤ s3.1 ∧ s3.1 < (h3_0_1.2.2.2.2.1.length : Int)) <|
  .mat (h3_0_1.2.2.2.2.1[s3.1.toNat]?) fun x1 =>
  .mat (s_l07Vector_9419_F h3_0_1 s3.2 s3.1 x1) fun r2 =>
  .ite ((s3.2.length + 1) * 24 ≤ appendMax ∧ 1 ≤ 24) <|
  .ret (.inl (iwrap .i64 (s3.1 + 1), s3.2 ++ ([r2]))))
  (.ret (.inr s3.2))
noncomputable def s_l07Vectors_d9f5 (p0 : TNet) : Tre (List (List Int)) :=
 .mat (loopF (s_l07Vectors_d9f5_l3 p0) (0, [])) fun l3 =>
 .ret l3
noncomputable def s_l07Vectors_d9f5_F (p0 : TNet) : Option (List (List Int)) := (s_l07Vectors_d9f5 p0).run some
-- more
theorem svecs_loop {n : TN6} (h : NetP n) : ∀ m i, i + m = n.2.2.2.1.length → loopF (s_l07Vectors_d9f5_l3 n) ((i : Int), vecsV n i) = some (vectorsV n) := by
 have hE := h.len
 intro m
 induction m with
 | zero =>
  intro i hi
  have hi : i = n.2.2.2.1.length := hi
  subst hi
  refine loopF_done ?_
  unfold s_l07Vectors_d9f5_l3
  exact run_out
 | succ m ih =>
  intro i hi
  rw [← ih (i + 1) (by omega)]
  refine loopF_step ?_
  obtain ⟨hc1, hc2, hc3⟩ := edgeC_ok h (i := i) (by omega)
  unfold s_l07Vectors_d9f5_l3
  dsimp only
  rw [Tre.run_cond, decide_eq_true (by omega), cond_true, Tre.run_ite, if_pos (by rw [h.clen]; omega), Int.toNat_natCast, run_some_mat hc1, run_some_mat (svec_is h (by omega)), Tre.run_ite, if_pos (by rw [vecsV_len]; unfold appendMax; omega), Tre.run_ret, iwrap_succ (by omega)]
  rfl
theorem svecs_is {n : TN6} (h : NetP n) : s_l07Vectors_d9f5_F n = some (vectorsV n) := by
 have hl := svecs_loop h n.2.2.2.1.length 0 (by omega)
 have hl : loopF (s_l07Vectors_d9f5_l3 n) (0, []) = some (vectorsV n) := hl
 unfold s_l07Vectors_d9f5_F s_l07Vectors_d9f5
 rw [run_some_mat hl]
 rfl
noncomputable def s_l07Vectors_d9f5_V : Env := ⟨tau, [(98, s_l07Vector_9419_c)], []⟩
noncomputable def s_l07Vectors_d9f5_b : Code := (Try.f45.body).getD .skip
noncomputable def s_l07Vectors_d9f5_l3_mk (z3_0 : Bool) (h3_0_1 : TNet) : (Int × (List (List Int))) → St := fun x => stOf [(0, (.ptr (0, 0) [])), (3, (.ref (5, 0) [])), (4, (.imm true (.int .i64) x.1))] [((0, 0), some ⟨true, kNet, (.imm z3_0), h3_0_1⟩), ((5, 0), some ⟨false, (.sl (.sl (.int .i64))), .own, x.2⟩)]
noncomputable def s_l07Vectors_d9f5_l3_out (z3_0 : Bool) (h3_0_1 : TNet) : (List (List Int)) → Ex × St := fun x => (.exit 0, stOf [(3, (.ref (5, 0) []))] [((0, 0), some ⟨true, kNet, (.imm z3_0), h3_0_1⟩), ((5, 0), some ⟨false, (.sl (.sl (.int .i64))), .own, x⟩)])
noncomputable def s_l07Vectors_d9f5_l3_D (s : St) : Tre (Ex × St) :=
 asPtr (0, 0) [] (s.tmps 0) <|
 asRef (5, 0) [] (s.tmps 3) <|
 asImmZ true (.int .i64) (s.tmps 4) fun d4 =>
 asRoot true kNet (s.roots (0, 0)) fun m6 d7 =>
 asMImm m6 fun z8 =>
 asRoot false (.sl (.sl (.int .i64))) (s.roots (5, 0)) fun m10 d11 =>
 asM .own m10 <|
 .mat (loopF (s_l07Vectors_d9f5_l3 d7) (d4, d11)) fun x => .ret (s_l07Vectors_d9f5_l3_out z8 d7 x)
noncomputable def s_l07Vectors_d9f5_l3_L : LoopI := ⟨([0, 3, 4], [(0, 0), (5, 0)]), ([3], [(0, 0), (5, 0)]), s_l07Vectors_d9f5_l3_D⟩
noncomputable def s_l07Vectors_d9f5_A : List (Nat × LoopI) := [(3, s_l07Vectors_d9f5_l3_L)]
set_option maxRecDepth 100000 in
theorem s_l07Vectors_d9f5_l3_step : ∀ (z3_0 : Bool) (h3_0_1 : TNet) (x : (Int × (List (List Int)))) (c : St → Option (Ex × St)), den s_l07Vectors_d9f5_V s_l07Vectors_d9f5_A (loopAt s_l07Vectors_d9f5_b 0) (s_l07Vectors_d9f5_l3_mk z3_0 h3_0_1 x) (roundK s_l07Vectors_d9f5_l3_L.kp s_l07Vectors_d9f5_l3_L.kx c) = (s_l07Vectors_d9f5_l3 h3_0_1 x).run (roundR (s_l07Vectors_d9f5_l3_mk z3_0 h3_0_1) (s_l07Vectors_d9f5_l3_out z3_0 h3_0_1) c) := fun _ _ _ _ => by
 kernel_rfl
theorem s_l07Vectors_d9f5_l3_ok : LoopOK s_l07Vectors_d9f5_V s_l07Vectors_d9f5_A (loopAt s_l07Vectors_d9f5_b 0) s_l07Vectors_d9f5_l3_L := loopOK_of fun s e s' h => by
 generalize hs : restrict s_l07Vectors_d9f5_l3_L.kp s = s1 at h
 have h : (s_l07Vectors_d9f5_l3_D s1).run some = some (e, s') := h
 obtain ⟨e1, h_0⟩ := asPtr_spec h
 obtain ⟨e2, h_1⟩ := asRef_spec h_0
 obtain ⟨d4, e3, h_2⟩ := asImmZ_spec h_1
 obtain ⟨m6, d7, e5, h_3⟩ := asRoot_spec h_2
 obtain ⟨z8, rfl, h_4⟩ := asMImm_spec h_3
 obtain ⟨m10, d11, e9, h_5⟩ := asRoot_spec h_4
 obtain ⟨rfl, h_6⟩ := asM_spec h_5
 obtain ⟨y, hy, hz⟩ := mat_ret h_6
 refine ⟨_, _, s_l07Vectors_d9f5_l3_mk z8 d7, s_l07Vectors_d9f5_l3_out z8 d7, s_l07Vectors_d9f5_l3 d7, (d4, d11), y, ?_, hy, ?_, s_l07Vectors_d9f5_l3_step z8 d7⟩
 ·subst hs; exact restrict_eq (T := [(0, (.ptr (0, 0) [])), (3, (.ref (5, 0) [])), (4, (.imm true (.int .i64) d4))]) (U := [((0, 0), some ⟨true, kNet, (.imm z8), d7⟩), ((5, 0), some ⟨false, (.sl (.sl (.int .i64))), .own, d11⟩)]) rfl rfl ⟨e1, e2, e3, trivial⟩ ⟨e5, e9, trivial⟩
 ·exact Option.some.inj hz
noncomputable def s_l07Vectors_d9f5_I : FnI := ⟨s_l07Vectors_d9f5_b, Try.f45.results.toList, Try.f45.resultTypes.toList, s_l07Vectors_d9f5_A⟩
noncomputable def s_l07Vectors_d9f5_out (zp0 : Bool) (p0 : TNet) : (List (List Int)) → CallOut := fun r => ⟨(.ref (1, 0) []), [⟨true, kNet, (.imm zp0), p0⟩], [⟨false, (.sl (.sl (.int .i64))), .own, r⟩]⟩
set_option maxRecDepth 100000 in
theorem s_l07Vectors_d9f5_eq : ∀ (zp0 : Bool) (p0 : TNet), denFn s_l07Vectors_d9f5_V s_l07Vectors_d9f5_I ⟨[(.ptr (0, 0) [])], [⟨true, kNet, (.imm zp0), p0⟩]⟩ = (s_l07Vectors_d9f5 p0).run fun r => some (s_l07Vectors_d9f5_out zp0 p0 r) := fun _ _ => by kernel_rfl
noncomputable def s_l07Vectors_d9f5_G (av : List AV) (rs : List Root) : Tre CallOut :=
 asCons av fun a0_ av0 =>
 asEnd av0 <|
 asCons rs fun r0_ rs0 =>
 asEnd rs0 <|
 asPtr (0, 0) [] a0_ <|
 asRt true kNet r0_ fun m1 d2 =>
 asMImm m1 fun z3 =>
 .mat (s_l07Vectors_d9f5_F d2) fun r => .ret (s_l07Vectors_d9f5_out z3 d2 r)
noncomputable def s_l07Vectors_d9f5_c : Ctr := ⟨[], fun ci => s_l07Vectors_d9f5_G ci.args ci.roots, false⟩
theorem s_l07Vectors_d9f5_env : EnvOK Try.prog .none s_l07Vectors_d9f5_V := (envOK_cons s_l07Vector_9419_ok ent98 envOK_nil)
set_option maxRecDepth 100000 in
theorem s_l07Vectors_d9f5_ok : Contract Try.prog .none 45 s_l07Vectors_d9f5_c := by
 have hl : LoopsOK s_l07Vectors_d9f5_V s_l07Vectors_d9f5_A s_l07Vectors_d9f5_b := (loopsOK_all (n := 1) (by kernel_rfl) fun k hk => by
   match k, hk with
   | 0, _ => exact loopOK_at (id := 3) (L := s_l07Vectors_d9f5_l3_L) (by kernel_rfl) (by kernel_rfl) s_l07Vectors_d9f5_l3_ok)
 refine (contract_of (F := s_l07Vectors_d9f5_I) tau_tys s_l07Vectors_d9f5_env Try.func45 (by kernel_rfl) (by kernel_rfl) (by kernel_rfl) hl []).weaken ?_
 rintro ⟨av, rs⟩ co h
 have h : (s_l07Vectors_d9f5_G av rs).run some = some co := h
 obtain ⟨a0_, av0, rfl, h_0⟩ := asCons_spec h
 obtain ⟨rfl, h_1⟩ := asEnd_spec h_0
 obtain ⟨r0_, rs0, rfl, h_2⟩ := asCons_spec h_1
 obtain ⟨rfl, h_3⟩ := asEnd_spec h_2
 obtain ⟨rfl, h_4⟩ := asPtr_spec h_3
 obtain ⟨m1, d2, rfl, h_5⟩ := asRt_spec h_4
 obtain ⟨z3, rfl, h_6⟩ := asMImm_spec h_5
 exact fin_mat (s_l07Vectors_d9f5_eq z3 d2) h_6
end Go.Proofs.Ytkgekgfmnhccmaa

namespace Go.Proofs.Ytkgekgfmnhccmaa
open Go Go.Abs Go.Proofs
noncomputable def s_EdgeVectors (p0 : TNet) : Tre (Int × (List (List Int))) :=
 .mat (s_l07Ok_d9f5_F p0) fun r1 =>
 .cond (!r1)
  (.ret (1, []))
  (.mat (s_l07Vectors_d9f5_F p0) fun r2 =>
  .ret (0, r2))
noncomputable def s_EdgeVectors_F (p0 : TNet) : Option (Int × (List (List Int))) := (s_EdgeVectors p0).run some
-- more
theorem sedgev_is {n : TN6} (h : NetP n) : s_EdgeVectors_F n = some (0, vectorsV n) := by
 unfold s_EdgeVectors_F s_EdgeVectors
 rw [run_some_mat (s_l07Ok_is n), Tre.run_cond, netOk_iff.2 h, Bool.not_true, cond_false, run_some_mat (svecs_is h)]
 rfl
noncomputable def s_EdgeVectors_V : Env := ⟨tau, [(44, s_l07Ok_d9f5_c), (45, s_l07Vectors_d9f5_c)], []⟩
noncomputable def s_EdgeVectors_b : Code := (Try.f13.body).getD .skip
noncomputable def s_EdgeVectors_I : FnI := ⟨s_EdgeVectors_b, Try.f13.results.toList, Try.f13.resultTypes.toList, []⟩
noncomputable def s_EdgeVectors_out (_zp0 : Bool) (_p0 : TNet) : (Int × (List (List Int))) → CallOut := fun r => ⟨(.tcons (.ref (1, 0) []) (.tcons (.imm true (.int .i64) r.1) .tnil)), [], [⟨false, (.sl (.sl (.int .i64))), .own, r.2⟩]⟩
set_option maxRecDepth 100000 in
theorem s_EdgeVectors_eq : ∀ (zp0 : Bool) (p0 : TNet), denFn s_EdgeVectors_V s_EdgeVectors_I ⟨[(.imm zp0 kNet p0)], []⟩ = (s_EdgeVectors p0).run fun r => some (s_EdgeVectors_out zp0 p0 r) := fun _ _ => by kernel_rfl
noncomputable def s_EdgeVectors_G (av : List AV) (rs : List Root) : Tre CallOut :=
 asCons av fun a0_ av0 =>
 asEnd av0 <|
 asEnd rs <|
 asImm kNet a0_ fun z2 d1 =>
 .mat (s_EdgeVectors_F d1) fun r => .ret (s_EdgeVectors_out z2 d1 r)
noncomputable def s_EdgeVectors_c : Ctr := ⟨[], fun ci => s_EdgeVectors_G ci.args ci.roots, false⟩
theorem s_EdgeVectors_env : EnvOK Try.prog .none s_EdgeVectors_V := (envOK_cons s_l07Ok_d9f5_ok ent44 (envOK_cons s_l07Vectors_d9f5_ok ent45 envOK_nil))
set_option maxRecDepth 100000 in
theorem s_EdgeVectors_ok : Contract Try.prog .none 13 s_EdgeVectors_c := by
 have hl : LoopsOK s_EdgeVectors_V [] s_EdgeVectors_b := loopsOK_nil (by kernel_rfl)
 refine (contract_of (F := s_EdgeVectors_I) tau_tys s_EdgeVectors_env Try.func13 (by kernel_rfl) (by kernel_rfl) (by kernel_rfl) hl []).weaken ?_
 rintro ⟨av, rs⟩ co h
 have h : (s_EdgeVectors_G av rs).run some = some co := h
 obtain ⟨a0_, av0, rfl, h_0⟩ := asCons_spec h
 obtain ⟨rfl, h_1⟩ := asEnd_spec h_0
 obtain ⟨rfl, h_2⟩ := asEnd_spec h_1
 obtain ⟨z2, d1, rfl, h_3⟩ := asImm_spec h_2
 exact fin_mat (s_EdgeVectors_eq z2 d1) h_3
end Go.Proofs.Ytkgekgfmnhccmaa

namespace Go.Proofs.Ytkgekgfmnhccmaa
open Go Go.Abs Go.Proofs
noncomputable def s_l07Node_4c46 (p0 : Int) (p1 : Int) (p2 : TNet) : Tre Int :=
 .mat (s_l07Ok_d9f5_F p2) fun r1 =>
 .cond (!r1)
  (.ret 1)
  (let v2 := inR p0 p1 (iwrap .i64 (p2.2.1 - 1))
  .cond (!v2)
   (.ret 2)
   (.ret 0))
noncomputable def s_l07Node_4c46_F (p0 : Int) (p1 : Int) (p2 : TNet) : Option Int := (s_l07Node_4c46 p0 p1 p2).run some
-- more
theorem snode_is (n : TN6) (node k : Int) : s_l07Node_4c46_F node k n = some (nodeC n node k) := by
 unfold s_l07Node_4c46_F s_l07Node_4c46 nodeC
 rw [run_some_mat (s_l07Ok_is n), Tre.run_cond]
 rcases Bool.eq_false_or_eq_true (netOk n) with h | h
 ·have hn := (netOk_iff.1 h).nodes
  rw [h, Bool.not_true, cond_false, if_pos rfl, iwrap_i64 (by omega) (by omega)]
  dsimp only
  rw [Tre.run_cond]
  cases inR node k (n.2.1 - 1)
  ·rfl
  ·rfl
 ·rw [h]; rfl
noncomputable def s_l07Node_4c46_V : Env := ⟨tau, [(44, s_l07Ok_d9f5_c), (96, s_l00In_c)], []⟩
noncomputable def s_l07Node_4c46_b : Code := (Try.f46.body).getD .skip
noncomputable def s_l07Node_4c46_I : FnI := ⟨s_l07Node_4c46_b, Try.f46.results.toList, Try.f46.resultTypes.toList, []⟩
noncomputable def s_l07Node_4c46_out (zp0 : Bool) (_p0 : Int) (_p1 : Int) (p2 : TNet) : Int → CallOut := fun r => ⟨(.imm true (.int .i64) r), [⟨true, kNet, (.imm zp0), p2⟩], []⟩
set_option maxRecDepth 100000 in
theorem s_l07Node_4c46_eq : ∀ (zp0 : Bool) (p0 : Int) (p1 : Int) (p2 : TNet), denFn s_l07Node_4c46_V s_l07Node_4c46_I ⟨[(.ptr (0, 0) []), (.imm true (.int .i64) p0), (.imm true (.int .i64) p1)], [⟨true, kNet, (.imm zp0), p2⟩]⟩ = (s_l07Node_4c46 p0 p1 p2).run fun r => some (s_l07Node_4c46_out zp0 p0 p1 p2 r) := fun _ _ _ _ => by kernel_rfl
noncomputable def s_l07Node_4c46_G (av : List AV) (rs : List Root) : Tre CallOut :=
 asCons av fun a0_ av0 =>
 asCons av0 fun a1_ av1 =>
 asCons av1 fun a2_ av2 =>
 asEnd av2 <|
 asCons rs fun r0_ rs0 =>
 asEnd rs0 <|
 asPtr (0, 0) [] a0_ <|
 asImmZ true (.int .i64) a1_ fun d1 =>
 asImmZ true (.int .i64) a2_ fun d2 =>
 asRt true kNet r0_ fun m3 d4 =>
 asMImm m3 fun z5 =>
 .mat (s_l07Node_4c46_F d1 d2 d4) fun r => .ret (s_l07Node_4c46_out z5 d1 d2 d4 r)
noncomputable def s_l07Node_4c46_c : Ctr := ⟨[], fun ci => s_l07Node_4c46_G ci.args ci.roots, false⟩
theorem s_l07Node_4c46_env : EnvOK Try.prog .none s_l07Node_4c46_V := (envOK_cons s_l07Ok_d9f5_ok ent44 (envOK_cons s_l00In_ok ent96 envOK_nil))
set_option maxRecDepth 100000 in
theorem s_l07Node_4c46_ok : Contract Try.prog .none 46 s_l07Node_4c46_c := by
 have hl : LoopsOK s_l07Node_4c46_V [] s_l07Node_4c46_b := loopsOK_nil (by kernel_rfl)
 refine (contract_of (F := s_l07Node_4c46_I) tau_tys s_l07Node_4c46_env Try.func46 (by kernel_rfl) (by kernel_rfl) (by kernel_rfl) hl []).weaken ?_
 rintro ⟨av, rs⟩ co h
 have h : (s_l07Node_4c46_G av rs).run some = some co := h
 obtain ⟨a0_, av0, rfl, h_0⟩ := asCons_spec h
 obtain ⟨a1_, av1, rfl, h_1⟩ := asCons_spec h_0
 obtain ⟨a2_, av2, rfl, h_2⟩ := asCons_spec h_1
 obtain ⟨rfl, h_3⟩ := asEnd_spec h_2
 obtain ⟨r0_, rs0, rfl, h_4⟩ := asCons_spec h_3
 obtain ⟨rfl, h_5⟩ := asEnd_spec h_4
 obtain ⟨rfl, h_6⟩ := asPtr_spec h_5
 obtain ⟨d1, rfl, h_7⟩ := asImmZ_spec h_6
 obtain ⟨d2, rfl, h_8⟩ := asImmZ_spec h_7
 obtain ⟨m3, d4, rfl, h_9⟩ := asRt_spec h_8
 obtain ⟨z5, rfl, h_10⟩ := asMImm_spec h_9
 exact fin_mat (s_l07Node_4c46_eq z5 d1 d2 d4) h_10
end Go.Proofs.Ytkgekgfmnhccmaa

namespace Go.Proofs.Ytkgekgfmnhccmaa
open Go Go.Abs Go.Proofs
noncomputable def s_EdgesInto (p0 : TNet) (p1 : Int) : Tre (Int × (List Int)) :=
 .mat (s_l07Node_4c46_F p1 0 p0) fun r1 =>
 .cond (!decide (r1 = 0))
  (.ret (r1, []))
  (.mat (s_l07Into_e270_F p0 p1) fun r2 =>
  .ret (0, r2))
noncomputable def s_EdgesInto_F (p0 : TNet) (p1 : Int) : Option (Int × (List Int)) := (s_EdgesInto p0 p1).run some
-- more
theorem nodeC_zero {n : TN6} (h : NetP n) {node : Int} (h0 : 0 ≤ node) (h1 : node < n.2.1) : nodeC n node 0 = 0 := by
 unfold nodeC
 rw [if_pos (netOk_iff.2 h), if_pos (inR_iff.2 ⟨h0, by omega⟩)]
theorem sinto_is {n : TN6} (h : NetP n) {node : Int} (h0 : 0 ≤ node) (h1 : node < n.2.1) : s_EdgesInto_F n node = some (0, intoV n.2.2.2.1 node) := by
 have h2 : ∀ e ∈ n.2.2.2.1, e.length = 2 := by
  intro e he
  obtain ⟨i, hi⟩ := List.mem_iff_getElem?.1 he
  exact edgeOk_len (h.edges i e hi)
 unfold s_EdgesInto_F s_EdgesInto
 rw [run_some_mat (snode_is n node 0), nodeC_zero h h0 h1, Tre.run_cond, decide_eq_true rfl, Bool.not_true, cond_false, run_some_mat (s_l07Into_is n h.len h2 node)]
 rfl
noncomputable def s_EdgesInto_V : Env := ⟨tau, [(46, s_l07Node_4c46_c), (47, s_l07Into_e270_c)], []⟩
noncomputable def s_EdgesInto_b : Code := (Try.f14.body).getD .skip
noncomputable def s_EdgesInto_I : FnI := ⟨s_EdgesInto_b, Try.f14.results.toList, Try.f14.resultTypes.toList, []⟩
noncomputable def s_EdgesInto_out (_zp0 : Bool) (_p0 : TNet) (_p1 : Int) : (Int × (List Int)) → CallOut := fun r => ⟨(.tcons (.ref (1, 0) []) (.tcons (.imm true (.int .i64) r.1) .tnil)), [], [⟨false, (.sl (.int .i64)), .own, r.2⟩]⟩
set_option maxRecDepth 100000 in
theorem s_EdgesInto_eq : ∀ (zp0 : Bool) (p0 : TNet) (p1 : Int), denFn s_EdgesInto_V s_EdgesInto_I ⟨[(.imm zp0 kNet p0), (.imm true (.int .i64) p1)], []⟩ = (s_EdgesInto p0 p1).run fun r => some (s_EdgesInto_out zp0 p0 p1 r) := fun _ _ _ => by kernel_rfl
noncomputable def s_EdgesInto_G (av : List AV) (rs : List Root) : Tre CallOut :=
 asCons av fun a0_ av0 =>
 asCons av0 fun a1_ av1 =>
 asEnd av1 <|
 asEnd rs <|
 asImm kNet a0_ fun z2 d1 =>
 asImmZ true (.int .i64) a1_ fun d3 =>
 .mat (s_EdgesInto_F d1 d3) fun r => .ret (s_EdgesInto_out z2 d1 d3 r)
noncomputable def s_EdgesInto_c : Ctr := ⟨[], fun ci => s_EdgesInto_G ci.args ci.roots, false⟩
theorem s_EdgesInto_env : EnvOK Try.prog .none s_EdgesInto_V := (envOK_cons s_l07Node_4c46_ok ent46 (envOK_cons s_l07Into_e270_ok ent47 envOK_nil))
set_option maxRecDepth 100000 in
theorem s_EdgesInto_ok : Contract Try.prog .none 14 s_EdgesInto_c := by
 have hl : LoopsOK s_EdgesInto_V [] s_EdgesInto_b := loopsOK_nil (by kernel_rfl)
 refine (contract_of (F := s_EdgesInto_I) tau_tys s_EdgesInto_env Try.func14 (by kernel_rfl) (by kernel_rfl) (by kernel_rfl) hl []).weaken ?_
 rintro ⟨av, rs⟩ co h
 have h : (s_EdgesInto_G av rs).run some = some co := h
 obtain ⟨a0_, av0, rfl, h_0⟩ := asCons_spec h
 obtain ⟨a1_, av1, rfl, h_1⟩ := asCons_spec h_0
 obtain ⟨rfl, h_2⟩ := asEnd_spec h_1
 obtain ⟨rfl, h_3⟩ := asEnd_spec h_2
 obtain ⟨z2, d1, rfl, h_4⟩ := asImm_spec h_3
 obtain ⟨d3, rfl, h_5⟩ := asImmZ_spec h_4
 exact fin_mat (s_EdgesInto_eq z2 d1 d3) h_5
end Go.Proofs.Ytkgekgfmnhccmaa

namespace Go.Proofs.Ytkgekgfmnhccmaa
open Go Go.Abs Go.Proofs
noncomputable def i_always : Tre Bool :=
 .ret true
noncomputable def i_always_F : Option Bool := (i_always).run some
theorem i_always_spec : i_always_F = some true := rfl
noncomputable def i_always_V : Env := ⟨tau, [], []⟩
noncomputable def i_always_b : Code := (Try.f49.body).getD .skip
noncomputable def i_always_I : FnI := ⟨i_always_b, Try.f49.results.toList, Try.f49.resultTypes.toList, []⟩
noncomputable def i_always_out : Bool → CallOut := fun r => ⟨(.imm true .bool r), [], []⟩
set_option maxRecDepth 100000 in
theorem i_always_eq : denFn i_always_V i_always_I ⟨[], []⟩ = (i_always).run fun r => some (i_always_out r) := by kernel_rfl
noncomputable def i_always_G (av : List AV) (rs : List Root) : Tre CallOut :=
 asEnd av <|
 asEnd rs <|
 .ret (i_always_out true)
noncomputable def i_always_c : Ctr := ⟨[], fun ci => i_always_G ci.args ci.roots, false⟩
theorem i_always_env : EnvOK Try.prog .none i_always_V := envOK_nil
set_option maxRecDepth 100000 in
theorem i_always_ok : Contract Try.prog .none 49 i_always_c := by
 have hl : LoopsOK i_always_V [] i_always_b := loopsOK_nil (by kernel_rfl)
 refine (contract_of (F := i_always_I) tau_tys i_always_env Try.func49 (by kernel_rfl) (by kernel_rfl) (by kernel_rfl) hl []).weaken ?_
 rintro ⟨av, rs⟩ co h
 have h : (i_always_G av rs).run some = some co := h
 obtain ⟨rfl, h_0⟩ := asEnd_spec h
 obtain ⟨rfl, h_1⟩ := asEnd_spec h_0
 exact fin_ret (i_always_eq) (i_always_spec) h_1
end Go.Proofs.Ytkgekgfmnhccmaa

namespace Go.Proofs.Ytkgekgfmnhccmaa
open Go Go.Abs Go.Proofs
noncomputable def i_nodeCode_i_always (p0 : TNet) (p1 : Int) : Tre Int :=
 .mat (i_ValidNet_F p0) fun r1 =>
 .cond (!r1)
  (.ret 1)
  (.cond (!(i_Net_isNode_S p0 p1))
   (.ret 2)
   (.ret 0))
noncomputable def i_nodeCode_i_always_F (p0 : TNet) (p1 : Int) : Option Int := (i_nodeCode_i_always p0 p1).run some
-- more
theorem inode_is (n : TN6) (node : Int) : i_nodeCode_i_always_F n node = some (nodeC n node 0) := by
 unfold i_nodeCode_i_always_F i_nodeCode_i_always nodeC
 rw [run_some_mat (i_ValidNet_is n), Tre.run_cond]
 rcases Bool.eq_false_or_eq_true (netOk n) with h | h
 ·have hn := (netOk_iff.1 h).nodes
  rw [h, Bool.not_true, cond_false, if_pos rfl, Tre.run_cond]
  unfold i_Net_isNode_S
  dsimp only
  rw [iwrap_i64 (by omega) (by omega)]
  cases inR node 0 (n.2.1 - 1)
  ·rfl
  ·rfl
 ·rw [h]; rfl
noncomputable def i_nodeCode_i_always_V : Env := ⟨tau, [(42, i_ValidNet_c), (93, i_Net_isNode_c), (49, i_always_c)], []⟩
noncomputable def i_nodeCode_i_always_b : Code := (Try.f48.body).getD .skip
noncomputable def i_nodeCode_i_always_I : FnI := ⟨i_nodeCode_i_always_b, Try.f48.results.toList, Try.f48.resultTypes.toList, []⟩
noncomputable def i_nodeCode_i_always_out (_zp0 : Bool) (_p0 : TNet) (_p1 : Int) : Int → CallOut := fun r => ⟨(.imm true (.int .i64) r), [], []⟩
set_option maxRecDepth 100000 in
theorem i_nodeCode_i_always_eq : ∀ (zp0 : Bool) (p0 : TNet) (p1 : Int), denFn i_nodeCode_i_always_V i_nodeCode_i_always_I ⟨[(.imm zp0 kNet p0), (.imm true (.int .i64) p1), (.fn 49 [])], []⟩ = (i_nodeCode_i_always p0 p1).run fun r => some (i_nodeCode_i_always_out zp0 p0 p1 r) := fun _ _ _ => by kernel_rfl
noncomputable def i_nodeCode_i_always_G (av : List AV) (rs : List Root) : Tre CallOut :=
 asCons av fun a0_ av0 =>
 asCons av0 fun a1_ av1 =>
 asCons av1 fun a2_ av2 =>
 asEnd av2 <|
 asEnd rs <|
 asImm kNet a0_ fun z2 d1 =>
 asImmZ true (.int .i64) a1_ fun d3 =>
 asFn 49 [] a2_ <|
 .mat (i_nodeCode_i_always_F d1 d3) fun r => .ret (i_nodeCode_i_always_out z2 d1 d3 r)
noncomputable def i_nodeCode_i_always_c : Ctr := ⟨[], fun ci => i_nodeCode_i_always_G ci.args ci.roots, false⟩
theorem i_nodeCode_i_always_env : EnvOK Try.prog .none i_nodeCode_i_always_V := (envOK_cons i_ValidNet_ok ent42 (envOK_cons i_Net_isNode_ok ent93 (envOK_cons i_always_ok ent49 envOK_nil)))
set_option maxRecDepth 100000 in
theorem i_nodeCode_i_always_ok : Contract Try.prog .none 48 i_nodeCode_i_always_c := by
 have hl : LoopsOK i_nodeCode_i_always_V [] i_nodeCode_i_always_b := loopsOK_nil (by kernel_rfl)
 refine (contract_of (F := i_nodeCode_i_always_I) tau_tys i_nodeCode_i_always_env Try.func48 (by kernel_rfl) (by kernel_rfl) (by kernel_rfl) hl []).weaken ?_
 rintro ⟨av, rs⟩ co h
 have h : (i_nodeCode_i_always_G av rs).run some = some co := h
 obtain ⟨a0_, av0, rfl, h_0⟩ := asCons_spec h
 obtain ⟨a1_, av1, rfl, h_1⟩ := asCons_spec h_0
 obtain ⟨a2_, av2, rfl, h_2⟩ := asCons_spec h_1
 obtain ⟨rfl, h_3⟩ := asEnd_spec h_2
 obtain ⟨rfl, h_4⟩ := asEnd_spec h_3
 obtain ⟨z2, d1, rfl, h_5⟩ := asImm_spec h_4
 obtain ⟨d3, rfl, h_6⟩ := asImmZ_spec h_5
 obtain ⟨rfl, h_7⟩ := asFn_spec h_6
 exact fin_mat (i_nodeCode_i_always_eq z2 d1 d3) h_7
end Go.Proofs.Ytkgekgfmnhccmaa

namespace Go.Proofs.Ytkgekgfmnhccmaa
open Go Go.Abs Go.Proofs
noncomputable def i_Net_rows_l4 (h4_0_0 : Int) (h4_0_2 : TNet) : (Int × (List (List Int))) → Tre ((Int × (List (List Int))) ⊕ (List (List Int))) := fun s4 =>
 .cond (decide (s4.1 < h4_0_0))
  (.mat (i_unit_F h4_0_2.2.2.1 s4.1) fun r1 =>
  .ite ((s4.2.length + 1) * 24 ≤ appendMax ∧ 1 ≤ 24) <|
  .ret (.inl (iwrap .i64 (s4.1 + 1), s4.2 ++ ([r1]))))
  (.ret (.inr s4.2))
noncomputable def i_Net_rows_l11 (h11_0_0 : Int) (h11_0_3 : (List (List Int))) (h11_0_4 : (List Int)) : (Int × (List (List Int))) → Tre ((Int × (List (List Int))) ⊕ (List (List Int))) := fun s11 =>
 .cond (decide (s11.1 < h11_0_0))
  (.ite (0 ≤ s11.1 ∧ s11.1 < (h11_0_4.length : Int)) <|
  .mat (h11_0_4[s11.1.toNat]?) fun x5 =>
  .ite (0 ≤ x5 ∧ x5 < (h11_0_3.length : Int)) <|
  .mat (h11_0_3[x5.toNat]?) fun x6 =>
  .ite ((s11.2.length + 1) * 24 ≤ appendMax ∧ 1 ≤ 24) <|
  .ret (.inl (iwrap .i64 (s11.1 + 1), s11.2 ++ ([x6]))))
  (.ret (.inr s11.2))
noncomputable def i_Net_rows (p0 : TNet) (p1 : Int) : Tre ((List (List Int)) ⊕ (List (List Int))) :=
 .cond (decide (p1 = 0))
  (.mat (loopF (i_Net_rows_l4 p0.2.2.1 p0) (0, [])) fun l2 =>
  .ret (.inl l2))
  (.mat (i_Net_vectors_F p0) fun r3 =>
  .mat (i_Net_into_F p0 p1) fun r4 =>
  .mat (loopF (i_Net_rows_l11 (r4.length : Int) r3 r4) (0, [])) fun l7 =>
  .ret (.inr l7))
noncomputable def i_Net_rows_F (p0 : TNet) (p1 : Int) : Option ((List (List Int)) ⊕ (List (List Int))) := (i_Net_rows p0 p1).run some
-- more
theorem irows_is {n : TN6} (h : NetP n) (node : Int) : i_Net_rows_F n node = some (if node = 0 then .inl (rowsV n node) else .inr (rowsV n node)) := by
 have hE := h.len
 have hil := intoV_len n.2.2.2.1 node
 obtain ⟨hm1, hm2, hm3⟩ := mess_ok h
 unfold i_Net_rows_F i_Net_rows rowsV
 rw [Tre.run_cond]
 by_cases h0 : node = 0
 ·rw [decide_eq_true h0, cond_true, if_pos h0, if_pos h0]
  have key := fold_loop (xs := List.range (messN n)) (step := i_Net_rows_l4 n.2.2.1 n) (γ := List (List Int)) (fun (i : Nat) acc => ((i : Int), acc)) (fun _ acc k => .inl (acc ++ [unitV (messN n) k])) id (fun i acc => acc.length = i) (by
   intro i acc x hx hi
   have hlt := (List.getElem?_eq_some_iff.1 hx).1
   rw [List.length_range] at hlt
   rw [List.getElem?_range hlt] at hx
   cases hx
   refine ⟨?_, fun a ha => ?_⟩
   ·unfold i_Net_rows_l4
    dsimp only
    rw [Tre.run_cond, decide_eq_true (by omega), cond_true, hm1, run_some_mat (iunit_is hlt (by omega)), Tre.run_ite, if_pos (by unfold appendMax; omega), Tre.run_ret, iwrap_succ (by omega)]
   ·cases ha; simp [hi]) (by
   intro acc _
   unfold i_Net_rows_l4
   dsimp only
   rw [Tre.run_cond, decide_eq_false (by rw [List.length_range]; omega), cond_false]
   rfl) _ 0 [] rfl (Nat.zero_le _) rfl
  rw [foldE_app] at key
  have key : loopF (i_Net_rows_l4 n.2.2.1 n) (0, []) = some ((List.range (messN n)).map (unitV (messN n))) := key
  rw [run_some_mat key]
  rfl
 ·rw [decide_eq_false h0, cond_false, if_neg h0, if_neg h0, run_some_mat (vectors_is h), run_some_mat (i_Net_into_is n h.len h.two2 node)]
  have key := fold_loop (xs := intoV n.2.2.2.1 node) (step := i_Net_rows_l11 ((intoV n.2.2.2.1 node).length : Int) (vectorsV n) (intoV n.2.2.2.1 node)) (γ := List (List Int)) (fun (i : Nat) acc => ((i : Int), acc)) (fun _ acc x => .inl (acc ++ [(vectorsV n).getD x.toNat []])) id (fun i acc => acc.length = i) (by
   intro i acc x hx hi
   have hlt := (List.getElem?_eq_some_iff.1 hx).1
   obtain ⟨j, rfl, hj⟩ := into_all h (List.mem_of_getElem? hx)
   obtain ⟨v, hv, _⟩ := vectorsV_ok h hj
   have hvl := vectorsV_len n
   refine ⟨?_, fun a ha => ?_⟩
   ·unfold i_Net_rows_l11
    dsimp only
    rw [Tre.run_cond, decide_eq_true (by omega), cond_true, Tre.run_ite, if_pos (by omega), Int.toNat_natCast, run_some_mat hx, Tre.run_ite, if_pos (by omega), Int.toNat_natCast, run_some_mat hv, Tre.run_ite, if_pos (by unfold appendMax; omega), Tre.run_ret, iwrap_succ (by omega), getD_of hv]
   ·cases ha; simp [hi]) (by
   intro acc _
   unfold i_Net_rows_l11
   dsimp only
   rw [Tre.run_cond, decide_eq_false (by omega), cond_false]
   rfl) _ 0 [] rfl (Nat.zero_le _) rfl
  rw [foldE_app] at key
  have key : loopF (i_Net_rows_l11 ((intoV n.2.2.2.1 node).length : Int) (vectorsV n) (intoV n.2.2.2.1 node)) (0, []) = some ((intoV n.2.2.2.1 node).map fun x => (vectorsV n).getD x.toNat []) := key
  rw [run_some_mat key]
  rfl
noncomputable def i_Net_rows_V : Env := ⟨tau, [(94, i_unit_c), (43, i_Net_vectors_c), (102, i_Net_into_c)], [(10, [((9, 0), [], true), ((7, 0), [], true)])]⟩
noncomputable def i_Net_rows_b : Code := (Try.f56.body).getD .skip
noncomputable def i_Net_rows_l4_mk (z4_0 : Bool) (h4_0_0 : Int) (h4_0_2 : TNet) : (Int × (List (List Int))) → St := fun x => stOf [(2, (.ptr (4, 0) [])), (5, (.ref (7, 0) [])), (14, (.imm true (.int .i64) h4_0_0)), (15, (.imm true (.int .i64) x.1))] [((4, 0), some ⟨true, kNet, (.imm z4_0), h4_0_2⟩), ((7, 0), some ⟨false, (.sl (.sl (.int .i64))), .own, x.2⟩)]
noncomputable def i_Net_rows_l4_out (_z4_0 : Bool) (_h4_0_0 : Int) (_h4_0_2 : TNet) : (List (List Int)) → Ex × St := fun x => (.exit 0, stOf [(5, (.ref (7, 0) []))] [((7, 0), some ⟨false, (.sl (.sl (.int .i64))), .own, x⟩)])
noncomputable def i_Net_rows_l4_D (s : St) : Tre (Ex × St) :=
 asPtr (4, 0) [] (s.tmps 2) <|
 asRef (7, 0) [] (s.tmps 5) <|
 asImmZ true (.int .i64) (s.tmps 14) fun d4 =>
 asImmZ true (.int .i64) (s.tmps 15) fun d6 =>
 asRoot true kNet (s.roots (4, 0)) fun m8 d9 =>
 asMImm m8 fun z10 =>
 asRoot false (.sl (.sl (.int .i64))) (s.roots (7, 0)) fun m12 d13 =>
 asM .own m12 <|
 .mat (loopF (i_Net_rows_l4 d4 d9) (d6, d13)) fun x => .ret (i_Net_rows_l4_out z10 d4 d9 x)
noncomputable def i_Net_rows_l4_L : LoopI := ⟨([2, 5, 14, 15], [(4, 0), (7, 0)]), ([5], [(7, 0)]), i_Net_rows_l4_D⟩
noncomputable def i_Net_rows_l11_mk (h11_0_0 : Int) (h11_0_3 : (List (List Int))) (h11_0_4 : (List Int)) : (Int × (List (List Int))) → St := fun x => stOf [(5, (.ref (7, 0) [])), (7, (.ref (9, 0) [])), (31, (.ref (33, 0) [])), (32, (.imm true (.int .i64) h11_0_0)), (33, (.imm true (.int .i64) x.1))] [((7, 0), some ⟨false, (.sl (.sl (.int .i64))), (.sl (.imm true)), x.2⟩), ((9, 0), some ⟨false, (.sl (.sl (.int .i64))), (.sl (.imm true)), h11_0_3⟩), ((33, 0), some ⟨false, (.sl (.int .i64)), .own, h11_0_4⟩)]
noncomputable def i_Net_rows_l11_out (_h11_0_0 : Int) (_h11_0_3 : (List (List Int))) (_h11_0_4 : (List Int)) : (List (List Int)) → Ex × St := fun x => (.exit 2, stOf [(5, (.ref (7, 0) []))] [((7, 0), some ⟨false, (.sl (.sl (.int .i64))), (.sl (.imm true)), x⟩)])
noncomputable def i_Net_rows_l11_D (s : St) : Tre (Ex × St) :=
 asRef (7, 0) [] (s.tmps 5) <|
 asRef (9, 0) [] (s.tmps 7) <|
 asRef (33, 0) [] (s.tmps 31) <|
 asImmZ true (.int .i64) (s.tmps 32) fun d5 =>
 asImmZ true (.int .i64) (s.tmps 33) fun d7 =>
 asRoot false (.sl (.sl (.int .i64))) (s.roots (7, 0)) fun m9 d10 =>
 asM (.sl (.imm true)) m9 <|
 asRoot false (.sl (.sl (.int .i64))) (s.roots (9, 0)) fun m12 d13 =>
 asM (.sl (.imm true)) m12 <|
 asRoot false (.sl (.int .i64)) (s.roots (33, 0)) fun m15 d16 =>
 asM .own m15 <|
 .mat (loopF (i_Net_rows_l11 d5 d13 d16) (d7, d10)) fun x => .ret (i_Net_rows_l11_out d5 d13 d16 x)
noncomputable def i_Net_rows_l11_L : LoopI := ⟨([5, 7, 31, 32, 33], [(7, 0), (9, 0), (33, 0)]), ([5], [(7, 0)]), i_Net_rows_l11_D⟩
noncomputable def i_Net_rows_A : List (Nat × LoopI) := [(4, i_Net_rows_l4_L), (11, i_Net_rows_l11_L)]
set_option maxRecDepth 100000 in
theorem i_Net_rows_l4_step : ∀ (z4_0 : Bool) (h4_0_0 : Int) (h4_0_2 : TNet) (x : (Int × (List (List Int)))) (c : St → Option (Ex × St)), den i_Net_rows_V i_Net_rows_A (loopAt i_Net_rows_b 0) (i_Net_rows_l4_mk z4_0 h4_0_0 h4_0_2 x) (roundK i_Net_rows_l4_L.kp i_Net_rows_l4_L.kx c) = (i_Net_rows_l4 h4_0_0 h4_0_2 x).run (roundR (i_Net_rows_l4_mk z4_0 h4_0_0 h4_0_2) (i_Net_rows_l4_out z4_0 h4_0_0 h4_0_2) c) := fun _ _ _ _ _ => by
 kernel_rfl
theorem i_Net_rows_l4_ok : LoopOK i_Net_rows_V i_Net_rows_A (loopAt i_Net_rows_b 0) i_Net_rows_l4_L := loopOK_of fun s e s' h => by
 generalize hs : restrict i_Net_rows_l4_L.kp s = s1 at h
 have h : (i_Net_rows_l4_D s1).run some = some (e, s') := h
 obtain ⟨e1, h_0⟩ := asPtr_spec h
 obtain ⟨e2, h_1⟩ := asRef_spec h_0
 obtain ⟨d4, e3, h_2⟩ := asImmZ_spec h_1
 obtain ⟨d6, e5, h_3⟩ := asImmZ_spec h_2
 obtain ⟨m8, d9, e7, h_4⟩ := asRoot_spec h_3
 obtain ⟨z10, rfl, h_5⟩ := asMImm_spec h_4
 obtain ⟨m12, d13, e11, h_6⟩ := asRoot_spec h_5
 obtain ⟨rfl, h_7⟩ := asM_spec h_6
 obtain ⟨y, hy, hz⟩ := mat_ret h_7
 refine ⟨_, _, i_Net_rows_l4_mk z10 d4 d9, i_Net_rows_l4_out z10 d4 d9, i_Net_rows_l4 d4 d9, (d6, d13), y, ?_, hy, ?_, i_Net_rows_l4_step z10 d4 d9⟩
 ·subst hs; exact restrict_eq (T := [(2, (.ptr (4, 0) [])), (5, (.ref (7, 0) [])), (14, (.imm true (.int .i64) d4)), (15, (.imm true (.int .i64) d6))]) (U := [((4, 0), some ⟨true, kNet, (.imm z10), d9⟩), ((7, 0), some ⟨false, (.sl (.sl (.int .i64))), .own, d13⟩)]) rfl rfl ⟨e1, e2, e3, e5, trivial⟩ ⟨e7, e11, trivial⟩
 ·exact Option.some.inj hz
set_option maxRecDepth 100000 in
theorem i_Net_rows_l11_step : ∀ (h11_0_0 : Int) (h11_0_3 : (List (List Int))) (h11_0_4 : (List Int)) (x : (Int × (List (List Int)))) (c : St → Option (Ex × St)), den i_Net_rows_V i_Net_rows_A (loopAt i_Net_rows_b 1) (i_Net_rows_l11_mk h11_0_0 h11_0_3 h11_0_4 x) (roundK i_Net_rows_l11_L.kp i_Net_rows_l11_L.kx c) = (i_Net_rows_l11 h11_0_0 h11_0_3 h11_0_4 x).run (roundR (i_Net_rows_l11_mk h11_0_0 h11_0_3 h11_0_4) (i_Net_rows_l11_out h11_0_0 h11_0_3 h11_0_4) c) := fun _ _ _ _ _ => by
 kernel_rfl
theorem i_Net_rows_l11_ok : LoopOK i_Net_rows_V i_Net_rows_A (loopAt i_Net_rows_b 1) i_Net_rows_l11_L := loopOK_of fun s e s' h => by
 generalize hs : restrict i_Net_rows_l11_L.kp s = s1 at h
 have h : (i_Net_rows_l11_D s1).run some = some (e, s') := h
 obtain ⟨e1, h_0⟩ := asRef_spec h
 obtain ⟨e2, h_1⟩ := asRef_spec h_0
 obtain ⟨e3, h_2⟩ := asRef_spec h_1
 obtain ⟨d5, e4, h_3⟩ := asImmZ_spec h_2
 obtain ⟨d7, e6, h_4⟩ := asImmZ_spec h_3
 obtain ⟨m9, d10, e8, h_5⟩ := asRoot_spec h_4
 obtain ⟨rfl, h_6⟩ := asM_spec h_5
 obtain ⟨m12, d13, e11, h_7⟩ := asRoot_spec h_6
 obtain ⟨rfl, h_8⟩ := asM_spec h_7
 obtain ⟨m15, d16, e14, h_9⟩ := asRoot_spec h_8
 obtain ⟨rfl, h_10⟩ := asM_spec h_9
 obtain ⟨y, hy, hz⟩ := mat_ret h_10
 refine ⟨_, _, i_Net_rows_l11_mk d5 d13 d16, i_Net_rows_l11_out d5 d13 d16, i_Net_rows_l11 d5 d13 d16, (d7, d10), y, ?_, hy, ?_, i_Net_rows_l11_step d5 d13 d16⟩
 ·subst hs; exact restrict_eq (T := [(5, (.ref (7, 0) [])), (7, (.ref (9, 0) [])), (31, (.ref (33, 0) [])), (32, (.imm true (.int .i64) d5)), (33, (.imm true (.int .i64) d7))]) (U := [((7, 0), some ⟨false, (.sl (.sl (.int .i64))), (.sl (.imm true)), d10⟩), ((9, 0), some ⟨false, (.sl (.sl (.int .i64))), (.sl (.imm true)), d13⟩), ((33, 0), some ⟨false, (.sl (.int .i64)), .own, d16⟩)]) rfl rfl ⟨e1, e2, e3, e4, e6, trivial⟩ ⟨e8, e11, e14, trivial⟩
 ·exact Option.some.inj hz
noncomputable def i_Net_rows_I : FnI := ⟨i_Net_rows_b, Try.f56.results.toList, Try.f56.resultTypes.toList, i_Net_rows_A⟩
noncomputable def i_Net_rows_out (_zp0 : Bool) (_p0 : TNet) (_p1 : Int) : ((List (List Int)) ⊕ (List (List Int))) → CallOut
 | .inl r => ⟨(.ref (1, 0) []), [], [⟨false, (.sl (.sl (.int .i64))), .own, r⟩]⟩
 | .inr r => ⟨(.ref (1, 0) []), [], [⟨false, (.sl (.sl (.int .i64))), (.sl (.imm true)), r⟩]⟩
set_option maxRecDepth 100000 in
theorem i_Net_rows_eq : ∀ (zp0 : Bool) (p0 : TNet) (p1 : Int), denFn i_Net_rows_V i_Net_rows_I ⟨[(.imm zp0 kNet p0), (.imm true (.int .i64) p1)], []⟩ = (i_Net_rows p0 p1).run fun r => some (i_Net_rows_out zp0 p0 p1 r) := fun _ _ _ => by kernel_rfl
noncomputable def i_Net_rows_G (av : List AV) (rs : List Root) : Tre CallOut :=
 asCons av fun a0_ av0 =>
 asCons av0 fun a1_ av1 =>
 asEnd av1 <|
 asEnd rs <|
 asImm kNet a0_ fun z2 d1 =>
 asImmZ true (.int .i64) a1_ fun d3 =>
 .mat (i_Net_rows_F d1 d3) fun r => .alt r (fun a0 => .ret (i_Net_rows_out z2 d1 d3 (.inl a0))) (fun b0 => .ret (i_Net_rows_out z2 d1 d3 (.inr b0)))
noncomputable def i_Net_rows_c : Ctr := ⟨[], fun ci => i_Net_rows_G ci.args ci.roots, false⟩
theorem i_Net_rows_env : EnvOK Try.prog .none i_Net_rows_V := (envOK_cons i_unit_ok ent94 (envOK_cons i_Net_vectors_ok ent43 (envOK_cons i_Net_into_ok ent102 envOK_nil)))
set_option maxRecDepth 100000 in
theorem i_Net_rows_ok : Contract Try.prog .none 56 i_Net_rows_c := by
 have hl : LoopsOK i_Net_rows_V i_Net_rows_A i_Net_rows_b := (loopsOK_all (n := 2) (by kernel_rfl) fun k hk => by
   match k, hk with
   | 0, _ => exact loopOK_at (id := 4) (L := i_Net_rows_l4_L) (by kernel_rfl) (by kernel_rfl) i_Net_rows_l4_ok
   | 1, _ => exact loopOK_at (id := 11) (L := i_Net_rows_l11_L) (by kernel_rfl) (by kernel_rfl) i_Net_rows_l11_ok)
 refine (contract_of (F := i_Net_rows_I) tau_tys i_Net_rows_env Try.func56 (by kernel_rfl) (by kernel_rfl) (by kernel_rfl) hl []).weaken ?_
 rintro ⟨av, rs⟩ co h
 have h : (i_Net_rows_G av rs).run some = some co := h
 obtain ⟨a0_, av0, rfl, h_0⟩ := asCons_spec h
 obtain ⟨a1_, av1, rfl, h_1⟩ := asCons_spec h_0
 obtain ⟨rfl, h_2⟩ := asEnd_spec h_1
 obtain ⟨rfl, h_3⟩ := asEnd_spec h_2
 obtain ⟨z2, d1, rfl, h_4⟩ := asImm_spec h_3
 obtain ⟨d3, rfl, h_5⟩ := asImmZ_spec h_4
 exact fin_mats (i_Net_rows_eq z2 d1 d3) h_5 (by rintro (x | x) <;> rfl)
end Go.Proofs.Ytkgekgfmnhccmaa

namespace Go.Proofs.Ytkgekgfmnhccmaa
open Go Go.Abs Go.Proofs
noncomputable def i_Field_reducec1_a994 (p0 : (List Int)) (p1 : Int) : Tre Bool :=
 .ite (0 ≤ p1 ∧ p1 < (p0.length : Int)) <|
 .mat (p0[p1.toNat]?) fun x1 =>
 .ret (!decide (x1 = 0))
noncomputable def i_Field_reducec1_a994_F (p0 : (List Int)) (p1 : Int) : Option Bool := (i_Field_reducec1_a994 p0 p1).run some
-- more
theorem rc1_is {r : List Int} {c : Nat} (h : c < r.length) : i_Field_reducec1_a994_F r (c : Int) = some (nzAt c r) := by
 unfold i_Field_reducec1_a994_F i_Field_reducec1_a994
 have hx := List.getElem?_eq_getElem h
 rw [Tre.run_ite, if_pos ⟨by omega, by omega⟩, Int.toNat_natCast, run_some_mat hx, Tre.run_ret]
 unfold nzAt
 rw [hx]
noncomputable def i_Field_reducec1_a994_V : Env := ⟨tau, [], []⟩
noncomputable def i_Field_reducec1_a994_b : Code := (Try.f107.body).getD .skip
noncomputable def i_Field_reducec1_a994_I : FnI := ⟨i_Field_reducec1_a994_b, Try.f107.results.toList, Try.f107.resultTypes.toList, []⟩
noncomputable def i_Field_reducec1_a994_out (_zp0 : Bool) (_p0 : (List Int)) (p1 : Int) : Bool → CallOut := fun r => ⟨(.imm true .bool r), [⟨true, (.int .i64), .own, p1⟩], []⟩
set_option maxRecDepth 100000 in
theorem i_Field_reducec1_a994_eq : ∀ (zp0 : Bool) (p0 : (List Int)) (p1 : Int), denFn i_Field_reducec1_a994_V i_Field_reducec1_a994_I ⟨[(.imm zp0 (.sl (.int .i64)) p0), (.ptr (0, 0) [])], [⟨true, (.int .i64), .own, p1⟩]⟩ = (i_Field_reducec1_a994 p0 p1).run fun r => some (i_Field_reducec1_a994_out zp0 p0 p1 r) := fun _ _ _ => by kernel_rfl
noncomputable def i_Field_reducec1_a994_G (av : List AV) (rs : List Root) : Tre CallOut :=
 asCons av fun a0_ av0 =>
 asCons av0 fun a1_ av1 =>
 asEnd av1 <|
 asCons rs fun r0_ rs0 =>
 asEnd rs0 <|
 asImm (.sl (.int .i64)) a0_ fun z2 d1 =>
 asPtr (0, 0) [] a1_ <|
 asRt true (.int .i64) r0_ fun m3 d4 =>
 asM .own m3 <|
 .mat (i_Field_reducec1_a994_F d1 d4) fun r => .ret (i_Field_reducec1_a994_out z2 d1 d4 r)
noncomputable def i_Field_reducec1_a994_c : Ctr := ⟨[], fun ci => i_Field_reducec1_a994_G ci.args ci.roots, false⟩
theorem i_Field_reducec1_a994_env : EnvOK Try.prog .none i_Field_reducec1_a994_V := envOK_nil
set_option maxRecDepth 100000 in
theorem i_Field_reducec1_a994_ok : Contract Try.prog .none 107 i_Field_reducec1_a994_c := by
 have hl : LoopsOK i_Field_reducec1_a994_V [] i_Field_reducec1_a994_b := loopsOK_nil (by kernel_rfl)
 refine (contract_of (F := i_Field_reducec1_a994_I) tau_tys i_Field_reducec1_a994_env Try.func107 (by kernel_rfl) (by kernel_rfl) (by kernel_rfl) hl []).weaken ?_
 rintro ⟨av, rs⟩ co h
 have h : (i_Field_reducec1_a994_G av rs).run some = some co := h
 obtain ⟨a0_, av0, rfl, h_0⟩ := asCons_spec h
 obtain ⟨a1_, av1, rfl, h_1⟩ := asCons_spec h_0
 obtain ⟨rfl, h_2⟩ := asEnd_spec h_1
 obtain ⟨r0_, rs0, rfl, h_3⟩ := asCons_spec h_2
 obtain ⟨rfl, h_4⟩ := asEnd_spec h_3
 obtain ⟨z2, d1, rfl, h_5⟩ := asImm_spec h_4
 obtain ⟨rfl, h_6⟩ := asPtr_spec h_5
 obtain ⟨m3, d4, rfl, h_7⟩ := asRt_spec h_6
 obtain ⟨rfl, h_8⟩ := asM_spec h_7
 exact fin_mat (i_Field_reducec1_a994_eq z2 d1 d4) h_8
end Go.Proofs.Ytkgekgfmnhccmaa

namespace Go.Proofs.Ytkgekgfmnhccmaa
open Go Go.Abs Go.Proofs
noncomputable def nm1_l2 (h2_0_0 : (List (List Int))) (h2_0_1 : Int) (h2_0_3 : Int) : Int → Tre (Int ⊕ (Int ⊕ Unit)) := fun s2 =>
 .cond (decide (s2 < h2_0_1))
  (.ite (0 ≤ s2 ∧ s2 < (h2_0_0.length : Int)) <|
  .mat (h2_0_0[s2.toNat]?) fun x1 =>
  .mat (i_Field_reducec1_a994_F x1 h2_0_3) fun r2 =>
  .cond r2
   (.ret (.inr (.inl s2)))
   (.ret (.inl (iwrap .i64 (s2 + 1)))))
  (.ret (.inr (.inr ())))
noncomputable def nm1 (p0 : (List (List Int))) (p1 : Int) : Tre Int :=
 .mat (loopF (nm1_l2 p0 (p0.length : Int) p1) 0) fun l3 =>
 .alt l3
  (fun a4 =>
   .ret a4)
  (fun _ =>
   .ret (-1))
noncomputable def nm1_F (p0 : (List (List Int))) (p1 : Int) : Option Int := (nm1 p0 p1).run some
-- more
theorem ridx_is {xs : List (List Int)} {c : Nat} (hc : ∀ r ∈ xs, c < r.length) (hl : xs.length ≤ 1048576) : nm1_F xs (c : Int) = some (idxI (nzAt c) 0 xs) := by
 unfold nm1_F nm1
 rw [Tre.run_mat, find_loop (xs := xs) (fun i x => cond (nzAt c x) (some (.inl (i : Int))) none) (.inr ())]
 ·rw [Option.bind_some, ← findE_idx (p := fun x => nzAt c x)]
  generalize findE _ _ _ _ = r
  cases r <;> rfl
 ·intro i x hx
  have hi : i < xs.length := (List.getElem?_eq_some_iff.1 hx).1
  unfold nm1_l2
  rw [run_inb hx, run_some_mat (rc1_is (hc x (List.mem_of_getElem? hx))), Tre.run_cond]
  cases nzAt c x
  ·simp only [cond_false, Tre.run_ret, iwrap_succ (show i < 4611686018427387904 by omega)]
  ·rfl
 ·unfold nm1_l2
  exact run_out
noncomputable def nm1_V : Env := ⟨tau, [(107, i_Field_reducec1_a994_c)], []⟩
noncomputable def nm1_b : Code := (Try.f106.body).getD .skip
noncomputable def nm1_l2_mk (z2_0 : Bool) (h2_0_0 : (List (List Int))) (h2_0_1 : Int) (h2_0_3 : Int) : Int → St := fun x => stOf [(0, (.imm z2_0 (.sl (.sl (.int .i64))) h2_0_0)), (1, (.fn 107 [(0, 0)])), (7, (.imm true (.int .i64) h2_0_1)), (8, (.imm true (.int .i64) x))] [((0, 0), some ⟨true, (.int .i64), .own, h2_0_3⟩)]
noncomputable def nm1_l2_out (_z2_0 : Bool) (_h2_0_0 : (List (List Int))) (_h2_0_1 : Int) (h2_0_3 : Int) : (Int ⊕ Unit) → Ex × St
 | .inl x => (.ret, stOf [(4, (.imm true (.int .i64) x))] [((0, 0), some ⟨true, (.int .i64), .own, h2_0_3⟩)])
 | .inr _ => (.exit 0, stOf [(4, .dead)] [((0, 0), some ⟨true, (.int .i64), .own, h2_0_3⟩)])
noncomputable def nm1_l2_D (s : St) : Tre (Ex × St) :=
 asImm (.sl (.sl (.int .i64))) (s.tmps 0) fun z3 d2 =>
 asFn 107 [(0, 0)] (s.tmps 1) <|
 asImmZ true (.int .i64) (s.tmps 7) fun d6 =>
 asImmZ true (.int .i64) (s.tmps 8) fun d8 =>
 asRoot true (.int .i64) (s.roots (0, 0)) fun m10 d11 =>
 asM .own m10 <|
 .mat (loopF (nm1_l2 d2 d6 d11) d8) fun x => .alt x (fun a0 => .ret (nm1_l2_out z3 d2 d6 d11 (.inl a0))) (fun b0 => .ret (nm1_l2_out z3 d2 d6 d11 (.inr b0)))
noncomputable def nm1_l2_L : LoopI := ⟨([0, 1, 7, 8], [(0, 0)]), ([4], [(0, 0)]), nm1_l2_D⟩
noncomputable def nm1_A : List (Nat × LoopI) := [(2, nm1_l2_L)]
set_option maxRecDepth 100000 in
theorem nm1_l2_step : ∀ (z2_0 : Bool) (h2_0_0 : (List (List Int))) (h2_0_1 : Int) (h2_0_3 : Int) (x : Int) (c : St → Option (Ex × St)), den nm1_V nm1_A (loopAt nm1_b 0) (nm1_l2_mk z2_0 h2_0_0 h2_0_1 h2_0_3 x) (roundK nm1_l2_L.kp nm1_l2_L.kx c) = (nm1_l2 h2_0_0 h2_0_1 h2_0_3 x).run (roundR (nm1_l2_mk z2_0 h2_0_0 h2_0_1 h2_0_3) (nm1_l2_out z2_0 h2_0_0 h2_0_1 h2_0_3) c) := fun _ _ _ _ _ _ => by
 kernel_rfl
theorem nm1_l2_ok : LoopOK nm1_V nm1_A (loopAt nm1_b 0) nm1_l2_L := loopOK_of fun s e s' h => by
 generalize hs : restrict nm1_l2_L.kp s = s1 at h
 have h : (nm1_l2_D s1).run some = some (e, s') := h
 obtain ⟨z3, d2, e1, h_0⟩ := asImm_spec h
 obtain ⟨e4, h_1⟩ := asFn_spec h_0
 obtain ⟨d6, e5, h_2⟩ := asImmZ_spec h_1
 obtain ⟨d8, e7, h_3⟩ := asImmZ_spec h_2
 obtain ⟨m10, d11, e9, h_4⟩ := asRoot_spec h_3
 obtain ⟨rfl, h_5⟩ := asM_spec h_4
 obtain ⟨y, hy, hz⟩ := mat_some h_5
 refine ⟨_, _, nm1_l2_mk z3 d2 d6 d11, nm1_l2_out z3 d2 d6 d11, nm1_l2 d2 d6 d11, d8, y, ?_, hy, ?_, nm1_l2_step z3 d2 d6 d11⟩
 ·subst hs; exact restrict_eq (T := [(0, (.imm z3 (.sl (.sl (.int .i64))) d2)), (1, (.fn 107 [(0, 0)])), (7, (.imm true (.int .i64) d6)), (8, (.imm true (.int .i64) d8))]) (U := [((0, 0), some ⟨true, (.int .i64), .own, d11⟩)]) rfl rfl ⟨e1, e4, e5, e7, trivial⟩ ⟨e9, trivial⟩
 ·rcases y with x | x <;> exact Option.some.inj hz
noncomputable def nm1_I : FnI := ⟨nm1_b, Try.f106.results.toList, Try.f106.resultTypes.toList, nm1_A⟩
noncomputable def nm1_out (_zp0 : Bool) (_p0 : (List (List Int))) (p1 : Int) : Int → CallOut := fun r => ⟨(.imm true (.int .i64) r), [⟨true, (.int .i64), .own, p1⟩], []⟩
set_option maxRecDepth 100000 in
theorem nm1_eq : ∀ (zp0 : Bool) (p0 : (List (List Int))) (p1 : Int), denFn nm1_V nm1_I ⟨[(.imm zp0 (.sl (.sl (.int .i64))) p0), (.fn 107 [(0, 0)])], [⟨true, (.int .i64), .own, p1⟩]⟩ = (nm1 p0 p1).run fun r => some (nm1_out zp0 p0 p1 r) := fun _ _ _ => by kernel_rfl
noncomputable def nm1_G (av : List AV) (rs : List Root) : Tre CallOut :=
 asCons av fun a0_ av0 =>
 asCons av0 fun a1_ av1 =>
 asEnd av1 <|
 asCons rs fun r0_ rs0 =>
 asEnd rs0 <|
 asImm (.sl (.sl (.int .i64))) a0_ fun z2 d1 =>
 asFn 107 [(0, 0)] a1_ <|
 asRt true (.int .i64) r0_ fun m3 d4 =>
 asM .own m3 <|
 .mat (nm1_F d1 d4) fun r => .ret (nm1_out z2 d1 d4 r)
noncomputable def nm1_c : Ctr := ⟨[], fun ci => nm1_G ci.args ci.roots, false⟩
theorem nm1_env : EnvOK Try.prog .none nm1_V := (envOK_cons i_Field_reducec1_a994_ok ent107 envOK_nil)
set_option maxRecDepth 100000 in
theorem nm1_ok : Contract Try.prog .none 106 nm1_c := by
 have hl : LoopsOK nm1_V nm1_A nm1_b := (loopsOK_all (n := 1) (by kernel_rfl) fun k hk => by
   match k, hk with
   | 0, _ => exact loopOK_at (id := 2) (L := nm1_l2_L) (by kernel_rfl) (by kernel_rfl) nm1_l2_ok)
 refine (contract_of (F := nm1_I) tau_tys nm1_env Try.func106 (by kernel_rfl) (by kernel_rfl) (by kernel_rfl) hl []).weaken ?_
 rintro ⟨av, rs⟩ co h
 have h : (nm1_G av rs).run some = some co := h
 obtain ⟨a0_, av0, rfl, h_0⟩ := asCons_spec h
 obtain ⟨a1_, av1, rfl, h_1⟩ := asCons_spec h_0
 obtain ⟨rfl, h_2⟩ := asEnd_spec h_1
 obtain ⟨r0_, rs0, rfl, h_3⟩ := asCons_spec h_2
 obtain ⟨rfl, h_4⟩ := asEnd_spec h_3
 obtain ⟨z2, d1, rfl, h_5⟩ := asImm_spec h_4
 obtain ⟨rfl, h_6⟩ := asFn_spec h_5
 obtain ⟨m3, d4, rfl, h_7⟩ := asRt_spec h_6
 obtain ⟨rfl, h_8⟩ := asM_spec h_7
 exact fin_mat (nm1_eq z2 d1 d4) h_8
end Go.Proofs.Ytkgekgfmnhccmaa

namespace Go.Proofs.Ytkgekgfmnhccmaa
open Go Go.Abs Go.Proofs
noncomputable def i_Field_power_l2 (h2_0_3 : (Int × (Int × Unit))) : (Int × Int × Int) → Tre ((Int × Int × Int) ⊕ Int) := fun s2 =>
 .cond (decide (s2.2.1 > 0))
  (.cond (decide (iand .i64 s2.2.1 1 = 1))
   (.mat (i_Field_mul_F h2_0_3 s2.2.2 s2.1) fun r1 =>
   .mat (i_Field_mul_F h2_0_3 s2.1 s2.1) fun r2 =>
   .ret (.inl (r2, ishr .i64 s2.2.1 1, r1)))
   (.mat (i_Field_mul_F h2_0_3 s2.1 s2.1) fun r3 =>
   .ret (.inl (r3, ishr .i64 s2.2.1 1, s2.2.2))))
  (.ret (.inr s2.2.2))
noncomputable def i_Field_power (p0 : (Int × (Int × Unit))) (p1 : Int) (p2 : Int) : Tre Int :=
 .mat (loopF (i_Field_power_l2 p0) (p1, p2, 1)) fun l4 =>
 .ret l4
noncomputable def i_Field_power_F (p0 : (Int × (Int × Unit))) (p1 : Int) (p2 : Int) : Option Int := (i_Field_power p0 p1 p2).run some
noncomputable def i_Field_power_V : Env := ⟨tau, [(109, i_Field_mul_c)], []⟩
noncomputable def i_Field_power_b : Code := (Try.f141.body).getD .skip
noncomputable def i_Field_power_l2_mk (h2_0_3 : (Int × (Int × Unit))) : (Int × Int × Int) → St := fun x => stOf [(1, (.imm true (.int .i64) x.1)), (2, (.imm true (.int .i64) x.2.1)), (3, (.ptr (5, 0) [])), (7, (.imm true (.int .i64) x.2.2))] [((5, 0), some ⟨true, kField, .own, h2_0_3⟩)]
noncomputable def i_Field_power_l2_out (_h2_0_3 : (Int × (Int × Unit))) : Int → Ex × St := fun x => (.exit 0, stOf [(7, (.imm true (.int .i64) x))] [])
noncomputable def i_Field_power_l2_D (s : St) : Tre (Ex × St) :=
 asImmZ true (.int .i64) (s.tmps 1) fun d2 =>
 asImmZ true (.int .i64) (s.tmps 2) fun d4 =>
 asPtr (5, 0) [] (s.tmps 3) <|
 asImmZ true (.int .i64) (s.tmps 7) fun d7 =>
 asRoot true kField (s.roots (5, 0)) fun m9 d10 =>
 asM .own m9 <|
 .mat (loopF (i_Field_power_l2 d10) (d2, d4, d7)) fun x => .ret (i_Field_power_l2_out d10 x)
noncomputable def i_Field_power_l2_L : LoopI := ⟨([1, 2, 3, 7], [(5, 0)]), ([7], []), i_Field_power_l2_D⟩
noncomputable def i_Field_power_A : List (Nat × LoopI) := [(2, i_Field_power_l2_L)]
set_option maxRecDepth 100000 in
theorem i_Field_power_l2_step : ∀ (h2_0_3 : (Int × (Int × Unit))) (x : (Int × Int × Int)) (c : St → Option (Ex × St)), den i_Field_power_V i_Field_power_A (loopAt i_Field_power_b 0) (i_Field_power_l2_mk h2_0_3 x) (roundK i_Field_power_l2_L.kp i_Field_power_l2_L.kx c) = (i_Field_power_l2 h2_0_3 x).run (roundR (i_Field_power_l2_mk h2_0_3) (i_Field_power_l2_out h2_0_3) c) := fun _ _ _ => by
 kernel_rfl
theorem i_Field_power_l2_ok : LoopOK i_Field_power_V i_Field_power_A (loopAt i_Field_power_b 0) i_Field_power_l2_L := loopOK_of fun s e s' h => by
 generalize hs : restrict i_Field_power_l2_L.kp s = s1 at h
 have h : (i_Field_power_l2_D s1).run some = some (e, s') := h
 obtain ⟨d2, e1, h_0⟩ := asImmZ_spec h
 obtain ⟨d4, e3, h_1⟩ := asImmZ_spec h_0
 obtain ⟨e5, h_2⟩ := asPtr_spec h_1
 obtain ⟨d7, e6, h_3⟩ := asImmZ_spec h_2
 obtain ⟨m9, d10, e8, h_4⟩ := asRoot_spec h_3
 obtain ⟨rfl, h_5⟩ := asM_spec h_4
 obtain ⟨y, hy, hz⟩ := mat_ret h_5
 refine ⟨_, _, i_Field_power_l2_mk d10, i_Field_power_l2_out d10, i_Field_power_l2 d10, (d2, d4, d7), y, ?_, hy, ?_, i_Field_power_l2_step d10⟩
 ·subst hs; exact restrict_eq (T := [(1, (.imm true (.int .i64) d2)), (2, (.imm true (.int .i64) d4)), (3, (.ptr (5, 0) [])), (7, (.imm true (.int .i64) d7))]) (U := [((5, 0), some ⟨true, kField, .own, d10⟩)]) rfl rfl ⟨e1, e3, e5, e6, trivial⟩ ⟨e8, trivial⟩
 ·exact Option.some.inj hz
noncomputable def i_Field_power_I : FnI := ⟨i_Field_power_b, Try.f141.results.toList, Try.f141.resultTypes.toList, i_Field_power_A⟩
noncomputable def i_Field_power_out (_p0 : (Int × (Int × Unit))) (_p1 : Int) (_p2 : Int) : Int → CallOut := fun r => ⟨(.imm true (.int .i64) r), [], []⟩
set_option maxRecDepth 100000 in
theorem i_Field_power_eq : ∀ (p0 : (Int × (Int × Unit))) (p1 : Int) (p2 : Int), denFn i_Field_power_V i_Field_power_I ⟨[(.imm true kField p0), (.imm true (.int .i64) p1), (.imm true (.int .i64) p2)], []⟩ = (i_Field_power p0 p1 p2).run fun r => some (i_Field_power_out p0 p1 p2 r) := fun _ _ _ => by kernel_rfl
noncomputable def i_Field_power_G (av : List AV) (rs : List Root) : Tre CallOut :=
 asCons av fun a0_ av0 =>
 asCons av0 fun a1_ av1 =>
 asCons av1 fun a2_ av2 =>
 asEnd av2 <|
 asEnd rs <|
 asImmZ true kField a0_ fun d1 =>
 asImmZ true (.int .i64) a1_ fun d2 =>
 asImmZ true (.int .i64) a2_ fun d3 =>
 .mat (i_Field_power_F d1 d2 d3) fun r => .ret (i_Field_power_out d1 d2 d3 r)
noncomputable def i_Field_power_c : Ctr := ⟨[], fun ci => i_Field_power_G ci.args ci.roots, false⟩
theorem i_Field_power_env : EnvOK Try.prog .none i_Field_power_V := (envOK_cons i_Field_mul_ok ent109 envOK_nil)
set_option maxRecDepth 100000 in
theorem i_Field_power_ok : Contract Try.prog .none 141 i_Field_power_c := by
 have hl : LoopsOK i_Field_power_V i_Field_power_A i_Field_power_b := (loopsOK_all (n := 1) (by kernel_rfl) fun k hk => by
   match k, hk with
   | 0, _ => exact loopOK_at (id := 2) (L := i_Field_power_l2_L) (by kernel_rfl) (by kernel_rfl) i_Field_power_l2_ok)
 refine (contract_of (F := i_Field_power_I) tau_tys i_Field_power_env Try.func141 (by kernel_rfl) (by kernel_rfl) (by kernel_rfl) hl []).weaken ?_
 rintro ⟨av, rs⟩ co h
 have h : (i_Field_power_G av rs).run some = some co := h
 obtain ⟨a0_, av0, rfl, h_0⟩ := asCons_spec h
 obtain ⟨a1_, av1, rfl, h_1⟩ := asCons_spec h_0
 obtain ⟨a2_, av2, rfl, h_2⟩ := asCons_spec h_1
 obtain ⟨rfl, h_3⟩ := asEnd_spec h_2
 obtain ⟨rfl, h_4⟩ := asEnd_spec h_3
 obtain ⟨d1, rfl, h_5⟩ := asImmZ_spec h_4
 obtain ⟨d2, rfl, h_6⟩ := asImmZ_spec h_5
 obtain ⟨d3, rfl, h_7⟩ := asImmZ_spec h_6
 exact fin_mat (i_Field_power_eq d1 d2 d3) h_7
end Go.Proofs.Ytkgekgfmnhccmaa

namespace Go.Proofs.Ytkgekgfmnhccmaa
open Go Go.Abs Go.Proofs
noncomputable def i_Field_inverse (p0 : (Int × (Int × Unit))) (p1 : Int) : Tre Int :=
 .mat (i_Field_count_F p0) fun r1 =>
 .mat (i_Field_power_F p0 p1 (iwrap .i64 (r1 - 2))) fun r2 =>
 .ret r2
noncomputable def i_Field_inverse_F (p0 : (Int × (Int × Unit))) (p1 : Int) : Option Int := (i_Field_inverse p0 p1).run some
-- more
set_option maxRecDepth 100000
theorem iinv_2 : chk1 i_Field_inverse_F invN 1 2 = true := by kernel_rfl
theorem iinv_3 : chk1 i_Field_inverse_F invN 1 3 = true := by kernel_rfl
theorem iinv_7 : chk1 i_Field_inverse_F invN 2 7 = true := by kernel_rfl
theorem iinv_11 : chk1 i_Field_inverse_F invN 3 11 = true := by kernel_rfl
theorem iinv_13 : chk1 i_Field_inverse_F invN 3 13 = true := by kernel_rfl
theorem iinv_19 : chk1 i_Field_inverse_F invN 4 19 = true := by kernel_rfl
theorem iinv_25 : chk1 i_Field_inverse_F invN 4 25 = true := by kernel_rfl
theorem iinv_31 : chk1 i_Field_inverse_F invN 4 31 = true := by kernel_rfl
theorem iinv_37 : chk1 i_Field_inverse_F invN 5 37 = true := by kernel_rfl
theorem iinv_41 : chk1 i_Field_inverse_F invN 5 41 = true := by kernel_rfl
theorem iinv_47 : chk1 i_Field_inverse_F invN 5 47 = true := by kernel_rfl
theorem iinv_55 : chk1 i_Field_inverse_F invN 5 55 = true := by kernel_rfl
theorem iinv_59 : chk1 i_Field_inverse_F invN 5 59 = true := by kernel_rfl
theorem iinv_61 : chk1 i_Field_inverse_F invN 5 61 = true := by kernel_rfl
theorem iinv_is {f : TF3} (hf : fieldOk f = true) {a : Int} (ha : inF f a) : i_Field_inverse_F f a = some (invI f a) := by
 refine one_of (fun q hq => ?_) hf ha
 simp only [fieldN, List.mem_cons, List.not_mem_nil, or_false] at hq
 rcases hq with rfl | rfl | rfl | rfl | rfl | rfl | rfl | rfl | rfl | rfl | rfl | rfl | rfl | rfl
 ·exact iinv_2
 ·exact iinv_3
 ·exact iinv_7
 ·exact iinv_11
 ·exact iinv_13
 ·exact iinv_19
 ·exact iinv_25
 ·exact iinv_31
 ·exact iinv_37
 ·exact iinv_41
 ·exact iinv_47
 ·exact iinv_55
 ·exact iinv_59
 ·exact iinv_61
noncomputable def i_Field_inverse_V : Env := ⟨tau, [(105, i_Field_count_c), (141, i_Field_power_c)], []⟩
noncomputable def i_Field_inverse_b : Code := (Try.f108.body).getD .skip
noncomputable def i_Field_inverse_I : FnI := ⟨i_Field_inverse_b, Try.f108.results.toList, Try.f108.resultTypes.toList, []⟩
noncomputable def i_Field_inverse_out (_p0 : (Int × (Int × Unit))) (_p1 : Int) : Int → CallOut := fun r => ⟨(.imm true (.int .i64) r), [], []⟩
set_option maxRecDepth 100000 in
theorem i_Field_inverse_eq : ∀ (p0 : (Int × (Int × Unit))) (p1 : Int), denFn i_Field_inverse_V i_Field_inverse_I ⟨[(.imm true kField p0), (.imm true (.int .i64) p1)], []⟩ = (i_Field_inverse p0 p1).run fun r => some (i_Field_inverse_out p0 p1 r) := fun _ _ => by kernel_rfl
noncomputable def i_Field_inverse_G (av : List AV) (rs : List Root) : Tre CallOut :=
 asCons av fun a0_ av0 =>
 asCons av0 fun a1_ av1 =>
 asEnd av1 <|
 asEnd rs <|
 asImmZ true kField a0_ fun d1 =>
 asImmZ true (.int .i64) a1_ fun d2 =>
 .mat (i_Field_inverse_F d1 d2) fun r => .ret (i_Field_inverse_out d1 d2 r)
noncomputable def i_Field_inverse_c : Ctr := ⟨[], fun ci => i_Field_inverse_G ci.args ci.roots, false⟩
theorem i_Field_inverse_env : EnvOK Try.prog .none i_Field_inverse_V := (envOK_cons i_Field_count_ok ent105 (envOK_cons i_Field_power_ok ent141 envOK_nil))
set_option maxRecDepth 100000 in
theorem i_Field_inverse_ok : Contract Try.prog .none 108 i_Field_inverse_c := by
 have hl : LoopsOK i_Field_inverse_V [] i_Field_inverse_b := loopsOK_nil (by kernel_rfl)
 refine (contract_of (F := i_Field_inverse_I) tau_tys i_Field_inverse_env Try.func108 (by kernel_rfl) (by kernel_rfl) (by kernel_rfl) hl []).weaken ?_
 rintro ⟨av, rs⟩ co h
 have h : (i_Field_inverse_G av rs).run some = some co := h
 obtain ⟨a0_, av0, rfl, h_0⟩ := asCons_spec h
 obtain ⟨a1_, av1, rfl, h_1⟩ := asCons_spec h_0
 obtain ⟨rfl, h_2⟩ := asEnd_spec h_1
 obtain ⟨rfl, h_3⟩ := asEnd_spec h_2
 obtain ⟨d1, rfl, h_4⟩ := asImmZ_spec h_3
 obtain ⟨d2, rfl, h_5⟩ := asImmZ_spec h_4
 exact fin_mat (i_Field_inverse_eq d1 d2) h_5
end Go.Proofs.Ytkgekgfmnhccmaa
