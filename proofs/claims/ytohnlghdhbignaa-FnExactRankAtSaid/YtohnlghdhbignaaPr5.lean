/- Part 5 of the proof of FnExactRankAt. -/
import Derived.Test.YtohnlghdhbignaaPr4
namespace Go.Proofs.Ytohnlghdhbignaa
open Go Go.Abs Go.Proofs
noncomputable def i_Field_reduce_l3 (h3_0_2 : (List (List Int))) (h3_0_3 : Int) : (Int × (List (List Int))) → Tre ((Int × (List (List Int))) ⊕ (List (List Int))) := fun s3 =>
 .cond (decide (s3.1 < h3_0_3))
  (.ite (0 ≤ s3.1 ∧ s3.1 < (h3_0_2.length : Int)) <|
  .mat (h3_0_2[s3.1.toNat]?) fun x1 =>
  .mat (cloneR x1) fun r2 =>
  .ite ((s3.2.length + 1) * 24 ≤ appendMax ∧ 1 ≤ 24) <|
  .ret (.inl (iwrap .i64 (s3.1 + 1), s3.2 ++ ([r2]))))
  (.ret (.inr s3.2))
noncomputable def i_Field_reduce_l15 (h15_0_1 : Nat) (h15_0_2 : Int) (h15_0_5 : Int) (h15_0_7 : (Int × (Int × Unit))) : (Int × (List (List Int))) → Tre ((Int × (List (List Int))) ⊕ (List (List Int))) := fun s15 =>
 .cond (decide (s15.1 < h15_0_5))
  (.mat (s15.2[h15_0_1]?) fun x15 =>
  .ite (0 ≤ s15.1 ∧ s15.1 < (x15.length : Int)) <|
  .mat (s15.2[h15_0_1]?) fun x16 =>
  .mat (x16[s15.1.toNat]?) fun x17 =>
  .mat (i_Field_mul_F h15_0_7 x17 h15_0_2) fun r18 =>
  .mat (s15.2[h15_0_1]?) fun x19 =>
  .ite (0 ≤ s15.1 ∧ s15.1 < (x19.length : Int)) <|
  .mat (s15.2[h15_0_1]?) fun x20 =>
  .mat (x20[s15.1.toNat]?) fun _ =>
  let v22 := x20.set s15.1.toNat r18
  .ret (.inl (iwrap .i64 (s15.1 + 1), s15.2.set h15_0_1 v22)))
  (.ret (.inr s15.2))
noncomputable def i_Field_reduce_l25 (h25_0_1 : Nat) (h25_0_2 : Nat) (h25_0_3 : Int) (h25_0_8 : Int) (h25_0_10 : (Int × (Int × Unit))) : (Int × (List (List Int))) → Tre ((Int × (List (List Int))) ⊕ (List (List Int))) := fun s25 =>
 .cond (decide (s25.1 < h25_0_8))
  (.mat (s25.2[h25_0_2]?) fun x29 =>
  .ite (0 ≤ s25.1 ∧ s25.1 < (x29.length : Int)) <|
  .mat (s25.2[h25_0_2]?) fun x30 =>
  .mat (x30[s25.1.toNat]?) fun x31 =>
  .mat (s25.2[h25_0_1]?) fun x32 =>
  .ite (0 ≤ s25.1 ∧ s25.1 < (x32.length : Int)) <|
  .mat (s25.2[h25_0_1]?) fun x33 =>
  .mat (x33[s25.1.toNat]?) fun x34 =>
  .mat (i_Field_mul_F h25_0_10 h25_0_3 x34) fun r35 =>
  .mat (s25.2[h25_0_2]?) fun x36 =>
  .ite (0 ≤ s25.1 ∧ s25.1 < (x36.length : Int)) <|
  .mat (s25.2[h25_0_2]?) fun x37 =>
  .mat (x37[s25.1.toNat]?) fun _ =>
  let v39 := x37.set s25.1.toNat (ixor .i64 x31 r35)
  .ret (.inl (iwrap .i64 (s25.1 + 1), s25.2.set h25_0_2 v39)))
  (.ret (.inr s25.2))
noncomputable def i_Field_reduce_l20 (h20_0_0 : Int) (h20_0_1 : Nat) (h20_0_4 : Int) (h20_0_6 : (Int × (Int × Unit))) (h20_0_8 : Int) : (Int × (List (List Int))) → Tre ((Int × (List (List Int))) ⊕ (List (List Int))) := fun s20 =>
 .cond (decide (s20.1 < h20_0_4))
  (.ite (0 ≤ s20.1 ∧ s20.1 < (s20.2.length : Int)) <|
  .mat (s20.2[s20.1.toNat]?) fun _ =>
  .mat (s20.2[s20.1.toNat]?) fun x25 =>
  .ite (0 ≤ h20_0_8 ∧ h20_0_8 < (x25.length : Int)) <|
  .mat (s20.2[s20.1.toNat]?) fun x26 =>
  .mat (x26[h20_0_8.toNat]?) fun x27 =>
  .cond (!decide (s20.1 = h20_0_0))
   (.cond (!decide (x27 = 0))
    (.mat (s20.2[s20.1.toNat]?) fun x28 =>
    .mat (loopF (i_Field_reduce_l25 h20_0_1 s20.1.toNat x27 (x28.length : Int) h20_0_6) (0, s20.2)) fun l40 =>
    .ret (.inl (iwrap .i64 (s20.1 + 1), l40)))
    (.ret (.inl (iwrap .i64 (s20.1 + 1), s20.2))))
   (.ret (.inl (iwrap .i64 (s20.1 + 1), s20.2))))
  (.ret (.inr s20.2))
noncomputable def i_Field_reduce_l8 (h8_0_1 : Int) (h8_0_3 : (Int × (Int × Unit))) : (Int × Int × (List (List Int))) → Tre ((Int × Int × (List (List Int))) ⊕ (Int × (List (List Int)))) := fun s8 =>
 .cond (decide (s8.2.1 < h8_0_1))
  (.ite (0 ≤ s8.1 ∧ s8.1 ≤ (s8.2.2.length : Int) ∧ (s8.2.2.length : Int) ≤ (s8.2.2.length : Int)) <|
  .mat (slices_IndexFunc_int64_i_Field_reducec1_F ((s8.2.2.drop s8.1.toNat).take (((s8.2.2.length : Int) - s8.1).toNat)) s8.2.1) fun r4 =>
  .cond (decide (r4 < 0))
   (.ret (.inl (s8.1, iwrap .i64 (s8.2.1 + 1), s8.2.2)))
   (.ite (0 ≤ iwrap .i64 (s8.1 + r4) ∧ iwrap .i64 (s8.1 + r4) < (s8.2.2.length : Int)) <|
   .mat (s8.2.2[(iwrap .i64 (s8.1 + r4)).toNat]?) fun _ =>
   .ite (0 ≤ s8.1 ∧ s8.1 < (s8.2.2.length : Int)) <|
   .mat (s8.2.2[s8.1.toNat]?) fun _ =>
   .ite (0 ≤ s8.1 ∧ s8.1 < (s8.2.2.length : Int)) <|
   .ite (0 ≤ iwrap .i64 (s8.1 + r4) ∧ iwrap .i64 (s8.1 + r4) < (s8.2.2.length : Int)) <|
   .ite (Int.ofNat s8.1.toNat = Int.ofNat s8.1.toNat ∧ Int.ofNat ((iwrap .i64 (s8.1 + r4)).toNat) = Int.ofNat ((iwrap .i64 (s8.1 + r4)).toNat)) <|
   let v7 := swapL ((iwrap .i64 (s8.1 + r4)).toNat) s8.1.toNat s8.2.2
   .ite (0 ≤ s8.1 ∧ s8.1 < (v7.length : Int)) <|
   .mat (v7[s8.1.toNat]?) fun _ =>
   .ite (0 ≤ s8.1 ∧ s8.1 < (v7.length : Int)) <|
   .mat (v7[s8.1.toNat]?) fun _ =>
   .mat (v7[s8.1.toNat]?) fun x10 =>
   .ite (0 ≤ s8.2.1 ∧ s8.2.1 < (x10.length : Int)) <|
   .mat (v7[s8.1.toNat]?) fun x11 =>
   .mat (x11[s8.2.1.toNat]?) fun x12 =>
   .mat (i_Field_inverse_F h8_0_3 x12) fun r13 =>
   .mat (v7[s8.1.toNat]?) fun x14 =>
   .mat (loopF (i_Field_reduce_l15 s8.1.toNat r13 (x14.length : Int) h8_0_3) (0, v7)) fun l23 =>
   .mat (loopF (i_Field_reduce_l20 s8.1 s8.1.toNat (l23.length : Int) h8_0_3 s8.2.1) (0, l23)) fun l41 =>
   .ret (.inl (iwrap .i64 (s8.1 + 1), iwrap .i64 (s8.2.1 + 1), l41))))
  (.ret (.inr (s8.1, s8.2.2)))
noncomputable def i_Field_reduce (p0 : (Int × (Int × Unit))) (p1 : Int) (p2 : (List (List Int))) : Tre (List (List Int)) :=
 .mat (loopF (i_Field_reduce_l3 p2 (p2.length : Int)) (0, [])) fun l3 =>
 .mat (loopF (i_Field_reduce_l8 p1 p0) (0, 0, l3)) fun l42 =>
 .ite (0 ≤ (0 : Int) ∧ (0 : Int) ≤ l42.1 ∧ l42.1 ≤ (l42.2.length : Int)) <|
 .ret ((l42.2.drop 0).take ((l42.1 - 0).toNat))
noncomputable def i_Field_reduce_F (p0 : (Int × (Int × Unit))) (p1 : Int) (p2 : (List (List Int))) : Option (List (List Int)) := (i_Field_reduce p0 p1 p2).run some
-- more
theorem foldE_setm {α β γ : Type} (g : α → γ) (fin : List γ → β) : ∀ (l : List α) (i : Nat) (acc : List γ), acc.length = i + l.length → foldE (fun i acc x => (.inl (acc.set i (g x)) : List γ ⊕ β)) fin i acc l = fin (acc.take i ++ l.map g) := by
 intro l
 induction l with
 | nil => intro i acc h; simp only [foldE, List.map_nil, List.append_nil]; rw [List.take_of_length_le (by simp at h; omega)]
 | cons x l ih =>
  intro i acc h
  simp only [List.length_cons] at h
  simp only [foldE]
  rw [ih (i + 1) _ (by simp; omega), List.take_add_one]
  simp [show i < acc.length by omega, List.take_set_of_le (Nat.le_refl i)]
theorem red_scale {f : TF3} (hf : fieldOk f = true) {L : List (List Int)} {k : Nat} {row : List Int} (hk : L[k]? = some row) (hn : row.length ≤ 1000000) (hr : ∀ y ∈ row, inF f y) {x : Int} (hx : inF f x) :
  loopF (i_Field_reduce_l15 k x (row.length : Int) f) (0, L) = some (L.set k (row.map fun y => mulI f y x)) := by
 have hkl := (List.getElem?_eq_some_iff.1 hk).1
 have key := fold_loop (xs := row) (step := i_Field_reduce_l15 k x (row.length : Int) f) (fun (i : Nat) (acc : List Int) => ((i : Int), L.set k acc)) (fun i acc y => .inl (acc.set i (mulI f y x))) (fun acc => L.set k acc) (fun i acc => acc.length = row.length ∧ acc.drop i = row.drop i) (by
  intro i acc y hy hi
  have hlt := (List.getElem?_eq_some_iff.1 hy).1
  have hg : (L.set k acc)[k]? = some acc := by rw [List.getElem?_set_self hkl]
  have hai : acc[i]? = some y := by
   have := congrArg (·[0]?) hi.2
   simpa [hy] using this
  refine ⟨?_, fun a ha => ?_⟩
  ·unfold i_Field_reduce_l15
   dsimp only
   rw [Tre.run_cond, decide_eq_true (by omega), cond_true, run_some_mat hg, Tre.run_ite, if_pos (by omega), run_some_mat hg, Int.toNat_natCast, run_some_mat hai, run_some_mat (imul_is hf (hr _ (List.mem_of_getElem? hy)) hx), run_some_mat hg, Tre.run_ite, if_pos (by omega), run_some_mat hg, run_some_mat hai, Tre.run_ret, iwrap_succ (by omega), List.set_set]
  ·cases ha
   refine ⟨by simp [hi.1], ?_⟩
   rw [List.drop_set_of_lt (by omega), ← List.drop_drop, ← List.drop_drop, hi.2]) (by
  intro acc _
  unfold i_Field_reduce_l15
  dsimp only
  rw [Tre.run_cond, decide_eq_false (by omega), cond_false]
  rfl) row 0 row rfl (Nat.zero_le _) ⟨rfl, rfl⟩
 rw [foldE_setm _ _ _ _ _ (by simp)] at key
 have h0 : L.set k row = L := by
  apply List.ext_getElem?
  intro j
  rw [List.getElem?_set]
  split
  ·rename_i h; subst h; exact hk.symm
  ·rfl
 rw [h0] at key
 simpa using key
theorem red_clear {f : TF3} (hf : fieldOk f = true) {L : List (List Int)} {k i2 : Nat} (hne : k ≠ i2) {own r : List Int} (hk : L[k]? = some own) (h2 : L[i2]? = some r) (hl : r.length = own.length) (hn : r.length ≤ 1000000) (hr : ∀ y ∈ own, inF f y) {x : Int} (hx : inF f x) :
  loopF (i_Field_reduce_l25 k i2 x (r.length : Int) f) (0, L) = some (L.set i2 ((r.zip own).map fun p => ixor .i64 p.1 (mulI f x p.2))) := by
 have hkl := (List.getElem?_eq_some_iff.1 h2).1
 have key := fold_loop (xs := r.zip own) (step := i_Field_reduce_l25 k i2 x (r.length : Int) f) (fun (i : Nat) (acc : List Int) => ((i : Int), L.set i2 acc)) (fun i acc p => .inl (acc.set i (ixor .i64 p.1 (mulI f x p.2)))) (fun acc => L.set i2 acc) (fun i acc => acc.length = r.length ∧ acc.drop i = r.drop i) (by
  intro i acc p hp hi
  have hlt := (List.getElem?_eq_some_iff.1 hp).1
  rw [List.length_zip] at hlt
  obtain ⟨p1, p2⟩ := p
  rw [List.getElem?_zip_eq_some] at hp
  obtain ⟨hp1, hp2⟩ := hp
  have hg : (L.set i2 acc)[i2]? = some acc := by rw [List.getElem?_set_self hkl]
  have hgk : (L.set i2 acc)[k]? = some own := by rw [List.getElem?_set_ne (Ne.symm hne)]; exact hk
  have hai : acc[i]? = some p1 := by
   have := congrArg (·[0]?) hi.2
   simpa [hp1] using this
  refine ⟨?_, fun a ha => ?_⟩
  ·unfold i_Field_reduce_l25
   dsimp only
   rw [Tre.run_cond, decide_eq_true (by omega), cond_true, run_some_mat hg, Tre.run_ite, if_pos (by omega), run_some_mat hg, Int.toNat_natCast, run_some_mat hai, run_some_mat hgk, Tre.run_ite, if_pos (by omega), run_some_mat hgk, run_some_mat hp2, run_some_mat (imul_is hf hx (hr _ (List.mem_of_getElem? hp2))), run_some_mat hg, Tre.run_ite, if_pos (by omega), run_some_mat hg, run_some_mat hai, Tre.run_ret, iwrap_succ (by omega), List.set_set]
  ·cases ha
   refine ⟨by simp [hi.1], ?_⟩
   rw [List.drop_set_of_lt (by omega), ← List.drop_drop, ← List.drop_drop, hi.2]) (by
  intro acc _
  unfold i_Field_reduce_l25
  dsimp only
  rw [Tre.run_cond, decide_eq_false (by rw [List.length_zip]; omega), cond_false]
  rfl) (r.zip own) 0 r rfl (Nat.zero_le _) ⟨rfl, rfl⟩
 rw [foldE_setm _ _ _ _ _ (by simp [hl])] at key
 have h0 : L.set i2 r = L := by
  apply List.ext_getElem?
  intro j
  rw [List.getElem?_set]
  split
  ·rename_i h; subst h; simp [hkl, ← h2]
  ·rfl
 rw [h0] at key
 simpa using key
theorem red_all {f : TF3} (hf : fieldOk f = true) {L : List (List Int)} {k c : Nat} {own : List Int} (hk : L[k]? = some own) (hL : L.length ≤ 1000000) (hn : own.length ≤ 1000000) (hc : c < own.length) (hl : ∀ r ∈ L, r.length = own.length ∧ ∀ y ∈ r, inF f y) :
  loopF (i_Field_reduce_l20 (k : Int) k (L.length : Int) f (c : Int)) (0, L) = some (L.mapIdx (clearV f c k own)) := by
 have hown := hl own (List.mem_of_getElem? hk)
 have key := fold_loop (xs := L) (step := i_Field_reduce_l20 (k : Int) k (L.length : Int) f (c : Int)) (fun (i : Nat) (acc : List (List Int)) => ((i : Int), acc)) (fun i acc r => .inl (acc.set i (clearV f c k own i r))) id (fun i acc => acc.length = L.length ∧ acc.drop i = L.drop i ∧ acc[k]? = some own) (by
  intro i acc r hr hi
  have hlt := (List.getElem?_eq_some_iff.1 hr).1
  obtain ⟨hr1, hr2⟩ := hl r (List.mem_of_getElem? hr)
  have hai : acc[i]? = some r := by
   have := congrArg (·[0]?) hi.2.1
   simpa [hr] using this
  obtain ⟨x, hx⟩ : ∃ x, r[c]? = some x := ⟨_, List.getElem?_eq_getElem (by omega)⟩
  have hset : acc.set i r = acc := by
   apply List.ext_getElem?
   intro j
   rw [List.getElem?_set]
   split
   ·rename_i h; subst h; simp [show i < acc.length by omega, ← hai]
   ·rfl
  refine ⟨?_, fun a ha => ?_⟩
  ·unfold i_Field_reduce_l20
   dsimp only
   rw [Tre.run_cond, decide_eq_true (by omega), cond_true, Tre.run_ite, if_pos (by omega), Int.toNat_natCast, run_some_mat hai, run_some_mat hai, Tre.run_ite, if_pos (by omega), run_some_mat hai, Int.toNat_natCast, run_some_mat hx, Tre.run_cond]
   by_cases h1 : i = k
   ·rw [decide_eq_true (show (i : Int) = (k : Int) by omega), Bool.not_true, cond_false, Tre.run_ret, iwrap_succ (by omega)]
    simp only [clearV, hx, h1, decide_true, Bool.true_or, cond_true]
    rw [← h1, hset]
   ·rw [decide_eq_false (show ¬ (i : Int) = (k : Int) by omega), Bool.not_false, cond_true, Tre.run_cond]
    by_cases h2 : x = 0
    ·rw [decide_eq_true h2, Bool.not_true, cond_false, Tre.run_ret, iwrap_succ (by omega)]
     simp only [clearV, hx, h2, decide_true, Bool.or_true, cond_true]
     rw [hset]
    ·rw [decide_eq_false h2, Bool.not_false, cond_true, run_some_mat hai, run_some_mat (red_clear hf (fun h => h1 h.symm) hi.2.2 hai hr1 (by omega) hown.2 (hr2 _ (List.mem_of_getElem? hx))), Tre.run_ret, iwrap_succ (by omega)]
     simp only [clearV, hx, h1, h2, decide_false, Bool.or_self, cond_false]
  ·cases ha
   refine ⟨by simp [hi.1], ?_, ?_⟩
   ·rw [List.drop_set_of_lt (by omega), ← List.drop_drop, ← List.drop_drop, hi.2.1]
   ·by_cases h1 : i = k
    ·subst h1
     rw [List.getElem?_set_self (by omega)]
     rw [hr] at hk; cases hk
     simp only [clearV, hx, decide_true, Bool.true_or, cond_true]
    ·rw [List.getElem?_set_ne h1]; exact hi.2.2) (by
  intro acc _
  unfold i_Field_reduce_l20
  dsimp only
  rw [Tre.run_cond, decide_eq_false (by omega), cond_false]
  rfl) L 0 L rfl (Nat.zero_le _) ⟨rfl, rfl, hk⟩
 rw [foldE_seti _ _ _ _ _ (by simp)] at key
 simpa using key
theorem red_copy {rows : List (List Int)} (hl : rows.length ≤ 1000000) (hr : ∀ r ∈ rows, r.length ≤ 1000000) : loopF (i_Field_reduce_l3 rows (rows.length : Int)) (0, []) = some rows := by
 have key := fold_loop (xs := rows) (step := i_Field_reduce_l3 rows (rows.length : Int)) (fun (i : Nat) (acc : List (List Int)) => ((i : Int), acc)) (fun _ acc r => .inl (acc ++ [id r])) id (fun i acc => acc.length = i) (by
  intro i acc r h hi
  have hlt := (List.getElem?_eq_some_iff.1 h).1
  refine ⟨?_, fun a ha => ?_⟩
  ·unfold i_Field_reduce_l3
   dsimp only
   rw [Tre.run_cond, decide_eq_true (by omega), cond_true, Tre.run_ite, if_pos (by omega), Int.toNat_natCast, run_some_mat h, run_some_mat (show cloneR r = some r from lim_of (by have := hr r (List.mem_of_getElem? h); omega)), Tre.run_ite, if_pos (by unfold appendMax; omega), Tre.run_ret, iwrap_succ (by omega)]
   rfl
  ·cases ha; simp [hi]) (by
  intro acc _
  unfold i_Field_reduce_l3
  dsimp only
  rw [Tre.run_cond, decide_eq_false (by omega), cond_false]
  rfl) rows 0 [] rfl (Nat.zero_le _) rfl
 rw [foldE_app, List.map_id] at key
 exact key
theorem red_step {f : TF3} (hf : fieldOk f = true) {n c : Nat} (hc : c < n) (hn : n ≤ 1000000) (s : Nat × List (List Int)) (h : GR f n s.2) (hL : s.2.length ≤ 1000000) (ha : s.1 ≤ s.2.length) :
  (i_Field_reduce_l8 (n : Int) f ((s.1 : Int), (c : Int), s.2)).run some = some (.inl (((echStep f c s).1 : Int), ((c + 1 : Nat) : Int), (echStep f c s).2)) := by
 obtain ⟨a, L⟩ := s
 dsimp only at h hL ha
 unfold i_Field_reduce_l8
 dsimp only
 have htk : (L.drop a).take (((L.length : Int) - (a : Int)).toNat) = L.drop a := List.take_of_length_le (by rw [List.length_drop]; omega)
 rw [Tre.run_cond, decide_eq_true (by omega), cond_true, Tre.run_ite, if_pos (by omega), Int.toNat_natCast, htk, run_some_mat (ridx_is (fun r hr => by rw [(h r (List.mem_of_mem_drop hr)).1]; exact hc) (by rw [List.length_drop]; omega)), Tre.run_cond]
 unfold echStep
 dsimp only
 rcases idxI_cases (nzAt c) (L.drop a) 0 with ⟨h1, _⟩ | ⟨k, row, h1, h2, h3⟩
 ·have h4 := idxI_add (nzAt c) (L.drop a) a 0
  rw [h1, if_pos (by decide)] at h4
  simp only [Nat.add_zero] at h4
  rw [h1, h4]
  simp only [show decide ((-1 : Int) < 0) = true from rfl, cond_true]
  rw [Tre.run_ret, iwrap_succ (by omega)]
 ·have h4 := idxI_add (nzAt c) (L.drop a) a 0
  rw [h3, if_neg (by omega)] at h4
  simp only [Nat.add_zero, Nat.zero_add] at h4
  have h4 : idxI (nzAt c) a (L.drop a) = ((a + k : Nat) : Int) := by rw [h4]; omega
  have hak : L[a + k]? = some row := by rw [← h1, List.getElem?_drop]
  have hlt := (List.getElem?_eq_some_iff.1 hak).1
  obtain ⟨r0, hr0⟩ : ∃ r0, L[a]? = some r0 := ⟨_, List.getElem?_eq_getElem (by omega)⟩
  obtain ⟨hrl, hrf⟩ := GR_at h hak
  obtain ⟨x, hx, hx0⟩ := nzAt_of h2
  have hxf := hrf x (List.mem_of_getElem? hx)
  have hsw : swapL (a + k) a L = (L.set (a + k) r0).set a row := by unfold swapL; rw [hak, hr0]
  have hva : ((L.set (a + k) r0).set a row)[a]? = some row := List.getElem?_set_self (by simp; omega)
  rw [h3, h4]
  simp only [Nat.zero_add]
  have hw : iwrap .i64 ((a : Int) + (k : Int)) = ((a + k : Nat) : Int) := by rw [iwrap_i64 (by omega) (by omega)]; omega
  rw [hw, Int.toNat_natCast, hsw, decide_eq_false (by omega), decide_eq_false (by omega), cond_false, cond_false]
  rw [Tre.run_ite, if_pos (by omega), run_some_mat hak, Tre.run_ite, if_pos (by omega), run_some_mat hr0, Tre.run_ite, if_pos (by omega), Tre.run_ite, if_pos (by omega), Tre.run_ite, if_pos (by simp)]
  simp only [List.length_set]
  rw [Tre.run_ite, if_pos (by omega), run_some_mat hva, Tre.run_ite, if_pos (by omega), run_some_mat hva, run_some_mat hva, Tre.run_ite, if_pos (by omega), run_some_mat hva, Int.toNat_natCast, run_some_mat hx, run_some_mat (iinv_is hf hxf), run_some_mat hva]
  rw [run_some_mat (red_scale hf hva (by omega) hrf (invI_facts hf hxf).1), List.set_set]
  have hp : pivL f c (a + k) a L = (L.set (a + k) r0).set a (row.map fun y => mulI f y (invI f x)) := by
   unfold pivL scaleV
   rw [hak, hr0]
   simp only [hx]
  have hpg := pivL_ok (c := c) (k := a + k) (a := a) hf h
  rw [hp] at hpg ⊢
  have hpa : ((L.set (a + k) r0).set a (row.map fun y => mulI f y (invI f x)))[a]? = some (row.map fun y => mulI f y (invI f x)) := List.getElem?_set_self (by simp; omega)
  generalize hG : (L.set (a + k) r0).set a (row.map fun y => mulI f y (invI f x)) = G at hpg hpa
  have hown := GR_at hpg.1 hpa
  have hcl : loopF (i_Field_reduce_l20 (a : Int) a (G.length : Int) f (c : Int)) (0, G) = some (G.mapIdx (clearV f c a (row.map fun y => mulI f y (invI f x)))) :=
   red_all hf hpa (by omega) (by omega) (by omega) (fun r hr => by rw [hown.1]; exact hpg.1 r hr)
  rw [run_some_mat hcl, Tre.run_ret, iwrap_succ (by omega), iwrap_succ (by omega)]
  unfold clearL
  rw [hpa]
theorem red_loop {f : TF3} (hf : fieldOk f = true) {n : Nat} (hn : n ≤ 1000000) : ∀ (m c : Nat) (s : Nat × List (List Int)), c + m = n → GR f n s.2 → s.2.length ≤ 1000000 → s.1 ≤ s.2.length → loopF (i_Field_reduce_l8 (n : Int) f) ((s.1 : Int), (c : Int), s.2) = some (((echFrom f c m s).1 : Int), (echFrom f c m s).2) := by
 intro m
 induction m with
 | zero =>
  intro c s hc h hL ha
  have hc : c = n := hc
  subst hc
  refine loopF_done ?_
  unfold i_Field_reduce_l8
  exact run_out
 | succ m ih =>
  intro c s hc h hL ha
  rw [loopF_step (red_step hf (by omega) hn s h hL ha)]
  have h1 := echStep_ok (c := c) hf h ha
  exact ih (c + 1) _ (by omega) h1.1 (by omega) (by omega)
theorem ired_is {f : TF3} (hf : fieldOk f = true) {n : Nat} (hn : n ≤ 1000000) {L : List (List Int)} (h : GR f n L) (hL : L.length ≤ 1000000) : i_Field_reduce_F f (n : Int) L = some (echV f n L) := by
 have hl := red_loop hf hn n 0 (0, L) (by omega) h hL (Nat.zero_le _)
 have hk := echFrom_ok hf n 0 (0, L) h (Nat.zero_le _)
 have hl : loopF (i_Field_reduce_l8 (n : Int) f) (0, 0, L) = _ := hl
 unfold i_Field_reduce_F i_Field_reduce
 rw [run_some_mat (red_copy hL (fun r hr => by rw [(h r hr).1]; exact hn)), run_some_mat hl, Tre.run_ite, if_pos (by have := hk.2.1; have := hk.2.2; dsimp only at *; omega), Tre.run_ret]
 unfold echV
 simp
noncomputable def i_Field_reduce_V : Env := ⟨tau, [(36, slices_Clone_int64_c), (119, slices_IndexFunc_int64_i_Field_reducec1_c), (121, i_Field_inverse_c), (122, i_Field_mul_c)], []⟩
noncomputable def i_Field_reduce_b : Code := (Try.f88.body).getD .skip
noncomputable def i_Field_reduce_l3_mk (z3_0 : Bool) (h3_0_0 : Int) (h3_0_1 : Int) (h3_0_2 : (List (List Int))) (h3_0_3 : Int) (h3_0_5 : (Int × (Int × Unit))) : (Int × (List (List Int))) → St := fun x => stOf [(1, (.imm true (.int .i64) h3_0_0)), (3, (.ptr (5, 0) [])), (7, (.ref (9, 0) [])), (8, (.imm true (.int .i64) h3_0_1)), (21, (.imm z3_0 (.sl (.sl (.int .i64))) h3_0_2)), (22, (.imm true (.int .i64) h3_0_3)), (23, (.imm true (.int .i64) x.1))] [((5, 0), some ⟨true, kField, .own, h3_0_5⟩), ((9, 0), some ⟨false, (.sl (.sl (.int .i64))), .own, x.2⟩)]
noncomputable def i_Field_reduce_l3_out (_z3_0 : Bool) (h3_0_0 : Int) (h3_0_1 : Int) (_h3_0_2 : (List (List Int))) (_h3_0_3 : Int) (h3_0_5 : (Int × (Int × Unit))) : (List (List Int)) → Ex × St := fun x => (.exit 0, stOf [(1, (.imm true (.int .i64) h3_0_0)), (3, (.ptr (5, 0) [])), (7, (.ref (9, 0) [])), (8, (.imm true (.int .i64) h3_0_1))] [((5, 0), some ⟨true, kField, .own, h3_0_5⟩), ((9, 0), some ⟨false, (.sl (.sl (.int .i64))), .own, x⟩)])
noncomputable def i_Field_reduce_l3_D (s : St) : Tre (Ex × St) :=
 asImmZ true (.int .i64) (s.tmps 1) fun d2 =>
 asPtr (5, 0) [] (s.tmps 3) <|
 asRef (9, 0) [] (s.tmps 7) <|
 asImmZ true (.int .i64) (s.tmps 8) fun d6 =>
 asImm (.sl (.sl (.int .i64))) (s.tmps 21) fun z9 d8 =>
 asImmZ true (.int .i64) (s.tmps 22) fun d11 =>
 asImmZ true (.int .i64) (s.tmps 23) fun d13 =>
 asRoot true kField (s.roots (5, 0)) fun m15 d16 =>
 asM .own m15 <|
 asRoot false (.sl (.sl (.int .i64))) (s.roots (9, 0)) fun m18 d19 =>
 asM .own m18 <|
 .mat (loopF (i_Field_reduce_l3 d8 d11) (d13, d19)) fun x => .ret (i_Field_reduce_l3_out z9 d2 d6 d8 d11 d16 x)
noncomputable def i_Field_reduce_l3_L : LoopI := ⟨([1, 3, 7, 8, 21, 22, 23], [(5, 0), (9, 0)]), ([1, 3, 7, 8], [(5, 0), (9, 0)]), i_Field_reduce_l3_D⟩
noncomputable def i_Field_reduce_l15_mk (h15_0_0 : Int) (h15_0_1 : Nat) (h15_0_2 : Int) (h15_0_3 : Int) (h15_0_4 : Int) (h15_0_5 : Int) (h15_0_7 : (Int × (Int × Unit))) (h15_0_9 : Int) : (Int × (List (List Int))) → St := fun x => stOf [(3, (.ptr (5, 0) [])), (7, (.ref (9, 0) [])), (8, (.imm true (.int .i64) h15_0_0)), (11, (.ptr (13, 0) [])), (13, (.ref (9, 0) [.idx h15_0_1])), (14, (.imm true (.int .i64) h15_0_2)), (33, (.imm true (.int .i64) h15_0_3)), (34, (.imm true (.int .i64) h15_0_4)), (76, (.imm true (.int .i64) h15_0_5)), (77, (.imm true (.int .i64) x.1))] [((5, 0), some ⟨true, kField, .own, h15_0_7⟩), ((9, 0), some ⟨false, (.sl (.sl (.int .i64))), .own, x.2⟩), ((13, 0), some ⟨true, (.int .i64), .own, h15_0_9⟩)]
noncomputable def i_Field_reduce_l15_out (h15_0_0 : Int) (h15_0_1 : Nat) (_h15_0_2 : Int) (h15_0_3 : Int) (h15_0_4 : Int) (_h15_0_5 : Int) (h15_0_7 : (Int × (Int × Unit))) (h15_0_9 : Int) : (List (List Int)) → Ex × St := fun x => (.exit 4, stOf [(3, (.ptr (5, 0) [])), (7, (.ref (9, 0) [])), (8, (.imm true (.int .i64) h15_0_0)), (11, (.ptr (13, 0) [])), (13, (.ref (9, 0) [.idx h15_0_1])), (33, (.imm true (.int .i64) h15_0_3)), (34, (.imm true (.int .i64) h15_0_4))] [((5, 0), some ⟨true, kField, .own, h15_0_7⟩), ((9, 0), some ⟨false, (.sl (.sl (.int .i64))), .own, x⟩), ((13, 0), some ⟨true, (.int .i64), .own, h15_0_9⟩)])
noncomputable def i_Field_reduce_l15_D (s : St) : Tre (Ex × St) :=
 asPtr (5, 0) [] (s.tmps 3) <|
 asRef (9, 0) [] (s.tmps 7) <|
 asImmZ true (.int .i64) (s.tmps 8) fun d4 =>
 asPtr (13, 0) [] (s.tmps 11) <|
 asRef1 (9, 0) [.idx 0] (s.tmps 13) fun i7 =>
 asImmZ true (.int .i64) (s.tmps 14) fun d9 =>
 asImmZ true (.int .i64) (s.tmps 33) fun d11 =>
 asImmZ true (.int .i64) (s.tmps 34) fun d13 =>
 asImmZ true (.int .i64) (s.tmps 76) fun d15 =>
 asImmZ true (.int .i64) (s.tmps 77) fun d17 =>
 asRoot true kField (s.roots (5, 0)) fun m19 d20 =>
 asM .own m19 <|
 asRoot false (.sl (.sl (.int .i64))) (s.roots (9, 0)) fun m22 d23 =>
 asM .own m22 <|
 asRoot true (.int .i64) (s.roots (13, 0)) fun m25 d26 =>
 asM .own m25 <|
 .mat (loopF (i_Field_reduce_l15 i7 d9 d15 d20) (d17, d23)) fun x => .ret (i_Field_reduce_l15_out d4 i7 d9 d11 d13 d15 d20 d26 x)
noncomputable def i_Field_reduce_l15_L : LoopI := ⟨([3, 7, 8, 11, 13, 14, 33, 34, 76, 77], [(5, 0), (9, 0), (13, 0)]), ([3, 7, 8, 11, 13, 33, 34], [(5, 0), (9, 0), (13, 0)]), i_Field_reduce_l15_D⟩
noncomputable def i_Field_reduce_l25_mk (h25_0_0 : Int) (h25_0_1 : Nat) (h25_0_2 : Nat) (h25_0_3 : Int) (h25_0_4 : Int) (h25_0_5 : Int) (h25_0_6 : Int) (h25_0_7 : Int) (h25_0_8 : Int) (h25_0_10 : (Int × (Int × Unit))) (h25_0_12 : Int) : (Int × (List (List Int))) → St := fun x => stOf [(3, (.ptr (5, 0) [])), (7, (.ref (9, 0) [])), (8, (.imm true (.int .i64) h25_0_0)), (11, (.ptr (13, 0) [])), (13, (.ref (9, 0) [.idx h25_0_1])), (17, (.ref (9, 0) [.idx h25_0_2])), (18, (.imm true (.int .i64) h25_0_3)), (33, (.imm true (.int .i64) h25_0_4)), (34, (.imm true (.int .i64) h25_0_5)), (91, (.ref (9, 0) [])), (92, (.imm true (.int .i64) h25_0_6)), (93, (.imm true (.int .i64) h25_0_7)), (110, (.imm true (.int .i64) h25_0_8)), (111, (.imm true (.int .i64) x.1))] [((5, 0), some ⟨true, kField, .own, h25_0_10⟩), ((9, 0), some ⟨false, (.sl (.sl (.int .i64))), .own, x.2⟩), ((13, 0), some ⟨true, (.int .i64), .own, h25_0_12⟩)]
noncomputable def i_Field_reduce_l25_out (h25_0_0 : Int) (h25_0_1 : Nat) (_h25_0_2 : Nat) (_h25_0_3 : Int) (h25_0_4 : Int) (h25_0_5 : Int) (h25_0_6 : Int) (h25_0_7 : Int) (_h25_0_8 : Int) (h25_0_10 : (Int × (Int × Unit))) (h25_0_12 : Int) : (List (List Int)) → Ex × St := fun x => (.exit 8, stOf [(3, (.ptr (5, 0) [])), (7, (.ref (9, 0) [])), (8, (.imm true (.int .i64) h25_0_0)), (11, (.ptr (13, 0) [])), (13, (.ref (9, 0) [.idx h25_0_1])), (33, (.imm true (.int .i64) h25_0_4)), (34, (.imm true (.int .i64) h25_0_5)), (91, (.ref (9, 0) [])), (92, (.imm true (.int .i64) h25_0_6)), (93, (.imm true (.int .i64) h25_0_7))] [((5, 0), some ⟨true, kField, .own, h25_0_10⟩), ((9, 0), some ⟨false, (.sl (.sl (.int .i64))), .own, x⟩), ((13, 0), some ⟨true, (.int .i64), .own, h25_0_12⟩)])
noncomputable def i_Field_reduce_l25_D (s : St) : Tre (Ex × St) :=
 asPtr (5, 0) [] (s.tmps 3) <|
 asRef (9, 0) [] (s.tmps 7) <|
 asImmZ true (.int .i64) (s.tmps 8) fun d4 =>
 asPtr (13, 0) [] (s.tmps 11) <|
 asRef1 (9, 0) [.idx 0] (s.tmps 13) fun i7 =>
 asRef1 (9, 0) [.idx 0] (s.tmps 17) fun i9 =>
 asImmZ true (.int .i64) (s.tmps 18) fun d11 =>
 asImmZ true (.int .i64) (s.tmps 33) fun d13 =>
 asImmZ true (.int .i64) (s.tmps 34) fun d15 =>
 asRef (9, 0) [] (s.tmps 91) <|
 asImmZ true (.int .i64) (s.tmps 92) fun d18 =>
 asImmZ true (.int .i64) (s.tmps 93) fun d20 =>
 asImmZ true (.int .i64) (s.tmps 110) fun d22 =>
 asImmZ true (.int .i64) (s.tmps 111) fun d24 =>
 asRoot true kField (s.roots (5, 0)) fun m26 d27 =>
 asM .own m26 <|
 asRoot false (.sl (.sl (.int .i64))) (s.roots (9, 0)) fun m29 d30 =>
 asM .own m29 <|
 asRoot true (.int .i64) (s.roots (13, 0)) fun m32 d33 =>
 asM .own m32 <|
 .mat (loopF (i_Field_reduce_l25 i7 i9 d11 d22 d27) (d24, d30)) fun x => .ret (i_Field_reduce_l25_out d4 i7 i9 d11 d13 d15 d18 d20 d22 d27 d33 x)
noncomputable def i_Field_reduce_l25_L : LoopI := ⟨([3, 7, 8, 11, 13, 17, 18, 33, 34, 91, 92, 93, 110, 111], [(5, 0), (9, 0), (13, 0)]), ([3, 7, 8, 11, 13, 33, 34, 91, 92, 93], [(5, 0), (9, 0), (13, 0)]), i_Field_reduce_l25_D⟩
noncomputable def i_Field_reduce_l20_mk (h20_0_0 : Int) (h20_0_1 : Nat) (h20_0_2 : Int) (h20_0_3 : Int) (h20_0_4 : Int) (h20_0_6 : (Int × (Int × Unit))) (h20_0_8 : Int) : (Int × (List (List Int))) → St := fun x => stOf [(3, (.ptr (5, 0) [])), (7, (.ref (9, 0) [])), (8, (.imm true (.int .i64) h20_0_0)), (11, (.ptr (13, 0) [])), (13, (.ref (9, 0) [.idx h20_0_1])), (33, (.imm true (.int .i64) h20_0_2)), (34, (.imm true (.int .i64) h20_0_3)), (91, (.ref (9, 0) [])), (92, (.imm true (.int .i64) h20_0_4)), (93, (.imm true (.int .i64) x.1))] [((5, 0), some ⟨true, kField, .own, h20_0_6⟩), ((9, 0), some ⟨false, (.sl (.sl (.int .i64))), .own, x.2⟩), ((13, 0), some ⟨true, (.int .i64), .own, h20_0_8⟩)]
noncomputable def i_Field_reduce_l20_out (h20_0_0 : Int) (_h20_0_1 : Nat) (h20_0_2 : Int) (h20_0_3 : Int) (_h20_0_4 : Int) (h20_0_6 : (Int × (Int × Unit))) (_h20_0_8 : Int) : (List (List Int)) → Ex × St := fun x => (.exit 6, stOf [(3, (.ptr (5, 0) [])), (7, (.ref (9, 0) [])), (8, (.imm true (.int .i64) h20_0_0)), (33, (.imm true (.int .i64) h20_0_2)), (34, (.imm true (.int .i64) h20_0_3))] [((5, 0), some ⟨true, kField, .own, h20_0_6⟩), ((9, 0), some ⟨false, (.sl (.sl (.int .i64))), .own, x⟩)])
noncomputable def i_Field_reduce_l20_D (s : St) : Tre (Ex × St) :=
 asPtr (5, 0) [] (s.tmps 3) <|
 asRef (9, 0) [] (s.tmps 7) <|
 asImmZ true (.int .i64) (s.tmps 8) fun d4 =>
 asPtr (13, 0) [] (s.tmps 11) <|
 asRef1 (9, 0) [.idx 0] (s.tmps 13) fun i7 =>
 asImmZ true (.int .i64) (s.tmps 33) fun d9 =>
 asImmZ true (.int .i64) (s.tmps 34) fun d11 =>
 asRef (9, 0) [] (s.tmps 91) <|
 asImmZ true (.int .i64) (s.tmps 92) fun d14 =>
 asImmZ true (.int .i64) (s.tmps 93) fun d16 =>
 asRoot true kField (s.roots (5, 0)) fun m18 d19 =>
 asM .own m18 <|
 asRoot false (.sl (.sl (.int .i64))) (s.roots (9, 0)) fun m21 d22 =>
 asM .own m21 <|
 asRoot true (.int .i64) (s.roots (13, 0)) fun m24 d25 =>
 asM .own m24 <|
 .mat (loopF (i_Field_reduce_l20 d4 i7 d14 d19 d25) (d16, d22)) fun x => .ret (i_Field_reduce_l20_out d4 i7 d9 d11 d14 d19 d25 x)
noncomputable def i_Field_reduce_l20_L : LoopI := ⟨([3, 7, 8, 11, 13, 33, 34, 91, 92, 93], [(5, 0), (9, 0), (13, 0)]), ([3, 7, 8, 33, 34], [(5, 0), (9, 0)]), i_Field_reduce_l20_D⟩
noncomputable def i_Field_reduce_l8_mk (h8_0_1 : Int) (h8_0_3 : (Int × (Int × Unit))) : (Int × Int × (List (List Int))) → St := fun x => stOf [(3, (.ptr (5, 0) [])), (7, (.ref (9, 0) [])), (8, (.imm true (.int .i64) x.1)), (33, (.imm true (.int .i64) h8_0_1)), (34, (.imm true (.int .i64) x.2.1))] [((5, 0), some ⟨true, kField, .own, h8_0_3⟩), ((9, 0), some ⟨false, (.sl (.sl (.int .i64))), .own, x.2.2⟩)]
noncomputable def i_Field_reduce_l8_out (_h8_0_1 : Int) (_h8_0_3 : (Int × (Int × Unit))) : (Int × (List (List Int))) → Ex × St := fun x => (.exit 2, stOf [(7, (.ref (9, 0) [])), (8, (.imm true (.int .i64) x.1))] [((9, 0), some ⟨false, (.sl (.sl (.int .i64))), .own, x.2⟩)])
noncomputable def i_Field_reduce_l8_D (s : St) : Tre (Ex × St) :=
 asPtr (5, 0) [] (s.tmps 3) <|
 asRef (9, 0) [] (s.tmps 7) <|
 asImmZ true (.int .i64) (s.tmps 8) fun d4 =>
 asImmZ true (.int .i64) (s.tmps 33) fun d6 =>
 asImmZ true (.int .i64) (s.tmps 34) fun d8 =>
 asRoot true kField (s.roots (5, 0)) fun m10 d11 =>
 asM .own m10 <|
 asRoot false (.sl (.sl (.int .i64))) (s.roots (9, 0)) fun m13 d14 =>
 asM .own m13 <|
 .mat (loopF (i_Field_reduce_l8 d6 d11) (d4, d8, d14)) fun x => .ret (i_Field_reduce_l8_out d6 d11 x)
noncomputable def i_Field_reduce_l8_L : LoopI := ⟨([3, 7, 8, 33, 34], [(5, 0), (9, 0)]), ([7, 8], [(9, 0)]), i_Field_reduce_l8_D⟩
noncomputable def i_Field_reduce_A : List (Nat × LoopI) := [(3, i_Field_reduce_l3_L), (15, i_Field_reduce_l15_L), (25, i_Field_reduce_l25_L), (20, i_Field_reduce_l20_L), (8, i_Field_reduce_l8_L)]
set_option maxRecDepth 100000 in
theorem i_Field_reduce_l3_step : ∀ (z3_0 : Bool) (h3_0_0 : Int) (h3_0_1 : Int) (h3_0_2 : (List (List Int))) (h3_0_3 : Int) (h3_0_5 : (Int × (Int × Unit))) (x : (Int × (List (List Int)))) (c : St → Option (Ex × St)), den i_Field_reduce_V i_Field_reduce_A (loopAt i_Field_reduce_b 0) (i_Field_reduce_l3_mk z3_0 h3_0_0 h3_0_1 h3_0_2 h3_0_3 h3_0_5 x) (roundK i_Field_reduce_l3_L.kp i_Field_reduce_l3_L.kx c) = (i_Field_reduce_l3 h3_0_2 h3_0_3 x).run (roundR (i_Field_reduce_l3_mk z3_0 h3_0_0 h3_0_1 h3_0_2 h3_0_3 h3_0_5) (i_Field_reduce_l3_out z3_0 h3_0_0 h3_0_1 h3_0_2 h3_0_3 h3_0_5) c) := fun _ _ _ _ _ _ _ _ => by
 kernel_rfl
theorem i_Field_reduce_l3_ok : LoopOK i_Field_reduce_V i_Field_reduce_A (loopAt i_Field_reduce_b 0) i_Field_reduce_l3_L := loopOK_of fun s e s' h => by
 generalize hs : restrict i_Field_reduce_l3_L.kp s = s1 at h
 have h : (i_Field_reduce_l3_D s1).run some = some (e, s') := h
 obtain ⟨d2, e1, h_0⟩ := asImmZ_spec h
 obtain ⟨e3, h_1⟩ := asPtr_spec h_0
 obtain ⟨e4, h_2⟩ := asRef_spec h_1
 obtain ⟨d6, e5, h_3⟩ := asImmZ_spec h_2
 obtain ⟨z9, d8, e7, h_4⟩ := asImm_spec h_3
 obtain ⟨d11, e10, h_5⟩ := asImmZ_spec h_4
 obtain ⟨d13, e12, h_6⟩ := asImmZ_spec h_5
 obtain ⟨m15, d16, e14, h_7⟩ := asRoot_spec h_6
 obtain ⟨rfl, h_8⟩ := asM_spec h_7
 obtain ⟨m18, d19, e17, h_9⟩ := asRoot_spec h_8
 obtain ⟨rfl, h_10⟩ := asM_spec h_9
 obtain ⟨y, hy, hz⟩ := mat_ret h_10
 refine ⟨_, _, i_Field_reduce_l3_mk z9 d2 d6 d8 d11 d16, i_Field_reduce_l3_out z9 d2 d6 d8 d11 d16, i_Field_reduce_l3 d8 d11, (d13, d19), y, ?_, hy, ?_, i_Field_reduce_l3_step z9 d2 d6 d8 d11 d16⟩
 ·subst hs; exact restrict_eq (T := [(1, (.imm true (.int .i64) d2)), (3, (.ptr (5, 0) [])), (7, (.ref (9, 0) [])), (8, (.imm true (.int .i64) d6)), (21, (.imm z9 (.sl (.sl (.int .i64))) d8)), (22, (.imm true (.int .i64) d11)), (23, (.imm true (.int .i64) d13))]) (U := [((5, 0), some ⟨true, kField, .own, d16⟩), ((9, 0), some ⟨false, (.sl (.sl (.int .i64))), .own, d19⟩)]) rfl rfl ⟨e1, e3, e4, e5, e7, e10, e12, trivial⟩ ⟨e14, e17, trivial⟩
 ·exact Option.some.inj hz
set_option maxRecDepth 100000 in
theorem i_Field_reduce_l15_step : ∀ (h15_0_0 : Int) (h15_0_1 : Nat) (h15_0_2 : Int) (h15_0_3 : Int) (h15_0_4 : Int) (h15_0_5 : Int) (h15_0_7 : (Int × (Int × Unit))) (h15_0_9 : Int) (x : (Int × (List (List Int)))) (c : St → Option (Ex × St)), den i_Field_reduce_V i_Field_reduce_A (loopAt i_Field_reduce_b 2) (i_Field_reduce_l15_mk h15_0_0 h15_0_1 h15_0_2 h15_0_3 h15_0_4 h15_0_5 h15_0_7 h15_0_9 x) (roundK i_Field_reduce_l15_L.kp i_Field_reduce_l15_L.kx c) = (i_Field_reduce_l15 h15_0_1 h15_0_2 h15_0_5 h15_0_7 x).run (roundR (i_Field_reduce_l15_mk h15_0_0 h15_0_1 h15_0_2 h15_0_3 h15_0_4 h15_0_5 h15_0_7 h15_0_9) (i_Field_reduce_l15_out h15_0_0 h15_0_1 h15_0_2 h15_0_3 h15_0_4 h15_0_5 h15_0_7 h15_0_9) c) := fun _ _ _ _ _ _ _ _ _ _ => by
 kernel_rfl
theorem i_Field_reduce_l15_ok : LoopOK i_Field_reduce_V i_Field_reduce_A (loopAt i_Field_reduce_b 2) i_Field_reduce_l15_L := loopOK_of fun s e s' h => by
 generalize hs : restrict i_Field_reduce_l15_L.kp s = s1 at h
 have h : (i_Field_reduce_l15_D s1).run some = some (e, s') := h
 obtain ⟨e1, h_0⟩ := asPtr_spec h
 obtain ⟨e2, h_1⟩ := asRef_spec h_0
 obtain ⟨d4, e3, h_2⟩ := asImmZ_spec h_1
 obtain ⟨e5, h_3⟩ := asPtr_spec h_2
 obtain ⟨i7, e6, h_4⟩ := asRef1_spec h_3
 obtain ⟨d9, e8, h_5⟩ := asImmZ_spec h_4
 obtain ⟨d11, e10, h_6⟩ := asImmZ_spec h_5
 obtain ⟨d13, e12, h_7⟩ := asImmZ_spec h_6
 obtain ⟨d15, e14, h_8⟩ := asImmZ_spec h_7
 obtain ⟨d17, e16, h_9⟩ := asImmZ_spec h_8
 obtain ⟨m19, d20, e18, h_10⟩ := asRoot_spec h_9
 obtain ⟨rfl, h_11⟩ := asM_spec h_10
 obtain ⟨m22, d23, e21, h_12⟩ := asRoot_spec h_11
 obtain ⟨rfl, h_13⟩ := asM_spec h_12
 obtain ⟨m25, d26, e24, h_14⟩ := asRoot_spec h_13
 obtain ⟨rfl, h_15⟩ := asM_spec h_14
 obtain ⟨y, hy, hz⟩ := mat_ret h_15
 refine ⟨_, _, i_Field_reduce_l15_mk d4 i7 d9 d11 d13 d15 d20 d26, i_Field_reduce_l15_out d4 i7 d9 d11 d13 d15 d20 d26, i_Field_reduce_l15 i7 d9 d15 d20, (d17, d23), y, ?_, hy, ?_, i_Field_reduce_l15_step d4 i7 d9 d11 d13 d15 d20 d26⟩
 ·subst hs; exact restrict_eq (T := [(3, (.ptr (5, 0) [])), (7, (.ref (9, 0) [])), (8, (.imm true (.int .i64) d4)), (11, (.ptr (13, 0) [])), (13, (.ref (9, 0) [.idx i7])), (14, (.imm true (.int .i64) d9)), (33, (.imm true (.int .i64) d11)), (34, (.imm true (.int .i64) d13)), (76, (.imm true (.int .i64) d15)), (77, (.imm true (.int .i64) d17))]) (U := [((5, 0), some ⟨true, kField, .own, d20⟩), ((9, 0), some ⟨false, (.sl (.sl (.int .i64))), .own, d23⟩), ((13, 0), some ⟨true, (.int .i64), .own, d26⟩)]) rfl rfl ⟨e1, e2, e3, e5, e6, e8, e10, e12, e14, e16, trivial⟩ ⟨e18, e21, e24, trivial⟩
 ·exact Option.some.inj hz
set_option maxRecDepth 100000 in
theorem i_Field_reduce_l25_step : ∀ (h25_0_0 : Int) (h25_0_1 : Nat) (h25_0_2 : Nat) (h25_0_3 : Int) (h25_0_4 : Int) (h25_0_5 : Int) (h25_0_6 : Int) (h25_0_7 : Int) (h25_0_8 : Int) (h25_0_10 : (Int × (Int × Unit))) (h25_0_12 : Int) (x : (Int × (List (List Int)))) (c : St → Option (Ex × St)), den i_Field_reduce_V i_Field_reduce_A (loopAt i_Field_reduce_b 4) (i_Field_reduce_l25_mk h25_0_0 h25_0_1 h25_0_2 h25_0_3 h25_0_4 h25_0_5 h25_0_6 h25_0_7 h25_0_8 h25_0_10 h25_0_12 x) (roundK i_Field_reduce_l25_L.kp i_Field_reduce_l25_L.kx c) = (i_Field_reduce_l25 h25_0_1 h25_0_2 h25_0_3 h25_0_8 h25_0_10 x).run (roundR (i_Field_reduce_l25_mk h25_0_0 h25_0_1 h25_0_2 h25_0_3 h25_0_4 h25_0_5 h25_0_6 h25_0_7 h25_0_8 h25_0_10 h25_0_12) (i_Field_reduce_l25_out h25_0_0 h25_0_1 h25_0_2 h25_0_3 h25_0_4 h25_0_5 h25_0_6 h25_0_7 h25_0_8 h25_0_10 h25_0_12) c) := fun _ _ _ _ _ _ _ _ _ _ _ _ _ => by
 kernel_rfl
theorem i_Field_reduce_l25_ok : LoopOK i_Field_reduce_V i_Field_reduce_A (loopAt i_Field_reduce_b 4) i_Field_reduce_l25_L := loopOK_of fun s e s' h => by
 generalize hs : restrict i_Field_reduce_l25_L.kp s = s1 at h
 have h : (i_Field_reduce_l25_D s1).run some = some (e, s') := h
 obtain ⟨e1, h_0⟩ := asPtr_spec h
 obtain ⟨e2, h_1⟩ := asRef_spec h_0
 obtain ⟨d4, e3, h_2⟩ := asImmZ_spec h_1
 obtain ⟨e5, h_3⟩ := asPtr_spec h_2
 obtain ⟨i7, e6, h_4⟩ := asRef1_spec h_3
 obtain ⟨i9, e8, h_5⟩ := asRef1_spec h_4
 obtain ⟨d11, e10, h_6⟩ := asImmZ_spec h_5
 obtain ⟨d13, e12, h_7⟩ := asImmZ_spec h_6
 obtain ⟨d15, e14, h_8⟩ := asImmZ_spec h_7
 obtain ⟨e16, h_9⟩ := asRef_spec h_8
 obtain ⟨d18, e17, h_10⟩ := asImmZ_spec h_9
 obtain ⟨d20, e19, h_11⟩ := asImmZ_spec h_10
 obtain ⟨d22, e21, h_12⟩ := asImmZ_spec h_11
 obtain ⟨d24, e23, h_13⟩ := asImmZ_spec h_12
 obtain ⟨m26, d27, e25, h_14⟩ := asRoot_spec h_13
 obtain ⟨rfl, h_15⟩ := asM_spec h_14
 obtain ⟨m29, d30, e28, h_16⟩ := asRoot_spec h_15
 obtain ⟨rfl, h_17⟩ := asM_spec h_16
 obtain ⟨m32, d33, e31, h_18⟩ := asRoot_spec h_17
 obtain ⟨rfl, h_19⟩ := asM_spec h_18
 obtain ⟨y, hy, hz⟩ := mat_ret h_19
 refine ⟨_, _, i_Field_reduce_l25_mk d4 i7 i9 d11 d13 d15 d18 d20 d22 d27 d33, i_Field_reduce_l25_out d4 i7 i9 d11 d13 d15 d18 d20 d22 d27 d33, i_Field_reduce_l25 i7 i9 d11 d22 d27, (d24, d30), y, ?_, hy, ?_, i_Field_reduce_l25_step d4 i7 i9 d11 d13 d15 d18 d20 d22 d27 d33⟩
 ·subst hs; exact restrict_eq (T := [(3, (.ptr (5, 0) [])), (7, (.ref (9, 0) [])), (8, (.imm true (.int .i64) d4)), (11, (.ptr (13, 0) [])), (13, (.ref (9, 0) [.idx i7])), (17, (.ref (9, 0) [.idx i9])), (18, (.imm true (.int .i64) d11)), (33, (.imm true (.int .i64) d13)), (34, (.imm true (.int .i64) d15)), (91, (.ref (9, 0) [])), (92, (.imm true (.int .i64) d18)), (93, (.imm true (.int .i64) d20)), (110, (.imm true (.int .i64) d22)), (111, (.imm true (.int .i64) d24))]) (U := [((5, 0), some ⟨true, kField, .own, d27⟩), ((9, 0), some ⟨false, (.sl (.sl (.int .i64))), .own, d30⟩), ((13, 0), some ⟨true, (.int .i64), .own, d33⟩)]) rfl rfl ⟨e1, e2, e3, e5, e6, e8, e10, e12, e14, e16, e17, e19, e21, e23, trivial⟩ ⟨e25, e28, e31, trivial⟩
 ·exact Option.some.inj hz
set_option maxRecDepth 100000 in
theorem i_Field_reduce_l20_step : ∀ (h20_0_0 : Int) (h20_0_1 : Nat) (h20_0_2 : Int) (h20_0_3 : Int) (h20_0_4 : Int) (h20_0_6 : (Int × (Int × Unit))) (h20_0_8 : Int) (x : (Int × (List (List Int)))) (c : St → Option (Ex × St)), den i_Field_reduce_V i_Field_reduce_A (loopAt i_Field_reduce_b 3) (i_Field_reduce_l20_mk h20_0_0 h20_0_1 h20_0_2 h20_0_3 h20_0_4 h20_0_6 h20_0_8 x) (roundK i_Field_reduce_l20_L.kp i_Field_reduce_l20_L.kx c) = (i_Field_reduce_l20 h20_0_0 h20_0_1 h20_0_4 h20_0_6 h20_0_8 x).run (roundR (i_Field_reduce_l20_mk h20_0_0 h20_0_1 h20_0_2 h20_0_3 h20_0_4 h20_0_6 h20_0_8) (i_Field_reduce_l20_out h20_0_0 h20_0_1 h20_0_2 h20_0_3 h20_0_4 h20_0_6 h20_0_8) c) := fun _ _ _ _ _ _ _ _ _ => by
 kernel_rfl
theorem i_Field_reduce_l20_ok : LoopOK i_Field_reduce_V i_Field_reduce_A (loopAt i_Field_reduce_b 3) i_Field_reduce_l20_L := loopOK_of fun s e s' h => by
 generalize hs : restrict i_Field_reduce_l20_L.kp s = s1 at h
 have h : (i_Field_reduce_l20_D s1).run some = some (e, s') := h
 obtain ⟨e1, h_0⟩ := asPtr_spec h
 obtain ⟨e2, h_1⟩ := asRef_spec h_0
 obtain ⟨d4, e3, h_2⟩ := asImmZ_spec h_1
 obtain ⟨e5, h_3⟩ := asPtr_spec h_2
 obtain ⟨i7, e6, h_4⟩ := asRef1_spec h_3
 obtain ⟨d9, e8, h_5⟩ := asImmZ_spec h_4
 obtain ⟨d11, e10, h_6⟩ := asImmZ_spec h_5
 obtain ⟨e12, h_7⟩ := asRef_spec h_6
 obtain ⟨d14, e13, h_8⟩ := asImmZ_spec h_7
 obtain ⟨d16, e15, h_9⟩ := asImmZ_spec h_8
 obtain ⟨m18, d19, e17, h_10⟩ := asRoot_spec h_9
 obtain ⟨rfl, h_11⟩ := asM_spec h_10
 obtain ⟨m21, d22, e20, h_12⟩ := asRoot_spec h_11
 obtain ⟨rfl, h_13⟩ := asM_spec h_12
 obtain ⟨m24, d25, e23, h_14⟩ := asRoot_spec h_13
 obtain ⟨rfl, h_15⟩ := asM_spec h_14
 obtain ⟨y, hy, hz⟩ := mat_ret h_15
 refine ⟨_, _, i_Field_reduce_l20_mk d4 i7 d9 d11 d14 d19 d25, i_Field_reduce_l20_out d4 i7 d9 d11 d14 d19 d25, i_Field_reduce_l20 d4 i7 d14 d19 d25, (d16, d22), y, ?_, hy, ?_, i_Field_reduce_l20_step d4 i7 d9 d11 d14 d19 d25⟩
 ·subst hs; exact restrict_eq (T := [(3, (.ptr (5, 0) [])), (7, (.ref (9, 0) [])), (8, (.imm true (.int .i64) d4)), (11, (.ptr (13, 0) [])), (13, (.ref (9, 0) [.idx i7])), (33, (.imm true (.int .i64) d9)), (34, (.imm true (.int .i64) d11)), (91, (.ref (9, 0) [])), (92, (.imm true (.int .i64) d14)), (93, (.imm true (.int .i64) d16))]) (U := [((5, 0), some ⟨true, kField, .own, d19⟩), ((9, 0), some ⟨false, (.sl (.sl (.int .i64))), .own, d22⟩), ((13, 0), some ⟨true, (.int .i64), .own, d25⟩)]) rfl rfl ⟨e1, e2, e3, e5, e6, e8, e10, e12, e13, e15, trivial⟩ ⟨e17, e20, e23, trivial⟩
 ·exact Option.some.inj hz
set_option maxRecDepth 100000 in
theorem i_Field_reduce_l8_step : ∀ (h8_0_1 : Int) (h8_0_3 : (Int × (Int × Unit))) (x : (Int × Int × (List (List Int)))) (c : St → Option (Ex × St)), den i_Field_reduce_V i_Field_reduce_A (loopAt i_Field_reduce_b 1) (i_Field_reduce_l8_mk h8_0_1 h8_0_3 x) (roundK i_Field_reduce_l8_L.kp i_Field_reduce_l8_L.kx c) = (i_Field_reduce_l8 h8_0_1 h8_0_3 x).run (roundR (i_Field_reduce_l8_mk h8_0_1 h8_0_3) (i_Field_reduce_l8_out h8_0_1 h8_0_3) c) := fun _ _ _ _ => by
 kernel_rfl
theorem i_Field_reduce_l8_ok : LoopOK i_Field_reduce_V i_Field_reduce_A (loopAt i_Field_reduce_b 1) i_Field_reduce_l8_L := loopOK_of fun s e s' h => by
 generalize hs : restrict i_Field_reduce_l8_L.kp s = s1 at h
 have h : (i_Field_reduce_l8_D s1).run some = some (e, s') := h
 obtain ⟨e1, h_0⟩ := asPtr_spec h
 obtain ⟨e2, h_1⟩ := asRef_spec h_0
 obtain ⟨d4, e3, h_2⟩ := asImmZ_spec h_1
 obtain ⟨d6, e5, h_3⟩ := asImmZ_spec h_2
 obtain ⟨d8, e7, h_4⟩ := asImmZ_spec h_3
 obtain ⟨m10, d11, e9, h_5⟩ := asRoot_spec h_4
 obtain ⟨rfl, h_6⟩ := asM_spec h_5
 obtain ⟨m13, d14, e12, h_7⟩ := asRoot_spec h_6
 obtain ⟨rfl, h_8⟩ := asM_spec h_7
 obtain ⟨y, hy, hz⟩ := mat_ret h_8
 refine ⟨_, _, i_Field_reduce_l8_mk d6 d11, i_Field_reduce_l8_out d6 d11, i_Field_reduce_l8 d6 d11, (d4, d8, d14), y, ?_, hy, ?_, i_Field_reduce_l8_step d6 d11⟩
 ·subst hs; exact restrict_eq (T := [(3, (.ptr (5, 0) [])), (7, (.ref (9, 0) [])), (8, (.imm true (.int .i64) d4)), (33, (.imm true (.int .i64) d6)), (34, (.imm true (.int .i64) d8))]) (U := [((5, 0), some ⟨true, kField, .own, d11⟩), ((9, 0), some ⟨false, (.sl (.sl (.int .i64))), .own, d14⟩)]) rfl rfl ⟨e1, e2, e3, e5, e7, trivial⟩ ⟨e9, e12, trivial⟩
 ·exact Option.some.inj hz
noncomputable def i_Field_reduce_I : FnI := ⟨i_Field_reduce_b, Try.f88.results.toList, Try.f88.resultTypes.toList, i_Field_reduce_A⟩
noncomputable def i_Field_reduce_out (_zp0 : Bool) (_p0 : (Int × (Int × Unit))) (_p1 : Int) (_p2 : (List (List Int))) : (List (List Int)) → CallOut := fun r => ⟨(.ref (1, 0) []), [], [⟨false, (.sl (.sl (.int .i64))), .own, r⟩]⟩
set_option maxRecDepth 100000 in
theorem i_Field_reduce_eq : ∀ (zp0 : Bool) (p0 : (Int × (Int × Unit))) (p1 : Int) (p2 : (List (List Int))), denFn i_Field_reduce_V i_Field_reduce_I ⟨[(.imm true kField p0), (.imm true (.int .i64) p1), (.imm zp0 (.sl (.sl (.int .i64))) p2)], []⟩ = (i_Field_reduce p0 p1 p2).run fun r => some (i_Field_reduce_out zp0 p0 p1 p2 r) := fun _ _ _ _ => by kernel_rfl
noncomputable def i_Field_reduce_G (av : List AV) (rs : List Root) : Tre CallOut :=
 asCons av fun a0_ av0 =>
 asCons av0 fun a1_ av1 =>
 asCons av1 fun a2_ av2 =>
 asEnd av2 <|
 asEnd rs <|
 asImmZ true kField a0_ fun d1 =>
 asImmZ true (.int .i64) a1_ fun d2 =>
 asImm (.sl (.sl (.int .i64))) a2_ fun z4 d3 =>
 .mat (i_Field_reduce_F d1 d2 d3) fun r => .ret (i_Field_reduce_out z4 d1 d2 d3 r)
noncomputable def i_Field_reduce_c : Ctr := ⟨[], fun ci => i_Field_reduce_G ci.args ci.roots, false⟩
theorem i_Field_reduce_env : EnvOK Try.prog .none i_Field_reduce_V := (envOK_cons slices_Clone_int64_ok ent36 (envOK_cons slices_IndexFunc_int64_i_Field_reducec1_ok ent119 (envOK_cons i_Field_inverse_ok ent121 (envOK_cons i_Field_mul_ok ent122 envOK_nil))))
set_option maxRecDepth 100000 in
theorem i_Field_reduce_ok : Contract Try.prog .none 88 i_Field_reduce_c := by
 have hl : LoopsOK i_Field_reduce_V i_Field_reduce_A i_Field_reduce_b := (loopsOK_all (n := 5) (by kernel_rfl) fun k hk => by
   match k, hk with
   | 0, _ => exact loopOK_at (id := 3) (L := i_Field_reduce_l3_L) (by kernel_rfl) (by kernel_rfl) i_Field_reduce_l3_ok
   | 1, _ => exact loopOK_at (id := 8) (L := i_Field_reduce_l8_L) (by kernel_rfl) (by kernel_rfl) i_Field_reduce_l8_ok
   | 2, _ => exact loopOK_at (id := 15) (L := i_Field_reduce_l15_L) (by kernel_rfl) (by kernel_rfl) i_Field_reduce_l15_ok
   | 3, _ => exact loopOK_at (id := 20) (L := i_Field_reduce_l20_L) (by kernel_rfl) (by kernel_rfl) i_Field_reduce_l20_ok
   | 4, _ => exact loopOK_at (id := 25) (L := i_Field_reduce_l25_L) (by kernel_rfl) (by kernel_rfl) i_Field_reduce_l25_ok)
 refine (contract_of (F := i_Field_reduce_I) tau_tys i_Field_reduce_env Try.func88 (by kernel_rfl) (by kernel_rfl) (by kernel_rfl) hl []).weaken ?_
 rintro ⟨av, rs⟩ co h
 have h : (i_Field_reduce_G av rs).run some = some co := h
 obtain ⟨a0_, av0, rfl, h_0⟩ := asCons_spec h
 obtain ⟨a1_, av1, rfl, h_1⟩ := asCons_spec h_0
 obtain ⟨a2_, av2, rfl, h_2⟩ := asCons_spec h_1
 obtain ⟨rfl, h_3⟩ := asEnd_spec h_2
 obtain ⟨rfl, h_4⟩ := asEnd_spec h_3
 obtain ⟨d1, rfl, h_5⟩ := asImmZ_spec h_4
 obtain ⟨d2, rfl, h_6⟩ := asImmZ_spec h_5
 obtain ⟨z4, d3, rfl, h_7⟩ := asImm_spec h_6
 exact fin_mat (i_Field_reduce_eq z4 d1 d2 d3) h_7
end Go.Proofs.Ytohnlghdhbignaa

namespace Go.Proofs.Ytohnlghdhbignaa
open Go Go.Abs Go.Proofs
noncomputable def i_size_int64S (p0 : (List (List Int))) : Tre Int :=
 .ret (p0.length : Int)
noncomputable def i_size_int64S_F (p0 : (List (List Int))) : Option Int := (i_size_int64S p0).run some
theorem i_size_int64S_spec (p0 : (List (List Int))) : i_size_int64S_F p0 = some (p0.length : Int) := rfl
noncomputable def i_size_int64S_V : Env := ⟨tau, [], []⟩
noncomputable def i_size_int64S_b : Code := (Try.f87.body).getD .skip
noncomputable def i_size_int64S_I : FnI := ⟨i_size_int64S_b, Try.f87.results.toList, Try.f87.resultTypes.toList, []⟩
noncomputable def i_size_int64S_out (_zp0 : Bool) (_p0 : (List (List Int))) : Int → CallOut := fun r => ⟨(.imm true (.int .i64) r), [], []⟩
set_option maxRecDepth 100000 in
theorem i_size_int64S_eq : ∀ (zp0 : Bool) (p0 : (List (List Int))), denFn i_size_int64S_V i_size_int64S_I ⟨[(.imm zp0 (.sl (.sl (.int .i64))) p0)], []⟩ = (i_size_int64S p0).run fun r => some (i_size_int64S_out zp0 p0 r) := fun _ _ => by kernel_rfl
noncomputable def i_size_int64S_G (av : List AV) (rs : List Root) : Tre CallOut :=
 asCons av fun a0_ av0 =>
 asEnd av0 <|
 asEnd rs <|
 asImm (.sl (.sl (.int .i64))) a0_ fun z2 d1 =>
 .ret (i_size_int64S_out z2 d1 (d1.length : Int))
noncomputable def i_size_int64S_c : Ctr := ⟨[], fun ci => i_size_int64S_G ci.args ci.roots, false⟩
theorem i_size_int64S_env : EnvOK Try.prog .none i_size_int64S_V := envOK_nil
set_option maxRecDepth 100000 in
theorem i_size_int64S_ok : Contract Try.prog .none 87 i_size_int64S_c := by
 have hl : LoopsOK i_size_int64S_V [] i_size_int64S_b := loopsOK_nil (by kernel_rfl)
 refine (contract_of (F := i_size_int64S_I) tau_tys i_size_int64S_env Try.func87 (by kernel_rfl) (by kernel_rfl) (by kernel_rfl) hl []).weaken ?_
 rintro ⟨av, rs⟩ co h
 have h : (i_size_int64S_G av rs).run some = some co := h
 obtain ⟨a0_, av0, rfl, h_0⟩ := asCons_spec h
 obtain ⟨rfl, h_1⟩ := asEnd_spec h_0
 obtain ⟨rfl, h_2⟩ := asEnd_spec h_1
 obtain ⟨z2, d1, rfl, h_3⟩ := asImm_spec h_2
 exact fin_ret (i_size_int64S_eq z2 d1) (i_size_int64S_spec d1) h_3
end Go.Proofs.Ytohnlghdhbignaa

namespace Go.Proofs.Ytohnlghdhbignaa
open Go Go.Abs Go.Proofs
noncomputable def i_Net_rank (p0 : TNet) (p1 : Int) : Tre Int :=
 .mat (i_Net_rows_F p0 p1) fun r1 =>
 .alt r1
  (fun a2 =>
   .mat (i_Field_reduce_F p0.1 p0.2.2.1 a2) fun r4 =>
   .ret (r4.length : Int))
  (fun b3 =>
   .mat (i_Field_reduce_F p0.1 p0.2.2.1 b3) fun r5 =>
   .ret (r5.length : Int))
noncomputable def i_Net_rank_F (p0 : TNet) (p1 : Int) : Option Int := (i_Net_rank p0 p1).run some
-- more
theorem irank_is {n : TN6} (h : NetP n) (node : Int) : i_Net_rank_F n node = some ((echV n.1 (messN n) (rowsV n node)).length : Int) := by
 have hl := rowsV_len h node
 obtain ⟨hm1, hm2, hm3⟩ := mess_ok h
 have hr := ired_is h.field (n := messN n) (by omega) (rowsV_GR h node) (by omega)
 rw [← hm1] at hr
 unfold i_Net_rank_F i_Net_rank
 rw [run_some_mat (irows_is h node)]
 by_cases h0 : node = 0
 ·rw [if_pos h0, Tre.run_inl, run_some_mat hr]; rfl
 ·rw [if_neg h0, Tre.run_inr, run_some_mat hr]; rfl
noncomputable def i_Net_rank_V : Env := ⟨tau, [(89, i_Net_rows_c), (88, i_Field_reduce_c), (87, i_size_int64S_c)], []⟩
noncomputable def i_Net_rank_b : Code := (Try.f48.body).getD .skip
noncomputable def i_Net_rank_I : FnI := ⟨i_Net_rank_b, Try.f48.results.toList, Try.f48.resultTypes.toList, []⟩
noncomputable def i_Net_rank_out (_zp0 : Bool) (_p0 : TNet) (_p1 : Int) : Int → CallOut := fun r => ⟨(.imm true (.int .i64) r), [], []⟩
set_option maxRecDepth 100000 in
theorem i_Net_rank_eq : ∀ (zp0 : Bool) (p0 : TNet) (p1 : Int), denFn i_Net_rank_V i_Net_rank_I ⟨[(.imm zp0 kNet p0), (.imm true (.int .i64) p1)], []⟩ = (i_Net_rank p0 p1).run fun r => some (i_Net_rank_out zp0 p0 p1 r) := fun _ _ _ => by kernel_rfl
noncomputable def i_Net_rank_G (av : List AV) (rs : List Root) : Tre CallOut :=
 asCons av fun a0_ av0 =>
 asCons av0 fun a1_ av1 =>
 asEnd av1 <|
 asEnd rs <|
 asImm kNet a0_ fun z2 d1 =>
 asImmZ true (.int .i64) a1_ fun d3 =>
 .mat (i_Net_rank_F d1 d3) fun r => .ret (i_Net_rank_out z2 d1 d3 r)
noncomputable def i_Net_rank_c : Ctr := ⟨[], fun ci => i_Net_rank_G ci.args ci.roots, false⟩
theorem i_Net_rank_env : EnvOK Try.prog .none i_Net_rank_V := (envOK_cons i_Net_rows_ok ent89 (envOK_cons i_Field_reduce_ok ent88 (envOK_cons i_size_int64S_ok ent87 envOK_nil)))
set_option maxRecDepth 100000 in
theorem i_Net_rank_ok : Contract Try.prog .none 48 i_Net_rank_c := by
 have hl : LoopsOK i_Net_rank_V [] i_Net_rank_b := loopsOK_nil (by kernel_rfl)
 refine (contract_of (F := i_Net_rank_I) tau_tys i_Net_rank_env Try.func48 (by kernel_rfl) (by kernel_rfl) (by kernel_rfl) hl []).weaken ?_
 rintro ⟨av, rs⟩ co h
 have h : (i_Net_rank_G av rs).run some = some co := h
 obtain ⟨a0_, av0, rfl, h_0⟩ := asCons_spec h
 obtain ⟨a1_, av1, rfl, h_1⟩ := asCons_spec h_0
 obtain ⟨rfl, h_2⟩ := asEnd_spec h_1
 obtain ⟨rfl, h_3⟩ := asEnd_spec h_2
 obtain ⟨z2, d1, rfl, h_4⟩ := asImm_spec h_3
 obtain ⟨d3, rfl, h_5⟩ := asImmZ_spec h_4
 exact fin_mat (i_Net_rank_eq z2 d1 d3) h_5
end Go.Proofs.Ytohnlghdhbignaa

namespace Go.Proofs.Ytohnlghdhbignaa
open Go Go.Abs Go.Proofs
noncomputable def i_RankAt (p0 : TNet) (p1 : Int) : Tre (Int × Int) :=
 .mat (i_nodeCode_i_always_F p0 p1) fun r1 =>
 .cond (!decide (r1 = 0))
  (.ret (0, r1))
  (.mat (i_Net_rank_F p0 p1) fun r2 =>
  .ret (r2, 0))
noncomputable def i_RankAt_F (p0 : TNet) (p1 : Int) : Option (Int × Int) := (i_RankAt p0 p1).run some
-- more
theorem i_RankAt_is (n : TN6) (node : Int) : i_RankAt_F n node = some (rankAtV n node) := by
 unfold i_RankAt_F i_RankAt rankAtV
 rw [run_some_mat (inode_is n node), Tre.run_cond]
 by_cases h0 : nodeC n node 0 = 0
 ·obtain ⟨h, _⟩ := nodeC_net h0
  rw [decide_eq_true h0, Bool.not_true, cond_false, if_pos h0, run_some_mat (irank_is h node)]
  rfl
 ·rw [decide_eq_false h0, if_neg h0]; rfl
noncomputable def i_RankAt_V : Env := ⟨tau, [(46, i_nodeCode_i_always_c), (48, i_Net_rank_c)], []⟩
noncomputable def i_RankAt_b : Code := (Try.f17.body).getD .skip
noncomputable def i_RankAt_I : FnI := ⟨i_RankAt_b, Try.f17.results.toList, Try.f17.resultTypes.toList, []⟩
noncomputable def i_RankAt_out (_zp0 : Bool) (_p0 : TNet) (_p1 : Int) : (Int × Int) → CallOut := fun r => ⟨(.tcons (.imm true (.int .i64) r.1) (.tcons (.imm true (.int .i64) r.2) .tnil)), [], []⟩
set_option maxRecDepth 100000 in
theorem i_RankAt_eq : ∀ (zp0 : Bool) (p0 : TNet) (p1 : Int), denFn i_RankAt_V i_RankAt_I ⟨[(.imm zp0 kNet p0), (.imm true (.int .i64) p1)], []⟩ = (i_RankAt p0 p1).run fun r => some (i_RankAt_out zp0 p0 p1 r) := fun _ _ _ => by kernel_rfl
noncomputable def i_RankAt_G (av : List AV) (rs : List Root) : Tre CallOut :=
 asCons av fun a0_ av0 =>
 asCons av0 fun a1_ av1 =>
 asEnd av1 <|
 asEnd rs <|
 asImm kNet a0_ fun z2 d1 =>
 asImmZ true (.int .i64) a1_ fun d3 =>
 .mat (i_RankAt_F d1 d3) fun r => .ret (i_RankAt_out z2 d1 d3 r)
noncomputable def i_RankAt_c : Ctr := ⟨[], fun ci => i_RankAt_G ci.args ci.roots, false⟩
theorem i_RankAt_env : EnvOK Try.prog .none i_RankAt_V := (envOK_cons i_nodeCode_i_always_ok ent46 (envOK_cons i_Net_rank_ok ent48 envOK_nil))
set_option maxRecDepth 100000 in
theorem i_RankAt_ok : Contract Try.prog .none 17 i_RankAt_c := by
 have hl : LoopsOK i_RankAt_V [] i_RankAt_b := loopsOK_nil (by kernel_rfl)
 refine (contract_of (F := i_RankAt_I) tau_tys i_RankAt_env Try.func17 (by kernel_rfl) (by kernel_rfl) (by kernel_rfl) hl []).weaken ?_
 rintro ⟨av, rs⟩ co h
 have h : (i_RankAt_G av rs).run some = some co := h
 obtain ⟨a0_, av0, rfl, h_0⟩ := asCons_spec h
 obtain ⟨a1_, av1, rfl, h_1⟩ := asCons_spec h_0
 obtain ⟨rfl, h_2⟩ := asEnd_spec h_1
 obtain ⟨rfl, h_3⟩ := asEnd_spec h_2
 obtain ⟨z2, d1, rfl, h_4⟩ := asImm_spec h_3
 obtain ⟨d3, rfl, h_5⟩ := asImmZ_spec h_4
 exact fin_mat (i_RankAt_eq z2 d1 d3) h_5
end Go.Proofs.Ytohnlghdhbignaa

namespace Go.Proofs.Ytohnlghdhbignaa
open Go Go.Abs Go.Proofs
noncomputable def l_eqField (p0 : (Int × (Int × Unit))) (p1 : (Int × (Int × Unit))) : Tre Bool :=
 .cond (!decide (p0.1 = p1.1))
  (.ret false)
  (.cond (!decide (p0.2.1 = p1.2.1))
   (.ret false)
   (.ret true))
noncomputable def l_eqField_F (p0 : (Int × (Int × Unit))) (p1 : (Int × (Int × Unit))) : Option Bool := (l_eqField p0 p1).run some
def l_eqField_S (p0 : (Int × (Int × Unit))) (p1 : (Int × (Int × Unit))) : Bool :=
 cond (!decide (p0.1 = p1.1))
  (false)
  (cond (!decide (p0.2.1 = p1.2.1))
   (false)
   (true))
theorem l_eqField_spec (p0 : (Int × (Int × Unit))) (p1 : (Int × (Int × Unit))) : l_eqField_F p0 p1 = some (l_eqField_S p0 p1) := (run_cond_some rfl (run_cond_some rfl rfl))
noncomputable def l_eqField_V : Env := ⟨tau, [], []⟩
noncomputable def l_eqField_b : Code := (Try.f49.body).getD .skip
noncomputable def l_eqField_I : FnI := ⟨l_eqField_b, Try.f49.results.toList, Try.f49.resultTypes.toList, []⟩
noncomputable def l_eqField_out (_p0 : (Int × (Int × Unit))) (_p1 : (Int × (Int × Unit))) : Bool → CallOut := fun r => ⟨(.imm true .bool r), [], []⟩
set_option maxRecDepth 100000 in
theorem l_eqField_eq : ∀ (p0 : (Int × (Int × Unit))) (p1 : (Int × (Int × Unit))), denFn l_eqField_V l_eqField_I ⟨[(.imm true kField p0), (.imm true kField p1)], []⟩ = (l_eqField p0 p1).run fun r => some (l_eqField_out p0 p1 r) := fun _ _ => by kernel_rfl
noncomputable def l_eqField_G (av : List AV) (rs : List Root) : Tre CallOut :=
 asCons av fun a0_ av0 =>
 asCons av0 fun a1_ av1 =>
 asEnd av1 <|
 asEnd rs <|
 asImmZ true kField a0_ fun d1 =>
 asImmZ true kField a1_ fun d2 =>
 .ret (l_eqField_out d1 d2 (l_eqField_S d1 d2))
noncomputable def l_eqField_c : Ctr := ⟨[], fun ci => l_eqField_G ci.args ci.roots, false⟩
theorem l_eqField_env : EnvOK Try.prog .none l_eqField_V := envOK_nil
set_option maxRecDepth 100000 in
theorem l_eqField_ok : Contract Try.prog .none 49 l_eqField_c := by
 have hl : LoopsOK l_eqField_V [] l_eqField_b := loopsOK_nil (by kernel_rfl)
 refine (contract_of (F := l_eqField_I) tau_tys l_eqField_env Try.func49 (by kernel_rfl) (by kernel_rfl) (by kernel_rfl) hl []).weaken ?_
 rintro ⟨av, rs⟩ co h
 have h : (l_eqField_G av rs).run some = some co := h
 obtain ⟨a0_, av0, rfl, h_0⟩ := asCons_spec h
 obtain ⟨a1_, av1, rfl, h_1⟩ := asCons_spec h_0
 obtain ⟨rfl, h_2⟩ := asEnd_spec h_1
 obtain ⟨rfl, h_3⟩ := asEnd_spec h_2
 obtain ⟨d1, rfl, h_4⟩ := asImmZ_spec h_3
 obtain ⟨d2, rfl, h_5⟩ := asImmZ_spec h_4
 exact fin_ret (l_eqField_eq d1 d2) (l_eqField_spec d1 d2) h_5
end Go.Proofs.Ytohnlghdhbignaa

namespace Go.Proofs.Ytohnlghdhbignaa
open Go Go.Abs Go.Proofs
noncomputable def l_eqInt64S_l4 (h4_0_0 : (List Int)) (h4_0_1 : (List Int)) : Int → Tre (Int ⊕ (Bool ⊕ Unit)) := fun s4 =>
 .cond (decide (s4 < (h4_0_0.length : Int)))
  (.ite (0 ≤ s4 ∧ s4 < (h4_0_0.length : Int)) <|
  .mat (h4_0_0[s4.toNat]?) fun x1 =>
  .ite (0 ≤ s4 ∧ s4 < (h4_0_1.length : Int)) <|
  .mat (h4_0_1[s4.toNat]?) fun x2 =>
  .cond (!decide (x1 = x2))
   (.ret (.inr (.inl false)))
   (.ret (.inl (iwrap .i64 (s4 + 1)))))
  (.ret (.inr (.inr ())))
noncomputable def l_eqInt64S (p0 : (List Int)) (p1 : (List Int)) : Tre Bool :=
 .cond (!decide ((p0.length : Int) = (p1.length : Int)))
  (.ret false)
  (.mat (loopF (l_eqInt64S_l4 p0 p1) 0) fun l3 =>
  .alt l3
   (fun a4 =>
    .ret a4)
   (fun _ =>
    .ret true))
noncomputable def l_eqInt64S_F (p0 : (List Int)) (p1 : (List Int)) : Option Bool := (l_eqInt64S p0 p1).run some
abbrev eqS (p0 p1 : List Int) : Option Bool := eqR p0.length p0 p1
theorem l_eqInt64S_spec (p0 p1 : List Int) (y : Bool) (h : eqR p0.length p0 p1 = some y) : l_eqInt64S_F p0 p1 = some y := by
 obtain ⟨hl, rfl, rfl⟩ := eqR_some h
 unfold l_eqInt64S_F l_eqInt64S
 rw [Tre.run_cond, show (!decide ((p0.length : Int) = (p0.length : Int))) = false from by simp, cond_false, Tre.run_mat, find_loop (xs := p0) (fun _ _ => none) (.inr ())]
 ·have : ∀ (l : List Int) (i : Nat), findE (β := Bool ⊕ Unit) (fun _ _ => none) (.inr ()) i l = .inr () := by
   intro l
   induction l with
   | nil => intro i; rfl
   | cons x l ih => intro i; exact ih _
  rw [this]
  rfl
 ·intro i x hx
  have hi : i < p0.length := (List.getElem?_eq_some_iff.1 hx).1
  unfold l_eqInt64S_l4
  rw [run_inb hx, run_at hx, Tre.run_cond]
  simp only [decide_true, Bool.not_true, cond_false, Tre.run_ret, iwrap_succ (show i < 4611686018427387904 by omega)]
 ·unfold l_eqInt64S_l4
  exact run_out
noncomputable def l_eqInt64S_V : Env := ⟨tau, [], []⟩
noncomputable def l_eqInt64S_b : Code := (Try.f56.body).getD .skip
noncomputable def l_eqInt64S_l4_mk (z4_0 : Bool) (z4_1 : Bool) (h4_0_0 : (List Int)) (h4_0_1 : (List Int)) : Int → St := fun x => stOf [(0, (.imm z4_0 (.sl (.int .i64)) h4_0_0)), (1, (.imm z4_1 (.sl (.int .i64)) h4_0_1)), (5, (.imm true (.int .i64) x))] []
noncomputable def l_eqInt64S_l4_out (_z4_0 : Bool) (_z4_1 : Bool) (_h4_0_0 : (List Int)) (_h4_0_1 : (List Int)) : (Bool ⊕ Unit) → Ex × St
 | .inl x => (.ret, stOf [(4, (.imm true .bool x))] [])
 | .inr x => (.exit 0, stOf [(4, .dead)] [])
noncomputable def l_eqInt64S_l4_D (s : St) : Tre (Ex × St) :=
 asImm (.sl (.int .i64)) (s.tmps 0) fun z3 d2 =>
 asImm (.sl (.int .i64)) (s.tmps 1) fun z6 d5 =>
 asImmZ true (.int .i64) (s.tmps 5) fun d8 =>
 .mat (loopF (l_eqInt64S_l4 d2 d5) d8) fun x => .alt x (fun a0 => .ret (l_eqInt64S_l4_out z3 z6 d2 d5 (.inl a0))) (fun b0 => .ret (l_eqInt64S_l4_out z3 z6 d2 d5 (.inr b0)))
noncomputable def l_eqInt64S_l4_L : LoopI := ⟨([0, 1, 5], []), ([4], []), l_eqInt64S_l4_D⟩
noncomputable def l_eqInt64S_A : List (Nat × LoopI) := [(4, l_eqInt64S_l4_L)]
set_option maxRecDepth 100000 in
theorem l_eqInt64S_l4_step : ∀ (z4_0 : Bool) (z4_1 : Bool) (h4_0_0 : (List Int)) (h4_0_1 : (List Int)) (x : Int) (c : St → Option (Ex × St)), den l_eqInt64S_V l_eqInt64S_A (loopAt l_eqInt64S_b 0) (l_eqInt64S_l4_mk z4_0 z4_1 h4_0_0 h4_0_1 x) (roundK l_eqInt64S_l4_L.kp l_eqInt64S_l4_L.kx c) = (l_eqInt64S_l4 h4_0_0 h4_0_1 x).run (roundR (l_eqInt64S_l4_mk z4_0 z4_1 h4_0_0 h4_0_1) (l_eqInt64S_l4_out z4_0 z4_1 h4_0_0 h4_0_1) c) := fun _ _ _ _ _ _ => by
 kernel_rfl
theorem l_eqInt64S_l4_ok : LoopOK l_eqInt64S_V l_eqInt64S_A (loopAt l_eqInt64S_b 0) l_eqInt64S_l4_L := loopOK_of fun s e s' h => by
 generalize hs : restrict l_eqInt64S_l4_L.kp s = s1 at h
 have h : (l_eqInt64S_l4_D s1).run some = some (e, s') := h
 obtain ⟨z3, d2, e1, h_0⟩ := asImm_spec h
 obtain ⟨z6, d5, e4, h_1⟩ := asImm_spec h_0
 obtain ⟨d8, e7, h_2⟩ := asImmZ_spec h_1
 obtain ⟨y, hy, hz⟩ := mat_some h_2
 refine ⟨_, _, l_eqInt64S_l4_mk z3 z6 d2 d5, l_eqInt64S_l4_out z3 z6 d2 d5, l_eqInt64S_l4 d2 d5, d8, y, ?_, hy, ?_, l_eqInt64S_l4_step z3 z6 d2 d5⟩
 ·subst hs; exact restrict_eq (T := [(0, (.imm z3 (.sl (.int .i64)) d2)), (1, (.imm z6 (.sl (.int .i64)) d5)), (5, (.imm true (.int .i64) d8))]) (U := []) rfl rfl ⟨e1, e4, e7, trivial⟩ trivial
 ·rcases y with x | x <;> exact Option.some.inj hz
noncomputable def l_eqInt64S_I : FnI := ⟨l_eqInt64S_b, Try.f56.results.toList, Try.f56.resultTypes.toList, l_eqInt64S_A⟩
noncomputable def l_eqInt64S_out (_zp0 : Bool) (_zp1 : Bool) (_p0 : (List Int)) (_p1 : (List Int)) : Bool → CallOut := fun r => ⟨(.imm true .bool r), [], []⟩
set_option maxRecDepth 100000 in
theorem l_eqInt64S_eq : ∀ (zp0 : Bool) (zp1 : Bool) (p0 : (List Int)) (p1 : (List Int)), denFn l_eqInt64S_V l_eqInt64S_I ⟨[(.imm zp0 (.sl (.int .i64)) p0), (.imm zp1 (.sl (.int .i64)) p1)], []⟩ = (l_eqInt64S p0 p1).run fun r => some (l_eqInt64S_out zp0 zp1 p0 p1 r) := fun _ _ _ _ => by kernel_rfl
noncomputable def l_eqInt64S_G (av : List AV) (rs : List Root) : Tre CallOut :=
 asCons av fun a0_ av0 =>
 asCons av0 fun a1_ av1 =>
 asEnd av1 <|
 asEnd rs <|
 asImm (.sl (.int .i64)) a0_ fun z2 d1 =>
 asImm (.sl (.int .i64)) a1_ fun z4 d3 =>
 .mat (eqS d1 d3) fun r => .ret (l_eqInt64S_out z2 z4 d1 d3 r)
noncomputable def l_eqInt64S_c : Ctr := ⟨[], fun ci => l_eqInt64S_G ci.args ci.roots, false⟩
theorem l_eqInt64S_env : EnvOK Try.prog .none l_eqInt64S_V := envOK_nil
set_option maxRecDepth 100000 in
theorem l_eqInt64S_ok : Contract Try.prog .none 56 l_eqInt64S_c := by
 have hl : LoopsOK l_eqInt64S_V l_eqInt64S_A l_eqInt64S_b := (loopsOK_all (n := 1) (by kernel_rfl) fun k hk => by
   match k, hk with
   | 0, _ => exact loopOK_at (id := 4) (L := l_eqInt64S_l4_L) (by kernel_rfl) (by kernel_rfl) l_eqInt64S_l4_ok)
 refine (contract_of (F := l_eqInt64S_I) tau_tys l_eqInt64S_env Try.func56 (by kernel_rfl) (by kernel_rfl) (by kernel_rfl) hl []).weaken ?_
 rintro ⟨av, rs⟩ co h
 have h : (l_eqInt64S_G av rs).run some = some co := h
 obtain ⟨a0_, av0, rfl, h_0⟩ := asCons_spec h
 obtain ⟨a1_, av1, rfl, h_1⟩ := asCons_spec h_0
 obtain ⟨rfl, h_2⟩ := asEnd_spec h_1
 obtain ⟨rfl, h_3⟩ := asEnd_spec h_2
 obtain ⟨z2, d1, rfl, h_4⟩ := asImm_spec h_3
 obtain ⟨z4, d3, rfl, h_5⟩ := asImm_spec h_4
 exact fin_opt (l_eqInt64S_eq z2 z4 d1 d3) (l_eqInt64S_spec d1 d3) h_5
end Go.Proofs.Ytohnlghdhbignaa

namespace Go.Proofs.Ytohnlghdhbignaa
open Go Go.Abs Go.Proofs
noncomputable def l_eqInt64SS_l4 (h4_0_0 : (List (List Int))) (h4_0_1 : (List (List Int))) : Int → Tre (Int ⊕ (Bool ⊕ Unit)) := fun s4 =>
 .cond (decide (s4 < (h4_0_0.length : Int)))
  (.ite (0 ≤ s4 ∧ s4 < (h4_0_0.length : Int)) <|
  .mat (h4_0_0[s4.toNat]?) fun x1 =>
  .ite (0 ≤ s4 ∧ s4 < (h4_0_1.length : Int)) <|
  .mat (h4_0_1[s4.toNat]?) fun x2 =>
  .mat (eqS x1 x2) fun r3 =>
  .cond (!r3)
   (.ret (.inr (.inl false)))
   (.ret (.inl (iwrap .i64 (s4 + 1)))))
  (.ret (.inr (.inr ())))
noncomputable def l_eqInt64SS (p0 : (List (List Int))) (p1 : (List (List Int))) : Tre Bool :=
 .cond (!decide ((p0.length : Int) = (p1.length : Int)))
  (.ret false)
  (.mat (loopF (l_eqInt64SS_l4 p0 p1) 0) fun l4 =>
  .alt l4
   (fun a5 =>
    .ret a5)
   (fun _ =>
    .ret true))
noncomputable def l_eqInt64SS_F (p0 : (List (List Int))) (p1 : (List (List Int))) : Option Bool := (l_eqInt64SS p0 p1).run some
-- more
theorem l_eqInt64SS_is (p0 : List (List Int)) (h : sizeSS p0 ≤ 1048576) : l_eqInt64SS_F p0 p0 = some true := by
 have hl : p0.length ≤ 1048576 := by unfold sizeSS at h; omega
 unfold l_eqInt64SS_F l_eqInt64SS
 rw [Tre.run_cond, show (!decide ((p0.length : Int) = (p0.length : Int))) = false from by simp, cond_false, Tre.run_mat, find_loop (xs := p0) (fun _ _ => none) (.inr ())]
 ·have : ∀ (l : List (List Int)) (i : Nat), findE (β := Bool ⊕ Unit) (fun _ _ => none) (.inr ()) i l = .inr () := by
   intro l
   induction l with
   | nil => intro i; rfl
   | cons x l ih => intro i; exact ih _
  rw [this]
  rfl
 ·intro i x hx
  have hi : i < p0.length := (List.getElem?_eq_some_iff.1 hx).1
  unfold l_eqInt64SS_l4
  rw [run_inb hx, run_at hx, run_some_mat (show eqS x x = some true from eqR_self (by have := sizeSS_mem (List.mem_of_getElem? hx); omega)), Tre.run_cond]
  simp only [Bool.not_true, cond_false, Tre.run_ret, iwrap_succ (show i < 4611686018427387904 by omega)]
 ·unfold l_eqInt64SS_l4
  exact run_out
noncomputable def l_eqInt64SS_V : Env := ⟨tau, [(56, l_eqInt64S_c)], []⟩
noncomputable def l_eqInt64SS_b : Code := (Try.f50.body).getD .skip
noncomputable def l_eqInt64SS_l4_mk (z4_0 : Bool) (z4_1 : Bool) (h4_0_0 : (List (List Int))) (h4_0_1 : (List (List Int))) : Int → St := fun x => stOf [(0, (.imm z4_0 (.sl (.sl (.int .i64))) h4_0_0)), (1, (.imm z4_1 (.sl (.sl (.int .i64))) h4_0_1)), (5, (.imm true (.int .i64) x))] []
noncomputable def l_eqInt64SS_l4_out (_z4_0 : Bool) (_z4_1 : Bool) (_h4_0_0 : (List (List Int))) (_h4_0_1 : (List (List Int))) : (Bool ⊕ Unit) → Ex × St
 | .inl x => (.ret, stOf [(4, (.imm true .bool x))] [])
 | .inr x => (.exit 0, stOf [(4, .dead)] [])
noncomputable def l_eqInt64SS_l4_D (s : St) : Tre (Ex × St) :=
 asImm (.sl (.sl (.int .i64))) (s.tmps 0) fun z3 d2 =>
 asImm (.sl (.sl (.int .i64))) (s.tmps 1) fun z6 d5 =>
 asImmZ true (.int .i64) (s.tmps 5) fun d8 =>
 .mat (loopF (l_eqInt64SS_l4 d2 d5) d8) fun x => .alt x (fun a0 => .ret (l_eqInt64SS_l4_out z3 z6 d2 d5 (.inl a0))) (fun b0 => .ret (l_eqInt64SS_l4_out z3 z6 d2 d5 (.inr b0)))
noncomputable def l_eqInt64SS_l4_L : LoopI := ⟨([0, 1, 5], []), ([4], []), l_eqInt64SS_l4_D⟩
noncomputable def l_eqInt64SS_A : List (Nat × LoopI) := [(4, l_eqInt64SS_l4_L)]
set_option maxRecDepth 100000 in
theorem l_eqInt64SS_l4_step : ∀ (z4_0 : Bool) (z4_1 : Bool) (h4_0_0 : (List (List Int))) (h4_0_1 : (List (List Int))) (x : Int) (c : St → Option (Ex × St)), den l_eqInt64SS_V l_eqInt64SS_A (loopAt l_eqInt64SS_b 0) (l_eqInt64SS_l4_mk z4_0 z4_1 h4_0_0 h4_0_1 x) (roundK l_eqInt64SS_l4_L.kp l_eqInt64SS_l4_L.kx c) = (l_eqInt64SS_l4 h4_0_0 h4_0_1 x).run (roundR (l_eqInt64SS_l4_mk z4_0 z4_1 h4_0_0 h4_0_1) (l_eqInt64SS_l4_out z4_0 z4_1 h4_0_0 h4_0_1) c) := fun _ _ _ _ _ _ => by
 kernel_rfl
theorem l_eqInt64SS_l4_ok : LoopOK l_eqInt64SS_V l_eqInt64SS_A (loopAt l_eqInt64SS_b 0) l_eqInt64SS_l4_L := loopOK_of fun s e s' h => by
 generalize hs : restrict l_eqInt64SS_l4_L.kp s = s1 at h
 have h : (l_eqInt64SS_l4_D s1).run some = some (e, s') := h
 obtain ⟨z3, d2, e1, h_0⟩ := asImm_spec h
 obtain ⟨z6, d5, e4, h_1⟩ := asImm_spec h_0
 obtain ⟨d8, e7, h_2⟩ := asImmZ_spec h_1
 obtain ⟨y, hy, hz⟩ := mat_some h_2
 refine ⟨_, _, l_eqInt64SS_l4_mk z3 z6 d2 d5, l_eqInt64SS_l4_out z3 z6 d2 d5, l_eqInt64SS_l4 d2 d5, d8, y, ?_, hy, ?_, l_eqInt64SS_l4_step z3 z6 d2 d5⟩
 ·subst hs; exact restrict_eq (T := [(0, (.imm z3 (.sl (.sl (.int .i64))) d2)), (1, (.imm z6 (.sl (.sl (.int .i64))) d5)), (5, (.imm true (.int .i64) d8))]) (U := []) rfl rfl ⟨e1, e4, e7, trivial⟩ trivial
 ·rcases y with x | x <;> exact Option.some.inj hz
noncomputable def l_eqInt64SS_I : FnI := ⟨l_eqInt64SS_b, Try.f50.results.toList, Try.f50.resultTypes.toList, l_eqInt64SS_A⟩
noncomputable def l_eqInt64SS_out (_zp0 : Bool) (_zp1 : Bool) (_p0 : (List (List Int))) (_p1 : (List (List Int))) : Bool → CallOut := fun r => ⟨(.imm true .bool r), [], []⟩
set_option maxRecDepth 100000 in
theorem l_eqInt64SS_eq : ∀ (zp0 : Bool) (zp1 : Bool) (p0 : (List (List Int))) (p1 : (List (List Int))), denFn l_eqInt64SS_V l_eqInt64SS_I ⟨[(.imm zp0 (.sl (.sl (.int .i64))) p0), (.imm zp1 (.sl (.sl (.int .i64))) p1)], []⟩ = (l_eqInt64SS p0 p1).run fun r => some (l_eqInt64SS_out zp0 zp1 p0 p1 r) := fun _ _ _ _ => by kernel_rfl
noncomputable def l_eqInt64SS_G (av : List AV) (rs : List Root) : Tre CallOut :=
 asCons av fun a0_ av0 =>
 asCons av0 fun a1_ av1 =>
 asEnd av1 <|
 asEnd rs <|
 asImm (.sl (.sl (.int .i64))) a0_ fun z2 d1 =>
 asImm (.sl (.sl (.int .i64))) a1_ fun z4 d3 =>
 .mat (l_eqInt64SS_F d1 d3) fun r => .ret (l_eqInt64SS_out z2 z4 d1 d3 r)
noncomputable def l_eqInt64SS_c : Ctr := ⟨[], fun ci => l_eqInt64SS_G ci.args ci.roots, false⟩
theorem l_eqInt64SS_env : EnvOK Try.prog .none l_eqInt64SS_V := (envOK_cons l_eqInt64S_ok ent56 envOK_nil)
set_option maxRecDepth 100000 in
theorem l_eqInt64SS_ok : Contract Try.prog .none 50 l_eqInt64SS_c := by
 have hl : LoopsOK l_eqInt64SS_V l_eqInt64SS_A l_eqInt64SS_b := (loopsOK_all (n := 1) (by kernel_rfl) fun k hk => by
   match k, hk with
   | 0, _ => exact loopOK_at (id := 4) (L := l_eqInt64SS_l4_L) (by kernel_rfl) (by kernel_rfl) l_eqInt64SS_l4_ok)
 refine (contract_of (F := l_eqInt64SS_I) tau_tys l_eqInt64SS_env Try.func50 (by kernel_rfl) (by kernel_rfl) (by kernel_rfl) hl []).weaken ?_
 rintro ⟨av, rs⟩ co h
 have h : (l_eqInt64SS_G av rs).run some = some co := h
 obtain ⟨a0_, av0, rfl, h_0⟩ := asCons_spec h
 obtain ⟨a1_, av1, rfl, h_1⟩ := asCons_spec h_0
 obtain ⟨rfl, h_2⟩ := asEnd_spec h_1
 obtain ⟨rfl, h_3⟩ := asEnd_spec h_2
 obtain ⟨z2, d1, rfl, h_4⟩ := asImm_spec h_3
 obtain ⟨z4, d3, rfl, h_5⟩ := asImm_spec h_4
 exact fin_mat (l_eqInt64SS_eq z2 z4 d1 d3) h_5
end Go.Proofs.Ytohnlghdhbignaa

namespace Go.Proofs.Ytohnlghdhbignaa
open Go Go.Abs Go.Proofs
noncomputable def l_eqNet (p0 : TNet) (p1 : TNet) : Tre Bool :=
 .cond (!(l_eqField_S p0.1 p1.1))
  (.ret false)
  (.cond (!decide (p0.2.1 = p1.2.1))
   (.ret false)
   (.cond (!decide (p0.2.2.1 = p1.2.2.1))
    (.ret false)
    (.mat (l_eqInt64SS_F p0.2.2.2.1 p1.2.2.2.1) fun r1 =>
    .cond (!r1)
     (.ret false)
     (.mat (l_eqInt64SS_F p0.2.2.2.2.1 p1.2.2.2.2.1) fun r2 =>
     .cond (!r2)
      (.ret false)
      (.ret true)))))
noncomputable def l_eqNet_F (p0 : TNet) (p1 : TNet) : Option Bool := (l_eqNet p0 p1).run some
-- more
theorem l_eqNet_is (n : TN6) (h : sizeSS n.2.2.2.1 ≤ 1048576) (h' : sizeSS n.2.2.2.2.1 ≤ 1048576) : l_eqNet_F n n = some true := by
 unfold l_eqNet_F l_eqNet
 rw [Tre.run_cond, show l_eqField_S n.1 n.1 = true from by unfold l_eqField_S; simp]
 rw [Bool.not_true, cond_false, Tre.run_cond, decide_eq_true rfl, Bool.not_true, cond_false, Tre.run_cond, decide_eq_true rfl, Bool.not_true, cond_false]
 rw [run_some_mat (l_eqInt64SS_is _ h), Tre.run_cond, Bool.not_true, cond_false, run_some_mat (l_eqInt64SS_is _ h')]
 rfl
noncomputable def l_eqNet_V : Env := ⟨tau, [(49, l_eqField_c), (50, l_eqInt64SS_c)], []⟩
noncomputable def l_eqNet_b : Code := (Try.f18.body).getD .skip
noncomputable def l_eqNet_I : FnI := ⟨l_eqNet_b, Try.f18.results.toList, Try.f18.resultTypes.toList, []⟩
noncomputable def l_eqNet_out (_zp0 : Bool) (_zp1 : Bool) (_p0 : TNet) (_p1 : TNet) : Bool → CallOut := fun r => ⟨(.imm true .bool r), [], []⟩
set_option maxRecDepth 100000 in
theorem l_eqNet_eq : ∀ (zp0 : Bool) (zp1 : Bool) (p0 : TNet) (p1 : TNet), denFn l_eqNet_V l_eqNet_I ⟨[(.imm zp0 kNet p0), (.imm zp1 kNet p1)], []⟩ = (l_eqNet p0 p1).run fun r => some (l_eqNet_out zp0 zp1 p0 p1 r) := fun _ _ _ _ => by kernel_rfl
noncomputable def l_eqNet_G (av : List AV) (rs : List Root) : Tre CallOut :=
 asCons av fun a0_ av0 =>
 asCons av0 fun a1_ av1 =>
 asEnd av1 <|
 asEnd rs <|
 asImm kNet a0_ fun z2 d1 =>
 asImm kNet a1_ fun z4 d3 =>
 .mat (l_eqNet_F d1 d3) fun r => .ret (l_eqNet_out z2 z4 d1 d3 r)
noncomputable def l_eqNet_c : Ctr := ⟨[], fun ci => l_eqNet_G ci.args ci.roots, false⟩
theorem l_eqNet_env : EnvOK Try.prog .none l_eqNet_V := (envOK_cons l_eqField_ok ent49 (envOK_cons l_eqInt64SS_ok ent50 envOK_nil))
set_option maxRecDepth 100000 in
theorem l_eqNet_ok : Contract Try.prog .none 18 l_eqNet_c := by
 have hl : LoopsOK l_eqNet_V [] l_eqNet_b := loopsOK_nil (by kernel_rfl)
 refine (contract_of (F := l_eqNet_I) tau_tys l_eqNet_env Try.func18 (by kernel_rfl) (by kernel_rfl) (by kernel_rfl) hl []).weaken ?_
 rintro ⟨av, rs⟩ co h
 have h : (l_eqNet_G av rs).run some = some co := h
 obtain ⟨a0_, av0, rfl, h_0⟩ := asCons_spec h
 obtain ⟨a1_, av1, rfl, h_1⟩ := asCons_spec h_0
 obtain ⟨rfl, h_2⟩ := asEnd_spec h_1
 obtain ⟨rfl, h_3⟩ := asEnd_spec h_2
 obtain ⟨z2, d1, rfl, h_4⟩ := asImm_spec h_3
 obtain ⟨z4, d3, rfl, h_5⟩ := asImm_spec h_4
 exact fin_mat (l_eqNet_eq z2 z4 d1 d3) h_5
end Go.Proofs.Ytohnlghdhbignaa

namespace Go.Proofs.Ytohnlghdhbignaa
open Go Go.Abs Go.Proofs
noncomputable def l_FnExactRankAt (p0 : TNet) (p1 : Int) : Tre Bool :=
 .mat (l_szNet_F p0 1048576) fun r1 =>
 .cond (decide (r1 < 0))
  (.ret true)
  (.mat (l_toNet_F p0) fun r2 =>
  .mat (s_RankAt_F (r2.1, (r2.2.1, (r2.2.2.1, (r2.2.2.2.1, (r2.2.2.2.2, ()))))) p1) fun r3 =>
  .mat (l_toNet_F p0) fun r4 =>
  .mat (i_RankAt_F (r4.1, (r4.2.1, (r4.2.2.1, (r4.2.2.2.1, (r4.2.2.2.2, ()))))) p1) fun r5 =>
  .cond (!decide (r5.1 = r3.1))
   (.ret false)
   (.cond (!decide (r5.2 = r3.2))
    (.ret false)
    (.mat (l_toNet_F p0) fun r6 =>
    .mat (l_eqNet_F (r4.1, (r4.2.1, (r4.2.2.1, (r4.2.2.2.1, (r4.2.2.2.2, ()))))) (r6.1, (r6.2.1, (r6.2.2.1, (r6.2.2.2.1, (r6.2.2.2.2, ())))))) fun r7 =>
    .cond (!r7)
     (.ret false)
     (.ret true))))
noncomputable def l_FnExactRankAt_F (p0 : TNet) (p1 : Int) : Option Bool := (l_FnExactRankAt p0 p1).run some
-- law
theorem l_FnExactRankAt_law (p0 : TN6) (p1 : Int) (hw : kNet.wf p0) (_h1 : (K.int .i64).wf p1) : l_FnExactRankAt_F p0 p1 = some true := by
 unfold l_FnExactRankAt_F l_FnExactRankAt
 have w3 := hw.2.2.2.1
 have w4 := hw.2.2.2.2.1
 obtain ⟨r, hr, hs⟩ := l_szNet_is p0 ⟨w3.1, fun x hx => (w3.2 x hx).1⟩ ⟨w4.1, fun x hx => (w4.2 x hx).1⟩
 rw [run_some_mat hr, Tre.run_cond]
 by_cases h : r < 0
 ·rw [decide_eq_true h]; rfl
 have hs := hs h
 rw [decide_eq_false h, cond_false]
 unfold sizeNet at hs
 have k1 : sizeSS p0.2.2.2.1 ≤ 1048576 := by omega
 have k2 : sizeSS p0.2.2.2.2.1 ≤ 1048576 := by omega
 rw [run_some_mat (l_toNet_is p0 k1 k2)]
 have hn : (p0.1, p0.2.1, p0.2.2.1, p0.2.2.2.1, p0.2.2.2.2.1, ()) = p0 := rfl
 dsimp only
 rw [hn, run_some_mat (s_RankAt_is p0 p1), run_some_mat (l_toNet_is p0 k1 k2)]
 dsimp only
 rw [hn, run_some_mat (i_RankAt_is p0 p1)]
 rw [Tre.run_cond, decide_eq_true rfl, Bool.not_true, cond_false, Tre.run_cond, decide_eq_true rfl, Bool.not_true, cond_false]
 rw [run_some_mat (l_toNet_is p0 k1 k2)]
 dsimp only
 rw [hn, run_some_mat (l_eqNet_is p0 k1 k2)]
 rfl
noncomputable def l_FnExactRankAt_V : Env := ⟨tau, [(14, l_szNet_c), (16, l_toNet_c), (15, s_RankAt_c), (17, i_RankAt_c), (18, l_eqNet_c)], []⟩
noncomputable def l_FnExactRankAt_b : Code := (Try.f5.body).getD .skip
noncomputable def l_FnExactRankAt_I : FnI := ⟨l_FnExactRankAt_b, Try.f5.results.toList, Try.f5.resultTypes.toList, []⟩
noncomputable def l_FnExactRankAt_out (_zp0 : Bool) (_p0 : TNet) (_p1 : Int) : Bool → CallOut := fun r => ⟨(.imm true .bool r), [], []⟩
set_option maxRecDepth 100000 in
theorem l_FnExactRankAt_eq : ∀ (zp0 : Bool) (p0 : TNet) (p1 : Int), denFn l_FnExactRankAt_V l_FnExactRankAt_I ⟨[(.imm zp0 kNet p0), (.imm true (.int .i64) p1)], []⟩ = (l_FnExactRankAt p0 p1).run fun r => some (l_FnExactRankAt_out zp0 p0 p1 r) := fun _ _ _ => by kernel_rfl
noncomputable def l_FnExactRankAt_G (av : List AV) (rs : List Root) : Tre CallOut :=
 asCons av fun a0_ av0 =>
 asCons av0 fun a1_ av1 =>
 asEnd av1 <|
 asEnd rs <|
 asImm kNet a0_ fun z2 d1 =>
 asImmZ true (.int .i64) a1_ fun d3 =>
 .mat (l_FnExactRankAt_F d1 d3) fun r => .ret (l_FnExactRankAt_out z2 d1 d3 r)
noncomputable def l_FnExactRankAt_c : Ctr := ⟨[], fun ci => l_FnExactRankAt_G ci.args ci.roots, false⟩
theorem l_FnExactRankAt_env : EnvOK Try.prog .none l_FnExactRankAt_V := (envOK_cons l_szNet_ok ent14 (envOK_cons l_toNet_ok ent16 (envOK_cons s_RankAt_ok ent15 (envOK_cons i_RankAt_ok ent17 (envOK_cons l_eqNet_ok ent18 envOK_nil)))))
set_option maxRecDepth 100000 in
theorem l_FnExactRankAt_ok : Contract Try.prog .none 5 l_FnExactRankAt_c := by
 have hl : LoopsOK l_FnExactRankAt_V [] l_FnExactRankAt_b := loopsOK_nil (by kernel_rfl)
 refine (contract_of (F := l_FnExactRankAt_I) tau_tys l_FnExactRankAt_env Try.func5 (by kernel_rfl) (by kernel_rfl) (by kernel_rfl) hl []).weaken ?_
 rintro ⟨av, rs⟩ co h
 have h : (l_FnExactRankAt_G av rs).run some = some co := h
 obtain ⟨a0_, av0, rfl, h_0⟩ := asCons_spec h
 obtain ⟨a1_, av1, rfl, h_1⟩ := asCons_spec h_0
 obtain ⟨rfl, h_2⟩ := asEnd_spec h_1
 obtain ⟨rfl, h_3⟩ := asEnd_spec h_2
 obtain ⟨z2, d1, rfl, h_4⟩ := asImm_spec h_3
 obtain ⟨d3, rfl, h_5⟩ := asImmZ_spec h_4
 exact fin_mat (l_FnExactRankAt_eq z2 d1 d3) h_5
end Go.Proofs.Ytohnlghdhbignaa
