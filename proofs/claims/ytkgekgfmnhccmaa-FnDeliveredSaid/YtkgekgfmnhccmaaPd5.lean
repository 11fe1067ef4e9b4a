/- Part 5 of the proof of FnDelivered. -/
import Derived.Test.YtkgekgfmnhccmaaPd4
namespace Go.Proofs.Ytkgekgfmnhccmaa
open Go Go.Abs Go.Proofs
noncomputable def i_Field_reduce_l3 (h3_0_2 : (List (List Int))) (h3_0_3 : Int) : (Int × (List (List Int))) → Tre ((Int × (List (List Int))) ⊕ (List (List Int))) := fun s3 =>
 .cond (decide (s3.1 < h3_0_3))
  (.ite (0 ≤ s3.1 ∧ s3.1 < (h3_0_2.length : Int)) <|
  .mat (h3_0_2[s3.1.toNat]?) fun x1 =>
  .mat (cloneR x1) fun r2 =>
  .ite ((s3.2.length + 1) * 24 ≤ appendMax ∧ 1 ≤ 24) <|
  .ret (.inl (iwrap .i64 (s3.1 + 1), s3.2 ++ ([r2]))))
  (.ret (.inr s3.2))
noncomputable def i_Field_reduce_l15 (h15_0_1 : Nat) (h15_0_2 : Int) (h15_0_5 : Int) (h15_0_7 : (Int × (Int × Unit))) : (Int × (List (List Int))) → Tre ((Int × (List (List Int))) ⊕ (List (List Int))) := fun s15 =>
 .cond (decide (s15.1 < h15_0_5))
  (.mat (s15.2[h15_0_1]?) fun x15 =>
  .ite (0 ≤ s15.1 ∧ s15.1 < (x15.length : Int)) <|
  .mat (s15.2[h15_0_1]?) fun x16 =>
  .mat (x16[s15.1.toNat]?) fun x17 =>
  .mat (i_Field_mul_F h15_0_7 x17 h15_0_2) fun r18 =>
  .mat (s15.2[h15_0_1]?) fun x19 =>
  .ite (0 ≤ s15.1 ∧ s15.1 < (x19.length : Int)) <|
  .mat (s15.2[h15_0_1]?) fun x20 =>
  .mat (x20[s15.1.toNat]?) fun _ =>
  let v22 := x20.set s15.1.toNat r18
  .ret (.inl (iwrap .i64 (s15.1 + 1), s15.2.set h15_0_1 v22)))
  (.ret (.inr s15.2))
noncomputable def i_Field_reduce_l25 (h25_0_1 : Nat) (h25_0_2 : Nat) (h25_0_3 : Int) (h25_0_8 : Int) (h25_0_10 : (Int × (Int × Unit))) : (Int × (List (List Int))) → Tre ((Int × (List (List Int))) ⊕ (List (List Int))) := fun s25 =>
 .cond (decide (s25.1 < h25_0_8))
  (.mat (s25.2[h25_0_2]?) fun x29 =>
  .ite (0 ≤ s25.1 ∧ s25.1 < (x29.length : Int)) <|
  .mat (s25.2[h25_0_2]?) fun x30 =>
  .mat (x30[s25.1.toNat]?) fun x31 =>
  .mat (s25.2[h25_0_1]?) fun x32 =>
  .ite (0 ≤ s25.1 ∧ s25.1 < (x32.length : Int)) <|
  .mat (s25.2[h25_0_1]?) fun x33 =>
  .mat (x33[s25.1.toNat]?) fun x34 =>
  .mat (i_Field_mul_F h25_0_10 h25_0_3 x34) fun r35 =>
  .mat (s25.2[h25_0_2]?) fun x36 =>
  .ite (0 ≤ s25.1 ∧ s25.1 < (x36.length : Int)) <|
  .mat (s25.2[h25_0_2]?) fun x37 =>
  .mat (x37[s25.1.toNat]?) fun _ =>
  let v39 := x37.set s25.1.toNat (ixor .i64 x31 r35)
  .ret (.inl (iwrap .i64 (s25.1 + 1), s25.2.set h25_0_2 v39)))
  (.ret (.inr s25.2))
noncomputable def i_Field_reduce_l20 (h20_0_0 : Int) (h20_0_1 : Nat) (h20_0_4 : Int) (h20_0_6 : (Int × (Int × Unit))) (h20_0_8 : Int) : (Int × (List (List Int))) → Tre ((Int × (List (List Int))) ⊕ (List (List Int))) := fun s20 =>
 .cond (decide (s20.1 < h20_0_4))
  (.ite (0 ≤ s20.1 ∧ s20.1 < (s20.2.length : Int)) <|
  .mat (s20.2[s20.1.toNat]?) fun _ =>
  .mat (s20.2[s20.1.toNat]?) fun x25 =>
  .ite (0 ≤ h20_0_8 ∧ h20_0_8 < (x25.length : Int)) <|
  .mat (s20.2[s20.1.toNat]?) fun x26 =>
  .mat (x26[h20_0_8.toNat]?) fun x27 =>
  .cond (!decide (s20.1 = h20_0_0))
   (.cond (!decide (x27 = 0))
    (.mat (s20.2[s20.1.toNat]?) fun x28 =>
    .mat (loopF (i_Field_reduce_l25 h20_0_1 s20.1.toNat x27 (x28.length : Int) h20_0_6) (0, s20.2)) fun l40 =>
    .ret (.inl (iwrap .i64 (s20.1 + 1), l40)))
    (.ret (.inl (iwrap .i64 (s20.1 + 1), s20.2))))
   (.ret (.inl (iwrap .i64 (s20.1 + 1), s20.2))))
  (.ret (.inr s20.2))
noncomputable def i_Field_reduce_l8 (h8_0_1 : Int) (h8_0_3 : (Int × (Int × Unit))) : (Int × Int × (List (List Int))) → Tre ((Int × Int × (List (List Int))) ⊕ (Int × (List (List Int)))) := fun s8 =>
 .cond (decide (s8.2.1 < h8_0_1))
  (.ite (0 ≤ s8.1 ∧ s8.1 ≤ (s8.2.2.length : Int) ∧ (s8.2.2.length : Int) ≤ (s8.2.2.length : Int)) <|
  .mat (nm1_F ((s8.2.2.drop s8.1.toNat).take (((s8.2.2.length : Int) - s8.1).toNat)) s8.2.1) fun r4 =>
  .cond (decide (r4 < 0))
   (.ret (.inl (s8.1, iwrap .i64 (s8.2.1 + 1), s8.2.2)))
   (.ite (0 ≤ iwrap .i64 (s8.1 + r4) ∧ iwrap .i64 (s8.1 + r4) < (s8.2.2.length : Int)) <|
   .mat (s8.2.2[(iwrap .i64 (s8.1 + r4)).toNat]?) fun _ =>
   .ite (0 ≤ s8.1 ∧ s8.1 < (s8.2.2.length : Int)) <|
   .mat (s8.2.2[s8.1.toNat]?) fun _ =>
   .ite (0 ≤ s8.1 ∧ s8.1 < (s8.2.2.length : Int)) <|
   .ite (0 ≤ iwrap .i64 (s8.1 + r4) ∧ iwrap .i64 (s8.1 + r4) < (s8.2.2.length : Int)) <|
   .ite (Int.ofNat s8.1.toNat = Int.ofNat s8.1.toNat ∧ Int.ofNat ((iwrap .i64 (s8.1 + r4)).toNat) = Int.ofNat ((iwrap .i64 (s8.1 + r4)).toNat)) <|
   let v7 := swapL ((iwrap .i64 (s8.1 + r4)).toNat) s8.1.toNat s8.2.2
   .ite (0 ≤ s8.1 ∧ s8.1 < (v7.length : Int)) <|
   .mat (v7[s8.1.toNat]?) fun _ =>
   .ite (0 ≤ s8.1 ∧ s8.1 < (v7.length : Int)) <|
   .mat (v7[s8.1.toNat]?) fun _ =>
   .mat (v7[s8.1.toNat]?) fun x10 =>
   .ite (0 ≤ s8.2.1 ∧ s8.2.1 < (x10.length : Int)) <|
   .mat (v7[s8.1.toNat]?) fun x11 =>
   .mat (x11[s8.2.1.toNat]?) fun x12 =>
   .mat (i_Field_inverse_F h8_0_3 x12) fun r13 =>
   .mat (v7[s8.1.toNat]?) fun x14 =>
   .mat (loopF (i_Field_reduce_l15 s8.1.toNat r13 (x14.length : Int) h8_0_3) (0, v7)) fun l23 =>
   .mat (loopF (i_Field_reduce_l20 s8.1 s8.1.toNat (l23.length : Int) h8_0_3 s8.2.1) (0, l23)) fun l41 =>
   .ret (.inl (iwrap .i64 (s8.1 + 1), iwrap .i64 (s8.2.1 + 1), l41))))
  (.ret (.inr (s8.1, s8.2.2)))
noncomputable def i_Field_reduce (p0 : (Int × (Int × Unit))) (p1 : Int) (p2 : (List (List Int))) : Tre (List (List Int)) :=
 .mat (loopF (i_Field_reduce_l3 p2 (p2.length : Int)) (0, [])) fun l3 =>
 .mat (loopF (i_Field_reduce_l8 p1 p0) (0, 0, l3)) fun l42 =>
 .ite (0 ≤ (0 : Int) ∧ (0 : Int) ≤ l42.1 ∧ l42.1 ≤ (l42.2.length : Int)) <|
 .ret ((l42.2.drop 0).take ((l42.1 - 0).toNat))
noncomputable def i_Field_reduce_F (p0 : (Int × (Int × Unit))) (p1 : Int) (p2 : (List (List Int))) : Option (List (List Int)) := (i_Field_reduce p0 p1 p2).run some
-- more
theorem foldE_setm {α β γ : Type} (g : α → γ) (fin : List γ → β) : ∀ (l : List α) (i : Nat) (acc : List γ), acc.length = i + l.length → foldE (fun i acc x => (.inl (acc.set i (g x)) : List γ ⊕ β)) fin i acc l = fin (acc.take i ++ l.map g) := by
 intro l
 induction l with
 | nil => intro i acc h; simp only [foldE, List.map_nil, List.append_nil]; rw [List.take_of_length_le (by simp at h; omega)]
 | cons x l ih =>
  intro i acc h
  simp only [List.length_cons] at h
  simp only [foldE]
  rw [ih (i + 1) _ (by simp; omega), List.take_add_one]
  simp [show i < acc.length by omega, List.take_set_of_le (Nat.le_refl i)]
theorem red_scale {f : TF3} (hf : fieldOk f = true) {L : List (List Int)} {k : Nat} {row : List Int} (hk : L[k]? = some row) (hn : row.length ≤ 1000000) (hr : ∀ y ∈ row, inF f y) {x : Int} (hx : inF f x) :
  loopF (i_Field_reduce_l15 k x (row.length : Int) f) (0, L) = some (L.set k (row.map fun y => mulI f y x)) := by
 have hkl := (List.getElem?_eq_some_iff.1 hk).1
 have key := fold_loop (xs := row) (step := i_Field_reduce_l15 k x (row.length : Int) f) (fun (i : Nat) (acc : List Int) => ((i : Int), L.set k acc)) (fun i acc y => .inl (acc.set i (mulI f y x))) (fun acc => L.set k acc) (fun i acc => acc.length = row.length ∧ acc.drop i = row.drop i) (by
  intro i acc y hy hi
  have hlt := (List.getElem?_eq_some_iff.1 hy).1
  have hg : (L.set k acc)[k]? = some acc := by rw [List.getElem?_set_self hkl]
  have hai : acc[i]? = some y := by
   have := congrArg (·[0]?) hi.2
   simpa [hy] using this
  refine ⟨?_, fun a ha => ?_⟩
  ·unfold i_Field_reduce_l15
   dsimp only
   rw [Tre.run_cond, decide_eq_true (by omega), cond_true, run_some_mat hg, Tre.run_ite, if_pos (by omega), run_some_mat hg, Int.toNat_natCast, run_some_mat hai, run_some_mat (imul_is hf (hr _ (List.mem_of_getElem? hy)) hx), run_some_mat hg, Tre.run_ite, if_pos (by omega), run_some_mat hg, run_some_mat hai, Tre.run_ret, iwrap_succ (by omega), List.set_set]
  ·cases ha
   refine ⟨by simp [hi.1], ?_⟩
   rw [List.drop_set_of_lt (by omega), ← List.drop_drop, ← List.drop_drop, hi.2]) (by
  intro acc _
  unfold i_Field_reduce_l15
  dsimp only
  rw [Tre.run_cond, decide_eq_false (by omega), cond_false]
  rfl) row 0 row rfl (Nat.zero_le _) ⟨rfl, rfl⟩
 rw [foldE_setm _ _ _ _ _ (by simp)] at key
 have h0 : L.set k row = L := by
  apply List.ext_getElem?
  intro j
  rw [List.getElem?_set]
  split
  ·rename_i h; subst h; exact hk.symm
  ·rfl
 rw [h0] at key
 simpa using key
theorem red_clear {f : TF3} (hf : fieldOk f = true) {L : List (List Int)} {k i2 : Nat} (hne : k ≠ i2) {own r : List Int} (hk : L[k]? = some own) (h2 : L[i2]? = some r) (hl : r.length = own.length) (hn : r.length ≤ 1000000) (hr : ∀ y ∈ own, inF f y) {x : Int} (hx : inF f x) :
  loopF (i_Field_reduce_l25 k i2 x (r.length : Int) f) (0, L) = some (L.set i2 ((r.zip own).map fun p => ixor .i64 p.1 (mulI f x p.2))) := by
 have hkl := (List.getElem?_eq_some_iff.1 h2).1
 have key := fold_loop (xs := r.zip own) (step := i_Field_reduce_l25 k i2 x (r.length : Int) f) (fun (i : Nat) (acc : List Int) => ((i : Int), L.set i2 acc)) (fun i acc p => .inl (acc.set i (ixor .i64 p.1 (mulI f x p.2)))) (fun acc => L.set i2 acc) (fun i acc => acc.length = r.length ∧ acc.drop i = r.drop i) (by
  intro i acc p hp hi
  have hlt := (List.getElem?_eq_some_iff.1 hp).1
  rw [List.length_zip] at hlt
  obtain ⟨p1, p2⟩ := p
  rw [List.getElem?_zip_eq_some] at hp
  obtain ⟨hp1, hp2⟩ := hp
  have hg : (L.set i2 acc)[i2]? = some acc := by rw [List.getElem?_set_self hkl]
  have hgk : (L.set i2 acc)[k]? = some own := by rw [List.getElem?_set_ne (Ne.symm hne)]; exact hk
  have hai : acc[i]? = some p1 := by
   have := congrArg (·[0]?) hi.2
   simpa [hp1] using this
  refine ⟨?_, fun a ha => ?_⟩
  ·unfold i_Field_reduce_l25
   dsimp only
   rw [Tre.run_cond, decide_eq_true (by omega), cond_true, run_some_mat hg, Tre.run_ite, if_pos (by omega), run_some_mat hg, Int.toNat_natCast, run_some_mat hai, run_some_mat hgk, Tre.run_ite, if_pos (by omega), run_some_mat hgk, run_some_mat hp2, run_some_mat (imul_is hf hx (hr _ (List.mem_of_getElem? hp2))), run_some_mat hg, Tre.run_ite, if_pos (by omega), run_some_mat hg, run_some_mat hai, Tre.run_ret, iwrap_succ (by omega), List.set_set]
  ·cases ha
   refine ⟨by simp [hi.1], ?_⟩
   rw [List.drop_set_of_lt (by omega), ← List.drop_drop, ← List.drop_drop, hi.2]) (by
  intro acc _
  unfold i_Field_reduce_l25
  dsimp only
  rw [Tre.run_cond, decide_eq_false (by rw [List.length_zip]; omega), cond_false]
  rfl) (r.zip own) 0 r rfl (Nat.zero_le _) ⟨rfl, rfl⟩
 rw [foldE_setm _ _ _ _ _ (by simp [hl])] at key
 have h0 : L.set i2 r = L := by
  apply List.ext_getElem?
  intro j
  rw [List.getElem?_set]
  split
  ·rename_i h; subst h; simp [hkl, ← h2]
  ·rfl
 rw [h0] at key
 simpa using key
theorem red_all {f : TF3} (hf : fieldOk f = true) {L : List (List Int)} {k c : Nat} {own : List Int} (hk : L[k]? = some own) (hL : L.length ≤ 1000000) (hn : own.length ≤ 1000000) (hc : c < own.length) (hl : ∀ r ∈ L, r.length = own.length ∧ ∀ y ∈ r, inF f y) :
  loopF (i_Field_reduce_l20 (k : Int) k (L.length : Int) f (c : Int)) (0, L) = some (L.mapIdx (clearV f c k own)) := by
 have hown := hl own (List.mem_of_getElem? hk)
 have key := fold_loop (xs := L) (step := i_Field_reduce_l20 (k : Int) k (L.length : Int) f (c : Int)) (fun (i : Nat) (acc : List (List Int)) => ((i : Int), acc)) (fun i acc r => .inl (acc.set i (clearV f c k own i r))) id (fun i acc => acc.length = L.length ∧ acc.drop i = L.drop i ∧ acc[k]? = some own) (by
  intro i acc r hr hi
  have hlt := (List.getElem?_eq_some_iff.1 hr).1
  obtain ⟨hr1, hr2⟩ := hl r (List.mem_of_getElem? hr)
  have hai : acc[i]? = some r := by
   have := congrArg (·[0]?) hi.2.1
   simpa [hr] using this
  obtain ⟨x, hx⟩ : ∃ x, r[c]? = some x := ⟨_, List.getElem?_eq_getElem (by omega)⟩
  have hset : acc.set i r = acc := by
   apply List.ext_getElem?
   intro j
   rw [List.getElem?_set]
   split
   ·rename_i h; subst h; simp [show i < acc.length by omega, ← hai]
   ·rfl
  refine ⟨?_, fun a ha => ?_⟩
  ·unfold i_Field_reduce_l20
   dsimp only
   rw [Tre.run_cond, decide_eq_true (by omega), cond_true, Tre.run_ite, if_pos (by omega), Int.toNat_natCast, run_some_mat hai, run_some_mat hai, Tre.run_ite, if_pos (by omega), run_some_mat hai, Int.toNat_natCast, run_some_mat hx, Tre.run_cond]
   by_cases h1 : i = k
   ·rw [decide_eq_true (show (i : Int) = (k : Int) by omega), Bool.not_true, cond_false, Tre.run_ret, iwrap_succ (by omega)]
    simp only [clearV, hx, h1, decide_true, Bool.true_or, cond_true]
    rw [← h1, hset]
   ·rw [decide_eq_false (show ¬ (i : Int) = (k : Int) by omega), Bool.not_false, cond_true, Tre.run_cond]
    by_cases h2 : x = 0
    ·rw [decide_eq_true h2, Bool.not_true, cond_false, Tre.run_ret, iwrap_succ (by omega)]
     simp only [clearV, hx, h2, decide_true, Bool.or_true, cond_true]
     rw [hset]
    ·rw [decide_eq_false h2, Bool.not_false, cond_true, run_some_mat hai, run_some_mat (red_clear hf (fun h => h1 h.symm) hi.2.2 hai hr1 (by omega) hown.2 (hr2 _ (List.mem_of_getElem? hx))), Tre.run_ret, iwrap_succ (by omega)]
     simp only [clearV, hx, h1, h2, decide_false, Bool.or_self, cond_false]
  ·cases ha
   refine ⟨by simp [hi.1], ?_, ?_⟩
   ·rw [List.drop_set_of_lt (by omega), ← List.drop_drop, ← List.drop_drop, hi.2.1]
   ·by_cases h1 : i = k
    ·subst h1
     rw [List.getElem?_set_self (by omega)]
     rw [hr] at hk; cases hk
     simp only [clearV, hx, decide_true, Bool.true_or, cond_true]
    ·rw [List.getElem?_set_ne h1]; exact hi.2.2) (by
  intro acc _
  unfold i_Field_reduce_l20
  dsimp only
  rw [Tre.run_cond, decide_eq_false (by omega), cond_false]
  rfl) L 0 L rfl (Nat.zero_le _) ⟨rfl, rfl, hk⟩
 rw [foldE_seti _ _ _ _ _ (by simp)] at key
 simpa using key
theorem red_copy {rows : List (List Int)} (hl : rows.length ≤ 1000000) (hr : ∀ r ∈ rows, r.length ≤ 1000000) : loopF (i_Field_reduce_l3 rows (rows.length : Int)) (0, []) = some rows := by
 have key := fold_loop (xs := rows) (step := i_Field_reduce_l3 rows (rows.length : Int)) (fun (i : Nat) (acc : List (List Int)) => ((i : Int), acc)) (fun _ acc r => .inl (acc ++ [id r])) id (fun i acc => acc.length = i) (by
  intro i acc r h hi
  have hlt := (List.getElem?_eq_some_iff.1 h).1
  refine ⟨?_, fun a ha => ?_⟩
  ·unfold i_Field_reduce_l3
   dsimp only
   rw [Tre.run_cond, decide_eq_true (by omega), cond_true, Tre.run_ite, if_pos (by omega), Int.toNat_natCast, run_some_mat h, run_some_mat (show cloneR r = some r from lim_of (by have := hr r (List.mem_of_getElem? h); omega)), Tre.run_ite, if_pos (by unfold appendMax; omega), Tre.run_ret, iwrap_succ (by omega)]
   rfl
  ·cases ha; simp [hi]) (by
  intro acc _
  unfold i_Field_reduce_l3
  dsimp only
  rw [Tre.run_cond, decide_eq_false (by omega), cond_false]
  rfl) rows 0 [] rfl (Nat.zero_le _) rfl
 rw [foldE_app, List.map_id] at key
 exact key
theorem red_step {f : TF3} (hf : fieldOk f = true) {n c : Nat} (hc : c < n) (hn : n ≤ 1000000) (s : Nat × List (List Int)) (h : GR f n s.2) (hL : s.2.length ≤ 1000000) (ha : s.1 ≤ s.2.length) :
  (i_Field_reduce_l8 (n : Int) f ((s.1 : Int), (c : Int), s.2)).run some = some (.inl (((echStep f c s).1 : Int), ((c + 1 : Nat) : Int), (echStep f c s).2)) := by
 obtain ⟨a, L⟩ := s
 dsimp only at h hL ha
 unfold i_Field_reduce_l8
 dsimp only
 have htk : (L.drop a).take (((L.length : Int) - (a : Int)).toNat) = L.drop a := List.take_of_length_le (by rw [List.length_drop]; omega)
 rw [Tre.run_cond, decide_eq_true (by omega), cond_true, Tre.run_ite, if_pos (by omega), Int.toNat_natCast, htk, run_some_mat (ridx_is (fun r hr => by rw [(h r (List.mem_of_mem_drop hr)).1]; exact hc) (by rw [List.length_drop]; omega)), Tre.run_cond]
 unfold echStep
 dsimp only
 rcases idxI_cases (nzAt c) (L.drop a) 0 with ⟨h1, _⟩ | ⟨k, row, h1, h2, h3⟩
 ·have h4 := idxI_add (nzAt c) (L.drop a) a 0
  rw [h1, if_pos (by decide)] at h4
  simp only [Nat.add_zero] at h4
  rw [h1, h4]
  simp only [show decide ((-1 : Int) < 0) = true from rfl, cond_true]
  rw [Tre.run_ret, iwrap_succ (by omega)]
 ·have h4 := idxI_add (nzAt c) (L.drop a) a 0
  rw [h3, if_neg (by omega)] at h4
  simp only [Nat.add_zero, Nat.zero_add] at h4
  have h4 : idxI (nzAt c) a (L.drop a) = ((a + k : Nat) : Int) := by rw [h4]; omega
  have hak : L[a + k]? = some row := by rw [← h1, List.getElem?_drop]
  have hlt := (List.getElem?_eq_some_iff.1 hak).1
  obtain ⟨r0, hr0⟩ : ∃ r0, L[a]? = some r0 := ⟨_, List.getElem?_eq_getElem (by omega)⟩
  obtain ⟨hrl, hrf⟩ := GR_at h hak
  obtain ⟨x, hx, hx0⟩ := nzAt_of h2
  have hxf := hrf x (List.mem_of_getElem? hx)
  have hsw : swapL (a + k) a L = (L.set (a + k) r0).set a row := by unfold swapL; rw [hak, hr0]
  have hva : ((L.set (a + k) r0).set a row)[a]? = some row := List.getElem?_set_self (by simp; omega)
  rw [h3, h4]
  simp only [Nat.zero_add]
  have hw : iwrap .i64 ((a : Int) + (k : Int)) = ((a + k : Nat) : Int) := by rw [iwrap_i64 (by omega) (by omega)]; omega
  rw [hw, Int.toNat_natCast, hsw, decide_eq_false (by omega), decide_eq_false (by omega), cond_false, cond_false]
  rw [Tre.run_ite, if_pos (by omega), run_some_mat hak, Tre.run_ite, if_pos (by omega), run_some_mat hr0, Tre.run_ite, if_pos (by omega), Tre.run_ite, if_pos (by omega), Tre.run_ite, if_pos (by simp)]
  simp only [List.length_set]
  rw [Tre.run_ite, if_pos (by omega), run_some_mat hva, Tre.run_ite, if_pos (by omega), run_some_mat hva, run_some_mat hva, Tre.run_ite, if_pos (by omega), run_some_mat hva, Int.toNat_natCast, run_some_mat hx, run_some_mat (iinv_is hf hxf), run_some_mat hva]
  rw [run_some_mat (red_scale hf hva (by omega) hrf (invI_facts hf hxf).1), List.set_set]
  have hp : pivL f c (a + k) a L = (L.set (a + k) r0).set a (row.map fun y => mulI f y (invI f x)) := by
   unfold pivL scaleV
   rw [hak, hr0]
   simp only [hx]
  have hpg := pivL_ok (c := c) (k := a + k) (a := a) hf h
  rw [hp] at hpg ⊢
  have hpa : ((L.set (a + k) r0).set a (row.map fun y => mulI f y (invI f x)))[a]? = some (row.map fun y => mulI f y (invI f x)) := List.getElem?_set_self (by simp; omega)
  generalize hG : (L.set (a + k) r0).set a (row.map fun y => mulI f y (invI f x)) = G at hpg hpa
  have hown := GR_at hpg.1 hpa
  have hcl : loopF (i_Field_reduce_l20 (a : Int) a (G.length : Int) f (c : Int)) (0, G) = some (G.mapIdx (clearV f c a (row.map fun y => mulI f y (invI f x)))) :=
   red_all hf hpa (by omega) (by omega) (by omega) (fun r hr => by rw [hown.1]; exact hpg.1 r hr)
  rw [run_some_mat hcl, Tre.run_ret, iwrap_succ (by omega), iwrap_succ (by omega)]
  unfold clearL
  rw [hpa]
theorem red_loop {f : TF3} (hf : fieldOk f = true) {n : Nat} (hn : n ≤ 1000000) : ∀ (m c : Nat) (s : Nat × List (List Int)), c + m = n → GR f n s.2 → s.2.length ≤ 1000000 → s.1 ≤ s.2.length → loopF (i_Field_reduce_l8 (n : Int) f) ((s.1 : Int), (c : Int), s.2) = some (((echFrom f c m s).1 : Int), (echFrom f c m s).2) := by
 intro m
 induction m with
 | zero =>
  intro c s hc h hL ha
  have hc : c = n := hc
  subst hc
  refine loopF_done ?_
  unfold i_Field_reduce_l8
  exact run_out
 | succ m ih =>
  intro c s hc h hL ha
  rw [loopF_step (red_step hf (by omega) hn s h hL ha)]
  have h1 := echStep_ok (c := c) hf h ha
  exact ih (c + 1) _ (by omega) h1.1 (by omega) (by omega)
theorem ired_is {f : TF3} (hf : fieldOk f = true) {n : Nat} (hn : n ≤ 1000000) {L : List (List Int)} (h : GR f n L) (hL : L.length ≤ 1000000) : i_Field_reduce_F f (n : Int) L = some (echV f n L) := by
 have hl := red_loop hf hn n 0 (0, L) (by omega) h hL (Nat.zero_le _)
 have hk := echFrom_ok hf n 0 (0, L) h (Nat.zero_le _)
 have hl : loopF (i_Field_reduce_l8 (n : Int) f) (0, 0, L) = _ := hl
 unfold i_Field_reduce_F i_Field_reduce
 rw [run_some_mat (red_copy hL (fun r hr => by rw [(h r hr).1]; exact hn)), run_some_mat hl, Tre.run_ite, if_pos (by have := hk.2.1; have := hk.2.2; dsimp only at *; omega), Tre.run_ret]
 unfold echV
 simp
noncomputable def i_Field_reduce_V : Env := ⟨tau, [(57, slices_Clone_int64_c), (106, nm1_c), (108, i_Field_inverse_c), (109, i_Field_mul_c)], []⟩
noncomputable def i_Field_reduce_b : Code := (Try.f58.body).getD .skip
noncomputable def i_Field_reduce_l3_mk (z3_0 : Bool) (h3_0_0 : Int) (h3_0_1 : Int) (h3_0_2 : (List (List Int))) (h3_0_3 : Int) (h3_0_5 : (Int × (Int × Unit))) : (Int × (List (List Int))) → St := fun x => stOf [(1, (.imm true (.int .i64) h3_0_0)), (3, (.ptr (5, 0) [])), (7, (.ref (9, 0) [])), (8, (.imm true (.int .i64) h3_0_1)), (21, (.imm z3_0 (.sl (.sl (.int .i64))) h3_0_2)), (22, (.imm true (.int .i64) h3_0_3)), (23, (.imm true (.int .i64) x.1))] [((5, 0), some ⟨true, kField, .own, h3_0_5⟩), ((9, 0), some ⟨false, (.sl (.sl (.int .i64))), .own, x.2⟩)]
noncomputable def i_Field_reduce_l3_out (_z3_0 : Bool) (h3_0_0 : Int) (h3_0_1 : Int) (_h3_0_2 : (List (List Int))) (_h3_0_3 : Int) (h3_0_5 : (Int × (Int × Unit))) : (List (List Int)) → Ex × St := fun x => (.exit 0, stOf [(1, (.imm true (.int .i64) h3_0_0)), (3, (.ptr (5, 0) [])), (7, (.ref (9, 0) [])), (8, (.imm true (.int .i64) h3_0_1))] [((5, 0), some ⟨true, kField, .own, h3_0_5⟩), ((9, 0), some ⟨false, (.sl (.sl (.int .i64))), .own, x⟩)])
noncomputable def i_Field_reduce_l3_D (s : St) : Tre (Ex × St) :=
 asImmZ true (.int .i64) (s.tmps 1) fun d2 =>
 asPtr (5, 0) [] (s.tmps 3) <|
 asRef (9, 0) [] (s.tmps 7) <|
 asImmZ true (.int .i64) (s.tmps 8) fun d6 =>
 asImm (.sl (.sl (.int .i64))) (s.tmps 21) fun z9 d8 =>
 asImmZ true (.int .i64) (s.tmps 22) fun d11 =>
 asImmZ true (.int .i64) (s.tmps 23) fun d13 =>
 asRoot true kField (s.roots (5, 0)) fun m15 d16 =>
 asM .own m15 <|
 asRoot false (.sl (.sl (.int .i64))) (s.roots (9, 0)) fun m18 d19 =>
 asM .own m18 <|
 .mat (loopF (i_Field_reduce_l3 d8 d11) (d13, d19)) fun x => .ret (i_Field_reduce_l3_out z9 d2 d6 d8 d11 d16 x)
noncomputable def i_Field_reduce_l3_L : LoopI := ⟨([1, 3, 7, 8, 21, 22, 23], [(5, 0), (9, 0)]), ([1, 3, 7, 8], [(5, 0), (9, 0)]), i_Field_reduce_l3_D⟩
noncomputable def i_Field_reduce_l15_mk (h15_0_0 : Int) (h15_0_1 : Nat) (h15_0_2 : Int) (h15_0_3 : Int) (h15_0_4 : Int) (h15_0_5 : Int) (h15_0_7 : (Int × (Int × Unit))) (h15_0_9 : Int) : (Int × (List (List Int))) → St := fun x => stOf [(3, (.ptr (5, 0) [])), (7, (.ref (9, 0) [])), (8, (.imm true (.int .i64) h15_0_0)), (11, (.ptr (13, 0) [])), (13, (.ref (9, 0) [.idx h15_0_1])), (14, (.imm true (.int .i64) h15_0_2)), (33, (.imm true (.int .i64) h15_0_3)), (34, (.imm true (.int .i64) h15_0_4)), (76, (.imm true (.int .i64) h15_0_5)), (77, (.imm true (.int .i64) x.1))] [((5, 0), some ⟨true, kField, .own, h15_0_7⟩), ((9, 0), some ⟨false, (.sl (.sl (.int .i64))), .own, x.2⟩), ((13, 0), some ⟨true, (.int .i64), .own, h15_0_9⟩)]
noncomputable def i_Field_reduce_l15_out (h15_0_0 : Int) (h15_0_1 : Nat) (_h15_0_2 : Int) (h15_0_3 : Int) (h15_0_4 : Int) (_h15_0_5 : Int) (h15_0_7 : (Int × (Int × Unit))) (h15_0_9 : Int) : (List (List Int)) → Ex × St := fun x => (.exit 4, stOf [(3, (.ptr (5, 0) [])), (7, (.ref (9, 0) [])), (8, (.imm true (.int .i64) h15_0_0)), (11, (.ptr (13, 0) [])), (13, (.ref (9, 0) [.idx h15_0_1])), (33, (.imm true (.int .i64) h15_0_3)), (34, (.imm true (.int .i64) h15_0_4))] [((5, 0), some ⟨true, kField, .own, h15_0_7⟩), ((9, 0), some ⟨false, (.sl (.sl (.int .i64))), .own, x⟩), ((13, 0), some ⟨true, (.int .i64), .own, h15_0_9⟩)])
noncomputable def i_Field_reduce_l15_D (s : St) : Tre (Ex × St) :=
 asPtr (5, 0) [] (s.tmps 3) <|
 asRef (9, 0) [] (s.tmps 7) <|
 asImmZ true (.int .i64) (s.tmps 8) fun d4 =>
 asPtr (13, 0) [] (s.tmps 11) <|
 asRef1 (9, 0) [.idx 0] (s.tmps 13) fun i7 =>
 asImmZ true (.int .i64) (s.tmps 14) fun d9 =>
 asImmZ true (.int .i64) (s.tmps 33) fun d11 =>
 asImmZ true (.int .i64) (s.tmps 34) fun d13 =>
 asImmZ true (.int .i64) (s.tmps 76) fun d15 =>
 asImmZ true (.int .i64) (s.tmps 77) fun d17 =>
 asRoot true kField (s.roots (5, 0)) fun m19 d20 =>
 asM .own m19 <|
 asRoot false (.sl (.sl (.int .i64))) (s.roots (9, 0)) fun m22 d23 =>
 asM .own m22 <|
 asRoot true (.int .i64) (s.roots (13, 0)) fun m25 d26 =>
 asM .own m25 <|
 .mat (loopF (i_Field_reduce_l15 i7 d9 d15 d20) (d17, d23)) fun x => .ret (i_Field_reduce_l15_out d4 i7 d9 d11 d13 d15 d20 d26 x)
noncomputable def i_Field_reduce_l15_L : LoopI := ⟨([3, 7, 8, 11, 13, 14, 33, 34, 76, 77], [(5, 0), (9, 0), (13, 0)]), ([3, 7, 8, 11, 13, 33, 34], [(5, 0), (9, 0), (13, 0)]), i_Field_reduce_l15_D⟩
noncomputable def i_Field_reduce_l25_mk (h25_0_0 : Int) (h25_0_1 : Nat) (h25_0_2 : Nat) (h25_0_3 : Int) (h25_0_4 : Int) (h25_0_5 : Int) (h25_0_6 : Int) (h25_0_7 : Int) (h25_0_8 : Int) (h25_0_10 : (Int × (Int × Unit))) (h25_0_12 : Int) : (Int × (List (List Int))) → St := fun x => stOf [(3, (.ptr (5, 0) [])), (7, (.ref (9, 0) [])), (8, (.imm true (.int .i64) h25_0_0)), (11, (.ptr (13, 0) [])), (13, (.ref (9, 0) [.idx h25_0_1])), (17, (.ref (9, 0) [.idx h25_0_2])), (18, (.imm true (.int .i64) h25_0_3)), (33, (.imm true (.int .i64) h25_0_4)), (34, (.imm true (.int .i64) h25_0_5)), (91, (.ref (9, 0) [])), (92, (.imm true (.int .i64) h25_0_6)), (93, (.imm true (.int .i64) h25_0_7)), (110, (.imm true (.int .i64) h25_0_8)), (111, (.imm true (.int .i64) x.1))] [((5, 0), some ⟨true, kField, .own, h25_0_10⟩), ((9, 0), some ⟨false, (.sl (.sl (.int .i64))), .own, x.2⟩), ((13, 0), some ⟨true, (.int .i64), .own, h25_0_12⟩)]
noncomputable def i_Field_reduce_l25_out (h25_0_0 : Int) (h25_0_1 : Nat) (_h25_0_2 : Nat) (_h25_0_3 : Int) (h25_0_4 : Int) (h25_0_5 : Int) (h25_0_6 : Int) (h25_0_7 : Int) (_h25_0_8 : Int) (h25_0_10 : (Int × (Int × Unit))) (h25_0_12 : Int) : (List (List Int)) → Ex × St := fun x => (.exit 8, stOf [(3, (.ptr (5, 0) [])), (7, (.ref (9, 0) [])), (8, (.imm true (.int .i64) h25_0_0)), (11, (.ptr (13, 0) [])), (13, (.ref (9, 0) [.idx h25_0_1])), (33, (.imm true (.int .i64) h25_0_4)), (34, (.imm true (.int .i64) h25_0_5)), (91, (.ref (9, 0) [])), (92, (.imm true (.int .i64) h25_0_6)), (93, (.imm true (.int .i64) h25_0_7))] [((5, 0), some ⟨true, kField, .own, h25_0_10⟩), ((9, 0), some ⟨false, (.sl (.sl (.int .i64))), .own, x⟩), ((13, 0), some ⟨true, (.int .i64), .own, h25_0_12⟩)])
noncomputable def i_Field_reduce_l25_D (s : St) : Tre (Ex × St) :=
 asPtr (5, 0) [] (s.tmps 3) <|
 asRef (9, 0) [] (s.tmps 7) <|
 asImmZ true (.int .i64) (s.tmps 8) fun d4 =>
 asPtr (13, 0) [] (s.tmps 11) <|
 asRef1 (9, 0) [.idx 0] (s.tmps 13) fun i7 =>
 asRef1 (9, 0) [.idx 0] (s.tmps 17) fun i9 =>
 asImmZ true (.int .i64) (s.tmps 18) fun d11 =>
 asImmZ true (.int .i64) (s.tmps 33) fun d13 =>
 asImmZ true (.int .i64) (s.tmps 34) fun d15 =>
 asRef (9, 0) [] (s.tmps 91) <|
 asImmZ true (.int .i64) (s.tmps 92) fun d18 =>
 asImmZ true (.int .i64) (s.tmps 93) fun d20 =>
 asImmZ true (.int .i64) (s.tmps 110) fun d22 =>
 asImmZ true (.int .i64) (s.tmps 111) fun d24 =>
 asRoot true kField (s.roots (5, 0)) fun m26 d27 =>
 asM .own m26 <|
 asRoot false (.sl (.sl (.int .i64))) (s.roots (9, 0)) fun m29 d30 =>
 asM .own m29 <|
 asRoot true (.int .i64) (s.roots (13, 0)) fun m32 d33 =>
 asM .own m32 <|
 .mat (loopF (i_Field_reduce_l25 i7 i9 d11 d22 d27) (d24, d30)) fun x => .ret (i_Field_reduce_l25_out d4 i7 i9 d11 d13 d15 d18 d20 d22 d27 d33 x)
noncomputable def i_Field_reduce_l25_L : LoopI := ⟨([3, 7, 8, 11, 13, 17, 18, 33, 34, 91, 92, 93, 110, 111], [(5, 0), (9, 0), (13, 0)]), ([3, 7, 8, 11, 13, 33, 34, 91, 92, 93], [(5, 0), (9, 0), (13, 0)]), i_Field_reduce_l25_D⟩
noncomputable def i_Field_reduce_l20_mk (h20_0_0 : Int) (h20_0_1 : Nat) (h20_0_2 : Int) (h20_0_3 : Int) (h20_0_4 : Int) (h20_0_6 : (Int × (Int × Unit))) (h20_0_8 : Int) : (Int × (List (List Int))) → St := fun x => stOf [(3, (.ptr (5, 0) [])), (7, (.ref (9, 0) [])), (8, (.imm true (.int .i64) h20_0_0)), (11, (.ptr (13, 0) [])), (13, (.ref (9, 0) [.idx h20_0_1])), (33, (.imm true (.int .i64) h20_0_2)), (34, (.imm true (.int .i64) h20_0_3)), (91, (.ref (9, 0) [])), (92, (.imm true (.int .i64) h20_0_4)), (93, (.imm true (.int .i64) x.1))] [((5, 0), some ⟨true, kField, .own, h20_0_6⟩), ((9, 0), some ⟨false, (.sl (.sl (.int .i64))), .own, x.2⟩), ((13, 0), some ⟨true, (.int .i64), .own, h20_0_8⟩)]
noncomputable def i_Field_reduce_l20_out (h20_0_0 : Int) (_h20_0_1 : Nat) (h20_0_2 : Int) (h20_0_3 : Int) (_h20_0_4 : Int) (h20_0_6 : (Int × (Int × Unit))) (_h20_0_8 : Int) : (List (List Int)) → Ex × St := fun x => (.exit 6, stOf [(3, (.ptr (5, 0) [])), (7, (.ref (9, 0) [])), (8, (.imm true (.int .i64) h20_0_0)), (33, (.imm true (.int .i64) h20_0_2)), (34, (.imm true (.int .i64) h20_0_3))] [((5, 0), some ⟨true, kField, .own, h20_0_6⟩), ((9, 0), some ⟨false, (.sl (.sl (.int .i64))), .own, x⟩)])
noncomputable def i_Field_reduce_l20_D (s : St) : Tre (Ex × St) :=
 asPtr (5, 0) [] (s.tmps 3) <|
 asRef (9, 0) [] (s.tmps 7) <|
 asImmZ true (.int .i64) (s.tmps 8) fun d4 =>
 asPtr (13, 0) [] (s.tmps 11) <|
 asRef1 (9, 0) [.idx 0] (s.tmps 13) fun i7 =>
 asImmZ true (.int .i64) (s.tmps 33) fun d9 =>
 asImmZ true (.int .i64) (s.tmps 34) fun d11 =>
 asRef (9, 0) [] (s.tmps 91) <|
 asImmZ true (.int .i64) (s.tmps 92) fun d14 =>
 asImmZ true (.int .i64) (s.tmps 93) fun d16 =>
 asRoot true kField (s.roots (5, 0)) fun m18 d19 =>
 asM .own m18 <|
 asRoot false (.sl (.sl (.int .i64))) (s.roots (9, 0)) fun m21 d22 =>
 asM .own m21 <|
 asRoot true (.int .i64) (s.roots (13, 0)) fun m24 d25 =>
 asM .own m24 <|
 .mat (loopF (i_Field_reduce_l20 d4 i7 d14 d19 d25) (d16, d22)) fun x => .ret (i_Field_reduce_l20_out d4 i7 d9 d11 d14 d19 d25 x)
noncomputable def i_Field_reduce_l20_L : LoopI := ⟨([3, 7, 8, 11, 13, 33, 34, 91, 92, 93], [(5, 0), (9, 0), (13, 0)]), ([3, 7, 8, 33, 34], [(5, 0), (9, 0)]), i_Field_reduce_l20_D⟩
noncomputable def i_Field_reduce_l8_mk (h8_0_1 : Int) (h8_0_3 : (Int × (Int × Unit))) : (Int × Int × (List (List Int))) → St := fun x => stOf [(3, (.ptr (5, 0) [])), (7, (.ref (9, 0) [])), (8, (.imm true (.int .i64) x.1)), (33, (.imm true (.int .i64) h8_0_1)), (34, (.imm true (.int .i64) x.2.1))] [((5, 0), some ⟨true, kField, .own, h8_0_3⟩), ((9, 0), some ⟨false, (.sl (.sl (.int .i64))), .own, x.2.2⟩)]
noncomputable def i_Field_reduce_l8_out (_h8_0_1 : Int) (_h8_0_3 : (Int × (Int × Unit))) : (Int × (List (List Int))) → Ex × St := fun x => (.exit 2, stOf [(7, (.ref (9, 0) [])), (8, (.imm true (.int .i64) x.1))] [((9, 0), some ⟨false, (.sl (.sl (.int .i64))), .own, x.2⟩)])
noncomputable def i_Field_reduce_l8_D (s : St) : Tre (Ex × St) :=
 asPtr (5, 0) [] (s.tmps 3) <|
 asRef (9, 0) [] (s.tmps 7) <|
 asImmZ true (.int .i64) (s.tmps 8) fun d4 =>
 asImmZ true (.int .i64) (s.tmps 33) fun d6 =>
 asImmZ true (.int .i64) (s.tmps 34) fun d8 =>
 asRoot true kField (s.roots (5, 0)) fun m10 d11 =>
 asM .own m10 <|
 asRoot false (.sl (.sl (.int .i64))) (s.roots (9, 0)) fun m13 d14 =>
 asM .own m13 <|
 .mat (loopF (i_Field_reduce_l8 d6 d11) (d4, d8, d14)) fun x => .ret (i_Field_reduce_l8_out d6 d11 x)
noncomputable def i_Field_reduce_l8_L : LoopI := ⟨([3, 7, 8, 33, 34], [(5, 0), (9, 0)]), ([7, 8], [(9, 0)]), i_Field_reduce_l8_D⟩
noncomputable def i_Field_reduce_A : List (Nat × LoopI) := [(3, i_Field_reduce_l3_L), (15, i_Field_reduce_l15_L), (25, i_Field_reduce_l25_L), (20, i_Field_reduce_l20_L), (8, i_Field_reduce_l8_L)]
set_option maxRecDepth 100000 in
theorem i_Field_reduce_l3_step : ∀ (z3_0 : Bool) (h3_0_0 : Int) (h3_0_1 : Int) (h3_0_2 : (List (List Int))) (h3_0_3 : Int) (h3_0_5 : (Int × (Int × Unit))) (x : (Int × (List (List Int)))) (c : St → Option (Ex × St)), den i_Field_reduce_V i_Field_reduce_A (loopAt i_Field_reduce_b 0) (i_Field_reduce_l3_mk z3_0 h3_0_0 h3_0_1 h3_0_2 h3_0_3 h3_0_5 x) (roundK i_Field_reduce_l3_L.kp i_Field_reduce_l3_L.kx c) = (i_Field_reduce_l3 h3_0_2 h3_0_3 x).run (roundR (i_Field_reduce_l3_mk z3_0 h3_0_0 h3_0_1 h3_0_2 h3_0_3 h3_0_5) (i_Field_reduce_l3_out z3_0 h3_0_0 h3_0_1 h3_0_2 h3_0_3 h3_0_5) c) := fun _ _ _ _ _ _ _ _ => by
 kernel_rfl
theorem i_Field_reduce_l3_ok : LoopOK i_Field_reduce_V i_Field_reduce_A (loopAt i_Field_reduce_b 0) i_Field_reduce_l3_L := loopOK_of fun s e s' h => by
 generalize hs : restrict i_Field_reduce_l3_L.kp s = s1 at h
 have h : (i_Field_reduce_l3_D s1).run some = some (e, s') := h
 obtain ⟨d2, e1, h_0⟩ := asImmZ_spec h
 obtain ⟨e3, h_1⟩ := asPtr_spec h_0
 obtain ⟨e4, h_2⟩ := asRef_spec h_1
 obtain ⟨d6, e5, h_3⟩ := asImmZ_spec h_2
 obtain ⟨z9, d8, e7, h_4⟩ := asImm_spec h_3
 obtain ⟨d11, e10, h_5⟩ := asImmZ_spec h_4
 obtain ⟨d13, e12, h_6⟩ := asImmZ_spec h_5
 obtain ⟨m15, d16, e14, h_7⟩ := asRoot_spec h_6
 obtain ⟨rfl, h_8⟩ := asM_spec h_7
 obtain ⟨m18, d19, e17, h_9⟩ := asRoot_spec h_8
 obtain ⟨rfl, h_10⟩ := asM_spec h_9
 obtain ⟨y, hy, hz⟩ := mat_ret h_10
 refine ⟨_, _, i_Field_reduce_l3_mk z9 d2 d6 d8 d11 d16, i_Field_reduce_l3_out z9 d2 d6 d8 d11 d16, i_Field_reduce_l3 d8 d11, (d13, d19), y, ?_, hy, ?_, i_Field_reduce_l3_step z9 d2 d6 d8 d11 d16⟩
 ·subst hs; exact restrict_eq (T := [(1, (.imm true (.int .i64) d2)), (3, (.ptr (5, 0) [])), (7, (.ref (9, 0) [])), (8, (.imm true (.int .i64) d6)), (21, (.imm z9 (.sl (.sl (.int .i64))) d8)), (22, (.imm true (.int .i64) d11)), (23, (.imm true (.int .i64) d13))]) (U := [((5, 0), some ⟨true, kField, .own, d16⟩), ((9, 0), some ⟨false, (.sl (.sl (.int .i64))), .own, d19⟩)]) rfl rfl ⟨e1, e3, e4, e5, e7, e10, e12, trivial⟩ ⟨e14, e17, trivial⟩
 ·exact Option.some.inj hz
set_option maxRecDepth 100000 in
theorem i_Field_reduce_l15_step : ∀ (h15_0_0 : Int) (h15_0_1 : Nat) (h15_0_2 : Int) (h15_0_3 : Int) (h15_0_4 : Int) (h15_0_5 : Int) (h15_0_7 : (Int × (Int × Unit))) (h15_0_9 : Int) (x : (Int × (List (List Int)))) (c : St → Option (Ex × St)), den i_Field_reduce_V i_Field_reduce_A (loopAt i_Field_reduce_b 2) (i_Field_reduce_l15_mk h15_0_0 h15_0_1 h15_0_2 h15_0_3 h15_0_4 h15_0_5 h15_0_7 h15_0_9 x) (roundK i_Field_reduce_l15_L.kp i_Field_reduce_l15_L.kx c) = (i_Field_reduce_l15 h15_0_1 h15_0_2 h15_0_5 h15_0_7 x).run (roundR (i_Field_reduce_l15_mk h15_0_0 h15_0_1 h15_0_2 h15_0_3 h15_0_4 h15_0_5 h15_0_7 h15_0_9) (i_Field_reduce_l15_out h15_0_0 h15_0_1 h15_0_2 h15_0_3 h15_0_4 h15_0_5 h15_0_7 h15_0_9) c) := fun _ _ _ _ _ _ _ _ _ _ => by
 kernel_rfl
theorem i_Field_reduce_l15_ok : LoopOK i_Field_reduce_V i_Field_reduce_A (loopAt i_Field_reduce_b 2) i_Field_reduce_l15_L := loopOK_of fun s e s' h => by
 generalize hs : restrict i_Field_reduce_l15_L.kp s = s1 at h
 have h : (i_Field_reduce_l15_D s1).run some = some (e, s') := h
 obtain ⟨e1, h_0⟩ := asPtr_spec h
 obtain ⟨e2, h_1⟩ := asRef_spec h_0
 obtain ⟨d4, e3, h_2⟩ := asImmZ_spec h_1
 obtain ⟨e5, h_3⟩ := asPtr_spec h_2
 obtain ⟨i7, e6, h_4⟩ := asRef1_spec h_3
 obtain ⟨d9, e8, h_5⟩ := asImmZ_spec h_4
 obtain ⟨d11, e10, h_6⟩ := asImmZ_spec h_5
 obtain ⟨d13, e12, h_7⟩ := asImmZ_spec h_6
 obtain ⟨d15, e14, h_8⟩ := asImmZ_spec h_7
 obtain ⟨d17, e16, h_9⟩ := asImmZ_spec h_8
 obtain ⟨m19, d20, e18, h_10⟩ := asRoot_spec h_9
 obtain ⟨rfl, h_11⟩ := asM_spec h_10
 obtain ⟨m22, d23, e21, h_12⟩ := asRoot_spec h_11
 obtain ⟨rfl, h_13⟩ := asM_spec h_12
 obtain ⟨m25, d26, e24, h_14⟩ := asRoot_spec h_13
 obtain ⟨rfl, h_15⟩ := asM_spec h_14
 obtain ⟨y, hy, hz⟩ := mat_ret h_15
 refine ⟨_, _, i_Field_reduce_l15_mk d4 i7 d9 d11 d13 d15 d20 d26, i_Field_reduce_l15_out d4 i7 d9 d11 d13 d15 d20 d26, i_Field_reduce_l15 i7 d9 d15 d20, (d17, d23), y, ?_, hy, ?_, i_Field_reduce_l15_step d4 i7 d9 d11 d13 d15 d20 d26⟩
 ·subst hs; exact restrict_eq (T := [(3, (.ptr (5, 0) [])), (7, (.ref (9, 0) [])), (8, (.imm true (.int .i64) d4)), (11, (.ptr (13, 0) [])), (13, (.ref (9, 0) [.idx i7])), (14, (.imm true (.int .i64) d9)), (33, (.imm true (.int .i64) d11)), (34, (.imm true (.int .i64) d13)), (76, (.imm true (.int .i64) d15)), (77, (.imm true (.int .i64) d17))]) (U := [((5, 0), some ⟨true, kField, .own, d20⟩), ((9, 0), some ⟨false, (.sl (.sl (.int .i64))), .own, d23⟩), ((13, 0), some ⟨true, (.int .i64), .own, d26⟩)]) rfl rfl ⟨e1, e2, e3, e5, e6, e8, e10, e12, e14, e16, trivial⟩ ⟨e18, e21, e24, trivial⟩
 ·exact Option.some.inj hz
set_option maxRecDepth 100000 in
theorem i_Field_reduce_l25_step : ∀ (h25_0_0 : Int) (h25_0_1 : Nat) (h25_0_2 : Nat) (h25_0_3 : Int) (h25_0_4 : Int) (h25_0_5 : Int) (h25_0_6 : Int) (h25_0_7 : Int) (h25_0_8 : Int) (h25_0_10 : (Int × (Int × Unit))) (h25_0_12 : Int) (x : (Int × (List (List Int)))) (c : St → Option (Ex × St)), den i_Field_reduce_V i_Field_reduce_A (loopAt i_Field_reduce_b 4) (i_Field_reduce_l25_mk h25_0_0 h25_0_1 h25_0_2 h25_0_3 h25_0_4 h25_0_5 h25_0_6 h25_0_7 h25_0_8 h25_0_10 h25_0_12 x) (roundK i_Field_reduce_l25_L.kp i_Field_reduce_l25_L.kx c) = (i_Field_reduce_l25 h25_0_1 h25_0_2 h25_0_3 h25_0_8 h25_0_10 x).run (roundR (i_Field_reduce_l25_mk h25_0_0 h25_0_1 h25_0_2 h25_0_3 h25_0_4 h25_0_5 h25_0_6 h25_0_7 h25_0_8 h25_0_10 h25_0_12) (i_Field_reduce_l25_out h25_0_0 h25_0_1 h25_0_2 h25_0_3 h25_0_4 h25_0_5 h25_0_6 h25_0_7 h25_0_8 h25_0_10 h25_0_12) c) := fun _ _ _ _ _ _ _ _ _ _ _ _ _ => by
 kernel_rfl
theorem i_Field_reduce_l25_ok : LoopOK i_Field_reduce_V i_Field_reduce_A (loopAt i_Field_reduce_b 4) i_Field_reduce_l25_L := loopOK_of fun s e s' h => by
 generalize hs : restrict i_Field_reduce_l25_L.kp s = s1 at h
 have h : (i_Field_reduce_l25_D s1).run some = some (e, s') := h
 obtain ⟨e1, h_0⟩ := asPtr_spec h
 obtain ⟨e2, h_1⟩ := asRef_spec h_0
 obtain ⟨d4, e3, h_2⟩ := asImmZ_spec h_1
 obtain ⟨e5, h_3⟩ := asPtr_spec h_2
 obtain ⟨i7, e6, h_4⟩ := asRef1_spec h_3
 obtain ⟨i9, e8, h_5⟩ := asRef1_spec h_4
 obtain ⟨d11, e10, h_6⟩ := asImmZ_spec h_5
 obtain ⟨d13, e12, h_7⟩ := asImmZ_spec h_6
 obtain ⟨d15, e14, h_8⟩ := asImmZ_spec h_7
 obtain ⟨e16, h_9⟩ := asRef_spec h_8
 obtain ⟨d18, e17, h_10⟩ := asImmZ_spec h_9
 obtain ⟨d20, e19, h_11⟩ := asImmZ_spec h_10
 obtain ⟨d22, e21, h_12⟩ := asImmZ_spec h_11
 obtain ⟨d24, e23, h_13⟩ := asImmZ_spec h_12
 obtain ⟨m26, d27, e25, h_14⟩ := asRoot_spec h_13
 obtain ⟨rfl, h_15⟩ := asM_spec h_14
 obtain ⟨m29, d30, e28, h_16⟩ := asRoot_spec h_15
 obtain ⟨rfl, h_17⟩ := asM_spec h_16
 obtain ⟨m32, d33, e31, h_18⟩ := asRoot_spec h_17
 obtain ⟨rfl, h_19⟩ := asM_spec h_18
 obtain ⟨y, hy, hz⟩ := mat_ret h_19
 refine ⟨_, _, i_Field_reduce_l25_mk d4 i7 i9 d11 d13 d15 d18 d20 d22 d27 d33, i_Field_reduce_l25_out d4 i7 i9 d11 d13 d15 d18 d20 d22 d27 d33, i_Field_reduce_l25 i7 i9 d11 d22 d27, (d24, d30), y, ?_, hy, ?_, i_Field_reduce_l25_step d4 i7 i9 d11 d13 d15 d18 d20 d22 d27 d33⟩
 ·subst hs; exact restrict_eq (T := [(3, (.ptr (5, 0) [])), (7, (.ref (9, 0) [])), (8, (.imm true (.int .i64) d4)), (11, (.ptr (13, 0) [])), (13, (.ref (9, 0) [.idx i7])), (17, (.ref (9, 0) [.idx i9])), (18, (.imm true (.int .i64) d11)), (33, (.imm true (.int .i64) d13)), (34, (.imm true (.int .i64) d15)), (91, (.ref (9, 0) [])), (92, (.imm true (.int .i64) d18)), (93, (.imm true (.int .i64) d20)), (110, (.imm true (.int .i64) d22)), (111, (.imm true (.int .i64) d24))]) (U := [((5, 0), some ⟨true, kField, .own, d27⟩), ((9, 0), some ⟨false, (.sl (.sl (.int .i64))), .own, d30⟩), ((13, 0), some ⟨true, (.int .i64), .own, d33⟩)]) rfl rfl ⟨e1, e2, e3, e5, e6, e8, e10, e12, e14, e16, e17, e19, e21, e23, trivial⟩ ⟨e25, e28, e31, trivial⟩
 ·exact Option.some.inj hz
set_option maxRecDepth 100000 in
theorem i_Field_reduce_l20_step : ∀ (h20_0_0 : Int) (h20_0_1 : Nat) (h20_0_2 : Int) (h20_0_3 : Int) (h20_0_4 : Int) (h20_0_6 : (Int × (Int × Unit))) (h20_0_8 : Int) (x : (Int × (List (List Int)))) (c : St → Option (Ex × St)), den i_Field_reduce_V i_Field_reduce_A (loopAt i_Field_reduce_b 3) (i_Field_reduce_l20_mk h20_0_0 h20_0_1 h20_0_2 h20_0_3 h20_0_4 h20_0_6 h20_0_8 x) (roundK i_Field_reduce_l20_L.kp i_Field_reduce_l20_L.kx c) = (i_Field_reduce_l20 h20_0_0 h20_0_1 h20_0_4 h20_0_6 h20_0_8 x).run (roundR (i_Field_reduce_l20_mk h20_0_0 h20_0_1 h20_0_2 h20_0_3 h20_0_4 h20_0_6 h20_0_8) (i_Field_reduce_l20_out h20_0_0 h20_0_1 h20_0_2 h20_0_3 h20_0_4 h20_0_6 h20_0_8) c) := fun _ _ _ _ _ _ _ _ _ => by
 kernel_rfl
theorem i_Field_reduce_l20_ok : LoopOK i_Field_reduce_V i_Field_reduce_A (loopAt i_Field_reduce_b 3) i_Field_reduce_l20_L := loopOK_of fun s e s' h => by
 generalize hs : restrict i_Field_reduce_l20_L.kp s = s1 at h
 have h : (i_Field_reduce_l20_D s1).run some = some (e, s') := h
 obtain ⟨e1, h_0⟩ := asPtr_spec h
 obtain ⟨e2, h_1⟩ := asRef_spec h_0
 obtain ⟨d4, e3, h_2⟩ := asImmZ_spec h_1
 obtain ⟨e5, h_3⟩ := asPtr_spec h_2
 obtain ⟨i7, e6, h_4⟩ := asRef1_spec h_3
 obtain ⟨d9, e8, h_5⟩ := asImmZ_spec h_4
 obtain ⟨d11, e10, h_6⟩ := asImmZ_spec h_5
 obtain ⟨e12, h_7⟩ := asRef_spec h_6
 obtain ⟨d14, e13, h_8⟩ := asImmZ_spec h_7
 obtain ⟨d16, e15, h_9⟩ := asImmZ_spec h_8
 obtain ⟨m18, d19, e17, h_10⟩ := asRoot_spec h_9
 obtain ⟨rfl, h_11⟩ := asM_spec h_10
 obtain ⟨m21, d22, e20, h_12⟩ := asRoot_spec h_11
 obtain ⟨rfl, h_13⟩ := asM_spec h_12
 obtain ⟨m24, d25, e23, h_14⟩ := asRoot_spec h_13
 obtain ⟨rfl, h_15⟩ := asM_spec h_14
 obtain ⟨y, hy, hz⟩ := mat_ret h_15
 refine ⟨_, _, i_Field_reduce_l20_mk d4 i7 d9 d11 d14 d19 d25, i_Field_reduce_l20_out d4 i7 d9 d11 d14 d19 d25, i_Field_reduce_l20 d4 i7 d14 d19 d25, (d16, d22), y, ?_, hy, ?_, i_Field_reduce_l20_step d4 i7 d9 d11 d14 d19 d25⟩
 ·subst hs; exact restrict_eq (T := [(3, (.ptr (5, 0) [])), (7, (.ref (9, 0) [])), (8, (.imm true (.int .i64) d4)), (11, (.ptr (13, 0) [])), (13, (.ref (9, 0) [.idx i7])), (33, (.imm true (.int .i64) d9)), (34, (.imm true (.int .i64) d11)), (91, (.ref (9, 0) [])), (92, (.imm true (.int .i64) d14)), (93, (.imm true (.int .i64) d16))]) (U := [((5, 0), some ⟨true, kField, .own, d19⟩), ((9, 0), some ⟨false, (.sl (.sl (.int .i64))), .own, d22⟩), ((13, 0), some ⟨true, (.int .i64), .own, d25⟩)]) rfl rfl ⟨e1, e2, e3, e5, e6, e8, e10, e12, e13, e15, trivial⟩ ⟨e17, e20, e23, trivial⟩
 ·exact Option.some.inj hz
set_option maxRecDepth 100000 in
theorem i_Field_reduce_l8_step : ∀ (h8_0_1 : Int) (h8_0_3 : (Int × (Int × Unit))) (x : (Int × Int × (List (List Int)))) (c : St → Option (Ex × St)), den i_Field_reduce_V i_Field_reduce_A (loopAt i_Field_reduce_b 1) (i_Field_reduce_l8_mk h8_0_1 h8_0_3 x) (roundK i_Field_reduce_l8_L.kp i_Field_reduce_l8_L.kx c) = (i_Field_reduce_l8 h8_0_1 h8_0_3 x).run (roundR (i_Field_reduce_l8_mk h8_0_1 h8_0_3) (i_Field_reduce_l8_out h8_0_1 h8_0_3) c) := fun _ _ _ _ => by
 kernel_rfl
theorem i_Field_reduce_l8_ok : LoopOK i_Field_reduce_V i_Field_reduce_A (loopAt i_Field_reduce_b 1) i_Field_reduce_l8_L := loopOK_of fun s e s' h => by
 generalize hs : restrict i_Field_reduce_l8_L.kp s = s1 at h
 have h : (i_Field_reduce_l8_D s1).run some = some (e, s') := h
 obtain ⟨e1, h_0⟩ := asPtr_spec h
 obtain ⟨e2, h_1⟩ := asRef_spec h_0
 obtain ⟨d4, e3, h_2⟩ := asImmZ_spec h_1
 obtain ⟨d6, e5, h_3⟩ := asImmZ_spec h_2
 obtain ⟨d8, e7, h_4⟩ := asImmZ_spec h_3
 obtain ⟨m10, d11, e9, h_5⟩ := asRoot_spec h_4
 obtain ⟨rfl, h_6⟩ := asM_spec h_5
 obtain ⟨m13, d14, e12, h_7⟩ := asRoot_spec h_6
 obtain ⟨rfl, h_8⟩ := asM_spec h_7
 obtain ⟨y, hy, hz⟩ := mat_ret h_8
 refine ⟨_, _, i_Field_reduce_l8_mk d6 d11, i_Field_reduce_l8_out d6 d11, i_Field_reduce_l8 d6 d11, (d4, d8, d14), y, ?_, hy, ?_, i_Field_reduce_l8_step d6 d11⟩
 ·subst hs; exact restrict_eq (T := [(3, (.ptr (5, 0) [])), (7, (.ref (9, 0) [])), (8, (.imm true (.int .i64) d4)), (33, (.imm true (.int .i64) d6)), (34, (.imm true (.int .i64) d8))]) (U := [((5, 0), some ⟨true, kField, .own, d11⟩), ((9, 0), some ⟨false, (.sl (.sl (.int .i64))), .own, d14⟩)]) rfl rfl ⟨e1, e2, e3, e5, e7, trivial⟩ ⟨e9, e12, trivial⟩
 ·exact Option.some.inj hz
noncomputable def i_Field_reduce_I : FnI := ⟨i_Field_reduce_b, Try.f58.results.toList, Try.f58.resultTypes.toList, i_Field_reduce_A⟩
noncomputable def i_Field_reduce_out (_zp0 : Bool) (_p0 : (Int × (Int × Unit))) (_p1 : Int) (_p2 : (List (List Int))) : (List (List Int)) → CallOut := fun r => ⟨(.ref (1, 0) []), [], [⟨false, (.sl (.sl (.int .i64))), .own, r⟩]⟩
set_option maxRecDepth 100000 in
theorem i_Field_reduce_eq : ∀ (zp0 : Bool) (p0 : (Int × (Int × Unit))) (p1 : Int) (p2 : (List (List Int))), denFn i_Field_reduce_V i_Field_reduce_I ⟨[(.imm true kField p0), (.imm true (.int .i64) p1), (.imm zp0 (.sl (.sl (.int .i64))) p2)], []⟩ = (i_Field_reduce p0 p1 p2).run fun r => some (i_Field_reduce_out zp0 p0 p1 p2 r) := fun _ _ _ _ => by kernel_rfl
noncomputable def i_Field_reduce_G (av : List AV) (rs : List Root) : Tre CallOut :=
 asCons av fun a0_ av0 =>
 asCons av0 fun a1_ av1 =>
 asCons av1 fun a2_ av2 =>
 asEnd av2 <|
 asEnd rs <|
 asImmZ true kField a0_ fun d1 =>
 asImmZ true (.int .i64) a1_ fun d2 =>
 asImm (.sl (.sl (.int .i64))) a2_ fun z4 d3 =>
 .mat (i_Field_reduce_F d1 d2 d3) fun r => .ret (i_Field_reduce_out z4 d1 d2 d3 r)
noncomputable def i_Field_reduce_c : Ctr := ⟨[], fun ci => i_Field_reduce_G ci.args ci.roots, false⟩
theorem i_Field_reduce_env : EnvOK Try.prog .none i_Field_reduce_V := (envOK_cons slices_Clone_int64_ok ent57 (envOK_cons nm1_ok ent106 (envOK_cons i_Field_inverse_ok ent108 (envOK_cons i_Field_mul_ok ent109 envOK_nil))))
set_option maxRecDepth 100000 in
theorem i_Field_reduce_ok : Contract Try.prog .none 58 i_Field_reduce_c := by
 have hl : LoopsOK i_Field_reduce_V i_Field_reduce_A i_Field_reduce_b := (loopsOK_all (n := 5) (by kernel_rfl) fun k hk => by
   match k, hk with
   | 0, _ => exact loopOK_at (id := 3) (L := i_Field_reduce_l3_L) (by kernel_rfl) (by kernel_rfl) i_Field_reduce_l3_ok
   | 1, _ => exact loopOK_at (id := 8) (L := i_Field_reduce_l8_L) (by kernel_rfl) (by kernel_rfl) i_Field_reduce_l8_ok
   | 2, _ => exact loopOK_at (id := 15) (L := i_Field_reduce_l15_L) (by kernel_rfl) (by kernel_rfl) i_Field_reduce_l15_ok
   | 3, _ => exact loopOK_at (id := 20) (L := i_Field_reduce_l20_L) (by kernel_rfl) (by kernel_rfl) i_Field_reduce_l20_ok
   | 4, _ => exact loopOK_at (id := 25) (L := i_Field_reduce_l25_L) (by kernel_rfl) (by kernel_rfl) i_Field_reduce_l25_ok)
 refine (contract_of (F := i_Field_reduce_I) tau_tys i_Field_reduce_env Try.func58 (by kernel_rfl) (by kernel_rfl) (by kernel_rfl) hl []).weaken ?_
 rintro ⟨av, rs⟩ co h
 have h : (i_Field_reduce_G av rs).run some = some co := h
 obtain ⟨a0_, av0, rfl, h_0⟩ := asCons_spec h
 obtain ⟨a1_, av1, rfl, h_1⟩ := asCons_spec h_0
 obtain ⟨a2_, av2, rfl, h_2⟩ := asCons_spec h_1
 obtain ⟨rfl, h_3⟩ := asEnd_spec h_2
 obtain ⟨rfl, h_4⟩ := asEnd_spec h_3
 obtain ⟨d1, rfl, h_5⟩ := asImmZ_spec h_4
 obtain ⟨d2, rfl, h_6⟩ := asImmZ_spec h_5
 obtain ⟨z4, d3, rfl, h_7⟩ := asImm_spec h_6
 exact fin_mat (i_Field_reduce_eq z4 d1 d2 d3) h_7
end Go.Proofs.Ytkgekgfmnhccmaa

namespace Go.Proofs.Ytkgekgfmnhccmaa
open Go Go.Abs Go.Proofs
noncomputable def i_size_int64S (p0 : (List (List Int))) : Tre Int :=
 .ret (p0.length : Int)
noncomputable def i_size_int64S_F (p0 : (List (List Int))) : Option Int := (i_size_int64S p0).run some
theorem i_size_int64S_spec (p0 : (List (List Int))) : i_size_int64S_F p0 = some (p0.length : Int) := rfl
noncomputable def i_size_int64S_V : Env := ⟨tau, [], []⟩
noncomputable def i_size_int64S_b : Code := (Try.f99.body).getD .skip
noncomputable def i_size_int64S_I : FnI := ⟨i_size_int64S_b, Try.f99.results.toList, Try.f99.resultTypes.toList, []⟩
noncomputable def i_size_int64S_out (_zp0 : Bool) (_p0 : (List (List Int))) : Int → CallOut := fun r => ⟨(.imm true (.int .i64) r), [], []⟩
set_option maxRecDepth 100000 in
theorem i_size_int64S_eq : ∀ (zp0 : Bool) (p0 : (List (List Int))), denFn i_size_int64S_V i_size_int64S_I ⟨[(.imm zp0 (.sl (.sl (.int .i64))) p0)], []⟩ = (i_size_int64S p0).run fun r => some (i_size_int64S_out zp0 p0 r) := fun _ _ => by kernel_rfl
noncomputable def i_size_int64S_G (av : List AV) (rs : List Root) : Tre CallOut :=
 asCons av fun a0_ av0 =>
 asEnd av0 <|
 asEnd rs <|
 asImm (.sl (.sl (.int .i64))) a0_ fun z2 d1 =>
 .ret (i_size_int64S_out z2 d1 (d1.length : Int))
noncomputable def i_size_int64S_c : Ctr := ⟨[], fun ci => i_size_int64S_G ci.args ci.roots, false⟩
theorem i_size_int64S_env : EnvOK Try.prog .none i_size_int64S_V := envOK_nil
set_option maxRecDepth 100000 in
theorem i_size_int64S_ok : Contract Try.prog .none 99 i_size_int64S_c := by
 have hl : LoopsOK i_size_int64S_V [] i_size_int64S_b := loopsOK_nil (by kernel_rfl)
 refine (contract_of (F := i_size_int64S_I) tau_tys i_size_int64S_env Try.func99 (by kernel_rfl) (by kernel_rfl) (by kernel_rfl) hl []).weaken ?_
 rintro ⟨av, rs⟩ co h
 have h : (i_size_int64S_G av rs).run some = some co := h
 obtain ⟨a0_, av0, rfl, h_0⟩ := asCons_spec h
 obtain ⟨rfl, h_1⟩ := asEnd_spec h_0
 obtain ⟨rfl, h_2⟩ := asEnd_spec h_1
 obtain ⟨z2, d1, rfl, h_3⟩ := asImm_spec h_2
 exact fin_ret (i_size_int64S_eq z2 d1) (i_size_int64S_spec d1) h_3
end Go.Proofs.Ytkgekgfmnhccmaa

namespace Go.Proofs.Ytkgekgfmnhccmaa
open Go Go.Abs Go.Proofs
noncomputable def i_Net_rank (p0 : TNet) (p1 : Int) : Tre Int :=
 .mat (i_Net_rows_F p0 p1) fun r1 =>
 .alt r1
  (fun a2 =>
   .mat (i_Field_reduce_F p0.1 p0.2.2.1 a2) fun r4 =>
   .ret (r4.length : Int))
  (fun b3 =>
   .mat (i_Field_reduce_F p0.1 p0.2.2.1 b3) fun r5 =>
   .ret (r5.length : Int))
noncomputable def i_Net_rank_F (p0 : TNet) (p1 : Int) : Option Int := (i_Net_rank p0 p1).run some
-- more
theorem irank_is {n : TN6} (h : NetP n) (node : Int) : i_Net_rank_F n node = some ((echV n.1 (messN n) (rowsV n node)).length : Int) := by
 have hl := rowsV_len h node
 obtain ⟨hm1, hm2, hm3⟩ := mess_ok h
 have hr := ired_is h.field (n := messN n) (by omega) (rowsV_GR h node) (by omega)
 rw [← hm1] at hr
 unfold i_Net_rank_F i_Net_rank
 rw [run_some_mat (irows_is h node)]
 by_cases h0 : node = 0
 ·rw [if_pos h0, Tre.run_inl, run_some_mat hr]; rfl
 ·rw [if_neg h0, Tre.run_inr, run_some_mat hr]; rfl
noncomputable def i_Net_rank_V : Env := ⟨tau, [(56, i_Net_rows_c), (58, i_Field_reduce_c), (99, i_size_int64S_c)], []⟩
noncomputable def i_Net_rank_b : Code := (Try.f50.body).getD .skip
noncomputable def i_Net_rank_I : FnI := ⟨i_Net_rank_b, Try.f50.results.toList, Try.f50.resultTypes.toList, []⟩
noncomputable def i_Net_rank_out (_zp0 : Bool) (_p0 : TNet) (_p1 : Int) : Int → CallOut := fun r => ⟨(.imm true (.int .i64) r), [], []⟩
set_option maxRecDepth 100000 in
theorem i_Net_rank_eq : ∀ (zp0 : Bool) (p0 : TNet) (p1 : Int), denFn i_Net_rank_V i_Net_rank_I ⟨[(.imm zp0 kNet p0), (.imm true (.int .i64) p1)], []⟩ = (i_Net_rank p0 p1).run fun r => some (i_Net_rank_out zp0 p0 p1 r) := fun _ _ _ => by kernel_rfl
noncomputable def i_Net_rank_G (av : List AV) (rs : List Root) : Tre CallOut :=
 asCons av fun a0_ av0 =>
 asCons av0 fun a1_ av1 =>
 asEnd av1 <|
 asEnd rs <|
 asImm kNet a0_ fun z2 d1 =>
 asImmZ true (.int .i64) a1_ fun d3 =>
 .mat (i_Net_rank_F d1 d3) fun r => .ret (i_Net_rank_out z2 d1 d3 r)
noncomputable def i_Net_rank_c : Ctr := ⟨[], fun ci => i_Net_rank_G ci.args ci.roots, false⟩
theorem i_Net_rank_env : EnvOK Try.prog .none i_Net_rank_V := (envOK_cons i_Net_rows_ok ent56 (envOK_cons i_Field_reduce_ok ent58 (envOK_cons i_size_int64S_ok ent99 envOK_nil)))
set_option maxRecDepth 100000 in
theorem i_Net_rank_ok : Contract Try.prog .none 50 i_Net_rank_c := by
 have hl : LoopsOK i_Net_rank_V [] i_Net_rank_b := loopsOK_nil (by kernel_rfl)
 refine (contract_of (F := i_Net_rank_I) tau_tys i_Net_rank_env Try.func50 (by kernel_rfl) (by kernel_rfl) (by kernel_rfl) hl []).weaken ?_
 rintro ⟨av, rs⟩ co h
 have h : (i_Net_rank_G av rs).run some = some co := h
 obtain ⟨a0_, av0, rfl, h_0⟩ := asCons_spec h
 obtain ⟨a1_, av1, rfl, h_1⟩ := asCons_spec h_0
 obtain ⟨rfl, h_2⟩ := asEnd_spec h_1
 obtain ⟨rfl, h_3⟩ := asEnd_spec h_2
 obtain ⟨z2, d1, rfl, h_4⟩ := asImm_spec h_3
 obtain ⟨d3, rfl, h_5⟩ := asImmZ_spec h_4
 exact fin_mat (i_Net_rank_eq z2 d1 d3) h_5
end Go.Proofs.Ytkgekgfmnhccmaa

namespace Go.Proofs.Ytkgekgfmnhccmaa
open Go Go.Abs Go.Proofs
-- more
end Go.Proofs.Ytkgekgfmnhccmaa

namespace Go.Proofs.Ytkgekgfmnhccmaa
open Go Go.Abs Go.Proofs
-- more
end Go.Proofs.Ytkgekgfmnhccmaa

namespace Go.Proofs.Ytkgekgfmnhccmaa
open Go Go.Abs Go.Proofs
-- more
end Go.Proofs.Ytkgekgfmnhccmaa

namespace Go.Proofs.Ytkgekgfmnhccmaa
open Go Go.Abs Go.Proofs
-- more
set_option maxRecDepth 100000
end Go.Proofs.Ytkgekgfmnhccmaa

namespace Go.Proofs.Ytkgekgfmnhccmaa
open Go Go.Abs Go.Proofs
-- more
end Go.Proofs.Ytkgekgfmnhccmaa

namespace Go.Proofs.Ytkgekgfmnhccmaa
open Go Go.Abs Go.Proofs
-- more
end Go.Proofs.Ytkgekgfmnhccmaa

namespace Go.Proofs.Ytkgekgfmnhccmaa
open Go Go.Abs Go.Proofs
-- more
def rankAtV (n : TN6) (node : Int) : Int × Int := if nodeC n node 0 = 0 then (((echV n.1 (messN n) (rowsV n node)).length : Int), 0) else (0, nodeC n node 0)
end Go.Proofs.Ytkgekgfmnhccmaa

namespace Go.Proofs.Ytkgekgfmnhccmaa
open Go Go.Abs Go.Proofs
noncomputable def i_RankAt (p0 : TNet) (p1 : Int) : Tre (Int × Int) :=
 .mat (i_nodeCode_i_always_F p0 p1) fun r1 =>
 .cond (!decide (r1 = 0))
  (.ret (0, r1))
  (.mat (i_Net_rank_F p0 p1) fun r2 =>
  .ret (r2, 0))
noncomputable def i_RankAt_F (p0 : TNet) (p1 : Int) : Option (Int × Int) := (i_RankAt p0 p1).run some
-- more
theorem i_RankAt_is (n : TN6) (node : Int) : i_RankAt_F n node = some (rankAtV n node) := by
 unfold i_RankAt_F i_RankAt rankAtV
 rw [run_some_mat (inode_is n node), Tre.run_cond]
 by_cases h0 : nodeC n node 0 = 0
 ·obtain ⟨h, _⟩ := nodeC_net h0
  rw [decide_eq_true h0, Bool.not_true, cond_false, if_pos h0, run_some_mat (irank_is h node)]
  rfl
 ·rw [decide_eq_false h0, if_neg h0]; rfl
noncomputable def i_RankAt_V : Env := ⟨tau, [(48, i_nodeCode_i_always_c), (50, i_Net_rank_c)], []⟩
noncomputable def i_RankAt_b : Code := (Try.f15.body).getD .skip
noncomputable def i_RankAt_I : FnI := ⟨i_RankAt_b, Try.f15.results.toList, Try.f15.resultTypes.toList, []⟩
noncomputable def i_RankAt_out (_zp0 : Bool) (_p0 : TNet) (_p1 : Int) : (Int × Int) → CallOut := fun r => ⟨(.tcons (.imm true (.int .i64) r.1) (.tcons (.imm true (.int .i64) r.2) .tnil)), [], []⟩
set_option maxRecDepth 100000 in
theorem i_RankAt_eq : ∀ (zp0 : Bool) (p0 : TNet) (p1 : Int), denFn i_RankAt_V i_RankAt_I ⟨[(.imm zp0 kNet p0), (.imm true (.int .i64) p1)], []⟩ = (i_RankAt p0 p1).run fun r => some (i_RankAt_out zp0 p0 p1 r) := fun _ _ _ => by kernel_rfl
noncomputable def i_RankAt_G (av : List AV) (rs : List Root) : Tre CallOut :=
 asCons av fun a0_ av0 =>
 asCons av0 fun a1_ av1 =>
 asEnd av1 <|
 asEnd rs <|
 asImm kNet a0_ fun z2 d1 =>
 asImmZ true (.int .i64) a1_ fun d3 =>
 .mat (i_RankAt_F d1 d3) fun r => .ret (i_RankAt_out z2 d1 d3 r)
noncomputable def i_RankAt_c : Ctr := ⟨[], fun ci => i_RankAt_G ci.args ci.roots, false⟩
theorem i_RankAt_env : EnvOK Try.prog .none i_RankAt_V := (envOK_cons i_nodeCode_i_always_ok ent48 (envOK_cons i_Net_rank_ok ent50 envOK_nil))
set_option maxRecDepth 100000 in
theorem i_RankAt_ok : Contract Try.prog .none 15 i_RankAt_c := by
 have hl : LoopsOK i_RankAt_V [] i_RankAt_b := loopsOK_nil (by kernel_rfl)
 refine (contract_of (F := i_RankAt_I) tau_tys i_RankAt_env Try.func15 (by kernel_rfl) (by kernel_rfl) (by kernel_rfl) hl []).weaken ?_
 rintro ⟨av, rs⟩ co h
 have h : (i_RankAt_G av rs).run some = some co := h
 obtain ⟨a0_, av0, rfl, h_0⟩ := asCons_spec h
 obtain ⟨a1_, av1, rfl, h_1⟩ := asCons_spec h_0
 obtain ⟨rfl, h_2⟩ := asEnd_spec h_1
 obtain ⟨rfl, h_3⟩ := asEnd_spec h_2
 obtain ⟨z2, d1, rfl, h_4⟩ := asImm_spec h_3
 obtain ⟨d3, rfl, h_5⟩ := asImmZ_spec h_4
 exact fin_mat (i_RankAt_eq z2 d1 d3) h_5
end Go.Proofs.Ytkgekgfmnhccmaa

namespace Go.Proofs.Ytkgekgfmnhccmaa
open Go Go.Abs Go.Proofs
noncomputable def l_f6ints_l4 (h4_0_0 : (List Int)) (h4_0_1 : (List Int)) : Int → Tre (Int ⊕ (Bool ⊕ Unit)) := fun s4 =>
 .cond (decide (s4 < (h4_0_0.length : Int)))
  (.ite (0 ≤ s4 ∧ s4 < (h4_0_0.length : Int)) <|
  .mat (h4_0_0[s4.toNat]?) fun x1 =>
  .ite (0 ≤ s4 ∧ s4 < (h4_0_1.length : Int)) <|
  .mat (h4_0_1[s4.toNat]?) fun x2 =>
  .cond (!decide (x1 = x2))
   (.ret (.inr (.inl false)))
   (.ret (.inl (iwrap .i64 (s4 + 1)))))
  (.ret (.inr (.inr ())))
noncomputable def l_f6ints (p0 : (List Int)) (p1 : (List Int)) : Tre Bool :=
 .cond (!decide ((p0.length : Int) = (p1.length : Int)))
  (.ret false)
  (.mat (loopF (l_f6ints_l4 p0 p1) 0) fun l3 =>
  .alt l3
   (fun a4 =>
    .ret a4)
   (fun _ =>
    .ret true))
noncomputable def l_f6ints_F (p0 : (List Int)) (p1 : (List Int)) : Option Bool := (l_f6ints p0 p1).run some
-- more
theorem f6ints_is {u : List Int} (hs : u.length ≤ 1000000) : l_f6ints_F u u = some true := by
 have key := all_loop' (xs := u) (step := l_f6ints_l4 u u) (β := Bool ⊕ Unit) (fun _ => true) (.inl false) (.inr ()) (by
  intro i x hx
  have hi := (List.getElem?_eq_some_iff.1 hx).1
  unfold l_f6ints_l4
  rw [run_inb hx, Tre.run_ite, if_pos (by omega), Int.toNat_natCast, run_some_mat hx, Tre.run_cond, decide_eq_true rfl, Bool.not_true, cond_false, Tre.run_ret, iwrap_succ (by omega)]
  rfl) (by
  unfold l_f6ints_l4
  exact run_out)
 unfold l_f6ints_F l_f6ints
 rw [Tre.run_cond, decide_eq_true rfl, Bool.not_true, cond_false, run_some_mat key]
 have : u.all (fun _ => true) = true := by simp
 rw [this]
 rfl
noncomputable def l_f6ints_V : Env := ⟨tau, [], []⟩
noncomputable def l_f6ints_b : Code := (Try.f16.body).getD .skip
noncomputable def l_f6ints_l4_mk (z4_0 : Bool) (z4_1 : Bool) (h4_0_0 : (List Int)) (h4_0_1 : (List Int)) : Int → St := fun x => stOf [(0, (.imm z4_0 (.sl (.int .i64)) h4_0_0)), (1, (.imm z4_1 (.sl (.int .i64)) h4_0_1)), (5, (.imm true (.int .i64) x))] []
noncomputable def l_f6ints_l4_out (_z4_0 : Bool) (_z4_1 : Bool) (_h4_0_0 : (List Int)) (_h4_0_1 : (List Int)) : (Bool ⊕ Unit) → Ex × St
 | .inl x => (.ret, stOf [(4, (.imm true .bool x))] [])
 | .inr _ => (.exit 0, stOf [(4, .dead)] [])
noncomputable def l_f6ints_l4_D (s : St) : Tre (Ex × St) :=
 asImm (.sl (.int .i64)) (s.tmps 0) fun z3 d2 =>
 asImm (.sl (.int .i64)) (s.tmps 1) fun z6 d5 =>
 asImmZ true (.int .i64) (s.tmps 5) fun d8 =>
 .mat (loopF (l_f6ints_l4 d2 d5) d8) fun x => .alt x (fun a0 => .ret (l_f6ints_l4_out z3 z6 d2 d5 (.inl a0))) (fun b0 => .ret (l_f6ints_l4_out z3 z6 d2 d5 (.inr b0)))
noncomputable def l_f6ints_l4_L : LoopI := ⟨([0, 1, 5], []), ([4], []), l_f6ints_l4_D⟩
noncomputable def l_f6ints_A : List (Nat × LoopI) := [(4, l_f6ints_l4_L)]
set_option maxRecDepth 100000 in
theorem l_f6ints_l4_step : ∀ (z4_0 : Bool) (z4_1 : Bool) (h4_0_0 : (List Int)) (h4_0_1 : (List Int)) (x : Int) (c : St → Option (Ex × St)), den l_f6ints_V l_f6ints_A (loopAt l_f6ints_b 0) (l_f6ints_l4_mk z4_0 z4_1 h4_0_0 h4_0_1 x) (roundK l_f6ints_l4_L.kp l_f6ints_l4_L.kx c) = (l_f6ints_l4 h4_0_0 h4_0_1 x).run (roundR (l_f6ints_l4_mk z4_0 z4_1 h4_0_0 h4_0_1) (l_f6ints_l4_out z4_0 z4_1 h4_0_0 h4_0_1) c) := fun _ _ _ _ _ _ => by
 kernel_rfl
theorem l_f6ints_l4_ok : LoopOK l_f6ints_V l_f6ints_A (loopAt l_f6ints_b 0) l_f6ints_l4_L := loopOK_of fun s e s' h => by
 generalize hs : restrict l_f6ints_l4_L.kp s = s1 at h
 have h : (l_f6ints_l4_D s1).run some = some (e, s') := h
 obtain ⟨z3, d2, e1, h_0⟩ := asImm_spec h
 obtain ⟨z6, d5, e4, h_1⟩ := asImm_spec h_0
 obtain ⟨d8, e7, h_2⟩ := asImmZ_spec h_1
 obtain ⟨y, hy, hz⟩ := mat_some h_2
 refine ⟨_, _, l_f6ints_l4_mk z3 z6 d2 d5, l_f6ints_l4_out z3 z6 d2 d5, l_f6ints_l4 d2 d5, d8, y, ?_, hy, ?_, l_f6ints_l4_step z3 z6 d2 d5⟩
 ·subst hs; exact restrict_eq (T := [(0, (.imm z3 (.sl (.int .i64)) d2)), (1, (.imm z6 (.sl (.int .i64)) d5)), (5, (.imm true (.int .i64) d8))]) (U := []) rfl rfl ⟨e1, e4, e7, trivial⟩ trivial
 ·rcases y with x | x <;> exact Option.some.inj hz
noncomputable def l_f6ints_I : FnI := ⟨l_f6ints_b, Try.f16.results.toList, Try.f16.resultTypes.toList, l_f6ints_A⟩
noncomputable def l_f6ints_out (_zp0 : Bool) (_zp1 : Bool) (_p0 : (List Int)) (_p1 : (List Int)) : Bool → CallOut := fun r => ⟨(.imm true .bool r), [], []⟩
set_option maxRecDepth 100000 in
theorem l_f6ints_eq : ∀ (zp0 : Bool) (zp1 : Bool) (p0 : (List Int)) (p1 : (List Int)), denFn l_f6ints_V l_f6ints_I ⟨[(.imm zp0 (.sl (.int .i64)) p0), (.imm zp1 (.sl (.int .i64)) p1)], []⟩ = (l_f6ints p0 p1).run fun r => some (l_f6ints_out zp0 zp1 p0 p1 r) := fun _ _ _ _ => by kernel_rfl
noncomputable def l_f6ints_G (av : List AV) (rs : List Root) : Tre CallOut :=
 asCons av fun a0_ av0 =>
 asCons av0 fun a1_ av1 =>
 asEnd av1 <|
 asEnd rs <|
 asImm (.sl (.int .i64)) a0_ fun z2 d1 =>
 asImm (.sl (.int .i64)) a1_ fun z4 d3 =>
 .mat (l_f6ints_F d1 d3) fun r => .ret (l_f6ints_out z2 z4 d1 d3 r)
noncomputable def l_f6ints_c : Ctr := ⟨[], fun ci => l_f6ints_G ci.args ci.roots, false⟩
theorem l_f6ints_env : EnvOK Try.prog .none l_f6ints_V := envOK_nil
set_option maxRecDepth 100000 in
theorem l_f6ints_ok : Contract Try.prog .none 16 l_f6ints_c := by
 have hl : LoopsOK l_f6ints_V l_f6ints_A l_f6ints_b := (loopsOK_all (n := 1) (by kernel_rfl) fun k hk => by
   match k, hk with
   | 0, _ => exact loopOK_at (id := 4) (L := l_f6ints_l4_L) (by kernel_rfl) (by kernel_rfl) l_f6ints_l4_ok)
 refine (contract_of (F := l_f6ints_I) tau_tys l_f6ints_env Try.func16 (by kernel_rfl) (by kernel_rfl) (by kernel_rfl) hl []).weaken ?_
 rintro ⟨av, rs⟩ co h
 have h : (l_f6ints_G av rs).run some = some co := h
 obtain ⟨a0_, av0, rfl, h_0⟩ := asCons_spec h
 obtain ⟨a1_, av1, rfl, h_1⟩ := asCons_spec h_0
 obtain ⟨rfl, h_2⟩ := asEnd_spec h_1
 obtain ⟨rfl, h_3⟩ := asEnd_spec h_2
 obtain ⟨z2, d1, rfl, h_4⟩ := asImm_spec h_3
 obtain ⟨z4, d3, rfl, h_5⟩ := asImm_spec h_4
 exact fin_mat (l_f6ints_eq z2 z4 d1 d3) h_5
end Go.Proofs.Ytkgekgfmnhccmaa

namespace Go.Proofs.Ytkgekgfmnhccmaa
open Go Go.Abs Go.Proofs
noncomputable def l_f6rows_l4 (h4_0_0 : (List (List Int))) (h4_0_1 : (List (List Int))) : Int → Tre (Int ⊕ (Bool ⊕ Unit)) := fun s4 =>
 .cond (decide (s4 < (h4_0_0.length : Int)))
  (.ite (0 ≤ s4 ∧ s4 < (h4_0_0.length : Int)) <|
  .mat (h4_0_0[s4.toNat]?) fun x1 =>
  .ite (0 ≤ s4 ∧ s4 < (h4_0_1.length : Int)) <|
  .mat (h4_0_1[s4.toNat]?) fun x2 =>
  .mat (l_f6ints_F x1 x2) fun r3 =>
  .cond (!r3)
   (.ret (.inr (.inl false)))
   (.ret (.inl (iwrap .i64 (s4 + 1)))))
  (.ret (.inr (.inr ())))
noncomputable def l_f6rows (p0 : (List (List Int))) (p1 : (List (List Int))) : Tre Bool :=
 .cond (!decide ((p0.length : Int) = (p1.length : Int)))
  (.ret false)
  (.mat (loopF (l_f6rows_l4 p0 p1) 0) fun l4 =>
  .alt l4
   (fun a5 =>
    .ret a5)
   (fun _ =>
    .ret true))
noncomputable def l_f6rows_F (p0 : (List (List Int))) (p1 : (List (List Int))) : Option Bool := (l_f6rows p0 p1).run some
-- more
theorem f6rows_is {u : List (List Int)} (hs : u.length ≤ 1000000) (h : ∀ r ∈ u, r.length ≤ 1000000) : l_f6rows_F u u = some true := by
 have key := all_loop' (xs := u) (step := l_f6rows_l4 u u) (β := Bool ⊕ Unit) (fun _ => true) (.inl false) (.inr ()) (by
  intro i x hx
  have hi := (List.getElem?_eq_some_iff.1 hx).1
  unfold l_f6rows_l4
  rw [run_inb hx, Tre.run_ite, if_pos (by omega), Int.toNat_natCast, run_some_mat hx, run_some_mat (f6ints_is (h x (List.mem_of_getElem? hx))), Tre.run_cond, Bool.not_true, cond_false, Tre.run_ret, iwrap_succ (by omega)]
  rfl) (by
  unfold l_f6rows_l4
  exact run_out)
 unfold l_f6rows_F l_f6rows
 rw [Tre.run_cond, decide_eq_true rfl, Bool.not_true, cond_false, run_some_mat key]
 have : u.all (fun _ => true) = true := by simp
 rw [this]
 rfl
noncomputable def l_f6rows_V : Env := ⟨tau, [(16, l_f6ints_c)], []⟩
noncomputable def l_f6rows_b : Code := (Try.f17.body).getD .skip
noncomputable def l_f6rows_l4_mk (z4_0 : Bool) (z4_1 : Bool) (h4_0_0 : (List (List Int))) (h4_0_1 : (List (List Int))) : Int → St := fun x => stOf [(0, (.imm z4_0 (.sl (.sl (.int .i64))) h4_0_0)), (1, (.imm z4_1 (.sl (.sl (.int .i64))) h4_0_1)), (5, (.imm true (.int .i64) x))] []
noncomputable def l_f6rows_l4_out (_z4_0 : Bool) (_z4_1 : Bool) (_h4_0_0 : (List (List Int))) (_h4_0_1 : (List (List Int))) : (Bool ⊕ Unit) → Ex × St
 | .inl x => (.ret, stOf [(4, (.imm true .bool x))] [])
 | .inr _ => (.exit 0, stOf [(4, .dead)] [])
noncomputable def l_f6rows_l4_D (s : St) : Tre (Ex × St) :=
 asImm (.sl (.sl (.int .i64))) (s.tmps 0) fun z3 d2 =>
 asImm (.sl (.sl (.int .i64))) (s.tmps 1) fun z6 d5 =>
 asImmZ true (.int .i64) (s.tmps 5) fun d8 =>
 .mat (loopF (l_f6rows_l4 d2 d5) d8) fun x => .alt x (fun a0 => .ret (l_f6rows_l4_out z3 z6 d2 d5 (.inl a0))) (fun b0 => .ret (l_f6rows_l4_out z3 z6 d2 d5 (.inr b0)))
noncomputable def l_f6rows_l4_L : LoopI := ⟨([0, 1, 5], []), ([4], []), l_f6rows_l4_D⟩
noncomputable def l_f6rows_A : List (Nat × LoopI) := [(4, l_f6rows_l4_L)]
set_option maxRecDepth 100000 in
theorem l_f6rows_l4_step : ∀ (z4_0 : Bool) (z4_1 : Bool) (h4_0_0 : (List (List Int))) (h4_0_1 : (List (List Int))) (x : Int) (c : St → Option (Ex × St)), den l_f6rows_V l_f6rows_A (loopAt l_f6rows_b 0) (l_f6rows_l4_mk z4_0 z4_1 h4_0_0 h4_0_1 x) (roundK l_f6rows_l4_L.kp l_f6rows_l4_L.kx c) = (l_f6rows_l4 h4_0_0 h4_0_1 x).run (roundR (l_f6rows_l4_mk z4_0 z4_1 h4_0_0 h4_0_1) (l_f6rows_l4_out z4_0 z4_1 h4_0_0 h4_0_1) c) := fun _ _ _ _ _ _ => by
 kernel_rfl
theorem l_f6rows_l4_ok : LoopOK l_f6rows_V l_f6rows_A (loopAt l_f6rows_b 0) l_f6rows_l4_L := loopOK_of fun s e s' h => by
 generalize hs : restrict l_f6rows_l4_L.kp s = s1 at h
 have h : (l_f6rows_l4_D s1).run some = some (e, s') := h
 obtain ⟨z3, d2, e1, h_0⟩ := asImm_spec h
 obtain ⟨z6, d5, e4, h_1⟩ := asImm_spec h_0
 obtain ⟨d8, e7, h_2⟩ := asImmZ_spec h_1
 obtain ⟨y, hy, hz⟩ := mat_some h_2
 refine ⟨_, _, l_f6rows_l4_mk z3 z6 d2 d5, l_f6rows_l4_out z3 z6 d2 d5, l_f6rows_l4 d2 d5, d8, y, ?_, hy, ?_, l_f6rows_l4_step z3 z6 d2 d5⟩
 ·subst hs; exact restrict_eq (T := [(0, (.imm z3 (.sl (.sl (.int .i64))) d2)), (1, (.imm z6 (.sl (.sl (.int .i64))) d5)), (5, (.imm true (.int .i64) d8))]) (U := []) rfl rfl ⟨e1, e4, e7, trivial⟩ trivial
 ·rcases y with x | x <;> exact Option.some.inj hz
noncomputable def l_f6rows_I : FnI := ⟨l_f6rows_b, Try.f17.results.toList, Try.f17.resultTypes.toList, l_f6rows_A⟩
noncomputable def l_f6rows_out (_zp0 : Bool) (_zp1 : Bool) (_p0 : (List (List Int))) (_p1 : (List (List Int))) : Bool → CallOut := fun r => ⟨(.imm true .bool r), [], []⟩
set_option maxRecDepth 100000 in
theorem l_f6rows_eq : ∀ (zp0 : Bool) (zp1 : Bool) (p0 : (List (List Int))) (p1 : (List (List Int))), denFn l_f6rows_V l_f6rows_I ⟨[(.imm zp0 (.sl (.sl (.int .i64))) p0), (.imm zp1 (.sl (.sl (.int .i64))) p1)], []⟩ = (l_f6rows p0 p1).run fun r => some (l_f6rows_out zp0 zp1 p0 p1 r) := fun _ _ _ _ => by kernel_rfl
noncomputable def l_f6rows_G (av : List AV) (rs : List Root) : Tre CallOut :=
 asCons av fun a0_ av0 =>
 asCons av0 fun a1_ av1 =>
 asEnd av1 <|
 asEnd rs <|
 asImm (.sl (.sl (.int .i64))) a0_ fun z2 d1 =>
 asImm (.sl (.sl (.int .i64))) a1_ fun z4 d3 =>
 .mat (l_f6rows_F d1 d3) fun r => .ret (l_f6rows_out z2 z4 d1 d3 r)
noncomputable def l_f6rows_c : Ctr := ⟨[], fun ci => l_f6rows_G ci.args ci.roots, false⟩
theorem l_f6rows_env : EnvOK Try.prog .none l_f6rows_V := (envOK_cons l_f6ints_ok ent16 envOK_nil)
set_option maxRecDepth 100000 in
theorem l_f6rows_ok : Contract Try.prog .none 17 l_f6rows_c := by
 have hl : LoopsOK l_f6rows_V l_f6rows_A l_f6rows_b := (loopsOK_all (n := 1) (by kernel_rfl) fun k hk => by
   match k, hk with
   | 0, _ => exact loopOK_at (id := 4) (L := l_f6rows_l4_L) (by kernel_rfl) (by kernel_rfl) l_f6rows_l4_ok)
 refine (contract_of (F := l_f6rows_I) tau_tys l_f6rows_env Try.func17 (by kernel_rfl) (by kernel_rfl) (by kernel_rfl) hl []).weaken ?_
 rintro ⟨av, rs⟩ co h
 have h : (l_f6rows_G av rs).run some = some co := h
 obtain ⟨a0_, av0, rfl, h_0⟩ := asCons_spec h
 obtain ⟨a1_, av1, rfl, h_1⟩ := asCons_spec h_0
 obtain ⟨rfl, h_2⟩ := asEnd_spec h_1
 obtain ⟨rfl, h_3⟩ := asEnd_spec h_2
 obtain ⟨z2, d1, rfl, h_4⟩ := asImm_spec h_3
 obtain ⟨z4, d3, rfl, h_5⟩ := asImm_spec h_4
 exact fin_mat (l_f6rows_eq z2 z4 d1 d3) h_5
end Go.Proofs.Ytkgekgfmnhccmaa

namespace Go.Proofs.Ytkgekgfmnhccmaa
open Go Go.Abs Go.Proofs
noncomputable def i_SolveAtc1_85e2 (p0 : (List Int)) (p1 : TNet) (p2 : Int) : Tre Bool :=
 .mat (i_Net_has_F p1 p2) fun r1 =>
 .cond (decide ((p0.length : Int) = r1))
  (.mat (i_Field_has_F p1.1 p0) fun r2 =>
  .ret r2)
  (.ret false)
noncomputable def i_SolveAtc1_85e2_F (p0 : (List Int)) (p1 : TNet) (p2 : Int) : Option Bool := (i_SolveAtc1_85e2 p0 p1 p2).run some
noncomputable def i_SolveAtc1_85e2_V : Env := ⟨tau, [(53, i_size_int64_c), (54, i_Net_has_c), (55, i_Field_has_c)], []⟩
noncomputable def i_SolveAtc1_85e2_b : Code := (Try.f52.body).getD .skip
noncomputable def i_SolveAtc1_85e2_I : FnI := ⟨i_SolveAtc1_85e2_b, Try.f52.results.toList, Try.f52.resultTypes.toList, []⟩
noncomputable def i_SolveAtc1_85e2_out (zp0 : Bool) (zp1 : Bool) (p0 : (List Int)) (p1 : TNet) (p2 : Int) : Bool → CallOut := fun r => ⟨(.imm true .bool r), [⟨true, (.sl (.int .i64)), (.imm zp0), p0⟩, ⟨true, kNet, (.imm zp1), p1⟩, ⟨true, (.int .i64), .own, p2⟩], []⟩
set_option maxRecDepth 100000 in
theorem i_SolveAtc1_85e2_eq : ∀ (zp0 : Bool) (zp1 : Bool) (p0 : (List Int)) (p1 : TNet) (p2 : Int), denFn i_SolveAtc1_85e2_V i_SolveAtc1_85e2_I ⟨[(.ptr (0, 0) []), (.ptr (0, 1) []), (.ptr (0, 2) [])], [⟨true, (.sl (.int .i64)), (.imm zp0), p0⟩, ⟨true, kNet, (.imm zp1), p1⟩, ⟨true, (.int .i64), .own, p2⟩]⟩ = (i_SolveAtc1_85e2 p0 p1 p2).run fun r => some (i_SolveAtc1_85e2_out zp0 zp1 p0 p1 p2 r) := fun _ _ _ _ _ => by kernel_rfl
noncomputable def i_SolveAtc1_85e2_G (av : List AV) (rs : List Root) : Tre CallOut :=
 asCons av fun a0_ av0 =>
 asCons av0 fun a1_ av1 =>
 asCons av1 fun a2_ av2 =>
 asEnd av2 <|
 asCons rs fun r0_ rs0 =>
 asCons rs0 fun r1_ rs1 =>
 asCons rs1 fun r2_ rs2 =>
 asEnd rs2 <|
 asPtr (0, 0) [] a0_ <|
 asPtr (0, 1) [] a1_ <|
 asPtr (0, 2) [] a2_ <|
 asRt true (.sl (.int .i64)) r0_ fun m1 d2 =>
 asMImm m1 fun z3 =>
 asRt true kNet r1_ fun m4 d5 =>
 asMImm m4 fun z6 =>
 asRt true (.int .i64) r2_ fun m7 d8 =>
 asM .own m7 <|
 .mat (i_SolveAtc1_85e2_F d2 d5 d8) fun r => .ret (i_SolveAtc1_85e2_out z3 z6 d2 d5 d8 r)
noncomputable def i_SolveAtc1_85e2_c : Ctr := ⟨[], fun ci => i_SolveAtc1_85e2_G ci.args ci.roots, false⟩
theorem i_SolveAtc1_85e2_env : EnvOK Try.prog .none i_SolveAtc1_85e2_V := (envOK_cons i_size_int64_ok ent53 (envOK_cons i_Net_has_ok ent54 (envOK_cons i_Field_has_ok ent55 envOK_nil)))
set_option maxRecDepth 100000 in
theorem i_SolveAtc1_85e2_ok : Contract Try.prog .none 52 i_SolveAtc1_85e2_c := by
 have hl : LoopsOK i_SolveAtc1_85e2_V [] i_SolveAtc1_85e2_b := loopsOK_nil (by kernel_rfl)
 refine (contract_of (F := i_SolveAtc1_85e2_I) tau_tys i_SolveAtc1_85e2_env Try.func52 (by kernel_rfl) (by kernel_rfl) (by kernel_rfl) hl []).weaken ?_
 rintro ⟨av, rs⟩ co h
 have h : (i_SolveAtc1_85e2_G av rs).run some = some co := h
 obtain ⟨a0_, av0, rfl, h_0⟩ := asCons_spec h
 obtain ⟨a1_, av1, rfl, h_1⟩ := asCons_spec h_0
 obtain ⟨a2_, av2, rfl, h_2⟩ := asCons_spec h_1
 obtain ⟨rfl, h_3⟩ := asEnd_spec h_2
 obtain ⟨r0_, rs0, rfl, h_4⟩ := asCons_spec h_3
 obtain ⟨r1_, rs1, rfl, h_5⟩ := asCons_spec h_4
 obtain ⟨r2_, rs2, rfl, h_6⟩ := asCons_spec h_5
 obtain ⟨rfl, h_7⟩ := asEnd_spec h_6
 obtain ⟨rfl, h_8⟩ := asPtr_spec h_7
 obtain ⟨rfl, h_9⟩ := asPtr_spec h_8
 obtain ⟨rfl, h_10⟩ := asPtr_spec h_9
 obtain ⟨m1, d2, rfl, h_11⟩ := asRt_spec h_10
 obtain ⟨z3, rfl, h_12⟩ := asMImm_spec h_11
 obtain ⟨m4, d5, rfl, h_13⟩ := asRt_spec h_12
 obtain ⟨z6, rfl, h_14⟩ := asMImm_spec h_13
 obtain ⟨m7, d8, rfl, h_15⟩ := asRt_spec h_14
 obtain ⟨rfl, h_16⟩ := asM_spec h_15
 exact fin_mat (i_SolveAtc1_85e2_eq z3 z6 d2 d5 d8) h_16
end Go.Proofs.Ytkgekgfmnhccmaa

namespace Go.Proofs.Ytkgekgfmnhccmaa
open Go Go.Abs Go.Proofs
-- shared
def wideV (L : List (List Int)) (vs : List Int) : List (List Int) := (L.zip vs).map fun p => p.1 ++ [p.2]
theorem rowsV_has {n : TN6} (h : NetP n) (node : Int) : ((rowsV n node).length : Int) = hasV n node := by
 unfold rowsV hasV
 split
 ·rw [List.length_map, List.length_range, (mess_ok h).1]
 ·rw [List.length_map]
theorem wideV_GR {f : TF3} {M : Nat} {L : List (List Int)} {vs : List Int} (h : GR f M L) (hv : ∀ x ∈ vs, inF f x) : GR f (M + 1) (wideV L vs) := by
 intro r hr
 unfold wideV at hr
 obtain ⟨p, hp, rfl⟩ := List.mem_map.1 hr
 have h1 := List.of_mem_zip (a := p.1) (b := p.2) hp
 have h2 := h p.1 h1.1
 refine ⟨by simp [h2.1], fun y hy => ?_⟩
 rcases List.mem_append.1 hy with hy | hy
 ·exact h2.2 y hy
 ·simp only [List.mem_singleton] at hy; subst hy; exact hv _ h1.2
theorem wideV_len {L : List (List Int)} {vs : List Int} (h : L.length = vs.length) : (wideV L vs).length = L.length := by unfold wideV; simp [h]
def solveC (n : TN6) (node : Int) (vs : List Int) : Int := if nodeC n node 0 = 0 then (if (vs.length : Int) = hasV n node ∧ elsOk n.1 vs = true then 0 else 2) else nodeC n node 0
def solveV (n : TN6) (node : Int) (vs : List Int) : Int × List Int :=
 if solveC n node vs = 0 then
  (if (echV n.1 (messN n) (rowsV n node)).length < messN n then (4, []) else
   if messN n < (echV n.1 (messN n + 1) (wideV (rowsV n node) vs)).length then (6, []) else (0, (echV n.1 (messN n + 1) (wideV (rowsV n node) vs)).map fun r => r.getD (messN n) 0))
 else (solveC n node vs, [])
end Go.Proofs.Ytkgekgfmnhccmaa

namespace Go.Proofs.Ytkgekgfmnhccmaa
open Go Go.Abs Go.Proofs
noncomputable def i_nodeCode_i_SolveAtc1 (p0 : TNet) (p1 : Int) (p2 : (List Int)) (p3 : TNet) (p4 : Int) : Tre Int :=
 .mat (i_ValidNet_F p0) fun r1 =>
 .cond (!r1)
  (.ret 1)
  (.cond (!(i_Net_isNode_S p0 p1))
   (.ret 2)
   (.mat (i_SolveAtc1_85e2_F p2 p3 p4) fun r2 =>
   .cond (!r2)
    (.ret 2)
    (.ret 0)))
noncomputable def i_nodeCode_i_SolveAtc1_F (p0 : TNet) (p1 : Int) (p2 : (List Int)) (p3 : TNet) (p4 : Int) : Option Int := (i_nodeCode_i_SolveAtc1 p0 p1 p2 p3 p4).run some
-- more
theorem isolvec_is {n : TN6} (h : NetP n) (node : Int) {vs : List Int} (hv : vs.length ≤ 1048576) : i_SolveAtc1_85e2_F vs n node = some (decide ((vs.length : Int) = hasV n node) && elsOk n.1 vs) := by
 have h2 : ∀ e ∈ n.2.2.2.1, e.length = 2 := by
  intro e he
  obtain ⟨i, hi⟩ := List.mem_iff_getElem?.1 he
  exact edgeOk_len (h.edges i e hi)
 unfold i_SolveAtc1_85e2_F i_SolveAtc1_85e2
 rw [run_some_mat (i_Net_has_is n h.len h2 node), Tre.run_cond]
 cases decide ((vs.length : Int) = hasV n node)
 ·rfl
 ·rw [cond_true, run_some_mat (i_Field_has_is h.field vs (by omega)), Bool.true_and]
  rfl
theorem isolven_is (n : TN6) (node : Int) {vs : List Int} (hv : vs.length ≤ 1048576) : i_nodeCode_i_SolveAtc1_F n node vs n node = some (solveC n node vs) := by
 unfold i_nodeCode_i_SolveAtc1_F i_nodeCode_i_SolveAtc1 solveC nodeC
 rw [run_some_mat (i_ValidNet_is n), Tre.run_cond]
 rcases Bool.eq_false_or_eq_true (netOk n) with h | h
 ·have hp := netOk_iff.1 h
  have hn := hp.nodes
  rw [h, Bool.not_true, cond_false, if_pos rfl, Tre.run_cond]
  unfold i_Net_isNode_S
  dsimp only
  rw [iwrap_i64 (by omega) (by omega)]
  cases inR node 0 (n.2.1 - 1)
  ·rfl
  ·rw [Bool.not_true, cond_false, run_some_mat (isolvec_is hp node hv), Tre.run_cond, if_pos rfl, if_pos rfl]
   by_cases h1 : (vs.length : Int) = hasV n node
   ·rw [decide_eq_true h1, Bool.true_and]
    cases h3 : elsOk n.1 vs
    ·rw [if_neg (fun hh => by cases hh.2)]; rfl
    ·rw [if_pos ⟨h1, rfl⟩]; rfl
   ·rw [decide_eq_false h1, if_neg (fun hh => h1 hh.1)]; rfl
 ·rw [h]; rfl
noncomputable def i_nodeCode_i_SolveAtc1_V : Env := ⟨tau, [(42, i_ValidNet_c), (93, i_Net_isNode_c), (52, i_SolveAtc1_85e2_c)], []⟩
noncomputable def i_nodeCode_i_SolveAtc1_b : Code := (Try.f48.body).getD .skip
noncomputable def i_nodeCode_i_SolveAtc1_I : FnI := ⟨i_nodeCode_i_SolveAtc1_b, Try.f48.results.toList, Try.f48.resultTypes.toList, []⟩
noncomputable def i_nodeCode_i_SolveAtc1_out (_zp0 : Bool) (zp1 : Bool) (zp2 : Bool) (_p0 : TNet) (_p1 : Int) (p2 : (List Int)) (p3 : TNet) (p4 : Int) : Int → CallOut := fun r => ⟨(.imm true (.int .i64) r), [⟨true, (.sl (.int .i64)), (.imm zp1), p2⟩, ⟨true, kNet, (.imm zp2), p3⟩, ⟨true, (.int .i64), .own, p4⟩], []⟩
set_option maxRecDepth 100000 in
theorem i_nodeCode_i_SolveAtc1_eq : ∀ (zp0 : Bool) (zp1 : Bool) (zp2 : Bool) (p0 : TNet) (p1 : Int) (p2 : (List Int)) (p3 : TNet) (p4 : Int), denFn i_nodeCode_i_SolveAtc1_V i_nodeCode_i_SolveAtc1_I ⟨[(.imm zp0 kNet p0), (.imm true (.int .i64) p1), (.fn 52 [(0, 0), (0, 1), (0, 2)])], [⟨true, (.sl (.int .i64)), (.imm zp1), p2⟩, ⟨true, kNet, (.imm zp2), p3⟩, ⟨true, (.int .i64), .own, p4⟩]⟩ = (i_nodeCode_i_SolveAtc1 p0 p1 p2 p3 p4).run fun r => some (i_nodeCode_i_SolveAtc1_out zp0 zp1 zp2 p0 p1 p2 p3 p4 r) := fun _ _ _ _ _ _ _ _ => by kernel_rfl
noncomputable def i_nodeCode_i_SolveAtc1_G (av : List AV) (rs : List Root) : Tre CallOut :=
 asCons av fun a0_ av0 =>
 asCons av0 fun a1_ av1 =>
 asCons av1 fun a2_ av2 =>
 asEnd av2 <|
 asCons rs fun r0_ rs0 =>
 asCons rs0 fun r1_ rs1 =>
 asCons rs1 fun r2_ rs2 =>
 asEnd rs2 <|
 asImm kNet a0_ fun z2 d1 =>
 asImmZ true (.int .i64) a1_ fun d3 =>
 asFn 52 [(0, 0), (0, 1), (0, 2)] a2_ <|
 asRt true (.sl (.int .i64)) r0_ fun m4 d5 =>
 asMImm m4 fun z6 =>
 asRt true kNet r1_ fun m7 d8 =>
 asMImm m7 fun z9 =>
 asRt true (.int .i64) r2_ fun m10 d11 =>
 asM .own m10 <|
 .mat (i_nodeCode_i_SolveAtc1_F d1 d3 d5 d8 d11) fun r => .ret (i_nodeCode_i_SolveAtc1_out z2 z6 z9 d1 d3 d5 d8 d11 r)
noncomputable def i_nodeCode_i_SolveAtc1_c : Ctr := ⟨[], fun ci => i_nodeCode_i_SolveAtc1_G ci.args ci.roots, false⟩
theorem i_nodeCode_i_SolveAtc1_env : EnvOK Try.prog .none i_nodeCode_i_SolveAtc1_V := (envOK_cons i_ValidNet_ok ent42 (envOK_cons i_Net_isNode_ok ent93 (envOK_cons i_SolveAtc1_85e2_ok ent52 envOK_nil)))
set_option maxRecDepth 100000 in
theorem i_nodeCode_i_SolveAtc1_ok : Contract Try.prog .none 48 i_nodeCode_i_SolveAtc1_c := by
 have hl : LoopsOK i_nodeCode_i_SolveAtc1_V [] i_nodeCode_i_SolveAtc1_b := loopsOK_nil (by kernel_rfl)
 refine (contract_of (F := i_nodeCode_i_SolveAtc1_I) tau_tys i_nodeCode_i_SolveAtc1_env Try.func48 (by kernel_rfl) (by kernel_rfl) (by kernel_rfl) hl []).weaken ?_
 rintro ⟨av, rs⟩ co h
 have h : (i_nodeCode_i_SolveAtc1_G av rs).run some = some co := h
 obtain ⟨a0_, av0, rfl, h_0⟩ := asCons_spec h
 obtain ⟨a1_, av1, rfl, h_1⟩ := asCons_spec h_0
 obtain ⟨a2_, av2, rfl, h_2⟩ := asCons_spec h_1
 obtain ⟨rfl, h_3⟩ := asEnd_spec h_2
 obtain ⟨r0_, rs0, rfl, h_4⟩ := asCons_spec h_3
 obtain ⟨r1_, rs1, rfl, h_5⟩ := asCons_spec h_4
 obtain ⟨r2_, rs2, rfl, h_6⟩ := asCons_spec h_5
 obtain ⟨rfl, h_7⟩ := asEnd_spec h_6
 obtain ⟨z2, d1, rfl, h_8⟩ := asImm_spec h_7
 obtain ⟨d3, rfl, h_9⟩ := asImmZ_spec h_8
 obtain ⟨rfl, h_10⟩ := asFn_spec h_9
 obtain ⟨m4, d5, rfl, h_11⟩ := asRt_spec h_10
 obtain ⟨z6, rfl, h_12⟩ := asMImm_spec h_11
 obtain ⟨m7, d8, rfl, h_13⟩ := asRt_spec h_12
 obtain ⟨z9, rfl, h_14⟩ := asMImm_spec h_13
 obtain ⟨m10, d11, rfl, h_15⟩ := asRt_spec h_14
 obtain ⟨rfl, h_16⟩ := asM_spec h_15
 exact fin_mat (i_nodeCode_i_SolveAtc1_eq z2 z6 z9 d1 d3 d5 d8 d11) h_16
end Go.Proofs.Ytkgekgfmnhccmaa

namespace Go.Proofs.Ytkgekgfmnhccmaa
open Go Go.Abs Go.Proofs
noncomputable def i_Net_rowsZ_l4 (h4_0_0 : Int) (h4_0_2 : TNet) : (Int × (List (List Int))) → Tre ((Int × (List (List Int))) ⊕ (List (List Int))) := fun s4 =>
 .cond (decide (s4.1 < h4_0_0))
  (.mat (i_unit_F h4_0_2.2.2.1 s4.1) fun r1 =>
  .ite ((s4.2.length + 1) * 24 ≤ appendMax ∧ 1 ≤ 24) <|
  .ret (.inl (iwrap .i64 (s4.1 + 1), s4.2 ++ ([r1]))))
  (.ret (.inr s4.2))
noncomputable def i_Net_rowsZ_l11 (h11_0_0 : Int) (h11_0_3 : (List (List Int))) (h11_0_4 : (List Int)) : (Int × (List (List Int))) → Tre ((Int × (List (List Int))) ⊕ (List (List Int))) := fun s11 =>
 .cond (decide (s11.1 < h11_0_0))
  (.ite (0 ≤ s11.1 ∧ s11.1 < (h11_0_4.length : Int)) <|
  .mat (h11_0_4[s11.1.toNat]?) fun x5 =>
  .ite (0 ≤ x5 ∧ x5 < (h11_0_3.length : Int)) <|
  .mat (h11_0_3[x5.toNat]?) fun x6 =>
  .ite ((s11.2.length + 1) * 24 ≤ appendMax ∧ 1 ≤ 24) <|
  .ret (.inl (iwrap .i64 (s11.1 + 1), s11.2 ++ ([x6]))))
  (.ret (.inr s11.2))
noncomputable def i_Net_rowsZ (p0 : TNet) (p1 : Int) : Tre (List (List Int)) :=
 .cond (decide (p1 = 0))
  (.mat (loopF (i_Net_rowsZ_l4 p0.2.2.1 p0) (0, [])) fun l2 =>
  .ret l2)
  (.mat (i_Net_vectors_F p0) fun r3 =>
  .mat (i_Net_into_F p0 p1) fun r4 =>
  .mat (loopF (i_Net_rowsZ_l11 (r4.length : Int) r3 r4) (0, [])) fun l7 =>
  .ret l7)
noncomputable def i_Net_rowsZ_F (p0 : TNet) (p1 : Int) : Option (List (List Int)) := (i_Net_rowsZ p0 p1).run some
-- more
theorem irowsZ_is {n : TN6} (h : NetP n) (node : Int) : i_Net_rowsZ_F n node = some (rowsV n node) := by
 have hE := h.len
 have hil := intoV_len n.2.2.2.1 node
 obtain ⟨hm1, hm2, hm3⟩ := mess_ok h
 unfold i_Net_rowsZ_F i_Net_rowsZ rowsV
 rw [Tre.run_cond]
 by_cases h0 : node = 0
 ·rw [decide_eq_true h0, cond_true, if_pos h0]
  have key := fold_loop (xs := List.range (messN n)) (step := i_Net_rowsZ_l4 n.2.2.1 n) (γ := List (List Int)) (fun (i : Nat) acc => ((i : Int), acc)) (fun _ acc k => .inl (acc ++ [unitV (messN n) k])) id (fun i acc => acc.length = i) (by
   intro i acc x hx hi
   have hlt := (List.getElem?_eq_some_iff.1 hx).1
   rw [List.length_range] at hlt
   rw [List.getElem?_range hlt] at hx
   cases hx
   refine ⟨?_, fun a ha => ?_⟩
   ·unfold i_Net_rowsZ_l4
    dsimp only
    rw [Tre.run_cond, decide_eq_true (by omega), cond_true, hm1, run_some_mat (iunit_is hlt (by omega)), Tre.run_ite, if_pos (by unfold appendMax; omega), Tre.run_ret, iwrap_succ (by omega)]
   ·cases ha; simp [hi]) (by
   intro acc _
   unfold i_Net_rowsZ_l4
   dsimp only
   rw [Tre.run_cond, decide_eq_false (by rw [List.length_range]; omega), cond_false]
   rfl) _ 0 [] rfl (Nat.zero_le _) rfl
  rw [foldE_app] at key
  have key : loopF (i_Net_rowsZ_l4 n.2.2.1 n) (0, []) = some ((List.range (messN n)).map (unitV (messN n))) := key
  rw [run_some_mat key]
  rfl
 ·rw [decide_eq_false h0, cond_false, if_neg h0, run_some_mat (vectors_is h), run_some_mat (i_Net_into_is n h.len h.two2 node)]
  have key := fold_loop (xs := intoV n.2.2.2.1 node) (step := i_Net_rowsZ_l11 ((intoV n.2.2.2.1 node).length : Int) (vectorsV n) (intoV n.2.2.2.1 node)) (γ := List (List Int)) (fun (i : Nat) acc => ((i : Int), acc)) (fun _ acc x => .inl (acc ++ [(vectorsV n).getD x.toNat []])) id (fun i acc => acc.length = i) (by
   intro i acc x hx hi
   have hlt := (List.getElem?_eq_some_iff.1 hx).1
   obtain ⟨j, rfl, hj⟩ := into_all h (List.mem_of_getElem? hx)
   obtain ⟨v, hv, _⟩ := vectorsV_ok h hj
   have hvl := vectorsV_len n
   refine ⟨?_, fun a ha => ?_⟩
   ·unfold i_Net_rowsZ_l11
    dsimp only
    rw [Tre.run_cond, decide_eq_true (by omega), cond_true, Tre.run_ite, if_pos (by omega), Int.toNat_natCast, run_some_mat hx, Tre.run_ite, if_pos (by omega), Int.toNat_natCast, run_some_mat hv, Tre.run_ite, if_pos (by unfold appendMax; omega), Tre.run_ret, iwrap_succ (by omega), getD_of hv]
   ·cases ha; simp [hi]) (by
   intro acc _
   unfold i_Net_rowsZ_l11
   dsimp only
   rw [Tre.run_cond, decide_eq_false (by omega), cond_false]
   rfl) _ 0 [] rfl (Nat.zero_le _) rfl
  rw [foldE_app] at key
  have key : loopF (i_Net_rowsZ_l11 ((intoV n.2.2.2.1 node).length : Int) (vectorsV n) (intoV n.2.2.2.1 node)) (0, []) = some ((intoV n.2.2.2.1 node).map fun x => (vectorsV n).getD x.toNat []) := key
  rw [run_some_mat key]
  rfl
noncomputable def i_Net_rowsZ_V : Env := ⟨tau, [(94, i_unit_c), (43, i_Net_vectors_c), (102, i_Net_into_c)], [(10, [((9, 0), [], true), ((7, 0), [], true)]), (1000000, [((6, 0), [], false)])]⟩
noncomputable def i_Net_rowsZ_b : Code := (Try.f56.body).getD .skip
noncomputable def i_Net_rowsZ_l4_mk (z4_0 : Bool) (h4_0_0 : Int) (h4_0_2 : TNet) : (Int × (List (List Int))) → St := fun x => stOf [(2, (.ptr (4, 0) [])), (5, (.ref (7, 0) [])), (14, (.imm true (.int .i64) h4_0_0)), (15, (.imm true (.int .i64) x.1))] [((4, 0), some ⟨true, kNet, (.imm z4_0), h4_0_2⟩), ((7, 0), some ⟨false, (.sl (.sl (.int .i64))), .own, x.2⟩)]
noncomputable def i_Net_rowsZ_l4_out (_z4_0 : Bool) (_h4_0_0 : Int) (_h4_0_2 : TNet) : (List (List Int)) → Ex × St := fun x => (.exit 0, stOf [(5, (.ref (7, 0) []))] [((7, 0), some ⟨false, (.sl (.sl (.int .i64))), .own, x⟩)])
noncomputable def i_Net_rowsZ_l4_D (s : St) : Tre (Ex × St) :=
 asPtr (4, 0) [] (s.tmps 2) <|
 asRef (7, 0) [] (s.tmps 5) <|
 asImmZ true (.int .i64) (s.tmps 14) fun d4 =>
 asImmZ true (.int .i64) (s.tmps 15) fun d6 =>
 asRoot true kNet (s.roots (4, 0)) fun m8 d9 =>
 asMImm m8 fun z10 =>
 asRoot false (.sl (.sl (.int .i64))) (s.roots (7, 0)) fun m12 d13 =>
 asM .own m12 <|
 .mat (loopF (i_Net_rowsZ_l4 d4 d9) (d6, d13)) fun x => .ret (i_Net_rowsZ_l4_out z10 d4 d9 x)
noncomputable def i_Net_rowsZ_l4_L : LoopI := ⟨([2, 5, 14, 15], [(4, 0), (7, 0)]), ([5], [(7, 0)]), i_Net_rowsZ_l4_D⟩
noncomputable def i_Net_rowsZ_l11_mk (h11_0_0 : Int) (h11_0_3 : (List (List Int))) (h11_0_4 : (List Int)) : (Int × (List (List Int))) → St := fun x => stOf [(5, (.ref (7, 0) [])), (7, (.ref (9, 0) [])), (31, (.ref (33, 0) [])), (32, (.imm true (.int .i64) h11_0_0)), (33, (.imm true (.int .i64) x.1))] [((7, 0), some ⟨false, (.sl (.sl (.int .i64))), (.sl (.imm true)), x.2⟩), ((9, 0), some ⟨false, (.sl (.sl (.int .i64))), (.sl (.imm true)), h11_0_3⟩), ((33, 0), some ⟨false, (.sl (.int .i64)), .own, h11_0_4⟩)]
noncomputable def i_Net_rowsZ_l11_out (_h11_0_0 : Int) (_h11_0_3 : (List (List Int))) (_h11_0_4 : (List Int)) : (List (List Int)) → Ex × St := fun x => (.exit 2, stOf [(5, (.ref (7, 0) []))] [((7, 0), some ⟨false, (.sl (.sl (.int .i64))), (.sl (.imm true)), x⟩)])
noncomputable def i_Net_rowsZ_l11_D (s : St) : Tre (Ex × St) :=
 asRef (7, 0) [] (s.tmps 5) <|
 asRef (9, 0) [] (s.tmps 7) <|
 asRef (33, 0) [] (s.tmps 31) <|
 asImmZ true (.int .i64) (s.tmps 32) fun d5 =>
 asImmZ true (.int .i64) (s.tmps 33) fun d7 =>
 asRoot false (.sl (.sl (.int .i64))) (s.roots (7, 0)) fun m9 d10 =>
 asM (.sl (.imm true)) m9 <|
 asRoot false (.sl (.sl (.int .i64))) (s.roots (9, 0)) fun m12 d13 =>
 asM (.sl (.imm true)) m12 <|
 asRoot false (.sl (.int .i64)) (s.roots (33, 0)) fun m15 d16 =>
 asM .own m15 <|
 .mat (loopF (i_Net_rowsZ_l11 d5 d13 d16) (d7, d10)) fun x => .ret (i_Net_rowsZ_l11_out d5 d13 d16 x)
noncomputable def i_Net_rowsZ_l11_L : LoopI := ⟨([5, 7, 31, 32, 33], [(7, 0), (9, 0), (33, 0)]), ([5], [(7, 0)]), i_Net_rowsZ_l11_D⟩
noncomputable def i_Net_rowsZ_A : List (Nat × LoopI) := [(4, i_Net_rowsZ_l4_L), (11, i_Net_rowsZ_l11_L)]
set_option maxRecDepth 100000 in
theorem i_Net_rowsZ_l4_step : ∀ (z4_0 : Bool) (h4_0_0 : Int) (h4_0_2 : TNet) (x : (Int × (List (List Int)))) (c : St → Option (Ex × St)), den i_Net_rowsZ_V i_Net_rowsZ_A (loopAt i_Net_rowsZ_b 0) (i_Net_rowsZ_l4_mk z4_0 h4_0_0 h4_0_2 x) (roundK i_Net_rowsZ_l4_L.kp i_Net_rowsZ_l4_L.kx c) = (i_Net_rowsZ_l4 h4_0_0 h4_0_2 x).run (roundR (i_Net_rowsZ_l4_mk z4_0 h4_0_0 h4_0_2) (i_Net_rowsZ_l4_out z4_0 h4_0_0 h4_0_2) c) := fun _ _ _ _ _ => by
 kernel_rfl
theorem i_Net_rowsZ_l4_ok : LoopOK i_Net_rowsZ_V i_Net_rowsZ_A (loopAt i_Net_rowsZ_b 0) i_Net_rowsZ_l4_L := loopOK_of fun s e s' h => by
 generalize hs : restrict i_Net_rowsZ_l4_L.kp s = s1 at h
 have h : (i_Net_rowsZ_l4_D s1).run some = some (e, s') := h
 obtain ⟨e1, h_0⟩ := asPtr_spec h
 obtain ⟨e2, h_1⟩ := asRef_spec h_0
 obtain ⟨d4, e3, h_2⟩ := asImmZ_spec h_1
 obtain ⟨d6, e5, h_3⟩ := asImmZ_spec h_2
 obtain ⟨m8, d9, e7, h_4⟩ := asRoot_spec h_3
 obtain ⟨z10, rfl, h_5⟩ := asMImm_spec h_4
 obtain ⟨m12, d13, e11, h_6⟩ := asRoot_spec h_5
 obtain ⟨rfl, h_7⟩ := asM_spec h_6
 obtain ⟨y, hy, hz⟩ := mat_ret h_7
 refine ⟨_, _, i_Net_rowsZ_l4_mk z10 d4 d9, i_Net_rowsZ_l4_out z10 d4 d9, i_Net_rowsZ_l4 d4 d9, (d6, d13), y, ?_, hy, ?_, i_Net_rowsZ_l4_step z10 d4 d9⟩
 ·subst hs; exact restrict_eq (T := [(2, (.ptr (4, 0) [])), (5, (.ref (7, 0) [])), (14, (.imm true (.int .i64) d4)), (15, (.imm true (.int .i64) d6))]) (U := [((4, 0), some ⟨true, kNet, (.imm z10), d9⟩), ((7, 0), some ⟨false, (.sl (.sl (.int .i64))), .own, d13⟩)]) rfl rfl ⟨e1, e2, e3, e5, trivial⟩ ⟨e7, e11, trivial⟩
 ·exact Option.some.inj hz
set_option maxRecDepth 100000 in
theorem i_Net_rowsZ_l11_step : ∀ (h11_0_0 : Int) (h11_0_3 : (List (List Int))) (h11_0_4 : (List Int)) (x : (Int × (List (List Int)))) (c : St → Option (Ex × St)), den i_Net_rowsZ_V i_Net_rowsZ_A (loopAt i_Net_rowsZ_b 1) (i_Net_rowsZ_l11_mk h11_0_0 h11_0_3 h11_0_4 x) (roundK i_Net_rowsZ_l11_L.kp i_Net_rowsZ_l11_L.kx c) = (i_Net_rowsZ_l11 h11_0_0 h11_0_3 h11_0_4 x).run (roundR (i_Net_rowsZ_l11_mk h11_0_0 h11_0_3 h11_0_4) (i_Net_rowsZ_l11_out h11_0_0 h11_0_3 h11_0_4) c) := fun _ _ _ _ _ => by
 kernel_rfl
theorem i_Net_rowsZ_l11_ok : LoopOK i_Net_rowsZ_V i_Net_rowsZ_A (loopAt i_Net_rowsZ_b 1) i_Net_rowsZ_l11_L := loopOK_of fun s e s' h => by
 generalize hs : restrict i_Net_rowsZ_l11_L.kp s = s1 at h
 have h : (i_Net_rowsZ_l11_D s1).run some = some (e, s') := h
 obtain ⟨e1, h_0⟩ := asRef_spec h
 obtain ⟨e2, h_1⟩ := asRef_spec h_0
 obtain ⟨e3, h_2⟩ := asRef_spec h_1
 obtain ⟨d5, e4, h_3⟩ := asImmZ_spec h_2
 obtain ⟨d7, e6, h_4⟩ := asImmZ_spec h_3
 obtain ⟨m9, d10, e8, h_5⟩ := asRoot_spec h_4
 obtain ⟨rfl, h_6⟩ := asM_spec h_5
 obtain ⟨m12, d13, e11, h_7⟩ := asRoot_spec h_6
 obtain ⟨rfl, h_8⟩ := asM_spec h_7
 obtain ⟨m15, d16, e14, h_9⟩ := asRoot_spec h_8
 obtain ⟨rfl, h_10⟩ := asM_spec h_9
 obtain ⟨y, hy, hz⟩ := mat_ret h_10
 refine ⟨_, _, i_Net_rowsZ_l11_mk d5 d13 d16, i_Net_rowsZ_l11_out d5 d13 d16, i_Net_rowsZ_l11 d5 d13 d16, (d7, d10), y, ?_, hy, ?_, i_Net_rowsZ_l11_step d5 d13 d16⟩
 ·subst hs; exact restrict_eq (T := [(5, (.ref (7, 0) [])), (7, (.ref (9, 0) [])), (31, (.ref (33, 0) [])), (32, (.imm true (.int .i64) d5)), (33, (.imm true (.int .i64) d7))]) (U := [((7, 0), some ⟨false, (.sl (.sl (.int .i64))), (.sl (.imm true)), d10⟩), ((9, 0), some ⟨false, (.sl (.sl (.int .i64))), (.sl (.imm true)), d13⟩), ((33, 0), some ⟨false, (.sl (.int .i64)), .own, d16⟩)]) rfl rfl ⟨e1, e2, e3, e4, e6, trivial⟩ ⟨e8, e11, e14, trivial⟩
 ·exact Option.some.inj hz
noncomputable def i_Net_rowsZ_I : FnI := ⟨i_Net_rowsZ_b, Try.f56.results.toList, Try.f56.resultTypes.toList, i_Net_rowsZ_A⟩
noncomputable def i_Net_rowsZ_out (_zp0 : Bool) (_p0 : TNet) (_p1 : Int) : (List (List Int)) → CallOut := fun r => ⟨(.imm true (.sl (.sl (.int .i64))) r), [], []⟩
set_option maxRecDepth 100000 in
theorem i_Net_rowsZ_eq : ∀ (zp0 : Bool) (p0 : TNet) (p1 : Int), denFn i_Net_rowsZ_V i_Net_rowsZ_I ⟨[(.imm zp0 kNet p0), (.imm true (.int .i64) p1)], []⟩ = (i_Net_rowsZ p0 p1).run fun r => some (i_Net_rowsZ_out zp0 p0 p1 r) := fun _ _ _ => by kernel_rfl
noncomputable def i_Net_rowsZ_G (av : List AV) (rs : List Root) : Tre CallOut :=
 asCons av fun a0_ av0 =>
 asCons av0 fun a1_ av1 =>
 asEnd av1 <|
 asEnd rs <|
 asImm kNet a0_ fun z2 d1 =>
 asImmZ true (.int .i64) a1_ fun d3 =>
 .mat (i_Net_rowsZ_F d1 d3) fun r => .ret (i_Net_rowsZ_out z2 d1 d3 r)
noncomputable def i_Net_rowsZ_c : Ctr := ⟨[], fun ci => i_Net_rowsZ_G ci.args ci.roots, false⟩
theorem i_Net_rowsZ_env : EnvOK Try.prog .none i_Net_rowsZ_V := (envOK_cons i_unit_ok ent94 (envOK_cons i_Net_vectors_ok ent43 (envOK_cons i_Net_into_ok ent102 envOK_nil)))
set_option maxRecDepth 100000 in
theorem i_Net_rowsZ_ok : Contract Try.prog .none 56 i_Net_rowsZ_c := by
 have hl : LoopsOK i_Net_rowsZ_V i_Net_rowsZ_A i_Net_rowsZ_b := (loopsOK_all (n := 2) (by kernel_rfl) fun k hk => by
   match k, hk with
   | 0, _ => exact loopOK_at (id := 4) (L := i_Net_rowsZ_l4_L) (by kernel_rfl) (by kernel_rfl) i_Net_rowsZ_l4_ok
   | 1, _ => exact loopOK_at (id := 11) (L := i_Net_rowsZ_l11_L) (by kernel_rfl) (by kernel_rfl) i_Net_rowsZ_l11_ok)
 refine (contract_of (F := i_Net_rowsZ_I) tau_tys i_Net_rowsZ_env Try.func56 (by kernel_rfl) (by kernel_rfl) (by kernel_rfl) hl []).weaken ?_
 rintro ⟨av, rs⟩ co h
 have h : (i_Net_rowsZ_G av rs).run some = some co := h
 obtain ⟨a0_, av0, rfl, h_0⟩ := asCons_spec h
 obtain ⟨a1_, av1, rfl, h_1⟩ := asCons_spec h_0
 obtain ⟨rfl, h_2⟩ := asEnd_spec h_1
 obtain ⟨rfl, h_3⟩ := asEnd_spec h_2
 obtain ⟨z2, d1, rfl, h_4⟩ := asImm_spec h_3
 obtain ⟨d3, rfl, h_5⟩ := asImmZ_spec h_4
 exact fin_mat (i_Net_rowsZ_eq z2 d1 d3) h_5
end Go.Proofs.Ytkgekgfmnhccmaa

namespace Go.Proofs.Ytkgekgfmnhccmaa
open Go Go.Abs Go.Proofs
noncomputable def i_SolveAt_l8 (h8_0_0 : (List (List Int))) (h8_0_1 : Int) (h8_0_4 : (List Int)) : (Int × (List (List Int))) → Tre ((Int × (List (List Int))) ⊕ (List (List Int))) := fun s8 =>
 .cond (decide (s8.1 < h8_0_1))
  (.ite (0 ≤ s8.1 ∧ s8.1 < (h8_0_0.length : Int)) <|
  .mat (h8_0_0[s8.1.toNat]?) fun x4 =>
  .mat (cloneR x4) fun r5 =>
  .ite (0 ≤ s8.1 ∧ s8.1 < (h8_0_4.length : Int)) <|
  .mat (h8_0_4[s8.1.toNat]?) fun x6 =>
  .ite ((r5.length + 1) * 8 ≤ appendMax ∧ 1 ≤ 8) <|
  .ite ((s8.2.length + 1) * 24 ≤ appendMax ∧ 1 ≤ 24) <|
  let v7 := s8.2 ++ ([r5 ++ ([x6])])
  .ret (.inl (iwrap .i64 (s8.1 + 1), v7)))
  (.ret (.inr s8.2))
noncomputable def i_SolveAt_l14 (h14_0_0 : Int) (h14_0_2 : TNet) (h14_0_4 : (List (List Int))) : (Int × (List Int)) → Tre ((Int × (List Int)) ⊕ ((Int × (List Int)) ⊕ (List Int))) := fun s14 =>
 .cond (decide (s14.1 < h14_0_0))
  (.ite (0 ≤ s14.1 ∧ s14.1 < (h14_0_4.length : Int)) <|
  .mat (h14_0_4[s14.1.toNat]?) fun _ =>
  .cond (decide (s14.1 = h14_0_2.2.2.1))
   (.ret (.inr (.inl (6, s14.2))))
   (.mat (h14_0_4[s14.1.toNat]?) fun x12 =>
   .ite (0 ≤ h14_0_2.2.2.1 ∧ h14_0_2.2.2.1 < (x12.length : Int)) <|
   .mat (h14_0_4[s14.1.toNat]?) fun x13 =>
   .mat (x13[h14_0_2.2.2.1.toNat]?) fun x14 =>
   .ite ((s14.2.length + 1) * 8 ≤ appendMax ∧ 1 ≤ 8) <|
   .ret (.inl (iwrap .i64 (s14.1 + 1), s14.2 ++ ([x14])))))
  (.ret (.inr (.inr s14.2)))
noncomputable def i_SolveAt (p0 : TNet) (p1 : Int) (p2 : (List Int)) : Tre (Int × (List Int)) :=
 .mat (i_nodeCode_i_SolveAtc1_F p0 p1 p2 p0 p1) fun r1 =>
 .cond (!decide (r1 = 0))
  (.ret (r1, []))
  (.mat (i_Net_rank_F p0 p1) fun r2 =>
  .cond (decide (r2 < p0.2.2.1))
   (.ret (4, []))
   (.mat (i_Net_rowsZ_F p0 p1) fun r3 =>
   .mat (loopF (i_SolveAt_l8 r3 (r3.length : Int) p2) (0, [])) fun l8 =>
   let v9 := iwrap .i64 (p0.2.2.1 + 1)
   .mat (i_Field_reduce_F p0.1 v9 l8) fun r10 =>
   .mat (loopF (i_SolveAt_l14 (r10.length : Int) p0 r10) (0, [])) fun l15 =>
   .alt l15
    (fun a16 =>
     .ret (a16.1, []))
    (fun b17 =>
     .ret (0, b17))))
noncomputable def i_SolveAt_F (p0 : TNet) (p1 : Int) (p2 : (List Int)) : Option (Int × (List Int)) := (i_SolveAt p0 p1 p2).run some
-- more
theorem isolve_wide {L : List (List Int)} {vs : List Int} (hl : L.length = vs.length) (hn : L.length ≤ 1000) (hr : ∀ r ∈ L, r.length ≤ 1000) : loopF (i_SolveAt_l8 L (L.length : Int) vs) (0, []) = some (wideV L vs) := by
 have key := fold_loop (xs := L.zip vs) (step := i_SolveAt_l8 L (L.length : Int) vs) (γ := List (List Int)) (fun (i : Nat) acc => ((i : Int), acc)) (fun _ acc p => .inl (acc ++ [p.1 ++ [p.2]])) id (fun i acc => acc.length = i) (by
  intro i acc p hp hi
  have hlt := (List.getElem?_eq_some_iff.1 hp).1
  rw [List.length_zip] at hlt
  obtain ⟨p1, p2⟩ := p
  rw [List.getElem?_zip_eq_some] at hp
  obtain ⟨h1, h2⟩ := hp
  have hrl := hr p1 (List.mem_of_getElem? h1)
  refine ⟨?_, fun a ha => ?_⟩
  ·unfold i_SolveAt_l8
   dsimp only
   rw [Tre.run_cond, decide_eq_true (by omega), cond_true, Tre.run_ite, if_pos (by omega), Int.toNat_natCast, run_some_mat h1, run_some_mat (show cloneR p1 = some p1 from lim_of (by omega)), Tre.run_ite, if_pos (by omega), run_some_mat h2, Tre.run_ite, if_pos (by unfold appendMax; omega), Tre.run_ite, if_pos (by unfold appendMax; omega), Tre.run_ret, iwrap_succ (by omega)]
  ·cases ha; simp [hi]) (by
  intro acc _
  unfold i_SolveAt_l8
  dsimp only
  rw [Tre.run_cond, decide_eq_false (by rw [List.length_zip]; omega), cond_false]
  rfl) (L.zip vs) 0 [] rfl (Nat.zero_le _) rfl
 rw [foldE_app] at key
 exact key
theorem isolve_take {n : TN6} (h : NetP n) {E : List (List Int)} (hE : ∀ r ∈ E, r.length = messN n + 1) (hl : E.length ≤ 1000) : ∀ m i, i + m = E.length → i ≤ messN n →
  loopF (i_SolveAt_l14 (E.length : Int) n E) ((i : Int), (E.take i).map fun r => r.getD (messN n) 0) = some (if messN n < E.length then .inl (6, (E.take (messN n)).map fun r => r.getD (messN n) 0) else .inr (E.map fun r => r.getD (messN n) 0)) := by
 obtain ⟨hm1, hm2, hm3⟩ := mess_ok h
 intro m
 induction m with
 | zero =>
  intro i hi hi2
  have hi : i = E.length := hi
  subst hi
  rw [if_neg (by omega), List.take_length]
  refine loopF_done ?_
  unfold i_SolveAt_l14
  exact run_out
 | succ m ih =>
  intro i hi hi2
  have hx := List.getElem?_eq_getElem (show i < E.length by omega)
  have hxl := hE _ (List.mem_of_getElem? hx)
  have hy := List.getElem?_eq_getElem (show messN n < E[i].length by omega)
  by_cases h1 : i = messN n
  ·rw [if_pos (by omega)]
   refine loopF_done ?_
   unfold i_SolveAt_l14
   rw [run_inb hx, Tre.run_cond, decide_eq_true (by omega), cond_true, Tre.run_ret, h1]
  ·rw [← ih (i + 1) (by omega) (by omega)]
   refine loopF_step ?_
   unfold i_SolveAt_l14
   rw [run_inb hx, Tre.run_cond, decide_eq_false (by omega), cond_false, Int.toNat_natCast, run_some_mat hx, Tre.run_ite, if_pos (by omega), run_some_mat hx, hm1, Int.toNat_natCast, run_some_mat hy, Tre.run_ite, if_pos (by rw [List.length_map, List.length_take]; unfold appendMax; omega), Tre.run_ret, iwrap_succ (by omega)]
   rw [List.take_add_one, hx, List.map_append]
   simp only [Option.toList_some, List.map_cons, List.map_nil, getD_of hy]
theorem solveC_net {n : TN6} {node : Int} {vs : List Int} (h : solveC n node vs = 0) : NetP n ∧ (vs.length : Int) = hasV n node ∧ ∀ x ∈ vs, inF n.1 x := by
 unfold solveC at h
 split at h
 ·rename_i h1
  obtain ⟨hp, _⟩ := nodeC_net h1
  split at h
  ·rename_i h2; exact ⟨hp, h2.1, elsOk_in hp.field h2.2⟩
  ·cases h
 ·rename_i h1; exact absurd h h1
theorem i_SolveAt_is (n : TN6) (node : Int) {vs : List Int} (hv : vs.length ≤ 1048576) : i_SolveAt_F n node vs = some (solveV n node vs) := by
 unfold i_SolveAt_F i_SolveAt solveV
 rw [run_some_mat (isolven_is n node hv), Tre.run_cond]
 by_cases h0 : solveC n node vs = 0
 ·obtain ⟨h, hvl, hvf⟩ := solveC_net h0
  obtain ⟨hm1, hm2, hm3⟩ := mess_ok h
  have hrl := rowsV_len h node
  have hrg := rowsV_GR h node
  have hrh := rowsV_has h node
  have hwg := wideV_GR (vs := vs) hrg hvf
  have hwl := wideV_len (L := rowsV n node) (vs := vs) (by omega)
  rw [decide_eq_true h0, Bool.not_true, cond_false, if_pos h0, run_some_mat (irank_is h node), Tre.run_cond]
  by_cases h1 : (echV n.1 (messN n) (rowsV n node)).length < messN n
  ·rw [decide_eq_true (by omega), if_pos h1]; rfl
  ·rw [decide_eq_false (by omega), if_neg h1, cond_false, run_some_mat (irowsZ_is h node)]
   have hw := isolve_wide (L := rowsV n node) (vs := vs) (by omega) (by omega) (fun r hr => by rw [(hrg r hr).1]; omega)
   have hr := ired_is h.field (n := messN n + 1) (by omega) hwg (by omega)
   have hEl := echV_len h.field (m := messN n + 1) hwg
   have hEk := (echFrom_ok h.field (messN n + 1) 0 (0, wideV (rowsV n node) vs) hwg (Nat.zero_le _)).2.2
   have ht := isolve_take h (E := echV n.1 (messN n + 1) (wideV (rowsV n node) vs)) (fun r hr => (echV_GR h.field hwg r hr).1) (by dsimp only at hEk; omega) _ 0 (by rw [Nat.zero_add]) (by omega)
   have ht : loopF (i_SolveAt_l14 ((echV n.1 (messN n + 1) (wideV (rowsV n node) vs)).length : Int) n (echV n.1 (messN n + 1) (wideV (rowsV n node) vs))) (0, []) = _ := ht
   have hcast : iwrap .i64 (n.2.2.1 + 1) = ((messN n + 1 : Nat) : Int) := by rw [hm1, iwrap_i64 (by omega) (by omega)]; rfl
   rw [run_some_mat hw]
   dsimp only
   rw [hcast, run_some_mat hr, run_some_mat ht]
   by_cases h2 : messN n < (echV n.1 (messN n + 1) (wideV (rowsV n node) vs)).length
   ·rw [if_pos h2, if_pos h2]; rfl
   ·rw [if_neg h2, if_neg h2]; rfl
 ·rw [decide_eq_false h0, if_neg h0]; rfl
noncomputable def i_SolveAt_V : Env := ⟨tau, [(48, i_nodeCode_i_SolveAtc1_c), (50, i_Net_rank_c), (56, i_Net_rowsZ_c), (57, slices_Clone_int64_c), (58, i_Field_reduce_c)], []⟩
noncomputable def i_SolveAt_b : Code := (Try.f19.body).getD .skip
noncomputable def i_SolveAt_l8_mk (z8_0 : Bool) (z8_1 : Bool) (h8_0_0 : (List (List Int))) (h8_0_1 : Int) (h8_0_3 : TNet) (h8_0_4 : (List Int)) : (Int × (List (List Int))) → St := fun x => stOf [(3, (.ptr (5, 0) [])), (5, (.ptr (7, 0) [])), (9, (.ref (11, 0) [])), (31, (.imm true (.sl (.sl (.int .i64))) h8_0_0)), (32, (.imm true (.int .i64) h8_0_1)), (33, (.imm true (.int .i64) x.1))] [((5, 0), some ⟨true, kNet, (.imm z8_0), h8_0_3⟩), ((7, 0), some ⟨true, (.sl (.int .i64)), (.imm z8_1), h8_0_4⟩), ((11, 0), some ⟨false, (.sl (.sl (.int .i64))), .own, x.2⟩)]
noncomputable def i_SolveAt_l8_out (z8_0 : Bool) (_z8_1 : Bool) (_h8_0_0 : (List (List Int))) (_h8_0_1 : Int) (h8_0_3 : TNet) (_h8_0_4 : (List Int)) : (List (List Int)) → Ex × St := fun x => (.exit 0, stOf [(3, (.ptr (5, 0) [])), (9, (.ref (11, 0) []))] [((5, 0), some ⟨true, kNet, (.imm z8_0), h8_0_3⟩), ((11, 0), some ⟨false, (.sl (.sl (.int .i64))), .own, x⟩)])
noncomputable def i_SolveAt_l8_D (s : St) : Tre (Ex × St) :=
 asPtr (5, 0) [] (s.tmps 3) <|
 asPtr (7, 0) [] (s.tmps 5) <|
 asRef (11, 0) [] (s.tmps 9) <|
 asImmZ true (.sl (.sl (.int .i64))) (s.tmps 31) fun d5 =>
 asImmZ true (.int .i64) (s.tmps 32) fun d7 =>
 asImmZ true (.int .i64) (s.tmps 33) fun d9 =>
 asRoot true kNet (s.roots (5, 0)) fun m11 d12 =>
 asMImm m11 fun z13 =>
 asRoot true (.sl (.int .i64)) (s.roots (7, 0)) fun m15 d16 =>
 asMImm m15 fun z17 =>
 asRoot false (.sl (.sl (.int .i64))) (s.roots (11, 0)) fun m19 d20 =>
 asM .own m19 <|
 .mat (loopF (i_SolveAt_l8 d5 d7 d16) (d9, d20)) fun x => .ret (i_SolveAt_l8_out z13 z17 d5 d7 d12 d16 x)
noncomputable def i_SolveAt_l8_L : LoopI := ⟨([3, 5, 9, 31, 32, 33], [(5, 0), (7, 0), (11, 0)]), ([3, 9], [(5, 0), (11, 0)]), i_SolveAt_l8_D⟩
noncomputable def i_SolveAt_l14_mk (z14_0 : Bool) (h14_0_0 : Int) (h14_0_2 : TNet) (h14_0_4 : (List (List Int))) : (Int × (List Int)) → St := fun x => stOf [(3, (.ptr (5, 0) [])), (12, (.ref (14, 0) [])), (57, (.ref (59, 0) [])), (58, (.imm true (.int .i64) h14_0_0)), (59, (.imm true (.int .i64) x.1))] [((5, 0), some ⟨true, kNet, (.imm z14_0), h14_0_2⟩), ((14, 0), some ⟨false, (.sl (.int .i64)), .own, x.2⟩), ((59, 0), some ⟨false, (.sl (.sl (.int .i64))), .own, h14_0_4⟩)]
noncomputable def i_SolveAt_l14_out (_z14_0 : Bool) (_h14_0_0 : Int) (_h14_0_2 : TNet) (_h14_0_4 : (List (List Int))) : ((Int × (List Int)) ⊕ (List Int)) → Ex × St
 | .inl x => (.ret, stOf [(6, .nil), (7, (.imm true (.int .i64) x.1)), (12, (.ref (14, 0) []))] [((14, 0), some ⟨false, (.sl (.int .i64)), .own, x.2⟩)])
 | .inr x => (.exit 2, stOf [(6, .dead), (7, .dead), (12, (.ref (14, 0) []))] [((14, 0), some ⟨false, (.sl (.int .i64)), .own, x⟩)])
noncomputable def i_SolveAt_l14_D (s : St) : Tre (Ex × St) :=
 asPtr (5, 0) [] (s.tmps 3) <|
 asRef (14, 0) [] (s.tmps 12) <|
 asRef (59, 0) [] (s.tmps 57) <|
 asImmZ true (.int .i64) (s.tmps 58) fun d5 =>
 asImmZ true (.int .i64) (s.tmps 59) fun d7 =>
 asRoot true kNet (s.roots (5, 0)) fun m9 d10 =>
 asMImm m9 fun z11 =>
 asRoot false (.sl (.int .i64)) (s.roots (14, 0)) fun m13 d14 =>
 asM .own m13 <|
 asRoot false (.sl (.sl (.int .i64))) (s.roots (59, 0)) fun m16 d17 =>
 asM .own m16 <|
 .mat (loopF (i_SolveAt_l14 d5 d10 d17) (d7, d14)) fun x => .alt x (fun a0 => .ret (i_SolveAt_l14_out z11 d5 d10 d17 (.inl a0))) (fun b0 => .ret (i_SolveAt_l14_out z11 d5 d10 d17 (.inr b0)))
noncomputable def i_SolveAt_l14_L : LoopI := ⟨([3, 12, 57, 58, 59], [(5, 0), (14, 0), (59, 0)]), ([6, 7, 12], [(14, 0)]), i_SolveAt_l14_D⟩
noncomputable def i_SolveAt_A : List (Nat × LoopI) := [(8, i_SolveAt_l8_L), (14, i_SolveAt_l14_L)]
set_option maxRecDepth 100000 in
theorem i_SolveAt_l8_step : ∀ (z8_0 : Bool) (z8_1 : Bool) (h8_0_0 : (List (List Int))) (h8_0_1 : Int) (h8_0_3 : TNet) (h8_0_4 : (List Int)) (x : (Int × (List (List Int)))) (c : St → Option (Ex × St)), den i_SolveAt_V i_SolveAt_A (loopAt i_SolveAt_b 0) (i_SolveAt_l8_mk z8_0 z8_1 h8_0_0 h8_0_1 h8_0_3 h8_0_4 x) (roundK i_SolveAt_l8_L.kp i_SolveAt_l8_L.kx c) = (i_SolveAt_l8 h8_0_0 h8_0_1 h8_0_4 x).run (roundR (i_SolveAt_l8_mk z8_0 z8_1 h8_0_0 h8_0_1 h8_0_3 h8_0_4) (i_SolveAt_l8_out z8_0 z8_1 h8_0_0 h8_0_1 h8_0_3 h8_0_4) c) := fun _ _ _ _ _ _ _ _ => by
 kernel_rfl
theorem i_SolveAt_l8_ok : LoopOK i_SolveAt_V i_SolveAt_A (loopAt i_SolveAt_b 0) i_SolveAt_l8_L := loopOK_of fun s e s' h => by
 generalize hs : restrict i_SolveAt_l8_L.kp s = s1 at h
 have h : (i_SolveAt_l8_D s1).run some = some (e, s') := h
 obtain ⟨e1, h_0⟩ := asPtr_spec h
 obtain ⟨e2, h_1⟩ := asPtr_spec h_0
 obtain ⟨e3, h_2⟩ := asRef_spec h_1
 obtain ⟨d5, e4, h_3⟩ := asImmZ_spec h_2
 obtain ⟨d7, e6, h_4⟩ := asImmZ_spec h_3
 obtain ⟨d9, e8, h_5⟩ := asImmZ_spec h_4
 obtain ⟨m11, d12, e10, h_6⟩ := asRoot_spec h_5
 obtain ⟨z13, rfl, h_7⟩ := asMImm_spec h_6
 obtain ⟨m15, d16, e14, h_8⟩ := asRoot_spec h_7
 obtain ⟨z17, rfl, h_9⟩ := asMImm_spec h_8
 obtain ⟨m19, d20, e18, h_10⟩ := asRoot_spec h_9
 obtain ⟨rfl, h_11⟩ := asM_spec h_10
 obtain ⟨y, hy, hz⟩ := mat_ret h_11
 refine ⟨_, _, i_SolveAt_l8_mk z13 z17 d5 d7 d12 d16, i_SolveAt_l8_out z13 z17 d5 d7 d12 d16, i_SolveAt_l8 d5 d7 d16, (d9, d20), y, ?_, hy, ?_, i_SolveAt_l8_step z13 z17 d5 d7 d12 d16⟩
 ·subst hs; exact restrict_eq (T := [(3, (.ptr (5, 0) [])), (5, (.ptr (7, 0) [])), (9, (.ref (11, 0) [])), (31, (.imm true (.sl (.sl (.int .i64))) d5)), (32, (.imm true (.int .i64) d7)), (33, (.imm true (.int .i64) d9))]) (U := [((5, 0), some ⟨true, kNet, (.imm z13), d12⟩), ((7, 0), some ⟨true, (.sl (.int .i64)), (.imm z17), d16⟩), ((11, 0), some ⟨false, (.sl (.sl (.int .i64))), .own, d20⟩)]) rfl rfl ⟨e1, e2, e3, e4, e6, e8, trivial⟩ ⟨e10, e14, e18, trivial⟩
 ·exact Option.some.inj hz
set_option maxRecDepth 100000 in
theorem i_SolveAt_l14_step : ∀ (z14_0 : Bool) (h14_0_0 : Int) (h14_0_2 : TNet) (h14_0_4 : (List (List Int))) (x : (Int × (List Int))) (c : St → Option (Ex × St)), den i_SolveAt_V i_SolveAt_A (loopAt i_SolveAt_b 1) (i_SolveAt_l14_mk z14_0 h14_0_0 h14_0_2 h14_0_4 x) (roundK i_SolveAt_l14_L.kp i_SolveAt_l14_L.kx c) = (i_SolveAt_l14 h14_0_0 h14_0_2 h14_0_4 x).run (roundR (i_SolveAt_l14_mk z14_0 h14_0_0 h14_0_2 h14_0_4) (i_SolveAt_l14_out z14_0 h14_0_0 h14_0_2 h14_0_4) c) := fun _ _ _ _ _ _ => by
 kernel_rfl
theorem i_SolveAt_l14_ok : LoopOK i_SolveAt_V i_SolveAt_A (loopAt i_SolveAt_b 1) i_SolveAt_l14_L := loopOK_of fun s e s' h => by
 generalize hs : restrict i_SolveAt_l14_L.kp s = s1 at h
 have h : (i_SolveAt_l14_D s1).run some = some (e, s') := h
 obtain ⟨e1, h_0⟩ := asPtr_spec h
 obtain ⟨e2, h_1⟩ := asRef_spec h_0
 obtain ⟨e3, h_2⟩ := asRef_spec h_1
 obtain ⟨d5, e4, h_3⟩ := asImmZ_spec h_2
 obtain ⟨d7, e6, h_4⟩ := asImmZ_spec h_3
 obtain ⟨m9, d10, e8, h_5⟩ := asRoot_spec h_4
 obtain ⟨z11, rfl, h_6⟩ := asMImm_spec h_5
 obtain ⟨m13, d14, e12, h_7⟩ := asRoot_spec h_6
 obtain ⟨rfl, h_8⟩ := asM_spec h_7
 obtain ⟨m16, d17, e15, h_9⟩ := asRoot_spec h_8
 obtain ⟨rfl, h_10⟩ := asM_spec h_9
 obtain ⟨y, hy, hz⟩ := mat_some h_10
 refine ⟨_, _, i_SolveAt_l14_mk z11 d5 d10 d17, i_SolveAt_l14_out z11 d5 d10 d17, i_SolveAt_l14 d5 d10 d17, (d7, d14), y, ?_, hy, ?_, i_SolveAt_l14_step z11 d5 d10 d17⟩
 ·subst hs; exact restrict_eq (T := [(3, (.ptr (5, 0) [])), (12, (.ref (14, 0) [])), (57, (.ref (59, 0) [])), (58, (.imm true (.int .i64) d5)), (59, (.imm true (.int .i64) d7))]) (U := [((5, 0), some ⟨true, kNet, (.imm z11), d10⟩), ((14, 0), some ⟨false, (.sl (.int .i64)), .own, d14⟩), ((59, 0), some ⟨false, (.sl (.sl (.int .i64))), .own, d17⟩)]) rfl rfl ⟨e1, e2, e3, e4, e6, trivial⟩ ⟨e8, e12, e15, trivial⟩
 ·rcases y with x | x <;> exact Option.some.inj hz
noncomputable def i_SolveAt_I : FnI := ⟨i_SolveAt_b, Try.f19.results.toList, Try.f19.resultTypes.toList, i_SolveAt_A⟩
noncomputable def i_SolveAt_out (_zp0 : Bool) (_zp1 : Bool) (_p0 : TNet) (_p1 : Int) (_p2 : (List Int)) : (Int × (List Int)) → CallOut := fun r => ⟨(.tcons (.ref (1, 0) []) (.tcons (.imm true (.int .i64) r.1) .tnil)), [], [⟨false, (.sl (.int .i64)), .own, r.2⟩]⟩
set_option maxRecDepth 100000 in
theorem i_SolveAt_eq : ∀ (zp0 : Bool) (zp1 : Bool) (p0 : TNet) (p1 : Int) (p2 : (List Int)), denFn i_SolveAt_V i_SolveAt_I ⟨[(.imm zp0 kNet p0), (.imm true (.int .i64) p1), (.imm zp1 (.sl (.int .i64)) p2)], []⟩ = (i_SolveAt p0 p1 p2).run fun r => some (i_SolveAt_out zp0 zp1 p0 p1 p2 r) := fun _ _ _ _ _ => by kernel_rfl
noncomputable def i_SolveAt_G (av : List AV) (rs : List Root) : Tre CallOut :=
 asCons av fun a0_ av0 =>
 asCons av0 fun a1_ av1 =>
 asCons av1 fun a2_ av2 =>
 asEnd av2 <|
 asEnd rs <|
 asImm kNet a0_ fun z2 d1 =>
 asImmZ true (.int .i64) a1_ fun d3 =>
 asImm (.sl (.int .i64)) a2_ fun z5 d4 =>
 .mat (i_SolveAt_F d1 d3 d4) fun r => .ret (i_SolveAt_out z2 z5 d1 d3 d4 r)
noncomputable def i_SolveAt_c : Ctr := ⟨[], fun ci => i_SolveAt_G ci.args ci.roots, false⟩
theorem i_SolveAt_env : EnvOK Try.prog .none i_SolveAt_V := (envOK_cons i_nodeCode_i_SolveAtc1_ok ent48 (envOK_cons i_Net_rank_ok ent50 (envOK_cons i_Net_rowsZ_ok ent56 (envOK_cons slices_Clone_int64_ok ent57 (envOK_cons i_Field_reduce_ok ent58 envOK_nil)))))
set_option maxRecDepth 100000 in
theorem i_SolveAt_ok : Contract Try.prog .none 19 i_SolveAt_c := by
 have hl : LoopsOK i_SolveAt_V i_SolveAt_A i_SolveAt_b := (loopsOK_all (n := 2) (by kernel_rfl) fun k hk => by
   match k, hk with
   | 0, _ => exact loopOK_at (id := 8) (L := i_SolveAt_l8_L) (by kernel_rfl) (by kernel_rfl) i_SolveAt_l8_ok
   | 1, _ => exact loopOK_at (id := 14) (L := i_SolveAt_l14_L) (by kernel_rfl) (by kernel_rfl) i_SolveAt_l14_ok)
 refine (contract_of (F := i_SolveAt_I) tau_tys i_SolveAt_env Try.func19 (by kernel_rfl) (by kernel_rfl) (by kernel_rfl) hl []).weaken ?_
 rintro ⟨av, rs⟩ co h
 have h : (i_SolveAt_G av rs).run some = some co := h
 obtain ⟨a0_, av0, rfl, h_0⟩ := asCons_spec h
 obtain ⟨a1_, av1, rfl, h_1⟩ := asCons_spec h_0
 obtain ⟨a2_, av2, rfl, h_2⟩ := asCons_spec h_1
 obtain ⟨rfl, h_3⟩ := asEnd_spec h_2
 obtain ⟨rfl, h_4⟩ := asEnd_spec h_3
 obtain ⟨z2, d1, rfl, h_5⟩ := asImm_spec h_4
 obtain ⟨d3, rfl, h_6⟩ := asImmZ_spec h_5
 obtain ⟨z5, d4, rfl, h_7⟩ := asImm_spec h_6
 exact fin_mat (i_SolveAt_eq z2 z5 d1 d3 d4) h_7
end Go.Proofs.Ytkgekgfmnhccmaa

namespace Go.Proofs.Ytkgekgfmnhccmaa
open Go Go.Abs Go.Proofs
noncomputable def s_l01Given (p0 : (Int × (Int × Unit))) (p1 : Int) (p2 : Int) : Tre Int :=
 .mat (s_l01Ok_F p0) fun r1 =>
 .cond (!r1)
  (.ret 1)
  (.mat (s_l01Size_F p0) fun r2 =>
  let v3 := inR p1 0 (iwrap .i64 (r2 - 1))
  .cond (!v3)
   (.ret 2)
   (.mat (s_l01Size_F p0) fun r4 =>
   let v5 := inR p2 0 (iwrap .i64 (r4 - 1))
   .cond (!v5)
    (.ret 2)
    (.ret 0)))
noncomputable def s_l01Given_F (p0 : (Int × (Int × Unit))) (p1 : Int) (p2 : Int) : Option Int := (s_l01Given p0 p1 p2).run some
noncomputable def s_l01Given_V : Env := ⟨tau, [(95, s_l01Ok_c), (86, s_l01Size_c), (96, s_l00In_c)], []⟩
noncomputable def s_l01Given_b : Code := (Try.f100.body).getD .skip
noncomputable def s_l01Given_I : FnI := ⟨s_l01Given_b, Try.f100.results.toList, Try.f100.resultTypes.toList, []⟩
noncomputable def s_l01Given_out (_p0 : (Int × (Int × Unit))) (_p1 : Int) (_p2 : Int) : Int → CallOut := fun r => ⟨(.imm true (.int .i64) r), [], []⟩
set_option maxRecDepth 100000 in
theorem s_l01Given_eq : ∀ (p0 : (Int × (Int × Unit))) (p1 : Int) (p2 : Int), denFn s_l01Given_V s_l01Given_I ⟨[(.imm true kField p0), (.imm true (.int .i64) p1), (.imm true (.int .i64) p2)], []⟩ = (s_l01Given p0 p1 p2).run fun r => some (s_l01Given_out p0 p1 p2 r) := fun _ _ _ => by kernel_rfl
noncomputable def s_l01Given_G (av : List AV) (rs : List Root) : Tre CallOut :=
 asCons av fun a0_ av0 =>
 asCons av0 fun a1_ av1 =>
 asCons av1 fun a2_ av2 =>
 asEnd av2 <|
 asEnd rs <|
 asImmZ true kField a0_ fun d1 =>
 asImmZ true (.int .i64) a1_ fun d2 =>
 asImmZ true (.int .i64) a2_ fun d3 =>
 .mat (s_l01Given_F d1 d2 d3) fun r => .ret (s_l01Given_out d1 d2 d3 r)
noncomputable def s_l01Given_c : Ctr := ⟨[], fun ci => s_l01Given_G ci.args ci.roots, false⟩
theorem s_l01Given_env : EnvOK Try.prog .none s_l01Given_V := (envOK_cons s_l01Ok_ok ent95 (envOK_cons s_l01Size_ok ent86 (envOK_cons s_l00In_ok ent96 envOK_nil)))
set_option maxRecDepth 100000 in
theorem s_l01Given_ok : Contract Try.prog .none 100 s_l01Given_c := by
 have hl : LoopsOK s_l01Given_V [] s_l01Given_b := loopsOK_nil (by kernel_rfl)
 refine (contract_of (F := s_l01Given_I) tau_tys s_l01Given_env Try.func100 (by kernel_rfl) (by kernel_rfl) (by kernel_rfl) hl []).weaken ?_
 rintro ⟨av, rs⟩ co h
 have h : (s_l01Given_G av rs).run some = some co := h
 obtain ⟨a0_, av0, rfl, h_0⟩ := asCons_spec h
 obtain ⟨a1_, av1, rfl, h_1⟩ := asCons_spec h_0
 obtain ⟨a2_, av2, rfl, h_2⟩ := asCons_spec h_1
 obtain ⟨rfl, h_3⟩ := asEnd_spec h_2
 obtain ⟨rfl, h_4⟩ := asEnd_spec h_3
 obtain ⟨d1, rfl, h_5⟩ := asImmZ_spec h_4
 obtain ⟨d2, rfl, h_6⟩ := asImmZ_spec h_5
 obtain ⟨d3, rfl, h_7⟩ := asImmZ_spec h_6
 exact fin_mat (s_l01Given_eq d1 d2 d3) h_7
end Go.Proofs.Ytkgekgfmnhccmaa

namespace Go.Proofs.Ytkgekgfmnhccmaa
open Go Go.Abs Go.Proofs
noncomputable def s_MulIn (p0 : (Int × (Int × Unit))) (p1 : Int) (p2 : Int) : Tre (Int × Int) :=
 .mat (s_l01Given_F p0 p1 p2) fun r1 =>
 .cond (!decide (r1 = 0))
  (.ret (0, r1))
  (.mat (s_l01Mul_F p0 p1 p2) fun r2 =>
  .ret (r2, 0))
noncomputable def s_MulIn_F (p0 : (Int × (Int × Unit))) (p1 : Int) (p2 : Int) : Option (Int × Int) := (s_MulIn p0 p1 p2).run some
-- more
theorem inF_inR {f : TF3} {x : Int} (h : inF f x) : inR x 0 (topF f) = true := by
 refine inR_iff.2 ?_
 unfold topF
 refine ⟨h.1, ?_⟩
 have h2 := h.2
 push_cast at h2
 omega
theorem mulIn_is {f : TF3} (hf : fieldOk f = true) {x y : Int} (hx : inF f x) (hy : inF f y) : s_MulIn_F f x y = some (mulI f x y, 0) := by
 have ht := topF_le hf
 have hw : iwrap .i64 (topF f + 1 - 1) = topF f := by rw [iwrap_i64 (by omega) (by omega)]; omega
 have hg : s_l01Given_F f x y = some 0 := by
  unfold s_l01Given_F s_l01Given
  rw [run_some_mat (s_l01Ok_is f), Tre.run_cond, hf, Bool.not_true, cond_false, run_some_mat (size_is hf), hw]
  try dsimp only
  rw [Tre.run_cond, inF_inR hx, Bool.not_true, cond_false, run_some_mat (size_is hf), hw]
  try dsimp only
  rw [Tre.run_cond, inF_inR hy]
  rfl
 unfold s_MulIn_F s_MulIn
 rw [run_some_mat hg, Tre.run_cond, decide_eq_true rfl, Bool.not_true, cond_false, run_some_mat (smul_is hf hx hy)]
 rfl
noncomputable def s_MulIn_V : Env := ⟨tau, [(100, s_l01Given_c), (101, s_l01Mul_c)], []⟩
noncomputable def s_MulIn_b : Code := (Try.f51.body).getD .skip
noncomputable def s_MulIn_I : FnI := ⟨s_MulIn_b, Try.f51.results.toList, Try.f51.resultTypes.toList, []⟩
noncomputable def s_MulIn_out (_p0 : (Int × (Int × Unit))) (_p1 : Int) (_p2 : Int) : (Int × Int) → CallOut := fun r => ⟨(.tcons (.imm true (.int .i64) r.1) (.tcons (.imm true (.int .i64) r.2) .tnil)), [], []⟩
set_option maxRecDepth 100000 in
theorem s_MulIn_eq : ∀ (p0 : (Int × (Int × Unit))) (p1 : Int) (p2 : Int), denFn s_MulIn_V s_MulIn_I ⟨[(.imm true kField p0), (.imm true (.int .i64) p1), (.imm true (.int .i64) p2)], []⟩ = (s_MulIn p0 p1 p2).run fun r => some (s_MulIn_out p0 p1 p2 r) := fun _ _ _ => by kernel_rfl
noncomputable def s_MulIn_G (av : List AV) (rs : List Root) : Tre CallOut :=
 asCons av fun a0_ av0 =>
 asCons av0 fun a1_ av1 =>
 asCons av1 fun a2_ av2 =>
 asEnd av2 <|
 asEnd rs <|
 asImmZ true kField a0_ fun d1 =>
 asImmZ true (.int .i64) a1_ fun d2 =>
 asImmZ true (.int .i64) a2_ fun d3 =>
 .mat (s_MulIn_F d1 d2 d3) fun r => .ret (s_MulIn_out d1 d2 d3 r)
noncomputable def s_MulIn_c : Ctr := ⟨[], fun ci => s_MulIn_G ci.args ci.roots, false⟩
theorem s_MulIn_env : EnvOK Try.prog .none s_MulIn_V := (envOK_cons s_l01Given_ok ent100 (envOK_cons s_l01Mul_ok ent101 envOK_nil))
set_option maxRecDepth 100000 in
theorem s_MulIn_ok : Contract Try.prog .none 51 s_MulIn_c := by
 have hl : LoopsOK s_MulIn_V [] s_MulIn_b := loopsOK_nil (by kernel_rfl)
 refine (contract_of (F := s_MulIn_I) tau_tys s_MulIn_env Try.func51 (by kernel_rfl) (by kernel_rfl) (by kernel_rfl) hl []).weaken ?_
 rintro ⟨av, rs⟩ co h
 have h : (s_MulIn_G av rs).run some = some co := h
 obtain ⟨a0_, av0, rfl, h_0⟩ := asCons_spec h
 obtain ⟨a1_, av1, rfl, h_1⟩ := asCons_spec h_0
 obtain ⟨a2_, av2, rfl, h_2⟩ := asCons_spec h_1
 obtain ⟨rfl, h_3⟩ := asEnd_spec h_2
 obtain ⟨rfl, h_4⟩ := asEnd_spec h_3
 obtain ⟨d1, rfl, h_5⟩ := asImmZ_spec h_4
 obtain ⟨d2, rfl, h_6⟩ := asImmZ_spec h_5
 obtain ⟨d3, rfl, h_7⟩ := asImmZ_spec h_6
 exact fin_mat (s_MulIn_eq d1 d2 d3) h_7
end Go.Proofs.Ytkgekgfmnhccmaa

namespace Go.Proofs.Ytkgekgfmnhccmaa
open Go Go.Abs Go.Proofs
noncomputable def l_f6dot_l3 (h3_0_0 : (List Int)) (h3_0_1 : (List Int)) (h3_0_4 : (Int × (Int × Unit))) : (Int × Int) → Tre ((Int × Int) ⊕ Int) := fun s3 =>
 .cond (decide (s3.2 < (h3_0_0.length : Int)))
  (.cond (decide (s3.2 < (h3_0_1.length : Int)))
   (.ite (0 ≤ s3.2 ∧ s3.2 < (h3_0_0.length : Int)) <|
   .mat (h3_0_0[s3.2.toNat]?) fun x1 =>
   .ite (0 ≤ s3.2 ∧ s3.2 < (h3_0_1.length : Int)) <|
   .mat (h3_0_1[s3.2.toNat]?) fun x2 =>
   .mat (s_MulIn_F h3_0_4 x1 x2) fun r3 =>
   .ret (.inl (ixor .i64 s3.1 r3.1, iwrap .i64 (s3.2 + 1))))
   (.ret (.inr s3.1)))
  (.ret (.inr s3.1))
noncomputable def l_f6dot (p0 : (Int × (Int × Unit))) (p1 : (List Int)) (p2 : (List Int)) : Tre Int :=
 .mat (loopF (l_f6dot_l3 p1 p2 p0) (0, 0)) fun l4 =>
 .ret l4
noncomputable def l_f6dot_F (p0 : (Int × (Int × Unit))) (p1 : (List Int)) (p2 : (List Int)) : Option Int := (l_f6dot p0 p1 p2).run some
-- more
theorem f6dot_is {f : TF3} (hf : fieldOk f = true) {u w : List Int} (hl : u.length = w.length) (hn : u.length ≤ 1000000) (hu : ∀ x ∈ u, inF f x) (hw : ∀ x ∈ w, inF f x) : l_f6dot_F f u w = some (dotV f u w) := by
 have key := fold_loop (xs := u.zip w) (step := l_f6dot_l3 u w f) (γ := Int) (fun (i : Nat) (acc : Int) => (acc, (i : Int))) (fun _ acc p => .inl (ixor .i64 acc (mulI f p.1 p.2))) id (fun _ _ => True) (by
  intro i acc p hp _
  have hlt := (List.getElem?_eq_some_iff.1 hp).1
  rw [List.length_zip] at hlt
  obtain ⟨p1, p2⟩ := p
  rw [List.getElem?_zip_eq_some] at hp
  obtain ⟨h1, h2⟩ := hp
  refine ⟨?_, fun _ _ => trivial⟩
  unfold l_f6dot_l3
  dsimp only
  rw [Tre.run_cond, decide_eq_true (by omega), cond_true, Tre.run_cond, decide_eq_true (by omega), cond_true, Tre.run_ite, if_pos (by omega), Int.toNat_natCast, run_some_mat h1, Tre.run_ite, if_pos (by omega), run_some_mat h2, run_some_mat (mulIn_is hf (hu _ (List.mem_of_getElem? h1)) (hw _ (List.mem_of_getElem? h2))), Tre.run_ret, iwrap_succ (by omega)]) (by
  intro acc _
  unfold l_f6dot_l3
  dsimp only
  rw [Tre.run_cond, decide_eq_false (by rw [List.length_zip]; omega), cond_false]
  rfl) (u.zip w) 0 0 rfl (Nat.zero_le _) trivial
 rw [foldE_dot hf u w 0 0 inF_zero hu hw, zero_xorF hf (dotV_in hf hu hw)] at key
 have key : loopF (l_f6dot_l3 u w f) (0, 0) = some (dotV f u w) := key
 unfold l_f6dot_F l_f6dot
 rw [run_some_mat key]
 rfl
noncomputable def l_f6dot_V : Env := ⟨tau, [(51, s_MulIn_c)], []⟩
noncomputable def l_f6dot_b : Code := (Try.f18.body).getD .skip
noncomputable def l_f6dot_l3_mk (z3_0 : Bool) (z3_1 : Bool) (h3_0_0 : (List Int)) (h3_0_1 : (List Int)) (h3_0_4 : (Int × (Int × Unit))) : (Int × Int) → St := fun x => stOf [(1, (.imm z3_0 (.sl (.int .i64)) h3_0_0)), (2, (.imm z3_1 (.sl (.int .i64)) h3_0_1)), (3, (.ptr (5, 0) [])), (7, (.imm true (.int .i64) x.1)), (8, (.imm true (.int .i64) x.2))] [((5, 0), some ⟨true, kField, .own, h3_0_4⟩)]
noncomputable def l_f6dot_l3_out (_z3_0 : Bool) (_z3_1 : Bool) (_h3_0_0 : (List Int)) (_h3_0_1 : (List Int)) (_h3_0_4 : (Int × (Int × Unit))) : Int → Ex × St := fun x => (.exit 0, stOf [(7, (.imm true (.int .i64) x))] [])
noncomputable def l_f6dot_l3_D (s : St) : Tre (Ex × St) :=
 asImm (.sl (.int .i64)) (s.tmps 1) fun z3 d2 =>
 asImm (.sl (.int .i64)) (s.tmps 2) fun z6 d5 =>
 asPtr (5, 0) [] (s.tmps 3) <|
 asImmZ true (.int .i64) (s.tmps 7) fun d9 =>
 asImmZ true (.int .i64) (s.tmps 8) fun d11 =>
 asRoot true kField (s.roots (5, 0)) fun m13 d14 =>
 asM .own m13 <|
 .mat (loopF (l_f6dot_l3 d2 d5 d14) (d9, d11)) fun x => .ret (l_f6dot_l3_out z3 z6 d2 d5 d14 x)
noncomputable def l_f6dot_l3_L : LoopI := ⟨([1, 2, 3, 7, 8], [(5, 0)]), ([7], []), l_f6dot_l3_D⟩
noncomputable def l_f6dot_A : List (Nat × LoopI) := [(3, l_f6dot_l3_L)]
set_option maxRecDepth 100000 in
theorem l_f6dot_l3_step : ∀ (z3_0 : Bool) (z3_1 : Bool) (h3_0_0 : (List Int)) (h3_0_1 : (List Int)) (h3_0_4 : (Int × (Int × Unit))) (x : (Int × Int)) (c : St → Option (Ex × St)), den l_f6dot_V l_f6dot_A (loopAt l_f6dot_b 0) (l_f6dot_l3_mk z3_0 z3_1 h3_0_0 h3_0_1 h3_0_4 x) (roundK l_f6dot_l3_L.kp l_f6dot_l3_L.kx c) = (l_f6dot_l3 h3_0_0 h3_0_1 h3_0_4 x).run (roundR (l_f6dot_l3_mk z3_0 z3_1 h3_0_0 h3_0_1 h3_0_4) (l_f6dot_l3_out z3_0 z3_1 h3_0_0 h3_0_1 h3_0_4) c) := fun _ _ _ _ _ _ _ => by
 kernel_rfl
theorem l_f6dot_l3_ok : LoopOK l_f6dot_V l_f6dot_A (loopAt l_f6dot_b 0) l_f6dot_l3_L := loopOK_of fun s e s' h => by
 generalize hs : restrict l_f6dot_l3_L.kp s = s1 at h
 have h : (l_f6dot_l3_D s1).run some = some (e, s') := h
 obtain ⟨z3, d2, e1, h_0⟩ := asImm_spec h
 obtain ⟨z6, d5, e4, h_1⟩ := asImm_spec h_0
 obtain ⟨e7, h_2⟩ := asPtr_spec h_1
 obtain ⟨d9, e8, h_3⟩ := asImmZ_spec h_2
 obtain ⟨d11, e10, h_4⟩ := asImmZ_spec h_3
 obtain ⟨m13, d14, e12, h_5⟩ := asRoot_spec h_4
 obtain ⟨rfl, h_6⟩ := asM_spec h_5
 obtain ⟨y, hy, hz⟩ := mat_ret h_6
 refine ⟨_, _, l_f6dot_l3_mk z3 z6 d2 d5 d14, l_f6dot_l3_out z3 z6 d2 d5 d14, l_f6dot_l3 d2 d5 d14, (d9, d11), y, ?_, hy, ?_, l_f6dot_l3_step z3 z6 d2 d5 d14⟩
 ·subst hs; exact restrict_eq (T := [(1, (.imm z3 (.sl (.int .i64)) d2)), (2, (.imm z6 (.sl (.int .i64)) d5)), (3, (.ptr (5, 0) [])), (7, (.imm true (.int .i64) d9)), (8, (.imm true (.int .i64) d11))]) (U := [((5, 0), some ⟨true, kField, .own, d14⟩)]) rfl rfl ⟨e1, e4, e7, e8, e10, trivial⟩ ⟨e12, trivial⟩
 ·exact Option.some.inj hz
noncomputable def l_f6dot_I : FnI := ⟨l_f6dot_b, Try.f18.results.toList, Try.f18.resultTypes.toList, l_f6dot_A⟩
noncomputable def l_f6dot_out (_zp0 : Bool) (_zp1 : Bool) (_p0 : (Int × (Int × Unit))) (_p1 : (List Int)) (_p2 : (List Int)) : Int → CallOut := fun r => ⟨(.imm true (.int .i64) r), [], []⟩
set_option maxRecDepth 100000 in
theorem l_f6dot_eq : ∀ (zp0 : Bool) (zp1 : Bool) (p0 : (Int × (Int × Unit))) (p1 : (List Int)) (p2 : (List Int)), denFn l_f6dot_V l_f6dot_I ⟨[(.imm true kField p0), (.imm zp0 (.sl (.int .i64)) p1), (.imm zp1 (.sl (.int .i64)) p2)], []⟩ = (l_f6dot p0 p1 p2).run fun r => some (l_f6dot_out zp0 zp1 p0 p1 p2 r) := fun _ _ _ _ _ => by kernel_rfl
noncomputable def l_f6dot_G (av : List AV) (rs : List Root) : Tre CallOut :=
 asCons av fun a0_ av0 =>
 asCons av0 fun a1_ av1 =>
 asCons av1 fun a2_ av2 =>
 asEnd av2 <|
 asEnd rs <|
 asImmZ true kField a0_ fun d1 =>
 asImm (.sl (.int .i64)) a1_ fun z3 d2 =>
 asImm (.sl (.int .i64)) a2_ fun z5 d4 =>
 .mat (l_f6dot_F d1 d2 d4) fun r => .ret (l_f6dot_out z3 z5 d1 d2 d4 r)
noncomputable def l_f6dot_c : Ctr := ⟨[], fun ci => l_f6dot_G ci.args ci.roots, false⟩
theorem l_f6dot_env : EnvOK Try.prog .none l_f6dot_V := (envOK_cons s_MulIn_ok ent51 envOK_nil)
set_option maxRecDepth 100000 in
theorem l_f6dot_ok : Contract Try.prog .none 18 l_f6dot_c := by
 have hl : LoopsOK l_f6dot_V l_f6dot_A l_f6dot_b := (loopsOK_all (n := 1) (by kernel_rfl) fun k hk => by
   match k, hk with
   | 0, _ => exact loopOK_at (id := 3) (L := l_f6dot_l3_L) (by kernel_rfl) (by kernel_rfl) l_f6dot_l3_ok)
 refine (contract_of (F := l_f6dot_I) tau_tys l_f6dot_env Try.func18 (by kernel_rfl) (by kernel_rfl) (by kernel_rfl) hl []).weaken ?_
 rintro ⟨av, rs⟩ co h
 have h : (l_f6dot_G av rs).run some = some co := h
 obtain ⟨a0_, av0, rfl, h_0⟩ := asCons_spec h
 obtain ⟨a1_, av1, rfl, h_1⟩ := asCons_spec h_0
 obtain ⟨a2_, av2, rfl, h_2⟩ := asCons_spec h_1
 obtain ⟨rfl, h_3⟩ := asEnd_spec h_2
 obtain ⟨rfl, h_4⟩ := asEnd_spec h_3
 obtain ⟨d1, rfl, h_5⟩ := asImmZ_spec h_4
 obtain ⟨z3, d2, rfl, h_6⟩ := asImm_spec h_5
 obtain ⟨z5, d4, rfl, h_7⟩ := asImm_spec h_6
 exact fin_mat (l_f6dot_eq z3 z5 d1 d2 d4) h_7
end Go.Proofs.Ytkgekgfmnhccmaa

namespace Go.Proofs.Ytkgekgfmnhccmaa
open Go Go.Abs Go.Proofs
-- shared
def cell (L : List (List Int)) (j c : Nat) : Int := (L.getD j []).getD c 0
theorem cell_of {L : List (List Int)} {j c : Nat} {r : List Int} {x : Int} (h : L[j]? = some r) (hx : r[c]? = some x) : cell L j c = x := by
 unfold cell; rw [getD_of h, getD_of hx]
theorem cell_row {L : List (List Int)} {j c : Nat} {r : List Int} (h : L[j]? = some r) : cell L j c = r.getD c 0 := by
 unfold cell; rw [getD_of h]
theorem cell_in {f : TF3} {n : Nat} {L : List (List Int)} (h : GR f n L) (j c : Nat) : inF f (cell L j c) := by
 unfold cell
 cases hj : L[j]? with
 | none => rw [List.getD_eq_getElem?_getD (l := L), hj]; exact inF_zero
 | some r =>
  rw [getD_of hj, List.getD_eq_getElem?_getD]
  cases hc : r[c]? with
  | none => exact inF_zero
  | some x => exact (GR_at h hj).2 x (List.mem_of_getElem? hc)
theorem nzAt_cell {f : TF3} {n : Nat} {L : List (List Int)} (h : GR f n L) {j c : Nat} (hc : c < n) {r : List Int} (hr : L[j]? = some r) : nzAt c r = !decide (cell L j c = 0) := by
 have hx := List.getElem?_eq_getElem (show c < r.length by rw [(GR_at h hr).1]; exact hc)
 rw [cell_of hr hx]
 unfold nzAt
 rw [hx]
theorem idxI_before {α : Type} (p : α → Bool) : ∀ (l : List α) (i : Nat) {k : Nat}, idxI p i l = ((i + k : Nat) : Int) → ∀ j, j < k → ∀ x, l[j]? = some x → p x = false := by
 intro l
 induction l with
 | nil => intro i k h j hj x hx; simp at hx
 | cons y l ih =>
  intro i k h j hj x hx
  rcases Bool.eq_false_or_eq_true (p y) with hp | hp
  ·simp only [idxI, hp, cond_true] at h; omega
  ·simp only [idxI, hp, cond_false] at h
   cases j with
   | zero => simp only [List.getElem?_cons_zero, Option.some.injEq] at hx; subst hx; exact hp
   | succ j => exact ih (i + 1) (k := k - 1) (by rw [h]; congr 1; omega) j (by omega) x (by simpa using hx)
theorem echStep_cells {f : TF3} (hf : fieldOk f = true) {n c : Nat} (hc : c < n) {a : Nat} {L : List (List Int)} (h : GR f n L) :
  ((∀ j, a ≤ j → j < L.length → cell L j c = 0) ∧ echStep f c (a, L) = (a, L)) ∨
  ∃ (k : Nat) (G : List (List Int)), a ≤ k ∧ k < L.length ∧ cell L k c ≠ 0 ∧ (∀ j, a ≤ j → j < k → cell L j c = 0) ∧ echStep f c (a, L) = (a + 1, G) ∧ GR f n G ∧ G.length = L.length ∧
   (∀ e, e < n → cell G a e = mulI f (cell L k e) (invI f (cell L k c))) ∧
   ∀ j, j < L.length → j ≠ a → ∀ e, e < n → cell G j e = ixor .i64 (cell L (if j = k then a else j) e) (mulI f (cell L (if j = k then a else j) c) (cell G a e)) := by
 have hok := echStep_ok (c := c) (s := (a, L)) hf h
 rcases idxI_cases (nzAt c) (L.drop a) a with ⟨h1, h2⟩ | ⟨k, row, h1, h2, h3⟩
 ·left
  refine ⟨fun j hj hl => ?_, ?_⟩
  ·have hr := List.getElem?_eq_getElem hl
   have hm : L[j] ∈ L.drop a := by
    refine List.mem_of_getElem? (i := j - a) ?_
    rw [List.getElem?_drop, show a + (j - a) = j by omega]
    exact hr
   have := h2 _ hm
   rw [nzAt_cell h hc hr] at this
   simpa using this
  ·unfold echStep
   dsimp only
   rw [h1]
   rfl
 ·right
  have hak : L[a + k]? = some row := by rw [← h1, List.getElem?_drop]
  have hlt := (List.getElem?_eq_some_iff.1 hak).1
  obtain ⟨r0, hr0⟩ : ∃ r0, L[a]? = some r0 := ⟨_, List.getElem?_eq_getElem (by omega)⟩
  obtain ⟨x, hx, hx0⟩ := nzAt_of h2
  have hxf := (GR_at h hak).2 x (List.mem_of_getElem? hx)
  have hrl := (GR_at h hak).1
  have hst : echStep f c (a, L) = (a + 1, clearL f c a (pivL f c (a + k) a L)) := by
   unfold echStep
   dsimp only
   rw [h3, decide_eq_false (by omega), cond_false, Int.toNat_natCast]
  have hp : pivL f c (a + k) a L = (L.set (a + k) r0).set a (row.map fun y => mulI f y (invI f x)) := by
   unfold pivL scaleV
   rw [hak, hr0]
   simp only [hx]
  have hpg := pivL_ok (c := c) (k := a + k) (a := a) hf h
  have hpa : (pivL f c (a + k) a L)[a]? = some (row.map fun y => mulI f y (invI f x)) := by rw [hp]; exact List.getElem?_set_self (by simp; omega)
  have hcl : clearL f c a (pivL f c (a + k) a L) = (pivL f c (a + k) a L).mapIdx (clearV f c a (row.map fun y => mulI f y (invI f x))) := by
   unfold clearL; rw [hpa]
  have hcg := clearL_ok (c := c) (a := a) hf hpg.1
  have hkc : cell L (a + k) c = x := cell_of hak hx
  have hone : mulI f x (invI f x) = 1 := (invI_facts hf hxf).2 hx0
  have hownc : (row.map fun y => mulI f y (invI f x))[c]? = some 1 := by rw [List.getElem?_map, hx, Option.map_some, hone]
  have hga : (clearL f c a (pivL f c (a + k) a L))[a]? = some (row.map fun y => mulI f y (invI f x)) := by
   rw [hcl, List.getElem?_mapIdx, hpa, Option.map_some]
   unfold clearV
   rw [hownc]
   simp
  refine ⟨a + k, clearL f c a (pivL f c (a + k) a L), by omega, hlt, by rw [hkc]; exact hx0, fun j h4 h5 => ?_, hst, hcg.1, by rw [hcg.2, hpg.2], fun e he => ?_, fun j hj hja e he => ?_⟩
  ·-- those before the pivot
   have hr := List.getElem?_eq_getElem (show j < L.length by omega)
   have hb := idxI_before (nzAt c) (L.drop a) a h3 (j - a) (by omega) L[j] (by rw [List.getElem?_drop, show a + (j - a) = j by omega]; exact hr)
   rw [nzAt_cell h hc hr] at hb
   simpa using hb
  ·have hy := List.getElem?_eq_getElem (show e < row.length by omega)
   rw [cell_of hak hy, hkc]
   exact cell_of hga (by rw [List.getElem?_map, hy]; rfl)
  ·have hj0 : (pivL f c (a + k) a L)[j]? = L[if j = a + k then a else j]? := by
    rw [hp, List.getElem?_set_ne (Ne.symm hja), List.getElem?_set]
    by_cases hjk : j = a + k
    ·rw [if_pos hjk.symm, if_pos hlt, if_pos hjk, hr0]
    ·rw [if_neg (Ne.symm hjk), if_neg hjk]
   obtain ⟨r, hr⟩ : ∃ r, L[if j = a + k then a else j]? = some r := ⟨_, List.getElem?_eq_getElem (by split <;> omega)⟩
   rw [hr] at hj0
   obtain ⟨hrl2, hrf2⟩ := GR_at h hr
   have hz := List.getElem?_eq_getElem (show c < r.length by omega)
   have hy := List.getElem?_eq_getElem (show e < r.length by omega)
   have hye := List.getElem?_eq_getElem (show e < (row.map fun y => mulI f y (invI f x)).length by simp; omega)
   have hyf := hrf2 _ (List.mem_of_getElem? hy)
   have hown := (GR_at hpg.1 hpa).2
   rw [cell_of hr hy, cell_of hr hz, cell_of hga hye]
   have hgj : (clearL f c a (pivL f c (a + k) a L))[j]? = some (clearV f c a (row.map fun y => mulI f y (invI f x)) j r) := by
    rw [hcl, List.getElem?_mapIdx, hj0, Option.map_some]
   have hwe := hown _ (List.mem_of_getElem? hye)
   unfold clearV at hgj
   rw [hz] at hgj
   dsimp only at hgj
   rw [decide_eq_false hja, Bool.false_or] at hgj
   by_cases h0 : r[c] = 0
   ·rw [decide_eq_true h0, cond_true] at hgj
    rw [cell_of hgj hy, h0, mulI_comm hf inF_zero hwe, mulI_zero hf hwe, xorF_zero hf hyf]
   ·rw [decide_eq_false h0, cond_false] at hgj
    refine cell_of hgj ?_
    rw [List.getElem?_map]
    rw [show (r.zip (row.map fun y => mulI f y (invI f x)))[e]? = some (r[e], (row.map fun y => mulI f y (invI f x))[e]'(by simp; omega)) from List.getElem?_zip_eq_some.2 ⟨hy, hye⟩]
    rfl
end Go.Proofs.Ytkgekgfmnhccmaa

namespace Go.Proofs.Ytkgekgfmnhccmaa
open Go Go.Abs Go.Proofs
-- shared
structure EInv (f : TF3) (n c a : Nat) (L : List (List Int)) (p : List Nat) : Prop where
 gr : GR f n L
 ac : a ≤ c
 al : a ≤ L.length
 pl : p.length = a
 plt : ∀ q ∈ p, q < c
 pinc : p.Pairwise (· < ·)
 low : ∀ j, a ≤ j → j < L.length → ∀ e, e < c → cell L j e = 0
 dia : ∀ i q, p[i]? = some q → ∀ j, j < L.length → cell L j q = if j = i then 1 else 0
 lead : ∀ i q, p[i]? = some q → ∀ e, e < q → cell L i e = 0
 full : a = c → p = List.range c
theorem EInv.start {f : TF3} {n : Nat} {L : List (List Int)} (h : GR f n L) : EInv f n 0 0 L [] :=
 ⟨h, Nat.le_refl _, Nat.zero_le _, rfl, fun _ h => absurd h List.not_mem_nil, List.Pairwise.nil, fun _ _ _ _ h => absurd h (Nat.not_lt_zero _), fun i q h => absurd h (by simp), fun i q h => absurd h (by simp), fun _ => rfl⟩
theorem EInv.step {f : TF3} (hf : fieldOk f = true) {n c a : Nat} {L : List (List Int)} {p : List Nat} (h : EInv f n c a L p) (hc : c < n) (hn : c < n) : ∃ p', EInv f n (c + 1) (echStep f c (a, L)).1 (echStep f c (a, L)).2 p' ∧ (echStep f c (a, L)).2.length = L.length := by
 rcases echStep_cells hf hc (a := a) h.gr with ⟨h1, h2⟩ | ⟨k, G, hak, hk, hx, _, h2, hg, hgl, hga, hgj⟩
 ·rw [h2]
  refine ⟨p, ⟨h.gr, by have := h.ac; omega, h.al, h.pl, fun q hq => by have := h.plt q hq; omega, h.pinc, fun j hj hl e he => ?_, h.dia, h.lead, fun hh => by have := h.ac; dsimp only at hh; omega⟩, rfl⟩
  by_cases hec : e = c
  ·subst hec; exact h1 j hj hl
  ·exact h.low j hj hl e (by omega)
 ·rw [h2]
  have hin := cell_in h.gr
  have hgin := cell_in hg
  have hxi := invI_facts hf (hin k c)
  have g1 : cell G a c = 1 := by rw [hga c hc]; exact hxi.2 hx
  have g0 : ∀ e, e < c → cell G a e = 0 := by
   intro e he
   rw [hga e (by omega), h.low k hak hk e he, mulI_comm hf inF_zero hxi.1, mulI_zero hf hxi.1]
  have gj0 : ∀ j, j < L.length → j ≠ a → ∀ e, e < c → cell G j e = cell L (if j = k then a else j) e := by
   intro j hj hja e he
   rw [hgj j hj hja e (by omega), g0 e he, mulI_zero hf (hin _ _), xorF_zero hf (hin _ _)]
  have gjc : ∀ j, j < L.length → j ≠ a → cell G j c = 0 := by
   intro j hj hja
   rw [hgj j hj hja c hc, g1, mulI_one hf (hin _ _), xorF_self hf (hin _ _)]
  have hpa : ∀ i q, (p ++ [c])[i]? = some q → (p[i]? = some q ∧ i < a) ∨ (i = a ∧ q = c) := by
   intro i q hi
   rw [List.getElem?_append, h.pl] at hi
   by_cases hia : i < a
   ·rw [if_pos hia] at hi; exact .inl ⟨hi, hia⟩
   ·rw [if_neg hia] at hi
    have := (List.getElem?_eq_some_iff.1 hi).1
    simp only [List.length_cons, List.length_nil] at this
    have hia2 : i = a := by omega
    subst hia2
    rw [Nat.sub_self] at hi
    exact .inr ⟨rfl, (Option.some.inj hi).symm⟩
  refine ⟨p ++ [c], ⟨hg, by have := h.ac; dsimp only; omega, by dsimp only; rw [hgl]; omega, by simp [h.pl], fun q hq => ?_, ?_, fun j hj hl e he => ?_, fun i q hi j hj => ?_, fun i q hi e he => ?_, fun hh => ?_⟩, hgl⟩
  ·rcases List.mem_append.1 hq with hq | hq
   ·have := h.plt q hq; omega
   ·simp only [List.mem_singleton] at hq; omega
  ·refine List.pairwise_append.2 ⟨h.pinc, List.pairwise_singleton _ _, fun z hz y hy => ?_⟩
   rw [List.mem_singleton.1 hy]; exact h.plt z hz
  ·rw [hgl] at hl
   dsimp only at hj
   by_cases hec : e = c
   ·subst hec; exact gjc j hl (by omega)
   ·rw [gj0 j hl (by omega) e (by omega)]
    exact h.low _ (by split <;> omega) (by split <;> omega) e (by omega)
  ·rw [hgl] at hj
   rcases hpa i q hi with ⟨hi, hia⟩ | ⟨rfl, rfl⟩
   ·have hqc := h.plt q (List.mem_of_getElem? hi)
    by_cases hja : j = a
    ·subst hja; rw [g0 q hqc, if_neg (by omega)]
    ·rw [gj0 j hj hja q hqc, h.dia i q hi _ (by split <;> omega)]
     by_cases hjk : j = k
     ·rw [if_pos hjk, if_neg (by omega), if_neg (by omega)]
     ·rw [if_neg hjk]
   ·by_cases hja : j = i
    ·subst hja; rw [g1, if_pos rfl]
    ·rw [gjc j hj hja, if_neg hja]
  ·rcases hpa i q hi with ⟨hi, hia⟩ | ⟨rfl, rfl⟩
   ·have hqc := h.plt q (List.mem_of_getElem? hi)
    rw [gj0 i (by have := h.al; omega) (by omega) e (by omega), if_neg (by omega)]
    exact h.lead i q hi e he
   ·exact g0 e he
  ·dsimp only at hh
   rw [h.full (by omega), ← List.range_succ]
theorem EInv.from {f : TF3} (hf : fieldOk f = true) {n : Nat} : ∀ (m c a : Nat) (L : List (List Int)) (p : List Nat), c + m ≤ n → EInv f n c a L p → ∃ p', EInv f n (c + m) (echFrom f c m (a, L)).1 (echFrom f c m (a, L)).2 p' ∧ (echFrom f c m (a, L)).2.length = L.length := by
 intro m
 induction m with
 | zero => intro c a L p _ h; exact ⟨p, h, rfl⟩
 | succ m ih =>
  intro c a L p hc h
  obtain ⟨p1, h1, hl1⟩ := h.step hf (by omega) (by omega)
  obtain ⟨p2, h2, hl2⟩ := ih (c + 1) _ _ p1 (by omega) h1
  rw [show c + 1 + m = c + (m + 1) by omega] at h2
  exact ⟨p2, h2, by rw [← hl1]; exact hl2⟩
theorem EInv.all {f : TF3} (hf : fieldOk f = true) {n m : Nat} {L : List (List Int)} (hm : m ≤ n) (h : GR f n L) : ∃ p, EInv f n m (echFrom f 0 m (0, L)).1 (echFrom f 0 m (0, L)).2 p ∧ (echFrom f 0 m (0, L)).2.length = L.length := by
 have := EInv.from hf m 0 0 L [] (by omega) (EInv.start h)
 rw [Nat.zero_add] at this
 exact this
def augR (f : TF3) (x r : List Int) : List Int := r ++ [dotV f r x]
theorem dotV_scale {f : TF3} (hf : fieldOk f = true) {v : Int} (hv : inF f v) : ∀ {r x : List Int}, (∀ y ∈ r, inF f y) → (∀ y ∈ x, inF f y) → dotV f (r.map fun y => mulI f y v) x = mulI f (dotV f r x) v := by
 intro r
 induction r with
 | nil => intro x _ _; simp only [List.map_nil, dotV]; rw [mulI_comm hf inF_zero hv, mulI_zero hf hv]
 | cons y r ih =>
  intro x hr hx
  cases x with
  | nil => simp only [List.map_cons, dotV]; rw [mulI_comm hf inF_zero hv, mulI_zero hf hv]
  | cons z x =>
   have hy := hr y (List.mem_cons_self ..)
   have hz := hx z (List.mem_cons_self ..)
   have hr2 : ∀ y ∈ r, inF f y := fun w hw => hr w (List.mem_cons_of_mem _ hw)
   have hx2 : ∀ y ∈ x, inF f y := fun w hw => hx w (List.mem_cons_of_mem _ hw)
   have hd := dotV_in hf hr2 hx2
   simp only [List.map_cons, dotV]
   rw [ih hr2 hx2, mulI_comm hf (inF_xor hf (mulI_in hf hy hz) hd) hv, mulI_xor hf hv (mulI_in hf hy hz) hd, mulI_comm hf hv hd]
   rw [show mulI f v (mulI f y z) = mulI f (mulI f y v) z from by rw [← mulI_assoc hf hv hy hz, mulI_comm hf hv hy]]
theorem clear_addV {f : TF3} (hf : fieldOk f = true) {x : Int} (hx : inF f x) {r own : List Int} (ho : ∀ y ∈ own, inF f y) : (r.zip own).map (fun p => ixor .i64 p.1 (mulI f x p.2)) = addV f r own x := by
 unfold addV
 refine List.map_congr_left fun p hp => ?_
 have h1 := List.of_mem_zip (a := p.1) (b := p.2) hp
 rw [mulI_comm hf hx (ho _ h1.2)]
theorem idxI_map {α β : Type} (p : β → Bool) (q : α → Bool) (g : α → β) : ∀ (l : List α) (i : Nat), (∀ x ∈ l, p (g x) = q x) → idxI p i (l.map g) = idxI q i l := by
 intro l
 induction l with
 | nil => intro i _; rfl
 | cons x l ih =>
  intro i h
  simp only [List.map_cons, idxI, h x (List.mem_cons_self ..), ih (i + 1) fun y hy => h y (List.mem_cons_of_mem _ hy)]
section
variable {f : TF3} (hf : fieldOk f = true) {n c : Nat} (hc : c < n) {x : List Int} (hx : ∀ y ∈ x, inF f y)
include hc
theorem aug_at {r : List Int} (hr : r.length = n) : (augR f x r)[c]? = r[c]? := by unfold augR; rw [List.getElem?_append_left (by omega)]
theorem aug_nz {r : List Int} (hr : r.length = n) : nzAt c (augR f x r) = nzAt c r := by unfold nzAt; rw [aug_at hc hr]
include hf hx
theorem aug_scale {r : List Int} (hr : r.length = n) (h : ∀ y ∈ r, inF f y) : scaleV f c (augR f x r) = augR f x (scaleV f c r) := by
 unfold scaleV
 rw [aug_at hc hr]
 cases hy : r[c]? with
 | none => rfl
 | some y =>
  dsimp only
  have hyf := h y (List.mem_of_getElem? hy)
  unfold augR
  rw [List.map_append, dotV_scale hf (invI_facts hf hyf).1 h hx]
  rfl
theorem aug_clear {r own : List Int} (k i : Nat) (hr : r.length = n) (h : ∀ y ∈ r, inF f y) (ho : own.length = n) (ho2 : ∀ y ∈ own, inF f y) : clearV f c k (augR f x own) i (augR f x r) = augR f x (clearV f c k own i r) := by
 unfold clearV
 rw [aug_at hc hr]
 cases hy : r[c]? with
 | none => rfl
 | some y =>
  dsimp only
  have hyf := h y (List.mem_of_getElem? hy)
  cases decide (i = k) || decide (y = 0)
  ·rw [cond_false, cond_false, clear_addV hf hyf ho2]
   unfold augR
   rw [List.zip_append (by omega), List.map_append, clear_addV hf hyf ho2, dotV_addV hf hyf (by omega) h ho2 hx]
   rfl
  ·rfl
theorem aug_step {a : Nat} {L : List (List Int)} (h : GR f n L) : echStep f c (a, L.map (augR f x)) = ((echStep f c (a, L)).1, (echStep f c (a, L)).2.map (augR f x)) := by
 have hi : idxI (nzAt c) a ((L.map (augR f x)).drop a) = idxI (nzAt c) a (L.drop a) := by
  rw [← List.map_drop]
  exact idxI_map _ _ _ _ _ fun r hr => aug_nz hc (h r (List.mem_of_mem_drop hr)).1
 have hp : ∀ k, pivL f c k a (L.map (augR f x)) = (pivL f c k a L).map (augR f x) := by
  intro k
  unfold pivL
  rw [List.getElem?_map, List.getElem?_map]
  cases hk : L[k]? with
  | none => rfl
  | some row =>
   cases h0 : L[a]? with
   | none => rfl
   | some r0 =>
    simp only [Option.map_some]
    rw [aug_scale hf hc hx (GR_at h hk).1 (GR_at h hk).2, List.map_set, List.map_set]
 have hcl : ∀ G, GR f n G → clearL f c a (G.map (augR f x)) = (clearL f c a G).map (augR f x) := by
  intro G hG
  unfold clearL
  rw [List.getElem?_map]
  cases ho : G[a]? with
  | none => rfl
  | some own =>
   simp only [Option.map_some]
   apply List.ext_getElem?
   intro j
   rw [List.getElem?_mapIdx, List.getElem?_map, List.getElem?_map, List.getElem?_mapIdx]
   cases hj : G[j]? with
   | none => rfl
   | some r =>
    simp only [Option.map_some]
    rw [aug_clear hf hc hx a j (GR_at hG hj).1 (GR_at hG hj).2 (GR_at hG ho).1 (GR_at hG ho).2]
 unfold echStep
 dsimp only
 rw [hi]
 cases decide (idxI (nzAt c) a (L.drop a) < 0)
 ·rw [cond_false, cond_false, hp, hcl _ (pivL_ok hf h).1]
 ·rfl
end
theorem aug_from {f : TF3} (hf : fieldOk f = true) {n : Nat} {x : List Int} (hx : ∀ y ∈ x, inF f y) : ∀ (m c a : Nat) (L : List (List Int)), c + m ≤ n → GR f n L → a ≤ L.length → echFrom f c m (a, L.map (augR f x)) = ((echFrom f c m (a, L)).1, (echFrom f c m (a, L)).2.map (augR f x)) := by
 intro m
 induction m with
 | zero => intro c a L _ _ _; rfl
 | succ m ih =>
  intro c a L hc h ha
  have h1 := echStep_ok (c := c) (s := (a, L)) hf h ha
  show echFrom f (c + 1) m (echStep f c (a, L.map (augR f x))) = _
  rw [aug_step hf (by omega) hx h]
  exact ih (c + 1) _ _ (by omega) h1.1 (by rw [h1.2.1]; exact h1.2.2)
theorem echFrom_split (f : TF3) : ∀ (m k c : Nat) (s : Nat × List (List Int)), echFrom f c (m + k) s = echFrom f (c + m) k (echFrom f c m s) := by
 intro m
 induction m with
 | zero => intro k c s; rw [Nat.zero_add]; rfl
 | succ m ih =>
  intro k c s
  rw [show m + 1 + k = (m + k) + 1 by omega, show c + (m + 1) = c + 1 + m by omega]
  exact ih k (c + 1) _
theorem list_zero {l : List Int} (h : ∀ e, e < l.length → l.getD e 0 = 0) : l = List.replicate l.length 0 := by
 apply List.ext_getElem?
 intro e
 rw [List.getElem?_replicate]
 by_cases he : e < l.length
 ·rw [if_pos he]
  have := h e he
  rw [List.getD_eq_getElem?_getD, List.getElem?_eq_getElem he] at this
  rw [List.getElem?_eq_getElem he]
  exact congrArg some this
 ·rw [if_neg he, List.getElem?_eq_none (by omega)]
theorem list_unit {l : List Int} {k : Nat} (h : ∀ e, e < l.length → l.getD e 0 = if k = e then 1 else 0) : l = unitV l.length k := by
 apply List.ext_getElem?
 intro e
 unfold unitV
 rw [List.getElem?_set, List.getElem?_replicate, List.length_replicate]
 by_cases he : e < l.length
 ·have := h e he
  rw [List.getD_eq_getElem?_getD, List.getElem?_eq_getElem he] at this
  rw [List.getElem?_eq_getElem he, if_pos he]
  simp only [Option.getD_some] at this
  rw [this]
  by_cases hk : k = e
  ·subst hk; rw [if_pos rfl, if_pos rfl, if_pos he]
  ·rw [if_neg hk, if_neg hk]
 ·rw [if_neg he, List.getElem?_eq_none (by omega)]
  split
  ·rw [if_neg (by omega)]
  ·rfl
theorem aug_solve {f : TF3} (hf : fieldOk f = true) {n : Nat} {x : List Int} (hx : okV f n x) {L : List (List Int)} (h : GR f n L) (hr : ¬ (echV f n L).length < n) :
  (echV f (n + 1) (L.map (augR f x))).length = n ∧ (echV f (n + 1) (L.map (augR f x))).map (fun r => r.getD n 0) = x := by
 obtain ⟨p, hI, hlen⟩ := EInv.all hf (m := n) (Nat.le_refl n) h
 rw [echV_len hf h] at hr
 have hfrom := aug_from hf hx.2 n 0 0 L (by omega) h (Nat.zero_le _)
 generalize hs : echFrom f 0 n (0, L) = s at hI hlen hr hfrom
 obtain ⟨a, G⟩ := s
 dsimp only at hI hlen hr hfrom
 have han : a = n := by have := hI.ac; omega
 subst han
 have hp := hI.full rfl
 have haG := hI.al
 have hrow : ∀ j r, G[j]? = some r → r = if j < a then unitV a j else List.replicate a 0 := by
  intro j r hj
  have hjl := (List.getElem?_eq_some_iff.1 hj).1
  have hrl := (GR_at hI.gr hj).1
  split
  ·rename_i hja
   have := list_unit (l := r) (k := j) fun e he => by
    rw [← cell_row hj]
    rw [hrl] at he
    have := hI.dia e e (by rw [hp, List.getElem?_range he]) j hjl
    rw [this]
   rw [hrl] at this; exact this
  ·rename_i hja
   have := list_zero (l := r) fun e he => by
    rw [← cell_row hj]
    rw [hrl] at he
    exact hI.low j (by omega) hjl e he
   rw [hrl] at this; exact this
 have haug : ∀ j r, G[j]? = some r → (augR f x r)[a]? = some (if j < a then x.getD j 0 else 0) := by
  intro j r hj
  have hrl := (GR_at hI.gr hj).1
  unfold augR
  rw [List.getElem?_append_right (by omega), hrl, Nat.sub_self, List.getElem?_cons_zero, hrow j r hj]
  split
  ·rename_i hja; rw [dotV_unit hf a j hx.2 hx.1.symm hja]
  ·rw [dotV_zero hf a hx.2]
 have hlast : echStep f a (a, G.map (augR f x)) = (a, G.map (augR f x)) := by
  unfold echStep
  dsimp only
  rcases idxI_cases (nzAt a) ((G.map (augR f x)).drop a) a with ⟨h1, _⟩ | ⟨k, row, h1, h2, _⟩
  ·rw [h1]; rfl
  ·exfalso
   rw [List.getElem?_drop, List.getElem?_map] at h1
   obtain ⟨r, hr1, rfl⟩ := Option.map_eq_some_iff.1 h1
   obtain ⟨y, hy, hy0⟩ := nzAt_of h2
   rw [haug _ r hr1, if_neg (by omega)] at hy
   exact hy0 (Option.some.inj hy).symm
 have hE : echV f (a + 1) (L.map (augR f x)) = (G.map (augR f x)).take a := by
  unfold echV
  rw [echFrom_split f a 1 0, hfrom, Nat.zero_add]
  show ((echStep f a (a, G.map (augR f x))).2.take (echStep f a (a, G.map (augR f x))).1) = _
  rw [hlast]
 rw [hE]
 refine ⟨by rw [List.length_take, List.length_map]; omega, ?_⟩
 apply List.ext_getElem?
 intro j
 rw [List.getElem?_map, List.getElem?_take]
 by_cases hj : j < a
 ·rw [if_pos hj, List.getElem?_map, List.getElem?_eq_getElem (show j < G.length by omega)]
  simp only [Option.map_some]
  rw [getD_of (haug j _ (List.getElem?_eq_getElem (show j < G.length by omega))), if_pos hj, List.getD_eq_getElem?_getD, List.getElem?_eq_getElem (show j < x.length by rw [hx.1]; exact hj)]
  rfl
 ·rw [if_neg hj, List.getElem?_eq_none (by rw [hx.1]; omega)]
  rfl
end Go.Proofs.Ytkgekgfmnhccmaa

namespace Go.Proofs.Ytkgekgfmnhccmaa
open Go Go.Abs Go.Proofs
noncomputable def l_FnDelivered_l22 (h22_0_1 : (List Int)) (h22_0_4 : TNet) (h22_0_5 : (List Int)) (h22_0_6 : (List (List Int))) (h22_0_7 : (List Int)) : Int → Tre (Int ⊕ (Bool ⊕ Unit)) := fun s22 =>
 .cond (decide (s22 < (h22_0_7.length : Int)))
  (.ite (0 ≤ s22 ∧ s22 < (h22_0_1.length : Int)) <|
  .mat (h22_0_1[s22.toNat]?) fun x19 =>
  .ite (0 ≤ s22 ∧ s22 < (h22_0_7.length : Int)) <|
  .mat (h22_0_7[s22.toNat]?) fun x20 =>
  .ite (0 ≤ x20 ∧ x20 < (h22_0_6.length : Int)) <|
  .mat (h22_0_6[x20.toNat]?) fun _ =>
  .mat (h22_0_6[x20.toNat]?) fun x22 =>
  .mat (l_f6dot_F h22_0_4.1 x22 h22_0_5) fun r23 =>
  .cond (!decide (x19 = r23))
   (.ret (.inr (.inl false)))
   (.ret (.inl (iwrap .i64 (s22 + 1)))))
  (.ret (.inr (.inr ())))
noncomputable def l_FnDelivered (p0 : (List Int)) (p1 : (List Int)) : Tre Bool :=
 .cond (l_f6big_S p0)
  (.ret true)
  (.cond (l_f6big_S p1)
   (.ret true)
   (.mat (s_P6Net_F p0 false) fun r1 =>
   .mat (s_P6Pick_F p1 r1.2.1) fun r2 =>
   .mat (s_P6Word_F p1 r1.1 r1.2.2.1) fun r3 =>
   .mat (s_P6Word_F p0 r1.1 r1.2.2.1) fun r4 =>
   .mat (i_DeliveredZ_F (r1.1, (r1.2.1, (r1.2.2.1, (r1.2.2.2.1, (r1.2.2.2.2, ()))))) r3 r2) fun r5 =>
   .mat (i_DeliveredZ_F (r1.1, (r1.2.1, (r1.2.2.1, (r1.2.2.2.1, (r1.2.2.2.2, ()))))) r4 r2) fun r6 =>
   .mat (l_f6sum_F r3 r4) fun r7 =>
   .mat (i_DeliveredZ_F (r1.1, (r1.2.1, (r1.2.2.1, (r1.2.2.2.1, (r1.2.2.2.2, ()))))) r7 r2) fun r8 =>
   .mat (i_EdgeVectors_F (r1.1, (r1.2.1, (r1.2.2.1, (r1.2.2.2.1, (r1.2.2.2.2, ())))))) fun r9 =>
   .mat (s_EdgeVectors_F (r1.1, (r1.2.1, (r1.2.2.1, (r1.2.2.2.1, (r1.2.2.2.2, ())))))) fun r10 =>
   .mat (s_EdgesInto_F (r1.1, (r1.2.1, (r1.2.2.1, (r1.2.2.2.1, (r1.2.2.2.2, ()))))) r2) fun r11 =>
   .mat (i_RankAt_F (r1.1, (r1.2.1, (r1.2.2.1, (r1.2.2.2.1, (r1.2.2.2.2, ()))))) r2) fun r12 =>
   .cond (!decide (r5.2 = 0))
    (.ret false)
    (.cond (!decide (r6.2 = 0))
     (.ret false)
     (.cond (!decide (r8.2 = 0))
      (.ret false)
      (.cond (!decide ((r5.1.length : Int) = (r6.1.length : Int)))
       (.ret false)
       (.mat (l_f6sum_F r5.1 r6.1) fun r13 =>
       .mat (l_f6ints_F r8.1 r13) fun r14 =>
       .cond (!r14)
        (.ret false)
        (.cond (!decide (r9.1 = r10.1))
         (.ret false)
         (.mat (l_f6rows_F r9.2 r10.2) fun r15 =>
         .cond (!r15)
          (.ret false)
          (.cond (!decide (r11.1 = 0))
           (.ret false)
           (.cond (!decide (r12.2 = 0))
            (.ret false)
            (.cond (decide (r2 = 0))
             (.mat (l_f6ints_F r5.1 r3) fun r16 =>
             .cond (!r16)
              (.ret false)
              (.cond (!decide (r12.1 = r1.2.2.1))
               (.ret false)
               (.mat (i_SolveAt_F (r1.1, (r1.2.1, (r1.2.2.1, (r1.2.2.2.1, (r1.2.2.2.2, ()))))) r2 r5.1) fun r17 =>
               .cond (decide (r12.1 < r1.2.2.1))
                (.ret (decide (r17.1 = 4)))
                (.cond (decide (r17.1 = 0))
                 (.mat (l_f6ints_F r17.2 r3) fun r18 =>
                 .ret r18)
                 (.ret false)))))
             (.cond (!decide ((r5.1.length : Int) = (r11.2.length : Int)))
              (.ret false)
              (.mat (loopF (l_FnDelivered_l22 r5.1 (r1.1, (r1.2.1, (r1.2.2.1, (r1.2.2.2.1, (r1.2.2.2.2, ()))))) r3 r10.2 r11.2) 0) fun l24 =>
              .alt l24
               (fun a25 =>
                .ret a25)
               (fun _ =>
                .mat (i_SolveAt_F (r1.1, (r1.2.1, (r1.2.2.1, (r1.2.2.2.1, (r1.2.2.2.2, ()))))) r2 r5.1) fun r27 =>
                .cond (decide (r12.1 < r1.2.2.1))
                 (.ret (decide (r27.1 = 4)))
                 (.cond (decide (r27.1 = 0))
                  (.mat (l_f6ints_F r27.2 r3) fun r28 =>
                  .ret r28)
                  (.ret false))))))))))))))))
noncomputable def l_FnDelivered_F (p0 : (List Int)) (p1 : (List Int)) : Option Bool := (l_FnDelivered p0 p1).run some
-- law
theorem sumV_addV {f : TF3} (hf : fieldOk f = true) {u w : List Int} (hw : ∀ x ∈ w, inF f x) : sumV u w = addV f u w 1 := by
 unfold sumV addV
 refine List.map_congr_left fun p hp => ?_
 have h1 := List.of_mem_zip (a := p.1) (b := p.2) hp
 rw [mulI_one hf (hw _ h1.2)]
theorem sumV_ok {f : TF3} (hf : fieldOk f = true) {M : Nat} {u w : List Int} (hu : okV f M u) (hw : okV f M w) : okV f M (sumV u w) := by
 rw [sumV_addV hf hw.2]
 exact addV_ok hf hu hw (inF_one hf)
theorem dotV_sum {f : TF3} (hf : fieldOk f = true) {M : Nat} {r u w : List Int} (hr : okV f M r) (hu : okV f M u) (hw : okV f M w) : dotV f r (sumV u w) = ixor .i64 (dotV f r u) (dotV f r w) := by
 have hd := dotV_in hf hw.2 hr.2
 rw [sumV_addV hf hw.2, dotV_comm hf hr.2 (addV_ok hf hu hw (inF_one hf)).2, dotV_addV hf (inF_one hf) (by rw [hu.1, hw.1]) hu.2 hw.2 hr.2, mulI_comm hf (inF_one hf) hd, mulI_one hf hd, dotV_comm hf hu.2 hr.2, dotV_comm hf hw.2 hr.2]
theorem deliv_sum {n : TN6} (h : NetP n) (node : Int) {x y : List Int} (hx : okV n.1 (messN n) x) (hy : okV n.1 (messN n) y) : delivV n (sumV x y) node = sumV (delivV n x node) (delivV n y node) := by
 unfold delivV
 rw [show sumV ((rowsV n node).map fun r => dotV n.1 r x) ((rowsV n node).map fun r => dotV n.1 r y) = (rowsV n node).map (fun r => ixor .i64 (dotV n.1 r x) (dotV n.1 r y)) from by
  unfold sumV
  rw [List.zip_map', List.map_map]
  rfl]
 refine List.map_congr_left fun r hr => ?_
 have := rowsV_GR h node r hr
 exact dotV_sum h.field ⟨this.1, this.2⟩ hx hy
theorem deliv_len (n : TN6) (x : List Int) (node : Int) : (delivV n x node).length = (rowsV n node).length := by unfold delivV; simp
theorem deliv_in {n : TN6} (h : NetP n) {x : List Int} (hx : okV n.1 (messN n) x) (node : Int) : ∀ y ∈ delivV n x node, inF n.1 y := by
 intro y hy
 unfold delivV at hy
 obtain ⟨r, hr, rfl⟩ := List.mem_map.1 hy
 exact dotV_in h.field (rowsV_GR h node r hr).2 hx.2
theorem deliv_zero {n : TN6} (h : NetP n) {x : List Int} (hx : okV n.1 (messN n) x) : delivV n x 0 = x := by
 rw [← at_deliv h hx]
 unfold atV
 rw [if_pos rfl]
def unitsV (M : Nat) : List (List Int) := (List.range M).map (unitV M)
set_option maxRecDepth 100000 in
theorem units_rank : (fieldN.all fun q => [1, 2, 3].all fun M => Nat.beq (echV ((q.1 : Int), (q.2 : Int), ()) M (unitsV M)).length M) = true := by kernel_rfl
theorem rank_zero {n : TN6} (h : NetP n) : (echV n.1 (messN n) (rowsV n 0)).length = messN n := by
 obtain ⟨d, p, hq, hf⟩ := fieldN_of h.field
 have hM := mess_ok h
 have h1 := List.all_eq_true.1 (List.all_eq_true.1 units_rank _ hq) (messN n) (by simp; omega)
 have h2 := Nat.eq_of_beq_eq_true h1
 unfold rowsV
 rw [if_pos rfl, hf]
 exact h2
theorem wide_aug {f : TF3} {L : List (List Int)} {x : List Int} : wideV L (L.map fun r => dotV f r x) = L.map (augR f x) := by
 unfold wideV
 rw [List.zip_map_right, List.map_map]
 induction L with
 | nil => rfl
 | cons r L ih =>
  simp only [List.zip_cons_cons, List.map_cons]
  rw [ih]
  rfl
theorem solve_deliv {n : TN6} (h : NetP n) {node : Int} (h0 : 0 ≤ node) (h1 : node < n.2.1) {x : List Int} (hx : okV n.1 (messN n) x) : solveV n node (delivV n x node) = if (echV n.1 (messN n) (rowsV n node)).length < messN n then (4, []) else (0, x) := by
 have hc : solveC n node (delivV n x node) = 0 := by
  unfold solveC
  rw [if_pos (nodeC_of h h0 h1), if_pos ⟨by rw [deliv_len, rowsV_has h], elsOk_from (deliv_in h hx node)⟩]
 unfold solveV
 rw [if_pos hc]
 by_cases hr : (echV n.1 (messN n) (rowsV n node)).length < messN n
 ·rw [if_pos hr, if_pos hr]
 ·rw [if_neg hr, if_neg hr, show wideV (rowsV n node) (delivV n x node) = (rowsV n node).map (augR n.1 x) from wide_aug]
  obtain ⟨a1, a2⟩ := aug_solve h.field hx (rowsV_GR h node) hr
  rw [if_neg (by omega), a2]
theorem edges_loop {n : TN6} (h : NetP n) {node : Int} (hn : node ≠ 0) {x : List Int} (hx : okV n.1 (messN n) x) : loopF (l_FnDelivered_l22 (delivV n x node) n x (vectorsV n) (intoV n.2.2.2.1 node)) 0 = some (.inr ()) := by
 have hil : (intoV n.2.2.2.1 node).length ≤ n.2.2.2.1.length := pickI_len _ 0
 have hE := h.len
 have hM := mess_ok h
 have hd : delivV n x node = (intoV n.2.2.2.1 node).map fun y => dotV n.1 ((vectorsV n).getD y.toNat []) x := by
  unfold delivV rowsV
  rw [if_neg hn, List.map_map]
  rfl
 have hdl : (delivV n x node).length = (intoV n.2.2.2.1 node).length := by rw [hd, List.length_map]
 have hvl := vectorsV_len n
 have key := all_loop' (xs := intoV n.2.2.2.1 node) (step := l_FnDelivered_l22 (delivV n x node) n x (vectorsV n) (intoV n.2.2.2.1 node)) (β := Bool ⊕ Unit) (fun _ => true) (.inl false) (.inr ()) (by
  intro i y hy
  have hi := (List.getElem?_eq_some_iff.1 hy).1
  obtain ⟨j, rfl, hj⟩ := into_all h (List.mem_of_getElem? hy)
  obtain ⟨v, hv, hvo⟩ := vectorsV_ok h hj
  have hdi : (delivV n x node)[i]? = some (dotV n.1 v x) := by
   rw [hd, List.getElem?_map, hy, Option.map_some, Int.toNat_natCast, getD_of hv]
  have hvl1 := hvo.1
  have hxl := hx.1
  unfold l_FnDelivered_l22
  rw [Tre.run_cond, decide_eq_true (by omega), cond_true, Tre.run_ite, if_pos (by omega), Int.toNat_natCast, run_some_mat hdi, Tre.run_ite, if_pos (by omega), run_some_mat hy, Tre.run_ite, if_pos (by omega), Int.toNat_natCast, run_some_mat hv, run_some_mat hv, run_some_mat (f6dot_is h.field (by omega) (by omega) hvo.2 hx.2), Tre.run_cond, decide_eq_true rfl, Bool.not_true, cond_false, Tre.run_ret, iwrap_succ (by omega)]
  rfl) (by
  unfold l_FnDelivered_l22
  exact run_out)
 rw [key]
 have : (intoV n.2.2.2.1 node).all (fun _ => true) = true := by simp
 rw [this]
 rfl
theorem bytes_ok {xs : List Int} (h : (K.sl (.int .u8)).wf xs) : ∀ x ∈ xs, 0 ≤ x ∧ x ≤ 255 := fun x hx => by
 have h1 : (Lit.int .u8 x).wf = true := h.2 x hx
 simp [Lit.wf, IntKind.min, IntKind.max, IntKind.signed, IntKind.bits] at h1
 omega
theorem l_FnDelivered_law (p0 p1 : List Int) (hw0 : (K.sl (.int .u8)).wf p0) (hw1 : (K.sl (.int .u8)).wf p1) : l_FnDelivered_F p0 p1 = some true := by
 unfold l_FnDelivered_F l_FnDelivered
 rw [Tre.run_cond]
 by_cases hb0 : l_f6big_S p0 = true
 ·rw [hb0]; rfl
 rw [Bool.not_eq_true] at hb0
 rw [hb0, cond_false, Tre.run_cond]
 by_cases hb1 : l_f6big_S p1 = true
 ·rw [hb1]; rfl
 rw [Bool.not_eq_true] at hb1
 rw [hb1, cond_false]
 have hl0 : p0.length ≤ 5000 := by unfold l_f6big_S at hb0; simp at hb0; omega
 have hl1 : p1.length ≤ 5000 := by unfold l_f6big_S at hb1; simp at hb1; omega
 have hc0 : ∀ x ∈ p0, 0 ≤ x ∧ x ≤ 255 := bytes_ok hw0
 have hc1 : ∀ x ∈ p1, 0 ≤ x ∧ x ≤ 255 := bytes_ok hw1
 obtain ⟨r1, e1, hN⟩ := net_ok hl0 hc0
 generalize hn : (r1.1, r1.2.1, r1.2.2.1, r1.2.2.2.1, r1.2.2.2.2, ()) = n at hN
 have n1 : r1.1 = n.1 := by rw [← hn]
 have n2 : r1.2.1 = n.2.1 := by rw [← hn]
 have n3 : r1.2.2.1 = n.2.2.1 := by rw [← hn]
 rw [run_some_mat e1]
 simp only [hn]
 rw [n1, n2, n3]
 have hnn := hN.nodes
 obtain ⟨hm1, hm2, hm3⟩ := mess_ok hN
 obtain ⟨node, e2, hnode0, hnode1⟩ := p6pick_ok hl1 hc1 n.2.1
 have hnode1 : node < n.2.1 := by omega
 obtain ⟨x, e3, hx1, hx2⟩ := p6word_ok hl1 hc1 hN.field (M := messN n) (by omega) (by omega)
 obtain ⟨y, e4, hy1, hy2⟩ := p6word_ok hl0 hc0 hN.field (M := messN n) (by omega) (by omega)
 have hx : okV n.1 (messN n) x := ⟨hx1, hx2⟩
 have hy : okV n.1 (messN n) y := ⟨hy1, hy2⟩
 have hrl := rowsV_len hN node
 have hvl := vectorsV_len n
 have hE := hN.len
 rw [run_some_mat e2, hm1, run_some_mat e3, run_some_mat e4, run_some_mat (ideliv_is hN hnode0 hnode1 hx), run_some_mat (ideliv_is hN hnode0 hnode1 hy), run_some_mat (f6sum_is (by omega) (by omega)), run_some_mat (ideliv_is hN hnode0 hnode1 (sumV_ok hN.field hx hy)), run_some_mat (iedgev_is hN), run_some_mat (sedgev_is hN), run_some_mat (sinto_is hN hnode0 hnode1), run_some_mat (i_RankAt_is n node)]
 have hrk : rankAtV n node = (((echV n.1 (messN n) (rowsV n node)).length : Int), 0) := by
  unfold rankAtV
  rw [if_pos (nodeC_of hN hnode0 hnode1)]
 rw [hrk]
 have hdx := deliv_len n x node
 have hdy := deliv_len n y node
 have hds := deliv_len n (sumV x y) node
 have hs := deliv_sum hN node hx hy
 simp only [Tre.run_cond, decide_true, Bool.not_true, cond_false]
 rw [decide_eq_true (by omega), Bool.not_true, cond_false, run_some_mat (f6sum_is (by omega) (by omega)), ← hs, run_some_mat (f6ints_is (by omega))]
 simp only [Tre.run_cond, Bool.not_true, cond_false]
 rw [run_some_mat (f6rows_is (by omega) (fun r hr => by
  obtain ⟨j, hj⟩ := List.mem_iff_getElem?.1 hr
  obtain ⟨v, hv, hvo⟩ := vectorsV_ok hN (j := j) (by rw [← hvl]; exact (List.getElem?_eq_some_iff.1 hj).1)
  rw [hj] at hv
  rw [Option.some.inj hv, hvo.1]
  omega))]
 simp only [Tre.run_cond, Bool.not_true, cond_false]
 have hsol := i_SolveAt_is n node (vs := delivV n x node) (by omega)
 rw [solve_deliv hN hnode0 hnode1 hx] at hsol
 by_cases h0 : node = 0
 ·rw [decide_eq_true h0, cond_true]
  have hdz : delivV n x node = x := by rw [h0]; exact deliv_zero hN hx
  have hrz : (echV n.1 (messN n) (rowsV n node)).length = messN n := by rw [h0]; exact rank_zero hN
  rw [hdz] at hsol ⊢
  rw [hrz] at hsol ⊢
  rw [run_some_mat (f6ints_is (by omega))]
  simp only [Tre.run_cond, decide_true, Bool.not_true, cond_false]
  rw [if_neg (Nat.lt_irrefl _)] at hsol
  rw [run_some_mat hsol]
  simp only [Tre.run_cond, decide_true, cond_true]
  rw [decide_eq_false (by omega), cond_false, run_some_mat (f6ints_is (by omega))]
  rfl
 ·rw [decide_eq_false h0, cond_false]
  have hil : (intoV n.2.2.2.1 node).length = (rowsV n node).length := by unfold rowsV; rw [if_neg h0, List.length_map]
  rw [decide_eq_true (by omega), Bool.not_true, cond_false, run_some_mat (edges_loop hN h0 hx), Tre.run_inr, run_some_mat hsol]
  by_cases hr : (echV n.1 (messN n) (rowsV n node)).length < messN n
  ·rw [if_pos hr, Tre.run_cond, decide_eq_true (by omega), cond_true]; rfl
  ·rw [if_neg hr, Tre.run_cond, decide_eq_false (by omega), cond_false]
   simp only [Tre.run_cond, decide_true, cond_true]
   rw [run_some_mat (f6ints_is (by omega))]
   rfl
noncomputable def l_FnDelivered_V : Env := ⟨tau, [(6, l_f6big_c), (7, s_P6Net_c), (8, s_P6Pick_c), (9, s_P6Word_c), (10, i_DeliveredZ_c), (11, l_f6sum_c), (12, i_EdgeVectors_c), (13, s_EdgeVectors_c), (14, s_EdgesInto_c), (15, i_RankAt_c), (16, l_f6ints_c), (17, l_f6rows_c), (19, i_SolveAt_c), (18, l_f6dot_c)], []⟩
noncomputable def l_FnDelivered_b : Code := (Try.f3.body).getD .skip
noncomputable def l_FnDelivered_l22_mk (h22_0_0 : Int) (h22_0_1 : (List Int)) (h22_0_2 : Int) (h22_0_4 : TNet) (h22_0_5 : (List Int)) (h22_0_6 : (List (List Int))) (h22_0_7 : (List Int)) : Int → St := fun x => stOf [(5, (.ptr (7, 0) [])), (6, (.imm true (.int .i64) h22_0_0)), (7, (.ref (9, 0) [])), (9, (.imm true (.sl (.int .i64)) h22_0_1)), (17, (.ref (19, 0) [])), (19, (.ref (21, 0) [])), (21, (.imm true (.int .i64) h22_0_2)), (23, (.imm true (.int .i64) x))] [((7, 0), some ⟨true, kNet, .own, h22_0_4⟩), ((9, 0), some ⟨false, (.sl (.int .i64)), .own, h22_0_5⟩), ((19, 0), some ⟨false, (.sl (.sl (.int .i64))), .own, h22_0_6⟩), ((21, 0), some ⟨false, (.sl (.int .i64)), .own, h22_0_7⟩)]
noncomputable def l_FnDelivered_l22_out (h22_0_0 : Int) (h22_0_1 : (List Int)) (h22_0_2 : Int) (h22_0_4 : TNet) (h22_0_5 : (List Int)) (_h22_0_6 : (List (List Int))) (_h22_0_7 : (List Int)) : (Bool ⊕ Unit) → Ex × St
 | .inl x => (.ret, stOf [(4, (.imm true .bool x)), (5, (.ptr (7, 0) [])), (6, (.imm true (.int .i64) h22_0_0)), (7, (.ref (9, 0) [])), (9, (.imm true (.sl (.int .i64)) h22_0_1)), (21, (.imm true (.int .i64) h22_0_2))] [((7, 0), some ⟨true, kNet, .own, h22_0_4⟩), ((9, 0), some ⟨false, (.sl (.int .i64)), .own, h22_0_5⟩)])
 | .inr _ => (.exit 0, stOf [(4, .dead), (5, (.ptr (7, 0) [])), (6, (.imm true (.int .i64) h22_0_0)), (7, (.ref (9, 0) [])), (9, (.imm true (.sl (.int .i64)) h22_0_1)), (21, (.imm true (.int .i64) h22_0_2))] [((7, 0), some ⟨true, kNet, .own, h22_0_4⟩), ((9, 0), some ⟨false, (.sl (.int .i64)), .own, h22_0_5⟩)])
noncomputable def l_FnDelivered_l22_D (s : St) : Tre (Ex × St) :=
 asPtr (7, 0) [] (s.tmps 5) <|
 asImmZ true (.int .i64) (s.tmps 6) fun d3 =>
 asRef (9, 0) [] (s.tmps 7) <|
 asImmZ true (.sl (.int .i64)) (s.tmps 9) fun d6 =>
 asRef (19, 0) [] (s.tmps 17) <|
 asRef (21, 0) [] (s.tmps 19) <|
 asImmZ true (.int .i64) (s.tmps 21) fun d10 =>
 asImmZ true (.int .i64) (s.tmps 23) fun d12 =>
 asRoot true kNet (s.roots (7, 0)) fun m14 d15 =>
 asM .own m14 <|
 asRoot false (.sl (.int .i64)) (s.roots (9, 0)) fun m17 d18 =>
 asM .own m17 <|
 asRoot false (.sl (.sl (.int .i64))) (s.roots (19, 0)) fun m20 d21 =>
 asM .own m20 <|
 asRoot false (.sl (.int .i64)) (s.roots (21, 0)) fun m23 d24 =>
 asM .own m23 <|
 .mat (loopF (l_FnDelivered_l22 d6 d15 d18 d21 d24) d12) fun x => .alt x (fun a0 => .ret (l_FnDelivered_l22_out d3 d6 d10 d15 d18 d21 d24 (.inl a0))) (fun b0 => .ret (l_FnDelivered_l22_out d3 d6 d10 d15 d18 d21 d24 (.inr b0)))
noncomputable def l_FnDelivered_l22_L : LoopI := ⟨([5, 6, 7, 9, 17, 19, 21, 23], [(7, 0), (9, 0), (19, 0), (21, 0)]), ([4, 5, 6, 7, 9, 21], [(7, 0), (9, 0)]), l_FnDelivered_l22_D⟩
noncomputable def l_FnDelivered_A : List (Nat × LoopI) := [(22, l_FnDelivered_l22_L)]
set_option maxRecDepth 100000 in
theorem l_FnDelivered_l22_step : ∀ (h22_0_0 : Int) (h22_0_1 : (List Int)) (h22_0_2 : Int) (h22_0_4 : TNet) (h22_0_5 : (List Int)) (h22_0_6 : (List (List Int))) (h22_0_7 : (List Int)) (x : Int) (c : St → Option (Ex × St)), den l_FnDelivered_V l_FnDelivered_A (loopAt l_FnDelivered_b 0) (l_FnDelivered_l22_mk h22_0_0 h22_0_1 h22_0_2 h22_0_4 h22_0_5 h22_0_6 h22_0_7 x) (roundK l_FnDelivered_l22_L.kp l_FnDelivered_l22_L.kx c) = (l_FnDelivered_l22 h22_0_1 h22_0_4 h22_0_5 h22_0_6 h22_0_7 x).run (roundR (l_FnDelivered_l22_mk h22_0_0 h22_0_1 h22_0_2 h22_0_4 h22_0_5 h22_0_6 h22_0_7) (l_FnDelivered_l22_out h22_0_0 h22_0_1 h22_0_2 h22_0_4 h22_0_5 h22_0_6 h22_0_7) c) := fun _ _ _ _ _ _ _ _ _ => by
 kernel_rfl
theorem l_FnDelivered_l22_ok : LoopOK l_FnDelivered_V l_FnDelivered_A (loopAt l_FnDelivered_b 0) l_FnDelivered_l22_L := loopOK_of fun s e s' h => by
 generalize hs : restrict l_FnDelivered_l22_L.kp s = s1 at h
 have h : (l_FnDelivered_l22_D s1).run some = some (e, s') := h
 obtain ⟨e1, h_0⟩ := asPtr_spec h
 obtain ⟨d3, e2, h_1⟩ := asImmZ_spec h_0
 obtain ⟨e4, h_2⟩ := asRef_spec h_1
 obtain ⟨d6, e5, h_3⟩ := asImmZ_spec h_2
 obtain ⟨e7, h_4⟩ := asRef_spec h_3
 obtain ⟨e8, h_5⟩ := asRef_spec h_4
 obtain ⟨d10, e9, h_6⟩ := asImmZ_spec h_5
 obtain ⟨d12, e11, h_7⟩ := asImmZ_spec h_6
 obtain ⟨m14, d15, e13, h_8⟩ := asRoot_spec h_7
 obtain ⟨rfl, h_9⟩ := asM_spec h_8
 obtain ⟨m17, d18, e16, h_10⟩ := asRoot_spec h_9
 obtain ⟨rfl, h_11⟩ := asM_spec h_10
 obtain ⟨m20, d21, e19, h_12⟩ := asRoot_spec h_11
 obtain ⟨rfl, h_13⟩ := asM_spec h_12
 obtain ⟨m23, d24, e22, h_14⟩ := asRoot_spec h_13
 obtain ⟨rfl, h_15⟩ := asM_spec h_14
 obtain ⟨y, hy, hz⟩ := mat_some h_15
 refine ⟨_, _, l_FnDelivered_l22_mk d3 d6 d10 d15 d18 d21 d24, l_FnDelivered_l22_out d3 d6 d10 d15 d18 d21 d24, l_FnDelivered_l22 d6 d15 d18 d21 d24, d12, y, ?_, hy, ?_, l_FnDelivered_l22_step d3 d6 d10 d15 d18 d21 d24⟩
 ·subst hs; exact restrict_eq (T := [(5, (.ptr (7, 0) [])), (6, (.imm true (.int .i64) d3)), (7, (.ref (9, 0) [])), (9, (.imm true (.sl (.int .i64)) d6)), (17, (.ref (19, 0) [])), (19, (.ref (21, 0) [])), (21, (.imm true (.int .i64) d10)), (23, (.imm true (.int .i64) d12))]) (U := [((7, 0), some ⟨true, kNet, .own, d15⟩), ((9, 0), some ⟨false, (.sl (.int .i64)), .own, d18⟩), ((19, 0), some ⟨false, (.sl (.sl (.int .i64))), .own, d21⟩), ((21, 0), some ⟨false, (.sl (.int .i64)), .own, d24⟩)]) rfl rfl ⟨e1, e2, e4, e5, e7, e8, e9, e11, trivial⟩ ⟨e13, e16, e19, e22, trivial⟩
 ·rcases y with x | x <;> exact Option.some.inj hz
noncomputable def l_FnDelivered_I : FnI := ⟨l_FnDelivered_b, Try.f3.results.toList, Try.f3.resultTypes.toList, l_FnDelivered_A⟩
noncomputable def l_FnDelivered_out (_zp0 : Bool) (_zp1 : Bool) (_p0 : (List Int)) (_p1 : (List Int)) : Bool → CallOut := fun r => ⟨(.imm true .bool r), [], []⟩
set_option maxRecDepth 100000 in
theorem l_FnDelivered_eq : ∀ (zp0 : Bool) (zp1 : Bool) (p0 : (List Int)) (p1 : (List Int)), denFn l_FnDelivered_V l_FnDelivered_I ⟨[(.imm zp0 (.sl (.int .u8)) p0), (.imm zp1 (.sl (.int .u8)) p1)], []⟩ = (l_FnDelivered p0 p1).run fun r => some (l_FnDelivered_out zp0 zp1 p0 p1 r) := fun _ _ _ _ => by kernel_rfl
noncomputable def l_FnDelivered_G (av : List AV) (rs : List Root) : Tre CallOut :=
 asCons av fun a0_ av0 =>
 asCons av0 fun a1_ av1 =>
 asEnd av1 <|
 asEnd rs <|
 asImm (.sl (.int .u8)) a0_ fun z2 d1 =>
 asImm (.sl (.int .u8)) a1_ fun z4 d3 =>
 .mat (l_FnDelivered_F d1 d3) fun r => .ret (l_FnDelivered_out z2 z4 d1 d3 r)
noncomputable def l_FnDelivered_c : Ctr := ⟨[], fun ci => l_FnDelivered_G ci.args ci.roots, false⟩
theorem l_FnDelivered_env : EnvOK Try.prog .none l_FnDelivered_V := (envOK_cons l_f6big_ok ent6 (envOK_cons s_P6Net_ok ent7 (envOK_cons s_P6Pick_ok ent8 (envOK_cons s_P6Word_ok ent9 (envOK_cons i_DeliveredZ_ok ent10 (envOK_cons l_f6sum_ok ent11 (envOK_cons i_EdgeVectors_ok ent12 (envOK_cons s_EdgeVectors_ok ent13 (envOK_cons s_EdgesInto_ok ent14 (envOK_cons i_RankAt_ok ent15 (envOK_cons l_f6ints_ok ent16 (envOK_cons l_f6rows_ok ent17 (envOK_cons i_SolveAt_ok ent19 (envOK_cons l_f6dot_ok ent18 envOK_nil))))))))))))))
set_option maxRecDepth 100000 in
theorem l_FnDelivered_ok : Contract Try.prog .none 3 l_FnDelivered_c := by
 have hl : LoopsOK l_FnDelivered_V l_FnDelivered_A l_FnDelivered_b := (loopsOK_all (n := 1) (by kernel_rfl) fun k hk => by
   match k, hk with
   | 0, _ => exact loopOK_at (id := 22) (L := l_FnDelivered_l22_L) (by kernel_rfl) (by kernel_rfl) l_FnDelivered_l22_ok)
 refine (contract_of (F := l_FnDelivered_I) tau_tys l_FnDelivered_env Try.func3 (by kernel_rfl) (by kernel_rfl) (by kernel_rfl) hl []).weaken ?_
 rintro ⟨av, rs⟩ co h
 have h : (l_FnDelivered_G av rs).run some = some co := h
 obtain ⟨a0_, av0, rfl, h_0⟩ := asCons_spec h
 obtain ⟨a1_, av1, rfl, h_1⟩ := asCons_spec h_0
 obtain ⟨rfl, h_2⟩ := asEnd_spec h_1
 obtain ⟨rfl, h_3⟩ := asEnd_spec h_2
 obtain ⟨z2, d1, rfl, h_4⟩ := asImm_spec h_3
 obtain ⟨z4, d3, rfl, h_5⟩ := asImm_spec h_4
 exact fin_mat (l_FnDelivered_eq z2 z4 d1 d3) h_5
end Go.Proofs.Ytkgekgfmnhccmaa
