/- Part 5 of the proof of FnGathered. -/
import Derived.Test.YtkgekgfmnhccmaaGx4
namespace Go.Proofs.Ytkgekgfmnhccmaa
open Go Go.Abs Go.Proofs
noncomputable def s_FinishDeeds_l9 (h9_0_2 : TGather) : (Int × (TPlant × Unit) × ((List TDeed) × Unit)) → Tre ((Int × (TPlant × Unit) × ((List TDeed) × Unit)) ⊕ ((TPlant × Unit) × ((List TDeed) × Unit))) := fun s9 =>
  .cond (decide (s9.1 > 0))
    (.mat (pdoR (4, (0, (0, (0, ())))) s9.2.2 s9.2.1 h9_0_2) fun r5 =>
    .ret (.inl (iwrap .i64 (s9.1 - 1), r5.2, r5.1)))
    (.ret (.inr (s9.2.1, s9.2.2)))
noncomputable def s_FinishDeeds_l22 (h22_0_2 : Int) (h22_0_4 : TGather) : (Int × (TPlant × Unit) × ((List TDeed) × Unit)) → Tre ((Int × (TPlant × Unit) × ((List TDeed) × Unit)) ⊕ ((TPlant × Unit) × ((List TDeed) × Unit))) := fun s22 =>
  .cond (decide (s22.1 < h22_0_4.1))
    (.ite (0 ≤ iwrap .u64 s22.1) <|
    let v17 := ishl .i64 1 (iwrap .u64 s22.1)
    .mat (pdoR (1, (0, (h22_0_2, (v17, ())))) s22.2.2 s22.2.1 h22_0_4) fun r18 =>
    .mat (pdoR (2, (0, (0, (0, ())))) r18.1 r18.2 h22_0_4) fun r19 =>
    .ret (.inl (iwrap .i64 (s22.1 + 1), r19.2, r19.1)))
    (.ret (.inr (s22.2.1, s22.2.2)))
noncomputable def s_FinishDeeds_l15 (h15_0_2 : TGather) : (Int × (TPlant × Unit) × ((List TDeed) × Unit)) → Tre ((Int × (TPlant × Unit) × ((List TDeed) × Unit)) ⊕ (((List TDeed) × Unit) × (TPlant × Unit))) := fun s15 =>
  .cond (decide (s15.1 < h15_0_2.2.2.2.2.1))
    (let v10 := iwrap .i64 (1 + h15_0_2.2.2.2.1)
    let v11 := iwrap .i64 (v10 + s15.1)
    .ite (0 ≤ v11 ∧ v11 < (s15.2.1.1.1.length : Int)) <|
    .mat (s15.2.1.1.1[v11.toNat]?) fun _ =>
    .mat (s15.2.1.1.1[v11.toNat]?) fun x13 =>
    .mat (datR h15_0_2 x13.1) fun r14 =>
    .cond (decide (r14.1 = 0))
      (.mat (sameL r14.2 h15_0_2.2.2.1) fun r15 =>
      .cond r15
        (.ret (.inl (iwrap .i64 (s15.1 + 1), s15.2.1, s15.2.2)))
        (.mat (pdoR (8, (v11, (0, (0, ())))) s15.2.2 s15.2.1 h15_0_2) fun r16 =>
        .mat (loopF (s_FinishDeeds_l22 v11 h15_0_2) (0, r16.2, r16.1)) fun l20 =>
        .mat (pdoR (6, (v11, (0, (0, ())))) l20.2 l20.1 h15_0_2) fun r21 =>
        .ret (.inl (iwrap .i64 (s15.1 + 1), r21.2, r21.1))))
      (.mat (pdoR (8, (v11, (0, (0, ())))) s15.2.2 s15.2.1 h15_0_2) fun r22 =>
      .mat (loopF (s_FinishDeeds_l22 v11 h15_0_2) (0, r22.2, r22.1)) fun l23 =>
      .mat (pdoR (6, (v11, (0, (0, ())))) l23.2 l23.1 h15_0_2) fun r24 =>
      .ret (.inl (iwrap .i64 (s15.1 + 1), r24.2, r24.1))))
    (.ret (.inr (s15.2.2, s15.2.1)))
noncomputable def s_FinishDeeds (p0 : TGather) (p1 : (List TDeed)) : Tre (Int × (List TDeed)) :=
  .mat (askedR p1 p0) fun r1 =>
  .cond (!decide (r1 = 0))
    (.ret (r1, []))
    (.mat (playR p1 p0) fun r2 =>
    .ite (0 ≤ (0 : Int) ∧ (0 : Int) < (r2.1.1.1.length : Int)) <|
    .mat (r2.1.1.1[0]?) fun _ =>
    .mat (r2.1.1.1[0]?) fun x4 =>
    .cond (decide ((x4.2.1.length : Int) < p0.1))
      (.ret (4, []))
      (.mat (loopF (s_FinishDeeds_l9 p0) ((r2.1.1.2.1.length : Int), r2.1, ([], ()))) fun l6 =>
      .ite (0 ≤ (0 : Int) ∧ (0 : Int) < (l6.1.1.1.length : Int)) <|
      .mat (l6.1.1.1[0]?) fun _ =>
      .mat (l6.1.1.1[0]?) fun x8 =>
      .cond (decide ((x8.1.length : Int) < p0.1))
        (.mat (pdoR (7, (0, (0, (0, ())))) l6.2 l6.1 p0) fun r9 =>
        .mat (loopF (s_FinishDeeds_l15 p0) (0, r9.2, r9.1)) fun l25 =>
        let v26 := iwrap .i64 ((p1.length : Int) + (l25.1.1.length : Int))
        .cond (decide (v26 > 300))
          (.ret (3, []))
          (.ret (0, l25.1.1)))
        (.mat (loopF (s_FinishDeeds_l15 p0) (0, l6.1, l6.2)) fun l27 =>
        let v28 := iwrap .i64 ((p1.length : Int) + (l27.1.1.length : Int))
        .cond (decide (v28 > 300))
          (.ret (3, []))
          (.ret (0, l27.1.1)))))
noncomputable def s_FinishDeeds_F (p0 : TGather) (p1 : (List TDeed)) : Option (Int × (List TDeed)) := (s_FinishDeeds p0 p1).run some
noncomputable def savedI (p : P8) (i : Nat) : List Int := match p.1[i]? with
  | some x => x.2.1
  | none => []
noncomputable def finRes (g : G8) (ds : List D8) : Int × List D8 :=
  cond (decide (askedM ds g = 0)) (cond (decide (((savedI (afterM g ds) 0).length : Int) < g.1)) (4, []) (cond (decide ((ds.length : Int) + ((finM g (afterM g ds)).length : Int) > 300)) (3, []) (0, finM g (afterM g ds)))) (askedM ds g, [])
noncomputable def finR (g : G8) (ds : List D8) : Option (Int × List D8) := askO (decide (g.2.2.1.length ≤ 1048576) && decide (ds.length ≤ 1048576)) (finRes g ds)
theorem plan_do {g : G8} {d : D8} {l : List D8} {p : P8} {c : Nat} (hg : isG g = true) (hd : vDeed d = true) (hp : okP c g p = true) (hc : c ≤ 1000) (hl : l.length ≤ 1048576) : pdoR d (l, ()) (p, ()) g = some ((l ++ [d], ()), ((doM g d p).2, ())) :=
  askO_true (by simp only [Bool.and_eq_true, decide_eq_true_eq]; exact ⟨⟨⟨hg, hd⟩, okP_mono hp hc⟩, hl⟩)
theorem fin_l9 {g : G8} (hg : isG g = true) : ∀ (w : List (Int × Int × Unit)) {c : Nat} {st : List (List Int × List Int × Unit)} {l : List D8}, okP c g (st, w, ()) = true → c + w.length ≤ 1000 → l.length + w.length ≤ 1000 →
    loopF (s_FinishDeeds_l9 g) ((w.length : Int), ((st, w, ()), ()), (l, ())) = some (((st, [], ()), ()), (l ++ List.replicate w.length dropD, ())) ∧ okP (c + w.length) g (st, [], ()) = true := by
  intro w
  induction w with
  | nil =>
    intro c st l hp _ _
    refine ⟨loopF_done ?_, hp⟩
    unfold s_FinishDeeds_l9
    simp [Tre.run_cond, Tre.run_ret]
  | cons x w ih =>
    intro c st l hp hc hl
    simp only [List.length_cons] at hc hl
    have hdo : (doM g dropD (st, x :: w, ())).2 = (st, w, ()) := drop_do rfl
    have hp2 : okP (c + 1) g (st, w, ()) = true := by rw [← hdo]; exact doM_ok hg rfl hp
    have hstep : (s_FinishDeeds_l9 g (((x :: w).length : Int), ((st, x :: w, ()), ()), (l, ()))).run some = some (.inl ((w.length : Int), ((st, w, ()), ()), (l ++ [dropD], ()))) := by
      unfold s_FinishDeeds_l9
      dsimp only
      rw [Tre.run_cond, show decide (((x :: w).length : Int) > 0) = true from by simp, cond_true, run_some_mat (show pdoR (4, 0, 0, 0, ()) (l, ()) ((st, x :: w, ()), ()) g = _ from plan_do (d := dropD) hg rfl hp (by omega) (by omega)), Tre.run_ret, hdo, iwrap_i64 (by simp only [List.length_cons]; omega) (by simp only [List.length_cons]; omega)]
      simp only [List.length_cons]
      rw [show ((w.length + 1 : Nat) : Int) - 1 = (w.length : Int) from by omega]
    obtain ⟨h1, h2⟩ := ih (l := l ++ [dropD]) hp2 (by omega) (by simp; omega)
    rw [loopF_step hstep, h1]
    refine ⟨?_, by rw [List.length_cons, show c + (w.length + 1) = c + 1 + w.length by omega]; exact h2⟩
    rw [List.length_cons, List.replicate_succ, List.append_assoc]
    rfl
theorem send_valid {r : Int} {i : Nat} (h1 : 0 ≤ r) (h2 : r ≤ 9999) (hi : i ≤ 3) : vDeed (sendD r i) = true := by
  have hp : 2 ^ i ≤ 8 := pow_le (b := i) (c := 3) hi
  have e1 : inR r 0 9999 = true := inR_iff.2 ⟨h1, h2⟩
  have e2 : inR ((2 ^ i : Nat) : Int) 0 9999 = true := inR_iff.2 ⟨Int.natCast_nonneg _, Int.le_trans (Int.ofNat_le.2 hp) (by decide)⟩
  unfold vDeed sendD
  simp only [e1, e2]
  rfl
theorem own_valid {k r : Int} (hk : k = 6 ∨ k = 8) (h1 : 0 ≤ r) (h2 : r ≤ 9999) : vDeed (k, r, 0, 0, ()) = true := by
  have e1 : inR r 0 9999 = true := inR_iff.2 ⟨h1, h2⟩
  unfold vDeed
  simp only [e1]
  rcases hk with rfl | rfl <;> rfl
theorem ishl_pow {i : Nat} (hi : i ≤ 3) : ishl .i64 1 (i : Int) = ((2 ^ i : Nat) : Int) := shl_cols (by omega)
theorem fin_l22 {g : G8} (hg : isG g = true) {r : Int} (h1 : 0 ≤ r) (h2 : r ≤ 9999) : ∀ (n i : Nat) {c : Nat} {p : P8} {l : List D8}, (i : Int) + (n : Int) = g.1 → okP c g p = true → c + 2 * n ≤ 1000 → l.length + 2 * n ≤ 1000 →
    loopF (s_FinishDeeds_l22 r g) ((i : Int), (p, ()), (l, ())) = some ((runP g (sendsFrom r i n) p, ()), (l ++ sendsFrom r i n, ())) ∧ okP (c + 2 * n) g (runP g (sendsFrom r i n) p) = true := by
  have hb := isG_spec hg
  intro n
  induction n with
  | zero =>
    intro i c p l hi hp _ _
    refine ⟨loopF_done ?_, hp⟩
    unfold s_FinishDeeds_l22
    rw [Tre.run_cond, show decide (((i : Int), (p, ()), ((l, ()) : List D8 × Unit)).1 < g.1) = false from decide_eq_false (by show ¬ (i : Int) < g.1; omega), cond_false, Tre.run_ret]
    simp [sendsFrom, runP]
  | succ n ih =>
    intro i c p l hi hp hc hl
    have hv := send_valid (r := r) (i := i) h1 h2 (by omega)
    have hp1 := doM_ok hg hv hp
    have hp2 := doM_ok (d := deliverD) hg rfl hp1
    have hstep : (s_FinishDeeds_l22 r g ((i : Int), (p, ()), (l, ()))).run some = some (.inl (((i + 1 : Nat) : Int), ((doM g deliverD (doM g (sendD r i) p).2).2, ()), (l ++ [sendD r i] ++ [deliverD], ()))) := by
      have hw : iwrap .u64 (i : Int) = (i : Int) := iwrap_u64 (by omega) (by omega)
      unfold s_FinishDeeds_l22
      dsimp only
      rw [Tre.run_cond, decide_eq_true (show (i : Int) < g.1 by omega), cond_true, hw, Tre.run_ite, if_pos (by omega), ishl_pow (by omega)]
      rw [run_some_mat (show pdoR (1, 0, r, ((2 ^ i : Nat) : Int), ()) (l, ()) (p, ()) g = _ from plan_do (d := sendD r i) hg hv hp (by omega) (by omega))]
      dsimp only
      rw [run_some_mat (show pdoR (2, 0, 0, 0, ()) (l ++ [sendD r i], ()) ((doM g (sendD r i) p).2, ()) g = _ from plan_do (d := deliverD) hg rfl hp1 (by omega) (by simp; omega)), Tre.run_ret, iwrap_succ (by omega)]
    obtain ⟨e1, e2⟩ := ih (i + 1) (c := c + 2) (p := (doM g deliverD (doM g (sendD r i) p).2).2) (l := l ++ [sendD r i] ++ [deliverD]) (by omega) hp2 (by omega) (by simp; omega)
    rw [loopF_step hstep, e1]
    refine ⟨?_, by rw [show c + 2 * (n + 1) = c + 2 + 2 * n by omega]; exact e2⟩
    simp [sendsFrom, runP]
theorem fin_give {g : G8} (hg : isG g = true) {r : Int} (h1 : 0 ≤ r) (h2 : r ≤ 9999) {c : Nat} {p : P8} {l : List D8} (hp : okP c g p = true) (hc : c + 10 ≤ 1000) (hl : l.length + 10 ≤ 1000) {ρ : Type} {k : (List D8 × Unit) × (P8 × Unit) → Tre ρ} {cc : ρ → Option ρ} :
    (Tre.mat (pdoR (8, r, 0, 0, ()) (l, ()) (p, ()) g) fun r16 => .mat (loopF (s_FinishDeeds_l22 r g) (0, r16.2, r16.1)) fun l20 => .mat (pdoR (6, r, 0, 0, ()) l20.2 l20.1 g) k).run cc = (k ((l ++ giveD g r, ()), (runP g (giveD g r) p, ()))).run cc ∧ okP (c + 10) g (runP g (giveD g r) p) = true := by
  have hb := isG_spec hg
  obtain ⟨m, hm⟩ := Int.eq_ofNat_of_zero_le (show 0 ≤ g.1 by omega)
  have hp1 := doM_ok hg (own_valid (k := 8) (by omega) h1 h2) hp
  obtain ⟨e1, e2⟩ := fin_l22 hg h1 h2 m 0 (l := l ++ [forgetD r]) (by omega) hp1 (by omega) (by simp; omega)
  have hp3 := doM_ok hg (own_valid (k := 6) (by omega) h1 h2) e2
  have hrun : runP g (giveD g r) p = (doM g (saveD r) (runP g (sendsFrom r 0 m) (doM g (forgetD r) p).2)).2 := by
    unfold giveD
    simp only [runP]
    rw [runP_app, hm, Int.toNat_natCast]
    rfl
  constructor
  · rw [run_some_mat (show pdoR (8, r, 0, 0, ()) (l, ()) (p, ()) g = _ from plan_do (d := forgetD r) hg (own_valid (by omega) h1 h2) hp (by omega) (by omega))]
    dsimp only
    have e1 : loopF (s_FinishDeeds_l22 r g) (0, ((doM g (forgetD r) p).2, ()), (l ++ [forgetD r], ())) = _ := e1
    rw [run_some_mat e1]
    dsimp only
    rw [run_some_mat (show pdoR (6, r, 0, 0, ()) (l ++ [forgetD r] ++ sendsFrom r 0 m, ()) (runP g (sendsFrom r 0 m) (doM g (8, r, 0, 0, ()) p).2, ()) g = _ from plan_do (d := saveD r) hg (own_valid (by omega) h1 h2) e2 (by omega) (by simp [sendsFrom_len]; omega)), hrun]
    unfold giveD
    rw [hm, Int.toNat_natCast, show l ++ forgetD r :: (sendsFrom r 0 m ++ [saveD r]) = l ++ [forgetD r] ++ sendsFrom r 0 m ++ [saveD r] from by simp]
    rfl
  · rw [hrun]
    exact okP_mono hp3 (by omega)
theorem know_len {g : G8} {r : Nat} {p : P8} (h : isG g = true) : (giveD g r).length ≤ 10 := by
  have hb := isG_spec h
  unfold giveD
  simp only [List.length_cons, List.length_append, sendsFrom_len, List.length_nil]
  omega
theorem fin_l15 {g : G8} (hg : isG g = true) {p0 : P8} : ∀ (n k : Nat) {c : Nat} {p : P8} {l : List D8}, (k : Int) + (n : Int) = g.2.2.2.2.1 → okP c g p = true → c + 10 * n ≤ 1000 → l.length + 10 * n ≤ 1000 → p.2.1 = [] → (∀ j : Nat, 1 + g.2.2.2.1 + (k : Int) ≤ (j : Int) → p.1[j]? = p0.1[j]?) →
    ∃ p' : P8, loopF (s_FinishDeeds_l15 g) ((k : Int), (p, ()), (l, ())) = some ((l ++ giveAll g p0 (1 + g.2.2.2.1 + (k : Int)).toNat n, ()), (p', ())) := by
  have hb := isG_spec hg
  intro n
  induction n with
  | zero =>
    intro k c p l hk _ _ _ _ _
    refine ⟨p, loopF_done ?_⟩
    unfold s_FinishDeeds_l15
    rw [Tre.run_cond, show decide (((k : Int), (p, ()), ((l, ()) : List D8 × Unit)).1 < g.2.2.2.2.1) = false from decide_eq_false (by show ¬ (k : Int) < g.2.2.2.2.1; omega), cond_false, Tre.run_ret]
    simp [giveAll]
  | succ n ih =>
    intro k c p l hk hp hc hl hw hr
    obtain ⟨r, hrr⟩ := Int.eq_ofNat_of_zero_le (show 0 ≤ 1 + g.2.2.2.1 + (k : Int) by omega)
    obtain ⟨q1, q2, q3, q4⟩ := okP_spec hp
    have hst : statG g = 1 + g.2.2.2.1 + g.2.2.2.2.1 := rfl
    have hlt : r < p.1.length := by omega
    obtain ⟨x, hx⟩ : ∃ x, p.1[r]? = some x := ⟨_, List.getElem?_eq_getElem hlt⟩
    have hx0 : rowsI p0 r = x.1 := by unfold rowsI; rw [← hr r (by omega), hx]
    have hok := (q2 x (List.mem_of_getElem? hx)).1
    have hdat : datR g x.1 = some (datM g x.1) := askO_true (by rw [Bool.and_eq_true]; exact ⟨hg, okS_mono hok (by omega)⟩)
    have w1 : iwrap .i64 (1 + g.2.2.2.1) = 1 + g.2.2.2.1 := iwrap_i64 (by omega) (by omega)
    have w2 : iwrap .i64 (1 + g.2.2.2.1 + (k : Int)) = (r : Int) := by rw [hrr]; exact iwrap_i64 (by omega) (by omega)
    have hnext : (1 + g.2.2.2.1 + ((k + 1 : Nat) : Int)).toNat = r + 1 := by omega
    have hall : giveAll g p0 (1 + g.2.2.2.1 + (k : Int)).toNat (n + 1) = cond (knowsM g x.1) (giveAll g p0 (r + 1) n) (giveD g (r : Int) ++ giveAll g p0 (r + 1) n) := by
      rw [hrr, Int.toNat_natCast]
      simp only [giveAll, hx0]
    have hlen : (datM g x.1).2.length ≤ 1048576 := datM_len hg hok
    have hsame : sameL (datM g x.1).2 g.2.2.1 = some (decide ((datM g x.1).2 = g.2.2.1)) := askO_true (by simp only [Bool.and_eq_true, decide_eq_true_eq]; omega)
    obtain ⟨eg1, eg2⟩ := fin_give (r := (r : Int)) hg (by omega) (by omega) hp (by omega) (l := l) (by omega)
      (k := fun r21 => (.ret (.inl (iwrap .i64 ((k : Int) + 1), r21.2, r21.1)) : Tre ((Int × ((P8 × Unit) × (List D8 × Unit))) ⊕ ((List D8 × Unit) × (P8 × Unit))))) (cc := some)
    have hcalm := give_calm (g := g) (r := r) hw
    have hgl := know_len (g := g) (r := r) (p := p) hg
    have hcase : (s_FinishDeeds_l15 g ((k : Int), (p, ()), (l, ()))).run some = some (.inl (cond (knowsM g x.1) (((k + 1 : Nat) : Int), (p, ()), (l, ())) (((k + 1 : Nat) : Int), (runP g (giveD g (r : Int)) p, ()), (l ++ giveD g (r : Int), ())))) := by
      unfold s_FinishDeeds_l15
      dsimp only
      rw [Tre.run_cond, decide_eq_true (show (k : Int) < g.2.2.2.2.1 by omega), cond_true, w1, w2, Tre.run_ite, if_pos ⟨by omega, by omega⟩, Int.toNat_natCast, run_some_mat hx, run_some_mat hx, run_some_mat hdat, Tre.run_cond]
      unfold knowsM
      cases h0 : decide ((datM g x.1).1 = 0)
      · rw [cond_false, Bool.false_and, cond_false, eg1, Tre.run_ret, iwrap_succ (by omega)]
      · rw [cond_true, run_some_mat hsame, Bool.true_and, Tre.run_cond]
        cases decide ((datM g x.1).2 = g.2.2.1)
        · rw [cond_false, cond_false, eg1, Tre.run_ret, iwrap_succ (by omega)]
        · rw [cond_true, cond_true, Tre.run_ret, iwrap_succ (by omega)]
    rw [loopF_step hcase, hall]
    cases knowsM g x.1
    · simp only [cond_false]
      obtain ⟨p', e⟩ := ih (k + 1) (p := runP g (giveD g (r : Int)) p) (l := l ++ giveD g (r : Int)) (by omega) eg2 (by omega) (by simp; omega) hcalm.wire (fun j hj => by rw [hcalm.rest j (by omega)]; exact hr j (by omega))
      exact ⟨p', by rw [e, hnext, List.append_assoc]⟩
    · simp only [cond_true]
      obtain ⟨p', e⟩ := ih (k + 1) (p := p) (l := l) (by omega) hp (by omega) (by omega) hw (fun j hj => hr j (by omega))
      exact ⟨p', by rw [e, hnext]⟩
theorem giveAll_len {g : G8} (h : isG g = true) (p : P8) : ∀ (n i : Nat), (giveAll g p i n).length ≤ 10 * n := by
  intro n
  induction n with
  | zero => intro i; simp [giveAll]
  | succ n ih =>
    intro i
    simp only [giveAll]
    have h1 := ih (i + 1)
    have h2 := know_len (g := g) (r := i) (p := p) h
    cases knowsM g (rowsI p i)
    · rw [cond_false, List.length_append]; omega
    · rw [cond_true]; omega
theorem finM_len {g : G8} (h : isG g = true) {k : Nat} {p : P8} (hp : okP k g p = true) : (finM g p).length ≤ 50 := by
  have hb := isG_spec h
  have h1 := giveAll_len h p g.2.2.2.2.1.toNat (1 + g.2.2.2.1).toNat
  have h3 := (okP_spec hp).2.2.1
  unfold finM
  simp only [List.length_append, List.length_replicate]
  cases decide (((rowsI p 0).length : Int) < g.1)
  · simp only [cond_false, List.length_nil]; omega
  · simp only [cond_true, List.length_cons, List.length_nil]; omega
theorem s_FinishDeeds_spec (p0 : G8) (p1 : List D8) (y : Int × List D8) (h : finR p0 p1 = some y) : s_FinishDeeds_F p0 p1 = some y := by
  obtain ⟨hok, rfl⟩ := askO_some h
  unfold s_FinishDeeds_F s_FinishDeeds finRes
  rw [run_some_mat (show askedR p1 p0 = some _ from askO_true (by rw [Bool.and_comm] at hok ⊢; exact hok)), Tre.run_cond]
  by_cases h0 : askedM p1 p0 = 0
  · obtain ⟨hg, hd, hl⟩ := askedM_zero h0
    have hb := isG_spec hg
    have hP := afterM_ok hg hd hl
    rw [decide_eq_true h0, Bool.not_true, cond_false, cond_true, run_some_mat (show playR p1 p0 = some ((afterM p0 p1, ()), _) from askO_true (by rw [Bool.and_eq_true, Bool.and_eq_true, decide_eq_true_eq]; exact ⟨⟨hg, hd⟩, hl⟩))]
    dsimp only
    have hfl := finM_len hg hP
    have hfin : ∀ P : P8, afterM p0 p1 = P → finM p0 P = finM p0 (afterM p0 p1) := fun P h => by rw [h]
    generalize afterM p0 p1 = P at hP hfl hfin
    obtain ⟨q1, q2, q3, q4⟩ := okP_spec hP
    have hst : statG p0 = 1 + p0.2.2.2.1 + p0.2.2.2.2.1 := rfl
    have hlt : 0 < P.1.length := by omega
    obtain ⟨x0, hx0⟩ : ∃ x, P.1[0]? = some x := ⟨_, List.getElem?_eq_getElem hlt⟩
    have hsv : savedI P 0 = x0.2.1 := by unfold savedI; rw [hx0]
    have hrw : rowsI P 0 = x0.1 := by unfold rowsI; rw [hx0]
    rw [Tre.run_ite, if_pos ⟨Int.le_refl _, by omega⟩, run_some_mat hx0, run_some_mat hx0, Tre.run_cond, hsv]
    cases decide ((x0.2.1.length : Int) < p0.1)
    case true => rfl
    rw [cond_false, cond_false]
    obtain ⟨st, w, ⟨⟩⟩ := P
    obtain ⟨e1, e2⟩ := fin_l9 (l := []) hg w hP (by simp only at q3; omega) (by simp only at q3; simp; omega)
    rw [run_some_mat e1]
    simp only at hx0 q3 hlt
    rw [Tre.run_ite, if_pos ⟨Int.le_refl _, by show (0 : Int) < (st.length : Int); omega⟩, run_some_mat hx0, run_some_mat hx0, Tre.run_cond]
    have hrel : (0 : Int) ≤ 1 + p0.2.2.2.1 := by omega
    have hfm : finM p0 (st, w, ()) = List.replicate w.length dropD ++ (cond (decide ((x0.1.length : Int) < p0.1)) [crashD] [] ++ giveAll p0 (st, w, ()) (1 + p0.2.2.2.1).toNat p0.2.2.2.2.1.toNat) := by
      unfold finM; rw [hrw]
    rw [hfm] at hfl ⊢
    have hend : ∀ (L : List D8), L.length ≤ 50 → (Tre.cond (decide (iwrap .i64 ((p1.length : Int) + (L.length : Int)) > 300)) (.ret ((3, []) : Int × List D8)) (.ret (0, L))).run some = some (cond (decide ((p1.length : Int) + (L.length : Int) > 300)) (3, []) (0, L)) := by
      intro L hL
      rw [iwrap_i64 (by omega) (by omega), Tre.run_cond]
      cases decide ((p1.length : Int) + (L.length : Int) > 300) <;> rfl
    cases hc : decide ((x0.1.length : Int) < p0.1)
    · rw [cond_false]
      obtain ⟨p', e3⟩ := fin_l15 (p0 := (st, w, ())) hg p0.2.2.2.2.1.toNat 0 (l := [] ++ List.replicate w.length dropD) (by omega) e2 (by omega) (by simp; omega) rfl (fun j _ => rfl)
      have e3 : loopF (s_FinishDeeds_l15 p0) (0, ((st, [], ()), ()), ([] ++ List.replicate w.length dropD, ())) = _ := e3
      rw [run_some_mat e3]
      simp only [hc, cond_false, List.nil_append, Int.natCast_zero, Int.add_zero] at hfl ⊢
      exact hend _ hfl
    · rw [cond_true]
      have hcd : vDeed crashD = true := rfl
      have hp1 := doM_ok hg hcd e2
      have hcalm := own_calm (g := p0) (r := 0) (p := (st, [], ())) (k := 7) (by omega) rfl
      rw [run_some_mat (show pdoR (7, 0, 0, 0, ()) ([] ++ List.replicate w.length dropD, ()) ((st, [], ()), ()) p0 = _ from plan_do (d := crashD) hg hcd e2 (by omega) (by simp; omega))]
      dsimp only
      obtain ⟨p', e3⟩ := fin_l15 (p0 := (st, w, ())) hg p0.2.2.2.2.1.toNat 0 (p := (doM p0 crashD (st, [], ())).2) (l := [] ++ List.replicate w.length dropD ++ [crashD]) (by omega) hp1 (by omega) (by simp; omega) hcalm.wire (fun j hj => hcalm.rest j (by omega))
      have e3 : loopF (s_FinishDeeds_l15 p0) (0, ((doM p0 crashD (st, [], ())).2, ()), ([] ++ List.replicate w.length dropD ++ [crashD], ())) = _ := e3
      rw [run_some_mat e3]
      simp only [hc, cond_true, List.nil_append, Int.natCast_zero, Int.add_zero, List.append_assoc] at hfl ⊢
      exact hend _ hfl
  · rw [decide_eq_false h0]; rfl
noncomputable def s_FinishDeeds_V : Env := ⟨tau, [(78, s_l08Asked_3c39_c), (79, s_l08Play_3c39_c), (80, s_l08Plan_do_6f19_c), (81, s_l08Data_f714_c), (82, s_l00Same_c)], []⟩
noncomputable def s_FinishDeeds_b : Code := (Try.f33.body).getD .skip
noncomputable def s_FinishDeeds_l9_mk (z9_0 : Bool) (z9_1 : Bool) (h9_0_0 : (List TDeed)) (h9_0_2 : TGather) : (Int × (TPlant × Unit) × ((List TDeed) × Unit)) → St := fun x => stOf [(1, (.imm z9_0 (.sl kDeed) h9_0_0)), (2, (.ptr (4, 0) [])), (7, (.ptr (26, 0) [])), (9, (.ptr (44, 0) [])), (10, (.imm true (.int .i64) x.1))] [((4, 0), some ⟨true, kGather, (.imm z9_1), h9_0_2⟩), ((26, 0), some ⟨true, kL08Run, .own, ((some (4, 0) : Option RName), x.2.1)⟩), ((44, 0), some ⟨true, kL08Plan, .own, ((some (26, 0) : Option RName), x.2.2)⟩)]
noncomputable def s_FinishDeeds_l9_out (z9_0 : Bool) (z9_1 : Bool) (h9_0_0 : (List TDeed)) (h9_0_2 : TGather) : ((TPlant × Unit) × ((List TDeed) × Unit)) → Ex × St := fun x => (.exit 0, stOf [(1, (.imm z9_0 (.sl kDeed) h9_0_0)), (2, (.ptr (4, 0) [])), (7, (.ptr (26, 0) [])), (9, (.ptr (44, 0) []))] [((4, 0), some ⟨true, kGather, (.imm z9_1), h9_0_2⟩), ((26, 0), some ⟨true, kL08Run, .own, ((some (4, 0) : Option RName), x.1)⟩), ((44, 0), some ⟨true, kL08Plan, .own, ((some (26, 0) : Option RName), x.2)⟩)])
noncomputable def s_FinishDeeds_l9_D (s : St) : Tre (Ex × St) :=
  asImm (.sl kDeed) (s.tmps 1) fun z3 d2 =>
  asPtr (4, 0) [] (s.tmps 2) <|
  asPtr (26, 0) [] (s.tmps 7) <|
  asPtr (44, 0) [] (s.tmps 9) <|
  asImmZ true (.int .i64) (s.tmps 10) fun d8 =>
  asRoot true kGather (s.roots (4, 0)) fun m10 d11 =>
  asMImm m10 fun z12 =>
  asRoot true kL08Run (s.roots (26, 0)) fun m14 d15 =>
  asM .own m14 <|
  asProd d15 fun d16 d17 =>
  asD d16 (some (4, 0) : Option RName) <|
  asRoot true kL08Plan (s.roots (44, 0)) fun m19 d20 =>
  asM .own m19 <|
  asProd d20 fun d21 d22 =>
  asD d21 (some (26, 0) : Option RName) <|
  .mat (loopF (s_FinishDeeds_l9 d11) (d8, d17, d22)) fun x => .ret (s_FinishDeeds_l9_out z3 z12 d2 d11 x)
noncomputable def s_FinishDeeds_l9_L : LoopI := ⟨([1, 2, 7, 9, 10], [(4, 0), (26, 0), (44, 0)]), ([1, 2, 7, 9], [(4, 0), (26, 0), (44, 0)]), s_FinishDeeds_l9_D⟩
noncomputable def s_FinishDeeds_l22_mk (z22_0 : Bool) (z22_1 : Bool) (h22_0_0 : (List TDeed)) (h22_0_1 : Int) (h22_0_2 : Int) (h22_0_4 : TGather) : (Int × (TPlant × Unit) × ((List TDeed) × Unit)) → St := fun x => stOf [(1, (.imm z22_0 (.sl kDeed) h22_0_0)), (2, (.ptr (4, 0) [])), (7, (.ptr (26, 0) [])), (9, (.ptr (44, 0) [])), (11, (.imm true (.int .i64) h22_0_1)), (12, (.imm true (.int .i64) h22_0_2)), (15, (.imm true (.int .i64) x.1))] [((4, 0), some ⟨true, kGather, (.imm z22_1), h22_0_4⟩), ((26, 0), some ⟨true, kL08Run, .own, ((some (4, 0) : Option RName), x.2.1)⟩), ((44, 0), some ⟨true, kL08Plan, .own, ((some (26, 0) : Option RName), x.2.2)⟩)]
noncomputable def s_FinishDeeds_l22_out (z22_0 : Bool) (z22_1 : Bool) (h22_0_0 : (List TDeed)) (h22_0_1 : Int) (h22_0_2 : Int) (h22_0_4 : TGather) : ((TPlant × Unit) × ((List TDeed) × Unit)) → Ex × St := fun x => (.exit 4, stOf [(1, (.imm z22_0 (.sl kDeed) h22_0_0)), (2, (.ptr (4, 0) [])), (7, (.ptr (26, 0) [])), (9, (.ptr (44, 0) [])), (11, (.imm true (.int .i64) h22_0_1)), (12, (.imm true (.int .i64) h22_0_2))] [((4, 0), some ⟨true, kGather, (.imm z22_1), h22_0_4⟩), ((26, 0), some ⟨true, kL08Run, .own, ((some (4, 0) : Option RName), x.1)⟩), ((44, 0), some ⟨true, kL08Plan, .own, ((some (26, 0) : Option RName), x.2)⟩)])
noncomputable def s_FinishDeeds_l22_D (s : St) : Tre (Ex × St) :=
  asImm (.sl kDeed) (s.tmps 1) fun z3 d2 =>
  asPtr (4, 0) [] (s.tmps 2) <|
  asPtr (26, 0) [] (s.tmps 7) <|
  asPtr (44, 0) [] (s.tmps 9) <|
  asImmZ true (.int .i64) (s.tmps 11) fun d8 =>
  asImmZ true (.int .i64) (s.tmps 12) fun d10 =>
  asImmZ true (.int .i64) (s.tmps 15) fun d12 =>
  asRoot true kGather (s.roots (4, 0)) fun m14 d15 =>
  asMImm m14 fun z16 =>
  asRoot true kL08Run (s.roots (26, 0)) fun m18 d19 =>
  asM .own m18 <|
  asProd d19 fun d20 d21 =>
  asD d20 (some (4, 0) : Option RName) <|
  asRoot true kL08Plan (s.roots (44, 0)) fun m23 d24 =>
  asM .own m23 <|
  asProd d24 fun d25 d26 =>
  asD d25 (some (26, 0) : Option RName) <|
  .mat (loopF (s_FinishDeeds_l22 d10 d15) (d12, d21, d26)) fun x => .ret (s_FinishDeeds_l22_out z3 z16 d2 d8 d10 d15 x)
noncomputable def s_FinishDeeds_l22_L : LoopI := ⟨([1, 2, 7, 9, 11, 12, 15], [(4, 0), (26, 0), (44, 0)]), ([1, 2, 7, 9, 11, 12], [(4, 0), (26, 0), (44, 0)]), s_FinishDeeds_l22_D⟩
noncomputable def s_FinishDeeds_l15_mk (z15_0 : Bool) (z15_1 : Bool) (h15_0_0 : (List TDeed)) (h15_0_2 : TGather) : (Int × (TPlant × Unit) × ((List TDeed) × Unit)) → St := fun x => stOf [(1, (.imm z15_0 (.sl kDeed) h15_0_0)), (2, (.ptr (4, 0) [])), (7, (.ptr (26, 0) [])), (9, (.ptr (44, 0) [])), (11, (.imm true (.int .i64) x.1))] [((4, 0), some ⟨true, kGather, (.imm z15_1), h15_0_2⟩), ((26, 0), some ⟨true, kL08Run, .own, ((some (4, 0) : Option RName), x.2.1)⟩), ((44, 0), some ⟨true, kL08Plan, .own, ((some (26, 0) : Option RName), x.2.2)⟩)]
noncomputable def s_FinishDeeds_l15_out (z15_0 : Bool) (z15_1 : Bool) (h15_0_0 : (List TDeed)) (h15_0_2 : TGather) : (((List TDeed) × Unit) × (TPlant × Unit)) → Ex × St := fun x => (.exit 2, stOf [(1, (.imm z15_0 (.sl kDeed) h15_0_0)), (9, (.ptr (44, 0) []))] [((44, 0), some ⟨true, kL08Plan, .own, ((some (26, 0) : Option RName), x.1)⟩), ((26, 0), some ⟨true, kL08Run, .own, ((some (4, 0) : Option RName), x.2)⟩), ((4, 0), some ⟨true, kGather, (.imm z15_1), h15_0_2⟩)])
noncomputable def s_FinishDeeds_l15_D (s : St) : Tre (Ex × St) :=
  asImm (.sl kDeed) (s.tmps 1) fun z3 d2 =>
  asPtr (4, 0) [] (s.tmps 2) <|
  asPtr (26, 0) [] (s.tmps 7) <|
  asPtr (44, 0) [] (s.tmps 9) <|
  asImmZ true (.int .i64) (s.tmps 11) fun d8 =>
  asRoot true kGather (s.roots (4, 0)) fun m10 d11 =>
  asMImm m10 fun z12 =>
  asRoot true kL08Run (s.roots (26, 0)) fun m14 d15 =>
  asM .own m14 <|
  asProd d15 fun d16 d17 =>
  asD d16 (some (4, 0) : Option RName) <|
  asRoot true kL08Plan (s.roots (44, 0)) fun m19 d20 =>
  asM .own m19 <|
  asProd d20 fun d21 d22 =>
  asD d21 (some (26, 0) : Option RName) <|
  .mat (loopF (s_FinishDeeds_l15 d11) (d8, d17, d22)) fun x => .ret (s_FinishDeeds_l15_out z3 z12 d2 d11 x)
noncomputable def s_FinishDeeds_l15_L : LoopI := ⟨([1, 2, 7, 9, 11], [(4, 0), (26, 0), (44, 0)]), ([1, 9], [(44, 0), (26, 0), (4, 0)]), s_FinishDeeds_l15_D⟩
noncomputable def s_FinishDeeds_A : List (Nat × LoopI) := [(9, s_FinishDeeds_l9_L), (22, s_FinishDeeds_l22_L), (15, s_FinishDeeds_l15_L)]
set_option maxRecDepth 100000 in
theorem s_FinishDeeds_l9_step : ∀ (z9_0 : Bool) (z9_1 : Bool) (h9_0_0 : (List TDeed)) (h9_0_2 : TGather) (x : (Int × (TPlant × Unit) × ((List TDeed) × Unit))) (c : St → Option (Ex × St)), den s_FinishDeeds_V s_FinishDeeds_A (loopAt s_FinishDeeds_b 0) (s_FinishDeeds_l9_mk z9_0 z9_1 h9_0_0 h9_0_2 x) (roundK s_FinishDeeds_l9_L.kp s_FinishDeeds_l9_L.kx c) = (s_FinishDeeds_l9 h9_0_2 x).run (roundR (s_FinishDeeds_l9_mk z9_0 z9_1 h9_0_0 h9_0_2) (s_FinishDeeds_l9_out z9_0 z9_1 h9_0_0 h9_0_2) c) := fun _ _ _ _ _ _ => by
  kernel_rfl
theorem s_FinishDeeds_l9_ok : LoopOK s_FinishDeeds_V s_FinishDeeds_A (loopAt s_FinishDeeds_b 0) s_FinishDeeds_l9_L := loopOK_of fun s e s' h => by
  generalize hs : restrict s_FinishDeeds_l9_L.kp s = s1 at h
  have h : (s_FinishDeeds_l9_D s1).run some = some (e, s') := h
  obtain ⟨z3, d2, e1, h_0⟩ := asImm_spec h
  obtain ⟨e4, h_1⟩ := asPtr_spec h_0
  obtain ⟨e5, h_2⟩ := asPtr_spec h_1
  obtain ⟨e6, h_3⟩ := asPtr_spec h_2
  obtain ⟨d8, e7, h_4⟩ := asImmZ_spec h_3
  obtain ⟨m10, d11, e9, h_5⟩ := asRoot_spec h_4
  obtain ⟨z12, rfl, h_6⟩ := asMImm_spec h_5
  obtain ⟨m14, d15, e13, h_7⟩ := asRoot_spec h_6
  obtain ⟨rfl, h_8⟩ := asM_spec h_7
  obtain ⟨d16, d17, rfl, h_9⟩ := asProd_spec h_8
  obtain ⟨rfl, h_10⟩ := asD_spec h_9
  obtain ⟨m19, d20, e18, h_11⟩ := asRoot_spec h_10
  obtain ⟨rfl, h_12⟩ := asM_spec h_11
  obtain ⟨d21, d22, rfl, h_13⟩ := asProd_spec h_12
  obtain ⟨rfl, h_14⟩ := asD_spec h_13
  obtain ⟨y, hy, hz⟩ := mat_ret h_14
  refine ⟨_, _, s_FinishDeeds_l9_mk z3 z12 d2 d11, s_FinishDeeds_l9_out z3 z12 d2 d11, s_FinishDeeds_l9 d11, (d8, d17, d22), y, ?_, hy, ?_, s_FinishDeeds_l9_step z3 z12 d2 d11⟩
  · subst hs; exact restrict_eq (T := [(1, (.imm z3 (.sl kDeed) d2)), (2, (.ptr (4, 0) [])), (7, (.ptr (26, 0) [])), (9, (.ptr (44, 0) [])), (10, (.imm true (.int .i64) d8))]) (U := [((4, 0), some ⟨true, kGather, (.imm z12), d11⟩), ((26, 0), some ⟨true, kL08Run, .own, ((some (4, 0) : Option RName), d17)⟩), ((44, 0), some ⟨true, kL08Plan, .own, ((some (26, 0) : Option RName), d22)⟩)]) rfl rfl ⟨e1, e4, e5, e6, e7, trivial⟩ ⟨e9, e13, e18, trivial⟩
  · exact Option.some.inj hz
set_option maxRecDepth 100000 in
theorem s_FinishDeeds_l22_step : ∀ (z22_0 : Bool) (z22_1 : Bool) (h22_0_0 : (List TDeed)) (h22_0_1 : Int) (h22_0_2 : Int) (h22_0_4 : TGather) (x : (Int × (TPlant × Unit) × ((List TDeed) × Unit))) (c : St → Option (Ex × St)), den s_FinishDeeds_V s_FinishDeeds_A (loopAt s_FinishDeeds_b 2) (s_FinishDeeds_l22_mk z22_0 z22_1 h22_0_0 h22_0_1 h22_0_2 h22_0_4 x) (roundK s_FinishDeeds_l22_L.kp s_FinishDeeds_l22_L.kx c) = (s_FinishDeeds_l22 h22_0_2 h22_0_4 x).run (roundR (s_FinishDeeds_l22_mk z22_0 z22_1 h22_0_0 h22_0_1 h22_0_2 h22_0_4) (s_FinishDeeds_l22_out z22_0 z22_1 h22_0_0 h22_0_1 h22_0_2 h22_0_4) c) := fun _ _ _ _ _ _ _ _ => by
  kernel_rfl
theorem s_FinishDeeds_l22_ok : LoopOK s_FinishDeeds_V s_FinishDeeds_A (loopAt s_FinishDeeds_b 2) s_FinishDeeds_l22_L := loopOK_of fun s e s' h => by
  generalize hs : restrict s_FinishDeeds_l22_L.kp s = s1 at h
  have h : (s_FinishDeeds_l22_D s1).run some = some (e, s') := h
  obtain ⟨z3, d2, e1, h_0⟩ := asImm_spec h
  obtain ⟨e4, h_1⟩ := asPtr_spec h_0
  obtain ⟨e5, h_2⟩ := asPtr_spec h_1
  obtain ⟨e6, h_3⟩ := asPtr_spec h_2
  obtain ⟨d8, e7, h_4⟩ := asImmZ_spec h_3
  obtain ⟨d10, e9, h_5⟩ := asImmZ_spec h_4
  obtain ⟨d12, e11, h_6⟩ := asImmZ_spec h_5
  obtain ⟨m14, d15, e13, h_7⟩ := asRoot_spec h_6
  obtain ⟨z16, rfl, h_8⟩ := asMImm_spec h_7
  obtain ⟨m18, d19, e17, h_9⟩ := asRoot_spec h_8
  obtain ⟨rfl, h_10⟩ := asM_spec h_9
  obtain ⟨d20, d21, rfl, h_11⟩ := asProd_spec h_10
  obtain ⟨rfl, h_12⟩ := asD_spec h_11
  obtain ⟨m23, d24, e22, h_13⟩ := asRoot_spec h_12
  obtain ⟨rfl, h_14⟩ := asM_spec h_13
  obtain ⟨d25, d26, rfl, h_15⟩ := asProd_spec h_14
  obtain ⟨rfl, h_16⟩ := asD_spec h_15
  obtain ⟨y, hy, hz⟩ := mat_ret h_16
  refine ⟨_, _, s_FinishDeeds_l22_mk z3 z16 d2 d8 d10 d15, s_FinishDeeds_l22_out z3 z16 d2 d8 d10 d15, s_FinishDeeds_l22 d10 d15, (d12, d21, d26), y, ?_, hy, ?_, s_FinishDeeds_l22_step z3 z16 d2 d8 d10 d15⟩
  · subst hs; exact restrict_eq (T := [(1, (.imm z3 (.sl kDeed) d2)), (2, (.ptr (4, 0) [])), (7, (.ptr (26, 0) [])), (9, (.ptr (44, 0) [])), (11, (.imm true (.int .i64) d8)), (12, (.imm true (.int .i64) d10)), (15, (.imm true (.int .i64) d12))]) (U := [((4, 0), some ⟨true, kGather, (.imm z16), d15⟩), ((26, 0), some ⟨true, kL08Run, .own, ((some (4, 0) : Option RName), d21)⟩), ((44, 0), some ⟨true, kL08Plan, .own, ((some (26, 0) : Option RName), d26)⟩)]) rfl rfl ⟨e1, e4, e5, e6, e7, e9, e11, trivial⟩ ⟨e13, e17, e22, trivial⟩
  · exact Option.some.inj hz
set_option maxRecDepth 100000 in
theorem s_FinishDeeds_l15_step : ∀ (z15_0 : Bool) (z15_1 : Bool) (h15_0_0 : (List TDeed)) (h15_0_2 : TGather) (x : (Int × (TPlant × Unit) × ((List TDeed) × Unit))) (c : St → Option (Ex × St)), den s_FinishDeeds_V s_FinishDeeds_A (loopAt s_FinishDeeds_b 1) (s_FinishDeeds_l15_mk z15_0 z15_1 h15_0_0 h15_0_2 x) (roundK s_FinishDeeds_l15_L.kp s_FinishDeeds_l15_L.kx c) = (s_FinishDeeds_l15 h15_0_2 x).run (roundR (s_FinishDeeds_l15_mk z15_0 z15_1 h15_0_0 h15_0_2) (s_FinishDeeds_l15_out z15_0 z15_1 h15_0_0 h15_0_2) c) := fun _ _ _ _ _ _ => by
  kernel_rfl
theorem s_FinishDeeds_l15_ok : LoopOK s_FinishDeeds_V s_FinishDeeds_A (loopAt s_FinishDeeds_b 1) s_FinishDeeds_l15_L := loopOK_of fun s e s' h => by
  generalize hs : restrict s_FinishDeeds_l15_L.kp s = s1 at h
  have h : (s_FinishDeeds_l15_D s1).run some = some (e, s') := h
  obtain ⟨z3, d2, e1, h_0⟩ := asImm_spec h
  obtain ⟨e4, h_1⟩ := asPtr_spec h_0
  obtain ⟨e5, h_2⟩ := asPtr_spec h_1
  obtain ⟨e6, h_3⟩ := asPtr_spec h_2
  obtain ⟨d8, e7, h_4⟩ := asImmZ_spec h_3
  obtain ⟨m10, d11, e9, h_5⟩ := asRoot_spec h_4
  obtain ⟨z12, rfl, h_6⟩ := asMImm_spec h_5
  obtain ⟨m14, d15, e13, h_7⟩ := asRoot_spec h_6
  obtain ⟨rfl, h_8⟩ := asM_spec h_7
  obtain ⟨d16, d17, rfl, h_9⟩ := asProd_spec h_8
  obtain ⟨rfl, h_10⟩ := asD_spec h_9
  obtain ⟨m19, d20, e18, h_11⟩ := asRoot_spec h_10
  obtain ⟨rfl, h_12⟩ := asM_spec h_11
  obtain ⟨d21, d22, rfl, h_13⟩ := asProd_spec h_12
  obtain ⟨rfl, h_14⟩ := asD_spec h_13
  obtain ⟨y, hy, hz⟩ := mat_ret h_14
  refine ⟨_, _, s_FinishDeeds_l15_mk z3 z12 d2 d11, s_FinishDeeds_l15_out z3 z12 d2 d11, s_FinishDeeds_l15 d11, (d8, d17, d22), y, ?_, hy, ?_, s_FinishDeeds_l15_step z3 z12 d2 d11⟩
  · subst hs; exact restrict_eq (T := [(1, (.imm z3 (.sl kDeed) d2)), (2, (.ptr (4, 0) [])), (7, (.ptr (26, 0) [])), (9, (.ptr (44, 0) [])), (11, (.imm true (.int .i64) d8))]) (U := [((4, 0), some ⟨true, kGather, (.imm z12), d11⟩), ((26, 0), some ⟨true, kL08Run, .own, ((some (4, 0) : Option RName), d17)⟩), ((44, 0), some ⟨true, kL08Plan, .own, ((some (26, 0) : Option RName), d22)⟩)]) rfl rfl ⟨e1, e4, e5, e6, e7, trivial⟩ ⟨e9, e13, e18, trivial⟩
  · exact Option.some.inj hz
noncomputable def s_FinishDeeds_I : FnI := ⟨s_FinishDeeds_b, Try.f33.results.toList, Try.f33.resultTypes.toList, s_FinishDeeds_A⟩
noncomputable def s_FinishDeeds_out (_zp0 : Bool) (_zp1 : Bool) (_p0 : TGather) (_p1 : (List TDeed)) : (Int × (List TDeed)) → CallOut := fun r => ⟨(.tcons (.ref (1, 0) []) (.tcons (.imm true (.int .i64) r.1) .tnil)), [], [⟨false, (.sl kDeed), .own, r.2⟩]⟩
set_option maxRecDepth 100000 in
theorem s_FinishDeeds_eq : ∀ (zp0 : Bool) (zp1 : Bool) (p0 : TGather) (p1 : (List TDeed)), denFn s_FinishDeeds_V s_FinishDeeds_I ⟨[(.imm zp0 kGather p0), (.imm zp1 (.sl kDeed) p1)], []⟩ = (s_FinishDeeds p0 p1).run fun r => some (s_FinishDeeds_out zp0 zp1 p0 p1 r) := fun _ _ _ _ => by kernel_rfl
noncomputable def s_FinishDeeds_G (av : List AV) (rs : List Root) : Tre CallOut :=
  asCons av fun a0_ av0 =>
  asCons av0 fun a1_ av1 =>
  asEnd av1 <|
  asEnd rs <|
  asImm kGather a0_ fun z2 d1 =>
  asImm (.sl kDeed) a1_ fun z4 d3 =>
  .mat (finR d1 d3) fun r => .ret (s_FinishDeeds_out z2 z4 d1 d3 r)
noncomputable def s_FinishDeeds_c : Ctr := ⟨[], fun ci => s_FinishDeeds_G ci.args ci.roots⟩
theorem s_FinishDeeds_env : EnvOK Try.prog s_FinishDeeds_V := (envOK_cons s_l08Asked_3c39_ok ent78 (envOK_cons s_l08Play_3c39_ok ent79 (envOK_cons s_l08Plan_do_6f19_ok ent80 (envOK_cons s_l08Data_f714_ok ent81 (envOK_cons s_l00Same_ok ent82 envOK_nil)))))
set_option maxRecDepth 100000 in
theorem s_FinishDeeds_ok : Contract Try.prog 33 s_FinishDeeds_c := by
  have hl : LoopsOK s_FinishDeeds_V s_FinishDeeds_A s_FinishDeeds_b := (loopsOK_all (n := 3) (by kernel_rfl) fun k hk => by
      match k, hk with
      | 0, _ => exact loopOK_at (id := 9) (L := s_FinishDeeds_l9_L) (by kernel_rfl) (by kernel_rfl) s_FinishDeeds_l9_ok
      | 1, _ => exact loopOK_at (id := 15) (L := s_FinishDeeds_l15_L) (by kernel_rfl) (by kernel_rfl) s_FinishDeeds_l15_ok
      | 2, _ => exact loopOK_at (id := 22) (L := s_FinishDeeds_l22_L) (by kernel_rfl) (by kernel_rfl) s_FinishDeeds_l22_ok)
  refine (contract_of (F := s_FinishDeeds_I) tau_tys s_FinishDeeds_env Try.func33 (by kernel_rfl) (by kernel_rfl) (by kernel_rfl) hl []).weaken ?_
  rintro ⟨av, rs⟩ co h
  have h : (s_FinishDeeds_G av rs).run some = some co := h
  obtain ⟨a0_, av0, rfl, h_0⟩ := asCons_spec h
  obtain ⟨a1_, av1, rfl, h_1⟩ := asCons_spec h_0
  obtain ⟨rfl, h_2⟩ := asEnd_spec h_1
  obtain ⟨rfl, h_3⟩ := asEnd_spec h_2
  obtain ⟨z2, d1, rfl, h_4⟩ := asImm_spec h_3
  obtain ⟨z4, d3, rfl, h_5⟩ := asImm_spec h_4
  exact fin_opt (s_FinishDeeds_eq z2 z4 d1 d3) (s_FinishDeeds_spec d1 d3) h_5
end Go.Proofs.Ytkgekgfmnhccmaa

namespace Go.Proofs.Ytkgekgfmnhccmaa
open Go Go.Abs Go.Proofs
noncomputable def i_FinishDeeds_l10 (h10_0_1 : Int) : (Int × (List TDeed)) → Tre ((Int × (List TDeed)) ⊕ (List TDeed)) := fun s10 =>
  .cond (decide (s10.1 < h10_0_1))
    (.ite ((s10.2.length + 1) * 32 ≤ appendMax ∧ 1 ≤ 32) <|
    let v4 := s10.2 ++ ([(4, (0, (0, (0, ()))))])
    .ret (.inl (iwrap .i64 (s10.1 + 1), v4)))
    (.ret (.inr s10.2))
noncomputable def i_FinishDeeds_l22 (h22_0_1 : Int) (h22_0_2 : Int) : (Int × (List TDeed)) → Tre ((Int × (List TDeed)) ⊕ (List TDeed)) := fun s22 =>
  .cond (decide (s22.1 < h22_0_2))
    (.ite (0 ≤ s22.1) <|
    .ite ((s22.2.length + 2) * 32 ≤ appendMax ∧ 1 ≤ 32) <|
    let v12 := s22.2 ++ ([(1, (0, (h22_0_1, (ishl .i64 1 s22.1, ())))), (2, (0, (0, (0, ()))))])
    .ret (.inl (iwrap .i64 (s22.1 + 1), v12)))
    (.ret (.inr s22.2))
noncomputable def i_FinishDeeds_l16 (h16_0_2 : TGather) (h16_0_3 : TWorks) : (Int × (List TDeed)) → Tre ((Int × (List TDeed)) ⊕ (List TDeed)) := fun s16 =>
  let v8 := i_Gather_stations_S h16_0_2
  .cond (decide (s16.1 < v8))
    (.mat (wdatR h16_0_3 s16.1) fun r9 =>
    .cond (decide (r9.1 = 0))
      (.mat (sameL r9.2 h16_0_2.2.2.1) fun r10 =>
      .cond r10
        (.ret (.inl (iwrap .i64 (s16.1 + 1), s16.2)))
        (.ite ((s16.2.length + 1) * 32 ≤ appendMax ∧ 1 ≤ 32) <|
        let v11 := s16.2 ++ ([(8, (s16.1, (0, (0, ()))))])
        .mat (loopF (i_FinishDeeds_l22 s16.1 h16_0_2.1) (0, v11)) fun l13 =>
        .ite ((l13.length + 1) * 32 ≤ appendMax ∧ 1 ≤ 32) <|
        let v14 := l13 ++ ([(6, (s16.1, (0, (0, ()))))])
        .ret (.inl (iwrap .i64 (s16.1 + 1), v14))))
      (.ite ((s16.2.length + 1) * 32 ≤ appendMax ∧ 1 ≤ 32) <|
      let v15 := s16.2 ++ ([(8, (s16.1, (0, (0, ()))))])
      .mat (loopF (i_FinishDeeds_l22 s16.1 h16_0_2.1) (0, v15)) fun l16 =>
      .ite ((l16.length + 1) * 32 ≤ appendMax ∧ 1 ≤ 32) <|
      let v17 := l16 ++ ([(6, (s16.1, (0, (0, ()))))])
      .ret (.inl (iwrap .i64 (s16.1 + 1), v17))))
    (.ret (.inr s16.2))
noncomputable def i_FinishDeeds (p0 : TGather) (p1 : (List TDeed)) : Tre (Int × (List TDeed)) :=
  .mat (codeR p0 p1 0) fun r1 =>
  .cond (!decide (r1 = 0))
    (.ret (r1, []))
    (.mat (afterR p0 p1) fun r2 =>
    .ite (0 ≤ (0 : Int) ∧ (0 : Int) < (r2.2.1.1.length : Int)) <|
    .mat (r2.2.1.1[0]?) fun x3 =>
    .cond (decide ((x3.2.1.length : Int) < p0.1))
      (.ret (4, []))
      (.mat (loopF (i_FinishDeeds_l10 (r2.2.1.2.1.length : Int)) (0, [])) fun l5 =>
      .cond (decide ((x3.1.length : Int) < p0.1))
        (.ite ((l5.length + 1) * 32 ≤ appendMax ∧ 1 ≤ 32) <|
        let v6 := l5 ++ ([(7, (0, (0, (0, ()))))])
        let v7 := iwrap .i64 (1 + p0.2.2.2.1)
        .mat (loopF (i_FinishDeeds_l16 p0 r2.2) (v7, v6)) fun l18 =>
        let v19 := iwrap .i64 ((p1.length : Int) + (l18.length : Int))
        .cond (decide (v19 > 300))
          (.ret (3, []))
          (.ret (0, l18)))
        (let v20 := iwrap .i64 (1 + p0.2.2.2.1)
        .mat (loopF (i_FinishDeeds_l16 p0 r2.2) (v20, l5)) fun l21 =>
        let v22 := iwrap .i64 ((p1.length : Int) + (l21.length : Int))
        .cond (decide (v22 > 300))
          (.ret (3, []))
          (.ret (0, l21)))))
noncomputable def i_FinishDeeds_F (p0 : TGather) (p1 : (List TDeed)) : Option (Int × (List TDeed)) := (i_FinishDeeds p0 p1).run some
theorem imp_l10 (n : Nat) (hn : n ≤ 1000) : ∀ (k i : Nat) (l : List D8), i + k = n → l.length + k ≤ 1000 → loopF (i_FinishDeeds_l10 (n : Int)) ((i : Int), l) = some (l ++ List.replicate k dropD) := by
  intro k
  induction k with
  | zero =>
    intro i l h _
    refine loopF_done ?_
    unfold i_FinishDeeds_l10
    rw [Tre.run_cond, decide_eq_false (by show ¬ (i : Int) < (n : Int); omega), cond_false, Tre.run_ret]
    simp
  | succ k ih =>
    intro i l h hl
    have hstep : (i_FinishDeeds_l10 (n : Int) ((i : Int), l)).run some = some (.inl (((i + 1 : Nat) : Int), l ++ [dropD])) := by
      unfold i_FinishDeeds_l10
      rw [Tre.run_cond, decide_eq_true (by show (i : Int) < (n : Int); omega), cond_true, Tre.run_ite, if_pos (by dsimp only; unfold appendMax; omega), Tre.run_ret, iwrap_succ (by omega)]
      rfl
    rw [loopF_step hstep, ih (i + 1) _ (by omega) (by simp; omega), List.replicate_succ, List.append_assoc]
    rfl
theorem imp_l22 (r : Int) (c : Nat) (hc : c ≤ 4) : ∀ (n i : Nat) (l : List D8), i + n = c → l.length + 2 * n ≤ 1000 → loopF (i_FinishDeeds_l22 r (c : Int)) ((i : Int), l) = some (l ++ sendsFrom r i n) := by
  intro n
  induction n with
  | zero =>
    intro i l h _
    refine loopF_done ?_
    unfold i_FinishDeeds_l22
    rw [Tre.run_cond, decide_eq_false (by show ¬ (i : Int) < (c : Int); omega), cond_false, Tre.run_ret]
    simp [sendsFrom]
  | succ n ih =>
    intro i l h hl
    have hstep : (i_FinishDeeds_l22 r (c : Int) ((i : Int), l)).run some = some (.inl (((i + 1 : Nat) : Int), l ++ [sendD r i, deliverD])) := by
      unfold i_FinishDeeds_l22
      rw [Tre.run_cond, decide_eq_true (by show (i : Int) < (c : Int); omega), cond_true, Tre.run_ite, if_pos (by show 0 ≤ (i : Int); omega), Tre.run_ite, if_pos (by dsimp only; unfold appendMax; omega), Tre.run_ret, iwrap_succ (by omega)]
      dsimp only
      rw [ishl_pow (by omega)]
      rfl
    rw [loopF_step hstep, ih (i + 1) _ (by omega) (by simp; omega), List.append_assoc]
    rfl
theorem imp_give {g : G8} (hg : isG g = true) {r : Int} {l : List D8} (hl : l.length + 10 ≤ 1000) {ρ : Type} {k : List D8 → Tre ρ} {cc : ρ → Option ρ} :
    (Tre.ite ((l.length + 1) * 32 ≤ appendMax ∧ 1 ≤ 32) <| .mat (loopF (i_FinishDeeds_l22 r g.1) (0, l ++ [(8, (r, (0, (0, ()))))])) fun l13 => .ite ((l13.length + 1) * 32 ≤ appendMax ∧ 1 ≤ 32) <| k (l13 ++ [(6, (r, (0, (0, ()))))])).run cc = (k (l ++ giveD g r)).run cc := by
  have hb := isG_spec hg
  obtain ⟨m, hm⟩ := Int.eq_ofNat_of_zero_le (show 0 ≤ g.1 by omega)
  rw [Tre.run_ite, if_pos (by unfold appendMax; omega)]
  have e := imp_l22 r m (by omega) m 0 (l ++ [forgetD r]) (by omega) (by simp; omega)
  rw [← hm] at e
  have e : loopF (i_FinishDeeds_l22 r g.1) (0, l ++ [(8, (r, (0, (0, ()))))]) = _ := e
  rw [run_some_mat e, Tre.run_ite, if_pos (by simp [sendsFrom_len]; unfold appendMax; omega)]
  unfold giveD
  rw [hm, Int.toNat_natCast, show l ++ forgetD r :: (sendsFrom r 0 m ++ [saveD r]) = l ++ [forgetD r] ++ sendsFrom r 0 m ++ [saveD r] from by simp]
  rfl
theorem imp_l16 {g : G8} {p : P8} (hg : isG g = true) (hp : okP 304 g p = true) : ∀ (n r : Nat) (l : List D8), (r : Int) + (n : Int) = statG g → l.length + 10 * n ≤ 1000 → loopF (i_FinishDeeds_l16 g (p, (g, ()))) ((r : Int), l) = some (l ++ giveAll g p r n) := by
  have hb := isG_spec hg
  have hst : statG g = 1 + g.2.2.2.1 + g.2.2.2.2.1 := rfl
  have hs : i_Gather_stations_S g = statG g := by
    unfold i_Gather_stations_S
    dsimp only
    rw [iwrap_i64 (n := 1 + g.2.2.2.1) (by omega) (by omega)]
    exact iwrap_i64 (by omega) (by omega)
  intro n
  induction n with
  | zero =>
    intro r l h _
    refine loopF_done ?_
    unfold i_FinishDeeds_l16
    dsimp only
    rw [Tre.run_cond, hs, decide_eq_false (by omega), cond_false, Tre.run_ret]
    simp [giveAll]
  | succ n ih =>
    intro r l h hl
    obtain ⟨q1, q2, q3, q4⟩ := okP_spec hp
    have hlt : r < p.1.length := by omega
    obtain ⟨x, hx⟩ : ∃ x, p.1[r]? = some x := ⟨_, List.getElem?_eq_getElem hlt⟩
    have hrows : rowsI p r = x.1 := by unfold rowsI; rw [hx]
    have hrowsP : rowsP p (r : Int) = x.1 := by unfold rowsP; rw [Int.toNat_natCast, hx]
    have hok := (q2 x (List.mem_of_getElem? hx)).1
    have hdat : wdatR (p, (g, ())) (r : Int) = some (datM g x.1) := by
      unfold wdatR
      rw [hrowsP]
      refine askO_true ?_
      unfold okW
      simp only [Bool.and_eq_true, inR_iff]
      exact ⟨⟨hg, okP_mono hp (by omega)⟩, by omega, by omega⟩
    have hlen : (datM g x.1).2.length ≤ 1048576 := datM_len hg hok
    have hsame : sameL (datM g x.1).2 g.2.2.1 = some (decide ((datM g x.1).2 = g.2.2.1)) := askO_true (by simp only [Bool.and_eq_true, decide_eq_true_eq]; omega)
    have hgive := @imp_give g hg (r : Int) l (by omega) _ (fun l14 => (.ret (.inl (iwrap .i64 ((r : Int) + 1), l14)) : Tre ((Int × List D8) ⊕ List D8))) some
    have hgl := know_len (g := g) (r := r) (p := p) hg
    have hcase : (i_FinishDeeds_l16 g (p, (g, ())) ((r : Int), l)).run some = some (.inl (((r + 1 : Nat) : Int), cond (knowsM g x.1) l (l ++ giveD g (r : Int)))) := by
      unfold i_FinishDeeds_l16
      dsimp only
      rw [Tre.run_cond, hs, decide_eq_true (by omega), cond_true, run_some_mat hdat, Tre.run_cond]
      unfold knowsM
      cases h0 : decide ((datM g x.1).1 = 0)
      · rw [cond_false, Bool.false_and, cond_false]
        exact hgive.trans (by rw [Tre.run_ret, iwrap_succ (by omega)])
      · rw [cond_true, run_some_mat hsame, Bool.true_and, Tre.run_cond]
        cases decide ((datM g x.1).2 = g.2.2.1)
        · rw [cond_false, cond_false]
          exact hgive.trans (by rw [Tre.run_ret, iwrap_succ (by omega)])
        · rw [cond_true, cond_true, Tre.run_ret, iwrap_succ (by omega)]
    rw [loopF_step hcase]
    simp only [giveAll, hrows]
    cases knowsM g x.1
    · rw [cond_false, cond_false, ih (r + 1) _ (by omega) (by simp; omega), List.append_assoc]
    · rw [cond_true, cond_true, ih (r + 1) _ (by omega) (by omega)]
theorem i_FinishDeeds_spec (p0 : G8) (p1 : List D8) (y : Int × List D8) (h : finR p0 p1 = some y) : i_FinishDeeds_F p0 p1 = some y := by
  obtain ⟨hok, rfl⟩ := askO_some h
  unfold i_FinishDeeds_F i_FinishDeeds finRes
  rw [run_some_mat (show codeR p0 p1 0 = some _ from askO_true hok), Tre.run_cond, codeM_zero]
  by_cases h0 : askedM p1 p0 = 0
  · obtain ⟨hg, hd, hl⟩ := askedM_zero h0
    have hb := isG_spec hg
    have hP := afterM_ok hg hd hl
    rw [decide_eq_true h0, Bool.not_true, cond_false, cond_true, run_some_mat (after_some (s := 0) (by rw [codeM_zero]; exact h0))]
    dsimp only
    have hfl := finM_len hg hP
    generalize afterM p0 p1 = P at hP hfl
    obtain ⟨q1, q2, q3, q4⟩ := okP_spec hP
    have hst : statG p0 = 1 + p0.2.2.2.1 + p0.2.2.2.2.1 := rfl
    have hlt : 0 < P.1.length := by omega
    obtain ⟨x0, hx0⟩ : ∃ x, P.1[0]? = some x := ⟨_, List.getElem?_eq_getElem hlt⟩
    have hsv : savedI P 0 = x0.2.1 := by unfold savedI; rw [hx0]
    have hrw : rowsI P 0 = x0.1 := by unfold rowsI; rw [hx0]
    rw [Tre.run_ite, if_pos ⟨Int.le_refl _, by omega⟩, run_some_mat hx0, Tre.run_cond, hsv]
    cases decide ((x0.2.1.length : Int) < p0.1)
    case true => rfl
    rw [cond_false, cond_false]
    have e1 := imp_l10 P.2.1.length (by omega) P.2.1.length 0 [] (by omega) (by simp; omega)
    have e1 : loopF (i_FinishDeeds_l10 (P.2.1.length : Int)) (0, []) = _ := e1
    rw [run_some_mat e1, Tre.run_cond, List.nil_append]
    obtain ⟨r0, hr0⟩ := Int.eq_ofNat_of_zero_le (show 0 ≤ 1 + p0.2.2.2.1 by omega)
    have w1 : iwrap .i64 (1 + p0.2.2.2.1) = (r0 : Int) := by rw [hr0]; exact iwrap_i64 (by omega) (by omega)
    have hfm : finM p0 P = List.replicate P.2.1.length dropD ++ (cond (decide ((x0.1.length : Int) < p0.1)) [crashD] [] ++ giveAll p0 P r0 p0.2.2.2.2.1.toNat) := by
      unfold finM; rw [hrw, hr0, Int.toNat_natCast]
    rw [hfm] at hfl ⊢
    have hend : ∀ (L : List D8), L.length ≤ 50 → (Tre.cond (decide (iwrap .i64 ((p1.length : Int) + (L.length : Int)) > 300)) (.ret ((3, []) : Int × List D8)) (.ret (0, L))).run some = some (cond (decide ((p1.length : Int) + (L.length : Int) > 300)) (3, []) (0, L)) := by
      intro L hL
      rw [iwrap_i64 (by omega) (by omega), Tre.run_cond]
      cases decide ((p1.length : Int) + (L.length : Int) > 300) <;> rfl
    cases hc : decide ((x0.1.length : Int) < p0.1)
    · rw [cond_false]
      have e3 := imp_l16 hg hP p0.2.2.2.2.1.toNat r0 (List.replicate P.2.1.length dropD) (by omega) (by simp; omega)
      rw [w1, run_some_mat e3]
      simp only [hc, cond_false, List.nil_append] at hfl ⊢
      exact hend _ hfl
    · rw [cond_true]
      rw [Tre.run_ite, if_pos (by simp; unfold appendMax; omega)]
      have e3 := imp_l16 hg hP p0.2.2.2.2.1.toNat r0 (List.replicate P.2.1.length dropD ++ [crashD]) (by omega) (by simp; omega)
      have e3 : loopF (i_FinishDeeds_l16 p0 (P, (p0, ()))) ((r0 : Int), List.replicate P.2.1.length dropD ++ [(7, (0, (0, (0, ()))))]) = _ := e3
      rw [w1, run_some_mat e3]
      simp only [hc, cond_true, List.append_assoc] at hfl ⊢
      exact hend _ hfl
  · rw [decide_eq_false h0]; rfl
noncomputable def i_FinishDeeds_V : Env := ⟨tau, [(73, i_deedsCode_c), (74, i_after_c), (53, i_size_int64_c), (75, i_Gather_stations_c), (76, i_works_data_40d4_c), (77, slices_Equal_int64_c)], [(5, [((26, 0), [.fst, .fst], true)])]⟩
noncomputable def i_FinishDeeds_b : Code := (Try.f32.body).getD .skip
noncomputable def i_FinishDeeds_l10_mk (z10_0 : Bool) (z10_1 : Bool) (z10_2 : Bool) (h10_0_0 : (List TDeed)) (h10_0_1 : Int) (h10_0_3 : TGather) (h10_0_4 : TWorks) (h10_0_5 : TStation) : (Int × (List TDeed)) → St := fun x => stOf [(1, (.imm z10_0 (.sl kDeed) h10_0_0)), (2, (.ptr (4, 0) [])), (7, (.ptr (26, 0) [])), (9, (.ptr (11, 0) [])), (10, (.ref (12, 0) [])), (46, (.imm true (.int .i64) h10_0_1)), (47, (.imm true (.int .i64) x.1))] [((4, 0), some ⟨true, kGather, (.imm z10_1), h10_0_3⟩), ((26, 0), some ⟨true, kWorks, (.pair (.pair (.sl (.imm true)) .own) (.imm z10_2)), h10_0_4⟩), ((11, 0), some ⟨true, kStation, (.imm true), h10_0_5⟩), ((12, 0), some ⟨false, (.sl kDeed), .own, x.2⟩)]
noncomputable def i_FinishDeeds_l10_out (z10_0 : Bool) (z10_1 : Bool) (z10_2 : Bool) (h10_0_0 : (List TDeed)) (_h10_0_1 : Int) (h10_0_3 : TGather) (h10_0_4 : TWorks) (h10_0_5 : TStation) : (List TDeed) → Ex × St := fun x => (.exit 0, stOf [(1, (.imm z10_0 (.sl kDeed) h10_0_0)), (2, (.ptr (4, 0) [])), (7, (.ptr (26, 0) [])), (9, (.ptr (11, 0) [])), (10, (.ref (12, 0) []))] [((4, 0), some ⟨true, kGather, (.imm z10_1), h10_0_3⟩), ((26, 0), some ⟨true, kWorks, (.pair (.pair (.sl (.imm true)) .own) (.imm z10_2)), h10_0_4⟩), ((11, 0), some ⟨true, kStation, (.imm true), h10_0_5⟩), ((12, 0), some ⟨false, (.sl kDeed), .own, x⟩)])
noncomputable def i_FinishDeeds_l10_D (s : St) : Tre (Ex × St) :=
  asImm (.sl kDeed) (s.tmps 1) fun z3 d2 =>
  asPtr (4, 0) [] (s.tmps 2) <|
  asPtr (26, 0) [] (s.tmps 7) <|
  asPtr (11, 0) [] (s.tmps 9) <|
  asRef (12, 0) [] (s.tmps 10) <|
  asImmZ true (.int .i64) (s.tmps 46) fun d9 =>
  asImmZ true (.int .i64) (s.tmps 47) fun d11 =>
  asRoot true kGather (s.roots (4, 0)) fun m13 d14 =>
  asMImm m13 fun z15 =>
  asRoot true kWorks (s.roots (26, 0)) fun m17 d18 =>
  asMPair m17 fun m19 m20 =>
  asM (.pair (.sl (.imm true)) .own) m19 <|
  asMImm m20 fun z21 =>
  asRoot true kStation (s.roots (11, 0)) fun m23 d24 =>
  asM (.imm true) m23 <|
  asRoot false (.sl kDeed) (s.roots (12, 0)) fun m26 d27 =>
  asM .own m26 <|
  .mat (loopF (i_FinishDeeds_l10 d9) (d11, d27)) fun x => .ret (i_FinishDeeds_l10_out z3 z15 z21 d2 d9 d14 d18 d24 x)
noncomputable def i_FinishDeeds_l10_L : LoopI := ⟨([1, 2, 7, 9, 10, 46, 47], [(4, 0), (26, 0), (11, 0), (12, 0)]), ([1, 2, 7, 9, 10], [(4, 0), (26, 0), (11, 0), (12, 0)]), i_FinishDeeds_l10_D⟩
noncomputable def i_FinishDeeds_l22_mk (z22_0 : Bool) (z22_1 : Bool) (z22_2 : Bool) (h22_0_0 : (List TDeed)) (h22_0_1 : Int) (h22_0_2 : Int) (h22_0_4 : TGather) (h22_0_5 : TWorks) : (Int × (List TDeed)) → St := fun x => stOf [(1, (.imm z22_0 (.sl kDeed) h22_0_0)), (2, (.ptr (4, 0) [])), (7, (.ptr (26, 0) [])), (10, (.ref (12, 0) [])), (11, (.imm true (.int .i64) h22_0_1)), (93, (.imm true (.int .i64) h22_0_2)), (94, (.imm true (.int .i64) x.1))] [((4, 0), some ⟨true, kGather, (.imm z22_1), h22_0_4⟩), ((26, 0), some ⟨true, kWorks, (.pair (.pair (.sl (.imm true)) .own) (.imm z22_2)), h22_0_5⟩), ((12, 0), some ⟨false, (.sl kDeed), .own, x.2⟩)]
noncomputable def i_FinishDeeds_l22_out (z22_0 : Bool) (z22_1 : Bool) (z22_2 : Bool) (h22_0_0 : (List TDeed)) (h22_0_1 : Int) (_h22_0_2 : Int) (h22_0_4 : TGather) (h22_0_5 : TWorks) : (List TDeed) → Ex × St := fun x => (.exit 4, stOf [(1, (.imm z22_0 (.sl kDeed) h22_0_0)), (2, (.ptr (4, 0) [])), (7, (.ptr (26, 0) [])), (10, (.ref (12, 0) [])), (11, (.imm true (.int .i64) h22_0_1))] [((4, 0), some ⟨true, kGather, (.imm z22_1), h22_0_4⟩), ((26, 0), some ⟨true, kWorks, (.pair (.pair (.sl (.imm true)) .own) (.imm z22_2)), h22_0_5⟩), ((12, 0), some ⟨false, (.sl kDeed), .own, x⟩)])
noncomputable def i_FinishDeeds_l22_D (s : St) : Tre (Ex × St) :=
  asImm (.sl kDeed) (s.tmps 1) fun z3 d2 =>
  asPtr (4, 0) [] (s.tmps 2) <|
  asPtr (26, 0) [] (s.tmps 7) <|
  asRef (12, 0) [] (s.tmps 10) <|
  asImmZ true (.int .i64) (s.tmps 11) fun d8 =>
  asImmZ true (.int .i64) (s.tmps 93) fun d10 =>
  asImmZ true (.int .i64) (s.tmps 94) fun d12 =>
  asRoot true kGather (s.roots (4, 0)) fun m14 d15 =>
  asMImm m14 fun z16 =>
  asRoot true kWorks (s.roots (26, 0)) fun m18 d19 =>
  asMPair m18 fun m20 m21 =>
  asM (.pair (.sl (.imm true)) .own) m20 <|
  asMImm m21 fun z22 =>
  asRoot false (.sl kDeed) (s.roots (12, 0)) fun m24 d25 =>
  asM .own m24 <|
  .mat (loopF (i_FinishDeeds_l22 d8 d10) (d12, d25)) fun x => .ret (i_FinishDeeds_l22_out z3 z16 z22 d2 d8 d10 d15 d19 x)
noncomputable def i_FinishDeeds_l22_L : LoopI := ⟨([1, 2, 7, 10, 11, 93, 94], [(4, 0), (26, 0), (12, 0)]), ([1, 2, 7, 10, 11], [(4, 0), (26, 0), (12, 0)]), i_FinishDeeds_l22_D⟩
noncomputable def i_FinishDeeds_l16_mk (z16_0 : Bool) (z16_1 : Bool) (z16_2 : Bool) (h16_0_0 : (List TDeed)) (h16_0_2 : TGather) (h16_0_3 : TWorks) : (Int × (List TDeed)) → St := fun x => stOf [(1, (.imm z16_0 (.sl kDeed) h16_0_0)), (2, (.ptr (4, 0) [])), (7, (.ptr (26, 0) [])), (10, (.ref (12, 0) [])), (11, (.imm true (.int .i64) x.1))] [((4, 0), some ⟨true, kGather, (.imm z16_1), h16_0_2⟩), ((26, 0), some ⟨true, kWorks, (.pair (.pair (.sl (.imm true)) .own) (.imm z16_2)), h16_0_3⟩), ((12, 0), some ⟨false, (.sl kDeed), .own, x.2⟩)]
noncomputable def i_FinishDeeds_l16_out (z16_0 : Bool) (_z16_1 : Bool) (_z16_2 : Bool) (h16_0_0 : (List TDeed)) (_h16_0_2 : TGather) (_h16_0_3 : TWorks) : (List TDeed) → Ex × St := fun x => (.exit 2, stOf [(1, (.imm z16_0 (.sl kDeed) h16_0_0)), (10, (.ref (12, 0) []))] [((12, 0), some ⟨false, (.sl kDeed), .own, x⟩)])
noncomputable def i_FinishDeeds_l16_D (s : St) : Tre (Ex × St) :=
  asImm (.sl kDeed) (s.tmps 1) fun z3 d2 =>
  asPtr (4, 0) [] (s.tmps 2) <|
  asPtr (26, 0) [] (s.tmps 7) <|
  asRef (12, 0) [] (s.tmps 10) <|
  asImmZ true (.int .i64) (s.tmps 11) fun d8 =>
  asRoot true kGather (s.roots (4, 0)) fun m10 d11 =>
  asMImm m10 fun z12 =>
  asRoot true kWorks (s.roots (26, 0)) fun m14 d15 =>
  asMPair m14 fun m16 m17 =>
  asM (.pair (.sl (.imm true)) .own) m16 <|
  asMImm m17 fun z18 =>
  asRoot false (.sl kDeed) (s.roots (12, 0)) fun m20 d21 =>
  asM .own m20 <|
  .mat (loopF (i_FinishDeeds_l16 d11 d15) (d8, d21)) fun x => .ret (i_FinishDeeds_l16_out z3 z12 z18 d2 d11 d15 x)
noncomputable def i_FinishDeeds_l16_L : LoopI := ⟨([1, 2, 7, 10, 11], [(4, 0), (26, 0), (12, 0)]), ([1, 10], [(12, 0)]), i_FinishDeeds_l16_D⟩
noncomputable def i_FinishDeeds_A : List (Nat × LoopI) := [(10, i_FinishDeeds_l10_L), (22, i_FinishDeeds_l22_L), (16, i_FinishDeeds_l16_L)]
set_option maxRecDepth 100000 in
theorem i_FinishDeeds_l10_step : ∀ (z10_0 : Bool) (z10_1 : Bool) (z10_2 : Bool) (h10_0_0 : (List TDeed)) (h10_0_1 : Int) (h10_0_3 : TGather) (h10_0_4 : TWorks) (h10_0_5 : TStation) (x : (Int × (List TDeed))) (c : St → Option (Ex × St)), den i_FinishDeeds_V i_FinishDeeds_A (loopAt i_FinishDeeds_b 0) (i_FinishDeeds_l10_mk z10_0 z10_1 z10_2 h10_0_0 h10_0_1 h10_0_3 h10_0_4 h10_0_5 x) (roundK i_FinishDeeds_l10_L.kp i_FinishDeeds_l10_L.kx c) = (i_FinishDeeds_l10 h10_0_1 x).run (roundR (i_FinishDeeds_l10_mk z10_0 z10_1 z10_2 h10_0_0 h10_0_1 h10_0_3 h10_0_4 h10_0_5) (i_FinishDeeds_l10_out z10_0 z10_1 z10_2 h10_0_0 h10_0_1 h10_0_3 h10_0_4 h10_0_5) c) := fun _ _ _ _ _ _ _ _ _ _ => by
  kernel_rfl
theorem i_FinishDeeds_l10_ok : LoopOK i_FinishDeeds_V i_FinishDeeds_A (loopAt i_FinishDeeds_b 0) i_FinishDeeds_l10_L := loopOK_of fun s e s' h => by
  generalize hs : restrict i_FinishDeeds_l10_L.kp s = s1 at h
  have h : (i_FinishDeeds_l10_D s1).run some = some (e, s') := h
  obtain ⟨z3, d2, e1, h_0⟩ := asImm_spec h
  obtain ⟨e4, h_1⟩ := asPtr_spec h_0
  obtain ⟨e5, h_2⟩ := asPtr_spec h_1
  obtain ⟨e6, h_3⟩ := asPtr_spec h_2
  obtain ⟨e7, h_4⟩ := asRef_spec h_3
  obtain ⟨d9, e8, h_5⟩ := asImmZ_spec h_4
  obtain ⟨d11, e10, h_6⟩ := asImmZ_spec h_5
  obtain ⟨m13, d14, e12, h_7⟩ := asRoot_spec h_6
  obtain ⟨z15, rfl, h_8⟩ := asMImm_spec h_7
  obtain ⟨m17, d18, e16, h_9⟩ := asRoot_spec h_8
  obtain ⟨m19, m20, rfl, h_10⟩ := asMPair_spec h_9
  obtain ⟨rfl, h_11⟩ := asM_spec h_10
  obtain ⟨z21, rfl, h_12⟩ := asMImm_spec h_11
  obtain ⟨m23, d24, e22, h_13⟩ := asRoot_spec h_12
  obtain ⟨rfl, h_14⟩ := asM_spec h_13
  obtain ⟨m26, d27, e25, h_15⟩ := asRoot_spec h_14
  obtain ⟨rfl, h_16⟩ := asM_spec h_15
  obtain ⟨y, hy, hz⟩ := mat_ret h_16
  refine ⟨_, _, i_FinishDeeds_l10_mk z3 z15 z21 d2 d9 d14 d18 d24, i_FinishDeeds_l10_out z3 z15 z21 d2 d9 d14 d18 d24, i_FinishDeeds_l10 d9, (d11, d27), y, ?_, hy, ?_, i_FinishDeeds_l10_step z3 z15 z21 d2 d9 d14 d18 d24⟩
  · subst hs; exact restrict_eq (T := [(1, (.imm z3 (.sl kDeed) d2)), (2, (.ptr (4, 0) [])), (7, (.ptr (26, 0) [])), (9, (.ptr (11, 0) [])), (10, (.ref (12, 0) [])), (46, (.imm true (.int .i64) d9)), (47, (.imm true (.int .i64) d11))]) (U := [((4, 0), some ⟨true, kGather, (.imm z15), d14⟩), ((26, 0), some ⟨true, kWorks, (.pair (.pair (.sl (.imm true)) .own) (.imm z21)), d18⟩), ((11, 0), some ⟨true, kStation, (.imm true), d24⟩), ((12, 0), some ⟨false, (.sl kDeed), .own, d27⟩)]) rfl rfl ⟨e1, e4, e5, e6, e7, e8, e10, trivial⟩ ⟨e12, e16, e22, e25, trivial⟩
  · exact Option.some.inj hz
set_option maxRecDepth 100000 in
theorem i_FinishDeeds_l22_step : ∀ (z22_0 : Bool) (z22_1 : Bool) (z22_2 : Bool) (h22_0_0 : (List TDeed)) (h22_0_1 : Int) (h22_0_2 : Int) (h22_0_4 : TGather) (h22_0_5 : TWorks) (x : (Int × (List TDeed))) (c : St → Option (Ex × St)), den i_FinishDeeds_V i_FinishDeeds_A (loopAt i_FinishDeeds_b 2) (i_FinishDeeds_l22_mk z22_0 z22_1 z22_2 h22_0_0 h22_0_1 h22_0_2 h22_0_4 h22_0_5 x) (roundK i_FinishDeeds_l22_L.kp i_FinishDeeds_l22_L.kx c) = (i_FinishDeeds_l22 h22_0_1 h22_0_2 x).run (roundR (i_FinishDeeds_l22_mk z22_0 z22_1 z22_2 h22_0_0 h22_0_1 h22_0_2 h22_0_4 h22_0_5) (i_FinishDeeds_l22_out z22_0 z22_1 z22_2 h22_0_0 h22_0_1 h22_0_2 h22_0_4 h22_0_5) c) := fun _ _ _ _ _ _ _ _ _ _ => by
  kernel_rfl
theorem i_FinishDeeds_l22_ok : LoopOK i_FinishDeeds_V i_FinishDeeds_A (loopAt i_FinishDeeds_b 2) i_FinishDeeds_l22_L := loopOK_of fun s e s' h => by
  generalize hs : restrict i_FinishDeeds_l22_L.kp s = s1 at h
  have h : (i_FinishDeeds_l22_D s1).run some = some (e, s') := h
  obtain ⟨z3, d2, e1, h_0⟩ := asImm_spec h
  obtain ⟨e4, h_1⟩ := asPtr_spec h_0
  obtain ⟨e5, h_2⟩ := asPtr_spec h_1
  obtain ⟨e6, h_3⟩ := asRef_spec h_2
  obtain ⟨d8, e7, h_4⟩ := asImmZ_spec h_3
  obtain ⟨d10, e9, h_5⟩ := asImmZ_spec h_4
  obtain ⟨d12, e11, h_6⟩ := asImmZ_spec h_5
  obtain ⟨m14, d15, e13, h_7⟩ := asRoot_spec h_6
  obtain ⟨z16, rfl, h_8⟩ := asMImm_spec h_7
  obtain ⟨m18, d19, e17, h_9⟩ := asRoot_spec h_8
  obtain ⟨m20, m21, rfl, h_10⟩ := asMPair_spec h_9
  obtain ⟨rfl, h_11⟩ := asM_spec h_10
  obtain ⟨z22, rfl, h_12⟩ := asMImm_spec h_11
  obtain ⟨m24, d25, e23, h_13⟩ := asRoot_spec h_12
  obtain ⟨rfl, h_14⟩ := asM_spec h_13
  obtain ⟨y, hy, hz⟩ := mat_ret h_14
  refine ⟨_, _, i_FinishDeeds_l22_mk z3 z16 z22 d2 d8 d10 d15 d19, i_FinishDeeds_l22_out z3 z16 z22 d2 d8 d10 d15 d19, i_FinishDeeds_l22 d8 d10, (d12, d25), y, ?_, hy, ?_, i_FinishDeeds_l22_step z3 z16 z22 d2 d8 d10 d15 d19⟩
  · subst hs; exact restrict_eq (T := [(1, (.imm z3 (.sl kDeed) d2)), (2, (.ptr (4, 0) [])), (7, (.ptr (26, 0) [])), (10, (.ref (12, 0) [])), (11, (.imm true (.int .i64) d8)), (93, (.imm true (.int .i64) d10)), (94, (.imm true (.int .i64) d12))]) (U := [((4, 0), some ⟨true, kGather, (.imm z16), d15⟩), ((26, 0), some ⟨true, kWorks, (.pair (.pair (.sl (.imm true)) .own) (.imm z22)), d19⟩), ((12, 0), some ⟨false, (.sl kDeed), .own, d25⟩)]) rfl rfl ⟨e1, e4, e5, e6, e7, e9, e11, trivial⟩ ⟨e13, e17, e23, trivial⟩
  · exact Option.some.inj hz
set_option maxRecDepth 100000 in
theorem i_FinishDeeds_l16_step : ∀ (z16_0 : Bool) (z16_1 : Bool) (z16_2 : Bool) (h16_0_0 : (List TDeed)) (h16_0_2 : TGather) (h16_0_3 : TWorks) (x : (Int × (List TDeed))) (c : St → Option (Ex × St)), den i_FinishDeeds_V i_FinishDeeds_A (loopAt i_FinishDeeds_b 1) (i_FinishDeeds_l16_mk z16_0 z16_1 z16_2 h16_0_0 h16_0_2 h16_0_3 x) (roundK i_FinishDeeds_l16_L.kp i_FinishDeeds_l16_L.kx c) = (i_FinishDeeds_l16 h16_0_2 h16_0_3 x).run (roundR (i_FinishDeeds_l16_mk z16_0 z16_1 z16_2 h16_0_0 h16_0_2 h16_0_3) (i_FinishDeeds_l16_out z16_0 z16_1 z16_2 h16_0_0 h16_0_2 h16_0_3) c) := fun _ _ _ _ _ _ _ _ => by
  kernel_rfl
theorem i_FinishDeeds_l16_ok : LoopOK i_FinishDeeds_V i_FinishDeeds_A (loopAt i_FinishDeeds_b 1) i_FinishDeeds_l16_L := loopOK_of fun s e s' h => by
  generalize hs : restrict i_FinishDeeds_l16_L.kp s = s1 at h
  have h : (i_FinishDeeds_l16_D s1).run some = some (e, s') := h
  obtain ⟨z3, d2, e1, h_0⟩ := asImm_spec h
  obtain ⟨e4, h_1⟩ := asPtr_spec h_0
  obtain ⟨e5, h_2⟩ := asPtr_spec h_1
  obtain ⟨e6, h_3⟩ := asRef_spec h_2
  obtain ⟨d8, e7, h_4⟩ := asImmZ_spec h_3
  obtain ⟨m10, d11, e9, h_5⟩ := asRoot_spec h_4
  obtain ⟨z12, rfl, h_6⟩ := asMImm_spec h_5
  obtain ⟨m14, d15, e13, h_7⟩ := asRoot_spec h_6
  obtain ⟨m16, m17, rfl, h_8⟩ := asMPair_spec h_7
  obtain ⟨rfl, h_9⟩ := asM_spec h_8
  obtain ⟨z18, rfl, h_10⟩ := asMImm_spec h_9
  obtain ⟨m20, d21, e19, h_11⟩ := asRoot_spec h_10
  obtain ⟨rfl, h_12⟩ := asM_spec h_11
  obtain ⟨y, hy, hz⟩ := mat_ret h_12
  refine ⟨_, _, i_FinishDeeds_l16_mk z3 z12 z18 d2 d11 d15, i_FinishDeeds_l16_out z3 z12 z18 d2 d11 d15, i_FinishDeeds_l16 d11 d15, (d8, d21), y, ?_, hy, ?_, i_FinishDeeds_l16_step z3 z12 z18 d2 d11 d15⟩
  · subst hs; exact restrict_eq (T := [(1, (.imm z3 (.sl kDeed) d2)), (2, (.ptr (4, 0) [])), (7, (.ptr (26, 0) [])), (10, (.ref (12, 0) [])), (11, (.imm true (.int .i64) d8))]) (U := [((4, 0), some ⟨true, kGather, (.imm z12), d11⟩), ((26, 0), some ⟨true, kWorks, (.pair (.pair (.sl (.imm true)) .own) (.imm z18)), d15⟩), ((12, 0), some ⟨false, (.sl kDeed), .own, d21⟩)]) rfl rfl ⟨e1, e4, e5, e6, e7, trivial⟩ ⟨e9, e13, e19, trivial⟩
  · exact Option.some.inj hz
noncomputable def i_FinishDeeds_I : FnI := ⟨i_FinishDeeds_b, Try.f32.results.toList, Try.f32.resultTypes.toList, i_FinishDeeds_A⟩
noncomputable def i_FinishDeeds_out (_zp0 : Bool) (_zp1 : Bool) (_p0 : TGather) (_p1 : (List TDeed)) : (Int × (List TDeed)) → CallOut := fun r => ⟨(.tcons (.ref (1, 0) []) (.tcons (.imm true (.int .i64) r.1) .tnil)), [], [⟨false, (.sl kDeed), .own, r.2⟩]⟩
set_option maxRecDepth 100000 in
theorem i_FinishDeeds_eq : ∀ (zp0 : Bool) (zp1 : Bool) (p0 : TGather) (p1 : (List TDeed)), denFn i_FinishDeeds_V i_FinishDeeds_I ⟨[(.imm zp0 kGather p0), (.imm zp1 (.sl kDeed) p1)], []⟩ = (i_FinishDeeds p0 p1).run fun r => some (i_FinishDeeds_out zp0 zp1 p0 p1 r) := fun _ _ _ _ => by kernel_rfl
noncomputable def i_FinishDeeds_G (av : List AV) (rs : List Root) : Tre CallOut :=
  asCons av fun a0_ av0 =>
  asCons av0 fun a1_ av1 =>
  asEnd av1 <|
  asEnd rs <|
  asImm kGather a0_ fun z2 d1 =>
  asImm (.sl kDeed) a1_ fun z4 d3 =>
  .mat (finR d1 d3) fun r => .ret (i_FinishDeeds_out z2 z4 d1 d3 r)
noncomputable def i_FinishDeeds_c : Ctr := ⟨[], fun ci => i_FinishDeeds_G ci.args ci.roots⟩
theorem i_FinishDeeds_env : EnvOK Try.prog i_FinishDeeds_V := (envOK_cons i_deedsCode_ok ent73 (envOK_cons i_after_ok ent74 (envOK_cons i_size_int64_ok ent53 (envOK_cons i_Gather_stations_ok ent75 (envOK_cons i_works_data_40d4_ok ent76 (envOK_cons slices_Equal_int64_ok ent77 envOK_nil))))))
set_option maxRecDepth 100000 in
theorem i_FinishDeeds_ok : Contract Try.prog 32 i_FinishDeeds_c := by
  have hl : LoopsOK i_FinishDeeds_V i_FinishDeeds_A i_FinishDeeds_b := (loopsOK_all (n := 3) (by kernel_rfl) fun k hk => by
      match k, hk with
      | 0, _ => exact loopOK_at (id := 10) (L := i_FinishDeeds_l10_L) (by kernel_rfl) (by kernel_rfl) i_FinishDeeds_l10_ok
      | 1, _ => exact loopOK_at (id := 16) (L := i_FinishDeeds_l16_L) (by kernel_rfl) (by kernel_rfl) i_FinishDeeds_l16_ok
      | 2, _ => exact loopOK_at (id := 22) (L := i_FinishDeeds_l22_L) (by kernel_rfl) (by kernel_rfl) i_FinishDeeds_l22_ok)
  refine (contract_of (F := i_FinishDeeds_I) tau_tys i_FinishDeeds_env Try.func32 (by kernel_rfl) (by kernel_rfl) (by kernel_rfl) hl []).weaken ?_
  rintro ⟨av, rs⟩ co h
  have h : (i_FinishDeeds_G av rs).run some = some co := h
  obtain ⟨a0_, av0, rfl, h_0⟩ := asCons_spec h
  obtain ⟨a1_, av1, rfl, h_1⟩ := asCons_spec h_0
  obtain ⟨rfl, h_2⟩ := asEnd_spec h_1
  obtain ⟨rfl, h_3⟩ := asEnd_spec h_2
  obtain ⟨z2, d1, rfl, h_4⟩ := asImm_spec h_3
  obtain ⟨z4, d3, rfl, h_5⟩ := asImm_spec h_4
  exact fin_opt (i_FinishDeeds_eq z2 z4 d1 d3) (i_FinishDeeds_spec d1 d3) h_5
end Go.Proofs.Ytkgekgfmnhccmaa

namespace Go.Proofs.Ytkgekgfmnhccmaa
open Go Go.Abs Go.Proofs
noncomputable def slices_Clone_Parcel_b930 : Tre (List (Int × (Int × Unit))) :=
  .ret []
noncomputable def slices_Clone_Parcel_b930_F : Option (List (Int × (Int × Unit))) := (slices_Clone_Parcel_b930).run some
theorem slices_Clone_Parcel_b930_spec : slices_Clone_Parcel_b930_F = some [] := rfl
noncomputable def slices_Clone_Parcel_b930_V : Env := ⟨tau, [], []⟩
noncomputable def slices_Clone_Parcel_b930_b : Code := (Try.f83.body).getD .skip
noncomputable def slices_Clone_Parcel_b930_I : FnI := ⟨slices_Clone_Parcel_b930_b, Try.f83.results.toList, Try.f83.resultTypes.toList, []⟩
noncomputable def slices_Clone_Parcel_b930_out : (List (Int × (Int × Unit))) → CallOut := fun r => ⟨(.ref (1, 0) []), [], [⟨false, (.sl kField), .own, r⟩]⟩
set_option maxRecDepth 100000 in
theorem slices_Clone_Parcel_b930_eq : denFn slices_Clone_Parcel_b930_V slices_Clone_Parcel_b930_I ⟨[.nil], []⟩ = (slices_Clone_Parcel_b930).run fun r => some (slices_Clone_Parcel_b930_out r) := by kernel_rfl
noncomputable def slices_Clone_Parcel_b930_G (av : List AV) (rs : List Root) : Tre CallOut :=
  asCons av fun a0_ av0 =>
  asEnd av0 <|
  asEnd rs <|
  asNil a0_ <|
  .ret (slices_Clone_Parcel_b930_out [])
noncomputable def slices_Clone_Parcel_b930_c : Ctr := ⟨[], fun ci => slices_Clone_Parcel_b930_G ci.args ci.roots⟩
theorem slices_Clone_Parcel_b930_env : EnvOK Try.prog slices_Clone_Parcel_b930_V := envOK_nil
set_option maxRecDepth 100000 in
theorem slices_Clone_Parcel_b930_ok : Contract Try.prog 83 slices_Clone_Parcel_b930_c := by
  have hl : LoopsOK slices_Clone_Parcel_b930_V [] slices_Clone_Parcel_b930_b := loopsOK_nil (by kernel_rfl)
  refine (contract_of (F := slices_Clone_Parcel_b930_I) tau_tys slices_Clone_Parcel_b930_env Try.func83 (by kernel_rfl) (by kernel_rfl) (by kernel_rfl) hl []).weaken ?_
  rintro ⟨av, rs⟩ co h
  have h : (slices_Clone_Parcel_b930_G av rs).run some = some co := h
  obtain ⟨a0_, av0, rfl, h_0⟩ := asCons_spec h
  obtain ⟨rfl, h_1⟩ := asEnd_spec h_0
  obtain ⟨rfl, h_2⟩ := asEnd_spec h_1
  obtain ⟨rfl, h_3⟩ := asNil_spec h_2
  exact fin_ret (slices_Clone_Parcel_b930_eq) (slices_Clone_Parcel_b930_spec) h_3
end Go.Proofs.Ytkgekgfmnhccmaa

namespace Go.Proofs.Ytkgekgfmnhccmaa
open Go Go.Abs Go.Proofs
noncomputable def slices_Clone_Parcel_3ae6 (p0 : (List (Int × (Int × Unit)))) : Tre (List (Int × (Int × Unit))) :=
  .ite ((0 + p0.length) * 16 ≤ appendMax ∧ 1 ≤ 16) <|
  .ret ([] ++ p0)
noncomputable def slices_Clone_Parcel_3ae6_F (p0 : (List (Int × (Int × Unit)))) : Option (List (Int × (Int × Unit))) := (slices_Clone_Parcel_3ae6 p0).run some
theorem slices_Clone_Parcel_3ae6_spec (p0 : (List (Int × (Int × Unit)))) (y : (List (Int × (Int × Unit)))) (h : cloneR p0 = some y) : slices_Clone_Parcel_3ae6_F p0 = some y := by
  obtain ⟨hl, rfl⟩ := lim_some h
  have hb : (0 + p0.length) * 16 ≤ appendMax ∧ 1 ≤ 16 := by unfold appendMax; omega
  unfold slices_Clone_Parcel_3ae6_F slices_Clone_Parcel_3ae6
  rw [Tre.run_ite, if_pos hb]
  rfl
noncomputable def slices_Clone_Parcel_3ae6_V : Env := ⟨tau, [], []⟩
noncomputable def slices_Clone_Parcel_3ae6_b : Code := (Try.f83.body).getD .skip
noncomputable def slices_Clone_Parcel_3ae6_I : FnI := ⟨slices_Clone_Parcel_3ae6_b, Try.f83.results.toList, Try.f83.resultTypes.toList, []⟩
noncomputable def slices_Clone_Parcel_3ae6_out (_zp0 : Bool) (_p0 : (List (Int × (Int × Unit)))) : (List (Int × (Int × Unit))) → CallOut := fun r => ⟨(.ref (1, 0) []), [], [⟨false, (.sl kField), .own, r⟩]⟩
set_option maxRecDepth 100000 in
theorem slices_Clone_Parcel_3ae6_eq : ∀ (zp0 : Bool) (p0 : (List (Int × (Int × Unit)))), denFn slices_Clone_Parcel_3ae6_V slices_Clone_Parcel_3ae6_I ⟨[(.nn zp0 kField p0)], []⟩ = (slices_Clone_Parcel_3ae6 p0).run fun r => some (slices_Clone_Parcel_3ae6_out zp0 p0 r) := fun _ _ => by kernel_rfl
noncomputable def slices_Clone_Parcel_3ae6_G (av : List AV) (rs : List Root) : Tre CallOut :=
  asCons av fun a0_ av0 =>
  asEnd av0 <|
  asEnd rs <|
  asNn kField a0_ fun z1 d2 =>
  .mat (cloneR d2) fun r => .ret (slices_Clone_Parcel_3ae6_out z1 d2 r)
noncomputable def slices_Clone_Parcel_3ae6_c : Ctr := ⟨[], fun ci => slices_Clone_Parcel_3ae6_G ci.args ci.roots⟩
theorem slices_Clone_Parcel_3ae6_env : EnvOK Try.prog slices_Clone_Parcel_3ae6_V := envOK_nil
set_option maxRecDepth 100000 in
theorem slices_Clone_Parcel_3ae6_ok : Contract Try.prog 83 slices_Clone_Parcel_3ae6_c := by
  have hl : LoopsOK slices_Clone_Parcel_3ae6_V [] slices_Clone_Parcel_3ae6_b := loopsOK_nil (by kernel_rfl)
  refine (contract_of (F := slices_Clone_Parcel_3ae6_I) tau_tys slices_Clone_Parcel_3ae6_env Try.func83 (by kernel_rfl) (by kernel_rfl) (by kernel_rfl) hl []).weaken ?_
  rintro ⟨av, rs⟩ co h
  have h : (slices_Clone_Parcel_3ae6_G av rs).run some = some co := h
  obtain ⟨a0_, av0, rfl, h_0⟩ := asCons_spec h
  obtain ⟨rfl, h_1⟩ := asEnd_spec h_0
  obtain ⟨rfl, h_2⟩ := asEnd_spec h_1
  obtain ⟨z1, d2, rfl, h_3⟩ := asNn_spec h_2
  exact fin_opt (slices_Clone_Parcel_3ae6_eq z1 d2) (slices_Clone_Parcel_3ae6_spec d2) h_3
end Go.Proofs.Ytkgekgfmnhccmaa

namespace Go.Proofs.Ytkgekgfmnhccmaa
open Go Go.Abs Go.Proofs
theorem slices_Clone_Parcel_nil (y : (List (Int × (Int × Unit)))) (h : cloneR ([] : (List (Int × (Int × Unit)))) = some y) : y = [] := (lim_some h).2.symm
noncomputable def slices_Clone_Parcel_G (av : List AV) (rs : List Root) : Tre CallOut :=
  asCons av fun a0_ av0 =>
  asEnd av0 <|
  asEnd rs <|
  asImm (.sl kField) a0_ fun z2 d1 =>
  .mat (cloneR d1) fun r => .ret ⟨(.ref (1, 0) []), [], [⟨false, (.sl kField), .own, r⟩]⟩
noncomputable def slices_Clone_Parcel_c : Ctr := ⟨[], fun ci => slices_Clone_Parcel_G ci.args ci.roots⟩
theorem slices_Clone_Parcel_ok : Contract Try.prog 83 slices_Clone_Parcel_c := by
  refine contract_nil (e := kField) slices_Clone_Parcel_b930_ok slices_Clone_Parcel_3ae6_ok ?_
  rintro ⟨av, rs⟩ co h
  have h : (slices_Clone_Parcel_G av rs).run some = some co := h
  obtain ⟨a0_, av0, rfl, h_0⟩ := asCons_spec h
  obtain ⟨rfl, h_1⟩ := asEnd_spec h_0
  obtain ⟨rfl, h_2⟩ := asEnd_spec h_1
  obtain ⟨z2, d1, rfl, h_3⟩ := asImm_spec h_2
  refine ⟨z2, d1, rfl, ?_, ?_⟩
  · exact h_3
  · rintro rfl
    obtain ⟨y, h1, h2⟩ := mat_ret h_3
    have hy : y = [] := by
      have := slices_Clone_Parcel_nil y h1
      exact this
    subst hy
    rw [← h2]; rfl
end Go.Proofs.Ytkgekgfmnhccmaa

namespace Go.Proofs.Ytkgekgfmnhccmaa
open Go Go.Abs Go.Proofs
noncomputable def i_PlantAfter_l7 (h7_0_1 : Int) (h7_0_5 : TWorks) : (Int × TPlant) → Tre ((Int × TPlant) ⊕ TPlant) := fun s7 =>
  .cond (decide (s7.1 < h7_0_1))
    (.ite (0 ≤ s7.1 ∧ s7.1 < (h7_0_5.1.1.length : Int)) <|
    .mat (h7_0_5.1.1[s7.1.toNat]?) fun x4 =>
    .mat (cloneR x4.1) fun r5 =>
    .mat (cloneR x4.2.1) fun r6 =>
    .ite ((s7.2.1.length + 1) * 48 ≤ appendMax ∧ 1 ≤ 48) <|
    let v7 := s7.2.1 ++ ([(r5, (r6, ()))])
    .ret (.inl (iwrap .i64 (s7.1 + 1), (v7, s7.2.2))))
    (.ret (.inr s7.2))
noncomputable def i_PlantAfter (p0 : TGather) (p1 : (List TDeed)) : Tre (Int × Int × (List TStation) × (List (Int × (Int × Unit)))) :=
  .mat (codeR p0 p1 0) fun r1 =>
  .cond (!decide (r1 = 0))
    (.ret (0, r1, [], []))
    (.mat (afterR p0 p1) fun r2 =>
    .mat (cloneR r2.2.1.2.1) fun r3 =>
    .mat (loopF (i_PlantAfter_l7 (r2.2.1.1.length : Int) r2.2) (0, ([], (r3, ())))) fun l8 =>
    .ret (r2.1, 0, l8.1, l8.2.1))
noncomputable def i_PlantAfter_F (p0 : TGather) (p1 : (List TDeed)) : Option (Int × Int × (List TStation) × (List (Int × (Int × Unit)))) := (i_PlantAfter p0 p1).run some
noncomputable def plantM (g : G8) (ds : List D8) : Int × Int × List (List Int × List Int × Unit) × List (Int × Int × Unit) :=
  cond (decide (askedM ds g = 0)) ((zerosN (runM g ds (beginM g)).2 : Int), 0, (afterM g ds).1, (afterM g ds).2.1) (0, askedM ds g, [], [])
noncomputable def plantR (g : G8) (ds : List D8) : Option (Int × Int × List (List Int × List Int × Unit) × List (Int × Int × Unit)) := askO (decide (g.2.2.1.length ≤ 1048576) && decide (ds.length ≤ 1048576)) (plantM g ds)
theorem plant_copy {p : P8 × (G8 × Unit)} {k : Nat} {g : G8} (hp : okP k g p.1 = true) (hk : k ≤ 1048576) (hn : p.1.1.length ≤ 1000) (w : List (Int × Int × Unit) × Unit) : loopF (i_PlantAfter_l7 (p.1.1.length : Int) p) (0, ([], w)) = some (p.1.1, w) := by
  have := fold_loop (xs := p.1.1) (step := i_PlantAfter_l7 (p.1.1.length : Int) p) (fun i acc => ((i : Int), acc)) (fun (_ : Nat) acc x => .inl (acc.1 ++ [x], acc.2)) id (fun i acc => acc.1.length = i) (by
    rintro i ⟨l, w⟩ ⟨x1, x2, ⟨⟩⟩ hx hI
    have hi : i < p.1.1.length := (List.getElem?_eq_some_iff.1 hx).1
    have hm := (okP_spec hp).2.1 _ (List.mem_of_getElem? hx)
    have h1 := (okS_spec.1 hm.1).1
    have h2 := (okS_spec.1 hm.2).1
    simp only at h1 h2 hI
    refine ⟨?_, fun a ha => by cases ha; simp [hI]⟩
    unfold i_PlantAfter_l7
    rw [run_inb hx, run_some_mat (show cloneR x1 = some x1 from lim_of (by omega)), run_some_mat (show cloneR x2 = some x2 from lim_of (by omega)), Tre.run_ite, if_pos (by simp only; unfold appendMax; omega), Tre.run_ret, iwrap_succ (by omega)])
    (by
    intro acc _
    unfold i_PlantAfter_l7
    exact run_out) p.1.1 0 ([], w) rfl (Nat.zero_le _) rfl
  have hf : ∀ (l : List (List Int × List Int × Unit)) (i : Nat) (acc : List (List Int × List Int × Unit) × (List (Int × Int × Unit) × Unit)), foldE (β := List (List Int × List Int × Unit) × (List (Int × Int × Unit) × Unit)) (fun (_ : Nat) acc x => .inl (acc.1 ++ [x], acc.2)) id i acc l = (acc.1 ++ l, acc.2) := by
    intro l
    induction l with
    | nil => intro i acc; simp [foldE]
    | cons x l ih => intro i acc; simp only [foldE]; rw [ih]; simp
  rw [hf] at this
  exact this
theorem i_PlantAfter_spec (p0 : G8) (p1 : List D8) (y : Int × Int × List (List Int × List Int × Unit) × List (Int × Int × Unit)) (h : plantR p0 p1 = some y) : i_PlantAfter_F p0 p1 = some y := by
  obtain ⟨hok, rfl⟩ := askO_some h
  unfold i_PlantAfter_F i_PlantAfter plantM
  rw [run_some_mat (show codeR p0 p1 0 = some _ from askO_true hok), Tre.run_cond, codeM_zero]
  by_cases h0 : askedM p1 p0 = 0
  · obtain ⟨hg, hd, hl⟩ := askedM_zero h0
    have hb := isG_spec hg
    have hP := afterM_ok hg hd hl
    obtain ⟨q1, q2, q3, q4⟩ := okP_spec hP
    have hst : statG p0 = 1 + p0.2.2.2.1 + p0.2.2.2.2.1 := rfl
    rw [decide_eq_true h0, Bool.not_true, cond_false, cond_true, run_some_mat (show afterR p0 p1 = some _ from askO_true (by rw [Bool.and_eq_true, Bool.and_eq_true, decide_eq_true_eq]; exact ⟨⟨hg, hd⟩, hl⟩))]
    dsimp only
    rw [run_some_mat (show cloneR (afterM p0 p1).2.1 = some _ from lim_of (by omega)), run_some_mat (plant_copy (p := (afterM p0 p1, (p0, ()))) hP (by omega) (by show (afterM p0 p1).1.length ≤ 1000; omega) _)]
    rfl
  · rw [decide_eq_false h0]; rfl
noncomputable def i_PlantAfter_V : Env := ⟨tau, [(73, i_deedsCode_c), (74, i_after_c), (83, slices_Clone_Parcel_c), (57, slices_Clone_int64_c)], [(6, [((25, 0), [.fst, .fst], true)])]⟩
noncomputable def i_PlantAfter_b : Code := (Try.f34.body).getD .skip
noncomputable def i_PlantAfter_l7_mk (z7_0 : Bool) (h7_0_0 : Int) (h7_0_1 : Int) (h7_0_3 : TPlant) (h7_0_5 : TWorks) : (Int × TPlant) → St := fun x => stOf [(4, (.ptr (6, 0) [])), (9, (.imm true (.int .i64) h7_0_0)), (10, (.ptr (12, 0) [])), (37, (.ref (25, 0) [.fst, .fst])), (38, (.imm true (.int .i64) h7_0_1)), (39, (.imm true (.int .i64) x.1))] [((6, 0), some ⟨true, kPlant, .own, h7_0_3⟩), ((12, 0), some ⟨true, kPlant, .own, x.2⟩), ((25, 0), some ⟨true, kWorks, (.pair (.pair (.sl (.imm true)) .own) (.imm z7_0)), h7_0_5⟩)]
noncomputable def i_PlantAfter_l7_out (_z7_0 : Bool) (h7_0_0 : Int) (_h7_0_1 : Int) (h7_0_3 : TPlant) (_h7_0_5 : TWorks) : TPlant → Ex × St := fun x => (.exit 0, stOf [(4, (.ptr (6, 0) [])), (9, (.imm true (.int .i64) h7_0_0)), (10, (.ptr (12, 0) []))] [((6, 0), some ⟨true, kPlant, .own, h7_0_3⟩), ((12, 0), some ⟨true, kPlant, .own, x⟩)])
noncomputable def i_PlantAfter_l7_D (s : St) : Tre (Ex × St) :=
  asPtr (6, 0) [] (s.tmps 4) <|
  asImmZ true (.int .i64) (s.tmps 9) fun d3 =>
  asPtr (12, 0) [] (s.tmps 10) <|
  asRef (25, 0) [.fst, .fst] (s.tmps 37) <|
  asImmZ true (.int .i64) (s.tmps 38) fun d7 =>
  asImmZ true (.int .i64) (s.tmps 39) fun d9 =>
  asRoot true kPlant (s.roots (6, 0)) fun m11 d12 =>
  asM .own m11 <|
  asRoot true kPlant (s.roots (12, 0)) fun m14 d15 =>
  asM .own m14 <|
  asRoot true kWorks (s.roots (25, 0)) fun m17 d18 =>
  asMPair m17 fun m19 m20 =>
  asM (.pair (.sl (.imm true)) .own) m19 <|
  asMImm m20 fun z21 =>
  .mat (loopF (i_PlantAfter_l7 d7 d18) (d9, d15)) fun x => .ret (i_PlantAfter_l7_out z21 d3 d7 d12 d18 x)
noncomputable def i_PlantAfter_l7_L : LoopI := ⟨([4, 9, 10, 37, 38, 39], [(6, 0), (12, 0), (25, 0)]), ([4, 9, 10], [(6, 0), (12, 0)]), i_PlantAfter_l7_D⟩
noncomputable def i_PlantAfter_A : List (Nat × LoopI) := [(7, i_PlantAfter_l7_L)]
set_option maxRecDepth 100000 in
theorem i_PlantAfter_l7_step : ∀ (z7_0 : Bool) (h7_0_0 : Int) (h7_0_1 : Int) (h7_0_3 : TPlant) (h7_0_5 : TWorks) (x : (Int × TPlant)) (c : St → Option (Ex × St)), den i_PlantAfter_V i_PlantAfter_A (loopAt i_PlantAfter_b 0) (i_PlantAfter_l7_mk z7_0 h7_0_0 h7_0_1 h7_0_3 h7_0_5 x) (roundK i_PlantAfter_l7_L.kp i_PlantAfter_l7_L.kx c) = (i_PlantAfter_l7 h7_0_1 h7_0_5 x).run (roundR (i_PlantAfter_l7_mk z7_0 h7_0_0 h7_0_1 h7_0_3 h7_0_5) (i_PlantAfter_l7_out z7_0 h7_0_0 h7_0_1 h7_0_3 h7_0_5) c) := fun _ _ _ _ _ _ _ => by
  kernel_rfl
theorem i_PlantAfter_l7_ok : LoopOK i_PlantAfter_V i_PlantAfter_A (loopAt i_PlantAfter_b 0) i_PlantAfter_l7_L := loopOK_of fun s e s' h => by
  generalize hs : restrict i_PlantAfter_l7_L.kp s = s1 at h
  have h : (i_PlantAfter_l7_D s1).run some = some (e, s') := h
  obtain ⟨e1, h_0⟩ := asPtr_spec h
  obtain ⟨d3, e2, h_1⟩ := asImmZ_spec h_0
  obtain ⟨e4, h_2⟩ := asPtr_spec h_1
  obtain ⟨e5, h_3⟩ := asRef_spec h_2
  obtain ⟨d7, e6, h_4⟩ := asImmZ_spec h_3
  obtain ⟨d9, e8, h_5⟩ := asImmZ_spec h_4
  obtain ⟨m11, d12, e10, h_6⟩ := asRoot_spec h_5
  obtain ⟨rfl, h_7⟩ := asM_spec h_6
  obtain ⟨m14, d15, e13, h_8⟩ := asRoot_spec h_7
  obtain ⟨rfl, h_9⟩ := asM_spec h_8
  obtain ⟨m17, d18, e16, h_10⟩ := asRoot_spec h_9
  obtain ⟨m19, m20, rfl, h_11⟩ := asMPair_spec h_10
  obtain ⟨rfl, h_12⟩ := asM_spec h_11
  obtain ⟨z21, rfl, h_13⟩ := asMImm_spec h_12
  obtain ⟨y, hy, hz⟩ := mat_ret h_13
  refine ⟨_, _, i_PlantAfter_l7_mk z21 d3 d7 d12 d18, i_PlantAfter_l7_out z21 d3 d7 d12 d18, i_PlantAfter_l7 d7 d18, (d9, d15), y, ?_, hy, ?_, i_PlantAfter_l7_step z21 d3 d7 d12 d18⟩
  · subst hs; exact restrict_eq (T := [(4, (.ptr (6, 0) [])), (9, (.imm true (.int .i64) d3)), (10, (.ptr (12, 0) [])), (37, (.ref (25, 0) [.fst, .fst])), (38, (.imm true (.int .i64) d7)), (39, (.imm true (.int .i64) d9))]) (U := [((6, 0), some ⟨true, kPlant, .own, d12⟩), ((12, 0), some ⟨true, kPlant, .own, d15⟩), ((25, 0), some ⟨true, kWorks, (.pair (.pair (.sl (.imm true)) .own) (.imm z21)), d18⟩)]) rfl rfl ⟨e1, e2, e4, e5, e6, e8, trivial⟩ ⟨e10, e13, e16, trivial⟩
  · exact Option.some.inj hz
noncomputable def i_PlantAfter_I : FnI := ⟨i_PlantAfter_b, Try.f34.results.toList, Try.f34.resultTypes.toList, i_PlantAfter_A⟩
noncomputable def i_PlantAfter_out (_zp0 : Bool) (_zp1 : Bool) (_p0 : TGather) (_p1 : (List TDeed)) : (Int × Int × (List TStation) × (List (Int × (Int × Unit)))) → CallOut := fun r => ⟨(.tcons (.pair (.ref (1, 0) []) (.pair (.ref (1, 1) []) (.imm true .unit ()))) (.tcons (.imm true (.int .i64) r.1) (.tcons (.imm true (.int .i64) r.2.1) .tnil))), [], [⟨false, (.sl kStation), .own, r.2.2.1⟩, ⟨false, (.sl kField), .own, r.2.2.2⟩]⟩
set_option maxRecDepth 100000 in
theorem i_PlantAfter_eq : ∀ (zp0 : Bool) (zp1 : Bool) (p0 : TGather) (p1 : (List TDeed)), denFn i_PlantAfter_V i_PlantAfter_I ⟨[(.imm zp0 kGather p0), (.imm zp1 (.sl kDeed) p1)], []⟩ = (i_PlantAfter p0 p1).run fun r => some (i_PlantAfter_out zp0 zp1 p0 p1 r) := fun _ _ _ _ => by kernel_rfl
noncomputable def i_PlantAfter_G (av : List AV) (rs : List Root) : Tre CallOut :=
  asCons av fun a0_ av0 =>
  asCons av0 fun a1_ av1 =>
  asEnd av1 <|
  asEnd rs <|
  asImm kGather a0_ fun z2 d1 =>
  asImm (.sl kDeed) a1_ fun z4 d3 =>
  .mat (plantR d1 d3) fun r => .ret (i_PlantAfter_out z2 z4 d1 d3 r)
noncomputable def i_PlantAfter_c : Ctr := ⟨[], fun ci => i_PlantAfter_G ci.args ci.roots⟩
theorem i_PlantAfter_env : EnvOK Try.prog i_PlantAfter_V := (envOK_cons i_deedsCode_ok ent73 (envOK_cons i_after_ok ent74 (envOK_cons slices_Clone_Parcel_ok ent83 (envOK_cons slices_Clone_int64_ok ent57 envOK_nil))))
set_option maxRecDepth 100000 in
theorem i_PlantAfter_ok : Contract Try.prog 34 i_PlantAfter_c := by
  have hl : LoopsOK i_PlantAfter_V i_PlantAfter_A i_PlantAfter_b := (loopsOK_all (n := 1) (by kernel_rfl) fun k hk => by
      match k, hk with
      | 0, _ => exact loopOK_at (id := 7) (L := i_PlantAfter_l7_L) (by kernel_rfl) (by kernel_rfl) i_PlantAfter_l7_ok)
  refine (contract_of (F := i_PlantAfter_I) tau_tys i_PlantAfter_env Try.func34 (by kernel_rfl) (by kernel_rfl) (by kernel_rfl) hl []).weaken ?_
  rintro ⟨av, rs⟩ co h
  have h : (i_PlantAfter_G av rs).run some = some co := h
  obtain ⟨a0_, av0, rfl, h_0⟩ := asCons_spec h
  obtain ⟨a1_, av1, rfl, h_1⟩ := asCons_spec h_0
  obtain ⟨rfl, h_2⟩ := asEnd_spec h_1
  obtain ⟨rfl, h_3⟩ := asEnd_spec h_2
  obtain ⟨z2, d1, rfl, h_4⟩ := asImm_spec h_3
  obtain ⟨z4, d3, rfl, h_5⟩ := asImm_spec h_4
  exact fin_opt (i_PlantAfter_eq z2 z4 d1 d3) (i_PlantAfter_spec d1 d3) h_5
end Go.Proofs.Ytkgekgfmnhccmaa

namespace Go.Proofs.Ytkgekgfmnhccmaa
open Go Go.Abs Go.Proofs
end Go.Proofs.Ytkgekgfmnhccmaa

namespace Go.Proofs.Ytkgekgfmnhccmaa
open Go Go.Abs Go.Proofs
noncomputable def datAM (g : G8) (ds : List D8) (s : Int) : Int × List Int := cond (decide (codeM g ds s = 0)) (datM g (rowsM g ds s)) (codeM g ds s, [])
noncomputable def datAR (g : G8) (ds : List D8) (s : Int) : Option (Int × List Int) := askO (decide (g.2.2.1.length ≤ 1048576) && decide (ds.length ≤ 1048576)) (datAM g ds s)
end Go.Proofs.Ytkgekgfmnhccmaa

namespace Go.Proofs.Ytkgekgfmnhccmaa
open Go Go.Abs Go.Proofs
noncomputable def i_DataAfter (p0 : TGather) (p1 : (List TDeed)) (p2 : Int) : Tre (Int × (List Int)) :=
  .mat (codeR p0 p1 p2) fun r1 =>
  .cond (!decide (r1 = 0))
    (.ret (r1, []))
    (.mat (afterR p0 p1) fun r2 =>
    .mat (wdatR r2.2 p2) fun r3 =>
    .ret (r3.1, r3.2))
noncomputable def i_DataAfter_F (p0 : TGather) (p1 : (List TDeed)) (p2 : Int) : Option (Int × (List Int)) := (i_DataAfter p0 p1 p2).run some
theorem i_DataAfter_spec (p0 : G8) (p1 : List D8) (p2 : Int) (y : Int × List Int) (h : datAR p0 p1 p2 = some y) : i_DataAfter_F p0 p1 p2 = some y := by
  obtain ⟨hok, rfl⟩ := askO_some h
  unfold i_DataAfter_F i_DataAfter datAM
  rw [run_some_mat (show codeR p0 p1 p2 = some _ from askO_true hok), Tre.run_cond]
  by_cases h0 : codeM p0 p1 p2 = 0
  · rw [decide_eq_true h0, Bool.not_true, cond_false, cond_true, run_some_mat (after_some h0), run_some_mat (show wdatR (afterM p0 p1, (p0, ())) p2 = some _ from askO_true (okW_mono (okW_after h0) (by omega)))]
    rfl
  · rw [decide_eq_false h0]; rfl
noncomputable def i_DataAfter_V : Env := ⟨tau, [(73, i_deedsCode_c), (74, i_after_c), (76, i_works_data_40d4_c)], []⟩
noncomputable def i_DataAfter_b : Code := (Try.f35.body).getD .skip
noncomputable def i_DataAfter_I : FnI := ⟨i_DataAfter_b, Try.f35.results.toList, Try.f35.resultTypes.toList, []⟩
noncomputable def i_DataAfter_out (_zp0 : Bool) (_zp1 : Bool) (_p0 : TGather) (_p1 : (List TDeed)) (_p2 : Int) : (Int × (List Int)) → CallOut := fun r => ⟨(.tcons (.ref (1, 0) []) (.tcons (.imm true (.int .i64) r.1) .tnil)), [], [⟨false, (.sl (.int .i64)), .own, r.2⟩]⟩
set_option maxRecDepth 100000 in
theorem i_DataAfter_eq : ∀ (zp0 : Bool) (zp1 : Bool) (p0 : TGather) (p1 : (List TDeed)) (p2 : Int), denFn i_DataAfter_V i_DataAfter_I ⟨[(.imm zp0 kGather p0), (.imm zp1 (.sl kDeed) p1), (.imm true (.int .i64) p2)], []⟩ = (i_DataAfter p0 p1 p2).run fun r => some (i_DataAfter_out zp0 zp1 p0 p1 p2 r) := fun _ _ _ _ _ => by kernel_rfl
noncomputable def i_DataAfter_G (av : List AV) (rs : List Root) : Tre CallOut :=
  asCons av fun a0_ av0 =>
  asCons av0 fun a1_ av1 =>
  asCons av1 fun a2_ av2 =>
  asEnd av2 <|
  asEnd rs <|
  asImm kGather a0_ fun z2 d1 =>
  asImm (.sl kDeed) a1_ fun z4 d3 =>
  asImmZ true (.int .i64) a2_ fun d5 =>
  .mat (datAR d1 d3 d5) fun r => .ret (i_DataAfter_out z2 z4 d1 d3 d5 r)
noncomputable def i_DataAfter_c : Ctr := ⟨[], fun ci => i_DataAfter_G ci.args ci.roots⟩
theorem i_DataAfter_env : EnvOK Try.prog i_DataAfter_V := (envOK_cons i_deedsCode_ok ent73 (envOK_cons i_after_ok ent74 (envOK_cons i_works_data_40d4_ok ent76 envOK_nil)))
set_option maxRecDepth 100000 in
theorem i_DataAfter_ok : Contract Try.prog 35 i_DataAfter_c := by
  have hl : LoopsOK i_DataAfter_V [] i_DataAfter_b := loopsOK_nil (by kernel_rfl)
  refine (contract_of (F := i_DataAfter_I) tau_tys i_DataAfter_env Try.func35 (by kernel_rfl) (by kernel_rfl) (by kernel_rfl) hl []).weaken ?_
  rintro ⟨av, rs⟩ co h
  have h : (i_DataAfter_G av rs).run some = some co := h
  obtain ⟨a0_, av0, rfl, h_0⟩ := asCons_spec h
  obtain ⟨a1_, av1, rfl, h_1⟩ := asCons_spec h_0
  obtain ⟨a2_, av2, rfl, h_2⟩ := asCons_spec h_1
  obtain ⟨rfl, h_3⟩ := asEnd_spec h_2
  obtain ⟨rfl, h_4⟩ := asEnd_spec h_3
  obtain ⟨z2, d1, rfl, h_5⟩ := asImm_spec h_4
  obtain ⟨z4, d3, rfl, h_6⟩ := asImm_spec h_5
  obtain ⟨d5, rfl, h_7⟩ := asImmZ_spec h_6
  exact fin_opt (i_DataAfter_eq z2 z4 d1 d3 d5) (i_DataAfter_spec d1 d3 d5) h_7
end Go.Proofs.Ytkgekgfmnhccmaa

namespace Go.Proofs.Ytkgekgfmnhccmaa
open Go Go.Abs Go.Proofs
noncomputable def s_SameList (p0 : (List Int)) (p1 : (List Int)) : Tre Bool :=
  .mat (sameL p0 p1) fun r1 =>
  .ret r1
noncomputable def s_SameList_F (p0 : (List Int)) (p1 : (List Int)) : Option Bool := (s_SameList p0 p1).run some
noncomputable def s_SameList_V : Env := ⟨tau, [(82, s_l00Same_c)], []⟩
noncomputable def s_SameList_b : Code := (Try.f36.body).getD .skip
noncomputable def s_SameList_I : FnI := ⟨s_SameList_b, Try.f36.results.toList, Try.f36.resultTypes.toList, []⟩
noncomputable def s_SameList_out (_zp0 : Bool) (_zp1 : Bool) (_p0 : (List Int)) (_p1 : (List Int)) : Bool → CallOut := fun r => ⟨(.imm true .bool r), [], []⟩
set_option maxRecDepth 100000 in
theorem s_SameList_eq : ∀ (zp0 : Bool) (zp1 : Bool) (p0 : (List Int)) (p1 : (List Int)), denFn s_SameList_V s_SameList_I ⟨[(.imm zp0 (.sl (.int .i64)) p0), (.imm zp1 (.sl (.int .i64)) p1)], []⟩ = (s_SameList p0 p1).run fun r => some (s_SameList_out zp0 zp1 p0 p1 r) := fun _ _ _ _ => by kernel_rfl
noncomputable def s_SameList_G (av : List AV) (rs : List Root) : Tre CallOut :=
  asCons av fun a0_ av0 =>
  asCons av0 fun a1_ av1 =>
  asEnd av1 <|
  asEnd rs <|
  asImm (.sl (.int .i64)) a0_ fun z2 d1 =>
  asImm (.sl (.int .i64)) a1_ fun z4 d3 =>
  .mat (s_SameList_F d1 d3) fun r => .ret (s_SameList_out z2 z4 d1 d3 r)
noncomputable def s_SameList_c : Ctr := ⟨[], fun ci => s_SameList_G ci.args ci.roots⟩
theorem s_SameList_env : EnvOK Try.prog s_SameList_V := (envOK_cons s_l00Same_ok ent82 envOK_nil)
set_option maxRecDepth 100000 in
theorem s_SameList_ok : Contract Try.prog 36 s_SameList_c := by
  have hl : LoopsOK s_SameList_V [] s_SameList_b := loopsOK_nil (by kernel_rfl)
  refine (contract_of (F := s_SameList_I) tau_tys s_SameList_env Try.func36 (by kernel_rfl) (by kernel_rfl) (by kernel_rfl) hl []).weaken ?_
  rintro ⟨av, rs⟩ co h
  have h : (s_SameList_G av rs).run some = some co := h
  obtain ⟨a0_, av0, rfl, h_0⟩ := asCons_spec h
  obtain ⟨a1_, av1, rfl, h_1⟩ := asCons_spec h_0
  obtain ⟨rfl, h_2⟩ := asEnd_spec h_1
  obtain ⟨rfl, h_3⟩ := asEnd_spec h_2
  obtain ⟨z2, d1, rfl, h_4⟩ := asImm_spec h_3
  obtain ⟨z4, d3, rfl, h_5⟩ := asImm_spec h_4
  exact fin_mat (s_SameList_eq z2 z4 d1 d3) h_5
end Go.Proofs.Ytkgekgfmnhccmaa

namespace Go.Proofs.Ytkgekgfmnhccmaa
open Go Go.Abs Go.Proofs
-- shared
def lenP (p : P8) : Prop := ∀ s ∈ p.1, s.1.length ≤ 10 ∧ s.2.1.length ≤ 10
theorem begin_len {g : G8} (hg : isG g = true) : lenP (beginM g) := fun s hs => by
  have h := (okP_spec (beginM_ok hg)).2.1 s hs
  have h1 := (okS_spec.1 h.1).1
  have h2 := (okS_spec.1 h.2).1
  omega
theorem lenP_set {st : List (List Int × List Int × Unit)} {w : List (Int × Int × Unit) × Unit} {i : Nat} {x : List Int × List Int × Unit} (h : lenP (st, w)) (h1 : x.1.length ≤ 10) (h2 : x.2.1.length ≤ 10) : lenP (st.set i x, w) := fun s hs => by
  rcases List.mem_or_eq_of_mem_set hs with hs | rfl
  · exact h s hs
  · exact ⟨h1, h2⟩
theorem come_len {k : Nat} {g : G8} {p : P8} {x : Int × Int × Unit} {w : List (Int × Int × Unit) × Unit} (hg : isG g = true) (hk : k ≤ 1000) (hp : okP k g p = true) (hx : okRow (colsG g) x.2.1 = true) (h : lenP p) : lenP (comeM x p.1, w) := by
  have hc := (colsG_le hg).1
  unfold comeM
  cases hs : p.1[x.1.toNat]? with
  | none => exact h
  | some s =>
    simp only
    have hm := List.mem_of_getElem? hs
    have hr := okS_add ((okP_spec hp).2.1 s hm).1 hx
    have hle := rank_cols (b := colsG g) (by omega) (okS_rows hr (by omega) (Nat.le_refl _))
    by_cases he : ((echI (s.1 ++ [x.2.1])).length : Int) = ((s.1 ++ [x.2.1]).length : Int)
    · rw [decide_eq_true he, cond_true]
      exact lenP_set (w := w) h (by show (s.1 ++ [x.2.1]).length ≤ 10; omega) (h s hm).2
    · rw [decide_eq_false he]; exact h
theorem do_len {k : Nat} {g : G8} {d : D8} {p : P8} (hg : isG g = true) (hk : k ≤ 1000) (hp : okP k g p = true) (h : lenP p) : lenP (doM g d p).2 := by
  unfold doM
  cases decide (d.1 = 1)
  case true =>
    rw [cond_true]
    unfold sendM
    cases (decide (d.2.1 ≥ (p.1.length : Int)) || (decide (d.2.2.1 ≥ (p.1.length : Int)) || (decide (d.2.1 = d.2.2.1) || decide (d.2.2.1 = 0))))
    case true => exact h
    rw [cond_false]
    cases p.1[d.2.1.toNat]? with
    | none => exact h
    | some s =>
      simp only
      cases decide (d.2.2.2.1 ≥ ishl .i64 1 (s.1.length : Int))
      case true => exact h
      cases decide (d.2.2.2.1 = 0)
      case true => exact h
      cases decide ((p.2.1.length : Int) = 12)
      case true => exact h
      exact h
  rw [cond_false]
  cases inR d.1 2 5
  case true =>
    rw [cond_true]
    unfold wireM
    cases decide (d.2.1 ≥ (p.2.1.length : Int))
    case true => exact h
    rw [cond_false]
    cases hx : p.2.1[d.2.1.toNat]? with
    | none => exact h
    | some x =>
      simp only
      have hxr := ((okP_spec hp).2.2.2 x (List.mem_of_getElem? hx)).2
      cases decide (d.1 = 5)
      case true =>
        rw [cond_true]
        cases (decide (d.2.2.1 = 0) || decide (d.2.2.1 ≥ ishl .i64 1 (colsG g : Int)))
        · exact h
        · exact h
      rw [cond_false]
      cases decide (d.1 = 4)
      · exact come_len hg hk hp hxr h
      · exact h
  rw [cond_false]
  cases decide (d.2.1 ≥ (p.1.length : Int))
  case true => exact h
  rw [cond_false]
  cases hs : p.1[d.2.1.toNat]? with
  | none => exact h
  | some s =>
    simp only
    have hm := h s (List.mem_of_getElem? hs)
    cases decide (d.1 = 6)
    · cases decide (d.1 = 7)
      · exact lenP_set (w := p.2) h (Nat.zero_le _) hm.2
      · exact lenP_set (w := p.2) h hm.2 hm.2
    · exact lenP_set (w := p.2) h hm.1 hm.1
end Go.Proofs.Ytkgekgfmnhccmaa

namespace Go.Proofs.Ytkgekgfmnhccmaa
open Go Go.Abs Go.Proofs
-- shared
def Fine {α : Type} (t : Tre α) (Q : α → Prop) : Prop := ∃ a, t.run some = some a ∧ Q a
theorem Fine.ret {α : Type} {a : α} {Q : α → Prop} (h : Q a) : Fine (.ret a) Q := ⟨a, rfl, h⟩
theorem Fine.cond {α : Type} {b : Bool} {t f : Tre α} {Q : α → Prop} (ht : b = true → Fine t Q) (hf : b = false → Fine f Q) : Fine (.cond b t f) Q := by
  cases b
  · exact hf rfl
  · exact ht rfl
theorem Fine.condp {α : Type} {p : Prop} [Decidable p] {t f : Tre α} {Q : α → Prop} (ht : p → Fine t Q) (hf : ¬ p → Fine f Q) : Fine (.cond (decide p) t f) Q :=
  Fine.cond (fun h => ht (of_decide_eq_true h)) (fun h => hf (of_decide_eq_false h))
theorem Fine.ite {α : Type} {p : Prop} [h : Decidable p] {t : Tre α} {Q : α → Prop} (hp : p) (ht : p → Fine t Q) : Fine (.ite p t) Q := by
  obtain ⟨a, h1, h2⟩ := ht hp
  exact ⟨a, by rw [Tre.run_ite, if_pos hp]; exact h1, h2⟩
theorem Fine.ifn {α : Type} {p : Prop} [h : Decidable p] {t : Tre α} {Q : α → Prop} (hp : ¬ p) (ht : Fine t Q) : Fine (.ifn p t) Q := by
  obtain ⟨a, h1, h2⟩ := ht
  exact ⟨a, by rw [Tre.run_ifn, if_neg hp]; exact h1, h2⟩
theorem Fine.mat {α β : Type} {o : Option β} {k : β → Tre α} {P : β → Prop} {Q : α → Prop} (h : ∃ x, o = some x ∧ P x) (hk : ∀ x, P x → Fine (k x) Q) : Fine (.mat o k) Q := by
  obtain ⟨x, rfl, hx⟩ := h
  exact hk x hx
theorem Fine.get {α β : Type} {o : Option β} {x : β} {k : β → Tre α} {Q : α → Prop} (h : o = some x) (hk : Fine (k x) Q) : Fine (.mat o k) Q := by
  subst h; exact hk
theorem Fine.at {α β : Type} {xs : List β} {i : Int} {k : β → Tre α} {Q : α → Prop} (hi : 0 ≤ i ∧ i < (xs.length : Int)) (hk : ∀ x, x ∈ xs → Fine (k x) Q) : Fine (.mat xs[i.toNat]? k) Q := by
  have hl : i.toNat < xs.length := by omega
  exact .get (List.getElem?_eq_getElem hl) (hk _ (List.getElem_mem hl))
theorem Fine.at0 {α β : Type} {xs : List β} {k : β → Tre α} {Q : α → Prop} (hi : 0 < xs.length) (hk : ∀ x, x ∈ xs → Fine (k x) Q) : Fine (.mat xs[0]? k) Q :=
  .get (List.getElem?_eq_getElem hi) (hk _ (List.getElem_mem hi))
theorem Fine.run {α : Type} {t : Tre α} {Q : α → Prop} (h : Fine t Q) : ∃ a, t.run some = some a ∧ Q a := h
abbrev Src := List Int × Int × Int × Unit
def srcOK (c : Nat) (s : Src) : Prop := s.1.length ≤ 3000 ∧ (∀ x ∈ s.1, 0 ≤ x ∧ x ≤ 255) ∧ 0 ≤ s.2.1 ∧ s.2.1 ≤ (c : Int)
theorem srcOK.mono {c c' : Nat} {s : Src} (h : srcOK c s) (hc : c ≤ c') : srcOK c' s := ⟨h.1, h.2.1, h.2.2.1, by have := h.2.2.2; omega⟩
theorem and255 (a : Int) : 0 ≤ iand .u64 a 255 ∧ iand .u64 a 255 ≤ 255 := by
  have h : (BitVec.ofInt 64 a &&& BitVec.ofInt 64 255).toNat ≤ 255 := by
    rw [BitVec.toNat_and]
    exact Nat.le_trans Nat.and_le_right (by decide)
  unfold iand
  show 0 ≤ iwrap .u64 (((BitVec.ofInt 64 a &&& BitVec.ofInt 64 255).toNat : Nat) : Int) ∧ iwrap .u64 (((BitVec.ofInt 64 a &&& BitVec.ofInt 64 255).toNat : Nat) : Int) ≤ 255
  rw [iwrap_u64 (by omega) (by omega)]
  omega
theorem next_ok {c : Nat} {s : Src} (h : srcOK c s) (hc : c ≤ 100000) : ∃ r, s_l00Src_next_6913_F s = some r ∧ ((0 ≤ r.1 ∧ r.1 ≤ 255) ∧ srcOK (c + 1) r.2) := by
  obtain ⟨h1, h2, h3, h4⟩ := h
  have hw : iwrap .i64 (s.2.1 + 1) = s.2.1 + 1 := iwrap_i64 (by omega) (by omega)
  have hsrc : ∀ v : Int, srcOK (c + 1) (s.1, iwrap .i64 (s.2.1 + 1), v, s.2.2.2) := fun v => ⟨h1, h2, by show 0 ≤ iwrap .i64 (s.2.1 + 1); omega, by show iwrap .i64 (s.2.1 + 1) ≤ ((c + 1 : Nat) : Int); omega⟩
  have hand : ∀ a : Int, 0 ≤ iwrap .i64 (iand .u64 a 255) ∧ iwrap .i64 (iand .u64 a 255) ≤ 255 := fun a => by
    have := and255 a
    rw [iwrap_i64 (by omega) (by omega)]; exact this
  unfold s_l00Src_next_6913_F s_l00Src_next_6913
  refine Fine.run (Fine.condp (fun hlt => Fine.ite ⟨h3, hlt⟩ fun hi => Fine.at hi fun x hx => ?_) (fun _ => ?_))
  · have hb := h2 x hx
    have hx1 : iwrap .i64 x = x := iwrap_i64 (by omega) (by omega)
    exact Fine.condp (fun _ => .ret ⟨by rw [hx1]; exact hb, hsrc _⟩) (fun _ => .ret ⟨hand _, hsrc _⟩)
  · exact Fine.condp (fun _ => .ret ⟨⟨Int.le_refl 0, by show (0 : Int) ≤ 255; omega⟩, hsrc _⟩) (fun _ => .ret ⟨hand _, hsrc _⟩)
theorem tmod_rng {x n : Int} (hx : 0 ≤ x) (hn : 0 < n) : 0 ≤ Int.tmod x n ∧ Int.tmod x n < n := ⟨Int.tmod_nonneg n hx, Int.tmod_lt_of_pos x hn⟩
theorem pick_ok {n : Int} {c : Nat} {s : Src} (h : srcOK c s) (hc : c ≤ 90000) : ∃ r, s_l00Src_pick_9f69_F n s = some r ∧ ((0 ≤ r.1 ∧ (r.1 = 0 ∨ r.1 < n)) ∧ srcOK (c + 2) r.2) := by
  unfold s_l00Src_pick_9f69_F s_l00Src_pick_9f69
  refine Fine.run (Fine.condp (fun _ => .ret ⟨⟨Int.le_refl _, .inl rfl⟩, h.mono (by omega)⟩) (fun hn => Fine.mat (next_ok h (by omega)) fun x hx => Fine.condp (fun _ => Fine.mat (next_ok hx.2 (by omega)) fun y hy => ?_) (fun _ => ?_)))
  · refine Fine.ifn (by omega) (.ret ⟨?_, hy.2⟩)
    have h1 : iwrap .i64 (x.1 * 256) = x.1 * 256 := iwrap_i64 (by omega) (by omega)
    have h2 : iwrap .i64 (iwrap .i64 (x.1 * 256) + y.1) = x.1 * 256 + y.1 := by rw [h1]; exact iwrap_i64 (by omega) (by omega)
    show 0 ≤ Int.tmod (iwrap .i64 (iwrap .i64 (x.1 * 256) + y.1)) n ∧ (Int.tmod (iwrap .i64 (iwrap .i64 (x.1 * 256) + y.1)) n = 0 ∨ Int.tmod (iwrap .i64 (iwrap .i64 (x.1 * 256) + y.1)) n < n)
    rw [h2]
    have := tmod_rng (x := x.1 * 256 + y.1) (n := n) (by omega) (by omega)
    exact ⟨this.1, .inr this.2⟩
  · refine Fine.ifn (by omega) (.ret ⟨?_, hx.2.mono (by omega)⟩)
    have := tmod_rng (x := x.1) (n := n) (by omega) (by omega)
    exact ⟨this.1, .inr this.2⟩
theorem one_ok {n : Int} {c : Nat} {s : Src} (h : srcOK c s) (hc : c ≤ 90000) : ∃ r, s_l00Src_one_9f69_F n s = some r ∧ srcOK (c + 2) r.2 := by
  unfold s_l00Src_one_9f69_F s_l00Src_one_9f69
  exact Fine.run (Fine.mat (pick_ok h hc) fun x hx => .ret hx.2)
theorem kind_ok {c : Nat} {s : Src} (h : srcOK c s) (hc : c ≤ 90000) : ∃ r, s_l00Src_among_e38a_F s [1, 1, 1, 1, 1, 2, 2, 2, 2, 2, 2, 3, 4, 5, 6, 7, 8, 1, 2, 2] = some r ∧ ((1 ≤ r.1 ∧ r.1 ≤ 8) ∧ srcOK (c + 2) r.2) := by
  unfold s_l00Src_among_e38a_F s_l00Src_among_e38a
  refine Fine.run (Fine.mat (pick_ok h hc) fun x hx => Fine.ite ⟨hx.1.1, ?_⟩ fun hi => Fine.at hi fun y hy => .ret ⟨?_, hx.2⟩)
  · have h1 := hx.1.2
    simp only [List.length_cons, List.length_nil] at h1 ⊢
    omega
  · have : ∀ y ∈ ([1, 1, 1, 1, 1, 2, 2, 2, 2, 2, 2, 3, 4, 5, 6, 7, 8, 1, 2, 2] : List Int), 1 ≤ y ∧ y ≤ 8 := by decide
    exact this y hy
theorem inP_of {m : Nat} (hm : m ≤ 6) {x : Int} (h0 : 0 ≤ x) (h : x = 0 ∨ x < ishl .i64 1 (iwrap .u64 (m : Int))) : inP (m : Int) x = true := by
  rw [iwrap_u64 (by omega) (by omega), show (1 : Int) = ((1 : Nat) : Int) from rfl, ishl_nat (by omega) (by have := pow_le (b := m) (c := 6) hm; omega)] at h
  unfold inP
  rw [top1_nat (by omega), inR_iff]
  have := Nat.two_pow_pos m
  rw [Nat.one_mul] at h
  omega
theorem draw_data {m b : Nat} (hm : m ≤ 4) (hb : b ≤ 6) (w : Int × Int × Unit) : ∀ (n i : Nat) {c : Nat} {s : Src} {l : List Int}, i + n = m → srcOK c s → c + 2 * n ≤ 90000 → l.length = i → l.all (inP (b : Int)) = true →
    ∃ r : Src × Int × Int × List Int × Int × Int × Unit, loopF s_l08Drawn_6913_l6 ((i : Int), s, (m : Int), (b : Int), l, w) = some r ∧ (r.2.1 = (m : Int) ∧ r.2.2.1 = (b : Int) ∧ r.2.2.2.1.length = m ∧ r.2.2.2.1.all (inP (b : Int)) = true ∧ r.2.2.2.2 = w) := by
  intro n
  induction n with
  | zero =>
    intro i c s l hi hs _ hl ha
    refine ⟨(s, (m : Int), (b : Int), l, w), loopF_done ?_, rfl, rfl, by show l.length = m; omega, ha, rfl⟩
    unfold s_l08Drawn_6913_l6
    rw [Tre.run_cond, decide_eq_false (by show ¬ (i : Int) < (m : Int); omega), cond_false, Tre.run_ret]
  | succ n ih =>
    intro i c s l hi hs hc hl ha
    obtain ⟨r, hr, ⟨hr0, hr1⟩, hr2⟩ := pick_ok (n := ishl .i64 1 (iwrap .u64 (b : Int))) hs (by omega)
    have hstep : (s_l08Drawn_6913_l6 ((i : Int), s, (m : Int), (b : Int), l, w)).run some = some (.inl (((i + 1 : Nat) : Int), r.2, (m : Int), (b : Int), l ++ [r.1], w)) := by
      unfold s_l08Drawn_6913_l6
      rw [Tre.run_cond, decide_eq_true (by show (i : Int) < (m : Int); omega), cond_true, Tre.run_ite, if_pos (iwrap_u64_nonneg _)]
      dsimp only
      rw [run_some_mat hr, Tre.run_ite, if_pos (by unfold appendMax; omega), Tre.run_ret, iwrap_succ (by omega)]
    rw [loopF_step hstep]
    exact ih (i + 1) (by omega) hr2 (by omega) (by simp; omega) (by rw [List.all_append, ha, List.all_cons, inP_of hb hr0 hr1]; rfl)
theorem gather_ok {code : List Int} (hl : code.length ≤ 3000) (hc : ∀ x ∈ code, 0 ≤ x ∧ x ≤ 255) : ∃ r, s_A2Gather_F code = some r ∧ isG (r.1, r.2.1, r.2.2.2, r.2.2.1) = true := by
  have h0 : srcOK 0 (code, 0, 0, ()) := ⟨hl, hc, Int.le_refl _, Int.le_refl _⟩
  unfold s_A2Gather_F s_A2Gather
  refine Fine.run (Fine.mat (P := fun r => isG (r.1, r.2.1, r.2.2.2.2, r.2.2.1) = true) ?_ fun r hr => .ret hr)
  unfold s_l08Drawn_6913_F s_l08Drawn_6913
  refine Fine.run (Fine.mat (pick_ok h0 (by omega)) fun a ha => Fine.mat (pick_ok ha.2 (by omega)) fun b hb => Fine.mat (pick_ok hb.2 (by omega)) fun c hc => Fine.mat (pick_ok hc.2 (by omega)) fun d hd => Fine.mat (one_ok hd.2 (by omega)) fun e he => ?_)
  have w1 : iwrap .i64 (1 + d.1) = 1 + d.1 := iwrap_i64 (by omega) (by omega)
  have w2 : iwrap .i64 (1 + a.1) = 1 + a.1 := iwrap_i64 (by omega) (by omega)
  have w3 : iwrap .i64 (1 + b.1) = 1 + b.1 := iwrap_i64 (by omega) (by omega)
  have fin : ∀ (m k : Nat), 1 ≤ m → m ≤ 4 → 1 ≤ k → k ≤ 6 → Fine (Tre.mat (loopF s_l08Drawn_6913_l6 (0, e.2, (m : Int), (k : Int), [], c.1, iwrap .i64 (1 + d.1), ())) fun l8 => (Tre.ret (l8.2.1, l8.2.2.1, l8.2.2.2.2, l8.1, l8.2.2.2.1))) (fun r => isG (r.1, r.2.1, r.2.2.2.2, r.2.2.1) = true) := by
    intro m k h1 h2 h3 h4
    refine Fine.mat (draw_data h2 h4 (c.1, iwrap .i64 (1 + d.1), ()) m 0 (by omega) he (by omega) rfl rfl) fun r hr => .ret ?_
    obtain ⟨e1, e2, e3, e4, e5⟩ := hr
    show isG (r.2.1, r.2.2.1, r.2.2.2.1, r.2.2.2.2) = true
    rw [e1, e2, e5, w1]
    unfold isG
    simp only [Bool.and_eq_true, inR_iff, decide_eq_true_eq, e4, and_true]
    omega
  refine Fine.cond (fun _ => fin 4 6 (by omega) (by omega) (by omega) (by omega)) (fun _ => ?_)
  have := fin (1 + a.1.toNat) (1 + b.1.toNat) (by omega) (by omega) (by omega) (by omega)
  rw [show ((1 + a.1.toNat : Nat) : Int) = iwrap .i64 (1 + a.1) from by omega, show ((1 + b.1.toNat : Nat) : Int) = iwrap .i64 (1 + b.1) from by omega] at this
  exact this
theorem wire_n {n : Nat} {r : Int} (hn : n ≤ 12) (h0 : 0 ≤ r) (h1 : r = 0 ∨ r < 12) : 0 ≤ iwrap .i64 ((n : Int) + iwrap .i64 (Int.tdiv r 11)) ∧ iwrap .i64 ((n : Int) + iwrap .i64 (Int.tdiv r 11)) ≤ 13 := by
  have h : 0 ≤ Int.tdiv r 11 ∧ Int.tdiv r 11 ≤ 1 := by
    rw [Int.tdiv_eq_ediv_of_nonneg h0]; omega
  rw [iwrap_i64 (n := Int.tdiv r 11) (by omega) (by omega), iwrap_i64 (by omega) (by omega)]
  omega
theorem shl_n {n : Nat} (hn : n ≤ 10) : 1 ≤ ishl .i64 1 (iwrap .u64 (n : Int)) ∧ ishl .i64 1 (iwrap .u64 (n : Int)) ≤ 1024 := by
  have h := pow_le (b := n) (c := 10) hn
  have h2 := Nat.two_pow_pos n
  rw [iwrap_u64 (by omega) (by omega), show (1 : Int) = ((1 : Nat) : Int) from rfl, ishl_nat (by omega) (by omega)]
  omega
theorem vDeed_of {k a b c : Int} (hk : 1 ≤ k ∧ k ≤ 8) (ha : 0 ≤ a ∧ a ≤ 9999) (hb : 0 ≤ b ∧ b ≤ 9999) (hc : 0 ≤ c ∧ c ≤ 9999) (h1 : k = 1 ∨ k = 5 ∨ b = 0) (h2 : k = 1 ∨ c = 0) : vDeed (k, a, b, c, ()) = true := by
  unfold vDeed
  simp only [Bool.and_eq_true, Bool.or_eq_true, inR_iff, decide_eq_true_eq]
  exact ⟨⟨⟨⟨⟨hk, ha⟩, hb⟩, hc⟩, by omega⟩, h2⟩
theorem max_n {n : Int} (h : 1 ≤ n ∧ n ≤ 100) : s_l00Max_S (iwrap .i64 (n - 1)) 1 ≤ 100 := by
  unfold s_l00Max_S
  rw [iwrap_i64 (by omega) (by omega)]
  cases decide (n - 1 > 1)
  · rw [cond_false]; omega
  · rw [cond_true]; omega
theorem wrap1 {r : Int} (h0 : 0 ≤ r) (h1 : r ≤ 1000) : iwrap .i64 (1 + r) = 1 + r := iwrap_i64 (by omega) (by omega)
theorem wrapm {r : Int} (h0 : 0 ≤ r) (h1 : r ≤ 10000) : iwrap .i64 (r - 1) = r - 1 := iwrap_i64 (by omega) (by omega)
theorem pickw_ok {n : Nat} {r : Int} {c : Nat} {s : Src} (hn : n ≤ 12) (h0 : 0 ≤ r) (h1 : r = 0 ∨ r < 12) (h : srcOK c s) (hc : c ≤ 90000) : ∃ x, s_l00Src_pick_9f69_F (iwrap .i64 ((n : Int) + iwrap .i64 (Int.tdiv r 11))) s = some x ∧ ((0 ≤ x.1 ∧ x.1 ≤ 13) ∧ srcOK (c + 2) x.2) := by
  obtain ⟨x, e, h2, h3⟩ := pick_ok (n := iwrap .i64 ((n : Int) + iwrap .i64 (Int.tdiv r 11))) h hc
  have := wire_n hn h0 h1
  exact ⟨x, e, by omega, h3⟩
theorem picks_ok {n : Nat} {c : Nat} {s : Src} (hn : n ≤ 10) (h : srcOK c s) (hc : c ≤ 90000) : ∃ x, s_l00Src_pick_9f69_F (ishl .i64 1 (iwrap .u64 (n : Int))) s = some x ∧ ((0 ≤ x.1 ∧ x.1 ≤ 1023) ∧ srcOK (c + 2) x.2) := by
  obtain ⟨x, e, h2, h3⟩ := pick_ok (n := ishl .i64 1 (iwrap .u64 (n : Int))) h hc
  have := shl_n hn
  exact ⟨x, e, by omega, h3⟩
theorem pickm_ok {n : Int} {c : Nat} {s : Src} (hn : 1 ≤ n ∧ n ≤ 100) (h : srcOK c s) (hc : c ≤ 90000) : ∃ x, s_l00Src_pick_9f69_F (s_l00Max_S (iwrap .i64 (n - 1)) 1) s = some x ∧ ((0 ≤ x.1 ∧ x.1 ≤ 100) ∧ srcOK (c + 2) x.2) := by
  obtain ⟨x, e, h2, h3⟩ := pick_ok (n := s_l00Max_S (iwrap .i64 (n - 1)) 1) h hc
  have := max_n hn
  exact ⟨x, e, by omega, h3⟩
def Drawn (g : G8) (clean : Bool) (c : Nat) (k : Int) (l : List D8) (p : P8) (o : (Int × Src × List D8 × (P8 × Unit)) ⊕ (Src × List D8)) : Prop :=
  ∃ s' d, o = .inl (iwrap .i64 (k - 1), s', l ++ [d], ((doM g d p).2, ())) ∧ srcOK (c + 30) s' ∧ vDeed d = true ∧ (clean = true → d.1 ≠ 5)
theorem deeds_leaf {g : G8} {clean : Bool} {c c' : Nat} {k : Int} {s' : Src} {l : List D8} {p : P8} {m : Nat} (hg : isG g = true) (hl : l.length ≤ 1000) (hm : m ≤ 1000) (hp : okP m g p = true) {kk a b e : Int}
    (hs : srcOK c' s') (hc : c' ≤ c + 30) (hk : 1 ≤ kk ∧ kk ≤ 8) (ha : 0 ≤ a ∧ a ≤ 9999) (hb : 0 ≤ b ∧ b ≤ 9999) (he : 0 ≤ e ∧ e ≤ 9999) (h1 : kk = 1 ∨ kk = 5 ∨ b = 0) (h2 : kk = 1 ∨ e = 0) (h5 : clean = true → kk ≠ 5) :
    Fine (.ite ((l.length + 1) * 32 ≤ appendMax ∧ 1 ≤ 32) <| .mat (doR (kk, (a, (b, (e, ())))) (p, ()) g) fun r => .ret (.inl (iwrap .i64 (k - 1), s', l ++ [(kk, (a, (b, (e, ()))))], r.2))) (Drawn g clean c k l p) := by
  have hd := vDeed_of hk ha hb he h1 h2
  refine Fine.ite (by unfold appendMax; omega) fun _ => Fine.get (show doR (kk, a, b, e, ()) (p, ()) g = some _ from askO_true (by rw [Bool.and_eq_true, Bool.and_eq_true]; exact ⟨⟨hg, hd⟩, okP_mono hp hm⟩)) (.ret ?_)
  exact ⟨s', (kk, a, b, e, ()), rfl, hs.mono hc, hd, h5⟩
set_option maxHeartbeats 4000000 in
theorem deeds_step {g : G8} {clean : Bool} {count : Int} (hg : isG g = true) (hcount : count = statG g) {c : Nat} {k : Int} {s : Src} {l : List D8} {p : P8} (hk : 0 < k) (hs : srcOK c s) (hc : c ≤ 50000) (hl : l.length ≤ 1000) {m : Nat} (hm : m ≤ 1000) (hp : okP m g p = true) (hlen : lenP p) :
    Fine (s_l08Deeds_ad92_l5 clean count g (k, s, l, (p, ()))) (Drawn g clean c k l p) := by
  have hb := isG_spec hg
  have hst : statG g = 1 + g.2.2.2.1 + g.2.2.2.2.1 := rfl
  obtain ⟨q1, _, q3, _⟩ := okP_spec hp
  have hcols := (colsG_le hg).1
  have hcount2 : 1 ≤ count ∧ count ≤ 100 := by omega
  have hlen2 : ∀ s ∈ p.1, s.1.length ≤ 10 ∧ s.2.1.length ≤ 10 := hlen
  unfold s_l08Deeds_ad92_l5
  rw [cols_S hg]
  dsimp only
  refine Fine.condp (fun _ => Fine.mat (kind_ok hs (by omega)) fun r5 hr5 => ?_) (fun h => absurd hk h)
  obtain ⟨hr5, hs5⟩ := hr5
  cases clean
  all_goals
    repeat' first
      | with_reducible refine Fine.condp (fun _ => ?_) (fun _ => ?_)
      | (with_reducible refine Fine.mat (pickw_ok q3 (by omega) (by omega) (by assumption) (by omega)) (fun r hr => ?_); obtain ⟨hr1, hr2⟩ := hr)
      | (with_reducible refine Fine.mat (picks_ok (by omega) (by assumption) (by omega)) (fun r hr => ?_); obtain ⟨hr1, hr2⟩ := hr)
      | (with_reducible refine Fine.mat (pickm_ok hcount2 (by assumption) (by omega)) (fun r hr => ?_); obtain ⟨hr1, hr2⟩ := hr)
      | (with_reducible refine Fine.mat (one_ok (by assumption) (by omega)) (fun r hr => ?_))
      | (with_reducible refine Fine.mat (pick_ok (by assumption) (by omega)) (fun r hr => ?_); obtain ⟨hr1, hr2⟩ := hr)
      | (with_reducible refine Fine.at ⟨by omega, by omega⟩ (fun x hx => ?_); have hx1 := (hlen2 x hx).1; have hx2 := shl_n hx1)
      | (with_reducible refine Fine.at0 (by omega) (fun x hx => ?_); have hx1 := (hlen2 x hx).1; have hx2 := shl_n hx1)
      | (with_reducible refine Fine.ite (iwrap_u64_nonneg _) (fun _ => ?_))
      | with_reducible refine deeds_leaf hg hl hm hp (by assumption) (by omega) (by omega) (by omega) (by first | omega | (rw [wrap1 (by omega) (by omega)]; omega)) (by first | omega | (rw [wrapm (by omega) (by omega)]; omega)) (by omega) (by omega) (by first | (intro _; omega) | (intro h; cases h))
      | (with_reducible refine Fine.ite ⟨by omega, by omega⟩ (fun _ => ?_))
      | ((with_reducible refine Fine.cond (fun h => ?_) (fun h => ?_)) <;> (try exact Bool.noConfusion h))
      | (exfalso; omega)
theorem deeds_loop {g : G8} {clean : Bool} (hg : isG g = true) : ∀ (n : Nat) {c : Nat} {s : Src} {l : List D8} {p : P8} {m : Nat}, srcOK c s → c + 30 * n ≤ 50000 → l.length + n ≤ 1000 → m + n ≤ 1000 → okP m g p = true → lenP p → l.all vDeed = true → (clean = true → ∀ d ∈ l, d.1 ≠ 5) →
    ∃ r : Src × List D8, loopF (s_l08Deeds_ad92_l5 clean (statG g) g) ((n : Int), s, l, (p, ())) = some r ∧ (r.2.all vDeed = true ∧ r.2.length = l.length + n ∧ (clean = true → ∀ d ∈ r.2, d.1 ≠ 5)) := by
  intro n
  induction n with
  | zero =>
    intro c s l p m hs _ _ _ hp hq hl hk
    refine ⟨(s, l), loopF_done ?_, hl, rfl, hk⟩
    unfold s_l08Deeds_ad92_l5
    rw [Tre.run_cond, decide_eq_false (by show ¬ ((0 : Nat) : Int) > 0; omega), cond_false, Tre.run_ret]
  | succ n ih =>
    intro c s l p m hs hc hl hm hp hq hv hk
    obtain ⟨o, ho, s', d, rfl, h1, h2, h3⟩ := deeds_step (clean := clean) (k := ((n + 1 : Nat) : Int)) (l := l) hg rfl (by omega) hs (by omega) (by omega) (by omega) hp hq
    rw [wrapm (by omega) (by omega), show ((n + 1 : Nat) : Int) - 1 = (n : Int) by omega] at ho
    rw [loopF_step ho]
    obtain ⟨r, e, r1, r2, r3⟩ := ih (l := l ++ [d]) h1 (by omega) (by simp; omega) (by omega) (doM_ok hg h2 hp) (do_len hg (by omega) hp hq) (by rw [List.all_append, hv, List.all_cons, h2]; rfl) (fun hc x hx => by
      rcases List.mem_append.1 hx with hx | hx
      · exact hk hc x hx
      · simp only [List.mem_singleton] at hx; subst hx; exact h3 hc)
    exact ⟨r, e, r1, by rw [r2]; simp; omega, r3⟩
theorem deeds_ok {g : G8} (hg : isG g = true) (clean : Bool) {more : List Int} (hl : more.length ≤ 3000) (hc : ∀ x ∈ more, 0 ≤ x ∧ x ≤ 255) : ∃ r, s_A2Deeds_F more g clean = some r ∧ (r.all vDeed = true ∧ r.length ≤ 30 ∧ (clean = true → ∀ d ∈ r, d.1 ≠ 5)) := by
  have h0 : srcOK 0 (more, 0, 0, ()) := ⟨hl, hc, Int.le_refl _, Int.le_refl _⟩
  have hb := isG_spec hg
  have hst : statG g = 1 + g.2.2.2.1 + g.2.2.2.2.1 := rfl
  have w1 : iwrap .i64 (1 + g.2.2.2.1) = 1 + g.2.2.2.1 := iwrap_i64 (by omega) (by omega)
  have w2 : iwrap .i64 (iwrap .i64 (1 + g.2.2.2.1) + g.2.2.2.2.1) = statG g := by rw [w1, hst]; exact iwrap_i64 (by omega) (by omega)
  unfold s_A2Deeds_F s_A2Deeds
  refine Fine.run (Fine.mat (P := fun r => r.2.all vDeed = true ∧ r.2.length ≤ 30 ∧ (clean = true → ∀ d ∈ r.2, d.1 ≠ 5)) ?_ fun r hr => .ret hr)
  unfold s_l08Deeds_ad92_F s_l08Deeds_ad92
  refine Fine.run (Fine.get (show beginR g = some (beginM g, ()) from askO_true hg) ?_)
  dsimp only
  rw [w2]
  refine Fine.mat (pick_ok (n := iwrap .i64 (30 + 1)) h0 (by omega)) fun r hr => ?_
  obtain ⟨⟨hr0, hr1⟩, hr2⟩ := hr
  have w3 : iwrap .i64 (30 + 1) = 31 := by decide
  rw [w3] at hr1
  obtain ⟨n, hn⟩ := Int.eq_ofNat_of_zero_le hr0
  rw [hn]
  refine Fine.mat (deeds_loop (clean := clean) hg n hr2 (by omega) (by simp; omega) (by omega) (beginM_ok hg) (begin_len hg) rfl (fun _ d hd => by cases hd)) fun x hx => .ret ?_
  refine ⟨hx.1, ?_, hx.2.2⟩
  rw [hx.2.1]; simp; omega
theorem bytes_of {xs : List Int} (h : (K.sl (.int .u8)).wf xs) : ∀ x ∈ xs, 0 ≤ x ∧ x ≤ 255 := fun x hx => by
  have h1 : (Lit.int .u8 x).wf = true := h.2 x hx
  simp [Lit.wf, IntKind.min, IntKind.max, IntKind.signed, IntKind.bits] at h1
  omega
theorem long_no {a b : List Int} (h : l_a2Long_S a b = false) : a.length ≤ 3000 ∧ b.length ≤ 3000 := by
  unfold l_a2Long_S at h
  by_cases h1 : (a.length : Int) > 3000
  · rw [decide_eq_true h1] at h; cases h
  · rw [decide_eq_false h1, cond_false] at h
    have := of_decide_eq_false h
    omega
end Go.Proofs.Ytkgekgfmnhccmaa

namespace Go.Proofs.Ytkgekgfmnhccmaa
open Go Go.Abs Go.Proofs
end Go.Proofs.Ytkgekgfmnhccmaa

namespace Go.Proofs.Ytkgekgfmnhccmaa
open Go Go.Abs Go.Proofs
-- shared
theorem asked_zero {g : G8} {ds : List D8} (hg : isG g = true) (hd : ds.all vDeed = true) (hl : ds.length ≤ 300) : askedM ds g = 0 := by
  unfold askedM
  rw [hg, hd, decide_eq_false (by omega)]
  rfl
theorem plant_of {g : G8} {ds : List D8} (hg : isG g = true) (hd : ds.all vDeed = true) (hl : ds.length ≤ 300) : plantR g ds = some ((zerosN (runM g ds (beginM g)).2 : Int), 0, (afterM g ds).1, (afterM g ds).2.1) := by
  have hb := isG_spec hg
  have : plantR g ds = some (plantM g ds) := askO_true (by rw [Bool.and_eq_true, decide_eq_true_eq, decide_eq_true_eq]; omega)
  rw [this]
  unfold plantM
  rw [decide_eq_true (asked_zero hg hd hl)]
  rfl
end Go.Proofs.Ytkgekgfmnhccmaa

namespace Go.Proofs.Ytkgekgfmnhccmaa
open Go Go.Abs Go.Proofs
end Go.Proofs.Ytkgekgfmnhccmaa

namespace Go.Proofs.Ytkgekgfmnhccmaa
open Go Go.Abs Go.Proofs
end Go.Proofs.Ytkgekgfmnhccmaa

namespace Go.Proofs.Ytkgekgfmnhccmaa
open Go Go.Abs Go.Proofs
end Go.Proofs.Ytkgekgfmnhccmaa

namespace Go.Proofs.Ytkgekgfmnhccmaa
open Go Go.Abs Go.Proofs
-- shared
def srcN (g : G8) : List Nat := (srcL g).map Int.toNat
def datN (g : G8) : List Nat := g.2.2.1.map Int.toNat
structure SrcOK (g : G8) (N L : Nat) : Prop where
  n : g.1 = (N : Int)
  l : g.2.1 = (L : Int)
  n1 : 1 ≤ N ∧ N ≤ 4
  l1 : 1 ≤ L ∧ L ≤ 6
  src : srcL g = up (srcN g)
  dat : g.2.2.1 = up (datN g)
  heads : Heads N (srcN g)
  tails : (srcN g).map (· >>> N) = datN g
  small : ∀ x ∈ datN g, x < 2 ^ L
  big : ∀ x ∈ srcN g, x < 2 ^ (N + L)
theorem srcL_at (g : G8) (j : Nat) : (srcL g)[j]? = (g.2.2.1[j]?).map fun x => ior .i64 (ishl .i64 1 (j : Int)) (ishl .i64 x g.1) := by
  have key : ∀ (l : List Int) (i : Nat) (acc : List Int), ∃ t : List Int, foldE (β := List Int) (fun (i : Nat) acc x => .inl (acc ++ [ior .i64 (ishl .i64 1 (i : Int)) (ishl .i64 x g.1)])) id i acc l = acc ++ t ∧ ∀ j : Nat, t[j]? = (l[j]?).map fun x => ior .i64 (ishl .i64 1 ((i + j : Nat) : Int)) (ishl .i64 x g.1) := by
    intro l
    induction l with
    | nil => intro i acc; exact ⟨[], by simp [foldE], fun j => by simp⟩
    | cons x l ih =>
      intro i acc
      obtain ⟨t, h1, h2⟩ := ih (i + 1) (acc ++ [ior .i64 (ishl .i64 1 (i : Int)) (ishl .i64 x g.1)])
      refine ⟨ior .i64 (ishl .i64 1 (i : Int)) (ishl .i64 x g.1) :: t, by simp only [foldE]; rw [h1]; simp, fun j => ?_⟩
      cases j with
      | zero => simp
      | succ j => rw [List.getElem?_cons_succ, List.getElem?_cons_succ, h2 j, show i + 1 + j = i + (j + 1) by omega]
  obtain ⟨t, h1, h2⟩ := key g.2.2.1 0 []
  have h3 : srcL g = [] ++ t := h1
  rw [h3, List.nil_append, h2 j, Nat.zero_add]
theorem up_of {xs : List Int} (h : ∀ x ∈ xs, 0 ≤ x) : xs = up (xs.map Int.toNat) := by
  unfold up
  rw [List.map_map]
  refine ((List.map_congr_left fun x hx => ?_).trans (List.map_id _)).symm
  have := h x hx
  simp only [Function.comp_apply, id_eq]
  omega
theorem row_num {N L i n : Nat} (hi : i < N) (hn : n < 2 ^ L) (hN : N ≤ 4) (hL : L ≤ 6) : ior .i64 (ishl .i64 1 (i : Int)) (ishl .i64 (n : Int) (N : Int)) = ((2 ^ i ||| n * 2 ^ N : Nat) : Int) ∧ (2 ^ i ||| n * 2 ^ N) &&& (2 ^ N - 1) = 2 ^ i ∧ (2 ^ i ||| n * 2 ^ N) >>> N = n ∧ 2 ^ i ||| n * 2 ^ N < 2 ^ (N + L) := by
  have p1 := pow_le (b := i) (c := 4) (by omega)
  have p3 : 2 ^ (N + L) ≤ 2 ^ 10 := pow_le (by omega)
  have p4 : n * 2 ^ N < 2 ^ (N + L) := by
    rw [Nat.pow_add, Nat.mul_comm (2 ^ N)]
    exact Nat.mul_lt_mul_of_pos_right hn (Nat.two_pow_pos N)
  have p5 : 2 ^ i < 2 ^ (N + L) := Nat.pow_lt_pow_right (by decide) (by omega)
  have e1 : ishl .i64 1 (i : Int) = ((1 * 2 ^ i : Nat) : Int) := ishl_nat (a := 1) (by omega) (by omega)
  have e2 : ishl .i64 (n : Int) (N : Int) = ((n * 2 ^ N : Nat) : Int) := ishl_nat (by omega) (by omega)
  refine ⟨?_, ?_, ?_, Nat.or_lt_two_pow p5 p4⟩
  · rw [e1, e2, ior_nat (by omega) (by omega), Nat.one_mul]
  · refine Nat.eq_of_testBit_eq fun q => ?_
    rw [Nat.testBit_and, Nat.testBit_or, Nat.testBit_two_pow_sub_one, Nat.testBit_two_pow, Nat.testBit_mul_two_pow]
    by_cases hq : q < N
    · simp [hq, Nat.not_le.2 hq]
    · simp [hq]; omega
  · refine Nat.eq_of_testBit_eq fun q => ?_
    rw [Nat.testBit_shiftRight, Nat.testBit_or, Nat.testBit_two_pow, Nat.testBit_mul_two_pow]
    simp
    omega
theorem src_ok {g : G8} (hg : isG g = true) : ∃ N L : Nat, SrcOK g N L := by
  have hb := isG_spec hg
  obtain ⟨N, hN⟩ := Int.eq_ofNat_of_zero_le (show 0 ≤ g.1 by omega)
  obtain ⟨L, hL⟩ := Int.eq_ofNat_of_zero_le (show 0 ≤ g.2.1 by omega)
  have hall : ∀ x ∈ g.2.2.1, ∃ n : Nat, x = (n : Int) ∧ n < 2 ^ L := fun x hx => by
    unfold isG at hg
    simp only [Bool.and_eq_true] at hg
    have := List.all_eq_true.1 hg.1.1.2 x hx
    rw [hL] at this
    exact inP_nat (by omega) this
  have hat : ∀ (i : Nat) (y : Int), (srcL g)[i]? = some y → ∃ n : Nat, g.2.2.1[i]? = some (n : Int) ∧ i < N ∧ n < 2 ^ L ∧ y = ((2 ^ i ||| n * 2 ^ N : Nat) : Int) := fun i y hy => by
    rw [srcL_at] at hy
    cases hx : g.2.2.1[i]? with
    | none => rw [hx] at hy; cases hy
    | some x =>
      rw [hx, Option.map_some, Option.some.injEq] at hy
      obtain ⟨n, rfl, hn⟩ := hall x (List.mem_of_getElem? hx)
      have hi := (List.getElem?_eq_some_iff.1 hx).1
      have hiN : i < N := by omega
      exact ⟨n, rfl, hiN, hn, by rw [← hy, hN]; exact (row_num hiN hn (by omega) (by omega)).1⟩
  have hsrc : srcL g = up (srcN g) := up_of fun y hy => by
    obtain ⟨i, hi⟩ := List.getElem?_of_mem hy
    obtain ⟨n, _, _, _, rfl⟩ := hat i y hi
    exact Int.natCast_nonneg _
  have hdat : g.2.2.1 = up (datN g) := up_of fun y hy => by
    obtain ⟨n, rfl, _⟩ := hall y hy
    exact Int.natCast_nonneg _
  have hatN : ∀ (i y : Nat), (srcN g)[i]? = some y → ∃ n : Nat, g.2.2.1[i]? = some (n : Int) ∧ i < N ∧ n < 2 ^ L ∧ y = 2 ^ i ||| n * 2 ^ N := fun i y hy => by
    have h1 : (srcL g)[i]? = some (y : Int) := by rw [hsrc]; exact up_at hy
    obtain ⟨n, a, b, c, d⟩ := hat i y h1
    exact ⟨n, a, b, c, by omega⟩
  have hlen : (srcN g).length = N := by unfold srcN; rw [List.length_map, srcL_len]; omega
  refine ⟨N, L, hN, hL, by omega, by omega, hsrc, hdat, ⟨hlen, fun i x hx => ?_⟩, ?_, ?_, ?_⟩
  · obtain ⟨n, _, hi, hn, rfl⟩ := hatN i x hx
    exact (row_num hi hn (by omega) (by omega)).2.1
  · refine List.ext_getElem? fun i => ?_
    rw [List.getElem?_map]
    unfold datN
    rw [List.getElem?_map]
    cases hx : (srcN g)[i]? with
    | none =>
      have h1 := List.getElem?_eq_none_iff.1 hx
      rw [List.getElem?_eq_none_iff.2 (show g.2.2.1.length ≤ i by omega)]
      rfl
    | some x =>
      obtain ⟨n, ha, hi, hn, rfl⟩ := hatN i x hx
      rw [ha, Option.map_some, Option.map_some, (row_num hi hn (by omega) (by omega)).2.2.1, Int.toNat_natCast]
  · intro x hx
    obtain ⟨y, hy, rfl⟩ := List.mem_map.1 hx
    obtain ⟨n, rfl, hn⟩ := hall y hy
    exact hn
  · intro x hx
    obtain ⟨i, hix⟩ := List.getElem?_of_mem hx
    obtain ⟨n, _, hi, hn, rfl⟩ := hatN i x hix
    exact (row_num hi hn (by omega) (by omega)).2.2.2
def inS (g : G8) (x : Int) : Prop := ∃ n : Nat, x = (n : Int) ∧ Sp (srcN g) n
def MixS (g : G8) (xs : List Int) : Prop := (∀ x ∈ xs, inS g x) ∧ (echI xs).length = xs.length
def MixP (g : G8) (p : P8) : Prop := (∀ s ∈ p.1, MixS g s.1 ∧ MixS g s.2.1) ∧ ∀ x ∈ p.2.1, inS g x.2.1
theorem mix_nil (g : G8) : MixS g [] := ⟨fun x hx => (by cases hx), by
  unfold echI
  rw [up_len, List.map_nil, ech_of (ech_zeros (rows := []) fun r hr => by cases hr)]
  rfl⟩
theorem mix_rows {g : G8} {xs : List Int} (h : MixS g xs) : ∃ ns : List Nat, xs = up ns ∧ xs.map Int.toNat = ns ∧ ∀ n ∈ ns, Sp (srcN g) n := by
  have h0 : xs = up (xs.map Int.toNat) := up_of fun x hx => by obtain ⟨n, rfl, _⟩ := h.1 x hx; exact Int.natCast_nonneg _
  refine ⟨_, h0, rfl, fun n hn => ?_⟩
  obtain ⟨x, hx, rfl⟩ := List.mem_map.1 hn
  obtain ⟨m, rfl, hm⟩ := h.1 x hx
  exact hm
theorem begin_mix {g : G8} {N L : Nat} (hS : SrcOK g N L) : MixP g (beginM g) := by
  have hsrc : MixS g (srcL g) := ⟨fun x hx => by
    rw [hS.src] at hx
    obtain ⟨n, hn, rfl⟩ := List.mem_map.1 hx
    exact ⟨n, rfl, .mem hn⟩, by
    unfold echI
    rw [up_len, show (srcL g).map Int.toNat = srcN g from rfl, ech_of hS.heads.ech]
    unfold srcN
    rw [List.length_map]⟩
  refine ⟨fun s hs => ?_, fun x hx => by cases hx⟩
  unfold beginM at hs
  rcases List.mem_cons.1 hs with rfl | hs
  · exact ⟨hsrc, hsrc⟩
  · rw [(List.mem_replicate.1 hs).2]; exact ⟨mix_nil g, mix_nil g⟩
theorem heads_map {g : G8} {N : Nat} {ns : List Nat} (hN : g.1 = (N : Int)) (hn4 : N ≤ 4) (hb : ∀ n ∈ ns, n < 2 ^ 62) : ((up ns).map (headW g)).map Int.toNat = ns.map (· &&& (2 ^ N - 1)) := by
  unfold up
  rw [List.map_map, List.map_map]
  refine List.map_congr_left fun n hn => ?_
  have h1 := hb n hn
  have h2 : 2 ^ N ≤ 2 ^ 62 := pow_le (by omega)
  simp only [Function.comp_apply]
  unfold headW
  rw [hN, top1_nat (by omega), iand_nat (by omega) (by omega), Int.toNat_natCast]
theorem mix_rank {k : Nat} {g : G8} {N L : Nat} {xs : List Int} (hg : isG g = true) (hS : SrcOK g N L) (hk : okS k (colsG g) xs = true) (hk2 : k ≤ 1000) (h : MixS g xs) : rankM g xs = (xs.length : Int) ∧ xs.length ≤ N := by
  have hcols := (colsG_le hg).1
  have hr : okRows 62 xs = true := okS_rows hk (by omega) (by omega)
  have hb := isG_spec hg
  have hh := heads_ok (g := g) (by omega) hr
  have h1 := ech_is (Nat.le_refl 62) hr
  have h2 := ech_is (Nat.le_refl 62) hh.2
  obtain ⟨ns, rfl, he, hs⟩ := mix_rows h
  obtain ⟨ns2, e2, _, hn2, _⟩ := okRows_up hr
  have hns : ns2 = ns := by have := congrArg (·.map Int.toNat) e2; rw [up_toNat, up_toNat] at this; exact this.symm
  subst hns
  rw [heads_map hS.n hS.n1.2 hn2] at h2
  rw [he] at h1
  have h3 := hS.heads.rank hs h1 h2
  have h4 := h.2
  rw [echI_len, he] at h4
  have h5 : (echI ((up ns2).map (headW g))).length = (up ns2).length := by rw [echI_len, heads_map hS.n hS.n1.2 hn2, h3, h4]
  have hN := hS.n1
  have h6 := rank_cols (b := N) (by omega) (by have := hh.1; rw [hS.n, Int.toNat_natCast] at this; exact this)
  unfold rankM
  omega
theorem mix_data {k : Nat} {g : G8} {N L : Nat} {xs : List Int} (hg : isG g = true) (hS : SrcOK g N L) (hk : okS k (colsG g) xs = true) (hk2 : k ≤ 1000) (h : MixS g xs) : datM g xs = cond (decide (xs.length = N)) (0, g.2.2.1) (6, []) := by
  obtain ⟨h1, h2⟩ := mix_rank hg hS hk hk2 h
  have hsp : spoiltM g xs = 0 := by unfold spoiltM; omega
  have hN := hS.n
  unfold datM
  rw [hsp, show iwrap .i64 0 = 0 from by decide, decide_eq_true rfl, cond_true, h1, hN]
  by_cases hl : xs.length = N
  · rw [decide_eq_true hl, decide_eq_false (by omega), cond_true, cond_false]
    have hr : okRows 62 xs = true := okS_rows hk (by omega) (by have := (colsG_le hg).1; omega)
    have h3 := ech_is (Nat.le_refl 62) hr
    have h4 := h.2
    obtain ⟨ns, rfl, he, hs⟩ := mix_rows h
    rw [echI_len] at h4
    rw [he] at h3 h4
    have h5 := hS.heads.full hs h3 (by omega)
    have h6 : echI (up ns) = srcL g := by unfold echI; rw [he, h5, hS.src]
    rw [h6, hS.src]
    have h7 : (up (srcN g)).map (tailW g) = up ((srcN g).map (· >>> N)) := by
      unfold up
      rw [List.map_map, List.map_map]
      refine List.map_congr_left fun n hn => ?_
      simp only [Function.comp_apply]
      unfold tailW
      rw [hN, ishr_nat (by have := hS.n1; omega)]
    rw [h7, hS.tails, ← hS.dat]
  · rw [decide_eq_false hl, decide_eq_true (by omega)]; rfl
end Go.Proofs.Ytkgekgfmnhccmaa

namespace Go.Proofs.Ytkgekgfmnhccmaa
open Go Go.Abs Go.Proofs
-- shared
def Goes (g : G8) (l : List D8) (p p' : P8) : Prop := (runM g l p).1 = p' ∧ ∀ c ∈ (runM g l p).2, c = 0
theorem runM_split (g : G8) : ∀ (l l' : List D8) (p : P8), runM g (l ++ l') p = ((runM g l' (runM g l p).1).1, (runM g l p).2 ++ (runM g l' (runM g l p).1).2) := by
  intro l
  induction l with
  | nil => intro l' p; rfl
  | cons d l ih => intro l' p; simp only [List.cons_append, runM, ih]
theorem Goes.nil (g : G8) (p : P8) : Goes g [] p p := ⟨rfl, fun c hc => (by cases hc)⟩
theorem Goes.app {g : G8} {l l' : List D8} {p p' p'' : P8} (h : Goes g l p p') (k : Goes g l' p' p'') : Goes g (l ++ l') p p'' := by
  obtain ⟨h1, h2⟩ := h
  obtain ⟨k1, k2⟩ := k
  unfold Goes
  rw [runM_split, h1]
  refine ⟨k1, fun c hc => ?_⟩
  rcases List.mem_append.1 hc with hc | hc
  · exact h2 c hc
  · exact k2 c hc
theorem Goes.one {g : G8} {d : D8} {p p' : P8} (h : doM g d p = (0, p')) : Goes g [d] p p' := by
  refine ⟨?_, fun c hc => ?_⟩
  · show (doM g d p).2 = p'
    rw [h]
  · have hc : c ∈ [(doM g d p).1] := hc
    rw [h] at hc
    simpa using hc
theorem go_drop {g : G8} {st : List (List Int × List Int × Unit)} {x : Int × Int × Unit} {l : List (Int × Int × Unit)} : doM g dropD (st, x :: l, ()) = (0, (st, l, ())) := by
  have hd : doM g dropD (st, x :: l, ()) = wireM g dropD (st, x :: l, ()) := rfl
  rw [hd]
  unfold wireM
  have h1 : decide (dropD.2.1 ≥ (((st, x :: l, ()) : P8).2.1.length : Int)) = false := decide_eq_false (by simp [dropD])
  rw [h1, cond_false]
  rfl
theorem go_drops {g : G8} {st : List (List Int × List Int × Unit)} : ∀ (w : List (Int × Int × Unit)), Goes g (List.replicate w.length dropD) (st, w, ()) (st, [], ()) := by
  intro w
  induction w with
  | nil => exact .nil _ _
  | cons x w ih =>
    rw [List.length_cons, List.replicate_succ]
    exact (Goes.one go_drop).app ih
theorem go_own {g : G8} {p : P8} {r : Nat} {x : List Int × List Int × Unit} {k : Int} (hk : k = 6 ∨ k = 7 ∨ k = 8) (hx : p.1[r]? = some x) :
    doM g (k, (r : Int), 0, 0, ()) p = (0, (p.1.set r (cond (decide (k = 6)) (x.1, x.1, ()) (cond (decide (k = 7)) (x.2.1, x.2) ([], x.2))), p.2)) := by
  have hr : r < p.1.length := (List.getElem?_eq_some_iff.1 hx).1
  unfold doM
  have h1 : decide (((k, (r : Int), 0, 0, ()) : D8).1 = 1) = false := decide_eq_false (by show ¬ k = 1; omega)
  have h2 : inR ((k, (r : Int), 0, 0, ()) : D8).1 2 5 = false := by rw [inR_false]; show k < 2 ∨ 5 < k; omega
  have h3 : decide (((k, (r : Int), 0, 0, ()) : D8).2.1 ≥ (p.1.length : Int)) = false := decide_eq_false (by show ¬ (r : Int) ≥ _; omega)
  rw [h1, h2, h3, cond_false, cond_false, cond_false]
  simp only [Int.toNat_natCast, hx]
theorem go_send {g : G8} {N L : Nat} {st : List (List Int × List Int × Unit)} {x0 xr : List Int × List Int × Unit} {r i : Nat} (hS : SrcOK g N L) (h0 : st[0]? = some x0) (hx0 : x0.1 = srcL g) (hr : st[r]? = some xr) (hr0 : r ≠ 0) (hi : i < N) (hxr : xr.1 = up ((srcN g).take i)) :
    Goes g [sendD (r : Int) i, deliverD] (st, [], ()) (st.set r (up ((srcN g).take (i + 1)), xr.2), [], ()) := by
  have hl0 : 0 < st.length := (List.getElem?_eq_some_iff.1 h0).1
  have hlr : r < st.length := (List.getElem?_eq_some_iff.1 hr).1
  have hN := hS.n1
  have hlen : (srcL g).length = N := by rw [hS.src, up_len, hS.heads.len]
  obtain ⟨y, hix⟩ : ∃ y, (srcN g)[i]? = some y := ⟨_, List.getElem?_eq_getElem (by rw [hS.heads.len]; exact hi)⟩
  have p1 : 2 ^ i < 2 ^ N := Nat.pow_lt_pow_right (by decide) hi
  have p2 := pow_le (b := N) (c := 4) hN.2
  have ht : timesL ((2 ^ i : Nat) : Int) (srcL g) = (y : Int) := by
    rw [hS.src, timesL_eq (b := N + L) (by omega) (by have := hS.l1; omega) (by have := hS.heads.len; omega) hS.big]
    have := selN_pow (srcN g) 0 i hix
    rw [Nat.zero_add] at this
    rw [this]
  have hsh : ishl .i64 1 ((x0.1.length : Nat) : Int) = ((2 ^ N : Nat) : Int) := by
    rw [hx0, hlen, show (1 : Int) = ((1 : Nat) : Int) from rfl, ishl_nat (by omega) (by omega), Nat.one_mul]
  have hsend : doM g (sendD (r : Int) i) (st, [], ()) = (0, (st, [((r : Int), (y : Int), ())], ())) := by
    have hd : doM g (sendD (r : Int) i) (st, [], ()) = sendM (sendD (r : Int) i) (st, [], ()) := rfl
    rw [hd]
    unfold sendM
    have c1 : decide ((sendD (r : Int) i).2.1 ≥ (((st, [], ()) : P8).1.length : Int)) = false := decide_eq_false (by show ¬ (0 : Int) ≥ (st.length : Int); omega)
    have c2 : decide ((sendD (r : Int) i).2.2.1 ≥ (((st, [], ()) : P8).1.length : Int)) = false := decide_eq_false (by show ¬ (r : Int) ≥ (st.length : Int); omega)
    have c3 : decide ((sendD (r : Int) i).2.1 = (sendD (r : Int) i).2.2.1) = false := decide_eq_false (by show ¬ (0 : Int) = (r : Int); omega)
    have c4 : decide ((sendD (r : Int) i).2.2.1 = 0) = false := decide_eq_false (by show ¬ (r : Int) = 0; omega)
    rw [c1, c2, c3, c4]
    have e0 : ((st, [], ()) : P8).1[(sendD (r : Int) i).2.1.toNat]? = some x0 := h0
    rw [e0]
    simp only [Bool.or_false, cond_false]
    rw [hsh]
    have c5 : decide ((sendD (r : Int) i).2.2.2.1 ≥ ((2 ^ N : Nat) : Int)) = false := decide_eq_false (by show ¬ ((2 ^ i : Nat) : Int) ≥ _; omega)
    have c6 : decide ((sendD (r : Int) i).2.2.2.1 = 0) = false := decide_eq_false (by show ¬ ((2 ^ i : Nat) : Int) = 0; have := Nat.two_pow_pos i; omega)
    rw [c5, c6, cond_false, cond_false]
    show cond (decide ((0 : Int) = 12)) _ (0, (st, [] ++ [((r : Int), timesL ((2 ^ i : Nat) : Int) x0.1, ())], ())) = _
    rw [hx0, ht]
    rfl
  have hrows : xr.1 ++ [(y : Int)] = up ((srcN g).take (i + 1)) := by
    rw [hxr, List.take_add_one, hix]
    unfold up
    simp
  have hcome : comeM ((r : Int), (y : Int), ()) st = st.set r (up ((srcN g).take (i + 1)), xr.2) := by
    unfold comeM
    simp only [Int.toNat_natCast, hr]
    rw [hrows]
    have he : (echI (up ((srcN g).take (i + 1)))).length = (up ((srcN g).take (i + 1))).length := by
      unfold echI
      rw [up_toNat, ech_of (hS.heads.ech_take (i + 1) (by omega))]
    rw [he, decide_eq_true rfl, cond_true]
  have hdel : doM g deliverD (st, [((r : Int), (y : Int), ())], ()) = (0, (st.set r (up ((srcN g).take (i + 1)), xr.2), [], ())) := by
    have hd : doM g deliverD (st, [((r : Int), (y : Int), ())], ()) = wireM g deliverD (st, [((r : Int), (y : Int), ())], ()) := rfl
    rw [hd]
    unfold wireM
    have h1 : decide (deliverD.2.1 ≥ (((st, [((r : Int), (y : Int), ())], ()) : P8).2.1.length : Int)) = false := decide_eq_false (by simp [deliverD])
    rw [h1, cond_false]
    show ((0 : Int), (comeM ((r : Int), (y : Int), ()) st, [], ())) = _
    rw [hcome]
  exact (Goes.one hsend).app (Goes.one hdel)
theorem go_sends {g : G8} {N L : Nat} {x0 : List Int × List Int × Unit} {sv : List Int × Unit} {r : Nat} (hS : SrcOK g N L) (hx0 : x0.1 = srcL g) (hr0 : r ≠ 0) : ∀ (n i : Nat) {st : List (List Int × List Int × Unit)}, i + n = N → st[0]? = some x0 → st[r]? = some (up ((srcN g).take i), sv) →
    Goes g (sendsFrom (r : Int) i n) (st, [], ()) (st.set r (up (srcN g), sv), [], ()) := by
  intro n
  induction n with
  | zero =>
    intro i st hi h0 hr
    have hlr : r < st.length := (List.getElem?_eq_some_iff.1 hr).1
    have : st.set r (up (srcN g), sv) = st := by
      apply List.ext_getElem?
      intro j
      rw [List.getElem?_set]
      by_cases hj : r = j
      · subst hj
        rw [if_pos rfl, if_pos hlr, hr, List.take_of_length_le (by rw [hS.heads.len]; omega)]
      · rw [if_neg hj]
    rw [this]
    exact .nil _ _
  | succ n ih =>
    intro i st hi h0 hr
    have hlr : r < st.length := (List.getElem?_eq_some_iff.1 hr).1
    have h1 := go_send hS h0 hx0 hr hr0 (i := i) (by omega) rfl
    have h2 := ih (i + 1) (st := st.set r (up ((srcN g).take (i + 1)), sv)) (by omega) (by rw [List.getElem?_set, if_neg hr0]; exact h0) (by rw [List.getElem?_set, if_pos rfl, if_pos hlr])
    rw [List.set_set] at h2
    exact h1.app h2
theorem go_give {g : G8} {N L : Nat} {st : List (List Int × List Int × Unit)} {x0 xr : List Int × List Int × Unit} {r : Nat} (hS : SrcOK g N L) (h0 : st[0]? = some x0) (hx0 : x0.1 = srcL g) (hr : st[r]? = some xr) (hr0 : r ≠ 0) :
    Goes g (giveD g (r : Int)) (st, [], ()) (st.set r (srcL g, srcL g, ()), [], ()) := by
  have hlr : r < st.length := (List.getElem?_eq_some_iff.1 hr).1
  have h1 := go_own (g := g) (p := (st, [], ())) (k := 8) (by omega) hr
  have h2 := go_sends (x0 := x0) (sv := xr.2) hS hx0 hr0 N 0 (st := st.set r ([], xr.2)) (by omega) (by rw [List.getElem?_set, if_neg hr0]; exact h0) (by rw [List.getElem?_set, if_pos rfl, if_pos hlr]; rfl)
  rw [List.set_set] at h2
  have h3 := go_own (g := g) (p := (st.set r (up (srcN g), xr.2), [], ())) (r := r) (x := (up (srcN g), xr.2)) (k := 6) (by omega) (by show (st.set r (up (srcN g), xr.2))[r]? = _; rw [List.getElem?_set, if_pos rfl, if_pos hlr])
  have hN : g.1.toNat = N := by rw [hS.n, Int.toNat_natCast]
  have k1 : Goes g [forgetD (r : Int)] (st, [], ()) (st.set r ([], xr.2), [], ()) := .one h1
  have k3 : Goes g [saveD (r : Int)] (st.set r (up (srcN g), xr.2), [], ()) (st.set r (srcL g, srcL g, ()), [], ()) := by
    refine .one (h3.trans ?_)
    show ((0 : Int), ((st.set r (up (srcN g), xr.2)).set r (up (srcN g), up (srcN g), ()), [], ())) = _
    rw [List.set_set, ← hS.src]
  unfold giveD
  rw [hN]
  exact k1.app (h2.app k3)
theorem go_all {g : G8} {N L : Nat} {x0 : List Int × List Int × Unit} {p0 : P8} (hS : SrcOK g N L) (hx0 : x0.1 = srcL g) (hk : knowsM g (srcL g) = true) : ∀ (n r : Nat) {st : List (List Int × List Int × Unit)}, 1 ≤ r → r + n ≤ st.length → st[0]? = some x0 → (∀ j, r ≤ j → st[j]? = p0.1[j]?) →
    ∃ st' : List (List Int × List Int × Unit), Goes g (giveAll g p0 r n) (st, [], ()) (st', [], ()) ∧ (∀ j, r ≤ j → j < r + n → knowsM g (rowsI (st', [], ()) j) = true) ∧ ∀ j, j < r → st'[j]? = st[j]? := by
  intro n
  induction n with
  | zero => intro r st _ _ _ _; exact ⟨st, .nil _ _, fun j h1 h2 => by omega, fun j _ => rfl⟩
  | succ n ih =>
    intro r st h1 hl h0 hs
    have hrl : r < st.length := by omega
    obtain ⟨xr, hxr⟩ : ∃ x, st[r]? = some x := ⟨_, List.getElem?_eq_getElem hrl⟩
    have hrow : rowsI p0 r = xr.1 := by unfold rowsI; rw [← hs r (Nat.le_refl r), hxr]
    have hown : ∀ {st' : List (List Int × List Int × Unit)} {x : List Int × List Int × Unit}, st'[r]? = some x → rowsI (st', [], ()) r = x.1 := fun {st' x} h => by
      unfold rowsI
      show (match st'[r]? with | some x => x.1 | none => []) = x.1
      rw [h]
    simp only [giveAll, hrow]
    cases hkn : knowsM g xr.1
    · rw [cond_false]
      have hg1 := go_give hS h0 hx0 hxr (by omega)
      obtain ⟨st', k1, k2, k3⟩ := ih (r + 1) (st := st.set r (srcL g, srcL g, ())) (by omega) (by simp; omega) (by rw [List.getElem?_set, if_neg (by omega)]; exact h0) (fun j hj => by rw [List.getElem?_set, if_neg (by omega)]; exact hs j (by omega))
      refine ⟨st', hg1.app k1, fun j hj1 hj2 => ?_, fun j hj => by rw [k3 j (by omega), List.getElem?_set, if_neg (by omega)]⟩
      by_cases hj : j = r
      · subst hj
        have := k3 j (by omega)
        rw [List.getElem?_set, if_pos rfl, if_pos hrl] at this
        rw [hown this]
        exact hk
      · exact k2 j (by omega) (by omega)
    · rw [cond_true]
      obtain ⟨st', k1, k2, k3⟩ := ih (r + 1) (st := st) (by omega) (by omega) h0 (fun j hj => hs j (by omega))
      refine ⟨st', k1, fun j hj1 hj2 => ?_, fun j hj => k3 j (by omega)⟩
      by_cases hj : j = r
      · subst hj
        have := k3 j (by omega)
        rw [hxr] at this
        rw [hown this]
        exact hkn
      · exact k2 j (by omega) (by omega)
def Src0 (g : G8) (p : P8) : Prop := (∃ x, p.1[0]? = some x ∧ (x.1 = srcL g ∨ x.1 = []) ∧ (x.2.1 = srcL g ∨ x.2.1 = [])) ∧ ∀ y ∈ p.2.1, y.1 ≠ 0
theorem src0_set {g : G8} {st : List (List Int × List Int × Unit)} {w : List (Int × Int × Unit) × Unit} {i : Nat} {y : List Int × List Int × Unit} (h : Src0 g (st, w)) (hy : i = 0 → (y.1 = srcL g ∨ y.1 = []) ∧ (y.2.1 = srcL g ∨ y.2.1 = [])) : Src0 g (st.set i y, w) := by
  obtain ⟨⟨x, hx, h1⟩, h2⟩ := h
  refine ⟨?_, h2⟩
  have hl : 0 < st.length := (List.getElem?_eq_some_iff.1 hx).1
  by_cases hi : i = 0
  · subst hi
    exact ⟨y, by show (st.set 0 y)[0]? = _; rw [List.getElem?_set, if_pos rfl, if_pos hl], hy rfl⟩
  · exact ⟨x, by show (st.set i y)[0]? = _; rw [List.getElem?_set, if_neg hi]; exact hx, h1⟩
theorem src0_wire {g : G8} {st : List (List Int × List Int × Unit)} {w w' : List (Int × Int × Unit)} (h : Src0 g (st, w, ())) (hw : ∀ y ∈ w', y.1 ≠ 0) : Src0 g (st, w', ()) := ⟨h.1, hw⟩
theorem begin_src0 (g : G8) : Src0 g (beginM g) := ⟨⟨(srcL g, srcL g, ()), rfl, .inl rfl, .inl rfl⟩, fun y hy => by cases hy⟩
theorem come_src0 {g : G8} {p : P8} {x : Int × Int × Unit} (h : Src0 g p) (hx : x.1 ≠ 0) (hx0 : 0 ≤ x.1) : Src0 g (comeM x p.1, p.2) := by
  unfold comeM
  cases hs : p.1[x.1.toNat]? with
  | none => exact h
  | some s =>
    simp only
    cases decide (((echI (s.1 ++ [x.2.1])).length : Int) = ((s.1 ++ [x.2.1]).length : Int))
    · exact h
    · exact src0_set (w := p.2) h fun hi => absurd hi (by omega)
theorem do_src0 {k : Nat} {g : G8} {d : D8} {p : P8} (hd : vDeed d = true) (hp : okP k g p = true) (h : Src0 g p) : Src0 g (doM g d p).2 := by
  unfold doM
  cases decide (d.1 = 1)
  case true =>
    rw [cond_true]
    unfold sendM
    by_cases hb : d.2.2.1 = 0
    · rw [decide_eq_true hb]
      simp only [Bool.or_true, cond_true]
      exact h
    cases (decide (d.2.1 ≥ (p.1.length : Int)) || (decide (d.2.2.1 ≥ (p.1.length : Int)) || (decide (d.2.1 = d.2.2.1) || decide (d.2.2.1 = 0))))
    case true => exact h
    rw [cond_false]
    cases p.1[d.2.1.toNat]? with
    | none => exact h
    | some s =>
      simp only
      cases decide (d.2.2.2.1 ≥ ishl .i64 1 (s.1.length : Int))
      case true => exact h
      cases decide (d.2.2.2.1 = 0)
      case true => exact h
      cases decide ((p.2.1.length : Int) = 12)
      case true => exact h
      simp only [cond_false]
      refine src0_wire (w := p.2.1) h fun y hy => ?_
      rcases List.mem_append.1 hy with hy | hy
      · exact h.2 y hy
      · simp only [List.mem_singleton] at hy
        subst hy
        exact hb
  rw [cond_false]
  cases inR d.1 2 5
  case true =>
    rw [cond_true]
    unfold wireM
    cases decide (d.2.1 ≥ (p.2.1.length : Int))
    case true => exact h
    rw [cond_false]
    cases hx : p.2.1[d.2.1.toNat]? with
    | none => exact h
    | some x =>
      simp only
      have hm := List.mem_of_getElem? hx
      have hx0 := h.2 x hm
      have hxn := ((okP_spec hp).2.2.2 x hm).1.1
      cases decide (d.1 = 5)
      case true =>
        rw [cond_true]
        cases (decide (d.2.2.1 = 0) || decide (d.2.2.1 ≥ ishl .i64 1 (colsG g : Int)))
        · refine src0_wire (w := p.2.1) h fun y hy => ?_
          rcases List.mem_or_eq_of_mem_set hy with hy | rfl
          · exact h.2 y hy
          · exact hx0
        · exact h
      rw [cond_false]
      have hcut : ∀ y ∈ (cond (decide (d.1 = 3)) p.2.1 (p.2.1.take d.2.1.toNat ++ p.2.1.drop (d.2.1.toNat + 1))), y.1 ≠ 0 := fun y hy => by
        refine h.2 y ?_
        cases hc3 : decide (d.1 = 3)
        · rw [hc3, cond_false] at hy
          rcases List.mem_append.1 hy with hy | hy
          · exact List.mem_of_mem_take hy
          · exact List.mem_of_mem_drop hy
        · rw [hc3, cond_true] at hy; exact hy
      cases decide (d.1 = 4)
      · exact src0_wire (come_src0 h hx0 hxn) hcut
      · exact src0_wire (st := p.1) (w := p.2.1) h hcut
  rw [cond_false]
  cases decide (d.2.1 ≥ (p.1.length : Int))
  case true => exact h
  rw [cond_false]
  cases hs : p.1[d.2.1.toNat]? with
  | none => exact h
  | some s =>
    simp only
    have hs0 : d.2.1.toNat = 0 → (s.1 = srcL g ∨ s.1 = []) ∧ (s.2.1 = srcL g ∨ s.2.1 = []) := fun h0 => by
      obtain ⟨⟨x, hx, h1⟩, _⟩ := h
      rw [h0] at hs
      rw [hs] at hx
      cases hx
      exact h1
    cases decide (d.1 = 6)
    · cases decide (d.1 = 7)
      · exact src0_set (w := p.2) h fun h0 => ⟨.inr rfl, (hs0 h0).2⟩
      · exact src0_set (w := p.2) h fun h0 => ⟨(hs0 h0).2, (hs0 h0).2⟩
    · exact src0_set (w := p.2) h fun h0 => ⟨(hs0 h0).1, (hs0 h0).1⟩
theorem run_src0 {g : G8} (hg : isG g = true) : ∀ (l : List D8) {k : Nat} {p : P8}, l.all vDeed = true → okP k g p = true → Src0 g p → Src0 g (runM g l p).1 := by
  intro l
  induction l with
  | nil => intro k p _ _ h; exact h
  | cons d l ih =>
    intro k p hd hp h
    simp only [List.all_cons, Bool.and_eq_true] at hd
    exact ih hd.2 (doM_ok hg hd.1 hp) (do_src0 hd.1 hp h)
theorem go_plan {g : G8} {N L : Nat} {p : P8} {k : Nat} (hg : isG g = true) (hS : SrcOK g N L) (hp : okP k g p = true) (h : Src0 g p) (hsv : ∃ x, p.1[0]? = some x ∧ N ≤ x.2.1.length) (hk : knowsM g (srcL g) = true) :
    ∃ st' : List (List Int × List Int × Unit), Goes g (finM g p) p (st', [], ()) ∧ ∀ j : Nat, 1 + g.2.2.2.1 ≤ (j : Int) → (j : Int) < statG g → knowsM g (rowsI (st', [], ()) j) = true := by
  obtain ⟨st, w, ⟨⟩⟩ := p
  obtain ⟨x, hx, hlen⟩ := hsv
  obtain ⟨⟨x', hx', h1, h2⟩, _⟩ := h
  have hx : st[0]? = some x := hx
  have hx' : st[0]? = some x' := hx'
  rw [hx] at hx'
  cases hx'
  have hb := isG_spec hg
  have hN := hS.n1
  have hl : (srcL g).length = N := by rw [hS.src, up_len, hS.heads.len]
  obtain ⟨q1, _, _, _⟩ := okP_spec hp
  have q1 : (st.length : Int) = statG g := q1
  have hst : statG g = 1 + g.2.2.2.1 + g.2.2.2.2.1 := rfl
  have hs2 : x.2.1 = srcL g := h2.resolve_right fun h0 => by rw [h0] at hlen; simp at hlen; omega
  have hrow0 : rowsI (st, w, ()) 0 = x.1 := by
    unfold rowsI
    show (match st[0]? with | some x => x.1 | none => []) = x.1
    rw [hx]
  have hd := go_drops (g := g) (st := st) w
  obtain ⟨r0, hr0⟩ := Int.eq_ofNat_of_zero_le (show 0 ≤ 1 + g.2.2.2.1 by omega)
  obtain ⟨n0, hn0⟩ := Int.eq_ofNat_of_zero_le (show 0 ≤ g.2.2.2.2.1 by omega)
  unfold finM
  rw [hrow0, hr0, hn0, Int.toNat_natCast, Int.toNat_natCast]
  have hN2 := hS.n
  by_cases hc : ((x.1.length : Nat) : Int) < g.1
  · rw [decide_eq_true hc, cond_true]
    have hcr := go_own (g := g) (p := (st, [], ())) (r := 0) (k := 7) (by omega) hx
    have hcr : Goes g [crashD] (st, [], ()) (st.set 0 (x.2.1, x.2), [], ()) := .one hcr
    have hl0 : 0 < st.length := (List.getElem?_eq_some_iff.1 hx).1
    obtain ⟨st', k1, k2, k3⟩ := go_all (p0 := (st, w, ())) (x0 := (x.2.1, x.2)) hS hs2 hk n0 r0 (st := st.set 0 (x.2.1, x.2)) (by omega) (by simp; omega) (by rw [List.getElem?_set, if_pos rfl, if_pos hl0]) (fun j hj => by rw [List.getElem?_set, if_neg (by omega)])
    exact ⟨st', hd.app (hcr.app k1), fun j hj1 hj2 => k2 j (by omega) (by omega)⟩
  · rw [decide_eq_false hc, cond_false]
    have hs1 : x.1 = srcL g := h1.resolve_right fun h0 => by rw [h0] at hc; simp at hc; omega
    obtain ⟨st', k1, k2, k3⟩ := go_all (p0 := (st, w, ())) (x0 := x) hS hs1 hk n0 r0 (st := st) (by omega) (by omega) hx (fun j hj => rfl)
    exact ⟨st', hd.app (by rw [List.nil_append]; exact k1), fun j hj1 hj2 => k2 j (by omega) (by omega)⟩
end Go.Proofs.Ytkgekgfmnhccmaa

namespace Go.Proofs.Ytkgekgfmnhccmaa
open Go Go.Abs Go.Proofs
noncomputable def l_FnGathered_l17 (h17_0_1 : TGather) (h17_0_2 : (List TDeed)) : Int → Tre (Int ⊕ (Bool ⊕ Unit)) := fun s17 =>
  .cond (decide (s17 < h17_0_1.2.2.2.2.1))
    (let v8 := iwrap .i64 (1 + h17_0_1.2.2.2.1)
    let v9 := iwrap .i64 (v8 + s17)
    .mat (datAR h17_0_1 h17_0_2 v9) fun r10 =>
    .cond (!decide (r10.1 = 0))
      (.ret (.inr (.inl false)))
      (.mat (s_SameList_F r10.2 h17_0_1.2.2.1) fun r11 =>
      .cond (!r11)
        (.ret (.inr (.inl false)))
        (.ret (.inl (iwrap .i64 (s17 + 1))))))
    (.ret (.inr (.inr ())))
noncomputable def l_FnGathered (p0 : (List Int)) (p1 : (List Int)) : Tre Bool :=
  .cond (l_a2Long_S p0 p1)
    (.ret true)
    (.mat (s_A2Gather_F p0) fun r1 =>
    .mat (s_A2Deeds_F p1 (r1.1, (r1.2.1, (r1.2.2.2, r1.2.2.1))) false) fun r2 =>
    .mat (finR (r1.1, (r1.2.1, (r1.2.2.2, r1.2.2.1))) r2) fun r3 =>
    .mat (finR (r1.1, (r1.2.1, (r1.2.2.2, r1.2.2.1))) r2) fun r4 =>
    .cond (!decide (r3.1 = r4.1))
      (.ret false)
      (.cond (!decide (r4.1 = 0))
        (.cond (decide (r4.1 = 4))
          (.ret true)
          (.ret (decide (r4.1 = 3))))
        (.ite ((0 + r2.length) * 32 ≤ appendMax ∧ 1 ≤ 32) <|
        .ite ((([] ++ r2).length + r3.2.length) * 32 ≤ appendMax ∧ 1 ≤ 32) <|
        .mat (plantR (r1.1, (r1.2.1, (r1.2.2.2, r1.2.2.1))) r2) fun r5 =>
        .mat (plantR (r1.1, (r1.2.1, (r1.2.2.2, r1.2.2.1))) (([] ++ r2) ++ r3.2)) fun r6 =>
        .cond (!decide (r5.2.1 = 0))
          (.ret false)
          (.cond (!decide (r6.2.1 = 0))
            (.ret false)
            (let v7 := iwrap .i64 (r5.1 + (r3.2.length : Int))
            .cond (!decide (r6.1 = v7))
              (.ret false)
              (.mat (loopF (l_FnGathered_l17 (r1.1, (r1.2.1, (r1.2.2.2, r1.2.2.1))) (([] ++ r2) ++ r3.2)) 0) fun l12 =>
              .alt l12
                (fun a13 =>
                  .ret a13)
                (fun _ =>
                  .ret true)))))))
noncomputable def l_FnGathered_F (p0 : (List Int)) (p1 : (List Int)) : Option Bool := (l_FnGathered p0 p1).run some
-- law
theorem sends_valid {r : Int} (hr : 0 ≤ r ∧ r ≤ 10) : ∀ (n i : Nat), i + n ≤ 4 → (sendsFrom r i n).all vDeed = true := by
  intro n
  induction n with
  | zero => intro i _; rfl
  | succ n ih =>
    intro i hi
    have hp := pow_le (b := i) (c := 4) (by omega)
    have hq : 0 ≤ ((2 ^ i : Nat) : Int) := Int.natCast_nonneg _
    have hr2 : ((2 ^ i : Nat) : Int) ≤ 16 := by omega
    generalize he : ((2 ^ i : Nat) : Int) = e at hq hr2
    simp only [sendsFrom, List.all_cons, Bool.and_eq_true, sendD, he]
    exact ⟨vDeed_of (by omega) (by omega) (by omega) (by omega) (by omega) (by omega), vDeed_of (by omega) (by omega) (by omega) (by omega) (by omega) (by omega), ih (i + 1) (by omega)⟩
theorem give_valid {g : G8} (hg : isG g = true) {r : Int} (hr : 0 ≤ r ∧ r ≤ 10) : (giveD g r).all vDeed = true := by
  have hb := isG_spec hg
  unfold giveD
  simp only [List.all_cons, List.all_append, List.all_nil, Bool.and_eq_true, Bool.and_true]
  exact ⟨vDeed_of (by omega) (by omega) (by omega) (by omega) (by omega) (by omega), sends_valid hr _ 0 (by omega), vDeed_of (by omega) (by omega) (by omega) (by omega) (by omega) (by omega)⟩
theorem all_valid {g : G8} (hg : isG g = true) {p : P8} : ∀ (n i : Nat), i + n ≤ 10 → (giveAll g p i n).all vDeed = true := by
  intro n
  induction n with
  | zero => intro i _; rfl
  | succ n ih =>
    intro i hi
    simp only [giveAll]
    cases knowsM g (rowsI p i)
    · rw [cond_false, List.all_append, give_valid hg (by omega), ih (i + 1) (by omega)]; rfl
    · rw [cond_true]; exact ih (i + 1) (by omega)
theorem fin_valid {g : G8} (hg : isG g = true) (p : P8) : (finM g p).all vDeed = true := by
  have hb := isG_spec hg
  unfold finM
  simp only [List.all_append, Bool.and_eq_true]
  refine ⟨?_, ?_, all_valid hg _ _ (by omega)⟩
  · rw [List.all_eq_true]
    intro d hd
    rw [List.eq_of_mem_replicate hd]
    rfl
  · cases decide (((rowsI p 0).length : Int) < g.1) <;> rfl
theorem zeros_app (l l' : List Int) : zerosN (l ++ l') = zerosN l + zerosN l' := by unfold zerosN; rw [List.countP_append]
theorem zeros_all {l : List Int} (h : ∀ c ∈ l, c = 0) : zerosN l = l.length := by
  unfold zerosN
  rw [List.countP_eq_length]
  intro c hc
  rw [decide_eq_true_eq]
  exact h c hc
theorem run_len (g : G8) : ∀ (l : List D8) (p : P8), (runM g l p).2.length = l.length := by
  intro l
  induction l with
  | nil => intro p; rfl
  | cons d l ih => intro p; simp only [runM, List.length_cons, ih]
theorem l_FnGathered_law (p0 p1 : List Int) (h0 : (K.sl (.int .u8)).wf p0) (h1 : (K.sl (.int .u8)).wf p1) : l_FnGathered_F p0 p1 = some true := by
  unfold l_FnGathered_F l_FnGathered
  rw [Tre.run_cond]
  cases hlong : l_a2Long_S p0 p1
  case true => rfl
  obtain ⟨n0, n1⟩ := long_no hlong
  obtain ⟨⟨ga, gb, ⟨gc, gd, ⟨⟩⟩, ge⟩, e1, hg⟩ := gather_ok n0 (bytes_of h0)
  rw [cond_false, run_some_mat e1]
  dsimp only at hg ⊢
  generalize hG : ((ga, gb, ge, gc, gd, ()) : G8) = g at hg
  have hb := isG_spec hg
  have hst : statG g = 1 + g.2.2.2.1 + g.2.2.2.2.1 := rfl
  obtain ⟨ds, e2, hd, hl, _⟩ := deeds_ok hg false n1 (bytes_of h1)
  have hP := afterM_ok hg hd (by omega)
  have eF : finR g ds = some (finRes g ds) := askO_true (by rw [Bool.and_eq_true, decide_eq_true_eq, decide_eq_true_eq]; omega)
  rw [run_some_mat e2, run_some_mat eF, run_some_mat eF, Tre.run_cond, decide_eq_true rfl, Bool.not_true, cond_false, Tre.run_cond]
  unfold finRes
  rw [decide_eq_true (asked_zero hg hd (by omega)), cond_true]
  by_cases hsv : ((savedI (afterM g ds) 0).length : Int) < g.1
  · rw [decide_eq_true hsv]; rfl
  rw [decide_eq_false hsv, cond_false]
  by_cases hmany : (ds.length : Int) + ((finM g (afterM g ds)).length : Int) > 300
  · rw [decide_eq_true hmany]; rfl
  rw [decide_eq_false hmany, cond_false]
  simp only [decide_true, Bool.not_true, cond_false]
  generalize hF : finM g (afterM g ds) = fs at hmany
  obtain ⟨N, L, hS⟩ := src_ok hg
  have hN := hS.n
  have hcols := colsG_le hg
  have hfv : fs.all vDeed = true := by rw [← hF]; exact fin_valid hg _
  have hall : (ds ++ fs).all vDeed = true := by rw [List.all_append, hd, hfv]; rfl
  have hlen : (ds ++ fs).length ≤ 300 := by rw [List.length_append]; omega
  have hlenE : (ds ++ fs).length = ds.length + fs.length := List.length_append
  have hbeg := begin_mix hS
  obtain ⟨x0, hx0, _⟩ := (begin_src0 g).1
  have hbok := beginM_ok hg
  have hsrcok : okS 4 (colsG g) (srcL g) = true := ((okP_spec hbok).2.1 (srcL g, srcL g, ()) (List.mem_cons_self)).1
  have hk : knowsM g (srcL g) = true := by
    have hlenS : (srcL g).length = N := by rw [hS.src, up_len, hS.heads.len]
    unfold knowsM
    rw [mix_data hg hS hsrcok (by omega) (hbeg.1 (srcL g, srcL g, ()) (List.mem_cons_self)).1, decide_eq_true hlenS, cond_true, decide_eq_true rfl, decide_eq_true rfl]
    rfl
  have hs0 : Src0 g (afterM g ds) := run_src0 hg ds hd hbok (begin_src0 g)
  have hsv2 : ∃ x, (afterM g ds).1[0]? = some x ∧ N ≤ x.2.1.length := by
    obtain ⟨⟨x, hx, _⟩, _⟩ := hs0
    refine ⟨x, hx, ?_⟩
    unfold savedI at hsv
    rw [hx] at hsv
    simp only at hsv
    omega
  obtain ⟨st', hgo, hkn⟩ := go_plan hg hS hP hs0 hsv2 hk
  rw [hF] at hgo
  have hap : ((0 + ds.length) * 32 ≤ appendMax ∧ 1 ≤ 32) := by unfold appendMax; omega
  have hap2 : ((([] ++ ds).length + fs.length) * 32 ≤ appendMax ∧ 1 ≤ 32) := by unfold appendMax; simp only [List.nil_append]; omega
  have hsplit := runM_split g ds fs (beginM g)
  have haft : afterM g (ds ++ fs) = (st', [], ()) := by
    unfold afterM
    rw [hsplit]
    exact hgo.1
  have hz : zerosN (runM g (ds ++ fs) (beginM g)).2 = zerosN (runM g ds (beginM g)).2 + fs.length := by
    have hz2 := zeros_all hgo.2
    rw [run_len] at hz2
    rw [hsplit]
    show zerosN (_ ++ _) = _
    rw [zeros_app]
    exact congrArg _ hz2
  have hzl : zerosN (runM g ds (beginM g)).2 ≤ ds.length := by
    have := run_len g ds (beginM g)
    rw [← this]
    exact List.countP_le_length
  rw [Tre.run_ite, if_pos hap, Tre.run_ite, if_pos hap2, List.nil_append, run_some_mat (plant_of hg hd (by omega)), run_some_mat (plant_of hg hall hlen)]
  simp only [Tre.run_cond, decide_true, Bool.not_true, cond_false]
  rw [iwrap_i64 (by omega) (by omega), decide_eq_true (by rw [hz]; omega), Bool.not_true, cond_false]
  have hP2 := afterM_ok hg hall hlen
  have hloop : ∀ (n k : Nat), (k : Int) + (n : Int) = g.2.2.2.2.1 → loopF (l_FnGathered_l17 g (ds ++ fs)) (k : Int) = some (.inr ()) := by
    intro n
    induction n with
    | zero =>
      intro k hk
      refine loopF_done ?_
      unfold l_FnGathered_l17
      rw [Tre.run_cond, decide_eq_false (by omega), cond_false, Tre.run_ret]
    | succ n ih =>
      intro k hk
      have hidx : iwrap .i64 (iwrap .i64 (1 + g.2.2.2.1) + (k : Int)) = 1 + g.2.2.2.1 + (k : Int) := by
        rw [iwrap_i64 (n := 1 + g.2.2.2.1) (by omega) (by omega)]
        exact iwrap_i64 (by omega) (by omega)
      obtain ⟨r, hr⟩ := Int.eq_ofNat_of_zero_le (show 0 ≤ 1 + g.2.2.2.1 + (k : Int) by omega)
      have hkr := hkn r (by omega) (by omega)
      have hrow : rowsM g (ds ++ fs) (r : Int) = rowsI (st', [], ()) r := by unfold rowsM rowsI; rw [haft, Int.toNat_natCast] <;> rfl
      have hcode : codeM g (ds ++ fs) (r : Int) = 0 := by
        rw [codeM_asked, decide_eq_true (asked_zero hg hall hlen), cond_true, show inR (r : Int) 0 (statG g - 1) = true from inR_iff.2 (by omega), cond_true]
      have hask : (decide (g.2.2.1.length ≤ 1048576) && decide ((ds ++ fs).length ≤ 1048576)) = true := by rw [Bool.and_eq_true, decide_eq_true_eq, decide_eq_true_eq]; omega
      unfold knowsM at hkr
      rw [Bool.and_eq_true, decide_eq_true_eq, decide_eq_true_eq] at hkr
      have e3 : datAR g (ds ++ fs) (r : Int) = some (datM g (rowsI (st', [], ()) r)) := by
        have : datAR g (ds ++ fs) (r : Int) = some (datAM g (ds ++ fs) (r : Int)) := askO_true hask
        rw [this]; unfold datAM; rw [decide_eq_true hcode, cond_true, hrow]
      have e5 : s_SameList_F (datM g (rowsI (st', [], ()) r)).2 g.2.2.1 = some true := by
        rw [hkr.2]
        unfold s_SameList_F s_SameList
        have : sameL g.2.2.1 g.2.2.1 = some (decide (g.2.2.1 = g.2.2.1)) := askO_true (by rw [Bool.and_eq_true, decide_eq_true_eq]; omega)
        rw [run_some_mat this, decide_eq_true rfl]; rfl
      have hstep : (l_FnGathered_l17 g (ds ++ fs) (k : Int)).run some = some (.inl ((k + 1 : Nat) : Int)) := by
        unfold l_FnGathered_l17
        rw [Tre.run_cond, decide_eq_true (by omega), cond_true]
        dsimp only
        rw [hidx, hr, run_some_mat e3, Tre.run_cond, decide_eq_true hkr.1, Bool.not_true, cond_false, run_some_mat e5, Bool.not_true, Tre.run_cond, cond_false, Tre.run_ret, iwrap_succ (by omega)]
      rw [loopF_step hstep]
      exact ih (k + 1) (by omega)
  obtain ⟨n0, hn0⟩ := Int.eq_ofNat_of_zero_le (show 0 ≤ g.2.2.2.2.1 by omega)
  have hl0 : loopF (l_FnGathered_l17 g (ds ++ fs)) 0 = _ := hloop n0 0 (by omega)
  rw [run_some_mat hl0]
  rfl
noncomputable def l_FnGathered_V : Env := ⟨tau, [(29, l_a2Long_c), (30, s_A2Gather_c), (31, s_A2Deeds_c), (32, i_FinishDeeds_c), (33, s_FinishDeeds_c), (34, i_PlantAfter_c), (35, i_DataAfter_c), (36, s_SameList_c)], []⟩
noncomputable def l_FnGathered_b : Code := (Try.f5.body).getD .skip
noncomputable def l_FnGathered_l17_mk (h17_0_1 : TGather) (h17_0_2 : (List TDeed)) : Int → St := fun x => stOf [(5, (.ptr (7, 0) [])), (11, (.ref (13, 0) [])), (18, (.imm true (.int .i64) x))] [((7, 0), some ⟨true, kGather, .own, h17_0_1⟩), ((13, 0), some ⟨false, (.sl kDeed), .own, h17_0_2⟩)]
noncomputable def l_FnGathered_l17_out (_h17_0_1 : TGather) (_h17_0_2 : (List TDeed)) : (Bool ⊕ Unit) → Ex × St
  | .inl x => (.ret, stOf [(4, (.imm true .bool x))] [])
  | .inr x => (.exit 0, stOf [(4, .dead)] [])
noncomputable def l_FnGathered_l17_D (s : St) : Tre (Ex × St) :=
  asPtr (7, 0) [] (s.tmps 5) <|
  asRef (13, 0) [] (s.tmps 11) <|
  asImmZ true (.int .i64) (s.tmps 18) fun d4 =>
  asRoot true kGather (s.roots (7, 0)) fun m6 d7 =>
  asM .own m6 <|
  asRoot false (.sl kDeed) (s.roots (13, 0)) fun m9 d10 =>
  asM .own m9 <|
  .mat (loopF (l_FnGathered_l17 d7 d10) d4) fun x => .alt x (fun a0 => .ret (l_FnGathered_l17_out d7 d10 (.inl a0))) (fun b0 => .ret (l_FnGathered_l17_out d7 d10 (.inr b0)))
noncomputable def l_FnGathered_l17_L : LoopI := ⟨([5, 11, 18], [(7, 0), (13, 0)]), ([4], []), l_FnGathered_l17_D⟩
noncomputable def l_FnGathered_A : List (Nat × LoopI) := [(17, l_FnGathered_l17_L)]
set_option maxRecDepth 100000 in
theorem l_FnGathered_l17_step : ∀ (h17_0_1 : TGather) (h17_0_2 : (List TDeed)) (x : Int) (c : St → Option (Ex × St)), den l_FnGathered_V l_FnGathered_A (loopAt l_FnGathered_b 0) (l_FnGathered_l17_mk h17_0_1 h17_0_2 x) (roundK l_FnGathered_l17_L.kp l_FnGathered_l17_L.kx c) = (l_FnGathered_l17 h17_0_1 h17_0_2 x).run (roundR (l_FnGathered_l17_mk h17_0_1 h17_0_2) (l_FnGathered_l17_out h17_0_1 h17_0_2) c) := fun _ _ _ _ => by
  kernel_rfl
theorem l_FnGathered_l17_ok : LoopOK l_FnGathered_V l_FnGathered_A (loopAt l_FnGathered_b 0) l_FnGathered_l17_L := loopOK_of fun s e s' h => by
  generalize hs : restrict l_FnGathered_l17_L.kp s = s1 at h
  have h : (l_FnGathered_l17_D s1).run some = some (e, s') := h
  obtain ⟨e1, h_0⟩ := asPtr_spec h
  obtain ⟨e2, h_1⟩ := asRef_spec h_0
  obtain ⟨d4, e3, h_2⟩ := asImmZ_spec h_1
  obtain ⟨m6, d7, e5, h_3⟩ := asRoot_spec h_2
  obtain ⟨rfl, h_4⟩ := asM_spec h_3
  obtain ⟨m9, d10, e8, h_5⟩ := asRoot_spec h_4
  obtain ⟨rfl, h_6⟩ := asM_spec h_5
  obtain ⟨y, hy, hz⟩ := mat_some h_6
  refine ⟨_, _, l_FnGathered_l17_mk d7 d10, l_FnGathered_l17_out d7 d10, l_FnGathered_l17 d7 d10, d4, y, ?_, hy, ?_, l_FnGathered_l17_step d7 d10⟩
  · subst hs; exact restrict_eq (T := [(5, (.ptr (7, 0) [])), (11, (.ref (13, 0) [])), (18, (.imm true (.int .i64) d4))]) (U := [((7, 0), some ⟨true, kGather, .own, d7⟩), ((13, 0), some ⟨false, (.sl kDeed), .own, d10⟩)]) rfl rfl ⟨e1, e2, e3, trivial⟩ ⟨e5, e8, trivial⟩
  · rcases y with x | x <;> exact Option.some.inj hz
noncomputable def l_FnGathered_I : FnI := ⟨l_FnGathered_b, Try.f5.results.toList, Try.f5.resultTypes.toList, l_FnGathered_A⟩
noncomputable def l_FnGathered_out (_zp0 : Bool) (_zp1 : Bool) (_p0 : (List Int)) (_p1 : (List Int)) : Bool → CallOut := fun r => ⟨(.imm true .bool r), [], []⟩
set_option maxRecDepth 100000 in
theorem l_FnGathered_eq : ∀ (zp0 : Bool) (zp1 : Bool) (p0 : (List Int)) (p1 : (List Int)), denFn l_FnGathered_V l_FnGathered_I ⟨[(.imm zp0 (.sl (.int .u8)) p0), (.imm zp1 (.sl (.int .u8)) p1)], []⟩ = (l_FnGathered p0 p1).run fun r => some (l_FnGathered_out zp0 zp1 p0 p1 r) := fun _ _ _ _ => by kernel_rfl
noncomputable def l_FnGathered_G (av : List AV) (rs : List Root) : Tre CallOut :=
  asCons av fun a0_ av0 =>
  asCons av0 fun a1_ av1 =>
  asEnd av1 <|
  asEnd rs <|
  asImm (.sl (.int .u8)) a0_ fun z2 d1 =>
  asImm (.sl (.int .u8)) a1_ fun z4 d3 =>
  .mat (l_FnGathered_F d1 d3) fun r => .ret (l_FnGathered_out z2 z4 d1 d3 r)
noncomputable def l_FnGathered_c : Ctr := ⟨[], fun ci => l_FnGathered_G ci.args ci.roots⟩
theorem l_FnGathered_env : EnvOK Try.prog l_FnGathered_V := (envOK_cons l_a2Long_ok ent29 (envOK_cons s_A2Gather_ok ent30 (envOK_cons s_A2Deeds_ok ent31 (envOK_cons i_FinishDeeds_ok ent32 (envOK_cons s_FinishDeeds_ok ent33 (envOK_cons i_PlantAfter_ok ent34 (envOK_cons i_DataAfter_ok ent35 (envOK_cons s_SameList_ok ent36 envOK_nil))))))))
set_option maxRecDepth 100000 in
theorem l_FnGathered_ok : Contract Try.prog 5 l_FnGathered_c := by
  have hl : LoopsOK l_FnGathered_V l_FnGathered_A l_FnGathered_b := (loopsOK_all (n := 1) (by kernel_rfl) fun k hk => by
      match k, hk with
      | 0, _ => exact loopOK_at (id := 17) (L := l_FnGathered_l17_L) (by kernel_rfl) (by kernel_rfl) l_FnGathered_l17_ok)
  refine (contract_of (F := l_FnGathered_I) tau_tys l_FnGathered_env Try.func5 (by kernel_rfl) (by kernel_rfl) (by kernel_rfl) hl []).weaken ?_
  rintro ⟨av, rs⟩ co h
  have h : (l_FnGathered_G av rs).run some = some co := h
  obtain ⟨a0_, av0, rfl, h_0⟩ := asCons_spec h
  obtain ⟨a1_, av1, rfl, h_1⟩ := asCons_spec h_0
  obtain ⟨rfl, h_2⟩ := asEnd_spec h_1
  obtain ⟨rfl, h_3⟩ := asEnd_spec h_2
  obtain ⟨z2, d1, rfl, h_4⟩ := asImm_spec h_3
  obtain ⟨z4, d3, rfl, h_5⟩ := asImm_spec h_4
  exact fin_mat (l_FnGathered_eq z2 z4 d1 d3) h_5
end Go.Proofs.Ytkgekgfmnhccmaa
