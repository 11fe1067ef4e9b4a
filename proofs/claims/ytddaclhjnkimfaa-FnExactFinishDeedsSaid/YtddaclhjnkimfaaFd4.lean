/- Part 4 of the proof of FnExactFinishDeeds. -/
import Derived.Test.YtddaclhjnkimfaaFd3
namespace Go.Proofs.Ytddaclhjnkimfaa
open Go Go.Abs Go.Proofs

/-! function 20: loop.example/g01144/spec.FinishDeeds -/
noncomputable def s_FinishDeeds_l9 (h9_0_2 : (Int × (Int × ((List Int) × (Int × (Int × Unit)))))) : (Int × (((List ((List Int) × ((List Int) × Unit))) × ((List (Int × (Int × Unit))) × Unit)) × Unit) × ((List (Int × (Int × (Int × (Int × Unit))))) × Unit)) → Tre ((Int × (((List ((List Int) × ((List Int) × Unit))) × ((List (Int × (Int × Unit))) × Unit)) × Unit) × ((List (Int × (Int × (Int × (Int × Unit))))) × Unit)) ⊕ ((((List ((List Int) × ((List Int) × Unit))) × ((List (Int × (Int × Unit))) × Unit)) × Unit) × ((List (Int × (Int × (Int × (Int × Unit))))) × Unit))) := fun s9 =>
  .cond (decide (s9.1 > 0))
    (.mat (pdoR (4, (0, (0, (0, ())))) s9.2.2 s9.2.1 h9_0_2) fun r5 =>
    .ret (.inl (iwrap .i64 (s9.1 - 1), r5.2, r5.1)))
    (.ret (.inr (s9.2.1, s9.2.2)))
noncomputable def s_FinishDeeds_l22 (h22_0_2 : Int) (h22_0_4 : (Int × (Int × ((List Int) × (Int × (Int × Unit)))))) : (Int × (((List ((List Int) × ((List Int) × Unit))) × ((List (Int × (Int × Unit))) × Unit)) × Unit) × ((List (Int × (Int × (Int × (Int × Unit))))) × Unit)) → Tre ((Int × (((List ((List Int) × ((List Int) × Unit))) × ((List (Int × (Int × Unit))) × Unit)) × Unit) × ((List (Int × (Int × (Int × (Int × Unit))))) × Unit)) ⊕ ((((List ((List Int) × ((List Int) × Unit))) × ((List (Int × (Int × Unit))) × Unit)) × Unit) × ((List (Int × (Int × (Int × (Int × Unit))))) × Unit))) := fun s22 =>
  .cond (decide (s22.1 < h22_0_4.1))
    (.ite (0 ≤ iwrap .u64 s22.1) <|
    let v17 := ishl .i64 1 (iwrap .u64 s22.1)
    .mat (pdoR (1, (0, (h22_0_2, (v17, ())))) s22.2.2 s22.2.1 h22_0_4) fun r18 =>
    .mat (pdoR (2, (0, (0, (0, ())))) r18.1 r18.2 h22_0_4) fun r19 =>
    .ret (.inl (iwrap .i64 (s22.1 + 1), r19.2, r19.1)))
    (.ret (.inr (s22.2.1, s22.2.2)))
noncomputable def s_FinishDeeds_l15 (h15_0_2 : (Int × (Int × ((List Int) × (Int × (Int × Unit)))))) : (Int × (((List ((List Int) × ((List Int) × Unit))) × ((List (Int × (Int × Unit))) × Unit)) × Unit) × ((List (Int × (Int × (Int × (Int × Unit))))) × Unit)) → Tre ((Int × (((List ((List Int) × ((List Int) × Unit))) × ((List (Int × (Int × Unit))) × Unit)) × Unit) × ((List (Int × (Int × (Int × (Int × Unit))))) × Unit)) ⊕ (((List (Int × (Int × (Int × (Int × Unit))))) × Unit) × (((List ((List Int) × ((List Int) × Unit))) × ((List (Int × (Int × Unit))) × Unit)) × Unit))) := fun s15 =>
  .cond (decide (s15.1 < h15_0_2.2.2.2.2.1))
    (let v10 := iwrap .i64 (1 + h15_0_2.2.2.2.1)
    let v11 := iwrap .i64 (v10 + s15.1)
    .ite (0 ≤ v11 ∧ v11 < (s15.2.1.1.1.length : Int)) <|
    .mat (s15.2.1.1.1[v11.toNat]?) fun _ =>
    .mat (s15.2.1.1.1[v11.toNat]?) fun x13 =>
    .mat (datR h15_0_2 x13.1) fun r14 =>
    .cond (decide (r14.1 = 0))
      (.mat (sameL r14.2 h15_0_2.2.2.1) fun r15 =>
      .cond r15
        (.ret (.inl (iwrap .i64 (s15.1 + 1), s15.2.1, s15.2.2)))
        (.mat (pdoR (8, (v11, (0, (0, ())))) s15.2.2 s15.2.1 h15_0_2) fun r16 =>
        .mat (loopF (s_FinishDeeds_l22 v11 h15_0_2) (0, r16.2, r16.1)) fun l20 =>
        .mat (pdoR (6, (v11, (0, (0, ())))) l20.2 l20.1 h15_0_2) fun r21 =>
        .ret (.inl (iwrap .i64 (s15.1 + 1), r21.2, r21.1))))
      (.mat (pdoR (8, (v11, (0, (0, ())))) s15.2.2 s15.2.1 h15_0_2) fun r22 =>
      .mat (loopF (s_FinishDeeds_l22 v11 h15_0_2) (0, r22.2, r22.1)) fun l23 =>
      .mat (pdoR (6, (v11, (0, (0, ())))) l23.2 l23.1 h15_0_2) fun r24 =>
      .ret (.inl (iwrap .i64 (s15.1 + 1), r24.2, r24.1))))
    (.ret (.inr (s15.2.2, s15.2.1)))
noncomputable def s_FinishDeeds (p0 : (Int × (Int × ((List Int) × (Int × (Int × Unit)))))) (p1 : (List (Int × (Int × (Int × (Int × Unit)))))) : Tre (Int × (List (Int × (Int × (Int × (Int × Unit)))))) :=
  .mat (askedR p1 p0) fun r1 =>
  .cond (!decide (r1 = 0))
    (.ret (r1, []))
    (.mat (playR p1 p0) fun r2 =>
    .ite (0 ≤ (0 : Int) ∧ (0 : Int) < (r2.1.1.1.length : Int)) <|
    .mat (r2.1.1.1[0]?) fun _ =>
    .mat (r2.1.1.1[0]?) fun x4 =>
    .cond (decide ((x4.2.1.length : Int) < p0.1))
      (.ret (4, []))
      (.mat (loopF (s_FinishDeeds_l9 p0) ((r2.1.1.2.1.length : Int), r2.1, ([], ()))) fun l6 =>
      .ite (0 ≤ (0 : Int) ∧ (0 : Int) < (l6.1.1.1.length : Int)) <|
      .mat (l6.1.1.1[0]?) fun _ =>
      .mat (l6.1.1.1[0]?) fun x8 =>
      .cond (decide ((x8.1.length : Int) < p0.1))
        (.mat (pdoR (7, (0, (0, (0, ())))) l6.2 l6.1 p0) fun r9 =>
        .mat (loopF (s_FinishDeeds_l15 p0) (0, r9.2, r9.1)) fun l25 =>
        let v26 := iwrap .i64 ((p1.length : Int) + (l25.1.1.length : Int))
        .cond (decide (v26 > 300))
          (.ret (3, []))
          (.ret (0, l25.1.1)))
        (.mat (loopF (s_FinishDeeds_l15 p0) (0, l6.1, l6.2)) fun l27 =>
        let v28 := iwrap .i64 ((p1.length : Int) + (l27.1.1.length : Int))
        .cond (decide (v28 > 300))
          (.ret (3, []))
          (.ret (0, l27.1.1)))))
noncomputable def s_FinishDeeds_F (p0 : (Int × (Int × ((List Int) × (Int × (Int × Unit)))))) (p1 : (List (Int × (Int × (Int × (Int × Unit)))))) : Option (Int × (List (Int × (Int × (Int × (Int × Unit)))))) := (s_FinishDeeds p0 p1).run some
noncomputable def savedI (p : P8) (i : Nat) : List Int := match p.1[i]? with
  | some x => x.2.1
  | none => []
noncomputable def finRes (g : G8) (ds : List D8) : Int × List D8 :=
  cond (decide (askedM ds g = 0)) (cond (decide (((savedI (afterM g ds) 0).length : Int) < g.1)) (4, []) (cond (decide ((ds.length : Int) + ((finM g (afterM g ds)).length : Int) > 300)) (3, []) (0, finM g (afterM g ds)))) (askedM ds g, [])
noncomputable def finR (g : G8) (ds : List D8) : Option (Int × List D8) := askO (decide (g.2.2.1.length ≤ 1048576) && decide (ds.length ≤ 1048576)) (finRes g ds)
theorem plan_do {g : G8} {d : D8} {l : List D8} {p : P8} {c : Nat} (hg : isG g = true) (hd : vDeed d = true) (hp : okP c g p = true) (hc : c ≤ 1000) (hl : l.length ≤ 1048576) : pdoR d (l, ()) (p, ()) g = some ((l ++ [d], ()), ((doM g d p).2, ())) :=
  askO_true (by simp only [Bool.and_eq_true, decide_eq_true_eq]; exact ⟨⟨⟨hg, hd⟩, okP_mono hp hc⟩, hl⟩)
theorem fin_l9 {g : G8} (hg : isG g = true) : ∀ (w : List (Int × Int × Unit)) {c : Nat} {st : List (List Int × List Int × Unit)} {l : List D8}, okP c g (st, w, ()) = true → c + w.length ≤ 1000 → l.length + w.length ≤ 1000 →
    loopF (s_FinishDeeds_l9 g) ((w.length : Int), ((st, w, ()), ()), (l, ())) = some (((st, [], ()), ()), (l ++ List.replicate w.length dropD, ())) ∧ okP (c + w.length) g (st, [], ()) = true := by
  intro w
  induction w with
  | nil =>
    intro c st l hp _ _
    refine ⟨loopF_done ?_, hp⟩
    unfold s_FinishDeeds_l9
    simp [Tre.run_cond, Tre.run_ret]
  | cons x w ih =>
    intro c st l hp hc hl
    simp only [List.length_cons] at hc hl
    have hdo : (doM g dropD (st, x :: w, ())).2 = (st, w, ()) := drop_do rfl
    have hp2 : okP (c + 1) g (st, w, ()) = true := by rw [← hdo]; exact doM_ok hg rfl hp
    have hstep : (s_FinishDeeds_l9 g (((x :: w).length : Int), ((st, x :: w, ()), ()), (l, ()))).run some = some (.inl ((w.length : Int), ((st, w, ()), ()), (l ++ [dropD], ()))) := by
      unfold s_FinishDeeds_l9
      dsimp only
      rw [Tre.run_cond, show decide (((x :: w).length : Int) > 0) = true from by simp, cond_true, run_some_mat (show pdoR (4, 0, 0, 0, ()) (l, ()) ((st, x :: w, ()), ()) g = _ from plan_do (d := dropD) hg rfl hp (by omega) (by omega)), Tre.run_ret, hdo, iwrap_i64 (by simp only [List.length_cons]; omega) (by simp only [List.length_cons]; omega)]
      simp only [List.length_cons]
      rw [show ((w.length + 1 : Nat) : Int) - 1 = (w.length : Int) from by omega]
    obtain ⟨h1, h2⟩ := ih (l := l ++ [dropD]) hp2 (by omega) (by simp; omega)
    rw [loopF_step hstep, h1]
    refine ⟨?_, by rw [List.length_cons, show c + (w.length + 1) = c + 1 + w.length by omega]; exact h2⟩
    rw [List.length_cons, List.replicate_succ, List.append_assoc]
    rfl
theorem send_valid {r : Int} {i : Nat} (h1 : 0 ≤ r) (h2 : r ≤ 9999) (hi : i ≤ 3) : vDeed (sendD r i) = true := by
  have hp : 2 ^ i ≤ 8 := pow_le (b := i) (c := 3) hi
  have e1 : inR r 0 9999 = true := inR_iff.2 ⟨h1, h2⟩
  have e2 : inR ((2 ^ i : Nat) : Int) 0 9999 = true := inR_iff.2 ⟨Int.natCast_nonneg _, Int.le_trans (Int.ofNat_le.2 hp) (by decide)⟩
  unfold vDeed sendD
  simp only [e1, e2]
  rfl
theorem own_valid {k r : Int} (hk : k = 6 ∨ k = 8) (h1 : 0 ≤ r) (h2 : r ≤ 9999) : vDeed (k, r, 0, 0, ()) = true := by
  have e1 : inR r 0 9999 = true := inR_iff.2 ⟨h1, h2⟩
  unfold vDeed
  simp only [e1]
  rcases hk with rfl | rfl <;> rfl
theorem ishl_pow {i : Nat} (hi : i ≤ 3) : ishl .i64 1 (i : Int) = ((2 ^ i : Nat) : Int) := shl_cols (by omega)
theorem fin_l22 {g : G8} (hg : isG g = true) {r : Int} (h1 : 0 ≤ r) (h2 : r ≤ 9999) : ∀ (n i : Nat) {c : Nat} {p : P8} {l : List D8}, (i : Int) + (n : Int) = g.1 → okP c g p = true → c + 2 * n ≤ 1000 → l.length + 2 * n ≤ 1000 →
    loopF (s_FinishDeeds_l22 r g) ((i : Int), (p, ()), (l, ())) = some ((runP g (sendsFrom r i n) p, ()), (l ++ sendsFrom r i n, ())) ∧ okP (c + 2 * n) g (runP g (sendsFrom r i n) p) = true := by
  have hb := isG_spec hg
  intro n
  induction n with
  | zero =>
    intro i c p l hi hp _ _
    refine ⟨loopF_done ?_, hp⟩
    unfold s_FinishDeeds_l22
    rw [Tre.run_cond, show decide (((i : Int), (p, ()), ((l, ()) : List D8 × Unit)).1 < g.1) = false from decide_eq_false (by show ¬ (i : Int) < g.1; omega), cond_false, Tre.run_ret]
    simp [sendsFrom, runP]
  | succ n ih =>
    intro i c p l hi hp hc hl
    have hv := send_valid (r := r) (i := i) h1 h2 (by omega)
    have hp1 := doM_ok hg hv hp
    have hp2 := doM_ok (d := deliverD) hg rfl hp1
    have hstep : (s_FinishDeeds_l22 r g ((i : Int), (p, ()), (l, ()))).run some = some (.inl (((i + 1 : Nat) : Int), ((doM g deliverD (doM g (sendD r i) p).2).2, ()), (l ++ [sendD r i] ++ [deliverD], ()))) := by
      have hw : iwrap .u64 (i : Int) = (i : Int) := iwrap_u64 (by omega) (by omega)
      unfold s_FinishDeeds_l22
      dsimp only
      rw [Tre.run_cond, decide_eq_true (show (i : Int) < g.1 by omega), cond_true, hw, Tre.run_ite, if_pos (by omega), ishl_pow (by omega)]
      rw [run_some_mat (show pdoR (1, 0, r, ((2 ^ i : Nat) : Int), ()) (l, ()) (p, ()) g = _ from plan_do (d := sendD r i) hg hv hp (by omega) (by omega))]
      dsimp only
      rw [run_some_mat (show pdoR (2, 0, 0, 0, ()) (l ++ [sendD r i], ()) ((doM g (sendD r i) p).2, ()) g = _ from plan_do (d := deliverD) hg rfl hp1 (by omega) (by simp; omega)), Tre.run_ret, iwrap_succ (by omega)]
    obtain ⟨e1, e2⟩ := ih (i + 1) (c := c + 2) (p := (doM g deliverD (doM g (sendD r i) p).2).2) (l := l ++ [sendD r i] ++ [deliverD]) (by omega) hp2 (by omega) (by simp; omega)
    rw [loopF_step hstep, e1]
    refine ⟨?_, by rw [show c + 2 * (n + 1) = c + 2 + 2 * n by omega]; exact e2⟩
    simp [sendsFrom, runP]
/-- a station is given the data -/
theorem fin_give {g : G8} (hg : isG g = true) {r : Int} (h1 : 0 ≤ r) (h2 : r ≤ 9999) {c : Nat} {p : P8} {l : List D8} (hp : okP c g p = true) (hc : c + 10 ≤ 1000) (hl : l.length + 10 ≤ 1000) {ρ : Type} {k : (List D8 × Unit) × (P8 × Unit) → Tre ρ} {cc : ρ → Option ρ} :
    (Tre.mat (pdoR (8, r, 0, 0, ()) (l, ()) (p, ()) g) fun r16 => .mat (loopF (s_FinishDeeds_l22 r g) (0, r16.2, r16.1)) fun l20 => .mat (pdoR (6, r, 0, 0, ()) l20.2 l20.1 g) k).run cc = (k ((l ++ giveD g r, ()), (runP g (giveD g r) p, ()))).run cc ∧ okP (c + 10) g (runP g (giveD g r) p) = true := by
  have hb := isG_spec hg
  obtain ⟨m, hm⟩ := Int.eq_ofNat_of_zero_le (show 0 ≤ g.1 by omega)
  have hp1 := doM_ok hg (own_valid (k := 8) (by omega) h1 h2) hp
  obtain ⟨e1, e2⟩ := fin_l22 hg h1 h2 m 0 (l := l ++ [forgetD r]) (by omega) hp1 (by omega) (by simp; omega)
  have hp3 := doM_ok hg (own_valid (k := 6) (by omega) h1 h2) e2
  have hrun : runP g (giveD g r) p = (doM g (saveD r) (runP g (sendsFrom r 0 m) (doM g (forgetD r) p).2)).2 := by
    unfold giveD
    simp only [runP]
    rw [runP_app, hm, Int.toNat_natCast]
    rfl
  constructor
  · rw [run_some_mat (show pdoR (8, r, 0, 0, ()) (l, ()) (p, ()) g = _ from plan_do (d := forgetD r) hg (own_valid (by omega) h1 h2) hp (by omega) (by omega))]
    dsimp only
    have e1 : loopF (s_FinishDeeds_l22 r g) (0, ((doM g (forgetD r) p).2, ()), (l ++ [forgetD r], ())) = _ := e1
    rw [run_some_mat e1]
    dsimp only
    rw [run_some_mat (show pdoR (6, r, 0, 0, ()) (l ++ [forgetD r] ++ sendsFrom r 0 m, ()) (runP g (sendsFrom r 0 m) (doM g (8, r, 0, 0, ()) p).2, ()) g = _ from plan_do (d := saveD r) hg (own_valid (by omega) h1 h2) e2 (by omega) (by simp [sendsFrom_len]; omega)), hrun]
    unfold giveD
    rw [hm, Int.toNat_natCast, show l ++ forgetD r :: (sendsFrom r 0 m ++ [saveD r]) = l ++ [forgetD r] ++ sendsFrom r 0 m ++ [saveD r] from by simp]
    rfl
  · rw [hrun]
    exact okP_mono hp3 (by omega)
theorem know_len {g : G8} {r : Nat} {p : P8} (h : isG g = true) : (giveD g r).length ≤ 10 := by
  have hb := isG_spec h
  unfold giveD
  simp only [List.length_cons, List.length_append, sendsFrom_len, List.length_nil]
  omega
theorem fin_l15 {g : G8} (hg : isG g = true) {p0 : P8} : ∀ (n k : Nat) {c : Nat} {p : P8} {l : List D8}, (k : Int) + (n : Int) = g.2.2.2.2.1 → okP c g p = true → c + 10 * n ≤ 1000 → l.length + 10 * n ≤ 1000 → p.2.1 = [] → (∀ j : Nat, 1 + g.2.2.2.1 + (k : Int) ≤ (j : Int) → p.1[j]? = p0.1[j]?) →
    ∃ p' : P8, loopF (s_FinishDeeds_l15 g) ((k : Int), (p, ()), (l, ())) = some ((l ++ giveAll g p0 (1 + g.2.2.2.1 + (k : Int)).toNat n, ()), (p', ())) := by
  have hb := isG_spec hg
  intro n
  induction n with
  | zero =>
    intro k c p l hk _ _ _ _ _
    refine ⟨p, loopF_done ?_⟩
    unfold s_FinishDeeds_l15
    rw [Tre.run_cond, show decide (((k : Int), (p, ()), ((l, ()) : List D8 × Unit)).1 < g.2.2.2.2.1) = false from decide_eq_false (by show ¬ (k : Int) < g.2.2.2.2.1; omega), cond_false, Tre.run_ret]
    simp [giveAll]
  | succ n ih =>
    intro k c p l hk hp hc hl hw hr
    obtain ⟨r, hrr⟩ := Int.eq_ofNat_of_zero_le (show 0 ≤ 1 + g.2.2.2.1 + (k : Int) by omega)
    obtain ⟨q1, q2, q3, q4⟩ := okP_spec hp
    have hst : statG g = 1 + g.2.2.2.1 + g.2.2.2.2.1 := rfl
    have hlt : r < p.1.length := by omega
    obtain ⟨x, hx⟩ : ∃ x, p.1[r]? = some x := ⟨_, List.getElem?_eq_getElem hlt⟩
    have hx0 : rowsI p0 r = x.1 := by unfold rowsI; rw [← hr r (by omega), hx]
    have hok := (q2 x (List.mem_of_getElem? hx)).1
    have hdat : datR g x.1 = some (datM g x.1) := askO_true (by rw [Bool.and_eq_true]; exact ⟨hg, okS_mono hok (by omega)⟩)
    have w1 : iwrap .i64 (1 + g.2.2.2.1) = 1 + g.2.2.2.1 := iwrap_i64 (by omega) (by omega)
    have w2 : iwrap .i64 (1 + g.2.2.2.1 + (k : Int)) = (r : Int) := by rw [hrr]; exact iwrap_i64 (by omega) (by omega)
    have hnext : (1 + g.2.2.2.1 + ((k + 1 : Nat) : Int)).toNat = r + 1 := by omega
    have hall : giveAll g p0 (1 + g.2.2.2.1 + (k : Int)).toNat (n + 1) = cond (knowsM g x.1) (giveAll g p0 (r + 1) n) (giveD g (r : Int) ++ giveAll g p0 (r + 1) n) := by
      rw [hrr, Int.toNat_natCast]
      simp only [giveAll, hx0]
    have hlen : (datM g x.1).2.length ≤ 1048576 := datM_len hg hok
    have hsame : sameL (datM g x.1).2 g.2.2.1 = some (decide ((datM g x.1).2 = g.2.2.1)) := askO_true (by simp only [Bool.and_eq_true, decide_eq_true_eq]; omega)
    obtain ⟨eg1, eg2⟩ := fin_give (r := (r : Int)) hg (by omega) (by omega) hp (by omega) (l := l) (by omega)
      (k := fun r21 => (.ret (.inl (iwrap .i64 ((k : Int) + 1), r21.2, r21.1)) : Tre ((Int × ((P8 × Unit) × (List D8 × Unit))) ⊕ ((List D8 × Unit) × (P8 × Unit))))) (cc := some)
    have hcalm := give_calm (g := g) (r := r) hw
    have hgl := know_len (g := g) (r := r) (p := p) hg
    have hcase : (s_FinishDeeds_l15 g ((k : Int), (p, ()), (l, ()))).run some = some (.inl (cond (knowsM g x.1) (((k + 1 : Nat) : Int), (p, ()), (l, ())) (((k + 1 : Nat) : Int), (runP g (giveD g (r : Int)) p, ()), (l ++ giveD g (r : Int), ())))) := by
      unfold s_FinishDeeds_l15
      dsimp only
      rw [Tre.run_cond, decide_eq_true (show (k : Int) < g.2.2.2.2.1 by omega), cond_true, w1, w2, Tre.run_ite, if_pos ⟨by omega, by omega⟩, Int.toNat_natCast, run_some_mat hx, run_some_mat hx, run_some_mat hdat, Tre.run_cond]
      unfold knowsM
      cases h0 : decide ((datM g x.1).1 = 0)
      · rw [cond_false, Bool.false_and, cond_false, eg1, Tre.run_ret, iwrap_succ (by omega)]
      · rw [cond_true, run_some_mat hsame, Bool.true_and, Tre.run_cond]
        cases decide ((datM g x.1).2 = g.2.2.1)
        · rw [cond_false, cond_false, eg1, Tre.run_ret, iwrap_succ (by omega)]
        · rw [cond_true, cond_true, Tre.run_ret, iwrap_succ (by omega)]
    rw [loopF_step hcase, hall]
    cases knowsM g x.1
    · simp only [cond_false]
      obtain ⟨p', e⟩ := ih (k + 1) (p := runP g (giveD g (r : Int)) p) (l := l ++ giveD g (r : Int)) (by omega) eg2 (by omega) (by simp; omega) hcalm.wire (fun j hj => by rw [hcalm.rest j (by omega)]; exact hr j (by omega))
      exact ⟨p', by rw [e, hnext, List.append_assoc]⟩
    · simp only [cond_true]
      obtain ⟨p', e⟩ := ih (k + 1) (p := p) (l := l) (by omega) hp (by omega) (by omega) hw (fun j hj => hr j (by omega))
      exact ⟨p', by rw [e, hnext]⟩
theorem giveAll_len {g : G8} (h : isG g = true) (p : P8) : ∀ (n i : Nat), (giveAll g p i n).length ≤ 10 * n := by
  intro n
  induction n with
  | zero => intro i; simp [giveAll]
  | succ n ih =>
    intro i
    simp only [giveAll]
    have h1 := ih (i + 1)
    have h2 := know_len (g := g) (r := i) (p := p) h
    cases knowsM g (rowsI p i)
    · rw [cond_false, List.length_append]; omega
    · rw [cond_true]; omega
theorem finM_len {g : G8} (h : isG g = true) {k : Nat} {p : P8} (hp : okP k g p = true) : (finM g p).length ≤ 50 := by
  have hb := isG_spec h
  have h1 := giveAll_len h p g.2.2.2.2.1.toNat (1 + g.2.2.2.1).toNat
  have h3 := (okP_spec hp).2.2.1
  unfold finM
  simp only [List.length_append, List.length_replicate]
  cases decide (((rowsI p 0).length : Int) < g.1)
  · simp only [cond_false, List.length_nil]; omega
  · simp only [cond_true, List.length_cons, List.length_nil]; omega
theorem s_FinishDeeds_spec (p0 : G8) (p1 : List D8) (y : Int × List D8) (h : finR p0 p1 = some y) : s_FinishDeeds_F p0 p1 = some y := by
  obtain ⟨hok, rfl⟩ := askO_some h
  unfold s_FinishDeeds_F s_FinishDeeds finRes
  rw [run_some_mat (show askedR p1 p0 = some _ from askO_true (by rw [Bool.and_comm] at hok ⊢; exact hok)), Tre.run_cond]
  by_cases h0 : askedM p1 p0 = 0
  · obtain ⟨hg, hd, hl⟩ := askedM_zero h0
    have hb := isG_spec hg
    have hP := afterM_ok hg hd hl
    rw [decide_eq_true h0, Bool.not_true, cond_false, cond_true, run_some_mat (show playR p1 p0 = some ((afterM p0 p1, ()), _) from askO_true (by rw [Bool.and_eq_true, Bool.and_eq_true, decide_eq_true_eq]; exact ⟨⟨hg, hd⟩, hl⟩))]
    dsimp only
    have hfl := finM_len hg hP
    have hfin : ∀ P : P8, afterM p0 p1 = P → finM p0 P = finM p0 (afterM p0 p1) := fun P h => by rw [h]
    generalize afterM p0 p1 = P at hP hfl hfin
    obtain ⟨q1, q2, q3, q4⟩ := okP_spec hP
    have hst : statG p0 = 1 + p0.2.2.2.1 + p0.2.2.2.2.1 := rfl
    have hlt : 0 < P.1.length := by omega
    obtain ⟨x0, hx0⟩ : ∃ x, P.1[0]? = some x := ⟨_, List.getElem?_eq_getElem hlt⟩
    have hsv : savedI P 0 = x0.2.1 := by unfold savedI; rw [hx0]
    have hrw : rowsI P 0 = x0.1 := by unfold rowsI; rw [hx0]
    rw [Tre.run_ite, if_pos ⟨Int.le_refl _, by omega⟩, run_some_mat hx0, run_some_mat hx0, Tre.run_cond, hsv]
    cases decide ((x0.2.1.length : Int) < p0.1)
    case true => rfl
    rw [cond_false, cond_false]
    obtain ⟨st, w, ⟨⟩⟩ := P
    obtain ⟨e1, e2⟩ := fin_l9 (l := []) hg w hP (by simp only at q3; omega) (by simp only at q3; simp; omega)
    rw [run_some_mat e1]
    simp only at hx0 q3 hlt
    rw [Tre.run_ite, if_pos ⟨Int.le_refl _, by show (0 : Int) < (st.length : Int); omega⟩, run_some_mat hx0, run_some_mat hx0, Tre.run_cond]
    have hrel : (0 : Int) ≤ 1 + p0.2.2.2.1 := by omega
    have hfm : finM p0 (st, w, ()) = List.replicate w.length dropD ++ (cond (decide ((x0.1.length : Int) < p0.1)) [crashD] [] ++ giveAll p0 (st, w, ()) (1 + p0.2.2.2.1).toNat p0.2.2.2.2.1.toNat) := by
      unfold finM; rw [hrw]
    rw [hfm] at hfl ⊢
    have hend : ∀ (L : List D8), L.length ≤ 50 → (Tre.cond (decide (iwrap .i64 ((p1.length : Int) + (L.length : Int)) > 300)) (.ret ((3, []) : Int × List D8)) (.ret (0, L))).run some = some (cond (decide ((p1.length : Int) + (L.length : Int) > 300)) (3, []) (0, L)) := by
      intro L hL
      rw [iwrap_i64 (by omega) (by omega), Tre.run_cond]
      cases decide ((p1.length : Int) + (L.length : Int) > 300) <;> rfl
    cases hc : decide ((x0.1.length : Int) < p0.1)
    · rw [cond_false]
      obtain ⟨p', e3⟩ := fin_l15 (p0 := (st, w, ())) hg p0.2.2.2.2.1.toNat 0 (l := [] ++ List.replicate w.length dropD) (by omega) e2 (by omega) (by simp; omega) rfl (fun j _ => rfl)
      have e3 : loopF (s_FinishDeeds_l15 p0) (0, ((st, [], ()), ()), ([] ++ List.replicate w.length dropD, ())) = _ := e3
      rw [run_some_mat e3]
      simp only [hc, cond_false, List.nil_append, Int.natCast_zero, Int.add_zero] at hfl ⊢
      exact hend _ hfl
    · rw [cond_true]
      have hcd : vDeed crashD = true := rfl
      have hp1 := doM_ok hg hcd e2
      have hcalm := own_calm (g := p0) (r := 0) (p := (st, [], ())) (k := 7) (by omega) rfl
      rw [run_some_mat (show pdoR (7, 0, 0, 0, ()) ([] ++ List.replicate w.length dropD, ()) ((st, [], ()), ()) p0 = _ from plan_do (d := crashD) hg hcd e2 (by omega) (by simp; omega))]
      dsimp only
      obtain ⟨p', e3⟩ := fin_l15 (p0 := (st, w, ())) hg p0.2.2.2.2.1.toNat 0 (p := (doM p0 crashD (st, [], ())).2) (l := [] ++ List.replicate w.length dropD ++ [crashD]) (by omega) hp1 (by omega) (by simp; omega) hcalm.wire (fun j hj => hcalm.rest j (by omega))
      have e3 : loopF (s_FinishDeeds_l15 p0) (0, ((doM p0 crashD (st, [], ())).2, ()), ([] ++ List.replicate w.length dropD ++ [crashD], ())) = _ := e3
      rw [run_some_mat e3]
      simp only [hc, cond_true, List.nil_append, Int.natCast_zero, Int.add_zero, List.append_assoc] at hfl ⊢
      exact hend _ hfl
  · rw [decide_eq_false h0]; rfl

noncomputable def s_FinishDeeds_V : Env := ⟨tau, [(47, s_l08Asked_3c39_c), (48, s_l08Play_3c39_c), (49, s_l08Plan_do_6f19_c), (50, s_l08Data_f714_c), (51, s_l00Same_c)], []⟩
noncomputable def s_FinishDeeds_b : Code := (Try.f20.body).getD .skip
noncomputable def s_FinishDeeds_l9_mk (z9_0 : Bool) (z9_1 : Bool) (h9_0_0 : (List (Int × (Int × (Int × (Int × Unit)))))) (h9_0_2 : (Int × (Int × ((List Int) × (Int × (Int × Unit)))))) : (Int × (((List ((List Int) × ((List Int) × Unit))) × ((List (Int × (Int × Unit))) × Unit)) × Unit) × ((List (Int × (Int × (Int × (Int × Unit))))) × Unit)) → St := fun x => stOf [(1, (.imm z9_0 (.sl kDeed) h9_0_0)), (2, (.ptr (4, 0) [])), (7, (.ptr (26, 0) [])), (9, (.ptr (44, 0) [])), (10, (.imm true (.int .i64) x.1))] [((4, 0), some ⟨true, kGather, (.imm z9_1), h9_0_2⟩), ((26, 0), some ⟨true, kL08Run, .own, ((some (4, 0) : Option RName), x.2.1)⟩), ((44, 0), some ⟨true, kL08Plan, .own, ((some (26, 0) : Option RName), x.2.2)⟩)]
noncomputable def s_FinishDeeds_l9_out (z9_0 : Bool) (z9_1 : Bool) (h9_0_0 : (List (Int × (Int × (Int × (Int × Unit)))))) (h9_0_2 : (Int × (Int × ((List Int) × (Int × (Int × Unit)))))) : ((((List ((List Int) × ((List Int) × Unit))) × ((List (Int × (Int × Unit))) × Unit)) × Unit) × ((List (Int × (Int × (Int × (Int × Unit))))) × Unit)) → Ex × St := fun x => (.exit 0, stOf [(1, (.imm z9_0 (.sl kDeed) h9_0_0)), (2, (.ptr (4, 0) [])), (7, (.ptr (26, 0) [])), (9, (.ptr (44, 0) []))] [((4, 0), some ⟨true, kGather, (.imm z9_1), h9_0_2⟩), ((26, 0), some ⟨true, kL08Run, .own, ((some (4, 0) : Option RName), x.1)⟩), ((44, 0), some ⟨true, kL08Plan, .own, ((some (26, 0) : Option RName), x.2)⟩)])
noncomputable def s_FinishDeeds_l9_D (s : St) : Tre (Ex × St) :=
  asImm (.sl kDeed) (s.tmps 1) fun z3 d2 =>
  asPtr (4, 0) [] (s.tmps 2) <|
  asPtr (26, 0) [] (s.tmps 7) <|
  asPtr (44, 0) [] (s.tmps 9) <|
  asImmZ true (.int .i64) (s.tmps 10) fun d8 =>
  asRoot true kGather (s.roots (4, 0)) fun m10 d11 =>
  asMImm m10 fun z12 =>
  asRoot true kL08Run (s.roots (26, 0)) fun m14 d15 =>
  asM .own m14 <|
  asProd d15 fun d16 d17 =>
  asD d16 (some (4, 0) : Option RName) <|
  asRoot true kL08Plan (s.roots (44, 0)) fun m19 d20 =>
  asM .own m19 <|
  asProd d20 fun d21 d22 =>
  asD d21 (some (26, 0) : Option RName) <|
  .mat (loopF (s_FinishDeeds_l9 d11) (d8, d17, d22)) fun x => .ret (s_FinishDeeds_l9_out z3 z12 d2 d11 x)
noncomputable def s_FinishDeeds_l9_L : LoopI := ⟨([1, 2, 7, 9, 10], [(4, 0), (26, 0), (44, 0)]), ([1, 2, 7, 9], [(4, 0), (26, 0), (44, 0)]), s_FinishDeeds_l9_D⟩
noncomputable def s_FinishDeeds_l22_mk (z22_0 : Bool) (z22_1 : Bool) (h22_0_0 : (List (Int × (Int × (Int × (Int × Unit)))))) (h22_0_1 : Int) (h22_0_2 : Int) (h22_0_4 : (Int × (Int × ((List Int) × (Int × (Int × Unit)))))) : (Int × (((List ((List Int) × ((List Int) × Unit))) × ((List (Int × (Int × Unit))) × Unit)) × Unit) × ((List (Int × (Int × (Int × (Int × Unit))))) × Unit)) → St := fun x => stOf [(1, (.imm z22_0 (.sl kDeed) h22_0_0)), (2, (.ptr (4, 0) [])), (7, (.ptr (26, 0) [])), (9, (.ptr (44, 0) [])), (11, (.imm true (.int .i64) h22_0_1)), (12, (.imm true (.int .i64) h22_0_2)), (15, (.imm true (.int .i64) x.1))] [((4, 0), some ⟨true, kGather, (.imm z22_1), h22_0_4⟩), ((26, 0), some ⟨true, kL08Run, .own, ((some (4, 0) : Option RName), x.2.1)⟩), ((44, 0), some ⟨true, kL08Plan, .own, ((some (26, 0) : Option RName), x.2.2)⟩)]
noncomputable def s_FinishDeeds_l22_out (z22_0 : Bool) (z22_1 : Bool) (h22_0_0 : (List (Int × (Int × (Int × (Int × Unit)))))) (h22_0_1 : Int) (h22_0_2 : Int) (h22_0_4 : (Int × (Int × ((List Int) × (Int × (Int × Unit)))))) : ((((List ((List Int) × ((List Int) × Unit))) × ((List (Int × (Int × Unit))) × Unit)) × Unit) × ((List (Int × (Int × (Int × (Int × Unit))))) × Unit)) → Ex × St := fun x => (.exit 4, stOf [(1, (.imm z22_0 (.sl kDeed) h22_0_0)), (2, (.ptr (4, 0) [])), (7, (.ptr (26, 0) [])), (9, (.ptr (44, 0) [])), (11, (.imm true (.int .i64) h22_0_1)), (12, (.imm true (.int .i64) h22_0_2))] [((4, 0), some ⟨true, kGather, (.imm z22_1), h22_0_4⟩), ((26, 0), some ⟨true, kL08Run, .own, ((some (4, 0) : Option RName), x.1)⟩), ((44, 0), some ⟨true, kL08Plan, .own, ((some (26, 0) : Option RName), x.2)⟩)])
noncomputable def s_FinishDeeds_l22_D (s : St) : Tre (Ex × St) :=
  asImm (.sl kDeed) (s.tmps 1) fun z3 d2 =>
  asPtr (4, 0) [] (s.tmps 2) <|
  asPtr (26, 0) [] (s.tmps 7) <|
  asPtr (44, 0) [] (s.tmps 9) <|
  asImmZ true (.int .i64) (s.tmps 11) fun d8 =>
  asImmZ true (.int .i64) (s.tmps 12) fun d10 =>
  asImmZ true (.int .i64) (s.tmps 15) fun d12 =>
  asRoot true kGather (s.roots (4, 0)) fun m14 d15 =>
  asMImm m14 fun z16 =>
  asRoot true kL08Run (s.roots (26, 0)) fun m18 d19 =>
  asM .own m18 <|
  asProd d19 fun d20 d21 =>
  asD d20 (some (4, 0) : Option RName) <|
  asRoot true kL08Plan (s.roots (44, 0)) fun m23 d24 =>
  asM .own m23 <|
  asProd d24 fun d25 d26 =>
  asD d25 (some (26, 0) : Option RName) <|
  .mat (loopF (s_FinishDeeds_l22 d10 d15) (d12, d21, d26)) fun x => .ret (s_FinishDeeds_l22_out z3 z16 d2 d8 d10 d15 x)
noncomputable def s_FinishDeeds_l22_L : LoopI := ⟨([1, 2, 7, 9, 11, 12, 15], [(4, 0), (26, 0), (44, 0)]), ([1, 2, 7, 9, 11, 12], [(4, 0), (26, 0), (44, 0)]), s_FinishDeeds_l22_D⟩
noncomputable def s_FinishDeeds_l15_mk (z15_0 : Bool) (z15_1 : Bool) (h15_0_0 : (List (Int × (Int × (Int × (Int × Unit)))))) (h15_0_2 : (Int × (Int × ((List Int) × (Int × (Int × Unit)))))) : (Int × (((List ((List Int) × ((List Int) × Unit))) × ((List (Int × (Int × Unit))) × Unit)) × Unit) × ((List (Int × (Int × (Int × (Int × Unit))))) × Unit)) → St := fun x => stOf [(1, (.imm z15_0 (.sl kDeed) h15_0_0)), (2, (.ptr (4, 0) [])), (7, (.ptr (26, 0) [])), (9, (.ptr (44, 0) [])), (11, (.imm true (.int .i64) x.1))] [((4, 0), some ⟨true, kGather, (.imm z15_1), h15_0_2⟩), ((26, 0), some ⟨true, kL08Run, .own, ((some (4, 0) : Option RName), x.2.1)⟩), ((44, 0), some ⟨true, kL08Plan, .own, ((some (26, 0) : Option RName), x.2.2)⟩)]
noncomputable def s_FinishDeeds_l15_out (z15_0 : Bool) (z15_1 : Bool) (h15_0_0 : (List (Int × (Int × (Int × (Int × Unit)))))) (h15_0_2 : (Int × (Int × ((List Int) × (Int × (Int × Unit)))))) : (((List (Int × (Int × (Int × (Int × Unit))))) × Unit) × (((List ((List Int) × ((List Int) × Unit))) × ((List (Int × (Int × Unit))) × Unit)) × Unit)) → Ex × St := fun x => (.exit 2, stOf [(1, (.imm z15_0 (.sl kDeed) h15_0_0)), (9, (.ptr (44, 0) []))] [((44, 0), some ⟨true, kL08Plan, .own, ((some (26, 0) : Option RName), x.1)⟩), ((26, 0), some ⟨true, kL08Run, .own, ((some (4, 0) : Option RName), x.2)⟩), ((4, 0), some ⟨true, kGather, (.imm z15_1), h15_0_2⟩)])
noncomputable def s_FinishDeeds_l15_D (s : St) : Tre (Ex × St) :=
  asImm (.sl kDeed) (s.tmps 1) fun z3 d2 =>
  asPtr (4, 0) [] (s.tmps 2) <|
  asPtr (26, 0) [] (s.tmps 7) <|
  asPtr (44, 0) [] (s.tmps 9) <|
  asImmZ true (.int .i64) (s.tmps 11) fun d8 =>
  asRoot true kGather (s.roots (4, 0)) fun m10 d11 =>
  asMImm m10 fun z12 =>
  asRoot true kL08Run (s.roots (26, 0)) fun m14 d15 =>
  asM .own m14 <|
  asProd d15 fun d16 d17 =>
  asD d16 (some (4, 0) : Option RName) <|
  asRoot true kL08Plan (s.roots (44, 0)) fun m19 d20 =>
  asM .own m19 <|
  asProd d20 fun d21 d22 =>
  asD d21 (some (26, 0) : Option RName) <|
  .mat (loopF (s_FinishDeeds_l15 d11) (d8, d17, d22)) fun x => .ret (s_FinishDeeds_l15_out z3 z12 d2 d11 x)
noncomputable def s_FinishDeeds_l15_L : LoopI := ⟨([1, 2, 7, 9, 11], [(4, 0), (26, 0), (44, 0)]), ([1, 9], [(44, 0), (26, 0), (4, 0)]), s_FinishDeeds_l15_D⟩
noncomputable def s_FinishDeeds_A : List (Nat × LoopI) := [(9, s_FinishDeeds_l9_L), (22, s_FinishDeeds_l22_L), (15, s_FinishDeeds_l15_L)]
set_option maxRecDepth 100000 in
theorem s_FinishDeeds_l9_step : ∀ (z9_0 : Bool) (z9_1 : Bool) (h9_0_0 : (List (Int × (Int × (Int × (Int × Unit)))))) (h9_0_2 : (Int × (Int × ((List Int) × (Int × (Int × Unit)))))) (x : (Int × (((List ((List Int) × ((List Int) × Unit))) × ((List (Int × (Int × Unit))) × Unit)) × Unit) × ((List (Int × (Int × (Int × (Int × Unit))))) × Unit))) (c : St → Option (Ex × St)), den s_FinishDeeds_V s_FinishDeeds_A (loopAt s_FinishDeeds_b 0) (s_FinishDeeds_l9_mk z9_0 z9_1 h9_0_0 h9_0_2 x) (roundK s_FinishDeeds_l9_L.kp s_FinishDeeds_l9_L.kx c) = (s_FinishDeeds_l9 h9_0_2 x).run (roundR (s_FinishDeeds_l9_mk z9_0 z9_1 h9_0_0 h9_0_2) (s_FinishDeeds_l9_out z9_0 z9_1 h9_0_0 h9_0_2) c) := fun _ _ _ _ _ _ => by
  kernel_rfl
theorem s_FinishDeeds_l9_ok : LoopOK s_FinishDeeds_V s_FinishDeeds_A (loopAt s_FinishDeeds_b 0) s_FinishDeeds_l9_L := loopOK_of fun s e s' h => by
  generalize hs : restrict s_FinishDeeds_l9_L.kp s = s1 at h
  have h : (s_FinishDeeds_l9_D s1).run some = some (e, s') := h
  obtain ⟨z3, d2, e1, h_0⟩ := asImm_spec h
  obtain ⟨e4, h_1⟩ := asPtr_spec h_0
  obtain ⟨e5, h_2⟩ := asPtr_spec h_1
  obtain ⟨e6, h_3⟩ := asPtr_spec h_2
  obtain ⟨d8, e7, h_4⟩ := asImmZ_spec h_3
  obtain ⟨m10, d11, e9, h_5⟩ := asRoot_spec h_4
  obtain ⟨z12, rfl, h_6⟩ := asMImm_spec h_5
  obtain ⟨m14, d15, e13, h_7⟩ := asRoot_spec h_6
  obtain ⟨rfl, h_8⟩ := asM_spec h_7
  obtain ⟨d16, d17, rfl, h_9⟩ := asProd_spec h_8
  obtain ⟨rfl, h_10⟩ := asD_spec h_9
  obtain ⟨m19, d20, e18, h_11⟩ := asRoot_spec h_10
  obtain ⟨rfl, h_12⟩ := asM_spec h_11
  obtain ⟨d21, d22, rfl, h_13⟩ := asProd_spec h_12
  obtain ⟨rfl, h_14⟩ := asD_spec h_13
  obtain ⟨y, hy, hz⟩ := mat_ret h_14
  refine ⟨_, _, s_FinishDeeds_l9_mk z3 z12 d2 d11, s_FinishDeeds_l9_out z3 z12 d2 d11, s_FinishDeeds_l9 d11, (d8, d17, d22), y, ?_, hy, ?_, s_FinishDeeds_l9_step z3 z12 d2 d11⟩
  · subst hs; exact restrict_eq (T := [(1, (.imm z3 (.sl kDeed) d2)), (2, (.ptr (4, 0) [])), (7, (.ptr (26, 0) [])), (9, (.ptr (44, 0) [])), (10, (.imm true (.int .i64) d8))]) (U := [((4, 0), some ⟨true, kGather, (.imm z12), d11⟩), ((26, 0), some ⟨true, kL08Run, .own, ((some (4, 0) : Option RName), d17)⟩), ((44, 0), some ⟨true, kL08Plan, .own, ((some (26, 0) : Option RName), d22)⟩)]) rfl rfl ⟨e1, e4, e5, e6, e7, trivial⟩ ⟨e9, e13, e18, trivial⟩
  · exact Option.some.inj hz
set_option maxRecDepth 100000 in
theorem s_FinishDeeds_l22_step : ∀ (z22_0 : Bool) (z22_1 : Bool) (h22_0_0 : (List (Int × (Int × (Int × (Int × Unit)))))) (h22_0_1 : Int) (h22_0_2 : Int) (h22_0_4 : (Int × (Int × ((List Int) × (Int × (Int × Unit)))))) (x : (Int × (((List ((List Int) × ((List Int) × Unit))) × ((List (Int × (Int × Unit))) × Unit)) × Unit) × ((List (Int × (Int × (Int × (Int × Unit))))) × Unit))) (c : St → Option (Ex × St)), den s_FinishDeeds_V s_FinishDeeds_A (loopAt s_FinishDeeds_b 2) (s_FinishDeeds_l22_mk z22_0 z22_1 h22_0_0 h22_0_1 h22_0_2 h22_0_4 x) (roundK s_FinishDeeds_l22_L.kp s_FinishDeeds_l22_L.kx c) = (s_FinishDeeds_l22 h22_0_2 h22_0_4 x).run (roundR (s_FinishDeeds_l22_mk z22_0 z22_1 h22_0_0 h22_0_1 h22_0_2 h22_0_4) (s_FinishDeeds_l22_out z22_0 z22_1 h22_0_0 h22_0_1 h22_0_2 h22_0_4) c) := fun _ _ _ _ _ _ _ _ => by
  kernel_rfl
theorem s_FinishDeeds_l22_ok : LoopOK s_FinishDeeds_V s_FinishDeeds_A (loopAt s_FinishDeeds_b 2) s_FinishDeeds_l22_L := loopOK_of fun s e s' h => by
  generalize hs : restrict s_FinishDeeds_l22_L.kp s = s1 at h
  have h : (s_FinishDeeds_l22_D s1).run some = some (e, s') := h
  obtain ⟨z3, d2, e1, h_0⟩ := asImm_spec h
  obtain ⟨e4, h_1⟩ := asPtr_spec h_0
  obtain ⟨e5, h_2⟩ := asPtr_spec h_1
  obtain ⟨e6, h_3⟩ := asPtr_spec h_2
  obtain ⟨d8, e7, h_4⟩ := asImmZ_spec h_3
  obtain ⟨d10, e9, h_5⟩ := asImmZ_spec h_4
  obtain ⟨d12, e11, h_6⟩ := asImmZ_spec h_5
  obtain ⟨m14, d15, e13, h_7⟩ := asRoot_spec h_6
  obtain ⟨z16, rfl, h_8⟩ := asMImm_spec h_7
  obtain ⟨m18, d19, e17, h_9⟩ := asRoot_spec h_8
  obtain ⟨rfl, h_10⟩ := asM_spec h_9
  obtain ⟨d20, d21, rfl, h_11⟩ := asProd_spec h_10
  obtain ⟨rfl, h_12⟩ := asD_spec h_11
  obtain ⟨m23, d24, e22, h_13⟩ := asRoot_spec h_12
  obtain ⟨rfl, h_14⟩ := asM_spec h_13
  obtain ⟨d25, d26, rfl, h_15⟩ := asProd_spec h_14
  obtain ⟨rfl, h_16⟩ := asD_spec h_15
  obtain ⟨y, hy, hz⟩ := mat_ret h_16
  refine ⟨_, _, s_FinishDeeds_l22_mk z3 z16 d2 d8 d10 d15, s_FinishDeeds_l22_out z3 z16 d2 d8 d10 d15, s_FinishDeeds_l22 d10 d15, (d12, d21, d26), y, ?_, hy, ?_, s_FinishDeeds_l22_step z3 z16 d2 d8 d10 d15⟩
  · subst hs; exact restrict_eq (T := [(1, (.imm z3 (.sl kDeed) d2)), (2, (.ptr (4, 0) [])), (7, (.ptr (26, 0) [])), (9, (.ptr (44, 0) [])), (11, (.imm true (.int .i64) d8)), (12, (.imm true (.int .i64) d10)), (15, (.imm true (.int .i64) d12))]) (U := [((4, 0), some ⟨true, kGather, (.imm z16), d15⟩), ((26, 0), some ⟨true, kL08Run, .own, ((some (4, 0) : Option RName), d21)⟩), ((44, 0), some ⟨true, kL08Plan, .own, ((some (26, 0) : Option RName), d26)⟩)]) rfl rfl ⟨e1, e4, e5, e6, e7, e9, e11, trivial⟩ ⟨e13, e17, e22, trivial⟩
  · exact Option.some.inj hz
set_option maxRecDepth 100000 in
theorem s_FinishDeeds_l15_step : ∀ (z15_0 : Bool) (z15_1 : Bool) (h15_0_0 : (List (Int × (Int × (Int × (Int × Unit)))))) (h15_0_2 : (Int × (Int × ((List Int) × (Int × (Int × Unit)))))) (x : (Int × (((List ((List Int) × ((List Int) × Unit))) × ((List (Int × (Int × Unit))) × Unit)) × Unit) × ((List (Int × (Int × (Int × (Int × Unit))))) × Unit))) (c : St → Option (Ex × St)), den s_FinishDeeds_V s_FinishDeeds_A (loopAt s_FinishDeeds_b 1) (s_FinishDeeds_l15_mk z15_0 z15_1 h15_0_0 h15_0_2 x) (roundK s_FinishDeeds_l15_L.kp s_FinishDeeds_l15_L.kx c) = (s_FinishDeeds_l15 h15_0_2 x).run (roundR (s_FinishDeeds_l15_mk z15_0 z15_1 h15_0_0 h15_0_2) (s_FinishDeeds_l15_out z15_0 z15_1 h15_0_0 h15_0_2) c) := fun _ _ _ _ _ _ => by
  kernel_rfl
theorem s_FinishDeeds_l15_ok : LoopOK s_FinishDeeds_V s_FinishDeeds_A (loopAt s_FinishDeeds_b 1) s_FinishDeeds_l15_L := loopOK_of fun s e s' h => by
  generalize hs : restrict s_FinishDeeds_l15_L.kp s = s1 at h
  have h : (s_FinishDeeds_l15_D s1).run some = some (e, s') := h
  obtain ⟨z3, d2, e1, h_0⟩ := asImm_spec h
  obtain ⟨e4, h_1⟩ := asPtr_spec h_0
  obtain ⟨e5, h_2⟩ := asPtr_spec h_1
  obtain ⟨e6, h_3⟩ := asPtr_spec h_2
  obtain ⟨d8, e7, h_4⟩ := asImmZ_spec h_3
  obtain ⟨m10, d11, e9, h_5⟩ := asRoot_spec h_4
  obtain ⟨z12, rfl, h_6⟩ := asMImm_spec h_5
  obtain ⟨m14, d15, e13, h_7⟩ := asRoot_spec h_6
  obtain ⟨rfl, h_8⟩ := asM_spec h_7
  obtain ⟨d16, d17, rfl, h_9⟩ := asProd_spec h_8
  obtain ⟨rfl, h_10⟩ := asD_spec h_9
  obtain ⟨m19, d20, e18, h_11⟩ := asRoot_spec h_10
  obtain ⟨rfl, h_12⟩ := asM_spec h_11
  obtain ⟨d21, d22, rfl, h_13⟩ := asProd_spec h_12
  obtain ⟨rfl, h_14⟩ := asD_spec h_13
  obtain ⟨y, hy, hz⟩ := mat_ret h_14
  refine ⟨_, _, s_FinishDeeds_l15_mk z3 z12 d2 d11, s_FinishDeeds_l15_out z3 z12 d2 d11, s_FinishDeeds_l15 d11, (d8, d17, d22), y, ?_, hy, ?_, s_FinishDeeds_l15_step z3 z12 d2 d11⟩
  · subst hs; exact restrict_eq (T := [(1, (.imm z3 (.sl kDeed) d2)), (2, (.ptr (4, 0) [])), (7, (.ptr (26, 0) [])), (9, (.ptr (44, 0) [])), (11, (.imm true (.int .i64) d8))]) (U := [((4, 0), some ⟨true, kGather, (.imm z12), d11⟩), ((26, 0), some ⟨true, kL08Run, .own, ((some (4, 0) : Option RName), d17)⟩), ((44, 0), some ⟨true, kL08Plan, .own, ((some (26, 0) : Option RName), d22)⟩)]) rfl rfl ⟨e1, e4, e5, e6, e7, trivial⟩ ⟨e9, e13, e18, trivial⟩
  · exact Option.some.inj hz
noncomputable def s_FinishDeeds_I : FnI := ⟨s_FinishDeeds_b, Try.f20.results.toList, Try.f20.resultTypes.toList, s_FinishDeeds_A⟩
noncomputable def s_FinishDeeds_out (_zp0 : Bool) (_zp1 : Bool) (_p0 : (Int × (Int × ((List Int) × (Int × (Int × Unit)))))) (_p1 : (List (Int × (Int × (Int × (Int × Unit)))))) : (Int × (List (Int × (Int × (Int × (Int × Unit)))))) → CallOut := fun r => ⟨(.tcons (.ref (1, 0) []) (.tcons (.imm true (.int .i64) r.1) .tnil)), [], [⟨false, (.sl kDeed), .own, r.2⟩]⟩
set_option maxRecDepth 100000 in
theorem s_FinishDeeds_eq : ∀ (zp0 : Bool) (zp1 : Bool) (p0 : (Int × (Int × ((List Int) × (Int × (Int × Unit)))))) (p1 : (List (Int × (Int × (Int × (Int × Unit)))))), denFn s_FinishDeeds_V s_FinishDeeds_I ⟨[(.imm zp0 kGather p0), (.imm zp1 (.sl kDeed) p1)], []⟩ = (s_FinishDeeds p0 p1).run fun r => some (s_FinishDeeds_out zp0 zp1 p0 p1 r) := fun _ _ _ _ => by kernel_rfl
noncomputable def s_FinishDeeds_G (av : List AV) (rs : List Root) : Tre CallOut :=
  asCons av fun a0_ av0 =>
  asCons av0 fun a1_ av1 =>
  asEnd av1 <|
  asEnd rs <|
  asImm kGather a0_ fun z2 d1 =>
  asImm (.sl kDeed) a1_ fun z4 d3 =>
  .mat (finR d1 d3) fun r => .ret (s_FinishDeeds_out z2 z4 d1 d3 r)
noncomputable def s_FinishDeeds_c : Ctr := ⟨[], fun ci => s_FinishDeeds_G ci.args ci.roots⟩
theorem s_FinishDeeds_env : EnvOK Try.prog s_FinishDeeds_V := (envOK_cons s_l08Asked_3c39_ok ent47 (envOK_cons s_l08Play_3c39_ok ent48 (envOK_cons s_l08Plan_do_6f19_ok ent49 (envOK_cons s_l08Data_f714_ok ent50 (envOK_cons s_l00Same_ok ent51 envOK_nil)))))
set_option maxRecDepth 100000 in
theorem s_FinishDeeds_ok : Contract Try.prog 20 s_FinishDeeds_c := by
  have hl : LoopsOK s_FinishDeeds_V s_FinishDeeds_A s_FinishDeeds_b := (loopsOK_all (n := 3) (by kernel_rfl) fun k hk => by
      match k, hk with
      | 0, _ => exact loopOK_at (id := 9) (L := s_FinishDeeds_l9_L) (by kernel_rfl) (by kernel_rfl) s_FinishDeeds_l9_ok
      | 1, _ => exact loopOK_at (id := 15) (L := s_FinishDeeds_l15_L) (by kernel_rfl) (by kernel_rfl) s_FinishDeeds_l15_ok
      | 2, _ => exact loopOK_at (id := 22) (L := s_FinishDeeds_l22_L) (by kernel_rfl) (by kernel_rfl) s_FinishDeeds_l22_ok)
  refine (contract_of (F := s_FinishDeeds_I) tau_tys s_FinishDeeds_env Try.func20 (by kernel_rfl) (by kernel_rfl) (by kernel_rfl) hl []).weaken ?_
  rintro ⟨av, rs⟩ co h
  have h : (s_FinishDeeds_G av rs).run some = some co := h
  obtain ⟨a0_, av0, rfl, h_0⟩ := asCons_spec h
  obtain ⟨a1_, av1, rfl, h_1⟩ := asCons_spec h_0
  obtain ⟨rfl, h_2⟩ := asEnd_spec h_1
  obtain ⟨rfl, h_3⟩ := asEnd_spec h_2
  obtain ⟨z2, d1, rfl, h_4⟩ := asImm_spec h_3
  obtain ⟨z4, d3, rfl, h_5⟩ := asImm_spec h_4
  exact fin_opt (s_FinishDeeds_eq z2 z4 d1 d3) (s_FinishDeeds_spec d1 d3) h_5

end Go.Proofs.Ytddaclhjnkimfaa

namespace Go.Proofs.Ytddaclhjnkimfaa
open Go Go.Abs Go.Proofs

/-! function 70: loop.example/g01144/impl.within -/
noncomputable def i_within (p0 : Int) (p1 : Int) (p2 : Int) : Tre Bool :=
  .cond (decide (p0 ≥ p1))
    (.ret (decide (p0 ≤ p2)))
    (.ret false)
noncomputable def i_within_F (p0 : Int) (p1 : Int) (p2 : Int) : Option Bool := (i_within p0 p1 p2).run some
theorem i_within_spec (n a b : Int) : i_within_F n a b = some (inR n a b) := by
  unfold i_within_F i_within inR
  by_cases h : a ≤ n
  · simp [Tre.run_cond, Tre.run_ret, h]
  · simp [Tre.run_cond, Tre.run_ret, h]

noncomputable def i_within_V : Env := ⟨tau, [], []⟩
noncomputable def i_within_b : Code := (Try.f70.body).getD .skip
noncomputable def i_within_I : FnI := ⟨i_within_b, Try.f70.results.toList, Try.f70.resultTypes.toList, []⟩
noncomputable def i_within_out (_p0 : Int) (_p1 : Int) (_p2 : Int) : Bool → CallOut := fun r => ⟨(.imm true .bool r), [], []⟩
set_option maxRecDepth 100000 in
theorem i_within_eq : ∀ (p0 : Int) (p1 : Int) (p2 : Int), denFn i_within_V i_within_I ⟨[(.imm true (.int .i64) p0), (.imm true (.int .i64) p1), (.imm true (.int .i64) p2)], []⟩ = (i_within p0 p1 p2).run fun r => some (i_within_out p0 p1 p2 r) := fun _ _ _ => by kernel_rfl
noncomputable def i_within_G (av : List AV) (rs : List Root) : Tre CallOut :=
  asCons av fun a0_ av0 =>
  asCons av0 fun a1_ av1 =>
  asCons av1 fun a2_ av2 =>
  asEnd av2 <|
  asEnd rs <|
  asImmZ true (.int .i64) a0_ fun d1 =>
  asImmZ true (.int .i64) a1_ fun d2 =>
  asImmZ true (.int .i64) a2_ fun d3 =>
  .ret (i_within_out d1 d2 d3 (inR d1 d2 d3))
noncomputable def i_within_c : Ctr := ⟨[], fun ci => i_within_G ci.args ci.roots⟩
theorem i_within_env : EnvOK Try.prog i_within_V := envOK_nil
set_option maxRecDepth 100000 in
theorem i_within_ok : Contract Try.prog 70 i_within_c := by
  have hl : LoopsOK i_within_V [] i_within_b := loopsOK_nil (by kernel_rfl)
  refine (contract_of (F := i_within_I) tau_tys i_within_env Try.func70 (by kernel_rfl) (by kernel_rfl) (by kernel_rfl) hl []).weaken ?_
  rintro ⟨av, rs⟩ co h
  have h : (i_within_G av rs).run some = some co := h
  obtain ⟨a0_, av0, rfl, h_0⟩ := asCons_spec h
  obtain ⟨a1_, av1, rfl, h_1⟩ := asCons_spec h_0
  obtain ⟨a2_, av2, rfl, h_2⟩ := asCons_spec h_1
  obtain ⟨rfl, h_3⟩ := asEnd_spec h_2
  obtain ⟨rfl, h_4⟩ := asEnd_spec h_3
  obtain ⟨d1, rfl, h_5⟩ := asImmZ_spec h_4
  obtain ⟨d2, rfl, h_6⟩ := asImmZ_spec h_5
  obtain ⟨d3, rfl, h_7⟩ := asImmZ_spec h_6
  exact fin_ret (i_within_eq d1 d2 d3) (i_within_spec d1 d2 d3) h_7

end Go.Proofs.Ytddaclhjnkimfaa

namespace Go.Proofs.Ytddaclhjnkimfaa
open Go Go.Abs Go.Proofs

/-! function 52: loop.example/g01144/impl.size[int64] -/
noncomputable def i_size_int64 (p0 : (List Int)) : Tre Int :=
  .ret (p0.length : Int)
noncomputable def i_size_int64_F (p0 : (List Int)) : Option Int := (i_size_int64 p0).run some
theorem i_size_int64_spec (p0 : (List Int)) : i_size_int64_F p0 = some (p0.length : Int) := rfl
noncomputable def i_size_int64_V : Env := ⟨tau, [], []⟩
noncomputable def i_size_int64_b : Code := (Try.f52.body).getD .skip
noncomputable def i_size_int64_I : FnI := ⟨i_size_int64_b, Try.f52.results.toList, Try.f52.resultTypes.toList, []⟩
noncomputable def i_size_int64_out (_zp0 : Bool) (_p0 : (List Int)) : Int → CallOut := fun r => ⟨(.imm true (.int .i64) r), [], []⟩
set_option maxRecDepth 100000 in
theorem i_size_int64_eq : ∀ (zp0 : Bool) (p0 : (List Int)), denFn i_size_int64_V i_size_int64_I ⟨[(.imm zp0 (.sl (.int .i64)) p0)], []⟩ = (i_size_int64 p0).run fun r => some (i_size_int64_out zp0 p0 r) := fun _ _ => by kernel_rfl
noncomputable def i_size_int64_G (av : List AV) (rs : List Root) : Tre CallOut :=
  asCons av fun a0_ av0 =>
  asEnd av0 <|
  asEnd rs <|
  asImm (.sl (.int .i64)) a0_ fun z2 d1 =>
  .ret (i_size_int64_out z2 d1 (d1.length : Int))
noncomputable def i_size_int64_c : Ctr := ⟨[], fun ci => i_size_int64_G ci.args ci.roots⟩
theorem i_size_int64_env : EnvOK Try.prog i_size_int64_V := envOK_nil
set_option maxRecDepth 100000 in
theorem i_size_int64_ok : Contract Try.prog 52 i_size_int64_c := by
  have hl : LoopsOK i_size_int64_V [] i_size_int64_b := loopsOK_nil (by kernel_rfl)
  refine (contract_of (F := i_size_int64_I) tau_tys i_size_int64_env Try.func52 (by kernel_rfl) (by kernel_rfl) (by kernel_rfl) hl []).weaken ?_
  rintro ⟨av, rs⟩ co h
  have h : (i_size_int64_G av rs).run some = some co := h
  obtain ⟨a0_, av0, rfl, h_0⟩ := asCons_spec h
  obtain ⟨rfl, h_1⟩ := asEnd_spec h_0
  obtain ⟨rfl, h_2⟩ := asEnd_spec h_1
  obtain ⟨z2, d1, rfl, h_3⟩ := asImm_spec h_2
  exact fin_ret (i_size_int64_eq z2 d1) (i_size_int64_spec d1) h_3

end Go.Proofs.Ytddaclhjnkimfaa

namespace Go.Proofs.Ytddaclhjnkimfaa
open Go Go.Abs Go.Proofs

/-! function 99: (loop.example/g01144/impl.Gather).isData$1 -/
noncomputable def i_Gather_isDatac1_9af1 (p0 : Int) (p1 : (Int × (Int × ((List Int) × (Int × (Int × Unit)))))) : Tre Bool :=
  .ite (0 ≤ p1.2.1) <|
  let v1 := iwrap .i64 ((ishl .i64 1 p1.2.1) - 1)
  .ret (!(inR p0 0 v1))
noncomputable def i_Gather_isDatac1_9af1_F (p0 : Int) (p1 : (Int × (Int × ((List Int) × (Int × (Int × Unit)))))) : Option Bool := (i_Gather_isDatac1_9af1 p0 p1).run some
/-- is a word too great? -/
def noD (x : Int) (p : Int × Int × List Int × Int × Int × Unit) : Option Bool := askO (decide (0 ≤ p.2.1)) (!inP p.2.1 x)
theorem i_Gather_isDatac1_9af1_spec (p0 : Int) (p1 : Int × Int × List Int × Int × Int × Unit) (y : Bool) (h : noD p0 p1 = some y) : i_Gather_isDatac1_9af1_F p0 p1 = some y := by
  obtain ⟨hl, rfl⟩ := askO_some h
  unfold i_Gather_isDatac1_9af1_F i_Gather_isDatac1_9af1
  rw [Tre.run_ite, if_pos (of_decide_eq_true hl)]
  rfl

noncomputable def i_Gather_isDatac1_9af1_V : Env := ⟨tau, [(70, i_within_c)], []⟩
noncomputable def i_Gather_isDatac1_9af1_b : Code := (Try.f99.body).getD .skip
noncomputable def i_Gather_isDatac1_9af1_I : FnI := ⟨i_Gather_isDatac1_9af1_b, Try.f99.results.toList, Try.f99.resultTypes.toList, []⟩
noncomputable def i_Gather_isDatac1_9af1_out (zp0 : Bool) (_p0 : Int) (p1 : (Int × (Int × ((List Int) × (Int × (Int × Unit)))))) : Bool → CallOut := fun r => ⟨(.imm true .bool r), [⟨true, kGather, (.imm zp0), p1⟩], []⟩
set_option maxRecDepth 100000 in
theorem i_Gather_isDatac1_9af1_eq : ∀ (zp0 : Bool) (p0 : Int) (p1 : (Int × (Int × ((List Int) × (Int × (Int × Unit)))))), denFn i_Gather_isDatac1_9af1_V i_Gather_isDatac1_9af1_I ⟨[(.imm true (.int .i64) p0), (.ptr (0, 0) [])], [⟨true, kGather, (.imm zp0), p1⟩]⟩ = (i_Gather_isDatac1_9af1 p0 p1).run fun r => some (i_Gather_isDatac1_9af1_out zp0 p0 p1 r) := fun _ _ _ => by kernel_rfl
noncomputable def i_Gather_isDatac1_9af1_G (av : List AV) (rs : List Root) : Tre CallOut :=
  asCons av fun a0_ av0 =>
  asCons av0 fun a1_ av1 =>
  asEnd av1 <|
  asCons rs fun r0_ rs0 =>
  asEnd rs0 <|
  asImmZ true (.int .i64) a0_ fun d1 =>
  asPtr (0, 0) [] a1_ <|
  asRt true kGather r0_ fun m2 d3 =>
  asMImm m2 fun z4 =>
  .mat (noD d1 d3) fun r => .ret (i_Gather_isDatac1_9af1_out z4 d1 d3 r)
noncomputable def i_Gather_isDatac1_9af1_c : Ctr := ⟨[], fun ci => i_Gather_isDatac1_9af1_G ci.args ci.roots⟩
theorem i_Gather_isDatac1_9af1_env : EnvOK Try.prog i_Gather_isDatac1_9af1_V := (envOK_cons i_within_ok ent70 envOK_nil)
set_option maxRecDepth 100000 in
theorem i_Gather_isDatac1_9af1_ok : Contract Try.prog 99 i_Gather_isDatac1_9af1_c := by
  have hl : LoopsOK i_Gather_isDatac1_9af1_V [] i_Gather_isDatac1_9af1_b := loopsOK_nil (by kernel_rfl)
  refine (contract_of (F := i_Gather_isDatac1_9af1_I) tau_tys i_Gather_isDatac1_9af1_env Try.func99 (by kernel_rfl) (by kernel_rfl) (by kernel_rfl) hl []).weaken ?_
  rintro ⟨av, rs⟩ co h
  have h : (i_Gather_isDatac1_9af1_G av rs).run some = some co := h
  obtain ⟨a0_, av0, rfl, h_0⟩ := asCons_spec h
  obtain ⟨a1_, av1, rfl, h_1⟩ := asCons_spec h_0
  obtain ⟨rfl, h_2⟩ := asEnd_spec h_1
  obtain ⟨r0_, rs0, rfl, h_3⟩ := asCons_spec h_2
  obtain ⟨rfl, h_4⟩ := asEnd_spec h_3
  obtain ⟨d1, rfl, h_5⟩ := asImmZ_spec h_4
  obtain ⟨rfl, h_6⟩ := asPtr_spec h_5
  obtain ⟨m2, d3, rfl, h_7⟩ := asRt_spec h_6
  obtain ⟨z4, rfl, h_8⟩ := asMImm_spec h_7
  exact fin_opt (i_Gather_isDatac1_9af1_eq z4 d1 d3) (i_Gather_isDatac1_9af1_spec d1 d3) h_8

end Go.Proofs.Ytddaclhjnkimfaa

namespace Go.Proofs.Ytddaclhjnkimfaa
open Go Go.Abs Go.Proofs

/-! function 98: slices.IndexFunc[[]int64,int64] -/
noncomputable def slices_IndexFunc_int64_i_Gather_isDatac1_l2 (h2_0_0 : (List Int)) (h2_0_1 : Int) (h2_0_3 : (Int × (Int × ((List Int) × (Int × (Int × Unit)))))) : Int → Tre (Int ⊕ (Int ⊕ Unit)) := fun s2 =>
  .cond (decide (s2 < h2_0_1))
    (.ite (0 ≤ s2 ∧ s2 < (h2_0_0.length : Int)) <|
    .mat (h2_0_0[s2.toNat]?) fun x1 =>
    .mat (noD x1 h2_0_3) fun r2 =>
    .cond r2
      (.ret (.inr (.inl s2)))
      (.ret (.inl (iwrap .i64 (s2 + 1)))))
    (.ret (.inr (.inr ())))
noncomputable def slices_IndexFunc_int64_i_Gather_isDatac1 (p0 : (List Int)) (p1 : (Int × (Int × ((List Int) × (Int × (Int × Unit)))))) : Tre Int :=
  .mat (loopF (slices_IndexFunc_int64_i_Gather_isDatac1_l2 p0 (p0.length : Int) p1) 0) fun l3 =>
  .alt l3
    (fun a4 =>
      .ret a4)
    (fun _ =>
      .ret (-1))
noncomputable def slices_IndexFunc_int64_i_Gather_isDatac1_F (p0 : (List Int)) (p1 : (Int × (Int × ((List Int) × (Int × (Int × Unit)))))) : Option Int := (slices_IndexFunc_int64_i_Gather_isDatac1 p0 p1).run some
/-- the first word that is too great -/
def idxD (xs : List Int) (p : Int × Int × List Int × Int × Int × Unit) : Option Int := askO (decide (0 ≤ p.2.1) && decide (xs.length ≤ 1048576)) (idxI (fun x => !inP p.2.1 x) 0 xs)
theorem slices_IndexFunc_int64_i_Gather_isDatac1_spec (p0 : List Int) (p1 : Int × Int × List Int × Int × Int × Unit) (y : Int) (h : idxD p0 p1 = some y) : slices_IndexFunc_int64_i_Gather_isDatac1_F p0 p1 = some y := by
  obtain ⟨hl, rfl⟩ := askO_some h
  rw [Bool.and_eq_true] at hl
  obtain ⟨hm, hl⟩ := hl
  have hl := of_decide_eq_true hl
  unfold slices_IndexFunc_int64_i_Gather_isDatac1_F slices_IndexFunc_int64_i_Gather_isDatac1
  rw [Tre.run_mat, find_loop (xs := p0) (fun i x => cond (!inP p1.2.1 x) (some (.inl (i : Int))) none) (.inr ())]
  · rw [Option.bind_some, ← findE_idx (p := fun x => !inP p1.2.1 x)]
    generalize findE _ _ _ _ = r
    cases r <;> rfl
  · intro i x hx
    have hi : i < p0.length := (List.getElem?_eq_some_iff.1 hx).1
    unfold slices_IndexFunc_int64_i_Gather_isDatac1_l2
    rw [run_inb hx, run_some_mat (show noD x p1 = some _ from askO_true hm), Tre.run_cond]
    cases inP p1.2.1 x
    · rfl
    · simp only [Bool.not_true, cond_false, Tre.run_ret, iwrap_succ (show i < 4611686018427387904 by omega)]
  · unfold slices_IndexFunc_int64_i_Gather_isDatac1_l2
    exact run_out

noncomputable def slices_IndexFunc_int64_i_Gather_isDatac1_V : Env := ⟨tau, [(99, i_Gather_isDatac1_9af1_c)], []⟩
noncomputable def slices_IndexFunc_int64_i_Gather_isDatac1_b : Code := (Try.f98.body).getD .skip
noncomputable def slices_IndexFunc_int64_i_Gather_isDatac1_l2_mk (z2_0 : Bool) (z2_1 : Bool) (h2_0_0 : (List Int)) (h2_0_1 : Int) (h2_0_3 : (Int × (Int × ((List Int) × (Int × (Int × Unit)))))) : Int → St := fun x => stOf [(0, (.imm z2_0 (.sl (.int .i64)) h2_0_0)), (1, (.fn 99 [(0, 0)])), (7, (.imm true (.int .i64) h2_0_1)), (8, (.imm true (.int .i64) x))] [((0, 0), some ⟨true, kGather, (.imm z2_1), h2_0_3⟩)]
noncomputable def slices_IndexFunc_int64_i_Gather_isDatac1_l2_out (_z2_0 : Bool) (z2_1 : Bool) (_h2_0_0 : (List Int)) (_h2_0_1 : Int) (h2_0_3 : (Int × (Int × ((List Int) × (Int × (Int × Unit)))))) : (Int ⊕ Unit) → Ex × St
  | .inl x => (.ret, stOf [(4, (.imm true (.int .i64) x))] [((0, 0), some ⟨true, kGather, (.imm z2_1), h2_0_3⟩)])
  | .inr x => (.exit 0, stOf [(4, .dead)] [((0, 0), some ⟨true, kGather, (.imm z2_1), h2_0_3⟩)])
noncomputable def slices_IndexFunc_int64_i_Gather_isDatac1_l2_D (s : St) : Tre (Ex × St) :=
  asImm (.sl (.int .i64)) (s.tmps 0) fun z3 d2 =>
  asFn 99 [(0, 0)] (s.tmps 1) <|
  asImmZ true (.int .i64) (s.tmps 7) fun d6 =>
  asImmZ true (.int .i64) (s.tmps 8) fun d8 =>
  asRoot true kGather (s.roots (0, 0)) fun m10 d11 =>
  asMImm m10 fun z12 =>
  .mat (loopF (slices_IndexFunc_int64_i_Gather_isDatac1_l2 d2 d6 d11) d8) fun x => .alt x (fun a0 => .ret (slices_IndexFunc_int64_i_Gather_isDatac1_l2_out z3 z12 d2 d6 d11 (.inl a0))) (fun b0 => .ret (slices_IndexFunc_int64_i_Gather_isDatac1_l2_out z3 z12 d2 d6 d11 (.inr b0)))
noncomputable def slices_IndexFunc_int64_i_Gather_isDatac1_l2_L : LoopI := ⟨([0, 1, 7, 8], [(0, 0)]), ([4], [(0, 0)]), slices_IndexFunc_int64_i_Gather_isDatac1_l2_D⟩
noncomputable def slices_IndexFunc_int64_i_Gather_isDatac1_A : List (Nat × LoopI) := [(2, slices_IndexFunc_int64_i_Gather_isDatac1_l2_L)]
set_option maxRecDepth 100000 in
theorem slices_IndexFunc_int64_i_Gather_isDatac1_l2_step : ∀ (z2_0 : Bool) (z2_1 : Bool) (h2_0_0 : (List Int)) (h2_0_1 : Int) (h2_0_3 : (Int × (Int × ((List Int) × (Int × (Int × Unit)))))) (x : Int) (c : St → Option (Ex × St)), den slices_IndexFunc_int64_i_Gather_isDatac1_V slices_IndexFunc_int64_i_Gather_isDatac1_A (loopAt slices_IndexFunc_int64_i_Gather_isDatac1_b 0) (slices_IndexFunc_int64_i_Gather_isDatac1_l2_mk z2_0 z2_1 h2_0_0 h2_0_1 h2_0_3 x) (roundK slices_IndexFunc_int64_i_Gather_isDatac1_l2_L.kp slices_IndexFunc_int64_i_Gather_isDatac1_l2_L.kx c) = (slices_IndexFunc_int64_i_Gather_isDatac1_l2 h2_0_0 h2_0_1 h2_0_3 x).run (roundR (slices_IndexFunc_int64_i_Gather_isDatac1_l2_mk z2_0 z2_1 h2_0_0 h2_0_1 h2_0_3) (slices_IndexFunc_int64_i_Gather_isDatac1_l2_out z2_0 z2_1 h2_0_0 h2_0_1 h2_0_3) c) := fun _ _ _ _ _ _ _ => by
  kernel_rfl
theorem slices_IndexFunc_int64_i_Gather_isDatac1_l2_ok : LoopOK slices_IndexFunc_int64_i_Gather_isDatac1_V slices_IndexFunc_int64_i_Gather_isDatac1_A (loopAt slices_IndexFunc_int64_i_Gather_isDatac1_b 0) slices_IndexFunc_int64_i_Gather_isDatac1_l2_L := loopOK_of fun s e s' h => by
  generalize hs : restrict slices_IndexFunc_int64_i_Gather_isDatac1_l2_L.kp s = s1 at h
  have h : (slices_IndexFunc_int64_i_Gather_isDatac1_l2_D s1).run some = some (e, s') := h
  obtain ⟨z3, d2, e1, h_0⟩ := asImm_spec h
  obtain ⟨e4, h_1⟩ := asFn_spec h_0
  obtain ⟨d6, e5, h_2⟩ := asImmZ_spec h_1
  obtain ⟨d8, e7, h_3⟩ := asImmZ_spec h_2
  obtain ⟨m10, d11, e9, h_4⟩ := asRoot_spec h_3
  obtain ⟨z12, rfl, h_5⟩ := asMImm_spec h_4
  obtain ⟨y, hy, hz⟩ := mat_some h_5
  refine ⟨_, _, slices_IndexFunc_int64_i_Gather_isDatac1_l2_mk z3 z12 d2 d6 d11, slices_IndexFunc_int64_i_Gather_isDatac1_l2_out z3 z12 d2 d6 d11, slices_IndexFunc_int64_i_Gather_isDatac1_l2 d2 d6 d11, d8, y, ?_, hy, ?_, slices_IndexFunc_int64_i_Gather_isDatac1_l2_step z3 z12 d2 d6 d11⟩
  · subst hs; exact restrict_eq (T := [(0, (.imm z3 (.sl (.int .i64)) d2)), (1, (.fn 99 [(0, 0)])), (7, (.imm true (.int .i64) d6)), (8, (.imm true (.int .i64) d8))]) (U := [((0, 0), some ⟨true, kGather, (.imm z12), d11⟩)]) rfl rfl ⟨e1, e4, e5, e7, trivial⟩ ⟨e9, trivial⟩
  · rcases y with x | x <;> exact Option.some.inj hz
noncomputable def slices_IndexFunc_int64_i_Gather_isDatac1_I : FnI := ⟨slices_IndexFunc_int64_i_Gather_isDatac1_b, Try.f98.results.toList, Try.f98.resultTypes.toList, slices_IndexFunc_int64_i_Gather_isDatac1_A⟩
noncomputable def slices_IndexFunc_int64_i_Gather_isDatac1_out (_zp0 : Bool) (zp1 : Bool) (_p0 : (List Int)) (p1 : (Int × (Int × ((List Int) × (Int × (Int × Unit)))))) : Int → CallOut := fun r => ⟨(.imm true (.int .i64) r), [⟨true, kGather, (.imm zp1), p1⟩], []⟩
set_option maxRecDepth 100000 in
theorem slices_IndexFunc_int64_i_Gather_isDatac1_eq : ∀ (zp0 : Bool) (zp1 : Bool) (p0 : (List Int)) (p1 : (Int × (Int × ((List Int) × (Int × (Int × Unit)))))), denFn slices_IndexFunc_int64_i_Gather_isDatac1_V slices_IndexFunc_int64_i_Gather_isDatac1_I ⟨[(.imm zp0 (.sl (.int .i64)) p0), (.fn 99 [(0, 0)])], [⟨true, kGather, (.imm zp1), p1⟩]⟩ = (slices_IndexFunc_int64_i_Gather_isDatac1 p0 p1).run fun r => some (slices_IndexFunc_int64_i_Gather_isDatac1_out zp0 zp1 p0 p1 r) := fun _ _ _ _ => by kernel_rfl
noncomputable def slices_IndexFunc_int64_i_Gather_isDatac1_G (av : List AV) (rs : List Root) : Tre CallOut :=
  asCons av fun a0_ av0 =>
  asCons av0 fun a1_ av1 =>
  asEnd av1 <|
  asCons rs fun r0_ rs0 =>
  asEnd rs0 <|
  asImm (.sl (.int .i64)) a0_ fun z2 d1 =>
  asFn 99 [(0, 0)] a1_ <|
  asRt true kGather r0_ fun m3 d4 =>
  asMImm m3 fun z5 =>
  .mat (idxD d1 d4) fun r => .ret (slices_IndexFunc_int64_i_Gather_isDatac1_out z2 z5 d1 d4 r)
noncomputable def slices_IndexFunc_int64_i_Gather_isDatac1_c : Ctr := ⟨[], fun ci => slices_IndexFunc_int64_i_Gather_isDatac1_G ci.args ci.roots⟩
theorem slices_IndexFunc_int64_i_Gather_isDatac1_env : EnvOK Try.prog slices_IndexFunc_int64_i_Gather_isDatac1_V := (envOK_cons i_Gather_isDatac1_9af1_ok ent99 envOK_nil)
set_option maxRecDepth 100000 in
theorem slices_IndexFunc_int64_i_Gather_isDatac1_ok : Contract Try.prog 98 slices_IndexFunc_int64_i_Gather_isDatac1_c := by
  have hl : LoopsOK slices_IndexFunc_int64_i_Gather_isDatac1_V slices_IndexFunc_int64_i_Gather_isDatac1_A slices_IndexFunc_int64_i_Gather_isDatac1_b := (loopsOK_all (n := 1) (by kernel_rfl) fun k hk => by
      match k, hk with
      | 0, _ => exact loopOK_at (id := 2) (L := slices_IndexFunc_int64_i_Gather_isDatac1_l2_L) (by kernel_rfl) (by kernel_rfl) slices_IndexFunc_int64_i_Gather_isDatac1_l2_ok)
  refine (contract_of (F := slices_IndexFunc_int64_i_Gather_isDatac1_I) tau_tys slices_IndexFunc_int64_i_Gather_isDatac1_env Try.func98 (by kernel_rfl) (by kernel_rfl) (by kernel_rfl) hl []).weaken ?_
  rintro ⟨av, rs⟩ co h
  have h : (slices_IndexFunc_int64_i_Gather_isDatac1_G av rs).run some = some co := h
  obtain ⟨a0_, av0, rfl, h_0⟩ := asCons_spec h
  obtain ⟨a1_, av1, rfl, h_1⟩ := asCons_spec h_0
  obtain ⟨rfl, h_2⟩ := asEnd_spec h_1
  obtain ⟨r0_, rs0, rfl, h_3⟩ := asCons_spec h_2
  obtain ⟨rfl, h_4⟩ := asEnd_spec h_3
  obtain ⟨z2, d1, rfl, h_5⟩ := asImm_spec h_4
  obtain ⟨rfl, h_6⟩ := asFn_spec h_5
  obtain ⟨m3, d4, rfl, h_7⟩ := asRt_spec h_6
  obtain ⟨z5, rfl, h_8⟩ := asMImm_spec h_7
  exact fin_opt (slices_IndexFunc_int64_i_Gather_isDatac1_eq z2 z5 d1 d4) (slices_IndexFunc_int64_i_Gather_isDatac1_spec d1 d4) h_8

end Go.Proofs.Ytddaclhjnkimfaa

namespace Go.Proofs.Ytddaclhjnkimfaa
open Go Go.Abs Go.Proofs

/-! function 68: slices.ContainsFunc[[]int64,int64] -/
noncomputable def slices_ContainsFunc_int64_i_Gather_isDatac1 (p0 : (List Int)) (p1 : (Int × (Int × ((List Int) × (Int × (Int × Unit)))))) : Tre Bool :=
  .mat (idxD p0 p1) fun r1 =>
  .ret (decide (r1 ≥ 0))
noncomputable def slices_ContainsFunc_int64_i_Gather_isDatac1_F (p0 : (List Int)) (p1 : (Int × (Int × ((List Int) × (Int × (Int × Unit)))))) : Option Bool := (slices_ContainsFunc_int64_i_Gather_isDatac1 p0 p1).run some
/-- is there a word that is too great? -/
def hasD (xs : List Int) (p : Int × Int × List Int × Int × Int × Unit) : Option Bool := askO (decide (0 ≤ p.2.1) && decide (xs.length ≤ 1048576)) (xs.any fun x => !inP p.2.1 x)
theorem slices_ContainsFunc_int64_i_Gather_isDatac1_spec (p0 : List Int) (p1 : Int × Int × List Int × Int × Int × Unit) (y : Bool) (h : hasD p0 p1 = some y) : slices_ContainsFunc_int64_i_Gather_isDatac1_F p0 p1 = some y := by
  obtain ⟨hl, rfl⟩ := askO_some h
  unfold slices_ContainsFunc_int64_i_Gather_isDatac1_F slices_ContainsFunc_int64_i_Gather_isDatac1
  rw [run_some_mat (show idxD p0 p1 = some _ from askO_true hl), Tre.run_ret, idxI_any]

noncomputable def slices_ContainsFunc_int64_i_Gather_isDatac1_V : Env := ⟨tau, [(98, slices_IndexFunc_int64_i_Gather_isDatac1_c)], []⟩
noncomputable def slices_ContainsFunc_int64_i_Gather_isDatac1_b : Code := (Try.f68.body).getD .skip
noncomputable def slices_ContainsFunc_int64_i_Gather_isDatac1_I : FnI := ⟨slices_ContainsFunc_int64_i_Gather_isDatac1_b, Try.f68.results.toList, Try.f68.resultTypes.toList, []⟩
noncomputable def slices_ContainsFunc_int64_i_Gather_isDatac1_out (_zp0 : Bool) (zp1 : Bool) (_p0 : (List Int)) (p1 : (Int × (Int × ((List Int) × (Int × (Int × Unit)))))) : Bool → CallOut := fun r => ⟨(.imm true .bool r), [⟨true, kGather, (.imm zp1), p1⟩], []⟩
set_option maxRecDepth 100000 in
theorem slices_ContainsFunc_int64_i_Gather_isDatac1_eq : ∀ (zp0 : Bool) (zp1 : Bool) (p0 : (List Int)) (p1 : (Int × (Int × ((List Int) × (Int × (Int × Unit)))))), denFn slices_ContainsFunc_int64_i_Gather_isDatac1_V slices_ContainsFunc_int64_i_Gather_isDatac1_I ⟨[(.imm zp0 (.sl (.int .i64)) p0), (.fn 99 [(0, 0)])], [⟨true, kGather, (.imm zp1), p1⟩]⟩ = (slices_ContainsFunc_int64_i_Gather_isDatac1 p0 p1).run fun r => some (slices_ContainsFunc_int64_i_Gather_isDatac1_out zp0 zp1 p0 p1 r) := fun _ _ _ _ => by kernel_rfl
noncomputable def slices_ContainsFunc_int64_i_Gather_isDatac1_G (av : List AV) (rs : List Root) : Tre CallOut :=
  asCons av fun a0_ av0 =>
  asCons av0 fun a1_ av1 =>
  asEnd av1 <|
  asCons rs fun r0_ rs0 =>
  asEnd rs0 <|
  asImm (.sl (.int .i64)) a0_ fun z2 d1 =>
  asFn 99 [(0, 0)] a1_ <|
  asRt true kGather r0_ fun m3 d4 =>
  asMImm m3 fun z5 =>
  .mat (hasD d1 d4) fun r => .ret (slices_ContainsFunc_int64_i_Gather_isDatac1_out z2 z5 d1 d4 r)
noncomputable def slices_ContainsFunc_int64_i_Gather_isDatac1_c : Ctr := ⟨[], fun ci => slices_ContainsFunc_int64_i_Gather_isDatac1_G ci.args ci.roots⟩
theorem slices_ContainsFunc_int64_i_Gather_isDatac1_env : EnvOK Try.prog slices_ContainsFunc_int64_i_Gather_isDatac1_V := (envOK_cons slices_IndexFunc_int64_i_Gather_isDatac1_ok ent98 envOK_nil)
set_option maxRecDepth 100000 in
theorem slices_ContainsFunc_int64_i_Gather_isDatac1_ok : Contract Try.prog 68 slices_ContainsFunc_int64_i_Gather_isDatac1_c := by
  have hl : LoopsOK slices_ContainsFunc_int64_i_Gather_isDatac1_V [] slices_ContainsFunc_int64_i_Gather_isDatac1_b := loopsOK_nil (by kernel_rfl)
  refine (contract_of (F := slices_ContainsFunc_int64_i_Gather_isDatac1_I) tau_tys slices_ContainsFunc_int64_i_Gather_isDatac1_env Try.func68 (by kernel_rfl) (by kernel_rfl) (by kernel_rfl) hl []).weaken ?_
  rintro ⟨av, rs⟩ co h
  have h : (slices_ContainsFunc_int64_i_Gather_isDatac1_G av rs).run some = some co := h
  obtain ⟨a0_, av0, rfl, h_0⟩ := asCons_spec h
  obtain ⟨a1_, av1, rfl, h_1⟩ := asCons_spec h_0
  obtain ⟨rfl, h_2⟩ := asEnd_spec h_1
  obtain ⟨r0_, rs0, rfl, h_3⟩ := asCons_spec h_2
  obtain ⟨rfl, h_4⟩ := asEnd_spec h_3
  obtain ⟨z2, d1, rfl, h_5⟩ := asImm_spec h_4
  obtain ⟨rfl, h_6⟩ := asFn_spec h_5
  obtain ⟨m3, d4, rfl, h_7⟩ := asRt_spec h_6
  obtain ⟨z5, rfl, h_8⟩ := asMImm_spec h_7
  exact fin_opt (slices_ContainsFunc_int64_i_Gather_isDatac1_eq z2 z5 d1 d4) (slices_ContainsFunc_int64_i_Gather_isDatac1_spec d1 d4) h_8

end Go.Proofs.Ytddaclhjnkimfaa

namespace Go.Proofs.Ytddaclhjnkimfaa
open Go Go.Abs Go.Proofs

/-! function 71: (loop.example/g01144/impl.Gather).isData -/
noncomputable def i_Gather_isData (p0 : (Int × (Int × ((List Int) × (Int × (Int × Unit)))))) (p1 : (List Int)) : Tre Bool :=
  .cond (decide ((p1.length : Int) = p0.1))
    (.mat (hasD p1 p0) fun r1 =>
    .ret (!r1))
    (.ret false)
noncomputable def i_Gather_isData_F (p0 : (Int × (Int × ((List Int) × (Int × (Int × Unit)))))) (p1 : (List Int)) : Option Bool := (i_Gather_isData p0 p1).run some
/-- are these data of a gathering? -/
def isDat (p : Int × Int × List Int × Int × Int × Unit) (xs : List Int) : Option Bool := askO (decide (0 ≤ p.2.1) && decide (xs.length ≤ 1048576)) (decide ((xs.length : Int) = p.1) && xs.all (inP p.2.1))
theorem i_Gather_isData_spec (p0 : Int × Int × List Int × Int × Int × Unit) (p1 : List Int) (y : Bool) (h : isDat p0 p1 = some y) : i_Gather_isData_F p0 p1 = some y := by
  obtain ⟨hl, rfl⟩ := askO_some h
  unfold i_Gather_isData_F i_Gather_isData
  rw [Tre.run_cond, run_some_mat (show hasD p1 p0 = some _ from askO_true hl), Tre.run_ret, Tre.run_ret]
  cases decide ((p1.length : Int) = p0.1)
  · rfl
  · simp [List.not_any_eq_all_not]

noncomputable def i_Gather_isData_V : Env := ⟨tau, [(52, i_size_int64_c), (68, slices_ContainsFunc_int64_i_Gather_isDatac1_c)], []⟩
noncomputable def i_Gather_isData_b : Code := (Try.f71.body).getD .skip
noncomputable def i_Gather_isData_I : FnI := ⟨i_Gather_isData_b, Try.f71.results.toList, Try.f71.resultTypes.toList, []⟩
noncomputable def i_Gather_isData_out (_zp0 : Bool) (_zp1 : Bool) (_p0 : (Int × (Int × ((List Int) × (Int × (Int × Unit)))))) (_p1 : (List Int)) : Bool → CallOut := fun r => ⟨(.imm true .bool r), [], []⟩
set_option maxRecDepth 100000 in
theorem i_Gather_isData_eq : ∀ (zp0 : Bool) (zp1 : Bool) (p0 : (Int × (Int × ((List Int) × (Int × (Int × Unit)))))) (p1 : (List Int)), denFn i_Gather_isData_V i_Gather_isData_I ⟨[(.imm zp0 kGather p0), (.imm zp1 (.sl (.int .i64)) p1)], []⟩ = (i_Gather_isData p0 p1).run fun r => some (i_Gather_isData_out zp0 zp1 p0 p1 r) := fun _ _ _ _ => by kernel_rfl
noncomputable def i_Gather_isData_G (av : List AV) (rs : List Root) : Tre CallOut :=
  asCons av fun a0_ av0 =>
  asCons av0 fun a1_ av1 =>
  asEnd av1 <|
  asEnd rs <|
  asImm kGather a0_ fun z2 d1 =>
  asImm (.sl (.int .i64)) a1_ fun z4 d3 =>
  .mat (isDat d1 d3) fun r => .ret (i_Gather_isData_out z2 z4 d1 d3 r)
noncomputable def i_Gather_isData_c : Ctr := ⟨[], fun ci => i_Gather_isData_G ci.args ci.roots⟩
theorem i_Gather_isData_env : EnvOK Try.prog i_Gather_isData_V := (envOK_cons i_size_int64_ok ent52 (envOK_cons slices_ContainsFunc_int64_i_Gather_isDatac1_ok ent68 envOK_nil))
set_option maxRecDepth 100000 in
theorem i_Gather_isData_ok : Contract Try.prog 71 i_Gather_isData_c := by
  have hl : LoopsOK i_Gather_isData_V [] i_Gather_isData_b := loopsOK_nil (by kernel_rfl)
  refine (contract_of (F := i_Gather_isData_I) tau_tys i_Gather_isData_env Try.func71 (by kernel_rfl) (by kernel_rfl) (by kernel_rfl) hl []).weaken ?_
  rintro ⟨av, rs⟩ co h
  have h : (i_Gather_isData_G av rs).run some = some co := h
  obtain ⟨a0_, av0, rfl, h_0⟩ := asCons_spec h
  obtain ⟨a1_, av1, rfl, h_1⟩ := asCons_spec h_0
  obtain ⟨rfl, h_2⟩ := asEnd_spec h_1
  obtain ⟨rfl, h_3⟩ := asEnd_spec h_2
  obtain ⟨z2, d1, rfl, h_4⟩ := asImm_spec h_3
  obtain ⟨z4, d3, rfl, h_5⟩ := asImm_spec h_4
  exact fin_opt (i_Gather_isData_eq z2 z4 d1 d3) (i_Gather_isData_spec d1 d3) h_5

end Go.Proofs.Ytddaclhjnkimfaa

namespace Go.Proofs.Ytddaclhjnkimfaa
open Go Go.Abs Go.Proofs

/-! function 60: loop.example/g01144/impl.ValidGather -/
noncomputable def i_ValidGather (p0 : (Int × (Int × ((List Int) × (Int × (Int × Unit)))))) : Tre Bool :=
  .cond (inR p0.1 1 4)
    (.cond (inR p0.2.1 1 6)
      (.mat (isDat p0 p0.2.2.1) fun r1 =>
      .cond r1
        (.cond (inR p0.2.2.2.1 0 3)
          (.ret (inR p0.2.2.2.2.1 1 3))
          (.ret false))
        (.ret false))
      (.ret false))
    (.ret false)
noncomputable def i_ValidGather_F (p0 : (Int × (Int × ((List Int) × (Int × (Int × Unit)))))) : Option Bool := (i_ValidGather p0).run some
theorem i_ValidGather_spec (p0 : Int × Int × List Int × Int × Int × Unit) (y : Bool) (h : okG p0 = some y) : i_ValidGather_F p0 = some y := by
  obtain ⟨hl, rfl⟩ := lim_some h
  unfold i_ValidGather_F i_ValidGather isG
  simp only [Tre.run_cond, Tre.run_ret]
  cases h1 : inR p0.1 1 4
  · rfl
  cases h2 : inR p0.2.1 1 6
  · rfl
  rw [inR_iff] at h2
  rw [run_some_mat (show isDat p0 p0.2.2.1 = some _ from askO_true (by simp; omega))]
  simp only [cond_true, Bool.true_and, Tre.run_cond, Tre.run_ret]
  cases decide ((p0.2.2.1.length : Int) = p0.1)
  · rfl
  cases p0.2.2.1.all (inP p0.2.1)
  · rfl
  cases inR p0.2.2.2.1 0 3 <;> rfl

noncomputable def i_ValidGather_V : Env := ⟨tau, [(70, i_within_c), (71, i_Gather_isData_c)], []⟩
noncomputable def i_ValidGather_b : Code := (Try.f60.body).getD .skip
noncomputable def i_ValidGather_I : FnI := ⟨i_ValidGather_b, Try.f60.results.toList, Try.f60.resultTypes.toList, []⟩
noncomputable def i_ValidGather_out (_zp0 : Bool) (_p0 : (Int × (Int × ((List Int) × (Int × (Int × Unit)))))) : Bool → CallOut := fun r => ⟨(.imm true .bool r), [], []⟩
set_option maxRecDepth 100000 in
theorem i_ValidGather_eq : ∀ (zp0 : Bool) (p0 : (Int × (Int × ((List Int) × (Int × (Int × Unit)))))), denFn i_ValidGather_V i_ValidGather_I ⟨[(.imm zp0 kGather p0)], []⟩ = (i_ValidGather p0).run fun r => some (i_ValidGather_out zp0 p0 r) := fun _ _ => by kernel_rfl
noncomputable def i_ValidGather_G (av : List AV) (rs : List Root) : Tre CallOut :=
  asCons av fun a0_ av0 =>
  asEnd av0 <|
  asEnd rs <|
  asImm kGather a0_ fun z2 d1 =>
  .mat (okG d1) fun r => .ret (i_ValidGather_out z2 d1 r)
noncomputable def i_ValidGather_c : Ctr := ⟨[], fun ci => i_ValidGather_G ci.args ci.roots⟩
theorem i_ValidGather_env : EnvOK Try.prog i_ValidGather_V := (envOK_cons i_within_ok ent70 (envOK_cons i_Gather_isData_ok ent71 envOK_nil))
set_option maxRecDepth 100000 in
theorem i_ValidGather_ok : Contract Try.prog 60 i_ValidGather_c := by
  have hl : LoopsOK i_ValidGather_V [] i_ValidGather_b := loopsOK_nil (by kernel_rfl)
  refine (contract_of (F := i_ValidGather_I) tau_tys i_ValidGather_env Try.func60 (by kernel_rfl) (by kernel_rfl) (by kernel_rfl) hl []).weaken ?_
  rintro ⟨av, rs⟩ co h
  have h : (i_ValidGather_G av rs).run some = some co := h
  obtain ⟨a0_, av0, rfl, h_0⟩ := asCons_spec h
  obtain ⟨rfl, h_1⟩ := asEnd_spec h_0
  obtain ⟨rfl, h_2⟩ := asEnd_spec h_1
  obtain ⟨z2, d1, rfl, h_3⟩ := asImm_spec h_2
  exact fin_opt (i_ValidGather_eq z2 d1) (i_ValidGather_spec d1) h_3

end Go.Proofs.Ytddaclhjnkimfaa

namespace Go.Proofs.Ytddaclhjnkimfaa
open Go Go.Abs Go.Proofs

/-! function 102: loop.example/g01144/impl.deedWord -/
noncomputable def i_deedWord (p0 : Int) : Tre (ByteArray × Int) :=
  .cond (decide (p0 = 1))
    (.ret ((⟨#[115, 101, 110, 100]⟩ : ByteArray), 3))
    (.cond (decide (p0 = 2))
      (.ret ((⟨#[100, 101, 108, 105, 118, 101, 114]⟩ : ByteArray), 1))
      (.cond (decide (p0 = 3))
        (.ret ((⟨#[99, 111, 112, 121]⟩ : ByteArray), 1))
        (.cond (decide (p0 = 4))
          (.ret ((⟨#[100, 114, 111, 112]⟩ : ByteArray), 1))
          (.cond (decide (p0 = 5))
            (.ret ((⟨#[115, 112, 111, 105, 108]⟩ : ByteArray), 2))
            (.cond (decide (p0 = 6))
              (.ret ((⟨#[115, 97, 118, 101]⟩ : ByteArray), 1))
              (.cond (decide (p0 = 7))
                (.ret ((⟨#[99, 114, 97, 115, 104]⟩ : ByteArray), 1))
                (.cond (decide (p0 = 8))
                  (.ret ((⟨#[102, 111, 114, 103, 101, 116]⟩ : ByteArray), 1))
                  (.ret ((⟨#[]⟩ : ByteArray), 0)))))))))
noncomputable def i_deedWord_F (p0 : Int) : Option (ByteArray × Int) := (i_deedWord p0).run some
def i_deedWord_S (p0 : Int) : (ByteArray × Int) :=
  cond (decide (p0 = 1))
    (((⟨#[115, 101, 110, 100]⟩ : ByteArray), 3))
    (cond (decide (p0 = 2))
      (((⟨#[100, 101, 108, 105, 118, 101, 114]⟩ : ByteArray), 1))
      (cond (decide (p0 = 3))
        (((⟨#[99, 111, 112, 121]⟩ : ByteArray), 1))
        (cond (decide (p0 = 4))
          (((⟨#[100, 114, 111, 112]⟩ : ByteArray), 1))
          (cond (decide (p0 = 5))
            (((⟨#[115, 112, 111, 105, 108]⟩ : ByteArray), 2))
            (cond (decide (p0 = 6))
              (((⟨#[115, 97, 118, 101]⟩ : ByteArray), 1))
              (cond (decide (p0 = 7))
                (((⟨#[99, 114, 97, 115, 104]⟩ : ByteArray), 1))
                (cond (decide (p0 = 8))
                  (((⟨#[102, 111, 114, 103, 101, 116]⟩ : ByteArray), 1))
                  (((⟨#[]⟩ : ByteArray), 0)))))))))
theorem i_deedWord_spec (p0 : Int) : i_deedWord_F p0 = some (i_deedWord_S p0) := (run_cond_some rfl (run_cond_some rfl (run_cond_some rfl (run_cond_some rfl (run_cond_some rfl (run_cond_some rfl (run_cond_some rfl (run_cond_some rfl rfl))))))))
noncomputable def i_deedWord_V : Env := ⟨tau, [], []⟩
noncomputable def i_deedWord_b : Code := (Try.f102.body).getD .skip
noncomputable def i_deedWord_I : FnI := ⟨i_deedWord_b, Try.f102.results.toList, Try.f102.resultTypes.toList, []⟩
noncomputable def i_deedWord_out (_p0 : Int) : (ByteArray × Int) → CallOut := fun r => ⟨(.tcons (.imm true .str r.1) (.tcons (.imm true (.int .i64) r.2) .tnil)), [], []⟩
set_option maxRecDepth 100000 in
theorem i_deedWord_eq : ∀ (p0 : Int), denFn i_deedWord_V i_deedWord_I ⟨[(.imm true (.int .i64) p0)], []⟩ = (i_deedWord p0).run fun r => some (i_deedWord_out p0 r) := fun _ => by kernel_rfl
noncomputable def i_deedWord_G (av : List AV) (rs : List Root) : Tre CallOut :=
  asCons av fun a0_ av0 =>
  asEnd av0 <|
  asEnd rs <|
  asImmZ true (.int .i64) a0_ fun d1 =>
  .ret (i_deedWord_out d1 (i_deedWord_S d1))
noncomputable def i_deedWord_c : Ctr := ⟨[], fun ci => i_deedWord_G ci.args ci.roots⟩
theorem i_deedWord_env : EnvOK Try.prog i_deedWord_V := envOK_nil
set_option maxRecDepth 100000 in
theorem i_deedWord_ok : Contract Try.prog 102 i_deedWord_c := by
  have hl : LoopsOK i_deedWord_V [] i_deedWord_b := loopsOK_nil (by kernel_rfl)
  refine (contract_of (F := i_deedWord_I) tau_tys i_deedWord_env Try.func102 (by kernel_rfl) (by kernel_rfl) (by kernel_rfl) hl []).weaken ?_
  rintro ⟨av, rs⟩ co h
  have h : (i_deedWord_G av rs).run some = some co := h
  obtain ⟨a0_, av0, rfl, h_0⟩ := asCons_spec h
  obtain ⟨rfl, h_1⟩ := asEnd_spec h_0
  obtain ⟨rfl, h_2⟩ := asEnd_spec h_1
  obtain ⟨d1, rfl, h_3⟩ := asImmZ_spec h_2
  exact fin_ret (i_deedWord_eq d1) (i_deedWord_spec d1) h_3

end Go.Proofs.Ytddaclhjnkimfaa

namespace Go.Proofs.Ytddaclhjnkimfaa
open Go Go.Abs Go.Proofs

/-! function 103: (loop.example/g01144/impl.Deed).numbers -/
noncomputable def i_Deed_numbers (p0 : (Int × (Int × (Int × (Int × Unit))))) : Tre (List Int) :=
  .ret ([p0.2.1, p0.2.2.1, p0.2.2.2.1])
noncomputable def i_Deed_numbers_F (p0 : (Int × (Int × (Int × (Int × Unit))))) : Option (List Int) := (i_Deed_numbers p0).run some
theorem i_Deed_numbers_spec (p0 : (Int × (Int × (Int × (Int × Unit))))) : i_Deed_numbers_F p0 = some ([p0.2.1, p0.2.2.1, p0.2.2.2.1]) := rfl
noncomputable def i_Deed_numbers_V : Env := ⟨tau, [], []⟩
noncomputable def i_Deed_numbers_b : Code := (Try.f103.body).getD .skip
noncomputable def i_Deed_numbers_I : FnI := ⟨i_Deed_numbers_b, Try.f103.results.toList, Try.f103.resultTypes.toList, []⟩
noncomputable def i_Deed_numbers_out (_p0 : (Int × (Int × (Int × (Int × Unit))))) : (List Int) → CallOut := fun r => ⟨(.ref (1, 0) []), [], [⟨false, (.sl (.int .i64)), .own, r⟩]⟩
set_option maxRecDepth 100000 in
theorem i_Deed_numbers_eq : ∀ (p0 : (Int × (Int × (Int × (Int × Unit))))), denFn i_Deed_numbers_V i_Deed_numbers_I ⟨[(.imm true kDeed p0)], []⟩ = (i_Deed_numbers p0).run fun r => some (i_Deed_numbers_out p0 r) := fun _ => by kernel_rfl
noncomputable def i_Deed_numbers_G (av : List AV) (rs : List Root) : Tre CallOut :=
  asCons av fun a0_ av0 =>
  asEnd av0 <|
  asEnd rs <|
  asImmZ true kDeed a0_ fun d1 =>
  .ret (i_Deed_numbers_out d1 ([d1.2.1, d1.2.2.1, d1.2.2.2.1]))
noncomputable def i_Deed_numbers_c : Ctr := ⟨[], fun ci => i_Deed_numbers_G ci.args ci.roots⟩
theorem i_Deed_numbers_env : EnvOK Try.prog i_Deed_numbers_V := envOK_nil
set_option maxRecDepth 100000 in
theorem i_Deed_numbers_ok : Contract Try.prog 103 i_Deed_numbers_c := by
  have hl : LoopsOK i_Deed_numbers_V [] i_Deed_numbers_b := loopsOK_nil (by kernel_rfl)
  refine (contract_of (F := i_Deed_numbers_I) tau_tys i_Deed_numbers_env Try.func103 (by kernel_rfl) (by kernel_rfl) (by kernel_rfl) hl []).weaken ?_
  rintro ⟨av, rs⟩ co h
  have h : (i_Deed_numbers_G av rs).run some = some co := h
  obtain ⟨a0_, av0, rfl, h_0⟩ := asCons_spec h
  obtain ⟨rfl, h_1⟩ := asEnd_spec h_0
  obtain ⟨rfl, h_2⟩ := asEnd_spec h_1
  obtain ⟨d1, rfl, h_3⟩ := asImmZ_spec h_2
  exact fin_ret (i_Deed_numbers_eq d1) (i_Deed_numbers_spec d1) h_3

end Go.Proofs.Ytddaclhjnkimfaa

namespace Go.Proofs.Ytddaclhjnkimfaa
open Go Go.Abs Go.Proofs

/-! function 77: loop.example/g01144/impl.ValidDeed -/
noncomputable def i_ValidDeed_l3 (h3_0_1 : Int) (h3_0_2 : Int) (h3_0_4 : (List Int)) : Int → Tre (Int ⊕ (Bool ⊕ Unit)) := fun s3 =>
  .cond (decide (s3 < h3_0_2))
    (.ite (0 ≤ s3 ∧ s3 < (h3_0_4.length : Int)) <|
    .mat (h3_0_4[s3.toNat]?) fun x2 =>
    .cond (!(inR x2 0 9999))
      (.ret (.inr (.inl false)))
      (.cond (decide (s3 ≥ h3_0_1))
        (.cond (!decide (x2 = 0))
          (.ret (.inr (.inl false)))
          (.ret (.inl (iwrap .i64 (s3 + 1)))))
        (.ret (.inl (iwrap .i64 (s3 + 1))))))
    (.ret (.inr (.inr ())))
noncomputable def i_ValidDeed (p0 : (Int × (Int × (Int × (Int × Unit))))) : Tre Bool :=
  let v1 := [p0.2.1, p0.2.2.1, p0.2.2.2.1]
  .mat (loopF (i_ValidDeed_l3 ((i_deedWord_S p0.1).2) (v1.length : Int) v1) 0) fun l3 =>
  .alt l3
    (fun a4 =>
      .ret a4)
    (fun _ =>
      .ret (!(((i_deedWord_S p0.1).1).toList == (⟨#[]⟩ : ByteArray).toList)))
noncomputable def i_ValidDeed_F (p0 : (Int × (Int × (Int × (Int × Unit))))) : Option Bool := (i_ValidDeed p0).run some
/-- the three numbers of a deed -/
def okNums (m a b c : Int) : Bool := inR a 0 9999 && (decide (0 < m) || decide (a = 0)) && (inR b 0 9999 && (decide (1 < m) || decide (b = 0))) && (inR c 0 9999 && (decide (2 < m) || decide (c = 0)))
theorem i_ValidDeed_l3_at (m : Int) (v : List Int) (i : Nat) (x : Int) (hx : v[i]? = some x) (hv : v.length = 3) : loopF (i_ValidDeed_l3 m (v.length : Int) v) (i : Int) =
    if (inR x 0 9999 && (decide ((i : Int) < m) || decide (x = 0))) = true then loopF (i_ValidDeed_l3 m (v.length : Int) v) ((i + 1 : Nat) : Int) else some (.inl false) := by
  rw [loopF_eq]
  have hi : i < v.length := (List.getElem?_eq_some_iff.1 hx).1
  have hw : iwrap .i64 ((i : Int) + 1) = ((i + 1 : Nat) : Int) := by rw [iwrap_i64 (by omega) (by omega)]; rfl
  unfold i_ValidDeed_l3
  simp only [Tre.run_cond, Tre.run_ret, Tre.run_ite, Tre.run_mat, Int.toNat_natCast, hx, hw, Option.bind_some]
  rw [show decide ((i : Int) < (v.length : Int)) = true from by simp; omega, cond_true, if_pos ⟨by omega, by omega⟩]
  cases h1 : inR x 0 9999
  · simp
  · by_cases h2 : (i : Int) < m
    · have h2' : ¬ m ≤ (i : Int) := by omega
      simp [h2, h2']
    · have h2' : m ≤ (i : Int) := by omega
      by_cases h3 : x = 0 <;> simp [h2, h2', h3]
theorem i_ValidDeed_l3_end (m : Int) (v : List Int) (i : Nat) (hi : i = v.length) : loopF (i_ValidDeed_l3 m (v.length : Int) v) (i : Int) = some (.inr ()) := by
  rw [loopF_eq]
  unfold i_ValidDeed_l3
  simp [Tre.run_cond, Tre.run_ret, hi]
theorem i_ValidDeed_l3_all (m a b c : Int) : loopF (i_ValidDeed_l3 m ([a, b, c].length : Int) [a, b, c]) 0 = some (if okNums m a b c = true then .inr () else .inl false) := by
  have h0 := i_ValidDeed_l3_at m [a, b, c] 0 a rfl rfl
  have h1 := i_ValidDeed_l3_at m [a, b, c] 1 b rfl rfl
  have h2 := i_ValidDeed_l3_at m [a, b, c] 2 c rfl rfl
  have h3 := i_ValidDeed_l3_end m [a, b, c] 3 rfl
  refine h0.trans ?_
  unfold okNums
  cases (inR a 0 9999 && (decide (((0 : Nat) : Int) < m) || decide (a = 0))) <;> simp only [Bool.false_and, Bool.true_and, if_false, if_true, Bool.false_eq_true]
  refine h1.trans ?_
  cases (inR b 0 9999 && (decide (((1 : Nat) : Int) < m) || decide (b = 0))) <;> simp only [Bool.false_and, Bool.true_and, if_false, if_true, Bool.false_eq_true]
  refine h2.trans ?_
  cases (inR c 0 9999 && (decide (((2 : Nat) : Int) < m) || decide (c = 0))) <;> simp only [Bool.false_and, Bool.true_and, if_false, if_true, Bool.false_eq_true]
  exact h3
theorem i_ValidDeed_spec (p0 : Int × Int × Int × Int × Unit) : i_ValidDeed_F p0 = some (vDeed p0) := by
  obtain ⟨k, a, b, c, ⟨⟩⟩ := p0
  unfold i_ValidDeed_F i_ValidDeed vDeed
  dsimp only
  rw [Tre.run_mat, i_ValidDeed_l3_all, Option.bind_some]
  have hk : inR k 1 8 = false → i_deedWord_S k = ((⟨#[]⟩ : ByteArray), 0) := by
    intro h
    rw [inR_false] at h
    unfold i_deedWord_S
    have e : ∀ j : Int, 1 ≤ j → j ≤ 8 → decide (k = j) = false := fun j h1 h2 => by simp; omega
    simp [e]
  have hn : ∀ m a b c : Int, 0 ≤ m → okNums m a b c = (inR a 0 9999 && inR b 0 9999 && inR c 0 9999 && (decide (0 < m) || decide (a = 0)) && (decide (1 < m) || decide (b = 0)) && (decide (2 < m) || decide (c = 0))) := by
    intro m a b c _
    unfold okNums
    generalize decide (0 < m) = m0
    generalize decide (1 < m) = m1
    generalize decide (2 < m) = m2
    cases inR a 0 9999 <;> cases inR b 0 9999 <;> cases inR c 0 9999 <;> simp [Bool.and_assoc]
  cases h1 : inR k 1 8 with
  | false =>
    rw [hk h1]
    simp only [Bool.false_and]
    split <;> simp [Tre.run_ret, Tre.run_inl, Tre.run_inr]
  | true =>
    rcases kind_cases h1 with rfl | rfl | rfl | rfl | rfl | rfl | rfl | rfl <;>
      (simp only [i_deedWord_S]; simp [hn]; cases inR a 0 9999 <;> cases inR b 0 9999 <;> cases inR c 0 9999 <;> by_cases hb : b = 0 <;> by_cases hc : c = 0 <;> simp [hb, hc, Tre.run_ret, Tre.run_inl, Tre.run_inr])

noncomputable def i_ValidDeed_V : Env := ⟨tau, [(102, i_deedWord_c), (103, i_Deed_numbers_c), (70, i_within_c)], []⟩
noncomputable def i_ValidDeed_b : Code := (Try.f77.body).getD .skip
noncomputable def i_ValidDeed_l3_mk (h3_0_0 : ByteArray) (h3_0_1 : Int) (h3_0_2 : Int) (h3_0_4 : (List Int)) : Int → St := fun x => stOf [(3, (.imm true .str h3_0_0)), (4, (.imm true (.int .i64) h3_0_1)), (14, (.ref (16, 0) [])), (15, (.imm true (.int .i64) h3_0_2)), (16, (.imm true (.int .i64) x))] [((16, 0), some ⟨false, (.sl (.int .i64)), .own, h3_0_4⟩)]
noncomputable def i_ValidDeed_l3_out (h3_0_0 : ByteArray) (_h3_0_1 : Int) (_h3_0_2 : Int) (_h3_0_4 : (List Int)) : (Bool ⊕ Unit) → Ex × St
  | .inl x => (.ret, stOf [(2, (.imm true .bool x)), (3, (.imm true .str h3_0_0))] [])
  | .inr x => (.exit 0, stOf [(2, .dead), (3, (.imm true .str h3_0_0))] [])
noncomputable def i_ValidDeed_l3_D (s : St) : Tre (Ex × St) :=
  asImmZ true .str (s.tmps 3) fun d2 =>
  asImmZ true (.int .i64) (s.tmps 4) fun d4 =>
  asRef (16, 0) [] (s.tmps 14) <|
  asImmZ true (.int .i64) (s.tmps 15) fun d7 =>
  asImmZ true (.int .i64) (s.tmps 16) fun d9 =>
  asRoot false (.sl (.int .i64)) (s.roots (16, 0)) fun m11 d12 =>
  asM .own m11 <|
  .mat (loopF (i_ValidDeed_l3 d4 d7 d12) d9) fun x => .alt x (fun a0 => .ret (i_ValidDeed_l3_out d2 d4 d7 d12 (.inl a0))) (fun b0 => .ret (i_ValidDeed_l3_out d2 d4 d7 d12 (.inr b0)))
noncomputable def i_ValidDeed_l3_L : LoopI := ⟨([3, 4, 14, 15, 16], [(16, 0)]), ([2, 3], []), i_ValidDeed_l3_D⟩
noncomputable def i_ValidDeed_A : List (Nat × LoopI) := [(3, i_ValidDeed_l3_L)]
set_option maxRecDepth 100000 in
theorem i_ValidDeed_l3_step : ∀ (h3_0_0 : ByteArray) (h3_0_1 : Int) (h3_0_2 : Int) (h3_0_4 : (List Int)) (x : Int) (c : St → Option (Ex × St)), den i_ValidDeed_V i_ValidDeed_A (loopAt i_ValidDeed_b 0) (i_ValidDeed_l3_mk h3_0_0 h3_0_1 h3_0_2 h3_0_4 x) (roundK i_ValidDeed_l3_L.kp i_ValidDeed_l3_L.kx c) = (i_ValidDeed_l3 h3_0_1 h3_0_2 h3_0_4 x).run (roundR (i_ValidDeed_l3_mk h3_0_0 h3_0_1 h3_0_2 h3_0_4) (i_ValidDeed_l3_out h3_0_0 h3_0_1 h3_0_2 h3_0_4) c) := fun _ _ _ _ _ _ => by
  kernel_rfl
theorem i_ValidDeed_l3_ok : LoopOK i_ValidDeed_V i_ValidDeed_A (loopAt i_ValidDeed_b 0) i_ValidDeed_l3_L := loopOK_of fun s e s' h => by
  generalize hs : restrict i_ValidDeed_l3_L.kp s = s1 at h
  have h : (i_ValidDeed_l3_D s1).run some = some (e, s') := h
  obtain ⟨d2, e1, h_0⟩ := asImmZ_spec h
  obtain ⟨d4, e3, h_1⟩ := asImmZ_spec h_0
  obtain ⟨e5, h_2⟩ := asRef_spec h_1
  obtain ⟨d7, e6, h_3⟩ := asImmZ_spec h_2
  obtain ⟨d9, e8, h_4⟩ := asImmZ_spec h_3
  obtain ⟨m11, d12, e10, h_5⟩ := asRoot_spec h_4
  obtain ⟨rfl, h_6⟩ := asM_spec h_5
  obtain ⟨y, hy, hz⟩ := mat_some h_6
  refine ⟨_, _, i_ValidDeed_l3_mk d2 d4 d7 d12, i_ValidDeed_l3_out d2 d4 d7 d12, i_ValidDeed_l3 d4 d7 d12, d9, y, ?_, hy, ?_, i_ValidDeed_l3_step d2 d4 d7 d12⟩
  · subst hs; exact restrict_eq (T := [(3, (.imm true .str d2)), (4, (.imm true (.int .i64) d4)), (14, (.ref (16, 0) [])), (15, (.imm true (.int .i64) d7)), (16, (.imm true (.int .i64) d9))]) (U := [((16, 0), some ⟨false, (.sl (.int .i64)), .own, d12⟩)]) rfl rfl ⟨e1, e3, e5, e6, e8, trivial⟩ ⟨e10, trivial⟩
  · rcases y with x | x <;> exact Option.some.inj hz
noncomputable def i_ValidDeed_I : FnI := ⟨i_ValidDeed_b, Try.f77.results.toList, Try.f77.resultTypes.toList, i_ValidDeed_A⟩
noncomputable def i_ValidDeed_out (_p0 : (Int × (Int × (Int × (Int × Unit))))) : Bool → CallOut := fun r => ⟨(.imm true .bool r), [], []⟩
set_option maxRecDepth 100000 in
theorem i_ValidDeed_eq : ∀ (p0 : (Int × (Int × (Int × (Int × Unit))))), denFn i_ValidDeed_V i_ValidDeed_I ⟨[(.imm true kDeed p0)], []⟩ = (i_ValidDeed p0).run fun r => some (i_ValidDeed_out p0 r) := fun _ => by kernel_rfl
noncomputable def i_ValidDeed_G (av : List AV) (rs : List Root) : Tre CallOut :=
  asCons av fun a0_ av0 =>
  asEnd av0 <|
  asEnd rs <|
  asImmZ true kDeed a0_ fun d1 =>
  .ret (i_ValidDeed_out d1 (vDeed d1))
noncomputable def i_ValidDeed_c : Ctr := ⟨[], fun ci => i_ValidDeed_G ci.args ci.roots⟩
theorem i_ValidDeed_env : EnvOK Try.prog i_ValidDeed_V := (envOK_cons i_deedWord_ok ent102 (envOK_cons i_Deed_numbers_ok ent103 (envOK_cons i_within_ok ent70 envOK_nil)))
set_option maxRecDepth 100000 in
theorem i_ValidDeed_ok : Contract Try.prog 77 i_ValidDeed_c := by
  have hl : LoopsOK i_ValidDeed_V i_ValidDeed_A i_ValidDeed_b := (loopsOK_all (n := 1) (by kernel_rfl) fun k hk => by
      match k, hk with
      | 0, _ => exact loopOK_at (id := 3) (L := i_ValidDeed_l3_L) (by kernel_rfl) (by kernel_rfl) i_ValidDeed_l3_ok)
  refine (contract_of (F := i_ValidDeed_I) tau_tys i_ValidDeed_env Try.func77 (by kernel_rfl) (by kernel_rfl) (by kernel_rfl) hl []).weaken ?_
  rintro ⟨av, rs⟩ co h
  have h : (i_ValidDeed_G av rs).run some = some co := h
  obtain ⟨a0_, av0, rfl, h_0⟩ := asCons_spec h
  obtain ⟨rfl, h_1⟩ := asEnd_spec h_0
  obtain ⟨rfl, h_2⟩ := asEnd_spec h_1
  obtain ⟨d1, rfl, h_3⟩ := asImmZ_spec h_2
  exact fin_ret (i_ValidDeed_eq d1) (i_ValidDeed_spec d1) h_3

end Go.Proofs.Ytddaclhjnkimfaa

namespace Go.Proofs.Ytddaclhjnkimfaa
open Go Go.Abs Go.Proofs

/-! function 76: loop.example/g01144/impl.deedsCode$1 -/
noncomputable def i_deedsCodec1 (p0 : (Int × (Int × (Int × (Int × Unit))))) : Tre Bool :=
  .ret (!(vDeed p0))
noncomputable def i_deedsCodec1_F (p0 : (Int × (Int × (Int × (Int × Unit))))) : Option Bool := (i_deedsCodec1 p0).run some
theorem i_deedsCodec1_spec (p0 : (Int × (Int × (Int × (Int × Unit))))) : i_deedsCodec1_F p0 = some (!(vDeed p0)) := rfl
noncomputable def i_deedsCodec1_V : Env := ⟨tau, [(77, i_ValidDeed_c)], []⟩
noncomputable def i_deedsCodec1_b : Code := (Try.f76.body).getD .skip
noncomputable def i_deedsCodec1_I : FnI := ⟨i_deedsCodec1_b, Try.f76.results.toList, Try.f76.resultTypes.toList, []⟩
noncomputable def i_deedsCodec1_out (_p0 : (Int × (Int × (Int × (Int × Unit))))) : Bool → CallOut := fun r => ⟨(.imm true .bool r), [], []⟩
set_option maxRecDepth 100000 in
theorem i_deedsCodec1_eq : ∀ (p0 : (Int × (Int × (Int × (Int × Unit))))), denFn i_deedsCodec1_V i_deedsCodec1_I ⟨[(.imm true kDeed p0)], []⟩ = (i_deedsCodec1 p0).run fun r => some (i_deedsCodec1_out p0 r) := fun _ => by kernel_rfl
noncomputable def i_deedsCodec1_G (av : List AV) (rs : List Root) : Tre CallOut :=
  asCons av fun a0_ av0 =>
  asEnd av0 <|
  asEnd rs <|
  asImmZ true kDeed a0_ fun d1 =>
  .ret (i_deedsCodec1_out d1 (!(vDeed d1)))
noncomputable def i_deedsCodec1_c : Ctr := ⟨[], fun ci => i_deedsCodec1_G ci.args ci.roots⟩
theorem i_deedsCodec1_env : EnvOK Try.prog i_deedsCodec1_V := (envOK_cons i_ValidDeed_ok ent77 envOK_nil)
set_option maxRecDepth 100000 in
theorem i_deedsCodec1_ok : Contract Try.prog 76 i_deedsCodec1_c := by
  have hl : LoopsOK i_deedsCodec1_V [] i_deedsCodec1_b := loopsOK_nil (by kernel_rfl)
  refine (contract_of (F := i_deedsCodec1_I) tau_tys i_deedsCodec1_env Try.func76 (by kernel_rfl) (by kernel_rfl) (by kernel_rfl) hl []).weaken ?_
  rintro ⟨av, rs⟩ co h
  have h : (i_deedsCodec1_G av rs).run some = some co := h
  obtain ⟨a0_, av0, rfl, h_0⟩ := asCons_spec h
  obtain ⟨rfl, h_1⟩ := asEnd_spec h_0
  obtain ⟨rfl, h_2⟩ := asEnd_spec h_1
  obtain ⟨d1, rfl, h_3⟩ := asImmZ_spec h_2
  exact fin_ret (i_deedsCodec1_eq d1) (i_deedsCodec1_spec d1) h_3

end Go.Proofs.Ytddaclhjnkimfaa

namespace Go.Proofs.Ytddaclhjnkimfaa
open Go Go.Abs Go.Proofs

/-! function 101: slices.IndexFunc[[]loop.example/g01144/impl.Deed,loop.example/g01144/impl.Deed] -/
noncomputable def slices_IndexFunc_Deed_i_deedsCodec1_l2 (h2_0_0 : (List (Int × (Int × (Int × (Int × Unit)))))) (h2_0_1 : Int) : Int → Tre (Int ⊕ (Int ⊕ Unit)) := fun s2 =>
  .cond (decide (s2 < h2_0_1))
    (.ite (0 ≤ s2 ∧ s2 < (h2_0_0.length : Int)) <|
    .mat (h2_0_0[s2.toNat]?) fun x1 =>
    .cond (!(vDeed x1))
      (.ret (.inr (.inl s2)))
      (.ret (.inl (iwrap .i64 (s2 + 1)))))
    (.ret (.inr (.inr ())))
noncomputable def slices_IndexFunc_Deed_i_deedsCodec1 (p0 : (List (Int × (Int × (Int × (Int × Unit)))))) : Tre Int :=
  .mat (loopF (slices_IndexFunc_Deed_i_deedsCodec1_l2 p0 (p0.length : Int)) 0) fun l2 =>
  .alt l2
    (fun a3 =>
      .ret a3)
    (fun _ =>
      .ret (-1))
noncomputable def slices_IndexFunc_Deed_i_deedsCodec1_F (p0 : (List (Int × (Int × (Int × (Int × Unit)))))) : Option Int := (slices_IndexFunc_Deed_i_deedsCodec1 p0).run some
/-- the first deed that is no right one -/
def idxV (xs : List (Int × Int × Int × Int × Unit)) : Option Int := askO (decide (xs.length ≤ 1048576)) (idxI (fun x => !vDeed x) 0 xs)
theorem slices_IndexFunc_Deed_i_deedsCodec1_spec (p0 : List (Int × Int × Int × Int × Unit)) (y : Int) (h : idxV p0 = some y) : slices_IndexFunc_Deed_i_deedsCodec1_F p0 = some y := by
  obtain ⟨hl, rfl⟩ := askO_some h
  have hl := of_decide_eq_true hl
  unfold slices_IndexFunc_Deed_i_deedsCodec1_F slices_IndexFunc_Deed_i_deedsCodec1
  rw [Tre.run_mat, find_loop (xs := p0) (fun i x => cond (!vDeed x) (some (.inl (i : Int))) none) (.inr ())]
  · rw [Option.bind_some, ← findE_idx (p := fun x => !vDeed x)]
    generalize findE _ _ _ _ = r
    cases r <;> rfl
  · intro i x hx
    have hi : i < p0.length := (List.getElem?_eq_some_iff.1 hx).1
    unfold slices_IndexFunc_Deed_i_deedsCodec1_l2
    rw [run_inb hx, Tre.run_cond]
    cases vDeed x
    · rfl
    · simp only [Bool.not_true, cond_false, Tre.run_ret, iwrap_succ (show i < 4611686018427387904 by omega)]
  · unfold slices_IndexFunc_Deed_i_deedsCodec1_l2
    exact run_out

noncomputable def slices_IndexFunc_Deed_i_deedsCodec1_V : Env := ⟨tau, [(76, i_deedsCodec1_c)], []⟩
noncomputable def slices_IndexFunc_Deed_i_deedsCodec1_b : Code := (Try.f101.body).getD .skip
noncomputable def slices_IndexFunc_Deed_i_deedsCodec1_l2_mk (z2_0 : Bool) (h2_0_0 : (List (Int × (Int × (Int × (Int × Unit)))))) (h2_0_1 : Int) : Int → St := fun x => stOf [(0, (.imm z2_0 (.sl kDeed) h2_0_0)), (1, (.fn 76 [])), (7, (.imm true (.int .i64) h2_0_1)), (8, (.imm true (.int .i64) x))] []
noncomputable def slices_IndexFunc_Deed_i_deedsCodec1_l2_out (_z2_0 : Bool) (_h2_0_0 : (List (Int × (Int × (Int × (Int × Unit)))))) (_h2_0_1 : Int) : (Int ⊕ Unit) → Ex × St
  | .inl x => (.ret, stOf [(4, (.imm true (.int .i64) x))] [])
  | .inr x => (.exit 0, stOf [(4, .dead)] [])
noncomputable def slices_IndexFunc_Deed_i_deedsCodec1_l2_D (s : St) : Tre (Ex × St) :=
  asImm (.sl kDeed) (s.tmps 0) fun z3 d2 =>
  asFn 76 [] (s.tmps 1) <|
  asImmZ true (.int .i64) (s.tmps 7) fun d6 =>
  asImmZ true (.int .i64) (s.tmps 8) fun d8 =>
  .mat (loopF (slices_IndexFunc_Deed_i_deedsCodec1_l2 d2 d6) d8) fun x => .alt x (fun a0 => .ret (slices_IndexFunc_Deed_i_deedsCodec1_l2_out z3 d2 d6 (.inl a0))) (fun b0 => .ret (slices_IndexFunc_Deed_i_deedsCodec1_l2_out z3 d2 d6 (.inr b0)))
noncomputable def slices_IndexFunc_Deed_i_deedsCodec1_l2_L : LoopI := ⟨([0, 1, 7, 8], []), ([4], []), slices_IndexFunc_Deed_i_deedsCodec1_l2_D⟩
noncomputable def slices_IndexFunc_Deed_i_deedsCodec1_A : List (Nat × LoopI) := [(2, slices_IndexFunc_Deed_i_deedsCodec1_l2_L)]
set_option maxRecDepth 100000 in
theorem slices_IndexFunc_Deed_i_deedsCodec1_l2_step : ∀ (z2_0 : Bool) (h2_0_0 : (List (Int × (Int × (Int × (Int × Unit)))))) (h2_0_1 : Int) (x : Int) (c : St → Option (Ex × St)), den slices_IndexFunc_Deed_i_deedsCodec1_V slices_IndexFunc_Deed_i_deedsCodec1_A (loopAt slices_IndexFunc_Deed_i_deedsCodec1_b 0) (slices_IndexFunc_Deed_i_deedsCodec1_l2_mk z2_0 h2_0_0 h2_0_1 x) (roundK slices_IndexFunc_Deed_i_deedsCodec1_l2_L.kp slices_IndexFunc_Deed_i_deedsCodec1_l2_L.kx c) = (slices_IndexFunc_Deed_i_deedsCodec1_l2 h2_0_0 h2_0_1 x).run (roundR (slices_IndexFunc_Deed_i_deedsCodec1_l2_mk z2_0 h2_0_0 h2_0_1) (slices_IndexFunc_Deed_i_deedsCodec1_l2_out z2_0 h2_0_0 h2_0_1) c) := fun _ _ _ _ _ => by
  kernel_rfl
theorem slices_IndexFunc_Deed_i_deedsCodec1_l2_ok : LoopOK slices_IndexFunc_Deed_i_deedsCodec1_V slices_IndexFunc_Deed_i_deedsCodec1_A (loopAt slices_IndexFunc_Deed_i_deedsCodec1_b 0) slices_IndexFunc_Deed_i_deedsCodec1_l2_L := loopOK_of fun s e s' h => by
  generalize hs : restrict slices_IndexFunc_Deed_i_deedsCodec1_l2_L.kp s = s1 at h
  have h : (slices_IndexFunc_Deed_i_deedsCodec1_l2_D s1).run some = some (e, s') := h
  obtain ⟨z3, d2, e1, h_0⟩ := asImm_spec h
  obtain ⟨e4, h_1⟩ := asFn_spec h_0
  obtain ⟨d6, e5, h_2⟩ := asImmZ_spec h_1
  obtain ⟨d8, e7, h_3⟩ := asImmZ_spec h_2
  obtain ⟨y, hy, hz⟩ := mat_some h_3
  refine ⟨_, _, slices_IndexFunc_Deed_i_deedsCodec1_l2_mk z3 d2 d6, slices_IndexFunc_Deed_i_deedsCodec1_l2_out z3 d2 d6, slices_IndexFunc_Deed_i_deedsCodec1_l2 d2 d6, d8, y, ?_, hy, ?_, slices_IndexFunc_Deed_i_deedsCodec1_l2_step z3 d2 d6⟩
  · subst hs; exact restrict_eq (T := [(0, (.imm z3 (.sl kDeed) d2)), (1, (.fn 76 [])), (7, (.imm true (.int .i64) d6)), (8, (.imm true (.int .i64) d8))]) (U := []) rfl rfl ⟨e1, e4, e5, e7, trivial⟩ trivial
  · rcases y with x | x <;> exact Option.some.inj hz
noncomputable def slices_IndexFunc_Deed_i_deedsCodec1_I : FnI := ⟨slices_IndexFunc_Deed_i_deedsCodec1_b, Try.f101.results.toList, Try.f101.resultTypes.toList, slices_IndexFunc_Deed_i_deedsCodec1_A⟩
noncomputable def slices_IndexFunc_Deed_i_deedsCodec1_out (_zp0 : Bool) (_p0 : (List (Int × (Int × (Int × (Int × Unit)))))) : Int → CallOut := fun r => ⟨(.imm true (.int .i64) r), [], []⟩
set_option maxRecDepth 100000 in
theorem slices_IndexFunc_Deed_i_deedsCodec1_eq : ∀ (zp0 : Bool) (p0 : (List (Int × (Int × (Int × (Int × Unit)))))), denFn slices_IndexFunc_Deed_i_deedsCodec1_V slices_IndexFunc_Deed_i_deedsCodec1_I ⟨[(.imm zp0 (.sl kDeed) p0), (.fn 76 [])], []⟩ = (slices_IndexFunc_Deed_i_deedsCodec1 p0).run fun r => some (slices_IndexFunc_Deed_i_deedsCodec1_out zp0 p0 r) := fun _ _ => by kernel_rfl
noncomputable def slices_IndexFunc_Deed_i_deedsCodec1_G (av : List AV) (rs : List Root) : Tre CallOut :=
  asCons av fun a0_ av0 =>
  asCons av0 fun a1_ av1 =>
  asEnd av1 <|
  asEnd rs <|
  asImm (.sl kDeed) a0_ fun z2 d1 =>
  asFn 76 [] a1_ <|
  .mat (idxV d1) fun r => .ret (slices_IndexFunc_Deed_i_deedsCodec1_out z2 d1 r)
noncomputable def slices_IndexFunc_Deed_i_deedsCodec1_c : Ctr := ⟨[], fun ci => slices_IndexFunc_Deed_i_deedsCodec1_G ci.args ci.roots⟩
theorem slices_IndexFunc_Deed_i_deedsCodec1_env : EnvOK Try.prog slices_IndexFunc_Deed_i_deedsCodec1_V := (envOK_cons i_deedsCodec1_ok ent76 envOK_nil)
set_option maxRecDepth 100000 in
theorem slices_IndexFunc_Deed_i_deedsCodec1_ok : Contract Try.prog 101 slices_IndexFunc_Deed_i_deedsCodec1_c := by
  have hl : LoopsOK slices_IndexFunc_Deed_i_deedsCodec1_V slices_IndexFunc_Deed_i_deedsCodec1_A slices_IndexFunc_Deed_i_deedsCodec1_b := (loopsOK_all (n := 1) (by kernel_rfl) fun k hk => by
      match k, hk with
      | 0, _ => exact loopOK_at (id := 2) (L := slices_IndexFunc_Deed_i_deedsCodec1_l2_L) (by kernel_rfl) (by kernel_rfl) slices_IndexFunc_Deed_i_deedsCodec1_l2_ok)
  refine (contract_of (F := slices_IndexFunc_Deed_i_deedsCodec1_I) tau_tys slices_IndexFunc_Deed_i_deedsCodec1_env Try.func101 (by kernel_rfl) (by kernel_rfl) (by kernel_rfl) hl []).weaken ?_
  rintro ⟨av, rs⟩ co h
  have h : (slices_IndexFunc_Deed_i_deedsCodec1_G av rs).run some = some co := h
  obtain ⟨a0_, av0, rfl, h_0⟩ := asCons_spec h
  obtain ⟨a1_, av1, rfl, h_1⟩ := asCons_spec h_0
  obtain ⟨rfl, h_2⟩ := asEnd_spec h_1
  obtain ⟨rfl, h_3⟩ := asEnd_spec h_2
  obtain ⟨z2, d1, rfl, h_4⟩ := asImm_spec h_3
  obtain ⟨rfl, h_5⟩ := asFn_spec h_4
  exact fin_opt (slices_IndexFunc_Deed_i_deedsCodec1_eq z2 d1) (slices_IndexFunc_Deed_i_deedsCodec1_spec d1) h_5

end Go.Proofs.Ytddaclhjnkimfaa

namespace Go.Proofs.Ytddaclhjnkimfaa
open Go Go.Abs Go.Proofs

/-! function 75: slices.ContainsFunc[[]loop.example/g01144/impl.Deed,loop.example/g01144/impl.Deed] -/
noncomputable def slices_ContainsFunc_Deed_i_deedsCodec1 (p0 : (List (Int × (Int × (Int × (Int × Unit)))))) : Tre Bool :=
  .mat (idxV p0) fun r1 =>
  .ret (decide (r1 ≥ 0))
noncomputable def slices_ContainsFunc_Deed_i_deedsCodec1_F (p0 : (List (Int × (Int × (Int × (Int × Unit)))))) : Option Bool := (slices_ContainsFunc_Deed_i_deedsCodec1 p0).run some
/-- is there a deed that is no right one? -/
def hasV (xs : List (Int × Int × Int × Int × Unit)) : Option Bool := askO (decide (xs.length ≤ 1048576)) (xs.any fun x => !vDeed x)
theorem slices_ContainsFunc_Deed_i_deedsCodec1_spec (p0 : List (Int × Int × Int × Int × Unit)) (y : Bool) (h : hasV p0 = some y) : slices_ContainsFunc_Deed_i_deedsCodec1_F p0 = some y := by
  obtain ⟨hl, rfl⟩ := askO_some h
  unfold slices_ContainsFunc_Deed_i_deedsCodec1_F slices_ContainsFunc_Deed_i_deedsCodec1
  rw [run_some_mat (show idxV p0 = some _ from askO_true hl), Tre.run_ret, idxI_any]

noncomputable def slices_ContainsFunc_Deed_i_deedsCodec1_V : Env := ⟨tau, [(101, slices_IndexFunc_Deed_i_deedsCodec1_c)], []⟩
noncomputable def slices_ContainsFunc_Deed_i_deedsCodec1_b : Code := (Try.f75.body).getD .skip
noncomputable def slices_ContainsFunc_Deed_i_deedsCodec1_I : FnI := ⟨slices_ContainsFunc_Deed_i_deedsCodec1_b, Try.f75.results.toList, Try.f75.resultTypes.toList, []⟩
noncomputable def slices_ContainsFunc_Deed_i_deedsCodec1_out (_zp0 : Bool) (_p0 : (List (Int × (Int × (Int × (Int × Unit)))))) : Bool → CallOut := fun r => ⟨(.imm true .bool r), [], []⟩
set_option maxRecDepth 100000 in
theorem slices_ContainsFunc_Deed_i_deedsCodec1_eq : ∀ (zp0 : Bool) (p0 : (List (Int × (Int × (Int × (Int × Unit)))))), denFn slices_ContainsFunc_Deed_i_deedsCodec1_V slices_ContainsFunc_Deed_i_deedsCodec1_I ⟨[(.imm zp0 (.sl kDeed) p0), (.fn 76 [])], []⟩ = (slices_ContainsFunc_Deed_i_deedsCodec1 p0).run fun r => some (slices_ContainsFunc_Deed_i_deedsCodec1_out zp0 p0 r) := fun _ _ => by kernel_rfl
noncomputable def slices_ContainsFunc_Deed_i_deedsCodec1_G (av : List AV) (rs : List Root) : Tre CallOut :=
  asCons av fun a0_ av0 =>
  asCons av0 fun a1_ av1 =>
  asEnd av1 <|
  asEnd rs <|
  asImm (.sl kDeed) a0_ fun z2 d1 =>
  asFn 76 [] a1_ <|
  .mat (hasV d1) fun r => .ret (slices_ContainsFunc_Deed_i_deedsCodec1_out z2 d1 r)
noncomputable def slices_ContainsFunc_Deed_i_deedsCodec1_c : Ctr := ⟨[], fun ci => slices_ContainsFunc_Deed_i_deedsCodec1_G ci.args ci.roots⟩
theorem slices_ContainsFunc_Deed_i_deedsCodec1_env : EnvOK Try.prog slices_ContainsFunc_Deed_i_deedsCodec1_V := (envOK_cons slices_IndexFunc_Deed_i_deedsCodec1_ok ent101 envOK_nil)
set_option maxRecDepth 100000 in
theorem slices_ContainsFunc_Deed_i_deedsCodec1_ok : Contract Try.prog 75 slices_ContainsFunc_Deed_i_deedsCodec1_c := by
  have hl : LoopsOK slices_ContainsFunc_Deed_i_deedsCodec1_V [] slices_ContainsFunc_Deed_i_deedsCodec1_b := loopsOK_nil (by kernel_rfl)
  refine (contract_of (F := slices_ContainsFunc_Deed_i_deedsCodec1_I) tau_tys slices_ContainsFunc_Deed_i_deedsCodec1_env Try.func75 (by kernel_rfl) (by kernel_rfl) (by kernel_rfl) hl []).weaken ?_
  rintro ⟨av, rs⟩ co h
  have h : (slices_ContainsFunc_Deed_i_deedsCodec1_G av rs).run some = some co := h
  obtain ⟨a0_, av0, rfl, h_0⟩ := asCons_spec h
  obtain ⟨a1_, av1, rfl, h_1⟩ := asCons_spec h_0
  obtain ⟨rfl, h_2⟩ := asEnd_spec h_1
  obtain ⟨rfl, h_3⟩ := asEnd_spec h_2
  obtain ⟨z2, d1, rfl, h_4⟩ := asImm_spec h_3
  obtain ⟨rfl, h_5⟩ := asFn_spec h_4
  exact fin_opt (slices_ContainsFunc_Deed_i_deedsCodec1_eq z2 d1) (slices_ContainsFunc_Deed_i_deedsCodec1_spec d1) h_5

end Go.Proofs.Ytddaclhjnkimfaa

namespace Go.Proofs.Ytddaclhjnkimfaa
open Go Go.Abs Go.Proofs

/-! function 53: (loop.example/g01144/impl.Gather).stations -/
noncomputable def i_Gather_stations (p0 : (Int × (Int × ((List Int) × (Int × (Int × Unit)))))) : Tre Int :=
  let v1 := iwrap .i64 (1 + p0.2.2.2.1)
  let v2 := iwrap .i64 (v1 + p0.2.2.2.2.1)
  .ret v2
noncomputable def i_Gather_stations_F (p0 : (Int × (Int × ((List Int) × (Int × (Int × Unit)))))) : Option Int := (i_Gather_stations p0).run some
def i_Gather_stations_S (p0 : (Int × (Int × ((List Int) × (Int × (Int × Unit)))))) : Int :=
  let v1 := iwrap .i64 (1 + p0.2.2.2.1)
  let v2 := iwrap .i64 (v1 + p0.2.2.2.2.1)
  v2
theorem i_Gather_stations_spec (p0 : (Int × (Int × ((List Int) × (Int × (Int × Unit)))))) : i_Gather_stations_F p0 = some (i_Gather_stations_S p0) := rfl
noncomputable def i_Gather_stations_V : Env := ⟨tau, [], []⟩
noncomputable def i_Gather_stations_b : Code := (Try.f53.body).getD .skip
noncomputable def i_Gather_stations_I : FnI := ⟨i_Gather_stations_b, Try.f53.results.toList, Try.f53.resultTypes.toList, []⟩
noncomputable def i_Gather_stations_out (_zp0 : Bool) (_p0 : (Int × (Int × ((List Int) × (Int × (Int × Unit)))))) : Int → CallOut := fun r => ⟨(.imm true (.int .i64) r), [], []⟩
set_option maxRecDepth 100000 in
theorem i_Gather_stations_eq : ∀ (zp0 : Bool) (p0 : (Int × (Int × ((List Int) × (Int × (Int × Unit)))))), denFn i_Gather_stations_V i_Gather_stations_I ⟨[(.imm zp0 kGather p0)], []⟩ = (i_Gather_stations p0).run fun r => some (i_Gather_stations_out zp0 p0 r) := fun _ _ => by kernel_rfl
noncomputable def i_Gather_stations_G (av : List AV) (rs : List Root) : Tre CallOut :=
  asCons av fun a0_ av0 =>
  asEnd av0 <|
  asEnd rs <|
  asImm kGather a0_ fun z2 d1 =>
  .ret (i_Gather_stations_out z2 d1 (i_Gather_stations_S d1))
noncomputable def i_Gather_stations_c : Ctr := ⟨[], fun ci => i_Gather_stations_G ci.args ci.roots⟩
theorem i_Gather_stations_env : EnvOK Try.prog i_Gather_stations_V := envOK_nil
set_option maxRecDepth 100000 in
theorem i_Gather_stations_ok : Contract Try.prog 53 i_Gather_stations_c := by
  have hl : LoopsOK i_Gather_stations_V [] i_Gather_stations_b := loopsOK_nil (by kernel_rfl)
  refine (contract_of (F := i_Gather_stations_I) tau_tys i_Gather_stations_env Try.func53 (by kernel_rfl) (by kernel_rfl) (by kernel_rfl) hl []).weaken ?_
  rintro ⟨av, rs⟩ co h
  have h : (i_Gather_stations_G av rs).run some = some co := h
  obtain ⟨a0_, av0, rfl, h_0⟩ := asCons_spec h
  obtain ⟨rfl, h_1⟩ := asEnd_spec h_0
  obtain ⟨rfl, h_2⟩ := asEnd_spec h_1
  obtain ⟨z2, d1, rfl, h_3⟩ := asImm_spec h_2
  exact fin_ret (i_Gather_stations_eq z2 d1) (i_Gather_stations_spec d1) h_3

end Go.Proofs.Ytddaclhjnkimfaa

namespace Go.Proofs.Ytddaclhjnkimfaa
open Go Go.Abs Go.Proofs

/-! function 78: (loop.example/g01144/impl.Gather).isStation -/
noncomputable def i_Gather_isStation (p0 : (Int × (Int × ((List Int) × (Int × (Int × Unit)))))) (p1 : Int) : Tre Bool :=
  let v1 := iwrap .i64 ((i_Gather_stations_S p0) - 1)
  .ret (inR p1 0 v1)
noncomputable def i_Gather_isStation_F (p0 : (Int × (Int × ((List Int) × (Int × (Int × Unit)))))) (p1 : Int) : Option Bool := (i_Gather_isStation p0 p1).run some
def i_Gather_isStation_S (p0 : (Int × (Int × ((List Int) × (Int × (Int × Unit)))))) (p1 : Int) : Bool :=
  let v1 := iwrap .i64 ((i_Gather_stations_S p0) - 1)
  (inR p1 0 v1)
theorem i_Gather_isStation_spec (p0 : (Int × (Int × ((List Int) × (Int × (Int × Unit)))))) (p1 : Int) : i_Gather_isStation_F p0 p1 = some (i_Gather_isStation_S p0 p1) := rfl
noncomputable def i_Gather_isStation_V : Env := ⟨tau, [(53, i_Gather_stations_c), (70, i_within_c)], []⟩
noncomputable def i_Gather_isStation_b : Code := (Try.f78.body).getD .skip
noncomputable def i_Gather_isStation_I : FnI := ⟨i_Gather_isStation_b, Try.f78.results.toList, Try.f78.resultTypes.toList, []⟩
noncomputable def i_Gather_isStation_out (_zp0 : Bool) (_p0 : (Int × (Int × ((List Int) × (Int × (Int × Unit)))))) (_p1 : Int) : Bool → CallOut := fun r => ⟨(.imm true .bool r), [], []⟩
set_option maxRecDepth 100000 in
theorem i_Gather_isStation_eq : ∀ (zp0 : Bool) (p0 : (Int × (Int × ((List Int) × (Int × (Int × Unit)))))) (p1 : Int), denFn i_Gather_isStation_V i_Gather_isStation_I ⟨[(.imm zp0 kGather p0), (.imm true (.int .i64) p1)], []⟩ = (i_Gather_isStation p0 p1).run fun r => some (i_Gather_isStation_out zp0 p0 p1 r) := fun _ _ _ => by kernel_rfl
noncomputable def i_Gather_isStation_G (av : List AV) (rs : List Root) : Tre CallOut :=
  asCons av fun a0_ av0 =>
  asCons av0 fun a1_ av1 =>
  asEnd av1 <|
  asEnd rs <|
  asImm kGather a0_ fun z2 d1 =>
  asImmZ true (.int .i64) a1_ fun d3 =>
  .ret (i_Gather_isStation_out z2 d1 d3 (i_Gather_isStation_S d1 d3))
noncomputable def i_Gather_isStation_c : Ctr := ⟨[], fun ci => i_Gather_isStation_G ci.args ci.roots⟩
theorem i_Gather_isStation_env : EnvOK Try.prog i_Gather_isStation_V := (envOK_cons i_Gather_stations_ok ent53 (envOK_cons i_within_ok ent70 envOK_nil))
set_option maxRecDepth 100000 in
theorem i_Gather_isStation_ok : Contract Try.prog 78 i_Gather_isStation_c := by
  have hl : LoopsOK i_Gather_isStation_V [] i_Gather_isStation_b := loopsOK_nil (by kernel_rfl)
  refine (contract_of (F := i_Gather_isStation_I) tau_tys i_Gather_isStation_env Try.func78 (by kernel_rfl) (by kernel_rfl) (by kernel_rfl) hl []).weaken ?_
  rintro ⟨av, rs⟩ co h
  have h : (i_Gather_isStation_G av rs).run some = some co := h
  obtain ⟨a0_, av0, rfl, h_0⟩ := asCons_spec h
  obtain ⟨a1_, av1, rfl, h_1⟩ := asCons_spec h_0
  obtain ⟨rfl, h_2⟩ := asEnd_spec h_1
  obtain ⟨rfl, h_3⟩ := asEnd_spec h_2
  obtain ⟨z2, d1, rfl, h_4⟩ := asImm_spec h_3
  obtain ⟨d3, rfl, h_5⟩ := asImmZ_spec h_4
  exact fin_ret (i_Gather_isStation_eq z2 d1 d3) (i_Gather_isStation_spec d1 d3) h_5

end Go.Proofs.Ytddaclhjnkimfaa

namespace Go.Proofs.Ytddaclhjnkimfaa
open Go Go.Abs Go.Proofs

/-! function 40: loop.example/g01144/impl.deedsCode -/
noncomputable def i_deedsCode (p0 : (Int × (Int × ((List Int) × (Int × (Int × Unit)))))) (p1 : (List (Int × (Int × (Int × (Int × Unit)))))) (p2 : Int) : Tre Int :=
  .mat (okG p0) fun r1 =>
  .cond (!r1)
    (.ret 1)
    (.mat (hasV p1) fun r2 =>
    .cond r2
      (.ret 1)
      (.cond (decide ((p1.length : Int) > 300))
        (.ret 2)
        (let v3 := i_Gather_isStation_S p0 p2
        .cond (!v3)
          (.ret 2)
          (.ret 0))))
noncomputable def i_deedsCode_F (p0 : (Int × (Int × ((List Int) × (Int × (Int × Unit)))))) (p1 : (List (Int × (Int × (Int × (Int × Unit)))))) (p2 : Int) : Option Int := (i_deedsCode p0 p1 p2).run some
def codeR (g : G8) (ds : List D8) (s : Int) : Option Int := askO (decide (g.2.2.1.length ≤ 1048576) && decide (ds.length ≤ 1048576)) (codeM g ds s)
theorem isStation_S {g : G8} (h : isG g = true) (s : Int) : i_Gather_isStation_S g s = inR s 0 (statG g - 1) := by
  have := isG_spec h
  unfold i_Gather_isStation_S i_Gather_stations_S statG
  dsimp only
  rw [iwrap_i64 (n := 1 + g.2.2.2.1) (by omega) (by omega), iwrap_i64 (n := 1 + g.2.2.2.1 + g.2.2.2.2.1) (by omega) (by omega), iwrap_i64 (by omega) (by omega)]
theorem i_deedsCode_spec (p0 : G8) (p1 : List D8) (p2 : Int) (y : Int) (h : codeR p0 p1 p2 = some y) : i_deedsCode_F p0 p1 p2 = some y := by
  obtain ⟨hok, rfl⟩ := askO_some h
  simp only [Bool.and_eq_true] at hok
  obtain ⟨hg, hd⟩ := hok
  unfold i_deedsCode_F i_deedsCode codeM
  rw [run_some_mat (show okG p0 = some _ from lim_of (of_decide_eq_true hg)), Tre.run_cond]
  cases h1 : isG p0
  · rfl
  rw [Bool.not_true, cond_false, Bool.true_and, run_some_mat (show hasV p1 = some _ from askO_true hd), List.not_all_eq_any_not.symm, Tre.run_cond]
  cases p1.all vDeed
  · rfl
  rw [Bool.not_true, cond_false, cond_true, Tre.run_cond]
  dsimp only
  rw [isStation_S h1, Tre.run_cond]
  cases decide ((p1.length : Int) > 300)
  · cases inR p2 0 (statG p0 - 1) <;> rfl
  · rfl

noncomputable def i_deedsCode_V : Env := ⟨tau, [(60, i_ValidGather_c), (75, slices_ContainsFunc_Deed_i_deedsCodec1_c), (78, i_Gather_isStation_c)], []⟩
noncomputable def i_deedsCode_b : Code := (Try.f40.body).getD .skip
noncomputable def i_deedsCode_I : FnI := ⟨i_deedsCode_b, Try.f40.results.toList, Try.f40.resultTypes.toList, []⟩
noncomputable def i_deedsCode_out (_zp0 : Bool) (_zp1 : Bool) (_p0 : (Int × (Int × ((List Int) × (Int × (Int × Unit)))))) (_p1 : (List (Int × (Int × (Int × (Int × Unit)))))) (_p2 : Int) : Int → CallOut := fun r => ⟨(.imm true (.int .i64) r), [], []⟩
set_option maxRecDepth 100000 in
theorem i_deedsCode_eq : ∀ (zp0 : Bool) (zp1 : Bool) (p0 : (Int × (Int × ((List Int) × (Int × (Int × Unit)))))) (p1 : (List (Int × (Int × (Int × (Int × Unit)))))) (p2 : Int), denFn i_deedsCode_V i_deedsCode_I ⟨[(.imm zp0 kGather p0), (.imm zp1 (.sl kDeed) p1), (.imm true (.int .i64) p2)], []⟩ = (i_deedsCode p0 p1 p2).run fun r => some (i_deedsCode_out zp0 zp1 p0 p1 p2 r) := fun _ _ _ _ _ => by kernel_rfl
noncomputable def i_deedsCode_G (av : List AV) (rs : List Root) : Tre CallOut :=
  asCons av fun a0_ av0 =>
  asCons av0 fun a1_ av1 =>
  asCons av1 fun a2_ av2 =>
  asEnd av2 <|
  asEnd rs <|
  asImm kGather a0_ fun z2 d1 =>
  asImm (.sl kDeed) a1_ fun z4 d3 =>
  asImmZ true (.int .i64) a2_ fun d5 =>
  .mat (codeR d1 d3 d5) fun r => .ret (i_deedsCode_out z2 z4 d1 d3 d5 r)
noncomputable def i_deedsCode_c : Ctr := ⟨[], fun ci => i_deedsCode_G ci.args ci.roots⟩
theorem i_deedsCode_env : EnvOK Try.prog i_deedsCode_V := (envOK_cons i_ValidGather_ok ent60 (envOK_cons slices_ContainsFunc_Deed_i_deedsCodec1_ok ent75 (envOK_cons i_Gather_isStation_ok ent78 envOK_nil)))
set_option maxRecDepth 100000 in
theorem i_deedsCode_ok : Contract Try.prog 40 i_deedsCode_c := by
  have hl : LoopsOK i_deedsCode_V [] i_deedsCode_b := loopsOK_nil (by kernel_rfl)
  refine (contract_of (F := i_deedsCode_I) tau_tys i_deedsCode_env Try.func40 (by kernel_rfl) (by kernel_rfl) (by kernel_rfl) hl []).weaken ?_
  rintro ⟨av, rs⟩ co h
  have h : (i_deedsCode_G av rs).run some = some co := h
  obtain ⟨a0_, av0, rfl, h_0⟩ := asCons_spec h
  obtain ⟨a1_, av1, rfl, h_1⟩ := asCons_spec h_0
  obtain ⟨a2_, av2, rfl, h_2⟩ := asCons_spec h_1
  obtain ⟨rfl, h_3⟩ := asEnd_spec h_2
  obtain ⟨rfl, h_4⟩ := asEnd_spec h_3
  obtain ⟨z2, d1, rfl, h_5⟩ := asImm_spec h_4
  obtain ⟨z4, d3, rfl, h_6⟩ := asImm_spec h_5
  obtain ⟨d5, rfl, h_7⟩ := asImmZ_spec h_6
  exact fin_opt (i_deedsCode_eq z2 z4 d1 d3 d5) (i_deedsCode_spec d1 d3 d5) h_7

end Go.Proofs.Ytddaclhjnkimfaa

namespace Go.Proofs.Ytddaclhjnkimfaa
open Go Go.Abs Go.Proofs

/-! function 61: (loop.example/g01144/impl.Gather).source -/
noncomputable def i_Gather_source_l3 (h3_0_0 : (List Int)) (h3_0_1 : Int) (h3_0_3 : (Int × (Int × ((List Int) × (Int × (Int × Unit)))))) : (Int × (List Int)) → Tre ((Int × (List Int)) ⊕ (List Int)) := fun s3 =>
  .cond (decide (s3.1 < h3_0_1))
    (.ite (0 ≤ s3.1 ∧ s3.1 < (h3_0_0.length : Int)) <|
    .mat (h3_0_0[s3.1.toNat]?) fun x1 =>
    .ite (0 ≤ s3.1) <|
    .ite (0 ≤ h3_0_3.1) <|
    let v2 := ior .i64 (ishl .i64 1 s3.1) (ishl .i64 x1 h3_0_3.1)
    .ite ((s3.2.length + 1) * 8 ≤ appendMax ∧ 1 ≤ 8) <|
    .ret (.inl (iwrap .i64 (s3.1 + 1), s3.2 ++ ([v2]))))
    (.ret (.inr s3.2))
noncomputable def i_Gather_source (p0 : (Int × (Int × ((List Int) × (Int × (Int × Unit)))))) : Tre (List Int) :=
  .mat (loopF (i_Gather_source_l3 p0.2.2.1 (p0.2.2.1.length : Int) p0) (0, [])) fun l3 =>
  .ret l3
noncomputable def i_Gather_source_F (p0 : (Int × (Int × ((List Int) × (Int × (Int × Unit)))))) : Option (List Int) := (i_Gather_source p0).run some
theorem i_Gather_source_spec (p0 : Int × Int × List Int × Int × Int × Unit) (y : List Int) (h : srcR p0 = some y) : i_Gather_source_F p0 = some y := by
  obtain ⟨hok, rfl⟩ := askO_some h
  simp only [Bool.and_eq_true, decide_eq_true_eq, inR_iff] at hok
  obtain ⟨hk, hl⟩ := hok
  unfold i_Gather_source_F i_Gather_source
  have := fold_loop (xs := p0.2.2.1) (step := i_Gather_source_l3 p0.2.2.1 (p0.2.2.1.length : Int) p0) (fun i acc => ((i : Int), acc)) (fun i acc x => .inl (acc ++ [ior .i64 (ishl .i64 1 (i : Int)) (ishl .i64 x p0.1)])) id (fun i acc => acc.length = i) (by
    intro i acc x hx hI
    have hi : i < p0.2.2.1.length := (List.getElem?_eq_some_iff.1 hx).1
    refine ⟨?_, fun a ha => by cases ha; simp [hI]⟩
    unfold i_Gather_source_l3
    rw [run_inb hx]
    dsimp only
    rw [Tre.run_ite, if_pos (by omega), Tre.run_ite, if_pos (by omega), Tre.run_ite, if_pos (by unfold appendMax; omega), Tre.run_ret, iwrap_succ (by omega)])
    (by
    intro acc _
    unfold i_Gather_source_l3
    exact run_out) p0.2.2.1 0 [] rfl (Nat.zero_le _) rfl
  have h1 : loopF (i_Gather_source_l3 p0.2.2.1 (p0.2.2.1.length : Int) p0) (0, []) = some (srcL p0) := this
  rw [run_some_mat h1]
  rfl

noncomputable def i_Gather_source_V : Env := ⟨tau, [], []⟩
noncomputable def i_Gather_source_b : Code := (Try.f61.body).getD .skip
noncomputable def i_Gather_source_l3_mk (z3_0 : Bool) (z3_1 : Bool) (h3_0_0 : (List Int)) (h3_0_1 : Int) (h3_0_3 : (Int × (Int × ((List Int) × (Int × (Int × Unit)))))) : (Int × (List Int)) → St := fun x => stOf [(1, (.ptr (3, 0) [])), (3, (.ref (5, 0) [])), (8, (.imm z3_0 (.sl (.int .i64)) h3_0_0)), (9, (.imm true (.int .i64) h3_0_1)), (10, (.imm true (.int .i64) x.1))] [((3, 0), some ⟨true, kGather, (.imm z3_1), h3_0_3⟩), ((5, 0), some ⟨false, (.sl (.int .i64)), .own, x.2⟩)]
noncomputable def i_Gather_source_l3_out (_z3_0 : Bool) (_z3_1 : Bool) (_h3_0_0 : (List Int)) (_h3_0_1 : Int) (_h3_0_3 : (Int × (Int × ((List Int) × (Int × (Int × Unit)))))) : (List Int) → Ex × St := fun x => (.exit 0, stOf [(3, (.ref (5, 0) []))] [((5, 0), some ⟨false, (.sl (.int .i64)), .own, x⟩)])
noncomputable def i_Gather_source_l3_D (s : St) : Tre (Ex × St) :=
  asPtr (3, 0) [] (s.tmps 1) <|
  asRef (5, 0) [] (s.tmps 3) <|
  asImm (.sl (.int .i64)) (s.tmps 8) fun z5 d4 =>
  asImmZ true (.int .i64) (s.tmps 9) fun d7 =>
  asImmZ true (.int .i64) (s.tmps 10) fun d9 =>
  asRoot true kGather (s.roots (3, 0)) fun m11 d12 =>
  asMImm m11 fun z13 =>
  asRoot false (.sl (.int .i64)) (s.roots (5, 0)) fun m15 d16 =>
  asM .own m15 <|
  .mat (loopF (i_Gather_source_l3 d4 d7 d12) (d9, d16)) fun x => .ret (i_Gather_source_l3_out z5 z13 d4 d7 d12 x)
noncomputable def i_Gather_source_l3_L : LoopI := ⟨([1, 3, 8, 9, 10], [(3, 0), (5, 0)]), ([3], [(5, 0)]), i_Gather_source_l3_D⟩
noncomputable def i_Gather_source_A : List (Nat × LoopI) := [(3, i_Gather_source_l3_L)]
set_option maxRecDepth 100000 in
theorem i_Gather_source_l3_step : ∀ (z3_0 : Bool) (z3_1 : Bool) (h3_0_0 : (List Int)) (h3_0_1 : Int) (h3_0_3 : (Int × (Int × ((List Int) × (Int × (Int × Unit)))))) (x : (Int × (List Int))) (c : St → Option (Ex × St)), den i_Gather_source_V i_Gather_source_A (loopAt i_Gather_source_b 0) (i_Gather_source_l3_mk z3_0 z3_1 h3_0_0 h3_0_1 h3_0_3 x) (roundK i_Gather_source_l3_L.kp i_Gather_source_l3_L.kx c) = (i_Gather_source_l3 h3_0_0 h3_0_1 h3_0_3 x).run (roundR (i_Gather_source_l3_mk z3_0 z3_1 h3_0_0 h3_0_1 h3_0_3) (i_Gather_source_l3_out z3_0 z3_1 h3_0_0 h3_0_1 h3_0_3) c) := fun _ _ _ _ _ _ _ => by
  kernel_rfl
theorem i_Gather_source_l3_ok : LoopOK i_Gather_source_V i_Gather_source_A (loopAt i_Gather_source_b 0) i_Gather_source_l3_L := loopOK_of fun s e s' h => by
  generalize hs : restrict i_Gather_source_l3_L.kp s = s1 at h
  have h : (i_Gather_source_l3_D s1).run some = some (e, s') := h
  obtain ⟨e1, h_0⟩ := asPtr_spec h
  obtain ⟨e2, h_1⟩ := asRef_spec h_0
  obtain ⟨z5, d4, e3, h_2⟩ := asImm_spec h_1
  obtain ⟨d7, e6, h_3⟩ := asImmZ_spec h_2
  obtain ⟨d9, e8, h_4⟩ := asImmZ_spec h_3
  obtain ⟨m11, d12, e10, h_5⟩ := asRoot_spec h_4
  obtain ⟨z13, rfl, h_6⟩ := asMImm_spec h_5
  obtain ⟨m15, d16, e14, h_7⟩ := asRoot_spec h_6
  obtain ⟨rfl, h_8⟩ := asM_spec h_7
  obtain ⟨y, hy, hz⟩ := mat_ret h_8
  refine ⟨_, _, i_Gather_source_l3_mk z5 z13 d4 d7 d12, i_Gather_source_l3_out z5 z13 d4 d7 d12, i_Gather_source_l3 d4 d7 d12, (d9, d16), y, ?_, hy, ?_, i_Gather_source_l3_step z5 z13 d4 d7 d12⟩
  · subst hs; exact restrict_eq (T := [(1, (.ptr (3, 0) [])), (3, (.ref (5, 0) [])), (8, (.imm z5 (.sl (.int .i64)) d4)), (9, (.imm true (.int .i64) d7)), (10, (.imm true (.int .i64) d9))]) (U := [((3, 0), some ⟨true, kGather, (.imm z13), d12⟩), ((5, 0), some ⟨false, (.sl (.int .i64)), .own, d16⟩)]) rfl rfl ⟨e1, e2, e3, e6, e8, trivial⟩ ⟨e10, e14, trivial⟩
  · exact Option.some.inj hz
noncomputable def i_Gather_source_I : FnI := ⟨i_Gather_source_b, Try.f61.results.toList, Try.f61.resultTypes.toList, i_Gather_source_A⟩
noncomputable def i_Gather_source_out (_zp0 : Bool) (_p0 : (Int × (Int × ((List Int) × (Int × (Int × Unit)))))) : (List Int) → CallOut := fun r => ⟨(.ref (1, 0) []), [], [⟨false, (.sl (.int .i64)), .own, r⟩]⟩
set_option maxRecDepth 100000 in
theorem i_Gather_source_eq : ∀ (zp0 : Bool) (p0 : (Int × (Int × ((List Int) × (Int × (Int × Unit)))))), denFn i_Gather_source_V i_Gather_source_I ⟨[(.imm zp0 kGather p0)], []⟩ = (i_Gather_source p0).run fun r => some (i_Gather_source_out zp0 p0 r) := fun _ _ => by kernel_rfl
noncomputable def i_Gather_source_G (av : List AV) (rs : List Root) : Tre CallOut :=
  asCons av fun a0_ av0 =>
  asEnd av0 <|
  asEnd rs <|
  asImm kGather a0_ fun z2 d1 =>
  .mat (srcR d1) fun r => .ret (i_Gather_source_out z2 d1 r)
noncomputable def i_Gather_source_c : Ctr := ⟨[], fun ci => i_Gather_source_G ci.args ci.roots⟩
theorem i_Gather_source_env : EnvOK Try.prog i_Gather_source_V := envOK_nil
set_option maxRecDepth 100000 in
theorem i_Gather_source_ok : Contract Try.prog 61 i_Gather_source_c := by
  have hl : LoopsOK i_Gather_source_V i_Gather_source_A i_Gather_source_b := (loopsOK_all (n := 1) (by kernel_rfl) fun k hk => by
      match k, hk with
      | 0, _ => exact loopOK_at (id := 3) (L := i_Gather_source_l3_L) (by kernel_rfl) (by kernel_rfl) i_Gather_source_l3_ok)
  refine (contract_of (F := i_Gather_source_I) tau_tys i_Gather_source_env Try.func61 (by kernel_rfl) (by kernel_rfl) (by kernel_rfl) hl []).weaken ?_
  rintro ⟨av, rs⟩ co h
  have h : (i_Gather_source_G av rs).run some = some co := h
  obtain ⟨a0_, av0, rfl, h_0⟩ := asCons_spec h
  obtain ⟨rfl, h_1⟩ := asEnd_spec h_0
  obtain ⟨rfl, h_2⟩ := asEnd_spec h_1
  obtain ⟨z2, d1, rfl, h_3⟩ := asImm_spec h_2
  exact fin_opt (i_Gather_source_eq z2 d1) (i_Gather_source_spec d1) h_3

end Go.Proofs.Ytddaclhjnkimfaa

namespace Go.Proofs.Ytddaclhjnkimfaa
open Go Go.Abs Go.Proofs

/-! function 79: loop.example/g01144/impl.newWorks -/
noncomputable def i_newWorks (p0 : (Int × (Int × ((List Int) × (Int × (Int × Unit)))))) : Tre (((List ((List Int) × ((List Int) × Unit))) × ((List (Int × (Int × Unit))) × Unit)) × ((Int × (Int × ((List Int) × (Int × (Int × Unit))))) × Unit)) :=
  .ite ((kStation : K) = kStation ∧ 0 ≤ (i_Gather_stations_S p0) ∧ (i_Gather_stations_S p0) = (i_Gather_stations_S p0) ∧ (i_Gather_stations_S p0) * (48 : Nat) ≤ 140737488355328 ∧ 1 ≤ 48) <|
  .mat (srcR p0) fun r1 =>
  .mat (srcR p0) fun r2 =>
  .ite (0 ≤ (0 : Int) ∧ (0 : Int) < ((List.replicate (i_Gather_stations_S p0).toNat (([], ([], ())) : ((List Int) × ((List Int) × Unit)))).length : Int)) <|
  .mat ((List.replicate (i_Gather_stations_S p0).toNat (([], ([], ())) : ((List Int) × ((List Int) × Unit))))[0]?) fun _ =>
  let v4 := (List.replicate (i_Gather_stations_S p0).toNat (([], ([], ())) : ((List Int) × ((List Int) × Unit)))).set 0 (r1, (r2, ()))
  .ret ((v4, ([], ())), (p0, ()))
noncomputable def i_newWorks_F (p0 : (Int × (Int × ((List Int) × (Int × (Int × Unit)))))) : Option (((List ((List Int) × ((List Int) × Unit))) × ((List (Int × (Int × Unit))) × Unit)) × ((Int × (Int × ((List Int) × (Int × (Int × Unit))))) × Unit)) := (i_newWorks p0).run some
def newR (g : G8) : Option (P8 × (G8 × Unit)) := askO (isG g) (beginM g, g, ())
theorem i_newWorks_spec (p0 : G8) (y : P8 × (G8 × Unit)) (h : newR p0 = some y) : i_newWorks_F p0 = some y := by
  obtain ⟨hg, rfl⟩ := askO_some h
  have hb := isG_spec hg
  obtain ⟨n, hn⟩ := Int.eq_ofNat_of_zero_le (show 0 ≤ p0.2.2.2.1 + p0.2.2.2.2.1 by omega)
  have hs : i_Gather_stations_S p0 = ((n + 1 : Nat) : Int) := by
    unfold i_Gather_stations_S
    dsimp only
    rw [iwrap_i64 (n := 1 + p0.2.2.2.1) (by omega) (by omega), iwrap_i64 (by omega) (by omega)]
    omega
  unfold i_newWorks_F i_newWorks
  rw [hs, Int.toNat_natCast, Tre.run_ite, if_pos ⟨rfl, by omega, rfl, by omega, by omega⟩, run_some_mat (src_some hg), run_some_mat (src_some hg), Tre.run_ite, if_pos (by rw [List.length_replicate]; omega), List.replicate_succ, run_some_mat (show (([], [], ()) :: List.replicate n ([], [], ()) : List (List Int × List Int × Unit))[0]? = some ([], [], ()) from rfl)]
  dsimp only
  rw [List.set_cons_zero, Tre.run_ret]
  have h2 : beginM p0 = ((srcL p0, srcL p0, ()) :: List.replicate n ([], [], ()), [], ()) := by unfold beginM; rw [hn, Int.toNat_natCast]
  rw [h2]

noncomputable def i_newWorks_V : Env := ⟨tau, [(53, i_Gather_stations_c), (61, i_Gather_source_c)], []⟩
noncomputable def i_newWorks_b : Code := (Try.f79.body).getD .skip
noncomputable def i_newWorks_I : FnI := ⟨i_newWorks_b, Try.f79.results.toList, Try.f79.resultTypes.toList, []⟩
noncomputable def i_newWorks_out (zp0 : Bool) (_p0 : (Int × (Int × ((List Int) × (Int × (Int × Unit)))))) : (((List ((List Int) × ((List Int) × Unit))) × ((List (Int × (Int × Unit))) × Unit)) × ((Int × (Int × ((List Int) × (Int × (Int × Unit))))) × Unit)) → CallOut := fun r => ⟨(.ptr (1, 0) []), [], [⟨true, kWorks, (.pair .own (.imm zp0)), r⟩]⟩
set_option maxRecDepth 100000 in
theorem i_newWorks_eq : ∀ (zp0 : Bool) (p0 : (Int × (Int × ((List Int) × (Int × (Int × Unit)))))), denFn i_newWorks_V i_newWorks_I ⟨[(.imm zp0 kGather p0)], []⟩ = (i_newWorks p0).run fun r => some (i_newWorks_out zp0 p0 r) := fun _ _ => by kernel_rfl
noncomputable def i_newWorks_G (av : List AV) (rs : List Root) : Tre CallOut :=
  asCons av fun a0_ av0 =>
  asEnd av0 <|
  asEnd rs <|
  asImm kGather a0_ fun z2 d1 =>
  .mat (newR d1) fun r => .ret (i_newWorks_out z2 d1 r)
noncomputable def i_newWorks_c : Ctr := ⟨[], fun ci => i_newWorks_G ci.args ci.roots⟩
theorem i_newWorks_env : EnvOK Try.prog i_newWorks_V := (envOK_cons i_Gather_stations_ok ent53 (envOK_cons i_Gather_source_ok ent61 envOK_nil))
set_option maxRecDepth 100000 in
theorem i_newWorks_ok : Contract Try.prog 79 i_newWorks_c := by
  have hl : LoopsOK i_newWorks_V [] i_newWorks_b := loopsOK_nil (by kernel_rfl)
  refine (contract_of (F := i_newWorks_I) tau_tys i_newWorks_env Try.func79 (by kernel_rfl) (by kernel_rfl) (by kernel_rfl) hl []).weaken ?_
  rintro ⟨av, rs⟩ co h
  have h : (i_newWorks_G av rs).run some = some co := h
  obtain ⟨a0_, av0, rfl, h_0⟩ := asCons_spec h
  obtain ⟨rfl, h_1⟩ := asEnd_spec h_0
  obtain ⟨rfl, h_2⟩ := asEnd_spec h_1
  obtain ⟨z2, d1, rfl, h_3⟩ := asImm_spec h_2
  exact fin_opt (i_newWorks_eq z2 d1) (i_newWorks_spec d1) h_3

end Go.Proofs.Ytddaclhjnkimfaa

namespace Go.Proofs.Ytddaclhjnkimfaa
open Go Go.Abs Go.Proofs

/-! function 65: loop.example/g01144/impl.sumOf -/
noncomputable def i_sumOf_l3 (h3_0_0 : Int) (h3_0_2 : (List Int)) (h3_0_3 : Int) : (Int × Int) → Tre ((Int × Int) ⊕ Int) := fun s3 =>
  .cond (decide (s3.2 < h3_0_3))
    (.ite (0 ≤ s3.2 ∧ s3.2 < (h3_0_2.length : Int)) <|
    .mat (h3_0_2[s3.2.toNat]?) fun x1 =>
    .ite (0 ≤ s3.2) <|
    let v2 := iand .i64 (ishr .i64 h3_0_0 s3.2) 1
    .cond (decide (v2 = 1))
      (.ret (.inl (ixor .i64 s3.1 x1, iwrap .i64 (s3.2 + 1))))
      (.ret (.inl (s3.1, iwrap .i64 (s3.2 + 1)))))
    (.ret (.inr s3.1))
noncomputable def i_sumOf (p0 : (List Int)) (p1 : Int) : Tre Int :=
  .mat (loopF (i_sumOf_l3 p1 p0 (p0.length : Int)) (0, 0)) fun l3 =>
  .ret l3
noncomputable def i_sumOf_F (p0 : (List Int)) (p1 : Int) : Option Int := (i_sumOf p0 p1).run some
/-- the sum of the rows that a number names -/
def sumR (xs : List Int) (a : Int) : Option Int := lim xs.length (timesL a xs)
theorem i_sumOf_spec (p0 : List Int) (p1 : Int) (y : Int) (h : sumR p0 p1 = some y) : i_sumOf_F p0 p1 = some y := by
  obtain ⟨hl, rfl⟩ := lim_some h
  unfold i_sumOf_F i_sumOf
  rw [Tre.run_mat]
  have := fold_loop' (xs := p0) (step := i_sumOf_l3 p1 p0 (p0.length : Int)) (fun i acc => (acc, (i : Int))) (fun i acc x => .inl (cond (bitAt p1 (i : Int)) (ixor .i64 acc x) acc)) id (by
    intro i acc x hx
    have hi : i < p0.length := (List.getElem?_eq_some_iff.1 hx).1
    unfold i_sumOf_l3
    rw [run_inb hx, Tre.run_ite, if_pos (by dsimp only; omega), Tre.run_cond]
    show cond (bitAt p1 (i : Int)) _ _ = _
    cases bitAt p1 (i : Int)
    · rw [cond_false, Tre.run_ret, iwrap_succ (by omega)]; rfl
    · rw [cond_true, Tre.run_ret, iwrap_succ (by omega)]; rfl)
    (by
    intro acc
    unfold i_sumOf_l3
    exact run_out) 0
  rw [show ((0 : Int), (0 : Int)) = (0, ((0 : Nat) : Int)) from rfl, this]
  rfl

noncomputable def i_sumOf_V : Env := ⟨tau, [], []⟩
noncomputable def i_sumOf_b : Code := (Try.f65.body).getD .skip
noncomputable def i_sumOf_l3_mk (z3_0 : Bool) (h3_0_0 : Int) (h3_0_2 : (List Int)) (h3_0_3 : Int) : (Int × Int) → St := fun x => stOf [(1, (.imm true (.int .i64) h3_0_0)), (5, (.imm true (.int .i64) x.1)), (8, (.imm z3_0 (.sl (.int .i64)) h3_0_2)), (9, (.imm true (.int .i64) h3_0_3)), (10, (.imm true (.int .i64) x.2))] []
noncomputable def i_sumOf_l3_out (_z3_0 : Bool) (_h3_0_0 : Int) (_h3_0_2 : (List Int)) (_h3_0_3 : Int) : Int → Ex × St := fun x => (.exit 0, stOf [(5, (.imm true (.int .i64) x))] [])
noncomputable def i_sumOf_l3_D (s : St) : Tre (Ex × St) :=
  asImmZ true (.int .i64) (s.tmps 1) fun d2 =>
  asImmZ true (.int .i64) (s.tmps 5) fun d4 =>
  asImm (.sl (.int .i64)) (s.tmps 8) fun z7 d6 =>
  asImmZ true (.int .i64) (s.tmps 9) fun d9 =>
  asImmZ true (.int .i64) (s.tmps 10) fun d11 =>
  .mat (loopF (i_sumOf_l3 d2 d6 d9) (d4, d11)) fun x => .ret (i_sumOf_l3_out z7 d2 d6 d9 x)
noncomputable def i_sumOf_l3_L : LoopI := ⟨([1, 5, 8, 9, 10], []), ([5], []), i_sumOf_l3_D⟩
noncomputable def i_sumOf_A : List (Nat × LoopI) := [(3, i_sumOf_l3_L)]
set_option maxRecDepth 100000 in
theorem i_sumOf_l3_step : ∀ (z3_0 : Bool) (h3_0_0 : Int) (h3_0_2 : (List Int)) (h3_0_3 : Int) (x : (Int × Int)) (c : St → Option (Ex × St)), den i_sumOf_V i_sumOf_A (loopAt i_sumOf_b 0) (i_sumOf_l3_mk z3_0 h3_0_0 h3_0_2 h3_0_3 x) (roundK i_sumOf_l3_L.kp i_sumOf_l3_L.kx c) = (i_sumOf_l3 h3_0_0 h3_0_2 h3_0_3 x).run (roundR (i_sumOf_l3_mk z3_0 h3_0_0 h3_0_2 h3_0_3) (i_sumOf_l3_out z3_0 h3_0_0 h3_0_2 h3_0_3) c) := fun _ _ _ _ _ _ => by
  kernel_rfl
theorem i_sumOf_l3_ok : LoopOK i_sumOf_V i_sumOf_A (loopAt i_sumOf_b 0) i_sumOf_l3_L := loopOK_of fun s e s' h => by
  generalize hs : restrict i_sumOf_l3_L.kp s = s1 at h
  have h : (i_sumOf_l3_D s1).run some = some (e, s') := h
  obtain ⟨d2, e1, h_0⟩ := asImmZ_spec h
  obtain ⟨d4, e3, h_1⟩ := asImmZ_spec h_0
  obtain ⟨z7, d6, e5, h_2⟩ := asImm_spec h_1
  obtain ⟨d9, e8, h_3⟩ := asImmZ_spec h_2
  obtain ⟨d11, e10, h_4⟩ := asImmZ_spec h_3
  obtain ⟨y, hy, hz⟩ := mat_ret h_4
  refine ⟨_, _, i_sumOf_l3_mk z7 d2 d6 d9, i_sumOf_l3_out z7 d2 d6 d9, i_sumOf_l3 d2 d6 d9, (d4, d11), y, ?_, hy, ?_, i_sumOf_l3_step z7 d2 d6 d9⟩
  · subst hs; exact restrict_eq (T := [(1, (.imm true (.int .i64) d2)), (5, (.imm true (.int .i64) d4)), (8, (.imm z7 (.sl (.int .i64)) d6)), (9, (.imm true (.int .i64) d9)), (10, (.imm true (.int .i64) d11))]) (U := []) rfl rfl ⟨e1, e3, e5, e8, e10, trivial⟩ trivial
  · exact Option.some.inj hz
noncomputable def i_sumOf_I : FnI := ⟨i_sumOf_b, Try.f65.results.toList, Try.f65.resultTypes.toList, i_sumOf_A⟩
noncomputable def i_sumOf_out (_zp0 : Bool) (_p0 : (List Int)) (_p1 : Int) : Int → CallOut := fun r => ⟨(.imm true (.int .i64) r), [], []⟩
set_option maxRecDepth 100000 in
theorem i_sumOf_eq : ∀ (zp0 : Bool) (p0 : (List Int)) (p1 : Int), denFn i_sumOf_V i_sumOf_I ⟨[(.imm zp0 (.sl (.int .i64)) p0), (.imm true (.int .i64) p1)], []⟩ = (i_sumOf p0 p1).run fun r => some (i_sumOf_out zp0 p0 p1 r) := fun _ _ _ => by kernel_rfl
noncomputable def i_sumOf_G (av : List AV) (rs : List Root) : Tre CallOut :=
  asCons av fun a0_ av0 =>
  asCons av0 fun a1_ av1 =>
  asEnd av1 <|
  asEnd rs <|
  asImm (.sl (.int .i64)) a0_ fun z2 d1 =>
  asImmZ true (.int .i64) a1_ fun d3 =>
  .mat (sumR d1 d3) fun r => .ret (i_sumOf_out z2 d1 d3 r)
noncomputable def i_sumOf_c : Ctr := ⟨[], fun ci => i_sumOf_G ci.args ci.roots⟩
theorem i_sumOf_env : EnvOK Try.prog i_sumOf_V := envOK_nil
set_option maxRecDepth 100000 in
theorem i_sumOf_ok : Contract Try.prog 65 i_sumOf_c := by
  have hl : LoopsOK i_sumOf_V i_sumOf_A i_sumOf_b := (loopsOK_all (n := 1) (by kernel_rfl) fun k hk => by
      match k, hk with
      | 0, _ => exact loopOK_at (id := 3) (L := i_sumOf_l3_L) (by kernel_rfl) (by kernel_rfl) i_sumOf_l3_ok)
  refine (contract_of (F := i_sumOf_I) tau_tys i_sumOf_env Try.func65 (by kernel_rfl) (by kernel_rfl) (by kernel_rfl) hl []).weaken ?_
  rintro ⟨av, rs⟩ co h
  have h : (i_sumOf_G av rs).run some = some co := h
  obtain ⟨a0_, av0, rfl, h_0⟩ := asCons_spec h
  obtain ⟨a1_, av1, rfl, h_1⟩ := asCons_spec h_0
  obtain ⟨rfl, h_2⟩ := asEnd_spec h_1
  obtain ⟨rfl, h_3⟩ := asEnd_spec h_2
  obtain ⟨z2, d1, rfl, h_4⟩ := asImm_spec h_3
  obtain ⟨d3, rfl, h_5⟩ := asImmZ_spec h_4
  exact fin_opt (i_sumOf_eq z2 d1 d3) (i_sumOf_spec d1 d3) h_5

end Go.Proofs.Ytddaclhjnkimfaa

namespace Go.Proofs.Ytddaclhjnkimfaa
open Go Go.Abs Go.Proofs

/-! function 104: (*loop.example/g01144/impl.works).send -/
noncomputable def i_works_send_ba03 (p0 : (Int × (Int × (Int × (Int × Unit))))) (p1 : (((List ((List Int) × ((List Int) × Unit))) × ((List (Int × (Int × Unit))) × Unit)) × ((Int × (Int × ((List Int) × (Int × (Int × Unit))))) × Unit))) : Tre (Int × (((List ((List Int) × ((List Int) × Unit))) × ((List (Int × (Int × Unit))) × Unit)) × ((Int × (Int × ((List Int) × (Int × (Int × Unit))))) × Unit))) :=
  let v1 := i_Gather_isStation_S p1.2.1 p0.2.1
  .cond (!v1)
    (.ret (2, p1))
    (let v2 := i_Gather_isStation_S p1.2.1 p0.2.2.1
    .cond (!v2)
      (.ret (2, p1))
      (.cond (decide (p0.2.1 = p0.2.2.1))
        (.ret (2, p1))
        (.cond (decide (p0.2.2.1 = 0))
          (.ret (2, p1))
          (.ite (0 ≤ p0.2.1 ∧ p0.2.1 < (p1.1.1.length : Int)) <|
          .mat (p1.1.1[p0.2.1.toNat]?) fun _ =>
          .mat (p1.1.1[p0.2.1.toNat]?) fun x4 =>
          .ite (0 ≤ (x4.1.length : Int)) <|
          let v5 := ishl .i64 1 (x4.1.length : Int)
          .cond (decide (p0.2.2.2.1 ≥ v5))
            (.ret (2, p1))
            (.cond (decide (p0.2.2.2.1 = 0))
              (.ret (4, p1))
              (.cond (decide ((p1.1.2.1.length : Int) = 12))
                (.ret (3, p1))
                (.ite (0 ≤ p0.2.1 ∧ p0.2.1 < (p1.1.1.length : Int)) <|
                .mat (p1.1.1[p0.2.1.toNat]?) fun _ =>
                .mat (p1.1.1[p0.2.1.toNat]?) fun x7 =>
                .mat (sumR x7.1 p0.2.2.2.1) fun r8 =>
                .ite ((p1.1.2.1.length + 1) * 16 ≤ appendMax ∧ 1 ≤ 16) <|
                let v9 := p1.1.2.1 ++ ([(p0.2.2.1, (r8, ()))])
                .ret (0, ((p1.1.1, (v9, p1.1.2.2)), p1.2)))))))))
noncomputable def i_works_send_ba03_F (p0 : (Int × (Int × (Int × (Int × Unit))))) (p1 : (((List ((List Int) × ((List Int) × Unit))) × ((List (Int × (Int × Unit))) × Unit)) × ((Int × (Int × ((List Int) × (Int × (Int × Unit))))) × Unit))) : Option (Int × (((List ((List Int) × ((List Int) × Unit))) × ((List (Int × (Int × Unit))) × Unit)) × ((Int × (Int × ((List Int) × (Int × (Int × Unit))))) × Unit))) := (i_works_send_ba03 p0 p1).run some
def sendI (d : D8) (p : P8 × (G8 × Unit)) : Option (Int × (P8 × (G8 × Unit))) := askO (isG p.2.1 && vDeed d && okP 1000 p.2.1 p.1) ((sendM d p.1).1, (sendM d p.1).2, p.2)
theorem i_works_send_ba03_spec (p0 : D8) (p1 : P8 × (G8 × Unit)) (y : Int × (P8 × (G8 × Unit))) (h : sendI p0 p1 = some y) : i_works_send_ba03_F p0 p1 = some y := by
  obtain ⟨hok, rfl⟩ := askO_some h
  simp only [Bool.and_eq_true] at hok
  obtain ⟨⟨hg, hd⟩, hp⟩ := hok
  obtain ⟨⟨a0, a1⟩, ⟨b0, b1⟩, ⟨c0, c1⟩, _⟩ := vDeed_rng hd
  obtain ⟨l1, l2, l3, l4⟩ := okP_spec hp
  obtain ⟨⟨st, wi, ⟨⟩⟩, ⟨g, ⟨⟩⟩⟩ := p1
  obtain ⟨kk, a, b, c, ⟨⟩⟩ := p0
  unfold i_works_send_ba03_F i_works_send_ba03 sendM
  simp only at *
  rw [isStation_S hg, isStation_S hg]
  have hst : ∀ s : Int, 0 ≤ s → inR s 0 (statG g - 1) = !decide (s ≥ (st.length : Int)) := by
    intro s hs
    unfold inR
    rw [decide_eq_true hs, Bool.true_and]
    by_cases h : s ≥ (st.length : Int)
    · rw [decide_eq_true h, decide_eq_false (by omega)]; rfl
    · rw [decide_eq_false h, decide_eq_true (by omega)]; rfl
  rw [hst a a0, hst b b0, Bool.not_not, Bool.not_not]
  by_cases h1 : a ≥ (st.length : Int)
  · simp only [Tre.run_cond, decide_eq_true h1, cond_true, Tre.run_ret, Bool.true_or]
  by_cases h2 : b ≥ (st.length : Int)
  · simp only [Tre.run_cond, decide_eq_true h2, decide_eq_false h1, cond_true, cond_false, Tre.run_ret, Bool.true_or, Bool.false_or]
  by_cases h3 : a = b
  · simp only [Tre.run_cond, decide_eq_true h3, decide_eq_false h1, decide_eq_false h2, cond_true, cond_false, Tre.run_ret, Bool.true_or, Bool.false_or]
  by_cases h4 : b = 0
  · simp only [Tre.run_cond, decide_eq_true h4, decide_eq_false h1, decide_eq_false h2, decide_eq_false h3, cond_true, cond_false, Tre.run_ret, Bool.false_or]
  obtain ⟨i, rfl⟩ := Int.eq_ofNat_of_zero_le a0
  have hi : i < st.length := by omega
  obtain ⟨s, hs⟩ : ∃ s, st[i]? = some s := ⟨_, List.getElem?_eq_getElem hi⟩
  have hs1 := (okS_spec.1 (l2 s (List.mem_of_getElem? hs)).1).1
  simp only [Tre.run_cond, decide_eq_false h1, decide_eq_false h2, decide_eq_false h3, decide_eq_false h4, cond_false, Bool.false_or, Int.toNat_natCast, hs]
  rw [Tre.run_ite, if_pos ⟨a0, by omega⟩, run_some_mat rfl, run_some_mat rfl, Tre.run_ite, if_pos (by omega)]
  simp only [Tre.run_cond]
  cases decide (c ≥ ishl .i64 1 (s.1.length : Int))
  · cases decide (c = 0)
    · cases decide ((wi.length : Int) = 12)
      · simp only [cond_false]
        rw [Tre.run_ite, if_pos ⟨a0, by omega⟩, run_some_mat rfl, run_some_mat rfl, run_some_mat (show sumR s.1 c = some _ from lim_of (by omega)), Tre.run_ite, if_pos (by unfold appendMax; omega)]
        rfl
      · rfl
    · rfl
  · rfl

noncomputable def i_works_send_ba03_V : Env := ⟨tau, [(78, i_Gather_isStation_c), (65, i_sumOf_c)], []⟩
noncomputable def i_works_send_ba03_b : Code := (Try.f104.body).getD .skip
noncomputable def i_works_send_ba03_I : FnI := ⟨i_works_send_ba03_b, Try.f104.results.toList, Try.f104.resultTypes.toList, []⟩
noncomputable def i_works_send_ba03_out (zp0 : Bool) (_p0 : (Int × (Int × (Int × (Int × Unit))))) (_p1 : (((List ((List Int) × ((List Int) × Unit))) × ((List (Int × (Int × Unit))) × Unit)) × ((Int × (Int × ((List Int) × (Int × (Int × Unit))))) × Unit))) : (Int × (((List ((List Int) × ((List Int) × Unit))) × ((List (Int × (Int × Unit))) × Unit)) × ((Int × (Int × ((List Int) × (Int × (Int × Unit))))) × Unit))) → CallOut := fun r => ⟨(.imm true (.int .i64) r.1), [⟨true, kWorks, (.pair .own (.imm zp0)), r.2⟩], []⟩
set_option maxRecDepth 100000 in
theorem i_works_send_ba03_eq : ∀ (zp0 : Bool) (p0 : (Int × (Int × (Int × (Int × Unit))))) (p1 : (((List ((List Int) × ((List Int) × Unit))) × ((List (Int × (Int × Unit))) × Unit)) × ((Int × (Int × ((List Int) × (Int × (Int × Unit))))) × Unit))), denFn i_works_send_ba03_V i_works_send_ba03_I ⟨[(.ptr (0, 0) []), (.imm true kDeed p0)], [⟨true, kWorks, (.pair .own (.imm zp0)), p1⟩]⟩ = (i_works_send_ba03 p0 p1).run fun r => some (i_works_send_ba03_out zp0 p0 p1 r) := fun _ _ _ => by kernel_rfl
noncomputable def i_works_send_ba03_G (av : List AV) (rs : List Root) : Tre CallOut :=
  asCons av fun a0_ av0 =>
  asCons av0 fun a1_ av1 =>
  asEnd av1 <|
  asCons rs fun r0_ rs0 =>
  asEnd rs0 <|
  asPtr (0, 0) [] a0_ <|
  asImmZ true kDeed a1_ fun d1 =>
  asRt true kWorks r0_ fun m2 d3 =>
  asMPair m2 fun m4 m5 =>
  asM .own m4 <|
  asMImm m5 fun z6 =>
  .mat (sendI d1 d3) fun r => .ret (i_works_send_ba03_out z6 d1 d3 r)
noncomputable def i_works_send_ba03_c : Ctr := ⟨[], fun ci => i_works_send_ba03_G ci.args ci.roots⟩
theorem i_works_send_ba03_env : EnvOK Try.prog i_works_send_ba03_V := (envOK_cons i_Gather_isStation_ok ent78 (envOK_cons i_sumOf_ok ent65 envOK_nil))
set_option maxRecDepth 100000 in
theorem i_works_send_ba03_ok : Contract Try.prog 104 i_works_send_ba03_c := by
  have hl : LoopsOK i_works_send_ba03_V [] i_works_send_ba03_b := loopsOK_nil (by kernel_rfl)
  refine (contract_of (F := i_works_send_ba03_I) tau_tys i_works_send_ba03_env Try.func104 (by kernel_rfl) (by kernel_rfl) (by kernel_rfl) hl []).weaken ?_
  rintro ⟨av, rs⟩ co h
  have h : (i_works_send_ba03_G av rs).run some = some co := h
  obtain ⟨a0_, av0, rfl, h_0⟩ := asCons_spec h
  obtain ⟨a1_, av1, rfl, h_1⟩ := asCons_spec h_0
  obtain ⟨rfl, h_2⟩ := asEnd_spec h_1
  obtain ⟨r0_, rs0, rfl, h_3⟩ := asCons_spec h_2
  obtain ⟨rfl, h_4⟩ := asEnd_spec h_3
  obtain ⟨rfl, h_5⟩ := asPtr_spec h_4
  obtain ⟨d1, rfl, h_6⟩ := asImmZ_spec h_5
  obtain ⟨m2, d3, rfl, h_7⟩ := asRt_spec h_6
  obtain ⟨m4, m5, rfl, h_8⟩ := asMPair_spec h_7
  obtain ⟨rfl, h_9⟩ := asM_spec h_8
  obtain ⟨z6, rfl, h_10⟩ := asMImm_spec h_9
  exact fin_opt (i_works_send_ba03_eq z6 d1 d3) (i_works_send_ba03_spec d1 d3) h_10

end Go.Proofs.Ytddaclhjnkimfaa

namespace Go.Proofs.Ytddaclhjnkimfaa
open Go Go.Abs Go.Proofs

/-! function 116: loop.example/g01144/impl.size[loop.example/g01144/impl.Parcel] -/
noncomputable def i_size_Parcel (p0 : (List (Int × (Int × Unit)))) : Tre Int :=
  .ret (p0.length : Int)
noncomputable def i_size_Parcel_F (p0 : (List (Int × (Int × Unit)))) : Option Int := (i_size_Parcel p0).run some
theorem i_size_Parcel_spec (p0 : (List (Int × (Int × Unit)))) : i_size_Parcel_F p0 = some (p0.length : Int) := rfl
noncomputable def i_size_Parcel_V : Env := ⟨tau, [], []⟩
noncomputable def i_size_Parcel_b : Code := (Try.f116.body).getD .skip
noncomputable def i_size_Parcel_I : FnI := ⟨i_size_Parcel_b, Try.f116.results.toList, Try.f116.resultTypes.toList, []⟩
noncomputable def i_size_Parcel_out (_zp0 : Bool) (_p0 : (List (Int × (Int × Unit)))) : Int → CallOut := fun r => ⟨(.imm true (.int .i64) r), [], []⟩
set_option maxRecDepth 100000 in
theorem i_size_Parcel_eq : ∀ (zp0 : Bool) (p0 : (List (Int × (Int × Unit)))), denFn i_size_Parcel_V i_size_Parcel_I ⟨[(.imm zp0 (.sl kField) p0)], []⟩ = (i_size_Parcel p0).run fun r => some (i_size_Parcel_out zp0 p0 r) := fun _ _ => by kernel_rfl
noncomputable def i_size_Parcel_G (av : List AV) (rs : List Root) : Tre CallOut :=
  asCons av fun a0_ av0 =>
  asEnd av0 <|
  asEnd rs <|
  asImm (.sl kField) a0_ fun z2 d1 =>
  .ret (i_size_Parcel_out z2 d1 (d1.length : Int))
noncomputable def i_size_Parcel_c : Ctr := ⟨[], fun ci => i_size_Parcel_G ci.args ci.roots⟩
theorem i_size_Parcel_env : EnvOK Try.prog i_size_Parcel_V := envOK_nil
set_option maxRecDepth 100000 in
theorem i_size_Parcel_ok : Contract Try.prog 116 i_size_Parcel_c := by
  have hl : LoopsOK i_size_Parcel_V [] i_size_Parcel_b := loopsOK_nil (by kernel_rfl)
  refine (contract_of (F := i_size_Parcel_I) tau_tys i_size_Parcel_env Try.func116 (by kernel_rfl) (by kernel_rfl) (by kernel_rfl) hl []).weaken ?_
  rintro ⟨av, rs⟩ co h
  have h : (i_size_Parcel_G av rs).run some = some co := h
  obtain ⟨a0_, av0, rfl, h_0⟩ := asCons_spec h
  obtain ⟨rfl, h_1⟩ := asEnd_spec h_0
  obtain ⟨rfl, h_2⟩ := asEnd_spec h_1
  obtain ⟨z2, d1, rfl, h_3⟩ := asImm_spec h_2
  exact fin_ret (i_size_Parcel_eq z2 d1) (i_size_Parcel_spec d1) h_3

end Go.Proofs.Ytddaclhjnkimfaa

namespace Go.Proofs.Ytddaclhjnkimfaa
open Go Go.Abs Go.Proofs

/-! function 45: slices.Clone[[]int64,int64] -/
noncomputable def slices_Clone_int64_b930 : Tre (List Int) :=
  .ret []
noncomputable def slices_Clone_int64_b930_F : Option (List Int) := (slices_Clone_int64_b930).run some
theorem slices_Clone_int64_b930_spec : slices_Clone_int64_b930_F = some [] := rfl
noncomputable def slices_Clone_int64_b930_V : Env := ⟨tau, [], []⟩
noncomputable def slices_Clone_int64_b930_b : Code := (Try.f45.body).getD .skip
noncomputable def slices_Clone_int64_b930_I : FnI := ⟨slices_Clone_int64_b930_b, Try.f45.results.toList, Try.f45.resultTypes.toList, []⟩
noncomputable def slices_Clone_int64_b930_out : (List Int) → CallOut := fun r => ⟨(.ref (1, 0) []), [], [⟨false, (.sl (.int .i64)), .own, r⟩]⟩
set_option maxRecDepth 100000 in
theorem slices_Clone_int64_b930_eq : denFn slices_Clone_int64_b930_V slices_Clone_int64_b930_I ⟨[.nil], []⟩ = (slices_Clone_int64_b930).run fun r => some (slices_Clone_int64_b930_out r) := by kernel_rfl
noncomputable def slices_Clone_int64_b930_G (av : List AV) (rs : List Root) : Tre CallOut :=
  asCons av fun a0_ av0 =>
  asEnd av0 <|
  asEnd rs <|
  asNil a0_ <|
  .ret (slices_Clone_int64_b930_out [])
noncomputable def slices_Clone_int64_b930_c : Ctr := ⟨[], fun ci => slices_Clone_int64_b930_G ci.args ci.roots⟩
theorem slices_Clone_int64_b930_env : EnvOK Try.prog slices_Clone_int64_b930_V := envOK_nil
set_option maxRecDepth 100000 in
theorem slices_Clone_int64_b930_ok : Contract Try.prog 45 slices_Clone_int64_b930_c := by
  have hl : LoopsOK slices_Clone_int64_b930_V [] slices_Clone_int64_b930_b := loopsOK_nil (by kernel_rfl)
  refine (contract_of (F := slices_Clone_int64_b930_I) tau_tys slices_Clone_int64_b930_env Try.func45 (by kernel_rfl) (by kernel_rfl) (by kernel_rfl) hl []).weaken ?_
  rintro ⟨av, rs⟩ co h
  have h : (slices_Clone_int64_b930_G av rs).run some = some co := h
  obtain ⟨a0_, av0, rfl, h_0⟩ := asCons_spec h
  obtain ⟨rfl, h_1⟩ := asEnd_spec h_0
  obtain ⟨rfl, h_2⟩ := asEnd_spec h_1
  obtain ⟨rfl, h_3⟩ := asNil_spec h_2
  exact fin_ret (slices_Clone_int64_b930_eq) (slices_Clone_int64_b930_spec) h_3

end Go.Proofs.Ytddaclhjnkimfaa

namespace Go.Proofs.Ytddaclhjnkimfaa
open Go Go.Abs Go.Proofs

/-! function 45: slices.Clone[[]int64,int64] -/
noncomputable def slices_Clone_int64_6661 (p0 : (List Int)) : Tre (List Int) :=
  .ite ((0 + p0.length) * 8 ≤ appendMax ∧ 1 ≤ 8) <|
  .ret ([] ++ p0)
noncomputable def slices_Clone_int64_6661_F (p0 : (List Int)) : Option (List Int) := (slices_Clone_int64_6661 p0).run some
theorem slices_Clone_int64_6661_spec (p0 : List Int) (y : List Int) (h : cloneR p0 = some y) : slices_Clone_int64_6661_F p0 = some y := by
  obtain ⟨hl, rfl⟩ := lim_some h
  have hb : (0 + p0.length) * 8 ≤ appendMax ∧ 1 ≤ 8 := by unfold appendMax; omega
  unfold slices_Clone_int64_6661_F slices_Clone_int64_6661
  rw [Tre.run_ite, if_pos hb]
  rfl

noncomputable def slices_Clone_int64_6661_V : Env := ⟨tau, [], []⟩
noncomputable def slices_Clone_int64_6661_b : Code := (Try.f45.body).getD .skip
noncomputable def slices_Clone_int64_6661_I : FnI := ⟨slices_Clone_int64_6661_b, Try.f45.results.toList, Try.f45.resultTypes.toList, []⟩
noncomputable def slices_Clone_int64_6661_out (_zp0 : Bool) (_p0 : (List Int)) : (List Int) → CallOut := fun r => ⟨(.ref (1, 0) []), [], [⟨false, (.sl (.int .i64)), .own, r⟩]⟩
set_option maxRecDepth 100000 in
theorem slices_Clone_int64_6661_eq : ∀ (zp0 : Bool) (p0 : (List Int)), denFn slices_Clone_int64_6661_V slices_Clone_int64_6661_I ⟨[(.nn zp0 (.int .i64) p0)], []⟩ = (slices_Clone_int64_6661 p0).run fun r => some (slices_Clone_int64_6661_out zp0 p0 r) := fun _ _ => by kernel_rfl
noncomputable def slices_Clone_int64_6661_G (av : List AV) (rs : List Root) : Tre CallOut :=
  asCons av fun a0_ av0 =>
  asEnd av0 <|
  asEnd rs <|
  asNn (.int .i64) a0_ fun z1 d2 =>
  .mat (cloneR d2) fun r => .ret (slices_Clone_int64_6661_out z1 d2 r)
noncomputable def slices_Clone_int64_6661_c : Ctr := ⟨[], fun ci => slices_Clone_int64_6661_G ci.args ci.roots⟩
theorem slices_Clone_int64_6661_env : EnvOK Try.prog slices_Clone_int64_6661_V := envOK_nil
set_option maxRecDepth 100000 in
theorem slices_Clone_int64_6661_ok : Contract Try.prog 45 slices_Clone_int64_6661_c := by
  have hl : LoopsOK slices_Clone_int64_6661_V [] slices_Clone_int64_6661_b := loopsOK_nil (by kernel_rfl)
  refine (contract_of (F := slices_Clone_int64_6661_I) tau_tys slices_Clone_int64_6661_env Try.func45 (by kernel_rfl) (by kernel_rfl) (by kernel_rfl) hl []).weaken ?_
  rintro ⟨av, rs⟩ co h
  have h : (slices_Clone_int64_6661_G av rs).run some = some co := h
  obtain ⟨a0_, av0, rfl, h_0⟩ := asCons_spec h
  obtain ⟨rfl, h_1⟩ := asEnd_spec h_0
  obtain ⟨rfl, h_2⟩ := asEnd_spec h_1
  obtain ⟨z1, d2, rfl, h_3⟩ := asNn_spec h_2
  exact fin_opt (slices_Clone_int64_6661_eq z1 d2) (slices_Clone_int64_6661_spec d2) h_3

end Go.Proofs.Ytddaclhjnkimfaa

namespace Go.Proofs.Ytddaclhjnkimfaa
open Go Go.Abs Go.Proofs

/-! function 45: slices.Clone[[]int64,int64]: nil or not -/
theorem slices_Clone_int64_nil (y : List Int) (h : cloneR ([] : List Int) = some y) : y = [] := (lim_some h).2.symm

noncomputable def slices_Clone_int64_G (av : List AV) (rs : List Root) : Tre CallOut :=
  asCons av fun a0_ av0 =>
  asEnd av0 <|
  asEnd rs <|
  asImm (.sl (.int .i64)) a0_ fun z2 d1 =>
  .mat (cloneR d1) fun r => .ret ⟨(.ref (1, 0) []), [], [⟨false, (.sl (.int .i64)), .own, r⟩]⟩
noncomputable def slices_Clone_int64_c : Ctr := ⟨[], fun ci => slices_Clone_int64_G ci.args ci.roots⟩
theorem slices_Clone_int64_ok : Contract Try.prog 45 slices_Clone_int64_c := by
  refine contract_nil (e := (.int .i64)) slices_Clone_int64_b930_ok slices_Clone_int64_6661_ok ?_
  rintro ⟨av, rs⟩ co h
  have h : (slices_Clone_int64_G av rs).run some = some co := h
  obtain ⟨a0_, av0, rfl, h_0⟩ := asCons_spec h
  obtain ⟨rfl, h_1⟩ := asEnd_spec h_0
  obtain ⟨rfl, h_2⟩ := asEnd_spec h_1
  obtain ⟨z2, d1, rfl, h_3⟩ := asImm_spec h_2
  refine ⟨z2, d1, rfl, ?_, ?_⟩
  · exact h_3
  · rintro rfl
    obtain ⟨y, h1, h2⟩ := mat_ret h_3
    have hy : y = [] := by
      have := slices_Clone_int64_nil y h1
      exact this
    subst hy
    rw [← h2]; rfl

end Go.Proofs.Ytddaclhjnkimfaa

namespace Go.Proofs.Ytddaclhjnkimfaa
open Go Go.Abs Go.Proofs

/-! function 106: loop.example/g01144/impl.echelon$1 -/
noncomputable def i_echelonc1_66da (p0 : Int) (p1 : Int) : Tre Bool :=
  .ite (0 ≤ p1) <|
  let v1 := iand .i64 (ishr .i64 p0 p1) 1
  .ret (decide (v1 = 1))
noncomputable def i_echelonc1_66da_F (p0 : Int) (p1 : Int) : Option Bool := (i_echelonc1_66da p0 p1).run some
/-- has a row a place? -/
def bitB (x j : Int) : Option Bool := askO (decide (0 ≤ j)) (bitAt x j)
theorem i_echelonc1_66da_spec (p0 p1 : Int) (y : Bool) (h : bitB p0 p1 = some y) : i_echelonc1_66da_F p0 p1 = some y := by
  obtain ⟨hl, rfl⟩ := askO_some h
  unfold i_echelonc1_66da_F i_echelonc1_66da
  rw [Tre.run_ite, if_pos (of_decide_eq_true hl)]
  rfl

noncomputable def i_echelonc1_66da_V : Env := ⟨tau, [], []⟩
noncomputable def i_echelonc1_66da_b : Code := (Try.f106.body).getD .skip
noncomputable def i_echelonc1_66da_I : FnI := ⟨i_echelonc1_66da_b, Try.f106.results.toList, Try.f106.resultTypes.toList, []⟩
noncomputable def i_echelonc1_66da_out (_p0 : Int) (p1 : Int) : Bool → CallOut := fun r => ⟨(.imm true .bool r), [⟨true, (.int .i64), .own, p1⟩], []⟩
set_option maxRecDepth 100000 in
theorem i_echelonc1_66da_eq : ∀ (p0 : Int) (p1 : Int), denFn i_echelonc1_66da_V i_echelonc1_66da_I ⟨[(.imm true (.int .i64) p0), (.ptr (0, 0) [])], [⟨true, (.int .i64), .own, p1⟩]⟩ = (i_echelonc1_66da p0 p1).run fun r => some (i_echelonc1_66da_out p0 p1 r) := fun _ _ => by kernel_rfl
noncomputable def i_echelonc1_66da_G (av : List AV) (rs : List Root) : Tre CallOut :=
  asCons av fun a0_ av0 =>
  asCons av0 fun a1_ av1 =>
  asEnd av1 <|
  asCons rs fun r0_ rs0 =>
  asEnd rs0 <|
  asImmZ true (.int .i64) a0_ fun d1 =>
  asPtr (0, 0) [] a1_ <|
  asRt true (.int .i64) r0_ fun m2 d3 =>
  asM .own m2 <|
  .mat (bitB d1 d3) fun r => .ret (i_echelonc1_66da_out d1 d3 r)
noncomputable def i_echelonc1_66da_c : Ctr := ⟨[], fun ci => i_echelonc1_66da_G ci.args ci.roots⟩
theorem i_echelonc1_66da_env : EnvOK Try.prog i_echelonc1_66da_V := envOK_nil
set_option maxRecDepth 100000 in
theorem i_echelonc1_66da_ok : Contract Try.prog 106 i_echelonc1_66da_c := by
  have hl : LoopsOK i_echelonc1_66da_V [] i_echelonc1_66da_b := loopsOK_nil (by kernel_rfl)
  refine (contract_of (F := i_echelonc1_66da_I) tau_tys i_echelonc1_66da_env Try.func106 (by kernel_rfl) (by kernel_rfl) (by kernel_rfl) hl []).weaken ?_
  rintro ⟨av, rs⟩ co h
  have h : (i_echelonc1_66da_G av rs).run some = some co := h
  obtain ⟨a0_, av0, rfl, h_0⟩ := asCons_spec h
  obtain ⟨a1_, av1, rfl, h_1⟩ := asCons_spec h_0
  obtain ⟨rfl, h_2⟩ := asEnd_spec h_1
  obtain ⟨r0_, rs0, rfl, h_3⟩ := asCons_spec h_2
  obtain ⟨rfl, h_4⟩ := asEnd_spec h_3
  obtain ⟨d1, rfl, h_5⟩ := asImmZ_spec h_4
  obtain ⟨rfl, h_6⟩ := asPtr_spec h_5
  obtain ⟨m2, d3, rfl, h_7⟩ := asRt_spec h_6
  obtain ⟨rfl, h_8⟩ := asM_spec h_7
  exact fin_opt (i_echelonc1_66da_eq d1 d3) (i_echelonc1_66da_spec d1 d3) h_8

end Go.Proofs.Ytddaclhjnkimfaa

namespace Go.Proofs.Ytddaclhjnkimfaa
open Go Go.Abs Go.Proofs

/-! function 98: slices.IndexFunc[[]int64,int64] -/
noncomputable def slices_IndexFunc_int64_i_echelonc1_l2 (h2_0_0 : (List Int)) (h2_0_1 : Int) (h2_0_3 : Int) : Int → Tre (Int ⊕ (Int ⊕ Unit)) := fun s2 =>
  .cond (decide (s2 < h2_0_1))
    (.ite (0 ≤ s2 ∧ s2 < (h2_0_0.length : Int)) <|
    .mat (h2_0_0[s2.toNat]?) fun x1 =>
    .mat (bitB x1 h2_0_3) fun r2 =>
    .cond r2
      (.ret (.inr (.inl s2)))
      (.ret (.inl (iwrap .i64 (s2 + 1)))))
    (.ret (.inr (.inr ())))
noncomputable def slices_IndexFunc_int64_i_echelonc1 (p0 : (List Int)) (p1 : Int) : Tre Int :=
  .mat (loopF (slices_IndexFunc_int64_i_echelonc1_l2 p0 (p0.length : Int) p1) 0) fun l3 =>
  .alt l3
    (fun a4 =>
      .ret a4)
    (fun _ =>
      .ret (-1))
noncomputable def slices_IndexFunc_int64_i_echelonc1_F (p0 : (List Int)) (p1 : Int) : Option Int := (slices_IndexFunc_int64_i_echelonc1 p0 p1).run some
/-- the first row with a place -/
def idxB (xs : List Int) (j : Int) : Option Int := askO (decide (0 ≤ j) && decide (xs.length ≤ 1048576)) (idxI (fun x => bitAt x j) 0 xs)
theorem slices_IndexFunc_int64_i_echelonc1_spec (p0 : List Int) (p1 : Int) (y : Int) (h : idxB p0 p1 = some y) : slices_IndexFunc_int64_i_echelonc1_F p0 p1 = some y := by
  obtain ⟨hl, rfl⟩ := askO_some h
  rw [Bool.and_eq_true] at hl
  obtain ⟨hm, hl⟩ := hl
  have hl := of_decide_eq_true hl
  unfold slices_IndexFunc_int64_i_echelonc1_F slices_IndexFunc_int64_i_echelonc1
  rw [Tre.run_mat, find_loop (xs := p0) (fun i x => cond (bitAt x p1) (some (.inl (i : Int))) none) (.inr ())]
  · rw [Option.bind_some, ← findE_idx (p := fun x => bitAt x p1)]
    generalize findE _ _ _ _ = r
    cases r <;> rfl
  · intro i x hx
    have hi : i < p0.length := (List.getElem?_eq_some_iff.1 hx).1
    unfold slices_IndexFunc_int64_i_echelonc1_l2
    rw [run_inb hx, run_some_mat (show bitB x p1 = some _ from askO_true hm), Tre.run_cond]
    cases bitAt x p1
    · simp only [cond_false, Tre.run_ret, iwrap_succ (show i < 4611686018427387904 by omega)]
    · rfl
  · unfold slices_IndexFunc_int64_i_echelonc1_l2
    exact run_out

noncomputable def slices_IndexFunc_int64_i_echelonc1_V : Env := ⟨tau, [(106, i_echelonc1_66da_c)], []⟩
noncomputable def slices_IndexFunc_int64_i_echelonc1_b : Code := (Try.f98.body).getD .skip
noncomputable def slices_IndexFunc_int64_i_echelonc1_l2_mk (z2_0 : Bool) (h2_0_0 : (List Int)) (h2_0_1 : Int) (h2_0_3 : Int) : Int → St := fun x => stOf [(0, (.imm z2_0 (.sl (.int .i64)) h2_0_0)), (1, (.fn 106 [(0, 0)])), (7, (.imm true (.int .i64) h2_0_1)), (8, (.imm true (.int .i64) x))] [((0, 0), some ⟨true, (.int .i64), .own, h2_0_3⟩)]
noncomputable def slices_IndexFunc_int64_i_echelonc1_l2_out (_z2_0 : Bool) (_h2_0_0 : (List Int)) (_h2_0_1 : Int) (h2_0_3 : Int) : (Int ⊕ Unit) → Ex × St
  | .inl x => (.ret, stOf [(4, (.imm true (.int .i64) x))] [((0, 0), some ⟨true, (.int .i64), .own, h2_0_3⟩)])
  | .inr x => (.exit 0, stOf [(4, .dead)] [((0, 0), some ⟨true, (.int .i64), .own, h2_0_3⟩)])
noncomputable def slices_IndexFunc_int64_i_echelonc1_l2_D (s : St) : Tre (Ex × St) :=
  asImm (.sl (.int .i64)) (s.tmps 0) fun z3 d2 =>
  asFn 106 [(0, 0)] (s.tmps 1) <|
  asImmZ true (.int .i64) (s.tmps 7) fun d6 =>
  asImmZ true (.int .i64) (s.tmps 8) fun d8 =>
  asRoot true (.int .i64) (s.roots (0, 0)) fun m10 d11 =>
  asM .own m10 <|
  .mat (loopF (slices_IndexFunc_int64_i_echelonc1_l2 d2 d6 d11) d8) fun x => .alt x (fun a0 => .ret (slices_IndexFunc_int64_i_echelonc1_l2_out z3 d2 d6 d11 (.inl a0))) (fun b0 => .ret (slices_IndexFunc_int64_i_echelonc1_l2_out z3 d2 d6 d11 (.inr b0)))
noncomputable def slices_IndexFunc_int64_i_echelonc1_l2_L : LoopI := ⟨([0, 1, 7, 8], [(0, 0)]), ([4], [(0, 0)]), slices_IndexFunc_int64_i_echelonc1_l2_D⟩
noncomputable def slices_IndexFunc_int64_i_echelonc1_A : List (Nat × LoopI) := [(2, slices_IndexFunc_int64_i_echelonc1_l2_L)]
set_option maxRecDepth 100000 in
theorem slices_IndexFunc_int64_i_echelonc1_l2_step : ∀ (z2_0 : Bool) (h2_0_0 : (List Int)) (h2_0_1 : Int) (h2_0_3 : Int) (x : Int) (c : St → Option (Ex × St)), den slices_IndexFunc_int64_i_echelonc1_V slices_IndexFunc_int64_i_echelonc1_A (loopAt slices_IndexFunc_int64_i_echelonc1_b 0) (slices_IndexFunc_int64_i_echelonc1_l2_mk z2_0 h2_0_0 h2_0_1 h2_0_3 x) (roundK slices_IndexFunc_int64_i_echelonc1_l2_L.kp slices_IndexFunc_int64_i_echelonc1_l2_L.kx c) = (slices_IndexFunc_int64_i_echelonc1_l2 h2_0_0 h2_0_1 h2_0_3 x).run (roundR (slices_IndexFunc_int64_i_echelonc1_l2_mk z2_0 h2_0_0 h2_0_1 h2_0_3) (slices_IndexFunc_int64_i_echelonc1_l2_out z2_0 h2_0_0 h2_0_1 h2_0_3) c) := fun _ _ _ _ _ _ => by
  kernel_rfl
theorem slices_IndexFunc_int64_i_echelonc1_l2_ok : LoopOK slices_IndexFunc_int64_i_echelonc1_V slices_IndexFunc_int64_i_echelonc1_A (loopAt slices_IndexFunc_int64_i_echelonc1_b 0) slices_IndexFunc_int64_i_echelonc1_l2_L := loopOK_of fun s e s' h => by
  generalize hs : restrict slices_IndexFunc_int64_i_echelonc1_l2_L.kp s = s1 at h
  have h : (slices_IndexFunc_int64_i_echelonc1_l2_D s1).run some = some (e, s') := h
  obtain ⟨z3, d2, e1, h_0⟩ := asImm_spec h
  obtain ⟨e4, h_1⟩ := asFn_spec h_0
  obtain ⟨d6, e5, h_2⟩ := asImmZ_spec h_1
  obtain ⟨d8, e7, h_3⟩ := asImmZ_spec h_2
  obtain ⟨m10, d11, e9, h_4⟩ := asRoot_spec h_3
  obtain ⟨rfl, h_5⟩ := asM_spec h_4
  obtain ⟨y, hy, hz⟩ := mat_some h_5
  refine ⟨_, _, slices_IndexFunc_int64_i_echelonc1_l2_mk z3 d2 d6 d11, slices_IndexFunc_int64_i_echelonc1_l2_out z3 d2 d6 d11, slices_IndexFunc_int64_i_echelonc1_l2 d2 d6 d11, d8, y, ?_, hy, ?_, slices_IndexFunc_int64_i_echelonc1_l2_step z3 d2 d6 d11⟩
  · subst hs; exact restrict_eq (T := [(0, (.imm z3 (.sl (.int .i64)) d2)), (1, (.fn 106 [(0, 0)])), (7, (.imm true (.int .i64) d6)), (8, (.imm true (.int .i64) d8))]) (U := [((0, 0), some ⟨true, (.int .i64), .own, d11⟩)]) rfl rfl ⟨e1, e4, e5, e7, trivial⟩ ⟨e9, trivial⟩
  · rcases y with x | x <;> exact Option.some.inj hz
noncomputable def slices_IndexFunc_int64_i_echelonc1_I : FnI := ⟨slices_IndexFunc_int64_i_echelonc1_b, Try.f98.results.toList, Try.f98.resultTypes.toList, slices_IndexFunc_int64_i_echelonc1_A⟩
noncomputable def slices_IndexFunc_int64_i_echelonc1_out (_zp0 : Bool) (_p0 : (List Int)) (p1 : Int) : Int → CallOut := fun r => ⟨(.imm true (.int .i64) r), [⟨true, (.int .i64), .own, p1⟩], []⟩
set_option maxRecDepth 100000 in
theorem slices_IndexFunc_int64_i_echelonc1_eq : ∀ (zp0 : Bool) (p0 : (List Int)) (p1 : Int), denFn slices_IndexFunc_int64_i_echelonc1_V slices_IndexFunc_int64_i_echelonc1_I ⟨[(.imm zp0 (.sl (.int .i64)) p0), (.fn 106 [(0, 0)])], [⟨true, (.int .i64), .own, p1⟩]⟩ = (slices_IndexFunc_int64_i_echelonc1 p0 p1).run fun r => some (slices_IndexFunc_int64_i_echelonc1_out zp0 p0 p1 r) := fun _ _ _ => by kernel_rfl
noncomputable def slices_IndexFunc_int64_i_echelonc1_G (av : List AV) (rs : List Root) : Tre CallOut :=
  asCons av fun a0_ av0 =>
  asCons av0 fun a1_ av1 =>
  asEnd av1 <|
  asCons rs fun r0_ rs0 =>
  asEnd rs0 <|
  asImm (.sl (.int .i64)) a0_ fun z2 d1 =>
  asFn 106 [(0, 0)] a1_ <|
  asRt true (.int .i64) r0_ fun m3 d4 =>
  asM .own m3 <|
  .mat (idxB d1 d4) fun r => .ret (slices_IndexFunc_int64_i_echelonc1_out z2 d1 d4 r)
noncomputable def slices_IndexFunc_int64_i_echelonc1_c : Ctr := ⟨[], fun ci => slices_IndexFunc_int64_i_echelonc1_G ci.args ci.roots⟩
theorem slices_IndexFunc_int64_i_echelonc1_env : EnvOK Try.prog slices_IndexFunc_int64_i_echelonc1_V := (envOK_cons i_echelonc1_66da_ok ent106 envOK_nil)
set_option maxRecDepth 100000 in
theorem slices_IndexFunc_int64_i_echelonc1_ok : Contract Try.prog 98 slices_IndexFunc_int64_i_echelonc1_c := by
  have hl : LoopsOK slices_IndexFunc_int64_i_echelonc1_V slices_IndexFunc_int64_i_echelonc1_A slices_IndexFunc_int64_i_echelonc1_b := (loopsOK_all (n := 1) (by kernel_rfl) fun k hk => by
      match k, hk with
      | 0, _ => exact loopOK_at (id := 2) (L := slices_IndexFunc_int64_i_echelonc1_l2_L) (by kernel_rfl) (by kernel_rfl) slices_IndexFunc_int64_i_echelonc1_l2_ok)
  refine (contract_of (F := slices_IndexFunc_int64_i_echelonc1_I) tau_tys slices_IndexFunc_int64_i_echelonc1_env Try.func98 (by kernel_rfl) (by kernel_rfl) (by kernel_rfl) hl []).weaken ?_
  rintro ⟨av, rs⟩ co h
  have h : (slices_IndexFunc_int64_i_echelonc1_G av rs).run some = some co := h
  obtain ⟨a0_, av0, rfl, h_0⟩ := asCons_spec h
  obtain ⟨a1_, av1, rfl, h_1⟩ := asCons_spec h_0
  obtain ⟨rfl, h_2⟩ := asEnd_spec h_1
  obtain ⟨r0_, rs0, rfl, h_3⟩ := asCons_spec h_2
  obtain ⟨rfl, h_4⟩ := asEnd_spec h_3
  obtain ⟨z2, d1, rfl, h_5⟩ := asImm_spec h_4
  obtain ⟨rfl, h_6⟩ := asFn_spec h_5
  obtain ⟨m3, d4, rfl, h_7⟩ := asRt_spec h_6
  obtain ⟨rfl, h_8⟩ := asM_spec h_7
  exact fin_opt (slices_IndexFunc_int64_i_echelonc1_eq z2 d1 d4) (slices_IndexFunc_int64_i_echelonc1_spec d1 d4) h_8

end Go.Proofs.Ytddaclhjnkimfaa

namespace Go.Proofs.Ytddaclhjnkimfaa
open Go Go.Abs Go.Proofs

/-! function 82: loop.example/g01144/impl.echelon -/
noncomputable def i_echelon_l10 (h10_0_0 : Int) (h10_0_1 : Int) (h10_0_4 : Int) : (Int × (List Int)) → Tre ((Int × (List Int)) ⊕ (List Int)) := fun s10 =>
  .cond (decide (s10.1 < h10_0_1))
    (.cond (!decide (s10.1 = h10_0_0))
      (.ite (0 ≤ s10.1 ∧ s10.1 < (s10.2.length : Int)) <|
      .mat (s10.2[s10.1.toNat]?) fun x9 =>
      .ite (0 ≤ h10_0_4) <|
      let v10 := iand .i64 (ishr .i64 x9 h10_0_4) 1
      .cond (decide (v10 = 1))
        (.ite (0 ≤ s10.1 ∧ s10.1 < (s10.2.length : Int)) <|
        .mat (s10.2[s10.1.toNat]?) fun x11 =>
        .ite (0 ≤ h10_0_0 ∧ h10_0_0 < (s10.2.length : Int)) <|
        .mat (s10.2[h10_0_0.toNat]?) fun x12 =>
        .ite (0 ≤ s10.1 ∧ s10.1 < (s10.2.length : Int)) <|
        .mat (s10.2[s10.1.toNat]?) fun _ =>
        let v14 := s10.2.set s10.1.toNat (ixor .i64 x11 x12)
        .ret (.inl (iwrap .i64 (s10.1 + 1), v14)))
        (.ret (.inl (iwrap .i64 (s10.1 + 1), s10.2))))
      (.ret (.inl (iwrap .i64 (s10.1 + 1), s10.2))))
    (.ret (.inr s10.2))
noncomputable def i_echelon_l4 : (Int × (List Int) × Int) → Tre ((Int × (List Int) × Int) ⊕ (Int × (List Int))) := fun s4 =>
  .cond (decide (s4.2.2 < 62))
    (.cond (decide (s4.1 < (s4.2.1.length : Int)))
      (.ite (0 ≤ s4.1 ∧ s4.1 ≤ (s4.2.1.length : Int) ∧ (s4.2.1.length : Int) ≤ (s4.2.1.length : Int)) <|
      .mat (idxB ((s4.2.1.drop s4.1.toNat).take (((s4.2.1.length : Int) - s4.1).toNat)) s4.2.2) fun r2 =>
      .cond (decide (r2 < 0))
        (.ret (.inl (s4.1, s4.2.1, iwrap .i64 (s4.2.2 + 1))))
        (.ite (0 ≤ iwrap .i64 (s4.1 + r2) ∧ iwrap .i64 (s4.1 + r2) < (s4.2.1.length : Int)) <|
        .mat (s4.2.1[(iwrap .i64 (s4.1 + r2)).toNat]?) fun x3 =>
        .ite (0 ≤ s4.1 ∧ s4.1 < (s4.2.1.length : Int)) <|
        .mat (s4.2.1[s4.1.toNat]?) fun x4 =>
        .ite (0 ≤ s4.1 ∧ s4.1 < (s4.2.1.length : Int)) <|
        .mat (s4.2.1[s4.1.toNat]?) fun _ =>
        let v6 := s4.2.1.set s4.1.toNat x3
        .ite (0 ≤ iwrap .i64 (s4.1 + r2) ∧ iwrap .i64 (s4.1 + r2) < (v6.length : Int)) <|
        .mat (v6[(iwrap .i64 (s4.1 + r2)).toNat]?) fun _ =>
        let v8 := v6.set ((iwrap .i64 (s4.1 + r2)).toNat) x4
        .mat (loopF (i_echelon_l10 s4.1 (v8.length : Int) s4.2.2) (0, v8)) fun l15 =>
        .ret (.inl (iwrap .i64 (s4.1 + 1), l15, iwrap .i64 (s4.2.2 + 1)))))
      (.ret (.inr (s4.1, s4.2.1))))
    (.ret (.inr (s4.1, s4.2.1)))
noncomputable def i_echelon (p0 : (List Int)) : Tre (List Int) :=
  .mat (cloneR p0) fun r1 =>
  .mat (loopF i_echelon_l4 (0, r1, 0)) fun l16 =>
  .ite (0 ≤ (0 : Int) ∧ (0 : Int) ≤ l16.1 ∧ l16.1 ≤ (l16.2.length : Int)) <|
  .ret ((l16.2.drop 0).take ((l16.1 - 0).toNat))
noncomputable def i_echelon_F (p0 : (List Int)) : Option (List Int) := (i_echelon p0).run some
/-- the reduced form of rows -/
noncomputable def echA (xs : List Int) : Option (List Int) := askO (okRows 62 xs) (echI xs)
theorem i_echelon_elim (k c r : Nat) (hc : c ≤ 62) (hr : r < 2 ^ 62) (A B : List Nat) (hk : A.length = k) (hb : ∀ n ∈ A ++ r :: B, n < 2 ^ 62) (hl : (A ++ r :: B).length ≤ 1048576) :
    loopF (i_echelon_l10 (k : Int) ((A ++ r :: B).length : Int) (c : Int)) (0, up (A ++ r :: B)) = some (up (A.map (elimB c r) ++ r :: B.map (elimB c r))) := by
  have hkr : (A ++ r :: B)[k]? = some r := by rw [List.getElem?_append_right (by omega), hk]; simp
  generalize hL : A ++ r :: B = l at *
  have := part_loop (step := i_echelon_l10 (k : Int) (l.length : Int) (c : Int)) (fun i x => if i = k then x else elimB c r x) l id (by
    intro i x hx
    have hi : i < l.length := (List.getElem?_eq_some_iff.1 hx).1
    have hx2 := up_at (part_at (g := fun i x => if i = k then x else elimB c r x) (i := i) hx)
    rw [if_neg (Nat.lt_irrefl i)] at hx2
    have hr2 := up_at (part_at (g := fun i x => if i = k then x else elimB c r x) (i := i) hkr)
    simp only [if_true, ite_self] at hr2
    have hxb := hb x (List.mem_of_getElem? hx)
    rw [← part_set hx]
    generalize hP : partB (fun i x => if i = k then x else elimB c r x) i l = P at *
    have hset : (up P).set i (x : Int) = up P := List.ext_getElem? fun j => by
      rw [List.getElem?_set]
      by_cases hj : i = j
      · subst hj; rw [if_pos rfl, hx2, if_pos (List.getElem?_eq_some_iff.1 hx2).1]
      · rw [if_neg hj]
    unfold i_echelon_l10
    rw [Tre.run_cond]
    show cond (decide ((i : Int) < (l.length : Int))) _ _ = _
    rw [show decide ((i : Int) < (l.length : Int)) = true from by simpa using hi, cond_true, Tre.run_cond]
    show cond (!decide ((i : Int) = (k : Int))) _ _ = _
    by_cases hik : i = k
    · rw [show decide ((i : Int) = (k : Int)) = true from decide_eq_true (by omega), Bool.not_true, cond_false, Tre.run_ret, iwrap_succ (by omega), if_pos hik, ← up_set, hset]
    · rw [show decide ((i : Int) = (k : Int)) = false from decide_eq_false (by omega), Bool.not_false, cond_true, run_at hx2, Tre.run_ite, if_pos (by omega), Tre.run_cond, if_neg hik]
      show cond (bitAt (x : Int) (c : Int)) _ _ = _
      rw [bitAt_nat (by omega) (by omega)]
      have he : elimB c r x = cond (x.testBit c) (x ^^^ r) x := rfl
      rw [he]
      cases x.testBit c
      · rw [cond_false, Tre.run_ret, iwrap_succ (by omega), cond_false, ← up_set, hset]
      · rw [cond_true, run_at hx2, run_at hr2, run_at hx2, Tre.run_ret, iwrap_succ (by omega), ixor_nat (by omega) (by omega), Int.toNat_natCast, cond_true, ← up_set])
    (by
    unfold i_echelon_l10
    exact run_out)
  rw [this, ← hL, mapIdx_pivot (f := elimB c r) (g := fun i x => if i = k then x else elimB c r x) (r := r) (B := B) hk (fun i x h => if_neg h) (if_pos rfl)]
  rfl
theorem i_echelon_loop (orig : List Nat) : ∀ (n c : Nat) (E : List (Nat × Nat)) (R : List Nat), c + n = 62 → Inv orig c E R → E.length + R.length ≤ 1048576 → (∀ x ∈ R, x < 2 ^ 62) → (∀ a ∈ E, a.2 < 2 ^ 62) →
    ∃ (E' L : List Nat), loopF i_echelon_l4 ((E.length : Int), up (E.map (·.2) ++ R), (c : Int)) = some ((E'.length : Int), up (E' ++ L)) ∧ IsEch orig E' := by
  intro n
  induction n with
  | zero =>
    intro c E R hc hI _ hR _
    have : c = 62 := hc
    subst this
    refine ⟨E.map (·.2), R, loopF_done ?_, hI.done fun x hx => zero_of_bits (hR x hx) (hI.low x hx)⟩
    unfold i_echelon_l4
    simp [Tre.run_cond, Tre.run_ret]
  | succ n ih =>
    intro c E R hc hI hl hR hEb
    have hcm : c < 62 := by omega
    have hlen : (up (E.map (·.2) ++ R)).length = E.length + R.length := by rw [up_len]; simp
    by_cases hR0 : R = []
    · subst hR0
      refine ⟨E.map (·.2), [], loopF_done ?_, hI.done fun x hx => by cases hx⟩
      unfold i_echelon_l4
      simp [Tre.run_cond, Tre.run_ret]
    have hRl : 0 < R.length := List.length_pos_iff.2 hR0
    have hstep : ∀ E2 R2, Inv orig (c + 1) E2 R2 → E2.length + R2.length ≤ 1048576 → (∀ x ∈ R2, x < 2 ^ 62) → (∀ a ∈ E2, a.2 < 2 ^ 62) → (i_echelon_l4 ((E.length : Int), up (E.map (·.2) ++ R), (c : Int))).run some = some (.inl ((E2.length : Int), up (E2.map (·.2) ++ R2), ((c + 1 : Nat) : Int))) →
        ∃ (E' L : List Nat), loopF i_echelon_l4 ((E.length : Int), up (E.map (·.2) ++ R), (c : Int)) = some ((E'.length : Int), up (E' ++ L)) ∧ IsEch orig E' := by
      intro E2 R2 h1 h2 h3 h4 h5
      rw [loopF_step h5]
      exact ih (c + 1) E2 R2 (by omega) h1 h2 h3 h4
    have hsub : ((up (E.map (·.2) ++ R)).drop E.length).take (((E.length + R.length : Nat) : Int) - (E.length : Int)).toNat = up R := by
      rw [show (((E.length + R.length : Nat) : Int) - (E.length : Int)).toNat = R.length from by omega]
      unfold up
      rw [List.map_append, List.drop_append_of_le_length (by simp), List.drop_of_length_le (by simp), List.nil_append, List.take_of_length_le (by simp)]
    have hfind : idxB (up R) (c : Int) = some _ := askO_true (by rw [up_len]; simp; omega)
    have hw : iwrap .i64 ((c : Int) + 1) = ((c + 1 : Nat) : Int) := iwrap_succ (by omega)
    have hdec : decide ((c : Int) < 62) = true := by simp; omega
    have hdec2 : decide ((E.length : Int) < ((E.length + R.length : Nat) : Int)) = true := by simp; omega
    rcases idxI_cases (fun x => bitAt x (c : Int)) (up R) 0 with ⟨h1, h2⟩ | ⟨j, x, h1, h2, h3⟩
    · refine hstep E R (hI.skip fun x hx => ?_) hl hR hEb ?_
      · have := h2 (x : Int) (List.mem_map.2 ⟨x, hx, rfl⟩)
        have hxb := hR x hx
        rwa [bitAt_nat (by omega) (by omega)] at this
      · unfold i_echelon_l4
        dsimp only
        rw [hlen, Tre.run_cond, hdec, cond_true, Tre.run_cond, hdec2, cond_true, Tre.run_ite, if_pos (by omega), Int.toNat_natCast, hsub, run_some_mat (hfind.trans (by rw [h1])), Tre.run_cond]
        simp only [show decide ((-1 : Int) < 0) = true from rfl, cond_true, Tre.run_ret, hw]
    · obtain ⟨r, hr1, rfl⟩ : ∃ r : Nat, R[j]? = some r ∧ (r : Int) = x := by
        simp only [up, List.getElem?_map, Option.map_eq_some_iff] at h1
        exact h1
      have hrm : r ∈ R := List.mem_of_getElem? hr1
      have hrb := hR r hrm
      rw [bitAt_nat (by omega) (by omega)] at h2
      rw [Nat.zero_add] at h3
      have hj : j < R.length := (List.getElem?_eq_some_iff.1 hr1).1
      obtain ⟨y, R', rfl⟩ : ∃ y R', R = y :: R' := by
        cases R with
        | nil => exact absurd rfl hR0
        | cons y R' => exact ⟨y, R', rfl⟩
      -- the rows behind the swap
      obtain ⟨B, hB, hB1, hB2, hBl⟩ : ∃ B, ((y :: R').set 0 r).set j y = r :: B ∧ (∀ x ∈ B, x ∈ y :: R') ∧ (∀ x ∈ y :: R', x = r ∨ x ∈ B) ∧ B.length = R'.length := by
        cases j with
        | zero =>
          have hyr : y = r := by simpa using hr1
          subst hyr
          exact ⟨R', by simp, fun x hx => .tail _ hx, fun x hx => by
            cases hx with
            | head => exact .inl rfl
            | tail _ hx => exact .inr hx, rfl⟩
        | succ j =>
          have hr1 : R'[j]? = some r := by simpa using hr1
          have hj' : j < R'.length := (List.getElem?_eq_some_iff.1 hr1).1
          refine ⟨R'.set j y, by simp, fun x hx => ?_, fun x hx => ?_, by simp⟩
          · rcases List.mem_or_eq_of_mem_set hx with hx | rfl
            · exact .tail _ hx
            · exact .head _
          · cases hx with
            | head => exact .inr (List.mem_set hj' _)
            | tail _ hx =>
              obtain ⟨i, hi⟩ := List.getElem?_of_mem hx
              by_cases hij : j = i
              · subst hij; rw [hr1] at hi; exact .inl (Option.some.inj hi).symm
              · exact .inr (List.mem_of_getElem? (i := i) (by rw [List.getElem?_set, if_neg hij, hi]))
      have hE2 : ((E.map fun a => (a.1, elimB c r a.2)) ++ [(c, r)]).map (·.2) = (E.map (·.2)).map (elimB c r) ++ [r] := by simp [List.map_map, Function.comp_def]
      have hRB : (E.map (·.2) ++ r :: B).length = E.length + (y :: R').length := by simp [hBl]
      have hall : ∀ x ∈ E.map (·.2) ++ r :: B, x < 2 ^ 62 := by
        intro x hx
        rcases List.mem_append.1 hx with hx | hx
        · obtain ⟨a, ha, rfl⟩ := List.mem_map.1 hx; exact hEb a ha
        · cases hx with
          | head => exact hrb
          | tail _ hx => exact hR x (hB1 x hx)
      refine hstep (E.map (fun a => (a.1, elimB c r a.2)) ++ [(c, r)]) (B.map (elimB c r)) (hI.step hrm h2 ?_ ?_) (by simp [hBl] at hl ⊢; omega) ?_ ?_ ?_
      · intro z hz
        obtain ⟨x, hx, rfl⟩ := List.mem_map.1 hz
        exact .inr ⟨x, hB1 x hx, rfl⟩
      · intro x hx
        rcases hB2 x hx with h | h
        · exact .inl h
        · exact .inr (List.mem_map.2 ⟨x, h, rfl⟩)
      · intro z hz
        obtain ⟨x, hx, rfl⟩ := List.mem_map.1 hz
        exact elimB_lt hrb (hR x (hB1 x hx))
      · intro a ha
        rcases List.mem_append.1 ha with ha | ha
        · obtain ⟨b, hb, rfl⟩ := List.mem_map.1 ha
          exact elimB_lt hrb (hEb b hb)
        · simp only [List.mem_singleton] at ha; subst ha; exact hrb
      · have e1 := i_echelon_elim E.length c r (by omega) hrb (E.map (·.2)) B (by simp) hall (by rw [hRB]; exact hl)
        have hkj : iwrap .i64 ((E.length : Int) + (j : Int)) = ((E.length + j : Nat) : Int) := by rw [iwrap_i64 (by omega) (by omega)]; omega
        have hat1 : (up (E.map (·.2) ++ y :: R'))[E.length + j]? = some (r : Int) := up_at (by rw [List.getElem?_append_right (by simp)]; simpa using hr1)
        have hat2 : (up (E.map (·.2) ++ y :: R'))[E.length]? = some (y : Int) := up_at (by rw [List.getElem?_append_right (by simp)]; simp)
        have hs1 : (up (E.map (·.2) ++ y :: R')).set E.length (r : Int) = up (E.map (·.2) ++ (y :: R').set 0 r) := by
          rw [up_set, List.set_append_right _ _ (by simp)]
          simp
        have hs2 : (up (E.map (·.2) ++ (y :: R').set 0 r)).set (E.length + j) (y : Int) = up (E.map (·.2) ++ r :: B) := by
          rw [up_set, List.set_append_right _ _ (by simp), ← hB]
          simp
        have hat3 : ∃ z, (up (E.map (·.2) ++ (y :: R').set 0 r))[E.length + j]? = some z := ⟨_, List.getElem?_eq_getElem (by rw [up_len]; simp at hj ⊢; omega)⟩
        obtain ⟨z, hat3⟩ := hat3
        have hlen3 : ((up (E.map (·.2) ++ r :: B)).length : Int) = ((E.map (·.2) ++ r :: B).length : Int) := by rw [up_len]
        unfold i_echelon_l4
        dsimp only
        rw [hlen, Tre.run_cond, hdec, cond_true, Tre.run_cond, hdec2, cond_true, Tre.run_ite, if_pos (by omega), Int.toNat_natCast, hsub, run_some_mat (hfind.trans (by rw [h3])), Tre.run_cond]
        rw [show decide ((j : Int) < 0) = false from by simp, cond_false, hkj, ← hlen, run_at hat1, run_at2 hat2, run_at2 hat2]
        rw [Int.toNat_natCast, hs1, run_at2 hat3, hs2, hlen3, run_some_mat e1, Tre.run_ret, iwrap_succ (by omega), hw, hE2]
        simp [List.append_assoc]
theorem i_echelon_spec (p0 : List Int) (y : List Int) (h : echA p0 = some y) : i_echelon_F p0 = some y := by
  obtain ⟨hl, rfl⟩ := askO_some h
  obtain ⟨ns, rfl, hlen, hb, hn⟩ := okRows_up hl
  obtain ⟨E, L, h1, h2⟩ := i_echelon_loop ns 62 0 [] ns (by omega) (Inv.start ns) (by simpa using hlen) hb (fun a ha => by cases ha)
  unfold i_echelon_F i_echelon
  have e1 : cloneR (up ns) = some (up ns) := lim_of (by rw [up_len]; exact hlen)
  have h1 : loopF i_echelon_l4 (0, up ns, 0) = some ((E.length : Int), up (E ++ L)) := h1
  rw [run_some_mat e1, run_some_mat h1, Tre.run_ite, if_pos (by rw [up_len]; simp; omega), Tre.run_ret]
  unfold echI
  rw [hn, ech_of h2]
  simp [up]

noncomputable def i_echelon_V : Env := ⟨tau, [(45, slices_Clone_int64_c), (98, slices_IndexFunc_int64_i_echelonc1_c)], []⟩
noncomputable def i_echelon_b : Code := (Try.f82.body).getD .skip
noncomputable def i_echelon_l10_mk (h10_0_0 : Int) (h10_0_1 : Int) (h10_0_4 : Int) : (Int × (List Int)) → St := fun x => stOf [(0, (.ref (2, 0) [])), (3, (.imm true (.int .i64) h10_0_0)), (4, (.ptr (6, 0) [])), (45, (.imm true (.int .i64) h10_0_1)), (46, (.imm true (.int .i64) x.1))] [((2, 0), some ⟨false, (.sl (.int .i64)), .own, x.2⟩), ((6, 0), some ⟨true, (.int .i64), .own, h10_0_4⟩)]
noncomputable def i_echelon_l10_out (h10_0_0 : Int) (_h10_0_1 : Int) (h10_0_4 : Int) : (List Int) → Ex × St := fun x => (.exit 2, stOf [(0, (.ref (2, 0) [])), (3, (.imm true (.int .i64) h10_0_0)), (4, (.ptr (6, 0) []))] [((2, 0), some ⟨false, (.sl (.int .i64)), .own, x⟩), ((6, 0), some ⟨true, (.int .i64), .own, h10_0_4⟩)])
noncomputable def i_echelon_l10_D (s : St) : Tre (Ex × St) :=
  asRef (2, 0) [] (s.tmps 0) <|
  asImmZ true (.int .i64) (s.tmps 3) fun d3 =>
  asPtr (6, 0) [] (s.tmps 4) <|
  asImmZ true (.int .i64) (s.tmps 45) fun d6 =>
  asImmZ true (.int .i64) (s.tmps 46) fun d8 =>
  asRoot false (.sl (.int .i64)) (s.roots (2, 0)) fun m10 d11 =>
  asM .own m10 <|
  asRoot true (.int .i64) (s.roots (6, 0)) fun m13 d14 =>
  asM .own m13 <|
  .mat (loopF (i_echelon_l10 d3 d6 d14) (d8, d11)) fun x => .ret (i_echelon_l10_out d3 d6 d14 x)
noncomputable def i_echelon_l10_L : LoopI := ⟨([0, 3, 4, 45, 46], [(2, 0), (6, 0)]), ([0, 3, 4], [(2, 0), (6, 0)]), i_echelon_l10_D⟩
noncomputable def i_echelon_l4_mk : (Int × (List Int) × Int) → St := fun x => stOf [(0, (.ref (2, 0) [])), (3, (.imm true (.int .i64) x.1)), (4, (.ptr (6, 0) []))] [((2, 0), some ⟨false, (.sl (.int .i64)), .own, x.2.1⟩), ((6, 0), some ⟨true, (.int .i64), .own, x.2.2⟩)]
noncomputable def i_echelon_l4_out : (Int × (List Int)) → Ex × St := fun x => (.exit 0, stOf [(0, (.ref (2, 0) [])), (3, (.imm true (.int .i64) x.1))] [((2, 0), some ⟨false, (.sl (.int .i64)), .own, x.2⟩)])
noncomputable def i_echelon_l4_D (s : St) : Tre (Ex × St) :=
  asRef (2, 0) [] (s.tmps 0) <|
  asImmZ true (.int .i64) (s.tmps 3) fun d3 =>
  asPtr (6, 0) [] (s.tmps 4) <|
  asRoot false (.sl (.int .i64)) (s.roots (2, 0)) fun m6 d7 =>
  asM .own m6 <|
  asRoot true (.int .i64) (s.roots (6, 0)) fun m9 d10 =>
  asM .own m9 <|
  .mat (loopF i_echelon_l4 (d3, d7, d10)) fun x => .ret (i_echelon_l4_out x)
noncomputable def i_echelon_l4_L : LoopI := ⟨([0, 3, 4], [(2, 0), (6, 0)]), ([0, 3], [(2, 0)]), i_echelon_l4_D⟩
noncomputable def i_echelon_A : List (Nat × LoopI) := [(10, i_echelon_l10_L), (4, i_echelon_l4_L)]
set_option maxRecDepth 100000 in
theorem i_echelon_l10_step : ∀ (h10_0_0 : Int) (h10_0_1 : Int) (h10_0_4 : Int) (x : (Int × (List Int))) (c : St → Option (Ex × St)), den i_echelon_V i_echelon_A (loopAt i_echelon_b 1) (i_echelon_l10_mk h10_0_0 h10_0_1 h10_0_4 x) (roundK i_echelon_l10_L.kp i_echelon_l10_L.kx c) = (i_echelon_l10 h10_0_0 h10_0_1 h10_0_4 x).run (roundR (i_echelon_l10_mk h10_0_0 h10_0_1 h10_0_4) (i_echelon_l10_out h10_0_0 h10_0_1 h10_0_4) c) := fun _ _ _ _ _ => by
  kernel_rfl
theorem i_echelon_l10_ok : LoopOK i_echelon_V i_echelon_A (loopAt i_echelon_b 1) i_echelon_l10_L := loopOK_of fun s e s' h => by
  generalize hs : restrict i_echelon_l10_L.kp s = s1 at h
  have h : (i_echelon_l10_D s1).run some = some (e, s') := h
  obtain ⟨e1, h_0⟩ := asRef_spec h
  obtain ⟨d3, e2, h_1⟩ := asImmZ_spec h_0
  obtain ⟨e4, h_2⟩ := asPtr_spec h_1
  obtain ⟨d6, e5, h_3⟩ := asImmZ_spec h_2
  obtain ⟨d8, e7, h_4⟩ := asImmZ_spec h_3
  obtain ⟨m10, d11, e9, h_5⟩ := asRoot_spec h_4
  obtain ⟨rfl, h_6⟩ := asM_spec h_5
  obtain ⟨m13, d14, e12, h_7⟩ := asRoot_spec h_6
  obtain ⟨rfl, h_8⟩ := asM_spec h_7
  obtain ⟨y, hy, hz⟩ := mat_ret h_8
  refine ⟨_, _, i_echelon_l10_mk d3 d6 d14, i_echelon_l10_out d3 d6 d14, i_echelon_l10 d3 d6 d14, (d8, d11), y, ?_, hy, ?_, i_echelon_l10_step d3 d6 d14⟩
  · subst hs; exact restrict_eq (T := [(0, (.ref (2, 0) [])), (3, (.imm true (.int .i64) d3)), (4, (.ptr (6, 0) [])), (45, (.imm true (.int .i64) d6)), (46, (.imm true (.int .i64) d8))]) (U := [((2, 0), some ⟨false, (.sl (.int .i64)), .own, d11⟩), ((6, 0), some ⟨true, (.int .i64), .own, d14⟩)]) rfl rfl ⟨e1, e2, e4, e5, e7, trivial⟩ ⟨e9, e12, trivial⟩
  · exact Option.some.inj hz
set_option maxRecDepth 100000 in
theorem i_echelon_l4_step : ∀ (x : (Int × (List Int) × Int)) (c : St → Option (Ex × St)), den i_echelon_V i_echelon_A (loopAt i_echelon_b 0) (i_echelon_l4_mk x) (roundK i_echelon_l4_L.kp i_echelon_l4_L.kx c) = (i_echelon_l4 x).run (roundR (i_echelon_l4_mk) (i_echelon_l4_out) c) := fun _ _ => by
  kernel_rfl
theorem i_echelon_l4_ok : LoopOK i_echelon_V i_echelon_A (loopAt i_echelon_b 0) i_echelon_l4_L := loopOK_of fun s e s' h => by
  generalize hs : restrict i_echelon_l4_L.kp s = s1 at h
  have h : (i_echelon_l4_D s1).run some = some (e, s') := h
  obtain ⟨e1, h_0⟩ := asRef_spec h
  obtain ⟨d3, e2, h_1⟩ := asImmZ_spec h_0
  obtain ⟨e4, h_2⟩ := asPtr_spec h_1
  obtain ⟨m6, d7, e5, h_3⟩ := asRoot_spec h_2
  obtain ⟨rfl, h_4⟩ := asM_spec h_3
  obtain ⟨m9, d10, e8, h_5⟩ := asRoot_spec h_4
  obtain ⟨rfl, h_6⟩ := asM_spec h_5
  obtain ⟨y, hy, hz⟩ := mat_ret h_6
  refine ⟨_, _, i_echelon_l4_mk, i_echelon_l4_out, i_echelon_l4, (d3, d7, d10), y, ?_, hy, ?_, i_echelon_l4_step⟩
  · subst hs; exact restrict_eq (T := [(0, (.ref (2, 0) [])), (3, (.imm true (.int .i64) d3)), (4, (.ptr (6, 0) []))]) (U := [((2, 0), some ⟨false, (.sl (.int .i64)), .own, d7⟩), ((6, 0), some ⟨true, (.int .i64), .own, d10⟩)]) rfl rfl ⟨e1, e2, e4, trivial⟩ ⟨e5, e8, trivial⟩
  · exact Option.some.inj hz
noncomputable def i_echelon_I : FnI := ⟨i_echelon_b, Try.f82.results.toList, Try.f82.resultTypes.toList, i_echelon_A⟩
noncomputable def i_echelon_out (_zp0 : Bool) (_p0 : (List Int)) : (List Int) → CallOut := fun r => ⟨(.ref (1, 0) []), [], [⟨false, (.sl (.int .i64)), .own, r⟩]⟩
set_option maxRecDepth 100000 in
theorem i_echelon_eq : ∀ (zp0 : Bool) (p0 : (List Int)), denFn i_echelon_V i_echelon_I ⟨[(.imm zp0 (.sl (.int .i64)) p0)], []⟩ = (i_echelon p0).run fun r => some (i_echelon_out zp0 p0 r) := fun _ _ => by kernel_rfl
noncomputable def i_echelon_G (av : List AV) (rs : List Root) : Tre CallOut :=
  asCons av fun a0_ av0 =>
  asEnd av0 <|
  asEnd rs <|
  asImm (.sl (.int .i64)) a0_ fun z2 d1 =>
  .mat (echA d1) fun r => .ret (i_echelon_out z2 d1 r)
noncomputable def i_echelon_c : Ctr := ⟨[], fun ci => i_echelon_G ci.args ci.roots⟩
theorem i_echelon_env : EnvOK Try.prog i_echelon_V := (envOK_cons slices_Clone_int64_ok ent45 (envOK_cons slices_IndexFunc_int64_i_echelonc1_ok ent98 envOK_nil))
set_option maxRecDepth 100000 in
theorem i_echelon_ok : Contract Try.prog 82 i_echelon_c := by
  have hl : LoopsOK i_echelon_V i_echelon_A i_echelon_b := (loopsOK_all (n := 2) (by kernel_rfl) fun k hk => by
      match k, hk with
      | 0, _ => exact loopOK_at (id := 4) (L := i_echelon_l4_L) (by kernel_rfl) (by kernel_rfl) i_echelon_l4_ok
      | 1, _ => exact loopOK_at (id := 10) (L := i_echelon_l10_L) (by kernel_rfl) (by kernel_rfl) i_echelon_l10_ok)
  refine (contract_of (F := i_echelon_I) tau_tys i_echelon_env Try.func82 (by kernel_rfl) (by kernel_rfl) (by kernel_rfl) hl []).weaken ?_
  rintro ⟨av, rs⟩ co h
  have h : (i_echelon_G av rs).run some = some co := h
  obtain ⟨a0_, av0, rfl, h_0⟩ := asCons_spec h
  obtain ⟨rfl, h_1⟩ := asEnd_spec h_0
  obtain ⟨rfl, h_2⟩ := asEnd_spec h_1
  obtain ⟨z2, d1, rfl, h_3⟩ := asImm_spec h_2
  exact fin_opt (i_echelon_eq z2 d1) (i_echelon_spec d1) h_3

end Go.Proofs.Ytddaclhjnkimfaa

namespace Go.Proofs.Ytddaclhjnkimfaa
open Go Go.Abs Go.Proofs

/-! function 120: loop.example/g01144/impl.areIndependent -/
noncomputable def i_areIndependent (p0 : (List Int)) : Tre Bool :=
  .mat (echA p0) fun r1 =>
  .ret (decide ((r1.length : Int) = (p0.length : Int)))
noncomputable def i_areIndependent_F (p0 : (List Int)) : Option Bool := (i_areIndependent p0).run some
noncomputable def indR (xs : List Int) : Option Bool := askO (okRows 62 xs) (decide (((echI xs).length : Int) = (xs.length : Int)))
theorem i_areIndependent_spec (p0 : List Int) (y : Bool) (h : indR p0 = some y) : i_areIndependent_F p0 = some y := by
  obtain ⟨hok, rfl⟩ := askO_some h
  unfold i_areIndependent_F i_areIndependent
  rw [run_some_mat (show echA p0 = some _ from askO_true hok)]
  rfl

noncomputable def i_areIndependent_V : Env := ⟨tau, [(82, i_echelon_c)], []⟩
noncomputable def i_areIndependent_b : Code := (Try.f120.body).getD .skip
noncomputable def i_areIndependent_I : FnI := ⟨i_areIndependent_b, Try.f120.results.toList, Try.f120.resultTypes.toList, []⟩
noncomputable def i_areIndependent_out (_zp0 : Bool) (_p0 : (List Int)) : Bool → CallOut := fun r => ⟨(.imm true .bool r), [], []⟩
set_option maxRecDepth 100000 in
theorem i_areIndependent_eq : ∀ (zp0 : Bool) (p0 : (List Int)), denFn i_areIndependent_V i_areIndependent_I ⟨[(.imm zp0 (.sl (.int .i64)) p0)], []⟩ = (i_areIndependent p0).run fun r => some (i_areIndependent_out zp0 p0 r) := fun _ _ => by kernel_rfl
noncomputable def i_areIndependent_G (av : List AV) (rs : List Root) : Tre CallOut :=
  asCons av fun a0_ av0 =>
  asEnd av0 <|
  asEnd rs <|
  asImm (.sl (.int .i64)) a0_ fun z2 d1 =>
  .mat (indR d1) fun r => .ret (i_areIndependent_out z2 d1 r)
noncomputable def i_areIndependent_c : Ctr := ⟨[], fun ci => i_areIndependent_G ci.args ci.roots⟩
theorem i_areIndependent_env : EnvOK Try.prog i_areIndependent_V := (envOK_cons i_echelon_ok ent82 envOK_nil)
set_option maxRecDepth 100000 in
theorem i_areIndependent_ok : Contract Try.prog 120 i_areIndependent_c := by
  have hl : LoopsOK i_areIndependent_V [] i_areIndependent_b := loopsOK_nil (by kernel_rfl)
  refine (contract_of (F := i_areIndependent_I) tau_tys i_areIndependent_env Try.func120 (by kernel_rfl) (by kernel_rfl) (by kernel_rfl) hl []).weaken ?_
  rintro ⟨av, rs⟩ co h
  have h : (i_areIndependent_G av rs).run some = some co := h
  obtain ⟨a0_, av0, rfl, h_0⟩ := asCons_spec h
  obtain ⟨rfl, h_1⟩ := asEnd_spec h_0
  obtain ⟨rfl, h_2⟩ := asEnd_spec h_1
  obtain ⟨z2, d1, rfl, h_3⟩ := asImm_spec h_2
  exact fin_opt (i_areIndependent_eq z2 d1) (i_areIndependent_spec d1) h_3

end Go.Proofs.Ytddaclhjnkimfaa

namespace Go.Proofs.Ytddaclhjnkimfaa
open Go Go.Abs Go.Proofs

/-! function 118: (*loop.example/g01144/impl.works).comeIn -/
noncomputable def i_works_comeIn_8e25 (p0 : (Int × (Int × Unit))) (p1 : (((List ((List Int) × ((List Int) × Unit))) × ((List (Int × (Int × Unit))) × Unit)) × ((Int × (Int × ((List Int) × (Int × (Int × Unit))))) × Unit))) : Tre (((List ((List Int) × ((List Int) × Unit))) × ((List (Int × (Int × Unit))) × Unit)) × ((Int × (Int × ((List Int) × (Int × (Int × Unit))))) × Unit)) :=
  .ite (0 ≤ p0.1 ∧ p0.1 < (p1.1.1.length : Int)) <|
  .mat (p1.1.1[p0.1.toNat]?) fun _ =>
  .mat (p1.1.1[p0.1.toNat]?) fun x2 =>
  .mat (cloneR x2.1) fun r3 =>
  .ite ((r3.length + 1) * 8 ≤ appendMax ∧ 1 ≤ 8) <|
  .mat (indR (r3 ++ ([p0.2.1]))) fun r4 =>
  .cond r4
    (.mat (p1.1.1[p0.1.toNat]?) fun x5 =>
    let v6 := p1.1.1.set p0.1.toNat (r3 ++ ([p0.2.1]), x5.2)
    .ret ((v6, p1.1.2), p1.2))
    (.ret p1)
noncomputable def i_works_comeIn_8e25_F (p0 : (Int × (Int × Unit))) (p1 : (((List ((List Int) × ((List Int) × Unit))) × ((List (Int × (Int × Unit))) × Unit)) × ((Int × (Int × ((List Int) × (Int × (Int × Unit))))) × Unit))) : Option (((List ((List Int) × ((List Int) × Unit))) × ((List (Int × (Int × Unit))) × Unit)) × ((Int × (Int × ((List Int) × (Int × (Int × Unit))))) × Unit)) := (i_works_comeIn_8e25 p0 p1).run some
noncomputable def comeI (x : Int × Int × Unit) (p : P8 × (G8 × Unit)) : Option (P8 × (G8 × Unit)) := askO (isG p.2.1 && okX p.2.1 x && okP 1000 p.2.1 p.1) ((comeM x p.1.1, p.1.2), p.2)
theorem i_works_comeIn_8e25_spec (p0 : Int × Int × Unit) (p1 : P8 × (G8 × Unit)) (y : P8 × (G8 × Unit)) (h : comeI p0 p1 = some y) : i_works_comeIn_8e25_F p0 p1 = some y := by
  obtain ⟨hok, rfl⟩ := askO_some h
  simp only [Bool.and_eq_true] at hok
  obtain ⟨⟨hg, hx⟩, hp⟩ := hok
  obtain ⟨l1, l2, l3, l4⟩ := okP_spec hp
  unfold okX at hx
  rw [Bool.and_eq_true, inR_iff] at hx
  obtain ⟨⟨x0, x1⟩, hr⟩ := hx
  obtain ⟨⟨st, wi, ⟨⟩⟩, ⟨g, ⟨⟩⟩⟩ := p1
  obtain ⟨t, r, ⟨⟩⟩ := p0
  simp only at *
  obtain ⟨i, rfl⟩ := Int.eq_ofNat_of_zero_le x0
  have hi : i < st.length := by omega
  obtain ⟨s, hs⟩ : ∃ s, st[i]? = some s := ⟨_, List.getElem?_eq_getElem hi⟩
  have hs1 := (l2 s (List.mem_of_getElem? hs)).1
  have hlen := (okS_spec.1 hs1).1
  unfold i_works_comeIn_8e25_F i_works_comeIn_8e25 comeM
  simp only [Int.toNat_natCast, hs]
  rw [Tre.run_ite, if_pos ⟨x0, by omega⟩, run_some_mat rfl, run_some_mat rfl, run_some_mat (show cloneR s.1 = some s.1 from lim_of (by omega)), Tre.run_ite, if_pos (by unfold appendMax; omega)]
  rw [run_some_mat (show indR (s.1 ++ [r]) = some _ from askO_true (okS_rows (okS_add hs1 hr) (by omega) (by have := (colsG_le hg).1; omega))), Tre.run_cond]
  cases decide (((echI (s.1 ++ [r])).length : Int) = ((s.1 ++ [r]).length : Int))
  · rfl
  · rw [cond_true, cond_true, run_some_mat rfl]; rfl

noncomputable def i_works_comeIn_8e25_V : Env := ⟨tau, [(45, slices_Clone_int64_c), (120, i_areIndependent_c)], []⟩
noncomputable def i_works_comeIn_8e25_b : Code := (Try.f118.body).getD .skip
noncomputable def i_works_comeIn_8e25_I : FnI := ⟨i_works_comeIn_8e25_b, Try.f118.results.toList, Try.f118.resultTypes.toList, []⟩
noncomputable def i_works_comeIn_8e25_out (zp0 : Bool) (_p0 : (Int × (Int × Unit))) (_p1 : (((List ((List Int) × ((List Int) × Unit))) × ((List (Int × (Int × Unit))) × Unit)) × ((Int × (Int × ((List Int) × (Int × (Int × Unit))))) × Unit))) : (((List ((List Int) × ((List Int) × Unit))) × ((List (Int × (Int × Unit))) × Unit)) × ((Int × (Int × ((List Int) × (Int × (Int × Unit))))) × Unit)) → CallOut := fun r => ⟨.tnil, [⟨true, kWorks, (.pair .own (.imm zp0)), r⟩], []⟩
set_option maxRecDepth 100000 in
theorem i_works_comeIn_8e25_eq : ∀ (zp0 : Bool) (p0 : (Int × (Int × Unit))) (p1 : (((List ((List Int) × ((List Int) × Unit))) × ((List (Int × (Int × Unit))) × Unit)) × ((Int × (Int × ((List Int) × (Int × (Int × Unit))))) × Unit))), denFn i_works_comeIn_8e25_V i_works_comeIn_8e25_I ⟨[(.ptr (0, 0) []), (.imm true kField p0)], [⟨true, kWorks, (.pair .own (.imm zp0)), p1⟩]⟩ = (i_works_comeIn_8e25 p0 p1).run fun r => some (i_works_comeIn_8e25_out zp0 p0 p1 r) := fun _ _ _ => by kernel_rfl
noncomputable def i_works_comeIn_8e25_G (av : List AV) (rs : List Root) : Tre CallOut :=
  asCons av fun a0_ av0 =>
  asCons av0 fun a1_ av1 =>
  asEnd av1 <|
  asCons rs fun r0_ rs0 =>
  asEnd rs0 <|
  asPtr (0, 0) [] a0_ <|
  asImmZ true kField a1_ fun d1 =>
  asRt true kWorks r0_ fun m2 d3 =>
  asMPair m2 fun m4 m5 =>
  asM .own m4 <|
  asMImm m5 fun z6 =>
  .mat (comeI d1 d3) fun r => .ret (i_works_comeIn_8e25_out z6 d1 d3 r)
noncomputable def i_works_comeIn_8e25_c : Ctr := ⟨[], fun ci => i_works_comeIn_8e25_G ci.args ci.roots⟩
theorem i_works_comeIn_8e25_env : EnvOK Try.prog i_works_comeIn_8e25_V := (envOK_cons slices_Clone_int64_ok ent45 (envOK_cons i_areIndependent_ok ent120 envOK_nil))
set_option maxRecDepth 100000 in
theorem i_works_comeIn_8e25_ok : Contract Try.prog 118 i_works_comeIn_8e25_c := by
  have hl : LoopsOK i_works_comeIn_8e25_V [] i_works_comeIn_8e25_b := loopsOK_nil (by kernel_rfl)
  refine (contract_of (F := i_works_comeIn_8e25_I) tau_tys i_works_comeIn_8e25_env Try.func118 (by kernel_rfl) (by kernel_rfl) (by kernel_rfl) hl []).weaken ?_
  rintro ⟨av, rs⟩ co h
  have h : (i_works_comeIn_8e25_G av rs).run some = some co := h
  obtain ⟨a0_, av0, rfl, h_0⟩ := asCons_spec h
  obtain ⟨a1_, av1, rfl, h_1⟩ := asCons_spec h_0
  obtain ⟨rfl, h_2⟩ := asEnd_spec h_1
  obtain ⟨r0_, rs0, rfl, h_3⟩ := asCons_spec h_2
  obtain ⟨rfl, h_4⟩ := asEnd_spec h_3
  obtain ⟨rfl, h_5⟩ := asPtr_spec h_4
  obtain ⟨d1, rfl, h_6⟩ := asImmZ_spec h_5
  obtain ⟨m2, d3, rfl, h_7⟩ := asRt_spec h_6
  obtain ⟨m4, m5, rfl, h_8⟩ := asMPair_spec h_7
  obtain ⟨rfl, h_9⟩ := asM_spec h_8
  obtain ⟨z6, rfl, h_10⟩ := asMImm_spec h_9
  exact fin_opt (i_works_comeIn_8e25_eq z6 d1 d3) (i_works_comeIn_8e25_spec d1 d3) h_10

end Go.Proofs.Ytddaclhjnkimfaa

namespace Go.Proofs.Ytddaclhjnkimfaa
open Go Go.Abs Go.Proofs

/-! function 117: slices.Delete[[]loop.example/g01144/impl.Parcel,loop.example/g01144/impl.Parcel]: by a walk -/
set_option maxHeartbeats 4000000 in
set_option maxRecDepth 1000000 in
theorem slices_Delete_Parcel_bee3_walk : DelWalk Try.prog 117 2 := by
  intro w b off n cap i j cs T hcs hn hsz hij hjn hone
  have hic : i ≤ cap := by omega
  have hjc : j ≤ cap := by omega
  obtain ⟨news, hnews⟩ : ∃ news, news = Go.Abs.sub cs (off + j * 2) ((n - j) * 2) := ⟨_, rfl⟩
  have hlen : news.length = (n - j) * 2 := by rw [hnews]; exact sub_length (by omega)
  obtain ⟨A, hA, hfc⟩ := cut_src (P := Try.prog) (sz := 2) hcs hjn hn hsz hnews
  have hone' : ∀ v ∈ news, v.oneCell' = true := cut_one hnews hone
  obtain ⟨W1, hW1⟩ : ∃ W1, W1 = w.drew.setRow b (updCells cs (off + i * 2) news) := ⟨_, rfl⟩
  have hst : (storeCells ⟨b, off + i * 2, none⟩ news).run Try.prog w.drew = .ok () W1 := by
    have := run_storeCells_at Try.prog b (off + i * 2) T news 0 cs w.drew hcs (by rw [hlen]; omega) hone'
    rw [hW1]; exact this
  have hcs1 : W1.heap[b]? = some (.cells (updCells cs (off + i * 2) news) T (0, 0)) := by rw [hW1]; exact setRow_heap w.drew b cs _ T _ hcs
  have hsz1 : (updCells cs (off + i * 2) news).size = cs.size := updCells_size (by rw [hlen]; omega)
  have hcl : ∀ ty, (Builtin.clear_ #[49] ty #[.slice (some ⟨b, off + (i + (n - j)) * 2, none⟩) (n - (i + (n - j))) (cap - (i + (n - j)))]).run Try.prog W1 = .ok (.tuple #[]) (W1.setRow b (updCells (updCells cs (off + i * 2) news) (off + (i + (n - j)) * 2) (Builtin.zeroCells (Value.agg #[.int .i64 0, .int .i64 0]).cells (n - (i + (n - j)))).toList)) :=
    fun ty => run_clear_row (e := 108) (by kernel_rfl) (fun w => by kernel_rfl) (by omega) (by simp [Value.cells]; intros; rfl) hcs1 (by rw [hsz1]; show _ + _ * 2 ≤ _; omega)
  have hinf : (Try.prog.info? 108).map (·.size) = some 2 := by kernel_rfl
  obtain ⟨i0, hi0, hi2⟩ := Option.map_eq_some_iff.1 hinf
  have t0 : Try.prog.underlying 49 = some (.slice 108) := by kernel_rfl
  have X : Shut (W1 = w.drew.setRow b (updCells cs (off + i * 2) news)) := ⟨hW1⟩
  have Y : Shut (news = Go.Abs.sub cs (off + j * 2) ((n - j) * 2)) := ⟨hnews⟩
  have hl : i + (n - j) ≤ n := by omega
  have hl2 : ¬ (cap = i + (n - j)) := by omega
  clear hW1 hcs1 hcs hone hnews
  go_enter Try.func117, (show Try.f117.ntmps = 33 from rfl)
  go_wp2
  go_region_law (refine step_append_row rfl (.tmp 22) (.tmp 25) 49 rfl 108 i0 2 t0 hi0 hi2 b off i cap (by simp [Act.eval, Act.put]) A (n - j) (cap - j) news (by simp [Act.eval, Act.put]) (hfc _ rfl) (by omega) hst ?_)
  all_goals go_wp2
  all_goals (go_ret; refine ⟨rfl, w.drew, (Builtin.zeroCells (Value.agg #[.int .i64 0, .int .i64 0]).cells (n - (i + (n - j)))).toList, rfl, rfl, rfl, rfl, ?_, ?_⟩)
  all_goals first
    | (rw [X.out, setRow_setRow, Y.out]; rfl)
    | (simp only [Builtin.zeroCells, Array.toList_map, List.length_map, Array.toList_range, List.length_range]; show (n - (i + (n - j))) * 2 = (j - i) * 2; omega)
noncomputable def slices_Delete_Parcel_bee3_G (av : List AV) (rs : List Root) : Tre CallOut :=
  asCons av fun a0_ av0 =>
  asCons av0 fun a1_ av1 =>
  asCons av1 fun a2_ av2 =>
  asEnd av2 <|
  asCons rs fun r0_ rs0 =>
  asEnd rs0 <|
  asRef (0, 0) [.fst, .snd, .fst] a0_ <|
  asImmZ true (.int .i64) a1_ fun d1 =>
  asImmZ true (.int .i64) a2_ fun d2 =>
  asRt true kWorks r0_ fun m3 d4 =>
  asMPair m3 fun m5 m6 =>
  asM .own m5 <|
  asMImm m6 fun z7 =>
  .ite (0 ≤ d1 ∧ d1 < d2 ∧ d2 ≤ (d4.1.2.1.length : Int)) (.ret ⟨.ref (1, 0) [], [⟨true, kWorks, (.pair (.pair .own (.pair .gone .own)) (.imm z7)), ((d4.1.1, ([], d4.1.2.2)), d4.2)⟩], [⟨false, (.sl kField), .own, d4.1.2.1.take d1.toNat ++ d4.1.2.1.drop d2.toNat⟩]⟩)
noncomputable def slices_Delete_Parcel_bee3_c : Ctr := ⟨[0], fun ci => slices_Delete_Parcel_bee3_G ci.args ci.roots⟩
set_option maxRecDepth 100000 in
theorem slices_Delete_Parcel_bee3_ok : Contract Try.prog 117 slices_Delete_Parcel_bee3_c := by
  refine (delete_ok (e := kField) (by kernel_rfl) (by kernel_rfl) slices_Delete_Parcel_bee3_walk).weaken ?_
  rintro ⟨av, rs⟩ co h
  have h : (slices_Delete_Parcel_bee3_G av rs).run some = some co := h
  obtain ⟨a0_, av0, rfl, h_0⟩ := asCons_spec h
  obtain ⟨a1_, av1, rfl, h_1⟩ := asCons_spec h_0
  obtain ⟨a2_, av2, rfl, h_2⟩ := asCons_spec h_1
  obtain ⟨rfl, h_3⟩ := asEnd_spec h_2
  obtain ⟨r0_, rs0, rfl, h_4⟩ := asCons_spec h_3
  obtain ⟨rfl, h_5⟩ := asEnd_spec h_4
  obtain ⟨rfl, h_6⟩ := asRef_spec h_5
  obtain ⟨d1, rfl, h_7⟩ := asImmZ_spec h_6
  obtain ⟨d2, rfl, h_8⟩ := asImmZ_spec h_7
  obtain ⟨m3, d4, rfl, h_9⟩ := asRt_spec h_8
  obtain ⟨m5, m6, rfl, h_10⟩ := asMPair_spec h_9
  obtain ⟨rfl, h_11⟩ := asM_spec h_10
  obtain ⟨z7, rfl, h_12⟩ := asMImm_spec h_11
  exact h_12

end Go.Proofs.Ytddaclhjnkimfaa

namespace Go.Proofs.Ytddaclhjnkimfaa
open Go Go.Abs Go.Proofs

/-! function 105: (*loop.example/g01144/impl.works).handle -/
noncomputable def i_works_handle_ba03 (p0 : (Int × (Int × (Int × (Int × Unit))))) (p1 : (((List ((List Int) × ((List Int) × Unit))) × ((List (Int × (Int × Unit))) × Unit)) × ((Int × (Int × ((List Int) × (Int × (Int × Unit))))) × Unit))) : Tre (Int × (((List ((List Int) × ((List Int) × Unit))) × ((List (Int × (Int × Unit))) × Unit)) × ((Int × (Int × ((List Int) × (Int × (Int × Unit))))) × Unit))) :=
  .cond (decide (p0.2.1 ≥ (p1.1.2.1.length : Int)))
    (.ret (2, p1))
    (.cond (decide (p0.1 = 5))
      (.cond (decide (p0.2.2.1 = 0))
        (.ret (2, p1))
        (let v1 := iwrap .i64 (p1.2.1.1 + p1.2.1.2.1)
        .ite (0 ≤ v1) <|
        .cond (decide (p0.2.2.1 ≥ ishl .i64 1 v1))
          (.ret (2, p1))
          (.ite (0 ≤ p0.2.1 ∧ p0.2.1 < (p1.1.2.1.length : Int)) <|
          .mat (p1.1.2.1[p0.2.1.toNat]?) fun x2 =>
          .cond (decide (p0.1 = 5))
            (.ite (0 ≤ p0.2.1 ∧ p0.2.1 < (p1.1.2.1.length : Int)) <|
            .mat (p1.1.2.1[p0.2.1.toNat]?) fun x3 =>
            let v4 := ixor .i64 x3.2.1 p0.2.2.1
            .ite (0 ≤ p0.2.1 ∧ p0.2.1 < (p1.1.2.1.length : Int)) <|
            .mat (p1.1.2.1[p0.2.1.toNat]?) fun x5 =>
            let v6 := p1.1.2.1.set p0.2.1.toNat (x5.1, (v4, x5.2.2))
            .cond (decide (p0.1 = 2))
              (.mat (comeI x2 ((p1.1.1, (v6, p1.1.2.2)), p1.2)) fun r7 =>
              .ret (0, r7))
              (.cond (decide (p0.1 = 3))
                (.mat (comeI x2 ((p1.1.1, (v6, p1.1.2.2)), p1.2)) fun r8 =>
                .ret (0, r8))
                (.ret (0, ((p1.1.1, (v6, p1.1.2.2)), p1.2)))))
            (.cond (decide (p0.1 = 2))
              (.cond (decide (p0.1 = 2))
                (.ite (0 ≤ p0.2.1 ∧ p0.2.1 < iwrap .i64 (p0.2.1 + 1) ∧ iwrap .i64 (p0.2.1 + 1) ≤ (p1.1.2.1.length : Int)) <|
                .cond (decide (p0.1 = 2))
                  (.mat (comeI x2 ((p1.1.1, (p1.1.2.1.take p0.2.1.toNat ++ p1.1.2.1.drop (iwrap .i64 (p0.2.1 + 1)).toNat, p1.1.2.2)), p1.2)) fun r9 =>
                  .ret (0, r9))
                  (.cond (decide (p0.1 = 3))
                    (.mat (comeI x2 ((p1.1.1, (p1.1.2.1.take p0.2.1.toNat ++ p1.1.2.1.drop (iwrap .i64 (p0.2.1 + 1)).toNat, p1.1.2.2)), p1.2)) fun r10 =>
                    .ret (0, r10))
                    (.ret (0, ((p1.1.1, (p1.1.2.1.take p0.2.1.toNat ++ p1.1.2.1.drop (iwrap .i64 (p0.2.1 + 1)).toNat, p1.1.2.2)), p1.2)))))
                (.cond (decide (p0.1 = 2))
                  (.mat (comeI x2 p1) fun r11 =>
                  .ret (0, r11))
                  (.cond (decide (p0.1 = 3))
                    (.mat (comeI x2 p1) fun r12 =>
                    .ret (0, r12))
                    (.ret (0, p1)))))
              (.cond (decide (p0.1 = 4))
                (.ite (0 ≤ p0.2.1 ∧ p0.2.1 < iwrap .i64 (p0.2.1 + 1) ∧ iwrap .i64 (p0.2.1 + 1) ≤ (p1.1.2.1.length : Int)) <|
                .cond (decide (p0.1 = 2))
                  (.mat (comeI x2 ((p1.1.1, (p1.1.2.1.take p0.2.1.toNat ++ p1.1.2.1.drop (iwrap .i64 (p0.2.1 + 1)).toNat, p1.1.2.2)), p1.2)) fun r13 =>
                  .ret (0, r13))
                  (.cond (decide (p0.1 = 3))
                    (.mat (comeI x2 ((p1.1.1, (p1.1.2.1.take p0.2.1.toNat ++ p1.1.2.1.drop (iwrap .i64 (p0.2.1 + 1)).toNat, p1.1.2.2)), p1.2)) fun r14 =>
                    .ret (0, r14))
                    (.ret (0, ((p1.1.1, (p1.1.2.1.take p0.2.1.toNat ++ p1.1.2.1.drop (iwrap .i64 (p0.2.1 + 1)).toNat, p1.1.2.2)), p1.2)))))
                (.cond (decide (p0.1 = 2))
                  (.mat (comeI x2 p1) fun r15 =>
                  .ret (0, r15))
                  (.cond (decide (p0.1 = 3))
                    (.mat (comeI x2 p1) fun r16 =>
                    .ret (0, r16))
                    (.ret (0, p1)))))))))
      (.ite (0 ≤ p0.2.1 ∧ p0.2.1 < (p1.1.2.1.length : Int)) <|
      .mat (p1.1.2.1[p0.2.1.toNat]?) fun x17 =>
      .cond (decide (p0.1 = 5))
        (.ite (0 ≤ p0.2.1 ∧ p0.2.1 < (p1.1.2.1.length : Int)) <|
        .mat (p1.1.2.1[p0.2.1.toNat]?) fun x18 =>
        let v19 := ixor .i64 x18.2.1 p0.2.2.1
        .ite (0 ≤ p0.2.1 ∧ p0.2.1 < (p1.1.2.1.length : Int)) <|
        .mat (p1.1.2.1[p0.2.1.toNat]?) fun x20 =>
        let v21 := p1.1.2.1.set p0.2.1.toNat (x20.1, (v19, x20.2.2))
        .cond (decide (p0.1 = 2))
          (.mat (comeI x17 ((p1.1.1, (v21, p1.1.2.2)), p1.2)) fun r22 =>
          .ret (0, r22))
          (.cond (decide (p0.1 = 3))
            (.mat (comeI x17 ((p1.1.1, (v21, p1.1.2.2)), p1.2)) fun r23 =>
            .ret (0, r23))
            (.ret (0, ((p1.1.1, (v21, p1.1.2.2)), p1.2)))))
        (.cond (decide (p0.1 = 2))
          (.cond (decide (p0.1 = 2))
            (.ite (0 ≤ p0.2.1 ∧ p0.2.1 < iwrap .i64 (p0.2.1 + 1) ∧ iwrap .i64 (p0.2.1 + 1) ≤ (p1.1.2.1.length : Int)) <|
            .cond (decide (p0.1 = 2))
              (.mat (comeI x17 ((p1.1.1, (p1.1.2.1.take p0.2.1.toNat ++ p1.1.2.1.drop (iwrap .i64 (p0.2.1 + 1)).toNat, p1.1.2.2)), p1.2)) fun r24 =>
              .ret (0, r24))
              (.cond (decide (p0.1 = 3))
                (.mat (comeI x17 ((p1.1.1, (p1.1.2.1.take p0.2.1.toNat ++ p1.1.2.1.drop (iwrap .i64 (p0.2.1 + 1)).toNat, p1.1.2.2)), p1.2)) fun r25 =>
                .ret (0, r25))
                (.ret (0, ((p1.1.1, (p1.1.2.1.take p0.2.1.toNat ++ p1.1.2.1.drop (iwrap .i64 (p0.2.1 + 1)).toNat, p1.1.2.2)), p1.2)))))
            (.cond (decide (p0.1 = 2))
              (.mat (comeI x17 p1) fun r26 =>
              .ret (0, r26))
              (.cond (decide (p0.1 = 3))
                (.mat (comeI x17 p1) fun r27 =>
                .ret (0, r27))
                (.ret (0, p1)))))
          (.cond (decide (p0.1 = 4))
            (.ite (0 ≤ p0.2.1 ∧ p0.2.1 < iwrap .i64 (p0.2.1 + 1) ∧ iwrap .i64 (p0.2.1 + 1) ≤ (p1.1.2.1.length : Int)) <|
            .cond (decide (p0.1 = 2))
              (.mat (comeI x17 ((p1.1.1, (p1.1.2.1.take p0.2.1.toNat ++ p1.1.2.1.drop (iwrap .i64 (p0.2.1 + 1)).toNat, p1.1.2.2)), p1.2)) fun r28 =>
              .ret (0, r28))
              (.cond (decide (p0.1 = 3))
                (.mat (comeI x17 ((p1.1.1, (p1.1.2.1.take p0.2.1.toNat ++ p1.1.2.1.drop (iwrap .i64 (p0.2.1 + 1)).toNat, p1.1.2.2)), p1.2)) fun r29 =>
                .ret (0, r29))
                (.ret (0, ((p1.1.1, (p1.1.2.1.take p0.2.1.toNat ++ p1.1.2.1.drop (iwrap .i64 (p0.2.1 + 1)).toNat, p1.1.2.2)), p1.2)))))
            (.cond (decide (p0.1 = 2))
              (.mat (comeI x17 p1) fun r30 =>
              .ret (0, r30))
              (.cond (decide (p0.1 = 3))
                (.mat (comeI x17 p1) fun r31 =>
                .ret (0, r31))
                (.ret (0, p1))))))))
noncomputable def i_works_handle_ba03_F (p0 : (Int × (Int × (Int × (Int × Unit))))) (p1 : (((List ((List Int) × ((List Int) × Unit))) × ((List (Int × (Int × Unit))) × Unit)) × ((Int × (Int × ((List Int) × (Int × (Int × Unit))))) × Unit))) : Option (Int × (((List ((List Int) × ((List Int) × Unit))) × ((List (Int × (Int × Unit))) × Unit)) × ((Int × (Int × ((List Int) × (Int × (Int × Unit))))) × Unit))) := (i_works_handle_ba03 p0 p1).run some
noncomputable def handI (d : D8) (p : P8 × (G8 × Unit)) : Option (Int × (P8 × (G8 × Unit))) := askO (isG p.2.1 && vDeed d && inR d.1 2 5 && okP 1000 p.2.1 p.1) ((wireM p.2.1 d p.1).1, (wireM p.2.1 d p.1).2, p.2)
theorem okP_cut {k : Nat} {g : G8} {st : List (List Int × List Int × Unit)} {wi : List (Int × Int × Unit)} (i : Nat) (h : okP k g (st, wi, ()) = true) : okP k g (st, wi.take i ++ wi.drop (i + 1), ()) = true := by
  obtain ⟨l1, l2, l3, l4⟩ := okP_spec h
  refine okP_mk l1 l2 (by simp only [List.length_append, List.length_take, List.length_drop] at *; omega) (fun x hx => l4 x ?_)
  rcases List.mem_append.1 hx with hx | hx
  · exact List.mem_of_mem_take hx
  · exact List.mem_of_mem_drop hx
theorem i_works_handle_ba03_spec (p0 : D8) (p1 : P8 × (G8 × Unit)) (y : Int × (P8 × (G8 × Unit))) (h : handI p0 p1 = some y) : i_works_handle_ba03_F p0 p1 = some y := by
  obtain ⟨hok, rfl⟩ := askO_some h
  simp only [Bool.and_eq_true] at hok
  obtain ⟨⟨⟨hg, hd⟩, hk⟩, hp⟩ := hok
  obtain ⟨⟨a0, a1⟩, ⟨b0, b1⟩, ⟨c0, c1⟩, _⟩ := vDeed_rng hd
  have hp0 := hp
  obtain ⟨l1, l2, l3, l4⟩ := okP_spec hp
  obtain ⟨⟨st, wi, ⟨⟩⟩, ⟨g, ⟨⟩⟩⟩ := p1
  obtain ⟨kk, a, b, c, ⟨⟩⟩ := p0
  simp only at *
  have hc := colsG_le hg
  have hw : iwrap .i64 (g.1 + g.2.1) = (colsG g : Int) := by rw [hc.2]; have := isG_spec hg; exact iwrap_i64 (by omega) (by omega)
  unfold i_works_handle_ba03_F i_works_handle_ba03 wireM
  simp only
  by_cases h1 : a ≥ (wi.length : Int)
  · simp only [Tre.run_cond, decide_eq_true h1, cond_true, Tre.run_ret]
  obtain ⟨i, rfl⟩ := Int.eq_ofNat_of_zero_le a0
  have hi : i < wi.length := by omega
  obtain ⟨x, hx⟩ : ∃ x, wi[i]? = some x := ⟨_, List.getElem?_eq_getElem hi⟩
  have hxx : okX g x = true := okX_of hp0 hx
  have hcome : comeI x ((st, wi, ()), (g, ())) = some ((comeM x st, wi, ()), (g, ())) := askO_true (by rw [Bool.and_eq_true, Bool.and_eq_true]; exact ⟨⟨hg, hxx⟩, hp0⟩)
  have hcome2 : comeI x ((st, wi.take i ++ wi.drop (i + 1), ()), (g, ())) = some ((comeM x st, wi.take i ++ wi.drop (i + 1), ()), (g, ())) := askO_true (by rw [Bool.and_eq_true, Bool.and_eq_true]; exact ⟨⟨hg, hxx⟩, okP_cut i hp0⟩)
  have hi1 : iwrap .i64 ((i : Int) + 1) = ((i + 1 : Nat) : Int) := iwrap_succ (by omega)
  have hin : 0 ≤ (i : Int) ∧ (i : Int) < (wi.length : Int) := ⟨a0, by omega⟩
  have hdel : 0 ≤ (i : Int) ∧ (i : Int) < ((i + 1 : Nat) : Int) ∧ ((i + 1 : Nat) : Int) ≤ (wi.length : Int) := by omega
  have hk : kk = 2 ∨ kk = 3 ∨ kk = 4 ∨ kk = 5 := by rw [inR_iff] at hk; omega
  rw [Tre.run_cond, decide_eq_false h1, cond_false, cond_false]
  simp only [Int.toNat_natCast, hx, hi1, hw]
  rcases hk with rfl | rfl | rfl | rfl
  · rw [Tre.run_cond, show decide ((2 : Int) = 5) = false from rfl, show decide ((2 : Int) = 3) = false from rfl, show decide ((2 : Int) = 4) = false from rfl, show decide ((2 : Int) = 2) = true from rfl, cond_false, Tre.run_ite, if_pos hin, run_some_mat rfl, Tre.run_cond, cond_false, Tre.run_cond, cond_true, Tre.run_cond, cond_true, Tre.run_ite, if_pos hdel, Tre.run_cond, cond_true, run_some_mat hcome2]
    rfl
  · rw [Tre.run_cond, show decide ((3 : Int) = 5) = false from rfl, show decide ((3 : Int) = 2) = false from rfl, show decide ((3 : Int) = 4) = false from rfl, show decide ((3 : Int) = 3) = true from rfl, cond_false, Tre.run_ite, if_pos hin, run_some_mat rfl, Tre.run_cond, cond_false, Tre.run_cond, cond_false, Tre.run_cond, cond_false, Tre.run_cond, cond_false, Tre.run_cond, cond_true, run_some_mat hcome]
    rfl
  · rw [Tre.run_cond, show decide ((4 : Int) = 5) = false from rfl, show decide ((4 : Int) = 2) = false from rfl, show decide ((4 : Int) = 3) = false from rfl, show decide ((4 : Int) = 4) = true from rfl, cond_false, Tre.run_ite, if_pos hin, run_some_mat rfl, Tre.run_cond, cond_false, Tre.run_cond, cond_false, Tre.run_cond, cond_true, Tre.run_ite, if_pos hdel, Tre.run_cond, cond_false, Tre.run_cond, cond_false]
    rfl
  · rw [Tre.run_cond, show decide ((5 : Int) = 5) = true from rfl, show decide ((5 : Int) = 2) = false from rfl, show decide ((5 : Int) = 3) = false from rfl, cond_true, Tre.run_cond]
    by_cases hb : b = 0
    · simp only [decide_eq_true hb, cond_true, Tre.run_ret, Bool.true_or]
    · rw [decide_eq_false hb, cond_false, Tre.run_ite, if_pos (by omega), Tre.run_cond]
      cases decide (b ≥ ishl .i64 1 (colsG g : Int))
      · rw [cond_false, Tre.run_ite, if_pos hin, run_some_mat rfl, Tre.run_cond, cond_true, Tre.run_ite, if_pos hin, run_some_mat rfl]
        rw [Tre.run_ite, if_pos hin, run_some_mat rfl, Tre.run_cond, cond_false, Tre.run_cond, cond_false]
        rfl
      · rfl

noncomputable def i_works_handle_ba03_V : Env := ⟨tau, [(116, i_size_Parcel_c), (118, i_works_comeIn_8e25_c), (117, slices_Delete_Parcel_bee3_c)], []⟩
noncomputable def i_works_handle_ba03_b : Code := (Try.f105.body).getD .skip
noncomputable def i_works_handle_ba03_I : FnI := ⟨i_works_handle_ba03_b, Try.f105.results.toList, Try.f105.resultTypes.toList, []⟩
noncomputable def i_works_handle_ba03_out (zp0 : Bool) (_p0 : (Int × (Int × (Int × (Int × Unit))))) (_p1 : (((List ((List Int) × ((List Int) × Unit))) × ((List (Int × (Int × Unit))) × Unit)) × ((Int × (Int × ((List Int) × (Int × (Int × Unit))))) × Unit))) : (Int × (((List ((List Int) × ((List Int) × Unit))) × ((List (Int × (Int × Unit))) × Unit)) × ((Int × (Int × ((List Int) × (Int × (Int × Unit))))) × Unit))) → CallOut := fun r => ⟨(.imm true (.int .i64) r.1), [⟨true, kWorks, (.pair .own (.imm zp0)), r.2⟩], []⟩
set_option maxRecDepth 100000 in
theorem i_works_handle_ba03_eq : ∀ (zp0 : Bool) (p0 : (Int × (Int × (Int × (Int × Unit))))) (p1 : (((List ((List Int) × ((List Int) × Unit))) × ((List (Int × (Int × Unit))) × Unit)) × ((Int × (Int × ((List Int) × (Int × (Int × Unit))))) × Unit))), denFn i_works_handle_ba03_V i_works_handle_ba03_I ⟨[(.ptr (0, 0) []), (.imm true kDeed p0)], [⟨true, kWorks, (.pair .own (.imm zp0)), p1⟩]⟩ = (i_works_handle_ba03 p0 p1).run fun r => some (i_works_handle_ba03_out zp0 p0 p1 r) := fun _ _ _ => by kernel_rfl
noncomputable def i_works_handle_ba03_G (av : List AV) (rs : List Root) : Tre CallOut :=
  asCons av fun a0_ av0 =>
  asCons av0 fun a1_ av1 =>
  asEnd av1 <|
  asCons rs fun r0_ rs0 =>
  asEnd rs0 <|
  asPtr (0, 0) [] a0_ <|
  asImmZ true kDeed a1_ fun d1 =>
  asRt true kWorks r0_ fun m2 d3 =>
  asMPair m2 fun m4 m5 =>
  asM .own m4 <|
  asMImm m5 fun z6 =>
  .mat (handI d1 d3) fun r => .ret (i_works_handle_ba03_out z6 d1 d3 r)
noncomputable def i_works_handle_ba03_c : Ctr := ⟨[], fun ci => i_works_handle_ba03_G ci.args ci.roots⟩
theorem i_works_handle_ba03_env : EnvOK Try.prog i_works_handle_ba03_V := (envOK_cons i_size_Parcel_ok ent116 (envOK_cons i_works_comeIn_8e25_ok ent118 (envOK_cons slices_Delete_Parcel_bee3_ok ent117 envOK_nil)))
set_option maxRecDepth 100000 in
theorem i_works_handle_ba03_ok : Contract Try.prog 105 i_works_handle_ba03_c := by
  have hl : LoopsOK i_works_handle_ba03_V [] i_works_handle_ba03_b := loopsOK_nil (by kernel_rfl)
  refine (contract_of (F := i_works_handle_ba03_I) tau_tys i_works_handle_ba03_env Try.func105 (by kernel_rfl) (by kernel_rfl) (by kernel_rfl) hl []).weaken ?_
  rintro ⟨av, rs⟩ co h
  have h : (i_works_handle_ba03_G av rs).run some = some co := h
  obtain ⟨a0_, av0, rfl, h_0⟩ := asCons_spec h
  obtain ⟨a1_, av1, rfl, h_1⟩ := asCons_spec h_0
  obtain ⟨rfl, h_2⟩ := asEnd_spec h_1
  obtain ⟨r0_, rs0, rfl, h_3⟩ := asCons_spec h_2
  obtain ⟨rfl, h_4⟩ := asEnd_spec h_3
  obtain ⟨rfl, h_5⟩ := asPtr_spec h_4
  obtain ⟨d1, rfl, h_6⟩ := asImmZ_spec h_5
  obtain ⟨m2, d3, rfl, h_7⟩ := asRt_spec h_6
  obtain ⟨m4, m5, rfl, h_8⟩ := asMPair_spec h_7
  obtain ⟨rfl, h_9⟩ := asM_spec h_8
  obtain ⟨z6, rfl, h_10⟩ := asMImm_spec h_9
  exact fin_opt (i_works_handle_ba03_eq z6 d1 d3) (i_works_handle_ba03_spec d1 d3) h_10

end Go.Proofs.Ytddaclhjnkimfaa

namespace Go.Proofs.Ytddaclhjnkimfaa
open Go Go.Abs Go.Proofs

/-! function 80: (*loop.example/g01144/impl.works).do -/
noncomputable def i_works_do_ba03 (p0 : (Int × (Int × (Int × (Int × Unit))))) (p1 : (((List ((List Int) × ((List Int) × Unit))) × ((List (Int × (Int × Unit))) × Unit)) × ((Int × (Int × ((List Int) × (Int × (Int × Unit))))) × Unit))) : Tre (Int × (((List ((List Int) × ((List Int) × Unit))) × ((List (Int × (Int × Unit))) × Unit)) × ((Int × (Int × ((List Int) × (Int × (Int × Unit))))) × Unit))) :=
  .cond (decide (p0.1 = 1))
    (.mat (sendI p0 p1) fun r1 =>
    .ret (r1.1, r1.2))
    (.cond (decide (p0.1 = 2))
      (.cond (decide (p0.1 = 2))
        (.mat (handI p0 p1) fun r2 =>
        .ret (r2.1, r2.2))
        (let v3 := i_Gather_isStation_S p1.2.1 p0.2.1
        .cond (!v3)
          (.ret (2, p1))
          (.ite (0 ≤ p0.2.1 ∧ p0.2.1 < (p1.1.1.length : Int)) <|
          .cond (decide (p0.1 = 6))
            (.mat (p1.1.1[p0.2.1.toNat]?) fun _ =>
            .mat (p1.1.1[p0.2.1.toNat]?) fun x5 =>
            .mat (cloneR x5.1) fun r6 =>
            .mat (p1.1.1[p0.2.1.toNat]?) fun x7 =>
            let v8 := p1.1.1.set p0.2.1.toNat (x7.1, (r6, x7.2.2))
            .ret (0, ((v8, p1.1.2), p1.2)))
            (.cond (decide (p0.1 = 7))
              (.mat (p1.1.1[p0.2.1.toNat]?) fun _ =>
              .mat (p1.1.1[p0.2.1.toNat]?) fun x10 =>
              .mat (cloneR x10.2.1) fun r11 =>
              .mat (p1.1.1[p0.2.1.toNat]?) fun x12 =>
              let v13 := p1.1.1.set p0.2.1.toNat (r11, x12.2)
              .ret (0, ((v13, p1.1.2), p1.2)))
              (.cond (decide (p0.1 = 8))
                (.mat (p1.1.1[p0.2.1.toNat]?) fun x14 =>
                let v15 := p1.1.1.set p0.2.1.toNat ([], x14.2)
                .ret (0, ((v15, p1.1.2), p1.2)))
                (.ret (0, p1)))))))
      (.cond (decide (p0.1 = 3))
        (.cond (decide (p0.1 = 3))
          (.mat (handI p0 p1) fun r16 =>
          .ret (r16.1, r16.2))
          (let v17 := i_Gather_isStation_S p1.2.1 p0.2.1
          .cond (!v17)
            (.ret (2, p1))
            (.ite (0 ≤ p0.2.1 ∧ p0.2.1 < (p1.1.1.length : Int)) <|
            .cond (decide (p0.1 = 6))
              (.mat (p1.1.1[p0.2.1.toNat]?) fun _ =>
              .mat (p1.1.1[p0.2.1.toNat]?) fun x19 =>
              .mat (cloneR x19.1) fun r20 =>
              .mat (p1.1.1[p0.2.1.toNat]?) fun x21 =>
              let v22 := p1.1.1.set p0.2.1.toNat (x21.1, (r20, x21.2.2))
              .ret (0, ((v22, p1.1.2), p1.2)))
              (.cond (decide (p0.1 = 7))
                (.mat (p1.1.1[p0.2.1.toNat]?) fun _ =>
                .mat (p1.1.1[p0.2.1.toNat]?) fun x24 =>
                .mat (cloneR x24.2.1) fun r25 =>
                .mat (p1.1.1[p0.2.1.toNat]?) fun x26 =>
                let v27 := p1.1.1.set p0.2.1.toNat (r25, x26.2)
                .ret (0, ((v27, p1.1.2), p1.2)))
                (.cond (decide (p0.1 = 8))
                  (.mat (p1.1.1[p0.2.1.toNat]?) fun x28 =>
                  let v29 := p1.1.1.set p0.2.1.toNat ([], x28.2)
                  .ret (0, ((v29, p1.1.2), p1.2)))
                  (.ret (0, p1)))))))
        (.cond (decide (p0.1 = 4))
          (.cond (decide (p0.1 = 4))
            (.mat (handI p0 p1) fun r30 =>
            .ret (r30.1, r30.2))
            (let v31 := i_Gather_isStation_S p1.2.1 p0.2.1
            .cond (!v31)
              (.ret (2, p1))
              (.ite (0 ≤ p0.2.1 ∧ p0.2.1 < (p1.1.1.length : Int)) <|
              .cond (decide (p0.1 = 6))
                (.mat (p1.1.1[p0.2.1.toNat]?) fun _ =>
                .mat (p1.1.1[p0.2.1.toNat]?) fun x33 =>
                .mat (cloneR x33.1) fun r34 =>
                .mat (p1.1.1[p0.2.1.toNat]?) fun x35 =>
                let v36 := p1.1.1.set p0.2.1.toNat (x35.1, (r34, x35.2.2))
                .ret (0, ((v36, p1.1.2), p1.2)))
                (.cond (decide (p0.1 = 7))
                  (.mat (p1.1.1[p0.2.1.toNat]?) fun _ =>
                  .mat (p1.1.1[p0.2.1.toNat]?) fun x38 =>
                  .mat (cloneR x38.2.1) fun r39 =>
                  .mat (p1.1.1[p0.2.1.toNat]?) fun x40 =>
                  let v41 := p1.1.1.set p0.2.1.toNat (r39, x40.2)
                  .ret (0, ((v41, p1.1.2), p1.2)))
                  (.cond (decide (p0.1 = 8))
                    (.mat (p1.1.1[p0.2.1.toNat]?) fun x42 =>
                    let v43 := p1.1.1.set p0.2.1.toNat ([], x42.2)
                    .ret (0, ((v43, p1.1.2), p1.2)))
                    (.ret (0, p1)))))))
          (.cond (decide (p0.1 = 5))
            (.mat (handI p0 p1) fun r44 =>
            .ret (r44.1, r44.2))
            (let v45 := i_Gather_isStation_S p1.2.1 p0.2.1
            .cond (!v45)
              (.ret (2, p1))
              (.ite (0 ≤ p0.2.1 ∧ p0.2.1 < (p1.1.1.length : Int)) <|
              .cond (decide (p0.1 = 6))
                (.mat (p1.1.1[p0.2.1.toNat]?) fun _ =>
                .mat (p1.1.1[p0.2.1.toNat]?) fun x47 =>
                .mat (cloneR x47.1) fun r48 =>
                .mat (p1.1.1[p0.2.1.toNat]?) fun x49 =>
                let v50 := p1.1.1.set p0.2.1.toNat (x49.1, (r48, x49.2.2))
                .ret (0, ((v50, p1.1.2), p1.2)))
                (.cond (decide (p0.1 = 7))
                  (.mat (p1.1.1[p0.2.1.toNat]?) fun _ =>
                  .mat (p1.1.1[p0.2.1.toNat]?) fun x52 =>
                  .mat (cloneR x52.2.1) fun r53 =>
                  .mat (p1.1.1[p0.2.1.toNat]?) fun x54 =>
                  let v55 := p1.1.1.set p0.2.1.toNat (r53, x54.2)
                  .ret (0, ((v55, p1.1.2), p1.2)))
                  (.cond (decide (p0.1 = 8))
                    (.mat (p1.1.1[p0.2.1.toNat]?) fun x56 =>
                    let v57 := p1.1.1.set p0.2.1.toNat ([], x56.2)
                    .ret (0, ((v57, p1.1.2), p1.2)))
                    (.ret (0, p1))))))))))
noncomputable def i_works_do_ba03_F (p0 : (Int × (Int × (Int × (Int × Unit))))) (p1 : (((List ((List Int) × ((List Int) × Unit))) × ((List (Int × (Int × Unit))) × Unit)) × ((Int × (Int × ((List Int) × (Int × (Int × Unit))))) × Unit))) : Option (Int × (((List ((List Int) × ((List Int) × Unit))) × ((List (Int × (Int × Unit))) × Unit)) × ((Int × (Int × ((List Int) × (Int × (Int × Unit))))) × Unit))) := (i_works_do_ba03 p0 p1).run some
noncomputable def doI (d : D8) (p : P8 × (G8 × Unit)) : Option (Int × (P8 × (G8 × Unit))) := askO (isG p.2.1 && vDeed d && okP 1000 p.2.1 p.1) ((doM p.2.1 d p.1).1, (doM p.2.1 d p.1).2, p.2)
theorem i_works_do_ba03_spec (p0 : D8) (p1 : P8 × (G8 × Unit)) (y : Int × (P8 × (G8 × Unit))) (h : doI p0 p1 = some y) : i_works_do_ba03_F p0 p1 = some y := by
  obtain ⟨hok, rfl⟩ := askO_some h
  have hsend : sendI p0 p1 = some _ := askO_true hok
  have hhand : inR p0.1 2 5 = true → handI p0 p1 = some _ := fun hk => askO_true (by
    simp only [Bool.and_eq_true] at hok ⊢
    exact ⟨⟨hok.1, hk⟩, hok.2⟩)
  simp only [Bool.and_eq_true] at hok
  obtain ⟨⟨hg, hd⟩, hp⟩ := hok
  obtain ⟨⟨a0, a1⟩, _, _, hk⟩ := vDeed_rng hd
  obtain ⟨l1, l2, l3, l4⟩ := okP_spec hp
  have hst : (!inR p0.2.1 0 (statG p1.2.1 - 1)) = decide (p0.2.1 ≥ (p1.1.1.length : Int)) := by
    unfold inR
    rw [decide_eq_true a0, Bool.true_and]
    by_cases h : p0.2.1 ≥ (p1.1.1.length : Int)
    · rw [decide_eq_true h, decide_eq_false (by omega)]; rfl
    · rw [decide_eq_false h, decide_eq_true (by omega)]; rfl
  obtain ⟨kk, a, b, c, ⟨⟩⟩ := p0
  unfold i_works_do_ba03_F i_works_do_ba03 doM
  simp only at *
  rw [isStation_S hg, hst]
  rcases kind_cases hk with rfl | rfl | rfl | rfl | rfl | rfl | rfl | rfl
  · rw [Tre.run_cond, show decide ((1 : Int) = 1) = true from rfl, cond_true, run_some_mat hsend]; rfl
  · simp only [Tre.run_cond, show decide ((2 : Int) = 1) = false from rfl, show decide ((2 : Int) = 2) = true from rfl, cond_true, cond_false]
    rw [run_some_mat (hhand rfl)]; rfl
  · simp only [Tre.run_cond, show decide ((3 : Int) = 1) = false from rfl, show decide ((3 : Int) = 2) = false from rfl, show decide ((3 : Int) = 3) = true from rfl, cond_true, cond_false]
    rw [run_some_mat (hhand rfl)]; rfl
  · simp only [Tre.run_cond, show decide ((4 : Int) = 1) = false from rfl, show decide ((4 : Int) = 2) = false from rfl, show decide ((4 : Int) = 3) = false from rfl, show decide ((4 : Int) = 4) = true from rfl, cond_true, cond_false]
    rw [run_some_mat (hhand rfl)]; rfl
  · simp only [Tre.run_cond, show decide ((5 : Int) = 1) = false from rfl, show decide ((5 : Int) = 2) = false from rfl, show decide ((5 : Int) = 3) = false from rfl, show decide ((5 : Int) = 4) = false from rfl, show decide ((5 : Int) = 5) = true from rfl, cond_true, cond_false]
    rw [run_some_mat (hhand rfl)]; rfl
  all_goals
    simp only [Tre.run_cond, show decide ((6 : Int) = 1) = false from rfl, show decide ((6 : Int) = 2) = false from rfl, show decide ((6 : Int) = 3) = false from rfl, show decide ((6 : Int) = 4) = false from rfl, show decide ((6 : Int) = 5) = false from rfl, show decide ((6 : Int) = 6) = true from rfl, show inR 6 2 5 = false from rfl,
      show decide ((7 : Int) = 1) = false from rfl, show decide ((7 : Int) = 2) = false from rfl, show decide ((7 : Int) = 3) = false from rfl, show decide ((7 : Int) = 4) = false from rfl, show decide ((7 : Int) = 5) = false from rfl, show decide ((7 : Int) = 6) = false from rfl, show decide ((7 : Int) = 7) = true from rfl, show inR 7 2 5 = false from rfl,
      show decide ((8 : Int) = 1) = false from rfl, show decide ((8 : Int) = 2) = false from rfl, show decide ((8 : Int) = 3) = false from rfl, show decide ((8 : Int) = 4) = false from rfl, show decide ((8 : Int) = 5) = false from rfl, show decide ((8 : Int) = 6) = false from rfl, show decide ((8 : Int) = 7) = false from rfl, show inR 8 2 5 = false from rfl, cond_true, cond_false]
    by_cases h1 : a ≥ (p1.1.1.length : Int)
    · rw [decide_eq_true h1]; rfl
    obtain ⟨i, rfl⟩ := Int.eq_ofNat_of_zero_le a0
    have hi : i < p1.1.1.length := by omega
    obtain ⟨s, hs⟩ : ∃ s, p1.1.1[i]? = some s := ⟨_, List.getElem?_eq_getElem hi⟩
    have hm := l2 s (List.mem_of_getElem? hs)
    have k1 := (okS_spec.1 hm.1).1
    have k2 := (okS_spec.1 hm.2).1
    have c1 : cloneR s.1 = some s.1 := lim_of (by omega)
    have c2 : cloneR s.2.1 = some s.2.1 := lim_of (by omega)
    rw [decide_eq_false h1, cond_false, cond_false]
    simp only [Int.toNat_natCast, hs]
    rw [Tre.run_ite, if_pos ⟨a0, by omega⟩]
    try simp only [decide_true]
  · rw [Tre.run_cond, cond_true, run_some_mat rfl, run_some_mat rfl, run_some_mat c1, run_some_mat rfl]; rfl
  · rw [Tre.run_cond, cond_false, Tre.run_cond, cond_true, run_some_mat rfl, run_some_mat rfl, run_some_mat c2, run_some_mat rfl]; rfl
  · rw [Tre.run_cond, cond_false, Tre.run_cond, cond_false, Tre.run_cond, cond_true, run_some_mat rfl]; rfl

noncomputable def i_works_do_ba03_V : Env := ⟨tau, [(104, i_works_send_ba03_c), (105, i_works_handle_ba03_c), (78, i_Gather_isStation_c), (45, slices_Clone_int64_c)], []⟩
noncomputable def i_works_do_ba03_b : Code := (Try.f80.body).getD .skip
noncomputable def i_works_do_ba03_I : FnI := ⟨i_works_do_ba03_b, Try.f80.results.toList, Try.f80.resultTypes.toList, []⟩
noncomputable def i_works_do_ba03_out (zp0 : Bool) (_p0 : (Int × (Int × (Int × (Int × Unit))))) (_p1 : (((List ((List Int) × ((List Int) × Unit))) × ((List (Int × (Int × Unit))) × Unit)) × ((Int × (Int × ((List Int) × (Int × (Int × Unit))))) × Unit))) : (Int × (((List ((List Int) × ((List Int) × Unit))) × ((List (Int × (Int × Unit))) × Unit)) × ((Int × (Int × ((List Int) × (Int × (Int × Unit))))) × Unit))) → CallOut := fun r => ⟨(.imm true (.int .i64) r.1), [⟨true, kWorks, (.pair .own (.imm zp0)), r.2⟩], []⟩
set_option maxRecDepth 100000 in
theorem i_works_do_ba03_eq : ∀ (zp0 : Bool) (p0 : (Int × (Int × (Int × (Int × Unit))))) (p1 : (((List ((List Int) × ((List Int) × Unit))) × ((List (Int × (Int × Unit))) × Unit)) × ((Int × (Int × ((List Int) × (Int × (Int × Unit))))) × Unit))), denFn i_works_do_ba03_V i_works_do_ba03_I ⟨[(.ptr (0, 0) []), (.imm true kDeed p0)], [⟨true, kWorks, (.pair .own (.imm zp0)), p1⟩]⟩ = (i_works_do_ba03 p0 p1).run fun r => some (i_works_do_ba03_out zp0 p0 p1 r) := fun _ _ _ => by kernel_rfl
noncomputable def i_works_do_ba03_G (av : List AV) (rs : List Root) : Tre CallOut :=
  asCons av fun a0_ av0 =>
  asCons av0 fun a1_ av1 =>
  asEnd av1 <|
  asCons rs fun r0_ rs0 =>
  asEnd rs0 <|
  asPtr (0, 0) [] a0_ <|
  asImmZ true kDeed a1_ fun d1 =>
  asRt true kWorks r0_ fun m2 d3 =>
  asMPair m2 fun m4 m5 =>
  asM .own m4 <|
  asMImm m5 fun z6 =>
  .mat (doI d1 d3) fun r => .ret (i_works_do_ba03_out z6 d1 d3 r)
noncomputable def i_works_do_ba03_c : Ctr := ⟨[], fun ci => i_works_do_ba03_G ci.args ci.roots⟩
theorem i_works_do_ba03_env : EnvOK Try.prog i_works_do_ba03_V := (envOK_cons i_works_send_ba03_ok ent104 (envOK_cons i_works_handle_ba03_ok ent105 (envOK_cons i_Gather_isStation_ok ent78 (envOK_cons slices_Clone_int64_ok ent45 envOK_nil))))
set_option maxRecDepth 100000 in
theorem i_works_do_ba03_ok : Contract Try.prog 80 i_works_do_ba03_c := by
  have hl : LoopsOK i_works_do_ba03_V [] i_works_do_ba03_b := loopsOK_nil (by kernel_rfl)
  refine (contract_of (F := i_works_do_ba03_I) tau_tys i_works_do_ba03_env Try.func80 (by kernel_rfl) (by kernel_rfl) (by kernel_rfl) hl []).weaken ?_
  rintro ⟨av, rs⟩ co h
  have h : (i_works_do_ba03_G av rs).run some = some co := h
  obtain ⟨a0_, av0, rfl, h_0⟩ := asCons_spec h
  obtain ⟨a1_, av1, rfl, h_1⟩ := asCons_spec h_0
  obtain ⟨rfl, h_2⟩ := asEnd_spec h_1
  obtain ⟨r0_, rs0, rfl, h_3⟩ := asCons_spec h_2
  obtain ⟨rfl, h_4⟩ := asEnd_spec h_3
  obtain ⟨rfl, h_5⟩ := asPtr_spec h_4
  obtain ⟨d1, rfl, h_6⟩ := asImmZ_spec h_5
  obtain ⟨m2, d3, rfl, h_7⟩ := asRt_spec h_6
  obtain ⟨m4, m5, rfl, h_8⟩ := asMPair_spec h_7
  obtain ⟨rfl, h_9⟩ := asM_spec h_8
  obtain ⟨z6, rfl, h_10⟩ := asMImm_spec h_9
  exact fin_opt (i_works_do_ba03_eq z6 d1 d3) (i_works_do_ba03_spec d1 d3) h_10

end Go.Proofs.Ytddaclhjnkimfaa

namespace Go.Proofs.Ytddaclhjnkimfaa
open Go Go.Abs Go.Proofs

/-! function 41: loop.example/g01144/impl.after -/
noncomputable def i_after_l3 (h3_0_1 : (List (Int × (Int × (Int × (Int × Unit)))))) (h3_0_2 : Int) : (Int × Int × (((List ((List Int) × ((List Int) × Unit))) × ((List (Int × (Int × Unit))) × Unit)) × ((Int × (Int × ((List Int) × (Int × (Int × Unit))))) × Unit))) → Tre ((Int × Int × (((List ((List Int) × ((List Int) × Unit))) × ((List (Int × (Int × Unit))) × Unit)) × ((Int × (Int × ((List Int) × (Int × (Int × Unit))))) × Unit))) ⊕ (Int × (((List ((List Int) × ((List Int) × Unit))) × ((List (Int × (Int × Unit))) × Unit)) × ((Int × (Int × ((List Int) × (Int × (Int × Unit))))) × Unit)))) := fun s3 =>
  .cond (decide (s3.2.1 < h3_0_2))
    (.ite (0 ≤ s3.2.1 ∧ s3.2.1 < (h3_0_1.length : Int)) <|
    .mat (h3_0_1[s3.2.1.toNat]?) fun x2 =>
    .mat (doI x2 s3.2.2) fun r3 =>
    .cond (decide (r3.1 = 0))
      (.ret (.inl (iwrap .i64 (s3.1 + 1), iwrap .i64 (s3.2.1 + 1), r3.2)))
      (.ret (.inl (s3.1, iwrap .i64 (s3.2.1 + 1), r3.2))))
    (.ret (.inr (s3.1, s3.2.2)))
noncomputable def i_after (p0 : (Int × (Int × ((List Int) × (Int × (Int × Unit)))))) (p1 : (List (Int × (Int × (Int × (Int × Unit)))))) : Tre (Int × (((List ((List Int) × ((List Int) × Unit))) × ((List (Int × (Int × Unit))) × Unit)) × ((Int × (Int × ((List Int) × (Int × (Int × Unit))))) × Unit))) :=
  .mat (newR p0) fun r1 =>
  .mat (loopF (i_after_l3 p1 (p1.length : Int)) (0, 0, r1)) fun l4 =>
  .ret (l4.1, l4.2)
noncomputable def i_after_F (p0 : (Int × (Int × ((List Int) × (Int × (Int × Unit)))))) (p1 : (List (Int × (Int × (Int × (Int × Unit)))))) : Option (Int × (((List ((List Int) × ((List Int) × Unit))) × ((List (Int × (Int × Unit))) × Unit)) × ((Int × (Int × ((List Int) × (Int × (Int × Unit))))) × Unit))) := (i_after p0 p1).run some
/-- how many of the codes are 0 -/
def zerosN (cs : List Int) : Nat := cs.countP fun c => decide (c = 0)
noncomputable def afterR (g : G8) (ds : List D8) : Option (Int × (P8 × (G8 × Unit))) := askO (isG g && ds.all vDeed && decide (ds.length ≤ 300)) ((zerosN (runM g ds (beginM g)).2 : Int), (afterM g ds, (g, ())))
theorem foldE_after (g : G8) : ∀ (l : List D8) (i n : Nat) (p : P8), foldE (β := Int × (P8 × (G8 × Unit))) (fun (_ : Nat) (acc : Int × (P8 × (G8 × Unit))) d => .inl (cond (decide ((doM g d acc.2.1).1 = 0)) (acc.1 + 1) acc.1, (doM g d acc.2.1).2, acc.2.2)) id i ((n : Int), p, g, ()) l = (((n + zerosN (runM g l p).2 : Nat) : Int), (runM g l p).1, g, ()) := by
  intro l
  induction l with
  | nil => intro i n p; simp [foldE, runM, zerosN]
  | cons d l ih =>
    intro i n p
    simp only [foldE, runM]
    have hz : zerosN ((doM g d p).1 :: (runM g l (doM g d p).2).2) = zerosN (runM g l (doM g d p).2).2 + cond (decide ((doM g d p).1 = 0)) 1 0 := by
      unfold zerosN
      rw [List.countP_cons]
      cases decide ((doM g d p).1 = 0) <;> rfl
    rw [hz]
    cases decide ((doM g d p).1 = 0)
    · exact ih (i + 1) n _
    · have := ih (i + 1) (n + 1) (doM g d p).2
      rw [show ((n + 1 : Nat) : Int) = (n : Int) + 1 from by omega] at this
      simp only [cond_true]
      rw [this]
      congr 2
      omega
theorem i_after_spec (p0 : G8) (p1 : List D8) (y : Int × (P8 × (G8 × Unit))) (h : afterR p0 p1 = some y) : i_after_F p0 p1 = some y := by
  obtain ⟨hok, rfl⟩ := askO_some h
  simp only [Bool.and_eq_true, decide_eq_true_eq] at hok
  obtain ⟨⟨hg, hd⟩, hl⟩ := hok
  unfold i_after_F i_after
  rw [run_some_mat (show newR p0 = some _ from askO_true hg)]
  have := fold_loop (xs := p1) (step := i_after_l3 p1 (p1.length : Int)) (fun i acc => (acc.1, (i : Int), acc.2)) (fun (_ : Nat) (acc : Int × (P8 × (G8 × Unit))) d => .inl (cond (decide ((doM p0 d acc.2.1).1 = 0)) (acc.1 + 1) acc.1, (doM p0 d acc.2.1).2, acc.2.2)) id (fun i acc => acc.2.2 = (p0, ()) ∧ okP (4 + i) p0 acc.2.1 = true ∧ 0 ≤ acc.1 ∧ acc.1 ≤ (i : Int)) (by
    rintro i ⟨n, ⟨p, ⟨g, ⟨⟩⟩⟩⟩ x hx ⟨hI, hI2, hn0, hn1⟩
    cases hI
    have hi : i < p1.length := (List.getElem?_eq_some_iff.1 hx).1
    have hv : vDeed x = true := List.all_eq_true.1 hd x (List.mem_of_getElem? hx)
    simp only at hn0 hn1
    constructor
    · unfold i_after_l3
      dsimp only
      rw [run_inb hx, run_some_mat (show doI x (p, p0, ()) = some _ from askO_true (by
        rw [Bool.and_eq_true, Bool.and_eq_true]; exact ⟨⟨hg, hv⟩, okP_mono hI2 (by omega)⟩)), Tre.run_cond]
      dsimp only
      rw [iwrap_succ (by omega)]
      cases decide ((doM p0 x p).1 = 0)
      · rfl
      · rw [cond_true, cond_true, Tre.run_ret, iwrap_i64 (by omega) (by omega)]
    · intro a ha
      cases ha
      refine ⟨rfl, doM_ok hg hv hI2, ?_, ?_⟩
      · show 0 ≤ cond (decide ((doM p0 x p).1 = 0)) (n + 1) n
        cases decide ((doM p0 x p).1 = 0)
        · exact hn0
        · rw [cond_true]; omega
      · show cond (decide ((doM p0 x p).1 = 0)) (n + 1) n ≤ ((i + 1 : Nat) : Int)
        cases decide ((doM p0 x p).1 = 0)
        · rw [cond_false]; omega
        · rw [cond_true]; omega)
    (by
    intro acc _
    unfold i_after_l3
    exact run_out) p1 0 (0, beginM p0, p0, ()) rfl (Nat.zero_le _) ⟨rfl, beginM_ok hg, Int.le_refl _, Int.le_refl _⟩
  have h0 := foldE_after p0 p1 0 0 (beginM p0)
  rw [Nat.zero_add] at h0
  have h1 : loopF (i_after_l3 p1 (p1.length : Int)) (0, 0, (beginM p0, p0, ())) = some ((zerosN (runM p0 p1 (beginM p0)).2 : Int), ((runM p0 p1 (beginM p0)).1, p0, ())) := this.trans (congrArg some h0)
  rw [run_some_mat h1]
  rfl

noncomputable def i_after_V : Env := ⟨tau, [(79, i_newWorks_c), (80, i_works_do_ba03_c)], []⟩
noncomputable def i_after_b : Code := (Try.f41.body).getD .skip
noncomputable def i_after_l3_mk (z3_0 : Bool) (z3_1 : Bool) (h3_0_1 : (List (Int × (Int × (Int × (Int × Unit)))))) (h3_0_2 : Int) : (Int × Int × (((List ((List Int) × ((List Int) × Unit))) × ((List (Int × (Int × Unit))) × Unit)) × ((Int × (Int × ((List Int) × (Int × (Int × Unit))))) × Unit))) → St := fun x => stOf [(6, (.ptr (13, 0) [])), (7, (.imm true (.int .i64) x.1)), (12, (.imm z3_0 (.sl kDeed) h3_0_1)), (13, (.imm true (.int .i64) h3_0_2)), (14, (.imm true (.int .i64) x.2.1))] [((13, 0), some ⟨true, kWorks, (.pair .own (.imm z3_1)), x.2.2⟩)]
noncomputable def i_after_l3_out (_z3_0 : Bool) (z3_1 : Bool) (_h3_0_1 : (List (Int × (Int × (Int × (Int × Unit)))))) (_h3_0_2 : Int) : (Int × (((List ((List Int) × ((List Int) × Unit))) × ((List (Int × (Int × Unit))) × Unit)) × ((Int × (Int × ((List Int) × (Int × (Int × Unit))))) × Unit))) → Ex × St := fun x => (.exit 0, stOf [(6, (.ptr (13, 0) [])), (7, (.imm true (.int .i64) x.1))] [((13, 0), some ⟨true, kWorks, (.pair .own (.imm z3_1)), x.2⟩)])
noncomputable def i_after_l3_D (s : St) : Tre (Ex × St) :=
  asPtr (13, 0) [] (s.tmps 6) <|
  asImmZ true (.int .i64) (s.tmps 7) fun d3 =>
  asImm (.sl kDeed) (s.tmps 12) fun z6 d5 =>
  asImmZ true (.int .i64) (s.tmps 13) fun d8 =>
  asImmZ true (.int .i64) (s.tmps 14) fun d10 =>
  asRoot true kWorks (s.roots (13, 0)) fun m12 d13 =>
  asMPair m12 fun m14 m15 =>
  asM .own m14 <|
  asMImm m15 fun z16 =>
  .mat (loopF (i_after_l3 d5 d8) (d3, d10, d13)) fun x => .ret (i_after_l3_out z6 z16 d5 d8 x)
noncomputable def i_after_l3_L : LoopI := ⟨([6, 7, 12, 13, 14], [(13, 0)]), ([6, 7], [(13, 0)]), i_after_l3_D⟩
noncomputable def i_after_A : List (Nat × LoopI) := [(3, i_after_l3_L)]
set_option maxRecDepth 100000 in
theorem i_after_l3_step : ∀ (z3_0 : Bool) (z3_1 : Bool) (h3_0_1 : (List (Int × (Int × (Int × (Int × Unit)))))) (h3_0_2 : Int) (x : (Int × Int × (((List ((List Int) × ((List Int) × Unit))) × ((List (Int × (Int × Unit))) × Unit)) × ((Int × (Int × ((List Int) × (Int × (Int × Unit))))) × Unit)))) (c : St → Option (Ex × St)), den i_after_V i_after_A (loopAt i_after_b 0) (i_after_l3_mk z3_0 z3_1 h3_0_1 h3_0_2 x) (roundK i_after_l3_L.kp i_after_l3_L.kx c) = (i_after_l3 h3_0_1 h3_0_2 x).run (roundR (i_after_l3_mk z3_0 z3_1 h3_0_1 h3_0_2) (i_after_l3_out z3_0 z3_1 h3_0_1 h3_0_2) c) := fun _ _ _ _ _ _ => by
  kernel_rfl
theorem i_after_l3_ok : LoopOK i_after_V i_after_A (loopAt i_after_b 0) i_after_l3_L := loopOK_of fun s e s' h => by
  generalize hs : restrict i_after_l3_L.kp s = s1 at h
  have h : (i_after_l3_D s1).run some = some (e, s') := h
  obtain ⟨e1, h_0⟩ := asPtr_spec h
  obtain ⟨d3, e2, h_1⟩ := asImmZ_spec h_0
  obtain ⟨z6, d5, e4, h_2⟩ := asImm_spec h_1
  obtain ⟨d8, e7, h_3⟩ := asImmZ_spec h_2
  obtain ⟨d10, e9, h_4⟩ := asImmZ_spec h_3
  obtain ⟨m12, d13, e11, h_5⟩ := asRoot_spec h_4
  obtain ⟨m14, m15, rfl, h_6⟩ := asMPair_spec h_5
  obtain ⟨rfl, h_7⟩ := asM_spec h_6
  obtain ⟨z16, rfl, h_8⟩ := asMImm_spec h_7
  obtain ⟨y, hy, hz⟩ := mat_ret h_8
  refine ⟨_, _, i_after_l3_mk z6 z16 d5 d8, i_after_l3_out z6 z16 d5 d8, i_after_l3 d5 d8, (d3, d10, d13), y, ?_, hy, ?_, i_after_l3_step z6 z16 d5 d8⟩
  · subst hs; exact restrict_eq (T := [(6, (.ptr (13, 0) [])), (7, (.imm true (.int .i64) d3)), (12, (.imm z6 (.sl kDeed) d5)), (13, (.imm true (.int .i64) d8)), (14, (.imm true (.int .i64) d10))]) (U := [((13, 0), some ⟨true, kWorks, (.pair .own (.imm z16)), d13⟩)]) rfl rfl ⟨e1, e2, e4, e7, e9, trivial⟩ ⟨e11, trivial⟩
  · exact Option.some.inj hz
noncomputable def i_after_I : FnI := ⟨i_after_b, Try.f41.results.toList, Try.f41.resultTypes.toList, i_after_A⟩
noncomputable def i_after_out (zp0 : Bool) (_zp1 : Bool) (_p0 : (Int × (Int × ((List Int) × (Int × (Int × Unit)))))) (_p1 : (List (Int × (Int × (Int × (Int × Unit)))))) : (Int × (((List ((List Int) × ((List Int) × Unit))) × ((List (Int × (Int × Unit))) × Unit)) × ((Int × (Int × ((List Int) × (Int × (Int × Unit))))) × Unit))) → CallOut := fun r => ⟨(.tcons (.ptr (1, 0) []) (.tcons (.imm true (.int .i64) r.1) .tnil)), [], [⟨true, kWorks, (.pair .own (.imm zp0)), r.2⟩]⟩
set_option maxRecDepth 100000 in
theorem i_after_eq : ∀ (zp0 : Bool) (zp1 : Bool) (p0 : (Int × (Int × ((List Int) × (Int × (Int × Unit)))))) (p1 : (List (Int × (Int × (Int × (Int × Unit)))))), denFn i_after_V i_after_I ⟨[(.imm zp0 kGather p0), (.imm zp1 (.sl kDeed) p1)], []⟩ = (i_after p0 p1).run fun r => some (i_after_out zp0 zp1 p0 p1 r) := fun _ _ _ _ => by kernel_rfl
noncomputable def i_after_G (av : List AV) (rs : List Root) : Tre CallOut :=
  asCons av fun a0_ av0 =>
  asCons av0 fun a1_ av1 =>
  asEnd av1 <|
  asEnd rs <|
  asImm kGather a0_ fun z2 d1 =>
  asImm (.sl kDeed) a1_ fun z4 d3 =>
  .mat (afterR d1 d3) fun r => .ret (i_after_out z2 z4 d1 d3 r)
noncomputable def i_after_c : Ctr := ⟨[], fun ci => i_after_G ci.args ci.roots⟩
theorem i_after_env : EnvOK Try.prog i_after_V := (envOK_cons i_newWorks_ok ent79 (envOK_cons i_works_do_ba03_ok ent80 envOK_nil))
set_option maxRecDepth 100000 in
theorem i_after_ok : Contract Try.prog 41 i_after_c := by
  have hl : LoopsOK i_after_V i_after_A i_after_b := (loopsOK_all (n := 1) (by kernel_rfl) fun k hk => by
      match k, hk with
      | 0, _ => exact loopOK_at (id := 3) (L := i_after_l3_L) (by kernel_rfl) (by kernel_rfl) i_after_l3_ok)
  refine (contract_of (F := i_after_I) tau_tys i_after_env Try.func41 (by kernel_rfl) (by kernel_rfl) (by kernel_rfl) hl []).weaken ?_
  rintro ⟨av, rs⟩ co h
  have h : (i_after_G av rs).run some = some co := h
  obtain ⟨a0_, av0, rfl, h_0⟩ := asCons_spec h
  obtain ⟨a1_, av1, rfl, h_1⟩ := asCons_spec h_0
  obtain ⟨rfl, h_2⟩ := asEnd_spec h_1
  obtain ⟨rfl, h_3⟩ := asEnd_spec h_2
  obtain ⟨z2, d1, rfl, h_4⟩ := asImm_spec h_3
  obtain ⟨z4, d3, rfl, h_5⟩ := asImm_spec h_4
  exact fin_opt (i_after_eq z2 z4 d1 d3) (i_after_spec d1 d3) h_5

end Go.Proofs.Ytddaclhjnkimfaa

namespace Go.Proofs.Ytddaclhjnkimfaa
open Go Go.Abs Go.Proofs

/-! function 97: (loop.example/g01144/impl.Gather).front -/
noncomputable def i_Gather_front_l3 (h3_0_0 : (List Int)) (h3_0_1 : Int) (h3_0_3 : (Int × (Int × ((List Int) × (Int × (Int × Unit)))))) : (Int × (List Int)) → Tre ((Int × (List Int)) ⊕ (List Int)) := fun s3 =>
  .cond (decide (s3.1 < h3_0_1))
    (.ite (0 ≤ s3.1 ∧ s3.1 < (h3_0_0.length : Int)) <|
    .mat (h3_0_0[s3.1.toNat]?) fun x1 =>
    .ite (0 ≤ h3_0_3.1) <|
    let v2 := iwrap .i64 ((ishl .i64 1 h3_0_3.1) - 1)
    .ite ((s3.2.length + 1) * 8 ≤ appendMax ∧ 1 ≤ 8) <|
    let v3 := s3.2 ++ ([iand .i64 x1 v2])
    .ret (.inl (iwrap .i64 (s3.1 + 1), v3)))
    (.ret (.inr s3.2))
noncomputable def i_Gather_front (p0 : (Int × (Int × ((List Int) × (Int × (Int × Unit)))))) (p1 : (List Int)) : Tre (List Int) :=
  .mat (loopF (i_Gather_front_l3 p1 (p1.length : Int) p0) (0, [])) fun l4 =>
  .ret l4
noncomputable def i_Gather_front_F (p0 : (Int × (Int × ((List Int) × (Int × (Int × Unit)))))) (p1 : (List Int)) : Option (List Int) := (i_Gather_front p0 p1).run some
def frontR (g : G8) (xs : List Int) : Option (List Int) := askO (inR g.1 1 62 && decide (xs.length ≤ 1048576)) (xs.map (headW g))
theorem i_Gather_front_spec (p0 : G8) (p1 : List Int) (y : List Int) (h : frontR p0 p1 = some y) : i_Gather_front_F p0 p1 = some y := by
  obtain ⟨hok, rfl⟩ := askO_some h
  rw [Bool.and_eq_true, inR_iff, decide_eq_true_eq] at hok
  obtain ⟨hm, hl⟩ := hok
  unfold i_Gather_front_F i_Gather_front
  have := fold_loop (xs := p1) (step := i_Gather_front_l3 p1 (p1.length : Int) p0) (fun i acc => ((i : Int), acc)) (fun _ acc x => .inl (acc ++ [headW p0 x])) id (fun i acc => acc.length = i) (by
    intro i acc x hx hI
    have hi : i < p1.length := (List.getElem?_eq_some_iff.1 hx).1
    refine ⟨?_, fun a ha => by cases ha; simp [hI]⟩
    unfold i_Gather_front_l3
    rw [run_inb hx, Tre.run_ite, if_pos (by omega)]
    dsimp only
    rw [Tre.run_ite, if_pos (by unfold appendMax; omega), Tre.run_ret, iwrap_succ (by omega)]
    rfl)
    (by
    intro acc _
    unfold i_Gather_front_l3
    exact run_out) p1 0 [] rfl (Nat.zero_le _) rfl
  rw [foldE_heads] at this
  have h1 : loopF (i_Gather_front_l3 p1 (p1.length : Int) p0) (0, []) = some (p1.map (headW p0)) := this
  rw [run_some_mat h1]
  rfl

noncomputable def i_Gather_front_V : Env := ⟨tau, [], []⟩
noncomputable def i_Gather_front_b : Code := (Try.f97.body).getD .skip
noncomputable def i_Gather_front_l3_mk (z3_0 : Bool) (z3_1 : Bool) (h3_0_0 : (List Int)) (h3_0_1 : Int) (h3_0_3 : (Int × (Int × ((List Int) × (Int × (Int × Unit)))))) : (Int × (List Int)) → St := fun x => stOf [(2, (.ptr (4, 0) [])), (5, (.ref (7, 0) [])), (9, (.imm z3_0 (.sl (.int .i64)) h3_0_0)), (10, (.imm true (.int .i64) h3_0_1)), (11, (.imm true (.int .i64) x.1))] [((4, 0), some ⟨true, kGather, (.imm z3_1), h3_0_3⟩), ((7, 0), some ⟨false, (.sl (.int .i64)), .own, x.2⟩)]
noncomputable def i_Gather_front_l3_out (_z3_0 : Bool) (_z3_1 : Bool) (_h3_0_0 : (List Int)) (_h3_0_1 : Int) (_h3_0_3 : (Int × (Int × ((List Int) × (Int × (Int × Unit)))))) : (List Int) → Ex × St := fun x => (.exit 0, stOf [(5, (.ref (7, 0) []))] [((7, 0), some ⟨false, (.sl (.int .i64)), .own, x⟩)])
noncomputable def i_Gather_front_l3_D (s : St) : Tre (Ex × St) :=
  asPtr (4, 0) [] (s.tmps 2) <|
  asRef (7, 0) [] (s.tmps 5) <|
  asImm (.sl (.int .i64)) (s.tmps 9) fun z5 d4 =>
  asImmZ true (.int .i64) (s.tmps 10) fun d7 =>
  asImmZ true (.int .i64) (s.tmps 11) fun d9 =>
  asRoot true kGather (s.roots (4, 0)) fun m11 d12 =>
  asMImm m11 fun z13 =>
  asRoot false (.sl (.int .i64)) (s.roots (7, 0)) fun m15 d16 =>
  asM .own m15 <|
  .mat (loopF (i_Gather_front_l3 d4 d7 d12) (d9, d16)) fun x => .ret (i_Gather_front_l3_out z5 z13 d4 d7 d12 x)
noncomputable def i_Gather_front_l3_L : LoopI := ⟨([2, 5, 9, 10, 11], [(4, 0), (7, 0)]), ([5], [(7, 0)]), i_Gather_front_l3_D⟩
noncomputable def i_Gather_front_A : List (Nat × LoopI) := [(3, i_Gather_front_l3_L)]
set_option maxRecDepth 100000 in
theorem i_Gather_front_l3_step : ∀ (z3_0 : Bool) (z3_1 : Bool) (h3_0_0 : (List Int)) (h3_0_1 : Int) (h3_0_3 : (Int × (Int × ((List Int) × (Int × (Int × Unit)))))) (x : (Int × (List Int))) (c : St → Option (Ex × St)), den i_Gather_front_V i_Gather_front_A (loopAt i_Gather_front_b 0) (i_Gather_front_l3_mk z3_0 z3_1 h3_0_0 h3_0_1 h3_0_3 x) (roundK i_Gather_front_l3_L.kp i_Gather_front_l3_L.kx c) = (i_Gather_front_l3 h3_0_0 h3_0_1 h3_0_3 x).run (roundR (i_Gather_front_l3_mk z3_0 z3_1 h3_0_0 h3_0_1 h3_0_3) (i_Gather_front_l3_out z3_0 z3_1 h3_0_0 h3_0_1 h3_0_3) c) := fun _ _ _ _ _ _ _ => by
  kernel_rfl
theorem i_Gather_front_l3_ok : LoopOK i_Gather_front_V i_Gather_front_A (loopAt i_Gather_front_b 0) i_Gather_front_l3_L := loopOK_of fun s e s' h => by
  generalize hs : restrict i_Gather_front_l3_L.kp s = s1 at h
  have h : (i_Gather_front_l3_D s1).run some = some (e, s') := h
  obtain ⟨e1, h_0⟩ := asPtr_spec h
  obtain ⟨e2, h_1⟩ := asRef_spec h_0
  obtain ⟨z5, d4, e3, h_2⟩ := asImm_spec h_1
  obtain ⟨d7, e6, h_3⟩ := asImmZ_spec h_2
  obtain ⟨d9, e8, h_4⟩ := asImmZ_spec h_3
  obtain ⟨m11, d12, e10, h_5⟩ := asRoot_spec h_4
  obtain ⟨z13, rfl, h_6⟩ := asMImm_spec h_5
  obtain ⟨m15, d16, e14, h_7⟩ := asRoot_spec h_6
  obtain ⟨rfl, h_8⟩ := asM_spec h_7
  obtain ⟨y, hy, hz⟩ := mat_ret h_8
  refine ⟨_, _, i_Gather_front_l3_mk z5 z13 d4 d7 d12, i_Gather_front_l3_out z5 z13 d4 d7 d12, i_Gather_front_l3 d4 d7 d12, (d9, d16), y, ?_, hy, ?_, i_Gather_front_l3_step z5 z13 d4 d7 d12⟩
  · subst hs; exact restrict_eq (T := [(2, (.ptr (4, 0) [])), (5, (.ref (7, 0) [])), (9, (.imm z5 (.sl (.int .i64)) d4)), (10, (.imm true (.int .i64) d7)), (11, (.imm true (.int .i64) d9))]) (U := [((4, 0), some ⟨true, kGather, (.imm z13), d12⟩), ((7, 0), some ⟨false, (.sl (.int .i64)), .own, d16⟩)]) rfl rfl ⟨e1, e2, e3, e6, e8, trivial⟩ ⟨e10, e14, trivial⟩
  · exact Option.some.inj hz
noncomputable def i_Gather_front_I : FnI := ⟨i_Gather_front_b, Try.f97.results.toList, Try.f97.resultTypes.toList, i_Gather_front_A⟩
noncomputable def i_Gather_front_out (_zp0 : Bool) (_zp1 : Bool) (_p0 : (Int × (Int × ((List Int) × (Int × (Int × Unit)))))) (_p1 : (List Int)) : (List Int) → CallOut := fun r => ⟨(.ref (1, 0) []), [], [⟨false, (.sl (.int .i64)), .own, r⟩]⟩
set_option maxRecDepth 100000 in
theorem i_Gather_front_eq : ∀ (zp0 : Bool) (zp1 : Bool) (p0 : (Int × (Int × ((List Int) × (Int × (Int × Unit)))))) (p1 : (List Int)), denFn i_Gather_front_V i_Gather_front_I ⟨[(.imm zp0 kGather p0), (.imm zp1 (.sl (.int .i64)) p1)], []⟩ = (i_Gather_front p0 p1).run fun r => some (i_Gather_front_out zp0 zp1 p0 p1 r) := fun _ _ _ _ => by kernel_rfl
noncomputable def i_Gather_front_G (av : List AV) (rs : List Root) : Tre CallOut :=
  asCons av fun a0_ av0 =>
  asCons av0 fun a1_ av1 =>
  asEnd av1 <|
  asEnd rs <|
  asImm kGather a0_ fun z2 d1 =>
  asImm (.sl (.int .i64)) a1_ fun z4 d3 =>
  .mat (frontR d1 d3) fun r => .ret (i_Gather_front_out z2 z4 d1 d3 r)
noncomputable def i_Gather_front_c : Ctr := ⟨[], fun ci => i_Gather_front_G ci.args ci.roots⟩
theorem i_Gather_front_env : EnvOK Try.prog i_Gather_front_V := envOK_nil
set_option maxRecDepth 100000 in
theorem i_Gather_front_ok : Contract Try.prog 97 i_Gather_front_c := by
  have hl : LoopsOK i_Gather_front_V i_Gather_front_A i_Gather_front_b := (loopsOK_all (n := 1) (by kernel_rfl) fun k hk => by
      match k, hk with
      | 0, _ => exact loopOK_at (id := 3) (L := i_Gather_front_l3_L) (by kernel_rfl) (by kernel_rfl) i_Gather_front_l3_ok)
  refine (contract_of (F := i_Gather_front_I) tau_tys i_Gather_front_env Try.func97 (by kernel_rfl) (by kernel_rfl) (by kernel_rfl) hl []).weaken ?_
  rintro ⟨av, rs⟩ co h
  have h : (i_Gather_front_G av rs).run some = some co := h
  obtain ⟨a0_, av0, rfl, h_0⟩ := asCons_spec h
  obtain ⟨a1_, av1, rfl, h_1⟩ := asCons_spec h_0
  obtain ⟨rfl, h_2⟩ := asEnd_spec h_1
  obtain ⟨rfl, h_3⟩ := asEnd_spec h_2
  obtain ⟨z2, d1, rfl, h_4⟩ := asImm_spec h_3
  obtain ⟨z4, d3, rfl, h_5⟩ := asImm_spec h_4
  exact fin_opt (i_Gather_front_eq z2 z4 d1 d3) (i_Gather_front_spec d1 d3) h_5

end Go.Proofs.Ytddaclhjnkimfaa

namespace Go.Proofs.Ytddaclhjnkimfaa
open Go Go.Abs Go.Proofs

/-! function 66: (*loop.example/g01144/impl.works).rank -/
noncomputable def i_works_rank_40d4 (p0 : (((List ((List Int) × ((List Int) × Unit))) × ((List (Int × (Int × Unit))) × Unit)) × ((Int × (Int × ((List Int) × (Int × (Int × Unit))))) × Unit))) (p1 : Int) : Tre Int :=
  .ite (0 ≤ p1 ∧ p1 < (p0.1.1.length : Int)) <|
  .mat (p0.1.1[p1.toNat]?) fun x1 =>
  .mat (frontR p0.2.1 x1.1) fun r2 =>
  .mat (echA r2) fun r3 =>
  .ret (r3.length : Int)
noncomputable def i_works_rank_40d4_F (p0 : (((List ((List Int) × ((List Int) × Unit))) × ((List (Int × (Int × Unit))) × Unit)) × ((Int × (Int × ((List Int) × (Int × (Int × Unit))))) × Unit))) (p1 : Int) : Option Int := (i_works_rank_40d4 p0 p1).run some
/-- the rows of a station of a plant -/
def rowsP (p : P8) (s : Int) : List Int := match p.1[s.toNat]? with
  | some x => x.1
  | none => []
def okW (k : Nat) (s : Int) (p : P8 × (G8 × Unit)) : Bool := isG p.2.1 && okP k p.2.1 p.1 && inR s 0 (statG p.2.1 - 1)
noncomputable def wrankR (p : P8 × (G8 × Unit)) (s : Int) : Option Int := askO (okW 1000 s p) (rankM p.2.1 (rowsP p.1 s))
theorem okW_at {k : Nat} {s : Int} {p : P8 × (G8 × Unit)} (h : okW k s p = true) : ∃ (i : Nat) (x : List Int × List Int × Unit), s = (i : Int) ∧ p.1.1[i]? = some x ∧ i < p.1.1.length ∧ okS k (colsG p.2.1) x.1 = true ∧ isG p.2.1 = true := by
  unfold okW at h
  simp only [Bool.and_eq_true, inR_iff] at h
  obtain ⟨⟨hg, hp⟩, h1, h2⟩ := h
  obtain ⟨i, rfl⟩ := Int.eq_ofNat_of_zero_le h1
  obtain ⟨l1, l2, _, _⟩ := okP_spec hp
  have hi : i < p.1.1.length := by omega
  exact ⟨i, _, rfl, List.getElem?_eq_getElem hi, hi, (l2 _ (List.getElem_mem hi)).1, hg⟩
theorem i_works_rank_40d4_spec (p1 : P8 × (G8 × Unit)) (p0 : Int) (y : Int) (h : wrankR p1 p0 = some y) : i_works_rank_40d4_F p1 p0 = some y := by
  obtain ⟨hok, rfl⟩ := askO_some h
  obtain ⟨i, x, rfl, hx, hi, hk, hg⟩ := okW_at hok
  have hb := isG_spec hg
  have hlen := (okS_spec.1 hk).1
  have hr : okRows 62 x.1 = true := okS_rows hk (by omega) (by have := (colsG_le hg).1; omega)
  unfold i_works_rank_40d4_F i_works_rank_40d4 rowsP
  simp only [Int.toNat_natCast, hx]
  rw [Tre.run_ite, if_pos ⟨by omega, by omega⟩, run_some_mat rfl, run_some_mat (show frontR p1.2.1 x.1 = some _ from askO_true (by rw [Bool.and_eq_true, inR_iff, decide_eq_true_eq]; omega)), run_some_mat (show echA (x.1.map (headW p1.2.1)) = some _ from askO_true (heads_ok (by omega) hr).2)]
  rfl

noncomputable def i_works_rank_40d4_V : Env := ⟨tau, [(97, i_Gather_front_c), (82, i_echelon_c), (52, i_size_int64_c)], []⟩
noncomputable def i_works_rank_40d4_b : Code := (Try.f66.body).getD .skip
noncomputable def i_works_rank_40d4_I : FnI := ⟨i_works_rank_40d4_b, Try.f66.results.toList, Try.f66.resultTypes.toList, []⟩
noncomputable def i_works_rank_40d4_out (_zp0 : Bool) (_p0 : (((List ((List Int) × ((List Int) × Unit))) × ((List (Int × (Int × Unit))) × Unit)) × ((Int × (Int × ((List Int) × (Int × (Int × Unit))))) × Unit))) (_p1 : Int) : Int → CallOut := fun r => ⟨(.imm true (.int .i64) r), [], []⟩
set_option maxRecDepth 100000 in
theorem i_works_rank_40d4_eq : ∀ (zp0 : Bool) (p0 : (((List ((List Int) × ((List Int) × Unit))) × ((List (Int × (Int × Unit))) × Unit)) × ((Int × (Int × ((List Int) × (Int × (Int × Unit))))) × Unit))) (p1 : Int), denFn i_works_rank_40d4_V i_works_rank_40d4_I ⟨[(.iptr zp0 (.sl kWorks) ([p0]) [.idx 0]), (.imm true (.int .i64) p1)], []⟩ = (i_works_rank_40d4 p0 p1).run fun r => some (i_works_rank_40d4_out zp0 p0 p1 r) := fun _ _ _ => by kernel_rfl
noncomputable def i_works_rank_40d4_G (av : List AV) (rs : List Root) : Tre CallOut :=
  asCons av fun a0_ av0 =>
  asCons av0 fun a1_ av1 =>
  asEnd av1 <|
  asEnd rs <|
  asIptr kWorks a0_ fun z1 d2 =>
  asImmZ true (.int .i64) a1_ fun d3 =>
  .mat (wrankR d2 d3) fun r => .ret (i_works_rank_40d4_out z1 d2 d3 r)
noncomputable def i_works_rank_40d4_c : Ctr := ⟨[0], fun ci => i_works_rank_40d4_G ci.args ci.roots⟩
theorem i_works_rank_40d4_env : EnvOK Try.prog i_works_rank_40d4_V := (envOK_cons i_Gather_front_ok ent97 (envOK_cons i_echelon_ok ent82 (envOK_cons i_size_int64_ok ent52 envOK_nil)))
set_option maxRecDepth 100000 in
theorem i_works_rank_40d4_ok : Contract Try.prog 66 i_works_rank_40d4_c := by
  have hl : LoopsOK i_works_rank_40d4_V [] i_works_rank_40d4_b := loopsOK_nil (by kernel_rfl)
  refine (contract_of (F := i_works_rank_40d4_I) tau_tys i_works_rank_40d4_env Try.func66 (by kernel_rfl) (by kernel_rfl) (by kernel_rfl) hl [0]).weaken ?_
  rintro ⟨av, rs⟩ co h
  have h : (i_works_rank_40d4_G av rs).run some = some co := h
  obtain ⟨a0_, av0, rfl, h_0⟩ := asCons_spec h
  obtain ⟨a1_, av1, rfl, h_1⟩ := asCons_spec h_0
  obtain ⟨rfl, h_2⟩ := asEnd_spec h_1
  obtain ⟨rfl, h_3⟩ := asEnd_spec h_2
  obtain ⟨z1, d2, rfl, h_4⟩ := asIptr_spec h_3
  obtain ⟨d3, rfl, h_5⟩ := asImmZ_spec h_4
  exact fin_opt (i_works_rank_40d4_eq z1 d2 d3) (i_works_rank_40d4_spec d2 d3) h_5

end Go.Proofs.Ytddaclhjnkimfaa

namespace Go.Proofs.Ytddaclhjnkimfaa
open Go Go.Abs Go.Proofs

/-! function 67: (*loop.example/g01144/impl.works).spoilt -/
noncomputable def i_works_spoilt_40d4 (p0 : (((List ((List Int) × ((List Int) × Unit))) × ((List (Int × (Int × Unit))) × Unit)) × ((Int × (Int × ((List Int) × (Int × (Int × Unit))))) × Unit))) (p1 : Int) : Tre Int :=
  .ite (0 ≤ p1 ∧ p1 < (p0.1.1.length : Int)) <|
  .mat (p0.1.1[p1.toNat]?) fun x1 =>
  .mat (wrankR p0 p1) fun r2 =>
  let v3 := iwrap .i64 ((x1.1.length : Int) - r2)
  .ret v3
noncomputable def i_works_spoilt_40d4_F (p0 : (((List ((List Int) × ((List Int) × Unit))) × ((List (Int × (Int × Unit))) × Unit)) × ((Int × (Int × ((List Int) × (Int × (Int × Unit))))) × Unit))) (p1 : Int) : Option Int := (i_works_spoilt_40d4 p0 p1).run some
noncomputable def wspR (p : P8 × (G8 × Unit)) (s : Int) : Option Int := askO (okW 1000 s p) (iwrap .i64 (spoiltM p.2.1 (rowsP p.1 s)))
theorem i_works_spoilt_40d4_spec (p0 : P8 × (G8 × Unit)) (p1 : Int) (y : Int) (h : wspR p0 p1 = some y) : i_works_spoilt_40d4_F p0 p1 = some y := by
  obtain ⟨hok, rfl⟩ := askO_some h
  have hw : wrankR p0 p1 = some _ := askO_true hok
  obtain ⟨i, x, rfl, hx, hi, hk, hg⟩ := okW_at hok
  have hrows : rowsP p0.1 (i : Int) = x.1 := by unfold rowsP; rw [Int.toNat_natCast, hx]
  unfold i_works_spoilt_40d4_F i_works_spoilt_40d4
  rw [Tre.run_ite, if_pos ⟨by omega, by omega⟩, Int.toNat_natCast, run_some_mat hx, run_some_mat hw]
  unfold spoiltM
  rw [hrows]
  rfl

noncomputable def i_works_spoilt_40d4_V : Env := ⟨tau, [(52, i_size_int64_c), (66, i_works_rank_40d4_c)], []⟩
noncomputable def i_works_spoilt_40d4_b : Code := (Try.f67.body).getD .skip
noncomputable def i_works_spoilt_40d4_I : FnI := ⟨i_works_spoilt_40d4_b, Try.f67.results.toList, Try.f67.resultTypes.toList, []⟩
noncomputable def i_works_spoilt_40d4_out (_zp0 : Bool) (_p0 : (((List ((List Int) × ((List Int) × Unit))) × ((List (Int × (Int × Unit))) × Unit)) × ((Int × (Int × ((List Int) × (Int × (Int × Unit))))) × Unit))) (_p1 : Int) : Int → CallOut := fun r => ⟨(.imm true (.int .i64) r), [], []⟩
set_option maxRecDepth 100000 in
theorem i_works_spoilt_40d4_eq : ∀ (zp0 : Bool) (p0 : (((List ((List Int) × ((List Int) × Unit))) × ((List (Int × (Int × Unit))) × Unit)) × ((Int × (Int × ((List Int) × (Int × (Int × Unit))))) × Unit))) (p1 : Int), denFn i_works_spoilt_40d4_V i_works_spoilt_40d4_I ⟨[(.iptr zp0 (.sl kWorks) ([p0]) [.idx 0]), (.imm true (.int .i64) p1)], []⟩ = (i_works_spoilt_40d4 p0 p1).run fun r => some (i_works_spoilt_40d4_out zp0 p0 p1 r) := fun _ _ _ => by kernel_rfl
noncomputable def i_works_spoilt_40d4_G (av : List AV) (rs : List Root) : Tre CallOut :=
  asCons av fun a0_ av0 =>
  asCons av0 fun a1_ av1 =>
  asEnd av1 <|
  asEnd rs <|
  asIptr kWorks a0_ fun z1 d2 =>
  asImmZ true (.int .i64) a1_ fun d3 =>
  .mat (wspR d2 d3) fun r => .ret (i_works_spoilt_40d4_out z1 d2 d3 r)
noncomputable def i_works_spoilt_40d4_c : Ctr := ⟨[0], fun ci => i_works_spoilt_40d4_G ci.args ci.roots⟩
theorem i_works_spoilt_40d4_env : EnvOK Try.prog i_works_spoilt_40d4_V := (envOK_cons i_size_int64_ok ent52 (envOK_cons i_works_rank_40d4_ok ent66 envOK_nil))
set_option maxRecDepth 100000 in
theorem i_works_spoilt_40d4_ok : Contract Try.prog 67 i_works_spoilt_40d4_c := by
  have hl : LoopsOK i_works_spoilt_40d4_V [] i_works_spoilt_40d4_b := loopsOK_nil (by kernel_rfl)
  refine (contract_of (F := i_works_spoilt_40d4_I) tau_tys i_works_spoilt_40d4_env Try.func67 (by kernel_rfl) (by kernel_rfl) (by kernel_rfl) hl [0]).weaken ?_
  rintro ⟨av, rs⟩ co h
  have h : (i_works_spoilt_40d4_G av rs).run some = some co := h
  obtain ⟨a0_, av0, rfl, h_0⟩ := asCons_spec h
  obtain ⟨a1_, av1, rfl, h_1⟩ := asCons_spec h_0
  obtain ⟨rfl, h_2⟩ := asEnd_spec h_1
  obtain ⟨rfl, h_3⟩ := asEnd_spec h_2
  obtain ⟨z1, d2, rfl, h_4⟩ := asIptr_spec h_3
  obtain ⟨d3, rfl, h_5⟩ := asImmZ_spec h_4
  exact fin_opt (i_works_spoilt_40d4_eq z1 d2 d3) (i_works_spoilt_40d4_spec d2 d3) h_5

end Go.Proofs.Ytddaclhjnkimfaa

namespace Go.Proofs.Ytddaclhjnkimfaa
open Go Go.Abs Go.Proofs

/-! function 54: (*loop.example/g01144/impl.works).data -/
noncomputable def i_works_data_40d4_l7 (h7_0_0 : (((List ((List Int) × ((List Int) × Unit))) × ((List (Int × (Int × Unit))) × Unit)) × ((Int × (Int × ((List Int) × (Int × (Int × Unit))))) × Unit))) (h7_0_1 : Int) (h7_0_4 : (List Int)) : (Int × (List Int)) → Tre ((Int × (List Int)) ⊕ (List Int)) := fun s7 =>
  .cond (decide (s7.1 < h7_0_1))
    (.ite (0 ≤ s7.1 ∧ s7.1 < (h7_0_4.length : Int)) <|
    .mat (h7_0_4[s7.1.toNat]?) fun x5 =>
    .ite (0 ≤ h7_0_0.2.1.1) <|
    let v6 := ishr .i64 x5 h7_0_0.2.1.1
    .ite ((s7.2.length + 1) * 8 ≤ appendMax ∧ 1 ≤ 8) <|
    .ret (.inl (iwrap .i64 (s7.1 + 1), s7.2 ++ ([v6]))))
    (.ret (.inr s7.2))
noncomputable def i_works_data_40d4 (p0 : (((List ((List Int) × ((List Int) × Unit))) × ((List (Int × (Int × Unit))) × Unit)) × ((Int × (Int × ((List Int) × (Int × (Int × Unit))))) × Unit))) (p1 : Int) : Tre (Int × (List Int)) :=
  .mat (wspR p0 p1) fun r1 =>
  .cond (!decide (r1 = 0))
    (.ret (8, []))
    (.mat (wrankR p0 p1) fun r2 =>
    .cond (decide (r2 < p0.2.1.1))
      (.ret (6, []))
      (.ite (0 ≤ p1 ∧ p1 < (p0.1.1.length : Int)) <|
      .mat (p0.1.1[p1.toNat]?) fun x3 =>
      .mat (echA x3.1) fun r4 =>
      .mat (loopF (i_works_data_40d4_l7 p0 (r4.length : Int) r4) (0, [])) fun l7 =>
      .ret (0, l7)))
noncomputable def i_works_data_40d4_F (p0 : (((List ((List Int) × ((List Int) × Unit))) × ((List (Int × (Int × Unit))) × Unit)) × ((Int × (Int × ((List Int) × (Int × (Int × Unit))))) × Unit))) (p1 : Int) : Option (Int × (List Int)) := (i_works_data_40d4 p0 p1).run some
noncomputable def wdatR (p : P8 × (G8 × Unit)) (s : Int) : Option (Int × List Int) := askO (okW 1000 s p) (datM p.2.1 (rowsP p.1 s))
theorem i_works_data_40d4_spec (p0 : P8 × (G8 × Unit)) (p1 : Int) (y : Int × List Int) (h : wdatR p0 p1 = some y) : i_works_data_40d4_F p0 p1 = some y := by
  obtain ⟨hok, rfl⟩ := askO_some h
  have hs : wspR p0 p1 = some _ := askO_true hok
  have hw : wrankR p0 p1 = some _ := askO_true hok
  obtain ⟨i, x, rfl, hx, hi, hk, hg⟩ := okW_at hok
  have hb := isG_spec hg
  have hrows : rowsP p0.1 (i : Int) = x.1 := by unfold rowsP; rw [Int.toNat_natCast, hx]
  rw [hrows] at hs hw ⊢
  have hr : okRows 62 x.1 = true := okS_rows hk (by omega) (by have := (colsG_le hg).1; omega)
  have hle : (echI x.1).length ≤ x.1.length := (rank_bounds (g := p0.2.1) (by omega) hr).2
  have hl := (okS_spec.1 hk).1
  unfold i_works_data_40d4_F i_works_data_40d4 datM
  rw [run_some_mat hs, Tre.run_cond]
  by_cases h0 : iwrap .i64 (spoiltM p0.2.1 x.1) = 0
  · rw [decide_eq_true h0, Bool.not_true, cond_false, cond_true, run_some_mat hw, Tre.run_cond]
    cases decide (rankM p0.2.1 x.1 < p0.2.1.1)
    · rw [cond_false, cond_false, Tre.run_ite, if_pos ⟨by omega, by omega⟩, Int.toNat_natCast, run_some_mat hx, run_some_mat (show echA x.1 = some (echI x.1) from askO_true hr)]
      generalize echI x.1 = E at hle
      have := fold_loop (xs := E) (step := i_works_data_40d4_l7 p0 (E.length : Int) E) (fun i acc => ((i : Int), acc)) (fun _ acc x => .inl (acc ++ [tailW p0.2.1 x])) id (fun i acc => acc.length = i) (by
        intro i acc x hx hI
        have hi : i < E.length := (List.getElem?_eq_some_iff.1 hx).1
        refine ⟨?_, fun a ha => by cases ha; simp [hI]⟩
        unfold i_works_data_40d4_l7
        rw [run_inb hx, Tre.run_ite, if_pos (by omega)]
        dsimp only
        rw [Tre.run_ite, if_pos (by unfold appendMax; omega), Tre.run_ret, iwrap_succ (by omega)]
        rfl)
        (by
        intro acc _
        unfold i_works_data_40d4_l7
        exact run_out) E 0 [] rfl (Nat.zero_le _) rfl
      rw [foldE_heads] at this
      have h1 : loopF (i_works_data_40d4_l7 p0 (E.length : Int) E) (0, []) = some (E.map (tailW p0.2.1)) := this
      rw [run_some_mat h1]
      rfl
    · rfl
  · rw [decide_eq_false h0]; rfl

noncomputable def i_works_data_40d4_V : Env := ⟨tau, [(67, i_works_spoilt_40d4_c), (66, i_works_rank_40d4_c), (82, i_echelon_c)], []⟩
noncomputable def i_works_data_40d4_b : Code := (Try.f54.body).getD .skip
noncomputable def i_works_data_40d4_l7_mk (z7_0 : Bool) (h7_0_0 : (((List ((List Int) × ((List Int) × Unit))) × ((List (Int × (Int × Unit))) × Unit)) × ((Int × (Int × ((List Int) × (Int × (Int × Unit))))) × Unit))) (h7_0_1 : Int) (h7_0_4 : (List Int)) : (Int × (List Int)) → St := fun x => stOf [(0, (.iptr z7_0 (.sl kWorks) ([h7_0_0]) [.idx 0])), (6, (.ref (8, 0) [])), (34, (.ref (36, 0) [])), (35, (.imm true (.int .i64) h7_0_1)), (36, (.imm true (.int .i64) x.1))] [((8, 0), some ⟨false, (.sl (.int .i64)), .own, x.2⟩), ((36, 0), some ⟨false, (.sl (.int .i64)), .own, h7_0_4⟩)]
noncomputable def i_works_data_40d4_l7_out (_z7_0 : Bool) (_h7_0_0 : (((List ((List Int) × ((List Int) × Unit))) × ((List (Int × (Int × Unit))) × Unit)) × ((Int × (Int × ((List Int) × (Int × (Int × Unit))))) × Unit))) (_h7_0_1 : Int) (_h7_0_4 : (List Int)) : (List Int) → Ex × St := fun x => (.exit 1, stOf [(6, (.ref (8, 0) []))] [((8, 0), some ⟨false, (.sl (.int .i64)), .own, x⟩)])
noncomputable def i_works_data_40d4_l7_D (s : St) : Tre (Ex × St) :=
  asIptr kWorks (s.tmps 0) fun z2 d3 =>
  asRef (8, 0) [] (s.tmps 6) <|
  asRef (36, 0) [] (s.tmps 34) <|
  asImmZ true (.int .i64) (s.tmps 35) fun d7 =>
  asImmZ true (.int .i64) (s.tmps 36) fun d9 =>
  asRoot false (.sl (.int .i64)) (s.roots (8, 0)) fun m11 d12 =>
  asM .own m11 <|
  asRoot false (.sl (.int .i64)) (s.roots (36, 0)) fun m14 d15 =>
  asM .own m14 <|
  .mat (loopF (i_works_data_40d4_l7 d3 d7 d15) (d9, d12)) fun x => .ret (i_works_data_40d4_l7_out z2 d3 d7 d15 x)
noncomputable def i_works_data_40d4_l7_L : LoopI := ⟨([0, 6, 34, 35, 36], [(8, 0), (36, 0)]), ([6], [(8, 0)]), i_works_data_40d4_l7_D⟩
noncomputable def i_works_data_40d4_A : List (Nat × LoopI) := [(7, i_works_data_40d4_l7_L)]
set_option maxRecDepth 100000 in
theorem i_works_data_40d4_l7_step : ∀ (z7_0 : Bool) (h7_0_0 : (((List ((List Int) × ((List Int) × Unit))) × ((List (Int × (Int × Unit))) × Unit)) × ((Int × (Int × ((List Int) × (Int × (Int × Unit))))) × Unit))) (h7_0_1 : Int) (h7_0_4 : (List Int)) (x : (Int × (List Int))) (c : St → Option (Ex × St)), den i_works_data_40d4_V i_works_data_40d4_A (loopAt i_works_data_40d4_b 0) (i_works_data_40d4_l7_mk z7_0 h7_0_0 h7_0_1 h7_0_4 x) (roundK i_works_data_40d4_l7_L.kp i_works_data_40d4_l7_L.kx c) = (i_works_data_40d4_l7 h7_0_0 h7_0_1 h7_0_4 x).run (roundR (i_works_data_40d4_l7_mk z7_0 h7_0_0 h7_0_1 h7_0_4) (i_works_data_40d4_l7_out z7_0 h7_0_0 h7_0_1 h7_0_4) c) := fun _ _ _ _ _ _ => by
  kernel_rfl
theorem i_works_data_40d4_l7_ok : LoopOK i_works_data_40d4_V i_works_data_40d4_A (loopAt i_works_data_40d4_b 0) i_works_data_40d4_l7_L := loopOK_of fun s e s' h => by
  generalize hs : restrict i_works_data_40d4_l7_L.kp s = s1 at h
  have h : (i_works_data_40d4_l7_D s1).run some = some (e, s') := h
  obtain ⟨z2, d3, e1, h_0⟩ := asIptr_spec h
  obtain ⟨e4, h_1⟩ := asRef_spec h_0
  obtain ⟨e5, h_2⟩ := asRef_spec h_1
  obtain ⟨d7, e6, h_3⟩ := asImmZ_spec h_2
  obtain ⟨d9, e8, h_4⟩ := asImmZ_spec h_3
  obtain ⟨m11, d12, e10, h_5⟩ := asRoot_spec h_4
  obtain ⟨rfl, h_6⟩ := asM_spec h_5
  obtain ⟨m14, d15, e13, h_7⟩ := asRoot_spec h_6
  obtain ⟨rfl, h_8⟩ := asM_spec h_7
  obtain ⟨y, hy, hz⟩ := mat_ret h_8
  refine ⟨_, _, i_works_data_40d4_l7_mk z2 d3 d7 d15, i_works_data_40d4_l7_out z2 d3 d7 d15, i_works_data_40d4_l7 d3 d7 d15, (d9, d12), y, ?_, hy, ?_, i_works_data_40d4_l7_step z2 d3 d7 d15⟩
  · subst hs; exact restrict_eq (T := [(0, (.iptr z2 (.sl kWorks) ([d3]) [.idx 0])), (6, (.ref (8, 0) [])), (34, (.ref (36, 0) [])), (35, (.imm true (.int .i64) d7)), (36, (.imm true (.int .i64) d9))]) (U := [((8, 0), some ⟨false, (.sl (.int .i64)), .own, d12⟩), ((36, 0), some ⟨false, (.sl (.int .i64)), .own, d15⟩)]) rfl rfl ⟨e1, e4, e5, e6, e8, trivial⟩ ⟨e10, e13, trivial⟩
  · exact Option.some.inj hz
noncomputable def i_works_data_40d4_I : FnI := ⟨i_works_data_40d4_b, Try.f54.results.toList, Try.f54.resultTypes.toList, i_works_data_40d4_A⟩
noncomputable def i_works_data_40d4_out (_zp0 : Bool) (_p0 : (((List ((List Int) × ((List Int) × Unit))) × ((List (Int × (Int × Unit))) × Unit)) × ((Int × (Int × ((List Int) × (Int × (Int × Unit))))) × Unit))) (_p1 : Int) : (Int × (List Int)) → CallOut := fun r => ⟨(.tcons (.ref (1, 0) []) (.tcons (.imm true (.int .i64) r.1) .tnil)), [], [⟨false, (.sl (.int .i64)), .own, r.2⟩]⟩
set_option maxRecDepth 100000 in
theorem i_works_data_40d4_eq : ∀ (zp0 : Bool) (p0 : (((List ((List Int) × ((List Int) × Unit))) × ((List (Int × (Int × Unit))) × Unit)) × ((Int × (Int × ((List Int) × (Int × (Int × Unit))))) × Unit))) (p1 : Int), denFn i_works_data_40d4_V i_works_data_40d4_I ⟨[(.iptr zp0 (.sl kWorks) ([p0]) [.idx 0]), (.imm true (.int .i64) p1)], []⟩ = (i_works_data_40d4 p0 p1).run fun r => some (i_works_data_40d4_out zp0 p0 p1 r) := fun _ _ _ => by kernel_rfl
noncomputable def i_works_data_40d4_G (av : List AV) (rs : List Root) : Tre CallOut :=
  asCons av fun a0_ av0 =>
  asCons av0 fun a1_ av1 =>
  asEnd av1 <|
  asEnd rs <|
  asIptr kWorks a0_ fun z1 d2 =>
  asImmZ true (.int .i64) a1_ fun d3 =>
  .mat (wdatR d2 d3) fun r => .ret (i_works_data_40d4_out z1 d2 d3 r)
noncomputable def i_works_data_40d4_c : Ctr := ⟨[0], fun ci => i_works_data_40d4_G ci.args ci.roots⟩
theorem i_works_data_40d4_env : EnvOK Try.prog i_works_data_40d4_V := (envOK_cons i_works_spoilt_40d4_ok ent67 (envOK_cons i_works_rank_40d4_ok ent66 (envOK_cons i_echelon_ok ent82 envOK_nil)))
set_option maxRecDepth 100000 in
theorem i_works_data_40d4_ok : Contract Try.prog 54 i_works_data_40d4_c := by
  have hl : LoopsOK i_works_data_40d4_V i_works_data_40d4_A i_works_data_40d4_b := (loopsOK_all (n := 1) (by kernel_rfl) fun k hk => by
      match k, hk with
      | 0, _ => exact loopOK_at (id := 7) (L := i_works_data_40d4_l7_L) (by kernel_rfl) (by kernel_rfl) i_works_data_40d4_l7_ok)
  refine (contract_of (F := i_works_data_40d4_I) tau_tys i_works_data_40d4_env Try.func54 (by kernel_rfl) (by kernel_rfl) (by kernel_rfl) hl [0]).weaken ?_
  rintro ⟨av, rs⟩ co h
  have h : (i_works_data_40d4_G av rs).run some = some co := h
  obtain ⟨a0_, av0, rfl, h_0⟩ := asCons_spec h
  obtain ⟨a1_, av1, rfl, h_1⟩ := asCons_spec h_0
  obtain ⟨rfl, h_2⟩ := asEnd_spec h_1
  obtain ⟨rfl, h_3⟩ := asEnd_spec h_2
  obtain ⟨z1, d2, rfl, h_4⟩ := asIptr_spec h_3
  obtain ⟨d3, rfl, h_5⟩ := asImmZ_spec h_4
  exact fin_opt (i_works_data_40d4_eq z1 d2 d3) (i_works_data_40d4_spec d2 d3) h_5

end Go.Proofs.Ytddaclhjnkimfaa
