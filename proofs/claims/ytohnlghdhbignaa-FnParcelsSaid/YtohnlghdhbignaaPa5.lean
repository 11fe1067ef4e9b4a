/- Part 5 of the proof of FnParcels. -/
import Derived.Test.YtohnlghdhbignaaPa4
namespace Go.Proofs.Ytohnlghdhbignaa
open Go Go.Abs Go.Proofs

-- shared
/-- it ends, and well -/
def Fine {α : Type} (t : Tre α) (Q : α → Prop) : Prop := ∃ a, t.run some = some a ∧ Q a
theorem Fine.ret {α : Type} {a : α} {Q : α → Prop} (h : Q a) : Fine (.ret a) Q := ⟨a, rfl, h⟩
theorem Fine.cond {α : Type} {b : Bool} {t f : Tre α} {Q : α → Prop} (ht : b = true → Fine t Q) (hf : b = false → Fine f Q) : Fine (.cond b t f) Q := by
  cases b
  · exact hf rfl
  · exact ht rfl
theorem Fine.condp {α : Type} {p : Prop} [Decidable p] {t f : Tre α} {Q : α → Prop} (ht : p → Fine t Q) (hf : ¬ p → Fine f Q) : Fine (.cond (decide p) t f) Q :=
  Fine.cond (fun h => ht (of_decide_eq_true h)) (fun h => hf (of_decide_eq_false h))
theorem Fine.ite {α : Type} {p : Prop} [h : Decidable p] {t : Tre α} {Q : α → Prop} (hp : p) (ht : p → Fine t Q) : Fine (.ite p t) Q := by
  obtain ⟨a, h1, h2⟩ := ht hp
  exact ⟨a, by rw [Tre.run_ite, if_pos hp]; exact h1, h2⟩
theorem Fine.ifn {α : Type} {p : Prop} [h : Decidable p] {t : Tre α} {Q : α → Prop} (hp : ¬ p) (ht : Fine t Q) : Fine (.ifn p t) Q := by
  obtain ⟨a, h1, h2⟩ := ht
  exact ⟨a, by rw [Tre.run_ifn, if_neg hp]; exact h1, h2⟩
theorem Fine.mat {α β : Type} {o : Option β} {k : β → Tre α} {P : β → Prop} {Q : α → Prop} (h : ∃ x, o = some x ∧ P x) (hk : ∀ x, P x → Fine (k x) Q) : Fine (.mat o k) Q := by
  obtain ⟨x, rfl, hx⟩ := h
  exact hk x hx
theorem Fine.get {α β : Type} {o : Option β} {x : β} {k : β → Tre α} {Q : α → Prop} (h : o = some x) (hk : Fine (k x) Q) : Fine (.mat o k) Q := by
  subst h; exact hk
theorem Fine.at {α β : Type} {xs : List β} {i : Int} {k : β → Tre α} {Q : α → Prop} (hi : 0 ≤ i ∧ i < (xs.length : Int)) (hk : ∀ x, x ∈ xs → Fine (k x) Q) : Fine (.mat xs[i.toNat]? k) Q := by
  have hl : i.toNat < xs.length := by omega
  exact .get (List.getElem?_eq_getElem hl) (hk _ (List.getElem_mem hl))
theorem Fine.at0 {α β : Type} {xs : List β} {k : β → Tre α} {Q : α → Prop} (hi : 0 < xs.length) (hk : ∀ x, x ∈ xs → Fine (k x) Q) : Fine (.mat xs[0]? k) Q :=
  .get (List.getElem?_eq_getElem hi) (hk _ (List.getElem_mem hi))
theorem Fine.run {α : Type} {t : Tre α} {Q : α → Prop} (h : Fine t Q) : ∃ a, t.run some = some a ∧ Q a := h
/-! what draws -/
abbrev Src := List Int × Int × Int × Unit
def srcOK (c : Nat) (s : Src) : Prop := s.1.length ≤ 3000 ∧ (∀ x ∈ s.1, 0 ≤ x ∧ x ≤ 255) ∧ 0 ≤ s.2.1 ∧ s.2.1 ≤ (c : Int)
theorem srcOK.mono {c c' : Nat} {s : Src} (h : srcOK c s) (hc : c ≤ c') : srcOK c' s := ⟨h.1, h.2.1, h.2.2.1, by have := h.2.2.2; omega⟩
theorem and255 (a : Int) : 0 ≤ iand .u64 a 255 ∧ iand .u64 a 255 ≤ 255 := by
  have h : (BitVec.ofInt 64 a &&& BitVec.ofInt 64 255).toNat ≤ 255 := by
    rw [BitVec.toNat_and]
    exact Nat.le_trans Nat.and_le_right (by decide)
  unfold iand
  show 0 ≤ iwrap .u64 (((BitVec.ofInt 64 a &&& BitVec.ofInt 64 255).toNat : Nat) : Int) ∧ iwrap .u64 (((BitVec.ofInt 64 a &&& BitVec.ofInt 64 255).toNat : Nat) : Int) ≤ 255
  rw [iwrap_u64 (by omega) (by omega)]
  omega
theorem next_ok {c : Nat} {s : Src} (h : srcOK c s) (hc : c ≤ 100000) : ∃ r, s_l00Src_next_6913_F s = some r ∧ ((0 ≤ r.1 ∧ r.1 ≤ 255) ∧ srcOK (c + 1) r.2) := by
  obtain ⟨h1, h2, h3, h4⟩ := h
  have hw : iwrap .i64 (s.2.1 + 1) = s.2.1 + 1 := iwrap_i64 (by omega) (by omega)
  have hsrc : ∀ v : Int, srcOK (c + 1) (s.1, iwrap .i64 (s.2.1 + 1), v, s.2.2.2) := fun v => ⟨h1, h2, by show 0 ≤ iwrap .i64 (s.2.1 + 1); omega, by show iwrap .i64 (s.2.1 + 1) ≤ ((c + 1 : Nat) : Int); omega⟩
  have hand : ∀ a : Int, 0 ≤ iwrap .i64 (iand .u64 a 255) ∧ iwrap .i64 (iand .u64 a 255) ≤ 255 := fun a => by
    have := and255 a
    rw [iwrap_i64 (by omega) (by omega)]; exact this
  unfold s_l00Src_next_6913_F s_l00Src_next_6913
  refine Fine.run (Fine.condp (fun hlt => Fine.ite ⟨h3, hlt⟩ fun hi => Fine.at hi fun x hx => ?_) (fun _ => ?_))
  · have hb := h2 x hx
    have hx1 : iwrap .i64 x = x := iwrap_i64 (by omega) (by omega)
    exact Fine.condp (fun _ => .ret ⟨by rw [hx1]; exact hb, hsrc _⟩) (fun _ => .ret ⟨hand _, hsrc _⟩)
  · exact Fine.condp (fun _ => .ret ⟨⟨Int.le_refl 0, by show (0 : Int) ≤ 255; omega⟩, hsrc _⟩) (fun _ => .ret ⟨hand _, hsrc _⟩)
theorem tmod_rng {x n : Int} (hx : 0 ≤ x) (hn : 0 < n) : 0 ≤ Int.tmod x n ∧ Int.tmod x n < n := ⟨Int.tmod_nonneg n hx, Int.tmod_lt_of_pos x hn⟩
/-- a number that is drawn -/
theorem pick_ok {n : Int} {c : Nat} {s : Src} (h : srcOK c s) (hc : c ≤ 90000) : ∃ r, s_l00Src_pick_9f69_F n s = some r ∧ ((0 ≤ r.1 ∧ (r.1 = 0 ∨ r.1 < n)) ∧ srcOK (c + 2) r.2) := by
  unfold s_l00Src_pick_9f69_F s_l00Src_pick_9f69
  refine Fine.run (Fine.condp (fun _ => .ret ⟨⟨Int.le_refl _, .inl rfl⟩, h.mono (by omega)⟩) (fun hn => Fine.mat (next_ok h (by omega)) fun x hx => Fine.condp (fun _ => Fine.mat (next_ok hx.2 (by omega)) fun y hy => ?_) (fun _ => ?_)))
  · refine Fine.ifn (by omega) (.ret ⟨?_, hy.2⟩)
    have h1 : iwrap .i64 (x.1 * 256) = x.1 * 256 := iwrap_i64 (by omega) (by omega)
    have h2 : iwrap .i64 (iwrap .i64 (x.1 * 256) + y.1) = x.1 * 256 + y.1 := by rw [h1]; exact iwrap_i64 (by omega) (by omega)
    show 0 ≤ Int.tmod (iwrap .i64 (iwrap .i64 (x.1 * 256) + y.1)) n ∧ (Int.tmod (iwrap .i64 (iwrap .i64 (x.1 * 256) + y.1)) n = 0 ∨ Int.tmod (iwrap .i64 (iwrap .i64 (x.1 * 256) + y.1)) n < n)
    rw [h2]
    have := tmod_rng (x := x.1 * 256 + y.1) (n := n) (by omega) (by omega)
    exact ⟨this.1, .inr this.2⟩
  · refine Fine.ifn (by omega) (.ret ⟨?_, hx.2.mono (by omega)⟩)
    have := tmod_rng (x := x.1) (n := n) (by omega) (by omega)
    exact ⟨this.1, .inr this.2⟩
theorem one_ok {n : Int} {c : Nat} {s : Src} (h : srcOK c s) (hc : c ≤ 90000) : ∃ r, s_l00Src_one_9f69_F n s = some r ∧ srcOK (c + 2) r.2 := by
  unfold s_l00Src_one_9f69_F s_l00Src_one_9f69
  exact Fine.run (Fine.mat (pick_ok h hc) fun x hx => .ret hx.2)
theorem kind_ok {c : Nat} {s : Src} (h : srcOK c s) (hc : c ≤ 90000) : ∃ r, s_l00Src_among_e38a_F s [1, 1, 1, 1, 1, 2, 2, 2, 2, 2, 2, 3, 4, 5, 6, 7, 8, 1, 2, 2] = some r ∧ ((1 ≤ r.1 ∧ r.1 ≤ 8) ∧ srcOK (c + 2) r.2) := by
  unfold s_l00Src_among_e38a_F s_l00Src_among_e38a
  refine Fine.run (Fine.mat (pick_ok h hc) fun x hx => Fine.ite ⟨hx.1.1, ?_⟩ fun hi => Fine.at hi fun y hy => .ret ⟨?_, hx.2⟩)
  · have h1 := hx.1.2
    simp only [List.length_cons, List.length_nil] at h1 ⊢
    omega
  · have : ∀ y ∈ ([1, 1, 1, 1, 1, 2, 2, 2, 2, 2, 2, 3, 4, 5, 6, 7, 8, 1, 2, 2] : List Int), 1 ≤ y ∧ y ≤ 8 := by decide
    exact this y hy
/-! a gathering -/
theorem inP_of {m : Nat} (hm : m ≤ 6) {x : Int} (h0 : 0 ≤ x) (h : x = 0 ∨ x < ishl .i64 1 (iwrap .u64 (m : Int))) : inP (m : Int) x = true := by
  rw [iwrap_u64 (by omega) (by omega), show (1 : Int) = ((1 : Nat) : Int) from rfl, ishl_nat (by omega) (by have := pow_le (b := m) (c := 6) hm; omega)] at h
  unfold inP
  rw [top1_nat (by omega), inR_iff]
  have := Nat.two_pow_pos m
  rw [Nat.one_mul] at h
  omega
theorem draw_data {m b : Nat} (hm : m ≤ 4) (hb : b ≤ 6) (w : Int × Int × Unit) : ∀ (n i : Nat) {c : Nat} {s : Src} {l : List Int}, i + n = m → srcOK c s → c + 2 * n ≤ 90000 → l.length = i → l.all (inP (b : Int)) = true →
    ∃ r : Src × Int × Int × List Int × Int × Int × Unit, loopF s_l08Drawn_6913_l6 ((i : Int), s, (m : Int), (b : Int), l, w) = some r ∧ (r.2.1 = (m : Int) ∧ r.2.2.1 = (b : Int) ∧ r.2.2.2.1.length = m ∧ r.2.2.2.1.all (inP (b : Int)) = true ∧ r.2.2.2.2 = w) := by
  intro n
  induction n with
  | zero =>
    intro i c s l hi hs _ hl ha
    refine ⟨(s, (m : Int), (b : Int), l, w), loopF_done ?_, rfl, rfl, by show l.length = m; omega, ha, rfl⟩
    unfold s_l08Drawn_6913_l6
    rw [Tre.run_cond, decide_eq_false (by show ¬ (i : Int) < (m : Int); omega), cond_false, Tre.run_ret]
  | succ n ih =>
    intro i c s l hi hs hc hl ha
    obtain ⟨r, hr, ⟨hr0, hr1⟩, hr2⟩ := pick_ok (n := ishl .i64 1 (iwrap .u64 (b : Int))) hs (by omega)
    have hstep : (s_l08Drawn_6913_l6 ((i : Int), s, (m : Int), (b : Int), l, w)).run some = some (.inl (((i + 1 : Nat) : Int), r.2, (m : Int), (b : Int), l ++ [r.1], w)) := by
      unfold s_l08Drawn_6913_l6
      rw [Tre.run_cond, decide_eq_true (by show (i : Int) < (m : Int); omega), cond_true, Tre.run_ite, if_pos (iwrap_u64_nonneg _)]
      dsimp only
      rw [run_some_mat hr, Tre.run_ite, if_pos (by unfold appendMax; omega), Tre.run_ret, iwrap_succ (by omega)]
    rw [loopF_step hstep]
    exact ih (i + 1) (by omega) hr2 (by omega) (by simp; omega) (by rw [List.all_append, ha, List.all_cons, inP_of hb hr0 hr1]; rfl)
/-- a gathering that is drawn is a right one -/
theorem gather_ok {code : List Int} (hl : code.length ≤ 3000) (hc : ∀ x ∈ code, 0 ≤ x ∧ x ≤ 255) : ∃ r, s_A2Gather_F code = some r ∧ isG (r.1, r.2.1, r.2.2.2, r.2.2.1) = true := by
  have h0 : srcOK 0 (code, 0, 0, ()) := ⟨hl, hc, Int.le_refl _, Int.le_refl _⟩
  unfold s_A2Gather_F s_A2Gather
  refine Fine.run (Fine.mat (P := fun r => isG (r.1, r.2.1, r.2.2.2.2, r.2.2.1) = true) ?_ fun r hr => .ret hr)
  unfold s_l08Drawn_6913_F s_l08Drawn_6913
  refine Fine.run (Fine.mat (pick_ok h0 (by omega)) fun a ha => Fine.mat (pick_ok ha.2 (by omega)) fun b hb => Fine.mat (pick_ok hb.2 (by omega)) fun c hc => Fine.mat (pick_ok hc.2 (by omega)) fun d hd => Fine.mat (one_ok hd.2 (by omega)) fun e he => ?_)
  have w1 : iwrap .i64 (1 + d.1) = 1 + d.1 := iwrap_i64 (by omega) (by omega)
  have w2 : iwrap .i64 (1 + a.1) = 1 + a.1 := iwrap_i64 (by omega) (by omega)
  have w3 : iwrap .i64 (1 + b.1) = 1 + b.1 := iwrap_i64 (by omega) (by omega)
  have fin : ∀ (m k : Nat), 1 ≤ m → m ≤ 4 → 1 ≤ k → k ≤ 6 → Fine (Tre.mat (loopF s_l08Drawn_6913_l6 (0, e.2, (m : Int), (k : Int), [], c.1, iwrap .i64 (1 + d.1), ())) fun l8 => (Tre.ret (l8.2.1, l8.2.2.1, l8.2.2.2.2, l8.1, l8.2.2.2.1))) (fun r => isG (r.1, r.2.1, r.2.2.2.2, r.2.2.1) = true) := by
    intro m k h1 h2 h3 h4
    refine Fine.mat (draw_data h2 h4 (c.1, iwrap .i64 (1 + d.1), ()) m 0 (by omega) he (by omega) rfl rfl) fun r hr => .ret ?_
    obtain ⟨e1, e2, e3, e4, e5⟩ := hr
    show isG (r.2.1, r.2.2.1, r.2.2.2.1, r.2.2.2.2) = true
    rw [e1, e2, e5, w1]
    unfold isG
    simp only [Bool.and_eq_true, inR_iff, decide_eq_true_eq, e4, and_true]
    omega
  refine Fine.cond (fun _ => fin 4 6 (by omega) (by omega) (by omega) (by omega)) (fun _ => ?_)
  have := fin (1 + a.1.toNat) (1 + b.1.toNat) (by omega) (by omega) (by omega) (by omega)
  rw [show ((1 + a.1.toNat : Nat) : Int) = iwrap .i64 (1 + a.1) from by omega, show ((1 + b.1.toNat : Nat) : Int) = iwrap .i64 (1 + b.1) from by omega] at this
  exact this
/-! deeds -/
theorem wire_n {n : Nat} {r : Int} (hn : n ≤ 12) (h0 : 0 ≤ r) (h1 : r = 0 ∨ r < 12) : 0 ≤ iwrap .i64 ((n : Int) + iwrap .i64 (Int.tdiv r 11)) ∧ iwrap .i64 ((n : Int) + iwrap .i64 (Int.tdiv r 11)) ≤ 13 := by
  have h : 0 ≤ Int.tdiv r 11 ∧ Int.tdiv r 11 ≤ 1 := by
    rw [Int.tdiv_eq_ediv_of_nonneg h0]; omega
  rw [iwrap_i64 (n := Int.tdiv r 11) (by omega) (by omega), iwrap_i64 (by omega) (by omega)]
  omega
theorem shl_n {n : Nat} (hn : n ≤ 10) : 1 ≤ ishl .i64 1 (iwrap .u64 (n : Int)) ∧ ishl .i64 1 (iwrap .u64 (n : Int)) ≤ 1024 := by
  have h := pow_le (b := n) (c := 10) hn
  have h2 := Nat.two_pow_pos n
  rw [iwrap_u64 (by omega) (by omega), show (1 : Int) = ((1 : Nat) : Int) from rfl, ishl_nat (by omega) (by omega)]
  omega
theorem vDeed_of {k a b c : Int} (hk : 1 ≤ k ∧ k ≤ 8) (ha : 0 ≤ a ∧ a ≤ 9999) (hb : 0 ≤ b ∧ b ≤ 9999) (hc : 0 ≤ c ∧ c ≤ 9999) (h1 : k = 1 ∨ k = 5 ∨ b = 0) (h2 : k = 1 ∨ c = 0) : vDeed (k, a, b, c, ()) = true := by
  unfold vDeed
  simp only [Bool.and_eq_true, Bool.or_eq_true, inR_iff, decide_eq_true_eq]
  exact ⟨⟨⟨⟨⟨hk, ha⟩, hb⟩, hc⟩, by omega⟩, h2⟩
theorem max_n {n : Int} (h : 1 ≤ n ∧ n ≤ 100) : s_l00Max_S (iwrap .i64 (n - 1)) 1 ≤ 100 := by
  unfold s_l00Max_S
  rw [iwrap_i64 (by omega) (by omega)]
  cases decide (n - 1 > 1)
  · rw [cond_false]; omega
  · rw [cond_true]; omega
theorem wrap1 {r : Int} (h0 : 0 ≤ r) (h1 : r ≤ 1000) : iwrap .i64 (1 + r) = 1 + r := iwrap_i64 (by omega) (by omega)
theorem wrapm {r : Int} (h0 : 0 ≤ r) (h1 : r ≤ 10000) : iwrap .i64 (r - 1) = r - 1 := iwrap_i64 (by omega) (by omega)
theorem pickw_ok {n : Nat} {r : Int} {c : Nat} {s : Src} (hn : n ≤ 12) (h0 : 0 ≤ r) (h1 : r = 0 ∨ r < 12) (h : srcOK c s) (hc : c ≤ 90000) : ∃ x, s_l00Src_pick_9f69_F (iwrap .i64 ((n : Int) + iwrap .i64 (Int.tdiv r 11))) s = some x ∧ ((0 ≤ x.1 ∧ x.1 ≤ 13) ∧ srcOK (c + 2) x.2) := by
  obtain ⟨x, e, h2, h3⟩ := pick_ok (n := iwrap .i64 ((n : Int) + iwrap .i64 (Int.tdiv r 11))) h hc
  have := wire_n hn h0 h1
  exact ⟨x, e, by omega, h3⟩
theorem picks_ok {n : Nat} {c : Nat} {s : Src} (hn : n ≤ 10) (h : srcOK c s) (hc : c ≤ 90000) : ∃ x, s_l00Src_pick_9f69_F (ishl .i64 1 (iwrap .u64 (n : Int))) s = some x ∧ ((0 ≤ x.1 ∧ x.1 ≤ 1023) ∧ srcOK (c + 2) x.2) := by
  obtain ⟨x, e, h2, h3⟩ := pick_ok (n := ishl .i64 1 (iwrap .u64 (n : Int))) h hc
  have := shl_n hn
  exact ⟨x, e, by omega, h3⟩
theorem pickm_ok {n : Int} {c : Nat} {s : Src} (hn : 1 ≤ n ∧ n ≤ 100) (h : srcOK c s) (hc : c ≤ 90000) : ∃ x, s_l00Src_pick_9f69_F (s_l00Max_S (iwrap .i64 (n - 1)) 1) s = some x ∧ ((0 ≤ x.1 ∧ x.1 ≤ 100) ∧ srcOK (c + 2) x.2) := by
  obtain ⟨x, e, h2, h3⟩ := pick_ok (n := s_l00Max_S (iwrap .i64 (n - 1)) 1) h hc
  have := max_n hn
  exact ⟨x, e, by omega, h3⟩
/-- a deed that is drawn -/
def Drawn (g : G8) (clean : Bool) (c : Nat) (k : Int) (l : List D8) (p : P8) (o : (Int × Src × List D8 × (P8 × Unit)) ⊕ (Src × List D8)) : Prop :=
  ∃ s' d, o = .inl (iwrap .i64 (k - 1), s', l ++ [d], ((doM g d p).2, ())) ∧ srcOK (c + 30) s' ∧ vDeed d = true ∧ (clean = true → d.1 ≠ 5)
theorem deeds_leaf {g : G8} {clean : Bool} {c c' : Nat} {k : Int} {s' : Src} {l : List D8} {p : P8} {m : Nat} (hg : isG g = true) (hl : l.length ≤ 1000) (hm : m ≤ 1000) (hp : okP m g p = true) {kk a b e : Int}
    (hs : srcOK c' s') (hc : c' ≤ c + 30) (hk : 1 ≤ kk ∧ kk ≤ 8) (ha : 0 ≤ a ∧ a ≤ 9999) (hb : 0 ≤ b ∧ b ≤ 9999) (he : 0 ≤ e ∧ e ≤ 9999) (h1 : kk = 1 ∨ kk = 5 ∨ b = 0) (h2 : kk = 1 ∨ e = 0) (h5 : clean = true → kk ≠ 5) :
    Fine (.ite ((l.length + 1) * 32 ≤ appendMax ∧ 1 ≤ 32) <| .mat (doR (kk, (a, (b, (e, ())))) (p, ()) g) fun r => .ret (.inl (iwrap .i64 (k - 1), s', l ++ [(kk, (a, (b, (e, ()))))], r.2))) (Drawn g clean c k l p) := by
  have hd := vDeed_of hk ha hb he h1 h2
  refine Fine.ite (by unfold appendMax; omega) fun _ => Fine.get (show doR (kk, a, b, e, ()) (p, ()) g = some _ from askO_true (by rw [Bool.and_eq_true, Bool.and_eq_true]; exact ⟨⟨hg, hd⟩, okP_mono hp hm⟩)) (.ret ?_)
  exact ⟨s', (kk, a, b, e, ()), rfl, hs.mono hc, hd, h5⟩
set_option maxHeartbeats 4000000 in
theorem deeds_step {g : G8} {clean : Bool} {count : Int} (hg : isG g = true) (hcount : count = statG g) {c : Nat} {k : Int} {s : Src} {l : List D8} {p : P8} (hk : 0 < k) (hs : srcOK c s) (hc : c ≤ 50000) (hl : l.length ≤ 1000) {m : Nat} (hm : m ≤ 1000) (hp : okP m g p = true) (hlen : lenP p) :
    Fine (s_l08Deeds_ad92_l5 clean count g (k, s, l, (p, ()))) (Drawn g clean c k l p) := by
  have hb := isG_spec hg
  have hst : statG g = 1 + g.2.2.2.1 + g.2.2.2.2.1 := rfl
  obtain ⟨q1, _, q3, _⟩ := okP_spec hp
  have hcols := (colsG_le hg).1
  have hcount2 : 1 ≤ count ∧ count ≤ 100 := by omega
  have hlen2 : ∀ s ∈ p.1, s.1.length ≤ 10 ∧ s.2.1.length ≤ 10 := hlen
  unfold s_l08Deeds_ad92_l5
  rw [cols_S hg]
  dsimp only
  refine Fine.condp (fun _ => Fine.mat (kind_ok hs (by omega)) fun r5 hr5 => ?_) (fun h => absurd hk h)
  obtain ⟨hr5, hs5⟩ := hr5
  cases clean
  all_goals
    repeat' first
      | with_reducible refine Fine.condp (fun _ => ?_) (fun _ => ?_)
      | (with_reducible refine Fine.mat (pickw_ok q3 (by omega) (by omega) (by assumption) (by omega)) (fun r hr => ?_); obtain ⟨hr1, hr2⟩ := hr)
      | (with_reducible refine Fine.mat (picks_ok (by omega) (by assumption) (by omega)) (fun r hr => ?_); obtain ⟨hr1, hr2⟩ := hr)
      | (with_reducible refine Fine.mat (pickm_ok hcount2 (by assumption) (by omega)) (fun r hr => ?_); obtain ⟨hr1, hr2⟩ := hr)
      | (with_reducible refine Fine.mat (one_ok (by assumption) (by omega)) (fun r hr => ?_))
      | (with_reducible refine Fine.mat (pick_ok (by assumption) (by omega)) (fun r hr => ?_); obtain ⟨hr1, hr2⟩ := hr)
      | (with_reducible refine Fine.at ⟨by omega, by omega⟩ (fun x hx => ?_); have hx1 := (hlen2 x hx).1; have hx2 := shl_n hx1)
      | (with_reducible refine Fine.at0 (by omega) (fun x hx => ?_); have hx1 := (hlen2 x hx).1; have hx2 := shl_n hx1)
      | (with_reducible refine Fine.ite (iwrap_u64_nonneg _) (fun _ => ?_))
      | with_reducible refine deeds_leaf hg hl hm hp (by assumption) (by omega) (by omega) (by omega) (by first | omega | (rw [wrap1 (by omega) (by omega)]; omega)) (by first | omega | (rw [wrapm (by omega) (by omega)]; omega)) (by omega) (by omega) (by first | (intro _; omega) | (intro h; cases h))
      | (with_reducible refine Fine.ite ⟨by omega, by omega⟩ (fun _ => ?_))
      | ((with_reducible refine Fine.cond (fun h => ?_) (fun h => ?_)) <;> (try exact Bool.noConfusion h))
      | (exfalso; omega)
theorem deeds_loop {g : G8} {clean : Bool} (hg : isG g = true) : ∀ (n : Nat) {c : Nat} {s : Src} {l : List D8} {p : P8} {m : Nat}, srcOK c s → c + 30 * n ≤ 50000 → l.length + n ≤ 1000 → m + n ≤ 1000 → okP m g p = true → lenP p → l.all vDeed = true → (clean = true → ∀ d ∈ l, d.1 ≠ 5) →
    ∃ r : Src × List D8, loopF (s_l08Deeds_ad92_l5 clean (statG g) g) ((n : Int), s, l, (p, ())) = some r ∧ (r.2.all vDeed = true ∧ r.2.length = l.length + n ∧ (clean = true → ∀ d ∈ r.2, d.1 ≠ 5)) := by
  intro n
  induction n with
  | zero =>
    intro c s l p m hs _ _ _ hp hq hl hk
    refine ⟨(s, l), loopF_done ?_, hl, rfl, hk⟩
    unfold s_l08Deeds_ad92_l5
    rw [Tre.run_cond, decide_eq_false (by show ¬ ((0 : Nat) : Int) > 0; omega), cond_false, Tre.run_ret]
  | succ n ih =>
    intro c s l p m hs hc hl hm hp hq hv hk
    obtain ⟨o, ho, s', d, rfl, h1, h2, h3⟩ := deeds_step (clean := clean) (k := ((n + 1 : Nat) : Int)) (l := l) hg rfl (by omega) hs (by omega) (by omega) (by omega) hp hq
    rw [wrapm (by omega) (by omega), show ((n + 1 : Nat) : Int) - 1 = (n : Int) by omega] at ho
    rw [loopF_step ho]
    obtain ⟨r, e, r1, r2, r3⟩ := ih (l := l ++ [d]) h1 (by omega) (by simp; omega) (by omega) (doM_ok hg h2 hp) (do_len hg (by omega) hp hq) (by rw [List.all_append, hv, List.all_cons, h2]; rfl) (fun hc x hx => by
      rcases List.mem_append.1 hx with hx | hx
      · exact hk hc x hx
      · simp only [List.mem_singleton] at hx; subst hx; exact h3 hc)
    exact ⟨r, e, r1, by rw [r2]; simp; omega, r3⟩
/-- deeds that are drawn are right ones -/
theorem deeds_ok {g : G8} (hg : isG g = true) (clean : Bool) {more : List Int} (hl : more.length ≤ 3000) (hc : ∀ x ∈ more, 0 ≤ x ∧ x ≤ 255) : ∃ r, s_A2Deeds_F more g clean = some r ∧ (r.all vDeed = true ∧ r.length ≤ 30 ∧ (clean = true → ∀ d ∈ r, d.1 ≠ 5)) := by
  have h0 : srcOK 0 (more, 0, 0, ()) := ⟨hl, hc, Int.le_refl _, Int.le_refl _⟩
  have hb := isG_spec hg
  have hst : statG g = 1 + g.2.2.2.1 + g.2.2.2.2.1 := rfl
  have w1 : iwrap .i64 (1 + g.2.2.2.1) = 1 + g.2.2.2.1 := iwrap_i64 (by omega) (by omega)
  have w2 : iwrap .i64 (iwrap .i64 (1 + g.2.2.2.1) + g.2.2.2.2.1) = statG g := by rw [w1, hst]; exact iwrap_i64 (by omega) (by omega)
  unfold s_A2Deeds_F s_A2Deeds
  refine Fine.run (Fine.mat (P := fun r => r.2.all vDeed = true ∧ r.2.length ≤ 30 ∧ (clean = true → ∀ d ∈ r.2, d.1 ≠ 5)) ?_ fun r hr => .ret hr)
  unfold s_l08Deeds_ad92_F s_l08Deeds_ad92
  refine Fine.run (Fine.get (show beginR g = some (beginM g, ()) from askO_true hg) ?_)
  dsimp only
  rw [w2]
  refine Fine.mat (pick_ok (n := iwrap .i64 (30 + 1)) h0 (by omega)) fun r hr => ?_
  obtain ⟨⟨hr0, hr1⟩, hr2⟩ := hr
  have w3 : iwrap .i64 (30 + 1) = 31 := by decide
  rw [w3] at hr1
  obtain ⟨n, hn⟩ := Int.eq_ofNat_of_zero_le hr0
  rw [hn]
  refine Fine.mat (deeds_loop (clean := clean) hg n hr2 (by omega) (by simp; omega) (by omega) (beginM_ok hg) (begin_len hg) rfl (fun _ d hd => by cases hd)) fun x hx => .ret ?_
  refine ⟨hx.1, ?_, hx.2.2⟩
  rw [hx.2.1]; simp; omega
/-! bytes -/
theorem bytes_of {xs : List Int} (h : (K.sl (.int .u8)).wf xs) : ∀ x ∈ xs, 0 ≤ x ∧ x ≤ 255 := fun x hx => by
  have h1 : (Lit.int .u8 x).wf = true := h.2 x hx
  simp [Lit.wf, IntKind.min, IntKind.max, IntKind.signed, IntKind.bits] at h1
  omega
theorem long_no {a b : List Int} (h : l_a2Long_S a b = false) : a.length ≤ 3000 ∧ b.length ≤ 3000 := by
  unfold l_a2Long_S at h
  by_cases h1 : (a.length : Int) > 3000
  · rw [decide_eq_true h1] at h; cases h
  · rw [decide_eq_false h1, cond_false] at h
    have := of_decide_eq_false h
    omega
theorem at_ok {code : List Int} (hc : ∀ x ∈ code, 0 ≤ x ∧ x ≤ 255) {i n : Int} (hi : 0 ≤ i) : ∃ r, l_a2At_F code i n = some r ∧ (0 ≤ r ∧ (r = 0 ∨ r < n)) := by
  unfold l_a2At_F l_a2At
  refine Fine.run (Fine.condp (fun _ => .ret ⟨Int.le_refl _, .inl rfl⟩) fun h1 => Fine.condp (fun _ => .ret ⟨Int.le_refl _, .inl rfl⟩) fun h2 => Fine.ite ⟨hi, by omega⟩ fun h3 => Fine.at h3 fun x hx => Fine.ifn (by omega) (.ret ?_))
  have hb := hc x hx
  rw [iwrap_i64 (n := x) (by omega) (by omega)]
  have := tmod_rng (x := x) (n := n) (by omega) (by omega)
  exact ⟨this.1, .inr this.2⟩


end Go.Proofs.Ytohnlghdhbignaa

namespace Go.Proofs.Ytohnlghdhbignaa
open Go Go.Abs Go.Proofs

-- shared
theorem runM_app (g : G8) (d : D8) : ∀ (l : List D8) (p : P8), (runM g (l ++ [d]) p).1 = (doM g d (runM g l p).1).2 := by
  intro l
  induction l with
  | nil => intro p; rfl
  | cons x l ih => intro p; exact ih _
theorem asked_zero {g : G8} {ds : List D8} (hg : isG g = true) (hd : ds.all vDeed = true) (hl : ds.length ≤ 300) : askedM ds g = 0 := by
  unfold askedM
  rw [hg, hd, decide_eq_false (by omega)]
  rfl
theorem plant_of {g : G8} {ds : List D8} (hg : isG g = true) (hd : ds.all vDeed = true) (hl : ds.length ≤ 300) : plantR g ds = some ((zerosN (runM g ds (beginM g)).2 : Int), 0, (afterM g ds).1, (afterM g ds).2.1) := by
  have hb := isG_spec hg
  have : plantR g ds = some (plantM g ds) := askO_true (by rw [Bool.and_eq_true, decide_eq_true_eq, decide_eq_true_eq]; omega)
  rw [this]
  unfold plantM
  rw [decide_eq_true (asked_zero hg hd hl)]
  rfl
theorem same_of {k : Nat} {g : G8} {p q : P8} (hp : okP k g p = true) (hk : k ≤ 1048576) (hg : isG g = true) (h : p = q) : samePR p q = some true := by
  obtain ⟨q1, q2, q3, _⟩ := okP_spec hp
  have hb := isG_spec hg
  have hst : statG g = 1 + g.2.2.2.1 + g.2.2.2.2.1 := rfl
  refine askO_true ?_
  simp only [Bool.and_eq_true, decide_eq_true_eq, List.all_eq_true]
  refine ⟨⟨⟨h, by omega⟩, by omega⟩, fun x hx => ?_⟩
  have h1 := (okS_spec.1 (q2 x hx).1).1
  have h2 := (okS_spec.1 (q2 x hx).2).1
  omega
theorem runM_app2 (g : G8) (d e : D8) (l : List D8) (p : P8) : (runM g (l ++ [d, e]) p).1 = (doM g e (doM g d (runM g l p).1).2).2 := by
  rw [show l ++ [d, e] = (l ++ [d]) ++ [e] from by simp, runM_app, runM_app]
/-- what a deed with a parcel does -/
theorem wire_do {g : G8} {p : P8} {i : Nat} {x : Int × Int × Unit} {k b : Int} (hk : k = 2 ∨ k = 3 ∨ k = 4) (hx : p.2.1[i]? = some x) :
    (doM g (k, (i : Int), b, 0, ()) p).2 = (cond (decide (k = 4)) p.1 (comeM x p.1), cond (decide (k = 3)) p.2.1 (p.2.1.take i ++ p.2.1.drop (i + 1)), ()) := by
  have hi : i < p.2.1.length := (List.getElem?_eq_some_iff.1 hx).1
  unfold doM wireM
  have k1 : decide (((k, (i : Int), b, 0, ()) : D8).1 = 1) = false := decide_eq_false (by show ¬ k = 1; omega)
  have k2 : inR ((k, (i : Int), b, 0, ()) : D8).1 2 5 = true := inR_iff.2 (by show 2 ≤ k ∧ k ≤ 5; omega)
  have k3 : decide (((k, (i : Int), b, 0, ()) : D8).2.1 ≥ (p.2.1.length : Int)) = false := decide_eq_false (by show ¬ (i : Int) ≥ _; omega)
  have k4 : decide (((k, (i : Int), b, 0, ()) : D8).1 = 5) = false := decide_eq_false (by show ¬ k = 5; omega)
  rw [k1, k2, k3, cond_false, cond_true, cond_false]
  simp only [Int.toNat_natCast, hx]
  rw [k4, cond_false]
theorem spoil_do {g : G8} {p : P8} {i : Nat} {x : Int × Int × Unit} {m : Int} (hx : p.2.1[i]? = some x) (h0 : m ≠ 0) (h1 : m < ishl .i64 1 (colsG g : Int)) :
    (doM g (5, (i : Int), m, 0, ()) p).2 = (p.1, p.2.1.set i (x.1, ixor .i64 x.2.1 m, ()), ()) := by
  have hi : i < p.2.1.length := (List.getElem?_eq_some_iff.1 hx).1
  unfold doM wireM
  have k1 : decide (((5, (i : Int), m, 0, ()) : D8).1 = 1) = false := rfl
  have k2 : inR ((5, (i : Int), m, 0, ()) : D8).1 2 5 = true := rfl
  have k3 : decide (((5, (i : Int), m, 0, ()) : D8).2.1 ≥ (p.2.1.length : Int)) = false := decide_eq_false (by show ¬ (i : Int) ≥ _; omega)
  have k4 : decide (((5, (i : Int), m, 0, ()) : D8).1 = 5) = true := rfl
  rw [k1, k2, k3, cond_false, cond_true, cond_false]
  simp only [Int.toNat_natCast, hx]
  simp only [decide_true, cond_true]
  rw [decide_eq_false h0, decide_eq_false (by omega), Bool.false_or, cond_false]


end Go.Proofs.Ytohnlghdhbignaa

namespace Go.Proofs.Ytohnlghdhbignaa
open Go Go.Abs Go.Proofs

/-! function 13: loop.example/g01144/spec.PlantAfter -/
noncomputable def s_PlantAfter_l7 (h7_0_4 : (List Int)) : (Int × Int) → Tre ((Int × Int) ⊕ Int) := fun s7 =>
  .cond (decide (s7.2 < (h7_0_4.length : Int)))
    (.ite (0 ≤ s7.2 ∧ s7.2 < (h7_0_4.length : Int)) <|
    .mat (h7_0_4[s7.2.toNat]?) fun x3 =>
    .cond (decide (x3 = 0))
      (.ret (.inl (iwrap .i64 (s7.1 + 1), iwrap .i64 (s7.2 + 1))))
      (.ret (.inl (s7.1, iwrap .i64 (s7.2 + 1)))))
    (.ret (.inr s7.1))
noncomputable def s_PlantAfter (p0 : (Int × (Int × ((List Int) × (Int × (Int × Unit)))))) (p1 : (List (Int × (Int × (Int × (Int × Unit)))))) : Tre ((Int × Int × (List ((List Int) × ((List Int) × Unit))) × (List (Int × (Int × Unit)))) ⊕ (((List ((List Int) × ((List Int) × Unit))) × ((List (Int × (Int × Unit))) × Unit)) × Int × Int)) :=
  .mat (askedR p1 p0) fun r1 =>
  .cond (!decide (r1 = 0))
    (.ret (.inl (0, r1, [], [])))
    (.mat (playR p1 p0) fun r2 =>
    .mat (loopF (s_PlantAfter_l7 r2.2) (0, 0)) fun l4 =>
    .ret (.inr (r2.1.1, l4, 0)))
noncomputable def s_PlantAfter_F (p0 : (Int × (Int × ((List Int) × (Int × (Int × Unit)))))) (p1 : (List (Int × (Int × (Int × (Int × Unit)))))) : Option ((Int × Int × (List ((List Int) × ((List Int) × Unit))) × (List (Int × (Int × Unit)))) ⊕ (((List ((List Int) × ((List Int) × Unit))) × ((List (Int × (Int × Unit))) × Unit)) × Int × Int)) := (s_PlantAfter p0 p1).run some
noncomputable def plantS (g : G8) (ds : List D8) : Option ((Int × Int × List (List Int × List Int × Unit) × List (Int × Int × Unit)) ⊕ (P8 × Int × Int)) :=
  askO (decide (g.2.2.1.length ≤ 1048576) && decide (ds.length ≤ 1048576)) (cond (decide (askedM ds g = 0)) (.inr (afterM g ds, (zerosN (runM g ds (beginM g)).2 : Int), 0)) (.inl (0, askedM ds g, [], [])))
theorem runM_length (g : G8) : ∀ (l : List D8) (p : P8), (runM g l p).2.length = l.length := by
  intro l
  induction l with
  | nil => intro p; rfl
  | cons d l ih => intro p; simp [runM, ih]
theorem count_loop (cs : List Int) (hl : cs.length ≤ 1048576) : loopF (s_PlantAfter_l7 cs) (0, 0) = some (zerosN cs : Int) := by
  have := fold_loop (xs := cs) (step := s_PlantAfter_l7 cs) (fun i (acc : Nat) => ((acc : Int), (i : Int))) (fun (_ : Nat) acc x => .inl (acc + cond (decide (x = 0)) 1 0)) (fun acc => (acc : Int)) (fun i acc => acc ≤ i) (by
    intro i acc x hx hI
    have hi : i < cs.length := (List.getElem?_eq_some_iff.1 hx).1
    have hI : acc ≤ i := hI
    refine ⟨?_, fun a ha => by cases ha; cases decide (x = 0) <;> simp <;> omega⟩
    unfold s_PlantAfter_l7
    rw [run_inb hx, Tre.run_cond]
    cases decide (x = 0)
    · simp only [cond_false, Tre.run_ret, iwrap_succ (show i < 4611686018427387904 by omega), Nat.add_zero]
    · simp only [cond_true, Tre.run_ret, iwrap_succ (show i < 4611686018427387904 by omega), iwrap_succ (show acc < 4611686018427387904 by omega)])
    (by
    intro acc _
    unfold s_PlantAfter_l7
    exact run_out) cs 0 0 rfl (Nat.zero_le _) (Nat.le_refl 0)
  have hf : ∀ (l : List Int) (i n : Nat), foldE (β := Int) (fun (_ : Nat) (acc : Nat) x => .inl (acc + cond (decide (x = 0)) 1 0)) (fun acc => (acc : Int)) i n l = ((n + zerosN l : Nat) : Int) := by
    intro l
    induction l with
    | nil => intro i n; simp [foldE, zerosN]
    | cons x l ih =>
      intro i n
      simp only [foldE]
      rw [ih]
      unfold zerosN
      rw [List.countP_cons]
      cases decide (x = 0) <;> simp <;> omega
  rw [hf, Nat.zero_add] at this
  exact this
theorem s_PlantAfter_spec (p0 : G8) (p1 : List D8) (y : (Int × Int × List (List Int × List Int × Unit) × List (Int × Int × Unit)) ⊕ (P8 × Int × Int)) (h : plantS p0 p1 = some y) : s_PlantAfter_F p0 p1 = some y := by
  obtain ⟨hok, rfl⟩ := askO_some h
  unfold s_PlantAfter_F s_PlantAfter
  rw [run_some_mat (show askedR p1 p0 = some _ from askO_true (by rw [Bool.and_comm] at hok ⊢; exact hok)), Tre.run_cond]
  by_cases h0 : askedM p1 p0 = 0
  · obtain ⟨hg, hd, hl⟩ := askedM_zero h0
    rw [decide_eq_true h0, Bool.not_true, cond_false, cond_true, run_some_mat (show playR p1 p0 = some ((afterM p0 p1, ()), _) from askO_true (by rw [Bool.and_eq_true, Bool.and_eq_true, decide_eq_true_eq]; exact ⟨⟨hg, hd⟩, hl⟩))]
    dsimp only
    rw [run_some_mat (count_loop _ (by rw [runM_length]; omega))]
    rfl
  · rw [decide_eq_false h0]; rfl

noncomputable def s_PlantAfter_V : Env := ⟨tau, [(38, s_l08Asked_3c39_c), (39, s_l08Play_3c39_c)], [(11, [((22, 0), [.snd, .fst, .fst], false), ((22, 0), [.snd, .fst, .snd, .fst], false)])]⟩
noncomputable def s_PlantAfter_b : Code := (Try.f13.body).getD .skip
noncomputable def s_PlantAfter_l7_mk (z7_0 : Bool) (h7_0_2 : ((List ((List Int) × ((List Int) × Unit))) × ((List (Int × (Int × Unit))) × Unit))) (h7_0_3 : (((List ((List Int) × ((List Int) × Unit))) × ((List (Int × (Int × Unit))) × Unit)) × Unit)) (h7_0_4 : (List Int)) (h7_0_5 : (Int × (Int × ((List Int) × (Int × (Int × Unit)))))) : (Int × Int) → St := fun x => stOf [(4, (.ptr (6, 0) [])), (8, (.ptr (22, 0) [])), (9, (.ref (11, 0) [])), (10, (.imm true (.int .i64) x.1)), (11, (.imm true (.int .i64) x.2))] [((6, 0), some ⟨true, kPlant, .own, h7_0_2⟩), ((22, 0), some ⟨true, kL08Run, .own, ((some (4, 0) : Option RName), h7_0_3)⟩), ((11, 0), some ⟨false, (.sl (.int .i64)), .own, h7_0_4⟩), ((4, 0), some ⟨true, kGather, (.imm z7_0), h7_0_5⟩)]
noncomputable def s_PlantAfter_l7_out (z7_0 : Bool) (h7_0_2 : ((List ((List Int) × ((List Int) × Unit))) × ((List (Int × (Int × Unit))) × Unit))) (h7_0_3 : (((List ((List Int) × ((List Int) × Unit))) × ((List (Int × (Int × Unit))) × Unit)) × Unit)) (_h7_0_4 : (List Int)) (h7_0_5 : (Int × (Int × ((List Int) × (Int × (Int × Unit)))))) : Int → Ex × St := fun x => (.exit 0, stOf [(4, (.ptr (6, 0) [])), (8, (.ptr (22, 0) [])), (10, (.imm true (.int .i64) x))] [((6, 0), some ⟨true, kPlant, .own, h7_0_2⟩), ((22, 0), some ⟨true, kL08Run, .own, ((some (4, 0) : Option RName), h7_0_3)⟩), ((4, 0), some ⟨true, kGather, (.imm z7_0), h7_0_5⟩)])
noncomputable def s_PlantAfter_l7_D (s : St) : Tre (Ex × St) :=
  asPtr (6, 0) [] (s.tmps 4) <|
  asPtr (22, 0) [] (s.tmps 8) <|
  asRef (11, 0) [] (s.tmps 9) <|
  asImmZ true (.int .i64) (s.tmps 10) fun d5 =>
  asImmZ true (.int .i64) (s.tmps 11) fun d7 =>
  asRoot true kPlant (s.roots (6, 0)) fun m9 d10 =>
  asM .own m9 <|
  asRoot true kL08Run (s.roots (22, 0)) fun m12 d13 =>
  asM .own m12 <|
  asProd d13 fun d14 d15 =>
  asD d14 (some (4, 0) : Option RName) <|
  asRoot false (.sl (.int .i64)) (s.roots (11, 0)) fun m17 d18 =>
  asM .own m17 <|
  asRoot true kGather (s.roots (4, 0)) fun m20 d21 =>
  asMImm m20 fun z22 =>
  .mat (loopF (s_PlantAfter_l7 d18) (d5, d7)) fun x => .ret (s_PlantAfter_l7_out z22 d10 d15 d18 d21 x)
noncomputable def s_PlantAfter_l7_L : LoopI := ⟨([4, 8, 9, 10, 11], [(6, 0), (22, 0), (11, 0), (4, 0)]), ([4, 8, 10], [(6, 0), (22, 0), (4, 0)]), s_PlantAfter_l7_D⟩
noncomputable def s_PlantAfter_A : List (Nat × LoopI) := [(7, s_PlantAfter_l7_L)]
set_option maxRecDepth 100000 in
theorem s_PlantAfter_l7_step : ∀ (z7_0 : Bool) (h7_0_2 : ((List ((List Int) × ((List Int) × Unit))) × ((List (Int × (Int × Unit))) × Unit))) (h7_0_3 : (((List ((List Int) × ((List Int) × Unit))) × ((List (Int × (Int × Unit))) × Unit)) × Unit)) (h7_0_4 : (List Int)) (h7_0_5 : (Int × (Int × ((List Int) × (Int × (Int × Unit)))))) (x : (Int × Int)) (c : St → Option (Ex × St)), den s_PlantAfter_V s_PlantAfter_A (loopAt s_PlantAfter_b 0) (s_PlantAfter_l7_mk z7_0 h7_0_2 h7_0_3 h7_0_4 h7_0_5 x) (roundK s_PlantAfter_l7_L.kp s_PlantAfter_l7_L.kx c) = (s_PlantAfter_l7 h7_0_4 x).run (roundR (s_PlantAfter_l7_mk z7_0 h7_0_2 h7_0_3 h7_0_4 h7_0_5) (s_PlantAfter_l7_out z7_0 h7_0_2 h7_0_3 h7_0_4 h7_0_5) c) := fun _ _ _ _ _ _ _ => by
  kernel_rfl
theorem s_PlantAfter_l7_ok : LoopOK s_PlantAfter_V s_PlantAfter_A (loopAt s_PlantAfter_b 0) s_PlantAfter_l7_L := loopOK_of fun s e s' h => by
  generalize hs : restrict s_PlantAfter_l7_L.kp s = s1 at h
  have h : (s_PlantAfter_l7_D s1).run some = some (e, s') := h
  obtain ⟨e1, h_0⟩ := asPtr_spec h
  obtain ⟨e2, h_1⟩ := asPtr_spec h_0
  obtain ⟨e3, h_2⟩ := asRef_spec h_1
  obtain ⟨d5, e4, h_3⟩ := asImmZ_spec h_2
  obtain ⟨d7, e6, h_4⟩ := asImmZ_spec h_3
  obtain ⟨m9, d10, e8, h_5⟩ := asRoot_spec h_4
  obtain ⟨rfl, h_6⟩ := asM_spec h_5
  obtain ⟨m12, d13, e11, h_7⟩ := asRoot_spec h_6
  obtain ⟨rfl, h_8⟩ := asM_spec h_7
  obtain ⟨d14, d15, rfl, h_9⟩ := asProd_spec h_8
  obtain ⟨rfl, h_10⟩ := asD_spec h_9
  obtain ⟨m17, d18, e16, h_11⟩ := asRoot_spec h_10
  obtain ⟨rfl, h_12⟩ := asM_spec h_11
  obtain ⟨m20, d21, e19, h_13⟩ := asRoot_spec h_12
  obtain ⟨z22, rfl, h_14⟩ := asMImm_spec h_13
  obtain ⟨y, hy, hz⟩ := mat_ret h_14
  refine ⟨_, _, s_PlantAfter_l7_mk z22 d10 d15 d18 d21, s_PlantAfter_l7_out z22 d10 d15 d18 d21, s_PlantAfter_l7 d18, (d5, d7), y, ?_, hy, ?_, s_PlantAfter_l7_step z22 d10 d15 d18 d21⟩
  · subst hs; exact restrict_eq (T := [(4, (.ptr (6, 0) [])), (8, (.ptr (22, 0) [])), (9, (.ref (11, 0) [])), (10, (.imm true (.int .i64) d5)), (11, (.imm true (.int .i64) d7))]) (U := [((6, 0), some ⟨true, kPlant, .own, d10⟩), ((22, 0), some ⟨true, kL08Run, .own, ((some (4, 0) : Option RName), d15)⟩), ((11, 0), some ⟨false, (.sl (.int .i64)), .own, d18⟩), ((4, 0), some ⟨true, kGather, (.imm z22), d21⟩)]) rfl rfl ⟨e1, e2, e3, e4, e6, trivial⟩ ⟨e8, e11, e16, e19, trivial⟩
  · exact Option.some.inj hz
noncomputable def s_PlantAfter_I : FnI := ⟨s_PlantAfter_b, Try.f13.results.toList, Try.f13.resultTypes.toList, s_PlantAfter_A⟩
noncomputable def s_PlantAfter_out (_zp0 : Bool) (_zp1 : Bool) (_p0 : (Int × (Int × ((List Int) × (Int × (Int × Unit)))))) (_p1 : (List (Int × (Int × (Int × (Int × Unit)))))) : ((Int × Int × (List ((List Int) × ((List Int) × Unit))) × (List (Int × (Int × Unit)))) ⊕ (((List ((List Int) × ((List Int) × Unit))) × ((List (Int × (Int × Unit))) × Unit)) × Int × Int)) → CallOut
  | .inl r => ⟨(.tcons (.pair (.ref (1, 0) []) (.pair (.ref (1, 1) []) (.imm true .unit ()))) (.tcons (.imm true (.int .i64) r.1) (.tcons (.imm true (.int .i64) r.2.1) .tnil))), [], [⟨false, (.sl kStation), .own, r.2.2.1⟩, ⟨false, (.sl kField), .own, r.2.2.2⟩]⟩
  | .inr r => ⟨(.tcons (.imm true kPlant r.1) (.tcons (.imm true (.int .i64) r.2.1) (.tcons (.imm true (.int .i64) r.2.2) .tnil))), [], []⟩
set_option maxRecDepth 100000 in
theorem s_PlantAfter_eq : ∀ (zp0 : Bool) (zp1 : Bool) (p0 : (Int × (Int × ((List Int) × (Int × (Int × Unit)))))) (p1 : (List (Int × (Int × (Int × (Int × Unit)))))), denFn s_PlantAfter_V s_PlantAfter_I ⟨[(.imm zp0 kGather p0), (.imm zp1 (.sl kDeed) p1)], []⟩ = (s_PlantAfter p0 p1).run fun r => some (s_PlantAfter_out zp0 zp1 p0 p1 r) := fun _ _ _ _ => by kernel_rfl
noncomputable def s_PlantAfter_G (av : List AV) (rs : List Root) : Tre CallOut :=
  asCons av fun a0_ av0 =>
  asCons av0 fun a1_ av1 =>
  asEnd av1 <|
  asEnd rs <|
  asImm kGather a0_ fun z2 d1 =>
  asImm (.sl kDeed) a1_ fun z4 d3 =>
  .mat (plantS d1 d3) fun r => .alt r (fun a0 => .ret (s_PlantAfter_out z2 z4 d1 d3 (.inl a0))) (fun b0 => .ret (s_PlantAfter_out z2 z4 d1 d3 (.inr b0)))
noncomputable def s_PlantAfter_c : Ctr := ⟨[], fun ci => s_PlantAfter_G ci.args ci.roots⟩
theorem s_PlantAfter_env : EnvOK Try.prog s_PlantAfter_V := (envOK_cons s_l08Asked_3c39_ok ent38 (envOK_cons s_l08Play_3c39_ok ent39 envOK_nil))
set_option maxRecDepth 100000 in
theorem s_PlantAfter_ok : Contract Try.prog 13 s_PlantAfter_c := by
  have hl : LoopsOK s_PlantAfter_V s_PlantAfter_A s_PlantAfter_b := (loopsOK_all (n := 1) (by kernel_rfl) fun k hk => by
      match k, hk with
      | 0, _ => exact loopOK_at (id := 7) (L := s_PlantAfter_l7_L) (by kernel_rfl) (by kernel_rfl) s_PlantAfter_l7_ok)
  refine (contract_of (F := s_PlantAfter_I) tau_tys s_PlantAfter_env Try.func13 (by kernel_rfl) (by kernel_rfl) (by kernel_rfl) hl []).weaken ?_
  rintro ⟨av, rs⟩ co h
  have h : (s_PlantAfter_G av rs).run some = some co := h
  obtain ⟨a0_, av0, rfl, h_0⟩ := asCons_spec h
  obtain ⟨a1_, av1, rfl, h_1⟩ := asCons_spec h_0
  obtain ⟨rfl, h_2⟩ := asEnd_spec h_1
  obtain ⟨rfl, h_3⟩ := asEnd_spec h_2
  obtain ⟨z2, d1, rfl, h_4⟩ := asImm_spec h_3
  obtain ⟨z4, d3, rfl, h_5⟩ := asImm_spec h_4
  exact fin_opts (s_PlantAfter_eq z2 z4 d1 d3) (s_PlantAfter_spec d1 d3) h_5 (by rintro (x | x) <;> rfl)

end Go.Proofs.Ytohnlghdhbignaa

namespace Go.Proofs.Ytohnlghdhbignaa
open Go Go.Abs Go.Proofs

/-! function 4: loop.example/g01144/laws.FnParcels -/
noncomputable def l_FnParcels (p0 : (List Int)) (p1 : (List Int)) : Tre Bool :=
  .cond (l_a2Long_S p0 p1)
    (.ret true)
    (.mat (s_A2Gather_F p0) fun r1 =>
    .mat (s_A2Deeds_F p1 (r1.1, (r1.2.1, (r1.2.2.2, r1.2.2.1))) false) fun r2 =>
    .mat (plantR (r1.1, (r1.2.1, (r1.2.2.2, r1.2.2.1))) r2) fun r3 =>
    .mat (plantS (r1.1, (r1.2.1, (r1.2.2.2, r1.2.2.1))) r2) fun r4 =>
    .alt r4
      (fun a5 =>
        .cond (!decide (r3.2.1 = 0))
          (.ret false)
          (.cond (!decide (a5.2.1 = 0))
            (.ret false)
            (.cond (!decide ((r3.2.2.2.length : Int) = (a5.2.2.2.length : Int)))
              (.ret false)
              (.cond (!decide ((r3.2.2.1.length : Int) = (a5.2.2.1.length : Int)))
                (.ret false)
                (.cond (decide ((r3.2.2.2.length : Int) = 0))
                  (.ret true)
                  (.mat (l_a2At_F p0 0 (r3.2.2.2.length : Int)) fun r7 =>
                  let v8 := iwrap .i64 (r1.1 + r1.2.1)
                  .ite (0 ≤ iwrap .u64 v8) <|
                  let v9 := ishl .i64 1 (iwrap .u64 v8)
                  .mat (l_a2At_F p0 1 (iwrap .i64 (v9 - 1))) fun r10 =>
                  .ite ((0 + r2.length) * 32 ≤ appendMax ∧ 1 ≤ 32) <|
                  .ite ((([] ++ r2).length + 1) * 32 ≤ appendMax ∧ 1 ≤ 32) <|
                  let v11 := ([] ++ r2) ++ ([(2, (r7, (0, (0, ()))))])
                  .ite ((0 + r2.length) * 32 ≤ appendMax ∧ 1 ≤ 32) <|
                  .ite ((([] ++ r2).length + 2) * 32 ≤ appendMax ∧ 1 ≤ 32) <|
                  let v12 := ([] ++ r2) ++ ([(3, (r7, (0, (0, ())))), (2, (r7, (0, (0, ()))))])
                  .ite ((0 + r2.length) * 32 ≤ appendMax ∧ 1 ≤ 32) <|
                  .ite ((([] ++ r2).length + 1) * 32 ≤ appendMax ∧ 1 ≤ 32) <|
                  let v13 := ([] ++ r2) ++ ([(4, (r7, (0, (0, ()))))])
                  .ite ((0 + r2.length) * 32 ≤ appendMax ∧ 1 ≤ 32) <|
                  .ite ((([] ++ r2).length + 2) * 32 ≤ appendMax ∧ 1 ≤ 32) <|
                  let v14 := ([] ++ r2) ++ ([(5, (r7, (iwrap .i64 (1 + r10), (0, ())))), (5, (r7, (iwrap .i64 (1 + r10), (0, ()))))])
                  .mat (plantR (r1.1, (r1.2.1, (r1.2.2.2, r1.2.2.1))) v11) fun r15 =>
                  .mat (plantR (r1.1, (r1.2.1, (r1.2.2.2, r1.2.2.1))) v12) fun r16 =>
                  .mat (plantR (r1.1, (r1.2.1, (r1.2.2.2, r1.2.2.1))) v13) fun r17 =>
                  .mat (plantR (r1.1, (r1.2.1, (r1.2.2.2, r1.2.2.1))) v14) fun r18 =>
                  .cond (!decide (r15.2.1 = 0))
                    (.ret false)
                    (.cond (!decide (r16.2.1 = 0))
                      (.ret false)
                      (.cond (!decide (r17.2.1 = 0))
                        (.ret false)
                        (.cond (!decide (r18.2.1 = 0))
                          (.ret false)
                          (.mat (samePR (r15.2.2.1, (r15.2.2.2, ())) (r16.2.2.1, (r16.2.2.2, ()))) fun r19 =>
                          .cond (!r19)
                            (.ret false)
                            (.mat (samePR (r18.2.2.1, (r18.2.2.2, ())) (r3.2.2.1, (r3.2.2.2, ()))) fun r20 =>
                            .cond (!r20)
                              (.ret false)
                              (let v21 := iwrap .i64 ((r3.2.2.2.length : Int) - 1)
                              .cond (!decide ((r17.2.2.2.length : Int) = v21))
                                (.ret false)
                                (.mat (samePR (r17.2.2.1, (r17.2.2.2, ())) (r3.2.2.1, (r17.2.2.2, ()))) fun r22 =>
                                .ret r22)))))))))))))
      (fun b6 =>
        .cond (!decide (r3.2.1 = 0))
          (.ret false)
          (.cond (!decide (b6.2.2 = 0))
            (.ret false)
            (.cond (!decide ((r3.2.2.2.length : Int) = (b6.1.2.1.length : Int)))
              (.ret false)
              (.cond (!decide ((r3.2.2.1.length : Int) = (b6.1.1.length : Int)))
                (.ret false)
                (.cond (decide ((r3.2.2.2.length : Int) = 0))
                  (.ret true)
                  (.mat (l_a2At_F p0 0 (r3.2.2.2.length : Int)) fun r23 =>
                  let v24 := iwrap .i64 (r1.1 + r1.2.1)
                  .ite (0 ≤ iwrap .u64 v24) <|
                  let v25 := ishl .i64 1 (iwrap .u64 v24)
                  .mat (l_a2At_F p0 1 (iwrap .i64 (v25 - 1))) fun r26 =>
                  .ite ((0 + r2.length) * 32 ≤ appendMax ∧ 1 ≤ 32) <|
                  .ite ((([] ++ r2).length + 1) * 32 ≤ appendMax ∧ 1 ≤ 32) <|
                  let v27 := ([] ++ r2) ++ ([(2, (r23, (0, (0, ()))))])
                  .ite ((0 + r2.length) * 32 ≤ appendMax ∧ 1 ≤ 32) <|
                  .ite ((([] ++ r2).length + 2) * 32 ≤ appendMax ∧ 1 ≤ 32) <|
                  let v28 := ([] ++ r2) ++ ([(3, (r23, (0, (0, ())))), (2, (r23, (0, (0, ()))))])
                  .ite ((0 + r2.length) * 32 ≤ appendMax ∧ 1 ≤ 32) <|
                  .ite ((([] ++ r2).length + 1) * 32 ≤ appendMax ∧ 1 ≤ 32) <|
                  let v29 := ([] ++ r2) ++ ([(4, (r23, (0, (0, ()))))])
                  .ite ((0 + r2.length) * 32 ≤ appendMax ∧ 1 ≤ 32) <|
                  .ite ((([] ++ r2).length + 2) * 32 ≤ appendMax ∧ 1 ≤ 32) <|
                  let v30 := ([] ++ r2) ++ ([(5, (r23, (iwrap .i64 (1 + r26), (0, ())))), (5, (r23, (iwrap .i64 (1 + r26), (0, ()))))])
                  .mat (plantR (r1.1, (r1.2.1, (r1.2.2.2, r1.2.2.1))) v27) fun r31 =>
                  .mat (plantR (r1.1, (r1.2.1, (r1.2.2.2, r1.2.2.1))) v28) fun r32 =>
                  .mat (plantR (r1.1, (r1.2.1, (r1.2.2.2, r1.2.2.1))) v29) fun r33 =>
                  .mat (plantR (r1.1, (r1.2.1, (r1.2.2.2, r1.2.2.1))) v30) fun r34 =>
                  .cond (!decide (r31.2.1 = 0))
                    (.ret false)
                    (.cond (!decide (r32.2.1 = 0))
                      (.ret false)
                      (.cond (!decide (r33.2.1 = 0))
                        (.ret false)
                        (.cond (!decide (r34.2.1 = 0))
                          (.ret false)
                          (.mat (samePR (r31.2.2.1, (r31.2.2.2, ())) (r32.2.2.1, (r32.2.2.2, ()))) fun r35 =>
                          .cond (!r35)
                            (.ret false)
                            (.mat (samePR (r34.2.2.1, (r34.2.2.2, ())) (r3.2.2.1, (r3.2.2.2, ()))) fun r36 =>
                            .cond (!r36)
                              (.ret false)
                              (let v37 := iwrap .i64 ((r3.2.2.2.length : Int) - 1)
                              .cond (!decide ((r33.2.2.2.length : Int) = v37))
                                (.ret false)
                                (.mat (samePR (r33.2.2.1, (r33.2.2.2, ())) (r3.2.2.1, (r33.2.2.2, ()))) fun r38 =>
                                .ret r38))))))))))))))
noncomputable def l_FnParcels_F (p0 : (List Int)) (p1 : (List Int)) : Option Bool := (l_FnParcels p0 p1).run some
-- law
theorem ech_again {b : Nat} {l : List Int} {r : Int} (hb : b ≤ 62) (h : okRows b (l ++ [r]) = true) (h2 : okRows b (l ++ [r] ++ [r]) = true) : (echI (l ++ [r] ++ [r])).length = (echI (l ++ [r])).length := by
  rw [echI_len, echI_len]
  have h1 := ech_is hb h
  obtain ⟨P, c, hr, he, hs⟩ := h1
  have h3 : IsEch ((l ++ [r] ++ [r]).map Int.toNat) (ech ((l ++ [r]).map Int.toNat)) := by
    refine ⟨P, c, hr, he, fun v => Iff.trans ⟨fun hv => ?_, fun hv => ?_⟩ (hs v)⟩
    · refine Sp.trans (fun x hx => Sp.mem ?_) hv
      simp only [List.map_append, List.mem_append, List.map_cons, List.map_nil, List.mem_singleton] at hx ⊢
      rcases hx with hx | hx
      · exact hx
      · exact .inr hx
    · refine Sp.trans (fun x hx => Sp.mem ?_) hv
      rw [List.map_append]
      exact List.mem_append.2 (.inl hx)
  rw [ech_of h3]
/-- what comes in twice does what it does once -/
theorem come_twice {k : Nat} {g : G8} {p : P8} {x : Int × Int × Unit} (hg : isG g = true) (hk : k ≤ 1000) (hp : okP k g p = true) (hx : okRow (colsG g) x.2.1 = true) : comeM x (comeM x p.1) = comeM x p.1 := by
  have hc := (colsG_le hg).1
  have key : ∀ st', comeM x p.1 = st' → comeM x st' = st' := by
    intro st' he
    unfold comeM at he
    cases hs : p.1[x.1.toNat]? with
    | none => rw [hs] at he; simp only at he; subst he; unfold comeM; rw [hs]
    | some s =>
      rw [hs] at he
      simp only at he
      have hm := List.mem_of_getElem? hs
      have hr := okS_add ((okP_spec hp).2.1 s hm).1 hx
      have hr2 := okS_add hr hx
      by_cases hd : ((echI (s.1 ++ [x.2.1])).length : Int) = ((s.1 ++ [x.2.1]).length : Int)
      · rw [decide_eq_true hd, cond_true] at he
        subst he
        have hi : x.1.toNat < p.1.length := (List.getElem?_eq_some_iff.1 hs).1
        have hag := ech_again (b := colsG g) (by omega) (okS_rows hr (by omega) (Nat.le_refl _)) (okS_rows hr2 (by omega) (Nat.le_refl _))
        unfold comeM
        rw [List.getElem?_set, if_pos rfl, if_pos hi]
        simp only
        rw [decide_eq_false (by rw [hag]; simp only [List.length_append, List.length_cons, List.length_nil] at hd ⊢; omega), cond_false]
      · rw [decide_eq_false hd, cond_false] at he
        subst he
        unfold comeM
        rw [hs]
        simp only
        rw [decide_eq_false hd, cond_false]
  exact key _ rfl
theorem l_FnParcels_law (p0 p1 : List Int) (h0 : (K.sl (.int .u8)).wf p0) (h1 : (K.sl (.int .u8)).wf p1) : l_FnParcels_F p0 p1 = some true := by
  unfold l_FnParcels_F l_FnParcels
  rw [Tre.run_cond]
  cases hlong : l_a2Long_S p0 p1
  case true => rfl
  obtain ⟨n0, n1⟩ := long_no hlong
  obtain ⟨⟨ga, gb, ⟨gc, gd, ⟨⟩⟩, ge⟩, e1, hg⟩ := gather_ok n0 (bytes_of h0)
  rw [cond_false, run_some_mat e1]
  dsimp only at hg ⊢
  generalize hG : ((ga, gb, ge, gc, gd, ()) : G8) = g at hg
  have hb := isG_spec hg
  have hab : 1 ≤ ga ∧ ga ≤ 4 ∧ 1 ≤ gb ∧ gb ≤ 6 ∧ ((colsG g : Nat) : Int) = ga + gb := by
    have := (colsG_le hg).2
    rw [← hG] at hb this
    exact ⟨hb.1, hb.2.1, hb.2.2.1, hb.2.2.2.1, by rw [← hG]; exact this⟩
  have hcols := (colsG_le hg).1
  obtain ⟨ds, e2, hd, hl, _⟩ := deeds_ok hg false n1 (bytes_of h1)
  have hP := afterM_ok hg hd (by omega)
  obtain ⟨q1, _, q3, q4⟩ := okP_spec hP
  have eS : plantS g ds = some (.inr (afterM g ds, (zerosN (runM g ds (beginM g)).2 : Int), 0)) := by
    have : plantS g ds = some (cond (decide (askedM ds g = 0)) (.inr (afterM g ds, (zerosN (runM g ds (beginM g)).2 : Int), 0)) (.inl (0, askedM ds g, [], []))) := askO_true (by rw [Bool.and_eq_true, decide_eq_true_eq, decide_eq_true_eq]; omega)
    rw [this, decide_eq_true (asked_zero hg hd (by omega))]; rfl
  rw [run_some_mat e2, run_some_mat (plant_of hg hd (by omega)), run_some_mat eS, Tre.run_inr]
  simp only [Tre.run_cond, decide_true, Bool.not_true, cond_false]
  by_cases hw : ((afterM g ds).2.1.length : Int) = 0
  · rw [decide_eq_true hw]; rfl
  rw [decide_eq_false hw, cond_false]
  obtain ⟨i, e3, hi0, hi1⟩ := at_ok (bytes_of h0) (i := 0) (n := ((afterM g ds).2.1.length : Int)) (Int.le_refl _)
  have hi2 : i < ((afterM g ds).2.1.length : Int) := by omega
  obtain ⟨i, rfl⟩ := Int.eq_ofNat_of_zero_le hi0
  have hi3 : i < (afterM g ds).2.1.length := by omega
  have w1 : iwrap .i64 (ga + gb) = ((colsG g : Nat) : Int) := by rw [hab.2.2.2.2]; exact iwrap_i64 (by omega) (by omega)
  have hpow := pow_le (b := colsG g) (c := 10) hcols
  have hpow2 := pow_le (b := 2) (c := colsG g) (by omega)
  have hshl : ishl .i64 1 (iwrap .u64 ((colsG g : Nat) : Int)) = ((2 ^ colsG g : Nat) : Int) := by
    rw [iwrap_u64 (by omega) (by omega), show (1 : Int) = ((1 : Nat) : Int) from rfl, ishl_nat (by omega) (by omega), Nat.one_mul]
  have hshl2 : ishl .i64 1 ((colsG g : Nat) : Int) = ((2 ^ colsG g : Nat) : Int) := by
    rw [show (1 : Int) = ((1 : Nat) : Int) from rfl, ishl_nat (by omega) (by omega), Nat.one_mul]
  rw [run_some_mat e3, w1, Tre.run_ite, if_pos (iwrap_u64_nonneg _), hshl, iwrap_i64 (n := ((2 ^ colsG g : Nat) : Int) - 1) (by omega) (by omega)]
  obtain ⟨mr, e4, hm0, hm1⟩ := at_ok (bytes_of h0) (i := 1) (n := ((2 ^ colsG g : Nat) : Int) - 1) (by omega)
  rw [run_some_mat e4]
  have hm2 : 0 ≤ mr ∧ mr < ((2 ^ colsG g : Nat) : Int) - 1 := by omega
  rw [show iwrap .i64 (1 + mr) = 1 + mr from iwrap_i64 (by omega) (by omega)]
  have hw12 : i ≤ 12 := by omega
  have ap1 : ∀ k : Nat, k ≤ 2 → ((ds.length + k) * 32 ≤ appendMax ∧ 1 ≤ 32) := fun k hk => by unfold appendMax; omega
  have v2 : ∀ k : Int, k = 2 ∨ k = 3 ∨ k = 4 → vDeed (k, (i : Int), 0, 0, ()) = true := fun k hk => vDeed_of (by omega) (by omega) (by omega) (by omega) (by omega) (by omega)
  have v5 : vDeed (5, (i : Int), 1 + mr, 0, ()) = true := vDeed_of (by omega) (by omega) (by omega) (by omega) (by omega) (by omega)
  have all1 : ∀ d : D8, vDeed d = true → (ds ++ [d]).all vDeed = true := fun d h => by rw [List.all_append, hd, List.all_cons, h]; rfl
  have all2 : ∀ d e : D8, vDeed d = true → vDeed e = true → (ds ++ [d, e]).all vDeed = true := fun d e h h' => by rw [List.all_append, hd, List.all_cons, h, List.all_cons, h']; rfl
  have len1 : ∀ d : D8, (ds ++ [d]).length ≤ 300 := fun d => by simp; omega
  have len2 : ∀ d e : D8, (ds ++ [d, e]).length ≤ 300 := fun d e => by simp; omega
  have a1 := all1 _ (v2 2 (by omega))
  have a2 := all2 _ _ (v2 3 (by omega)) (v2 2 (by omega))
  have a3 := all1 _ (v2 4 (by omega))
  have a4 := all2 _ _ v5 v5
  have P1 := afterM_ok hg a1 (len1 _)
  have P3 := afterM_ok hg a3 (len1 _)
  have P4 := afterM_ok hg a4 (len2 _ _)
  simp only [List.nil_append, Nat.zero_add]
  have ap0 := ap1 0 (by omega)
  rw [Nat.add_zero] at ap0
  rw [Tre.run_ite, if_pos ap0, Tre.run_ite, if_pos (ap1 1 (by omega)), Tre.run_ite, if_pos ap0, Tre.run_ite, if_pos (ap1 2 (by omega)), Tre.run_ite, if_pos ap0, Tre.run_ite, if_pos (ap1 1 (by omega)), Tre.run_ite, if_pos ap0, Tre.run_ite, if_pos (ap1 2 (by omega))]
  rw [run_some_mat (plant_of hg a1 (len1 _)), run_some_mat (plant_of hg a2 (len2 _ _)), run_some_mat (plant_of hg a3 (len1 _)), run_some_mat (plant_of hg a4 (len2 _ _))]
  simp only [Tre.run_cond, decide_true, Bool.not_true, cond_false]
  have A1 : afterM g (ds ++ [(2, (i : Int), 0, 0, ())]) = (doM g (2, (i : Int), 0, 0, ()) (afterM g ds)).2 := runM_app g _ ds _
  have A2 : afterM g (ds ++ [(3, (i : Int), 0, 0, ()), (2, (i : Int), 0, 0, ())]) = (doM g (2, (i : Int), 0, 0, ()) (doM g (3, (i : Int), 0, 0, ()) (afterM g ds)).2).2 := runM_app2 g _ _ ds _
  have A3 : afterM g (ds ++ [(4, (i : Int), 0, 0, ())]) = (doM g (4, (i : Int), 0, 0, ()) (afterM g ds)).2 := runM_app g _ ds _
  have A4 : afterM g (ds ++ [(5, (i : Int), 1 + mr, 0, ()), (5, (i : Int), 1 + mr, 0, ())]) = (doM g (5, (i : Int), 1 + mr, 0, ()) (doM g (5, (i : Int), 1 + mr, 0, ()) (afterM g ds)).2).2 := runM_app2 g _ _ ds _
  obtain ⟨x, hx⟩ : ∃ x, (afterM g ds).2.1[i]? = some x := ⟨_, List.getElem?_eq_getElem hi3⟩
  have hxr := (q4 x (List.mem_of_getElem? hx)).2
  have hct := come_twice hg (by omega) hP hxr
  have B1 := wire_do (g := g) (b := 0) (k := 2) (by omega) hx
  have B3 := wire_do (g := g) (b := 0) (k := 3) (by omega) hx
  have B4 := wire_do (g := g) (b := 0) (k := 4) (by omega) hx
  simp only [show decide ((2 : Int) = 4) = false from rfl, show decide ((2 : Int) = 3) = false from rfl, cond_false] at B1
  simp only [show decide ((3 : Int) = 4) = false from rfl, decide_true, cond_false, cond_true] at B3
  simp only [decide_true, show decide ((4 : Int) = 3) = false from rfl, cond_false, cond_true] at B4
  have B2 := wire_do (g := g) (p := (comeM x (afterM g ds).1, (afterM g ds).2.1, ())) (b := 0) (k := 2) (by omega) hx
  simp only [show decide ((2 : Int) = 4) = false from rfl, show decide ((2 : Int) = 3) = false from rfl, cond_false] at B2
  rw [hct] at B2
  have B5 := spoil_do (g := g) hx (show (1 + mr) ≠ 0 by omega) (by rw [hshl2]; omega)
  have hset : ((afterM g ds).2.1.set i (x.1, ixor .i64 x.2.1 (1 + mr), ()))[i]? = some (x.1, ixor .i64 x.2.1 (1 + mr), ()) := by rw [List.getElem?_set, if_pos rfl, if_pos hi3]
  have B6 := spoil_do (g := g) (p := ((afterM g ds).1, (afterM g ds).2.1.set i (x.1, ixor .i64 x.2.1 (1 + mr), ()), ())) hset (show (1 + mr) ≠ 0 by omega) (by rw [hshl2]; omega)
  have hxx : ixor .i64 (ixor .i64 x.2.1 (1 + mr)) (1 + mr) = x.2.1 := by
    obtain ⟨n, hn, hn2⟩ := okRow_nat.1 hxr
    obtain ⟨m, hm⟩ := Int.eq_ofNat_of_zero_le (show 0 ≤ 1 + mr by omega)
    have hxl : n ^^^ m < 2 ^ 63 := Nat.xor_lt_two_pow (by omega) (by omega)
    rw [hn, hm, ixor_nat (by omega) (by omega), ixor_nat hxl (by omega), Nat.xor_assoc, Nat.xor_self, Nat.xor_zero]
  have S1 : afterM g (ds ++ [(2, (i : Int), 0, 0, ())]) = afterM g (ds ++ [(3, (i : Int), 0, 0, ()), (2, (i : Int), 0, 0, ())]) := by rw [A1, A2, B1, B3, B2]
  have S4 : afterM g (ds ++ [(5, (i : Int), 1 + mr, 0, ()), (5, (i : Int), 1 + mr, 0, ())]) = afterM g ds := by
    rw [A4, B5, B6]
    simp only [hxx, List.set_set]
    rw [show ((x.1, x.2.1, ()) : Int × Int × Unit) = x from rfl]
    have : (afterM g ds).2.1.set i x = (afterM g ds).2.1 := by
      apply List.ext_getElem?
      intro j
      rw [List.getElem?_set]
      by_cases hj : i = j
      · subst hj; rw [if_pos rfl, if_pos hi3, hx]
      · rw [if_neg hj]
    rw [this]
  rw [run_some_mat (same_of P1 (by omega) hg S1), Bool.not_true, Tre.run_cond, cond_false, run_some_mat (same_of P4 (by omega) hg S4), Bool.not_true, Tre.run_cond, cond_false]
  have hlen3 : (afterM g (ds ++ [(4, (i : Int), 0, 0, ())])).2.1.length = (afterM g ds).2.1.length - 1 := by
    rw [A3, B4]
    simp only [List.length_append, List.length_take, List.length_drop]
    omega
  rw [Tre.run_cond, iwrap_i64 (n := ((afterM g ds).2.1.length : Int) - 1) (by omega) (by omega), decide_eq_true (by rw [hlen3]; omega), Bool.not_true, cond_false]
  have S3 : afterM g (ds ++ [(4, (i : Int), 0, 0, ())]) = ((afterM g ds).1, (afterM g (ds ++ [(4, (i : Int), 0, 0, ())])).2.1, ()) := by rw [A3, B4]
  exact (run_some_mat (same_of P3 (by omega) hg S3)).trans rfl

noncomputable def l_FnParcels_V : Env := ⟨tau, [(7, l_a2Long_c), (8, s_A2Gather_c), (9, s_A2Deeds_c), (11, i_PlantAfter_c), (13, s_PlantAfter_c), (10, l_a2At_c), (12, s_SamePlant_c)], [(23, [((27, 0), [.snd, .fst], false)])]⟩
noncomputable def l_FnParcels_b : Code := (Try.f4.body).getD .skip
noncomputable def l_FnParcels_I : FnI := ⟨l_FnParcels_b, Try.f4.results.toList, Try.f4.resultTypes.toList, []⟩
noncomputable def l_FnParcels_out (_zp0 : Bool) (_zp1 : Bool) (_p0 : (List Int)) (_p1 : (List Int)) : Bool → CallOut := fun r => ⟨(.imm true .bool r), [], []⟩
set_option maxRecDepth 100000 in
theorem l_FnParcels_eq : ∀ (zp0 : Bool) (zp1 : Bool) (p0 : (List Int)) (p1 : (List Int)), denFn l_FnParcels_V l_FnParcels_I ⟨[(.imm zp0 (.sl (.int .u8)) p0), (.imm zp1 (.sl (.int .u8)) p1)], []⟩ = (l_FnParcels p0 p1).run fun r => some (l_FnParcels_out zp0 zp1 p0 p1 r) := fun _ _ _ _ => by kernel_rfl
noncomputable def l_FnParcels_G (av : List AV) (rs : List Root) : Tre CallOut :=
  asCons av fun a0_ av0 =>
  asCons av0 fun a1_ av1 =>
  asEnd av1 <|
  asEnd rs <|
  asImm (.sl (.int .u8)) a0_ fun z2 d1 =>
  asImm (.sl (.int .u8)) a1_ fun z4 d3 =>
  .mat (l_FnParcels_F d1 d3) fun r => .ret (l_FnParcels_out z2 z4 d1 d3 r)
noncomputable def l_FnParcels_c : Ctr := ⟨[], fun ci => l_FnParcels_G ci.args ci.roots⟩
theorem l_FnParcels_env : EnvOK Try.prog l_FnParcels_V := (envOK_cons l_a2Long_ok ent7 (envOK_cons s_A2Gather_ok ent8 (envOK_cons s_A2Deeds_ok ent9 (envOK_cons i_PlantAfter_ok ent11 (envOK_cons s_PlantAfter_ok ent13 (envOK_cons l_a2At_ok ent10 (envOK_cons s_SamePlant_ok ent12 envOK_nil)))))))
set_option maxRecDepth 100000 in
theorem l_FnParcels_ok : Contract Try.prog 4 l_FnParcels_c := by
  have hl : LoopsOK l_FnParcels_V [] l_FnParcels_b := loopsOK_nil (by kernel_rfl)
  refine (contract_of (F := l_FnParcels_I) tau_tys l_FnParcels_env Try.func4 (by kernel_rfl) (by kernel_rfl) (by kernel_rfl) hl []).weaken ?_
  rintro ⟨av, rs⟩ co h
  have h : (l_FnParcels_G av rs).run some = some co := h
  obtain ⟨a0_, av0, rfl, h_0⟩ := asCons_spec h
  obtain ⟨a1_, av1, rfl, h_1⟩ := asCons_spec h_0
  obtain ⟨rfl, h_2⟩ := asEnd_spec h_1
  obtain ⟨rfl, h_3⟩ := asEnd_spec h_2
  obtain ⟨z2, d1, rfl, h_4⟩ := asImm_spec h_3
  obtain ⟨z4, d3, rfl, h_5⟩ := asImm_spec h_4
  exact fin_mat (l_FnParcels_eq z2 z4 d1 d3) h_5

end Go.Proofs.Ytohnlghdhbignaa
