/- Part 5 of the proof of FnStationCrash. -/
import Derived.Test.YtohnlghdhbignaaSc4
namespace Go.Proofs.Ytohnlghdhbignaa
open Go Go.Abs Go.Proofs

-- shared
/-- it ends, and well -/
def Fine {α : Type} (t : Tre α) (Q : α → Prop) : Prop := ∃ a, t.run some = some a ∧ Q a
theorem Fine.ret {α : Type} {a : α} {Q : α → Prop} (h : Q a) : Fine (.ret a) Q := ⟨a, rfl, h⟩
theorem Fine.cond {α : Type} {b : Bool} {t f : Tre α} {Q : α → Prop} (ht : b = true → Fine t Q) (hf : b = false → Fine f Q) : Fine (.cond b t f) Q := by
  cases b
  · exact hf rfl
  · exact ht rfl
theorem Fine.condp {α : Type} {p : Prop} [Decidable p] {t f : Tre α} {Q : α → Prop} (ht : p → Fine t Q) (hf : ¬ p → Fine f Q) : Fine (.cond (decide p) t f) Q :=
  Fine.cond (fun h => ht (of_decide_eq_true h)) (fun h => hf (of_decide_eq_false h))
theorem Fine.ite {α : Type} {p : Prop} [h : Decidable p] {t : Tre α} {Q : α → Prop} (hp : p) (ht : p → Fine t Q) : Fine (.ite p t) Q := by
  obtain ⟨a, h1, h2⟩ := ht hp
  exact ⟨a, by rw [Tre.run_ite, if_pos hp]; exact h1, h2⟩
theorem Fine.ifn {α : Type} {p : Prop} [h : Decidable p] {t : Tre α} {Q : α → Prop} (hp : ¬ p) (ht : Fine t Q) : Fine (.ifn p t) Q := by
  obtain ⟨a, h1, h2⟩ := ht
  exact ⟨a, by rw [Tre.run_ifn, if_neg hp]; exact h1, h2⟩
theorem Fine.mat {α β : Type} {o : Option β} {k : β → Tre α} {P : β → Prop} {Q : α → Prop} (h : ∃ x, o = some x ∧ P x) (hk : ∀ x, P x → Fine (k x) Q) : Fine (.mat o k) Q := by
  obtain ⟨x, rfl, hx⟩ := h
  exact hk x hx
theorem Fine.get {α β : Type} {o : Option β} {x : β} {k : β → Tre α} {Q : α → Prop} (h : o = some x) (hk : Fine (k x) Q) : Fine (.mat o k) Q := by
  subst h; exact hk
theorem Fine.at {α β : Type} {xs : List β} {i : Int} {k : β → Tre α} {Q : α → Prop} (hi : 0 ≤ i ∧ i < (xs.length : Int)) (hk : ∀ x, x ∈ xs → Fine (k x) Q) : Fine (.mat xs[i.toNat]? k) Q := by
  have hl : i.toNat < xs.length := by omega
  exact .get (List.getElem?_eq_getElem hl) (hk _ (List.getElem_mem hl))
theorem Fine.at0 {α β : Type} {xs : List β} {k : β → Tre α} {Q : α → Prop} (hi : 0 < xs.length) (hk : ∀ x, x ∈ xs → Fine (k x) Q) : Fine (.mat xs[0]? k) Q :=
  .get (List.getElem?_eq_getElem hi) (hk _ (List.getElem_mem hi))
theorem Fine.run {α : Type} {t : Tre α} {Q : α → Prop} (h : Fine t Q) : ∃ a, t.run some = some a ∧ Q a := h
/-! what draws -/
abbrev Src := List Int × Int × Int × Unit
def srcOK (c : Nat) (s : Src) : Prop := s.1.length ≤ 3000 ∧ (∀ x ∈ s.1, 0 ≤ x ∧ x ≤ 255) ∧ 0 ≤ s.2.1 ∧ s.2.1 ≤ (c : Int)
theorem srcOK.mono {c c' : Nat} {s : Src} (h : srcOK c s) (hc : c ≤ c') : srcOK c' s := ⟨h.1, h.2.1, h.2.2.1, by have := h.2.2.2; omega⟩
theorem and255 (a : Int) : 0 ≤ iand .u64 a 255 ∧ iand .u64 a 255 ≤ 255 := by
  have h : (BitVec.ofInt 64 a &&& BitVec.ofInt 64 255).toNat ≤ 255 := by
    rw [BitVec.toNat_and]
    exact Nat.le_trans Nat.and_le_right (by decide)
  unfold iand
  show 0 ≤ iwrap .u64 (((BitVec.ofInt 64 a &&& BitVec.ofInt 64 255).toNat : Nat) : Int) ∧ iwrap .u64 (((BitVec.ofInt 64 a &&& BitVec.ofInt 64 255).toNat : Nat) : Int) ≤ 255
  rw [iwrap_u64 (by omega) (by omega)]
  omega
theorem next_ok {c : Nat} {s : Src} (h : srcOK c s) (hc : c ≤ 100000) : ∃ r, s_l00Src_next_6913_F s = some r ∧ ((0 ≤ r.1 ∧ r.1 ≤ 255) ∧ srcOK (c + 1) r.2) := by
  obtain ⟨h1, h2, h3, h4⟩ := h
  have hw : iwrap .i64 (s.2.1 + 1) = s.2.1 + 1 := iwrap_i64 (by omega) (by omega)
  have hsrc : ∀ v : Int, srcOK (c + 1) (s.1, iwrap .i64 (s.2.1 + 1), v, s.2.2.2) := fun v => ⟨h1, h2, by show 0 ≤ iwrap .i64 (s.2.1 + 1); omega, by show iwrap .i64 (s.2.1 + 1) ≤ ((c + 1 : Nat) : Int); omega⟩
  have hand : ∀ a : Int, 0 ≤ iwrap .i64 (iand .u64 a 255) ∧ iwrap .i64 (iand .u64 a 255) ≤ 255 := fun a => by
    have := and255 a
    rw [iwrap_i64 (by omega) (by omega)]; exact this
  unfold s_l00Src_next_6913_F s_l00Src_next_6913
  refine Fine.run (Fine.condp (fun hlt => Fine.ite ⟨h3, hlt⟩ fun hi => Fine.at hi fun x hx => ?_) (fun _ => ?_))
  · have hb := h2 x hx
    have hx1 : iwrap .i64 x = x := iwrap_i64 (by omega) (by omega)
    exact Fine.condp (fun _ => .ret ⟨by rw [hx1]; exact hb, hsrc _⟩) (fun _ => .ret ⟨hand _, hsrc _⟩)
  · exact Fine.condp (fun _ => .ret ⟨⟨Int.le_refl 0, by show (0 : Int) ≤ 255; omega⟩, hsrc _⟩) (fun _ => .ret ⟨hand _, hsrc _⟩)
theorem tmod_rng {x n : Int} (hx : 0 ≤ x) (hn : 0 < n) : 0 ≤ Int.tmod x n ∧ Int.tmod x n < n := ⟨Int.tmod_nonneg n hx, Int.tmod_lt_of_pos x hn⟩
/-- a number that is drawn -/
theorem pick_ok {n : Int} {c : Nat} {s : Src} (h : srcOK c s) (hc : c ≤ 90000) : ∃ r, s_l00Src_pick_9f69_F n s = some r ∧ ((0 ≤ r.1 ∧ (r.1 = 0 ∨ r.1 < n)) ∧ srcOK (c + 2) r.2) := by
  unfold s_l00Src_pick_9f69_F s_l00Src_pick_9f69
  refine Fine.run (Fine.condp (fun _ => .ret ⟨⟨Int.le_refl _, .inl rfl⟩, h.mono (by omega)⟩) (fun hn => Fine.mat (next_ok h (by omega)) fun x hx => Fine.condp (fun _ => Fine.mat (next_ok hx.2 (by omega)) fun y hy => ?_) (fun _ => ?_)))
  · refine Fine.ifn (by omega) (.ret ⟨?_, hy.2⟩)
    have h1 : iwrap .i64 (x.1 * 256) = x.1 * 256 := iwrap_i64 (by omega) (by omega)
    have h2 : iwrap .i64 (iwrap .i64 (x.1 * 256) + y.1) = x.1 * 256 + y.1 := by rw [h1]; exact iwrap_i64 (by omega) (by omega)
    show 0 ≤ Int.tmod (iwrap .i64 (iwrap .i64 (x.1 * 256) + y.1)) n ∧ (Int.tmod (iwrap .i64 (iwrap .i64 (x.1 * 256) + y.1)) n = 0 ∨ Int.tmod (iwrap .i64 (iwrap .i64 (x.1 * 256) + y.1)) n < n)
    rw [h2]
    have := tmod_rng (x := x.1 * 256 + y.1) (n := n) (by omega) (by omega)
    exact ⟨this.1, .inr this.2⟩
  · refine Fine.ifn (by omega) (.ret ⟨?_, hx.2.mono (by omega)⟩)
    have := tmod_rng (x := x.1) (n := n) (by omega) (by omega)
    exact ⟨this.1, .inr this.2⟩
theorem one_ok {n : Int} {c : Nat} {s : Src} (h : srcOK c s) (hc : c ≤ 90000) : ∃ r, s_l00Src_one_9f69_F n s = some r ∧ srcOK (c + 2) r.2 := by
  unfold s_l00Src_one_9f69_F s_l00Src_one_9f69
  exact Fine.run (Fine.mat (pick_ok h hc) fun x hx => .ret hx.2)
theorem kind_ok {c : Nat} {s : Src} (h : srcOK c s) (hc : c ≤ 90000) : ∃ r, s_l00Src_among_e38a_F s [1, 1, 1, 1, 1, 2, 2, 2, 2, 2, 2, 3, 4, 5, 6, 7, 8, 1, 2, 2] = some r ∧ ((1 ≤ r.1 ∧ r.1 ≤ 8) ∧ srcOK (c + 2) r.2) := by
  unfold s_l00Src_among_e38a_F s_l00Src_among_e38a
  refine Fine.run (Fine.mat (pick_ok h hc) fun x hx => Fine.ite ⟨hx.1.1, ?_⟩ fun hi => Fine.at hi fun y hy => .ret ⟨?_, hx.2⟩)
  · have h1 := hx.1.2
    simp only [List.length_cons, List.length_nil] at h1 ⊢
    omega
  · have : ∀ y ∈ ([1, 1, 1, 1, 1, 2, 2, 2, 2, 2, 2, 3, 4, 5, 6, 7, 8, 1, 2, 2] : List Int), 1 ≤ y ∧ y ≤ 8 := by decide
    exact this y hy
/-! a gathering -/
theorem inP_of {m : Nat} (hm : m ≤ 6) {x : Int} (h0 : 0 ≤ x) (h : x = 0 ∨ x < ishl .i64 1 (iwrap .u64 (m : Int))) : inP (m : Int) x = true := by
  rw [iwrap_u64 (by omega) (by omega), show (1 : Int) = ((1 : Nat) : Int) from rfl, ishl_nat (by omega) (by have := pow_le (b := m) (c := 6) hm; omega)] at h
  unfold inP
  rw [top1_nat (by omega), inR_iff]
  have := Nat.two_pow_pos m
  rw [Nat.one_mul] at h
  omega
theorem draw_data {m b : Nat} (hm : m ≤ 4) (hb : b ≤ 6) (w : Int × Int × Unit) : ∀ (n i : Nat) {c : Nat} {s : Src} {l : List Int}, i + n = m → srcOK c s → c + 2 * n ≤ 90000 → l.length = i → l.all (inP (b : Int)) = true →
    ∃ r : Src × Int × Int × List Int × Int × Int × Unit, loopF s_l08Drawn_6913_l6 ((i : Int), s, (m : Int), (b : Int), l, w) = some r ∧ (r.2.1 = (m : Int) ∧ r.2.2.1 = (b : Int) ∧ r.2.2.2.1.length = m ∧ r.2.2.2.1.all (inP (b : Int)) = true ∧ r.2.2.2.2 = w) := by
  intro n
  induction n with
  | zero =>
    intro i c s l hi hs _ hl ha
    refine ⟨(s, (m : Int), (b : Int), l, w), loopF_done ?_, rfl, rfl, by show l.length = m; omega, ha, rfl⟩
    unfold s_l08Drawn_6913_l6
    rw [Tre.run_cond, decide_eq_false (by show ¬ (i : Int) < (m : Int); omega), cond_false, Tre.run_ret]
  | succ n ih =>
    intro i c s l hi hs hc hl ha
    obtain ⟨r, hr, ⟨hr0, hr1⟩, hr2⟩ := pick_ok (n := ishl .i64 1 (iwrap .u64 (b : Int))) hs (by omega)
    have hstep : (s_l08Drawn_6913_l6 ((i : Int), s, (m : Int), (b : Int), l, w)).run some = some (.inl (((i + 1 : Nat) : Int), r.2, (m : Int), (b : Int), l ++ [r.1], w)) := by
      unfold s_l08Drawn_6913_l6
      rw [Tre.run_cond, decide_eq_true (by show (i : Int) < (m : Int); omega), cond_true, Tre.run_ite, if_pos (iwrap_u64_nonneg _)]
      dsimp only
      rw [run_some_mat hr, Tre.run_ite, if_pos (by unfold appendMax; omega), Tre.run_ret, iwrap_succ (by omega)]
    rw [loopF_step hstep]
    exact ih (i + 1) (by omega) hr2 (by omega) (by simp; omega) (by rw [List.all_append, ha, List.all_cons, inP_of hb hr0 hr1]; rfl)
/-- a gathering that is drawn is a right one -/
theorem gather_ok {code : List Int} (hl : code.length ≤ 3000) (hc : ∀ x ∈ code, 0 ≤ x ∧ x ≤ 255) : ∃ r, s_A2Gather_F code = some r ∧ isG (r.1, r.2.1, r.2.2.2, r.2.2.1) = true := by
  have h0 : srcOK 0 (code, 0, 0, ()) := ⟨hl, hc, Int.le_refl _, Int.le_refl _⟩
  unfold s_A2Gather_F s_A2Gather
  refine Fine.run (Fine.mat (P := fun r => isG (r.1, r.2.1, r.2.2.2.2, r.2.2.1) = true) ?_ fun r hr => .ret hr)
  unfold s_l08Drawn_6913_F s_l08Drawn_6913
  refine Fine.run (Fine.mat (pick_ok h0 (by omega)) fun a ha => Fine.mat (pick_ok ha.2 (by omega)) fun b hb => Fine.mat (pick_ok hb.2 (by omega)) fun c hc => Fine.mat (pick_ok hc.2 (by omega)) fun d hd => Fine.mat (one_ok hd.2 (by omega)) fun e he => ?_)
  have w1 : iwrap .i64 (1 + d.1) = 1 + d.1 := iwrap_i64 (by omega) (by omega)
  have w2 : iwrap .i64 (1 + a.1) = 1 + a.1 := iwrap_i64 (by omega) (by omega)
  have w3 : iwrap .i64 (1 + b.1) = 1 + b.1 := iwrap_i64 (by omega) (by omega)
  have fin : ∀ (m k : Nat), 1 ≤ m → m ≤ 4 → 1 ≤ k → k ≤ 6 → Fine (Tre.mat (loopF s_l08Drawn_6913_l6 (0, e.2, (m : Int), (k : Int), [], c.1, iwrap .i64 (1 + d.1), ())) fun l8 => (Tre.ret (l8.2.1, l8.2.2.1, l8.2.2.2.2, l8.1, l8.2.2.2.1))) (fun r => isG (r.1, r.2.1, r.2.2.2.2, r.2.2.1) = true) := by
    intro m k h1 h2 h3 h4
    refine Fine.mat (draw_data h2 h4 (c.1, iwrap .i64 (1 + d.1), ()) m 0 (by omega) he (by omega) rfl rfl) fun r hr => .ret ?_
    obtain ⟨e1, e2, e3, e4, e5⟩ := hr
    show isG (r.2.1, r.2.2.1, r.2.2.2.1, r.2.2.2.2) = true
    rw [e1, e2, e5, w1]
    unfold isG
    simp only [Bool.and_eq_true, inR_iff, decide_eq_true_eq, e4, and_true]
    omega
  refine Fine.cond (fun _ => fin 4 6 (by omega) (by omega) (by omega) (by omega)) (fun _ => ?_)
  have := fin (1 + a.1.toNat) (1 + b.1.toNat) (by omega) (by omega) (by omega) (by omega)
  rw [show ((1 + a.1.toNat : Nat) : Int) = iwrap .i64 (1 + a.1) from by omega, show ((1 + b.1.toNat : Nat) : Int) = iwrap .i64 (1 + b.1) from by omega] at this
  exact this
/-! deeds -/
theorem wire_n {n : Nat} {r : Int} (hn : n ≤ 12) (h0 : 0 ≤ r) (h1 : r = 0 ∨ r < 12) : 0 ≤ iwrap .i64 ((n : Int) + iwrap .i64 (Int.tdiv r 11)) ∧ iwrap .i64 ((n : Int) + iwrap .i64 (Int.tdiv r 11)) ≤ 13 := by
  have h : 0 ≤ Int.tdiv r 11 ∧ Int.tdiv r 11 ≤ 1 := by
    rw [Int.tdiv_eq_ediv_of_nonneg h0]; omega
  rw [iwrap_i64 (n := Int.tdiv r 11) (by omega) (by omega), iwrap_i64 (by omega) (by omega)]
  omega
theorem shl_n {n : Nat} (hn : n ≤ 10) : 1 ≤ ishl .i64 1 (iwrap .u64 (n : Int)) ∧ ishl .i64 1 (iwrap .u64 (n : Int)) ≤ 1024 := by
  have h := pow_le (b := n) (c := 10) hn
  have h2 := Nat.two_pow_pos n
  rw [iwrap_u64 (by omega) (by omega), show (1 : Int) = ((1 : Nat) : Int) from rfl, ishl_nat (by omega) (by omega)]
  omega
theorem vDeed_of {k a b c : Int} (hk : 1 ≤ k ∧ k ≤ 8) (ha : 0 ≤ a ∧ a ≤ 9999) (hb : 0 ≤ b ∧ b ≤ 9999) (hc : 0 ≤ c ∧ c ≤ 9999) (h1 : k = 1 ∨ k = 5 ∨ b = 0) (h2 : k = 1 ∨ c = 0) : vDeed (k, a, b, c, ()) = true := by
  unfold vDeed
  simp only [Bool.and_eq_true, Bool.or_eq_true, inR_iff, decide_eq_true_eq]
  exact ⟨⟨⟨⟨⟨hk, ha⟩, hb⟩, hc⟩, by omega⟩, h2⟩
theorem max_n {n : Int} (h : 1 ≤ n ∧ n ≤ 100) : s_l00Max_S (iwrap .i64 (n - 1)) 1 ≤ 100 := by
  unfold s_l00Max_S
  rw [iwrap_i64 (by omega) (by omega)]
  cases decide (n - 1 > 1)
  · rw [cond_false]; omega
  · rw [cond_true]; omega
theorem wrap1 {r : Int} (h0 : 0 ≤ r) (h1 : r ≤ 1000) : iwrap .i64 (1 + r) = 1 + r := iwrap_i64 (by omega) (by omega)
theorem wrapm {r : Int} (h0 : 0 ≤ r) (h1 : r ≤ 10000) : iwrap .i64 (r - 1) = r - 1 := iwrap_i64 (by omega) (by omega)
theorem pickw_ok {n : Nat} {r : Int} {c : Nat} {s : Src} (hn : n ≤ 12) (h0 : 0 ≤ r) (h1 : r = 0 ∨ r < 12) (h : srcOK c s) (hc : c ≤ 90000) : ∃ x, s_l00Src_pick_9f69_F (iwrap .i64 ((n : Int) + iwrap .i64 (Int.tdiv r 11))) s = some x ∧ ((0 ≤ x.1 ∧ x.1 ≤ 13) ∧ srcOK (c + 2) x.2) := by
  obtain ⟨x, e, h2, h3⟩ := pick_ok (n := iwrap .i64 ((n : Int) + iwrap .i64 (Int.tdiv r 11))) h hc
  have := wire_n hn h0 h1
  exact ⟨x, e, by omega, h3⟩
theorem picks_ok {n : Nat} {c : Nat} {s : Src} (hn : n ≤ 10) (h : srcOK c s) (hc : c ≤ 90000) : ∃ x, s_l00Src_pick_9f69_F (ishl .i64 1 (iwrap .u64 (n : Int))) s = some x ∧ ((0 ≤ x.1 ∧ x.1 ≤ 1023) ∧ srcOK (c + 2) x.2) := by
  obtain ⟨x, e, h2, h3⟩ := pick_ok (n := ishl .i64 1 (iwrap .u64 (n : Int))) h hc
  have := shl_n hn
  exact ⟨x, e, by omega, h3⟩
theorem pickm_ok {n : Int} {c : Nat} {s : Src} (hn : 1 ≤ n ∧ n ≤ 100) (h : srcOK c s) (hc : c ≤ 90000) : ∃ x, s_l00Src_pick_9f69_F (s_l00Max_S (iwrap .i64 (n - 1)) 1) s = some x ∧ ((0 ≤ x.1 ∧ x.1 ≤ 100) ∧ srcOK (c + 2) x.2) := by
  obtain ⟨x, e, h2, h3⟩ := pick_ok (n := s_l00Max_S (iwrap .i64 (n - 1)) 1) h hc
  have := max_n hn
  exact ⟨x, e, by omega, h3⟩
/-- a deed that is drawn -/
def Drawn (g : G8) (clean : Bool) (c : Nat) (k : Int) (l : List D8) (p : P8) (o : (Int × Src × List D8 × (P8 × Unit)) ⊕ (Src × List D8)) : Prop :=
  ∃ s' d, o = .inl (iwrap .i64 (k - 1), s', l ++ [d], ((doM g d p).2, ())) ∧ srcOK (c + 30) s' ∧ vDeed d = true ∧ (clean = true → d.1 ≠ 5)
theorem deeds_leaf {g : G8} {clean : Bool} {c c' : Nat} {k : Int} {s' : Src} {l : List D8} {p : P8} {m : Nat} (hg : isG g = true) (hl : l.length ≤ 1000) (hm : m ≤ 1000) (hp : okP m g p = true) {kk a b e : Int}
    (hs : srcOK c' s') (hc : c' ≤ c + 30) (hk : 1 ≤ kk ∧ kk ≤ 8) (ha : 0 ≤ a ∧ a ≤ 9999) (hb : 0 ≤ b ∧ b ≤ 9999) (he : 0 ≤ e ∧ e ≤ 9999) (h1 : kk = 1 ∨ kk = 5 ∨ b = 0) (h2 : kk = 1 ∨ e = 0) (h5 : clean = true → kk ≠ 5) :
    Fine (.ite ((l.length + 1) * 32 ≤ appendMax ∧ 1 ≤ 32) <| .mat (doR (kk, (a, (b, (e, ())))) (p, ()) g) fun r => .ret (.inl (iwrap .i64 (k - 1), s', l ++ [(kk, (a, (b, (e, ()))))], r.2))) (Drawn g clean c k l p) := by
  have hd := vDeed_of hk ha hb he h1 h2
  refine Fine.ite (by unfold appendMax; omega) fun _ => Fine.get (show doR (kk, a, b, e, ()) (p, ()) g = some _ from askO_true (by rw [Bool.and_eq_true, Bool.and_eq_true]; exact ⟨⟨hg, hd⟩, okP_mono hp hm⟩)) (.ret ?_)
  exact ⟨s', (kk, a, b, e, ()), rfl, hs.mono hc, hd, h5⟩
set_option maxHeartbeats 4000000 in
theorem deeds_step {g : G8} {clean : Bool} {count : Int} (hg : isG g = true) (hcount : count = statG g) {c : Nat} {k : Int} {s : Src} {l : List D8} {p : P8} (hk : 0 < k) (hs : srcOK c s) (hc : c ≤ 50000) (hl : l.length ≤ 1000) {m : Nat} (hm : m ≤ 1000) (hp : okP m g p = true) (hlen : lenP p) :
    Fine (s_l08Deeds_ad92_l5 clean count g (k, s, l, (p, ()))) (Drawn g clean c k l p) := by
  have hb := isG_spec hg
  have hst : statG g = 1 + g.2.2.2.1 + g.2.2.2.2.1 := rfl
  obtain ⟨q1, _, q3, _⟩ := okP_spec hp
  have hcols := (colsG_le hg).1
  have hcount2 : 1 ≤ count ∧ count ≤ 100 := by omega
  have hlen2 : ∀ s ∈ p.1, s.1.length ≤ 10 ∧ s.2.1.length ≤ 10 := hlen
  unfold s_l08Deeds_ad92_l5
  rw [cols_S hg]
  dsimp only
  refine Fine.condp (fun _ => Fine.mat (kind_ok hs (by omega)) fun r5 hr5 => ?_) (fun h => absurd hk h)
  obtain ⟨hr5, hs5⟩ := hr5
  cases clean
  all_goals
    repeat' first
      | with_reducible refine Fine.condp (fun _ => ?_) (fun _ => ?_)
      | (with_reducible refine Fine.mat (pickw_ok q3 (by omega) (by omega) (by assumption) (by omega)) (fun r hr => ?_); obtain ⟨hr1, hr2⟩ := hr)
      | (with_reducible refine Fine.mat (picks_ok (by omega) (by assumption) (by omega)) (fun r hr => ?_); obtain ⟨hr1, hr2⟩ := hr)
      | (with_reducible refine Fine.mat (pickm_ok hcount2 (by assumption) (by omega)) (fun r hr => ?_); obtain ⟨hr1, hr2⟩ := hr)
      | (with_reducible refine Fine.mat (one_ok (by assumption) (by omega)) (fun r hr => ?_))
      | (with_reducible refine Fine.mat (pick_ok (by assumption) (by omega)) (fun r hr => ?_); obtain ⟨hr1, hr2⟩ := hr)
      | (with_reducible refine Fine.at ⟨by omega, by omega⟩ (fun x hx => ?_); have hx1 := (hlen2 x hx).1; have hx2 := shl_n hx1)
      | (with_reducible refine Fine.at0 (by omega) (fun x hx => ?_); have hx1 := (hlen2 x hx).1; have hx2 := shl_n hx1)
      | (with_reducible refine Fine.ite (iwrap_u64_nonneg _) (fun _ => ?_))
      | with_reducible refine deeds_leaf hg hl hm hp (by assumption) (by omega) (by omega) (by omega) (by first | omega | (rw [wrap1 (by omega) (by omega)]; omega)) (by first | omega | (rw [wrapm (by omega) (by omega)]; omega)) (by omega) (by omega) (by first | (intro _; omega) | (intro h; cases h))
      | (with_reducible refine Fine.ite ⟨by omega, by omega⟩ (fun _ => ?_))
      | ((with_reducible refine Fine.cond (fun h => ?_) (fun h => ?_)) <;> (try exact Bool.noConfusion h))
      | (exfalso; omega)
theorem deeds_loop {g : G8} {clean : Bool} (hg : isG g = true) : ∀ (n : Nat) {c : Nat} {s : Src} {l : List D8} {p : P8} {m : Nat}, srcOK c s → c + 30 * n ≤ 50000 → l.length + n ≤ 1000 → m + n ≤ 1000 → okP m g p = true → lenP p → l.all vDeed = true → (clean = true → ∀ d ∈ l, d.1 ≠ 5) →
    ∃ r : Src × List D8, loopF (s_l08Deeds_ad92_l5 clean (statG g) g) ((n : Int), s, l, (p, ())) = some r ∧ (r.2.all vDeed = true ∧ r.2.length = l.length + n ∧ (clean = true → ∀ d ∈ r.2, d.1 ≠ 5)) := by
  intro n
  induction n with
  | zero =>
    intro c s l p m hs _ _ _ hp hq hl hk
    refine ⟨(s, l), loopF_done ?_, hl, rfl, hk⟩
    unfold s_l08Deeds_ad92_l5
    rw [Tre.run_cond, decide_eq_false (by show ¬ ((0 : Nat) : Int) > 0; omega), cond_false, Tre.run_ret]
  | succ n ih =>
    intro c s l p m hs hc hl hm hp hq hv hk
    obtain ⟨o, ho, s', d, rfl, h1, h2, h3⟩ := deeds_step (clean := clean) (k := ((n + 1 : Nat) : Int)) (l := l) hg rfl (by omega) hs (by omega) (by omega) (by omega) hp hq
    rw [wrapm (by omega) (by omega), show ((n + 1 : Nat) : Int) - 1 = (n : Int) by omega] at ho
    rw [loopF_step ho]
    obtain ⟨r, e, r1, r2, r3⟩ := ih (l := l ++ [d]) h1 (by omega) (by simp; omega) (by omega) (doM_ok hg h2 hp) (do_len hg (by omega) hp hq) (by rw [List.all_append, hv, List.all_cons, h2]; rfl) (fun hc x hx => by
      rcases List.mem_append.1 hx with hx | hx
      · exact hk hc x hx
      · simp only [List.mem_singleton] at hx; subst hx; exact h3 hc)
    exact ⟨r, e, r1, by rw [r2]; simp; omega, r3⟩
/-- deeds that are drawn are right ones -/
theorem deeds_ok {g : G8} (hg : isG g = true) (clean : Bool) {more : List Int} (hl : more.length ≤ 3000) (hc : ∀ x ∈ more, 0 ≤ x ∧ x ≤ 255) : ∃ r, s_A2Deeds_F more g clean = some r ∧ (r.all vDeed = true ∧ r.length ≤ 30 ∧ (clean = true → ∀ d ∈ r, d.1 ≠ 5)) := by
  have h0 : srcOK 0 (more, 0, 0, ()) := ⟨hl, hc, Int.le_refl _, Int.le_refl _⟩
  have hb := isG_spec hg
  have hst : statG g = 1 + g.2.2.2.1 + g.2.2.2.2.1 := rfl
  have w1 : iwrap .i64 (1 + g.2.2.2.1) = 1 + g.2.2.2.1 := iwrap_i64 (by omega) (by omega)
  have w2 : iwrap .i64 (iwrap .i64 (1 + g.2.2.2.1) + g.2.2.2.2.1) = statG g := by rw [w1, hst]; exact iwrap_i64 (by omega) (by omega)
  unfold s_A2Deeds_F s_A2Deeds
  refine Fine.run (Fine.mat (P := fun r => r.2.all vDeed = true ∧ r.2.length ≤ 30 ∧ (clean = true → ∀ d ∈ r.2, d.1 ≠ 5)) ?_ fun r hr => .ret hr)
  unfold s_l08Deeds_ad92_F s_l08Deeds_ad92
  refine Fine.run (Fine.get (show beginR g = some (beginM g, ()) from askO_true hg) ?_)
  dsimp only
  rw [w2]
  refine Fine.mat (pick_ok (n := iwrap .i64 (30 + 1)) h0 (by omega)) fun r hr => ?_
  obtain ⟨⟨hr0, hr1⟩, hr2⟩ := hr
  have w3 : iwrap .i64 (30 + 1) = 31 := by decide
  rw [w3] at hr1
  obtain ⟨n, hn⟩ := Int.eq_ofNat_of_zero_le hr0
  rw [hn]
  refine Fine.mat (deeds_loop (clean := clean) hg n hr2 (by omega) (by simp; omega) (by omega) (beginM_ok hg) (begin_len hg) rfl (fun _ d hd => by cases hd)) fun x hx => .ret ?_
  refine ⟨hx.1, ?_, hx.2.2⟩
  rw [hx.2.1]; simp; omega
/-! bytes -/
theorem bytes_of {xs : List Int} (h : (K.sl (.int .u8)).wf xs) : ∀ x ∈ xs, 0 ≤ x ∧ x ≤ 255 := fun x hx => by
  have h1 : (Lit.int .u8 x).wf = true := h.2 x hx
  simp [Lit.wf, IntKind.min, IntKind.max, IntKind.signed, IntKind.bits] at h1
  omega
theorem long_no {a b : List Int} (h : l_a2Long_S a b = false) : a.length ≤ 3000 ∧ b.length ≤ 3000 := by
  unfold l_a2Long_S at h
  by_cases h1 : (a.length : Int) > 3000
  · rw [decide_eq_true h1] at h; cases h
  · rw [decide_eq_false h1, cond_false] at h
    have := of_decide_eq_false h
    omega
theorem at_ok {code : List Int} (hc : ∀ x ∈ code, 0 ≤ x ∧ x ≤ 255) {i n : Int} (hi : 0 ≤ i) : ∃ r, l_a2At_F code i n = some r ∧ (0 ≤ r ∧ (r = 0 ∨ r < n)) := by
  unfold l_a2At_F l_a2At
  refine Fine.run (Fine.condp (fun _ => .ret ⟨Int.le_refl _, .inl rfl⟩) fun h1 => Fine.condp (fun _ => .ret ⟨Int.le_refl _, .inl rfl⟩) fun h2 => Fine.ite ⟨hi, by omega⟩ fun h3 => Fine.at h3 fun x hx => Fine.ifn (by omega) (.ret ?_))
  have hb := hc x hx
  rw [iwrap_i64 (n := x) (by omega) (by omega)]
  have := tmod_rng (x := x) (n := n) (by omega) (by omega)
  exact ⟨this.1, .inr this.2⟩


end Go.Proofs.Ytohnlghdhbignaa

namespace Go.Proofs.Ytohnlghdhbignaa
open Go Go.Abs Go.Proofs

/-! function 3: loop.example/g01144/laws.FnStationCrash -/
noncomputable def l_FnStationCrash (p0 : (List Int)) (p1 : (List Int)) : Tre Bool :=
  .cond (l_a2Long_S p0 p1)
    (.ret true)
    (.mat (s_A2Gather_F p0) fun r1 =>
    .mat (s_A2Deeds_F p1 (r1.1, (r1.2.1, (r1.2.2.2, r1.2.2.1))) false) fun r2 =>
    let v3 := iwrap .i64 (1 + r1.2.2.1.1)
    let v4 := iwrap .i64 (v3 + r1.2.2.1.2.1)
    .mat (l_a2At_F p1 0 v4) fun r5 =>
    .mat (plantR (r1.1, (r1.2.1, (r1.2.2.2, r1.2.2.1))) r2) fun r6 =>
    .ite ((0 + r2.length) * 32 ≤ appendMax ∧ 1 ≤ 32) <|
    .ite ((([] ++ r2).length + 1) * 32 ≤ appendMax ∧ 1 ≤ 32) <|
    let v7 := ([] ++ r2) ++ ([(7, (r5, (0, (0, ()))))])
    .mat (plantR (r1.1, (r1.2.1, (r1.2.2.2, r1.2.2.1))) v7) fun r8 =>
    .cond (!decide (r6.2.1 = 0))
      (.ret false)
      (.cond (!decide (r8.2.1 = 0))
        (.ret false)
        (.cond (decide ((r6.2.2.1.length : Int) ≤ r5))
          (.ret false)
          (.ite (0 ≤ r5 ∧ r5 < (r6.2.2.1.length : Int)) <|
          .mat (r6.2.2.1[r5.toNat]?) fun x9 =>
          .ite (0 ≤ r5 ∧ r5 < (r6.2.2.1.length : Int)) <|
          .mat (r6.2.2.1[r5.toNat]?) fun x10 =>
          let v11 := r6.2.2.1.set r5.toNat (x9.2.1, x10.2)
          .mat (samePR (r8.2.2.1, (r8.2.2.2, ())) (v11, (r6.2.2.2, ()))) fun r12 =>
          .ret r12))))
noncomputable def l_FnStationCrash_F (p0 : (List Int)) (p1 : (List Int)) : Option Bool := (l_FnStationCrash p0 p1).run some
-- law
theorem runM_app (g : G8) (d : D8) : ∀ (l : List D8) (p : P8), (runM g (l ++ [d]) p).1 = (doM g d (runM g l p).1).2 := by
  intro l
  induction l with
  | nil => intro p; rfl
  | cons x l ih => intro p; exact ih _
theorem asked_zero {g : G8} {ds : List D8} (hg : isG g = true) (hd : ds.all vDeed = true) (hl : ds.length ≤ 300) : askedM ds g = 0 := by
  unfold askedM
  rw [hg, hd, decide_eq_false (by omega)]
  rfl
theorem plant_of {g : G8} {ds : List D8} (hg : isG g = true) (hd : ds.all vDeed = true) (hl : ds.length ≤ 300) : plantR g ds = some ((zerosN (runM g ds (beginM g)).2 : Int), 0, (afterM g ds).1, (afterM g ds).2.1) := by
  have hb := isG_spec hg
  have : plantR g ds = some (plantM g ds) := askO_true (by rw [Bool.and_eq_true, decide_eq_true_eq, decide_eq_true_eq]; omega)
  rw [this]
  unfold plantM
  rw [decide_eq_true (asked_zero hg hd hl)]
  rfl
theorem same_of {k : Nat} {g : G8} {p q : P8} (hp : okP k g p = true) (hk : k ≤ 1048576) (hg : isG g = true) (h : p = q) : samePR p q = some true := by
  obtain ⟨q1, q2, q3, _⟩ := okP_spec hp
  have hb := isG_spec hg
  have hst : statG g = 1 + g.2.2.2.1 + g.2.2.2.2.1 := rfl
  refine askO_true ?_
  simp only [Bool.and_eq_true, decide_eq_true_eq, List.all_eq_true]
  refine ⟨⟨⟨h, by omega⟩, by omega⟩, fun x hx => ?_⟩
  have h1 := (okS_spec.1 (q2 x hx).1).1
  have h2 := (okS_spec.1 (q2 x hx).2).1
  omega
theorem l_FnStationCrash_law (p0 p1 : List Int) (h0 : (K.sl (.int .u8)).wf p0) (h1 : (K.sl (.int .u8)).wf p1) : l_FnStationCrash_F p0 p1 = some true := by
  unfold l_FnStationCrash_F l_FnStationCrash
  rw [Tre.run_cond]
  cases hlong : l_a2Long_S p0 p1
  case true => rfl
  obtain ⟨n0, n1⟩ := long_no hlong
  obtain ⟨⟨ga, gb, ⟨gc, gd, ⟨⟩⟩, ge⟩, e1, hg⟩ := gather_ok n0 (bytes_of h0)
  rw [cond_false, run_some_mat e1]
  dsimp only at hg ⊢
  generalize hG : ((ga, gb, ge, gc, gd, ()) : G8) = g at hg
  have hb := isG_spec hg
  have hst : statG g = 1 + gc + gd := by rw [← hG]; rfl
  have hb5 : 0 ≤ gc ∧ gc ≤ 3 ∧ 1 ≤ gd ∧ gd ≤ 3 := by rw [← hG] at hb; exact ⟨hb.2.2.2.2.1, hb.2.2.2.2.2.1, hb.2.2.2.2.2.2.1, hb.2.2.2.2.2.2.2.1⟩
  obtain ⟨ds, e2, hd, hl, _⟩ := deeds_ok hg false n1 (bytes_of h1)
  rw [run_some_mat e2]
  have w2 : iwrap .i64 (iwrap .i64 (1 + gc) + gd) = statG g := by rw [iwrap_i64 (n := 1 + gc) (by omega) (by omega), hst]; exact iwrap_i64 (by omega) (by omega)
  rw [w2]
  obtain ⟨s, e3, hs0, hs1⟩ := at_ok (bytes_of h1) (i := 0) (n := statG g) (Int.le_refl _)
  have hs2 : s < statG g := by omega
  have hdc : vDeed (7, s, 0, 0, ()) = true := vDeed_of (by omega) (by omega) (by omega) (by omega) (by omega) (by omega)
  have hd2 : (ds ++ [(7, s, 0, 0, ())]).all vDeed = true := by rw [List.all_append, hd, List.all_cons, hdc]; rfl
  have hl2 : (ds ++ [((7, s, 0, 0, ()) : D8)]).length ≤ 300 := by simp; omega
  have hP := afterM_ok hg hd (by omega)
  have hP2 := afterM_ok hg hd2 hl2
  obtain ⟨q1, _, _, _⟩ := okP_spec hP
  rw [run_some_mat e3, run_some_mat (plant_of hg hd (by omega)), Tre.run_ite, if_pos (by unfold appendMax; omega), Tre.run_ite, if_pos (by simp only [List.nil_append]; unfold appendMax; omega)]
  simp only [List.nil_append]
  rw [run_some_mat (plant_of hg hd2 hl2)]
  have hafter : afterM g (ds ++ [(7, s, 0, 0, ())]) = (doM g (7, s, 0, 0, ()) (afterM g ds)).2 := runM_app g _ ds _
  rw [hafter] at hP2 ⊢
  obtain ⟨i, rfl⟩ := Int.eq_ofNat_of_zero_le hs0
  have hi : i < (afterM g ds).1.length := by omega
  obtain ⟨x, hx⟩ : ∃ x, (afterM g ds).1[i]? = some x := ⟨_, List.getElem?_eq_getElem hi⟩
  have hdo : (doM g (7, (i : Int), 0, 0, ()) (afterM g ds)).2 = ((afterM g ds).1.set i (x.2.1, x.2), (afterM g ds).2) := by
    unfold doM
    have k1 : decide (((7, (i : Int), 0, 0, ()) : D8).1 = 1) = false := rfl
    have k2 : inR ((7, (i : Int), 0, 0, ()) : D8).1 2 5 = false := rfl
    have k3 : decide (((7, (i : Int), 0, 0, ()) : D8).2.1 ≥ ((afterM g ds).1.length : Int)) = false := decide_eq_false (by show ¬ (i : Int) ≥ _; omega)
    rw [k1, k2, k3, cond_false, cond_false, cond_false]
    simp only [Int.toNat_natCast, hx]
    rfl
  simp only [Tre.run_cond, decide_true, Bool.not_true, cond_false]
  rw [decide_eq_false (by omega), cond_false, Tre.run_ite, if_pos ⟨by omega, by omega⟩, Int.toNat_natCast, run_some_mat hx, Tre.run_ite, if_pos ⟨by omega, by omega⟩, run_some_mat hx]
  have hfin := same_of hP2 (by omega) hg hdo
  exact (run_some_mat hfin).trans rfl

noncomputable def l_FnStationCrash_V : Env := ⟨tau, [(7, l_a2Long_c), (8, s_A2Gather_c), (9, s_A2Deeds_c), (10, l_a2At_c), (11, i_PlantAfter_c), (12, s_SamePlant_c)], [(10, [((10, 0), [.fst], true)])]⟩
noncomputable def l_FnStationCrash_b : Code := (Try.f3.body).getD .skip
noncomputable def l_FnStationCrash_I : FnI := ⟨l_FnStationCrash_b, Try.f3.results.toList, Try.f3.resultTypes.toList, []⟩
noncomputable def l_FnStationCrash_out (_zp0 : Bool) (_zp1 : Bool) (_p0 : (List Int)) (_p1 : (List Int)) : Bool → CallOut := fun r => ⟨(.imm true .bool r), [], []⟩
set_option maxRecDepth 100000 in
theorem l_FnStationCrash_eq : ∀ (zp0 : Bool) (zp1 : Bool) (p0 : (List Int)) (p1 : (List Int)), denFn l_FnStationCrash_V l_FnStationCrash_I ⟨[(.imm zp0 (.sl (.int .u8)) p0), (.imm zp1 (.sl (.int .u8)) p1)], []⟩ = (l_FnStationCrash p0 p1).run fun r => some (l_FnStationCrash_out zp0 zp1 p0 p1 r) := fun _ _ _ _ => by kernel_rfl
noncomputable def l_FnStationCrash_G (av : List AV) (rs : List Root) : Tre CallOut :=
  asCons av fun a0_ av0 =>
  asCons av0 fun a1_ av1 =>
  asEnd av1 <|
  asEnd rs <|
  asImm (.sl (.int .u8)) a0_ fun z2 d1 =>
  asImm (.sl (.int .u8)) a1_ fun z4 d3 =>
  .mat (l_FnStationCrash_F d1 d3) fun r => .ret (l_FnStationCrash_out z2 z4 d1 d3 r)
noncomputable def l_FnStationCrash_c : Ctr := ⟨[], fun ci => l_FnStationCrash_G ci.args ci.roots⟩
theorem l_FnStationCrash_env : EnvOK Try.prog l_FnStationCrash_V := (envOK_cons l_a2Long_ok ent7 (envOK_cons s_A2Gather_ok ent8 (envOK_cons s_A2Deeds_ok ent9 (envOK_cons l_a2At_ok ent10 (envOK_cons i_PlantAfter_ok ent11 (envOK_cons s_SamePlant_ok ent12 envOK_nil))))))
set_option maxRecDepth 100000 in
theorem l_FnStationCrash_ok : Contract Try.prog 3 l_FnStationCrash_c := by
  have hl : LoopsOK l_FnStationCrash_V [] l_FnStationCrash_b := loopsOK_nil (by kernel_rfl)
  refine (contract_of (F := l_FnStationCrash_I) tau_tys l_FnStationCrash_env Try.func3 (by kernel_rfl) (by kernel_rfl) (by kernel_rfl) hl []).weaken ?_
  rintro ⟨av, rs⟩ co h
  have h : (l_FnStationCrash_G av rs).run some = some co := h
  obtain ⟨a0_, av0, rfl, h_0⟩ := asCons_spec h
  obtain ⟨a1_, av1, rfl, h_1⟩ := asCons_spec h_0
  obtain ⟨rfl, h_2⟩ := asEnd_spec h_1
  obtain ⟨rfl, h_3⟩ := asEnd_spec h_2
  obtain ⟨z2, d1, rfl, h_4⟩ := asImm_spec h_3
  obtain ⟨z4, d3, rfl, h_5⟩ := asImm_spec h_4
  exact fin_mat (l_FnStationCrash_eq z2 z4 d1 d3) h_5

end Go.Proofs.Ytohnlghdhbignaa
