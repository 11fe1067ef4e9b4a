/- Part 3 of the proof of FnExactPlantAfter. -/
import Derived.Test.YtohnlghdhbignaaProg
import Derived.Test.YtohnlghdhbignaaPx2
namespace Go.Abs
theorem put_sound {w : World} {θ : RName → Nat} {Z S : BS} {e : K} (hbd : ∀ b, Z b ∨ S b → b < w.heap.size) :
  ∀ (p : Path) {k : K} {m : Mask} {d : k.den} {vs : List Value} {F : BS} {base : Option (Nat × Nat)} {d0 : List e.den},
   Enc w θ Z S k m d vs F → (∀ b, F b → b < w.heap.size ∧ ¬ Z b ∧ ¬ S b) →
   getP k d m p (fun k d m => some ((⟨k, d⟩ : Σ k : K, k.den), m)) = some (⟨.sl e, d0⟩, .own) →
   ∃ (v : Value) (b1 : Option (Nat × Nat)) (Gi : BS), locv w k vs base p = some ([v], b1) ∧ Enc w θ Z S (.sl e) .own d0 [v] Gi ∧ Sub Gi F ∧
    ∀ (w' : World) (Z' G' : BS) (d1 : List e.den) (d2 : k.den) (m2 : Mask), Sub Z Z' → (∀ b, b < w.heap.size → ¬ Gi b → w'.heap[b]? = w.heap[b]?) → (∀ b, G' b → Gi b ∨ w.heap.size ≤ b) →
     Enc w' θ Z' S (.sl e) .own d1 [v] G' → setP k d m p (.sl e) d1 .own (fun d m => some (d, m)) = some (d2, m2) →
     Enc w' θ Z' S k m2 d2 vs (fun b => (F b ∧ ¬ Gi b) ∨ G' b) ∧ Stays w w' k d d2 m m2 vs vs base (.sl e) (p ++ [.idx 0]) := by
 intro p
 induction p with
 | nil =>
  intro k m d vs F base d0 he hF hg
  have hg' : some ((⟨k, d⟩ : Σ k : K, k.den), m) = some (⟨.sl e, d0⟩, .own) := by rw [← hg]; cases k <;> rfl
  simp only [Option.some.injEq, Prod.mk.injEq, Sigma.mk.injEq] at hg'
  obtain ⟨⟨rfl, hd⟩, rfl⟩ := hg'
  cases hd
  obtain ⟨v, rfl⟩ : ∃ v, vs = [v] := by
   have := he.len
   match vs, this with
   | [v], _ => exact ⟨v, rfl⟩
  refine ⟨v, base, F, rfl, he, .refl _, fun w' Z' G' d1 d2 m2 hZ hk hG' hnew hs => ?_⟩
  have hs' : some (d1, Mask.own) = some (d2, m2) := by
   rw [← hs]
   simp [setP, K.flat]
  simp only [Option.some.injEq, Prod.mk.injEq] at hs'
  obtain ⟨rfl, rfl⟩ := hs'
  refine ⟨hnew.mono (.refl _) (.refl _) (fun _ h => .inr h) (fun _ _ => rfl) (fun _ _ => rfl), fun q k' cs b1 hk' hcg hlc => ?_⟩
  cases q with
  | nil => exact ⟨fun _ => ⟨trivial, cs, hlc⟩, fun _ _ => ⟨trivial, hlc⟩⟩
  | cons st q =>
   cases st with
   | idx j =>
    refine ⟨fun hfl => ?_, fun _ hfl => ?_⟩
    ·rcases hfl with hfl | hfl
     ·cases hfl
     ·simp [under, hasIdx] at hfl
    ·rcases hfl with hfl | hfl
     ·cases hfl
     ·simp [under] at hfl
   | fst => simp [K.at] at hk'
   | snd => simp [K.at] at hk'
 | cons s p ih =>
  intro k m d vs F base d0 he hF hg
  cases s with
  | fst =>
   cases k with
   | pair ka kb =>
    obtain ⟨v1, v2, Fa, Fb, rfl, s1, s2, dj, h1, h2⟩ := he
    have l1 := h1.len
    obtain ⟨v, b1, Gi, g1, g2, g3, g4⟩ := ih (k := ka) (base := base) h1 (fun b hb => hF b (s1 b hb)) hg
    refine ⟨v, b1, Gi, by simp only [locv]; rw [← l1, List.take_left]; exact g1, g2, g3.trans s1, fun w' Z' G' d1 d2 m2 hZ hk hG' hnew hs => ?_⟩
    obtain ⟨t, ht, hs2⟩ := Option.bind_eq_some_iff.1 ((setP_nat (fun t : ka.den × Mask => some (((t.1, d.2) : ka.den × kb.den), m.putFst (K.sl e).flat t.2)) p (fun d m => some (d, m))).trans hs)
    obtain ⟨x, mx⟩ := t
    simp only [Option.some.injEq, Prod.mk.injEq] at hs2
    obtain ⟨rfl, rfl⟩ := hs2
    obtain ⟨k1, k2⟩ := g4 w' Z' G' d1 x mx hZ hk hG' hnew ht
    have hm0 : (m.putFst (K.sl e).flat mx).fst = mx ∧ (m.putFst (K.sl e).flat mx).snd = m.snd := ⟨setP_sound.mkPair_fst _ _, setP_sound.mkPair_snd _ _⟩
    have hsame : ∀ b, Fb b ∨ Z b ∨ S b → w'.heap[b]? = w.heap[b]? := fun b hb => hb.elim (fun hb => hk b (hF b (s2 b hb)).1 fun hg => dj b (g3 b hg) hb) fun hb => hk b (hbd b hb) fun hg => hb.elim (hF b (s1 b (g3 b hg))).2.1 (hF b (s1 b (g3 b hg))).2.2
    refine ⟨⟨v1, v2, fun b => (Fa b ∧ ¬ Gi b) ∨ G' b, Fb, rfl, fun b hb => hb.imp (fun h => ⟨s1 b h.1, h.2⟩) id, fun b hb => .inl ⟨s2 b hb, fun hg => dj b (g3 b hg) hb⟩, ?_, by rw [hm0.1]; exact k1, by rw [hm0.2]; exact h2.mono hZ (.refl _) (.refl _) hsame (fun _ _ => rfl)⟩, ?_⟩
    ·rintro b (hb | hb) hb2
     ·exact dj b hb.1 hb2
     ·rcases hG' b hb with hb | hb
      ·exact dj b (g3 b hb) hb2
      ·have := (hF b (s2 b hb2)).1; omega
    ·intro q k' cs b2 hk' hcg hlc
     cases q with
     | nil =>
      refine ⟨fun _ => ⟨trivial, cs, hlc⟩, fun ⟨e', hke⟩ => ?_⟩
      have : some (ka.pair kb) = some k' := hk'
      rw [hke] at this; cases this
     | cons st q =>
      cases st with
      | fst =>
       simp only [locv] at hlc ⊢
       rw [← l1, List.take_left] at hlc ⊢
       obtain ⟨x1, x2⟩ := k2 q k' cs b2 hk' hcg hlc
       refine ⟨fun hfl => ?_, fun he hfl => ?_⟩
       ·obtain ⟨y1, y2⟩ := x1 (by simpa [under, hasIdx] using hfl)
        exact ⟨by show canGet ka x (m.putFst (K.sl e).flat mx).fst q; rw [hm0.1]; exact y1, y2⟩
       ·obtain ⟨y1, y2⟩ := x2 he (by simpa [under] using hfl)
        exact ⟨by show canGet ka x (m.putFst (K.sl e).flat mx).fst q; rw [hm0.1]; exact y1, y2⟩
      | snd =>
       have hcg' : canGet kb d.2 m.snd q := hcg
       have hcg2 : canGet kb d.2 (m.putFst (K.sl e).flat mx).snd q := by rw [hm0.2]; exact hcg'
       obtain ⟨_, _, _, hgp⟩ := canGet_getP q hcg'
       have hfr := locv_frame (w' := w') (base := base.map fun x => (x.1, x.2 + ka.size)) q h2 hsame ⟨Unit, (), fun _ _ _ => some (), by rw [hgp]⟩
       simp only [locv] at hlc ⊢
       rw [← l1, List.drop_left, l1] at hlc ⊢
       rw [hfr]
       exact ⟨fun _ => ⟨hcg2, cs, hlc⟩, fun _ _ => ⟨hcg2, hlc⟩⟩
      | idx i => simp [K.at] at hk'
   | _ => simp [getP] at hg
  | snd =>
   cases k with
   | pair ka kb =>
    obtain ⟨v1, v2, Fa, Fb, rfl, s1, s2, dj, h1, h2⟩ := he
    have l1 := h1.len
    obtain ⟨v, b1, Gi, g1, g2, g3, g4⟩ := ih (k := kb) (base := base.map fun x => (x.1, x.2 + ka.size)) h2 (fun b hb => hF b (s2 b hb)) hg
    refine ⟨v, b1, Gi, by simp only [locv]; rw [← l1, List.drop_left, l1]; exact g1, g2, g3.trans s2, fun w' Z' G' d1 d2 m2 hZ hk hG' hnew hs => ?_⟩
    obtain ⟨t, ht, hs2⟩ := Option.bind_eq_some_iff.1 ((setP_nat (fun t : kb.den × Mask => some (((d.1, t.1) : ka.den × kb.den), m.putSnd (K.sl e).flat t.2)) p (fun d m => some (d, m))).trans hs)
    obtain ⟨x, mx⟩ := t
    simp only [Option.some.injEq, Prod.mk.injEq] at hs2
    obtain ⟨rfl, rfl⟩ := hs2
    obtain ⟨k1, k2⟩ := g4 w' Z' G' d1 x mx hZ hk hG' hnew ht
    have hm0 : (m.putSnd (K.sl e).flat mx).fst = m.fst ∧ (m.putSnd (K.sl e).flat mx).snd = mx := ⟨setP_sound.mkPair_fst _ _, setP_sound.mkPair_snd _ _⟩
    have hsame : ∀ b, Fa b ∨ Z b ∨ S b → w'.heap[b]? = w.heap[b]? := fun b hb => hb.elim (fun hb => hk b (hF b (s1 b hb)).1 fun hg => dj b hb (g3 b hg)) fun hb => hk b (hbd b hb) fun hg => hb.elim (hF b (s2 b (g3 b hg))).2.1 (hF b (s2 b (g3 b hg))).2.2
    refine ⟨⟨v1, v2, Fa, fun b => (Fb b ∧ ¬ Gi b) ∨ G' b, rfl, fun b hb => .inl ⟨s1 b hb, fun hg => dj b hb (g3 b hg)⟩, fun b hb => hb.imp (fun h => ⟨s2 b h.1, h.2⟩) id, ?_, by rw [hm0.1]; exact h1.mono hZ (.refl _) (.refl _) hsame (fun _ _ => rfl), by rw [hm0.2]; exact k1⟩, ?_⟩
    ·rintro b hb2 (hb | hb)
     ·exact dj b hb2 hb.1
     ·rcases hG' b hb with hb | hb
      ·exact dj b hb2 (g3 b hb)
      ·have := (hF b (s1 b hb2)).1; omega
    ·intro q k' cs b2 hk' hcg hlc
     cases q with
     | nil =>
      refine ⟨fun _ => ⟨trivial, cs, hlc⟩, fun ⟨e', hke⟩ => ?_⟩
      have : some (ka.pair kb) = some k' := hk'
      rw [hke] at this; cases this
     | cons st q =>
      cases st with
      | snd =>
       simp only [locv] at hlc ⊢
       rw [← l1, List.drop_left, l1] at hlc ⊢
       obtain ⟨x1, x2⟩ := k2 q k' cs b2 hk' hcg hlc
       refine ⟨fun hfl => ?_, fun he hfl => ?_⟩
       ·obtain ⟨y1, y2⟩ := x1 (by simpa [under, hasIdx] using hfl)
        exact ⟨by show canGet kb x (m.putSnd (K.sl e).flat mx).snd q; rw [hm0.2]; exact y1, y2⟩
       ·obtain ⟨y1, y2⟩ := x2 he (by simpa [under] using hfl)
        exact ⟨by show canGet kb x (m.putSnd (K.sl e).flat mx).snd q; rw [hm0.2]; exact y1, y2⟩
      | fst =>
       have hcg' : canGet ka d.1 m.fst q := hcg
       have hcg2 : canGet ka d.1 (m.putSnd (K.sl e).flat mx).fst q := by rw [hm0.1]; exact hcg'
       obtain ⟨_, _, _, hgp⟩ := canGet_getP q hcg'
       have hfr := locv_frame (w' := w') (base := base) q h1 hsame ⟨Unit, (), fun _ _ _ => some (), by rw [hgp]⟩
       simp only [locv] at hlc ⊢
       rw [← l1, List.take_left] at hlc ⊢
       rw [hfr]
       exact ⟨fun _ => ⟨hcg2, cs, hlc⟩, fun _ _ => ⟨hcg2, hlc⟩⟩
      | idx i => simp [K.at] at hk'
   | _ => simp [getP] at hg
  | idx i =>
   cases k with
   | sl e' =>
    simp only [getP] at hg
    split at hg
    case h_2 => simp at hg
    case h_1 y hy =>
    have hi : i < List.length d := (List.getElem?_eq_some_iff.1 hy).1
    rcases he with ⟨rfl, _⟩ | ⟨_, rfl, _⟩ | ⟨hgone, b', off', cap, cs, T, fz, rfl, hc, hle, hs0, hok, G, hG, hdj, hel⟩
    ·simp at hg
    ·simp at hy
    ·have hg' : getP e' y m.elem p (fun k d m => some ((⟨k, d⟩ : Σ k : K, k.den), m)) = some (⟨.sl e, d0⟩, .own) := by
      cases m <;> first | exact hg | exact absurd rfl hgone
     obtain ⟨v, b1, Gi, g1, g2, g3, g4⟩ := ih (k := e') (base := some (b', off' + i * e'.size)) (hel i y hy) (fun b hb => hF b ((hG i).1 b hb)) hg'
     refine ⟨v, b1, Gi, by simp only [locv, cellsAt, hc]; exact g1, g2, g3.trans (hG i).1, fun w' Z' G' d1 d2 m2 hZ hk hG' hnew hs => ?_⟩
     simp only [setP, hy] at hs
     cases hown : m.isOwn with
     | false => simp [hown] at hs
     | true =>
     simp only [hown, cond_true] at hs
     have hbF' : F b' ∧ fz = (0, 0) := by cases m <;> simp_all [Mask.isOwn, slOk]
     obtain ⟨t, ht, hs2⟩ := Option.bind_eq_some_iff.1 ((setP_nat (fun t : e'.den × Mask => if t.2 = m.elem then some (List.set d i t.1, m) else none) p (fun d m => some (d, m))).trans hs)
     obtain ⟨x', mx⟩ := t
     simp only at hs2
     split at hs2
     case isFalse => simp at hs2
     case isTrue hmx =>
     simp only [Option.some.injEq, Prod.mk.injEq] at hs2
     obtain ⟨rfl, rfl⟩ := hs2
     obtain ⟨k1, k2⟩ := g4 w' Z' G' d1 x' mx hZ hk hG' hnew ht
     have hnb : ¬ Gi b' := fun h => (hG i).2 (g3 b' h)
     have hc' : w'.heap[b']? = some (.cells cs T fz) := by rw [hk b' (hF b' hbF'.1).1 hnb]; exact hc
     have hsame : ∀ j, j ≠ i → ∀ b, G j b ∨ Z b ∨ S b → w'.heap[b]? = w.heap[b]? := fun j hj b hb => hb.elim (fun hb => hk b (hF b ((hG j).1 b hb)).1 fun hg => hdj j i hj b hb (g3 b hg)) fun hb => hk b (hbd b hb) fun hg => hb.elim (hF b ((hG i).1 b (g3 b hg))).2.1 (hF b ((hG i).1 b (g3 b hg))).2.2
     refine ⟨.inr (.inr ⟨hgone, b', off', cap, cs, T, fz, by simp, hc', by simpa using hle, hs0, ?_, fun j => if j = i then (fun b => (G i b ∧ ¬ Gi b) ∨ G' b) else G j, ?_, ?_, ?_⟩), ?_⟩
     ·rw [hbF'.2]
      have : slOk Z S F b' (0, 0) m := by rw [← hbF'.2]; exact hok
      cases m with
      | own => exact ⟨.inl ⟨hbF'.1, hnb⟩, rfl⟩
      | sl _ => exact ⟨.inl ⟨hbF'.1, hnb⟩, rfl⟩
      | _ => simp [Mask.isOwn] at hown
     ·intro j
      by_cases hj : j = i
      ·subst hj
       simp only [if_true]
       refine ⟨fun b hb => hb.imp (fun h => ⟨(hG j).1 b h.1, h.2⟩) id, ?_⟩
       rintro (hb | hb)
       ·exact (hG j).2 hb.1
       ·rcases hG' b' hb with hb | hb
        ·exact hnb hb
        ·have := (hF b' hbF'.1).1; omega
      ·simp only [if_neg hj]
       exact ⟨fun b hb => .inl ⟨(hG j).1 b hb, fun hg => hdj j i hj b hb (g3 b hg)⟩, (hG j).2⟩
     ·have hone : ∀ j, j ≠ i → Disj (fun b => (G i b ∧ ¬ Gi b) ∨ G' b) (G j) := by
       rintro j hj b (hb | hb) hb2
       ·exact hdj i j (fun h => hj h.symm) b hb.1 hb2
       ·rcases hG' b hb with hb | hb
        ·exact hdj i j (fun h => hj h.symm) b (g3 b hb) hb2
        ·have := (hF b ((hG j).1 b hb2)).1; omega
      intro j j' hjj
      by_cases hj : j = i
      ·have hj' : j' ≠ i := fun h => hjj (hj.trans h.symm)
       simp only [if_pos hj, if_neg hj']
       exact hone j' hj'
      ·by_cases hj' : j' = i
       ·simp only [if_neg hj, if_pos hj']
        exact (hone j hj).symm
       ·simp only [if_neg hj, if_neg hj']
        exact hdj j j' hjj
     ·intro j z hz
      by_cases hj : j = i
      ·subst hj
       rw [List.getElem?_set_self hi] at hz
       simp only [Option.some.injEq] at hz
       subst hz
       simp only [if_true]
       rw [← hmx]
       exact k1
      ·rw [List.getElem?_set_ne (fun h => hj h.symm)] at hz
       simp only [if_neg hj]
       exact (hel j z hz).mono hZ (.refl _) (.refl _) (hsame j hj) (fun _ _ => rfl)
     ·intro q k' ccs b2 hk' hcg hlc
      cases q with
      | nil => exact ⟨fun _ => ⟨trivial, _, hlc⟩, fun _ _ => ⟨trivial, hlc⟩⟩
      | cons st q =>
       cases st with
       | idx j =>
        obtain ⟨hmg, z, hz, hcg'⟩ := hcg
        have hk2 : e'.at q = some k' := hk'
        simp only [locv, cellsAt, hc, hc'] at hlc ⊢
        by_cases hj : j = i
        ·subst hj
         have hzy : z = y := by rw [hy] at hz; exact (Option.some.inj hz).symm
         subst hzy
         obtain ⟨x1, x2⟩ := k2 q k' ccs b2 hk2 hcg' hlc
         refine ⟨fun hfl => ?_, fun he hfl => ?_⟩
         ·obtain ⟨y1, y2⟩ := x1 (hfl.imp id (fun h => by simp [under, hasIdx] at h; simp [h]))
          exact ⟨⟨hmg, x', List.getElem?_set_self hi, by rw [← hmx]; exact y1⟩, y2⟩
         ·obtain ⟨y1, y2⟩ := x2 he (by simpa [under] using hfl)
          exact ⟨⟨hmg, x', List.getElem?_set_self hi, by rw [← hmx]; exact y1⟩, y2⟩
        ·obtain ⟨_, _, _, hgp⟩ := canGet_getP q hcg'
         have hfr := locv_frame (w' := w') (base := some (b', off' + j * e'.size)) q (hel j z hz) (hsame j hj) ⟨Unit, (), fun _ _ _ => some (), by rw [hgp]⟩
         rw [hfr]
         have hcg2 : canGet (.sl e') (List.set d i x') m (.idx j :: q) := ⟨hmg, z, by rw [List.getElem?_set_ne (fun h => hj h.symm)]; exact hz, hcg'⟩
         exact ⟨fun _ => ⟨hcg2, ccs, hlc⟩, fun _ _ => ⟨hcg2, hlc⟩⟩
       | fst => simp [K.at] at hk'
       | snd => simp [K.at] at hk'
   | _ => simp [getP] at hg
theorem Contract.soften {P : Program} {f : FuncId} {q : Ctr} {e : K} (hpl : e.plain = true) (h : Contract P f q) {rw : List Nat} {G : CallIn → Tre CallOut}
  (hG : ∀ ci co, (G ci).run some = some co → ∃ (p : Path) (l : List AV) (x : Root) (d d1 : List e.den) (d2 : x.k.den) (m2 : Mask) (k : K) (r : k.den),
   ci = ⟨.ref (0, 0) p :: l, [x]⟩ ∧ x.k.plain = true ∧ (∀ a ∈ l, ∃ z k d, a = .imm z k d) ∧ getP x.k x.d x.m p (fun k d m => some ((⟨k, d⟩ : Σ k : K, k.den), m)) = some (⟨.sl e, d⟩, .own) ∧
   setP x.k x.d x.m p (.sl e) d1 .own (fun d m => some (d, m)) = some (d2, m2) ∧ (q.G ⟨.ref (0, 0) [] :: l, [⟨false, .sl e, .own, d⟩]⟩).run some = some ⟨.imm true k r, [⟨false, .sl e, .own, d1⟩], []⟩ ∧
   co = ⟨.imm true k r, [⟨x.mem, x.k, m2, d2⟩], []⟩) : Contract P f ⟨rw, G, true⟩ := by
 intro w C ci co vals hM hptr hsz hvals hrun
 obtain ⟨p, l, x, d, d1, d2, m2, k, r, rfl, hxp, hl, hget, hset, hin, rfl⟩ := hG ci co hrun
 have hx : rsIn [x] (par 0) = some x := rfl
 have hone : ∀ {y : Root} {q : RName} {z : Root}, rsIn [y] q = some z → q = par 0 ∧ z = y := by
  rintro y ⟨a, b⟩ z hz
  match a, b, hz with
  | 0, 0, hz => exact ⟨rfl, (Option.some.inj hz).symm⟩
  | 0, b + 1, hz => cases hz
  | a + 1, _, hz => cases hz
 obtain ⟨G0, he, hG0, hmem⟩ := hM.ok _ _ hx
 obtain ⟨v, b1, Gi, g1, g2, g3, g4⟩ := put_sound (fun b hb => hM.ro b hb) p (base := baseOf C (par 0) x) he (fun b hb => by have := hM.apart _ _ b hx (hG0 b hb); exact ⟨this.2.2, this.1, this.2.1⟩) hget
 obtain ⟨v0, hv0⟩ : ∃ v, vals[0]? = some v := ⟨_, Array.getElem?_eq_getElem (by rw [hsz]; simp)⟩
 have ha0 := hvals 0 v0 _ hv0 rfl
 obtain ⟨hA, hcl⟩ := ha0.cell (by simp) rfl (by simp) (by simp)
 have hvv : v0 = v := by
  obtain ⟨v', h1, h2⟩ := hA
  simp only [List.cons.injEq, and_true] at h1
  subst h1
  obtain ⟨_, _, _, _, h3⟩ := h2 x hx
  rw [g1] at h3
  simp only [Option.some.injEq, Prod.mk.injEq, List.cons.injEq, and_true] at h3
  exact h3.1.symm
 subst hvv
 have hGiF : Sub Gi (C.F (par 0)) := g3.trans hG0
 let C1 : Ctx := ⟨C.θ, fun _ => [v0], fun _ => Gi, C.Z, C.S⟩
 have hM1 : Mem w C1 (rsIn [⟨false, .sl e, .own, d⟩]) := by
  refine ⟨fun q y hy => ?_, fun q q' y y' hy hy' hne => ?_, fun q y b hy hb => hM.apart _ _ b hx (hGiF b hb), hM.ro, fun q y hy p' hp' => ?_⟩
  ·obtain ⟨rfl, rfl⟩ := hone hy
   exact ⟨Gi, g2, .refl _, fun h => by cases h⟩
  ·obtain ⟨rfl, _⟩ := hone hy
   obtain ⟨rfl, _⟩ := hone hy'
   exact absurd rfl hne
  ·obtain ⟨rfl, rfl⟩ := hone hy
   have : ptrsOf (.sl e) d = [] := ptrsOf_plain (k := .sl e) d hpl
   rw [this] at hp'
   cases hp'
 have hcall := h w C1 ⟨.ref (0, 0) [] :: l, [⟨false, .sl e, .own, d⟩]⟩ _ vals hM1 (fun y hy p' hp' => by
   simp only [List.mem_singleton] at hy
   subst hy
   have : ptrsOf (.sl e) d = [] := ptrsOf_plain (k := .sl e) d hpl
   rw [this] at hp'
   cases hp') hsz (fun i v a hv ha => by
   cases i with
   | zero =>
    simp only [List.getElem?_cons_zero, Option.some.injEq] at ha
    subst ha
    rw [hv0] at hv
    cases hv
    refine .inl (.inr (.inr ⟨rfl, ⟨v0, rfl, fun y hy => ?_⟩, hcl⟩))
    obtain ⟨_, rfl⟩ := hone hy
    exact ⟨e, _, rfl, trivial, rfl⟩
   | succ i =>
    have ha' : l[i]? = some a := by simpa using ha
    have hva := hvals (i + 1) v a hv (by simpa using ha')
    obtain ⟨z, k', d', rfl⟩ := hl a (List.mem_of_getElem? ha')
    rcases hva with h1 | ⟨vs, _, h2⟩
    ·refine .inl ?_
     rcases h1 with h1 | ⟨h1, vs, h2, h3⟩ | ⟨h1, h2, h3⟩
     ·cases h1
     ·exact .inr (.inl ⟨h1, vs, h2, h3⟩)
     ·exact .inr (.inr ⟨h1, h2, h3⟩)
    ·exact h2.elim) hin
 refine hcall.mono fun e' w' hp => ?_
 cases e' with
 | panicked _ => exact hp
 | outgrown => exact hp
 | returned v' =>
 obtain ⟨C1', Po, _⟩ := hp
 have hmw : ∀ b, mayWrite C1 [⟨false, .sl e, .own, d⟩] b → Gi b := fun b ⟨_, _, _, h⟩ => h
 have hmwi : ∀ b, Gi b → mayWrite C [x] b := fun b hb => ⟨0, x, rfl, hGiF b hb⟩
 have hy1 : rsOut ⟨.imm true k r, [⟨false, .sl e, .own, d1⟩], []⟩ (par 0) = some ⟨false, .sl e, .own, d1⟩ := rfl
 obtain ⟨G1, e1, e2, _⟩ := Po.mem.ok _ _ hy1
 have hρ1 : C1'.ρ (par 0) = [v0] := Po.ρ 0 ⟨false, .sl e, .own, d1⟩ rfl rfl
 have hfoot : ∀ b, C1'.F (par 0) b → Gi b ∨ w.heap.size ≤ b := fun b hb => (Po.foot _ _ b hy1 hb).elim .inr fun h => .inl (hmw b h)
 have hsame : ∀ b, b < w.heap.size → ¬ Gi b → w'.heap[b]? = w.heap[b]? := fun b hb hg => Po.kept.block b hb fun h => hg (hmw b h)
 have hS : C1'.S = C.S := Po.S
 have hfl : Enc w' C.θ C1'.Z C.S (.sl e) .own d1 [v0] G1 := by
  have e1' : Enc w' C1'.θ C1'.Z C1'.S (.sl e) .own d1 (C1'.ρ (par 0)) G1 := e1
  rw [hρ1, hS] at e1'
  exact e1'.mono (.refl _) (.refl _) (.refl _) (fun _ _ => rfl) (fun p hp => by rw [ptrsOf_plain (k := .sl e) d1 hpl] at hp; cases hp)
 obtain ⟨k1, k2⟩ := g4 w' C1'.Z G1 d1 d2 m2 Po.Z hsame (fun b hb => hfoot b (e2 b hb)) hfl hset
 let C' : Ctx := ⟨C.θ, C.ρ, fun q b => (C.F q b ∧ ¬ Gi b) ∨ C1'.F (par 0) b, C1'.Z, C.S⟩
 have hout : ∀ {q : RName} {z : Root}, rsOut ⟨.imm true k r, [⟨x.mem, x.k, m2, d2⟩], []⟩ q = some z → q = par 0 ∧ z = ⟨x.mem, x.k, m2, d2⟩ := by
  rintro ⟨a, b⟩ z hz
  match a, b, hz with
  | 0, 0, hz => exact ⟨rfl, (Option.some.inj hz).symm⟩
  | 0, b + 1, hz => cases hz
  | 1, b, hz => cases hz
  | a + 2, _, hz => cases hz
 have hlt : ∀ b, C.F (par 0) b → b < w.heap.size ∧ ¬ C.Z b ∧ ¬ C.S b := fun b hb => by have := hM.apart _ _ b hx hb; exact ⟨this.2.2, this.1, this.2.1⟩
 refine ⟨C', ⟨Po.Z, rfl, fun _ => rfl, ⟨fun q z hz => ?_, fun q q' z z' hz hz' hne => ?_, fun q z b hz hb => ?_, fun b hb => ?_, fun q z hz p' hp' => ?_⟩, ?_, fun i z hz hm => rfl, ?_, fun q z b hz hb => ?_, fun b hb => ?_⟩, fun _ p' l' x' ha hx' => ?_⟩
 ·obtain ⟨rfl, rfl⟩ := hout hz
  refine ⟨_, k1, ?_, fun hm => ?_⟩
  ·rintro b (hb | hb)
   ·exact .inl ⟨hG0 b hb.1, hb.2⟩
   ·exact .inr (e2 b hb)
  ·obtain ⟨m1, m3, T, m4⟩ := hmem hm
   have hng : ¬ Gi (C.θ (par 0)) := fun hg => m1 (g3 _ hg)
   refine ⟨?_, .inl ⟨m3, hng⟩, T, ?_⟩
   ·rintro (hb | hb)
    ·exact m1 hb.1
    ·rcases hfoot _ (e2 _ hb) with hb | hb
     ·exact hng hb
     ·have h8 := (hlt _ m3).1
      have hb : w.heap.size ≤ C.θ (par 0) := hb
      omega
   ·show w'.heap[C.θ (par 0)]? = _
    rw [hsame _ (hlt _ m3).1 hng]
    exact m4
 ·obtain ⟨rfl, _⟩ := hout hz
  obtain ⟨rfl, _⟩ := hout hz'
  exact absurd rfl hne
 ·obtain ⟨rfl, _⟩ := hout hz
  rcases hb with ⟨hb, hg⟩ | hb
  ·obtain ⟨h1, h2, h3⟩ := hlt b hb
   refine ⟨fun hz2 => ?_, h3, Nat.lt_of_lt_of_le h1 Po.kept.size⟩
   rcases Po.zn b hz2 with h | h | h
   ·exact h2 h
   ·omega
   ·exact hg (hmw b h)
  ·have := Po.mem.apart _ _ b hy1 hb
   rw [hS] at this
   exact this
 ·have := Po.mem.ro b
  rw [hS] at this
  exact this hb
 ·obtain ⟨rfl, rfl⟩ := hout hz
  rw [ptrsOf_plain d2 hxp] at hp'
  cases hp'
 ·have hv := Po.val
  have conv : ∀ vs, AVC w' C1' (rsOut ⟨.imm true k r, [⟨false, .sl e, .own, d1⟩], []⟩) (.imm true k r) vs → AVC w' C' (rsOut ⟨.imm true k r, [⟨x.mem, x.k, m2, d2⟩], []⟩) (.imm true k r) vs := fun vs h => by
   have h2 : Enc w' C1'.θ C1'.Z C1'.S k (.imm true) r vs noB := h.2
   rw [hS] at h2
   exact ⟨h.1, h2.mono (.refl _) (.refl _) (.refl _) (fun _ _ => rfl) (fun p hp => by rw [ptrsOf_plain r h.1] at hp; cases hp)⟩
  rcases hv with h1 | ⟨vs, _, h2⟩
  ·rcases h1 with h1 | ⟨h1, vs, h2, h3⟩ | ⟨h1, h2, h3⟩
   ·cases h1
   ·exact .inl (.inr (.inl ⟨h1, vs, h2, conv vs h3⟩))
   ·exact .inl (.inr (.inr ⟨h1, conv _ h2, h3⟩))
  ·exact h2.elim
 ·exact ⟨Po.kept.os, Po.kept.tape, Po.kept.output, Po.kept.size, fun b hb hm => Po.kept.block b hb fun h => hm (hmwi b (hmw b h))⟩
 ·obtain ⟨rfl, _⟩ := hout hz
  rcases hb with ⟨hb, _⟩ | hb
  ·exact .inr ⟨0, x, rfl, hb⟩
  ·rcases hfoot b hb with hb | hb
   ·exact .inr (hmwi b hb)
   ·exact .inl hb
 ·rcases Po.zn b hb with h | h | h
  ·exact .inl h
  ·exact .inr (.inl h)
  ·exact .inr (.inr (hmwi b (hmw b h)))
 ·simp only [List.cons.injEq, AV.ref.injEq, and_true] at ha hx'
  obtain ⟨⟨_, rfl⟩, _⟩ := ha
  subst hx'
  exact ⟨d2, m2, e, rfl, k2⟩
noncomputable def softOr (t : Path) (c1 c2 : Ctr) : Ctr := ⟨[0], fun ci => match ci.args with
 | .ref _ p :: _ => bif under t p && under p t then c1.G ci else c2.G ci
 | _ => .fail, true⟩
theorem softOr_ok {P : Program} {f : FuncId} {t : Path} {c1 c2 : Ctr} (h1 : Contract P f c1) (h2 : Contract P f c2) (s1 : c1.soft = true := by rfl) (s2 : c2.soft = true := by rfl) : Contract P f (softOr t c1 c2) := by
 intro w C ci co vals hM hptr hsz hvals hG
 have conv : ∀ {c : Ctr}, c.soft = true → Contract P f c → (c.G ci).run some = some co → Calls P f vals w fun e w' => match e with
   | .returned v => ∃ C', CallPost w C ci co v w' C' ∧ (true = true → SoftPost w C ci co w' C')
   | _ => False := fun {c} hs h hg => (h w C ci co vals hM hptr hsz hvals hg).mono fun e w' k => by
  cases e with
  | returned v => obtain ⟨C', k1, k2⟩ := k; exact ⟨C', k1, fun _ => k2 hs⟩
  | _ => exact k
 simp only [softOr] at hG
 split at hG
 ·rename_i r p l ha
  cases hb : (under t p && under p t) with
  | true => rw [hb] at hG; exact conv s1 h1 hG
  | false => rw [hb] at hG; exact conv s2 h2 hG
 ·cases hG
end Go.Abs

namespace Go.Proofs.Ytohnlghdhbignaa
open Go Go.Abs Go.Proofs
abbrev kField : K := (.pair (.int .i64) (.pair (.int .i64) .unit))
abbrev kStation : K := (.pair (.sl (.int .i64)) (.pair (.sl (.int .i64)) .unit))
abbrev kL00Src : K := (.pair (.sl (.int .u8)) (.pair (.int .i64) (.pair (.int .u64) .unit)))
abbrev kDeed : K := (.pair (.int .i64) (.pair (.int .i64) (.pair (.int .i64) (.pair (.int .i64) .unit))))
abbrev kGather : K := (.pair (.int .i64) (.pair (.int .i64) (.pair (.sl (.int .i64)) (.pair (.int .i64) (.pair (.int .i64) .unit)))))
abbrev kPlant : K := (.pair (.sl kStation) (.pair (.sl kField) .unit))
abbrev kNet : K := (.pair kField (.pair (.int .i64) (.pair (.int .i64) (.pair (.sl (.sl (.int .i64))) (.pair (.sl (.sl (.int .i64))) .unit)))))
abbrev kL08Run : K := (.pair .ptr (.pair kPlant .unit))
abbrev kWorks : K := (.pair kPlant (.pair kGather .unit))
def tau : List (Nat × TI) := [(2, ⟨(.int .i64), 8, 0⟩), (38, ⟨kDeed, 32, 0⟩), (24, ⟨(.sl (.int .i64)), 24, 2⟩), (26, ⟨kGather, 56, 0⟩), (34, ⟨kPlant, 48, 0⟩), (32, ⟨(.sl kField), 24, 80⟩), (31, ⟨(.sl kStation), 24, 40⟩), (40, ⟨kStation, 48, 0⟩), (80, ⟨kField, 16, 0⟩), (90, ⟨kL08Run, 56, 0⟩), (82, ⟨kWorks, 104, 0⟩), (3, ⟨(.int .i64), 8, 0⟩), (57, ⟨kGather, 56, 0⟩), (28, ⟨(.sl kDeed), 24, 38⟩), (105, ⟨kDeed, 32, 0⟩), (146, ⟨(.sl (.int .i64)), 24, 3⟩), (73, ⟨.ptr, 8, 0⟩), (58, ⟨(.sl kDeed), 24, 105⟩), (145, ⟨(.sl .str), 24, 9⟩), (1, ⟨.fn, 8, 0⟩), (4, ⟨.bool, 1, 0⟩), (5, ⟨(.int .u8), 1, 0⟩), (9, ⟨.str, 16, 0⟩), (12, ⟨(.int .u64), 8, 0⟩), (13, ⟨(.pair .str (.pair (.int .u64) .unit)), 24, 0⟩), (21, ⟨(.int .i32), 4, 0⟩), (22, ⟨(.sl (.int .u8)), 24, 5⟩), (23, ⟨.fn, 8, 0⟩), (25, ⟨kGather, 56, 0⟩), (27, ⟨.fn, 8, 0⟩), (29, ⟨.fn, 8, 0⟩), (30, ⟨.fn, 8, 0⟩), (33, ⟨kPlant, 48, 0⟩), (36, ⟨.fn, 8, 0⟩), (37, ⟨kDeed, 32, 0⟩), (39, ⟨kStation, 48, 0⟩), (41, ⟨.fn, 8, 0⟩), (42, ⟨(.int .u64), 8, 0⟩), (43, ⟨kField, 16, 0⟩), (44, ⟨kField, 16, 0⟩), (45, ⟨(.sl (.sl (.int .i64))), 24, 24⟩), (46, ⟨kNet, 80, 0⟩), (47, ⟨kNet, 80, 0⟩), (48, ⟨.fn, 8, 0⟩), (50, ⟨.fn, 8, 0⟩), (51, ⟨kField, 16, 0⟩), (52, ⟨kNet, 80, 0⟩), (53, ⟨kNet, 80, 0⟩), (54, ⟨.fn, 8, 0⟩), (55, ⟨.fn, 8, 0⟩), (56, ⟨.fn, 8, 0⟩), (59, ⟨.fn, 8, 0⟩), (60, ⟨.fn, 8, 0⟩), (61, ⟨.fn, 8, 0⟩), (62, ⟨.fn, 8, 0⟩), (63, ⟨.fn, 8, 0⟩), (64, ⟨.fn, 8, 0⟩), (65, ⟨.fn, 8, 0⟩), (66, ⟨.fn, 8, 0⟩), (67, ⟨.fn, 8, 0⟩), (68, ⟨.fn, 8, 0⟩), (69, ⟨.fn, 8, 0⟩), (70, ⟨.ptr, 8, 0⟩), (71, ⟨.fn, 8, 0⟩), (72, ⟨.fn, 8, 0⟩), (74, ⟨.fn, 8, 0⟩), (75, ⟨.ptr, 8, 0⟩), (77, ⟨.fn, 8, 0⟩), (78, ⟨.fn, 8, 0⟩), (79, ⟨kField, 16, 0⟩), (81, ⟨kWorks, 104, 0⟩), (83, ⟨.fn, 8, 0⟩), (84, ⟨.fn, 8, 0⟩), (85, ⟨.fn, 8, 0⟩), (86, ⟨.ptr, 8, 0⟩), (88, ⟨.fn, 8, 0⟩), (89, ⟨kL08Run, 56, 0⟩), (91, ⟨.fn, 8, 0⟩), (92, ⟨.fn, 8, 0⟩), (93, ⟨.ptr, 8, 0⟩), (94, ⟨.fn, 8, 0⟩), (95, ⟨.fn, 8, 0⟩), (96, ⟨.fn, 8, 0⟩), (97, ⟨.fn, 8, 0⟩), (98, ⟨.fn, 8, 0⟩), (99, ⟨.fn, 8, 0⟩), (100, ⟨.fn, 8, 0⟩), (101, ⟨.fn, 8, 0⟩), (102, ⟨.fn, 8, 0⟩), (103, ⟨.fn, 8, 0⟩), (104, ⟨.fn, 8, 0⟩), (106, ⟨.fn, 8, 0⟩), (107, ⟨.fn, 8, 0⟩), (108, ⟨.fn, 8, 0⟩), (109, ⟨.fn, 8, 0⟩), (110, ⟨.fn, 8, 0⟩), (111, ⟨.fn, 8, 0⟩), (112, ⟨(.int .u64), 8, 0⟩), (113, ⟨kL00Src, 40, 0⟩), (114, ⟨kL00Src, 40, 0⟩), (115, ⟨.fn, 8, 0⟩), (116, ⟨.fn, 8, 0⟩), (117, ⟨.fn, 8, 0⟩), (118, ⟨.fn, 8, 0⟩), (119, ⟨.fn, 8, 0⟩), (120, ⟨.fn, 8, 0⟩), (121, ⟨.fn, 8, 0⟩), (122, ⟨.fn, 8, 0⟩), (123, ⟨.fn, 8, 0⟩), (124, ⟨.fn, 8, 0⟩), (125, ⟨.fn, 8, 0⟩), (126, ⟨.fn, 8, 0⟩), (127, ⟨.fn, 8, 0⟩), (128, ⟨.fn, 8, 0⟩), (129, ⟨.fn, 8, 0⟩), (130, ⟨.fn, 8, 0⟩), (131, ⟨.fn, 8, 0⟩), (132, ⟨.fn, 8, 0⟩), (133, ⟨.fn, 8, 0⟩), (134, ⟨.fn, 8, 0⟩), (135, ⟨.fn, 8, 0⟩), (136, ⟨.fn, 8, 0⟩), (137, ⟨.fn, 8, 0⟩), (138, ⟨.fn, 8, 0⟩), (139, ⟨.ptr, 8, 0⟩), (140, ⟨.fn, 8, 0⟩), (141, ⟨.fn, 8, 0⟩), (143, ⟨.fn, 8, 0⟩), (144, ⟨.fn, 8, 0⟩), (148, ⟨.fn, 8, 0⟩), (149, ⟨.fn, 8, 0⟩), (150, ⟨.fn, 8, 0⟩), (151, ⟨.fn, 8, 0⟩), (152, ⟨.fn, 8, 0⟩), (153, ⟨.fn, 8, 0⟩), (154, ⟨.fn, 8, 0⟩), (155, ⟨.fn, 8, 0⟩), (156, ⟨.fn, 8, 0⟩), (157, ⟨.fn, 8, 0⟩), (158, ⟨.fn, 8, 0⟩), (159, ⟨.fn, 8, 0⟩), (160, ⟨.fn, 8, 0⟩), (161, ⟨.fn, 8, 0⟩), (162, ⟨.fn, 8, 0⟩), (163, ⟨.fn, 8, 0⟩), (164, ⟨.fn, 8, 0⟩), (165, ⟨.fn, 8, 0⟩), (166, ⟨.fn, 8, 0⟩), (167, ⟨.fn, 8, 0⟩), (168, ⟨.fn, 8, 0⟩), (169, ⟨.fn, 8, 0⟩), (170, ⟨.fn, 8, 0⟩), (171, ⟨.fn, 8, 0⟩), (172, ⟨.fn, 8, 0⟩), (173, ⟨.fn, 8, 0⟩), (179, ⟨.fn, 8, 0⟩), (180, ⟨(.int .u32), 4, 0⟩), (183, ⟨.fn, 8, 0⟩), (184, ⟨.ptr, 8, 0⟩), (189, ⟨.fn, 8, 0⟩)]
set_option maxRecDepth 100000 in
theorem tau_tys {E : List (Nat × Ctr)} {Z : List (Nat × List Frz)} : TysOK Try.prog ⟨tau, E, Z⟩ := tysOK_of (tysB_env (by kernel_rfl)) (by kernel_rfl)
theorem ent11 : Enters Try.prog 11 := ⟨Try.f11, Try.func11, by kernel_rfl, by kernel_rfl⟩
theorem ent13 : Enters Try.prog 13 := ⟨Try.f13, Try.func13, by kernel_rfl, by kernel_rfl⟩
theorem ent19 : Enters Try.prog 19 := ⟨Try.f19, Try.func19, by kernel_rfl, by kernel_rfl⟩
theorem ent20 : Enters Try.prog 20 := ⟨Try.f20, Try.func20, by kernel_rfl, by kernel_rfl⟩
theorem ent21 : Enters Try.prog 21 := ⟨Try.f21, Try.func21, by kernel_rfl, by kernel_rfl⟩
theorem ent22 : Enters Try.prog 22 := ⟨Try.f22, Try.func22, by kernel_rfl, by kernel_rfl⟩
theorem ent23 : Enters Try.prog 23 := ⟨Try.f23, Try.func23, by kernel_rfl, by kernel_rfl⟩
theorem ent24 : Enters Try.prog 24 := ⟨Try.f24, Try.func24, by kernel_rfl, by kernel_rfl⟩
theorem ent25 : Enters Try.prog 25 := ⟨Try.f25, Try.func25, by kernel_rfl, by kernel_rfl⟩
theorem ent26 : Enters Try.prog 26 := ⟨Try.f26, Try.func26, by kernel_rfl, by kernel_rfl⟩
theorem ent27 : Enters Try.prog 27 := ⟨Try.f27, Try.func27, by kernel_rfl, by kernel_rfl⟩
theorem ent28 : Enters Try.prog 28 := ⟨Try.f28, Try.func28, by kernel_rfl, by kernel_rfl⟩
theorem ent29 : Enters Try.prog 29 := ⟨Try.f29, Try.func29, by kernel_rfl, by kernel_rfl⟩
theorem ent33 : Enters Try.prog 33 := ⟨Try.f33, Try.func33, by kernel_rfl, by kernel_rfl⟩
theorem ent34 : Enters Try.prog 34 := ⟨Try.f34, Try.func34, by kernel_rfl, by kernel_rfl⟩
theorem ent35 : Enters Try.prog 35 := ⟨Try.f35, Try.func35, by kernel_rfl, by kernel_rfl⟩
theorem ent36 : Enters Try.prog 36 := ⟨Try.f36, Try.func36, by kernel_rfl, by kernel_rfl⟩
theorem ent38 : Enters Try.prog 38 := ⟨Try.f38, Try.func38, by kernel_rfl, by kernel_rfl⟩
theorem ent39 : Enters Try.prog 39 := ⟨Try.f39, Try.func39, by kernel_rfl, by kernel_rfl⟩
theorem ent51 : Enters Try.prog 51 := ⟨Try.f51, Try.func51, by kernel_rfl, by kernel_rfl⟩
theorem ent52 : Enters Try.prog 52 := ⟨Try.f52, Try.func52, by kernel_rfl, by kernel_rfl⟩
theorem ent53 : Enters Try.prog 53 := ⟨Try.f53, Try.func53, by kernel_rfl, by kernel_rfl⟩
theorem ent54 : Enters Try.prog 54 := ⟨Try.f54, Try.func54, by kernel_rfl, by kernel_rfl⟩
theorem ent55 : Enters Try.prog 55 := ⟨Try.f55, Try.func55, by kernel_rfl, by kernel_rfl⟩
theorem ent56 : Enters Try.prog 56 := ⟨Try.f56, Try.func56, by kernel_rfl, by kernel_rfl⟩
theorem ent57 : Enters Try.prog 57 := ⟨Try.f57, Try.func57, by kernel_rfl, by kernel_rfl⟩
theorem ent58 : Enters Try.prog 58 := ⟨Try.f58, Try.func58, by kernel_rfl, by kernel_rfl⟩
theorem ent59 : Enters Try.prog 59 := ⟨Try.f59, Try.func59, by kernel_rfl, by kernel_rfl⟩
theorem ent60 : Enters Try.prog 60 := ⟨Try.f60, Try.func60, by kernel_rfl, by kernel_rfl⟩
theorem ent61 : Enters Try.prog 61 := ⟨Try.f61, Try.func61, by kernel_rfl, by kernel_rfl⟩
theorem ent62 : Enters Try.prog 62 := ⟨Try.f62, Try.func62, by kernel_rfl, by kernel_rfl⟩
theorem ent65 : Enters Try.prog 65 := ⟨Try.f65, Try.func65, by kernel_rfl, by kernel_rfl⟩
theorem ent68 : Enters Try.prog 68 := ⟨Try.f68, Try.func68, by kernel_rfl, by kernel_rfl⟩
theorem ent69 : Enters Try.prog 69 := ⟨Try.f69, Try.func69, by kernel_rfl, by kernel_rfl⟩
theorem ent70 : Enters Try.prog 70 := ⟨Try.f70, Try.func70, by kernel_rfl, by kernel_rfl⟩
theorem ent71 : Enters Try.prog 71 := ⟨Try.f71, Try.func71, by kernel_rfl, by kernel_rfl⟩
theorem ent72 : Enters Try.prog 72 := ⟨Try.f72, Try.func72, by kernel_rfl, by kernel_rfl⟩
theorem ent73 : Enters Try.prog 73 := ⟨Try.f73, Try.func73, by kernel_rfl, by kernel_rfl⟩
theorem ent74 : Enters Try.prog 74 := ⟨Try.f74, Try.func74, by kernel_rfl, by kernel_rfl⟩
theorem ent75 : Enters Try.prog 75 := ⟨Try.f75, Try.func75, by kernel_rfl, by kernel_rfl⟩
theorem ent76 : Enters Try.prog 76 := ⟨Try.f76, Try.func76, by kernel_rfl, by kernel_rfl⟩
theorem ent77 : Enters Try.prog 77 := ⟨Try.f77, Try.func77, by kernel_rfl, by kernel_rfl⟩
theorem ent78 : Enters Try.prog 78 := ⟨Try.f78, Try.func78, by kernel_rfl, by kernel_rfl⟩
theorem ent80 : Enters Try.prog 80 := ⟨Try.f80, Try.func80, by kernel_rfl, by kernel_rfl⟩
theorem ent90 : Enters Try.prog 90 := ⟨Try.f90, Try.func90, by kernel_rfl, by kernel_rfl⟩
theorem ent91 : Enters Try.prog 91 := ⟨Try.f91, Try.func91, by kernel_rfl, by kernel_rfl⟩
theorem ent92 : Enters Try.prog 92 := ⟨Try.f92, Try.func92, by kernel_rfl, by kernel_rfl⟩
theorem ent94 : Enters Try.prog 94 := ⟨Try.f94, Try.func94, by kernel_rfl, by kernel_rfl⟩
theorem ent95 : Enters Try.prog 95 := ⟨Try.f95, Try.func95, by kernel_rfl, by kernel_rfl⟩
theorem ent96 : Enters Try.prog 96 := ⟨Try.f96, Try.func96, by kernel_rfl, by kernel_rfl⟩
theorem ent97 : Enters Try.prog 97 := ⟨Try.f97, Try.func97, by kernel_rfl, by kernel_rfl⟩
theorem ent98 : Enters Try.prog 98 := ⟨Try.f98, Try.func98, by kernel_rfl, by kernel_rfl⟩
theorem ent99 : Enters Try.prog 99 := ⟨Try.f99, Try.func99, by kernel_rfl, by kernel_rfl⟩
theorem ent100 : Enters Try.prog 100 := ⟨Try.f100, Try.func100, by kernel_rfl, by kernel_rfl⟩
theorem ent101 : Enters Try.prog 101 := ⟨Try.f101, Try.func101, by kernel_rfl, by kernel_rfl⟩
theorem ent102 : Enters Try.prog 102 := ⟨Try.f102, Try.func102, by kernel_rfl, by kernel_rfl⟩
theorem ent103 : Enters Try.prog 103 := ⟨Try.f103, Try.func103, by kernel_rfl, by kernel_rfl⟩
theorem ent104 : Enters Try.prog 104 := ⟨Try.f104, Try.func104, by kernel_rfl, by kernel_rfl⟩
theorem ent105 : Enters Try.prog 105 := ⟨Try.f105, Try.func105, by kernel_rfl, by kernel_rfl⟩
theorem ent106 : Enters Try.prog 106 := ⟨Try.f106, Try.func106, by kernel_rfl, by kernel_rfl⟩
theorem ent107 : Enters Try.prog 107 := ⟨Try.f107, Try.func107, by kernel_rfl, by kernel_rfl⟩
theorem ent116 : Enters Try.prog 116 := ⟨Try.f116, Try.func116, by kernel_rfl, by kernel_rfl⟩
theorem ent126 : Enters Try.prog 126 := ⟨Try.f126, Try.func126, by kernel_rfl, by kernel_rfl⟩
theorem ent127 : Enters Try.prog 127 := ⟨Try.f127, Try.func127, by kernel_rfl, by kernel_rfl⟩
theorem ent128 : Enters Try.prog 128 := ⟨Try.f128, Try.func128, by kernel_rfl, by kernel_rfl⟩
theorem ent129 : Enters Try.prog 129 := ⟨Try.f129, Try.func129, by kernel_rfl, by kernel_rfl⟩
theorem ent130 : Enters Try.prog 130 := ⟨Try.f130, Try.func130, by kernel_rfl, by kernel_rfl⟩
theorem ent131 : Enters Try.prog 131 := ⟨Try.f131, Try.func131, by kernel_rfl, by kernel_rfl⟩
theorem ent132 : Enters Try.prog 132 := ⟨Try.f132, Try.func132, by kernel_rfl, by kernel_rfl⟩
theorem ent133 : Enters Try.prog 133 := ⟨Try.f133, Try.func133, by kernel_rfl, by kernel_rfl⟩
theorem ent147 : Enters Try.prog 147 := ⟨Try.f147, Try.func147, by kernel_rfl, by kernel_rfl⟩
theorem ent148 : Enters Try.prog 148 := ⟨Try.f148, Try.func148, by kernel_rfl, by kernel_rfl⟩
theorem ent149 : Enters Try.prog 149 := ⟨Try.f149, Try.func149, by kernel_rfl, by kernel_rfl⟩
theorem ent150 : Enters Try.prog 150 := ⟨Try.f150, Try.func150, by kernel_rfl, by kernel_rfl⟩
theorem ent155 : Enters Try.prog 155 := ⟨Try.f155, Try.func155, by kernel_rfl, by kernel_rfl⟩
theorem ent156 : Enters Try.prog 156 := ⟨Try.f156, Try.func156, by kernel_rfl, by kernel_rfl⟩
theorem ent157 : Enters Try.prog 157 := ⟨Try.f157, Try.func157, by kernel_rfl, by kernel_rfl⟩
abbrev TStation := ((List Int) × ((List Int) × Unit))
abbrev TL00Src := ((List Int) × (Int × (Int × Unit)))
abbrev TDeed := (Int × (Int × (Int × (Int × Unit))))
abbrev TGather := (Int × (Int × TL00Src))
abbrev TPlant := ((List TStation) × ((List (Int × (Int × Unit))) × Unit))
abbrev TWorks := (TPlant × (TGather × Unit))
end Go.Proofs.Ytohnlghdhbignaa

namespace Go.Proofs.Ytohnlghdhbignaa
open Go Go.Abs Go.Proofs
noncomputable def l_szInt64S (p0 : (List Int)) (p1 : Int) : Tre Int :=
 let v1 := iwrap .i64 (p1 - (p0.length : Int))
 .cond (decide (v1 < 0))
  (.ret (-1))
  (.ret v1)
noncomputable def l_szInt64S_F (p0 : (List Int)) (p1 : Int) : Option Int := (l_szInt64S p0 p1).run some
def l_szInt64S_S (p0 : (List Int)) (p1 : Int) : Int :=
 let v1 := iwrap .i64 (p1 - (p0.length : Int))
 cond (decide (v1 < 0))
  (-1)
  (v1)
theorem l_szInt64S_spec (p0 : (List Int)) (p1 : Int) : l_szInt64S_F p0 p1 = some (l_szInt64S_S p0 p1) := (run_cond_some rfl rfl)
-- more
theorem l_szInt64S_len {xs : List Int} (h : xs.length ≤ maxLen) (hn : ¬ l_szInt64S_S xs 1048576 < 0) : xs.length ≤ 1048576 := by
 unfold maxLen at h
 unfold l_szInt64S_S at hn
 dsimp only at hn
 rw [iwrap_i64 (by omega) (by omega)] at hn
 by_cases h2 : (1048576 : Int) - xs.length < 0
 ·simp [h2] at hn
 ·omega
noncomputable def l_szInt64S_V : Env := ⟨tau, [], []⟩
noncomputable def l_szInt64S_b : Code := (Try.f51.body).getD .skip
noncomputable def l_szInt64S_I : FnI := ⟨l_szInt64S_b, Try.f51.results.toList, Try.f51.resultTypes.toList, []⟩
noncomputable def l_szInt64S_out (_zp0 : Bool) (_p0 : (List Int)) (_p1 : Int) : Int → CallOut := fun r => ⟨(.imm true (.int .i64) r), [], []⟩
set_option maxRecDepth 100000 in
theorem l_szInt64S_eq : ∀ (zp0 : Bool) (p0 : (List Int)) (p1 : Int), denFn l_szInt64S_V l_szInt64S_I ⟨[(.imm zp0 (.sl (.int .i64)) p0), (.imm true (.int .i64) p1)], []⟩ = (l_szInt64S p0 p1).run fun r => some (l_szInt64S_out zp0 p0 p1 r) := fun _ _ _ => by kernel_rfl
noncomputable def l_szInt64S_G (av : List AV) (rs : List Root) : Tre CallOut :=
 asCons av fun a0_ av0 =>
 asCons av0 fun a1_ av1 =>
 asEnd av1 <|
 asEnd rs <|
 asImm (.sl (.int .i64)) a0_ fun z2 d1 =>
 asImmZ true (.int .i64) a1_ fun d3 =>
 .ret (l_szInt64S_out z2 d1 d3 (l_szInt64S_S d1 d3))
noncomputable def l_szInt64S_c : Ctr := ⟨[], fun ci => l_szInt64S_G ci.args ci.roots, false⟩
theorem l_szInt64S_env : EnvOK Try.prog l_szInt64S_V := envOK_nil
set_option maxRecDepth 100000 in
theorem l_szInt64S_ok : Contract Try.prog 51 l_szInt64S_c := by
 have hl : LoopsOK l_szInt64S_V [] l_szInt64S_b := loopsOK_nil (by kernel_rfl)
 refine (contract_of (F := l_szInt64S_I) tau_tys l_szInt64S_env Try.func51 (by kernel_rfl) (by kernel_rfl) (by kernel_rfl) hl []).weaken ?_
 rintro ⟨av, rs⟩ co h
 have h : (l_szInt64S_G av rs).run some = some co := h
 obtain ⟨a0_, av0, rfl, h_0⟩ := asCons_spec h
 obtain ⟨a1_, av1, rfl, h_1⟩ := asCons_spec h_0
 obtain ⟨rfl, h_2⟩ := asEnd_spec h_1
 obtain ⟨rfl, h_3⟩ := asEnd_spec h_2
 obtain ⟨z2, d1, rfl, h_4⟩ := asImm_spec h_3
 obtain ⟨d3, rfl, h_5⟩ := asImmZ_spec h_4
 exact fin_ret (l_szInt64S_eq z2 d1 d3) (l_szInt64S_spec d1 d3) h_5
end Go.Proofs.Ytohnlghdhbignaa

namespace Go.Proofs.Ytohnlghdhbignaa
open Go Go.Abs Go.Proofs
noncomputable def l_szGather (p0 : TGather) (p1 : Int) : Tre Int :=
 .cond (decide ((l_szInt64S_S p0.2.2.1 p1) < 0))
  (.ret (-1))
  (.ret (l_szInt64S_S p0.2.2.1 p1))
noncomputable def l_szGather_F (p0 : TGather) (p1 : Int) : Option Int := (l_szGather p0 p1).run some
def l_szGather_S (p0 : TGather) (p1 : Int) : Int :=
 cond (decide ((l_szInt64S_S p0.2.2.1 p1) < 0))
  (-1)
  ((l_szInt64S_S p0.2.2.1 p1))
theorem l_szGather_spec (p0 : TGather) (p1 : Int) : l_szGather_F p0 p1 = some (l_szGather_S p0 p1) := (run_cond_some rfl rfl)
-- more
theorem l_szGather_len {p : Int × Int × List Int × Int × Int × Unit} (h : p.2.2.1.length ≤ maxLen) (hn : ¬ l_szGather_S p 1048576 < 0) : p.2.2.1.length ≤ 1048576 := by
 refine l_szInt64S_len h fun h2 => hn ?_
 unfold l_szGather_S
 rw [show decide (l_szInt64S_S p.2.2.1 1048576 < 0) = true from by simpa using h2, cond_true]
 decide
theorem l_szGather_le {p : Int × Int × List Int × Int × Int × Unit} (h : p.2.2.1.length ≤ 1048576) : l_szGather_S p 1048576 ≤ 1048576 := by
 have h2 : l_szInt64S_S p.2.2.1 1048576 ≤ 1048576 := by
  unfold l_szInt64S_S
  dsimp only
  rw [iwrap_i64 (by omega) (by omega)]
  cases decide ((1048576 : Int) - p.2.2.1.length < 0)
  ·rw [cond_false]; omega
  ·rw [cond_true]; decide
 unfold l_szGather_S
 cases decide (l_szInt64S_S p.2.2.1 1048576 < 0)
 ·exact h2
 ·rw [cond_true]; decide
noncomputable def l_szGather_V : Env := ⟨tau, [(51, l_szInt64S_c)], []⟩
noncomputable def l_szGather_b : Code := (Try.f19.body).getD .skip
noncomputable def l_szGather_I : FnI := ⟨l_szGather_b, Try.f19.results.toList, Try.f19.resultTypes.toList, []⟩
noncomputable def l_szGather_out (_zp0 : Bool) (_p0 : TGather) (_p1 : Int) : Int → CallOut := fun r => ⟨(.imm true (.int .i64) r), [], []⟩
set_option maxRecDepth 100000 in
theorem l_szGather_eq : ∀ (zp0 : Bool) (p0 : TGather) (p1 : Int), denFn l_szGather_V l_szGather_I ⟨[(.imm zp0 kGather p0), (.imm true (.int .i64) p1)], []⟩ = (l_szGather p0 p1).run fun r => some (l_szGather_out zp0 p0 p1 r) := fun _ _ _ => by kernel_rfl
noncomputable def l_szGather_G (av : List AV) (rs : List Root) : Tre CallOut :=
 asCons av fun a0_ av0 =>
 asCons av0 fun a1_ av1 =>
 asEnd av1 <|
 asEnd rs <|
 asImm kGather a0_ fun z2 d1 =>
 asImmZ true (.int .i64) a1_ fun d3 =>
 .ret (l_szGather_out z2 d1 d3 (l_szGather_S d1 d3))
noncomputable def l_szGather_c : Ctr := ⟨[], fun ci => l_szGather_G ci.args ci.roots, false⟩
theorem l_szGather_env : EnvOK Try.prog l_szGather_V := (envOK_cons l_szInt64S_ok ent51 envOK_nil)
set_option maxRecDepth 100000 in
theorem l_szGather_ok : Contract Try.prog 19 l_szGather_c := by
 have hl : LoopsOK l_szGather_V [] l_szGather_b := loopsOK_nil (by kernel_rfl)
 refine (contract_of (F := l_szGather_I) tau_tys l_szGather_env Try.func19 (by kernel_rfl) (by kernel_rfl) (by kernel_rfl) hl []).weaken ?_
 rintro ⟨av, rs⟩ co h
 have h : (l_szGather_G av rs).run some = some co := h
 obtain ⟨a0_, av0, rfl, h_0⟩ := asCons_spec h
 obtain ⟨a1_, av1, rfl, h_1⟩ := asCons_spec h_0
 obtain ⟨rfl, h_2⟩ := asEnd_spec h_1
 obtain ⟨rfl, h_3⟩ := asEnd_spec h_2
 obtain ⟨z2, d1, rfl, h_4⟩ := asImm_spec h_3
 obtain ⟨d3, rfl, h_5⟩ := asImmZ_spec h_4
 exact fin_ret (l_szGather_eq z2 d1 d3) (l_szGather_spec d1 d3) h_5
end Go.Proofs.Ytohnlghdhbignaa

namespace Go.Proofs.Ytohnlghdhbignaa
open Go Go.Abs Go.Proofs
noncomputable def l_szDeedS (p0 : (List TDeed)) (p1 : Int) : Tre Int :=
 let v1 := iwrap .i64 (p1 - (p0.length : Int))
 .cond (decide (v1 < 0))
  (.ret (-1))
  (.ret v1)
noncomputable def l_szDeedS_F (p0 : (List TDeed)) (p1 : Int) : Option Int := (l_szDeedS p0 p1).run some
def l_szDeedS_S (p0 : (List TDeed)) (p1 : Int) : Int :=
 let v1 := iwrap .i64 (p1 - (p0.length : Int))
 cond (decide (v1 < 0))
  (-1)
  (v1)
theorem l_szDeedS_spec (p0 : (List TDeed)) (p1 : Int) : l_szDeedS_F p0 p1 = some (l_szDeedS_S p0 p1) := (run_cond_some rfl rfl)
-- more
theorem l_szDeedS_len {xs : List (Int × Int × Int × Int × Unit)} {n : Int} (h : xs.length ≤ maxLen) (hn : n ≤ 1048576) (h0 : 0 ≤ n) (hs : ¬ l_szDeedS_S xs n < 0) : xs.length ≤ 1048576 := by
 unfold maxLen at h
 unfold l_szDeedS_S at hs
 dsimp only at hs
 rw [iwrap_i64 (by omega) (by omega)] at hs
 by_cases h2 : n - (xs.length : Int) < 0
 ·simp [h2] at hs
 ·omega
noncomputable def l_szDeedS_V : Env := ⟨tau, [], []⟩
noncomputable def l_szDeedS_b : Code := (Try.f20.body).getD .skip
noncomputable def l_szDeedS_I : FnI := ⟨l_szDeedS_b, Try.f20.results.toList, Try.f20.resultTypes.toList, []⟩
noncomputable def l_szDeedS_out (_zp0 : Bool) (_p0 : (List TDeed)) (_p1 : Int) : Int → CallOut := fun r => ⟨(.imm true (.int .i64) r), [], []⟩
set_option maxRecDepth 100000 in
theorem l_szDeedS_eq : ∀ (zp0 : Bool) (p0 : (List TDeed)) (p1 : Int), denFn l_szDeedS_V l_szDeedS_I ⟨[(.imm zp0 (.sl kDeed) p0), (.imm true (.int .i64) p1)], []⟩ = (l_szDeedS p0 p1).run fun r => some (l_szDeedS_out zp0 p0 p1 r) := fun _ _ _ => by kernel_rfl
noncomputable def l_szDeedS_G (av : List AV) (rs : List Root) : Tre CallOut :=
 asCons av fun a0_ av0 =>
 asCons av0 fun a1_ av1 =>
 asEnd av1 <|
 asEnd rs <|
 asImm (.sl kDeed) a0_ fun z2 d1 =>
 asImmZ true (.int .i64) a1_ fun d3 =>
 .ret (l_szDeedS_out z2 d1 d3 (l_szDeedS_S d1 d3))
noncomputable def l_szDeedS_c : Ctr := ⟨[], fun ci => l_szDeedS_G ci.args ci.roots, false⟩
theorem l_szDeedS_env : EnvOK Try.prog l_szDeedS_V := envOK_nil
set_option maxRecDepth 100000 in
theorem l_szDeedS_ok : Contract Try.prog 20 l_szDeedS_c := by
 have hl : LoopsOK l_szDeedS_V [] l_szDeedS_b := loopsOK_nil (by kernel_rfl)
 refine (contract_of (F := l_szDeedS_I) tau_tys l_szDeedS_env Try.func20 (by kernel_rfl) (by kernel_rfl) (by kernel_rfl) hl []).weaken ?_
 rintro ⟨av, rs⟩ co h
 have h : (l_szDeedS_G av rs).run some = some co := h
 obtain ⟨a0_, av0, rfl, h_0⟩ := asCons_spec h
 obtain ⟨a1_, av1, rfl, h_1⟩ := asCons_spec h_0
 obtain ⟨rfl, h_2⟩ := asEnd_spec h_1
 obtain ⟨rfl, h_3⟩ := asEnd_spec h_2
 obtain ⟨z2, d1, rfl, h_4⟩ := asImm_spec h_3
 obtain ⟨d3, rfl, h_5⟩ := asImmZ_spec h_4
 exact fin_ret (l_szDeedS_eq z2 d1 d3) (l_szDeedS_spec d1 d3) h_5
end Go.Proofs.Ytohnlghdhbignaa

namespace Go.Proofs.Ytohnlghdhbignaa
open Go Go.Abs Go.Proofs
noncomputable def l_toInt64S_l3 (h3_0_0 : (List Int)) : (Int × (List Int)) → Tre ((Int × (List Int)) ⊕ (List Int)) := fun s3 =>
 .cond (decide (s3.1 < (h3_0_0.length : Int)))
  (.ite (0 ≤ s3.1 ∧ s3.1 < (h3_0_0.length : Int)) <|
  .mat (h3_0_0[s3.1.toNat]?) fun x1 =>
  .ite (0 ≤ s3.1 ∧ s3.1 < (s3.2.length : Int)) <|
  .mat (s3.2[s3.1.toNat]?) fun _ =>
  let v3 := s3.2.set s3.1.toNat x1
  .ret (.inl (iwrap .i64 (s3.1 + 1), v3)))
  (.ret (.inr s3.2))
noncomputable def l_toInt64S (p0 : (List Int)) : Tre (List Int) :=
 .ite (((.int .i64) : K) = (.int .i64) ∧ 0 ≤ (p0.length : Int) ∧ (p0.length : Int) = (p0.length : Int) ∧ (p0.length : Int) * (8 : Nat) ≤ 140737488355328 ∧ 1 ≤ 8) <|
 .mat (loopF (l_toInt64S_l3 p0) (0, List.replicate (p0.length : Int).toNat 0)) fun l4 =>
 .ret l4
noncomputable def l_toInt64S_F (p0 : (List Int)) : Option (List Int) := (l_toInt64S p0).run some
theorem l_toInt64S_spec (p0 : List Int) (y : List Int) (h : cloneR p0 = some y) : l_toInt64S_F p0 = some y := by
 obtain ⟨hl, rfl⟩ := lim_some h
 unfold l_toInt64S_F l_toInt64S
 rw [Tre.run_ite, if_pos ⟨rfl, by omega, rfl, by omega, by omega⟩, Tre.run_mat]
 have := fold_loop (xs := p0) (step := l_toInt64S_l3 p0) (fun i acc => ((i : Int), acc)) (fun i acc x => .inl (acc.set i x)) id (fun i acc => acc.length = p0.length) (by
  intro i acc x hx hI
  have hi : i < p0.length := (List.getElem?_eq_some_iff.1 hx).1
  refine ⟨?_, fun a ha => by cases ha; simpa using hI⟩
  unfold l_toInt64S_l3
  rw [run_inb hx]
  rw [show acc.length = p0.length from hI]
  rw [Tre.run_ite, if_pos ⟨by dsimp only; omega, by dsimp only; omega⟩, Tre.run_mat]
  dsimp only
  rw [Int.toNat_natCast, List.getElem?_eq_getElem (by omega : i < acc.length), Option.bind_some, Tre.run_ret, iwrap_succ (by omega)])
  (by
  intro acc hI
  unfold l_toInt64S_l3
  exact run_out)
  p0 0 (List.replicate p0.length 0) rfl (Nat.zero_le _) (by simp)
 rw [Int.toNat_natCast]
 rw [show ((0 : Int), List.replicate p0.length (0 : Int)) = (((0 : Nat) : Int), List.replicate p0.length 0) from rfl, this, foldE_set _ _ _ _ (by simp)]
 simp [Tre.run_ret]
noncomputable def l_toInt64S_V : Env := ⟨tau, [], []⟩
noncomputable def l_toInt64S_b : Code := (Try.f52.body).getD .skip
noncomputable def l_toInt64S_l3_mk (z3_0 : Bool) (h3_0_0 : (List Int)) : (Int × (List Int)) → St := fun x => stOf [(0, (.imm z3_0 (.sl (.int .i64)) h3_0_0)), (3, (.ref (5, 0) [])), (4, (.imm true (.int .i64) x.1))] [((5, 0), some ⟨false, (.sl (.int .i64)), .own, x.2⟩)]
noncomputable def l_toInt64S_l3_out (_z3_0 : Bool) (_h3_0_0 : (List Int)) : (List Int) → Ex × St := fun x => (.exit 0, stOf [(3, (.ref (5, 0) []))] [((5, 0), some ⟨false, (.sl (.int .i64)), .own, x⟩)])
noncomputable def l_toInt64S_l3_D (s : St) : Tre (Ex × St) :=
 asImm (.sl (.int .i64)) (s.tmps 0) fun z3 d2 =>
 asRef (5, 0) [] (s.tmps 3) <|
 asImmZ true (.int .i64) (s.tmps 4) fun d6 =>
 asRoot false (.sl (.int .i64)) (s.roots (5, 0)) fun m8 d9 =>
 asM .own m8 <|
 .mat (loopF (l_toInt64S_l3 d2) (d6, d9)) fun x => .ret (l_toInt64S_l3_out z3 d2 x)
noncomputable def l_toInt64S_l3_L : LoopI := ⟨([0, 3, 4], [(5, 0)]), ([3], [(5, 0)]), l_toInt64S_l3_D⟩
noncomputable def l_toInt64S_A : List (Nat × LoopI) := [(3, l_toInt64S_l3_L)]
set_option maxRecDepth 100000 in
theorem l_toInt64S_l3_step : ∀ (z3_0 : Bool) (h3_0_0 : (List Int)) (x : (Int × (List Int))) (c : St → Option (Ex × St)), den l_toInt64S_V l_toInt64S_A (loopAt l_toInt64S_b 0) (l_toInt64S_l3_mk z3_0 h3_0_0 x) (roundK l_toInt64S_l3_L.kp l_toInt64S_l3_L.kx c) = (l_toInt64S_l3 h3_0_0 x).run (roundR (l_toInt64S_l3_mk z3_0 h3_0_0) (l_toInt64S_l3_out z3_0 h3_0_0) c) := fun _ _ _ _ => by
 kernel_rfl
theorem l_toInt64S_l3_ok : LoopOK l_toInt64S_V l_toInt64S_A (loopAt l_toInt64S_b 0) l_toInt64S_l3_L := loopOK_of fun s e s' h => by
 generalize hs : restrict l_toInt64S_l3_L.kp s = s1 at h
 have h : (l_toInt64S_l3_D s1).run some = some (e, s') := h
 obtain ⟨z3, d2, e1, h_0⟩ := asImm_spec h
 obtain ⟨e4, h_1⟩ := asRef_spec h_0
 obtain ⟨d6, e5, h_2⟩ := asImmZ_spec h_1
 obtain ⟨m8, d9, e7, h_3⟩ := asRoot_spec h_2
 obtain ⟨rfl, h_4⟩ := asM_spec h_3
 obtain ⟨y, hy, hz⟩ := mat_ret h_4
 refine ⟨_, _, l_toInt64S_l3_mk z3 d2, l_toInt64S_l3_out z3 d2, l_toInt64S_l3 d2, (d6, d9), y, ?_, hy, ?_, l_toInt64S_l3_step z3 d2⟩
 ·subst hs; exact restrict_eq (T := [(0, (.imm z3 (.sl (.int .i64)) d2)), (3, (.ref (5, 0) [])), (4, (.imm true (.int .i64) d6))]) (U := [((5, 0), some ⟨false, (.sl (.int .i64)), .own, d9⟩)]) rfl rfl ⟨e1, e4, e5, trivial⟩ ⟨e7, trivial⟩
 ·exact Option.some.inj hz
noncomputable def l_toInt64S_I : FnI := ⟨l_toInt64S_b, Try.f52.results.toList, Try.f52.resultTypes.toList, l_toInt64S_A⟩
noncomputable def l_toInt64S_out (_zp0 : Bool) (_p0 : (List Int)) : (List Int) → CallOut := fun r => ⟨(.ref (1, 0) []), [], [⟨false, (.sl (.int .i64)), .own, r⟩]⟩
set_option maxRecDepth 100000 in
theorem l_toInt64S_eq : ∀ (zp0 : Bool) (p0 : (List Int)), denFn l_toInt64S_V l_toInt64S_I ⟨[(.imm zp0 (.sl (.int .i64)) p0)], []⟩ = (l_toInt64S p0).run fun r => some (l_toInt64S_out zp0 p0 r) := fun _ _ => by kernel_rfl
noncomputable def l_toInt64S_G (av : List AV) (rs : List Root) : Tre CallOut :=
 asCons av fun a0_ av0 =>
 asEnd av0 <|
 asEnd rs <|
 asImm (.sl (.int .i64)) a0_ fun z2 d1 =>
 .mat (cloneR d1) fun r => .ret (l_toInt64S_out z2 d1 r)
noncomputable def l_toInt64S_c : Ctr := ⟨[], fun ci => l_toInt64S_G ci.args ci.roots, false⟩
theorem l_toInt64S_env : EnvOK Try.prog l_toInt64S_V := envOK_nil
set_option maxRecDepth 100000 in
theorem l_toInt64S_ok : Contract Try.prog 52 l_toInt64S_c := by
 have hl : LoopsOK l_toInt64S_V l_toInt64S_A l_toInt64S_b := (loopsOK_all (n := 1) (by kernel_rfl) fun k hk => by
   match k, hk with
   | 0, _ => exact loopOK_at (id := 3) (L := l_toInt64S_l3_L) (by kernel_rfl) (by kernel_rfl) l_toInt64S_l3_ok)
 refine (contract_of (F := l_toInt64S_I) tau_tys l_toInt64S_env Try.func52 (by kernel_rfl) (by kernel_rfl) (by kernel_rfl) hl []).weaken ?_
 rintro ⟨av, rs⟩ co h
 have h : (l_toInt64S_G av rs).run some = some co := h
 obtain ⟨a0_, av0, rfl, h_0⟩ := asCons_spec h
 obtain ⟨rfl, h_1⟩ := asEnd_spec h_0
 obtain ⟨rfl, h_2⟩ := asEnd_spec h_1
 obtain ⟨z2, d1, rfl, h_3⟩ := asImm_spec h_2
 exact fin_opt (l_toInt64S_eq z2 d1) (l_toInt64S_spec d1) h_3
end Go.Proofs.Ytohnlghdhbignaa

namespace Go.Proofs.Ytohnlghdhbignaa
open Go Go.Abs Go.Proofs
noncomputable def l_toGather (p0 : TGather) : Tre (Int × Int × (Int × (Int × Unit)) × (List Int)) :=
 .mat (cloneR p0.2.2.1) fun r1 =>
 .ret (p0.1, p0.2.1, p0.2.2.2, r1)
noncomputable def l_toGather_F (p0 : TGather) : Option (Int × Int × (Int × (Int × Unit)) × (List Int)) := (l_toGather p0).run some
def toG (p0 : Int × Int × List Int × Int × Int × Unit) : Option (Int × Int × (Int × Int × Unit) × List Int) := lim p0.2.2.1.length (p0.1, p0.2.1, p0.2.2.2, p0.2.2.1)
theorem l_toGather_spec (p0 : Int × Int × List Int × Int × Int × Unit) (y : Int × Int × (Int × Int × Unit) × List Int) (h : toG p0 = some y) : l_toGather_F p0 = some y := by
 obtain ⟨hl, rfl⟩ := lim_some h
 unfold l_toGather_F l_toGather
 rw [run_some_mat (show cloneR p0.2.2.1 = some _ from lim_of hl)]
 rfl
noncomputable def l_toGather_V : Env := ⟨tau, [(52, l_toInt64S_c)], []⟩
noncomputable def l_toGather_b : Code := (Try.f21.body).getD .skip
noncomputable def l_toGather_I : FnI := ⟨l_toGather_b, Try.f21.results.toList, Try.f21.resultTypes.toList, []⟩
noncomputable def l_toGather_out (_zp0 : Bool) (_p0 : TGather) : (Int × Int × (Int × (Int × Unit)) × (List Int)) → CallOut := fun r => ⟨(.pair (.imm true (.int .i64) r.1) (.pair (.imm true (.int .i64) r.2.1) (.pair (.ref (1, 0) []) (.imm true kField r.2.2.1)))), [], [⟨false, (.sl (.int .i64)), .own, r.2.2.2⟩]⟩
set_option maxRecDepth 100000 in
theorem l_toGather_eq : ∀ (zp0 : Bool) (p0 : TGather), denFn l_toGather_V l_toGather_I ⟨[(.imm zp0 kGather p0)], []⟩ = (l_toGather p0).run fun r => some (l_toGather_out zp0 p0 r) := fun _ _ => by kernel_rfl
noncomputable def l_toGather_G (av : List AV) (rs : List Root) : Tre CallOut :=
 asCons av fun a0_ av0 =>
 asEnd av0 <|
 asEnd rs <|
 asImm kGather a0_ fun z2 d1 =>
 .mat (toG d1) fun r => .ret (l_toGather_out z2 d1 r)
noncomputable def l_toGather_c : Ctr := ⟨[], fun ci => l_toGather_G ci.args ci.roots, false⟩
theorem l_toGather_env : EnvOK Try.prog l_toGather_V := (envOK_cons l_toInt64S_ok ent52 envOK_nil)
set_option maxRecDepth 100000 in
theorem l_toGather_ok : Contract Try.prog 21 l_toGather_c := by
 have hl : LoopsOK l_toGather_V [] l_toGather_b := loopsOK_nil (by kernel_rfl)
 refine (contract_of (F := l_toGather_I) tau_tys l_toGather_env Try.func21 (by kernel_rfl) (by kernel_rfl) (by kernel_rfl) hl []).weaken ?_
 rintro ⟨av, rs⟩ co h
 have h : (l_toGather_G av rs).run some = some co := h
 obtain ⟨a0_, av0, rfl, h_0⟩ := asCons_spec h
 obtain ⟨rfl, h_1⟩ := asEnd_spec h_0
 obtain ⟨rfl, h_2⟩ := asEnd_spec h_1
 obtain ⟨z2, d1, rfl, h_3⟩ := asImm_spec h_2
 exact fin_opt (l_toGather_eq z2 d1) (l_toGather_spec d1) h_3
end Go.Proofs.Ytohnlghdhbignaa

namespace Go.Proofs.Ytohnlghdhbignaa
open Go Go.Abs Go.Proofs
noncomputable def l_toDeed (_p0 : TDeed) : Tre Unit :=
 .ret ()
noncomputable def l_toDeed_F (p0 : TDeed) : Option Unit := (l_toDeed p0).run some
theorem l_toDeed_spec (p0 : TDeed) : l_toDeed_F p0 = some () := rfl
noncomputable def l_toDeed_V : Env := ⟨tau, [], []⟩
noncomputable def l_toDeed_b : Code := (Try.f53.body).getD .skip
noncomputable def l_toDeed_I : FnI := ⟨l_toDeed_b, Try.f53.results.toList, Try.f53.resultTypes.toList, []⟩
noncomputable def l_toDeed_out (p0 : TDeed) : Unit → CallOut := fun _ => ⟨(.imm true kDeed p0), [], []⟩
set_option maxRecDepth 100000 in
theorem l_toDeed_eq : ∀ (p0 : TDeed), denFn l_toDeed_V l_toDeed_I ⟨[(.imm true kDeed p0)], []⟩ = (l_toDeed p0).run fun r => some (l_toDeed_out p0 r) := fun _ => by kernel_rfl
noncomputable def l_toDeed_G (av : List AV) (rs : List Root) : Tre CallOut :=
 asCons av fun a0_ av0 =>
 asEnd av0 <|
 asEnd rs <|
 asImmZ true kDeed a0_ fun d1 =>
 .ret (l_toDeed_out d1 ())
noncomputable def l_toDeed_c : Ctr := ⟨[], fun ci => l_toDeed_G ci.args ci.roots, false⟩
theorem l_toDeed_env : EnvOK Try.prog l_toDeed_V := envOK_nil
set_option maxRecDepth 100000 in
theorem l_toDeed_ok : Contract Try.prog 53 l_toDeed_c := by
 have hl : LoopsOK l_toDeed_V [] l_toDeed_b := loopsOK_nil (by kernel_rfl)
 refine (contract_of (F := l_toDeed_I) tau_tys l_toDeed_env Try.func53 (by kernel_rfl) (by kernel_rfl) (by kernel_rfl) hl []).weaken ?_
 rintro ⟨av, rs⟩ co h
 have h : (l_toDeed_G av rs).run some = some co := h
 obtain ⟨a0_, av0, rfl, h_0⟩ := asCons_spec h
 obtain ⟨rfl, h_1⟩ := asEnd_spec h_0
 obtain ⟨rfl, h_2⟩ := asEnd_spec h_1
 obtain ⟨d1, rfl, h_3⟩ := asImmZ_spec h_2
 exact fin_ret (l_toDeed_eq d1) (l_toDeed_spec d1) h_3
end Go.Proofs.Ytohnlghdhbignaa

namespace Go.Proofs.Ytohnlghdhbignaa
open Go Go.Abs Go.Proofs
noncomputable def l_toDeedS_l3 (h3_0_0 : (List TDeed)) : (Int × (List TDeed)) → Tre ((Int × (List TDeed)) ⊕ (List TDeed)) := fun s3 =>
 .cond (decide (s3.1 < (h3_0_0.length : Int)))
  (.ite (0 ≤ s3.1 ∧ s3.1 < (h3_0_0.length : Int)) <|
  .mat (h3_0_0[s3.1.toNat]?) fun x1 =>
  .ite (0 ≤ s3.1 ∧ s3.1 < (s3.2.length : Int)) <|
  .mat (s3.2[s3.1.toNat]?) fun _ =>
  let v3 := s3.2.set s3.1.toNat x1
  .ret (.inl (iwrap .i64 (s3.1 + 1), v3)))
  (.ret (.inr s3.2))
noncomputable def l_toDeedS (p0 : (List TDeed)) : Tre (List TDeed) :=
 .ite ((kDeed : K) = kDeed ∧ 0 ≤ (p0.length : Int) ∧ (p0.length : Int) = (p0.length : Int) ∧ (p0.length : Int) * (32 : Nat) ≤ 140737488355328 ∧ 1 ≤ 32) <|
 .mat (loopF (l_toDeedS_l3 p0) (0, List.replicate (p0.length : Int).toNat (0, (0, (0, (0, ())))))) fun l4 =>
 .ret l4
noncomputable def l_toDeedS_F (p0 : (List TDeed)) : Option (List TDeed) := (l_toDeedS p0).run some
theorem l_toDeedS_spec (p0 : List (Int × Int × Int × Int × Unit)) (y : List (Int × Int × Int × Int × Unit)) (h : cloneR p0 = some y) : l_toDeedS_F p0 = some y := by
 obtain ⟨hl, rfl⟩ := lim_some h
 unfold l_toDeedS_F l_toDeedS
 rw [Tre.run_ite, if_pos ⟨rfl, by omega, rfl, by omega, by omega⟩, Tre.run_mat]
 have := fold_loop (xs := p0) (step := l_toDeedS_l3 p0) (fun i acc => ((i : Int), acc)) (fun i acc x => .inl (acc.set i x)) id (fun i acc => acc.length = p0.length) (by
  intro i acc x hx hI
  have hi : i < p0.length := (List.getElem?_eq_some_iff.1 hx).1
  refine ⟨?_, fun a ha => by cases ha; simpa using hI⟩
  unfold l_toDeedS_l3
  rw [run_inb hx]
  rw [show acc.length = p0.length from hI]
  rw [Tre.run_ite, if_pos ⟨by dsimp only; omega, by dsimp only; omega⟩, Tre.run_mat]
  dsimp only
  rw [Int.toNat_natCast, List.getElem?_eq_getElem (by omega : i < acc.length), Option.bind_some, Tre.run_ret, iwrap_succ (by omega)])
  (by
  intro acc hI
  unfold l_toDeedS_l3
  exact run_out)
  p0 0 (List.replicate p0.length (0, 0, 0, 0, ())) rfl (Nat.zero_le _) (by simp)
 rw [Int.toNat_natCast]
 rw [show ((0 : Int), List.replicate p0.length ((0, 0, 0, 0, ()) : Int × Int × Int × Int × Unit)) = (((0 : Nat) : Int), List.replicate p0.length (0, 0, 0, 0, ())) from rfl, this, foldE_set _ _ _ _ (by simp)]
 simp [Tre.run_ret]
noncomputable def l_toDeedS_V : Env := ⟨tau, [(53, l_toDeed_c)], []⟩
noncomputable def l_toDeedS_b : Code := (Try.f22.body).getD .skip
noncomputable def l_toDeedS_l3_mk (z3_0 : Bool) (h3_0_0 : (List TDeed)) : (Int × (List TDeed)) → St := fun x => stOf [(0, (.imm z3_0 (.sl kDeed) h3_0_0)), (3, (.ref (5, 0) [])), (4, (.imm true (.int .i64) x.1))] [((5, 0), some ⟨false, (.sl kDeed), .own, x.2⟩)]
noncomputable def l_toDeedS_l3_out (_z3_0 : Bool) (_h3_0_0 : (List TDeed)) : (List TDeed) → Ex × St := fun x => (.exit 0, stOf [(3, (.ref (5, 0) []))] [((5, 0), some ⟨false, (.sl kDeed), .own, x⟩)])
noncomputable def l_toDeedS_l3_D (s : St) : Tre (Ex × St) :=
 asImm (.sl kDeed) (s.tmps 0) fun z3 d2 =>
 asRef (5, 0) [] (s.tmps 3) <|
 asImmZ true (.int .i64) (s.tmps 4) fun d6 =>
 asRoot false (.sl kDeed) (s.roots (5, 0)) fun m8 d9 =>
 asM .own m8 <|
 .mat (loopF (l_toDeedS_l3 d2) (d6, d9)) fun x => .ret (l_toDeedS_l3_out z3 d2 x)
noncomputable def l_toDeedS_l3_L : LoopI := ⟨([0, 3, 4], [(5, 0)]), ([3], [(5, 0)]), l_toDeedS_l3_D⟩
noncomputable def l_toDeedS_A : List (Nat × LoopI) := [(3, l_toDeedS_l3_L)]
set_option maxRecDepth 100000 in
theorem l_toDeedS_l3_step : ∀ (z3_0 : Bool) (h3_0_0 : (List TDeed)) (x : (Int × (List TDeed))) (c : St → Option (Ex × St)), den l_toDeedS_V l_toDeedS_A (loopAt l_toDeedS_b 0) (l_toDeedS_l3_mk z3_0 h3_0_0 x) (roundK l_toDeedS_l3_L.kp l_toDeedS_l3_L.kx c) = (l_toDeedS_l3 h3_0_0 x).run (roundR (l_toDeedS_l3_mk z3_0 h3_0_0) (l_toDeedS_l3_out z3_0 h3_0_0) c) := fun _ _ _ _ => by
 kernel_rfl
theorem l_toDeedS_l3_ok : LoopOK l_toDeedS_V l_toDeedS_A (loopAt l_toDeedS_b 0) l_toDeedS_l3_L := loopOK_of fun s e s' h => by
 generalize hs : restrict l_toDeedS_l3_L.kp s = s1 at h
 have h : (l_toDeedS_l3_D s1).run some = some (e, s') := h
 obtain ⟨z3, d2, e1, h_0⟩ := asImm_spec h
 obtain ⟨e4, h_1⟩ := asRef_spec h_0
 obtain ⟨d6, e5, h_2⟩ := asImmZ_spec h_1
 obtain ⟨m8, d9, e7, h_3⟩ := asRoot_spec h_2
 obtain ⟨rfl, h_4⟩ := asM_spec h_3
 obtain ⟨y, hy, hz⟩ := mat_ret h_4
 refine ⟨_, _, l_toDeedS_l3_mk z3 d2, l_toDeedS_l3_out z3 d2, l_toDeedS_l3 d2, (d6, d9), y, ?_, hy, ?_, l_toDeedS_l3_step z3 d2⟩
 ·subst hs; exact restrict_eq (T := [(0, (.imm z3 (.sl kDeed) d2)), (3, (.ref (5, 0) [])), (4, (.imm true (.int .i64) d6))]) (U := [((5, 0), some ⟨false, (.sl kDeed), .own, d9⟩)]) rfl rfl ⟨e1, e4, e5, trivial⟩ ⟨e7, trivial⟩
 ·exact Option.some.inj hz
noncomputable def l_toDeedS_I : FnI := ⟨l_toDeedS_b, Try.f22.results.toList, Try.f22.resultTypes.toList, l_toDeedS_A⟩
noncomputable def l_toDeedS_out (_zp0 : Bool) (_p0 : (List TDeed)) : (List TDeed) → CallOut := fun r => ⟨(.ref (1, 0) []), [], [⟨false, (.sl kDeed), .own, r⟩]⟩
set_option maxRecDepth 100000 in
theorem l_toDeedS_eq : ∀ (zp0 : Bool) (p0 : (List TDeed)), denFn l_toDeedS_V l_toDeedS_I ⟨[(.imm zp0 (.sl kDeed) p0)], []⟩ = (l_toDeedS p0).run fun r => some (l_toDeedS_out zp0 p0 r) := fun _ _ => by kernel_rfl
noncomputable def l_toDeedS_G (av : List AV) (rs : List Root) : Tre CallOut :=
 asCons av fun a0_ av0 =>
 asEnd av0 <|
 asEnd rs <|
 asImm (.sl kDeed) a0_ fun z2 d1 =>
 .mat (cloneR d1) fun r => .ret (l_toDeedS_out z2 d1 r)
noncomputable def l_toDeedS_c : Ctr := ⟨[], fun ci => l_toDeedS_G ci.args ci.roots, false⟩
theorem l_toDeedS_env : EnvOK Try.prog l_toDeedS_V := (envOK_cons l_toDeed_ok ent53 envOK_nil)
set_option maxRecDepth 100000 in
theorem l_toDeedS_ok : Contract Try.prog 22 l_toDeedS_c := by
 have hl : LoopsOK l_toDeedS_V l_toDeedS_A l_toDeedS_b := (loopsOK_all (n := 1) (by kernel_rfl) fun k hk => by
   match k, hk with
   | 0, _ => exact loopOK_at (id := 3) (L := l_toDeedS_l3_L) (by kernel_rfl) (by kernel_rfl) l_toDeedS_l3_ok)
 refine (contract_of (F := l_toDeedS_I) tau_tys l_toDeedS_env Try.func22 (by kernel_rfl) (by kernel_rfl) (by kernel_rfl) hl []).weaken ?_
 rintro ⟨av, rs⟩ co h
 have h : (l_toDeedS_G av rs).run some = some co := h
 obtain ⟨a0_, av0, rfl, h_0⟩ := asCons_spec h
 obtain ⟨rfl, h_1⟩ := asEnd_spec h_0
 obtain ⟨rfl, h_2⟩ := asEnd_spec h_1
 obtain ⟨z2, d1, rfl, h_3⟩ := asImm_spec h_2
 exact fin_opt (l_toDeedS_eq z2 d1) (l_toDeedS_spec d1) h_3
end Go.Proofs.Ytohnlghdhbignaa

namespace Go.Proofs.Ytohnlghdhbignaa
open Go Go.Abs Go.Proofs
noncomputable def s_l00In (p0 : Int) (p1 : Int) (p2 : Int) : Tre Bool :=
 .cond (decide (p0 ≥ p1))
  (.ret (decide (p0 ≤ p2)))
  (.ret false)
noncomputable def s_l00In_F (p0 : Int) (p1 : Int) (p2 : Int) : Option Bool := (s_l00In p0 p1 p2).run some
theorem s_l00In_spec (n a b : Int) : s_l00In_F n a b = some (inR n a b) := by
 unfold s_l00In_F s_l00In inR
 by_cases h : a ≤ n
 ·simp [Tre.run_cond, Tre.run_ret, h]
 ·simp [Tre.run_cond, Tre.run_ret, h]
noncomputable def s_l00In_V : Env := ⟨tau, [], []⟩
noncomputable def s_l00In_b : Code := (Try.f80.body).getD .skip
noncomputable def s_l00In_I : FnI := ⟨s_l00In_b, Try.f80.results.toList, Try.f80.resultTypes.toList, []⟩
noncomputable def s_l00In_out (_p0 : Int) (_p1 : Int) (_p2 : Int) : Bool → CallOut := fun r => ⟨(.imm true .bool r), [], []⟩
set_option maxRecDepth 100000 in
theorem s_l00In_eq : ∀ (p0 : Int) (p1 : Int) (p2 : Int), denFn s_l00In_V s_l00In_I ⟨[(.imm true (.int .i64) p0), (.imm true (.int .i64) p1), (.imm true (.int .i64) p2)], []⟩ = (s_l00In p0 p1 p2).run fun r => some (s_l00In_out p0 p1 p2 r) := fun _ _ _ => by kernel_rfl
noncomputable def s_l00In_G (av : List AV) (rs : List Root) : Tre CallOut :=
 asCons av fun a0_ av0 =>
 asCons av0 fun a1_ av1 =>
 asCons av1 fun a2_ av2 =>
 asEnd av2 <|
 asEnd rs <|
 asImmZ true (.int .i64) a0_ fun d1 =>
 asImmZ true (.int .i64) a1_ fun d2 =>
 asImmZ true (.int .i64) a2_ fun d3 =>
 .ret (s_l00In_out d1 d2 d3 (inR d1 d2 d3))
noncomputable def s_l00In_c : Ctr := ⟨[], fun ci => s_l00In_G ci.args ci.roots, false⟩
theorem s_l00In_env : EnvOK Try.prog s_l00In_V := envOK_nil
set_option maxRecDepth 100000 in
theorem s_l00In_ok : Contract Try.prog 80 s_l00In_c := by
 have hl : LoopsOK s_l00In_V [] s_l00In_b := loopsOK_nil (by kernel_rfl)
 refine (contract_of (F := s_l00In_I) tau_tys s_l00In_env Try.func80 (by kernel_rfl) (by kernel_rfl) (by kernel_rfl) hl []).weaken ?_
 rintro ⟨av, rs⟩ co h
 have h : (s_l00In_G av rs).run some = some co := h
 obtain ⟨a0_, av0, rfl, h_0⟩ := asCons_spec h
 obtain ⟨a1_, av1, rfl, h_1⟩ := asCons_spec h_0
 obtain ⟨a2_, av2, rfl, h_2⟩ := asCons_spec h_1
 obtain ⟨rfl, h_3⟩ := asEnd_spec h_2
 obtain ⟨rfl, h_4⟩ := asEnd_spec h_3
 obtain ⟨d1, rfl, h_5⟩ := asImmZ_spec h_4
 obtain ⟨d2, rfl, h_6⟩ := asImmZ_spec h_5
 obtain ⟨d3, rfl, h_7⟩ := asImmZ_spec h_6
 exact fin_ret (s_l00In_eq d1 d2 d3) (s_l00In_spec d1 d2 d3) h_7
end Go.Proofs.Ytohnlghdhbignaa

namespace Go.Proofs.Ytohnlghdhbignaa
open Go Go.Abs Go.Proofs
noncomputable def s_l08Ok_9aa7_l4 (h4_0_1 : TGather) : Int → Tre (Int ⊕ (Bool ⊕ Unit)) := fun s4 =>
 .cond (decide (s4 < (h4_0_1.2.2.1.length : Int)))
  (.ite (0 ≤ s4 ∧ s4 < (h4_0_1.2.2.1.length : Int)) <|
  .mat (h4_0_1.2.2.1[s4.toNat]?) fun x1 =>
  .ite (0 ≤ iwrap .u64 h4_0_1.2.1) <|
  let v2 := ishl .i64 1 (iwrap .u64 h4_0_1.2.1)
  let v3 := inR x1 0 (iwrap .i64 (v2 - 1))
  .cond (!v3)
   (.ret (.inr (.inl false)))
   (.ret (.inl (iwrap .i64 (s4 + 1)))))
  (.ret (.inr (.inr ())))
noncomputable def s_l08Ok_9aa7 (p0 : TGather) : Tre Bool :=
 .cond (!(inR p0.1 1 4))
  (.ret false)
  (.cond (!(inR p0.2.1 1 6))
   (.ret false)
   (.cond (!decide ((p0.2.2.1.length : Int) = p0.1))
    (.ret false)
    (.mat (loopF (s_l08Ok_9aa7_l4 p0) 0) fun l4 =>
    .alt l4
     (fun a5 =>
      .ret a5)
     (fun _ =>
      .cond (inR p0.2.2.2.1 0 3)
       (.ret (inR p0.2.2.2.2.1 1 3))
       (.ret false)))))
noncomputable def s_l08Ok_9aa7_F (p0 : TGather) : Option Bool := (s_l08Ok_9aa7 p0).run some
def isG (p : Int × Int × List Int × Int × Int × Unit) : Bool := inR p.1 1 4 && inR p.2.1 1 6 && decide ((p.2.2.1.length : Int) = p.1) && p.2.2.1.all (inP p.2.1) && inR p.2.2.2.1 0 3 && inR p.2.2.2.2.1 1 3
def okG (p : Int × Int × List Int × Int × Int × Unit) : Option Bool := lim p.2.2.1.length (isG p)
theorem s_l08Ok_9aa7_l4_all (p0 : Int × Int × List Int × Int × Int × Unit) (h : inR p0.2.1 1 6 = true) (hl : p0.2.2.1.length ≤ 1048576) : loopF (s_l08Ok_9aa7_l4 p0) 0 = some (cond (p0.2.2.1.all (inP p0.2.1)) (.inr ()) (.inl false)) := by
 rw [inR_iff] at h
 have hw : iwrap .u64 p0.2.1 = p0.2.1 := iwrap_u64 (by omega) (by omega)
 rw [find_loop (xs := p0.2.2.1) (fun _ x => cond (inP p0.2.1 x) none (some (.inl false))) (.inr ()), findE_all]
 ·intro i x hx
  have hi : i < p0.2.2.1.length := (List.getElem?_eq_some_iff.1 hx).1
  unfold s_l08Ok_9aa7_l4
  rw [run_inb hx, hw, Tre.run_ite, if_pos (by omega), Tre.run_cond]
  show cond (!inP p0.2.1 x) _ _ = _
  cases inP p0.2.1 x
  ·rfl
  ·simp only [Bool.not_true, cond_false, cond_true, Tre.run_ret, iwrap_succ (show i < 4611686018427387904 by omega)]
 ·unfold s_l08Ok_9aa7_l4
  exact run_out
theorem s_l08Ok_9aa7_spec (p0 : Int × Int × List Int × Int × Int × Unit) (y : Bool) (h : okG p0 = some y) : s_l08Ok_9aa7_F p0 = some y := by
 obtain ⟨hl, rfl⟩ := lim_some h
 unfold s_l08Ok_9aa7_F s_l08Ok_9aa7 isG
 simp only [Tre.run_cond, Tre.run_mat, Tre.run_ret]
 cases h1 : inR p0.1 1 4
 ·rfl
 cases h2 : inR p0.2.1 1 6
 ·rfl
 cases h3 : decide ((p0.2.2.1.length : Int) = p0.1)
 ·rfl
 simp only [Bool.not_true, cond_false, Bool.true_and]
 rw [s_l08Ok_9aa7_l4_all p0 h2 hl, Option.bind_some]
 cases p0.2.2.1.all (inP p0.2.1)
 ·rfl
 cases h4 : inR p0.2.2.2.1 0 3
 ·simp [Tre.run_inr, Tre.run_cond, Tre.run_ret, h4]
 ·simp [Tre.run_inr, Tre.run_cond, Tre.run_ret, h4]
noncomputable def s_l08Ok_9aa7_V : Env := ⟨tau, [(80, s_l00In_c)], []⟩
noncomputable def s_l08Ok_9aa7_b : Code := (Try.f77.body).getD .skip
noncomputable def s_l08Ok_9aa7_l4_mk (z4_0 : Bool) (h4_0_1 : TGather) : Int → St := fun x => stOf [(0, (.ptr (0, 0) [])), (3, (.imm true (.int .i64) x))] [((0, 0), some ⟨true, kGather, (.imm z4_0), h4_0_1⟩)]
noncomputable def s_l08Ok_9aa7_l4_out (z4_0 : Bool) (h4_0_1 : TGather) : (Bool ⊕ Unit) → Ex × St
 | .inl x => (.ret, stOf [(0, (.ptr (0, 0) [])), (2, (.imm true .bool x))] [((0, 0), some ⟨true, kGather, (.imm z4_0), h4_0_1⟩)])
 | .inr x => (.exit 0, stOf [(0, (.ptr (0, 0) [])), (2, .dead)] [((0, 0), some ⟨true, kGather, (.imm z4_0), h4_0_1⟩)])
noncomputable def s_l08Ok_9aa7_l4_D (s : St) : Tre (Ex × St) :=
 asPtr (0, 0) [] (s.tmps 0) <|
 asImmZ true (.int .i64) (s.tmps 3) fun d3 =>
 asRoot true kGather (s.roots (0, 0)) fun m5 d6 =>
 asMImm m5 fun z7 =>
 .mat (loopF (s_l08Ok_9aa7_l4 d6) d3) fun x => .alt x (fun a0 => .ret (s_l08Ok_9aa7_l4_out z7 d6 (.inl a0))) (fun b0 => .ret (s_l08Ok_9aa7_l4_out z7 d6 (.inr b0)))
noncomputable def s_l08Ok_9aa7_l4_L : LoopI := ⟨([0, 3], [(0, 0)]), ([0, 2], [(0, 0)]), s_l08Ok_9aa7_l4_D⟩
noncomputable def s_l08Ok_9aa7_A : List (Nat × LoopI) := [(4, s_l08Ok_9aa7_l4_L)]
set_option maxRecDepth 100000 in
theorem s_l08Ok_9aa7_l4_step : ∀ (z4_0 : Bool) (h4_0_1 : TGather) (x : Int) (c : St → Option (Ex × St)), den s_l08Ok_9aa7_V s_l08Ok_9aa7_A (loopAt s_l08Ok_9aa7_b 0) (s_l08Ok_9aa7_l4_mk z4_0 h4_0_1 x) (roundK s_l08Ok_9aa7_l4_L.kp s_l08Ok_9aa7_l4_L.kx c) = (s_l08Ok_9aa7_l4 h4_0_1 x).run (roundR (s_l08Ok_9aa7_l4_mk z4_0 h4_0_1) (s_l08Ok_9aa7_l4_out z4_0 h4_0_1) c) := fun _ _ _ _ => by
 kernel_rfl
theorem s_l08Ok_9aa7_l4_ok : LoopOK s_l08Ok_9aa7_V s_l08Ok_9aa7_A (loopAt s_l08Ok_9aa7_b 0) s_l08Ok_9aa7_l4_L := loopOK_of fun s e s' h => by
 generalize hs : restrict s_l08Ok_9aa7_l4_L.kp s = s1 at h
 have h : (s_l08Ok_9aa7_l4_D s1).run some = some (e, s') := h
 obtain ⟨e1, h_0⟩ := asPtr_spec h
 obtain ⟨d3, e2, h_1⟩ := asImmZ_spec h_0
 obtain ⟨m5, d6, e4, h_2⟩ := asRoot_spec h_1
 obtain ⟨z7, rfl, h_3⟩ := asMImm_spec h_2
 obtain ⟨y, hy, hz⟩ := mat_some h_3
 refine ⟨_, _, s_l08Ok_9aa7_l4_mk z7 d6, s_l08Ok_9aa7_l4_out z7 d6, s_l08Ok_9aa7_l4 d6, d3, y, ?_, hy, ?_, s_l08Ok_9aa7_l4_step z7 d6⟩
 ·subst hs; exact restrict_eq (T := [(0, (.ptr (0, 0) [])), (3, (.imm true (.int .i64) d3))]) (U := [((0, 0), some ⟨true, kGather, (.imm z7), d6⟩)]) rfl rfl ⟨e1, e2, trivial⟩ ⟨e4, trivial⟩
 ·rcases y with x | x <;> exact Option.some.inj hz
noncomputable def s_l08Ok_9aa7_I : FnI := ⟨s_l08Ok_9aa7_b, Try.f77.results.toList, Try.f77.resultTypes.toList, s_l08Ok_9aa7_A⟩
noncomputable def s_l08Ok_9aa7_out (zp0 : Bool) (p0 : TGather) : Bool → CallOut := fun r => ⟨(.imm true .bool r), [⟨true, kGather, (.imm zp0), p0⟩], []⟩
set_option maxRecDepth 100000 in
theorem s_l08Ok_9aa7_eq : ∀ (zp0 : Bool) (p0 : TGather), denFn s_l08Ok_9aa7_V s_l08Ok_9aa7_I ⟨[(.ptr (0, 0) [])], [⟨true, kGather, (.imm zp0), p0⟩]⟩ = (s_l08Ok_9aa7 p0).run fun r => some (s_l08Ok_9aa7_out zp0 p0 r) := fun _ _ => by kernel_rfl
noncomputable def s_l08Ok_9aa7_G (av : List AV) (rs : List Root) : Tre CallOut :=
 asCons av fun a0_ av0 =>
 asEnd av0 <|
 asCons rs fun r0_ rs0 =>
 asEnd rs0 <|
 asPtr (0, 0) [] a0_ <|
 asRt true kGather r0_ fun m1 d2 =>
 asMImm m1 fun z3 =>
 .mat (okG d2) fun r => .ret (s_l08Ok_9aa7_out z3 d2 r)
noncomputable def s_l08Ok_9aa7_c : Ctr := ⟨[], fun ci => s_l08Ok_9aa7_G ci.args ci.roots, false⟩
theorem s_l08Ok_9aa7_env : EnvOK Try.prog s_l08Ok_9aa7_V := (envOK_cons s_l00In_ok ent80 envOK_nil)
set_option maxRecDepth 100000 in
theorem s_l08Ok_9aa7_ok : Contract Try.prog 77 s_l08Ok_9aa7_c := by
 have hl : LoopsOK s_l08Ok_9aa7_V s_l08Ok_9aa7_A s_l08Ok_9aa7_b := (loopsOK_all (n := 1) (by kernel_rfl) fun k hk => by
   match k, hk with
   | 0, _ => exact loopOK_at (id := 4) (L := s_l08Ok_9aa7_l4_L) (by kernel_rfl) (by kernel_rfl) s_l08Ok_9aa7_l4_ok)
 refine (contract_of (F := s_l08Ok_9aa7_I) tau_tys s_l08Ok_9aa7_env Try.func77 (by kernel_rfl) (by kernel_rfl) (by kernel_rfl) hl []).weaken ?_
 rintro ⟨av, rs⟩ co h
 have h : (s_l08Ok_9aa7_G av rs).run some = some co := h
 obtain ⟨a0_, av0, rfl, h_0⟩ := asCons_spec h
 obtain ⟨rfl, h_1⟩ := asEnd_spec h_0
 obtain ⟨r0_, rs0, rfl, h_2⟩ := asCons_spec h_1
 obtain ⟨rfl, h_3⟩ := asEnd_spec h_2
 obtain ⟨rfl, h_4⟩ := asPtr_spec h_3
 obtain ⟨m1, d2, rfl, h_5⟩ := asRt_spec h_4
 obtain ⟨z3, rfl, h_6⟩ := asMImm_spec h_5
 exact fin_opt (s_l08Ok_9aa7_eq z3 d2) (s_l08Ok_9aa7_spec d2) h_6
end Go.Proofs.Ytohnlghdhbignaa

namespace Go.Proofs.Ytohnlghdhbignaa
open Go Go.Abs Go.Proofs
noncomputable def s_l08Words : Tre ((List ByteArray) × (List Int)) :=
 .ret ([(⟨#[]⟩ : ByteArray), (⟨#[115, 101, 110, 100]⟩ : ByteArray), (⟨#[100, 101, 108, 105, 118, 101, 114]⟩ : ByteArray), (⟨#[99, 111, 112, 121]⟩ : ByteArray), (⟨#[100, 114, 111, 112]⟩ : ByteArray), (⟨#[115, 112, 111, 105, 108]⟩ : ByteArray), (⟨#[115, 97, 118, 101]⟩ : ByteArray), (⟨#[99, 114, 97, 115, 104]⟩ : ByteArray), (⟨#[102, 111, 114, 103, 101, 116]⟩ : ByteArray)], [0, 3, 1, 1, 1, 2, 1, 1, 1])
noncomputable def s_l08Words_F : Option ((List ByteArray) × (List Int)) := (s_l08Words).run some
def s_l08Words_S : ((List ByteArray) × (List Int)) :=
 ([(⟨#[]⟩ : ByteArray), (⟨#[115, 101, 110, 100]⟩ : ByteArray), (⟨#[100, 101, 108, 105, 118, 101, 114]⟩ : ByteArray), (⟨#[99, 111, 112, 121]⟩ : ByteArray), (⟨#[100, 114, 111, 112]⟩ : ByteArray), (⟨#[115, 112, 111, 105, 108]⟩ : ByteArray), (⟨#[115, 97, 118, 101]⟩ : ByteArray), (⟨#[99, 114, 97, 115, 104]⟩ : ByteArray), (⟨#[102, 111, 114, 103, 101, 116]⟩ : ByteArray)], [0, 3, 1, 1, 1, 2, 1, 1, 1])
theorem s_l08Words_spec : s_l08Words_F = some s_l08Words_S := rfl
noncomputable def s_l08Words_V : Env := ⟨tau, [], []⟩
noncomputable def s_l08Words_b : Code := (Try.f107.body).getD .skip
noncomputable def s_l08Words_I : FnI := ⟨s_l08Words_b, Try.f107.results.toList, Try.f107.resultTypes.toList, []⟩
noncomputable def s_l08Words_out : ((List ByteArray) × (List Int)) → CallOut := fun r => ⟨(.tcons (.ref (1, 0) []) (.tcons (.ref (1, 1) []) .tnil)), [], [⟨false, (.sl .str), .own, r.1⟩, ⟨false, (.sl (.int .i64)), .own, r.2⟩]⟩
set_option maxRecDepth 100000 in
theorem s_l08Words_eq : denFn s_l08Words_V s_l08Words_I ⟨[], []⟩ = (s_l08Words).run fun r => some (s_l08Words_out r) := by kernel_rfl
noncomputable def s_l08Words_G (av : List AV) (rs : List Root) : Tre CallOut :=
 asEnd av <|
 asEnd rs <|
 .ret (s_l08Words_out s_l08Words_S)
noncomputable def s_l08Words_c : Ctr := ⟨[], fun ci => s_l08Words_G ci.args ci.roots, false⟩
theorem s_l08Words_env : EnvOK Try.prog s_l08Words_V := envOK_nil
set_option maxRecDepth 100000 in
theorem s_l08Words_ok : Contract Try.prog 107 s_l08Words_c := by
 have hl : LoopsOK s_l08Words_V [] s_l08Words_b := loopsOK_nil (by kernel_rfl)
 refine (contract_of (F := s_l08Words_I) tau_tys s_l08Words_env Try.func107 (by kernel_rfl) (by kernel_rfl) (by kernel_rfl) hl []).weaken ?_
 rintro ⟨av, rs⟩ co h
 have h : (s_l08Words_G av rs).run some = some co := h
 obtain ⟨rfl, h_0⟩ := asEnd_spec h
 obtain ⟨rfl, h_1⟩ := asEnd_spec h_0
 exact fin_ret (s_l08Words_eq) (s_l08Words_spec) h_1
end Go.Proofs.Ytohnlghdhbignaa

namespace Go.Proofs.Ytohnlghdhbignaa
open Go Go.Abs Go.Proofs
noncomputable def s_l08Deed (p0 : TDeed) : Tre Bool :=
 .cond (!(inR p0.1 1 8))
  (.ret false)
  (.cond (!(inR p0.2.1 0 9999))
   (.ret false)
   (.cond (!(inR p0.2.2.1 0 9999))
    (.ret false)
    (.cond (!(inR p0.2.2.2.1 0 9999))
     (.ret false)
     (.ite (0 ≤ p0.1 ∧ p0.1 < (s_l08Words_S.2.length : Int)) <|
     .mat (s_l08Words_S.2[p0.1.toNat]?) fun x1 =>
     .cond (decide (x1 > 1))
      (.ite (0 ≤ p0.1 ∧ p0.1 < (s_l08Words_S.2.length : Int)) <|
      .mat (s_l08Words_S.2[p0.1.toNat]?) fun x2 =>
      .cond (decide (x2 > 2))
       (.ret true)
       (.ret (decide (p0.2.2.2.1 = 0))))
      (.cond (decide (p0.2.2.1 = 0))
       (.ite (0 ≤ p0.1 ∧ p0.1 < (s_l08Words_S.2.length : Int)) <|
       .mat (s_l08Words_S.2[p0.1.toNat]?) fun x3 =>
       .cond (decide (x3 > 2))
        (.ret true)
        (.ret (decide (p0.2.2.2.1 = 0))))
       (.ret false))))))
noncomputable def s_l08Deed_F (p0 : TDeed) : Option Bool := (s_l08Deed p0).run some
def vDeed (p : Int × Int × Int × Int × Unit) : Bool :=
 inR p.1 1 8 && inR p.2.1 0 9999 && inR p.2.2.1 0 9999 && inR p.2.2.2.1 0 9999 &&
  (decide (p.1 = 1) || decide (p.1 = 5) || decide (p.2.2.1 = 0)) && (decide (p.1 = 1) || decide (p.2.2.2.1 = 0))
theorem kind_cases {k : Int} (h : inR k 1 8 = true) : k = 1 ∨ k = 2 ∨ k = 3 ∨ k = 4 ∨ k = 5 ∨ k = 6 ∨ k = 7 ∨ k = 8 := by
 rw [inR_iff] at h
 omega
theorem s_l08Deed_spec (p0 : Int × Int × Int × Int × Unit) : s_l08Deed_F p0 = some (vDeed p0) := by
 obtain ⟨k, a, b, c, ⟨⟩⟩ := p0
 unfold s_l08Deed_F s_l08Deed vDeed
 simp only [Tre.run_cond, Tre.run_ret, Tre.run_ite, Tre.run_mat]
 cases h1 : inR k 1 8 <;> simp only [Bool.not_true, Bool.not_false, cond_true, cond_false, Bool.false_and, Bool.true_and]
 cases h2 : inR a 0 9999 <;> simp only [Bool.not_true, Bool.not_false, cond_true, cond_false, Bool.false_and, Bool.true_and]
 cases h3 : inR b 0 9999 <;> simp only [Bool.not_true, Bool.not_false, cond_true, cond_false, Bool.false_and, Bool.true_and]
 cases h4 : inR c 0 9999 <;> simp only [Bool.not_true, Bool.not_false, cond_true, cond_false, Bool.false_and, Bool.true_and]
 rcases kind_cases h1 with rfl | rfl | rfl | rfl | rfl | rfl | rfl | rfl <;> (simp [s_l08Words_S]; try (by_cases hb : b = 0 <;> simp [hb]))
noncomputable def s_l08Deed_V : Env := ⟨tau, [(80, s_l00In_c), (107, s_l08Words_c)], []⟩
noncomputable def s_l08Deed_b : Code := (Try.f78.body).getD .skip
noncomputable def s_l08Deed_I : FnI := ⟨s_l08Deed_b, Try.f78.results.toList, Try.f78.resultTypes.toList, []⟩
noncomputable def s_l08Deed_out (_p0 : TDeed) : Bool → CallOut := fun r => ⟨(.imm true .bool r), [], []⟩
set_option maxRecDepth 100000 in
theorem s_l08Deed_eq : ∀ (p0 : TDeed), denFn s_l08Deed_V s_l08Deed_I ⟨[(.imm true kDeed p0)], []⟩ = (s_l08Deed p0).run fun r => some (s_l08Deed_out p0 r) := fun _ => by kernel_rfl
noncomputable def s_l08Deed_G (av : List AV) (rs : List Root) : Tre CallOut :=
 asCons av fun a0_ av0 =>
 asEnd av0 <|
 asEnd rs <|
 asImmZ true kDeed a0_ fun d1 =>
 .ret (s_l08Deed_out d1 (vDeed d1))
noncomputable def s_l08Deed_c : Ctr := ⟨[], fun ci => s_l08Deed_G ci.args ci.roots, false⟩
theorem s_l08Deed_env : EnvOK Try.prog s_l08Deed_V := (envOK_cons s_l00In_ok ent80 (envOK_cons s_l08Words_ok ent107 envOK_nil))
set_option maxRecDepth 100000 in
theorem s_l08Deed_ok : Contract Try.prog 78 s_l08Deed_c := by
 have hl : LoopsOK s_l08Deed_V [] s_l08Deed_b := loopsOK_nil (by kernel_rfl)
 refine (contract_of (F := s_l08Deed_I) tau_tys s_l08Deed_env Try.func78 (by kernel_rfl) (by kernel_rfl) (by kernel_rfl) hl []).weaken ?_
 rintro ⟨av, rs⟩ co h
 have h : (s_l08Deed_G av rs).run some = some co := h
 obtain ⟨a0_, av0, rfl, h_0⟩ := asCons_spec h
 obtain ⟨rfl, h_1⟩ := asEnd_spec h_0
 obtain ⟨rfl, h_2⟩ := asEnd_spec h_1
 obtain ⟨d1, rfl, h_3⟩ := asImmZ_spec h_2
 exact fin_ret (s_l08Deed_eq d1) (s_l08Deed_spec d1) h_3
end Go.Proofs.Ytohnlghdhbignaa

namespace Go.Proofs.Ytohnlghdhbignaa
open Go Go.Abs Go.Proofs
noncomputable def s_l08Source_9aa7_l3 (h3_0_1 : TGather) : (Int × (List Int)) → Tre ((Int × (List Int)) ⊕ (List Int)) := fun s3 =>
 .cond (decide (s3.1 < (h3_0_1.2.2.1.length : Int)))
  (.ite (0 ≤ iwrap .u64 s3.1) <|
  let v1 := ishl .i64 1 (iwrap .u64 s3.1)
  .ite (0 ≤ s3.1 ∧ s3.1 < (h3_0_1.2.2.1.length : Int)) <|
  .mat (h3_0_1.2.2.1[s3.1.toNat]?) fun x2 =>
  .ite (0 ≤ iwrap .u64 h3_0_1.1) <|
  let v3 := ishl .i64 x2 (iwrap .u64 h3_0_1.1)
  .ite ((s3.2.length + 1) * 8 ≤ appendMax ∧ 1 ≤ 8) <|
  let v4 := s3.2 ++ ([ior .i64 v1 v3])
  .ret (.inl (iwrap .i64 (s3.1 + 1), v4)))
  (.ret (.inr s3.2))
noncomputable def s_l08Source_9aa7 (p0 : TGather) : Tre (List Int) :=
 .mat (loopF (s_l08Source_9aa7_l3 p0) (0, [])) fun l5 =>
 .ret l5
noncomputable def s_l08Source_9aa7_F (p0 : TGather) : Option (List Int) := (s_l08Source_9aa7 p0).run some
def srcL (g : Int × Int × List Int × Int × Int × Unit) : List Int := foldE (β := List Int) (fun (i : Nat) acc x => .inl (acc ++ [ior .i64 (ishl .i64 1 (i : Int)) (ishl .i64 x g.1)])) id 0 [] g.2.2.1
def srcR (g : Int × Int × List Int × Int × Int × Unit) : Option (List Int) := askO (inR g.1 0 1048576 && decide (g.2.2.1.length ≤ 1048576)) (srcL g)
theorem s_l08Source_9aa7_spec (p0 : Int × Int × List Int × Int × Int × Unit) (y : List Int) (h : srcR p0 = some y) : s_l08Source_9aa7_F p0 = some y := by
 obtain ⟨hok, rfl⟩ := askO_some h
 simp only [Bool.and_eq_true, decide_eq_true_eq, inR_iff] at hok
 obtain ⟨hk, hl⟩ := hok
 unfold s_l08Source_9aa7_F s_l08Source_9aa7
 have hu : iwrap .u64 p0.1 = p0.1 := iwrap_u64 (by omega) (by omega)
 have := fold_loop (xs := p0.2.2.1) (step := s_l08Source_9aa7_l3 p0) (fun i acc => ((i : Int), acc)) (fun i acc x => .inl (acc ++ [ior .i64 (ishl .i64 1 (i : Int)) (ishl .i64 x p0.1)])) id (fun i acc => acc.length = i) (by
  intro i acc x hx hI
  have hi : i < p0.2.2.1.length := (List.getElem?_eq_some_iff.1 hx).1
  refine ⟨?_, fun a ha => by cases ha; simp [hI]⟩
  unfold s_l08Source_9aa7_l3
  have hui : iwrap .u64 (i : Int) = (i : Int) := iwrap_u64 (by omega) (by omega)
  rw [Tre.run_cond]
  show cond (decide ((i : Int) < (p0.2.2.1.length : Int))) _ _ = _
  rw [show decide ((i : Int) < (p0.2.2.1.length : Int)) = true from by simpa using hi, cond_true]
  dsimp only
  rw [hui, hu, Tre.run_ite, if_pos (by omega), run_at hx, Tre.run_ite, if_pos (by omega), Tre.run_ite, if_pos (by unfold appendMax; omega), Tre.run_ret, iwrap_succ (by omega)])
  (by
  intro acc _
  unfold s_l08Source_9aa7_l3
  exact run_out) p0.2.2.1 0 [] rfl (Nat.zero_le _) rfl
 have h1 : loopF (s_l08Source_9aa7_l3 p0) (0, []) = some (srcL p0) := this
 rw [run_some_mat h1]
 rfl
noncomputable def s_l08Source_9aa7_V : Env := ⟨tau, [], []⟩
noncomputable def s_l08Source_9aa7_b : Code := (Try.f94.body).getD .skip
noncomputable def s_l08Source_9aa7_l3_mk (z3_0 : Bool) (h3_0_1 : TGather) : (Int × (List Int)) → St := fun x => stOf [(0, (.ptr (0, 0) [])), (3, (.ref (5, 0) [])), (4, (.imm true (.int .i64) x.1))] [((0, 0), some ⟨true, kGather, (.imm z3_0), h3_0_1⟩), ((5, 0), some ⟨false, (.sl (.int .i64)), .own, x.2⟩)]
noncomputable def s_l08Source_9aa7_l3_out (z3_0 : Bool) (h3_0_1 : TGather) : (List Int) → Ex × St := fun x => (.exit 0, stOf [(3, (.ref (5, 0) []))] [((0, 0), some ⟨true, kGather, (.imm z3_0), h3_0_1⟩), ((5, 0), some ⟨false, (.sl (.int .i64)), .own, x⟩)])
noncomputable def s_l08Source_9aa7_l3_D (s : St) : Tre (Ex × St) :=
 asPtr (0, 0) [] (s.tmps 0) <|
 asRef (5, 0) [] (s.tmps 3) <|
 asImmZ true (.int .i64) (s.tmps 4) fun d4 =>
 asRoot true kGather (s.roots (0, 0)) fun m6 d7 =>
 asMImm m6 fun z8 =>
 asRoot false (.sl (.int .i64)) (s.roots (5, 0)) fun m10 d11 =>
 asM .own m10 <|
 .mat (loopF (s_l08Source_9aa7_l3 d7) (d4, d11)) fun x => .ret (s_l08Source_9aa7_l3_out z8 d7 x)
noncomputable def s_l08Source_9aa7_l3_L : LoopI := ⟨([0, 3, 4], [(0, 0), (5, 0)]), ([3], [(0, 0), (5, 0)]), s_l08Source_9aa7_l3_D⟩
noncomputable def s_l08Source_9aa7_A : List (Nat × LoopI) := [(3, s_l08Source_9aa7_l3_L)]
set_option maxRecDepth 100000 in
theorem s_l08Source_9aa7_l3_step : ∀ (z3_0 : Bool) (h3_0_1 : TGather) (x : (Int × (List Int))) (c : St → Option (Ex × St)), den s_l08Source_9aa7_V s_l08Source_9aa7_A (loopAt s_l08Source_9aa7_b 0) (s_l08Source_9aa7_l3_mk z3_0 h3_0_1 x) (roundK s_l08Source_9aa7_l3_L.kp s_l08Source_9aa7_l3_L.kx c) = (s_l08Source_9aa7_l3 h3_0_1 x).run (roundR (s_l08Source_9aa7_l3_mk z3_0 h3_0_1) (s_l08Source_9aa7_l3_out z3_0 h3_0_1) c) := fun _ _ _ _ => by
 kernel_rfl
theorem s_l08Source_9aa7_l3_ok : LoopOK s_l08Source_9aa7_V s_l08Source_9aa7_A (loopAt s_l08Source_9aa7_b 0) s_l08Source_9aa7_l3_L := loopOK_of fun s e s' h => by
 generalize hs : restrict s_l08Source_9aa7_l3_L.kp s = s1 at h
 have h : (s_l08Source_9aa7_l3_D s1).run some = some (e, s') := h
 obtain ⟨e1, h_0⟩ := asPtr_spec h
 obtain ⟨e2, h_1⟩ := asRef_spec h_0
 obtain ⟨d4, e3, h_2⟩ := asImmZ_spec h_1
 obtain ⟨m6, d7, e5, h_3⟩ := asRoot_spec h_2
 obtain ⟨z8, rfl, h_4⟩ := asMImm_spec h_3
 obtain ⟨m10, d11, e9, h_5⟩ := asRoot_spec h_4
 obtain ⟨rfl, h_6⟩ := asM_spec h_5
 obtain ⟨y, hy, hz⟩ := mat_ret h_6
 refine ⟨_, _, s_l08Source_9aa7_l3_mk z8 d7, s_l08Source_9aa7_l3_out z8 d7, s_l08Source_9aa7_l3 d7, (d4, d11), y, ?_, hy, ?_, s_l08Source_9aa7_l3_step z8 d7⟩
 ·subst hs; exact restrict_eq (T := [(0, (.ptr (0, 0) [])), (3, (.ref (5, 0) [])), (4, (.imm true (.int .i64) d4))]) (U := [((0, 0), some ⟨true, kGather, (.imm z8), d7⟩), ((5, 0), some ⟨false, (.sl (.int .i64)), .own, d11⟩)]) rfl rfl ⟨e1, e2, e3, trivial⟩ ⟨e5, e9, trivial⟩
 ·exact Option.some.inj hz
noncomputable def s_l08Source_9aa7_I : FnI := ⟨s_l08Source_9aa7_b, Try.f94.results.toList, Try.f94.resultTypes.toList, s_l08Source_9aa7_A⟩
noncomputable def s_l08Source_9aa7_out (zp0 : Bool) (p0 : TGather) : (List Int) → CallOut := fun r => ⟨(.ref (1, 0) []), [⟨true, kGather, (.imm zp0), p0⟩], [⟨false, (.sl (.int .i64)), .own, r⟩]⟩
set_option maxRecDepth 100000 in
theorem s_l08Source_9aa7_eq : ∀ (zp0 : Bool) (p0 : TGather), denFn s_l08Source_9aa7_V s_l08Source_9aa7_I ⟨[(.ptr (0, 0) [])], [⟨true, kGather, (.imm zp0), p0⟩]⟩ = (s_l08Source_9aa7 p0).run fun r => some (s_l08Source_9aa7_out zp0 p0 r) := fun _ _ => by kernel_rfl
noncomputable def s_l08Source_9aa7_G (av : List AV) (rs : List Root) : Tre CallOut :=
 asCons av fun a0_ av0 =>
 asEnd av0 <|
 asCons rs fun r0_ rs0 =>
 asEnd rs0 <|
 asPtr (0, 0) [] a0_ <|
 asRt true kGather r0_ fun m1 d2 =>
 asMImm m1 fun z3 =>
 .mat (srcR d2) fun r => .ret (s_l08Source_9aa7_out z3 d2 r)
noncomputable def s_l08Source_9aa7_c : Ctr := ⟨[], fun ci => s_l08Source_9aa7_G ci.args ci.roots, false⟩
theorem s_l08Source_9aa7_env : EnvOK Try.prog s_l08Source_9aa7_V := envOK_nil
set_option maxRecDepth 100000 in
theorem s_l08Source_9aa7_ok : Contract Try.prog 94 s_l08Source_9aa7_c := by
 have hl : LoopsOK s_l08Source_9aa7_V s_l08Source_9aa7_A s_l08Source_9aa7_b := (loopsOK_all (n := 1) (by kernel_rfl) fun k hk => by
   match k, hk with
   | 0, _ => exact loopOK_at (id := 3) (L := s_l08Source_9aa7_l3_L) (by kernel_rfl) (by kernel_rfl) s_l08Source_9aa7_l3_ok)
 refine (contract_of (F := s_l08Source_9aa7_I) tau_tys s_l08Source_9aa7_env Try.func94 (by kernel_rfl) (by kernel_rfl) (by kernel_rfl) hl []).weaken ?_
 rintro ⟨av, rs⟩ co h
 have h : (s_l08Source_9aa7_G av rs).run some = some co := h
 obtain ⟨a0_, av0, rfl, h_0⟩ := asCons_spec h
 obtain ⟨rfl, h_1⟩ := asEnd_spec h_0
 obtain ⟨r0_, rs0, rfl, h_2⟩ := asCons_spec h_1
 obtain ⟨rfl, h_3⟩ := asEnd_spec h_2
 obtain ⟨rfl, h_4⟩ := asPtr_spec h_3
 obtain ⟨m1, d2, rfl, h_5⟩ := asRt_spec h_4
 obtain ⟨z3, rfl, h_6⟩ := asMImm_spec h_5
 exact fin_opt (s_l08Source_9aa7_eq z3 d2) (s_l08Source_9aa7_spec d2) h_6
end Go.Proofs.Ytohnlghdhbignaa

namespace Go.Proofs.Ytohnlghdhbignaa
open Go Go.Abs Go.Proofs
noncomputable def s_l02Bit (p0 : Int) (p1 : Int) : Tre Int :=
 .ite (0 ≤ iwrap .u64 p1) <|
 let v1 := ishr .i64 p0 (iwrap .u64 p1)
 .ret (iand .i64 v1 1)
noncomputable def s_l02Bit_F (p0 : Int) (p1 : Int) : Option Int := (s_l02Bit p0 p1).run some
def bitR (x j : Int) : Option Int := askO (inR j 0 9223372036854775807) (iand .i64 (ishr .i64 x j) 1)
theorem s_l02Bit_spec (p0 p1 : Int) (y : Int) (h : bitR p0 p1 = some y) : s_l02Bit_F p0 p1 = some y := by
 obtain ⟨hl, rfl⟩ := askO_some h
 rw [inR_iff] at hl
 unfold s_l02Bit_F s_l02Bit
 rw [iwrap_u64 hl.1 (by omega), Tre.run_ite, if_pos hl.1]
 rfl
theorem bitR_nat {x : Int} {j : Nat} (h : j ≤ 1048576) : bitR x (j : Int) = some (iand .i64 (ishr .i64 x j) 1) := askO_true (by rw [inR_iff]; omega)
noncomputable def s_l02Bit_V : Env := ⟨tau, [], []⟩
noncomputable def s_l02Bit_b : Code := (Try.f147.body).getD .skip
noncomputable def s_l02Bit_I : FnI := ⟨s_l02Bit_b, Try.f147.results.toList, Try.f147.resultTypes.toList, []⟩
noncomputable def s_l02Bit_out (_p0 : Int) (_p1 : Int) : Int → CallOut := fun r => ⟨(.imm true (.int .i64) r), [], []⟩
set_option maxRecDepth 100000 in
theorem s_l02Bit_eq : ∀ (p0 : Int) (p1 : Int), denFn s_l02Bit_V s_l02Bit_I ⟨[(.imm true (.int .i64) p0), (.imm true (.int .i64) p1)], []⟩ = (s_l02Bit p0 p1).run fun r => some (s_l02Bit_out p0 p1 r) := fun _ _ => by kernel_rfl
noncomputable def s_l02Bit_G (av : List AV) (rs : List Root) : Tre CallOut :=
 asCons av fun a0_ av0 =>
 asCons av0 fun a1_ av1 =>
 asEnd av1 <|
 asEnd rs <|
 asImmZ true (.int .i64) a0_ fun d1 =>
 asImmZ true (.int .i64) a1_ fun d2 =>
 .mat (bitR d1 d2) fun r => .ret (s_l02Bit_out d1 d2 r)
noncomputable def s_l02Bit_c : Ctr := ⟨[], fun ci => s_l02Bit_G ci.args ci.roots, false⟩
theorem s_l02Bit_env : EnvOK Try.prog s_l02Bit_V := envOK_nil
set_option maxRecDepth 100000 in
theorem s_l02Bit_ok : Contract Try.prog 147 s_l02Bit_c := by
 have hl : LoopsOK s_l02Bit_V [] s_l02Bit_b := loopsOK_nil (by kernel_rfl)
 refine (contract_of (F := s_l02Bit_I) tau_tys s_l02Bit_env Try.func147 (by kernel_rfl) (by kernel_rfl) (by kernel_rfl) hl []).weaken ?_
 rintro ⟨av, rs⟩ co h
 have h : (s_l02Bit_G av rs).run some = some co := h
 obtain ⟨a0_, av0, rfl, h_0⟩ := asCons_spec h
 obtain ⟨a1_, av1, rfl, h_1⟩ := asCons_spec h_0
 obtain ⟨rfl, h_2⟩ := asEnd_spec h_1
 obtain ⟨rfl, h_3⟩ := asEnd_spec h_2
 obtain ⟨d1, rfl, h_4⟩ := asImmZ_spec h_3
 obtain ⟨d2, rfl, h_5⟩ := asImmZ_spec h_4
 exact fin_opt (s_l02Bit_eq d1 d2) (s_l02Bit_spec d1 d2) h_5
end Go.Proofs.Ytohnlghdhbignaa

namespace Go.Proofs.Ytohnlghdhbignaa
open Go Go.Abs Go.Proofs
noncomputable def s_l02Times_l3 (h3_0_0 : Int) (h3_0_1 : (List Int)) : (Int × Int) → Tre ((Int × Int) ⊕ Int) := fun s3 =>
 .cond (decide (s3.2 < (h3_0_1.length : Int)))
  (.mat (bitR h3_0_0 s3.2) fun r1 =>
  .cond (decide (r1 = 1))
   (.ite (0 ≤ s3.2 ∧ s3.2 < (h3_0_1.length : Int)) <|
   .mat (h3_0_1[s3.2.toNat]?) fun x2 =>
   .ret (.inl (ixor .i64 s3.1 x2, iwrap .i64 (s3.2 + 1))))
   (.ret (.inl (s3.1, iwrap .i64 (s3.2 + 1)))))
  (.ret (.inr s3.1))
noncomputable def s_l02Times (p0 : Int) (p1 : (List Int)) : Tre Int :=
 .mat (loopF (s_l02Times_l3 p0 p1) (0, 0)) fun l3 =>
 .ret l3
noncomputable def s_l02Times_F (p0 : Int) (p1 : (List Int)) : Option Int := (s_l02Times p0 p1).run some
def timesR (a : Int) (xs : List Int) : Option Int := lim xs.length (timesL a xs)
theorem s_l02Times_spec (p0 : Int) (p1 : List Int) (y : Int) (h : timesR p0 p1 = some y) : s_l02Times_F p0 p1 = some y := by
 obtain ⟨hl, rfl⟩ := lim_some h
 unfold s_l02Times_F s_l02Times
 rw [Tre.run_mat]
 have := fold_loop' (xs := p1) (step := s_l02Times_l3 p0 p1) (fun i acc => (acc, (i : Int))) (fun i acc x => .inl (cond (bitAt p0 (i : Int)) (ixor .i64 acc x) acc)) id (by
  intro i acc x hx
  have hi : i < p1.length := (List.getElem?_eq_some_iff.1 hx).1
  unfold s_l02Times_l3
  rw [Tre.run_cond, show decide (((acc, (i : Int)) : Int × Int).2 < (p1.length : Int)) = true from by simpa using hi, cond_true, run_some_mat (bitR_nat (by omega) : bitR p0 (i : Int) = _), Tre.run_cond]
  show cond (bitAt p0 (i : Int)) _ _ = _
  cases bitAt p0 (i : Int)
  ·rw [cond_false, Tre.run_ret, iwrap_succ (by omega)]; rfl
  ·rw [cond_true, run_at hx, Tre.run_ret, iwrap_succ (by omega)]; rfl)
  (by
  intro acc
  unfold s_l02Times_l3
  exact run_out) 0
 rw [show ((0 : Int), (0 : Int)) = (0, ((0 : Nat) : Int)) from rfl, this]
 rfl
noncomputable def s_l02Times_V : Env := ⟨tau, [(147, s_l02Bit_c)], []⟩
noncomputable def s_l02Times_b : Code := (Try.f126.body).getD .skip
noncomputable def s_l02Times_l3_mk (z3_0 : Bool) (h3_0_0 : Int) (h3_0_1 : (List Int)) : (Int × Int) → St := fun x => stOf [(0, (.imm true (.int .i64) h3_0_0)), (1, (.imm z3_0 (.sl (.int .i64)) h3_0_1)), (5, (.imm true (.int .i64) x.1)), (6, (.imm true (.int .i64) x.2))] []
noncomputable def s_l02Times_l3_out (_z3_0 : Bool) (_h3_0_0 : Int) (_h3_0_1 : (List Int)) : Int → Ex × St := fun x => (.exit 0, stOf [(5, (.imm true (.int .i64) x))] [])
noncomputable def s_l02Times_l3_D (s : St) : Tre (Ex × St) :=
 asImmZ true (.int .i64) (s.tmps 0) fun d2 =>
 asImm (.sl (.int .i64)) (s.tmps 1) fun z5 d4 =>
 asImmZ true (.int .i64) (s.tmps 5) fun d7 =>
 asImmZ true (.int .i64) (s.tmps 6) fun d9 =>
 .mat (loopF (s_l02Times_l3 d2 d4) (d7, d9)) fun x => .ret (s_l02Times_l3_out z5 d2 d4 x)
noncomputable def s_l02Times_l3_L : LoopI := ⟨([0, 1, 5, 6], []), ([5], []), s_l02Times_l3_D⟩
noncomputable def s_l02Times_A : List (Nat × LoopI) := [(3, s_l02Times_l3_L)]
set_option maxRecDepth 100000 in
theorem s_l02Times_l3_step : ∀ (z3_0 : Bool) (h3_0_0 : Int) (h3_0_1 : (List Int)) (x : (Int × Int)) (c : St → Option (Ex × St)), den s_l02Times_V s_l02Times_A (loopAt s_l02Times_b 0) (s_l02Times_l3_mk z3_0 h3_0_0 h3_0_1 x) (roundK s_l02Times_l3_L.kp s_l02Times_l3_L.kx c) = (s_l02Times_l3 h3_0_0 h3_0_1 x).run (roundR (s_l02Times_l3_mk z3_0 h3_0_0 h3_0_1) (s_l02Times_l3_out z3_0 h3_0_0 h3_0_1) c) := fun _ _ _ _ _ => by
 kernel_rfl
theorem s_l02Times_l3_ok : LoopOK s_l02Times_V s_l02Times_A (loopAt s_l02Times_b 0) s_l02Times_l3_L := loopOK_of fun s e s' h => by
 generalize hs : restrict s_l02Times_l3_L.kp s = s1 at h
 have h : (s_l02Times_l3_D s1).run some = some (e, s') := h
 obtain ⟨d2, e1, h_0⟩ := asImmZ_spec h
 obtain ⟨z5, d4, e3, h_1⟩ := asImm_spec h_0
 obtain ⟨d7, e6, h_2⟩ := asImmZ_spec h_1
 obtain ⟨d9, e8, h_3⟩ := asImmZ_spec h_2
 obtain ⟨y, hy, hz⟩ := mat_ret h_3
 refine ⟨_, _, s_l02Times_l3_mk z5 d2 d4, s_l02Times_l3_out z5 d2 d4, s_l02Times_l3 d2 d4, (d7, d9), y, ?_, hy, ?_, s_l02Times_l3_step z5 d2 d4⟩
 ·subst hs; exact restrict_eq (T := [(0, (.imm true (.int .i64) d2)), (1, (.imm z5 (.sl (.int .i64)) d4)), (5, (.imm true (.int .i64) d7)), (6, (.imm true (.int .i64) d9))]) (U := []) rfl rfl ⟨e1, e3, e6, e8, trivial⟩ trivial
 ·exact Option.some.inj hz
noncomputable def s_l02Times_I : FnI := ⟨s_l02Times_b, Try.f126.results.toList, Try.f126.resultTypes.toList, s_l02Times_A⟩
noncomputable def s_l02Times_out (_zp0 : Bool) (_p0 : Int) (_p1 : (List Int)) : Int → CallOut := fun r => ⟨(.imm true (.int .i64) r), [], []⟩
set_option maxRecDepth 100000 in
theorem s_l02Times_eq : ∀ (zp0 : Bool) (p0 : Int) (p1 : (List Int)), denFn s_l02Times_V s_l02Times_I ⟨[(.imm true (.int .i64) p0), (.imm zp0 (.sl (.int .i64)) p1)], []⟩ = (s_l02Times p0 p1).run fun r => some (s_l02Times_out zp0 p0 p1 r) := fun _ _ _ => by kernel_rfl
noncomputable def s_l02Times_G (av : List AV) (rs : List Root) : Tre CallOut :=
 asCons av fun a0_ av0 =>
 asCons av0 fun a1_ av1 =>
 asEnd av1 <|
 asEnd rs <|
 asImmZ true (.int .i64) a0_ fun d1 =>
 asImm (.sl (.int .i64)) a1_ fun z3 d2 =>
 .mat (timesR d1 d2) fun r => .ret (s_l02Times_out z3 d1 d2 r)
noncomputable def s_l02Times_c : Ctr := ⟨[], fun ci => s_l02Times_G ci.args ci.roots, false⟩
theorem s_l02Times_env : EnvOK Try.prog s_l02Times_V := (envOK_cons s_l02Bit_ok ent147 envOK_nil)
set_option maxRecDepth 100000 in
theorem s_l02Times_ok : Contract Try.prog 126 s_l02Times_c := by
 have hl : LoopsOK s_l02Times_V s_l02Times_A s_l02Times_b := (loopsOK_all (n := 1) (by kernel_rfl) fun k hk => by
   match k, hk with
   | 0, _ => exact loopOK_at (id := 3) (L := s_l02Times_l3_L) (by kernel_rfl) (by kernel_rfl) s_l02Times_l3_ok)
 refine (contract_of (F := s_l02Times_I) tau_tys s_l02Times_env Try.func126 (by kernel_rfl) (by kernel_rfl) (by kernel_rfl) hl []).weaken ?_
 rintro ⟨av, rs⟩ co h
 have h : (s_l02Times_G av rs).run some = some co := h
 obtain ⟨a0_, av0, rfl, h_0⟩ := asCons_spec h
 obtain ⟨a1_, av1, rfl, h_1⟩ := asCons_spec h_0
 obtain ⟨rfl, h_2⟩ := asEnd_spec h_1
 obtain ⟨rfl, h_3⟩ := asEnd_spec h_2
 obtain ⟨d1, rfl, h_4⟩ := asImmZ_spec h_3
 obtain ⟨z3, d2, rfl, h_5⟩ := asImm_spec h_4
 exact fin_opt (s_l02Times_eq z3 d1 d2) (s_l02Times_spec d1 d2) h_5
end Go.Proofs.Ytohnlghdhbignaa

namespace Go.Proofs.Ytohnlghdhbignaa
open Go Go.Abs Go.Proofs
noncomputable def s_l08Run_send_9d6c (p0 : TDeed) (p1 : (TPlant × Unit)) (_p2 : TGather) : Tre (Int × (TPlant × Unit)) :=
 .cond (decide (p0.2.1 ≥ (p1.1.1.length : Int)))
  (.ret (2, p1))
  (.cond (decide (p0.2.2.1 ≥ (p1.1.1.length : Int)))
   (.ret (2, p1))
   (.cond (decide (p0.2.1 = p0.2.2.1))
    (.ret (2, p1))
    (.cond (decide (p0.2.2.1 = 0))
     (.ret (2, p1))
     (.ite (0 ≤ p0.2.1 ∧ p0.2.1 < (p1.1.1.length : Int)) <|
     .mat (p1.1.1[p0.2.1.toNat]?) fun _ =>
     .mat (p1.1.1[p0.2.1.toNat]?) fun x2 =>
     let v3 := iwrap .u64 (x2.1.length : Int)
     .ite (0 ≤ v3) <|
     .cond (decide (p0.2.2.2.1 ≥ ishl .i64 1 v3))
      (.ret (2, p1))
      (.cond (decide (p0.2.2.2.1 = 0))
       (.ret (4, p1))
       (.cond (decide ((p1.1.2.1.length : Int) = 12))
        (.ret (3, p1))
        (.mat (p1.1.1[p0.2.1.toNat]?) fun x4 =>
        .mat (timesR p0.2.2.2.1 x4.1) fun r5 =>
        .ite ((p1.1.2.1.length + 1) * 16 ≤ appendMax ∧ 1 ≤ 16) <|
        let v6 := p1.1.2.1 ++ ([(p0.2.2.1, (r5, ()))])
        .ret (0, ((p1.1.1, (v6, p1.1.2.2)), p1.2)))))))))
noncomputable def s_l08Run_send_9d6c_F (p0 : TDeed) (p1 : (TPlant × Unit)) (p2 : TGather) : Option (Int × (TPlant × Unit)) := (s_l08Run_send_9d6c p0 p1 p2).run some
abbrev G8 := Int × Int × List Int × Int × Int × Unit
abbrev D8 := Int × Int × Int × Int × Unit
abbrev P8 := List (List Int × List Int × Unit) × List (Int × Int × Unit) × Unit
def colsG (g : G8) : Nat := (g.1 + g.2.1).toNat
def statG (g : G8) : Int := 1 + g.2.2.2.1 + g.2.2.2.2.1
def okRow (b : Nat) (x : Int) : Bool := decide (0 ≤ x) && decide (x < ((2 ^ b : Nat) : Int))
def okS (k b : Nat) (xs : List Int) : Bool := decide (xs.length ≤ k) && xs.all (okRow b)
def okP (k : Nat) (g : G8) (p : P8) : Bool :=
 decide ((p.1.length : Int) = statG g) && p.1.all (fun s => okS k (colsG g) s.1 && okS k (colsG g) s.2.1) && decide (p.2.1.length ≤ 12) && p.2.1.all (fun x => inR x.1 0 (statG g - 1) && okRow (colsG g) x.2.1)
theorem isG_spec {g : G8} (h : isG g = true) : 1 ≤ g.1 ∧ g.1 ≤ 4 ∧ 1 ≤ g.2.1 ∧ g.2.1 ≤ 6 ∧ 0 ≤ g.2.2.2.1 ∧ g.2.2.2.1 ≤ 3 ∧ 1 ≤ g.2.2.2.2.1 ∧ g.2.2.2.2.1 ≤ 3 ∧ (g.2.2.1.length : Int) = g.1 := by
 unfold isG at h
 simp only [Bool.and_eq_true, inR_iff, decide_eq_true_eq] at h
 obtain ⟨⟨⟨⟨⟨h1, h2⟩, h3⟩, _⟩, h5⟩, h6⟩ := h
 exact ⟨h1.1, h1.2, h2.1, h2.2, h5.1, h5.2, h6.1, h6.2, h3⟩
theorem vDeed_rng {d : D8} (h : vDeed d = true) : (0 ≤ d.2.1 ∧ d.2.1 ≤ 9999) ∧ (0 ≤ d.2.2.1 ∧ d.2.2.1 ≤ 9999) ∧ (0 ≤ d.2.2.2.1 ∧ d.2.2.2.1 ≤ 9999) ∧ inR d.1 1 8 = true := by
 unfold vDeed at h
 simp only [Bool.and_eq_true] at h
 obtain ⟨⟨⟨⟨⟨h0, h1⟩, h2⟩, h3⟩, _⟩, _⟩ := h
 exact ⟨inR_iff.1 h1, inR_iff.1 h2, inR_iff.1 h3, h0⟩
theorem okP_spec {k : Nat} {g : G8} {p : P8} (h : okP k g p = true) : (p.1.length : Int) = statG g ∧ (∀ s ∈ p.1, okS k (colsG g) s.1 = true ∧ okS k (colsG g) s.2.1 = true) ∧ p.2.1.length ≤ 12 ∧ ∀ x ∈ p.2.1, (0 ≤ x.1 ∧ x.1 ≤ statG g - 1) ∧ okRow (colsG g) x.2.1 = true := by
 unfold okP at h
 simp only [Bool.and_eq_true, decide_eq_true_eq, List.all_eq_true] at h
 obtain ⟨⟨⟨h1, h2⟩, h3⟩, h4⟩ := h
 exact ⟨h1, h2, h3, fun x hx => ⟨inR_iff.1 (h4 x hx).1, (h4 x hx).2⟩⟩
theorem okP_mk {k : Nat} {g : G8} {p : P8} (h1 : (p.1.length : Int) = statG g) (h2 : ∀ s ∈ p.1, okS k (colsG g) s.1 = true ∧ okS k (colsG g) s.2.1 = true) (h3 : p.2.1.length ≤ 12)
  (h4 : ∀ x ∈ p.2.1, (0 ≤ x.1 ∧ x.1 ≤ statG g - 1) ∧ okRow (colsG g) x.2.1 = true) : okP k g p = true := by
 unfold okP
 simp only [Bool.and_eq_true, decide_eq_true_eq, List.all_eq_true]
 exact ⟨⟨⟨h1, h2⟩, h3⟩, fun x hx => ⟨inR_iff.2 (h4 x hx).1, (h4 x hx).2⟩⟩
theorem okS_spec {k b : Nat} {xs : List Int} : okS k b xs = true ↔ xs.length ≤ k ∧ ∀ x ∈ xs, okRow b x = true := by
 unfold okS
 simp only [Bool.and_eq_true, decide_eq_true_eq, List.all_eq_true]
theorem okS_rows {k b c : Nat} {xs : List Int} (h : okS k b xs = true) (hk : k ≤ 1048576) (hb : b ≤ c) : okRows c xs = true := by
 obtain ⟨h1, h2⟩ := okS_spec.1 h
 unfold okRows
 simp only [Bool.and_eq_true, decide_eq_true_eq, List.all_eq_true]
 refine ⟨by omega, fun x hx => ?_⟩
 have := h2 x hx
 unfold okRow at this
 simp only [Bool.and_eq_true, decide_eq_true_eq] at this
 have hp := pow_le hb
 exact ⟨this.1, by omega⟩
theorem okS_mono {k k' b : Nat} {xs : List Int} (h : okS k b xs = true) (hk : k ≤ k') : okS k' b xs = true := by
 obtain ⟨h1, h2⟩ := okS_spec.1 h
 exact okS_spec.2 ⟨by omega, h2⟩
theorem okP_mono {k k' : Nat} {g : G8} {p : P8} (h : okP k g p = true) (hk : k ≤ k') : okP k' g p = true := by
 obtain ⟨h1, h2, h3, h4⟩ := okP_spec h
 exact okP_mk h1 (fun s hs => ⟨okS_mono (h2 s hs).1 hk, okS_mono (h2 s hs).2 hk⟩) h3 h4
theorem colsG_le {g : G8} (h : isG g = true) : colsG g ≤ 10 ∧ ((colsG g : Nat) : Int) = g.1 + g.2.1 := by
 have := isG_spec h
 unfold colsG
 omega
def sendM (d : D8) (p : P8) : Int × P8 :=
 cond (decide (d.2.1 ≥ (p.1.length : Int)) || (decide (d.2.2.1 ≥ (p.1.length : Int)) || (decide (d.2.1 = d.2.2.1) || decide (d.2.2.1 = 0)))) (2, p)
  (match p.1[d.2.1.toNat]? with
   | none => (2, p)
   | some s => cond (decide (d.2.2.2.1 ≥ ishl .i64 1 (s.1.length : Int))) (2, p) (cond (decide (d.2.2.2.1 = 0)) (4, p) (cond (decide ((p.2.1.length : Int) = 12)) (3, p) (0, (p.1, p.2.1 ++ [(d.2.2.1, timesL d.2.2.2.1 s.1, ())], ())))))
def sendR (d : D8) (p : P8 × Unit) (g : G8) : Option (Int × (P8 × Unit)) := askO (isG g && vDeed d && okP 1000 g p.1) ((sendM d p.1).1, (sendM d p.1).2, ())
theorem s_l08Run_send_9d6c_spec (p0 : D8) (p1 : P8 × Unit) (p2 : G8) (y : Int × (P8 × Unit)) (h : sendR p0 p1 p2 = some y) : s_l08Run_send_9d6c_F p0 p1 p2 = some y := by
 obtain ⟨hok, rfl⟩ := askO_some h
 simp only [Bool.and_eq_true] at hok
 obtain ⟨⟨hg, hd⟩, hp⟩ := hok
 obtain ⟨⟨a0, a1⟩, ⟨b0, b1⟩, ⟨c0, c1⟩, _⟩ := vDeed_rng hd
 obtain ⟨l1, l2, l3, l4⟩ := okP_spec hp
 obtain ⟨⟨st, wi, ⟨⟩⟩, ⟨⟩⟩ := p1
 obtain ⟨kk, a, b, c, ⟨⟩⟩ := p0
 unfold s_l08Run_send_9d6c_F s_l08Run_send_9d6c sendM
 simp only at *
 by_cases h1 : a ≥ (st.length : Int)
 ·simp only [Tre.run_cond, decide_eq_true h1, cond_true, Tre.run_ret, Bool.true_or]
 by_cases h2 : b ≥ (st.length : Int)
 ·simp only [Tre.run_cond, decide_eq_true h2, decide_eq_false h1, cond_true, cond_false, Tre.run_ret, Bool.true_or, Bool.false_or]
 by_cases h3 : a = b
 ·simp only [Tre.run_cond, decide_eq_true h3, decide_eq_false h1, decide_eq_false h2, cond_true, cond_false, Tre.run_ret, Bool.true_or, Bool.false_or]
 by_cases h4 : b = 0
 ·simp only [Tre.run_cond, decide_eq_true h4, decide_eq_false h1, decide_eq_false h2, decide_eq_false h3, cond_true, cond_false, Tre.run_ret, Bool.false_or]
 obtain ⟨i, rfl⟩ := Int.eq_ofNat_of_zero_le a0
 have hi : i < st.length := by omega
 obtain ⟨s, hs⟩ : ∃ s, st[i]? = some s := ⟨_, List.getElem?_eq_getElem hi⟩
 have hs1 := (okS_spec.1 (l2 s (List.mem_of_getElem? hs)).1).1
 have hw : iwrap .u64 (s.1.length : Int) = (s.1.length : Int) := iwrap_u64 (by omega) (by omega)
 simp only [Tre.run_cond, decide_eq_false h1, decide_eq_false h2, decide_eq_false h3, decide_eq_false h4, cond_false, Bool.false_or, Int.toNat_natCast, hs]
 rw [Tre.run_ite, if_pos ⟨a0, by omega⟩, run_some_mat rfl, run_some_mat rfl]
 simp only [hw]
 rw [Tre.run_ite, if_pos (by omega)]
 simp only [Tre.run_cond]
 cases decide (c ≥ ishl .i64 1 (s.1.length : Int))
 ·cases decide (c = 0)
  ·cases decide ((wi.length : Int) = 12)
   ·simp only [cond_false]
    rw [run_some_mat rfl, run_some_mat (show timesR c s.1 = some _ from lim_of (by omega)), Tre.run_ite, if_pos (by unfold appendMax; omega)]
    rfl
   ·rfl
  ·rfl
 ·rfl
noncomputable def s_l08Run_send_9d6c_V : Env := ⟨tau, [(126, s_l02Times_c)], []⟩
noncomputable def s_l08Run_send_9d6c_b : Code := (Try.f95.body).getD .skip
noncomputable def s_l08Run_send_9d6c_I : FnI := ⟨s_l08Run_send_9d6c_b, Try.f95.results.toList, Try.f95.resultTypes.toList, []⟩
noncomputable def s_l08Run_send_9d6c_out (zp0 : Bool) (_p0 : TDeed) (_p1 : (TPlant × Unit)) (p2 : TGather) : (Int × (TPlant × Unit)) → CallOut := fun r => ⟨(.imm true (.int .i64) r.1), [⟨true, kL08Run, .own, ((some (0, 1) : Option RName), r.2)⟩, ⟨true, kGather, (.imm zp0), p2⟩], []⟩
set_option maxRecDepth 100000 in
theorem s_l08Run_send_9d6c_eq : ∀ (zp0 : Bool) (p0 : TDeed) (p1 : (TPlant × Unit)) (p2 : TGather), denFn s_l08Run_send_9d6c_V s_l08Run_send_9d6c_I ⟨[(.ptr (0, 0) []), (.imm true kDeed p0)], [⟨true, kL08Run, .own, ((some (0, 1) : Option RName), p1)⟩, ⟨true, kGather, (.imm zp0), p2⟩]⟩ = (s_l08Run_send_9d6c p0 p1 p2).run fun r => some (s_l08Run_send_9d6c_out zp0 p0 p1 p2 r) := fun _ _ _ _ => by kernel_rfl
noncomputable def s_l08Run_send_9d6c_G (av : List AV) (rs : List Root) : Tre CallOut :=
 asCons av fun a0_ av0 =>
 asCons av0 fun a1_ av1 =>
 asEnd av1 <|
 asCons rs fun r0_ rs0 =>
 asCons rs0 fun r1_ rs1 =>
 asEnd rs1 <|
 asPtr (0, 0) [] a0_ <|
 asImmZ true kDeed a1_ fun d1 =>
 asRt true kL08Run r0_ fun m2 d3 =>
 asM .own m2 <|
 asProd d3 fun d4 d5 =>
 asD d4 (some (0, 1) : Option RName) <|
 asRt true kGather r1_ fun m6 d7 =>
 asMImm m6 fun z8 =>
 .mat (sendR d1 d5 d7) fun r => .ret (s_l08Run_send_9d6c_out z8 d1 d5 d7 r)
noncomputable def s_l08Run_send_9d6c_c : Ctr := ⟨[], fun ci => s_l08Run_send_9d6c_G ci.args ci.roots, false⟩
theorem s_l08Run_send_9d6c_env : EnvOK Try.prog s_l08Run_send_9d6c_V := (envOK_cons s_l02Times_ok ent126 envOK_nil)
set_option maxRecDepth 100000 in
theorem s_l08Run_send_9d6c_ok : Contract Try.prog 95 s_l08Run_send_9d6c_c := by
 have hl : LoopsOK s_l08Run_send_9d6c_V [] s_l08Run_send_9d6c_b := loopsOK_nil (by kernel_rfl)
 refine (contract_of (F := s_l08Run_send_9d6c_I) tau_tys s_l08Run_send_9d6c_env Try.func95 (by kernel_rfl) (by kernel_rfl) (by kernel_rfl) hl []).weaken ?_
 rintro ⟨av, rs⟩ co h
 have h : (s_l08Run_send_9d6c_G av rs).run some = some co := h
 obtain ⟨a0_, av0, rfl, h_0⟩ := asCons_spec h
 obtain ⟨a1_, av1, rfl, h_1⟩ := asCons_spec h_0
 obtain ⟨rfl, h_2⟩ := asEnd_spec h_1
 obtain ⟨r0_, rs0, rfl, h_3⟩ := asCons_spec h_2
 obtain ⟨r1_, rs1, rfl, h_4⟩ := asCons_spec h_3
 obtain ⟨rfl, h_5⟩ := asEnd_spec h_4
 obtain ⟨rfl, h_6⟩ := asPtr_spec h_5
 obtain ⟨d1, rfl, h_7⟩ := asImmZ_spec h_6
 obtain ⟨m2, d3, rfl, h_8⟩ := asRt_spec h_7
 obtain ⟨rfl, h_9⟩ := asM_spec h_8
 obtain ⟨d4, d5, rfl, h_10⟩ := asProd_spec h_9
 obtain ⟨rfl, h_11⟩ := asD_spec h_10
 obtain ⟨m6, d7, rfl, h_12⟩ := asRt_spec h_11
 obtain ⟨z8, rfl, h_13⟩ := asMImm_spec h_12
 exact fin_opt (s_l08Run_send_9d6c_eq z8 d1 d5 d7) (s_l08Run_send_9d6c_spec d1 d5 d7) h_13
end Go.Proofs.Ytohnlghdhbignaa

namespace Go.Proofs.Ytohnlghdhbignaa
open Go Go.Abs Go.Proofs
noncomputable def s_l08Cols_9aa7 (p0 : TGather) : Tre Int :=
 let v1 := iwrap .i64 (p0.1 + p0.2.1)
 .ret v1
noncomputable def s_l08Cols_9aa7_F (p0 : TGather) : Option Int := (s_l08Cols_9aa7 p0).run some
def s_l08Cols_9aa7_S (p0 : TGather) : Int :=
 let v1 := iwrap .i64 (p0.1 + p0.2.1)
 v1
theorem s_l08Cols_9aa7_spec (p0 : TGather) : s_l08Cols_9aa7_F p0 = some (s_l08Cols_9aa7_S p0) := rfl
noncomputable def s_l08Cols_9aa7_V : Env := ⟨tau, [], []⟩
noncomputable def s_l08Cols_9aa7_b : Code := (Try.f68.body).getD .skip
noncomputable def s_l08Cols_9aa7_I : FnI := ⟨s_l08Cols_9aa7_b, Try.f68.results.toList, Try.f68.resultTypes.toList, []⟩
noncomputable def s_l08Cols_9aa7_out (zp0 : Bool) (p0 : TGather) : Int → CallOut := fun r => ⟨(.imm true (.int .i64) r), [⟨true, kGather, (.imm zp0), p0⟩], []⟩
set_option maxRecDepth 100000 in
theorem s_l08Cols_9aa7_eq : ∀ (zp0 : Bool) (p0 : TGather), denFn s_l08Cols_9aa7_V s_l08Cols_9aa7_I ⟨[(.ptr (0, 0) [])], [⟨true, kGather, (.imm zp0), p0⟩]⟩ = (s_l08Cols_9aa7 p0).run fun r => some (s_l08Cols_9aa7_out zp0 p0 r) := fun _ _ => by kernel_rfl
noncomputable def s_l08Cols_9aa7_G (av : List AV) (rs : List Root) : Tre CallOut :=
 asCons av fun a0_ av0 =>
 asEnd av0 <|
 asCons rs fun r0_ rs0 =>
 asEnd rs0 <|
 asPtr (0, 0) [] a0_ <|
 asRt true kGather r0_ fun m1 d2 =>
 asMImm m1 fun z3 =>
 .ret (s_l08Cols_9aa7_out z3 d2 (s_l08Cols_9aa7_S d2))
noncomputable def s_l08Cols_9aa7_c : Ctr := ⟨[], fun ci => s_l08Cols_9aa7_G ci.args ci.roots, false⟩
theorem s_l08Cols_9aa7_env : EnvOK Try.prog s_l08Cols_9aa7_V := envOK_nil
set_option maxRecDepth 100000 in
theorem s_l08Cols_9aa7_ok : Contract Try.prog 68 s_l08Cols_9aa7_c := by
 have hl : LoopsOK s_l08Cols_9aa7_V [] s_l08Cols_9aa7_b := loopsOK_nil (by kernel_rfl)
 refine (contract_of (F := s_l08Cols_9aa7_I) tau_tys s_l08Cols_9aa7_env Try.func68 (by kernel_rfl) (by kernel_rfl) (by kernel_rfl) hl []).weaken ?_
 rintro ⟨av, rs⟩ co h
 have h : (s_l08Cols_9aa7_G av rs).run some = some co := h
 obtain ⟨a0_, av0, rfl, h_0⟩ := asCons_spec h
 obtain ⟨rfl, h_1⟩ := asEnd_spec h_0
 obtain ⟨r0_, rs0, rfl, h_2⟩ := asCons_spec h_1
 obtain ⟨rfl, h_3⟩ := asEnd_spec h_2
 obtain ⟨rfl, h_4⟩ := asPtr_spec h_3
 obtain ⟨m1, d2, rfl, h_5⟩ := asRt_spec h_4
 obtain ⟨z3, rfl, h_6⟩ := asMImm_spec h_5
 exact fin_ret (s_l08Cols_9aa7_eq z3 d2) (s_l08Cols_9aa7_spec d2) h_6
end Go.Proofs.Ytohnlghdhbignaa

namespace Go.Proofs.Ytohnlghdhbignaa
open Go Go.Abs Go.Proofs
noncomputable def s_l00Own (p0 : (List Int)) : Tre (List Int) :=
 .ite ((0 + p0.length) * 8 ≤ appendMax ∧ 1 ≤ 8) <|
 .ret ([] ++ p0)
noncomputable def s_l00Own_F (p0 : (List Int)) : Option (List Int) := (s_l00Own p0).run some
theorem s_l00Own_spec (p0 : List Int) (y : List Int) (h : cloneR p0 = some y) : s_l00Own_F p0 = some y := by
 obtain ⟨hl, rfl⟩ := lim_some h
 have hb : (0 + p0.length) * 8 ≤ appendMax ∧ 1 ≤ 8 := by unfold appendMax; omega
 unfold s_l00Own_F s_l00Own
 rw [Tre.run_ite, if_pos hb]
 rfl
noncomputable def s_l00Own_V : Env := ⟨tau, [], []⟩
noncomputable def s_l00Own_b : Code := (Try.f97.body).getD .skip
noncomputable def s_l00Own_I : FnI := ⟨s_l00Own_b, Try.f97.results.toList, Try.f97.resultTypes.toList, []⟩
noncomputable def s_l00Own_out (_zp0 : Bool) (_p0 : (List Int)) : (List Int) → CallOut := fun r => ⟨(.ref (1, 0) []), [], [⟨false, (.sl (.int .i64)), .own, r⟩]⟩
set_option maxRecDepth 100000 in
theorem s_l00Own_eq : ∀ (zp0 : Bool) (p0 : (List Int)), denFn s_l00Own_V s_l00Own_I ⟨[(.imm zp0 (.sl (.int .i64)) p0)], []⟩ = (s_l00Own p0).run fun r => some (s_l00Own_out zp0 p0 r) := fun _ _ => by kernel_rfl
noncomputable def s_l00Own_G (av : List AV) (rs : List Root) : Tre CallOut :=
 asCons av fun a0_ av0 =>
 asEnd av0 <|
 asEnd rs <|
 asImm (.sl (.int .i64)) a0_ fun z2 d1 =>
 .mat (cloneR d1) fun r => .ret (s_l00Own_out z2 d1 r)
noncomputable def s_l00Own_c : Ctr := ⟨[], fun ci => s_l00Own_G ci.args ci.roots, false⟩
theorem s_l00Own_env : EnvOK Try.prog s_l00Own_V := envOK_nil
set_option maxRecDepth 100000 in
theorem s_l00Own_ok : Contract Try.prog 97 s_l00Own_c := by
 have hl : LoopsOK s_l00Own_V [] s_l00Own_b := loopsOK_nil (by kernel_rfl)
 refine (contract_of (F := s_l00Own_I) tau_tys s_l00Own_env Try.func97 (by kernel_rfl) (by kernel_rfl) (by kernel_rfl) hl []).weaken ?_
 rintro ⟨av, rs⟩ co h
 have h : (s_l00Own_G av rs).run some = some co := h
 obtain ⟨a0_, av0, rfl, h_0⟩ := asCons_spec h
 obtain ⟨rfl, h_1⟩ := asEnd_spec h_0
 obtain ⟨rfl, h_2⟩ := asEnd_spec h_1
 obtain ⟨z2, d1, rfl, h_3⟩ := asImm_spec h_2
 exact fin_opt (s_l00Own_eq z2 d1) (s_l00Own_spec d1) h_3
end Go.Proofs.Ytohnlghdhbignaa

namespace Go.Proofs.Ytohnlghdhbignaa
open Go Go.Abs Go.Proofs
noncomputable def s_l02Echelon_l8 (h8_0_1 : Int) (h8_0_4 : (List Int)) : (Int × Int) → Tre ((Int × Int) ⊕ Int) := fun s8 =>
 .cond (decide (s8.2 < (h8_0_4.length : Int)))
  (.cond (decide (s8.1 < 0))
   (.ite (0 ≤ s8.2 ∧ s8.2 < (h8_0_4.length : Int)) <|
   .mat (h8_0_4[s8.2.toNat]?) fun x2 =>
   .mat (bitR x2 h8_0_1) fun r3 =>
   .cond (decide (r3 = 1))
    (.ret (.inl (s8.2, iwrap .i64 (s8.2 + 1))))
    (.ret (.inl (s8.1, iwrap .i64 (s8.2 + 1)))))
   (.ret (.inr s8.1)))
  (.ret (.inr s8.1))
noncomputable def s_l02Echelon_l16 (h16_0_1 : Int) (h16_0_2 : Int) : (Int × (List Int)) → Tre ((Int × (List Int)) ⊕ (List Int)) := fun s16 =>
 .cond (decide (s16.1 < (s16.2.length : Int)))
  (.ite (0 ≤ s16.1 ∧ s16.1 < (s16.2.length : Int)) <|
  .mat (s16.2[s16.1.toNat]?) fun x7 =>
  .mat (bitR x7 h16_0_1) fun r8 =>
  .cond (decide (r8 = 1))
   (.ite (0 ≤ s16.1 ∧ s16.1 < (s16.2.length : Int)) <|
   .mat (s16.2[s16.1.toNat]?) fun x9 =>
   .ite (0 ≤ s16.1 ∧ s16.1 < (s16.2.length : Int)) <|
   .mat (s16.2[s16.1.toNat]?) fun _ =>
   let v11 := s16.2.set s16.1.toNat (ixor .i64 x9 h16_0_2)
   .ret (.inl (iwrap .i64 (s16.1 + 1), v11)))
   (.ret (.inl (iwrap .i64 (s16.1 + 1), s16.2))))
  (.ret (.inr s16.2))
noncomputable def s_l02Echelon_l21 (h21_0_1 : Int) (h21_0_2 : Int) : (Int × (List Int)) → Tre ((Int × (List Int)) ⊕ (List Int)) := fun s21 =>
 .cond (decide (s21.1 < (s21.2.length : Int)))
  (.ite (0 ≤ s21.1 ∧ s21.1 < (s21.2.length : Int)) <|
  .mat (s21.2[s21.1.toNat]?) fun x13 =>
  .mat (bitR x13 h21_0_1) fun r14 =>
  .cond (decide (r14 = 1))
   (.ite (0 ≤ s21.1 ∧ s21.1 < (s21.2.length : Int)) <|
   .mat (s21.2[s21.1.toNat]?) fun x15 =>
   .ite (0 ≤ s21.1 ∧ s21.1 < (s21.2.length : Int)) <|
   .mat (s21.2[s21.1.toNat]?) fun _ =>
   let v17 := s21.2.set s21.1.toNat (ixor .i64 x15 h21_0_2)
   .ret (.inl (iwrap .i64 (s21.1 + 1), v17)))
   (.ret (.inl (iwrap .i64 (s21.1 + 1), s21.2))))
  (.ret (.inr s21.2))
noncomputable def s_l02Echelon_l4 (h4_0_0 : Int) : (Int × (List Int) × (List Int)) → Tre ((Int × (List Int) × (List Int)) ⊕ (List Int)) := fun s4 =>
 .cond (decide (s4.1 < h4_0_0))
  (.mat (loopF (s_l02Echelon_l8 s4.1 s4.2.1) (-1, 0)) fun l4 =>
  .cond (decide (l4 < 0))
   (.ret (.inl (iwrap .i64 (s4.1 + 1), s4.2.1, s4.2.2)))
   (.ite (0 ≤ l4 ∧ l4 < (s4.2.1.length : Int)) <|
   .mat (s4.2.1[l4.toNat]?) fun x5 =>
   .ite (0 ≤ l4 ∧ l4 < (s4.2.1.length : Int)) <|
   .mat (s4.2.1[l4.toNat]?) fun _ =>
   .mat (loopF (s_l02Echelon_l16 s4.1 x5) (0, s4.2.1.set l4.toNat 0)) fun l12 =>
   .mat (loopF (s_l02Echelon_l21 s4.1 x5) (0, s4.2.2)) fun l18 =>
   .ite ((l18.length + 1) * 8 ≤ appendMax ∧ 1 ≤ 8) <|
   .ret (.inl (iwrap .i64 (s4.1 + 1), l12, l18 ++ ([x5])))))
  (.ret (.inr s4.2.2))
noncomputable def s_l02Echelon (p0 : Int) (p1 : (List Int)) : Tre (List Int) :=
 .mat (cloneR p1) fun r1 =>
 .mat (loopF (s_l02Echelon_l4 p0) (0, r1, [])) fun l19 =>
 .ret l19
noncomputable def s_l02Echelon_F (p0 : Int) (p1 : (List Int)) : Option (List Int) := (s_l02Echelon p0 p1).run some
noncomputable def echB (m : Int) (xs : List Int) : Option (List Int) := askO (inR m 0 62 && okRows m.toNat xs) (echI xs)
theorem s_l02Echelon_find (c : Nat) (hc : c ≤ 62) (xs : List Int) (hl : xs.length ≤ 1048576) : loopF (s_l02Echelon_l8 (c : Int) xs) (-1, 0) = some (idxI (fun x => bitAt x (c : Int)) 0 xs) := by
 have := fold_loop (xs := xs) (step := s_l02Echelon_l8 (c : Int) xs) (fun i acc => (acc, (i : Int))) (fun i acc x => cond (decide (acc < 0)) (.inl (cond (bitAt x (c : Int)) (i : Int) acc)) (.inr acc)) id (fun _ _ => True) (by
  intro i acc x hx _
  refine ⟨?_, fun _ _ => trivial⟩
  have hi : i < xs.length := (List.getElem?_eq_some_iff.1 hx).1
  unfold s_l02Echelon_l8
  rw [Tre.run_cond, show decide (((acc, (i : Int)) : Int × Int).2 < (xs.length : Int)) = true from by simpa using hi, cond_true, Tre.run_cond]
  by_cases h0 : acc < 0
  ·rw [show decide (acc < 0) = true from by simpa using h0]
   rw [cond_true, run_at hx, run_some_mat (bitR_nat (by omega) : bitR x (c : Int) = _), Tre.run_cond]
   show cond (bitAt x (c : Int)) _ _ = _
   cases bitAt x (c : Int)
   ·rw [cond_false, Tre.run_ret, iwrap_succ (by omega)]; rfl
   ·rw [cond_true, Tre.run_ret, iwrap_succ (by omega)]; rfl
  ·rw [show decide (acc < 0) = false from by simpa using h0]
   rfl)
  (by
  intro acc _
  unfold s_l02Echelon_l8
  exact run_out) xs 0 (-1) rfl (Nat.zero_le _) trivial
 rw [show (((-1 : Int), (0 : Int)) : Int × Int) = (-1, ((0 : Nat) : Int)) from rfl, this]
 have key : ∀ (l : List Int) (i : Nat), foldE (β := Int) (fun (i : Nat) (acc : Int) x => cond (decide (acc < 0)) (.inl (cond (bitAt x (c : Int)) (i : Int) acc)) (.inr acc)) id i (-1) l = idxI (fun x => bitAt x (c : Int)) i l := by
  intro l
  induction l with
  | nil => intro i; rfl
  | cons x l ih =>
   intro i
   simp only [foldE, idxI, show decide ((-1 : Int) < 0) = true from rfl, cond_true]
   cases bitAt x (c : Int)
   ·exact ih (i + 1)
   ·have hn : decide ((i : Int) < 0) = false := by simp
    cases l with
    | nil => rfl
    | cons y l => simp only [foldE, cond_true, hn, cond_false]
 rw [key]
theorem s_l02Echelon_elim (c r : Nat) (hc : c ≤ 62) (hr : r < 2 ^ 62) (l : List Nat) (hb : ∀ n ∈ l, n < 2 ^ 62) (hl : l.length ≤ 1048576) : loopF (s_l02Echelon_l16 (c : Int) (r : Int)) (0, up l) = some (up (l.map (elimB c r))) := by
 have := part_loop (step := s_l02Echelon_l16 (c : Int) (r : Int)) (fun _ x => elimB c r x) l id (by
  intro i x hx
  have hi : i < l.length := (List.getElem?_eq_some_iff.1 hx).1
  have hx2 := up_at (part_at (g := fun _ x => elimB c r x) (i := i) hx)
  rw [if_neg (Nat.lt_irrefl i)] at hx2
  have hlen : (up (partB (fun _ x => elimB c r x) i l)).length = l.length := by rw [up_len, part_len]
  have hxb := hb x (List.mem_of_getElem? hx)
  rw [← part_set hx]
  unfold s_l02Echelon_l16
  rw [run_inb hx2, run_some_mat (bitR_nat (by omega) : bitR (x : Int) (c : Int) = _), Tre.run_cond]
  show cond (bitAt (x : Int) (c : Int)) _ _ = _
  rw [bitAt_nat (by omega) (by omega)]
  have he : elimB c r x = cond (x.testBit c) (x ^^^ r) x := rfl
  rw [he]
  cases x.testBit c
  ·rw [cond_false, Tre.run_ret, iwrap_succ (by omega)]
   refine congrArg (fun z => some (Sum.inl (((i + 1 : Nat) : Int), z))) ?_
   rw [cond_false, ← up_set]
   exact (List.ext_getElem? fun j => by
    rw [List.getElem?_set]
    by_cases hj : i = j
    ·subst hj; rw [if_pos rfl, hx2, if_pos (List.getElem?_eq_some_iff.1 hx2).1]
    ·rw [if_neg hj]).symm
  ·rw [cond_true, run_at hx2, run_at hx2, Tre.run_ret, iwrap_succ (by omega), ixor_nat (by omega) (by omega), Int.toNat_natCast, cond_true, ← up_set])
  (by
  unfold s_l02Echelon_l16
  have : ((partB (fun _ x => elimB c r x) l.length l).length : Int) = (l.length : Int) := by rw [part_len]
  show (Tre.cond (decide ((l.length : Int) < ((up (partB (fun _ x => elimB c r x) l.length l)).length : Int))) _ _).run some = _
  rw [up_len, part_len]
  exact run_out)
 rw [this, mapIdx_const]
 rfl
theorem s_l02Echelon_l21_eq : s_l02Echelon_l21 = s_l02Echelon_l16 := rfl
theorem s_l02Echelon_loop (m : Nat) (hm : m ≤ 62) (orig : List Nat) : ∀ (n c : Nat) (E : List (Nat × Nat)) (R : List Nat), c + n = m → Inv orig c E R → E.length ≤ c → R.length ≤ 1048576 → (∀ x ∈ R, x < 2 ^ m) → (∀ a ∈ E, a.2 < 2 ^ m) →
  ∃ E' : List Nat, loopF (s_l02Echelon_l4 (m : Int)) ((c : Int), up R, up (E.map (·.2))) = some (up E') ∧ IsEch orig E' := by
 intro n
 have hp := pow_le hm
 induction n with
 | zero =>
  intro c E R hc hI _ _ hR _
  have : c = m := hc
  subst this
  refine ⟨E.map (·.2), loopF_done ?_, hI.done fun x hx => zero_of_bits (hR x hx) (hI.low x hx)⟩
  unfold s_l02Echelon_l4
  exact run_out
 | succ n ih =>
  intro c E R hc hI hE hl hR hEb
  have hcm : c < m := by omega
  have hstep : ∀ E2 R2, Inv orig (c + 1) E2 R2 → E2.length ≤ c + 1 → R2.length ≤ 1048576 → (∀ x ∈ R2, x < 2 ^ m) → (∀ a ∈ E2, a.2 < 2 ^ m) → (s_l02Echelon_l4 (m : Int) ((c : Int), up R, up (E.map (·.2)))).run some = some (.inl (((c + 1 : Nat) : Int), up R2, up (E2.map (·.2)))) →
    ∃ E' : List Nat, loopF (s_l02Echelon_l4 (m : Int)) ((c : Int), up R, up (E.map (·.2))) = some (up E') ∧ IsEch orig E' := by
   intro E2 R2 h1 h2 h3 h4 h5 h6
   rw [loopF_step h6]
   exact ih (c + 1) E2 R2 (by omega) h1 h2 h3 h4 h5
  have hfind := s_l02Echelon_find c (by omega) (up R) (by rw [up_len]; exact hl)
  have hw : iwrap .i64 ((c : Int) + 1) = ((c + 1 : Nat) : Int) := iwrap_succ (by omega)
  have hdec : decide ((c : Int) < (m : Int)) = true := by simpa using hcm
  rcases idxI_cases (fun x => bitAt x (c : Int)) (up R) 0 with ⟨h1, h2⟩ | ⟨k, x, h1, h2, h3⟩
  ·refine hstep E R (hI.skip fun x hx => ?_) (by omega) hl hR hEb ?_
   ·have := h2 (x : Int) (List.mem_map.2 ⟨x, hx, rfl⟩)
    have hxb := hR x hx
    rwa [bitAt_nat (by omega) (by omega)] at this
   ·unfold s_l02Echelon_l4
    rw [Tre.run_cond]
    show cond (decide ((c : Int) < (m : Int))) _ _ = _
    rw [hdec, cond_true, run_some_mat (hfind.trans (by rw [h1])), Tre.run_cond]
    simp only [show decide ((-1 : Int) < 0) = true from rfl, cond_true, Tre.run_ret, hw]
  ·obtain ⟨r, hr1, rfl⟩ : ∃ r : Nat, R[k]? = some r ∧ (r : Int) = x := by
    simp only [up, List.getElem?_map, Option.map_eq_some_iff] at h1
    exact h1
   have hrm : r ∈ R := List.mem_of_getElem? hr1
   have hrb := hR r hrm
   rw [bitAt_nat (by omega) (by omega)] at h2
   rw [Nat.zero_add] at h3
   have hk : k < R.length := (List.getElem?_eq_some_iff.1 hr1).1
   have hE2 : ((E.map fun a => (a.1, elimB c r a.2)) ++ [(c, r)]).map (·.2) = (E.map (·.2)).map (elimB c r) ++ [r] := by simp [List.map_map, Function.comp_def]
   refine hstep (E.map (fun a => (a.1, elimB c r a.2)) ++ [(c, r)]) ((R.set k 0).map (elimB c r)) (hI.step hrm h2 ?_ ?_) (by simp; omega) (by simpa using hl) ?_ ?_ ?_
   ·intro y hy
    obtain ⟨x, hx, rfl⟩ := List.mem_map.1 hy
    rcases List.mem_or_eq_of_mem_set hx with hx | rfl
    ·exact .inr ⟨x, hx, rfl⟩
    ·exact .inl (by unfold elimB; simp)
   ·intro x hx
    obtain ⟨j, hj⟩ := List.getElem?_of_mem hx
    by_cases hjk : k = j
    ·subst hjk; rw [hr1] at hj; exact .inl (Option.some.inj hj).symm
    ·refine .inr (List.mem_map.2 ⟨x, List.mem_of_getElem? (i := j) ?_, rfl⟩)
     rw [List.getElem?_set, if_neg hjk, hj]
   ·intro y hy
    obtain ⟨x, hx, rfl⟩ := List.mem_map.1 hy
    refine elimB_lt hrb ?_
    rcases List.mem_or_eq_of_mem_set hx with hx | rfl
    ·exact hR x hx
    ·exact Nat.two_pow_pos m
   ·intro a ha
    rcases List.mem_append.1 ha with ha | ha
    ·obtain ⟨b, hb, rfl⟩ := List.mem_map.1 ha
     exact elimB_lt hrb (hEb b hb)
    ·simp only [List.mem_singleton] at ha; subst ha; exact hrb
   ·have e1 := s_l02Echelon_elim c r (by omega) (by omega) (R.set k 0) (fun x hx => by
     rcases List.mem_or_eq_of_mem_set hx with hx | rfl
     ·have := hR x hx; omega
     ·decide) (by simpa using hl)
    have e2 : loopF (s_l02Echelon_l21 (c : Int) (r : Int)) (0, up (E.map (·.2))) = some (up ((E.map (·.2)).map (elimB c r))) := by
     rw [s_l02Echelon_l21_eq]
     exact s_l02Echelon_elim c r (by omega) (by omega) (E.map (·.2)) (fun x hx => by
     obtain ⟨a, ha, rfl⟩ := List.mem_map.1 hx
     have := hEb a ha
     omega) (by simp; omega)
    unfold s_l02Echelon_l4
    rw [Tre.run_cond]
    show cond (decide ((c : Int) < (m : Int))) _ _ = _
    rw [hdec, cond_true, run_some_mat (hfind.trans (by rw [h3])), Tre.run_cond]
    rw [show decide ((k : Int) < 0) = false from by simp, cond_false, run_at h1, run_at h1, Int.toNat_natCast]
    rw [show (up R).set k 0 = up (R.set k 0) from up_set R k 0, run_some_mat e1, run_some_mat e2]
    rw [Tre.run_ite, if_pos (by unfold appendMax; rw [up_len]; simp; omega), Tre.run_ret, hw, hE2]
    simp [up]
theorem s_l02Echelon_spec (p0 : Int) (p1 : List Int) (y : List Int) (h : echB p0 p1 = some y) : s_l02Echelon_F p0 p1 = some y := by
 obtain ⟨hl, rfl⟩ := askO_some h
 rw [Bool.and_eq_true, inR_iff] at hl
 obtain ⟨m, rfl⟩ : ∃ m : Nat, p0 = (m : Int) := ⟨p0.toNat, by omega⟩
 obtain ⟨ns, rfl, hlen, hb, hn⟩ := okRows_up hl.2
 rw [Int.toNat_natCast] at hb
 obtain ⟨E, h1, h2⟩ := s_l02Echelon_loop m (by omega) ns m 0 [] ns (by omega) (Inv.start ns) (Nat.zero_le _) hlen hb (fun a ha => by cases ha)
 unfold s_l02Echelon_F s_l02Echelon
 have e1 : cloneR (up ns) = some (up ns) := lim_of (by rw [up_len]; exact hlen)
 have h1 : loopF (s_l02Echelon_l4 (m : Int)) (0, up ns, []) = some (up E) := h1
 rw [run_some_mat e1, run_some_mat h1]
 unfold echI
 rw [hn, ech_of h2]
 rfl
noncomputable def s_l02Echelon_V : Env := ⟨tau, [(97, s_l00Own_c), (147, s_l02Bit_c)], []⟩
noncomputable def s_l02Echelon_b : Code := (Try.f155.body).getD .skip
noncomputable def s_l02Echelon_l8_mk (h8_0_0 : Int) (h8_0_1 : Int) (h8_0_4 : (List Int)) (h8_0_5 : (List Int)) : (Int × Int) → St := fun x => stOf [(0, (.imm true (.int .i64) h8_0_0)), (5, (.ref (7, 0) [])), (6, (.ref (8, 0) [])), (7, (.imm true (.int .i64) h8_0_1)), (8, (.imm true (.int .i64) x.1)), (9, (.imm true (.int .i64) x.2))] [((7, 0), some ⟨false, (.sl (.int .i64)), .own, h8_0_4⟩), ((8, 0), some ⟨false, (.sl (.int .i64)), .own, h8_0_5⟩)]
noncomputable def s_l02Echelon_l8_out (h8_0_0 : Int) (h8_0_1 : Int) (h8_0_4 : (List Int)) (h8_0_5 : (List Int)) : Int → Ex × St := fun x => (.exit 2, stOf [(0, (.imm true (.int .i64) h8_0_0)), (5, (.ref (7, 0) [])), (6, (.ref (8, 0) [])), (7, (.imm true (.int .i64) h8_0_1)), (8, (.imm true (.int .i64) x))] [((7, 0), some ⟨false, (.sl (.int .i64)), .own, h8_0_4⟩), ((8, 0), some ⟨false, (.sl (.int .i64)), .own, h8_0_5⟩)])
noncomputable def s_l02Echelon_l8_D (s : St) : Tre (Ex × St) :=
 asImmZ true (.int .i64) (s.tmps 0) fun d2 =>
 asRef (7, 0) [] (s.tmps 5) <|
 asRef (8, 0) [] (s.tmps 6) <|
 asImmZ true (.int .i64) (s.tmps 7) fun d6 =>
 asImmZ true (.int .i64) (s.tmps 8) fun d8 =>
 asImmZ true (.int .i64) (s.tmps 9) fun d10 =>
 asRoot false (.sl (.int .i64)) (s.roots (7, 0)) fun m12 d13 =>
 asM .own m12 <|
 asRoot false (.sl (.int .i64)) (s.roots (8, 0)) fun m15 d16 =>
 asM .own m15 <|
 .mat (loopF (s_l02Echelon_l8 d6 d13) (d8, d10)) fun x => .ret (s_l02Echelon_l8_out d2 d6 d13 d16 x)
noncomputable def s_l02Echelon_l8_L : LoopI := ⟨([0, 5, 6, 7, 8, 9], [(7, 0), (8, 0)]), ([0, 5, 6, 7, 8], [(7, 0), (8, 0)]), s_l02Echelon_l8_D⟩
noncomputable def s_l02Echelon_l16_mk (h16_0_0 : Int) (h16_0_1 : Int) (h16_0_2 : Int) (h16_0_5 : (List Int)) : (Int × (List Int)) → St := fun x => stOf [(0, (.imm true (.int .i64) h16_0_0)), (5, (.ref (7, 0) [])), (6, (.ref (8, 0) [])), (7, (.imm true (.int .i64) h16_0_1)), (10, (.imm true (.int .i64) h16_0_2)), (11, (.imm true (.int .i64) x.1))] [((7, 0), some ⟨false, (.sl (.int .i64)), .own, x.2⟩), ((8, 0), some ⟨false, (.sl (.int .i64)), .own, h16_0_5⟩)]
noncomputable def s_l02Echelon_l16_out (h16_0_0 : Int) (h16_0_1 : Int) (h16_0_2 : Int) (h16_0_5 : (List Int)) : (List Int) → Ex × St := fun x => (.exit 4, stOf [(0, (.imm true (.int .i64) h16_0_0)), (5, (.ref (7, 0) [])), (6, (.ref (8, 0) [])), (7, (.imm true (.int .i64) h16_0_1)), (10, (.imm true (.int .i64) h16_0_2))] [((7, 0), some ⟨false, (.sl (.int .i64)), .own, x⟩), ((8, 0), some ⟨false, (.sl (.int .i64)), .own, h16_0_5⟩)])
noncomputable def s_l02Echelon_l16_D (s : St) : Tre (Ex × St) :=
 asImmZ true (.int .i64) (s.tmps 0) fun d2 =>
 asRef (7, 0) [] (s.tmps 5) <|
 asRef (8, 0) [] (s.tmps 6) <|
 asImmZ true (.int .i64) (s.tmps 7) fun d6 =>
 asImmZ true (.int .i64) (s.tmps 10) fun d8 =>
 asImmZ true (.int .i64) (s.tmps 11) fun d10 =>
 asRoot false (.sl (.int .i64)) (s.roots (7, 0)) fun m12 d13 =>
 asM .own m12 <|
 asRoot false (.sl (.int .i64)) (s.roots (8, 0)) fun m15 d16 =>
 asM .own m15 <|
 .mat (loopF (s_l02Echelon_l16 d6 d8) (d10, d13)) fun x => .ret (s_l02Echelon_l16_out d2 d6 d8 d16 x)
noncomputable def s_l02Echelon_l16_L : LoopI := ⟨([0, 5, 6, 7, 10, 11], [(7, 0), (8, 0)]), ([0, 5, 6, 7, 10], [(7, 0), (8, 0)]), s_l02Echelon_l16_D⟩
noncomputable def s_l02Echelon_l21_mk (h21_0_0 : Int) (h21_0_1 : Int) (h21_0_2 : Int) (h21_0_4 : (List Int)) : (Int × (List Int)) → St := fun x => stOf [(0, (.imm true (.int .i64) h21_0_0)), (5, (.ref (7, 0) [])), (6, (.ref (8, 0) [])), (7, (.imm true (.int .i64) h21_0_1)), (10, (.imm true (.int .i64) h21_0_2)), (12, (.imm true (.int .i64) x.1))] [((7, 0), some ⟨false, (.sl (.int .i64)), .own, h21_0_4⟩), ((8, 0), some ⟨false, (.sl (.int .i64)), .own, x.2⟩)]
noncomputable def s_l02Echelon_l21_out (h21_0_0 : Int) (h21_0_1 : Int) (h21_0_2 : Int) (h21_0_4 : (List Int)) : (List Int) → Ex × St := fun x => (.exit 6, stOf [(0, (.imm true (.int .i64) h21_0_0)), (5, (.ref (7, 0) [])), (6, (.ref (8, 0) [])), (7, (.imm true (.int .i64) h21_0_1)), (10, (.imm true (.int .i64) h21_0_2))] [((7, 0), some ⟨false, (.sl (.int .i64)), .own, h21_0_4⟩), ((8, 0), some ⟨false, (.sl (.int .i64)), .own, x⟩)])
noncomputable def s_l02Echelon_l21_D (s : St) : Tre (Ex × St) :=
 asImmZ true (.int .i64) (s.tmps 0) fun d2 =>
 asRef (7, 0) [] (s.tmps 5) <|
 asRef (8, 0) [] (s.tmps 6) <|
 asImmZ true (.int .i64) (s.tmps 7) fun d6 =>
 asImmZ true (.int .i64) (s.tmps 10) fun d8 =>
 asImmZ true (.int .i64) (s.tmps 12) fun d10 =>
 asRoot false (.sl (.int .i64)) (s.roots (7, 0)) fun m12 d13 =>
 asM .own m12 <|
 asRoot false (.sl (.int .i64)) (s.roots (8, 0)) fun m15 d16 =>
 asM .own m15 <|
 .mat (loopF (s_l02Echelon_l21 d6 d8) (d10, d16)) fun x => .ret (s_l02Echelon_l21_out d2 d6 d8 d13 x)
noncomputable def s_l02Echelon_l21_L : LoopI := ⟨([0, 5, 6, 7, 10, 12], [(7, 0), (8, 0)]), ([0, 5, 6, 7, 10], [(7, 0), (8, 0)]), s_l02Echelon_l21_D⟩
noncomputable def s_l02Echelon_l4_mk (h4_0_0 : Int) : (Int × (List Int) × (List Int)) → St := fun x => stOf [(0, (.imm true (.int .i64) h4_0_0)), (5, (.ref (7, 0) [])), (6, (.ref (8, 0) [])), (7, (.imm true (.int .i64) x.1))] [((7, 0), some ⟨false, (.sl (.int .i64)), .own, x.2.1⟩), ((8, 0), some ⟨false, (.sl (.int .i64)), .own, x.2.2⟩)]
noncomputable def s_l02Echelon_l4_out (_h4_0_0 : Int) : (List Int) → Ex × St := fun x => (.exit 0, stOf [(6, (.ref (8, 0) []))] [((8, 0), some ⟨false, (.sl (.int .i64)), .own, x⟩)])
noncomputable def s_l02Echelon_l4_D (s : St) : Tre (Ex × St) :=
 asImmZ true (.int .i64) (s.tmps 0) fun d2 =>
 asRef (7, 0) [] (s.tmps 5) <|
 asRef (8, 0) [] (s.tmps 6) <|
 asImmZ true (.int .i64) (s.tmps 7) fun d6 =>
 asRoot false (.sl (.int .i64)) (s.roots (7, 0)) fun m8 d9 =>
 asM .own m8 <|
 asRoot false (.sl (.int .i64)) (s.roots (8, 0)) fun m11 d12 =>
 asM .own m11 <|
 .mat (loopF (s_l02Echelon_l4 d2) (d6, d9, d12)) fun x => .ret (s_l02Echelon_l4_out d2 x)
noncomputable def s_l02Echelon_l4_L : LoopI := ⟨([0, 5, 6, 7], [(7, 0), (8, 0)]), ([6], [(8, 0)]), s_l02Echelon_l4_D⟩
noncomputable def s_l02Echelon_A : List (Nat × LoopI) := [(8, s_l02Echelon_l8_L), (16, s_l02Echelon_l16_L), (21, s_l02Echelon_l21_L), (4, s_l02Echelon_l4_L)]
set_option maxRecDepth 100000 in
theorem s_l02Echelon_l8_step : ∀ (h8_0_0 : Int) (h8_0_1 : Int) (h8_0_4 : (List Int)) (h8_0_5 : (List Int)) (x : (Int × Int)) (c : St → Option (Ex × St)), den s_l02Echelon_V s_l02Echelon_A (loopAt s_l02Echelon_b 1) (s_l02Echelon_l8_mk h8_0_0 h8_0_1 h8_0_4 h8_0_5 x) (roundK s_l02Echelon_l8_L.kp s_l02Echelon_l8_L.kx c) = (s_l02Echelon_l8 h8_0_1 h8_0_4 x).run (roundR (s_l02Echelon_l8_mk h8_0_0 h8_0_1 h8_0_4 h8_0_5) (s_l02Echelon_l8_out h8_0_0 h8_0_1 h8_0_4 h8_0_5) c) := fun _ _ _ _ _ _ => by
 kernel_rfl
theorem s_l02Echelon_l8_ok : LoopOK s_l02Echelon_V s_l02Echelon_A (loopAt s_l02Echelon_b 1) s_l02Echelon_l8_L := loopOK_of fun s e s' h => by
 generalize hs : restrict s_l02Echelon_l8_L.kp s = s1 at h
 have h : (s_l02Echelon_l8_D s1).run some = some (e, s') := h
 obtain ⟨d2, e1, h_0⟩ := asImmZ_spec h
 obtain ⟨e3, h_1⟩ := asRef_spec h_0
 obtain ⟨e4, h_2⟩ := asRef_spec h_1
 obtain ⟨d6, e5, h_3⟩ := asImmZ_spec h_2
 obtain ⟨d8, e7, h_4⟩ := asImmZ_spec h_3
 obtain ⟨d10, e9, h_5⟩ := asImmZ_spec h_4
 obtain ⟨m12, d13, e11, h_6⟩ := asRoot_spec h_5
 obtain ⟨rfl, h_7⟩ := asM_spec h_6
 obtain ⟨m15, d16, e14, h_8⟩ := asRoot_spec h_7
 obtain ⟨rfl, h_9⟩ := asM_spec h_8
 obtain ⟨y, hy, hz⟩ := mat_ret h_9
 refine ⟨_, _, s_l02Echelon_l8_mk d2 d6 d13 d16, s_l02Echelon_l8_out d2 d6 d13 d16, s_l02Echelon_l8 d6 d13, (d8, d10), y, ?_, hy, ?_, s_l02Echelon_l8_step d2 d6 d13 d16⟩
 ·subst hs; exact restrict_eq (T := [(0, (.imm true (.int .i64) d2)), (5, (.ref (7, 0) [])), (6, (.ref (8, 0) [])), (7, (.imm true (.int .i64) d6)), (8, (.imm true (.int .i64) d8)), (9, (.imm true (.int .i64) d10))]) (U := [((7, 0), some ⟨false, (.sl (.int .i64)), .own, d13⟩), ((8, 0), some ⟨false, (.sl (.int .i64)), .own, d16⟩)]) rfl rfl ⟨e1, e3, e4, e5, e7, e9, trivial⟩ ⟨e11, e14, trivial⟩
 ·exact Option.some.inj hz
set_option maxRecDepth 100000 in
theorem s_l02Echelon_l16_step : ∀ (h16_0_0 : Int) (h16_0_1 : Int) (h16_0_2 : Int) (h16_0_5 : (List Int)) (x : (Int × (List Int))) (c : St → Option (Ex × St)), den s_l02Echelon_V s_l02Echelon_A (loopAt s_l02Echelon_b 2) (s_l02Echelon_l16_mk h16_0_0 h16_0_1 h16_0_2 h16_0_5 x) (roundK s_l02Echelon_l16_L.kp s_l02Echelon_l16_L.kx c) = (s_l02Echelon_l16 h16_0_1 h16_0_2 x).run (roundR (s_l02Echelon_l16_mk h16_0_0 h16_0_1 h16_0_2 h16_0_5) (s_l02Echelon_l16_out h16_0_0 h16_0_1 h16_0_2 h16_0_5) c) := fun _ _ _ _ _ _ => by
 kernel_rfl
theorem s_l02Echelon_l16_ok : LoopOK s_l02Echelon_V s_l02Echelon_A (loopAt s_l02Echelon_b 2) s_l02Echelon_l16_L := loopOK_of fun s e s' h => by
 generalize hs : restrict s_l02Echelon_l16_L.kp s = s1 at h
 have h : (s_l02Echelon_l16_D s1).run some = some (e, s') := h
 obtain ⟨d2, e1, h_0⟩ := asImmZ_spec h
 obtain ⟨e3, h_1⟩ := asRef_spec h_0
 obtain ⟨e4, h_2⟩ := asRef_spec h_1
 obtain ⟨d6, e5, h_3⟩ := asImmZ_spec h_2
 obtain ⟨d8, e7, h_4⟩ := asImmZ_spec h_3
 obtain ⟨d10, e9, h_5⟩ := asImmZ_spec h_4
 obtain ⟨m12, d13, e11, h_6⟩ := asRoot_spec h_5
 obtain ⟨rfl, h_7⟩ := asM_spec h_6
 obtain ⟨m15, d16, e14, h_8⟩ := asRoot_spec h_7
 obtain ⟨rfl, h_9⟩ := asM_spec h_8
 obtain ⟨y, hy, hz⟩ := mat_ret h_9
 refine ⟨_, _, s_l02Echelon_l16_mk d2 d6 d8 d16, s_l02Echelon_l16_out d2 d6 d8 d16, s_l02Echelon_l16 d6 d8, (d10, d13), y, ?_, hy, ?_, s_l02Echelon_l16_step d2 d6 d8 d16⟩
 ·subst hs; exact restrict_eq (T := [(0, (.imm true (.int .i64) d2)), (5, (.ref (7, 0) [])), (6, (.ref (8, 0) [])), (7, (.imm true (.int .i64) d6)), (10, (.imm true (.int .i64) d8)), (11, (.imm true (.int .i64) d10))]) (U := [((7, 0), some ⟨false, (.sl (.int .i64)), .own, d13⟩), ((8, 0), some ⟨false, (.sl (.int .i64)), .own, d16⟩)]) rfl rfl ⟨e1, e3, e4, e5, e7, e9, trivial⟩ ⟨e11, e14, trivial⟩
 ·exact Option.some.inj hz
set_option maxRecDepth 100000 in
theorem s_l02Echelon_l21_step : ∀ (h21_0_0 : Int) (h21_0_1 : Int) (h21_0_2 : Int) (h21_0_4 : (List Int)) (x : (Int × (List Int))) (c : St → Option (Ex × St)), den s_l02Echelon_V s_l02Echelon_A (loopAt s_l02Echelon_b 3) (s_l02Echelon_l21_mk h21_0_0 h21_0_1 h21_0_2 h21_0_4 x) (roundK s_l02Echelon_l21_L.kp s_l02Echelon_l21_L.kx c) = (s_l02Echelon_l21 h21_0_1 h21_0_2 x).run (roundR (s_l02Echelon_l21_mk h21_0_0 h21_0_1 h21_0_2 h21_0_4) (s_l02Echelon_l21_out h21_0_0 h21_0_1 h21_0_2 h21_0_4) c) := fun _ _ _ _ _ _ => by
 kernel_rfl
theorem s_l02Echelon_l21_ok : LoopOK s_l02Echelon_V s_l02Echelon_A (loopAt s_l02Echelon_b 3) s_l02Echelon_l21_L := loopOK_of fun s e s' h => by
 generalize hs : restrict s_l02Echelon_l21_L.kp s = s1 at h
 have h : (s_l02Echelon_l21_D s1).run some = some (e, s') := h
 obtain ⟨d2, e1, h_0⟩ := asImmZ_spec h
 obtain ⟨e3, h_1⟩ := asRef_spec h_0
 obtain ⟨e4, h_2⟩ := asRef_spec h_1
 obtain ⟨d6, e5, h_3⟩ := asImmZ_spec h_2
 obtain ⟨d8, e7, h_4⟩ := asImmZ_spec h_3
 obtain ⟨d10, e9, h_5⟩ := asImmZ_spec h_4
 obtain ⟨m12, d13, e11, h_6⟩ := asRoot_spec h_5
 obtain ⟨rfl, h_7⟩ := asM_spec h_6
 obtain ⟨m15, d16, e14, h_8⟩ := asRoot_spec h_7
 obtain ⟨rfl, h_9⟩ := asM_spec h_8
 obtain ⟨y, hy, hz⟩ := mat_ret h_9
 refine ⟨_, _, s_l02Echelon_l21_mk d2 d6 d8 d13, s_l02Echelon_l21_out d2 d6 d8 d13, s_l02Echelon_l21 d6 d8, (d10, d16), y, ?_, hy, ?_, s_l02Echelon_l21_step d2 d6 d8 d13⟩
 ·subst hs; exact restrict_eq (T := [(0, (.imm true (.int .i64) d2)), (5, (.ref (7, 0) [])), (6, (.ref (8, 0) [])), (7, (.imm true (.int .i64) d6)), (10, (.imm true (.int .i64) d8)), (12, (.imm true (.int .i64) d10))]) (U := [((7, 0), some ⟨false, (.sl (.int .i64)), .own, d13⟩), ((8, 0), some ⟨false, (.sl (.int .i64)), .own, d16⟩)]) rfl rfl ⟨e1, e3, e4, e5, e7, e9, trivial⟩ ⟨e11, e14, trivial⟩
 ·exact Option.some.inj hz
set_option maxRecDepth 100000 in
theorem s_l02Echelon_l4_step : ∀ (h4_0_0 : Int) (x : (Int × (List Int) × (List Int))) (c : St → Option (Ex × St)), den s_l02Echelon_V s_l02Echelon_A (loopAt s_l02Echelon_b 0) (s_l02Echelon_l4_mk h4_0_0 x) (roundK s_l02Echelon_l4_L.kp s_l02Echelon_l4_L.kx c) = (s_l02Echelon_l4 h4_0_0 x).run (roundR (s_l02Echelon_l4_mk h4_0_0) (s_l02Echelon_l4_out h4_0_0) c) := fun _ _ _ => by
 kernel_rfl
theorem s_l02Echelon_l4_ok : LoopOK s_l02Echelon_V s_l02Echelon_A (loopAt s_l02Echelon_b 0) s_l02Echelon_l4_L := loopOK_of fun s e s' h => by
 generalize hs : restrict s_l02Echelon_l4_L.kp s = s1 at h
 have h : (s_l02Echelon_l4_D s1).run some = some (e, s') := h
 obtain ⟨d2, e1, h_0⟩ := asImmZ_spec h
 obtain ⟨e3, h_1⟩ := asRef_spec h_0
 obtain ⟨e4, h_2⟩ := asRef_spec h_1
 obtain ⟨d6, e5, h_3⟩ := asImmZ_spec h_2
 obtain ⟨m8, d9, e7, h_4⟩ := asRoot_spec h_3
 obtain ⟨rfl, h_5⟩ := asM_spec h_4
 obtain ⟨m11, d12, e10, h_6⟩ := asRoot_spec h_5
 obtain ⟨rfl, h_7⟩ := asM_spec h_6
 obtain ⟨y, hy, hz⟩ := mat_ret h_7
 refine ⟨_, _, s_l02Echelon_l4_mk d2, s_l02Echelon_l4_out d2, s_l02Echelon_l4 d2, (d6, d9, d12), y, ?_, hy, ?_, s_l02Echelon_l4_step d2⟩
 ·subst hs; exact restrict_eq (T := [(0, (.imm true (.int .i64) d2)), (5, (.ref (7, 0) [])), (6, (.ref (8, 0) [])), (7, (.imm true (.int .i64) d6))]) (U := [((7, 0), some ⟨false, (.sl (.int .i64)), .own, d9⟩), ((8, 0), some ⟨false, (.sl (.int .i64)), .own, d12⟩)]) rfl rfl ⟨e1, e3, e4, e5, trivial⟩ ⟨e7, e10, trivial⟩
 ·exact Option.some.inj hz
noncomputable def s_l02Echelon_I : FnI := ⟨s_l02Echelon_b, Try.f155.results.toList, Try.f155.resultTypes.toList, s_l02Echelon_A⟩
noncomputable def s_l02Echelon_out (_zp0 : Bool) (_p0 : Int) (_p1 : (List Int)) : (List Int) → CallOut := fun r => ⟨(.ref (1, 0) []), [], [⟨false, (.sl (.int .i64)), .own, r⟩]⟩
set_option maxRecDepth 100000 in
theorem s_l02Echelon_eq : ∀ (zp0 : Bool) (p0 : Int) (p1 : (List Int)), denFn s_l02Echelon_V s_l02Echelon_I ⟨[(.imm true (.int .i64) p0), (.imm zp0 (.sl (.int .i64)) p1)], []⟩ = (s_l02Echelon p0 p1).run fun r => some (s_l02Echelon_out zp0 p0 p1 r) := fun _ _ _ => by kernel_rfl
noncomputable def s_l02Echelon_G (av : List AV) (rs : List Root) : Tre CallOut :=
 asCons av fun a0_ av0 =>
 asCons av0 fun a1_ av1 =>
 asEnd av1 <|
 asEnd rs <|
 asImmZ true (.int .i64) a0_ fun d1 =>
 asImm (.sl (.int .i64)) a1_ fun z3 d2 =>
 .mat (echB d1 d2) fun r => .ret (s_l02Echelon_out z3 d1 d2 r)
noncomputable def s_l02Echelon_c : Ctr := ⟨[], fun ci => s_l02Echelon_G ci.args ci.roots, false⟩
theorem s_l02Echelon_env : EnvOK Try.prog s_l02Echelon_V := (envOK_cons s_l00Own_ok ent97 (envOK_cons s_l02Bit_ok ent147 envOK_nil))
set_option maxRecDepth 100000 in
theorem s_l02Echelon_ok : Contract Try.prog 155 s_l02Echelon_c := by
 have hl : LoopsOK s_l02Echelon_V s_l02Echelon_A s_l02Echelon_b := (loopsOK_all (n := 4) (by kernel_rfl) fun k hk => by
   match k, hk with
   | 0, _ => exact loopOK_at (id := 4) (L := s_l02Echelon_l4_L) (by kernel_rfl) (by kernel_rfl) s_l02Echelon_l4_ok
   | 1, _ => exact loopOK_at (id := 8) (L := s_l02Echelon_l8_L) (by kernel_rfl) (by kernel_rfl) s_l02Echelon_l8_ok
   | 2, _ => exact loopOK_at (id := 16) (L := s_l02Echelon_l16_L) (by kernel_rfl) (by kernel_rfl) s_l02Echelon_l16_ok
   | 3, _ => exact loopOK_at (id := 21) (L := s_l02Echelon_l21_L) (by kernel_rfl) (by kernel_rfl) s_l02Echelon_l21_ok)
 refine (contract_of (F := s_l02Echelon_I) tau_tys s_l02Echelon_env Try.func155 (by kernel_rfl) (by kernel_rfl) (by kernel_rfl) hl []).weaken ?_
 rintro ⟨av, rs⟩ co h
 have h : (s_l02Echelon_G av rs).run some = some co := h
 obtain ⟨a0_, av0, rfl, h_0⟩ := asCons_spec h
 obtain ⟨a1_, av1, rfl, h_1⟩ := asCons_spec h_0
 obtain ⟨rfl, h_2⟩ := asEnd_spec h_1
 obtain ⟨rfl, h_3⟩ := asEnd_spec h_2
 obtain ⟨d1, rfl, h_4⟩ := asImmZ_spec h_3
 obtain ⟨z3, d2, rfl, h_5⟩ := asImm_spec h_4
 exact fin_opt (s_l02Echelon_eq z3 d1 d2) (s_l02Echelon_spec d1 d2) h_5
end Go.Proofs.Ytohnlghdhbignaa

namespace Go.Proofs.Ytohnlghdhbignaa
open Go Go.Abs Go.Proofs
noncomputable def s_l02Rank (p0 : Int) (p1 : (List Int)) : Tre Int :=
 .mat (echB p0 p1) fun r1 =>
 .ret (r1.length : Int)
noncomputable def s_l02Rank_F (p0 : Int) (p1 : (List Int)) : Option Int := (s_l02Rank p0 p1).run some
noncomputable def rankR (m : Int) (xs : List Int) : Option Int := askO (inR m 0 62 && okRows m.toNat xs) ((echI xs).length : Int)
theorem s_l02Rank_spec (p0 : Int) (p1 : List Int) (y : Int) (h : rankR p0 p1 = some y) : s_l02Rank_F p0 p1 = some y := by
 obtain ⟨hl, rfl⟩ := askO_some h
 unfold s_l02Rank_F s_l02Rank
 rw [run_some_mat (show echB p0 p1 = some _ from askO_true hl)]
 rfl
noncomputable def s_l02Rank_V : Env := ⟨tau, [(155, s_l02Echelon_c)], []⟩
noncomputable def s_l02Rank_b : Code := (Try.f148.body).getD .skip
noncomputable def s_l02Rank_I : FnI := ⟨s_l02Rank_b, Try.f148.results.toList, Try.f148.resultTypes.toList, []⟩
noncomputable def s_l02Rank_out (_zp0 : Bool) (_p0 : Int) (_p1 : (List Int)) : Int → CallOut := fun r => ⟨(.imm true (.int .i64) r), [], []⟩
set_option maxRecDepth 100000 in
theorem s_l02Rank_eq : ∀ (zp0 : Bool) (p0 : Int) (p1 : (List Int)), denFn s_l02Rank_V s_l02Rank_I ⟨[(.imm true (.int .i64) p0), (.imm zp0 (.sl (.int .i64)) p1)], []⟩ = (s_l02Rank p0 p1).run fun r => some (s_l02Rank_out zp0 p0 p1 r) := fun _ _ _ => by kernel_rfl
noncomputable def s_l02Rank_G (av : List AV) (rs : List Root) : Tre CallOut :=
 asCons av fun a0_ av0 =>
 asCons av0 fun a1_ av1 =>
 asEnd av1 <|
 asEnd rs <|
 asImmZ true (.int .i64) a0_ fun d1 =>
 asImm (.sl (.int .i64)) a1_ fun z3 d2 =>
 .mat (rankR d1 d2) fun r => .ret (s_l02Rank_out z3 d1 d2 r)
noncomputable def s_l02Rank_c : Ctr := ⟨[], fun ci => s_l02Rank_G ci.args ci.roots, false⟩
theorem s_l02Rank_env : EnvOK Try.prog s_l02Rank_V := (envOK_cons s_l02Echelon_ok ent155 envOK_nil)
set_option maxRecDepth 100000 in
theorem s_l02Rank_ok : Contract Try.prog 148 s_l02Rank_c := by
 have hl : LoopsOK s_l02Rank_V [] s_l02Rank_b := loopsOK_nil (by kernel_rfl)
 refine (contract_of (F := s_l02Rank_I) tau_tys s_l02Rank_env Try.func148 (by kernel_rfl) (by kernel_rfl) (by kernel_rfl) hl []).weaken ?_
 rintro ⟨av, rs⟩ co h
 have h : (s_l02Rank_G av rs).run some = some co := h
 obtain ⟨a0_, av0, rfl, h_0⟩ := asCons_spec h
 obtain ⟨a1_, av1, rfl, h_1⟩ := asCons_spec h_0
 obtain ⟨rfl, h_2⟩ := asEnd_spec h_1
 obtain ⟨rfl, h_3⟩ := asEnd_spec h_2
 obtain ⟨d1, rfl, h_4⟩ := asImmZ_spec h_3
 obtain ⟨z3, d2, rfl, h_5⟩ := asImm_spec h_4
 exact fin_opt (s_l02Rank_eq z3 d1 d2) (s_l02Rank_spec d1 d2) h_5
end Go.Proofs.Ytohnlghdhbignaa

namespace Go.Proofs.Ytohnlghdhbignaa
open Go Go.Abs Go.Proofs
noncomputable def s_l08Run_come_c0b8 (p0 : (Int × (Int × Unit))) (p1 : (TPlant × Unit)) (p2 : TGather) : Tre (TPlant × Unit) :=
 .ite (0 ≤ p0.1 ∧ p0.1 < (p1.1.1.length : Int)) <|
 .mat (p1.1.1[p0.1.toNat]?) fun _ =>
 .mat (p1.1.1[p0.1.toNat]?) fun x2 =>
 .mat (cloneR x2.1) fun r3 =>
 .ite ((r3.length + 1) * 8 ≤ appendMax ∧ 1 ≤ 8) <|
 .mat (rankR (s_l08Cols_9aa7_S p2) (r3 ++ ([p0.2.1]))) fun r4 =>
 .cond (decide (r4 = ((r3 ++ ([p0.2.1])).length : Int)))
  (.mat (p1.1.1[p0.1.toNat]?) fun x5 =>
  let v6 := p1.1.1.set p0.1.toNat (r3 ++ ([p0.2.1]), x5.2)
  .ret ((v6, p1.1.2), p1.2))
  (.ret p1)
noncomputable def s_l08Run_come_c0b8_F (p0 : (Int × (Int × Unit))) (p1 : (TPlant × Unit)) (p2 : TGather) : Option (TPlant × Unit) := (s_l08Run_come_c0b8 p0 p1 p2).run some
noncomputable def comeM (x : Int × Int × Unit) (st : List (List Int × List Int × Unit)) : List (List Int × List Int × Unit) :=
 match st[x.1.toNat]? with
 | none => st
 | some s => cond (decide (((echI (s.1 ++ [x.2.1])).length : Int) = ((s.1 ++ [x.2.1]).length : Int))) (st.set x.1.toNat (s.1 ++ [x.2.1], s.2)) st
def okX (g : G8) (x : Int × Int × Unit) : Bool := inR x.1 0 (statG g - 1) && okRow (colsG g) x.2.1
noncomputable def comeR (x : Int × Int × Unit) (p : P8 × Unit) (g : G8) : Option (P8 × Unit) := askO (isG g && okX g x && okP 1000 g p.1) ((comeM x p.1.1, p.1.2), ())
theorem cols_S {g : G8} (h : isG g = true) : s_l08Cols_9aa7_S g = (colsG g : Int) := by
 have h1 := isG_spec h
 rw [(colsG_le h).2]
 unfold s_l08Cols_9aa7_S
 exact iwrap_i64 (by omega) (by omega)
theorem okS_add {k b : Nat} {xs : List Int} {x : Int} (h : okS k b xs = true) (hx : okRow b x = true) : okS (k + 1) b (xs ++ [x]) = true := by
 obtain ⟨h1, h2⟩ := okS_spec.1 h
 refine okS_spec.2 ⟨by simp; omega, fun y hy => ?_⟩
 rcases List.mem_append.1 hy with hy | hy
 ·exact h2 y hy
 ·simp only [List.mem_singleton] at hy; rw [hy]; exact hx
theorem s_l08Run_come_c0b8_spec (p0 : Int × Int × Unit) (p1 : P8 × Unit) (p2 : G8) (y : P8 × Unit) (h : comeR p0 p1 p2 = some y) : s_l08Run_come_c0b8_F p0 p1 p2 = some y := by
 obtain ⟨hok, rfl⟩ := askO_some h
 simp only [Bool.and_eq_true] at hok
 obtain ⟨⟨hg, hx⟩, hp⟩ := hok
 obtain ⟨l1, l2, l3, l4⟩ := okP_spec hp
 unfold okX at hx
 rw [Bool.and_eq_true, inR_iff] at hx
 obtain ⟨⟨x0, x1⟩, hr⟩ := hx
 obtain ⟨⟨st, wi, ⟨⟩⟩, ⟨⟩⟩ := p1
 obtain ⟨t, r, ⟨⟩⟩ := p0
 simp only at *
 obtain ⟨i, rfl⟩ := Int.eq_ofNat_of_zero_le x0
 have hi : i < st.length := by omega
 obtain ⟨s, hs⟩ : ∃ s, st[i]? = some s := ⟨_, List.getElem?_eq_getElem hi⟩
 have hs1 := (l2 s (List.mem_of_getElem? hs)).1
 have hlen := (okS_spec.1 hs1).1
 unfold s_l08Run_come_c0b8_F s_l08Run_come_c0b8 comeM
 simp only [Int.toNat_natCast, hs]
 rw [Tre.run_ite, if_pos ⟨x0, by omega⟩, run_some_mat rfl, run_some_mat rfl, run_some_mat (show cloneR s.1 = some s.1 from lim_of (by omega)), Tre.run_ite, if_pos (by unfold appendMax; omega), cols_S hg]
 rw [run_some_mat (show rankR (colsG p2 : Int) (s.1 ++ [r]) = some _ from askO_true (by
  rw [Bool.and_eq_true, inR_iff, Int.toNat_natCast]
  exact ⟨by have := (colsG_le hg).1; omega, okS_rows (okS_add hs1 hr) (by omega) (Nat.le_refl _)⟩)), Tre.run_cond]
 cases decide (((echI (s.1 ++ [r])).length : Int) = ((s.1 ++ [r]).length : Int))
 ·rfl
 ·rw [cond_true, cond_true, run_some_mat rfl]; rfl
theorem comeM_ok {k : Nat} {g : G8} {p : P8} {x : Int × Int × Unit} (hp : okP k g p = true) (hx : okX g x = true) : okP (k + 1) g (comeM x p.1, p.2) = true := by
 obtain ⟨l1, l2, l3, l4⟩ := okP_spec hp
 unfold okX at hx
 rw [Bool.and_eq_true] at hx
 have h0 := okP_mono hp (Nat.le_succ k)
 unfold comeM
 cases hs : p.1[x.1.toNat]? with
 | none => exact h0
 | some s =>
  simp only
  cases decide (((echI (s.1 ++ [x.2.1])).length : Int) = ((s.1 ++ [x.2.1]).length : Int))
  ·exact h0
  ·have hm := l2 s (List.mem_of_getElem? hs)
   refine okP_mk (by simpa using l1) (fun s' hs' => ?_) l3 l4
   rcases List.mem_or_eq_of_mem_set hs' with hs' | rfl
   ·exact ⟨okS_mono (l2 s' hs').1 (Nat.le_succ k), okS_mono (l2 s' hs').2 (Nat.le_succ k)⟩
   ·exact ⟨okS_add hm.1 hx.2, okS_mono hm.2 (Nat.le_succ k)⟩
noncomputable def s_l08Run_come_c0b8_V : Env := ⟨tau, [(97, s_l00Own_c), (68, s_l08Cols_9aa7_c), (148, s_l02Rank_c)], []⟩
noncomputable def s_l08Run_come_c0b8_b : Code := (Try.f127.body).getD .skip
noncomputable def s_l08Run_come_c0b8_I : FnI := ⟨s_l08Run_come_c0b8_b, Try.f127.results.toList, Try.f127.resultTypes.toList, []⟩
noncomputable def s_l08Run_come_c0b8_out (zp0 : Bool) (_p0 : (Int × (Int × Unit))) (_p1 : (TPlant × Unit)) (p2 : TGather) : (TPlant × Unit) → CallOut := fun r => ⟨.tnil, [⟨true, kL08Run, .own, ((some (0, 1) : Option RName), r)⟩, ⟨true, kGather, (.imm zp0), p2⟩], []⟩
set_option maxRecDepth 100000 in
theorem s_l08Run_come_c0b8_eq : ∀ (zp0 : Bool) (p0 : (Int × (Int × Unit))) (p1 : (TPlant × Unit)) (p2 : TGather), denFn s_l08Run_come_c0b8_V s_l08Run_come_c0b8_I ⟨[(.ptr (0, 0) []), (.imm true kField p0)], [⟨true, kL08Run, .own, ((some (0, 1) : Option RName), p1)⟩, ⟨true, kGather, (.imm zp0), p2⟩]⟩ = (s_l08Run_come_c0b8 p0 p1 p2).run fun r => some (s_l08Run_come_c0b8_out zp0 p0 p1 p2 r) := fun _ _ _ _ => by kernel_rfl
noncomputable def s_l08Run_come_c0b8_G (av : List AV) (rs : List Root) : Tre CallOut :=
 asCons av fun a0_ av0 =>
 asCons av0 fun a1_ av1 =>
 asEnd av1 <|
 asCons rs fun r0_ rs0 =>
 asCons rs0 fun r1_ rs1 =>
 asEnd rs1 <|
 asPtr (0, 0) [] a0_ <|
 asImmZ true kField a1_ fun d1 =>
 asRt true kL08Run r0_ fun m2 d3 =>
 asM .own m2 <|
 asProd d3 fun d4 d5 =>
 asD d4 (some (0, 1) : Option RName) <|
 asRt true kGather r1_ fun m6 d7 =>
 asMImm m6 fun z8 =>
 .mat (comeR d1 d5 d7) fun r => .ret (s_l08Run_come_c0b8_out z8 d1 d5 d7 r)
noncomputable def s_l08Run_come_c0b8_c : Ctr := ⟨[], fun ci => s_l08Run_come_c0b8_G ci.args ci.roots, false⟩
theorem s_l08Run_come_c0b8_env : EnvOK Try.prog s_l08Run_come_c0b8_V := (envOK_cons s_l00Own_ok ent97 (envOK_cons s_l08Cols_9aa7_ok ent68 (envOK_cons s_l02Rank_ok ent148 envOK_nil)))
set_option maxRecDepth 100000 in
theorem s_l08Run_come_c0b8_ok : Contract Try.prog 127 s_l08Run_come_c0b8_c := by
 have hl : LoopsOK s_l08Run_come_c0b8_V [] s_l08Run_come_c0b8_b := loopsOK_nil (by kernel_rfl)
 refine (contract_of (F := s_l08Run_come_c0b8_I) tau_tys s_l08Run_come_c0b8_env Try.func127 (by kernel_rfl) (by kernel_rfl) (by kernel_rfl) hl []).weaken ?_
 rintro ⟨av, rs⟩ co h
 have h : (s_l08Run_come_c0b8_G av rs).run some = some co := h
 obtain ⟨a0_, av0, rfl, h_0⟩ := asCons_spec h
 obtain ⟨a1_, av1, rfl, h_1⟩ := asCons_spec h_0
 obtain ⟨rfl, h_2⟩ := asEnd_spec h_1
 obtain ⟨r0_, rs0, rfl, h_3⟩ := asCons_spec h_2
 obtain ⟨r1_, rs1, rfl, h_4⟩ := asCons_spec h_3
 obtain ⟨rfl, h_5⟩ := asEnd_spec h_4
 obtain ⟨rfl, h_6⟩ := asPtr_spec h_5
 obtain ⟨d1, rfl, h_7⟩ := asImmZ_spec h_6
 obtain ⟨m2, d3, rfl, h_8⟩ := asRt_spec h_7
 obtain ⟨rfl, h_9⟩ := asM_spec h_8
 obtain ⟨d4, d5, rfl, h_10⟩ := asProd_spec h_9
 obtain ⟨rfl, h_11⟩ := asD_spec h_10
 obtain ⟨m6, d7, rfl, h_12⟩ := asRt_spec h_11
 obtain ⟨z8, rfl, h_13⟩ := asMImm_spec h_12
 exact fin_opt (s_l08Run_come_c0b8_eq z8 d1 d5 d7) (s_l08Run_come_c0b8_spec d1 d5 d7) h_13
end Go.Proofs.Ytohnlghdhbignaa

namespace Go.Proofs.Ytohnlghdhbignaa
open Go Go.Abs Go.Proofs
noncomputable def s_l08Run_wire_9d6c (p0 : TDeed) (p1 : (TPlant × Unit)) (p2 : TGather) : Tre (Int × (TPlant × Unit)) :=
 .cond (decide (p0.2.1 ≥ (p1.1.2.1.length : Int)))
  (.ret (2, p1))
  (.cond (decide (p0.1 = 5))
   (.cond (decide (p0.2.2.1 = 0))
    (.ret (2, p1))
    (let v1 := iwrap .u64 (s_l08Cols_9aa7_S p2)
    .ite (0 ≤ v1) <|
    .cond (decide (p0.2.2.1 ≥ ishl .i64 1 v1))
     (.ret (2, p1))
     (.ite (0 ≤ p0.2.1 ∧ p0.2.1 < (p1.1.2.1.length : Int)) <|
     .mat (p1.1.2.1[p0.2.1.toNat]?) fun x2 =>
     let v3 := ixor .i64 x2.2.1 p0.2.2.1
     .ite (0 ≤ p0.2.1 ∧ p0.2.1 < (p1.1.2.1.length : Int)) <|
     .mat (p1.1.2.1[p0.2.1.toNat]?) fun x4 =>
     let v5 := p1.1.2.1.set p0.2.1.toNat (x4.1, (v3, x4.2.2))
     .ret (0, ((p1.1.1, (v5, p1.1.2.2)), p1.2)))))
   (.cond (decide (p0.1 = 3))
    (.ite (0 ≤ p0.2.1 ∧ p0.2.1 < (p1.1.2.1.length : Int)) <|
    .mat (p1.1.2.1[p0.2.1.toNat]?) fun x6 =>
    .mat (comeR x6 p1 p2) fun r7 =>
    .ret (0, r7))
    (.cond (decide (p0.1 = 2))
     (.ite (0 ≤ p0.2.1 ∧ p0.2.1 < (p1.1.2.1.length : Int)) <|
     .mat (p1.1.2.1[p0.2.1.toNat]?) fun x8 =>
     .mat (comeR x8 p1 p2) fun r9 =>
     .ite (0 ≤ iwrap .i64 (p0.2.1 + 1) ∧ iwrap .i64 (p0.2.1 + 1) ≤ (r9.1.2.1.length : Int) ∧ (r9.1.2.1.length : Int) ≤ (r9.1.2.1.length : Int)) <|
     .ite ((0 + ((r9.1.2.1.drop ((iwrap .i64 (p0.2.1 + 1)).toNat)).take (((r9.1.2.1.length : Int) - (iwrap .i64 (p0.2.1 + 1))).toNat)).length) * 16 ≤ appendMax ∧ 1 ≤ 16) <|
     let v10 := [] ++ ((r9.1.2.1.drop ((iwrap .i64 (p0.2.1 + 1)).toNat)).take (((r9.1.2.1.length : Int) - (iwrap .i64 (p0.2.1 + 1))).toNat))
     .ite (0 ≤ (0 : Int) ∧ (0 : Int) ≤ p0.2.1 ∧ p0.2.1 ≤ (r9.1.2.1.length : Int)) <|
     .ite ((0 + ((r9.1.2.1.drop 0).take ((p0.2.1 - 0).toNat)).length) * 16 ≤ appendMax ∧ 1 ≤ 16) <|
     let v11 := [] ++ ((r9.1.2.1.drop 0).take ((p0.2.1 - 0).toNat))
     .ite ((v11.length + v10.length) * 16 ≤ appendMax ∧ 1 ≤ 16) <|
     .ret (0, ((r9.1.1, (v11 ++ v10, r9.1.2.2)), r9.2)))
     (.ite (0 ≤ iwrap .i64 (p0.2.1 + 1) ∧ iwrap .i64 (p0.2.1 + 1) ≤ (p1.1.2.1.length : Int) ∧ (p1.1.2.1.length : Int) ≤ (p1.1.2.1.length : Int)) <|
     .ite ((0 + ((p1.1.2.1.drop ((iwrap .i64 (p0.2.1 + 1)).toNat)).take (((p1.1.2.1.length : Int) - (iwrap .i64 (p0.2.1 + 1))).toNat)).length) * 16 ≤ appendMax ∧ 1 ≤ 16) <|
     let v12 := [] ++ ((p1.1.2.1.drop ((iwrap .i64 (p0.2.1 + 1)).toNat)).take (((p1.1.2.1.length : Int) - (iwrap .i64 (p0.2.1 + 1))).toNat))
     .ite (0 ≤ (0 : Int) ∧ (0 : Int) ≤ p0.2.1 ∧ p0.2.1 ≤ (p1.1.2.1.length : Int)) <|
     .ite ((0 + ((p1.1.2.1.drop 0).take ((p0.2.1 - 0).toNat)).length) * 16 ≤ appendMax ∧ 1 ≤ 16) <|
     let v13 := [] ++ ((p1.1.2.1.drop 0).take ((p0.2.1 - 0).toNat))
     .ite ((v13.length + v12.length) * 16 ≤ appendMax ∧ 1 ≤ 16) <|
     .ret (0, ((p1.1.1, (v13 ++ v12, p1.1.2.2)), p1.2))))))
noncomputable def s_l08Run_wire_9d6c_F (p0 : TDeed) (p1 : (TPlant × Unit)) (p2 : TGather) : Option (Int × (TPlant × Unit)) := (s_l08Run_wire_9d6c p0 p1 p2).run some
noncomputable def wireM (g : G8) (d : D8) (p : P8) : Int × P8 :=
 cond (decide (d.2.1 ≥ (p.2.1.length : Int))) (2, p)
  (match p.2.1[d.2.1.toNat]? with
   | none => (2, p)
   | some x => cond (decide (d.1 = 5))
     (cond (decide (d.2.2.1 = 0) || decide (d.2.2.1 ≥ ishl .i64 1 (colsG g : Int))) (2, p) (0, (p.1, p.2.1.set d.2.1.toNat (x.1, ixor .i64 x.2.1 d.2.2.1, ()), ())))
     (0, (cond (decide (d.1 = 4)) p.1 (comeM x p.1), cond (decide (d.1 = 3)) p.2.1 (p.2.1.take d.2.1.toNat ++ p.2.1.drop (d.2.1.toNat + 1)), ())))
noncomputable def wireR (d : D8) (p : P8 × Unit) (g : G8) : Option (Int × (P8 × Unit)) := askO (isG g && vDeed d && inR d.1 2 5 && okP 1000 g p.1) ((wireM g d p.1).1, (wireM g d p.1).2, ())
theorem okX_of {k : Nat} {g : G8} {p : P8} {i : Nat} {x : Int × Int × Unit} (hp : okP k g p = true) (hx : p.2.1[i]? = some x) : okX g x = true := by
 have h := (okP_spec hp).2.2.2 x (List.mem_of_getElem? hx)
 unfold okX
 rw [Bool.and_eq_true, inR_iff]; exact h
theorem s_l08Run_wire_9d6c_spec (p0 : D8) (p1 : P8 × Unit) (p2 : G8) (y : Int × (P8 × Unit)) (h : wireR p0 p1 p2 = some y) : s_l08Run_wire_9d6c_F p0 p1 p2 = some y := by
 obtain ⟨hok, rfl⟩ := askO_some h
 simp only [Bool.and_eq_true] at hok
 obtain ⟨⟨⟨hg, hd⟩, hk⟩, hp⟩ := hok
 obtain ⟨⟨a0, a1⟩, ⟨b0, b1⟩, ⟨c0, c1⟩, _⟩ := vDeed_rng hd
 have hp0 := hp
 obtain ⟨l1, l2, l3, l4⟩ := okP_spec hp
 obtain ⟨⟨st, wi, ⟨⟩⟩, ⟨⟩⟩ := p1
 obtain ⟨kk, a, b, c, ⟨⟩⟩ := p0
 have hc := colsG_le hg
 have hw : iwrap .u64 (s_l08Cols_9aa7_S p2) = (colsG p2 : Int) := by rw [cols_S hg]; exact iwrap_u64 (by omega) (by omega)
 unfold s_l08Run_wire_9d6c_F s_l08Run_wire_9d6c wireM
 simp only at *
 by_cases h1 : a ≥ (wi.length : Int)
 ·simp only [Tre.run_cond, decide_eq_true h1, cond_true, Tre.run_ret]
 obtain ⟨i, rfl⟩ := Int.eq_ofNat_of_zero_le a0
 have hi : i < wi.length := by omega
 obtain ⟨x, hx⟩ : ∃ x, wi[i]? = some x := ⟨_, List.getElem?_eq_getElem hi⟩
 have hxx : okX p2 x = true := okX_of hp0 hx
 have hcome : comeR x ((st, wi, ()), ()) p2 = some ((comeM x st, wi, ()), ()) := askO_true (by rw [Bool.and_eq_true, Bool.and_eq_true]; exact ⟨⟨hg, hxx⟩, hp0⟩)
 have hi1 : iwrap .i64 ((i : Int) + 1) = ((i + 1 : Nat) : Int) := iwrap_succ (by omega)
 have hin : 0 ≤ (i : Int) ∧ (i : Int) < (wi.length : Int) := ⟨a0, by omega⟩
 have e1 : (wi.drop (i + 1)).take ((wi.length : Int) - ((i + 1 : Nat) : Int)).toNat = wi.drop (i + 1) := List.take_of_length_le (by rw [List.length_drop]; omega)
 have e2 : (wi.drop 0).take ((i : Int) - 0).toNat = wi.take i := by rw [List.drop_zero, Int.sub_zero, Int.toNat_natCast]
 have e3 : (wi.drop (i + 1)).length ≤ 12 := by rw [List.length_drop]; omega
 have e4 : (wi.take i).length ≤ 12 := by rw [List.length_take]; omega
 have hk : kk = 2 ∨ kk = 3 ∨ kk = 4 ∨ kk = 5 := by rw [inR_iff] at hk; omega
 have c1' : 0 ≤ ((i + 1 : Nat) : Int) ∧ ((i + 1 : Nat) : Int) ≤ (wi.length : Int) ∧ (wi.length : Int) ≤ (wi.length : Int) := by omega
 have c2' : 0 ≤ (0 : Int) ∧ (0 : Int) ≤ (i : Int) ∧ (i : Int) ≤ (wi.length : Int) := by omega
 have c3' : (0 + (wi.drop (i + 1)).length) * 16 ≤ appendMax ∧ 1 ≤ 16 := by unfold appendMax; omega
 have c4' : (0 + (wi.take i).length) * 16 ≤ appendMax ∧ 1 ≤ 16 := by unfold appendMax; omega
 have c5' : ((wi.take i).length + (wi.drop (i + 1)).length) * 16 ≤ appendMax ∧ 1 ≤ 16 := by unfold appendMax; omega
 rw [Tre.run_cond, decide_eq_false h1, cond_false, cond_false]
 simp only [Int.toNat_natCast, hx]
 rcases hk with rfl | rfl | rfl | rfl
 ·rw [Tre.run_cond, show decide ((2 : Int) = 5) = false from rfl, show decide ((2 : Int) = 3) = false from rfl, show decide ((2 : Int) = 4) = false from rfl, show decide ((2 : Int) = 2) = true from rfl, cond_false, Tre.run_cond, cond_false, Tre.run_cond, cond_true, Tre.run_ite, if_pos hin, run_some_mat rfl, run_some_mat hcome]
  simp only [hi1, Int.toNat_natCast, e1, e2, List.nil_append]
  rw [Tre.run_ite, if_pos c1', Tre.run_ite, if_pos c3', Tre.run_ite, if_pos c2', Tre.run_ite, if_pos c4', Tre.run_ite, if_pos c5', Tre.run_ret]
  rfl
 ·rw [Tre.run_cond, show decide ((3 : Int) = 5) = false from rfl, show decide ((3 : Int) = 3) = true from rfl, show decide ((3 : Int) = 4) = false from rfl, cond_false, Tre.run_cond, cond_true, Tre.run_ite, if_pos hin, run_some_mat rfl, run_some_mat hcome]
  rfl
 ·rw [Tre.run_cond, show decide ((4 : Int) = 5) = false from rfl, show decide ((4 : Int) = 3) = false from rfl, show decide ((4 : Int) = 2) = false from rfl, cond_false, Tre.run_cond, cond_false, Tre.run_cond, cond_false]
  simp only [hi1, Int.toNat_natCast, e1, e2, List.nil_append]
  rw [Tre.run_ite, if_pos c1', Tre.run_ite, if_pos c3', Tre.run_ite, if_pos c2', Tre.run_ite, if_pos c4', Tre.run_ite, if_pos c5', Tre.run_ret]
  rfl
 ·rw [Tre.run_cond, show decide ((5 : Int) = 5) = true from rfl, cond_true, Tre.run_cond]
  by_cases hb : b = 0
  ·simp only [decide_eq_true hb, cond_true, Tre.run_ret, Bool.true_or]
  ·rw [decide_eq_false hb, cond_false]
   simp only [hw]
   rw [Tre.run_ite, if_pos (by omega), Tre.run_cond]
   cases decide (b ≥ ishl .i64 1 (colsG p2 : Int))
   ·rw [cond_false, Tre.run_ite, if_pos hin, run_some_mat rfl]
    rw [Tre.run_ite, if_pos hin, run_some_mat rfl]
    rfl
   ·rfl
theorem shl_cols {b : Nat} (hb : b ≤ 10) : ishl .i64 1 (b : Int) = ((2 ^ b : Nat) : Int) := by
 have h := pow_le hb
 unfold ishl
 rw [Int.toNat_natCast, Nat.min_eq_left (by show b ≤ 64; omega)]
 have h2 : ((1 : Int) * 2 ^ b) = ((2 ^ b : Nat) : Int) := by rw [Int.one_mul]; simp
 rw [h2]
 have h3 : 2 ^ b ≤ 1024 := h
 generalize 2 ^ b = n at h3
 exact iwrap_i64 (by omega) (by omega)
theorem okRow_nat {b : Nat} {x : Int} : okRow b x = true ↔ ∃ n : Nat, x = (n : Int) ∧ n < 2 ^ b := by
 unfold okRow
 simp only [Bool.and_eq_true, decide_eq_true_eq]
 constructor
 ·rintro ⟨h1, h2⟩
  exact ⟨x.toNat, by omega, by omega⟩
 ·rintro ⟨n, rfl, h⟩
  omega
theorem wireM_ok {k : Nat} {g : G8} {d : D8} {p : P8} (hg : isG g = true) (hd : vDeed d = true) (hp : okP k g p = true) : okP (k + 1) g (wireM g d p).2 = true := by
 obtain ⟨l1, l2, l3, l4⟩ := okP_spec hp
 have h0 := okP_mono hp (Nat.le_succ k)
 have hc := (colsG_le hg).1
 obtain ⟨_, ⟨b0, _⟩, _, _⟩ := vDeed_rng hd
 unfold wireM
 cases decide (d.2.1 ≥ (p.2.1.length : Int))
 case true => exact h0
 simp only [cond_false]
 cases hx : p.2.1[d.2.1.toNat]? with
 | none => exact h0
 | some x =>
  have hxx : okX g x = true := okX_of hp hx
  simp only
  cases decide (d.1 = 5)
  ·simp only [cond_false]
   have hcm := comeM_ok hp hxx
   obtain ⟨m1, m2, m3, m4⟩ := okP_spec hcm
   have hst : ∀ q : Bool, ((cond q p.1 (comeM x p.1)).length : Int) = statG g ∧ ∀ s ∈ cond q p.1 (comeM x p.1), okS (k + 1) (colsG g) s.1 = true ∧ okS (k + 1) (colsG g) s.2.1 = true := by
    intro q
    cases q
    ·exact ⟨m1, m2⟩
    ·exact ⟨l1, (okP_spec h0).2.1⟩
   refine okP_mk (hst _).1 (hst _).2 ?_ ?_
   ·show (cond (decide (d.1 = 3)) p.2.1 (p.2.1.take d.2.1.toNat ++ p.2.1.drop (d.2.1.toNat + 1))).length ≤ 12
    cases decide (d.1 = 3)
    ·simp; omega
    ·exact l3
   ·intro z hz
    refine l4 z ?_
    have hz : z ∈ cond (decide (d.1 = 3)) p.2.1 (p.2.1.take d.2.1.toNat ++ p.2.1.drop (d.2.1.toNat + 1)) := hz
    revert hz
    cases decide (d.1 = 3)
    ·intro hz
     rcases List.mem_append.1 hz with hz | hz
     ·exact List.mem_of_mem_take hz
     ·exact List.mem_of_mem_drop hz
    ·exact id
  ·simp only [cond_true]
   by_cases hb : (decide (d.2.2.1 = 0) || decide (d.2.2.1 ≥ ishl .i64 1 (colsG g : Int))) = true
   ·rw [hb]; exact h0
   ·rw [Bool.not_eq_true] at hb
    rw [hb]
    rw [Bool.or_eq_false_iff] at hb
    have h2 := of_decide_eq_false hb.2
    rw [shl_cols hc] at h2
    unfold okX at hxx
    rw [Bool.and_eq_true, inR_iff] at hxx
    obtain ⟨n, hn, hn2⟩ := okRow_nat.1 hxx.2
    obtain ⟨m, hm⟩ := Int.eq_ofNat_of_zero_le b0
    have hp2 := pow_le (c := 62) (b := colsG g) (by omega)
    refine okP_mk l1 (okP_spec h0).2.1 (by simpa using l3) ?_
    intro z hz
    rcases List.mem_or_eq_of_mem_set hz with hz | rfl
    ·exact l4 z hz
    ·refine ⟨hxx.1, okRow_nat.2 ⟨n ^^^ m, ?_, Nat.xor_lt_two_pow hn2 (by omega)⟩⟩
     show ixor .i64 x.2.1 d.2.2.1 = _
     rw [hn, hm, ixor_nat (by omega) (by omega)]
noncomputable def s_l08Run_wire_9d6c_V : Env := ⟨tau, [(68, s_l08Cols_9aa7_c), (127, s_l08Run_come_c0b8_c)], []⟩
noncomputable def s_l08Run_wire_9d6c_b : Code := (Try.f96.body).getD .skip
noncomputable def s_l08Run_wire_9d6c_I : FnI := ⟨s_l08Run_wire_9d6c_b, Try.f96.results.toList, Try.f96.resultTypes.toList, []⟩
noncomputable def s_l08Run_wire_9d6c_out (zp0 : Bool) (_p0 : TDeed) (_p1 : (TPlant × Unit)) (p2 : TGather) : (Int × (TPlant × Unit)) → CallOut := fun r => ⟨(.imm true (.int .i64) r.1), [⟨true, kL08Run, .own, ((some (0, 1) : Option RName), r.2)⟩, ⟨true, kGather, (.imm zp0), p2⟩], []⟩
set_option maxRecDepth 100000 in
theorem s_l08Run_wire_9d6c_eq : ∀ (zp0 : Bool) (p0 : TDeed) (p1 : (TPlant × Unit)) (p2 : TGather), denFn s_l08Run_wire_9d6c_V s_l08Run_wire_9d6c_I ⟨[(.ptr (0, 0) []), (.imm true kDeed p0)], [⟨true, kL08Run, .own, ((some (0, 1) : Option RName), p1)⟩, ⟨true, kGather, (.imm zp0), p2⟩]⟩ = (s_l08Run_wire_9d6c p0 p1 p2).run fun r => some (s_l08Run_wire_9d6c_out zp0 p0 p1 p2 r) := fun _ _ _ _ => by kernel_rfl
noncomputable def s_l08Run_wire_9d6c_G (av : List AV) (rs : List Root) : Tre CallOut :=
 asCons av fun a0_ av0 =>
 asCons av0 fun a1_ av1 =>
 asEnd av1 <|
 asCons rs fun r0_ rs0 =>
 asCons rs0 fun r1_ rs1 =>
 asEnd rs1 <|
 asPtr (0, 0) [] a0_ <|
 asImmZ true kDeed a1_ fun d1 =>
 asRt true kL08Run r0_ fun m2 d3 =>
 asM .own m2 <|
 asProd d3 fun d4 d5 =>
 asD d4 (some (0, 1) : Option RName) <|
 asRt true kGather r1_ fun m6 d7 =>
 asMImm m6 fun z8 =>
 .mat (wireR d1 d5 d7) fun r => .ret (s_l08Run_wire_9d6c_out z8 d1 d5 d7 r)
noncomputable def s_l08Run_wire_9d6c_c : Ctr := ⟨[], fun ci => s_l08Run_wire_9d6c_G ci.args ci.roots, false⟩
theorem s_l08Run_wire_9d6c_env : EnvOK Try.prog s_l08Run_wire_9d6c_V := (envOK_cons s_l08Cols_9aa7_ok ent68 (envOK_cons s_l08Run_come_c0b8_ok ent127 envOK_nil))
set_option maxRecDepth 100000 in
theorem s_l08Run_wire_9d6c_ok : Contract Try.prog 96 s_l08Run_wire_9d6c_c := by
 have hl : LoopsOK s_l08Run_wire_9d6c_V [] s_l08Run_wire_9d6c_b := loopsOK_nil (by kernel_rfl)
 refine (contract_of (F := s_l08Run_wire_9d6c_I) tau_tys s_l08Run_wire_9d6c_env Try.func96 (by kernel_rfl) (by kernel_rfl) (by kernel_rfl) hl []).weaken ?_
 rintro ⟨av, rs⟩ co h
 have h : (s_l08Run_wire_9d6c_G av rs).run some = some co := h
 obtain ⟨a0_, av0, rfl, h_0⟩ := asCons_spec h
 obtain ⟨a1_, av1, rfl, h_1⟩ := asCons_spec h_0
 obtain ⟨rfl, h_2⟩ := asEnd_spec h_1
 obtain ⟨r0_, rs0, rfl, h_3⟩ := asCons_spec h_2
 obtain ⟨r1_, rs1, rfl, h_4⟩ := asCons_spec h_3
 obtain ⟨rfl, h_5⟩ := asEnd_spec h_4
 obtain ⟨rfl, h_6⟩ := asPtr_spec h_5
 obtain ⟨d1, rfl, h_7⟩ := asImmZ_spec h_6
 obtain ⟨m2, d3, rfl, h_8⟩ := asRt_spec h_7
 obtain ⟨rfl, h_9⟩ := asM_spec h_8
 obtain ⟨d4, d5, rfl, h_10⟩ := asProd_spec h_9
 obtain ⟨rfl, h_11⟩ := asD_spec h_10
 obtain ⟨m6, d7, rfl, h_12⟩ := asRt_spec h_11
 obtain ⟨z8, rfl, h_13⟩ := asMImm_spec h_12
 exact fin_opt (s_l08Run_wire_9d6c_eq z8 d1 d5 d7) (s_l08Run_wire_9d6c_spec d1 d5 d7) h_13
end Go.Proofs.Ytohnlghdhbignaa

namespace Go.Proofs.Ytohnlghdhbignaa
open Go Go.Abs Go.Proofs
noncomputable def s_l08Run_do_9d6c (p0 : TDeed) (p1 : (TPlant × Unit)) (p2 : TGather) : Tre (Int × (TPlant × Unit)) :=
 .cond (decide (p0.1 = 1))
  (.mat (sendR p0 p1 p2) fun r1 =>
  .ret (r1.1, r1.2))
  (.cond (decide (p0.1 = 2))
   (.cond (decide (p0.1 = 2))
    (.mat (wireR p0 p1 p2) fun r2 =>
    .ret (r2.1, r2.2))
    (.cond (decide (p0.2.1 ≥ (p1.1.1.length : Int)))
     (.ret (2, p1))
     (.ite (0 ≤ p0.2.1 ∧ p0.2.1 < (p1.1.1.length : Int)) <|
     .cond (decide (p0.1 = 6))
      (.mat (p1.1.1[p0.2.1.toNat]?) fun _ =>
      .mat (p1.1.1[p0.2.1.toNat]?) fun x4 =>
      .mat (cloneR x4.1) fun r5 =>
      .mat (p1.1.1[p0.2.1.toNat]?) fun x6 =>
      let v7 := p1.1.1.set p0.2.1.toNat (x6.1, (r5, x6.2.2))
      .ret (0, ((v7, p1.1.2), p1.2)))
      (.cond (decide (p0.1 = 7))
       (.mat (p1.1.1[p0.2.1.toNat]?) fun _ =>
       .mat (p1.1.1[p0.2.1.toNat]?) fun x9 =>
       .mat (cloneR x9.2.1) fun r10 =>
       .mat (p1.1.1[p0.2.1.toNat]?) fun x11 =>
       let v12 := p1.1.1.set p0.2.1.toNat (r10, x11.2)
       .ret (0, ((v12, p1.1.2), p1.2)))
       (.mat (p1.1.1[p0.2.1.toNat]?) fun x13 =>
       let v14 := p1.1.1.set p0.2.1.toNat ([], x13.2)
       .ret (0, ((v14, p1.1.2), p1.2)))))))
   (.cond (decide (p0.1 = 3))
    (.cond (decide (p0.1 = 3))
     (.mat (wireR p0 p1 p2) fun r15 =>
     .ret (r15.1, r15.2))
     (.cond (decide (p0.2.1 ≥ (p1.1.1.length : Int)))
      (.ret (2, p1))
      (.ite (0 ≤ p0.2.1 ∧ p0.2.1 < (p1.1.1.length : Int)) <|
      .cond (decide (p0.1 = 6))
       (.mat (p1.1.1[p0.2.1.toNat]?) fun _ =>
       .mat (p1.1.1[p0.2.1.toNat]?) fun x17 =>
       .mat (cloneR x17.1) fun r18 =>
       .mat (p1.1.1[p0.2.1.toNat]?) fun x19 =>
       let v20 := p1.1.1.set p0.2.1.toNat (x19.1, (r18, x19.2.2))
       .ret (0, ((v20, p1.1.2), p1.2)))
       (.cond (decide (p0.1 = 7))
        (.mat (p1.1.1[p0.2.1.toNat]?) fun _ =>
        .mat (p1.1.1[p0.2.1.toNat]?) fun x22 =>
        .mat (cloneR x22.2.1) fun r23 =>
        .mat (p1.1.1[p0.2.1.toNat]?) fun x24 =>
        let v25 := p1.1.1.set p0.2.1.toNat (r23, x24.2)
        .ret (0, ((v25, p1.1.2), p1.2)))
        (.mat (p1.1.1[p0.2.1.toNat]?) fun x26 =>
        let v27 := p1.1.1.set p0.2.1.toNat ([], x26.2)
        .ret (0, ((v27, p1.1.2), p1.2)))))))
    (.cond (decide (p0.1 = 4))
     (.cond (decide (p0.1 = 4))
      (.mat (wireR p0 p1 p2) fun r28 =>
      .ret (r28.1, r28.2))
      (.cond (decide (p0.2.1 ≥ (p1.1.1.length : Int)))
       (.ret (2, p1))
       (.ite (0 ≤ p0.2.1 ∧ p0.2.1 < (p1.1.1.length : Int)) <|
       .cond (decide (p0.1 = 6))
        (.mat (p1.1.1[p0.2.1.toNat]?) fun _ =>
        .mat (p1.1.1[p0.2.1.toNat]?) fun x30 =>
        .mat (cloneR x30.1) fun r31 =>
        .mat (p1.1.1[p0.2.1.toNat]?) fun x32 =>
        let v33 := p1.1.1.set p0.2.1.toNat (x32.1, (r31, x32.2.2))
        .ret (0, ((v33, p1.1.2), p1.2)))
        (.cond (decide (p0.1 = 7))
         (.mat (p1.1.1[p0.2.1.toNat]?) fun _ =>
         .mat (p1.1.1[p0.2.1.toNat]?) fun x35 =>
         .mat (cloneR x35.2.1) fun r36 =>
         .mat (p1.1.1[p0.2.1.toNat]?) fun x37 =>
         let v38 := p1.1.1.set p0.2.1.toNat (r36, x37.2)
         .ret (0, ((v38, p1.1.2), p1.2)))
         (.mat (p1.1.1[p0.2.1.toNat]?) fun x39 =>
         let v40 := p1.1.1.set p0.2.1.toNat ([], x39.2)
         .ret (0, ((v40, p1.1.2), p1.2)))))))
     (.cond (decide (p0.1 = 5))
      (.mat (wireR p0 p1 p2) fun r41 =>
      .ret (r41.1, r41.2))
      (.cond (decide (p0.2.1 ≥ (p1.1.1.length : Int)))
       (.ret (2, p1))
       (.ite (0 ≤ p0.2.1 ∧ p0.2.1 < (p1.1.1.length : Int)) <|
       .cond (decide (p0.1 = 6))
        (.mat (p1.1.1[p0.2.1.toNat]?) fun _ =>
        .mat (p1.1.1[p0.2.1.toNat]?) fun x43 =>
        .mat (cloneR x43.1) fun r44 =>
        .mat (p1.1.1[p0.2.1.toNat]?) fun x45 =>
        let v46 := p1.1.1.set p0.2.1.toNat (x45.1, (r44, x45.2.2))
        .ret (0, ((v46, p1.1.2), p1.2)))
        (.cond (decide (p0.1 = 7))
         (.mat (p1.1.1[p0.2.1.toNat]?) fun _ =>
         .mat (p1.1.1[p0.2.1.toNat]?) fun x48 =>
         .mat (cloneR x48.2.1) fun r49 =>
         .mat (p1.1.1[p0.2.1.toNat]?) fun x50 =>
         let v51 := p1.1.1.set p0.2.1.toNat (r49, x50.2)
         .ret (0, ((v51, p1.1.2), p1.2)))
         (.mat (p1.1.1[p0.2.1.toNat]?) fun x52 =>
         let v53 := p1.1.1.set p0.2.1.toNat ([], x52.2)
         .ret (0, ((v53, p1.1.2), p1.2))))))))))
noncomputable def s_l08Run_do_9d6c_F (p0 : TDeed) (p1 : (TPlant × Unit)) (p2 : TGather) : Option (Int × (TPlant × Unit)) := (s_l08Run_do_9d6c p0 p1 p2).run some
noncomputable def doM (g : G8) (d : D8) (p : P8) : Int × P8 :=
 cond (decide (d.1 = 1)) (sendM d p) (cond (inR d.1 2 5) (wireM g d p) (cond (decide (d.2.1 ≥ (p.1.length : Int))) (2, p)
  (match p.1[d.2.1.toNat]? with
   | none => (2, p)
   | some s => (0, (p.1.set d.2.1.toNat (cond (decide (d.1 = 6)) (s.1, s.1, ()) (cond (decide (d.1 = 7)) (s.2.1, s.2) ([], s.2))), p.2)))))
noncomputable def doR (d : D8) (p : P8 × Unit) (g : G8) : Option (Int × (P8 × Unit)) := askO (isG g && vDeed d && okP 1000 g p.1) ((doM g d p.1).1, (doM g d p.1).2, ())
theorem s_l08Run_do_9d6c_spec (p0 : D8) (p1 : P8 × Unit) (p2 : G8) (y : Int × (P8 × Unit)) (h : doR p0 p1 p2 = some y) : s_l08Run_do_9d6c_F p0 p1 p2 = some y := by
 obtain ⟨hok, rfl⟩ := askO_some h
 have hsend : sendR p0 p1 p2 = some _ := askO_true hok
 have hwire : inR p0.1 2 5 = true → wireR p0 p1 p2 = some _ := fun hk => askO_true (by
  simp only [Bool.and_eq_true] at hok ⊢
  exact ⟨⟨hok.1, hk⟩, hok.2⟩)
 simp only [Bool.and_eq_true] at hok
 obtain ⟨⟨hg, hd⟩, hp⟩ := hok
 obtain ⟨⟨a0, a1⟩, _, _, hk⟩ := vDeed_rng hd
 obtain ⟨l1, l2, l3, l4⟩ := okP_spec hp
 obtain ⟨kk, a, b, c, ⟨⟩⟩ := p0
 unfold s_l08Run_do_9d6c_F s_l08Run_do_9d6c doM
 simp only at *
 rcases kind_cases hk with rfl | rfl | rfl | rfl | rfl | rfl | rfl | rfl
 ·rw [Tre.run_cond, show decide ((1 : Int) = 1) = true from rfl, cond_true, run_some_mat hsend]; rfl
 ·simp only [Tre.run_cond, show decide ((2 : Int) = 1) = false from rfl, show decide ((2 : Int) = 2) = true from rfl, cond_true, cond_false]
  rw [run_some_mat (hwire rfl)]; rfl
 ·simp only [Tre.run_cond, show decide ((3 : Int) = 1) = false from rfl, show decide ((3 : Int) = 2) = false from rfl, show decide ((3 : Int) = 3) = true from rfl, cond_true, cond_false]
  rw [run_some_mat (hwire rfl)]; rfl
 ·simp only [Tre.run_cond, show decide ((4 : Int) = 1) = false from rfl, show decide ((4 : Int) = 2) = false from rfl, show decide ((4 : Int) = 3) = false from rfl, show decide ((4 : Int) = 4) = true from rfl, cond_true, cond_false]
  rw [run_some_mat (hwire rfl)]; rfl
 ·simp only [Tre.run_cond, show decide ((5 : Int) = 1) = false from rfl, show decide ((5 : Int) = 2) = false from rfl, show decide ((5 : Int) = 3) = false from rfl, show decide ((5 : Int) = 4) = false from rfl, show decide ((5 : Int) = 5) = true from rfl, cond_true, cond_false]
  rw [run_some_mat (hwire rfl)]; rfl
 all_goals
  simp only [Tre.run_cond, show decide ((6 : Int) = 1) = false from rfl, show decide ((6 : Int) = 2) = false from rfl, show decide ((6 : Int) = 3) = false from rfl, show decide ((6 : Int) = 4) = false from rfl, show decide ((6 : Int) = 5) = false from rfl, show decide ((6 : Int) = 6) = true from rfl, show inR 6 2 5 = false from rfl,
   show decide ((7 : Int) = 1) = false from rfl, show decide ((7 : Int) = 2) = false from rfl, show decide ((7 : Int) = 3) = false from rfl, show decide ((7 : Int) = 4) = false from rfl, show decide ((7 : Int) = 5) = false from rfl, show decide ((7 : Int) = 6) = false from rfl, show decide ((7 : Int) = 7) = true from rfl, show inR 7 2 5 = false from rfl,
   show decide ((8 : Int) = 1) = false from rfl, show decide ((8 : Int) = 2) = false from rfl, show decide ((8 : Int) = 3) = false from rfl, show decide ((8 : Int) = 4) = false from rfl, show decide ((8 : Int) = 5) = false from rfl, show decide ((8 : Int) = 6) = false from rfl, show decide ((8 : Int) = 7) = false from rfl, show inR 8 2 5 = false from rfl, cond_true, cond_false]
  by_cases h1 : a ≥ (p1.1.1.length : Int)
  ·rw [decide_eq_true h1]; rfl
  obtain ⟨i, rfl⟩ := Int.eq_ofNat_of_zero_le a0
  have hi : i < p1.1.1.length := by omega
  obtain ⟨s, hs⟩ : ∃ s, p1.1.1[i]? = some s := ⟨_, List.getElem?_eq_getElem hi⟩
  have hm := l2 s (List.mem_of_getElem? hs)
  have k1 := (okS_spec.1 hm.1).1
  have k2 := (okS_spec.1 hm.2).1
  have c1 : cloneR s.1 = some s.1 := lim_of (by omega)
  have c2 : cloneR s.2.1 = some s.2.1 := lim_of (by omega)
  rw [decide_eq_false h1, cond_false, cond_false]
  simp only [Int.toNat_natCast, hs]
  rw [Tre.run_ite, if_pos ⟨a0, by omega⟩]
  try simp only [decide_true]
 ·rw [Tre.run_cond, cond_true, run_some_mat rfl, run_some_mat rfl, run_some_mat c1, run_some_mat rfl]; rfl
 ·rw [Tre.run_cond, cond_false, Tre.run_cond, cond_true, run_some_mat rfl, run_some_mat rfl, run_some_mat c2, run_some_mat rfl]; rfl
 ·rw [Tre.run_cond, cond_false, Tre.run_cond, cond_false, run_some_mat rfl]; rfl
theorem times_ok {k b : Nat} {a : Int} {xs : List Int} (hb : b ≤ 62) (h : okS k b xs = true) : okRow b (timesL a xs) = true := by
 obtain ⟨_, h2⟩ := okS_spec.1 h
 have hx : ∃ ns : List Nat, xs = up ns ∧ ∀ n ∈ ns, n < 2 ^ b := by
  refine ⟨xs.map Int.toNat, ?_, ?_⟩
  ·unfold up
   rw [List.map_map]
   refine ((List.map_congr_left fun x hx => ?_).trans (List.map_id _)).symm
   obtain ⟨n, rfl, _⟩ := okRow_nat.1 (h2 x hx)
   rfl
  ·intro n hn
   obtain ⟨x, hx, rfl⟩ := List.mem_map.1 hn
   obtain ⟨m, rfl, hm⟩ := okRow_nat.1 (h2 x hx)
   exact hm
 obtain ⟨ns, rfl, hn⟩ := hx
 obtain ⟨t, h1, h2⟩ := timesL_nat a hb ns 0 0 (Nat.two_pow_pos b) hn
 exact okRow_nat.2 ⟨t, h1, h2⟩
theorem sendM_ok {k : Nat} {g : G8} {d : D8} {p : P8} (hg : isG g = true) (hd : vDeed d = true) (hp : okP k g p = true) : okP (k + 1) g (sendM d p).2 = true := by
 obtain ⟨l1, l2, l3, l4⟩ := okP_spec hp
 have h0 := okP_mono hp (Nat.le_succ k)
 have hc := (colsG_le hg).1
 obtain ⟨_, ⟨b0, _⟩, _, _⟩ := vDeed_rng hd
 unfold sendM
 by_cases h1 : d.2.1 ≥ (p.1.length : Int)
 ·rw [decide_eq_true h1]; exact h0
 by_cases h2 : d.2.2.1 ≥ (p.1.length : Int)
 ·rw [decide_eq_true h2, Bool.true_or, Bool.or_true]; exact h0
 rw [decide_eq_false h1, decide_eq_false h2, Bool.false_or, Bool.false_or]
 cases (decide (d.2.1 = d.2.2.1) || decide (d.2.2.1 = 0))
 case true => exact h0
 rw [cond_false]
 cases hs : p.1[d.2.1.toNat]? with
 | none => exact h0
 | some s =>
  simp only
  cases decide (d.2.2.2.1 ≥ ishl .i64 1 (s.1.length : Int))
  case true => exact h0
  cases decide (d.2.2.2.1 = 0)
  case true => exact h0
  by_cases h5 : (p.2.1.length : Int) = 12
  ·rw [decide_eq_true h5]; exact h0
  rw [decide_eq_false h5]
  simp only [cond_false]
  have hm := l2 s (List.mem_of_getElem? hs)
  refine okP_mk l1 (okP_spec h0).2.1 (by simp; omega) (fun x hx => ?_)
  rcases List.mem_append.1 hx with hx | hx
  ·exact l4 x hx
  ·simp only [List.mem_singleton] at hx
   subst hx
   exact ⟨⟨b0, by omega⟩, times_ok (by omega) hm.1⟩
theorem doM_ok {k : Nat} {g : G8} {d : D8} {p : P8} (hg : isG g = true) (hd : vDeed d = true) (hp : okP k g p = true) : okP (k + 1) g (doM g d p).2 = true := by
 obtain ⟨l1, l2, l3, l4⟩ := okP_spec hp
 have h0 := okP_mono hp (Nat.le_succ k)
 unfold doM
 cases decide (d.1 = 1)
 case true => exact sendM_ok hg hd hp
 cases inR d.1 2 5
 case true => exact wireM_ok hg hd hp
 cases decide (d.2.1 ≥ (p.1.length : Int))
 case true => exact h0
 simp only [cond_false]
 cases hs : p.1[d.2.1.toNat]? with
 | none => exact h0
 | some s =>
  simp only
  have hm := l2 s (List.mem_of_getElem? hs)
  have hn : okS (k + 1) (colsG g) [] = true := okS_spec.2 ⟨Nat.zero_le _, fun x hx => by cases hx⟩
  refine okP_mk (by simpa using l1) (fun s' hs' => ?_) l3 l4
  rcases List.mem_or_eq_of_mem_set hs' with hs' | rfl
  ·exact ⟨okS_mono (l2 s' hs').1 (Nat.le_succ k), okS_mono (l2 s' hs').2 (Nat.le_succ k)⟩
  ·cases decide (d.1 = 6)
   ·cases decide (d.1 = 7)
    ·exact ⟨hn, okS_mono hm.2 (Nat.le_succ k)⟩
    ·exact ⟨okS_mono hm.2 (Nat.le_succ k), okS_mono hm.2 (Nat.le_succ k)⟩
   ·exact ⟨okS_mono hm.1 (Nat.le_succ k), okS_mono hm.1 (Nat.le_succ k)⟩
noncomputable def s_l08Run_do_9d6c_V : Env := ⟨tau, [(95, s_l08Run_send_9d6c_c), (96, s_l08Run_wire_9d6c_c), (97, s_l00Own_c)], []⟩
noncomputable def s_l08Run_do_9d6c_b : Code := (Try.f69.body).getD .skip
noncomputable def s_l08Run_do_9d6c_I : FnI := ⟨s_l08Run_do_9d6c_b, Try.f69.results.toList, Try.f69.resultTypes.toList, []⟩
noncomputable def s_l08Run_do_9d6c_out (zp0 : Bool) (_p0 : TDeed) (_p1 : (TPlant × Unit)) (p2 : TGather) : (Int × (TPlant × Unit)) → CallOut := fun r => ⟨(.imm true (.int .i64) r.1), [⟨true, kL08Run, .own, ((some (0, 1) : Option RName), r.2)⟩, ⟨true, kGather, (.imm zp0), p2⟩], []⟩
set_option maxRecDepth 100000 in
theorem s_l08Run_do_9d6c_eq : ∀ (zp0 : Bool) (p0 : TDeed) (p1 : (TPlant × Unit)) (p2 : TGather), denFn s_l08Run_do_9d6c_V s_l08Run_do_9d6c_I ⟨[(.ptr (0, 0) []), (.imm true kDeed p0)], [⟨true, kL08Run, .own, ((some (0, 1) : Option RName), p1)⟩, ⟨true, kGather, (.imm zp0), p2⟩]⟩ = (s_l08Run_do_9d6c p0 p1 p2).run fun r => some (s_l08Run_do_9d6c_out zp0 p0 p1 p2 r) := fun _ _ _ _ => by kernel_rfl
noncomputable def s_l08Run_do_9d6c_G (av : List AV) (rs : List Root) : Tre CallOut :=
 asCons av fun a0_ av0 =>
 asCons av0 fun a1_ av1 =>
 asEnd av1 <|
 asCons rs fun r0_ rs0 =>
 asCons rs0 fun r1_ rs1 =>
 asEnd rs1 <|
 asPtr (0, 0) [] a0_ <|
 asImmZ true kDeed a1_ fun d1 =>
 asRt true kL08Run r0_ fun m2 d3 =>
 asM .own m2 <|
 asProd d3 fun d4 d5 =>
 asD d4 (some (0, 1) : Option RName) <|
 asRt true kGather r1_ fun m6 d7 =>
 asMImm m6 fun z8 =>
 .mat (doR d1 d5 d7) fun r => .ret (s_l08Run_do_9d6c_out z8 d1 d5 d7 r)
noncomputable def s_l08Run_do_9d6c_c : Ctr := ⟨[], fun ci => s_l08Run_do_9d6c_G ci.args ci.roots, false⟩
theorem s_l08Run_do_9d6c_env : EnvOK Try.prog s_l08Run_do_9d6c_V := (envOK_cons s_l08Run_send_9d6c_ok ent95 (envOK_cons s_l08Run_wire_9d6c_ok ent96 (envOK_cons s_l00Own_ok ent97 envOK_nil)))
set_option maxRecDepth 100000 in
theorem s_l08Run_do_9d6c_ok : Contract Try.prog 69 s_l08Run_do_9d6c_c := by
 have hl : LoopsOK s_l08Run_do_9d6c_V [] s_l08Run_do_9d6c_b := loopsOK_nil (by kernel_rfl)
 refine (contract_of (F := s_l08Run_do_9d6c_I) tau_tys s_l08Run_do_9d6c_env Try.func69 (by kernel_rfl) (by kernel_rfl) (by kernel_rfl) hl []).weaken ?_
 rintro ⟨av, rs⟩ co h
 have h : (s_l08Run_do_9d6c_G av rs).run some = some co := h
 obtain ⟨a0_, av0, rfl, h_0⟩ := asCons_spec h
 obtain ⟨a1_, av1, rfl, h_1⟩ := asCons_spec h_0
 obtain ⟨rfl, h_2⟩ := asEnd_spec h_1
 obtain ⟨r0_, rs0, rfl, h_3⟩ := asCons_spec h_2
 obtain ⟨r1_, rs1, rfl, h_4⟩ := asCons_spec h_3
 obtain ⟨rfl, h_5⟩ := asEnd_spec h_4
 obtain ⟨rfl, h_6⟩ := asPtr_spec h_5
 obtain ⟨d1, rfl, h_7⟩ := asImmZ_spec h_6
 obtain ⟨m2, d3, rfl, h_8⟩ := asRt_spec h_7
 obtain ⟨rfl, h_9⟩ := asM_spec h_8
 obtain ⟨d4, d5, rfl, h_10⟩ := asProd_spec h_9
 obtain ⟨rfl, h_11⟩ := asD_spec h_10
 obtain ⟨m6, d7, rfl, h_12⟩ := asRt_spec h_11
 obtain ⟨z8, rfl, h_13⟩ := asMImm_spec h_12
 exact fin_opt (s_l08Run_do_9d6c_eq z8 d1 d5 d7) (s_l08Run_do_9d6c_spec d1 d5 d7) h_13
end Go.Proofs.Ytohnlghdhbignaa

namespace Go.Proofs.Ytohnlghdhbignaa
open Go Go.Abs Go.Proofs
noncomputable def s_l08Begin_9aa7_l4 (h4_0_1 : TGather) : (Int × (TPlant × Unit)) → Tre ((Int × (TPlant × Unit)) ⊕ (TPlant × Unit)) := fun s4 =>
 let v3 := iwrap .i64 (h4_0_1.2.2.2.1 + h4_0_1.2.2.2.2.1)
 .cond (decide (s4.1 < v3))
  (.ite ((s4.2.1.1.length + 1) * 48 ≤ appendMax ∧ 1 ≤ 48) <|
  let v4 := s4.2.1.1 ++ ([([], ([], ()))])
  .ret (.inl (iwrap .i64 (s4.1 + 1), ((v4, s4.2.1.2), s4.2.2))))
  (.ret (.inr s4.2))
noncomputable def s_l08Begin_9aa7 (p0 : TGather) : Tre (TPlant × Unit) :=
 .mat (srcR p0) fun r1 =>
 .mat (srcR p0) fun r2 =>
 .mat (loopF (s_l08Begin_9aa7_l4 p0) (0, (([(r1, (r2, ()))], ([], ())), ()))) fun l5 =>
 .ret l5
noncomputable def s_l08Begin_9aa7_F (p0 : TGather) : Option (TPlant × Unit) := (s_l08Begin_9aa7 p0).run some
def beginM (g : G8) : P8 := ((srcL g, srcL g, ()) :: List.replicate (g.2.2.2.1 + g.2.2.2.2.1).toNat ([], [], ()), [], ())
def beginR (g : G8) : Option (P8 × Unit) := askO (isG g) (beginM g, ())
theorem src_some {g : G8} (h : isG g = true) : srcR g = some (srcL g) := by
 have := isG_spec h
 exact askO_true (by rw [Bool.and_eq_true, inR_iff, decide_eq_true_eq]; omega)
theorem s_l08Begin_9aa7_spec (p0 : G8) (y : P8 × Unit) (h : beginR p0 = some y) : s_l08Begin_9aa7_F p0 = some y := by
 obtain ⟨hg, rfl⟩ := askO_some h
 have hb := isG_spec hg
 obtain ⟨n, hn⟩ := Int.eq_ofNat_of_zero_le (show 0 ≤ p0.2.2.2.1 + p0.2.2.2.2.1 by omega)
 have hw : iwrap .i64 (p0.2.2.2.1 + p0.2.2.2.2.1) = (n : Int) := by rw [hn]; exact iwrap_i64 (by omega) (by omega)
 unfold s_l08Begin_9aa7_F s_l08Begin_9aa7
 rw [run_some_mat (src_some hg), run_some_mat (src_some hg)]
 have key : ∀ (m i : Nat) (l : List (List Int × List Int × Unit)), i + m = n → l.length ≤ i + 1 → loopF (s_l08Begin_9aa7_l4 p0) ((i : Int), ((l, [], ()), ())) = some ((l ++ List.replicate m ([], [], ()), [], ()), ()) := by
  intro m
  induction m with
  | zero =>
   intro i l hi _
   rw [List.replicate_zero, List.append_nil]
   refine loopF_done ?_
   unfold s_l08Begin_9aa7_l4
   dsimp only
   rw [hw, Tre.run_cond, show decide ((i : Int) < (n : Int)) = false from by simp; omega]
   rfl
  | succ m ih =>
   intro i l hi hl
   have hstep : (s_l08Begin_9aa7_l4 p0 ((i : Int), ((l, [], ()), ()))).run some = some (.inl (((i + 1 : Nat) : Int), ((l ++ [([], [], ())], [], ()), ()))) := by
    unfold s_l08Begin_9aa7_l4
    dsimp only
    rw [hw, Tre.run_cond, show decide ((i : Int) < (n : Int)) = true from by simp; omega, cond_true, Tre.run_ite, if_pos (by unfold appendMax; omega), Tre.run_ret, iwrap_succ (by omega)]
   rw [loopF_step hstep, ih (i + 1) _ (by omega) (by simp; omega), List.replicate_succ, List.append_assoc]
   rfl
 have := key n 0 [(srcL p0, srcL p0, ())] (by omega) (by simp)
 rw [run_some_mat (x := ((beginM p0), ())) (by
  have h2 : beginM p0 = ([(srcL p0, srcL p0, ())] ++ List.replicate n ([], [], ()), [], ()) := by unfold beginM; rw [hn, Int.toNat_natCast]; rfl
  rw [h2]; exact this)]
 rfl
theorem ior_nat {a b : Nat} (ha : a < 2 ^ 63) (hb : b < 2 ^ 63) : ior .i64 (a : Int) (b : Int) = ((a ||| b : Nat) : Int) := by
 have hx : a ||| b < 2 ^ 63 := Nat.or_lt_two_pow ha hb
 have : (BitVec.ofInt 64 (a : Int) ||| BitVec.ofInt 64 (b : Int)).toNat = a ||| b := by
  rw [BitVec.toNat_or, ofInt_nat (by omega), ofInt_nat (by omega)]
 unfold ior
 show iwrap .i64 (((BitVec.ofInt 64 (a : Int) ||| BitVec.ofInt 64 (b : Int)).toNat : Nat) : Int) = _
 rw [this, iwrap_nat (by omega)]
theorem ishl_nat {a j : Nat} (hj : j ≤ 62) (h : a * 2 ^ j < 2 ^ 63) : ishl .i64 (a : Int) (j : Int) = ((a * 2 ^ j : Nat) : Int) := by
 unfold ishl
 rw [Int.toNat_natCast, show min j (IntKind.bits .i64) = j from Nat.min_eq_left (by show j ≤ 64; omega)]
 have h2 : ((a : Int) * 2 ^ j) = ((a * 2 ^ j : Nat) : Int) := by push_cast; rfl
 rw [h2]
 exact iwrap_nat (by omega)
theorem src_rows {m b : Nat} (hm : m ≤ 4) (hb : b ≤ 6) : ∀ (l : List Int) (i : Nat) (acc : List Int), i + l.length ≤ m → (∀ x ∈ l, inP (b : Int) x = true) → (∀ y ∈ acc, okRow (m + b) y = true) →
  (foldE (β := List Int) (fun (i : Nat) acc x => .inl (acc ++ [ior .i64 (ishl .i64 1 (i : Int)) (ishl .i64 x (m : Int))])) id i acc l).length = acc.length + l.length ∧
  ∀ y ∈ foldE (β := List Int) (fun (i : Nat) acc x => .inl (acc ++ [ior .i64 (ishl .i64 1 (i : Int)) (ishl .i64 x (m : Int))])) id i acc l, okRow (m + b) y = true := by
 intro l
 induction l with
 | nil => intro i acc _ _ h; exact ⟨rfl, h⟩
 | cons x l ih =>
  intro i acc hi hl ha
  simp only [List.length_cons] at hi
  simp only [foldE]
  have hx : okRow (m + b) (ior .i64 (ishl .i64 1 (i : Int)) (ishl .i64 x (m : Int))) = true := by
   obtain ⟨n, rfl, hn⟩ := inP_nat (by omega) (hl x (by simp))
   have p1 : 2 ^ i * 1 ≤ 2 ^ m := by rw [Nat.mul_one]; exact pow_le (by omega)
   have p2 : 2 ^ m ≤ 2 ^ (m + b) := pow_le (by omega)
   have p3 : 2 ^ (m + b) ≤ 2 ^ 10 := pow_le (by omega)
   have p4 : n * 2 ^ m < 2 ^ (m + b) := by
    rw [Nat.pow_add, Nat.mul_comm (2 ^ m)]
    exact Nat.mul_lt_mul_of_pos_right hn (Nat.two_pow_pos m)
   have p5 : 2 ^ i < 2 ^ (m + b) := Nat.pow_lt_pow_right (by decide) (by omega)
   have e1 : ishl .i64 1 (i : Int) = ((1 * 2 ^ i : Nat) : Int) := ishl_nat (a := 1) (by omega) (by omega)
   have e2 : ishl .i64 (n : Int) (m : Int) = ((n * 2 ^ m : Nat) : Int) := ishl_nat (by omega) (by omega)
   rw [e1, e2, ior_nat (by omega) (by omega)]
   exact okRow_nat.2 ⟨_, rfl, Nat.or_lt_two_pow (by omega) p4⟩
  have := ih (i + 1) (acc ++ [ior .i64 (ishl .i64 1 (i : Int)) (ishl .i64 x (m : Int))]) (by omega) (fun y hy => hl y (by simp [hy])) (fun y hy => by
   rcases List.mem_append.1 hy with hy | hy
   ·exact ha y hy
   ·simp only [List.mem_singleton] at hy; rw [hy]; exact hx)
  refine ⟨?_, this.2⟩
  rw [this.1]
  simp
  omega
theorem beginM_ok {g : G8} (hg : isG g = true) : okP 4 g (beginM g) = true := by
 have hb := isG_spec hg
 have hc := colsG_le hg
 have hsrc : okS 4 (colsG g) (srcL g) = true := by
  have hall : g.2.2.1.all (inP g.2.1) = true := by
   unfold isG at hg
   simp only [Bool.and_eq_true] at hg
   exact hg.1.1.2
  obtain ⟨m, hm⟩ := Int.eq_ofNat_of_zero_le (show 0 ≤ g.1 by omega)
  obtain ⟨b, hb2⟩ := Int.eq_ofNat_of_zero_le (show 0 ≤ g.2.1 by omega)
  have hcm : colsG g = m + b := by unfold colsG; omega
  rw [hcm]
  unfold srcL
  rw [hm]
  have := src_rows (m := m) (b := b) (by omega) (by omega) g.2.2.1 0 [] (by omega) (fun x hx => by rw [← hb2]; exact List.all_eq_true.1 hall x hx) (fun y hy => by cases hy)
  exact okS_spec.2 ⟨by rw [this.1]; simp; omega, this.2⟩
 have hn : okS 4 (colsG g) [] = true := okS_spec.2 ⟨Nat.zero_le _, fun x hx => by cases hx⟩
 refine okP_mk ?_ (fun s hs => ?_) (Nat.zero_le _) (fun x hx => by cases hx)
 ·unfold beginM statG
  simp only [List.length_cons, List.length_replicate]
  omega
 ·unfold beginM at hs
  rcases List.mem_cons.1 hs with rfl | hs
  ·exact ⟨hsrc, hsrc⟩
  ·rw [(List.mem_replicate.1 hs).2]; exact ⟨hn, hn⟩
noncomputable def s_l08Begin_9aa7_V : Env := ⟨tau, [(94, s_l08Source_9aa7_c)], []⟩
noncomputable def s_l08Begin_9aa7_b : Code := (Try.f65.body).getD .skip
noncomputable def s_l08Begin_9aa7_l4_mk (z4_0 : Bool) (h4_0_1 : TGather) : (Int × (TPlant × Unit)) → St := fun x => stOf [(0, (.ptr (0, 0) [])), (3, (.ptr (9, 0) [])), (4, (.imm true (.int .i64) x.1))] [((0, 0), some ⟨true, kGather, (.imm z4_0), h4_0_1⟩), ((9, 0), some ⟨true, kL08Run, .own, ((some (0, 0) : Option RName), x.2)⟩)]
noncomputable def s_l08Begin_9aa7_l4_out (z4_0 : Bool) (h4_0_1 : TGather) : (TPlant × Unit) → Ex × St := fun x => (.exit 0, stOf [(3, (.ptr (9, 0) []))] [((0, 0), some ⟨true, kGather, (.imm z4_0), h4_0_1⟩), ((9, 0), some ⟨true, kL08Run, .own, ((some (0, 0) : Option RName), x)⟩)])
noncomputable def s_l08Begin_9aa7_l4_D (s : St) : Tre (Ex × St) :=
 asPtr (0, 0) [] (s.tmps 0) <|
 asPtr (9, 0) [] (s.tmps 3) <|
 asImmZ true (.int .i64) (s.tmps 4) fun d4 =>
 asRoot true kGather (s.roots (0, 0)) fun m6 d7 =>
 asMImm m6 fun z8 =>
 asRoot true kL08Run (s.roots (9, 0)) fun m10 d11 =>
 asM .own m10 <|
 asProd d11 fun d12 d13 =>
 asD d12 (some (0, 0) : Option RName) <|
 .mat (loopF (s_l08Begin_9aa7_l4 d7) (d4, d13)) fun x => .ret (s_l08Begin_9aa7_l4_out z8 d7 x)
noncomputable def s_l08Begin_9aa7_l4_L : LoopI := ⟨([0, 3, 4], [(0, 0), (9, 0)]), ([3], [(0, 0), (9, 0)]), s_l08Begin_9aa7_l4_D⟩
noncomputable def s_l08Begin_9aa7_A : List (Nat × LoopI) := [(4, s_l08Begin_9aa7_l4_L)]
set_option maxRecDepth 100000 in
theorem s_l08Begin_9aa7_l4_step : ∀ (z4_0 : Bool) (h4_0_1 : TGather) (x : (Int × (TPlant × Unit))) (c : St → Option (Ex × St)), den s_l08Begin_9aa7_V s_l08Begin_9aa7_A (loopAt s_l08Begin_9aa7_b 0) (s_l08Begin_9aa7_l4_mk z4_0 h4_0_1 x) (roundK s_l08Begin_9aa7_l4_L.kp s_l08Begin_9aa7_l4_L.kx c) = (s_l08Begin_9aa7_l4 h4_0_1 x).run (roundR (s_l08Begin_9aa7_l4_mk z4_0 h4_0_1) (s_l08Begin_9aa7_l4_out z4_0 h4_0_1) c) := fun _ _ _ _ => by
 kernel_rfl
theorem s_l08Begin_9aa7_l4_ok : LoopOK s_l08Begin_9aa7_V s_l08Begin_9aa7_A (loopAt s_l08Begin_9aa7_b 0) s_l08Begin_9aa7_l4_L := loopOK_of fun s e s' h => by
 generalize hs : restrict s_l08Begin_9aa7_l4_L.kp s = s1 at h
 have h : (s_l08Begin_9aa7_l4_D s1).run some = some (e, s') := h
 obtain ⟨e1, h_0⟩ := asPtr_spec h
 obtain ⟨e2, h_1⟩ := asPtr_spec h_0
 obtain ⟨d4, e3, h_2⟩ := asImmZ_spec h_1
 obtain ⟨m6, d7, e5, h_3⟩ := asRoot_spec h_2
 obtain ⟨z8, rfl, h_4⟩ := asMImm_spec h_3
 obtain ⟨m10, d11, e9, h_5⟩ := asRoot_spec h_4
 obtain ⟨rfl, h_6⟩ := asM_spec h_5
 obtain ⟨d12, d13, rfl, h_7⟩ := asProd_spec h_6
 obtain ⟨rfl, h_8⟩ := asD_spec h_7
 obtain ⟨y, hy, hz⟩ := mat_ret h_8
 refine ⟨_, _, s_l08Begin_9aa7_l4_mk z8 d7, s_l08Begin_9aa7_l4_out z8 d7, s_l08Begin_9aa7_l4 d7, (d4, d13), y, ?_, hy, ?_, s_l08Begin_9aa7_l4_step z8 d7⟩
 ·subst hs; exact restrict_eq (T := [(0, (.ptr (0, 0) [])), (3, (.ptr (9, 0) [])), (4, (.imm true (.int .i64) d4))]) (U := [((0, 0), some ⟨true, kGather, (.imm z8), d7⟩), ((9, 0), some ⟨true, kL08Run, .own, ((some (0, 0) : Option RName), d13)⟩)]) rfl rfl ⟨e1, e2, e3, trivial⟩ ⟨e5, e9, trivial⟩
 ·exact Option.some.inj hz
noncomputable def s_l08Begin_9aa7_I : FnI := ⟨s_l08Begin_9aa7_b, Try.f65.results.toList, Try.f65.resultTypes.toList, s_l08Begin_9aa7_A⟩
noncomputable def s_l08Begin_9aa7_out (zp0 : Bool) (p0 : TGather) : (TPlant × Unit) → CallOut := fun r => ⟨(.ptr (1, 0) []), [⟨true, kGather, (.imm zp0), p0⟩], [⟨true, kL08Run, .own, ((some (0, 0) : Option RName), r)⟩]⟩
set_option maxRecDepth 100000 in
theorem s_l08Begin_9aa7_eq : ∀ (zp0 : Bool) (p0 : TGather), denFn s_l08Begin_9aa7_V s_l08Begin_9aa7_I ⟨[(.ptr (0, 0) [])], [⟨true, kGather, (.imm zp0), p0⟩]⟩ = (s_l08Begin_9aa7 p0).run fun r => some (s_l08Begin_9aa7_out zp0 p0 r) := fun _ _ => by kernel_rfl
noncomputable def s_l08Begin_9aa7_G (av : List AV) (rs : List Root) : Tre CallOut :=
 asCons av fun a0_ av0 =>
 asEnd av0 <|
 asCons rs fun r0_ rs0 =>
 asEnd rs0 <|
 asPtr (0, 0) [] a0_ <|
 asRt true kGather r0_ fun m1 d2 =>
 asMImm m1 fun z3 =>
 .mat (beginR d2) fun r => .ret (s_l08Begin_9aa7_out z3 d2 r)
noncomputable def s_l08Begin_9aa7_c : Ctr := ⟨[], fun ci => s_l08Begin_9aa7_G ci.args ci.roots, false⟩
theorem s_l08Begin_9aa7_env : EnvOK Try.prog s_l08Begin_9aa7_V := (envOK_cons s_l08Source_9aa7_ok ent94 envOK_nil)
set_option maxRecDepth 100000 in
theorem s_l08Begin_9aa7_ok : Contract Try.prog 65 s_l08Begin_9aa7_c := by
 have hl : LoopsOK s_l08Begin_9aa7_V s_l08Begin_9aa7_A s_l08Begin_9aa7_b := (loopsOK_all (n := 1) (by kernel_rfl) fun k hk => by
   match k, hk with
   | 0, _ => exact loopOK_at (id := 4) (L := s_l08Begin_9aa7_l4_L) (by kernel_rfl) (by kernel_rfl) s_l08Begin_9aa7_l4_ok)
 refine (contract_of (F := s_l08Begin_9aa7_I) tau_tys s_l08Begin_9aa7_env Try.func65 (by kernel_rfl) (by kernel_rfl) (by kernel_rfl) hl []).weaken ?_
 rintro ⟨av, rs⟩ co h
 have h : (s_l08Begin_9aa7_G av rs).run some = some co := h
 obtain ⟨a0_, av0, rfl, h_0⟩ := asCons_spec h
 obtain ⟨rfl, h_1⟩ := asEnd_spec h_0
 obtain ⟨r0_, rs0, rfl, h_2⟩ := asCons_spec h_1
 obtain ⟨rfl, h_3⟩ := asEnd_spec h_2
 obtain ⟨rfl, h_4⟩ := asPtr_spec h_3
 obtain ⟨m1, d2, rfl, h_5⟩ := asRt_spec h_4
 obtain ⟨z3, rfl, h_6⟩ := asMImm_spec h_5
 exact fin_opt (s_l08Begin_9aa7_eq z3 d2) (s_l08Begin_9aa7_spec d2) h_6
end Go.Proofs.Ytohnlghdhbignaa

namespace Go.Proofs.Ytohnlghdhbignaa
open Go Go.Abs Go.Proofs
noncomputable def s_l08Asked_3c39_l4 (h4_0_0 : (List TDeed)) : Int → Tre (Int ⊕ (Int ⊕ Unit)) := fun s4 =>
 .cond (decide (s4 < (h4_0_0.length : Int)))
  (.ite (0 ≤ s4 ∧ s4 < (h4_0_0.length : Int)) <|
  .mat (h4_0_0[s4.toNat]?) fun x2 =>
  .cond (!(vDeed x2))
   (.ret (.inr (.inl 1)))
   (.ret (.inl (iwrap .i64 (s4 + 1)))))
  (.ret (.inr (.inr ())))
noncomputable def s_l08Asked_3c39 (p0 : (List TDeed)) (p1 : TGather) : Tre Int :=
 .mat (okG p1) fun r1 =>
 .cond (!r1)
  (.ret 1)
  (.mat (loopF (s_l08Asked_3c39_l4 p0) 0) fun l3 =>
  .alt l3
   (fun a4 =>
    .ret a4)
   (fun _ =>
    .cond (decide ((p0.length : Int) > 300))
     (.ret 2)
     (.ret 0)))
noncomputable def s_l08Asked_3c39_F (p0 : (List TDeed)) (p1 : TGather) : Option Int := (s_l08Asked_3c39 p0 p1).run some
def askedM (ds : List D8) (g : G8) : Int := cond (isG g && ds.all vDeed) (cond (decide ((ds.length : Int) > 300)) 2 0) 1
def askedR (ds : List D8) (g : G8) : Option Int := askO (decide (g.2.2.1.length ≤ 1048576) && decide (ds.length ≤ 1048576)) (askedM ds g)
theorem s_l08Asked_3c39_spec (p0 : List D8) (p1 : G8) (y : Int) (h : askedR p0 p1 = some y) : s_l08Asked_3c39_F p0 p1 = some y := by
 obtain ⟨hok, rfl⟩ := askO_some h
 simp only [Bool.and_eq_true, decide_eq_true_eq] at hok
 obtain ⟨hg, hd⟩ := hok
 unfold s_l08Asked_3c39_F s_l08Asked_3c39 askedM
 rw [run_some_mat (show okG p1 = some _ from lim_of hg), Tre.run_cond]
 cases isG p1
 ·rfl
 rw [Bool.not_true, cond_false, Bool.true_and, Tre.run_mat, find_loop (xs := p0) (fun _ x => cond (vDeed x) none (some (.inl 1))) (.inr ()), findE_all]
 ·cases p0.all vDeed
  ·rfl
  ·rw [cond_true, cond_true]
   show (Tre.cond (decide ((p0.length : Int) > 300)) (.ret (2 : Int)) (.ret 0)).run some = _
   rw [Tre.run_cond]
   cases decide ((p0.length : Int) > 300) <;> rfl
 ·intro i x hx
  have hi : i < p0.length := (List.getElem?_eq_some_iff.1 hx).1
  unfold s_l08Asked_3c39_l4
  rw [run_inb hx, Tre.run_cond]
  cases vDeed x
  ·rfl
  ·simp only [Bool.not_true, cond_true, cond_false, Tre.run_ret, iwrap_succ (show i < 4611686018427387904 by omega)]
 ·unfold s_l08Asked_3c39_l4
  exact run_out
theorem askedM_zero {ds : List D8} {g : G8} (h : askedM ds g = 0) : isG g = true ∧ ds.all vDeed = true ∧ ds.length ≤ 300 := by
 unfold askedM at h
 cases h1 : (isG g && ds.all vDeed) with
 | false => rw [h1] at h; cases h
 | true =>
  rw [h1] at h
  by_cases h2 : (ds.length : Int) > 300
  ·rw [decide_eq_true h2] at h; cases h
  ·rw [Bool.and_eq_true] at h1
   exact ⟨h1.1, h1.2, by omega⟩
noncomputable def s_l08Asked_3c39_V : Env := ⟨tau, [(77, s_l08Ok_9aa7_c), (78, s_l08Deed_c)], []⟩
noncomputable def s_l08Asked_3c39_b : Code := (Try.f38.body).getD .skip
noncomputable def s_l08Asked_3c39_l4_mk (z4_0 : Bool) (z4_1 : Bool) (h4_0_0 : (List TDeed)) (h4_0_2 : TGather) : Int → St := fun x => stOf [(1, (.imm z4_0 (.sl kDeed) h4_0_0)), (5, (.imm true (.int .i64) x))] [((0, 0), some ⟨true, kGather, (.imm z4_1), h4_0_2⟩)]
noncomputable def s_l08Asked_3c39_l4_out (z4_0 : Bool) (z4_1 : Bool) (h4_0_0 : (List TDeed)) (h4_0_2 : TGather) : (Int ⊕ Unit) → Ex × St
 | .inl x => (.ret, stOf [(1, (.imm z4_0 (.sl kDeed) h4_0_0)), (4, (.imm true (.int .i64) x))] [((0, 0), some ⟨true, kGather, (.imm z4_1), h4_0_2⟩)])
 | .inr x => (.exit 0, stOf [(1, (.imm z4_0 (.sl kDeed) h4_0_0)), (4, .dead)] [((0, 0), some ⟨true, kGather, (.imm z4_1), h4_0_2⟩)])
noncomputable def s_l08Asked_3c39_l4_D (s : St) : Tre (Ex × St) :=
 asImm (.sl kDeed) (s.tmps 1) fun z3 d2 =>
 asImmZ true (.int .i64) (s.tmps 5) fun d5 =>
 asRoot true kGather (s.roots (0, 0)) fun m7 d8 =>
 asMImm m7 fun z9 =>
 .mat (loopF (s_l08Asked_3c39_l4 d2) d5) fun x => .alt x (fun a0 => .ret (s_l08Asked_3c39_l4_out z3 z9 d2 d8 (.inl a0))) (fun b0 => .ret (s_l08Asked_3c39_l4_out z3 z9 d2 d8 (.inr b0)))
noncomputable def s_l08Asked_3c39_l4_L : LoopI := ⟨([1, 5], [(0, 0)]), ([1, 4], [(0, 0)]), s_l08Asked_3c39_l4_D⟩
noncomputable def s_l08Asked_3c39_A : List (Nat × LoopI) := [(4, s_l08Asked_3c39_l4_L)]
set_option maxRecDepth 100000 in
theorem s_l08Asked_3c39_l4_step : ∀ (z4_0 : Bool) (z4_1 : Bool) (h4_0_0 : (List TDeed)) (h4_0_2 : TGather) (x : Int) (c : St → Option (Ex × St)), den s_l08Asked_3c39_V s_l08Asked_3c39_A (loopAt s_l08Asked_3c39_b 0) (s_l08Asked_3c39_l4_mk z4_0 z4_1 h4_0_0 h4_0_2 x) (roundK s_l08Asked_3c39_l4_L.kp s_l08Asked_3c39_l4_L.kx c) = (s_l08Asked_3c39_l4 h4_0_0 x).run (roundR (s_l08Asked_3c39_l4_mk z4_0 z4_1 h4_0_0 h4_0_2) (s_l08Asked_3c39_l4_out z4_0 z4_1 h4_0_0 h4_0_2) c) := fun _ _ _ _ _ _ => by
 kernel_rfl
theorem s_l08Asked_3c39_l4_ok : LoopOK s_l08Asked_3c39_V s_l08Asked_3c39_A (loopAt s_l08Asked_3c39_b 0) s_l08Asked_3c39_l4_L := loopOK_of fun s e s' h => by
 generalize hs : restrict s_l08Asked_3c39_l4_L.kp s = s1 at h
 have h : (s_l08Asked_3c39_l4_D s1).run some = some (e, s') := h
 obtain ⟨z3, d2, e1, h_0⟩ := asImm_spec h
 obtain ⟨d5, e4, h_1⟩ := asImmZ_spec h_0
 obtain ⟨m7, d8, e6, h_2⟩ := asRoot_spec h_1
 obtain ⟨z9, rfl, h_3⟩ := asMImm_spec h_2
 obtain ⟨y, hy, hz⟩ := mat_some h_3
 refine ⟨_, _, s_l08Asked_3c39_l4_mk z3 z9 d2 d8, s_l08Asked_3c39_l4_out z3 z9 d2 d8, s_l08Asked_3c39_l4 d2, d5, y, ?_, hy, ?_, s_l08Asked_3c39_l4_step z3 z9 d2 d8⟩
 ·subst hs; exact restrict_eq (T := [(1, (.imm z3 (.sl kDeed) d2)), (5, (.imm true (.int .i64) d5))]) (U := [((0, 0), some ⟨true, kGather, (.imm z9), d8⟩)]) rfl rfl ⟨e1, e4, trivial⟩ ⟨e6, trivial⟩
 ·rcases y with x | x <;> exact Option.some.inj hz
noncomputable def s_l08Asked_3c39_I : FnI := ⟨s_l08Asked_3c39_b, Try.f38.results.toList, Try.f38.resultTypes.toList, s_l08Asked_3c39_A⟩
noncomputable def s_l08Asked_3c39_out (_zp0 : Bool) (zp1 : Bool) (_p0 : (List TDeed)) (p1 : TGather) : Int → CallOut := fun r => ⟨(.imm true (.int .i64) r), [⟨true, kGather, (.imm zp1), p1⟩], []⟩
set_option maxRecDepth 100000 in
theorem s_l08Asked_3c39_eq : ∀ (zp0 : Bool) (zp1 : Bool) (p0 : (List TDeed)) (p1 : TGather), denFn s_l08Asked_3c39_V s_l08Asked_3c39_I ⟨[(.ptr (0, 0) []), (.imm zp0 (.sl kDeed) p0)], [⟨true, kGather, (.imm zp1), p1⟩]⟩ = (s_l08Asked_3c39 p0 p1).run fun r => some (s_l08Asked_3c39_out zp0 zp1 p0 p1 r) := fun _ _ _ _ => by kernel_rfl
noncomputable def s_l08Asked_3c39_G (av : List AV) (rs : List Root) : Tre CallOut :=
 asCons av fun a0_ av0 =>
 asCons av0 fun a1_ av1 =>
 asEnd av1 <|
 asCons rs fun r0_ rs0 =>
 asEnd rs0 <|
 asPtr (0, 0) [] a0_ <|
 asImm (.sl kDeed) a1_ fun z2 d1 =>
 asRt true kGather r0_ fun m3 d4 =>
 asMImm m3 fun z5 =>
 .mat (askedR d1 d4) fun r => .ret (s_l08Asked_3c39_out z2 z5 d1 d4 r)
noncomputable def s_l08Asked_3c39_c : Ctr := ⟨[], fun ci => s_l08Asked_3c39_G ci.args ci.roots, false⟩
theorem s_l08Asked_3c39_env : EnvOK Try.prog s_l08Asked_3c39_V := (envOK_cons s_l08Ok_9aa7_ok ent77 (envOK_cons s_l08Deed_ok ent78 envOK_nil))
set_option maxRecDepth 100000 in
theorem s_l08Asked_3c39_ok : Contract Try.prog 38 s_l08Asked_3c39_c := by
 have hl : LoopsOK s_l08Asked_3c39_V s_l08Asked_3c39_A s_l08Asked_3c39_b := (loopsOK_all (n := 1) (by kernel_rfl) fun k hk => by
   match k, hk with
   | 0, _ => exact loopOK_at (id := 4) (L := s_l08Asked_3c39_l4_L) (by kernel_rfl) (by kernel_rfl) s_l08Asked_3c39_l4_ok)
 refine (contract_of (F := s_l08Asked_3c39_I) tau_tys s_l08Asked_3c39_env Try.func38 (by kernel_rfl) (by kernel_rfl) (by kernel_rfl) hl []).weaken ?_
 rintro ⟨av, rs⟩ co h
 have h : (s_l08Asked_3c39_G av rs).run some = some co := h
 obtain ⟨a0_, av0, rfl, h_0⟩ := asCons_spec h
 obtain ⟨a1_, av1, rfl, h_1⟩ := asCons_spec h_0
 obtain ⟨rfl, h_2⟩ := asEnd_spec h_1
 obtain ⟨r0_, rs0, rfl, h_3⟩ := asCons_spec h_2
 obtain ⟨rfl, h_4⟩ := asEnd_spec h_3
 obtain ⟨rfl, h_5⟩ := asPtr_spec h_4
 obtain ⟨z2, d1, rfl, h_6⟩ := asImm_spec h_5
 obtain ⟨m3, d4, rfl, h_7⟩ := asRt_spec h_6
 obtain ⟨z5, rfl, h_8⟩ := asMImm_spec h_7
 exact fin_opt (s_l08Asked_3c39_eq z2 z5 d1 d4) (s_l08Asked_3c39_spec d1 d4) h_8
end Go.Proofs.Ytohnlghdhbignaa

namespace Go.Proofs.Ytohnlghdhbignaa
open Go Go.Abs Go.Proofs
noncomputable def s_l08Play_3c39_l4 (h4_0_0 : (List TDeed)) (h4_0_2 : TGather) : (Int × (TPlant × Unit) × (List Int)) → Tre ((Int × (TPlant × Unit) × (List Int)) ⊕ ((TPlant × Unit) × (List Int))) := fun s4 =>
 .cond (decide (s4.1 < (h4_0_0.length : Int)))
  (.ite (0 ≤ s4.1 ∧ s4.1 < (h4_0_0.length : Int)) <|
  .mat (h4_0_0[s4.1.toNat]?) fun x2 =>
  .mat (doR x2 s4.2.1 h4_0_2) fun r3 =>
  .ite ((s4.2.2.length + 1) * 8 ≤ appendMax ∧ 1 ≤ 8) <|
  .ret (.inl (iwrap .i64 (s4.1 + 1), r3.2, s4.2.2 ++ ([r3.1]))))
  (.ret (.inr (s4.2.1, s4.2.2)))
noncomputable def s_l08Play_3c39 (p0 : (List TDeed)) (p1 : TGather) : Tre ((TPlant × Unit) × (List Int)) :=
 .mat (beginR p1) fun r1 =>
 .mat (loopF (s_l08Play_3c39_l4 p0 p1) (0, r1, [])) fun l4 =>
 .ret (l4.1, l4.2)
noncomputable def s_l08Play_3c39_F (p0 : (List TDeed)) (p1 : TGather) : Option ((TPlant × Unit) × (List Int)) := (s_l08Play_3c39 p0 p1).run some
noncomputable def runM (g : G8) : List D8 → P8 → P8 × List Int
 | [], p => (p, [])
 | d :: l, p => ((runM g l (doM g d p).2).1, (doM g d p).1 :: (runM g l (doM g d p).2).2)
noncomputable def playR (ds : List D8) (g : G8) : Option ((P8 × Unit) × List Int) := askO (isG g && ds.all vDeed && decide (ds.length ≤ 300)) (((runM g ds (beginM g)).1, ()), (runM g ds (beginM g)).2)
theorem foldE_run (g : G8) : ∀ (l : List D8) (i : Nat) (p : P8) (cs : List Int), foldE (β := (P8 × Unit) × List Int) (fun (_ : Nat) (acc : (P8 × Unit) × List Int) d => .inl (((doM g d acc.1.1).2, ()), acc.2 ++ [(doM g d acc.1.1).1])) id i ((p, ()), cs) l = (((runM g l p).1, ()), cs ++ (runM g l p).2) := by
 intro l
 induction l with
 | nil => intro i p cs; simp [foldE, runM]
 | cons d l ih => intro i p cs; simp only [foldE, runM]; rw [ih]; simp
theorem runM_ok {g : G8} (hg : isG g = true) : ∀ (l : List D8) {k : Nat} {p : P8}, l.all vDeed = true → okP k g p = true → okP (k + l.length) g (runM g l p).1 = true := by
 intro l
 induction l with
 | nil => intro k p _ h; exact h
 | cons d l ih =>
  intro k p hd h
  simp only [List.all_cons, Bool.and_eq_true] at hd
  have := ih hd.2 (doM_ok hg hd.1 h)
  rw [show k + 1 + l.length = k + (d :: l).length by simp; omega] at this
  exact this
theorem s_l08Play_3c39_spec (p0 : List D8) (p1 : G8) (y : (P8 × Unit) × List Int) (h : playR p0 p1 = some y) : s_l08Play_3c39_F p0 p1 = some y := by
 obtain ⟨hok, rfl⟩ := askO_some h
 simp only [Bool.and_eq_true, decide_eq_true_eq] at hok
 obtain ⟨⟨hg, hd⟩, hl⟩ := hok
 unfold s_l08Play_3c39_F s_l08Play_3c39
 rw [run_some_mat (show beginR p1 = some _ from askO_true hg)]
 have := fold_loop (xs := p0) (step := s_l08Play_3c39_l4 p0 p1) (fun i acc => ((i : Int), acc)) (fun (_ : Nat) (acc : (P8 × Unit) × List Int) d => .inl (((doM p1 d acc.1.1).2, ()), acc.2 ++ [(doM p1 d acc.1.1).1])) id (fun i acc => okP (4 + i) p1 acc.1.1 = true ∧ acc.2.length = i) (by
  rintro i ⟨⟨p, ⟨⟩⟩, cs⟩ x hx ⟨hI, hcs⟩
  have hi : i < p0.length := (List.getElem?_eq_some_iff.1 hx).1
  have hv : vDeed x = true := List.all_eq_true.1 hd x (List.mem_of_getElem? hx)
  have hcs : cs.length = i := hcs
  refine ⟨?_, fun a ha => by cases ha; exact ⟨doM_ok hg hv hI, by simp [hcs]⟩⟩
  unfold s_l08Play_3c39_l4
  rw [run_inb hx, run_some_mat (show doR x (p, ()) p1 = some _ from askO_true (by
   rw [Bool.and_eq_true, Bool.and_eq_true]; exact ⟨⟨hg, hv⟩, okP_mono hI (by omega)⟩)), Tre.run_ite, if_pos (by unfold appendMax; dsimp only; omega), Tre.run_ret, iwrap_succ (by omega)])
  (by
  intro acc _
  unfold s_l08Play_3c39_l4
  exact run_out) p0 0 ((beginM p1, ()), []) rfl (Nat.zero_le _) ⟨beginM_ok hg, rfl⟩
 rw [foldE_run] at this
 have h1 : loopF (s_l08Play_3c39_l4 p0 p1) (0, (beginM p1, ()), []) = some (((runM p1 p0 (beginM p1)).1, ()), [] ++ (runM p1 p0 (beginM p1)).2) := this
 rw [run_some_mat h1]
 rfl
noncomputable def s_l08Play_3c39_V : Env := ⟨tau, [(65, s_l08Begin_9aa7_c), (69, s_l08Run_do_9d6c_c)], []⟩
noncomputable def s_l08Play_3c39_b : Code := (Try.f39.body).getD .skip
noncomputable def s_l08Play_3c39_l4_mk (z4_0 : Bool) (z4_1 : Bool) (h4_0_0 : (List TDeed)) (h4_0_2 : TGather) : (Int × (TPlant × Unit) × (List Int)) → St := fun x => stOf [(1, (.imm z4_0 (.sl kDeed) h4_0_0)), (6, (.ptr (12, 0) [])), (7, (.ref (9, 0) [])), (8, (.imm true (.int .i64) x.1))] [((0, 0), some ⟨true, kGather, (.imm z4_1), h4_0_2⟩), ((12, 0), some ⟨true, kL08Run, .own, ((some (0, 0) : Option RName), x.2.1)⟩), ((9, 0), some ⟨false, (.sl (.int .i64)), .own, x.2.2⟩)]
noncomputable def s_l08Play_3c39_l4_out (_z4_0 : Bool) (z4_1 : Bool) (_h4_0_0 : (List TDeed)) (h4_0_2 : TGather) : ((TPlant × Unit) × (List Int)) → Ex × St := fun x => (.exit 0, stOf [(6, (.ptr (12, 0) [])), (7, (.ref (9, 0) []))] [((0, 0), some ⟨true, kGather, (.imm z4_1), h4_0_2⟩), ((12, 0), some ⟨true, kL08Run, .own, ((some (0, 0) : Option RName), x.1)⟩), ((9, 0), some ⟨false, (.sl (.int .i64)), .own, x.2⟩)])
noncomputable def s_l08Play_3c39_l4_D (s : St) : Tre (Ex × St) :=
 asImm (.sl kDeed) (s.tmps 1) fun z3 d2 =>
 asPtr (12, 0) [] (s.tmps 6) <|
 asRef (9, 0) [] (s.tmps 7) <|
 asImmZ true (.int .i64) (s.tmps 8) fun d7 =>
 asRoot true kGather (s.roots (0, 0)) fun m9 d10 =>
 asMImm m9 fun z11 =>
 asRoot true kL08Run (s.roots (12, 0)) fun m13 d14 =>
 asM .own m13 <|
 asProd d14 fun d15 d16 =>
 asD d15 (some (0, 0) : Option RName) <|
 asRoot false (.sl (.int .i64)) (s.roots (9, 0)) fun m18 d19 =>
 asM .own m18 <|
 .mat (loopF (s_l08Play_3c39_l4 d2 d10) (d7, d16, d19)) fun x => .ret (s_l08Play_3c39_l4_out z3 z11 d2 d10 x)
noncomputable def s_l08Play_3c39_l4_L : LoopI := ⟨([1, 6, 7, 8], [(0, 0), (12, 0), (9, 0)]), ([6, 7], [(0, 0), (12, 0), (9, 0)]), s_l08Play_3c39_l4_D⟩
noncomputable def s_l08Play_3c39_A : List (Nat × LoopI) := [(4, s_l08Play_3c39_l4_L)]
set_option maxRecDepth 100000 in
theorem s_l08Play_3c39_l4_step : ∀ (z4_0 : Bool) (z4_1 : Bool) (h4_0_0 : (List TDeed)) (h4_0_2 : TGather) (x : (Int × (TPlant × Unit) × (List Int))) (c : St → Option (Ex × St)), den s_l08Play_3c39_V s_l08Play_3c39_A (loopAt s_l08Play_3c39_b 0) (s_l08Play_3c39_l4_mk z4_0 z4_1 h4_0_0 h4_0_2 x) (roundK s_l08Play_3c39_l4_L.kp s_l08Play_3c39_l4_L.kx c) = (s_l08Play_3c39_l4 h4_0_0 h4_0_2 x).run (roundR (s_l08Play_3c39_l4_mk z4_0 z4_1 h4_0_0 h4_0_2) (s_l08Play_3c39_l4_out z4_0 z4_1 h4_0_0 h4_0_2) c) := fun _ _ _ _ _ _ => by
 kernel_rfl
theorem s_l08Play_3c39_l4_ok : LoopOK s_l08Play_3c39_V s_l08Play_3c39_A (loopAt s_l08Play_3c39_b 0) s_l08Play_3c39_l4_L := loopOK_of fun s e s' h => by
 generalize hs : restrict s_l08Play_3c39_l4_L.kp s = s1 at h
 have h : (s_l08Play_3c39_l4_D s1).run some = some (e, s') := h
 obtain ⟨z3, d2, e1, h_0⟩ := asImm_spec h
 obtain ⟨e4, h_1⟩ := asPtr_spec h_0
 obtain ⟨e5, h_2⟩ := asRef_spec h_1
 obtain ⟨d7, e6, h_3⟩ := asImmZ_spec h_2
 obtain ⟨m9, d10, e8, h_4⟩ := asRoot_spec h_3
 obtain ⟨z11, rfl, h_5⟩ := asMImm_spec h_4
 obtain ⟨m13, d14, e12, h_6⟩ := asRoot_spec h_5
 obtain ⟨rfl, h_7⟩ := asM_spec h_6
 obtain ⟨d15, d16, rfl, h_8⟩ := asProd_spec h_7
 obtain ⟨rfl, h_9⟩ := asD_spec h_8
 obtain ⟨m18, d19, e17, h_10⟩ := asRoot_spec h_9
 obtain ⟨rfl, h_11⟩ := asM_spec h_10
 obtain ⟨y, hy, hz⟩ := mat_ret h_11
 refine ⟨_, _, s_l08Play_3c39_l4_mk z3 z11 d2 d10, s_l08Play_3c39_l4_out z3 z11 d2 d10, s_l08Play_3c39_l4 d2 d10, (d7, d16, d19), y, ?_, hy, ?_, s_l08Play_3c39_l4_step z3 z11 d2 d10⟩
 ·subst hs; exact restrict_eq (T := [(1, (.imm z3 (.sl kDeed) d2)), (6, (.ptr (12, 0) [])), (7, (.ref (9, 0) [])), (8, (.imm true (.int .i64) d7))]) (U := [((0, 0), some ⟨true, kGather, (.imm z11), d10⟩), ((12, 0), some ⟨true, kL08Run, .own, ((some (0, 0) : Option RName), d16)⟩), ((9, 0), some ⟨false, (.sl (.int .i64)), .own, d19⟩)]) rfl rfl ⟨e1, e4, e5, e6, trivial⟩ ⟨e8, e12, e17, trivial⟩
 ·exact Option.some.inj hz
noncomputable def s_l08Play_3c39_I : FnI := ⟨s_l08Play_3c39_b, Try.f39.results.toList, Try.f39.resultTypes.toList, s_l08Play_3c39_A⟩
noncomputable def s_l08Play_3c39_out (_zp0 : Bool) (zp1 : Bool) (_p0 : (List TDeed)) (p1 : TGather) : ((TPlant × Unit) × (List Int)) → CallOut := fun r => ⟨(.tcons (.ptr (1, 0) []) (.tcons (.ref (1, 1) []) .tnil)), [⟨true, kGather, (.imm zp1), p1⟩], [⟨true, kL08Run, .own, ((some (0, 0) : Option RName), r.1)⟩, ⟨false, (.sl (.int .i64)), .own, r.2⟩]⟩
set_option maxRecDepth 100000 in
theorem s_l08Play_3c39_eq : ∀ (zp0 : Bool) (zp1 : Bool) (p0 : (List TDeed)) (p1 : TGather), denFn s_l08Play_3c39_V s_l08Play_3c39_I ⟨[(.ptr (0, 0) []), (.imm zp0 (.sl kDeed) p0)], [⟨true, kGather, (.imm zp1), p1⟩]⟩ = (s_l08Play_3c39 p0 p1).run fun r => some (s_l08Play_3c39_out zp0 zp1 p0 p1 r) := fun _ _ _ _ => by kernel_rfl
noncomputable def s_l08Play_3c39_G (av : List AV) (rs : List Root) : Tre CallOut :=
 asCons av fun a0_ av0 =>
 asCons av0 fun a1_ av1 =>
 asEnd av1 <|
 asCons rs fun r0_ rs0 =>
 asEnd rs0 <|
 asPtr (0, 0) [] a0_ <|
 asImm (.sl kDeed) a1_ fun z2 d1 =>
 asRt true kGather r0_ fun m3 d4 =>
 asMImm m3 fun z5 =>
 .mat (playR d1 d4) fun r => .ret (s_l08Play_3c39_out z2 z5 d1 d4 r)
noncomputable def s_l08Play_3c39_c : Ctr := ⟨[], fun ci => s_l08Play_3c39_G ci.args ci.roots, false⟩
theorem s_l08Play_3c39_env : EnvOK Try.prog s_l08Play_3c39_V := (envOK_cons s_l08Begin_9aa7_ok ent65 (envOK_cons s_l08Run_do_9d6c_ok ent69 envOK_nil))
set_option maxRecDepth 100000 in
theorem s_l08Play_3c39_ok : Contract Try.prog 39 s_l08Play_3c39_c := by
 have hl : LoopsOK s_l08Play_3c39_V s_l08Play_3c39_A s_l08Play_3c39_b := (loopsOK_all (n := 1) (by kernel_rfl) fun k hk => by
   match k, hk with
   | 0, _ => exact loopOK_at (id := 4) (L := s_l08Play_3c39_l4_L) (by kernel_rfl) (by kernel_rfl) s_l08Play_3c39_l4_ok)
 refine (contract_of (F := s_l08Play_3c39_I) tau_tys s_l08Play_3c39_env Try.func39 (by kernel_rfl) (by kernel_rfl) (by kernel_rfl) hl []).weaken ?_
 rintro ⟨av, rs⟩ co h
 have h : (s_l08Play_3c39_G av rs).run some = some co := h
 obtain ⟨a0_, av0, rfl, h_0⟩ := asCons_spec h
 obtain ⟨a1_, av1, rfl, h_1⟩ := asCons_spec h_0
 obtain ⟨rfl, h_2⟩ := asEnd_spec h_1
 obtain ⟨r0_, rs0, rfl, h_3⟩ := asCons_spec h_2
 obtain ⟨rfl, h_4⟩ := asEnd_spec h_3
 obtain ⟨rfl, h_5⟩ := asPtr_spec h_4
 obtain ⟨z2, d1, rfl, h_6⟩ := asImm_spec h_5
 obtain ⟨m3, d4, rfl, h_7⟩ := asRt_spec h_6
 obtain ⟨z5, rfl, h_8⟩ := asMImm_spec h_7
 exact fin_opt (s_l08Play_3c39_eq z2 z5 d1 d4) (s_l08Play_3c39_spec d1 d4) h_8
end Go.Proofs.Ytohnlghdhbignaa

namespace Go.Proofs.Ytohnlghdhbignaa
open Go Go.Abs Go.Proofs
-- shared
def codeM (g : G8) (ds : List D8) (s : Int) : Int := cond (isG g && ds.all vDeed) (cond (decide ((ds.length : Int) > 300)) 2 (cond (inR s 0 (statG g - 1)) 0 2)) 1
theorem codeM_zero (g : G8) (ds : List D8) : codeM g ds 0 = askedM ds g := by
 unfold codeM askedM
 cases h : isG g
 ·rfl
 ·have := isG_spec h
  rw [show inR 0 0 (statG g - 1) = true from by rw [inR_iff]; unfold statG; omega, cond_true]
noncomputable def afterM (g : G8) (ds : List D8) : P8 := (runM g ds (beginM g)).1
theorem afterM_ok {g : G8} {ds : List D8} (hg : isG g = true) (hd : ds.all vDeed = true) (hl : ds.length ≤ 300) : okP 304 g (afterM g ds) = true :=
 okP_mono (runM_ok hg ds hd (beginM_ok hg)) (by omega)
end Go.Proofs.Ytohnlghdhbignaa

namespace Go.Proofs.Ytohnlghdhbignaa
open Go Go.Abs Go.Proofs
noncomputable def i_Gather_stations (p0 : TGather) : Tre Int :=
 let v1 := iwrap .i64 (1 + p0.2.2.2.1)
 let v2 := iwrap .i64 (v1 + p0.2.2.2.2.1)
 .ret v2
noncomputable def i_Gather_stations_F (p0 : TGather) : Option Int := (i_Gather_stations p0).run some
def i_Gather_stations_S (p0 : TGather) : Int :=
 let v1 := iwrap .i64 (1 + p0.2.2.2.1)
 let v2 := iwrap .i64 (v1 + p0.2.2.2.2.1)
 v2
theorem i_Gather_stations_spec (p0 : TGather) : i_Gather_stations_F p0 = some (i_Gather_stations_S p0) := rfl
noncomputable def i_Gather_stations_V : Env := ⟨tau, [], []⟩
noncomputable def i_Gather_stations_b : Code := (Try.f103.body).getD .skip
noncomputable def i_Gather_stations_I : FnI := ⟨i_Gather_stations_b, Try.f103.results.toList, Try.f103.resultTypes.toList, []⟩
noncomputable def i_Gather_stations_out (_zp0 : Bool) (_p0 : TGather) : Int → CallOut := fun r => ⟨(.imm true (.int .i64) r), [], []⟩
set_option maxRecDepth 100000 in
theorem i_Gather_stations_eq : ∀ (zp0 : Bool) (p0 : TGather), denFn i_Gather_stations_V i_Gather_stations_I ⟨[(.imm zp0 kGather p0)], []⟩ = (i_Gather_stations p0).run fun r => some (i_Gather_stations_out zp0 p0 r) := fun _ _ => by kernel_rfl
noncomputable def i_Gather_stations_G (av : List AV) (rs : List Root) : Tre CallOut :=
 asCons av fun a0_ av0 =>
 asEnd av0 <|
 asEnd rs <|
 asImm kGather a0_ fun z2 d1 =>
 .ret (i_Gather_stations_out z2 d1 (i_Gather_stations_S d1))
noncomputable def i_Gather_stations_c : Ctr := ⟨[], fun ci => i_Gather_stations_G ci.args ci.roots, false⟩
theorem i_Gather_stations_env : EnvOK Try.prog i_Gather_stations_V := envOK_nil
set_option maxRecDepth 100000 in
theorem i_Gather_stations_ok : Contract Try.prog 103 i_Gather_stations_c := by
 have hl : LoopsOK i_Gather_stations_V [] i_Gather_stations_b := loopsOK_nil (by kernel_rfl)
 refine (contract_of (F := i_Gather_stations_I) tau_tys i_Gather_stations_env Try.func103 (by kernel_rfl) (by kernel_rfl) (by kernel_rfl) hl []).weaken ?_
 rintro ⟨av, rs⟩ co h
 have h : (i_Gather_stations_G av rs).run some = some co := h
 obtain ⟨a0_, av0, rfl, h_0⟩ := asCons_spec h
 obtain ⟨rfl, h_1⟩ := asEnd_spec h_0
 obtain ⟨rfl, h_2⟩ := asEnd_spec h_1
 obtain ⟨z2, d1, rfl, h_3⟩ := asImm_spec h_2
 exact fin_ret (i_Gather_stations_eq z2 d1) (i_Gather_stations_spec d1) h_3
end Go.Proofs.Ytohnlghdhbignaa

namespace Go.Proofs.Ytohnlghdhbignaa
open Go Go.Abs Go.Proofs
noncomputable def i_Gather_source_l3 (h3_0_0 : (List Int)) (h3_0_1 : Int) (h3_0_3 : TGather) : (Int × (List Int)) → Tre ((Int × (List Int)) ⊕ (List Int)) := fun s3 =>
 .cond (decide (s3.1 < h3_0_1))
  (.ite (0 ≤ s3.1 ∧ s3.1 < (h3_0_0.length : Int)) <|
  .mat (h3_0_0[s3.1.toNat]?) fun x1 =>
  .ite (0 ≤ s3.1) <|
  .ite (0 ≤ h3_0_3.1) <|
  let v2 := ior .i64 (ishl .i64 1 s3.1) (ishl .i64 x1 h3_0_3.1)
  .ite ((s3.2.length + 1) * 8 ≤ appendMax ∧ 1 ≤ 8) <|
  .ret (.inl (iwrap .i64 (s3.1 + 1), s3.2 ++ ([v2]))))
  (.ret (.inr s3.2))
noncomputable def i_Gather_source (p0 : TGather) : Tre (List Int) :=
 .mat (loopF (i_Gather_source_l3 p0.2.2.1 (p0.2.2.1.length : Int) p0) (0, [])) fun l3 =>
 .ret l3
noncomputable def i_Gather_source_F (p0 : TGather) : Option (List Int) := (i_Gather_source p0).run some
theorem i_Gather_source_spec (p0 : Int × Int × List Int × Int × Int × Unit) (y : List Int) (h : srcR p0 = some y) : i_Gather_source_F p0 = some y := by
 obtain ⟨hok, rfl⟩ := askO_some h
 simp only [Bool.and_eq_true, decide_eq_true_eq, inR_iff] at hok
 obtain ⟨hk, hl⟩ := hok
 unfold i_Gather_source_F i_Gather_source
 have := fold_loop (xs := p0.2.2.1) (step := i_Gather_source_l3 p0.2.2.1 (p0.2.2.1.length : Int) p0) (fun i acc => ((i : Int), acc)) (fun i acc x => .inl (acc ++ [ior .i64 (ishl .i64 1 (i : Int)) (ishl .i64 x p0.1)])) id (fun i acc => acc.length = i) (by
  intro i acc x hx hI
  have hi : i < p0.2.2.1.length := (List.getElem?_eq_some_iff.1 hx).1
  refine ⟨?_, fun a ha => by cases ha; simp [hI]⟩
  unfold i_Gather_source_l3
  rw [run_inb hx]
  dsimp only
  rw [Tre.run_ite, if_pos (by omega), Tre.run_ite, if_pos (by omega), Tre.run_ite, if_pos (by unfold appendMax; omega), Tre.run_ret, iwrap_succ (by omega)])
  (by
  intro acc _
  unfold i_Gather_source_l3
  exact run_out) p0.2.2.1 0 [] rfl (Nat.zero_le _) rfl
 have h1 : loopF (i_Gather_source_l3 p0.2.2.1 (p0.2.2.1.length : Int) p0) (0, []) = some (srcL p0) := this
 rw [run_some_mat h1]
 rfl
noncomputable def i_Gather_source_V : Env := ⟨tau, [], []⟩
noncomputable def i_Gather_source_b : Code := (Try.f104.body).getD .skip
noncomputable def i_Gather_source_l3_mk (z3_0 : Bool) (z3_1 : Bool) (h3_0_0 : (List Int)) (h3_0_1 : Int) (h3_0_3 : TGather) : (Int × (List Int)) → St := fun x => stOf [(1, (.ptr (3, 0) [])), (3, (.ref (5, 0) [])), (8, (.imm z3_0 (.sl (.int .i64)) h3_0_0)), (9, (.imm true (.int .i64) h3_0_1)), (10, (.imm true (.int .i64) x.1))] [((3, 0), some ⟨true, kGather, (.imm z3_1), h3_0_3⟩), ((5, 0), some ⟨false, (.sl (.int .i64)), .own, x.2⟩)]
noncomputable def i_Gather_source_l3_out (_z3_0 : Bool) (_z3_1 : Bool) (_h3_0_0 : (List Int)) (_h3_0_1 : Int) (_h3_0_3 : TGather) : (List Int) → Ex × St := fun x => (.exit 0, stOf [(3, (.ref (5, 0) []))] [((5, 0), some ⟨false, (.sl (.int .i64)), .own, x⟩)])
noncomputable def i_Gather_source_l3_D (s : St) : Tre (Ex × St) :=
 asPtr (3, 0) [] (s.tmps 1) <|
 asRef (5, 0) [] (s.tmps 3) <|
 asImm (.sl (.int .i64)) (s.tmps 8) fun z5 d4 =>
 asImmZ true (.int .i64) (s.tmps 9) fun d7 =>
 asImmZ true (.int .i64) (s.tmps 10) fun d9 =>
 asRoot true kGather (s.roots (3, 0)) fun m11 d12 =>
 asMImm m11 fun z13 =>
 asRoot false (.sl (.int .i64)) (s.roots (5, 0)) fun m15 d16 =>
 asM .own m15 <|
 .mat (loopF (i_Gather_source_l3 d4 d7 d12) (d9, d16)) fun x => .ret (i_Gather_source_l3_out z5 z13 d4 d7 d12 x)
noncomputable def i_Gather_source_l3_L : LoopI := ⟨([1, 3, 8, 9, 10], [(3, 0), (5, 0)]), ([3], [(5, 0)]), i_Gather_source_l3_D⟩
noncomputable def i_Gather_source_A : List (Nat × LoopI) := [(3, i_Gather_source_l3_L)]
set_option maxRecDepth 100000 in
theorem i_Gather_source_l3_step : ∀ (z3_0 : Bool) (z3_1 : Bool) (h3_0_0 : (List Int)) (h3_0_1 : Int) (h3_0_3 : TGather) (x : (Int × (List Int))) (c : St → Option (Ex × St)), den i_Gather_source_V i_Gather_source_A (loopAt i_Gather_source_b 0) (i_Gather_source_l3_mk z3_0 z3_1 h3_0_0 h3_0_1 h3_0_3 x) (roundK i_Gather_source_l3_L.kp i_Gather_source_l3_L.kx c) = (i_Gather_source_l3 h3_0_0 h3_0_1 h3_0_3 x).run (roundR (i_Gather_source_l3_mk z3_0 z3_1 h3_0_0 h3_0_1 h3_0_3) (i_Gather_source_l3_out z3_0 z3_1 h3_0_0 h3_0_1 h3_0_3) c) := fun _ _ _ _ _ _ _ => by
 kernel_rfl
theorem i_Gather_source_l3_ok : LoopOK i_Gather_source_V i_Gather_source_A (loopAt i_Gather_source_b 0) i_Gather_source_l3_L := loopOK_of fun s e s' h => by
 generalize hs : restrict i_Gather_source_l3_L.kp s = s1 at h
 have h : (i_Gather_source_l3_D s1).run some = some (e, s') := h
 obtain ⟨e1, h_0⟩ := asPtr_spec h
 obtain ⟨e2, h_1⟩ := asRef_spec h_0
 obtain ⟨z5, d4, e3, h_2⟩ := asImm_spec h_1
 obtain ⟨d7, e6, h_3⟩ := asImmZ_spec h_2
 obtain ⟨d9, e8, h_4⟩ := asImmZ_spec h_3
 obtain ⟨m11, d12, e10, h_5⟩ := asRoot_spec h_4
 obtain ⟨z13, rfl, h_6⟩ := asMImm_spec h_5
 obtain ⟨m15, d16, e14, h_7⟩ := asRoot_spec h_6
 obtain ⟨rfl, h_8⟩ := asM_spec h_7
 obtain ⟨y, hy, hz⟩ := mat_ret h_8
 refine ⟨_, _, i_Gather_source_l3_mk z5 z13 d4 d7 d12, i_Gather_source_l3_out z5 z13 d4 d7 d12, i_Gather_source_l3 d4 d7 d12, (d9, d16), y, ?_, hy, ?_, i_Gather_source_l3_step z5 z13 d4 d7 d12⟩
 ·subst hs; exact restrict_eq (T := [(1, (.ptr (3, 0) [])), (3, (.ref (5, 0) [])), (8, (.imm z5 (.sl (.int .i64)) d4)), (9, (.imm true (.int .i64) d7)), (10, (.imm true (.int .i64) d9))]) (U := [((3, 0), some ⟨true, kGather, (.imm z13), d12⟩), ((5, 0), some ⟨false, (.sl (.int .i64)), .own, d16⟩)]) rfl rfl ⟨e1, e2, e3, e6, e8, trivial⟩ ⟨e10, e14, trivial⟩
 ·exact Option.some.inj hz
noncomputable def i_Gather_source_I : FnI := ⟨i_Gather_source_b, Try.f104.results.toList, Try.f104.resultTypes.toList, i_Gather_source_A⟩
noncomputable def i_Gather_source_out (_zp0 : Bool) (_p0 : TGather) : (List Int) → CallOut := fun r => ⟨(.ref (1, 0) []), [], [⟨false, (.sl (.int .i64)), .own, r⟩]⟩
set_option maxRecDepth 100000 in
theorem i_Gather_source_eq : ∀ (zp0 : Bool) (p0 : TGather), denFn i_Gather_source_V i_Gather_source_I ⟨[(.imm zp0 kGather p0)], []⟩ = (i_Gather_source p0).run fun r => some (i_Gather_source_out zp0 p0 r) := fun _ _ => by kernel_rfl
noncomputable def i_Gather_source_G (av : List AV) (rs : List Root) : Tre CallOut :=
 asCons av fun a0_ av0 =>
 asEnd av0 <|
 asEnd rs <|
 asImm kGather a0_ fun z2 d1 =>
 .mat (srcR d1) fun r => .ret (i_Gather_source_out z2 d1 r)
noncomputable def i_Gather_source_c : Ctr := ⟨[], fun ci => i_Gather_source_G ci.args ci.roots, false⟩
theorem i_Gather_source_env : EnvOK Try.prog i_Gather_source_V := envOK_nil
set_option maxRecDepth 100000 in
theorem i_Gather_source_ok : Contract Try.prog 104 i_Gather_source_c := by
 have hl : LoopsOK i_Gather_source_V i_Gather_source_A i_Gather_source_b := (loopsOK_all (n := 1) (by kernel_rfl) fun k hk => by
   match k, hk with
   | 0, _ => exact loopOK_at (id := 3) (L := i_Gather_source_l3_L) (by kernel_rfl) (by kernel_rfl) i_Gather_source_l3_ok)
 refine (contract_of (F := i_Gather_source_I) tau_tys i_Gather_source_env Try.func104 (by kernel_rfl) (by kernel_rfl) (by kernel_rfl) hl []).weaken ?_
 rintro ⟨av, rs⟩ co h
 have h : (i_Gather_source_G av rs).run some = some co := h
 obtain ⟨a0_, av0, rfl, h_0⟩ := asCons_spec h
 obtain ⟨rfl, h_1⟩ := asEnd_spec h_0
 obtain ⟨rfl, h_2⟩ := asEnd_spec h_1
 obtain ⟨z2, d1, rfl, h_3⟩ := asImm_spec h_2
 exact fin_opt (i_Gather_source_eq z2 d1) (i_Gather_source_spec d1) h_3
end Go.Proofs.Ytohnlghdhbignaa

namespace Go.Proofs.Ytohnlghdhbignaa
open Go Go.Abs Go.Proofs
noncomputable def i_within (p0 : Int) (p1 : Int) (p2 : Int) : Tre Bool :=
 .cond (decide (p0 ≥ p1))
  (.ret (decide (p0 ≤ p2)))
  (.ret false)
noncomputable def i_within_F (p0 : Int) (p1 : Int) (p2 : Int) : Option Bool := (i_within p0 p1 p2).run some
theorem i_within_spec (n a b : Int) : i_within_F n a b = some (inR n a b) := by
 unfold i_within_F i_within inR
 by_cases h : a ≤ n
 ·simp [Tre.run_cond, Tre.run_ret, h]
 ·simp [Tre.run_cond, Tre.run_ret, h]
noncomputable def i_within_V : Env := ⟨tau, [], []⟩
noncomputable def i_within_b : Code := (Try.f98.body).getD .skip
noncomputable def i_within_I : FnI := ⟨i_within_b, Try.f98.results.toList, Try.f98.resultTypes.toList, []⟩
noncomputable def i_within_out (_p0 : Int) (_p1 : Int) (_p2 : Int) : Bool → CallOut := fun r => ⟨(.imm true .bool r), [], []⟩
set_option maxRecDepth 100000 in
theorem i_within_eq : ∀ (p0 : Int) (p1 : Int) (p2 : Int), denFn i_within_V i_within_I ⟨[(.imm true (.int .i64) p0), (.imm true (.int .i64) p1), (.imm true (.int .i64) p2)], []⟩ = (i_within p0 p1 p2).run fun r => some (i_within_out p0 p1 p2 r) := fun _ _ _ => by kernel_rfl
noncomputable def i_within_G (av : List AV) (rs : List Root) : Tre CallOut :=
 asCons av fun a0_ av0 =>
 asCons av0 fun a1_ av1 =>
 asCons av1 fun a2_ av2 =>
 asEnd av2 <|
 asEnd rs <|
 asImmZ true (.int .i64) a0_ fun d1 =>
 asImmZ true (.int .i64) a1_ fun d2 =>
 asImmZ true (.int .i64) a2_ fun d3 =>
 .ret (i_within_out d1 d2 d3 (inR d1 d2 d3))
noncomputable def i_within_c : Ctr := ⟨[], fun ci => i_within_G ci.args ci.roots, false⟩
theorem i_within_env : EnvOK Try.prog i_within_V := envOK_nil
set_option maxRecDepth 100000 in
theorem i_within_ok : Contract Try.prog 98 i_within_c := by
 have hl : LoopsOK i_within_V [] i_within_b := loopsOK_nil (by kernel_rfl)
 refine (contract_of (F := i_within_I) tau_tys i_within_env Try.func98 (by kernel_rfl) (by kernel_rfl) (by kernel_rfl) hl []).weaken ?_
 rintro ⟨av, rs⟩ co h
 have h : (i_within_G av rs).run some = some co := h
 obtain ⟨a0_, av0, rfl, h_0⟩ := asCons_spec h
 obtain ⟨a1_, av1, rfl, h_1⟩ := asCons_spec h_0
 obtain ⟨a2_, av2, rfl, h_2⟩ := asCons_spec h_1
 obtain ⟨rfl, h_3⟩ := asEnd_spec h_2
 obtain ⟨rfl, h_4⟩ := asEnd_spec h_3
 obtain ⟨d1, rfl, h_5⟩ := asImmZ_spec h_4
 obtain ⟨d2, rfl, h_6⟩ := asImmZ_spec h_5
 obtain ⟨d3, rfl, h_7⟩ := asImmZ_spec h_6
 exact fin_ret (i_within_eq d1 d2 d3) (i_within_spec d1 d2 d3) h_7
end Go.Proofs.Ytohnlghdhbignaa

namespace Go.Proofs.Ytohnlghdhbignaa
open Go Go.Abs Go.Proofs
noncomputable def i_size_int64 (p0 : (List Int)) : Tre Int :=
 .ret (p0.length : Int)
noncomputable def i_size_int64_F (p0 : (List Int)) : Option Int := (i_size_int64 p0).run some
theorem i_size_int64_spec (p0 : (List Int)) : i_size_int64_F p0 = some (p0.length : Int) := rfl
noncomputable def i_size_int64_V : Env := ⟨tau, [], []⟩
noncomputable def i_size_int64_b : Code := (Try.f116.body).getD .skip
noncomputable def i_size_int64_I : FnI := ⟨i_size_int64_b, Try.f116.results.toList, Try.f116.resultTypes.toList, []⟩
noncomputable def i_size_int64_out (_zp0 : Bool) (_p0 : (List Int)) : Int → CallOut := fun r => ⟨(.imm true (.int .i64) r), [], []⟩
set_option maxRecDepth 100000 in
theorem i_size_int64_eq : ∀ (zp0 : Bool) (p0 : (List Int)), denFn i_size_int64_V i_size_int64_I ⟨[(.imm zp0 (.sl (.int .i64)) p0)], []⟩ = (i_size_int64 p0).run fun r => some (i_size_int64_out zp0 p0 r) := fun _ _ => by kernel_rfl
noncomputable def i_size_int64_G (av : List AV) (rs : List Root) : Tre CallOut :=
 asCons av fun a0_ av0 =>
 asEnd av0 <|
 asEnd rs <|
 asImm (.sl (.int .i64)) a0_ fun z2 d1 =>
 .ret (i_size_int64_out z2 d1 (d1.length : Int))
noncomputable def i_size_int64_c : Ctr := ⟨[], fun ci => i_size_int64_G ci.args ci.roots, false⟩
theorem i_size_int64_env : EnvOK Try.prog i_size_int64_V := envOK_nil
set_option maxRecDepth 100000 in
theorem i_size_int64_ok : Contract Try.prog 116 i_size_int64_c := by
 have hl : LoopsOK i_size_int64_V [] i_size_int64_b := loopsOK_nil (by kernel_rfl)
 refine (contract_of (F := i_size_int64_I) tau_tys i_size_int64_env Try.func116 (by kernel_rfl) (by kernel_rfl) (by kernel_rfl) hl []).weaken ?_
 rintro ⟨av, rs⟩ co h
 have h : (i_size_int64_G av rs).run some = some co := h
 obtain ⟨a0_, av0, rfl, h_0⟩ := asCons_spec h
 obtain ⟨rfl, h_1⟩ := asEnd_spec h_0
 obtain ⟨rfl, h_2⟩ := asEnd_spec h_1
 obtain ⟨z2, d1, rfl, h_3⟩ := asImm_spec h_2
 exact fin_ret (i_size_int64_eq z2 d1) (i_size_int64_spec d1) h_3
end Go.Proofs.Ytohnlghdhbignaa

namespace Go.Proofs.Ytohnlghdhbignaa
open Go Go.Abs Go.Proofs
noncomputable def i_Gather_isDatac1_9af1 (p0 : Int) (p1 : TGather) : Tre Bool :=
 .ite (0 ≤ p1.2.1) <|
 let v1 := iwrap .i64 ((ishl .i64 1 p1.2.1) - 1)
 .ret (!(inR p0 0 v1))
noncomputable def i_Gather_isDatac1_9af1_F (p0 : Int) (p1 : TGather) : Option Bool := (i_Gather_isDatac1_9af1 p0 p1).run some
def noD (x : Int) (p : Int × Int × List Int × Int × Int × Unit) : Option Bool := askO (decide (0 ≤ p.2.1)) (!inP p.2.1 x)
theorem i_Gather_isDatac1_9af1_spec (p0 : Int) (p1 : Int × Int × List Int × Int × Int × Unit) (y : Bool) (h : noD p0 p1 = some y) : i_Gather_isDatac1_9af1_F p0 p1 = some y := by
 obtain ⟨hl, rfl⟩ := askO_some h
 unfold i_Gather_isDatac1_9af1_F i_Gather_isDatac1_9af1
 rw [Tre.run_ite, if_pos (of_decide_eq_true hl)]
 rfl
noncomputable def i_Gather_isDatac1_9af1_V : Env := ⟨tau, [(98, i_within_c)], []⟩
noncomputable def i_Gather_isDatac1_9af1_b : Code := (Try.f129.body).getD .skip
noncomputable def i_Gather_isDatac1_9af1_I : FnI := ⟨i_Gather_isDatac1_9af1_b, Try.f129.results.toList, Try.f129.resultTypes.toList, []⟩
noncomputable def i_Gather_isDatac1_9af1_out (zp0 : Bool) (_p0 : Int) (p1 : TGather) : Bool → CallOut := fun r => ⟨(.imm true .bool r), [⟨true, kGather, (.imm zp0), p1⟩], []⟩
set_option maxRecDepth 100000 in
theorem i_Gather_isDatac1_9af1_eq : ∀ (zp0 : Bool) (p0 : Int) (p1 : TGather), denFn i_Gather_isDatac1_9af1_V i_Gather_isDatac1_9af1_I ⟨[(.imm true (.int .i64) p0), (.ptr (0, 0) [])], [⟨true, kGather, (.imm zp0), p1⟩]⟩ = (i_Gather_isDatac1_9af1 p0 p1).run fun r => some (i_Gather_isDatac1_9af1_out zp0 p0 p1 r) := fun _ _ _ => by kernel_rfl
noncomputable def i_Gather_isDatac1_9af1_G (av : List AV) (rs : List Root) : Tre CallOut :=
 asCons av fun a0_ av0 =>
 asCons av0 fun a1_ av1 =>
 asEnd av1 <|
 asCons rs fun r0_ rs0 =>
 asEnd rs0 <|
 asImmZ true (.int .i64) a0_ fun d1 =>
 asPtr (0, 0) [] a1_ <|
 asRt true kGather r0_ fun m2 d3 =>
 asMImm m2 fun z4 =>
 .mat (noD d1 d3) fun r => .ret (i_Gather_isDatac1_9af1_out z4 d1 d3 r)
noncomputable def i_Gather_isDatac1_9af1_c : Ctr := ⟨[], fun ci => i_Gather_isDatac1_9af1_G ci.args ci.roots, false⟩
theorem i_Gather_isDatac1_9af1_env : EnvOK Try.prog i_Gather_isDatac1_9af1_V := (envOK_cons i_within_ok ent98 envOK_nil)
set_option maxRecDepth 100000 in
theorem i_Gather_isDatac1_9af1_ok : Contract Try.prog 129 i_Gather_isDatac1_9af1_c := by
 have hl : LoopsOK i_Gather_isDatac1_9af1_V [] i_Gather_isDatac1_9af1_b := loopsOK_nil (by kernel_rfl)
 refine (contract_of (F := i_Gather_isDatac1_9af1_I) tau_tys i_Gather_isDatac1_9af1_env Try.func129 (by kernel_rfl) (by kernel_rfl) (by kernel_rfl) hl []).weaken ?_
 rintro ⟨av, rs⟩ co h
 have h : (i_Gather_isDatac1_9af1_G av rs).run some = some co := h
 obtain ⟨a0_, av0, rfl, h_0⟩ := asCons_spec h
 obtain ⟨a1_, av1, rfl, h_1⟩ := asCons_spec h_0
 obtain ⟨rfl, h_2⟩ := asEnd_spec h_1
 obtain ⟨r0_, rs0, rfl, h_3⟩ := asCons_spec h_2
 obtain ⟨rfl, h_4⟩ := asEnd_spec h_3
 obtain ⟨d1, rfl, h_5⟩ := asImmZ_spec h_4
 obtain ⟨rfl, h_6⟩ := asPtr_spec h_5
 obtain ⟨m2, d3, rfl, h_7⟩ := asRt_spec h_6
 obtain ⟨z4, rfl, h_8⟩ := asMImm_spec h_7
 exact fin_opt (i_Gather_isDatac1_9af1_eq z4 d1 d3) (i_Gather_isDatac1_9af1_spec d1 d3) h_8
end Go.Proofs.Ytohnlghdhbignaa

namespace Go.Proofs.Ytohnlghdhbignaa
open Go Go.Abs Go.Proofs
noncomputable def slices_IndexFunc_int64_i_Gather_isDatac1_l2 (h2_0_0 : (List Int)) (h2_0_1 : Int) (h2_0_3 : TGather) : Int → Tre (Int ⊕ (Int ⊕ Unit)) := fun s2 =>
 .cond (decide (s2 < h2_0_1))
  (.ite (0 ≤ s2 ∧ s2 < (h2_0_0.length : Int)) <|
  .mat (h2_0_0[s2.toNat]?) fun x1 =>
  .mat (noD x1 h2_0_3) fun r2 =>
  .cond r2
   (.ret (.inr (.inl s2)))
   (.ret (.inl (iwrap .i64 (s2 + 1)))))
  (.ret (.inr (.inr ())))
noncomputable def slices_IndexFunc_int64_i_Gather_isDatac1 (p0 : (List Int)) (p1 : TGather) : Tre Int :=
 .mat (loopF (slices_IndexFunc_int64_i_Gather_isDatac1_l2 p0 (p0.length : Int) p1) 0) fun l3 =>
 .alt l3
  (fun a4 =>
   .ret a4)
  (fun _ =>
   .ret (-1))
noncomputable def slices_IndexFunc_int64_i_Gather_isDatac1_F (p0 : (List Int)) (p1 : TGather) : Option Int := (slices_IndexFunc_int64_i_Gather_isDatac1 p0 p1).run some
def idxD (xs : List Int) (p : Int × Int × List Int × Int × Int × Unit) : Option Int := askO (decide (0 ≤ p.2.1) && decide (xs.length ≤ 1048576)) (idxI (fun x => !inP p.2.1 x) 0 xs)
theorem slices_IndexFunc_int64_i_Gather_isDatac1_spec (p0 : List Int) (p1 : Int × Int × List Int × Int × Int × Unit) (y : Int) (h : idxD p0 p1 = some y) : slices_IndexFunc_int64_i_Gather_isDatac1_F p0 p1 = some y := by
 obtain ⟨hl, rfl⟩ := askO_some h
 rw [Bool.and_eq_true] at hl
 obtain ⟨hm, hl⟩ := hl
 have hl := of_decide_eq_true hl
 unfold slices_IndexFunc_int64_i_Gather_isDatac1_F slices_IndexFunc_int64_i_Gather_isDatac1
 rw [Tre.run_mat, find_loop (xs := p0) (fun i x => cond (!inP p1.2.1 x) (some (.inl (i : Int))) none) (.inr ())]
 ·rw [Option.bind_some, ← findE_idx (p := fun x => !inP p1.2.1 x)]
  generalize findE _ _ _ _ = r
  cases r <;> rfl
 ·intro i x hx
  have hi : i < p0.length := (List.getElem?_eq_some_iff.1 hx).1
  unfold slices_IndexFunc_int64_i_Gather_isDatac1_l2
  rw [run_inb hx, run_some_mat (show noD x p1 = some _ from askO_true hm), Tre.run_cond]
  cases inP p1.2.1 x
  ·rfl
  ·simp only [Bool.not_true, cond_false, Tre.run_ret, iwrap_succ (show i < 4611686018427387904 by omega)]
 ·unfold slices_IndexFunc_int64_i_Gather_isDatac1_l2
  exact run_out
noncomputable def slices_IndexFunc_int64_i_Gather_isDatac1_V : Env := ⟨tau, [(129, i_Gather_isDatac1_9af1_c)], []⟩
noncomputable def slices_IndexFunc_int64_i_Gather_isDatac1_b : Code := (Try.f149.body).getD .skip
noncomputable def slices_IndexFunc_int64_i_Gather_isDatac1_l2_mk (z2_0 : Bool) (z2_1 : Bool) (h2_0_0 : (List Int)) (h2_0_1 : Int) (h2_0_3 : TGather) : Int → St := fun x => stOf [(0, (.imm z2_0 (.sl (.int .i64)) h2_0_0)), (1, (.fn 129 [(0, 0)])), (7, (.imm true (.int .i64) h2_0_1)), (8, (.imm true (.int .i64) x))] [((0, 0), some ⟨true, kGather, (.imm z2_1), h2_0_3⟩)]
noncomputable def slices_IndexFunc_int64_i_Gather_isDatac1_l2_out (_z2_0 : Bool) (z2_1 : Bool) (_h2_0_0 : (List Int)) (_h2_0_1 : Int) (h2_0_3 : TGather) : (Int ⊕ Unit) → Ex × St
 | .inl x => (.ret, stOf [(4, (.imm true (.int .i64) x))] [((0, 0), some ⟨true, kGather, (.imm z2_1), h2_0_3⟩)])
 | .inr x => (.exit 0, stOf [(4, .dead)] [((0, 0), some ⟨true, kGather, (.imm z2_1), h2_0_3⟩)])
noncomputable def slices_IndexFunc_int64_i_Gather_isDatac1_l2_D (s : St) : Tre (Ex × St) :=
 asImm (.sl (.int .i64)) (s.tmps 0) fun z3 d2 =>
 asFn 129 [(0, 0)] (s.tmps 1) <|
 asImmZ true (.int .i64) (s.tmps 7) fun d6 =>
 asImmZ true (.int .i64) (s.tmps 8) fun d8 =>
 asRoot true kGather (s.roots (0, 0)) fun m10 d11 =>
 asMImm m10 fun z12 =>
 .mat (loopF (slices_IndexFunc_int64_i_Gather_isDatac1_l2 d2 d6 d11) d8) fun x => .alt x (fun a0 => .ret (slices_IndexFunc_int64_i_Gather_isDatac1_l2_out z3 z12 d2 d6 d11 (.inl a0))) (fun b0 => .ret (slices_IndexFunc_int64_i_Gather_isDatac1_l2_out z3 z12 d2 d6 d11 (.inr b0)))
noncomputable def slices_IndexFunc_int64_i_Gather_isDatac1_l2_L : LoopI := ⟨([0, 1, 7, 8], [(0, 0)]), ([4], [(0, 0)]), slices_IndexFunc_int64_i_Gather_isDatac1_l2_D⟩
noncomputable def slices_IndexFunc_int64_i_Gather_isDatac1_A : List (Nat × LoopI) := [(2, slices_IndexFunc_int64_i_Gather_isDatac1_l2_L)]
set_option maxRecDepth 100000 in
theorem slices_IndexFunc_int64_i_Gather_isDatac1_l2_step : ∀ (z2_0 : Bool) (z2_1 : Bool) (h2_0_0 : (List Int)) (h2_0_1 : Int) (h2_0_3 : TGather) (x : Int) (c : St → Option (Ex × St)), den slices_IndexFunc_int64_i_Gather_isDatac1_V slices_IndexFunc_int64_i_Gather_isDatac1_A (loopAt slices_IndexFunc_int64_i_Gather_isDatac1_b 0) (slices_IndexFunc_int64_i_Gather_isDatac1_l2_mk z2_0 z2_1 h2_0_0 h2_0_1 h2_0_3 x) (roundK slices_IndexFunc_int64_i_Gather_isDatac1_l2_L.kp slices_IndexFunc_int64_i_Gather_isDatac1_l2_L.kx c) = (slices_IndexFunc_int64_i_Gather_isDatac1_l2 h2_0_0 h2_0_1 h2_0_3 x).run (roundR (slices_IndexFunc_int64_i_Gather_isDatac1_l2_mk z2_0 z2_1 h2_0_0 h2_0_1 h2_0_3) (slices_IndexFunc_int64_i_Gather_isDatac1_l2_out z2_0 z2_1 h2_0_0 h2_0_1 h2_0_3) c) := fun _ _ _ _ _ _ _ => by
 kernel_rfl
theorem slices_IndexFunc_int64_i_Gather_isDatac1_l2_ok : LoopOK slices_IndexFunc_int64_i_Gather_isDatac1_V slices_IndexFunc_int64_i_Gather_isDatac1_A (loopAt slices_IndexFunc_int64_i_Gather_isDatac1_b 0) slices_IndexFunc_int64_i_Gather_isDatac1_l2_L := loopOK_of fun s e s' h => by
 generalize hs : restrict slices_IndexFunc_int64_i_Gather_isDatac1_l2_L.kp s = s1 at h
 have h : (slices_IndexFunc_int64_i_Gather_isDatac1_l2_D s1).run some = some (e, s') := h
 obtain ⟨z3, d2, e1, h_0⟩ := asImm_spec h
 obtain ⟨e4, h_1⟩ := asFn_spec h_0
 obtain ⟨d6, e5, h_2⟩ := asImmZ_spec h_1
 obtain ⟨d8, e7, h_3⟩ := asImmZ_spec h_2
 obtain ⟨m10, d11, e9, h_4⟩ := asRoot_spec h_3
 obtain ⟨z12, rfl, h_5⟩ := asMImm_spec h_4
 obtain ⟨y, hy, hz⟩ := mat_some h_5
 refine ⟨_, _, slices_IndexFunc_int64_i_Gather_isDatac1_l2_mk z3 z12 d2 d6 d11, slices_IndexFunc_int64_i_Gather_isDatac1_l2_out z3 z12 d2 d6 d11, slices_IndexFunc_int64_i_Gather_isDatac1_l2 d2 d6 d11, d8, y, ?_, hy, ?_, slices_IndexFunc_int64_i_Gather_isDatac1_l2_step z3 z12 d2 d6 d11⟩
 ·subst hs; exact restrict_eq (T := [(0, (.imm z3 (.sl (.int .i64)) d2)), (1, (.fn 129 [(0, 0)])), (7, (.imm true (.int .i64) d6)), (8, (.imm true (.int .i64) d8))]) (U := [((0, 0), some ⟨true, kGather, (.imm z12), d11⟩)]) rfl rfl ⟨e1, e4, e5, e7, trivial⟩ ⟨e9, trivial⟩
 ·rcases y with x | x <;> exact Option.some.inj hz
noncomputable def slices_IndexFunc_int64_i_Gather_isDatac1_I : FnI := ⟨slices_IndexFunc_int64_i_Gather_isDatac1_b, Try.f149.results.toList, Try.f149.resultTypes.toList, slices_IndexFunc_int64_i_Gather_isDatac1_A⟩
noncomputable def slices_IndexFunc_int64_i_Gather_isDatac1_out (_zp0 : Bool) (zp1 : Bool) (_p0 : (List Int)) (p1 : TGather) : Int → CallOut := fun r => ⟨(.imm true (.int .i64) r), [⟨true, kGather, (.imm zp1), p1⟩], []⟩
set_option maxRecDepth 100000 in
theorem slices_IndexFunc_int64_i_Gather_isDatac1_eq : ∀ (zp0 : Bool) (zp1 : Bool) (p0 : (List Int)) (p1 : TGather), denFn slices_IndexFunc_int64_i_Gather_isDatac1_V slices_IndexFunc_int64_i_Gather_isDatac1_I ⟨[(.imm zp0 (.sl (.int .i64)) p0), (.fn 129 [(0, 0)])], [⟨true, kGather, (.imm zp1), p1⟩]⟩ = (slices_IndexFunc_int64_i_Gather_isDatac1 p0 p1).run fun r => some (slices_IndexFunc_int64_i_Gather_isDatac1_out zp0 zp1 p0 p1 r) := fun _ _ _ _ => by kernel_rfl
noncomputable def slices_IndexFunc_int64_i_Gather_isDatac1_G (av : List AV) (rs : List Root) : Tre CallOut :=
 asCons av fun a0_ av0 =>
 asCons av0 fun a1_ av1 =>
 asEnd av1 <|
 asCons rs fun r0_ rs0 =>
 asEnd rs0 <|
 asImm (.sl (.int .i64)) a0_ fun z2 d1 =>
 asFn 129 [(0, 0)] a1_ <|
 asRt true kGather r0_ fun m3 d4 =>
 asMImm m3 fun z5 =>
 .mat (idxD d1 d4) fun r => .ret (slices_IndexFunc_int64_i_Gather_isDatac1_out z2 z5 d1 d4 r)
noncomputable def slices_IndexFunc_int64_i_Gather_isDatac1_c : Ctr := ⟨[], fun ci => slices_IndexFunc_int64_i_Gather_isDatac1_G ci.args ci.roots, false⟩
theorem slices_IndexFunc_int64_i_Gather_isDatac1_env : EnvOK Try.prog slices_IndexFunc_int64_i_Gather_isDatac1_V := (envOK_cons i_Gather_isDatac1_9af1_ok ent129 envOK_nil)
set_option maxRecDepth 100000 in
theorem slices_IndexFunc_int64_i_Gather_isDatac1_ok : Contract Try.prog 149 slices_IndexFunc_int64_i_Gather_isDatac1_c := by
 have hl : LoopsOK slices_IndexFunc_int64_i_Gather_isDatac1_V slices_IndexFunc_int64_i_Gather_isDatac1_A slices_IndexFunc_int64_i_Gather_isDatac1_b := (loopsOK_all (n := 1) (by kernel_rfl) fun k hk => by
   match k, hk with
   | 0, _ => exact loopOK_at (id := 2) (L := slices_IndexFunc_int64_i_Gather_isDatac1_l2_L) (by kernel_rfl) (by kernel_rfl) slices_IndexFunc_int64_i_Gather_isDatac1_l2_ok)
 refine (contract_of (F := slices_IndexFunc_int64_i_Gather_isDatac1_I) tau_tys slices_IndexFunc_int64_i_Gather_isDatac1_env Try.func149 (by kernel_rfl) (by kernel_rfl) (by kernel_rfl) hl []).weaken ?_
 rintro ⟨av, rs⟩ co h
 have h : (slices_IndexFunc_int64_i_Gather_isDatac1_G av rs).run some = some co := h
 obtain ⟨a0_, av0, rfl, h_0⟩ := asCons_spec h
 obtain ⟨a1_, av1, rfl, h_1⟩ := asCons_spec h_0
 obtain ⟨rfl, h_2⟩ := asEnd_spec h_1
 obtain ⟨r0_, rs0, rfl, h_3⟩ := asCons_spec h_2
 obtain ⟨rfl, h_4⟩ := asEnd_spec h_3
 obtain ⟨z2, d1, rfl, h_5⟩ := asImm_spec h_4
 obtain ⟨rfl, h_6⟩ := asFn_spec h_5
 obtain ⟨m3, d4, rfl, h_7⟩ := asRt_spec h_6
 obtain ⟨z5, rfl, h_8⟩ := asMImm_spec h_7
 exact fin_opt (slices_IndexFunc_int64_i_Gather_isDatac1_eq z2 z5 d1 d4) (slices_IndexFunc_int64_i_Gather_isDatac1_spec d1 d4) h_8
end Go.Proofs.Ytohnlghdhbignaa

namespace Go.Proofs.Ytohnlghdhbignaa
open Go Go.Abs Go.Proofs
noncomputable def slices_ContainsFunc_int64_i_Gather_isDatac1 (p0 : (List Int)) (p1 : TGather) : Tre Bool :=
 .mat (idxD p0 p1) fun r1 =>
 .ret (decide (r1 ≥ 0))
noncomputable def slices_ContainsFunc_int64_i_Gather_isDatac1_F (p0 : (List Int)) (p1 : TGather) : Option Bool := (slices_ContainsFunc_int64_i_Gather_isDatac1 p0 p1).run some
def hasD (xs : List Int) (p : Int × Int × List Int × Int × Int × Unit) : Option Bool := askO (decide (0 ≤ p.2.1) && decide (xs.length ≤ 1048576)) (xs.any fun x => !inP p.2.1 x)
theorem slices_ContainsFunc_int64_i_Gather_isDatac1_spec (p0 : List Int) (p1 : Int × Int × List Int × Int × Int × Unit) (y : Bool) (h : hasD p0 p1 = some y) : slices_ContainsFunc_int64_i_Gather_isDatac1_F p0 p1 = some y := by
 obtain ⟨hl, rfl⟩ := askO_some h
 unfold slices_ContainsFunc_int64_i_Gather_isDatac1_F slices_ContainsFunc_int64_i_Gather_isDatac1
 rw [run_some_mat (show idxD p0 p1 = some _ from askO_true hl), Tre.run_ret, idxI_any]
noncomputable def slices_ContainsFunc_int64_i_Gather_isDatac1_V : Env := ⟨tau, [(149, slices_IndexFunc_int64_i_Gather_isDatac1_c)], []⟩
noncomputable def slices_ContainsFunc_int64_i_Gather_isDatac1_b : Code := (Try.f128.body).getD .skip
noncomputable def slices_ContainsFunc_int64_i_Gather_isDatac1_I : FnI := ⟨slices_ContainsFunc_int64_i_Gather_isDatac1_b, Try.f128.results.toList, Try.f128.resultTypes.toList, []⟩
noncomputable def slices_ContainsFunc_int64_i_Gather_isDatac1_out (_zp0 : Bool) (zp1 : Bool) (_p0 : (List Int)) (p1 : TGather) : Bool → CallOut := fun r => ⟨(.imm true .bool r), [⟨true, kGather, (.imm zp1), p1⟩], []⟩
set_option maxRecDepth 100000 in
theorem slices_ContainsFunc_int64_i_Gather_isDatac1_eq : ∀ (zp0 : Bool) (zp1 : Bool) (p0 : (List Int)) (p1 : TGather), denFn slices_ContainsFunc_int64_i_Gather_isDatac1_V slices_ContainsFunc_int64_i_Gather_isDatac1_I ⟨[(.imm zp0 (.sl (.int .i64)) p0), (.fn 129 [(0, 0)])], [⟨true, kGather, (.imm zp1), p1⟩]⟩ = (slices_ContainsFunc_int64_i_Gather_isDatac1 p0 p1).run fun r => some (slices_ContainsFunc_int64_i_Gather_isDatac1_out zp0 zp1 p0 p1 r) := fun _ _ _ _ => by kernel_rfl
noncomputable def slices_ContainsFunc_int64_i_Gather_isDatac1_G (av : List AV) (rs : List Root) : Tre CallOut :=
 asCons av fun a0_ av0 =>
 asCons av0 fun a1_ av1 =>
 asEnd av1 <|
 asCons rs fun r0_ rs0 =>
 asEnd rs0 <|
 asImm (.sl (.int .i64)) a0_ fun z2 d1 =>
 asFn 129 [(0, 0)] a1_ <|
 asRt true kGather r0_ fun m3 d4 =>
 asMImm m3 fun z5 =>
 .mat (hasD d1 d4) fun r => .ret (slices_ContainsFunc_int64_i_Gather_isDatac1_out z2 z5 d1 d4 r)
noncomputable def slices_ContainsFunc_int64_i_Gather_isDatac1_c : Ctr := ⟨[], fun ci => slices_ContainsFunc_int64_i_Gather_isDatac1_G ci.args ci.roots, false⟩
theorem slices_ContainsFunc_int64_i_Gather_isDatac1_env : EnvOK Try.prog slices_ContainsFunc_int64_i_Gather_isDatac1_V := (envOK_cons slices_IndexFunc_int64_i_Gather_isDatac1_ok ent149 envOK_nil)
set_option maxRecDepth 100000 in
theorem slices_ContainsFunc_int64_i_Gather_isDatac1_ok : Contract Try.prog 128 slices_ContainsFunc_int64_i_Gather_isDatac1_c := by
 have hl : LoopsOK slices_ContainsFunc_int64_i_Gather_isDatac1_V [] slices_ContainsFunc_int64_i_Gather_isDatac1_b := loopsOK_nil (by kernel_rfl)
 refine (contract_of (F := slices_ContainsFunc_int64_i_Gather_isDatac1_I) tau_tys slices_ContainsFunc_int64_i_Gather_isDatac1_env Try.func128 (by kernel_rfl) (by kernel_rfl) (by kernel_rfl) hl []).weaken ?_
 rintro ⟨av, rs⟩ co h
 have h : (slices_ContainsFunc_int64_i_Gather_isDatac1_G av rs).run some = some co := h
 obtain ⟨a0_, av0, rfl, h_0⟩ := asCons_spec h
 obtain ⟨a1_, av1, rfl, h_1⟩ := asCons_spec h_0
 obtain ⟨rfl, h_2⟩ := asEnd_spec h_1
 obtain ⟨r0_, rs0, rfl, h_3⟩ := asCons_spec h_2
 obtain ⟨rfl, h_4⟩ := asEnd_spec h_3
 obtain ⟨z2, d1, rfl, h_5⟩ := asImm_spec h_4
 obtain ⟨rfl, h_6⟩ := asFn_spec h_5
 obtain ⟨m3, d4, rfl, h_7⟩ := asRt_spec h_6
 obtain ⟨z5, rfl, h_8⟩ := asMImm_spec h_7
 exact fin_opt (slices_ContainsFunc_int64_i_Gather_isDatac1_eq z2 z5 d1 d4) (slices_ContainsFunc_int64_i_Gather_isDatac1_spec d1 d4) h_8
end Go.Proofs.Ytohnlghdhbignaa

namespace Go.Proofs.Ytohnlghdhbignaa
open Go Go.Abs Go.Proofs
noncomputable def i_Gather_isData (p0 : TGather) (p1 : (List Int)) : Tre Bool :=
 .cond (decide ((p1.length : Int) = p0.1))
  (.mat (hasD p1 p0) fun r1 =>
  .ret (!r1))
  (.ret false)
noncomputable def i_Gather_isData_F (p0 : TGather) (p1 : (List Int)) : Option Bool := (i_Gather_isData p0 p1).run some
def isDat (p : Int × Int × List Int × Int × Int × Unit) (xs : List Int) : Option Bool := askO (decide (0 ≤ p.2.1) && decide (xs.length ≤ 1048576)) (decide ((xs.length : Int) = p.1) && xs.all (inP p.2.1))
theorem i_Gather_isData_spec (p0 : Int × Int × List Int × Int × Int × Unit) (p1 : List Int) (y : Bool) (h : isDat p0 p1 = some y) : i_Gather_isData_F p0 p1 = some y := by
 obtain ⟨hl, rfl⟩ := askO_some h
 unfold i_Gather_isData_F i_Gather_isData
 rw [Tre.run_cond, run_some_mat (show hasD p1 p0 = some _ from askO_true hl), Tre.run_ret, Tre.run_ret]
 cases decide ((p1.length : Int) = p0.1)
 ·rfl
 ·simp [List.not_any_eq_all_not]
noncomputable def i_Gather_isData_V : Env := ⟨tau, [(116, i_size_int64_c), (128, slices_ContainsFunc_int64_i_Gather_isDatac1_c)], []⟩
noncomputable def i_Gather_isData_b : Code := (Try.f99.body).getD .skip
noncomputable def i_Gather_isData_I : FnI := ⟨i_Gather_isData_b, Try.f99.results.toList, Try.f99.resultTypes.toList, []⟩
noncomputable def i_Gather_isData_out (_zp0 : Bool) (_zp1 : Bool) (_p0 : TGather) (_p1 : (List Int)) : Bool → CallOut := fun r => ⟨(.imm true .bool r), [], []⟩
set_option maxRecDepth 100000 in
theorem i_Gather_isData_eq : ∀ (zp0 : Bool) (zp1 : Bool) (p0 : TGather) (p1 : (List Int)), denFn i_Gather_isData_V i_Gather_isData_I ⟨[(.imm zp0 kGather p0), (.imm zp1 (.sl (.int .i64)) p1)], []⟩ = (i_Gather_isData p0 p1).run fun r => some (i_Gather_isData_out zp0 zp1 p0 p1 r) := fun _ _ _ _ => by kernel_rfl
noncomputable def i_Gather_isData_G (av : List AV) (rs : List Root) : Tre CallOut :=
 asCons av fun a0_ av0 =>
 asCons av0 fun a1_ av1 =>
 asEnd av1 <|
 asEnd rs <|
 asImm kGather a0_ fun z2 d1 =>
 asImm (.sl (.int .i64)) a1_ fun z4 d3 =>
 .mat (isDat d1 d3) fun r => .ret (i_Gather_isData_out z2 z4 d1 d3 r)
noncomputable def i_Gather_isData_c : Ctr := ⟨[], fun ci => i_Gather_isData_G ci.args ci.roots, false⟩
theorem i_Gather_isData_env : EnvOK Try.prog i_Gather_isData_V := (envOK_cons i_size_int64_ok ent116 (envOK_cons slices_ContainsFunc_int64_i_Gather_isDatac1_ok ent128 envOK_nil))
set_option maxRecDepth 100000 in
theorem i_Gather_isData_ok : Contract Try.prog 99 i_Gather_isData_c := by
 have hl : LoopsOK i_Gather_isData_V [] i_Gather_isData_b := loopsOK_nil (by kernel_rfl)
 refine (contract_of (F := i_Gather_isData_I) tau_tys i_Gather_isData_env Try.func99 (by kernel_rfl) (by kernel_rfl) (by kernel_rfl) hl []).weaken ?_
 rintro ⟨av, rs⟩ co h
 have h : (i_Gather_isData_G av rs).run some = some co := h
 obtain ⟨a0_, av0, rfl, h_0⟩ := asCons_spec h
 obtain ⟨a1_, av1, rfl, h_1⟩ := asCons_spec h_0
 obtain ⟨rfl, h_2⟩ := asEnd_spec h_1
 obtain ⟨rfl, h_3⟩ := asEnd_spec h_2
 obtain ⟨z2, d1, rfl, h_4⟩ := asImm_spec h_3
 obtain ⟨z4, d3, rfl, h_5⟩ := asImm_spec h_4
 exact fin_opt (i_Gather_isData_eq z2 z4 d1 d3) (i_Gather_isData_spec d1 d3) h_5
end Go.Proofs.Ytohnlghdhbignaa

namespace Go.Proofs.Ytohnlghdhbignaa
open Go Go.Abs Go.Proofs
noncomputable def i_ValidGather (p0 : TGather) : Tre Bool :=
 .cond (inR p0.1 1 4)
  (.cond (inR p0.2.1 1 6)
   (.mat (isDat p0 p0.2.2.1) fun r1 =>
   .cond r1
    (.cond (inR p0.2.2.2.1 0 3)
     (.ret (inR p0.2.2.2.2.1 1 3))
     (.ret false))
    (.ret false))
   (.ret false))
  (.ret false)
noncomputable def i_ValidGather_F (p0 : TGather) : Option Bool := (i_ValidGather p0).run some
theorem i_ValidGather_spec (p0 : Int × Int × List Int × Int × Int × Unit) (y : Bool) (h : okG p0 = some y) : i_ValidGather_F p0 = some y := by
 obtain ⟨hl, rfl⟩ := lim_some h
 unfold i_ValidGather_F i_ValidGather isG
 simp only [Tre.run_cond, Tre.run_ret]
 cases h1 : inR p0.1 1 4
 ·rfl
 cases h2 : inR p0.2.1 1 6
 ·rfl
 rw [inR_iff] at h2
 rw [run_some_mat (show isDat p0 p0.2.2.1 = some _ from askO_true (by simp; omega))]
 simp only [cond_true, Bool.true_and, Tre.run_cond, Tre.run_ret]
 cases decide ((p0.2.2.1.length : Int) = p0.1)
 ·rfl
 cases p0.2.2.1.all (inP p0.2.1)
 ·rfl
 cases inR p0.2.2.2.1 0 3 <;> rfl
noncomputable def i_ValidGather_V : Env := ⟨tau, [(98, i_within_c), (99, i_Gather_isData_c)], []⟩
noncomputable def i_ValidGather_b : Code := (Try.f70.body).getD .skip
noncomputable def i_ValidGather_I : FnI := ⟨i_ValidGather_b, Try.f70.results.toList, Try.f70.resultTypes.toList, []⟩
noncomputable def i_ValidGather_out (_zp0 : Bool) (_p0 : TGather) : Bool → CallOut := fun r => ⟨(.imm true .bool r), [], []⟩
set_option maxRecDepth 100000 in
theorem i_ValidGather_eq : ∀ (zp0 : Bool) (p0 : TGather), denFn i_ValidGather_V i_ValidGather_I ⟨[(.imm zp0 kGather p0)], []⟩ = (i_ValidGather p0).run fun r => some (i_ValidGather_out zp0 p0 r) := fun _ _ => by kernel_rfl
noncomputable def i_ValidGather_G (av : List AV) (rs : List Root) : Tre CallOut :=
 asCons av fun a0_ av0 =>
 asEnd av0 <|
 asEnd rs <|
 asImm kGather a0_ fun z2 d1 =>
 .mat (okG d1) fun r => .ret (i_ValidGather_out z2 d1 r)
noncomputable def i_ValidGather_c : Ctr := ⟨[], fun ci => i_ValidGather_G ci.args ci.roots, false⟩
theorem i_ValidGather_env : EnvOK Try.prog i_ValidGather_V := (envOK_cons i_within_ok ent98 (envOK_cons i_Gather_isData_ok ent99 envOK_nil))
set_option maxRecDepth 100000 in
theorem i_ValidGather_ok : Contract Try.prog 70 i_ValidGather_c := by
 have hl : LoopsOK i_ValidGather_V [] i_ValidGather_b := loopsOK_nil (by kernel_rfl)
 refine (contract_of (F := i_ValidGather_I) tau_tys i_ValidGather_env Try.func70 (by kernel_rfl) (by kernel_rfl) (by kernel_rfl) hl []).weaken ?_
 rintro ⟨av, rs⟩ co h
 have h : (i_ValidGather_G av rs).run some = some co := h
 obtain ⟨a0_, av0, rfl, h_0⟩ := asCons_spec h
 obtain ⟨rfl, h_1⟩ := asEnd_spec h_0
 obtain ⟨rfl, h_2⟩ := asEnd_spec h_1
 obtain ⟨z2, d1, rfl, h_3⟩ := asImm_spec h_2
 exact fin_opt (i_ValidGather_eq z2 d1) (i_ValidGather_spec d1) h_3
end Go.Proofs.Ytohnlghdhbignaa

namespace Go.Proofs.Ytohnlghdhbignaa
open Go Go.Abs Go.Proofs
noncomputable def i_deedWord (p0 : Int) : Tre (ByteArray × Int) :=
 .cond (decide (p0 = 1))
  (.ret ((⟨#[115, 101, 110, 100]⟩ : ByteArray), 3))
  (.cond (decide (p0 = 2))
   (.ret ((⟨#[100, 101, 108, 105, 118, 101, 114]⟩ : ByteArray), 1))
   (.cond (decide (p0 = 3))
    (.ret ((⟨#[99, 111, 112, 121]⟩ : ByteArray), 1))
    (.cond (decide (p0 = 4))
     (.ret ((⟨#[100, 114, 111, 112]⟩ : ByteArray), 1))
     (.cond (decide (p0 = 5))
      (.ret ((⟨#[115, 112, 111, 105, 108]⟩ : ByteArray), 2))
      (.cond (decide (p0 = 6))
       (.ret ((⟨#[115, 97, 118, 101]⟩ : ByteArray), 1))
       (.cond (decide (p0 = 7))
        (.ret ((⟨#[99, 114, 97, 115, 104]⟩ : ByteArray), 1))
        (.cond (decide (p0 = 8))
         (.ret ((⟨#[102, 111, 114, 103, 101, 116]⟩ : ByteArray), 1))
         (.ret ((⟨#[]⟩ : ByteArray), 0)))))))))
noncomputable def i_deedWord_F (p0 : Int) : Option (ByteArray × Int) := (i_deedWord p0).run some
def i_deedWord_S (p0 : Int) : (ByteArray × Int) :=
 cond (decide (p0 = 1))
  (((⟨#[115, 101, 110, 100]⟩ : ByteArray), 3))
  (cond (decide (p0 = 2))
   (((⟨#[100, 101, 108, 105, 118, 101, 114]⟩ : ByteArray), 1))
   (cond (decide (p0 = 3))
    (((⟨#[99, 111, 112, 121]⟩ : ByteArray), 1))
    (cond (decide (p0 = 4))
     (((⟨#[100, 114, 111, 112]⟩ : ByteArray), 1))
     (cond (decide (p0 = 5))
      (((⟨#[115, 112, 111, 105, 108]⟩ : ByteArray), 2))
      (cond (decide (p0 = 6))
       (((⟨#[115, 97, 118, 101]⟩ : ByteArray), 1))
       (cond (decide (p0 = 7))
        (((⟨#[99, 114, 97, 115, 104]⟩ : ByteArray), 1))
        (cond (decide (p0 = 8))
         (((⟨#[102, 111, 114, 103, 101, 116]⟩ : ByteArray), 1))
         (((⟨#[]⟩ : ByteArray), 0)))))))))
theorem i_deedWord_spec (p0 : Int) : i_deedWord_F p0 = some (i_deedWord_S p0) := (run_cond_some rfl (run_cond_some rfl (run_cond_some rfl (run_cond_some rfl (run_cond_some rfl (run_cond_some rfl (run_cond_some rfl (run_cond_some rfl rfl))))))))
noncomputable def i_deedWord_V : Env := ⟨tau, [], []⟩
noncomputable def i_deedWord_b : Code := (Try.f101.body).getD .skip
noncomputable def i_deedWord_I : FnI := ⟨i_deedWord_b, Try.f101.results.toList, Try.f101.resultTypes.toList, []⟩
noncomputable def i_deedWord_out (_p0 : Int) : (ByteArray × Int) → CallOut := fun r => ⟨(.tcons (.imm true .str r.1) (.tcons (.imm true (.int .i64) r.2) .tnil)), [], []⟩
set_option maxRecDepth 100000 in
theorem i_deedWord_eq : ∀ (p0 : Int), denFn i_deedWord_V i_deedWord_I ⟨[(.imm true (.int .i64) p0)], []⟩ = (i_deedWord p0).run fun r => some (i_deedWord_out p0 r) := fun _ => by kernel_rfl
noncomputable def i_deedWord_G (av : List AV) (rs : List Root) : Tre CallOut :=
 asCons av fun a0_ av0 =>
 asEnd av0 <|
 asEnd rs <|
 asImmZ true (.int .i64) a0_ fun d1 =>
 .ret (i_deedWord_out d1 (i_deedWord_S d1))
noncomputable def i_deedWord_c : Ctr := ⟨[], fun ci => i_deedWord_G ci.args ci.roots, false⟩
theorem i_deedWord_env : EnvOK Try.prog i_deedWord_V := envOK_nil
set_option maxRecDepth 100000 in
theorem i_deedWord_ok : Contract Try.prog 101 i_deedWord_c := by
 have hl : LoopsOK i_deedWord_V [] i_deedWord_b := loopsOK_nil (by kernel_rfl)
 refine (contract_of (F := i_deedWord_I) tau_tys i_deedWord_env Try.func101 (by kernel_rfl) (by kernel_rfl) (by kernel_rfl) hl []).weaken ?_
 rintro ⟨av, rs⟩ co h
 have h : (i_deedWord_G av rs).run some = some co := h
 obtain ⟨a0_, av0, rfl, h_0⟩ := asCons_spec h
 obtain ⟨rfl, h_1⟩ := asEnd_spec h_0
 obtain ⟨rfl, h_2⟩ := asEnd_spec h_1
 obtain ⟨d1, rfl, h_3⟩ := asImmZ_spec h_2
 exact fin_ret (i_deedWord_eq d1) (i_deedWord_spec d1) h_3
end Go.Proofs.Ytohnlghdhbignaa

namespace Go.Proofs.Ytohnlghdhbignaa
open Go Go.Abs Go.Proofs
noncomputable def i_Deed_numbers (p0 : TDeed) : Tre (List Int) :=
 .ret ([p0.2.1, p0.2.2.1, p0.2.2.2.1])
noncomputable def i_Deed_numbers_F (p0 : TDeed) : Option (List Int) := (i_Deed_numbers p0).run some
theorem i_Deed_numbers_spec (p0 : TDeed) : i_Deed_numbers_F p0 = some ([p0.2.1, p0.2.2.1, p0.2.2.2.1]) := rfl
noncomputable def i_Deed_numbers_V : Env := ⟨tau, [], []⟩
noncomputable def i_Deed_numbers_b : Code := (Try.f102.body).getD .skip
noncomputable def i_Deed_numbers_I : FnI := ⟨i_Deed_numbers_b, Try.f102.results.toList, Try.f102.resultTypes.toList, []⟩
noncomputable def i_Deed_numbers_out (_p0 : TDeed) : (List Int) → CallOut := fun r => ⟨(.ref (1, 0) []), [], [⟨false, (.sl (.int .i64)), .own, r⟩]⟩
set_option maxRecDepth 100000 in
theorem i_Deed_numbers_eq : ∀ (p0 : TDeed), denFn i_Deed_numbers_V i_Deed_numbers_I ⟨[(.imm true kDeed p0)], []⟩ = (i_Deed_numbers p0).run fun r => some (i_Deed_numbers_out p0 r) := fun _ => by kernel_rfl
noncomputable def i_Deed_numbers_G (av : List AV) (rs : List Root) : Tre CallOut :=
 asCons av fun a0_ av0 =>
 asEnd av0 <|
 asEnd rs <|
 asImmZ true kDeed a0_ fun d1 =>
 .ret (i_Deed_numbers_out d1 ([d1.2.1, d1.2.2.1, d1.2.2.2.1]))
noncomputable def i_Deed_numbers_c : Ctr := ⟨[], fun ci => i_Deed_numbers_G ci.args ci.roots, false⟩
theorem i_Deed_numbers_env : EnvOK Try.prog i_Deed_numbers_V := envOK_nil
set_option maxRecDepth 100000 in
theorem i_Deed_numbers_ok : Contract Try.prog 102 i_Deed_numbers_c := by
 have hl : LoopsOK i_Deed_numbers_V [] i_Deed_numbers_b := loopsOK_nil (by kernel_rfl)
 refine (contract_of (F := i_Deed_numbers_I) tau_tys i_Deed_numbers_env Try.func102 (by kernel_rfl) (by kernel_rfl) (by kernel_rfl) hl []).weaken ?_
 rintro ⟨av, rs⟩ co h
 have h : (i_Deed_numbers_G av rs).run some = some co := h
 obtain ⟨a0_, av0, rfl, h_0⟩ := asCons_spec h
 obtain ⟨rfl, h_1⟩ := asEnd_spec h_0
 obtain ⟨rfl, h_2⟩ := asEnd_spec h_1
 obtain ⟨d1, rfl, h_3⟩ := asImmZ_spec h_2
 exact fin_ret (i_Deed_numbers_eq d1) (i_Deed_numbers_spec d1) h_3
end Go.Proofs.Ytohnlghdhbignaa

namespace Go.Proofs.Ytohnlghdhbignaa
open Go Go.Abs Go.Proofs
noncomputable def i_ValidDeed_l3 (h3_0_1 : Int) (h3_0_2 : Int) (h3_0_4 : (List Int)) : Int → Tre (Int ⊕ (Bool ⊕ Unit)) := fun s3 =>
 .cond (decide (s3 < h3_0_2))
  (.ite (0 ≤ s3 ∧ s3 < (h3_0_4.length : Int)) <|
  .mat (h3_0_4[s3.toNat]?) fun x2 =>
  .cond (!(inR x2 0 9999))
   (.ret (.inr (.inl false)))
   (.cond (decide (s3 ≥ h3_0_1))
    (.cond (!decide (x2 = 0))
     (.ret (.inr (.inl false)))
     (.ret (.inl (iwrap .i64 (s3 + 1)))))
    (.ret (.inl (iwrap .i64 (s3 + 1))))))
  (.ret (.inr (.inr ())))
noncomputable def i_ValidDeed (p0 : TDeed) : Tre Bool :=
 let v1 := [p0.2.1, p0.2.2.1, p0.2.2.2.1]
 .mat (loopF (i_ValidDeed_l3 ((i_deedWord_S p0.1).2) (v1.length : Int) v1) 0) fun l3 =>
 .alt l3
  (fun a4 =>
   .ret a4)
  (fun _ =>
   .ret (!(((i_deedWord_S p0.1).1).toList == (⟨#[]⟩ : ByteArray).toList)))
noncomputable def i_ValidDeed_F (p0 : TDeed) : Option Bool := (i_ValidDeed p0).run some
def okNums (m a b c : Int) : Bool := inR a 0 9999 && (decide (0 < m) || decide (a = 0)) && (inR b 0 9999 && (decide (1 < m) || decide (b = 0))) && (inR c 0 9999 && (decide (2 < m) || decide (c = 0)))
theorem i_ValidDeed_l3_at (m : Int) (v : List Int) (i : Nat) (x : Int) (hx : v[i]? = some x) (hv : v.length = 3) : loopF (i_ValidDeed_l3 m (v.length : Int) v) (i : Int) =
  if (inR x 0 9999 && (decide ((i : Int) < m) || decide (x = 0))) = true then loopF (i_ValidDeed_l3 m (v.length : Int) v) ((i + 1 : Nat) : Int) else some (.inl false) := by
 rw [loopF_eq]
 have hi : i < v.length := (List.getElem?_eq_some_iff.1 hx).1
 have hw : iwrap .i64 ((i : Int) + 1) = ((i + 1 : Nat) : Int) := by rw [iwrap_i64 (by omega) (by omega)]; rfl
 unfold i_ValidDeed_l3
 simp only [Tre.run_cond, Tre.run_ret, Tre.run_ite, Tre.run_mat, Int.toNat_natCast, hx, hw, Option.bind_some]
 rw [show decide ((i : Int) < (v.length : Int)) = true from by simp; omega, cond_true, if_pos ⟨by omega, by omega⟩]
 cases h1 : inR x 0 9999
 ·simp
 ·by_cases h2 : (i : Int) < m
  ·have h2' : ¬ m ≤ (i : Int) := by omega
   simp [h2, h2']
  ·have h2' : m ≤ (i : Int) := by omega
   by_cases h3 : x = 0 <;> simp [h2, h2', h3]
theorem i_ValidDeed_l3_end (m : Int) (v : List Int) (i : Nat) (hi : i = v.length) : loopF (i_ValidDeed_l3 m (v.length : Int) v) (i : Int) = some (.inr ()) := by
 rw [loopF_eq]
 unfold i_ValidDeed_l3
 simp [Tre.run_cond, Tre.run_ret, hi]
theorem i_ValidDeed_l3_all (m a b c : Int) : loopF (i_ValidDeed_l3 m ([a, b, c].length : Int) [a, b, c]) 0 = some (if okNums m a b c = true then .inr () else .inl false) := by
 have h0 := i_ValidDeed_l3_at m [a, b, c] 0 a rfl rfl
 have h1 := i_ValidDeed_l3_at m [a, b, c] 1 b rfl rfl
 have h2 := i_ValidDeed_l3_at m [a, b, c] 2 c rfl rfl
 have h3 := i_ValidDeed_l3_end m [a, b, c] 3 rfl
 refine h0.trans ?_
 unfold okNums
 cases (inR a 0 9999 && (decide (((0 : Nat) : Int) < m) || decide (a = 0))) <;> simp only [Bool.false_and, Bool.true_and, if_false, if_true, Bool.false_eq_true]
 refine h1.trans ?_
 cases (inR b 0 9999 && (decide (((1 : Nat) : Int) < m) || decide (b = 0))) <;> simp only [Bool.false_and, Bool.true_and, if_false, if_true, Bool.false_eq_true]
 refine h2.trans ?_
 cases (inR c 0 9999 && (decide (((2 : Nat) : Int) < m) || decide (c = 0))) <;> simp only [Bool.false_and, Bool.true_and, if_false, if_true, Bool.false_eq_true]
 exact h3
theorem i_ValidDeed_spec (p0 : Int × Int × Int × Int × Unit) : i_ValidDeed_F p0 = some (vDeed p0) := by
 obtain ⟨k, a, b, c, ⟨⟩⟩ := p0
 unfold i_ValidDeed_F i_ValidDeed vDeed
 dsimp only
 rw [Tre.run_mat, i_ValidDeed_l3_all, Option.bind_some]
 have hk : inR k 1 8 = false → i_deedWord_S k = ((⟨#[]⟩ : ByteArray), 0) := by
  intro h
  rw [inR_false] at h
  unfold i_deedWord_S
  have e : ∀ j : Int, 1 ≤ j → j ≤ 8 → decide (k = j) = false := fun j h1 h2 => by simp; omega
  simp [e]
 have hn : ∀ m a b c : Int, 0 ≤ m → okNums m a b c = (inR a 0 9999 && inR b 0 9999 && inR c 0 9999 && (decide (0 < m) || decide (a = 0)) && (decide (1 < m) || decide (b = 0)) && (decide (2 < m) || decide (c = 0))) := by
  intro m a b c _
  unfold okNums
  generalize decide (0 < m) = m0
  generalize decide (1 < m) = m1
  generalize decide (2 < m) = m2
  cases inR a 0 9999 <;> cases inR b 0 9999 <;> cases inR c 0 9999 <;> simp [Bool.and_assoc]
 cases h1 : inR k 1 8 with
 | false =>
  rw [hk h1]
  simp only [Bool.false_and]
  split <;> simp [Tre.run_ret, Tre.run_inl, Tre.run_inr]
 | true =>
  rcases kind_cases h1 with rfl | rfl | rfl | rfl | rfl | rfl | rfl | rfl <;>
   (simp only [i_deedWord_S]; simp [hn]; cases inR a 0 9999 <;> cases inR b 0 9999 <;> cases inR c 0 9999 <;> by_cases hb : b = 0 <;> by_cases hc : c = 0 <;> simp [hb, hc, Tre.run_ret, Tre.run_inl, Tre.run_inr])
noncomputable def i_ValidDeed_V : Env := ⟨tau, [(101, i_deedWord_c), (102, i_Deed_numbers_c), (98, i_within_c)], []⟩
noncomputable def i_ValidDeed_b : Code := (Try.f73.body).getD .skip
noncomputable def i_ValidDeed_l3_mk (h3_0_0 : ByteArray) (h3_0_1 : Int) (h3_0_2 : Int) (h3_0_4 : (List Int)) : Int → St := fun x => stOf [(3, (.imm true .str h3_0_0)), (4, (.imm true (.int .i64) h3_0_1)), (14, (.ref (16, 0) [])), (15, (.imm true (.int .i64) h3_0_2)), (16, (.imm true (.int .i64) x))] [((16, 0), some ⟨false, (.sl (.int .i64)), .own, h3_0_4⟩)]
noncomputable def i_ValidDeed_l3_out (h3_0_0 : ByteArray) (_h3_0_1 : Int) (_h3_0_2 : Int) (_h3_0_4 : (List Int)) : (Bool ⊕ Unit) → Ex × St
 | .inl x => (.ret, stOf [(2, (.imm true .bool x)), (3, (.imm true .str h3_0_0))] [])
 | .inr x => (.exit 0, stOf [(2, .dead), (3, (.imm true .str h3_0_0))] [])
noncomputable def i_ValidDeed_l3_D (s : St) : Tre (Ex × St) :=
 asImmZ true .str (s.tmps 3) fun d2 =>
 asImmZ true (.int .i64) (s.tmps 4) fun d4 =>
 asRef (16, 0) [] (s.tmps 14) <|
 asImmZ true (.int .i64) (s.tmps 15) fun d7 =>
 asImmZ true (.int .i64) (s.tmps 16) fun d9 =>
 asRoot false (.sl (.int .i64)) (s.roots (16, 0)) fun m11 d12 =>
 asM .own m11 <|
 .mat (loopF (i_ValidDeed_l3 d4 d7 d12) d9) fun x => .alt x (fun a0 => .ret (i_ValidDeed_l3_out d2 d4 d7 d12 (.inl a0))) (fun b0 => .ret (i_ValidDeed_l3_out d2 d4 d7 d12 (.inr b0)))
noncomputable def i_ValidDeed_l3_L : LoopI := ⟨([3, 4, 14, 15, 16], [(16, 0)]), ([2, 3], []), i_ValidDeed_l3_D⟩
noncomputable def i_ValidDeed_A : List (Nat × LoopI) := [(3, i_ValidDeed_l3_L)]
set_option maxRecDepth 100000 in
theorem i_ValidDeed_l3_step : ∀ (h3_0_0 : ByteArray) (h3_0_1 : Int) (h3_0_2 : Int) (h3_0_4 : (List Int)) (x : Int) (c : St → Option (Ex × St)), den i_ValidDeed_V i_ValidDeed_A (loopAt i_ValidDeed_b 0) (i_ValidDeed_l3_mk h3_0_0 h3_0_1 h3_0_2 h3_0_4 x) (roundK i_ValidDeed_l3_L.kp i_ValidDeed_l3_L.kx c) = (i_ValidDeed_l3 h3_0_1 h3_0_2 h3_0_4 x).run (roundR (i_ValidDeed_l3_mk h3_0_0 h3_0_1 h3_0_2 h3_0_4) (i_ValidDeed_l3_out h3_0_0 h3_0_1 h3_0_2 h3_0_4) c) := fun _ _ _ _ _ _ => by
 kernel_rfl
theorem i_ValidDeed_l3_ok : LoopOK i_ValidDeed_V i_ValidDeed_A (loopAt i_ValidDeed_b 0) i_ValidDeed_l3_L := loopOK_of fun s e s' h => by
 generalize hs : restrict i_ValidDeed_l3_L.kp s = s1 at h
 have h : (i_ValidDeed_l3_D s1).run some = some (e, s') := h
 obtain ⟨d2, e1, h_0⟩ := asImmZ_spec h
 obtain ⟨d4, e3, h_1⟩ := asImmZ_spec h_0
 obtain ⟨e5, h_2⟩ := asRef_spec h_1
 obtain ⟨d7, e6, h_3⟩ := asImmZ_spec h_2
 obtain ⟨d9, e8, h_4⟩ := asImmZ_spec h_3
 obtain ⟨m11, d12, e10, h_5⟩ := asRoot_spec h_4
 obtain ⟨rfl, h_6⟩ := asM_spec h_5
 obtain ⟨y, hy, hz⟩ := mat_some h_6
 refine ⟨_, _, i_ValidDeed_l3_mk d2 d4 d7 d12, i_ValidDeed_l3_out d2 d4 d7 d12, i_ValidDeed_l3 d4 d7 d12, d9, y, ?_, hy, ?_, i_ValidDeed_l3_step d2 d4 d7 d12⟩
 ·subst hs; exact restrict_eq (T := [(3, (.imm true .str d2)), (4, (.imm true (.int .i64) d4)), (14, (.ref (16, 0) [])), (15, (.imm true (.int .i64) d7)), (16, (.imm true (.int .i64) d9))]) (U := [((16, 0), some ⟨false, (.sl (.int .i64)), .own, d12⟩)]) rfl rfl ⟨e1, e3, e5, e6, e8, trivial⟩ ⟨e10, trivial⟩
 ·rcases y with x | x <;> exact Option.some.inj hz
noncomputable def i_ValidDeed_I : FnI := ⟨i_ValidDeed_b, Try.f73.results.toList, Try.f73.resultTypes.toList, i_ValidDeed_A⟩
noncomputable def i_ValidDeed_out (_p0 : TDeed) : Bool → CallOut := fun r => ⟨(.imm true .bool r), [], []⟩
set_option maxRecDepth 100000 in
theorem i_ValidDeed_eq : ∀ (p0 : TDeed), denFn i_ValidDeed_V i_ValidDeed_I ⟨[(.imm true kDeed p0)], []⟩ = (i_ValidDeed p0).run fun r => some (i_ValidDeed_out p0 r) := fun _ => by kernel_rfl
noncomputable def i_ValidDeed_G (av : List AV) (rs : List Root) : Tre CallOut :=
 asCons av fun a0_ av0 =>
 asEnd av0 <|
 asEnd rs <|
 asImmZ true kDeed a0_ fun d1 =>
 .ret (i_ValidDeed_out d1 (vDeed d1))
noncomputable def i_ValidDeed_c : Ctr := ⟨[], fun ci => i_ValidDeed_G ci.args ci.roots, false⟩
theorem i_ValidDeed_env : EnvOK Try.prog i_ValidDeed_V := (envOK_cons i_deedWord_ok ent101 (envOK_cons i_Deed_numbers_ok ent102 (envOK_cons i_within_ok ent98 envOK_nil)))
set_option maxRecDepth 100000 in
theorem i_ValidDeed_ok : Contract Try.prog 73 i_ValidDeed_c := by
 have hl : LoopsOK i_ValidDeed_V i_ValidDeed_A i_ValidDeed_b := (loopsOK_all (n := 1) (by kernel_rfl) fun k hk => by
   match k, hk with
   | 0, _ => exact loopOK_at (id := 3) (L := i_ValidDeed_l3_L) (by kernel_rfl) (by kernel_rfl) i_ValidDeed_l3_ok)
 refine (contract_of (F := i_ValidDeed_I) tau_tys i_ValidDeed_env Try.func73 (by kernel_rfl) (by kernel_rfl) (by kernel_rfl) hl []).weaken ?_
 rintro ⟨av, rs⟩ co h
 have h : (i_ValidDeed_G av rs).run some = some co := h
 obtain ⟨a0_, av0, rfl, h_0⟩ := asCons_spec h
 obtain ⟨rfl, h_1⟩ := asEnd_spec h_0
 obtain ⟨rfl, h_2⟩ := asEnd_spec h_1
 obtain ⟨d1, rfl, h_3⟩ := asImmZ_spec h_2
 exact fin_ret (i_ValidDeed_eq d1) (i_ValidDeed_spec d1) h_3
end Go.Proofs.Ytohnlghdhbignaa

namespace Go.Proofs.Ytohnlghdhbignaa
open Go Go.Abs Go.Proofs
noncomputable def i_deedsCodec1 (p0 : TDeed) : Tre Bool :=
 .ret (!(vDeed p0))
noncomputable def i_deedsCodec1_F (p0 : TDeed) : Option Bool := (i_deedsCodec1 p0).run some
theorem i_deedsCodec1_spec (p0 : TDeed) : i_deedsCodec1_F p0 = some (!(vDeed p0)) := rfl
noncomputable def i_deedsCodec1_V : Env := ⟨tau, [(73, i_ValidDeed_c)], []⟩
noncomputable def i_deedsCodec1_b : Code := (Try.f72.body).getD .skip
noncomputable def i_deedsCodec1_I : FnI := ⟨i_deedsCodec1_b, Try.f72.results.toList, Try.f72.resultTypes.toList, []⟩
noncomputable def i_deedsCodec1_out (_p0 : TDeed) : Bool → CallOut := fun r => ⟨(.imm true .bool r), [], []⟩
set_option maxRecDepth 100000 in
theorem i_deedsCodec1_eq : ∀ (p0 : TDeed), denFn i_deedsCodec1_V i_deedsCodec1_I ⟨[(.imm true kDeed p0)], []⟩ = (i_deedsCodec1 p0).run fun r => some (i_deedsCodec1_out p0 r) := fun _ => by kernel_rfl
noncomputable def i_deedsCodec1_G (av : List AV) (rs : List Root) : Tre CallOut :=
 asCons av fun a0_ av0 =>
 asEnd av0 <|
 asEnd rs <|
 asImmZ true kDeed a0_ fun d1 =>
 .ret (i_deedsCodec1_out d1 (!(vDeed d1)))
noncomputable def i_deedsCodec1_c : Ctr := ⟨[], fun ci => i_deedsCodec1_G ci.args ci.roots, false⟩
theorem i_deedsCodec1_env : EnvOK Try.prog i_deedsCodec1_V := (envOK_cons i_ValidDeed_ok ent73 envOK_nil)
set_option maxRecDepth 100000 in
theorem i_deedsCodec1_ok : Contract Try.prog 72 i_deedsCodec1_c := by
 have hl : LoopsOK i_deedsCodec1_V [] i_deedsCodec1_b := loopsOK_nil (by kernel_rfl)
 refine (contract_of (F := i_deedsCodec1_I) tau_tys i_deedsCodec1_env Try.func72 (by kernel_rfl) (by kernel_rfl) (by kernel_rfl) hl []).weaken ?_
 rintro ⟨av, rs⟩ co h
 have h : (i_deedsCodec1_G av rs).run some = some co := h
 obtain ⟨a0_, av0, rfl, h_0⟩ := asCons_spec h
 obtain ⟨rfl, h_1⟩ := asEnd_spec h_0
 obtain ⟨rfl, h_2⟩ := asEnd_spec h_1
 obtain ⟨d1, rfl, h_3⟩ := asImmZ_spec h_2
 exact fin_ret (i_deedsCodec1_eq d1) (i_deedsCodec1_spec d1) h_3
end Go.Proofs.Ytohnlghdhbignaa
