/- Part 3 of the proof of FnNearSpaces. -/
import Derived.Test.YthnkanacjhlhhaaProg
import Derived.Test.YthnkanacjhlhhaaNn2
namespace Go.Abs
theorem put_sound {m0 : Mask} {w : World} {θ : RName → Nat} {Z S : BS} {e : K} (hbd : ∀ b, Z b ∨ S b → b < w.heap.size) :
  ∀ (p : Path) {k : K} {m : Mask} {d : k.den} {vs : List Value} {F : BS} {base : Option (Nat × Nat)} {d0 : List e.den},
   Enc w θ Z S k m d vs F → (∀ b, F b → b < w.heap.size ∧ ¬ Z b ∧ ¬ S b) →
   getP k d m p (fun k d m => some ((⟨k, d⟩ : Σ k : K, k.den), m)) = some (⟨.sl e, d0⟩, m0) →
   ∃ (v : Value) (b1 : Option (Nat × Nat)) (Gi : BS), locv w k vs base p = some ([v], b1) ∧ Enc w θ Z S (.sl e) m0 d0 [v] Gi ∧ Sub Gi F ∧
    ∀ (w' : World) (Z' G' : BS) (d1 : List e.den) (d2 : k.den) (m2 : Mask), Sub Z Z' → (∀ b, b < w.heap.size → ¬ Gi b → w'.heap[b]? = w.heap[b]?) → (∀ b, G' b → Gi b ∨ w.heap.size ≤ b) →
     Enc w' θ Z' S (.sl e) m0 d1 [v] G' → setP k d m p (.sl e) d1 m0 (fun d m => some (d, m)) = some (d2, m2) →
     Enc w' θ Z' S k m2 d2 vs (fun b => (F b ∧ ¬ Gi b) ∨ G' b) ∧ Stays w w' k d d2 m m2 vs vs base (.sl e) (p ++ [.idx 0]) := by
 intro p
 induction p with
 | nil =>
  intro k m d vs F base d0 he hF hg
  have hg' : some ((⟨k, d⟩ : Σ k : K, k.den), m) = some (⟨.sl e, d0⟩, m0) := by rw [← hg]; cases k <;> rfl
  simp only [Option.some.injEq, Prod.mk.injEq, Sigma.mk.injEq] at hg'
  obtain ⟨⟨rfl, hd⟩, rfl⟩ := hg'
  cases hd
  obtain ⟨v, rfl⟩ : ∃ v, vs = [v] := by
   have := he.len
   match vs, this with
   | [v], _ => exact ⟨v, rfl⟩
  refine ⟨v, base, F, rfl, he, .refl _, fun w' Z' G' d1 d2 m2 hZ hk hG' hnew hs => ?_⟩
  have hs' : some (d1, m) = some (d2, m2) := by
   rw [← hs]
   simp [setP, K.flat]
  simp only [Option.some.injEq, Prod.mk.injEq] at hs'
  obtain ⟨rfl, rfl⟩ := hs'
  refine ⟨hnew.mono (.refl _) (.refl _) (fun _ h => .inr h) (fun _ _ => rfl) (fun _ _ => rfl), fun q k' cs b1 hk' hcg hlc => ?_⟩
  cases q with
  | nil => exact ⟨fun _ => ⟨trivial, cs, hlc⟩, fun _ _ => ⟨trivial, hlc⟩⟩
  | cons st q =>
   cases st with
   | idx j =>
    refine ⟨fun hfl => ?_, fun _ hfl => ?_⟩
    ·rcases hfl with hfl | hfl
     ·cases hfl
     ·simp [under, hasIdx] at hfl
    ·rcases hfl with hfl | hfl
     ·cases hfl
     ·simp [under] at hfl
   | fst => simp [K.at] at hk'
   | snd => simp [K.at] at hk'
 | cons s p ih =>
  intro k m d vs F base d0 he hF hg
  cases s with
  | fst =>
   cases k with
   | pair ka kb =>
    obtain ⟨v1, v2, Fa, Fb, rfl, s1, s2, dj, h1, h2⟩ := he
    have l1 := h1.len
    obtain ⟨v, b1, Gi, g1, g2, g3, g4⟩ := ih (k := ka) (base := base) h1 (fun b hb => hF b (s1 b hb)) hg
    refine ⟨v, b1, Gi, by simp only [locv]; rw [← l1, List.take_left]; exact g1, g2, g3.trans s1, fun w' Z' G' d1 d2 m2 hZ hk hG' hnew hs => ?_⟩
    obtain ⟨t, ht, hs2⟩ := Option.bind_eq_some_iff.1 ((setP_nat (fun t : ka.den × Mask => some (((t.1, d.2) : ka.den × kb.den), m.putFst (K.sl e).flat t.2)) p (fun d m => some (d, m))).trans hs)
    obtain ⟨x, mx⟩ := t
    simp only [Option.some.injEq, Prod.mk.injEq] at hs2
    obtain ⟨rfl, rfl⟩ := hs2
    obtain ⟨k1, k2⟩ := g4 w' Z' G' d1 x mx hZ hk hG' hnew ht
    have hm0 : (m.putFst (K.sl e).flat mx).fst = mx ∧ (m.putFst (K.sl e).flat mx).snd = m.snd := ⟨setP_sound.mkPair_fst _ _, setP_sound.mkPair_snd _ _⟩
    have hsame : ∀ b, Fb b ∨ Z b ∨ S b → w'.heap[b]? = w.heap[b]? := fun b hb => hb.elim (fun hb => hk b (hF b (s2 b hb)).1 fun hg => dj b (g3 b hg) hb) fun hb => hk b (hbd b hb) fun hg => hb.elim (hF b (s1 b (g3 b hg))).2.1 (hF b (s1 b (g3 b hg))).2.2
    refine ⟨⟨v1, v2, fun b => (Fa b ∧ ¬ Gi b) ∨ G' b, Fb, rfl, fun b hb => hb.imp (fun h => ⟨s1 b h.1, h.2⟩) id, fun b hb => .inl ⟨s2 b hb, fun hg => dj b (g3 b hg) hb⟩, ?_, by rw [hm0.1]; exact k1, by rw [hm0.2]; exact h2.mono hZ (.refl _) (.refl _) hsame (fun _ _ => rfl)⟩, ?_⟩
    ·rintro b (hb | hb) hb2
     ·exact dj b hb.1 hb2
     ·rcases hG' b hb with hb | hb
      ·exact dj b (g3 b hb) hb2
      ·have := (hF b (s2 b hb2)).1; omega
    ·intro q k' cs b2 hk' hcg hlc
     cases q with
     | nil =>
      refine ⟨fun _ => ⟨trivial, cs, hlc⟩, fun ⟨e', hke⟩ => ?_⟩
      have : some (ka.pair kb) = some k' := hk'
      rw [hke] at this; cases this
     | cons st q =>
      cases st with
      | fst =>
       simp only [locv] at hlc ⊢
       rw [← l1, List.take_left] at hlc ⊢
       obtain ⟨x1, x2⟩ := k2 q k' cs b2 hk' hcg hlc
       refine ⟨fun hfl => ?_, fun he hfl => ?_⟩
       ·obtain ⟨y1, y2⟩ := x1 (by simpa [under, hasIdx] using hfl)
        exact ⟨by show canGet ka x (m.putFst (K.sl e).flat mx).fst q; rw [hm0.1]; exact y1, y2⟩
       ·obtain ⟨y1, y2⟩ := x2 he (by simpa [under] using hfl)
        exact ⟨by show canGet ka x (m.putFst (K.sl e).flat mx).fst q; rw [hm0.1]; exact y1, y2⟩
      | snd =>
       have hcg' : canGet kb d.2 m.snd q := hcg
       have hcg2 : canGet kb d.2 (m.putFst (K.sl e).flat mx).snd q := by rw [hm0.2]; exact hcg'
       obtain ⟨_, _, _, hgp⟩ := canGet_getP q hcg'
       have hfr := locv_frame (w' := w') (base := base.map fun x => (x.1, x.2 + ka.size)) q h2 hsame ⟨Unit, (), fun _ _ _ => some (), by rw [hgp]⟩
       simp only [locv] at hlc ⊢
       rw [← l1, List.drop_left, l1] at hlc ⊢
       rw [hfr]
       exact ⟨fun _ => ⟨hcg2, cs, hlc⟩, fun _ _ => ⟨hcg2, hlc⟩⟩
      | idx i => simp [K.at] at hk'
   | _ => simp [getP] at hg
  | snd =>
   cases k with
   | pair ka kb =>
    obtain ⟨v1, v2, Fa, Fb, rfl, s1, s2, dj, h1, h2⟩ := he
    have l1 := h1.len
    obtain ⟨v, b1, Gi, g1, g2, g3, g4⟩ := ih (k := kb) (base := base.map fun x => (x.1, x.2 + ka.size)) h2 (fun b hb => hF b (s2 b hb)) hg
    refine ⟨v, b1, Gi, by simp only [locv]; rw [← l1, List.drop_left, l1]; exact g1, g2, g3.trans s2, fun w' Z' G' d1 d2 m2 hZ hk hG' hnew hs => ?_⟩
    obtain ⟨t, ht, hs2⟩ := Option.bind_eq_some_iff.1 ((setP_nat (fun t : kb.den × Mask => some (((d.1, t.1) : ka.den × kb.den), m.putSnd (K.sl e).flat t.2)) p (fun d m => some (d, m))).trans hs)
    obtain ⟨x, mx⟩ := t
    simp only [Option.some.injEq, Prod.mk.injEq] at hs2
    obtain ⟨rfl, rfl⟩ := hs2
    obtain ⟨k1, k2⟩ := g4 w' Z' G' d1 x mx hZ hk hG' hnew ht
    have hm0 : (m.putSnd (K.sl e).flat mx).fst = m.fst ∧ (m.putSnd (K.sl e).flat mx).snd = mx := ⟨setP_sound.mkPair_fst _ _, setP_sound.mkPair_snd _ _⟩
    have hsame : ∀ b, Fa b ∨ Z b ∨ S b → w'.heap[b]? = w.heap[b]? := fun b hb => hb.elim (fun hb => hk b (hF b (s1 b hb)).1 fun hg => dj b hb (g3 b hg)) fun hb => hk b (hbd b hb) fun hg => hb.elim (hF b (s2 b (g3 b hg))).2.1 (hF b (s2 b (g3 b hg))).2.2
    refine ⟨⟨v1, v2, Fa, fun b => (Fb b ∧ ¬ Gi b) ∨ G' b, rfl, fun b hb => .inl ⟨s1 b hb, fun hg => dj b hb (g3 b hg)⟩, fun b hb => hb.imp (fun h => ⟨s2 b h.1, h.2⟩) id, ?_, by rw [hm0.1]; exact h1.mono hZ (.refl _) (.refl _) hsame (fun _ _ => rfl), by rw [hm0.2]; exact k1⟩, ?_⟩
    ·rintro b hb2 (hb | hb)
     ·exact dj b hb2 hb.1
     ·rcases hG' b hb with hb | hb
      ·exact dj b hb2 (g3 b hb)
      ·have := (hF b (s1 b hb2)).1; omega
    ·intro q k' cs b2 hk' hcg hlc
     cases q with
     | nil =>
      refine ⟨fun _ => ⟨trivial, cs, hlc⟩, fun ⟨e', hke⟩ => ?_⟩
      have : some (ka.pair kb) = some k' := hk'
      rw [hke] at this; cases this
     | cons st q =>
      cases st with
      | snd =>
       simp only [locv] at hlc ⊢
       rw [← l1, List.drop_left, l1] at hlc ⊢
       obtain ⟨x1, x2⟩ := k2 q k' cs b2 hk' hcg hlc
       refine ⟨fun hfl => ?_, fun he hfl => ?_⟩
       ·obtain ⟨y1, y2⟩ := x1 (by simpa [under, hasIdx] using hfl)
        exact ⟨by show canGet kb x (m.putSnd (K.sl e).flat mx).snd q; rw [hm0.2]; exact y1, y2⟩
       ·obtain ⟨y1, y2⟩ := x2 he (by simpa [under] using hfl)
        exact ⟨by show canGet kb x (m.putSnd (K.sl e).flat mx).snd q; rw [hm0.2]; exact y1, y2⟩
      | fst =>
       have hcg' : canGet ka d.1 m.fst q := hcg
       have hcg2 : canGet ka d.1 (m.putSnd (K.sl e).flat mx).fst q := by rw [hm0.1]; exact hcg'
       obtain ⟨_, _, _, hgp⟩ := canGet_getP q hcg'
       have hfr := locv_frame (w' := w') (base := base) q h1 hsame ⟨Unit, (), fun _ _ _ => some (), by rw [hgp]⟩
       simp only [locv] at hlc ⊢
       rw [← l1, List.take_left] at hlc ⊢
       rw [hfr]
       exact ⟨fun _ => ⟨hcg2, cs, hlc⟩, fun _ _ => ⟨hcg2, hlc⟩⟩
      | idx i => simp [K.at] at hk'
   | _ => simp [getP] at hg
  | idx i =>
   cases k with
   | sl e' =>
    simp only [getP] at hg
    split at hg
    case h_2 => simp at hg
    case h_1 y hy =>
    have hi : i < List.length d := (List.getElem?_eq_some_iff.1 hy).1
    rcases he with ⟨rfl, _⟩ | ⟨_, rfl, _⟩ | ⟨hgone, b', off', cap, cs, T, fz, rfl, hc, hle, hs0, hok, G, hG, hdj, hel⟩
    ·simp at hg
    ·simp at hy
    ·have hg' : getP e' y m.elem p (fun k d m => some ((⟨k, d⟩ : Σ k : K, k.den), m)) = some (⟨.sl e, d0⟩, m0) := by
      cases m <;> first | exact hg | exact absurd rfl hgone
     obtain ⟨v, b1, Gi, g1, g2, g3, g4⟩ := ih (k := e') (base := some (b', off' + i * e'.size)) (hel i y hy) (fun b hb => hF b ((hG i).1 b hb)) hg'
     refine ⟨v, b1, Gi, by simp only [locv, cellsAt, hc]; exact g1, g2, g3.trans (hG i).1, fun w' Z' G' d1 d2 m2 hZ hk hG' hnew hs => ?_⟩
     simp only [setP, hy] at hs
     cases hown : m.isOwn with
     | false => simp [hown] at hs
     | true =>
     simp only [hown, cond_true] at hs
     have hbF' : F b' ∧ fz = (0, 0) := by cases m <;> simp_all [Mask.isOwn, slOk]
     obtain ⟨t, ht, hs2⟩ := Option.bind_eq_some_iff.1 ((setP_nat (fun t : e'.den × Mask => if t.2 = m.elem then some (List.set d i t.1, m) else none) p (fun d m => some (d, m))).trans hs)
     obtain ⟨x', mx⟩ := t
     simp only at hs2
     split at hs2
     case isFalse => simp at hs2
     case isTrue hmx =>
     simp only [Option.some.injEq, Prod.mk.injEq] at hs2
     obtain ⟨rfl, rfl⟩ := hs2
     obtain ⟨k1, k2⟩ := g4 w' Z' G' d1 x' mx hZ hk hG' hnew ht
     have hnb : ¬ Gi b' := fun h => (hG i).2 (g3 b' h)
     have hc' : w'.heap[b']? = some (.cells cs T fz) := by rw [hk b' (hF b' hbF'.1).1 hnb]; exact hc
     have hsame : ∀ j, j ≠ i → ∀ b, G j b ∨ Z b ∨ S b → w'.heap[b]? = w.heap[b]? := fun j hj b hb => hb.elim (fun hb => hk b (hF b ((hG j).1 b hb)).1 fun hg => hdj j i hj b hb (g3 b hg)) fun hb => hk b (hbd b hb) fun hg => hb.elim (hF b ((hG i).1 b (g3 b hg))).2.1 (hF b ((hG i).1 b (g3 b hg))).2.2
     refine ⟨.inr (.inr ⟨hgone, b', off', cap, cs, T, fz, by simp, hc', by simpa using hle, hs0, ?_, fun j => if j = i then (fun b => (G i b ∧ ¬ Gi b) ∨ G' b) else G j, ?_, ?_, ?_⟩), ?_⟩
     ·rw [hbF'.2]
      have : slOk Z S F b' (0, 0) m := by rw [← hbF'.2]; exact hok
      cases m with
      | own => exact ⟨.inl ⟨hbF'.1, hnb⟩, rfl⟩
      | sl _ => exact ⟨.inl ⟨hbF'.1, hnb⟩, rfl⟩
      | _ => simp [Mask.isOwn] at hown
     ·intro j
      by_cases hj : j = i
      ·subst hj
       simp only [if_true]
       refine ⟨fun b hb => hb.imp (fun h => ⟨(hG j).1 b h.1, h.2⟩) id, ?_⟩
       rintro (hb | hb)
       ·exact (hG j).2 hb.1
       ·rcases hG' b' hb with hb | hb
        ·exact hnb hb
        ·have := (hF b' hbF'.1).1; omega
      ·simp only [if_neg hj]
       exact ⟨fun b hb => .inl ⟨(hG j).1 b hb, fun hg => hdj j i hj b hb (g3 b hg)⟩, (hG j).2⟩
     ·have hone : ∀ j, j ≠ i → Disj (fun b => (G i b ∧ ¬ Gi b) ∨ G' b) (G j) := by
       rintro j hj b (hb | hb) hb2
       ·exact hdj i j (fun h => hj h.symm) b hb.1 hb2
       ·rcases hG' b hb with hb | hb
        ·exact hdj i j (fun h => hj h.symm) b (g3 b hb) hb2
        ·have := (hF b ((hG j).1 b hb2)).1; omega
      intro j j' hjj
      by_cases hj : j = i
      ·have hj' : j' ≠ i := fun h => hjj (hj.trans h.symm)
       simp only [if_pos hj, if_neg hj']
       exact hone j' hj'
      ·by_cases hj' : j' = i
       ·simp only [if_neg hj, if_pos hj']
        exact (hone j hj).symm
       ·simp only [if_neg hj, if_neg hj']
        exact hdj j j' hjj
     ·intro j z hz
      by_cases hj : j = i
      ·subst hj
       rw [List.getElem?_set_self hi] at hz
       simp only [Option.some.injEq] at hz
       subst hz
       simp only [if_true]
       rw [← hmx]
       exact k1
      ·rw [List.getElem?_set_ne (fun h => hj h.symm)] at hz
       simp only [if_neg hj]
       exact (hel j z hz).mono hZ (.refl _) (.refl _) (hsame j hj) (fun _ _ => rfl)
     ·intro q k' ccs b2 hk' hcg hlc
      cases q with
      | nil => exact ⟨fun _ => ⟨trivial, _, hlc⟩, fun _ _ => ⟨trivial, hlc⟩⟩
      | cons st q =>
       cases st with
       | idx j =>
        obtain ⟨hmg, z, hz, hcg'⟩ := hcg
        have hk2 : e'.at q = some k' := hk'
        simp only [locv, cellsAt, hc, hc'] at hlc ⊢
        by_cases hj : j = i
        ·subst hj
         have hzy : z = y := by rw [hy] at hz; exact (Option.some.inj hz).symm
         subst hzy
         obtain ⟨x1, x2⟩ := k2 q k' ccs b2 hk2 hcg' hlc
         refine ⟨fun hfl => ?_, fun he hfl => ?_⟩
         ·obtain ⟨y1, y2⟩ := x1 (hfl.imp id (fun h => by simp [under, hasIdx] at h; simp [h]))
          exact ⟨⟨hmg, x', List.getElem?_set_self hi, by rw [← hmx]; exact y1⟩, y2⟩
         ·obtain ⟨y1, y2⟩ := x2 he (by simpa [under] using hfl)
          exact ⟨⟨hmg, x', List.getElem?_set_self hi, by rw [← hmx]; exact y1⟩, y2⟩
        ·obtain ⟨_, _, _, hgp⟩ := canGet_getP q hcg'
         have hfr := locv_frame (w' := w') (base := some (b', off' + j * e'.size)) q (hel j z hz) (hsame j hj) ⟨Unit, (), fun _ _ _ => some (), by rw [hgp]⟩
         rw [hfr]
         have hcg2 : canGet (.sl e') (List.set d i x') m (.idx j :: q) := ⟨hmg, z, by rw [List.getElem?_set_ne (fun h => hj h.symm)]; exact hz, hcg'⟩
         exact ⟨fun _ => ⟨hcg2, ccs, hlc⟩, fun _ _ => ⟨hcg2, hlc⟩⟩
       | fst => simp [K.at] at hk'
       | snd => simp [K.at] at hk'
   | _ => simp [getP] at hg
theorem Contract.soften {P : Program} {Γ : Glb} {f : FuncId} {q : Ctr} {e : K} (hpl : e.plain = true) (h : Contract P Γ f q) {rw : List Nat} {G : CallIn → Tre CallOut}
  (hG : ∀ ci co, (G ci).run some = some co → ∃ (p : Path) (l : List AV) (m0 : Mask) (x : Root) (d d1 : List e.den) (d2 : x.k.den) (m2 : Mask) (av0 : AV),
   ci = ⟨.ref (0, 0) p :: l, [x]⟩ ∧ x.k.plain = true ∧ (∀ a ∈ l, (∃ z k d, a = .imm z k d) ∨ ∃ g, a = .fn g []) ∧ ((∃ k r, av0 = .imm true k r) ∨ av0 = .tnil) ∧ getP x.k x.d x.m p (fun k d m => some ((⟨k, d⟩ : Σ k : K, k.den), m)) = some (⟨.sl e, d⟩, m0) ∧
   setP x.k x.d x.m p (.sl e) d1 m0 (fun d m => some (d, m)) = some (d2, m2) ∧ (q.G ⟨.ref (0, 0) [] :: l, [⟨false, .sl e, m0, d⟩]⟩).run some = some ⟨av0, [⟨false, .sl e, m0, d1⟩], []⟩ ∧
   co = ⟨av0, [⟨x.mem, x.k, m2, d2⟩], []⟩) : Contract P Γ f ⟨rw, G, true⟩ := by
 intro w C ci co vals hM hptr hsz hvals hgl hrun
 obtain ⟨p, l, m0, x, d, d1, d2, m2, av0, rfl, hxp, hl, hres, hget, hset, hin, rfl⟩ := hG ci co hrun
 have hx : rsIn [x] (par 0) = some x := rfl
 have hone : ∀ {y : Root} {q : RName} {z : Root}, rsIn [y] q = some z → q = par 0 ∧ z = y := by
  rintro y ⟨a, b⟩ z hz
  match a, b, hz with
  | 0, 0, hz => exact ⟨rfl, (Option.some.inj hz).symm⟩
  | 0, b + 1, hz => cases hz
  | a + 1, _, hz => cases hz
 obtain ⟨G0, he, hG0, hmem⟩ := hM.ok _ _ hx
 obtain ⟨v, b1, Gi, g1, g2, g3, g4⟩ := put_sound (fun b hb => hM.ro b hb) p (base := baseOf C (par 0) x) he (fun b hb => by have := hM.apart _ _ b hx (hG0 b hb); exact ⟨this.2.2, this.1, this.2.1⟩) hget
 obtain ⟨v0, hv0⟩ : ∃ v, vals[0]? = some v := ⟨_, Array.getElem?_eq_getElem (by rw [hsz]; simp)⟩
 have ha0 := hvals 0 v0 _ hv0 rfl
 obtain ⟨hA, hcl⟩ := ha0.cell (by simp) rfl (by simp) (by simp)
 have hvv : v0 = v := by
  obtain ⟨v', h1, h2⟩ := hA
  simp only [List.cons.injEq, and_true] at h1
  subst h1
  obtain ⟨_, _, _, _, h3⟩ := h2 x hx
  rw [g1] at h3
  simp only [Option.some.injEq, Prod.mk.injEq, List.cons.injEq, and_true] at h3
  exact h3.1.symm
 subst hvv
 have hGiF : Sub Gi (C.F (par 0)) := g3.trans hG0
 let C1 : Ctx := ⟨C.θ, fun _ => [v0], fun _ => Gi, C.Z, C.S⟩
 have hM1 : Mem w C1 (rsIn [⟨false, .sl e, m0, d⟩]) := by
  refine ⟨fun q y hy => ?_, fun q q' y y' hy hy' hne => ?_, fun q y b hy hb => hM.apart _ _ b hx (hGiF b hb), hM.ro, fun q y hy p' hp' => ?_⟩
  ·obtain ⟨rfl, rfl⟩ := hone hy
   exact ⟨Gi, g2, .refl _, fun h => by cases h⟩
  ·obtain ⟨rfl, _⟩ := hone hy
   obtain ⟨rfl, _⟩ := hone hy'
   exact absurd rfl hne
  ·obtain ⟨rfl, rfl⟩ := hone hy
   have : ptrsOf (.sl e) d = [] := ptrsOf_plain (k := .sl e) d hpl
   rw [this] at hp'
   cases hp'
 have hcall := h w C1 ⟨.ref (0, 0) [] :: l, [⟨false, .sl e, m0, d⟩]⟩ _ vals hM1 (fun y hy p' hp' => by
   simp only [List.mem_singleton] at hy
   subst hy
   have : ptrsOf (.sl e) d = [] := ptrsOf_plain (k := .sl e) d hpl
   rw [this] at hp'
   cases hp') hsz (fun i v a hv ha => by
   cases i with
   | zero =>
    simp only [List.getElem?_cons_zero, Option.some.injEq] at ha
    subst ha
    rw [hv0] at hv
    cases hv
    refine .inl (.inr (.inr ⟨rfl, ⟨v0, rfl, fun y hy => ?_⟩, hcl⟩))
    obtain ⟨_, rfl⟩ := hone hy
    exact ⟨e, _, rfl, trivial, rfl⟩
   | succ i =>
    have ha' : l[i]? = some a := by simpa using ha
    have hva := hvals (i + 1) v a hv (by simpa using ha')
    rcases hl a (List.mem_of_getElem? ha') with ⟨z, k', d', rfl⟩ | ⟨g, rfl⟩
    ·rcases hva with h1 | ⟨vs, _, h2⟩
     ·refine .inl ?_
      rcases h1 with h1 | ⟨h1, vs, h2, h3⟩ | ⟨h1, h2, h3⟩
      ·cases h1
      ·exact .inr (.inl ⟨h1, vs, h2, h3⟩)
      ·exact .inr (.inr ⟨h1, h2, h3⟩)
     ·exact h2.elim
    rcases hva with h1 | ⟨vs, _, h2⟩
    ·refine .inl ?_
     rcases h1 with h1 | ⟨h1, vs, h2, h3⟩ | ⟨h1, h2, h3⟩
     ·cases h1
     ·cases h1
     ·exact .inr (.inr ⟨h1, ⟨h2.1, fun q hq => by cases hq⟩, h3⟩)
    ·exact h2.elim) hgl hin
 refine hcall.mono fun e' w' hp => ?_
 cases e' with
 | panicked _ => exact hp
 | outgrown => exact hp
 | returned v' =>
 obtain ⟨C1', Po, _⟩ := hp
 have hmw : ∀ b, mayWrite C1 [⟨false, .sl e, m0, d⟩] b → Gi b := fun b ⟨_, _, _, h⟩ => h
 have hmwi : ∀ b, Gi b → mayWrite C [x] b := fun b hb => ⟨0, x, rfl, hGiF b hb⟩
 have hy1 : rsOut ⟨av0, [⟨false, .sl e, m0, d1⟩], []⟩ (par 0) = some ⟨false, .sl e, m0, d1⟩ := rfl
 obtain ⟨G1, e1, e2, _⟩ := Po.mem.ok _ _ hy1
 have hρ1 : C1'.ρ (par 0) = [v0] := Po.ρ 0 ⟨false, .sl e, m0, d1⟩ rfl rfl
 have hfoot : ∀ b, C1'.F (par 0) b → Gi b ∨ w.heap.size ≤ b := fun b hb => (Po.foot _ _ b hy1 hb).elim .inr fun h => .inl (hmw b h)
 have hsame : ∀ b, b < w.heap.size → ¬ Gi b → w'.heap[b]? = w.heap[b]? := fun b hb hg => Po.kept.block b hb fun h => hg (hmw b h)
 have hS : C1'.S = C.S := Po.S
 have hfl : Enc w' C.θ C1'.Z C.S (.sl e) m0 d1 [v0] G1 := by
  have e1' : Enc w' C1'.θ C1'.Z C1'.S (.sl e) m0 d1 (C1'.ρ (par 0)) G1 := e1
  rw [hρ1, hS] at e1'
  exact e1'.mono (.refl _) (.refl _) (.refl _) (fun _ _ => rfl) (fun p hp => by rw [ptrsOf_plain (k := .sl e) d1 hpl] at hp; cases hp)
 obtain ⟨k1, k2⟩ := g4 w' C1'.Z G1 d1 d2 m2 Po.Z hsame (fun b hb => hfoot b (e2 b hb)) hfl hset
 let C' : Ctx := ⟨C.θ, C.ρ, fun q b => (C.F q b ∧ ¬ Gi b) ∨ C1'.F (par 0) b, C1'.Z, C.S⟩
 have hout : ∀ {q : RName} {z : Root}, rsOut ⟨av0, [⟨x.mem, x.k, m2, d2⟩], []⟩ q = some z → q = par 0 ∧ z = ⟨x.mem, x.k, m2, d2⟩ := by
  rintro ⟨a, b⟩ z hz
  match a, b, hz with
  | 0, 0, hz => exact ⟨rfl, (Option.some.inj hz).symm⟩
  | 0, b + 1, hz => cases hz
  | 1, b, hz => cases hz
  | a + 2, _, hz => cases hz
 have hlt : ∀ b, C.F (par 0) b → b < w.heap.size ∧ ¬ C.Z b ∧ ¬ C.S b := fun b hb => by have := hM.apart _ _ b hx hb; exact ⟨this.2.2, this.1, this.2.1⟩
 refine ⟨C', ⟨Po.Z, rfl, fun _ => rfl, ⟨fun q z hz => ?_, fun q q' z z' hz hz' hne => ?_, fun q z b hz hb => ?_, fun b hb => ?_, fun q z hz p' hp' => ?_⟩, ?_, fun i z hz hm => rfl, ?_, fun q z b hz hb => ?_, fun b hb => ?_⟩, fun _ p' l' x' ha hx' => ?_⟩
 ·obtain ⟨rfl, rfl⟩ := hout hz
  refine ⟨_, k1, ?_, fun hm => ?_⟩
  ·rintro b (hb | hb)
   ·exact .inl ⟨hG0 b hb.1, hb.2⟩
   ·exact .inr (e2 b hb)
  ·obtain ⟨m1, m3, T, m4⟩ := hmem hm
   have hng : ¬ Gi (C.θ (par 0)) := fun hg => m1 (g3 _ hg)
   refine ⟨?_, .inl ⟨m3, hng⟩, T, ?_⟩
   ·rintro (hb | hb)
    ·exact m1 hb.1
    ·rcases hfoot _ (e2 _ hb) with hb | hb
     ·exact hng hb
     ·have h8 := (hlt _ m3).1
      have hb : w.heap.size ≤ C.θ (par 0) := hb
      omega
   ·show w'.heap[C.θ (par 0)]? = _
    rw [hsame _ (hlt _ m3).1 hng]
    exact m4
 ·obtain ⟨rfl, _⟩ := hout hz
  obtain ⟨rfl, _⟩ := hout hz'
  exact absurd rfl hne
 ·obtain ⟨rfl, _⟩ := hout hz
  rcases hb with ⟨hb, hg⟩ | hb
  ·obtain ⟨h1, h2, h3⟩ := hlt b hb
   refine ⟨fun hz2 => ?_, h3, Nat.lt_of_lt_of_le h1 Po.kept.size⟩
   rcases Po.zn b hz2 with h | h | h
   ·exact h2 h
   ·omega
   ·exact hg (hmw b h)
  ·have := Po.mem.apart _ _ b hy1 hb
   rw [hS] at this
   exact this
 ·have := Po.mem.ro b
  rw [hS] at this
  exact this hb
 ·obtain ⟨rfl, rfl⟩ := hout hz
  rw [ptrsOf_plain d2 hxp] at hp'
  cases hp'
 ·have hv := Po.val
  rcases hres with ⟨k, r, rfl⟩ | rfl
  ·have conv : ∀ vs, AVC w' C1' (rsOut ⟨.imm true k r, [⟨false, .sl e, m0, d1⟩], []⟩) (.imm true k r) vs → AVC w' C' (rsOut ⟨.imm true k r, [⟨x.mem, x.k, m2, d2⟩], []⟩) (.imm true k r) vs := fun vs h => by
    have h2 : Enc w' C1'.θ C1'.Z C1'.S k (.imm true) r vs noB := h.2
    rw [hS] at h2
    exact ⟨h.1, h2.mono (.refl _) (.refl _) (.refl _) (fun _ _ => rfl) (fun p hp => by rw [ptrsOf_plain r h.1] at hp; cases hp)⟩
   rcases hv with h1 | ⟨vs, _, h2⟩
   ·rcases h1 with h1 | ⟨h1, vs, h2, h3⟩ | ⟨h1, h2, h3⟩
    ·cases h1
    ·exact .inl (.inr (.inl ⟨h1, vs, h2, conv vs h3⟩))
    ·exact .inl (.inr (.inr ⟨h1, conv _ h2, h3⟩))
   ·exact h2.elim
  ·rcases hv with h1 | ⟨vs, h1, h2⟩
   ·rcases h1 with h1 | ⟨h1, vs, h2, h3⟩ | ⟨h1, h2, h3⟩
    ·cases h1
    ·exact h3.elim
    ·exact h2.elim
   ·exact .inr ⟨vs, h1, h2⟩
 ·exact ⟨Po.kept.os, Po.kept.tape, Po.kept.output, Po.kept.size, fun b hb hm => Po.kept.block b hb fun h => hm (hmwi b (hmw b h))⟩
 ·obtain ⟨rfl, _⟩ := hout hz
  rcases hb with ⟨hb, _⟩ | hb
  ·exact .inr ⟨0, x, rfl, hb⟩
  ·rcases hfoot b hb with hb | hb
   ·exact .inr (hmwi b hb)
   ·exact .inl hb
 ·rcases Po.zn b hb with h | h | h
  ·exact .inl h
  ·exact .inr (.inl h)
  ·exact .inr (.inr (hmwi b (hmw b h)))
 ·simp only [List.cons.injEq, AV.ref.injEq, and_true] at ha hx'
  obtain ⟨⟨_, rfl⟩, _⟩ := ha
  subst hx'
  exact ⟨d2, m2, e, rfl, k2⟩
theorem Contract.vacuous {P : Program} {Γ : Glb} {f : FuncId} {q : Ctr} (h : ∀ ci co, ¬ (q.G ci).run some = some co) : Contract P Γ f q :=
 fun _ _ ci co _ _ _ _ _ _ hG => (h ci co hG).elim
theorem mat_none_absurd {α : Type} {k : α → Tre CallOut} {co : CallOut} {p : Prop} (h : (Tre.mat none k).run some = some co) : p := by cases h
end Go.Abs

namespace Go.Proofs.Ythnkanacjhlhhaa
open Go Go.Abs Go.Proofs
abbrev kField : K := (.pair (.int .i64) (.pair (.int .i64) .unit))
abbrev kMatrix : K := (.pair (.int .i64) (.pair (.sl (.int .i64)) .unit))
abbrev kL00Src : K := (.pair (.sl (.int .u8)) (.pair (.int .i64) (.pair (.int .u64) .unit)))
def tau : List (Nat × TI) := [(40, ⟨kMatrix, 32, 0⟩), (26, ⟨(.sl kMatrix), 24, 40⟩), (38, ⟨(.sl (.int .i64)), 24, 2⟩), (2, ⟨(.int .i64), 8, 0⟩), (3, ⟨(.int .i64), 8, 0⟩), (122, ⟨kL00Src, 40, 0⟩), (143, ⟨(.int .u64), 8, 0⟩), (120, ⟨(.int .u64), 8, 0⟩), (34, ⟨(.sl (.int .u8)), 24, 5⟩), (118, ⟨.fn, 8, 0⟩), (5, ⟨(.int .u8), 1, 0⟩), (70, ⟨(.sl (.sl (.int .i64))), 24, 38⟩), (46, ⟨(.int .u64), 8, 0⟩), (9, ⟨.str, 16, 0⟩), (1, ⟨.fn, 8, 0⟩), (4, ⟨.bool, 1, 0⟩), (12, ⟨(.int .u64), 8, 0⟩), (13, ⟨(.pair .str (.pair (.int .u64) .unit)), 24, 0⟩), (21, ⟨(.int .i32), 4, 0⟩), (22, ⟨(.sl kMatrix), 24, 57⟩), (23, ⟨.fn, 8, 0⟩), (25, ⟨.fn, 8, 0⟩), (27, ⟨.fn, 8, 0⟩), (28, ⟨.fn, 8, 0⟩), (29, ⟨.fn, 8, 0⟩), (31, ⟨.fn, 8, 0⟩), (32, ⟨.fn, 8, 0⟩), (33, ⟨.fn, 8, 0⟩), (35, ⟨.fn, 8, 0⟩), (36, ⟨.fn, 8, 0⟩), (37, ⟨.fn, 8, 0⟩), (39, ⟨kMatrix, 32, 0⟩), (41, ⟨.fn, 8, 0⟩), (42, ⟨.fn, 8, 0⟩), (43, ⟨.fn, 8, 0⟩), (45, ⟨.fn, 8, 0⟩), (47, ⟨.fn, 8, 0⟩), (48, ⟨.fn, 8, 0⟩), (49, ⟨.fn, 8, 0⟩), (50, ⟨.fn, 8, 0⟩), (51, ⟨.fn, 8, 0⟩), (52, ⟨.fn, 8, 0⟩), (54, ⟨.fn, 8, 0⟩), (55, ⟨.fn, 8, 0⟩), (56, ⟨.fn, 8, 0⟩), (57, ⟨kMatrix, 32, 0⟩), (58, ⟨.fn, 8, 0⟩), (59, ⟨.fn, 8, 0⟩), (60, ⟨.fn, 8, 0⟩), (61, ⟨.fn, 8, 0⟩), (62, ⟨.fn, 8, 0⟩), (63, ⟨.fn, 8, 0⟩), (64, ⟨.fn, 8, 0⟩), (65, ⟨kField, 16, 0⟩), (66, ⟨kField, 16, 0⟩), (68, ⟨.fn, 8, 0⟩), (69, ⟨.fn, 8, 0⟩), (71, ⟨.fn, 8, 0⟩), (72, ⟨.fn, 8, 0⟩), (73, ⟨.fn, 8, 0⟩), (74, ⟨.fn, 8, 0⟩), (75, ⟨.fn, 8, 0⟩), (76, ⟨.fn, 8, 0⟩), (77, ⟨.fn, 8, 0⟩), (78, ⟨.fn, 8, 0⟩), (79, ⟨.fn, 8, 0⟩), (80, ⟨.fn, 8, 0⟩), (81, ⟨.fn, 8, 0⟩), (82, ⟨.fn, 8, 0⟩), (83, ⟨.fn, 8, 0⟩), (84, ⟨.fn, 8, 0⟩), (85, ⟨.ptr, 8, 0⟩), (86, ⟨.fn, 8, 0⟩), (87, ⟨.fn, 8, 0⟩), (88, ⟨.ptr, 8, 0⟩), (89, ⟨.fn, 8, 0⟩), (90, ⟨.fn, 8, 0⟩), (91, ⟨.fn, 8, 0⟩), (92, ⟨.fn, 8, 0⟩), (93, ⟨.fn, 8, 0⟩), (94, ⟨.fn, 8, 0⟩), (95, ⟨.fn, 8, 0⟩), (96, ⟨.fn, 8, 0⟩), (97, ⟨.fn, 8, 0⟩), (98, ⟨.fn, 8, 0⟩), (99, ⟨.fn, 8, 0⟩), (100, ⟨.fn, 8, 0⟩), (101, ⟨(.sl (.int .i64)), 24, 3⟩), (102, ⟨.fn, 8, 0⟩), (103, ⟨.fn, 8, 0⟩), (104, ⟨.fn, 8, 0⟩), (105, ⟨(.sl kField), 24, 66⟩), (106, ⟨.fn, 8, 0⟩), (107, ⟨.fn, 8, 0⟩), (109, ⟨.fn, 8, 0⟩), (110, ⟨.fn, 8, 0⟩), (111, ⟨.fn, 8, 0⟩), (112, ⟨.fn, 8, 0⟩), (113, ⟨.fn, 8, 0⟩), (114, ⟨.fn, 8, 0⟩), (115, ⟨.fn, 8, 0⟩), (116, ⟨.fn, 8, 0⟩), (117, ⟨.fn, 8, 0⟩), (119, ⟨.fn, 8, 0⟩), (121, ⟨kL00Src, 40, 0⟩), (123, ⟨.fn, 8, 0⟩), (124, ⟨.fn, 8, 0⟩), (125, ⟨.fn, 8, 0⟩), (126, ⟨.fn, 8, 0⟩), (127, ⟨.fn, 8, 0⟩), (128, ⟨.fn, 8, 0⟩), (129, ⟨(.int .i64), 8, 0⟩), (131, ⟨.fn, 8, 0⟩), (132, ⟨.fn, 8, 0⟩), (133, ⟨.fn, 8, 0⟩), (135, ⟨.fn, 8, 0⟩), (136, ⟨.fn, 8, 0⟩), (137, ⟨(.int .u32), 4, 0⟩), (138, ⟨.fn, 8, 0⟩), (139, ⟨.fn, 8, 0⟩), (140, ⟨.fn, 8, 0⟩), (141, ⟨.fn, 8, 0⟩), (142, ⟨.fn, 8, 0⟩), (144, ⟨.fn, 8, 0⟩), (145, ⟨.fn, 8, 0⟩), (146, ⟨.fn, 8, 0⟩), (147, ⟨.ptr, 8, 0⟩), (148, ⟨.fn, 8, 0⟩), (149, ⟨.fn, 8, 0⟩), (150, ⟨.fn, 8, 0⟩), (151, ⟨.fn, 8, 0⟩), (152, ⟨.fn, 8, 0⟩), (153, ⟨.fn, 8, 0⟩), (154, ⟨.ptr, 8, 0⟩), (156, ⟨.fn, 8, 0⟩), (157, ⟨.fn, 8, 0⟩), (158, ⟨.fn, 8, 0⟩), (159, ⟨.fn, 8, 0⟩), (160, ⟨.fn, 8, 0⟩), (166, ⟨.fn, 8, 0⟩), (169, ⟨.fn, 8, 0⟩), (170, ⟨.ptr, 8, 0⟩)]
set_option maxRecDepth 100000 in
theorem tau_tys {E : List (Nat × Ctr)} {Z : List (Nat × List Frz)} : TysOK Try.prog ⟨tau, E, Z⟩ := tysOK_of (tysB_env (by kernel_rfl)) (by kernel_rfl)
theorem ent18 : Go.Abs.Enters Try.prog 18 := ⟨Try.f18, Try.func18, by kernel_rfl, by kernel_rfl⟩
theorem ent19 : Go.Abs.Enters Try.prog 19 := ⟨Try.f19, Try.func19, by kernel_rfl, by kernel_rfl⟩
theorem ent22 : Go.Abs.Enters Try.prog 22 := ⟨Try.f22, Try.func22, by kernel_rfl, by kernel_rfl⟩
theorem ent25 : Go.Abs.Enters Try.prog 25 := ⟨Try.f25, Try.func25, by kernel_rfl, by kernel_rfl⟩
theorem ent26 : Go.Abs.Enters Try.prog 26 := ⟨Try.f26, Try.func26, by kernel_rfl, by kernel_rfl⟩
theorem ent27 : Go.Abs.Enters Try.prog 27 := ⟨Try.f27, Try.func27, by kernel_rfl, by kernel_rfl⟩
theorem ent28 : Go.Abs.Enters Try.prog 28 := ⟨Try.f28, Try.func28, by kernel_rfl, by kernel_rfl⟩
theorem ent29 : Go.Abs.Enters Try.prog 29 := ⟨Try.f29, Try.func29, by kernel_rfl, by kernel_rfl⟩
theorem ent30 : Go.Abs.Enters Try.prog 30 := ⟨Try.f30, Try.func30, by kernel_rfl, by kernel_rfl⟩
theorem ent31 : Go.Abs.Enters Try.prog 31 := ⟨Try.f31, Try.func31, by kernel_rfl, by kernel_rfl⟩
theorem ent32 : Go.Abs.Enters Try.prog 32 := ⟨Try.f32, Try.func32, by kernel_rfl, by kernel_rfl⟩
theorem ent33 : Go.Abs.Enters Try.prog 33 := ⟨Try.f33, Try.func33, by kernel_rfl, by kernel_rfl⟩
theorem ent34 : Go.Abs.Enters Try.prog 34 := ⟨Try.f34, Try.func34, by kernel_rfl, by kernel_rfl⟩
theorem ent35 : Go.Abs.Enters Try.prog 35 := ⟨Try.f35, Try.func35, by kernel_rfl, by kernel_rfl⟩
theorem ent36 : Go.Abs.Enters Try.prog 36 := ⟨Try.f36, Try.func36, by kernel_rfl, by kernel_rfl⟩
theorem ent40 : Go.Abs.Enters Try.prog 40 := ⟨Try.f40, Try.func40, by kernel_rfl, by kernel_rfl⟩
theorem ent43 : Go.Abs.Enters Try.prog 43 := ⟨Try.f43, Try.func43, by kernel_rfl, by kernel_rfl⟩
theorem ent45 : Go.Abs.Enters Try.prog 45 := ⟨Try.f45, Try.func45, by kernel_rfl, by kernel_rfl⟩
theorem ent46 : Go.Abs.Enters Try.prog 46 := ⟨Try.f46, Try.func46, by kernel_rfl, by kernel_rfl⟩
theorem ent56 : Go.Abs.Enters Try.prog 56 := ⟨Try.f56, Try.func56, by kernel_rfl, by kernel_rfl⟩
theorem ent57 : Go.Abs.Enters Try.prog 57 := ⟨Try.f57, Try.func57, by kernel_rfl, by kernel_rfl⟩
theorem ent62 : Go.Abs.Enters Try.prog 62 := ⟨Try.f62, Try.func62, by kernel_rfl, by kernel_rfl⟩
theorem ent63 : Go.Abs.Enters Try.prog 63 := ⟨Try.f63, Try.func63, by kernel_rfl, by kernel_rfl⟩
theorem ent65 : Go.Abs.Enters Try.prog 65 := ⟨Try.f65, Try.func65, by kernel_rfl, by kernel_rfl⟩
theorem ent67 : Go.Abs.Enters Try.prog 67 := ⟨Try.f67, Try.func67, by kernel_rfl, by kernel_rfl⟩
theorem ent70 : Go.Abs.Enters Try.prog 70 := ⟨Try.f70, Try.func70, by kernel_rfl, by kernel_rfl⟩
theorem ent71 : Go.Abs.Enters Try.prog 71 := ⟨Try.f71, Try.func71, by kernel_rfl, by kernel_rfl⟩
theorem ent73 : Go.Abs.Enters Try.prog 73 := ⟨Try.f73, Try.func73, by kernel_rfl, by kernel_rfl⟩
theorem ent74 : Go.Abs.Enters Try.prog 74 := ⟨Try.f74, Try.func74, by kernel_rfl, by kernel_rfl⟩
theorem ent75 : Go.Abs.Enters Try.prog 75 := ⟨Try.f75, Try.func75, by kernel_rfl, by kernel_rfl⟩
theorem ent76 : Go.Abs.Enters Try.prog 76 := ⟨Try.f76, Try.func76, by kernel_rfl, by kernel_rfl⟩
theorem ent81 : Go.Abs.Enters Try.prog 81 := ⟨Try.f81, Try.func81, by kernel_rfl, by kernel_rfl⟩
theorem ent82 : Go.Abs.Enters Try.prog 82 := ⟨Try.f82, Try.func82, by kernel_rfl, by kernel_rfl⟩
theorem ent83 : Go.Abs.Enters Try.prog 83 := ⟨Try.f83, Try.func83, by kernel_rfl, by kernel_rfl⟩
theorem ent84 : Go.Abs.Enters Try.prog 84 := ⟨Try.f84, Try.func84, by kernel_rfl, by kernel_rfl⟩
theorem ent85 : Go.Abs.Enters Try.prog 85 := ⟨Try.f85, Try.func85, by kernel_rfl, by kernel_rfl⟩
theorem ent86 : Go.Abs.Enters Try.prog 86 := ⟨Try.f86, Try.func86, by kernel_rfl, by kernel_rfl⟩
theorem ent87 : Go.Abs.Enters Try.prog 87 := ⟨Try.f87, Try.func87, by kernel_rfl, by kernel_rfl⟩
theorem ent88 : Go.Abs.Enters Try.prog 88 := ⟨Try.f88, Try.func88, by kernel_rfl, by kernel_rfl⟩
theorem ent89 : Go.Abs.Enters Try.prog 89 := ⟨Try.f89, Try.func89, by kernel_rfl, by kernel_rfl⟩
theorem ent90 : Go.Abs.Enters Try.prog 90 := ⟨Try.f90, Try.func90, by kernel_rfl, by kernel_rfl⟩
theorem ent91 : Go.Abs.Enters Try.prog 91 := ⟨Try.f91, Try.func91, by kernel_rfl, by kernel_rfl⟩
theorem ent95 : Go.Abs.Enters Try.prog 95 := ⟨Try.f95, Try.func95, by kernel_rfl, by kernel_rfl⟩
theorem ent98 : Go.Abs.Enters Try.prog 98 := ⟨Try.f98, Try.func98, by kernel_rfl, by kernel_rfl⟩
theorem ent105 : Go.Abs.Enters Try.prog 105 := ⟨Try.f105, Try.func105, by kernel_rfl, by kernel_rfl⟩
theorem ent106 : Go.Abs.Enters Try.prog 106 := ⟨Try.f106, Try.func106, by kernel_rfl, by kernel_rfl⟩
theorem ent115 : Go.Abs.Enters Try.prog 115 := ⟨Try.f115, Try.func115, by kernel_rfl, by kernel_rfl⟩
theorem ent116 : Go.Abs.Enters Try.prog 116 := ⟨Try.f116, Try.func116, by kernel_rfl, by kernel_rfl⟩
theorem ent117 : Go.Abs.Enters Try.prog 117 := ⟨Try.f117, Try.func117, by kernel_rfl, by kernel_rfl⟩
theorem ent118 : Go.Abs.Enters Try.prog 118 := ⟨Try.f118, Try.func118, by kernel_rfl, by kernel_rfl⟩
theorem ent119 : Go.Abs.Enters Try.prog 119 := ⟨Try.f119, Try.func119, by kernel_rfl, by kernel_rfl⟩
theorem ent120 : Go.Abs.Enters Try.prog 120 := ⟨Try.f120, Try.func120, by kernel_rfl, by kernel_rfl⟩
theorem ent121 : Go.Abs.Enters Try.prog 121 := ⟨Try.f121, Try.func121, by kernel_rfl, by kernel_rfl⟩
theorem ent122 : Go.Abs.Enters Try.prog 122 := ⟨Try.f122, Try.func122, by kernel_rfl, by kernel_rfl⟩
theorem ent123 : Go.Abs.Enters Try.prog 123 := ⟨Try.f123, Try.func123, by kernel_rfl, by kernel_rfl⟩
theorem ent124 : Go.Abs.Enters Try.prog 124 := ⟨Try.f124, Try.func124, by kernel_rfl, by kernel_rfl⟩
theorem ent125 : Go.Abs.Enters Try.prog 125 := ⟨Try.f125, Try.func125, by kernel_rfl, by kernel_rfl⟩
theorem ent126 : Go.Abs.Enters Try.prog 126 := ⟨Try.f126, Try.func126, by kernel_rfl, by kernel_rfl⟩
theorem ent128 : Go.Abs.Enters Try.prog 128 := ⟨Try.f128, Try.func128, by kernel_rfl, by kernel_rfl⟩
theorem ent129 : Go.Abs.Enters Try.prog 129 := ⟨Try.f129, Try.func129, by kernel_rfl, by kernel_rfl⟩
theorem ent132 : Go.Abs.Enters Try.prog 132 := ⟨Try.f132, Try.func132, by kernel_rfl, by kernel_rfl⟩
theorem ent133 : Go.Abs.Enters Try.prog 133 := ⟨Try.f133, Try.func133, by kernel_rfl, by kernel_rfl⟩
theorem ent134 : Go.Abs.Enters Try.prog 134 := ⟨Try.f134, Try.func134, by kernel_rfl, by kernel_rfl⟩
theorem ent135 : Go.Abs.Enters Try.prog 135 := ⟨Try.f135, Try.func135, by kernel_rfl, by kernel_rfl⟩
theorem ent136 : Go.Abs.Enters Try.prog 136 := ⟨Try.f136, Try.func136, by kernel_rfl, by kernel_rfl⟩
theorem ent137 : Go.Abs.Enters Try.prog 137 := ⟨Try.f137, Try.func137, by kernel_rfl, by kernel_rfl⟩
theorem ent140 : Go.Abs.Enters Try.prog 140 := ⟨Try.f140, Try.func140, by kernel_rfl, by kernel_rfl⟩
theorem ent148 : Go.Abs.Enters Try.prog 148 := ⟨Try.f148, Try.func148, by kernel_rfl, by kernel_rfl⟩
theorem ent149 : Go.Abs.Enters Try.prog 149 := ⟨Try.f149, Try.func149, by kernel_rfl, by kernel_rfl⟩
theorem ent150 : Go.Abs.Enters Try.prog 150 := ⟨Try.f150, Try.func150, by kernel_rfl, by kernel_rfl⟩
theorem ent151 : Go.Abs.Enters Try.prog 151 := ⟨Try.f151, Try.func151, by kernel_rfl, by kernel_rfl⟩
theorem ent152 : Go.Abs.Enters Try.prog 152 := ⟨Try.f152, Try.func152, by kernel_rfl, by kernel_rfl⟩
theorem ent153 : Go.Abs.Enters Try.prog 153 := ⟨Try.f153, Try.func153, by kernel_rfl, by kernel_rfl⟩
theorem ent154 : Go.Abs.Enters Try.prog 154 := ⟨Try.f154, Try.func154, by kernel_rfl, by kernel_rfl⟩
theorem ent155 : Go.Abs.Enters Try.prog 155 := ⟨Try.f155, Try.func155, by kernel_rfl, by kernel_rfl⟩
theorem ent157 : Go.Abs.Enters Try.prog 157 := ⟨Try.f157, Try.func157, by kernel_rfl, by kernel_rfl⟩
theorem ent158 : Go.Abs.Enters Try.prog 158 := ⟨Try.f158, Try.func158, by kernel_rfl, by kernel_rfl⟩
theorem ent159 : Go.Abs.Enters Try.prog 159 := ⟨Try.f159, Try.func159, by kernel_rfl, by kernel_rfl⟩
theorem ent160 : Go.Abs.Enters Try.prog 160 := ⟨Try.f160, Try.func160, by kernel_rfl, by kernel_rfl⟩
theorem ent161 : Go.Abs.Enters Try.prog 161 := ⟨Try.f161, Try.func161, by kernel_rfl, by kernel_rfl⟩
theorem ent162 : Go.Abs.Enters Try.prog 162 := ⟨Try.f162, Try.func162, by kernel_rfl, by kernel_rfl⟩
theorem ent164 : Go.Abs.Enters Try.prog 164 := ⟨Try.f164, Try.func164, by kernel_rfl, by kernel_rfl⟩
theorem ent166 : Go.Abs.Enters Try.prog 166 := ⟨Try.f166, Try.func166, by kernel_rfl, by kernel_rfl⟩
theorem ent167 : Go.Abs.Enters Try.prog 167 := ⟨Try.f167, Try.func167, by kernel_rfl, by kernel_rfl⟩
theorem ent168 : Go.Abs.Enters Try.prog 168 := ⟨Try.f168, Try.func168, by kernel_rfl, by kernel_rfl⟩
theorem ent169 : Go.Abs.Enters Try.prog 169 := ⟨Try.f169, Try.func169, by kernel_rfl, by kernel_rfl⟩
theorem ent170 : Go.Abs.Enters Try.prog 170 := ⟨Try.f170, Try.func170, by kernel_rfl, by kernel_rfl⟩
theorem ent180 : Go.Abs.Enters Try.prog 180 := ⟨Try.f180, Try.func180, by kernel_rfl, by kernel_rfl⟩
abbrev TMatrix := (Int × ((List Int) × Unit))
abbrev TL00Src := ((List Int) × (Int × (Int × Unit)))
end Go.Proofs.Ythnkanacjhlhhaa

namespace Go.Proofs.Ythnkanacjhlhhaa
open Go Go.Abs Go.Proofs
noncomputable def l_f6big (p0 : (List Int)) : Tre Bool :=
 .ret (decide ((p0.length : Int) > 4096))
noncomputable def l_f6big_F (p0 : (List Int)) : Option Bool := (l_f6big p0).run some
def l_f6big_S (p0 : (List Int)) : Bool :=
 decide ((p0.length : Int) > 4096)
theorem l_f6big_spec (p0 : (List Int)) : l_f6big_F p0 = some (l_f6big_S p0) := rfl
noncomputable def l_f6big_V : Env := ⟨tau, [], []⟩
noncomputable def l_f6big_b : Code := (Try.f25.body).getD .skip
noncomputable def l_f6big_I : FnI := ⟨l_f6big_b, Try.f25.results.toList, Try.f25.resultTypes.toList, []⟩
noncomputable def l_f6big_out (_zp0 : Bool) (_p0 : (List Int)) : Bool → CallOut := fun r => ⟨(.imm true .bool r), [], []⟩
set_option maxRecDepth 100000 in
theorem l_f6big_eq : ∀ (zp0 : Bool) (p0 : (List Int)), denFn l_f6big_V l_f6big_I ⟨[(.imm zp0 (.sl (.int .u8)) p0)], []⟩ = (l_f6big p0).run fun r => some (l_f6big_out zp0 p0 r) := fun _ _ => by kernel_rfl
noncomputable def l_f6big_G (av : List AV) (rs : List Root) : Tre CallOut :=
 asCons av fun a0_ av0 =>
 asEnd av0 <|
 asEnd rs <|
 asImm (.sl (.int .u8)) a0_ fun z2 d1 =>
 .ret (l_f6big_out z2 d1 (l_f6big_S d1))
noncomputable def l_f6big_c : Ctr := ⟨[], fun ci => l_f6big_G ci.args ci.roots, false⟩
theorem l_f6big_env : EnvOK Try.prog .none l_f6big_V := envOK_nil
set_option maxRecDepth 100000 in
theorem l_f6big_ok : Contract Try.prog .none 25 l_f6big_c := by
 have hl : LoopsOK l_f6big_V [] l_f6big_b := loopsOK_nil (by kernel_rfl)
 refine (contract_of (F := l_f6big_I) tau_tys l_f6big_env Try.func25 (by kernel_rfl) (by kernel_rfl) (by kernel_rfl) hl []).weaken ?_
 rintro ⟨av, rs⟩ co h
 have h : (l_f6big_G av rs).run some = some co := h
 obtain ⟨a0_, av0, rfl, h_0⟩ := asCons_spec h
 obtain ⟨rfl, h_1⟩ := asEnd_spec h_0
 obtain ⟨rfl, h_2⟩ := asEnd_spec h_1
 obtain ⟨z2, d1, rfl, h_3⟩ := asImm_spec h_2
 exact fin_ret (l_f6big_eq z2 d1) (l_f6big_spec d1) h_3
end Go.Proofs.Ythnkanacjhlhhaa

namespace Go.Proofs.Ythnkanacjhlhhaa
open Go Go.Abs Go.Proofs
noncomputable def s_l00From (p0 : (List Int)) : Tre TL00Src :=
 .ret (p0, (0, (0, ())))
noncomputable def s_l00From_F (p0 : (List Int)) : Option TL00Src := (s_l00From p0).run some
theorem s_l00From_spec (p0 : (List Int)) : s_l00From_F p0 = some (p0, (0, (0, ()))) := rfl
noncomputable def s_l00From_V : Env := ⟨tau, [], []⟩
noncomputable def s_l00From_b : Code := (Try.f73.body).getD .skip
noncomputable def s_l00From_I : FnI := ⟨s_l00From_b, Try.f73.results.toList, Try.f73.resultTypes.toList, []⟩
noncomputable def s_l00From_out (zp0 : Bool) (_p0 : (List Int)) : TL00Src → CallOut := fun r => ⟨(.ptr (1, 0) []), [], [⟨true, kL00Src, (.imm zp0), r⟩]⟩
set_option maxRecDepth 100000 in
theorem s_l00From_eq : ∀ (zp0 : Bool) (p0 : (List Int)), denFn s_l00From_V s_l00From_I ⟨[(.imm zp0 (.sl (.int .u8)) p0)], []⟩ = (s_l00From p0).run fun r => some (s_l00From_out zp0 p0 r) := fun _ _ => by kernel_rfl
noncomputable def s_l00From_G (av : List AV) (rs : List Root) : Tre CallOut :=
 asCons av fun a0_ av0 =>
 asEnd av0 <|
 asEnd rs <|
 asImm (.sl (.int .u8)) a0_ fun z2 d1 =>
 .ret (s_l00From_out z2 d1 (d1, (0, (0, ()))))
noncomputable def s_l00From_c : Ctr := ⟨[], fun ci => s_l00From_G ci.args ci.roots, false⟩
theorem s_l00From_env : EnvOK Try.prog .none s_l00From_V := envOK_nil
set_option maxRecDepth 100000 in
theorem s_l00From_ok : Contract Try.prog .none 73 s_l00From_c := by
 have hl : LoopsOK s_l00From_V [] s_l00From_b := loopsOK_nil (by kernel_rfl)
 refine (contract_of (F := s_l00From_I) tau_tys s_l00From_env Try.func73 (by kernel_rfl) (by kernel_rfl) (by kernel_rfl) hl []).weaken ?_
 rintro ⟨av, rs⟩ co h
 have h : (s_l00From_G av rs).run some = some co := h
 obtain ⟨a0_, av0, rfl, h_0⟩ := asCons_spec h
 obtain ⟨rfl, h_1⟩ := asEnd_spec h_0
 obtain ⟨rfl, h_2⟩ := asEnd_spec h_1
 obtain ⟨z2, d1, rfl, h_3⟩ := asImm_spec h_2
 exact fin_ret (s_l00From_eq z2 d1) (s_l00From_spec d1) h_3
end Go.Proofs.Ythnkanacjhlhhaa

namespace Go.Proofs.Ythnkanacjhlhhaa
open Go Go.Abs Go.Proofs
noncomputable def s_l00Src_next_6913 (p0 : TL00Src) : Tre (Int × TL00Src) :=
 .cond (decide (p0.2.1 < (p0.1.length : Int)))
  (.ite (0 ≤ p0.2.1 ∧ p0.2.1 < (p0.1.length : Int)) <|
  .mat (p0.1[p0.2.1.toNat]?) fun x1 =>
  let v2 := iwrap .u64 (p0.2.2.1 * 6364136223846793005)
  let v3 := iwrap .u64 (iwrap .i64 x1)
  let v4 := iwrap .u64 ((iwrap .u64 (v2 + v3)) + 1442695040888963407)
  .cond (decide (iwrap .i64 (p0.2.1 + 1) ≤ (p0.1.length : Int)))
   (.ret (iwrap .i64 x1, (p0.1, (iwrap .i64 (p0.2.1 + 1), (v4, p0.2.2.2)))))
   (let v5 := iand .u64 (ishr .u64 v4 40) 255
   .ret (iwrap .i64 v5, (p0.1, (iwrap .i64 (p0.2.1 + 1), (v4, p0.2.2.2))))))
  (let v6 := iwrap .u64 (p0.2.2.1 * 6364136223846793005)
  let v7 := iwrap .u64 ((iwrap .u64 (v6 + 0)) + 1442695040888963407)
  .cond (decide (iwrap .i64 (p0.2.1 + 1) ≤ (p0.1.length : Int)))
   (.ret (0, (p0.1, (iwrap .i64 (p0.2.1 + 1), (v7, p0.2.2.2)))))
   (let v8 := iand .u64 (ishr .u64 v7 40) 255
   .ret (iwrap .i64 v8, (p0.1, (iwrap .i64 (p0.2.1 + 1), (v7, p0.2.2.2))))))
noncomputable def s_l00Src_next_6913_F (p0 : TL00Src) : Option (Int × TL00Src) := (s_l00Src_next_6913 p0).run some
noncomputable def s_l00Src_next_6913_V : Env := ⟨tau, [], []⟩
noncomputable def s_l00Src_next_6913_b : Code := (Try.f132.body).getD .skip
noncomputable def s_l00Src_next_6913_I : FnI := ⟨s_l00Src_next_6913_b, Try.f132.results.toList, Try.f132.resultTypes.toList, []⟩
noncomputable def s_l00Src_next_6913_out (zp0 : Bool) (_p0 : TL00Src) : (Int × TL00Src) → CallOut := fun r => ⟨(.imm true (.int .i64) r.1), [⟨true, kL00Src, (.imm zp0), r.2⟩], []⟩
set_option maxRecDepth 100000 in
theorem s_l00Src_next_6913_eq : ∀ (zp0 : Bool) (p0 : TL00Src), denFn s_l00Src_next_6913_V s_l00Src_next_6913_I ⟨[(.ptr (0, 0) [])], [⟨true, kL00Src, (.imm zp0), p0⟩]⟩ = (s_l00Src_next_6913 p0).run fun r => some (s_l00Src_next_6913_out zp0 p0 r) := fun _ _ => by kernel_rfl
noncomputable def s_l00Src_next_6913_G (av : List AV) (rs : List Root) : Tre CallOut :=
 asCons av fun a0_ av0 =>
 asEnd av0 <|
 asCons rs fun r0_ rs0 =>
 asEnd rs0 <|
 asPtr (0, 0) [] a0_ <|
 asRt true kL00Src r0_ fun m1 d2 =>
 asMImm m1 fun z3 =>
 .mat (s_l00Src_next_6913_F d2) fun r => .ret (s_l00Src_next_6913_out z3 d2 r)
noncomputable def s_l00Src_next_6913_c : Ctr := ⟨[], fun ci => s_l00Src_next_6913_G ci.args ci.roots, false⟩
theorem s_l00Src_next_6913_env : EnvOK Try.prog .none s_l00Src_next_6913_V := envOK_nil
set_option maxRecDepth 100000 in
theorem s_l00Src_next_6913_ok : Contract Try.prog .none 132 s_l00Src_next_6913_c := by
 have hl : LoopsOK s_l00Src_next_6913_V [] s_l00Src_next_6913_b := loopsOK_nil (by kernel_rfl)
 refine (contract_of (F := s_l00Src_next_6913_I) tau_tys s_l00Src_next_6913_env Try.func132 (by kernel_rfl) (by kernel_rfl) (by kernel_rfl) hl []).weaken ?_
 rintro ⟨av, rs⟩ co h
 have h : (s_l00Src_next_6913_G av rs).run some = some co := h
 obtain ⟨a0_, av0, rfl, h_0⟩ := asCons_spec h
 obtain ⟨rfl, h_1⟩ := asEnd_spec h_0
 obtain ⟨r0_, rs0, rfl, h_2⟩ := asCons_spec h_1
 obtain ⟨rfl, h_3⟩ := asEnd_spec h_2
 obtain ⟨rfl, h_4⟩ := asPtr_spec h_3
 obtain ⟨m1, d2, rfl, h_5⟩ := asRt_spec h_4
 obtain ⟨z3, rfl, h_6⟩ := asMImm_spec h_5
 exact fin_mat (s_l00Src_next_6913_eq z3 d2) h_6
end Go.Proofs.Ythnkanacjhlhhaa

namespace Go.Proofs.Ythnkanacjhlhhaa
open Go Go.Abs Go.Proofs
noncomputable def s_l00Src_pick_9f69 (p0 : Int) (p1 : TL00Src) : Tre (Int × TL00Src) :=
 .cond (decide (p0 ≤ 1))
  (.ret (0, p1))
  (.mat (s_l00Src_next_6913_F p1) fun r1 =>
  .cond (decide (p0 > 200))
   (.mat (s_l00Src_next_6913_F r1.2) fun r2 =>
   let v3 := iwrap .i64 ((iwrap .i64 (r1.1 * 256)) + r2.1)
   .ifn (p0 = 0) <|
   .ret (Int.tmod v3 p0, r2.2))
   (.ifn (p0 = 0) <|
   .ret (Int.tmod r1.1 p0, r1.2)))
noncomputable def s_l00Src_pick_9f69_F (p0 : Int) (p1 : TL00Src) : Option (Int × TL00Src) := (s_l00Src_pick_9f69 p0 p1).run some
noncomputable def s_l00Src_pick_9f69_V : Env := ⟨tau, [(132, s_l00Src_next_6913_c)], []⟩
noncomputable def s_l00Src_pick_9f69_b : Code := (Try.f81.body).getD .skip
noncomputable def s_l00Src_pick_9f69_I : FnI := ⟨s_l00Src_pick_9f69_b, Try.f81.results.toList, Try.f81.resultTypes.toList, []⟩
noncomputable def s_l00Src_pick_9f69_out (zp0 : Bool) (_p0 : Int) (_p1 : TL00Src) : (Int × TL00Src) → CallOut := fun r => ⟨(.imm true (.int .i64) r.1), [⟨true, kL00Src, (.imm zp0), r.2⟩], []⟩
set_option maxRecDepth 100000 in
theorem s_l00Src_pick_9f69_eq : ∀ (zp0 : Bool) (p0 : Int) (p1 : TL00Src), denFn s_l00Src_pick_9f69_V s_l00Src_pick_9f69_I ⟨[(.ptr (0, 0) []), (.imm true (.int .i64) p0)], [⟨true, kL00Src, (.imm zp0), p1⟩]⟩ = (s_l00Src_pick_9f69 p0 p1).run fun r => some (s_l00Src_pick_9f69_out zp0 p0 p1 r) := fun _ _ _ => by kernel_rfl
noncomputable def s_l00Src_pick_9f69_G (av : List AV) (rs : List Root) : Tre CallOut :=
 asCons av fun a0_ av0 =>
 asCons av0 fun a1_ av1 =>
 asEnd av1 <|
 asCons rs fun r0_ rs0 =>
 asEnd rs0 <|
 asPtr (0, 0) [] a0_ <|
 asImmZ true (.int .i64) a1_ fun d1 =>
 asRt true kL00Src r0_ fun m2 d3 =>
 asMImm m2 fun z4 =>
 .mat (s_l00Src_pick_9f69_F d1 d3) fun r => .ret (s_l00Src_pick_9f69_out z4 d1 d3 r)
noncomputable def s_l00Src_pick_9f69_c : Ctr := ⟨[], fun ci => s_l00Src_pick_9f69_G ci.args ci.roots, false⟩
theorem s_l00Src_pick_9f69_env : EnvOK Try.prog .none s_l00Src_pick_9f69_V := (envOK_cons s_l00Src_next_6913_ok ent132 envOK_nil)
set_option maxRecDepth 100000 in
theorem s_l00Src_pick_9f69_ok : Contract Try.prog .none 81 s_l00Src_pick_9f69_c := by
 have hl : LoopsOK s_l00Src_pick_9f69_V [] s_l00Src_pick_9f69_b := loopsOK_nil (by kernel_rfl)
 refine (contract_of (F := s_l00Src_pick_9f69_I) tau_tys s_l00Src_pick_9f69_env Try.func81 (by kernel_rfl) (by kernel_rfl) (by kernel_rfl) hl []).weaken ?_
 rintro ⟨av, rs⟩ co h
 have h : (s_l00Src_pick_9f69_G av rs).run some = some co := h
 obtain ⟨a0_, av0, rfl, h_0⟩ := asCons_spec h
 obtain ⟨a1_, av1, rfl, h_1⟩ := asCons_spec h_0
 obtain ⟨rfl, h_2⟩ := asEnd_spec h_1
 obtain ⟨r0_, rs0, rfl, h_3⟩ := asCons_spec h_2
 obtain ⟨rfl, h_4⟩ := asEnd_spec h_3
 obtain ⟨rfl, h_5⟩ := asPtr_spec h_4
 obtain ⟨d1, rfl, h_6⟩ := asImmZ_spec h_5
 obtain ⟨m2, d3, rfl, h_7⟩ := asRt_spec h_6
 obtain ⟨z4, rfl, h_8⟩ := asMImm_spec h_7
 exact fin_mat (s_l00Src_pick_9f69_eq z4 d1 d3) h_8
end Go.Proofs.Ythnkanacjhlhhaa

namespace Go.Proofs.Ythnkanacjhlhhaa
open Go Go.Abs Go.Proofs
noncomputable def s_P6Pick (p0 : (List Int)) (p1 : Int) : Tre Int :=
 .mat (s_l00Src_pick_9f69_F p1 (p0, (0, (0, ())))) fun r1 =>
 .ret r1.1
noncomputable def s_P6Pick_F (p0 : (List Int)) (p1 : Int) : Option Int := (s_P6Pick p0 p1).run some
noncomputable def s_P6Pick_V : Env := ⟨tau, [(73, s_l00From_c), (81, s_l00Src_pick_9f69_c)], []⟩
noncomputable def s_P6Pick_b : Code := (Try.f26.body).getD .skip
noncomputable def s_P6Pick_I : FnI := ⟨s_P6Pick_b, Try.f26.results.toList, Try.f26.resultTypes.toList, []⟩
noncomputable def s_P6Pick_out (_zp0 : Bool) (_p0 : (List Int)) (_p1 : Int) : Int → CallOut := fun r => ⟨(.imm true (.int .i64) r), [], []⟩
set_option maxRecDepth 100000 in
theorem s_P6Pick_eq : ∀ (zp0 : Bool) (p0 : (List Int)) (p1 : Int), denFn s_P6Pick_V s_P6Pick_I ⟨[(.imm zp0 (.sl (.int .u8)) p0), (.imm true (.int .i64) p1)], []⟩ = (s_P6Pick p0 p1).run fun r => some (s_P6Pick_out zp0 p0 p1 r) := fun _ _ _ => by kernel_rfl
noncomputable def s_P6Pick_G (av : List AV) (rs : List Root) : Tre CallOut :=
 asCons av fun a0_ av0 =>
 asCons av0 fun a1_ av1 =>
 asEnd av1 <|
 asEnd rs <|
 asImm (.sl (.int .u8)) a0_ fun z2 d1 =>
 asImmZ true (.int .i64) a1_ fun d3 =>
 .mat (s_P6Pick_F d1 d3) fun r => .ret (s_P6Pick_out z2 d1 d3 r)
noncomputable def s_P6Pick_c : Ctr := ⟨[], fun ci => s_P6Pick_G ci.args ci.roots, false⟩
theorem s_P6Pick_env : EnvOK Try.prog .none s_P6Pick_V := (envOK_cons s_l00From_ok ent73 (envOK_cons s_l00Src_pick_9f69_ok ent81 envOK_nil))
set_option maxRecDepth 100000 in
theorem s_P6Pick_ok : Contract Try.prog .none 26 s_P6Pick_c := by
 have hl : LoopsOK s_P6Pick_V [] s_P6Pick_b := loopsOK_nil (by kernel_rfl)
 refine (contract_of (F := s_P6Pick_I) tau_tys s_P6Pick_env Try.func26 (by kernel_rfl) (by kernel_rfl) (by kernel_rfl) hl []).weaken ?_
 rintro ⟨av, rs⟩ co h
 have h : (s_P6Pick_G av rs).run some = some co := h
 obtain ⟨a0_, av0, rfl, h_0⟩ := asCons_spec h
 obtain ⟨a1_, av1, rfl, h_1⟩ := asCons_spec h_0
 obtain ⟨rfl, h_2⟩ := asEnd_spec h_1
 obtain ⟨rfl, h_3⟩ := asEnd_spec h_2
 obtain ⟨z2, d1, rfl, h_4⟩ := asImm_spec h_3
 obtain ⟨d3, rfl, h_5⟩ := asImmZ_spec h_4
 exact fin_mat (s_P6Pick_eq z2 d1 d3) h_5
end Go.Proofs.Ythnkanacjhlhhaa

namespace Go.Proofs.Ythnkanacjhlhhaa
open Go Go.Abs Go.Proofs
noncomputable def s_l00In (p0 : Int) (p1 : Int) (p2 : Int) : Tre Bool :=
 .cond (decide (p0 ≥ p1))
  (.ret (decide (p0 ≤ p2)))
  (.ret false)
noncomputable def s_l00In_F (p0 : Int) (p1 : Int) (p2 : Int) : Option Bool := (s_l00In p0 p1 p2).run some
def s_l00In_S (p0 : Int) (p1 : Int) (p2 : Int) : Bool :=
 cond (decide (p0 ≥ p1))
  (decide (p0 ≤ p2))
  (false)
theorem s_l00In_spec (p0 : Int) (p1 : Int) (p2 : Int) : s_l00In_F p0 p1 p2 = some (s_l00In_S p0 p1 p2) := (run_cond_some rfl rfl)
noncomputable def s_l00In_V : Env := ⟨tau, [], []⟩
noncomputable def s_l00In_b : Code := (Try.f40.body).getD .skip
noncomputable def s_l00In_I : FnI := ⟨s_l00In_b, Try.f40.results.toList, Try.f40.resultTypes.toList, []⟩
noncomputable def s_l00In_out (_p0 : Int) (_p1 : Int) (_p2 : Int) : Bool → CallOut := fun r => ⟨(.imm true .bool r), [], []⟩
set_option maxRecDepth 100000 in
theorem s_l00In_eq : ∀ (p0 : Int) (p1 : Int) (p2 : Int), denFn s_l00In_V s_l00In_I ⟨[(.imm true (.int .i64) p0), (.imm true (.int .i64) p1), (.imm true (.int .i64) p2)], []⟩ = (s_l00In p0 p1 p2).run fun r => some (s_l00In_out p0 p1 p2 r) := fun _ _ _ => by kernel_rfl
noncomputable def s_l00In_G (av : List AV) (rs : List Root) : Tre CallOut :=
 asCons av fun a0_ av0 =>
 asCons av0 fun a1_ av1 =>
 asCons av1 fun a2_ av2 =>
 asEnd av2 <|
 asEnd rs <|
 asImmZ true (.int .i64) a0_ fun d1 =>
 asImmZ true (.int .i64) a1_ fun d2 =>
 asImmZ true (.int .i64) a2_ fun d3 =>
 .ret (s_l00In_out d1 d2 d3 (s_l00In_S d1 d2 d3))
noncomputable def s_l00In_c : Ctr := ⟨[], fun ci => s_l00In_G ci.args ci.roots, false⟩
theorem s_l00In_env : EnvOK Try.prog .none s_l00In_V := envOK_nil
set_option maxRecDepth 100000 in
theorem s_l00In_ok : Contract Try.prog .none 40 s_l00In_c := by
 have hl : LoopsOK s_l00In_V [] s_l00In_b := loopsOK_nil (by kernel_rfl)
 refine (contract_of (F := s_l00In_I) tau_tys s_l00In_env Try.func40 (by kernel_rfl) (by kernel_rfl) (by kernel_rfl) hl []).weaken ?_
 rintro ⟨av, rs⟩ co h
 have h : (s_l00In_G av rs).run some = some co := h
 obtain ⟨a0_, av0, rfl, h_0⟩ := asCons_spec h
 obtain ⟨a1_, av1, rfl, h_1⟩ := asCons_spec h_0
 obtain ⟨a2_, av2, rfl, h_2⟩ := asCons_spec h_1
 obtain ⟨rfl, h_3⟩ := asEnd_spec h_2
 obtain ⟨rfl, h_4⟩ := asEnd_spec h_3
 obtain ⟨d1, rfl, h_5⟩ := asImmZ_spec h_4
 obtain ⟨d2, rfl, h_6⟩ := asImmZ_spec h_5
 obtain ⟨d3, rfl, h_7⟩ := asImmZ_spec h_6
 exact fin_ret (s_l00In_eq d1 d2 d3) (s_l00In_spec d1 d2 d3) h_7
end Go.Proofs.Ythnkanacjhlhhaa

namespace Go.Proofs.Ythnkanacjhlhhaa
open Go Go.Abs Go.Proofs
noncomputable def s_l02Gauss (g_ : Int → Int → Option Int) (p0 : Int) (p1 : Int) : Tre Int :=
 .cond (decide (p1 = 0))
  (.ret 1)
  (.cond (decide (p1 = p0))
   (.ret 1)
   (.mat (g_ (iwrap .i64 (p0 - 1)) (iwrap .i64 (p1 - 1))) fun r1 =>
   .mat (g_ (iwrap .i64 (p0 - 1)) p1) fun r2 =>
   .ite (0 ≤ iwrap .u64 p1) <|
   let v3 := ishl .i64 r2 (iwrap .u64 p1)
   .ret (iwrap .i64 (r1 + v3))))
noncomputable def s_l02Gauss_R : Nat → Int → Int → Option Int
 | 0 => fun _ _ => none
 | n + 1 => fun p0 p1 => (s_l02Gauss (s_l02Gauss_R n) p0 p1).run some
noncomputable def s_l02Gauss_F (p0 : Int) (p1 : Int) : Option Int := s_l02Gauss_R 1000000000000 p0 p1
noncomputable def s_l02Gauss_out (_g_ : Int → Int → Option Int) (_p0 : Int) (_p1 : Int) : Int → CallOut := fun r => ⟨(.imm true (.int .i64) r), [], []⟩
noncomputable def s_l02Gauss_G (g_ : Int → Int → Option Int) (av : List AV) (rs : List Root) : Tre CallOut :=
 asCons av fun a0_ av0 =>
 asCons av0 fun a1_ av1 =>
 asEnd av1 <|
 asEnd rs <|
 asImmZ true (.int .i64) a0_ fun d1 =>
 asImmZ true (.int .i64) a1_ fun d2 =>
 .mat (g_ d1 d2) fun r => .ret ((s_l02Gauss_out g_) d1 d2 r)
noncomputable def s_l02Gauss_c (g_ : Int → Int → Option Int) : Ctr := ⟨[], fun ci => (s_l02Gauss_G g_) ci.args ci.roots, false⟩
noncomputable def s_l02Gauss_V (g_ : Int → Int → Option Int) : Env := ⟨tau, [(133, (s_l02Gauss_c g_))], []⟩
noncomputable def s_l02Gauss_b (_g_ : Int → Int → Option Int) : Code := (Try.f133.body).getD .skip
noncomputable def s_l02Gauss_I (g_ : Int → Int → Option Int) : FnI := ⟨(s_l02Gauss_b g_), Try.f133.results.toList, Try.f133.resultTypes.toList, []⟩
set_option maxRecDepth 100000 in
theorem s_l02Gauss_eq (g_ : Int → Int → Option Int) : ∀ (p0 : Int) (p1 : Int), denFn (s_l02Gauss_V g_) (s_l02Gauss_I g_) ⟨[(.imm true (.int .i64) p0), (.imm true (.int .i64) p1)], []⟩ = ((s_l02Gauss g_) p0 p1).run fun r => some ((s_l02Gauss_out g_) p0 p1 r) := fun _ _ => by kernel_rfl
theorem s_l02Gauss_env (g_ : Int → Int → Option Int) (hg_ : Contract Try.prog .none 133 (s_l02Gauss_c g_)) : EnvOK Try.prog .none (s_l02Gauss_V g_) := (envOK_cons hg_ ent133 envOK_nil)
set_option maxRecDepth 100000 in
theorem s_l02Gauss_okS (g_ : Int → Int → Option Int) (hg_ : Contract Try.prog .none 133 (s_l02Gauss_c g_)) : Contract Try.prog .none 133 (s_l02Gauss_c (fun p0 p1 => (s_l02Gauss g_ p0 p1).run some)) := by
 have hl : LoopsOK (s_l02Gauss_V g_) [] (s_l02Gauss_b g_) := loopsOK_nil (by kernel_rfl)
 refine (contract_of (F := (s_l02Gauss_I g_)) tau_tys ((s_l02Gauss_env g_) hg_) Try.func133 (by kernel_rfl) (by kernel_rfl) (by kernel_rfl) hl []).weaken ?_
 rintro ⟨av, rs⟩ co h
 have h : (s_l02Gauss_G (fun p0 p1 => (s_l02Gauss g_ p0 p1).run some) av rs).run some = some co := h
 obtain ⟨a0_, av0, rfl, h_0⟩ := asCons_spec h
 obtain ⟨a1_, av1, rfl, h_1⟩ := asCons_spec h_0
 obtain ⟨rfl, h_2⟩ := asEnd_spec h_1
 obtain ⟨rfl, h_3⟩ := asEnd_spec h_2
 obtain ⟨d1, rfl, h_4⟩ := asImmZ_spec h_3
 obtain ⟨d2, rfl, h_5⟩ := asImmZ_spec h_4
 exact fin_mat ((s_l02Gauss_eq g_) d1 d2) h_5
theorem s_l02Gauss_ok0 : Contract Try.prog .none 133 (s_l02Gauss_c (fun _ _ => none)) := Contract.vacuous (by
 rintro ⟨av, rs⟩ co h
 have h : (s_l02Gauss_G (fun _ _ => none) av rs).run some = some co := h
 obtain ⟨a0_, av0, rfl, h_0⟩ := asCons_spec h
 obtain ⟨a1_, av1, rfl, h_1⟩ := asCons_spec h_0
 obtain ⟨rfl, h_2⟩ := asEnd_spec h_1
 obtain ⟨rfl, h_3⟩ := asEnd_spec h_2
 obtain ⟨d1, rfl, h_4⟩ := asImmZ_spec h_3
 obtain ⟨d2, rfl, h_5⟩ := asImmZ_spec h_4
 exact mat_none_absurd h_5)
theorem s_l02Gauss_okN : ∀ n, Contract Try.prog .none 133 (s_l02Gauss_c (s_l02Gauss_R n))
 | 0 => s_l02Gauss_ok0
 | n + 1 => s_l02Gauss_okS _ (s_l02Gauss_okN n)
theorem s_l02Gauss_ok : Contract Try.prog .none 133 (s_l02Gauss_c s_l02Gauss_F) := s_l02Gauss_okN _
end Go.Proofs.Ythnkanacjhlhhaa

namespace Go.Proofs.Ythnkanacjhlhhaa
open Go Go.Abs Go.Proofs
noncomputable def s_GaussNumber (p0 : Int) (p1 : Int) : Tre (Int × Int) :=
 .cond (!(s_l00In_S p0 1 10))
  (.ret (0, 2))
  (.cond (!(s_l00In_S p1 0 p0))
   (.ret (0, 2))
   (.mat (s_l02Gauss_F p0 p1) fun r1 =>
   .ret (r1, 0)))
noncomputable def s_GaussNumber_F (p0 : Int) (p1 : Int) : Option (Int × Int) := (s_GaussNumber p0 p1).run some
noncomputable def s_GaussNumber_V : Env := ⟨tau, [(40, s_l00In_c), (133, (s_l02Gauss_c s_l02Gauss_F))], []⟩
noncomputable def s_GaussNumber_b : Code := (Try.f82.body).getD .skip
noncomputable def s_GaussNumber_I : FnI := ⟨s_GaussNumber_b, Try.f82.results.toList, Try.f82.resultTypes.toList, []⟩
noncomputable def s_GaussNumber_out (_p0 : Int) (_p1 : Int) : (Int × Int) → CallOut := fun r => ⟨(.tcons (.imm true (.int .i64) r.1) (.tcons (.imm true (.int .i64) r.2) .tnil)), [], []⟩
set_option maxRecDepth 100000 in
theorem s_GaussNumber_eq : ∀ (p0 : Int) (p1 : Int), denFn s_GaussNumber_V s_GaussNumber_I ⟨[(.imm true (.int .i64) p0), (.imm true (.int .i64) p1)], []⟩ = (s_GaussNumber p0 p1).run fun r => some (s_GaussNumber_out p0 p1 r) := fun _ _ => by kernel_rfl
noncomputable def s_GaussNumber_G (av : List AV) (rs : List Root) : Tre CallOut :=
 asCons av fun a0_ av0 =>
 asCons av0 fun a1_ av1 =>
 asEnd av1 <|
 asEnd rs <|
 asImmZ true (.int .i64) a0_ fun d1 =>
 asImmZ true (.int .i64) a1_ fun d2 =>
 .mat (s_GaussNumber_F d1 d2) fun r => .ret (s_GaussNumber_out d1 d2 r)
noncomputable def s_GaussNumber_c : Ctr := ⟨[], fun ci => s_GaussNumber_G ci.args ci.roots, false⟩
theorem s_GaussNumber_env : EnvOK Try.prog .none s_GaussNumber_V := (envOK_cons s_l00In_ok ent40 (envOK_cons s_l02Gauss_ok ent133 envOK_nil))
set_option maxRecDepth 100000 in
theorem s_GaussNumber_ok : Contract Try.prog .none 82 s_GaussNumber_c := by
 have hl : LoopsOK s_GaussNumber_V [] s_GaussNumber_b := loopsOK_nil (by kernel_rfl)
 refine (contract_of (F := s_GaussNumber_I) tau_tys s_GaussNumber_env Try.func82 (by kernel_rfl) (by kernel_rfl) (by kernel_rfl) hl []).weaken ?_
 rintro ⟨av, rs⟩ co h
 have h : (s_GaussNumber_G av rs).run some = some co := h
 obtain ⟨a0_, av0, rfl, h_0⟩ := asCons_spec h
 obtain ⟨a1_, av1, rfl, h_1⟩ := asCons_spec h_0
 obtain ⟨rfl, h_2⟩ := asEnd_spec h_1
 obtain ⟨rfl, h_3⟩ := asEnd_spec h_2
 obtain ⟨d1, rfl, h_4⟩ := asImmZ_spec h_3
 obtain ⟨d2, rfl, h_5⟩ := asImmZ_spec h_4
 exact fin_mat (s_GaussNumber_eq d1 d2) h_5
end Go.Proofs.Ythnkanacjhlhhaa

namespace Go.Proofs.Ythnkanacjhlhhaa
open Go Go.Abs Go.Proofs
noncomputable def s_l02Bit (p0 : Int) (p1 : Int) : Tre Int :=
 .ite (0 ≤ iwrap .u64 p1) <|
 let v1 := ishr .i64 p0 (iwrap .u64 p1)
 .ret (iand .i64 v1 1)
noncomputable def s_l02Bit_F (p0 : Int) (p1 : Int) : Option Int := (s_l02Bit p0 p1).run some
def bitR (x j : Int) : Option Int := askO (inR j 0 9223372036854775807) (iand .i64 (ishr .i64 x j) 1)
theorem s_l02Bit_spec (p0 p1 : Int) (y : Int) (h : bitR p0 p1 = some y) : s_l02Bit_F p0 p1 = some y := by
 obtain ⟨hl, rfl⟩ := askO_some h
 rw [inR_iff] at hl
 unfold s_l02Bit_F s_l02Bit
 rw [iwrap_u64 hl.1 (by omega), Tre.run_ite, if_pos hl.1]
 rfl
noncomputable def s_l02Bit_V : Env := ⟨tau, [], []⟩
noncomputable def s_l02Bit_b : Code := (Try.f106.body).getD .skip
noncomputable def s_l02Bit_I : FnI := ⟨s_l02Bit_b, Try.f106.results.toList, Try.f106.resultTypes.toList, []⟩
noncomputable def s_l02Bit_out (_p0 : Int) (_p1 : Int) : Int → CallOut := fun r => ⟨(.imm true (.int .i64) r), [], []⟩
set_option maxRecDepth 100000 in
theorem s_l02Bit_eq : ∀ (p0 : Int) (p1 : Int), denFn s_l02Bit_V s_l02Bit_I ⟨[(.imm true (.int .i64) p0), (.imm true (.int .i64) p1)], []⟩ = (s_l02Bit p0 p1).run fun r => some (s_l02Bit_out p0 p1 r) := fun _ _ => by kernel_rfl
noncomputable def s_l02Bit_G (av : List AV) (rs : List Root) : Tre CallOut :=
 asCons av fun a0_ av0 =>
 asCons av0 fun a1_ av1 =>
 asEnd av1 <|
 asEnd rs <|
 asImmZ true (.int .i64) a0_ fun d1 =>
 asImmZ true (.int .i64) a1_ fun d2 =>
 .mat (bitR d1 d2) fun r => .ret (s_l02Bit_out d1 d2 r)
noncomputable def s_l02Bit_c : Ctr := ⟨[], fun ci => s_l02Bit_G ci.args ci.roots, false⟩
theorem s_l02Bit_env : EnvOK Try.prog .none s_l02Bit_V := envOK_nil
set_option maxRecDepth 100000 in
theorem s_l02Bit_ok : Contract Try.prog .none 106 s_l02Bit_c := by
 have hl : LoopsOK s_l02Bit_V [] s_l02Bit_b := loopsOK_nil (by kernel_rfl)
 refine (contract_of (F := s_l02Bit_I) tau_tys s_l02Bit_env Try.func106 (by kernel_rfl) (by kernel_rfl) (by kernel_rfl) hl []).weaken ?_
 rintro ⟨av, rs⟩ co h
 have h : (s_l02Bit_G av rs).run some = some co := h
 obtain ⟨a0_, av0, rfl, h_0⟩ := asCons_spec h
 obtain ⟨a1_, av1, rfl, h_1⟩ := asCons_spec h_0
 obtain ⟨rfl, h_2⟩ := asEnd_spec h_1
 obtain ⟨rfl, h_3⟩ := asEnd_spec h_2
 obtain ⟨d1, rfl, h_4⟩ := asImmZ_spec h_3
 obtain ⟨d2, rfl, h_5⟩ := asImmZ_spec h_4
 exact fin_opt (s_l02Bit_eq d1 d2) (s_l02Bit_spec d1 d2) h_5
end Go.Proofs.Ythnkanacjhlhhaa

namespace Go.Proofs.Ythnkanacjhlhhaa
open Go Go.Abs Go.Proofs
noncomputable def s_l02Lead_l2 (h2_0_0 : Int) : Int → Tre (Int ⊕ Int) := fun s2 =>
 .mat (bitR h2_0_0 s2) fun r1 =>
 .cond (decide (r1 = 0))
  (.ret (.inl (iwrap .i64 (s2 + 1))))
  (.ret (.inr s2))
noncomputable def s_l02Lead (p0 : Int) : Tre Int :=
 .mat (loopF (s_l02Lead_l2 p0) 0) fun l2 =>
 .ret l2
noncomputable def s_l02Lead_F (p0 : Int) : Option Int := (s_l02Lead p0).run some
noncomputable def s_l02Lead_V : Env := ⟨tau, [(106, s_l02Bit_c)], []⟩
noncomputable def s_l02Lead_b : Code := (Try.f134.body).getD .skip
noncomputable def s_l02Lead_l2_mk (h2_0_0 : Int) : Int → St := fun x => stOf [(0, (.imm true (.int .i64) h2_0_0)), (3, (.imm true (.int .i64) x))] []
noncomputable def s_l02Lead_l2_out (_h2_0_0 : Int) : Int → Ex × St := fun x => (.exit 0, stOf [(3, (.imm true (.int .i64) x))] [])
noncomputable def s_l02Lead_l2_D (s : St) : Tre (Ex × St) :=
 asImmZ true (.int .i64) (s.tmps 0) fun d2 =>
 asImmZ true (.int .i64) (s.tmps 3) fun d4 =>
 .mat (loopF (s_l02Lead_l2 d2) d4) fun x => .ret (s_l02Lead_l2_out d2 x)
noncomputable def s_l02Lead_l2_L : LoopI := ⟨([0, 3], []), ([3], []), s_l02Lead_l2_D⟩
noncomputable def s_l02Lead_A : List (Nat × LoopI) := [(2, s_l02Lead_l2_L)]
set_option maxRecDepth 100000 in
theorem s_l02Lead_l2_step : ∀ (h2_0_0 : Int) (x : Int) (c : St → Option (Ex × St)), den s_l02Lead_V s_l02Lead_A (loopAt s_l02Lead_b 0) (s_l02Lead_l2_mk h2_0_0 x) (roundK s_l02Lead_l2_L.kp s_l02Lead_l2_L.kx c) = (s_l02Lead_l2 h2_0_0 x).run (roundR (s_l02Lead_l2_mk h2_0_0) (s_l02Lead_l2_out h2_0_0) c) := fun _ _ _ => by
 kernel_rfl
theorem s_l02Lead_l2_ok : LoopOK s_l02Lead_V s_l02Lead_A (loopAt s_l02Lead_b 0) s_l02Lead_l2_L := loopOK_of fun s e s' h => by
 generalize hs : restrict s_l02Lead_l2_L.kp s = s1 at h
 have h : (s_l02Lead_l2_D s1).run some = some (e, s') := h
 obtain ⟨d2, e1, h_0⟩ := asImmZ_spec h
 obtain ⟨d4, e3, h_1⟩ := asImmZ_spec h_0
 obtain ⟨y, hy, hz⟩ := mat_ret h_1
 refine ⟨_, _, s_l02Lead_l2_mk d2, s_l02Lead_l2_out d2, s_l02Lead_l2 d2, d4, y, ?_, hy, ?_, s_l02Lead_l2_step d2⟩
 ·subst hs; exact restrict_eq (T := [(0, (.imm true (.int .i64) d2)), (3, (.imm true (.int .i64) d4))]) (U := []) rfl rfl ⟨e1, e3, trivial⟩ trivial
 ·exact Option.some.inj hz
noncomputable def s_l02Lead_I : FnI := ⟨s_l02Lead_b, Try.f134.results.toList, Try.f134.resultTypes.toList, s_l02Lead_A⟩
noncomputable def s_l02Lead_out (_p0 : Int) : Int → CallOut := fun r => ⟨(.imm true (.int .i64) r), [], []⟩
set_option maxRecDepth 100000 in
theorem s_l02Lead_eq : ∀ (p0 : Int), denFn s_l02Lead_V s_l02Lead_I ⟨[(.imm true (.int .i64) p0)], []⟩ = (s_l02Lead p0).run fun r => some (s_l02Lead_out p0 r) := fun _ => by kernel_rfl
noncomputable def s_l02Lead_G (av : List AV) (rs : List Root) : Tre CallOut :=
 asCons av fun a0_ av0 =>
 asEnd av0 <|
 asEnd rs <|
 asImmZ true (.int .i64) a0_ fun d1 =>
 .mat (s_l02Lead_F d1) fun r => .ret (s_l02Lead_out d1 r)
noncomputable def s_l02Lead_c : Ctr := ⟨[], fun ci => s_l02Lead_G ci.args ci.roots, false⟩
theorem s_l02Lead_env : EnvOK Try.prog .none s_l02Lead_V := (envOK_cons s_l02Bit_ok ent106 envOK_nil)
set_option maxRecDepth 100000 in
theorem s_l02Lead_ok : Contract Try.prog .none 134 s_l02Lead_c := by
 have hl : LoopsOK s_l02Lead_V s_l02Lead_A s_l02Lead_b := (loopsOK_all (n := 1) (by kernel_rfl) fun k hk => by
   match k, hk with
   | 0, _ => exact loopOK_at (id := 2) (L := s_l02Lead_l2_L) (by kernel_rfl) (by kernel_rfl) s_l02Lead_l2_ok)
 refine (contract_of (F := s_l02Lead_I) tau_tys s_l02Lead_env Try.func134 (by kernel_rfl) (by kernel_rfl) (by kernel_rfl) hl []).weaken ?_
 rintro ⟨av, rs⟩ co h
 have h : (s_l02Lead_G av rs).run some = some co := h
 obtain ⟨a0_, av0, rfl, h_0⟩ := asCons_spec h
 obtain ⟨rfl, h_1⟩ := asEnd_spec h_0
 obtain ⟨rfl, h_2⟩ := asEnd_spec h_1
 obtain ⟨d1, rfl, h_3⟩ := asImmZ_spec h_2
 exact fin_mat (s_l02Lead_eq d1) h_3
end Go.Proofs.Ythnkanacjhlhhaa

namespace Go.Proofs.Ythnkanacjhlhhaa
open Go Go.Abs Go.Proofs
noncomputable def s_l00Own (p0 : (List Int)) : Tre (List Int) :=
 .ite ((0 + p0.length) * 8 ≤ appendMax ∧ 1 ≤ 8) <|
 .ret ([] ++ p0)
noncomputable def s_l00Own_F (p0 : (List Int)) : Option (List Int) := (s_l00Own p0).run some
theorem s_l00Own_spec (p0 : List Int) (y : List Int) (h : cloneR p0 = some y) : s_l00Own_F p0 = some y := by
 obtain ⟨hl, rfl⟩ := lim_some h
 have hb : (0 + p0.length) * 8 ≤ appendMax ∧ 1 ≤ 8 := by unfold appendMax; omega
 unfold s_l00Own_F s_l00Own
 rw [Tre.run_ite, if_pos hb]
 rfl
noncomputable def s_l00Own_V : Env := ⟨tau, [], []⟩
noncomputable def s_l00Own_b : Code := (Try.f105.body).getD .skip
noncomputable def s_l00Own_I : FnI := ⟨s_l00Own_b, Try.f105.results.toList, Try.f105.resultTypes.toList, []⟩
noncomputable def s_l00Own_out (_zp0 : Bool) (_p0 : (List Int)) : (List Int) → CallOut := fun r => ⟨(.ref (1, 0) []), [], [⟨false, (.sl (.int .i64)), .own, r⟩]⟩
set_option maxRecDepth 100000 in
theorem s_l00Own_eq : ∀ (zp0 : Bool) (p0 : (List Int)), denFn s_l00Own_V s_l00Own_I ⟨[(.imm zp0 (.sl (.int .i64)) p0)], []⟩ = (s_l00Own p0).run fun r => some (s_l00Own_out zp0 p0 r) := fun _ _ => by kernel_rfl
noncomputable def s_l00Own_G (av : List AV) (rs : List Root) : Tre CallOut :=
 asCons av fun a0_ av0 =>
 asEnd av0 <|
 asEnd rs <|
 asImm (.sl (.int .i64)) a0_ fun z2 d1 =>
 .mat (cloneR d1) fun r => .ret (s_l00Own_out z2 d1 r)
noncomputable def s_l00Own_c : Ctr := ⟨[], fun ci => s_l00Own_G ci.args ci.roots, false⟩
theorem s_l00Own_env : EnvOK Try.prog .none s_l00Own_V := envOK_nil
set_option maxRecDepth 100000 in
theorem s_l00Own_ok : Contract Try.prog .none 105 s_l00Own_c := by
 have hl : LoopsOK s_l00Own_V [] s_l00Own_b := loopsOK_nil (by kernel_rfl)
 refine (contract_of (F := s_l00Own_I) tau_tys s_l00Own_env Try.func105 (by kernel_rfl) (by kernel_rfl) (by kernel_rfl) hl []).weaken ?_
 rintro ⟨av, rs⟩ co h
 have h : (s_l00Own_G av rs).run some = some co := h
 obtain ⟨a0_, av0, rfl, h_0⟩ := asCons_spec h
 obtain ⟨rfl, h_1⟩ := asEnd_spec h_0
 obtain ⟨rfl, h_2⟩ := asEnd_spec h_1
 obtain ⟨z2, d1, rfl, h_3⟩ := asImm_spec h_2
 exact fin_opt (s_l00Own_eq z2 d1) (s_l00Own_spec d1) h_3
end Go.Proofs.Ythnkanacjhlhhaa

namespace Go.Proofs.Ythnkanacjhlhhaa
open Go Go.Abs Go.Proofs
noncomputable def s_l02Forced_l4 (h4_0_1 : (List Int)) : (Int × Int × Int) → Tre ((Int × Int × Int) ⊕ (Int × Int)) := fun s4 =>
 .cond (decide (s4.2.2 < (h4_0_1.length : Int)))
  (.ite (0 ≤ s4.2.2 ∧ s4.2.2 < (h4_0_1.length : Int)) <|
  .mat (h4_0_1[s4.2.2.toNat]?) fun x1 =>
  .mat (s_l02Lead_F x1) fun r2 =>
  .ite (0 ≤ iwrap .u64 r2) <|
  let v3 := ishl .i64 1 (iwrap .u64 r2)
  .ite (0 ≤ s4.2.2 ∧ s4.2.2 < (h4_0_1.length : Int)) <|
  .mat (h4_0_1[s4.2.2.toNat]?) fun x4 =>
  .ret (.inl (ior .i64 s4.1 v3, ior .i64 s4.2.1 x4, iwrap .i64 (s4.2.2 + 1))))
  (.ret (.inr (s4.1, s4.2.1)))
noncomputable def s_l02Forced_l11 (h11_0_0 : Int) (h11_0_1 : Int) (h11_0_2 : Int) (h11_0_3 : Int) : (Int × Int) → Tre ((Int × Int) ⊕ Int) := fun s11 =>
 .cond (decide (s11.2 < h11_0_0))
  (.mat (bitR h11_0_1 s11.2) fun r9 =>
  .cond (decide (r9 = 0))
   (.cond (decide (s11.2 < h11_0_3))
    (.ret (.inl (iwrap .i64 (s11.1 + 1), iwrap .i64 (s11.2 + 1))))
    (.mat (bitR h11_0_2 s11.2) fun r10 =>
    .cond (decide (r10 = 1))
     (.ret (.inl (iwrap .i64 (s11.1 + 1), iwrap .i64 (s11.2 + 1))))
     (.ret (.inl (s11.1, iwrap .i64 (s11.2 + 1))))))
   (.ret (.inl (s11.1, iwrap .i64 (s11.2 + 1)))))
  (.ret (.inr s11.1))
noncomputable def s_l02Forced (p0 : Int) (p1 : (List Int)) : Tre Int :=
 .mat (loopF (s_l02Forced_l4 p1) (0, 0, 0)) fun l5 =>
 let v6 := iwrap .i64 ((p1.length : Int) - 1)
 .ite (0 ≤ v6 ∧ v6 < (p1.length : Int)) <|
 .mat (p1[v6.toNat]?) fun x7 =>
 .mat (s_l02Lead_F x7) fun r8 =>
 .mat (loopF (s_l02Forced_l11 p0 l5.1 l5.2 r8) (0, 0)) fun l11 =>
 .ret l11
noncomputable def s_l02Forced_F (p0 : Int) (p1 : (List Int)) : Option Int := (s_l02Forced p0 p1).run some
noncomputable def s_l02Forced_V : Env := ⟨tau, [(134, s_l02Lead_c), (106, s_l02Bit_c)], []⟩
noncomputable def s_l02Forced_b : Code := (Try.f135.body).getD .skip
noncomputable def s_l02Forced_l4_mk (z4_0 : Bool) (h4_0_0 : Int) (h4_0_1 : (List Int)) : (Int × Int × Int) → St := fun x => stOf [(0, (.imm true (.int .i64) h4_0_0)), (1, (.imm z4_0 (.sl (.int .i64)) h4_0_1)), (5, (.imm true (.int .i64) x.1)), (6, (.imm true (.int .i64) x.2.1)), (7, (.imm true (.int .i64) x.2.2))] []
noncomputable def s_l02Forced_l4_out (z4_0 : Bool) (h4_0_0 : Int) (h4_0_1 : (List Int)) : (Int × Int) → Ex × St := fun x => (.exit 0, stOf [(0, (.imm true (.int .i64) h4_0_0)), (1, (.imm z4_0 (.sl (.int .i64)) h4_0_1)), (5, (.imm true (.int .i64) x.1)), (6, (.imm true (.int .i64) x.2))] [])
noncomputable def s_l02Forced_l4_D (s : St) : Tre (Ex × St) :=
 asImmZ true (.int .i64) (s.tmps 0) fun d2 =>
 asImm (.sl (.int .i64)) (s.tmps 1) fun z5 d4 =>
 asImmZ true (.int .i64) (s.tmps 5) fun d7 =>
 asImmZ true (.int .i64) (s.tmps 6) fun d9 =>
 asImmZ true (.int .i64) (s.tmps 7) fun d11 =>
 .mat (loopF (s_l02Forced_l4 d4) (d7, d9, d11)) fun x => .ret (s_l02Forced_l4_out z5 d2 d4 x)
noncomputable def s_l02Forced_l4_L : LoopI := ⟨([0, 1, 5, 6, 7], []), ([0, 1, 5, 6], []), s_l02Forced_l4_D⟩
noncomputable def s_l02Forced_l11_mk (h11_0_0 : Int) (h11_0_1 : Int) (h11_0_2 : Int) (h11_0_3 : Int) : (Int × Int) → St := fun x => stOf [(0, (.imm true (.int .i64) h11_0_0)), (5, (.imm true (.int .i64) h11_0_1)), (6, (.imm true (.int .i64) h11_0_2)), (8, (.imm true (.int .i64) h11_0_3)), (9, (.imm true (.int .i64) x.1)), (10, (.imm true (.int .i64) x.2))] []
noncomputable def s_l02Forced_l11_out (_h11_0_0 : Int) (_h11_0_1 : Int) (_h11_0_2 : Int) (_h11_0_3 : Int) : Int → Ex × St := fun x => (.exit 2, stOf [(9, (.imm true (.int .i64) x))] [])
noncomputable def s_l02Forced_l11_D (s : St) : Tre (Ex × St) :=
 asImmZ true (.int .i64) (s.tmps 0) fun d2 =>
 asImmZ true (.int .i64) (s.tmps 5) fun d4 =>
 asImmZ true (.int .i64) (s.tmps 6) fun d6 =>
 asImmZ true (.int .i64) (s.tmps 8) fun d8 =>
 asImmZ true (.int .i64) (s.tmps 9) fun d10 =>
 asImmZ true (.int .i64) (s.tmps 10) fun d12 =>
 .mat (loopF (s_l02Forced_l11 d2 d4 d6 d8) (d10, d12)) fun x => .ret (s_l02Forced_l11_out d2 d4 d6 d8 x)
noncomputable def s_l02Forced_l11_L : LoopI := ⟨([0, 5, 6, 8, 9, 10], []), ([9], []), s_l02Forced_l11_D⟩
noncomputable def s_l02Forced_A : List (Nat × LoopI) := [(4, s_l02Forced_l4_L), (11, s_l02Forced_l11_L)]
set_option maxRecDepth 100000 in
theorem s_l02Forced_l4_step : ∀ (z4_0 : Bool) (h4_0_0 : Int) (h4_0_1 : (List Int)) (x : (Int × Int × Int)) (c : St → Option (Ex × St)), den s_l02Forced_V s_l02Forced_A (loopAt s_l02Forced_b 0) (s_l02Forced_l4_mk z4_0 h4_0_0 h4_0_1 x) (roundK s_l02Forced_l4_L.kp s_l02Forced_l4_L.kx c) = (s_l02Forced_l4 h4_0_1 x).run (roundR (s_l02Forced_l4_mk z4_0 h4_0_0 h4_0_1) (s_l02Forced_l4_out z4_0 h4_0_0 h4_0_1) c) := fun _ _ _ _ _ => by
 kernel_rfl
theorem s_l02Forced_l4_ok : LoopOK s_l02Forced_V s_l02Forced_A (loopAt s_l02Forced_b 0) s_l02Forced_l4_L := loopOK_of fun s e s' h => by
 generalize hs : restrict s_l02Forced_l4_L.kp s = s1 at h
 have h : (s_l02Forced_l4_D s1).run some = some (e, s') := h
 obtain ⟨d2, e1, h_0⟩ := asImmZ_spec h
 obtain ⟨z5, d4, e3, h_1⟩ := asImm_spec h_0
 obtain ⟨d7, e6, h_2⟩ := asImmZ_spec h_1
 obtain ⟨d9, e8, h_3⟩ := asImmZ_spec h_2
 obtain ⟨d11, e10, h_4⟩ := asImmZ_spec h_3
 obtain ⟨y, hy, hz⟩ := mat_ret h_4
 refine ⟨_, _, s_l02Forced_l4_mk z5 d2 d4, s_l02Forced_l4_out z5 d2 d4, s_l02Forced_l4 d4, (d7, d9, d11), y, ?_, hy, ?_, s_l02Forced_l4_step z5 d2 d4⟩
 ·subst hs; exact restrict_eq (T := [(0, (.imm true (.int .i64) d2)), (1, (.imm z5 (.sl (.int .i64)) d4)), (5, (.imm true (.int .i64) d7)), (6, (.imm true (.int .i64) d9)), (7, (.imm true (.int .i64) d11))]) (U := []) rfl rfl ⟨e1, e3, e6, e8, e10, trivial⟩ trivial
 ·exact Option.some.inj hz
set_option maxRecDepth 100000 in
theorem s_l02Forced_l11_step : ∀ (h11_0_0 : Int) (h11_0_1 : Int) (h11_0_2 : Int) (h11_0_3 : Int) (x : (Int × Int)) (c : St → Option (Ex × St)), den s_l02Forced_V s_l02Forced_A (loopAt s_l02Forced_b 1) (s_l02Forced_l11_mk h11_0_0 h11_0_1 h11_0_2 h11_0_3 x) (roundK s_l02Forced_l11_L.kp s_l02Forced_l11_L.kx c) = (s_l02Forced_l11 h11_0_0 h11_0_1 h11_0_2 h11_0_3 x).run (roundR (s_l02Forced_l11_mk h11_0_0 h11_0_1 h11_0_2 h11_0_3) (s_l02Forced_l11_out h11_0_0 h11_0_1 h11_0_2 h11_0_3) c) := fun _ _ _ _ _ _ => by
 kernel_rfl
theorem s_l02Forced_l11_ok : LoopOK s_l02Forced_V s_l02Forced_A (loopAt s_l02Forced_b 1) s_l02Forced_l11_L := loopOK_of fun s e s' h => by
 generalize hs : restrict s_l02Forced_l11_L.kp s = s1 at h
 have h : (s_l02Forced_l11_D s1).run some = some (e, s') := h
 obtain ⟨d2, e1, h_0⟩ := asImmZ_spec h
 obtain ⟨d4, e3, h_1⟩ := asImmZ_spec h_0
 obtain ⟨d6, e5, h_2⟩ := asImmZ_spec h_1
 obtain ⟨d8, e7, h_3⟩ := asImmZ_spec h_2
 obtain ⟨d10, e9, h_4⟩ := asImmZ_spec h_3
 obtain ⟨d12, e11, h_5⟩ := asImmZ_spec h_4
 obtain ⟨y, hy, hz⟩ := mat_ret h_5
 refine ⟨_, _, s_l02Forced_l11_mk d2 d4 d6 d8, s_l02Forced_l11_out d2 d4 d6 d8, s_l02Forced_l11 d2 d4 d6 d8, (d10, d12), y, ?_, hy, ?_, s_l02Forced_l11_step d2 d4 d6 d8⟩
 ·subst hs; exact restrict_eq (T := [(0, (.imm true (.int .i64) d2)), (5, (.imm true (.int .i64) d4)), (6, (.imm true (.int .i64) d6)), (8, (.imm true (.int .i64) d8)), (9, (.imm true (.int .i64) d10)), (10, (.imm true (.int .i64) d12))]) (U := []) rfl rfl ⟨e1, e3, e5, e7, e9, e11, trivial⟩ trivial
 ·exact Option.some.inj hz
noncomputable def s_l02Forced_I : FnI := ⟨s_l02Forced_b, Try.f135.results.toList, Try.f135.resultTypes.toList, s_l02Forced_A⟩
noncomputable def s_l02Forced_out (_zp0 : Bool) (_p0 : Int) (_p1 : (List Int)) : Int → CallOut := fun r => ⟨(.imm true (.int .i64) r), [], []⟩
set_option maxRecDepth 100000 in
theorem s_l02Forced_eq : ∀ (zp0 : Bool) (p0 : Int) (p1 : (List Int)), denFn s_l02Forced_V s_l02Forced_I ⟨[(.imm true (.int .i64) p0), (.imm zp0 (.sl (.int .i64)) p1)], []⟩ = (s_l02Forced p0 p1).run fun r => some (s_l02Forced_out zp0 p0 p1 r) := fun _ _ _ => by kernel_rfl
noncomputable def s_l02Forced_G (av : List AV) (rs : List Root) : Tre CallOut :=
 asCons av fun a0_ av0 =>
 asCons av0 fun a1_ av1 =>
 asEnd av1 <|
 asEnd rs <|
 asImmZ true (.int .i64) a0_ fun d1 =>
 asImm (.sl (.int .i64)) a1_ fun z3 d2 =>
 .mat (s_l02Forced_F d1 d2) fun r => .ret (s_l02Forced_out z3 d1 d2 r)
noncomputable def s_l02Forced_c : Ctr := ⟨[], fun ci => s_l02Forced_G ci.args ci.roots, false⟩
theorem s_l02Forced_env : EnvOK Try.prog .none s_l02Forced_V := (envOK_cons s_l02Lead_ok ent134 (envOK_cons s_l02Bit_ok ent106 envOK_nil))
set_option maxRecDepth 100000 in
theorem s_l02Forced_ok : Contract Try.prog .none 135 s_l02Forced_c := by
 have hl : LoopsOK s_l02Forced_V s_l02Forced_A s_l02Forced_b := (loopsOK_all (n := 2) (by kernel_rfl) fun k hk => by
   match k, hk with
   | 0, _ => exact loopOK_at (id := 4) (L := s_l02Forced_l4_L) (by kernel_rfl) (by kernel_rfl) s_l02Forced_l4_ok
   | 1, _ => exact loopOK_at (id := 11) (L := s_l02Forced_l11_L) (by kernel_rfl) (by kernel_rfl) s_l02Forced_l11_ok)
 refine (contract_of (F := s_l02Forced_I) tau_tys s_l02Forced_env Try.func135 (by kernel_rfl) (by kernel_rfl) (by kernel_rfl) hl []).weaken ?_
 rintro ⟨av, rs⟩ co h
 have h : (s_l02Forced_G av rs).run some = some co := h
 obtain ⟨a0_, av0, rfl, h_0⟩ := asCons_spec h
 obtain ⟨a1_, av1, rfl, h_1⟩ := asCons_spec h_0
 obtain ⟨rfl, h_2⟩ := asEnd_spec h_1
 obtain ⟨rfl, h_3⟩ := asEnd_spec h_2
 obtain ⟨d1, rfl, h_4⟩ := asImmZ_spec h_3
 obtain ⟨z3, d2, rfl, h_5⟩ := asImm_spec h_4
 exact fin_mat (s_l02Forced_eq z3 d1 d2) h_5
end Go.Proofs.Ythnkanacjhlhhaa

namespace Go.Proofs.Ythnkanacjhlhhaa
open Go Go.Abs Go.Proofs
noncomputable def s_l02Echelon_l8 (h8_0_1 : Int) (h8_0_4 : (List Int)) : (Int × Int) → Tre ((Int × Int) ⊕ Int) := fun s8 =>
 .cond (decide (s8.2 < (h8_0_4.length : Int)))
  (.cond (decide (s8.1 < 0))
   (.ite (0 ≤ s8.2 ∧ s8.2 < (h8_0_4.length : Int)) <|
   .mat (h8_0_4[s8.2.toNat]?) fun x2 =>
   .mat (bitR x2 h8_0_1) fun r3 =>
   .cond (decide (r3 = 1))
    (.ret (.inl (s8.2, iwrap .i64 (s8.2 + 1))))
    (.ret (.inl (s8.1, iwrap .i64 (s8.2 + 1)))))
   (.ret (.inr s8.1)))
  (.ret (.inr s8.1))
noncomputable def s_l02Echelon_l16 (h16_0_1 : Int) (h16_0_2 : Int) : (Int × (List Int)) → Tre ((Int × (List Int)) ⊕ (List Int)) := fun s16 =>
 .cond (decide (s16.1 < (s16.2.length : Int)))
  (.ite (0 ≤ s16.1 ∧ s16.1 < (s16.2.length : Int)) <|
  .mat (s16.2[s16.1.toNat]?) fun x7 =>
  .mat (bitR x7 h16_0_1) fun r8 =>
  .cond (decide (r8 = 1))
   (.ite (0 ≤ s16.1 ∧ s16.1 < (s16.2.length : Int)) <|
   .mat (s16.2[s16.1.toNat]?) fun x9 =>
   .ite (0 ≤ s16.1 ∧ s16.1 < (s16.2.length : Int)) <|
   .mat (s16.2[s16.1.toNat]?) fun _ =>
   let v11 := s16.2.set s16.1.toNat (ixor .i64 x9 h16_0_2)
   .ret (.inl (iwrap .i64 (s16.1 + 1), v11)))
   (.ret (.inl (iwrap .i64 (s16.1 + 1), s16.2))))
  (.ret (.inr s16.2))
noncomputable def s_l02Echelon_l21 (h21_0_1 : Int) (h21_0_2 : Int) : (Int × (List Int)) → Tre ((Int × (List Int)) ⊕ (List Int)) := fun s21 =>
 .cond (decide (s21.1 < (s21.2.length : Int)))
  (.ite (0 ≤ s21.1 ∧ s21.1 < (s21.2.length : Int)) <|
  .mat (s21.2[s21.1.toNat]?) fun x13 =>
  .mat (bitR x13 h21_0_1) fun r14 =>
  .cond (decide (r14 = 1))
   (.ite (0 ≤ s21.1 ∧ s21.1 < (s21.2.length : Int)) <|
   .mat (s21.2[s21.1.toNat]?) fun x15 =>
   .ite (0 ≤ s21.1 ∧ s21.1 < (s21.2.length : Int)) <|
   .mat (s21.2[s21.1.toNat]?) fun _ =>
   let v17 := s21.2.set s21.1.toNat (ixor .i64 x15 h21_0_2)
   .ret (.inl (iwrap .i64 (s21.1 + 1), v17)))
   (.ret (.inl (iwrap .i64 (s21.1 + 1), s21.2))))
  (.ret (.inr s21.2))
noncomputable def s_l02Echelon_l4 (h4_0_0 : Int) : (Int × (List Int) × (List Int)) → Tre ((Int × (List Int) × (List Int)) ⊕ (List Int)) := fun s4 =>
 .cond (decide (s4.1 < h4_0_0))
  (.mat (loopF (s_l02Echelon_l8 s4.1 s4.2.1) (-1, 0)) fun l4 =>
  .cond (decide (l4 < 0))
   (.ret (.inl (iwrap .i64 (s4.1 + 1), s4.2.1, s4.2.2)))
   (.ite (0 ≤ l4 ∧ l4 < (s4.2.1.length : Int)) <|
   .mat (s4.2.1[l4.toNat]?) fun x5 =>
   .ite (0 ≤ l4 ∧ l4 < (s4.2.1.length : Int)) <|
   .mat (s4.2.1[l4.toNat]?) fun _ =>
   .mat (loopF (s_l02Echelon_l16 s4.1 x5) (0, s4.2.1.set l4.toNat 0)) fun l12 =>
   .mat (loopF (s_l02Echelon_l21 s4.1 x5) (0, s4.2.2)) fun l18 =>
   .ite ((l18.length + 1) * 8 ≤ appendMax ∧ 1 ≤ 8) <|
   .ret (.inl (iwrap .i64 (s4.1 + 1), l12, l18 ++ ([x5])))))
  (.ret (.inr s4.2.2))
noncomputable def s_l02Echelon (p0 : Int) (p1 : (List Int)) : Tre (List Int) :=
 .mat (cloneR p1) fun r1 =>
 .mat (loopF (s_l02Echelon_l4 p0) (0, r1, [])) fun l19 =>
 .ret l19
noncomputable def s_l02Echelon_F (p0 : Int) (p1 : (List Int)) : Option (List Int) := (s_l02Echelon p0 p1).run some
-- more
noncomputable def s_l02Echelon_V : Env := ⟨tau, [(105, s_l00Own_c), (106, s_l02Bit_c)], []⟩
noncomputable def s_l02Echelon_b : Code := (Try.f56.body).getD .skip
noncomputable def s_l02Echelon_l8_mk (h8_0_0 : Int) (h8_0_1 : Int) (h8_0_4 : (List Int)) (h8_0_5 : (List Int)) : (Int × Int) → St := fun x => stOf [(0, (.imm true (.int .i64) h8_0_0)), (5, (.ref (7, 0) [])), (6, (.ref (8, 0) [])), (7, (.imm true (.int .i64) h8_0_1)), (8, (.imm true (.int .i64) x.1)), (9, (.imm true (.int .i64) x.2))] [((7, 0), some ⟨false, (.sl (.int .i64)), .own, h8_0_4⟩), ((8, 0), some ⟨false, (.sl (.int .i64)), .own, h8_0_5⟩)]
noncomputable def s_l02Echelon_l8_out (h8_0_0 : Int) (h8_0_1 : Int) (h8_0_4 : (List Int)) (h8_0_5 : (List Int)) : Int → Ex × St := fun x => (.exit 2, stOf [(0, (.imm true (.int .i64) h8_0_0)), (5, (.ref (7, 0) [])), (6, (.ref (8, 0) [])), (7, (.imm true (.int .i64) h8_0_1)), (8, (.imm true (.int .i64) x))] [((7, 0), some ⟨false, (.sl (.int .i64)), .own, h8_0_4⟩), ((8, 0), some ⟨false, (.sl (.int .i64)), .own, h8_0_5⟩)])
noncomputable def s_l02Echelon_l8_D (s : St) : Tre (Ex × St) :=
 asImmZ true (.int .i64) (s.tmps 0) fun d2 =>
 asRef (7, 0) [] (s.tmps 5) <|
 asRef (8, 0) [] (s.tmps 6) <|
 asImmZ true (.int .i64) (s.tmps 7) fun d6 =>
 asImmZ true (.int .i64) (s.tmps 8) fun d8 =>
 asImmZ true (.int .i64) (s.tmps 9) fun d10 =>
 asRoot false (.sl (.int .i64)) (s.roots (7, 0)) fun m12 d13 =>
 asM .own m12 <|
 asRoot false (.sl (.int .i64)) (s.roots (8, 0)) fun m15 d16 =>
 asM .own m15 <|
 .mat (loopF (s_l02Echelon_l8 d6 d13) (d8, d10)) fun x => .ret (s_l02Echelon_l8_out d2 d6 d13 d16 x)
noncomputable def s_l02Echelon_l8_L : LoopI := ⟨([0, 5, 6, 7, 8, 9], [(7, 0), (8, 0)]), ([0, 5, 6, 7, 8], [(7, 0), (8, 0)]), s_l02Echelon_l8_D⟩
noncomputable def s_l02Echelon_l16_mk (h16_0_0 : Int) (h16_0_1 : Int) (h16_0_2 : Int) (h16_0_5 : (List Int)) : (Int × (List Int)) → St := fun x => stOf [(0, (.imm true (.int .i64) h16_0_0)), (5, (.ref (7, 0) [])), (6, (.ref (8, 0) [])), (7, (.imm true (.int .i64) h16_0_1)), (10, (.imm true (.int .i64) h16_0_2)), (11, (.imm true (.int .i64) x.1))] [((7, 0), some ⟨false, (.sl (.int .i64)), .own, x.2⟩), ((8, 0), some ⟨false, (.sl (.int .i64)), .own, h16_0_5⟩)]
noncomputable def s_l02Echelon_l16_out (h16_0_0 : Int) (h16_0_1 : Int) (h16_0_2 : Int) (h16_0_5 : (List Int)) : (List Int) → Ex × St := fun x => (.exit 4, stOf [(0, (.imm true (.int .i64) h16_0_0)), (5, (.ref (7, 0) [])), (6, (.ref (8, 0) [])), (7, (.imm true (.int .i64) h16_0_1)), (10, (.imm true (.int .i64) h16_0_2))] [((7, 0), some ⟨false, (.sl (.int .i64)), .own, x⟩), ((8, 0), some ⟨false, (.sl (.int .i64)), .own, h16_0_5⟩)])
noncomputable def s_l02Echelon_l16_D (s : St) : Tre (Ex × St) :=
 asImmZ true (.int .i64) (s.tmps 0) fun d2 =>
 asRef (7, 0) [] (s.tmps 5) <|
 asRef (8, 0) [] (s.tmps 6) <|
 asImmZ true (.int .i64) (s.tmps 7) fun d6 =>
 asImmZ true (.int .i64) (s.tmps 10) fun d8 =>
 asImmZ true (.int .i64) (s.tmps 11) fun d10 =>
 asRoot false (.sl (.int .i64)) (s.roots (7, 0)) fun m12 d13 =>
 asM .own m12 <|
 asRoot false (.sl (.int .i64)) (s.roots (8, 0)) fun m15 d16 =>
 asM .own m15 <|
 .mat (loopF (s_l02Echelon_l16 d6 d8) (d10, d13)) fun x => .ret (s_l02Echelon_l16_out d2 d6 d8 d16 x)
noncomputable def s_l02Echelon_l16_L : LoopI := ⟨([0, 5, 6, 7, 10, 11], [(7, 0), (8, 0)]), ([0, 5, 6, 7, 10], [(7, 0), (8, 0)]), s_l02Echelon_l16_D⟩
noncomputable def s_l02Echelon_l21_mk (h21_0_0 : Int) (h21_0_1 : Int) (h21_0_2 : Int) (h21_0_4 : (List Int)) : (Int × (List Int)) → St := fun x => stOf [(0, (.imm true (.int .i64) h21_0_0)), (5, (.ref (7, 0) [])), (6, (.ref (8, 0) [])), (7, (.imm true (.int .i64) h21_0_1)), (10, (.imm true (.int .i64) h21_0_2)), (12, (.imm true (.int .i64) x.1))] [((7, 0), some ⟨false, (.sl (.int .i64)), .own, h21_0_4⟩), ((8, 0), some ⟨false, (.sl (.int .i64)), .own, x.2⟩)]
noncomputable def s_l02Echelon_l21_out (h21_0_0 : Int) (h21_0_1 : Int) (h21_0_2 : Int) (h21_0_4 : (List Int)) : (List Int) → Ex × St := fun x => (.exit 6, stOf [(0, (.imm true (.int .i64) h21_0_0)), (5, (.ref (7, 0) [])), (6, (.ref (8, 0) [])), (7, (.imm true (.int .i64) h21_0_1)), (10, (.imm true (.int .i64) h21_0_2))] [((7, 0), some ⟨false, (.sl (.int .i64)), .own, h21_0_4⟩), ((8, 0), some ⟨false, (.sl (.int .i64)), .own, x⟩)])
noncomputable def s_l02Echelon_l21_D (s : St) : Tre (Ex × St) :=
 asImmZ true (.int .i64) (s.tmps 0) fun d2 =>
 asRef (7, 0) [] (s.tmps 5) <|
 asRef (8, 0) [] (s.tmps 6) <|
 asImmZ true (.int .i64) (s.tmps 7) fun d6 =>
 asImmZ true (.int .i64) (s.tmps 10) fun d8 =>
 asImmZ true (.int .i64) (s.tmps 12) fun d10 =>
 asRoot false (.sl (.int .i64)) (s.roots (7, 0)) fun m12 d13 =>
 asM .own m12 <|
 asRoot false (.sl (.int .i64)) (s.roots (8, 0)) fun m15 d16 =>
 asM .own m15 <|
 .mat (loopF (s_l02Echelon_l21 d6 d8) (d10, d16)) fun x => .ret (s_l02Echelon_l21_out d2 d6 d8 d13 x)
noncomputable def s_l02Echelon_l21_L : LoopI := ⟨([0, 5, 6, 7, 10, 12], [(7, 0), (8, 0)]), ([0, 5, 6, 7, 10], [(7, 0), (8, 0)]), s_l02Echelon_l21_D⟩
noncomputable def s_l02Echelon_l4_mk (h4_0_0 : Int) : (Int × (List Int) × (List Int)) → St := fun x => stOf [(0, (.imm true (.int .i64) h4_0_0)), (5, (.ref (7, 0) [])), (6, (.ref (8, 0) [])), (7, (.imm true (.int .i64) x.1))] [((7, 0), some ⟨false, (.sl (.int .i64)), .own, x.2.1⟩), ((8, 0), some ⟨false, (.sl (.int .i64)), .own, x.2.2⟩)]
noncomputable def s_l02Echelon_l4_out (_h4_0_0 : Int) : (List Int) → Ex × St := fun x => (.exit 0, stOf [(6, (.ref (8, 0) []))] [((8, 0), some ⟨false, (.sl (.int .i64)), .own, x⟩)])
noncomputable def s_l02Echelon_l4_D (s : St) : Tre (Ex × St) :=
 asImmZ true (.int .i64) (s.tmps 0) fun d2 =>
 asRef (7, 0) [] (s.tmps 5) <|
 asRef (8, 0) [] (s.tmps 6) <|
 asImmZ true (.int .i64) (s.tmps 7) fun d6 =>
 asRoot false (.sl (.int .i64)) (s.roots (7, 0)) fun m8 d9 =>
 asM .own m8 <|
 asRoot false (.sl (.int .i64)) (s.roots (8, 0)) fun m11 d12 =>
 asM .own m11 <|
 .mat (loopF (s_l02Echelon_l4 d2) (d6, d9, d12)) fun x => .ret (s_l02Echelon_l4_out d2 x)
noncomputable def s_l02Echelon_l4_L : LoopI := ⟨([0, 5, 6, 7], [(7, 0), (8, 0)]), ([6], [(8, 0)]), s_l02Echelon_l4_D⟩
noncomputable def s_l02Echelon_A : List (Nat × LoopI) := [(8, s_l02Echelon_l8_L), (16, s_l02Echelon_l16_L), (21, s_l02Echelon_l21_L), (4, s_l02Echelon_l4_L)]
set_option maxRecDepth 100000 in
theorem s_l02Echelon_l8_step : ∀ (h8_0_0 : Int) (h8_0_1 : Int) (h8_0_4 : (List Int)) (h8_0_5 : (List Int)) (x : (Int × Int)) (c : St → Option (Ex × St)), den s_l02Echelon_V s_l02Echelon_A (loopAt s_l02Echelon_b 1) (s_l02Echelon_l8_mk h8_0_0 h8_0_1 h8_0_4 h8_0_5 x) (roundK s_l02Echelon_l8_L.kp s_l02Echelon_l8_L.kx c) = (s_l02Echelon_l8 h8_0_1 h8_0_4 x).run (roundR (s_l02Echelon_l8_mk h8_0_0 h8_0_1 h8_0_4 h8_0_5) (s_l02Echelon_l8_out h8_0_0 h8_0_1 h8_0_4 h8_0_5) c) := fun _ _ _ _ _ _ => by
 kernel_rfl
theorem s_l02Echelon_l8_ok : LoopOK s_l02Echelon_V s_l02Echelon_A (loopAt s_l02Echelon_b 1) s_l02Echelon_l8_L := loopOK_of fun s e s' h => by
 generalize hs : restrict s_l02Echelon_l8_L.kp s = s1 at h
 have h : (s_l02Echelon_l8_D s1).run some = some (e, s') := h
 obtain ⟨d2, e1, h_0⟩ := asImmZ_spec h
 obtain ⟨e3, h_1⟩ := asRef_spec h_0
 obtain ⟨e4, h_2⟩ := asRef_spec h_1
 obtain ⟨d6, e5, h_3⟩ := asImmZ_spec h_2
 obtain ⟨d8, e7, h_4⟩ := asImmZ_spec h_3
 obtain ⟨d10, e9, h_5⟩ := asImmZ_spec h_4
 obtain ⟨m12, d13, e11, h_6⟩ := asRoot_spec h_5
 obtain ⟨rfl, h_7⟩ := asM_spec h_6
 obtain ⟨m15, d16, e14, h_8⟩ := asRoot_spec h_7
 obtain ⟨rfl, h_9⟩ := asM_spec h_8
 obtain ⟨y, hy, hz⟩ := mat_ret h_9
 refine ⟨_, _, s_l02Echelon_l8_mk d2 d6 d13 d16, s_l02Echelon_l8_out d2 d6 d13 d16, s_l02Echelon_l8 d6 d13, (d8, d10), y, ?_, hy, ?_, s_l02Echelon_l8_step d2 d6 d13 d16⟩
 ·subst hs; exact restrict_eq (T := [(0, (.imm true (.int .i64) d2)), (5, (.ref (7, 0) [])), (6, (.ref (8, 0) [])), (7, (.imm true (.int .i64) d6)), (8, (.imm true (.int .i64) d8)), (9, (.imm true (.int .i64) d10))]) (U := [((7, 0), some ⟨false, (.sl (.int .i64)), .own, d13⟩), ((8, 0), some ⟨false, (.sl (.int .i64)), .own, d16⟩)]) rfl rfl ⟨e1, e3, e4, e5, e7, e9, trivial⟩ ⟨e11, e14, trivial⟩
 ·exact Option.some.inj hz
set_option maxRecDepth 100000 in
theorem s_l02Echelon_l16_step : ∀ (h16_0_0 : Int) (h16_0_1 : Int) (h16_0_2 : Int) (h16_0_5 : (List Int)) (x : (Int × (List Int))) (c : St → Option (Ex × St)), den s_l02Echelon_V s_l02Echelon_A (loopAt s_l02Echelon_b 2) (s_l02Echelon_l16_mk h16_0_0 h16_0_1 h16_0_2 h16_0_5 x) (roundK s_l02Echelon_l16_L.kp s_l02Echelon_l16_L.kx c) = (s_l02Echelon_l16 h16_0_1 h16_0_2 x).run (roundR (s_l02Echelon_l16_mk h16_0_0 h16_0_1 h16_0_2 h16_0_5) (s_l02Echelon_l16_out h16_0_0 h16_0_1 h16_0_2 h16_0_5) c) := fun _ _ _ _ _ _ => by
 kernel_rfl
theorem s_l02Echelon_l16_ok : LoopOK s_l02Echelon_V s_l02Echelon_A (loopAt s_l02Echelon_b 2) s_l02Echelon_l16_L := loopOK_of fun s e s' h => by
 generalize hs : restrict s_l02Echelon_l16_L.kp s = s1 at h
 have h : (s_l02Echelon_l16_D s1).run some = some (e, s') := h
 obtain ⟨d2, e1, h_0⟩ := asImmZ_spec h
 obtain ⟨e3, h_1⟩ := asRef_spec h_0
 obtain ⟨e4, h_2⟩ := asRef_spec h_1
 obtain ⟨d6, e5, h_3⟩ := asImmZ_spec h_2
 obtain ⟨d8, e7, h_4⟩ := asImmZ_spec h_3
 obtain ⟨d10, e9, h_5⟩ := asImmZ_spec h_4
 obtain ⟨m12, d13, e11, h_6⟩ := asRoot_spec h_5
 obtain ⟨rfl, h_7⟩ := asM_spec h_6
 obtain ⟨m15, d16, e14, h_8⟩ := asRoot_spec h_7
 obtain ⟨rfl, h_9⟩ := asM_spec h_8
 obtain ⟨y, hy, hz⟩ := mat_ret h_9
 refine ⟨_, _, s_l02Echelon_l16_mk d2 d6 d8 d16, s_l02Echelon_l16_out d2 d6 d8 d16, s_l02Echelon_l16 d6 d8, (d10, d13), y, ?_, hy, ?_, s_l02Echelon_l16_step d2 d6 d8 d16⟩
 ·subst hs; exact restrict_eq (T := [(0, (.imm true (.int .i64) d2)), (5, (.ref (7, 0) [])), (6, (.ref (8, 0) [])), (7, (.imm true (.int .i64) d6)), (10, (.imm true (.int .i64) d8)), (11, (.imm true (.int .i64) d10))]) (U := [((7, 0), some ⟨false, (.sl (.int .i64)), .own, d13⟩), ((8, 0), some ⟨false, (.sl (.int .i64)), .own, d16⟩)]) rfl rfl ⟨e1, e3, e4, e5, e7, e9, trivial⟩ ⟨e11, e14, trivial⟩
 ·exact Option.some.inj hz
set_option maxRecDepth 100000 in
theorem s_l02Echelon_l21_step : ∀ (h21_0_0 : Int) (h21_0_1 : Int) (h21_0_2 : Int) (h21_0_4 : (List Int)) (x : (Int × (List Int))) (c : St → Option (Ex × St)), den s_l02Echelon_V s_l02Echelon_A (loopAt s_l02Echelon_b 3) (s_l02Echelon_l21_mk h21_0_0 h21_0_1 h21_0_2 h21_0_4 x) (roundK s_l02Echelon_l21_L.kp s_l02Echelon_l21_L.kx c) = (s_l02Echelon_l21 h21_0_1 h21_0_2 x).run (roundR (s_l02Echelon_l21_mk h21_0_0 h21_0_1 h21_0_2 h21_0_4) (s_l02Echelon_l21_out h21_0_0 h21_0_1 h21_0_2 h21_0_4) c) := fun _ _ _ _ _ _ => by
 kernel_rfl
theorem s_l02Echelon_l21_ok : LoopOK s_l02Echelon_V s_l02Echelon_A (loopAt s_l02Echelon_b 3) s_l02Echelon_l21_L := loopOK_of fun s e s' h => by
 generalize hs : restrict s_l02Echelon_l21_L.kp s = s1 at h
 have h : (s_l02Echelon_l21_D s1).run some = some (e, s') := h
 obtain ⟨d2, e1, h_0⟩ := asImmZ_spec h
 obtain ⟨e3, h_1⟩ := asRef_spec h_0
 obtain ⟨e4, h_2⟩ := asRef_spec h_1
 obtain ⟨d6, e5, h_3⟩ := asImmZ_spec h_2
 obtain ⟨d8, e7, h_4⟩ := asImmZ_spec h_3
 obtain ⟨d10, e9, h_5⟩ := asImmZ_spec h_4
 obtain ⟨m12, d13, e11, h_6⟩ := asRoot_spec h_5
 obtain ⟨rfl, h_7⟩ := asM_spec h_6
 obtain ⟨m15, d16, e14, h_8⟩ := asRoot_spec h_7
 obtain ⟨rfl, h_9⟩ := asM_spec h_8
 obtain ⟨y, hy, hz⟩ := mat_ret h_9
 refine ⟨_, _, s_l02Echelon_l21_mk d2 d6 d8 d13, s_l02Echelon_l21_out d2 d6 d8 d13, s_l02Echelon_l21 d6 d8, (d10, d16), y, ?_, hy, ?_, s_l02Echelon_l21_step d2 d6 d8 d13⟩
 ·subst hs; exact restrict_eq (T := [(0, (.imm true (.int .i64) d2)), (5, (.ref (7, 0) [])), (6, (.ref (8, 0) [])), (7, (.imm true (.int .i64) d6)), (10, (.imm true (.int .i64) d8)), (12, (.imm true (.int .i64) d10))]) (U := [((7, 0), some ⟨false, (.sl (.int .i64)), .own, d13⟩), ((8, 0), some ⟨false, (.sl (.int .i64)), .own, d16⟩)]) rfl rfl ⟨e1, e3, e4, e5, e7, e9, trivial⟩ ⟨e11, e14, trivial⟩
 ·exact Option.some.inj hz
set_option maxRecDepth 100000 in
theorem s_l02Echelon_l4_step : ∀ (h4_0_0 : Int) (x : (Int × (List Int) × (List Int))) (c : St → Option (Ex × St)), den s_l02Echelon_V s_l02Echelon_A (loopAt s_l02Echelon_b 0) (s_l02Echelon_l4_mk h4_0_0 x) (roundK s_l02Echelon_l4_L.kp s_l02Echelon_l4_L.kx c) = (s_l02Echelon_l4 h4_0_0 x).run (roundR (s_l02Echelon_l4_mk h4_0_0) (s_l02Echelon_l4_out h4_0_0) c) := fun _ _ _ => by
 kernel_rfl
theorem s_l02Echelon_l4_ok : LoopOK s_l02Echelon_V s_l02Echelon_A (loopAt s_l02Echelon_b 0) s_l02Echelon_l4_L := loopOK_of fun s e s' h => by
 generalize hs : restrict s_l02Echelon_l4_L.kp s = s1 at h
 have h : (s_l02Echelon_l4_D s1).run some = some (e, s') := h
 obtain ⟨d2, e1, h_0⟩ := asImmZ_spec h
 obtain ⟨e3, h_1⟩ := asRef_spec h_0
 obtain ⟨e4, h_2⟩ := asRef_spec h_1
 obtain ⟨d6, e5, h_3⟩ := asImmZ_spec h_2
 obtain ⟨m8, d9, e7, h_4⟩ := asRoot_spec h_3
 obtain ⟨rfl, h_5⟩ := asM_spec h_4
 obtain ⟨m11, d12, e10, h_6⟩ := asRoot_spec h_5
 obtain ⟨rfl, h_7⟩ := asM_spec h_6
 obtain ⟨y, hy, hz⟩ := mat_ret h_7
 refine ⟨_, _, s_l02Echelon_l4_mk d2, s_l02Echelon_l4_out d2, s_l02Echelon_l4 d2, (d6, d9, d12), y, ?_, hy, ?_, s_l02Echelon_l4_step d2⟩
 ·subst hs; exact restrict_eq (T := [(0, (.imm true (.int .i64) d2)), (5, (.ref (7, 0) [])), (6, (.ref (8, 0) [])), (7, (.imm true (.int .i64) d6))]) (U := [((7, 0), some ⟨false, (.sl (.int .i64)), .own, d9⟩), ((8, 0), some ⟨false, (.sl (.int .i64)), .own, d12⟩)]) rfl rfl ⟨e1, e3, e4, e5, trivial⟩ ⟨e7, e10, trivial⟩
 ·exact Option.some.inj hz
noncomputable def s_l02Echelon_I : FnI := ⟨s_l02Echelon_b, Try.f56.results.toList, Try.f56.resultTypes.toList, s_l02Echelon_A⟩
noncomputable def s_l02Echelon_out (_zp0 : Bool) (_p0 : Int) (_p1 : (List Int)) : (List Int) → CallOut := fun r => ⟨(.ref (1, 0) []), [], [⟨false, (.sl (.int .i64)), .own, r⟩]⟩
set_option maxRecDepth 100000 in
theorem s_l02Echelon_eq : ∀ (zp0 : Bool) (p0 : Int) (p1 : (List Int)), denFn s_l02Echelon_V s_l02Echelon_I ⟨[(.imm true (.int .i64) p0), (.imm zp0 (.sl (.int .i64)) p1)], []⟩ = (s_l02Echelon p0 p1).run fun r => some (s_l02Echelon_out zp0 p0 p1 r) := fun _ _ _ => by kernel_rfl
noncomputable def s_l02Echelon_G (av : List AV) (rs : List Root) : Tre CallOut :=
 asCons av fun a0_ av0 =>
 asCons av0 fun a1_ av1 =>
 asEnd av1 <|
 asEnd rs <|
 asImmZ true (.int .i64) a0_ fun d1 =>
 asImm (.sl (.int .i64)) a1_ fun z3 d2 =>
 .mat (s_l02Echelon_F d1 d2) fun r => .ret (s_l02Echelon_out z3 d1 d2 r)
noncomputable def s_l02Echelon_c : Ctr := ⟨[], fun ci => s_l02Echelon_G ci.args ci.roots, false⟩
theorem s_l02Echelon_env : EnvOK Try.prog .none s_l02Echelon_V := (envOK_cons s_l00Own_ok ent105 (envOK_cons s_l02Bit_ok ent106 envOK_nil))
set_option maxRecDepth 100000 in
theorem s_l02Echelon_ok : Contract Try.prog .none 56 s_l02Echelon_c := by
 have hl : LoopsOK s_l02Echelon_V s_l02Echelon_A s_l02Echelon_b := (loopsOK_all (n := 4) (by kernel_rfl) fun k hk => by
   match k, hk with
   | 0, _ => exact loopOK_at (id := 4) (L := s_l02Echelon_l4_L) (by kernel_rfl) (by kernel_rfl) s_l02Echelon_l4_ok
   | 1, _ => exact loopOK_at (id := 8) (L := s_l02Echelon_l8_L) (by kernel_rfl) (by kernel_rfl) s_l02Echelon_l8_ok
   | 2, _ => exact loopOK_at (id := 16) (L := s_l02Echelon_l16_L) (by kernel_rfl) (by kernel_rfl) s_l02Echelon_l16_ok
   | 3, _ => exact loopOK_at (id := 21) (L := s_l02Echelon_l21_L) (by kernel_rfl) (by kernel_rfl) s_l02Echelon_l21_ok)
 refine (contract_of (F := s_l02Echelon_I) tau_tys s_l02Echelon_env Try.func56 (by kernel_rfl) (by kernel_rfl) (by kernel_rfl) hl []).weaken ?_
 rintro ⟨av, rs⟩ co h
 have h : (s_l02Echelon_G av rs).run some = some co := h
 obtain ⟨a0_, av0, rfl, h_0⟩ := asCons_spec h
 obtain ⟨a1_, av1, rfl, h_1⟩ := asCons_spec h_0
 obtain ⟨rfl, h_2⟩ := asEnd_spec h_1
 obtain ⟨rfl, h_3⟩ := asEnd_spec h_2
 obtain ⟨d1, rfl, h_4⟩ := asImmZ_spec h_3
 obtain ⟨z3, d2, rfl, h_5⟩ := asImm_spec h_4
 exact fin_mat (s_l02Echelon_eq z3 d1 d2) h_5
end Go.Proofs.Ythnkanacjhlhhaa

namespace Go.Proofs.Ythnkanacjhlhhaa
open Go Go.Abs Go.Proofs
noncomputable def s_l00Same_l4 (h4_0_0 : (List Int)) (h4_0_1 : (List Int)) : Int → Tre (Int ⊕ (Bool ⊕ Unit)) := fun s4 =>
 .cond (decide (s4 < (h4_0_0.length : Int)))
  (.ite (0 ≤ s4 ∧ s4 < (h4_0_0.length : Int)) <|
  .mat (h4_0_0[s4.toNat]?) fun x1 =>
  .ite (0 ≤ s4 ∧ s4 < (h4_0_1.length : Int)) <|
  .mat (h4_0_1[s4.toNat]?) fun x2 =>
  .cond (!decide (x1 = x2))
   (.ret (.inr (.inl false)))
   (.ret (.inl (iwrap .i64 (s4 + 1)))))
  (.ret (.inr (.inr ())))
noncomputable def s_l00Same (p0 : (List Int)) (p1 : (List Int)) : Tre Bool :=
 .cond (!decide ((p0.length : Int) = (p1.length : Int)))
  (.ret false)
  (.mat (loopF (s_l00Same_l4 p0 p1) 0) fun l3 =>
  .alt l3
   (fun a4 =>
    .ret a4)
   (fun _ =>
    .ret true))
noncomputable def s_l00Same_F (p0 : (List Int)) (p1 : (List Int)) : Option Bool := (s_l00Same p0 p1).run some
def sameL (a b : List Int) : Option Bool := askO (decide (a.length ≤ 1048576) && decide (b.length ≤ 1048576)) (decide (a = b))
def sameAt (b : List Int) (i : Nat) (x : Int) : Option (Bool ⊕ Unit) := match b[i]? with
 | some y => cond (decide (x = y)) none (some (.inl false))
 | none => none
theorem findE_same (b : List Int) : ∀ (l : List Int) (i : Nat), l.length = (b.drop i).length → findE (β := Bool ⊕ Unit) (sameAt b) (.inr ()) i l = cond (decide (l = b.drop i)) (.inr ()) (.inl false) := by
 intro l
 induction l with
 | nil =>
  intro i h
  have : b.drop i = [] := List.eq_nil_of_length_eq_zero h.symm
  rw [this]; rfl
 | cons x l ih =>
  intro i h
  have hi : i < b.length := by rw [List.length_drop, List.length_cons] at h; omega
  have hd : b.drop i = b[i] :: b.drop (i + 1) := List.drop_eq_getElem_cons hi
  have hlen : l.length = (b.drop (i + 1)).length := by rw [hd, List.length_cons, List.length_cons] at h; omega
  have hih := ih (i + 1) hlen
  simp only [findE, sameAt]
  rw [List.getElem?_eq_getElem hi]
  simp only
  by_cases hx : x = b[i]
  ·rw [decide_eq_true hx, cond_true, hih]
   by_cases hl : l = b.drop (i + 1)
   ·rw [decide_eq_true hl, decide_eq_true (show x :: l = b.drop i by rw [hd, hx, hl])]
   ·rw [decide_eq_false hl, decide_eq_false (fun h2 => hl (by rw [hd] at h2; exact (List.cons.inj h2).2))]
  ·rw [decide_eq_false hx, cond_false, decide_eq_false (fun h2 => hx (by rw [hd] at h2; exact (List.cons.inj h2).1))]
   rfl
theorem s_l00Same_spec (p0 p1 : List Int) (y : Bool) (h : sameL p0 p1 = some y) : s_l00Same_F p0 p1 = some y := by
 obtain ⟨hok, rfl⟩ := askO_some h
 simp only [Bool.and_eq_true, decide_eq_true_eq] at hok
 unfold s_l00Same_F s_l00Same
 rw [Tre.run_cond]
 by_cases hl : p0.length = p1.length
 ·rw [decide_eq_true (show (p0.length : Int) = (p1.length : Int) by omega), Bool.not_true, cond_false, Tre.run_mat, find_loop (xs := p0) (sameAt p1) (.inr ()), findE_same p1 p0 0 (by simpa using hl)]
  ·rw [List.drop_zero]
   cases decide (p0 = p1) <;> rfl
  ·intro i x hx
   have hi : i < p0.length := (List.getElem?_eq_some_iff.1 hx).1
   have hy : p1[i]? = some p1[i] := List.getElem?_eq_getElem (by omega)
   unfold s_l00Same_l4
   unfold sameAt
   rw [run_inb hx, run_at hy, Tre.run_cond, hy]
   dsimp only
   cases decide (x = p1[i])
   ·rfl
   ·simp only [Bool.not_true, cond_true, cond_false, Tre.run_ret, iwrap_succ (show i < 4611686018427387904 by omega)]
  ·unfold s_l00Same_l4
   exact run_out
 ·rw [decide_eq_false (show ¬ (p0.length : Int) = (p1.length : Int) by omega), Bool.not_false, cond_true, Tre.run_ret, decide_eq_false (fun h => hl (by rw [h]))]
noncomputable def s_l00Same_V : Env := ⟨tau, [], []⟩
noncomputable def s_l00Same_b : Code := (Try.f75.body).getD .skip
noncomputable def s_l00Same_l4_mk (z4_0 : Bool) (z4_1 : Bool) (h4_0_0 : (List Int)) (h4_0_1 : (List Int)) : Int → St := fun x => stOf [(0, (.imm z4_0 (.sl (.int .i64)) h4_0_0)), (1, (.imm z4_1 (.sl (.int .i64)) h4_0_1)), (5, (.imm true (.int .i64) x))] []
noncomputable def s_l00Same_l4_out (_z4_0 : Bool) (_z4_1 : Bool) (_h4_0_0 : (List Int)) (_h4_0_1 : (List Int)) : (Bool ⊕ Unit) → Ex × St
 | .inl x => (.ret, stOf [(4, (.imm true .bool x))] [])
 | .inr x => (.exit 0, stOf [(4, .dead)] [])
noncomputable def s_l00Same_l4_D (s : St) : Tre (Ex × St) :=
 asImm (.sl (.int .i64)) (s.tmps 0) fun z3 d2 =>
 asImm (.sl (.int .i64)) (s.tmps 1) fun z6 d5 =>
 asImmZ true (.int .i64) (s.tmps 5) fun d8 =>
 .mat (loopF (s_l00Same_l4 d2 d5) d8) fun x => .alt x (fun a0 => .ret (s_l00Same_l4_out z3 z6 d2 d5 (.inl a0))) (fun b0 => .ret (s_l00Same_l4_out z3 z6 d2 d5 (.inr b0)))
noncomputable def s_l00Same_l4_L : LoopI := ⟨([0, 1, 5], []), ([4], []), s_l00Same_l4_D⟩
noncomputable def s_l00Same_A : List (Nat × LoopI) := [(4, s_l00Same_l4_L)]
set_option maxRecDepth 100000 in
theorem s_l00Same_l4_step : ∀ (z4_0 : Bool) (z4_1 : Bool) (h4_0_0 : (List Int)) (h4_0_1 : (List Int)) (x : Int) (c : St → Option (Ex × St)), den s_l00Same_V s_l00Same_A (loopAt s_l00Same_b 0) (s_l00Same_l4_mk z4_0 z4_1 h4_0_0 h4_0_1 x) (roundK s_l00Same_l4_L.kp s_l00Same_l4_L.kx c) = (s_l00Same_l4 h4_0_0 h4_0_1 x).run (roundR (s_l00Same_l4_mk z4_0 z4_1 h4_0_0 h4_0_1) (s_l00Same_l4_out z4_0 z4_1 h4_0_0 h4_0_1) c) := fun _ _ _ _ _ _ => by
 kernel_rfl
theorem s_l00Same_l4_ok : LoopOK s_l00Same_V s_l00Same_A (loopAt s_l00Same_b 0) s_l00Same_l4_L := loopOK_of fun s e s' h => by
 generalize hs : restrict s_l00Same_l4_L.kp s = s1 at h
 have h : (s_l00Same_l4_D s1).run some = some (e, s') := h
 obtain ⟨z3, d2, e1, h_0⟩ := asImm_spec h
 obtain ⟨z6, d5, e4, h_1⟩ := asImm_spec h_0
 obtain ⟨d8, e7, h_2⟩ := asImmZ_spec h_1
 obtain ⟨y, hy, hz⟩ := mat_some h_2
 refine ⟨_, _, s_l00Same_l4_mk z3 z6 d2 d5, s_l00Same_l4_out z3 z6 d2 d5, s_l00Same_l4 d2 d5, d8, y, ?_, hy, ?_, s_l00Same_l4_step z3 z6 d2 d5⟩
 ·subst hs; exact restrict_eq (T := [(0, (.imm z3 (.sl (.int .i64)) d2)), (1, (.imm z6 (.sl (.int .i64)) d5)), (5, (.imm true (.int .i64) d8))]) (U := []) rfl rfl ⟨e1, e4, e7, trivial⟩ trivial
 ·rcases y with x | x <;> exact Option.some.inj hz
noncomputable def s_l00Same_I : FnI := ⟨s_l00Same_b, Try.f75.results.toList, Try.f75.resultTypes.toList, s_l00Same_A⟩
noncomputable def s_l00Same_out (_zp0 : Bool) (_zp1 : Bool) (_p0 : (List Int)) (_p1 : (List Int)) : Bool → CallOut := fun r => ⟨(.imm true .bool r), [], []⟩
set_option maxRecDepth 100000 in
theorem s_l00Same_eq : ∀ (zp0 : Bool) (zp1 : Bool) (p0 : (List Int)) (p1 : (List Int)), denFn s_l00Same_V s_l00Same_I ⟨[(.imm zp0 (.sl (.int .i64)) p0), (.imm zp1 (.sl (.int .i64)) p1)], []⟩ = (s_l00Same p0 p1).run fun r => some (s_l00Same_out zp0 zp1 p0 p1 r) := fun _ _ _ _ => by kernel_rfl
noncomputable def s_l00Same_G (av : List AV) (rs : List Root) : Tre CallOut :=
 asCons av fun a0_ av0 =>
 asCons av0 fun a1_ av1 =>
 asEnd av1 <|
 asEnd rs <|
 asImm (.sl (.int .i64)) a0_ fun z2 d1 =>
 asImm (.sl (.int .i64)) a1_ fun z4 d3 =>
 .mat (sameL d1 d3) fun r => .ret (s_l00Same_out z2 z4 d1 d3 r)
noncomputable def s_l00Same_c : Ctr := ⟨[], fun ci => s_l00Same_G ci.args ci.roots, false⟩
theorem s_l00Same_env : EnvOK Try.prog .none s_l00Same_V := envOK_nil
set_option maxRecDepth 100000 in
theorem s_l00Same_ok : Contract Try.prog .none 75 s_l00Same_c := by
 have hl : LoopsOK s_l00Same_V s_l00Same_A s_l00Same_b := (loopsOK_all (n := 1) (by kernel_rfl) fun k hk => by
   match k, hk with
   | 0, _ => exact loopOK_at (id := 4) (L := s_l00Same_l4_L) (by kernel_rfl) (by kernel_rfl) s_l00Same_l4_ok)
 refine (contract_of (F := s_l00Same_I) tau_tys s_l00Same_env Try.func75 (by kernel_rfl) (by kernel_rfl) (by kernel_rfl) hl []).weaken ?_
 rintro ⟨av, rs⟩ co h
 have h : (s_l00Same_G av rs).run some = some co := h
 obtain ⟨a0_, av0, rfl, h_0⟩ := asCons_spec h
 obtain ⟨a1_, av1, rfl, h_1⟩ := asCons_spec h_0
 obtain ⟨rfl, h_2⟩ := asEnd_spec h_1
 obtain ⟨rfl, h_3⟩ := asEnd_spec h_2
 obtain ⟨z2, d1, rfl, h_4⟩ := asImm_spec h_3
 obtain ⟨z4, d3, rfl, h_5⟩ := asImm_spec h_4
 exact fin_opt (s_l00Same_eq z2 z4 d1 d3) (s_l00Same_spec d1 d3) h_5
end Go.Proofs.Ythnkanacjhlhhaa

namespace Go.Proofs.Ythnkanacjhlhhaa
open Go Go.Abs Go.Proofs
noncomputable def s_l02Ascend_f170_l4 (g_ : Int → Int → (List Int) → (List TMatrix) → Option (((List TMatrix) × (List TMatrix)) ⊕ (((List Int) × (List TMatrix)) ⊕ ((List Int) × (List TMatrix) × (List TMatrix))))) : ((Int × Int × Int × (List Int) × (List TMatrix)) ⊕ (Int × Int × Int × (List Int) × (List TMatrix) × (List TMatrix))) → Tre (((Int × Int × Int × (List Int) × (List TMatrix)) ⊕ (Int × Int × Int × (List Int) × (List TMatrix) × (List TMatrix))) ⊕ (((List Int) × (List TMatrix)) ⊕ ((List Int) × (List TMatrix) × (List TMatrix))))
 | .inl s4 =>
  .ite (0 ≤ iwrap .u64 s4.1) <|
  let v14 := ishl .i64 1 (iwrap .u64 s4.1)
  .cond (decide (s4.2.2.1 < v14))
   (.mat (s_l02Lead_F s4.2.2.1) fun r15 =>
   let v16 := iwrap .i64 (s4.1 - s4.2.1)
   .cond (decide (r15 > v16))
    (.ret (.inl (.inl (s4.1, s4.2.1, iwrap .i64 (s4.2.2.1 + 1), s4.2.2.2.1, s4.2.2.2.2))))
    (.mat (cloneR s4.2.2.2.1) fun r17 =>
    .ite ((r17.length + 1) * 8 ≤ appendMax ∧ 1 ≤ 8) <|
    .mat (s_l02Forced_F s4.1 (r17 ++ ([s4.2.2.1]))) fun r18 =>
    let v19 := iwrap .i64 (r18 + (s4.2.2.2.1.length : Int))
    let v20 := iwrap .i64 (v19 + s4.2.1)
    .cond (decide (v20 ≤ s4.1))
     (.mat (s_l02Echelon_F s4.1 (r17 ++ ([s4.2.2.1]))) fun r21 =>
     .mat (sameL r21 (r17 ++ ([s4.2.2.1]))) fun r22 =>
     .cond r22
      (.mat (g_ s4.1 (iwrap .i64 (s4.2.1 - 1)) (r17 ++ ([s4.2.2.1])) s4.2.2.2.2) fun r23 =>
      .alt r23
       (fun a24 =>
        .ret (.inl (.inr (s4.1, s4.2.1, iwrap .i64 (s4.2.2.1 + 1), s4.2.2.2.1, a24.1, a24.2))))
       (fun b25 =>
        .alt b25
         (fun a26 =>
          .ret (.inl (.inl (s4.1, s4.2.1, iwrap .i64 (s4.2.2.1 + 1), s4.2.2.2.1, a26.2))))
         (fun b27 =>
          .ret (.inl (.inr (s4.1, s4.2.1, iwrap .i64 (s4.2.2.1 + 1), s4.2.2.2.1, b27.2.1, b27.2.2))))))
      (.ret (.inl (.inl (s4.1, s4.2.1, iwrap .i64 (s4.2.2.1 + 1), s4.2.2.2.1, s4.2.2.2.2)))))
     (.ret (.inl (.inl (s4.1, s4.2.1, iwrap .i64 (s4.2.2.1 + 1), s4.2.2.2.1, s4.2.2.2.2))))))
   (.ret (.inr (.inl (s4.2.2.2.1, s4.2.2.2.2))))
 | .inr s4 =>
  .ite (0 ≤ iwrap .u64 s4.1) <|
  let v28 := ishl .i64 1 (iwrap .u64 s4.1)
  .cond (decide (s4.2.2.1 < v28))
   (.mat (s_l02Lead_F s4.2.2.1) fun r29 =>
   let v30 := iwrap .i64 (s4.1 - s4.2.1)
   .cond (decide (r29 > v30))
    (.ret (.inl (.inr (s4.1, s4.2.1, iwrap .i64 (s4.2.2.1 + 1), s4.2.2.2.1, s4.2.2.2.2.1, s4.2.2.2.2.2))))
    (.mat (cloneR s4.2.2.2.1) fun r31 =>
    .ite ((r31.length + 1) * 8 ≤ appendMax ∧ 1 ≤ 8) <|
    .mat (s_l02Forced_F s4.1 (r31 ++ ([s4.2.2.1]))) fun r32 =>
    let v33 := iwrap .i64 (r32 + (s4.2.2.2.1.length : Int))
    let v34 := iwrap .i64 (v33 + s4.2.1)
    .cond (decide (v34 ≤ s4.1))
     (.mat (s_l02Echelon_F s4.1 (r31 ++ ([s4.2.2.1]))) fun r35 =>
     .mat (sameL r35 (r31 ++ ([s4.2.2.1]))) fun r36 =>
     .cond r36
      (.mat (g_ s4.1 (iwrap .i64 (s4.2.1 - 1)) (r31 ++ ([s4.2.2.1])) s4.2.2.2.2.2) fun r37 =>
      .alt r37
       (fun a38 =>
        .ret (.inl (.inr (s4.1, s4.2.1, iwrap .i64 (s4.2.2.1 + 1), s4.2.2.2.1, s4.2.2.2.2.1, a38.2))))
       (fun b39 =>
        .alt b39
         (fun a40 =>
          .ret (.inl (.inr (s4.1, s4.2.1, iwrap .i64 (s4.2.2.1 + 1), s4.2.2.2.1, s4.2.2.2.2.1, a40.2))))
         (fun b41 =>
          .ret (.inl (.inr (s4.1, s4.2.1, iwrap .i64 (s4.2.2.1 + 1), s4.2.2.2.1, s4.2.2.2.2.1, b41.2.2))))))
      (.ret (.inl (.inr (s4.1, s4.2.1, iwrap .i64 (s4.2.2.1 + 1), s4.2.2.2.1, s4.2.2.2.2.1, s4.2.2.2.2.2)))))
     (.ret (.inl (.inr (s4.1, s4.2.1, iwrap .i64 (s4.2.2.1 + 1), s4.2.2.2.1, s4.2.2.2.2.1, s4.2.2.2.2.2))))))
   (.ret (.inr (.inr (s4.2.2.2.1, s4.2.2.2.2.1, s4.2.2.2.2.2))))
noncomputable def s_l02Ascend_f170 (g_ : Int → Int → (List Int) → (List TMatrix) → Option (((List TMatrix) × (List TMatrix)) ⊕ (((List Int) × (List TMatrix)) ⊕ ((List Int) × (List TMatrix) × (List TMatrix))))) (p0 : Int) (p1 : Int) (p2 : (List Int)) (p3 : (List TMatrix)) : Tre (((List TMatrix) × (List TMatrix)) ⊕ (((List Int) × (List TMatrix)) ⊕ ((List Int) × (List TMatrix) × (List TMatrix)))) :=
 .cond (decide (p1 = 0))
  (.ite ((p3.length + 1) * 32 ≤ appendMax ∧ 1 ≤ 32) <|
  .ret (.inl ([], p3 ++ ([(p0, (p2, ()))]))))
  (.mat (loopF (s_l02Ascend_f170_l4 g_) (.inl (p0, p1, 1, p2, p3))) fun l42 =>
  .alt l42
   (fun a43 =>
    .ret (.inr (.inl (a43.1, a43.2))))
   (fun b44 =>
    .ret (.inr (.inr (b44.1, b44.2.1, b44.2.2)))))
noncomputable def s_l02Ascend_f170_R : Nat → Int → Int → (List Int) → (List TMatrix) → Option (((List TMatrix) × (List TMatrix)) ⊕ (((List Int) × (List TMatrix)) ⊕ ((List Int) × (List TMatrix) × (List TMatrix))))
 | 0 => fun _ _ _ _ => none
 | n + 1 => fun p0 p1 p2 p3 => (s_l02Ascend_f170 (s_l02Ascend_f170_R n) p0 p1 p2 p3).run some
noncomputable def s_l02Ascend_f170_F (p0 : Int) (p1 : Int) (p2 : (List Int)) (p3 : (List TMatrix)) : Option (((List TMatrix) × (List TMatrix)) ⊕ (((List Int) × (List TMatrix)) ⊕ ((List Int) × (List TMatrix) × (List TMatrix)))) := s_l02Ascend_f170_R 1000000000000 p0 p1 p2 p3
noncomputable def s_l02Ascend_f170_out (_g_ : Int → Int → (List Int) → (List TMatrix) → Option (((List TMatrix) × (List TMatrix)) ⊕ (((List Int) × (List TMatrix)) ⊕ ((List Int) × (List TMatrix) × (List TMatrix))))) (_p0 : Int) (_p1 : Int) (p2 : (List Int)) (_p3 : (List TMatrix)) : (((List TMatrix) × (List TMatrix)) ⊕ (((List Int) × (List TMatrix)) ⊕ ((List Int) × (List TMatrix) × (List TMatrix)))) → CallOut
 | .inl r => ⟨(.ref (1, 0) []), [⟨false, (.sl (.int .i64)), (.imm true), p2⟩, ⟨false, (.sl kMatrix), .gone, r.1⟩], [⟨false, (.sl kMatrix), (.sl (.imm true)), r.2⟩]⟩
 | .inr (.inl r) => ⟨(.ref (0, 1) []), [⟨false, (.sl (.int .i64)), .own, r.1⟩, ⟨false, (.sl kMatrix), (.sl (.imm true)), r.2⟩], []⟩
 | .inr (.inr r) => ⟨(.ref (1, 0) []), [⟨false, (.sl (.int .i64)), .own, r.1⟩, ⟨false, (.sl kMatrix), .gone, r.2.1⟩], [⟨false, (.sl kMatrix), (.sl (.imm true)), r.2.2⟩]⟩
noncomputable def s_l02Ascend_f170_G (g_ : Int → Int → (List Int) → (List TMatrix) → Option (((List TMatrix) × (List TMatrix)) ⊕ (((List Int) × (List TMatrix)) ⊕ ((List Int) × (List TMatrix) × (List TMatrix))))) (av : List AV) (rs : List Root) : Tre CallOut :=
 asCons av fun a0_ av0 =>
 asCons av0 fun a1_ av1 =>
 asCons av1 fun a2_ av2 =>
 asCons av2 fun a3_ av3 =>
 asEnd av3 <|
 asCons rs fun r0_ rs0 =>
 asCons rs0 fun r1_ rs1 =>
 asEnd rs1 <|
 asImmZ true (.int .i64) a0_ fun d1 =>
 asImmZ true (.int .i64) a1_ fun d2 =>
 asRef (0, 0) [] a2_ <|
 asRef (0, 1) [] a3_ <|
 asRt false (.sl (.int .i64)) r0_ fun m3 d4 =>
 asM .own m3 <|
 asRt false (.sl kMatrix) r1_ fun m5 d6 =>
 asM (.sl (.imm true)) m5 <|
 .mat (g_ d1 d2 d4 d6) fun r => .alt r (fun a0 => .ret ((s_l02Ascend_f170_out g_) d1 d2 d4 d6 (.inl a0))) (fun b0 => .alt b0 (fun a1 => .ret ((s_l02Ascend_f170_out g_) d1 d2 d4 d6 (.inr (.inl a1)))) (fun b1 => .ret ((s_l02Ascend_f170_out g_) d1 d2 d4 d6 (.inr (.inr b1)))))
noncomputable def s_l02Ascend_f170_c (g_ : Int → Int → (List Int) → (List TMatrix) → Option (((List TMatrix) × (List TMatrix)) ⊕ (((List Int) × (List TMatrix)) ⊕ ((List Int) × (List TMatrix) × (List TMatrix))))) : Ctr := ⟨[2, 3], fun ci => (s_l02Ascend_f170_G g_) ci.args ci.roots, false⟩
noncomputable def s_l02Ascend_f170_V (g_ : Int → Int → (List Int) → (List TMatrix) → Option (((List TMatrix) × (List TMatrix)) ⊕ (((List Int) × (List TMatrix)) ⊕ ((List Int) × (List TMatrix) × (List TMatrix))))) : Env := ⟨tau, [(134, s_l02Lead_c), (105, s_l00Own_c), (135, s_l02Forced_c), (56, s_l02Echelon_c), (75, s_l00Same_c), (83, (s_l02Ascend_f170_c g_))], [(1, [((0, 1), [], true)]), (2, [((0, 0), [], false)])]⟩
noncomputable def s_l02Ascend_f170_b (_g_ : Int → Int → (List Int) → (List TMatrix) → Option (((List TMatrix) × (List TMatrix)) ⊕ (((List Int) × (List TMatrix)) ⊕ ((List Int) × (List TMatrix) × (List TMatrix))))) : Code := (Try.f83.body).getD .skip
noncomputable def s_l02Ascend_f170_l4_mk (_g_ : Int → Int → (List Int) → (List TMatrix) → Option (((List TMatrix) × (List TMatrix)) ⊕ (((List Int) × (List TMatrix)) ⊕ ((List Int) × (List TMatrix) × (List TMatrix))))) : ((Int × Int × Int × (List Int) × (List TMatrix)) ⊕ (Int × Int × Int × (List Int) × (List TMatrix) × (List TMatrix))) → St
 | .inl x => stOf [(0, (.imm true (.int .i64) x.1)), (1, (.imm true (.int .i64) x.2.1)), (2, (.ref (0, 0) [])), (3, (.ref (0, 1) [])), (9, (.imm true (.int .i64) x.2.2.1))] [((0, 0), some ⟨false, (.sl (.int .i64)), .own, x.2.2.2.1⟩), ((0, 1), some ⟨false, (.sl kMatrix), (.sl (.imm true)), x.2.2.2.2⟩), ((5, 0), none)]
 | .inr x => stOf [(0, (.imm true (.int .i64) x.1)), (1, (.imm true (.int .i64) x.2.1)), (2, (.ref (0, 0) [])), (3, (.ref (5, 0) [])), (9, (.imm true (.int .i64) x.2.2.1))] [((0, 0), some ⟨false, (.sl (.int .i64)), .own, x.2.2.2.1⟩), ((0, 1), some ⟨false, (.sl kMatrix), .gone, x.2.2.2.2.1⟩), ((5, 0), some ⟨false, (.sl kMatrix), (.sl (.imm true)), x.2.2.2.2.2⟩)]
noncomputable def s_l02Ascend_f170_l4_out (_g_ : Int → Int → (List Int) → (List TMatrix) → Option (((List TMatrix) × (List TMatrix)) ⊕ (((List Int) × (List TMatrix)) ⊕ ((List Int) × (List TMatrix) × (List TMatrix))))) : (((List Int) × (List TMatrix)) ⊕ ((List Int) × (List TMatrix) × (List TMatrix))) → Ex × St
 | .inl x => (.exit 0, stOf [(3, (.ref (0, 1) []))] [((0, 0), some ⟨false, (.sl (.int .i64)), .own, x.1⟩), ((0, 1), some ⟨false, (.sl kMatrix), (.sl (.imm true)), x.2⟩), ((5, 0), none)])
 | .inr x => (.exit 0, stOf [(3, (.ref (5, 0) []))] [((0, 0), some ⟨false, (.sl (.int .i64)), .own, x.1⟩), ((0, 1), some ⟨false, (.sl kMatrix), .gone, x.2.1⟩), ((5, 0), some ⟨false, (.sl kMatrix), (.sl (.imm true)), x.2.2⟩)])
noncomputable def s_l02Ascend_f170_l4_D (g_ : Int → Int → (List Int) → (List TMatrix) → Option (((List TMatrix) × (List TMatrix)) ⊕ (((List Int) × (List TMatrix)) ⊕ ((List Int) × (List TMatrix) × (List TMatrix))))) (s : St) : Tre (Ex × St) :=
 cond (AV.isRefTo (0, 1) (s.tmps 3))
 (asImmZ true (.int .i64) (s.tmps 0) fun d2 =>
 asImmZ true (.int .i64) (s.tmps 1) fun d4 =>
 asRef (0, 0) [] (s.tmps 2) <|
 asRef (0, 1) [] (s.tmps 3) <|
 asImmZ true (.int .i64) (s.tmps 9) fun d8 =>
 asRoot false (.sl (.int .i64)) (s.roots (0, 0)) fun m10 d11 =>
 asM .own m10 <|
 asRoot false (.sl kMatrix) (s.roots (0, 1)) fun m13 d14 =>
 asM (.sl (.imm true)) m13 <|
 asNo (s.roots (5, 0)) <|
 .mat (loopF (s_l02Ascend_f170_l4 g_) (.inl (d2, d4, d8, d11, d14))) fun x => .alt x (fun a0 => .ret ((s_l02Ascend_f170_l4_out g_) (.inl a0))) (fun b0 => .ret ((s_l02Ascend_f170_l4_out g_) (.inr b0))))
 (asImmZ true (.int .i64) (s.tmps 0) fun d2 =>
 asImmZ true (.int .i64) (s.tmps 1) fun d4 =>
 asRef (0, 0) [] (s.tmps 2) <|
 asRef (5, 0) [] (s.tmps 3) <|
 asImmZ true (.int .i64) (s.tmps 9) fun d8 =>
 asRoot false (.sl (.int .i64)) (s.roots (0, 0)) fun m10 d11 =>
 asM .own m10 <|
 asRoot false (.sl kMatrix) (s.roots (0, 1)) fun m13 d14 =>
 asM .gone m13 <|
 asRoot false (.sl kMatrix) (s.roots (5, 0)) fun m16 d17 =>
 asM (.sl (.imm true)) m16 <|
 .mat (loopF (s_l02Ascend_f170_l4 g_) (.inr (d2, d4, d8, d11, d14, d17))) fun x => .alt x (fun a0 => .ret ((s_l02Ascend_f170_l4_out g_) (.inl a0))) (fun b0 => .ret ((s_l02Ascend_f170_l4_out g_) (.inr b0))))
noncomputable def s_l02Ascend_f170_l4_L (g_ : Int → Int → (List Int) → (List TMatrix) → Option (((List TMatrix) × (List TMatrix)) ⊕ (((List Int) × (List TMatrix)) ⊕ ((List Int) × (List TMatrix) × (List TMatrix))))) : LoopI := ⟨([0, 1, 2, 3, 9], [(0, 0), (0, 1), (5, 0)]), ([3], [(0, 0), (0, 1), (5, 0)]), (s_l02Ascend_f170_l4_D g_)⟩
noncomputable def s_l02Ascend_f170_A (g_ : Int → Int → (List Int) → (List TMatrix) → Option (((List TMatrix) × (List TMatrix)) ⊕ (((List Int) × (List TMatrix)) ⊕ ((List Int) × (List TMatrix) × (List TMatrix))))) : List (Nat × LoopI) := [(4, (s_l02Ascend_f170_l4_L g_))]
set_option maxRecDepth 100000 in
theorem s_l02Ascend_f170_l4_step (g_ : Int → Int → (List Int) → (List TMatrix) → Option (((List TMatrix) × (List TMatrix)) ⊕ (((List Int) × (List TMatrix)) ⊕ ((List Int) × (List TMatrix) × (List TMatrix))))) : ∀ (x : ((Int × Int × Int × (List Int) × (List TMatrix)) ⊕ (Int × Int × Int × (List Int) × (List TMatrix) × (List TMatrix)))) (c : St → Option (Ex × St)), den (s_l02Ascend_f170_V g_) (s_l02Ascend_f170_A g_) (loopAt (s_l02Ascend_f170_b g_) 0) ((s_l02Ascend_f170_l4_mk g_) x) (roundK (s_l02Ascend_f170_l4_L g_).kp (s_l02Ascend_f170_l4_L g_).kx c) = ((s_l02Ascend_f170_l4 g_) x).run (roundR ((s_l02Ascend_f170_l4_mk g_)) ((s_l02Ascend_f170_l4_out g_)) c) := fun x _ => by
 rcases x with x | x <;> kernel_rfl
theorem s_l02Ascend_f170_l4_ok (g_ : Int → Int → (List Int) → (List TMatrix) → Option (((List TMatrix) × (List TMatrix)) ⊕ (((List Int) × (List TMatrix)) ⊕ ((List Int) × (List TMatrix) × (List TMatrix))))) : LoopOK (s_l02Ascend_f170_V g_) (s_l02Ascend_f170_A g_) (loopAt (s_l02Ascend_f170_b g_) 0) (s_l02Ascend_f170_l4_L g_) := loopOK_of fun s e s' h => by
 generalize hs : restrict (s_l02Ascend_f170_l4_L g_).kp s = s1 at h
 have h : ((s_l02Ascend_f170_l4_D g_) s1).run some = some (e, s') := h
 cases ht0 : AV.isRefTo (0, 1) (s1.tmps 3) with
 | true =>
  have h := tre_true ht0 h
  obtain ⟨d2, e1, h_0⟩ := asImmZ_spec h
  obtain ⟨d4, e3, h_1⟩ := asImmZ_spec h_0
  obtain ⟨e5, h_2⟩ := asRef_spec h_1
  obtain ⟨e6, h_3⟩ := asRef_spec h_2
  obtain ⟨d8, e7, h_4⟩ := asImmZ_spec h_3
  obtain ⟨m10, d11, e9, h_5⟩ := asRoot_spec h_4
  obtain ⟨rfl, h_6⟩ := asM_spec h_5
  obtain ⟨m13, d14, e12, h_7⟩ := asRoot_spec h_6
  obtain ⟨rfl, h_8⟩ := asM_spec h_7
  obtain ⟨e15, h_9⟩ := asNo_spec h_8
  obtain ⟨y, hy, hz⟩ := mat_some h_9
  refine ⟨_, _, (s_l02Ascend_f170_l4_mk g_), (s_l02Ascend_f170_l4_out g_), (s_l02Ascend_f170_l4 g_), (.inl (d2, d4, d8, d11, d14)), y, ?_, hy, ?_, (s_l02Ascend_f170_l4_step g_)⟩
  ·subst hs; exact restrict_eq (T := [(0, (.imm true (.int .i64) d2)), (1, (.imm true (.int .i64) d4)), (2, (.ref (0, 0) [])), (3, (.ref (0, 1) [])), (9, (.imm true (.int .i64) d8))]) (U := [((0, 0), some ⟨false, (.sl (.int .i64)), .own, d11⟩), ((0, 1), some ⟨false, (.sl kMatrix), (.sl (.imm true)), d14⟩), ((5, 0), none)]) rfl rfl ⟨e1, e3, e5, e6, e7, trivial⟩ ⟨e9, e12, e15, trivial⟩
  ·rcases y with x | x <;> exact Option.some.inj hz
 | false =>
  have h := tre_false ht0 h
  obtain ⟨d2, e1, h_0⟩ := asImmZ_spec h
  obtain ⟨d4, e3, h_1⟩ := asImmZ_spec h_0
  obtain ⟨e5, h_2⟩ := asRef_spec h_1
  obtain ⟨e6, h_3⟩ := asRef_spec h_2
  obtain ⟨d8, e7, h_4⟩ := asImmZ_spec h_3
  obtain ⟨m10, d11, e9, h_5⟩ := asRoot_spec h_4
  obtain ⟨rfl, h_6⟩ := asM_spec h_5
  obtain ⟨m13, d14, e12, h_7⟩ := asRoot_spec h_6
  obtain ⟨rfl, h_8⟩ := asM_spec h_7
  obtain ⟨m16, d17, e15, h_9⟩ := asRoot_spec h_8
  obtain ⟨rfl, h_10⟩ := asM_spec h_9
  obtain ⟨y, hy, hz⟩ := mat_some h_10
  refine ⟨_, _, (s_l02Ascend_f170_l4_mk g_), (s_l02Ascend_f170_l4_out g_), (s_l02Ascend_f170_l4 g_), (.inr (d2, d4, d8, d11, d14, d17)), y, ?_, hy, ?_, (s_l02Ascend_f170_l4_step g_)⟩
  ·subst hs; exact restrict_eq (T := [(0, (.imm true (.int .i64) d2)), (1, (.imm true (.int .i64) d4)), (2, (.ref (0, 0) [])), (3, (.ref (5, 0) [])), (9, (.imm true (.int .i64) d8))]) (U := [((0, 0), some ⟨false, (.sl (.int .i64)), .own, d11⟩), ((0, 1), some ⟨false, (.sl kMatrix), .gone, d14⟩), ((5, 0), some ⟨false, (.sl kMatrix), (.sl (.imm true)), d17⟩)]) rfl rfl ⟨e1, e3, e5, e6, e7, trivial⟩ ⟨e9, e12, e15, trivial⟩
  ·rcases y with x | x <;> exact Option.some.inj hz
noncomputable def s_l02Ascend_f170_I (g_ : Int → Int → (List Int) → (List TMatrix) → Option (((List TMatrix) × (List TMatrix)) ⊕ (((List Int) × (List TMatrix)) ⊕ ((List Int) × (List TMatrix) × (List TMatrix))))) : FnI := ⟨(s_l02Ascend_f170_b g_), Try.f83.results.toList, Try.f83.resultTypes.toList, (s_l02Ascend_f170_A g_)⟩
set_option maxRecDepth 100000 in
theorem s_l02Ascend_f170_eq (g_ : Int → Int → (List Int) → (List TMatrix) → Option (((List TMatrix) × (List TMatrix)) ⊕ (((List Int) × (List TMatrix)) ⊕ ((List Int) × (List TMatrix) × (List TMatrix))))) : ∀ (p0 : Int) (p1 : Int) (p2 : (List Int)) (p3 : (List TMatrix)), denFn (s_l02Ascend_f170_V g_) (s_l02Ascend_f170_I g_) ⟨[(.imm true (.int .i64) p0), (.imm true (.int .i64) p1), (.ref (0, 0) []), (.ref (0, 1) [])], [⟨false, (.sl (.int .i64)), .own, p2⟩, ⟨false, (.sl kMatrix), (.sl (.imm true)), p3⟩]⟩ = ((s_l02Ascend_f170 g_) p0 p1 p2 p3).run fun r => some ((s_l02Ascend_f170_out g_) p0 p1 p2 p3 r) := fun _ _ _ _ => by kernel_rfl
theorem s_l02Ascend_f170_env (g_ : Int → Int → (List Int) → (List TMatrix) → Option (((List TMatrix) × (List TMatrix)) ⊕ (((List Int) × (List TMatrix)) ⊕ ((List Int) × (List TMatrix) × (List TMatrix))))) (hg_ : Contract Try.prog .none 83 (s_l02Ascend_f170_c g_)) : EnvOK Try.prog .none (s_l02Ascend_f170_V g_) := (envOK_cons s_l02Lead_ok ent134 (envOK_cons s_l00Own_ok ent105 (envOK_cons s_l02Forced_ok ent135 (envOK_cons s_l02Echelon_ok ent56 (envOK_cons s_l00Same_ok ent75 (envOK_cons hg_ ent83 envOK_nil))))))
set_option maxRecDepth 100000 in
theorem s_l02Ascend_f170_okS (g_ : Int → Int → (List Int) → (List TMatrix) → Option (((List TMatrix) × (List TMatrix)) ⊕ (((List Int) × (List TMatrix)) ⊕ ((List Int) × (List TMatrix) × (List TMatrix))))) (hg_ : Contract Try.prog .none 83 (s_l02Ascend_f170_c g_)) : Contract Try.prog .none 83 (s_l02Ascend_f170_c (fun p0 p1 p2 p3 => (s_l02Ascend_f170 g_ p0 p1 p2 p3).run some)) := by
 have hl : LoopsOK (s_l02Ascend_f170_V g_) (s_l02Ascend_f170_A g_) (s_l02Ascend_f170_b g_) := (loopsOK_all (n := 1) (by kernel_rfl) fun k hk => by
   match k, hk with
   | 0, _ => exact loopOK_at (id := 4) (L := (s_l02Ascend_f170_l4_L g_)) (by kernel_rfl) (by kernel_rfl) (s_l02Ascend_f170_l4_ok g_))
 refine (contract_of (F := (s_l02Ascend_f170_I g_)) tau_tys ((s_l02Ascend_f170_env g_) hg_) Try.func83 (by kernel_rfl) (by kernel_rfl) (by kernel_rfl) hl [2, 3]).weaken ?_
 rintro ⟨av, rs⟩ co h
 have h : (s_l02Ascend_f170_G (fun p0 p1 p2 p3 => (s_l02Ascend_f170 g_ p0 p1 p2 p3).run some) av rs).run some = some co := h
 obtain ⟨a0_, av0, rfl, h_0⟩ := asCons_spec h
 obtain ⟨a1_, av1, rfl, h_1⟩ := asCons_spec h_0
 obtain ⟨a2_, av2, rfl, h_2⟩ := asCons_spec h_1
 obtain ⟨a3_, av3, rfl, h_3⟩ := asCons_spec h_2
 obtain ⟨rfl, h_4⟩ := asEnd_spec h_3
 obtain ⟨r0_, rs0, rfl, h_5⟩ := asCons_spec h_4
 obtain ⟨r1_, rs1, rfl, h_6⟩ := asCons_spec h_5
 obtain ⟨rfl, h_7⟩ := asEnd_spec h_6
 obtain ⟨d1, rfl, h_8⟩ := asImmZ_spec h_7
 obtain ⟨d2, rfl, h_9⟩ := asImmZ_spec h_8
 obtain ⟨rfl, h_10⟩ := asRef_spec h_9
 obtain ⟨rfl, h_11⟩ := asRef_spec h_10
 obtain ⟨m3, d4, rfl, h_12⟩ := asRt_spec h_11
 obtain ⟨rfl, h_13⟩ := asM_spec h_12
 obtain ⟨m5, d6, rfl, h_14⟩ := asRt_spec h_13
 obtain ⟨rfl, h_15⟩ := asM_spec h_14
 exact fin_mats ((s_l02Ascend_f170_eq g_) d1 d2 d4 d6) h_15 (by rintro (x | (x | x)) <;> rfl)
theorem s_l02Ascend_f170_ok0 : Contract Try.prog .none 83 (s_l02Ascend_f170_c (fun _ _ _ _ => none)) := Contract.vacuous (by
 rintro ⟨av, rs⟩ co h
 have h : (s_l02Ascend_f170_G (fun _ _ _ _ => none) av rs).run some = some co := h
 obtain ⟨a0_, av0, rfl, h_0⟩ := asCons_spec h
 obtain ⟨a1_, av1, rfl, h_1⟩ := asCons_spec h_0
 obtain ⟨a2_, av2, rfl, h_2⟩ := asCons_spec h_1
 obtain ⟨a3_, av3, rfl, h_3⟩ := asCons_spec h_2
 obtain ⟨rfl, h_4⟩ := asEnd_spec h_3
 obtain ⟨r0_, rs0, rfl, h_5⟩ := asCons_spec h_4
 obtain ⟨r1_, rs1, rfl, h_6⟩ := asCons_spec h_5
 obtain ⟨rfl, h_7⟩ := asEnd_spec h_6
 obtain ⟨d1, rfl, h_8⟩ := asImmZ_spec h_7
 obtain ⟨d2, rfl, h_9⟩ := asImmZ_spec h_8
 obtain ⟨rfl, h_10⟩ := asRef_spec h_9
 obtain ⟨rfl, h_11⟩ := asRef_spec h_10
 obtain ⟨m3, d4, rfl, h_12⟩ := asRt_spec h_11
 obtain ⟨rfl, h_13⟩ := asM_spec h_12
 obtain ⟨m5, d6, rfl, h_14⟩ := asRt_spec h_13
 obtain ⟨rfl, h_15⟩ := asM_spec h_14
 exact mat_none_absurd h_15)
theorem s_l02Ascend_f170_okN : ∀ n, Contract Try.prog .none 83 (s_l02Ascend_f170_c (s_l02Ascend_f170_R n))
 | 0 => s_l02Ascend_f170_ok0
 | n + 1 => s_l02Ascend_f170_okS _ (s_l02Ascend_f170_okN n)
theorem s_l02Ascend_f170_ok : Contract Try.prog .none 83 (s_l02Ascend_f170_c s_l02Ascend_f170_F) := s_l02Ascend_f170_okN _
end Go.Proofs.Ythnkanacjhlhhaa

namespace Go.Proofs.Ythnkanacjhlhhaa
open Go Go.Abs Go.Proofs
noncomputable def s_l02Ascend_498a_l4 : ((Int × Int × Int × (List Int) × (List TMatrix)) ⊕ (Int × Int × Int × (List Int) × (List TMatrix) × (List TMatrix))) → Tre (((Int × Int × Int × (List Int) × (List TMatrix)) ⊕ (Int × Int × Int × (List Int) × (List TMatrix) × (List TMatrix))) ⊕ (((List Int) × (List TMatrix)) ⊕ ((List Int) × (List TMatrix) × (List TMatrix))))
 | .inl s4 =>
  .ite (0 ≤ iwrap .u64 s4.1) <|
  let v14 := ishl .i64 1 (iwrap .u64 s4.1)
  .cond (decide (s4.2.2.1 < v14))
   (.mat (s_l02Lead_F s4.2.2.1) fun r15 =>
   let v16 := iwrap .i64 (s4.1 - s4.2.1)
   .cond (decide (r15 > v16))
    (.ret (.inl (.inl (s4.1, s4.2.1, iwrap .i64 (s4.2.2.1 + 1), s4.2.2.2.1, s4.2.2.2.2))))
    (.mat (cloneR s4.2.2.2.1) fun r17 =>
    .ite ((r17.length + 1) * 8 ≤ appendMax ∧ 1 ≤ 8) <|
    .mat (s_l02Forced_F s4.1 (r17 ++ ([s4.2.2.1]))) fun r18 =>
    let v19 := iwrap .i64 (r18 + (s4.2.2.2.1.length : Int))
    let v20 := iwrap .i64 (v19 + s4.2.1)
    .cond (decide (v20 ≤ s4.1))
     (.mat (s_l02Echelon_F s4.1 (r17 ++ ([s4.2.2.1]))) fun r21 =>
     .mat (sameL r21 (r17 ++ ([s4.2.2.1]))) fun r22 =>
     .cond r22
      (.mat (s_l02Ascend_f170_F s4.1 (iwrap .i64 (s4.2.1 - 1)) (r17 ++ ([s4.2.2.1])) s4.2.2.2.2) fun r23 =>
      .alt r23
       (fun a24 =>
        .ret (.inl (.inr (s4.1, s4.2.1, iwrap .i64 (s4.2.2.1 + 1), s4.2.2.2.1, a24.1, a24.2))))
       (fun b25 =>
        .alt b25
         (fun a26 =>
          .ret (.inl (.inl (s4.1, s4.2.1, iwrap .i64 (s4.2.2.1 + 1), s4.2.2.2.1, a26.2))))
         (fun b27 =>
          .ret (.inl (.inr (s4.1, s4.2.1, iwrap .i64 (s4.2.2.1 + 1), s4.2.2.2.1, b27.2.1, b27.2.2))))))
      (.ret (.inl (.inl (s4.1, s4.2.1, iwrap .i64 (s4.2.2.1 + 1), s4.2.2.2.1, s4.2.2.2.2)))))
     (.ret (.inl (.inl (s4.1, s4.2.1, iwrap .i64 (s4.2.2.1 + 1), s4.2.2.2.1, s4.2.2.2.2))))))
   (.ret (.inr (.inl (s4.2.2.2.1, s4.2.2.2.2))))
 | .inr s4 =>
  .ite (0 ≤ iwrap .u64 s4.1) <|
  let v28 := ishl .i64 1 (iwrap .u64 s4.1)
  .cond (decide (s4.2.2.1 < v28))
   (.mat (s_l02Lead_F s4.2.2.1) fun r29 =>
   let v30 := iwrap .i64 (s4.1 - s4.2.1)
   .cond (decide (r29 > v30))
    (.ret (.inl (.inr (s4.1, s4.2.1, iwrap .i64 (s4.2.2.1 + 1), s4.2.2.2.1, s4.2.2.2.2.1, s4.2.2.2.2.2))))
    (.mat (cloneR s4.2.2.2.1) fun r31 =>
    .ite ((r31.length + 1) * 8 ≤ appendMax ∧ 1 ≤ 8) <|
    .mat (s_l02Forced_F s4.1 (r31 ++ ([s4.2.2.1]))) fun r32 =>
    let v33 := iwrap .i64 (r32 + (s4.2.2.2.1.length : Int))
    let v34 := iwrap .i64 (v33 + s4.2.1)
    .cond (decide (v34 ≤ s4.1))
     (.mat (s_l02Echelon_F s4.1 (r31 ++ ([s4.2.2.1]))) fun r35 =>
     .mat (sameL r35 (r31 ++ ([s4.2.2.1]))) fun r36 =>
     .cond r36
      (.mat (s_l02Ascend_f170_F s4.1 (iwrap .i64 (s4.2.1 - 1)) (r31 ++ ([s4.2.2.1])) s4.2.2.2.2.2) fun r37 =>
      .alt r37
       (fun a38 =>
        .ret (.inl (.inr (s4.1, s4.2.1, iwrap .i64 (s4.2.2.1 + 1), s4.2.2.2.1, s4.2.2.2.2.1, a38.2))))
       (fun b39 =>
        .alt b39
         (fun a40 =>
          .ret (.inl (.inr (s4.1, s4.2.1, iwrap .i64 (s4.2.2.1 + 1), s4.2.2.2.1, s4.2.2.2.2.1, a40.2))))
         (fun b41 =>
          .ret (.inl (.inr (s4.1, s4.2.1, iwrap .i64 (s4.2.2.1 + 1), s4.2.2.2.1, s4.2.2.2.2.1, b41.2.2))))))
      (.ret (.inl (.inr (s4.1, s4.2.1, iwrap .i64 (s4.2.2.1 + 1), s4.2.2.2.1, s4.2.2.2.2.1, s4.2.2.2.2.2)))))
     (.ret (.inl (.inr (s4.1, s4.2.1, iwrap .i64 (s4.2.2.1 + 1), s4.2.2.2.1, s4.2.2.2.2.1, s4.2.2.2.2.2))))))
   (.ret (.inr (.inr (s4.2.2.2.1, s4.2.2.2.2.1, s4.2.2.2.2.2))))
noncomputable def s_l02Ascend_498a (p0 : Int) (p1 : Int) (p2 : (List Int)) (p3 : (List TMatrix)) : Tre (((List TMatrix) × (List TMatrix)) ⊕ (((List Int) × (List TMatrix)) ⊕ ((List Int) × (List TMatrix) × (List TMatrix)))) :=
 .cond (decide (p1 = 0))
  (.ite ((p3.length + 1) * 32 ≤ appendMax ∧ 1 ≤ 32) <|
  .ret (.inl ([], p3 ++ ([(p0, (p2, ()))]))))
  (.mat (loopF s_l02Ascend_498a_l4 (.inl (p0, p1, 1, p2, p3))) fun l42 =>
  .alt l42
   (fun a43 =>
    .ret (.inr (.inl (a43.1, a43.2))))
   (fun b44 =>
    .ret (.inr (.inr (b44.1, b44.2.1, b44.2.2)))))
noncomputable def s_l02Ascend_498a_F (p0 : Int) (p1 : Int) (p2 : (List Int)) (p3 : (List TMatrix)) : Option (((List TMatrix) × (List TMatrix)) ⊕ (((List Int) × (List TMatrix)) ⊕ ((List Int) × (List TMatrix) × (List TMatrix)))) := (s_l02Ascend_498a p0 p1 p2 p3).run some
noncomputable def s_l02Ascend_498a_V : Env := ⟨tau, [(134, s_l02Lead_c), (105, s_l00Own_c), (135, s_l02Forced_c), (56, s_l02Echelon_c), (75, s_l00Same_c), (83, (s_l02Ascend_f170_c s_l02Ascend_f170_F))], [(1, [((0, 1), [], true)]), (2, [((0, 0), [], false)])]⟩
noncomputable def s_l02Ascend_498a_b : Code := (Try.f83.body).getD .skip
noncomputable def s_l02Ascend_498a_l4_mk : ((Int × Int × Int × (List Int) × (List TMatrix)) ⊕ (Int × Int × Int × (List Int) × (List TMatrix) × (List TMatrix))) → St
 | .inl x => stOf [(0, (.imm true (.int .i64) x.1)), (1, (.imm true (.int .i64) x.2.1)), (2, (.ref (0, 0) [])), (3, (.ref (0, 1) [])), (9, (.imm true (.int .i64) x.2.2.1))] [((0, 0), some ⟨false, (.sl (.int .i64)), .own, x.2.2.2.1⟩), ((0, 1), some ⟨false, (.sl kMatrix), (.sl (.imm true)), x.2.2.2.2⟩), ((5, 0), none)]
 | .inr x => stOf [(0, (.imm true (.int .i64) x.1)), (1, (.imm true (.int .i64) x.2.1)), (2, (.ref (0, 0) [])), (3, (.ref (5, 0) [])), (9, (.imm true (.int .i64) x.2.2.1))] [((0, 0), some ⟨false, (.sl (.int .i64)), .own, x.2.2.2.1⟩), ((0, 1), some ⟨false, (.sl kMatrix), .gone, x.2.2.2.2.1⟩), ((5, 0), some ⟨false, (.sl kMatrix), (.sl (.imm true)), x.2.2.2.2.2⟩)]
noncomputable def s_l02Ascend_498a_l4_out : (((List Int) × (List TMatrix)) ⊕ ((List Int) × (List TMatrix) × (List TMatrix))) → Ex × St
 | .inl x => (.exit 0, stOf [(3, (.ref (0, 1) []))] [((0, 0), some ⟨false, (.sl (.int .i64)), .own, x.1⟩), ((0, 1), some ⟨false, (.sl kMatrix), (.sl (.imm true)), x.2⟩), ((5, 0), none)])
 | .inr x => (.exit 0, stOf [(3, (.ref (5, 0) []))] [((0, 0), some ⟨false, (.sl (.int .i64)), .own, x.1⟩), ((0, 1), some ⟨false, (.sl kMatrix), .gone, x.2.1⟩), ((5, 0), some ⟨false, (.sl kMatrix), (.sl (.imm true)), x.2.2⟩)])
noncomputable def s_l02Ascend_498a_l4_D (s : St) : Tre (Ex × St) :=
 cond (AV.isRefTo (0, 1) (s.tmps 3))
 (asImmZ true (.int .i64) (s.tmps 0) fun d2 =>
 asImmZ true (.int .i64) (s.tmps 1) fun d4 =>
 asRef (0, 0) [] (s.tmps 2) <|
 asRef (0, 1) [] (s.tmps 3) <|
 asImmZ true (.int .i64) (s.tmps 9) fun d8 =>
 asRoot false (.sl (.int .i64)) (s.roots (0, 0)) fun m10 d11 =>
 asM .own m10 <|
 asRoot false (.sl kMatrix) (s.roots (0, 1)) fun m13 d14 =>
 asM (.sl (.imm true)) m13 <|
 asNo (s.roots (5, 0)) <|
 .mat (loopF s_l02Ascend_498a_l4 (.inl (d2, d4, d8, d11, d14))) fun x => .alt x (fun a0 => .ret (s_l02Ascend_498a_l4_out (.inl a0))) (fun b0 => .ret (s_l02Ascend_498a_l4_out (.inr b0))))
 (asImmZ true (.int .i64) (s.tmps 0) fun d2 =>
 asImmZ true (.int .i64) (s.tmps 1) fun d4 =>
 asRef (0, 0) [] (s.tmps 2) <|
 asRef (5, 0) [] (s.tmps 3) <|
 asImmZ true (.int .i64) (s.tmps 9) fun d8 =>
 asRoot false (.sl (.int .i64)) (s.roots (0, 0)) fun m10 d11 =>
 asM .own m10 <|
 asRoot false (.sl kMatrix) (s.roots (0, 1)) fun m13 d14 =>
 asM .gone m13 <|
 asRoot false (.sl kMatrix) (s.roots (5, 0)) fun m16 d17 =>
 asM (.sl (.imm true)) m16 <|
 .mat (loopF s_l02Ascend_498a_l4 (.inr (d2, d4, d8, d11, d14, d17))) fun x => .alt x (fun a0 => .ret (s_l02Ascend_498a_l4_out (.inl a0))) (fun b0 => .ret (s_l02Ascend_498a_l4_out (.inr b0))))
noncomputable def s_l02Ascend_498a_l4_L : LoopI := ⟨([0, 1, 2, 3, 9], [(0, 0), (0, 1), (5, 0)]), ([3], [(0, 0), (0, 1), (5, 0)]), s_l02Ascend_498a_l4_D⟩
noncomputable def s_l02Ascend_498a_A : List (Nat × LoopI) := [(4, s_l02Ascend_498a_l4_L)]
set_option maxRecDepth 100000 in
theorem s_l02Ascend_498a_l4_step : ∀ (x : ((Int × Int × Int × (List Int) × (List TMatrix)) ⊕ (Int × Int × Int × (List Int) × (List TMatrix) × (List TMatrix)))) (c : St → Option (Ex × St)), den s_l02Ascend_498a_V s_l02Ascend_498a_A (loopAt s_l02Ascend_498a_b 0) (s_l02Ascend_498a_l4_mk x) (roundK s_l02Ascend_498a_l4_L.kp s_l02Ascend_498a_l4_L.kx c) = (s_l02Ascend_498a_l4 x).run (roundR (s_l02Ascend_498a_l4_mk) (s_l02Ascend_498a_l4_out) c) := fun x _ => by
 rcases x with x | x <;> kernel_rfl
theorem s_l02Ascend_498a_l4_ok : LoopOK s_l02Ascend_498a_V s_l02Ascend_498a_A (loopAt s_l02Ascend_498a_b 0) s_l02Ascend_498a_l4_L := loopOK_of fun s e s' h => by
 generalize hs : restrict s_l02Ascend_498a_l4_L.kp s = s1 at h
 have h : (s_l02Ascend_498a_l4_D s1).run some = some (e, s') := h
 cases ht0 : AV.isRefTo (0, 1) (s1.tmps 3) with
 | true =>
  have h := tre_true ht0 h
  obtain ⟨d2, e1, h_0⟩ := asImmZ_spec h
  obtain ⟨d4, e3, h_1⟩ := asImmZ_spec h_0
  obtain ⟨e5, h_2⟩ := asRef_spec h_1
  obtain ⟨e6, h_3⟩ := asRef_spec h_2
  obtain ⟨d8, e7, h_4⟩ := asImmZ_spec h_3
  obtain ⟨m10, d11, e9, h_5⟩ := asRoot_spec h_4
  obtain ⟨rfl, h_6⟩ := asM_spec h_5
  obtain ⟨m13, d14, e12, h_7⟩ := asRoot_spec h_6
  obtain ⟨rfl, h_8⟩ := asM_spec h_7
  obtain ⟨e15, h_9⟩ := asNo_spec h_8
  obtain ⟨y, hy, hz⟩ := mat_some h_9
  refine ⟨_, _, s_l02Ascend_498a_l4_mk, s_l02Ascend_498a_l4_out, s_l02Ascend_498a_l4, (.inl (d2, d4, d8, d11, d14)), y, ?_, hy, ?_, s_l02Ascend_498a_l4_step⟩
  ·subst hs; exact restrict_eq (T := [(0, (.imm true (.int .i64) d2)), (1, (.imm true (.int .i64) d4)), (2, (.ref (0, 0) [])), (3, (.ref (0, 1) [])), (9, (.imm true (.int .i64) d8))]) (U := [((0, 0), some ⟨false, (.sl (.int .i64)), .own, d11⟩), ((0, 1), some ⟨false, (.sl kMatrix), (.sl (.imm true)), d14⟩), ((5, 0), none)]) rfl rfl ⟨e1, e3, e5, e6, e7, trivial⟩ ⟨e9, e12, e15, trivial⟩
  ·rcases y with x | x <;> exact Option.some.inj hz
 | false =>
  have h := tre_false ht0 h
  obtain ⟨d2, e1, h_0⟩ := asImmZ_spec h
  obtain ⟨d4, e3, h_1⟩ := asImmZ_spec h_0
  obtain ⟨e5, h_2⟩ := asRef_spec h_1
  obtain ⟨e6, h_3⟩ := asRef_spec h_2
  obtain ⟨d8, e7, h_4⟩ := asImmZ_spec h_3
  obtain ⟨m10, d11, e9, h_5⟩ := asRoot_spec h_4
  obtain ⟨rfl, h_6⟩ := asM_spec h_5
  obtain ⟨m13, d14, e12, h_7⟩ := asRoot_spec h_6
  obtain ⟨rfl, h_8⟩ := asM_spec h_7
  obtain ⟨m16, d17, e15, h_9⟩ := asRoot_spec h_8
  obtain ⟨rfl, h_10⟩ := asM_spec h_9
  obtain ⟨y, hy, hz⟩ := mat_some h_10
  refine ⟨_, _, s_l02Ascend_498a_l4_mk, s_l02Ascend_498a_l4_out, s_l02Ascend_498a_l4, (.inr (d2, d4, d8, d11, d14, d17)), y, ?_, hy, ?_, s_l02Ascend_498a_l4_step⟩
  ·subst hs; exact restrict_eq (T := [(0, (.imm true (.int .i64) d2)), (1, (.imm true (.int .i64) d4)), (2, (.ref (0, 0) [])), (3, (.ref (5, 0) [])), (9, (.imm true (.int .i64) d8))]) (U := [((0, 0), some ⟨false, (.sl (.int .i64)), .own, d11⟩), ((0, 1), some ⟨false, (.sl kMatrix), .gone, d14⟩), ((5, 0), some ⟨false, (.sl kMatrix), (.sl (.imm true)), d17⟩)]) rfl rfl ⟨e1, e3, e5, e6, e7, trivial⟩ ⟨e9, e12, e15, trivial⟩
  ·rcases y with x | x <;> exact Option.some.inj hz
noncomputable def s_l02Ascend_498a_I : FnI := ⟨s_l02Ascend_498a_b, Try.f83.results.toList, Try.f83.resultTypes.toList, s_l02Ascend_498a_A⟩
noncomputable def s_l02Ascend_498a_out (_p0 : Int) (_p1 : Int) (p2 : (List Int)) (_p3 : (List TMatrix)) : (((List TMatrix) × (List TMatrix)) ⊕ (((List Int) × (List TMatrix)) ⊕ ((List Int) × (List TMatrix) × (List TMatrix)))) → CallOut
 | .inl r => ⟨(.ref (1, 0) []), [⟨false, (.sl (.int .i64)), (.imm true), p2⟩, ⟨false, (.sl kMatrix), .gone, r.1⟩], [⟨false, (.sl kMatrix), (.sl (.imm true)), r.2⟩]⟩
 | .inr (.inl r) => ⟨(.ref (0, 1) []), [⟨false, (.sl (.int .i64)), .own, r.1⟩, ⟨false, (.sl kMatrix), (.sl (.imm true)), r.2⟩], []⟩
 | .inr (.inr r) => ⟨(.ref (1, 0) []), [⟨false, (.sl (.int .i64)), .own, r.1⟩, ⟨false, (.sl kMatrix), .gone, r.2.1⟩], [⟨false, (.sl kMatrix), (.sl (.imm true)), r.2.2⟩]⟩
set_option maxRecDepth 100000 in
theorem s_l02Ascend_498a_eq : ∀ (p0 : Int) (p1 : Int) (p2 : (List Int)) (p3 : (List TMatrix)), denFn s_l02Ascend_498a_V s_l02Ascend_498a_I ⟨[(.imm true (.int .i64) p0), (.imm true (.int .i64) p1), (.ref (0, 0) []), (.ref (0, 1) [])], [⟨false, (.sl (.int .i64)), .own, p2⟩, ⟨false, (.sl kMatrix), .own, p3⟩]⟩ = (s_l02Ascend_498a p0 p1 p2 p3).run fun r => some (s_l02Ascend_498a_out p0 p1 p2 p3 r) := fun _ _ _ _ => by kernel_rfl
noncomputable def s_l02Ascend_498a_G (av : List AV) (rs : List Root) : Tre CallOut :=
 asCons av fun a0_ av0 =>
 asCons av0 fun a1_ av1 =>
 asCons av1 fun a2_ av2 =>
 asCons av2 fun a3_ av3 =>
 asEnd av3 <|
 asCons rs fun r0_ rs0 =>
 asCons rs0 fun r1_ rs1 =>
 asEnd rs1 <|
 asImmZ true (.int .i64) a0_ fun d1 =>
 asImmZ true (.int .i64) a1_ fun d2 =>
 asRef (0, 0) [] a2_ <|
 asRef (0, 1) [] a3_ <|
 asRt false (.sl (.int .i64)) r0_ fun m3 d4 =>
 asM .own m3 <|
 asRt false (.sl kMatrix) r1_ fun m5 d6 =>
 asM .own m5 <|
 .mat (s_l02Ascend_498a_F d1 d2 d4 d6) fun r => .alt r (fun a0 => .ret (s_l02Ascend_498a_out d1 d2 d4 d6 (.inl a0))) (fun b0 => .alt b0 (fun a1 => .ret (s_l02Ascend_498a_out d1 d2 d4 d6 (.inr (.inl a1)))) (fun b1 => .ret (s_l02Ascend_498a_out d1 d2 d4 d6 (.inr (.inr b1)))))
noncomputable def s_l02Ascend_498a_c : Ctr := ⟨[2, 3], fun ci => s_l02Ascend_498a_G ci.args ci.roots, false⟩
theorem s_l02Ascend_498a_env : EnvOK Try.prog .none s_l02Ascend_498a_V := (envOK_cons s_l02Lead_ok ent134 (envOK_cons s_l00Own_ok ent105 (envOK_cons s_l02Forced_ok ent135 (envOK_cons s_l02Echelon_ok ent56 (envOK_cons s_l00Same_ok ent75 (envOK_cons s_l02Ascend_f170_ok ent83 envOK_nil))))))
set_option maxRecDepth 100000 in
theorem s_l02Ascend_498a_ok : Contract Try.prog .none 83 s_l02Ascend_498a_c := by
 have hl : LoopsOK s_l02Ascend_498a_V s_l02Ascend_498a_A s_l02Ascend_498a_b := (loopsOK_all (n := 1) (by kernel_rfl) fun k hk => by
   match k, hk with
   | 0, _ => exact loopOK_at (id := 4) (L := s_l02Ascend_498a_l4_L) (by kernel_rfl) (by kernel_rfl) s_l02Ascend_498a_l4_ok)
 refine (contract_of (F := s_l02Ascend_498a_I) tau_tys s_l02Ascend_498a_env Try.func83 (by kernel_rfl) (by kernel_rfl) (by kernel_rfl) hl [2, 3]).weaken ?_
 rintro ⟨av, rs⟩ co h
 have h : (s_l02Ascend_498a_G av rs).run some = some co := h
 obtain ⟨a0_, av0, rfl, h_0⟩ := asCons_spec h
 obtain ⟨a1_, av1, rfl, h_1⟩ := asCons_spec h_0
 obtain ⟨a2_, av2, rfl, h_2⟩ := asCons_spec h_1
 obtain ⟨a3_, av3, rfl, h_3⟩ := asCons_spec h_2
 obtain ⟨rfl, h_4⟩ := asEnd_spec h_3
 obtain ⟨r0_, rs0, rfl, h_5⟩ := asCons_spec h_4
 obtain ⟨r1_, rs1, rfl, h_6⟩ := asCons_spec h_5
 obtain ⟨rfl, h_7⟩ := asEnd_spec h_6
 obtain ⟨d1, rfl, h_8⟩ := asImmZ_spec h_7
 obtain ⟨d2, rfl, h_9⟩ := asImmZ_spec h_8
 obtain ⟨rfl, h_10⟩ := asRef_spec h_9
 obtain ⟨rfl, h_11⟩ := asRef_spec h_10
 obtain ⟨m3, d4, rfl, h_12⟩ := asRt_spec h_11
 obtain ⟨rfl, h_13⟩ := asM_spec h_12
 obtain ⟨m5, d6, rfl, h_14⟩ := asRt_spec h_13
 obtain ⟨rfl, h_15⟩ := asM_spec h_14
 exact fin_mats (s_l02Ascend_498a_eq d1 d2 d4 d6) h_15 (by rintro (x | (x | x)) <;> rfl)
end Go.Proofs.Ythnkanacjhlhhaa

namespace Go.Proofs.Ythnkanacjhlhhaa
open Go Go.Abs Go.Proofs
noncomputable def s_SpacesOf (p0 : Int) (p1 : Int) : Tre ((Int × (List TMatrix)) ⊕ (Int × (List TMatrix))) :=
 .mat (s_GaussNumber_F p0 p1) fun r1 =>
 .cond (!decide (r1.2 = 0))
  (.ret (.inl (r1.2, [])))
  (.cond (decide (r1.1 > 400))
   (.ret (.inl (3, [])))
   (.mat (s_l02Ascend_498a_F p0 p1 [] []) fun r2 =>
   .alt r2
    (fun a3 =>
     .ret (.inr (0, a3.2)))
    (fun b4 =>
     .alt b4
      (fun a5 =>
       .ret (.inr (0, a5.2)))
      (fun b6 =>
       .ret (.inr (0, b6.2.2))))))
noncomputable def s_SpacesOf_F (p0 : Int) (p1 : Int) : Option ((Int × (List TMatrix)) ⊕ (Int × (List TMatrix))) := (s_SpacesOf p0 p1).run some
noncomputable def s_SpacesOf_V : Env := ⟨tau, [(82, s_GaussNumber_c), (83, s_l02Ascend_498a_c)], []⟩
noncomputable def s_SpacesOf_b : Code := (Try.f27.body).getD .skip
noncomputable def s_SpacesOf_I : FnI := ⟨s_SpacesOf_b, Try.f27.results.toList, Try.f27.resultTypes.toList, []⟩
noncomputable def s_SpacesOf_out (_p0 : Int) (_p1 : Int) : ((Int × (List TMatrix)) ⊕ (Int × (List TMatrix))) → CallOut
 | .inl r => ⟨(.tcons (.ref (1, 0) []) (.tcons (.imm true (.int .i64) r.1) .tnil)), [], [⟨false, (.sl kMatrix), .own, r.2⟩]⟩
 | .inr r => ⟨(.tcons (.ref (1, 0) []) (.tcons (.imm true (.int .i64) r.1) .tnil)), [], [⟨false, (.sl kMatrix), (.sl (.imm true)), r.2⟩]⟩
set_option maxRecDepth 100000 in
theorem s_SpacesOf_eq : ∀ (p0 : Int) (p1 : Int), denFn s_SpacesOf_V s_SpacesOf_I ⟨[(.imm true (.int .i64) p0), (.imm true (.int .i64) p1)], []⟩ = (s_SpacesOf p0 p1).run fun r => some (s_SpacesOf_out p0 p1 r) := fun _ _ => by kernel_rfl
noncomputable def s_SpacesOf_G (av : List AV) (rs : List Root) : Tre CallOut :=
 asCons av fun a0_ av0 =>
 asCons av0 fun a1_ av1 =>
 asEnd av1 <|
 asEnd rs <|
 asImmZ true (.int .i64) a0_ fun d1 =>
 asImmZ true (.int .i64) a1_ fun d2 =>
 .mat (s_SpacesOf_F d1 d2) fun r => .alt r (fun a0 => .ret (s_SpacesOf_out d1 d2 (.inl a0))) (fun b0 => .ret (s_SpacesOf_out d1 d2 (.inr b0)))
noncomputable def s_SpacesOf_c : Ctr := ⟨[], fun ci => s_SpacesOf_G ci.args ci.roots, false⟩
theorem s_SpacesOf_env : EnvOK Try.prog .none s_SpacesOf_V := (envOK_cons s_GaussNumber_ok ent82 (envOK_cons s_l02Ascend_498a_ok ent83 envOK_nil))
set_option maxRecDepth 100000 in
theorem s_SpacesOf_ok : Contract Try.prog .none 27 s_SpacesOf_c := by
 have hl : LoopsOK s_SpacesOf_V [] s_SpacesOf_b := loopsOK_nil (by kernel_rfl)
 refine (contract_of (F := s_SpacesOf_I) tau_tys s_SpacesOf_env Try.func27 (by kernel_rfl) (by kernel_rfl) (by kernel_rfl) hl []).weaken ?_
 rintro ⟨av, rs⟩ co h
 have h : (s_SpacesOf_G av rs).run some = some co := h
 obtain ⟨a0_, av0, rfl, h_0⟩ := asCons_spec h
 obtain ⟨a1_, av1, rfl, h_1⟩ := asCons_spec h_0
 obtain ⟨rfl, h_2⟩ := asEnd_spec h_1
 obtain ⟨rfl, h_3⟩ := asEnd_spec h_2
 obtain ⟨d1, rfl, h_4⟩ := asImmZ_spec h_3
 obtain ⟨d2, rfl, h_5⟩ := asImmZ_spec h_4
 exact fin_mats (s_SpacesOf_eq d1 d2) h_5 (by rintro (x | x) <;> rfl)
end Go.Proofs.Ythnkanacjhlhhaa

namespace Go.Proofs.Ythnkanacjhlhhaa
open Go Go.Abs Go.Proofs
noncomputable def i_within (p0 : Int) (p1 : Int) (p2 : Int) : Tre Bool :=
 .cond (decide (p0 ≥ p1))
  (.ret (decide (p0 ≤ p2)))
  (.ret false)
noncomputable def i_within_F (p0 : Int) (p1 : Int) (p2 : Int) : Option Bool := (i_within p0 p1 p2).run some
def i_within_S (p0 : Int) (p1 : Int) (p2 : Int) : Bool :=
 cond (decide (p0 ≥ p1))
  (decide (p0 ≤ p2))
  (false)
theorem i_within_spec (p0 : Int) (p1 : Int) (p2 : Int) : i_within_F p0 p1 p2 = some (i_within_S p0 p1 p2) := (run_cond_some rfl rfl)
noncomputable def i_within_V : Env := ⟨tau, [], []⟩
noncomputable def i_within_b : Code := (Try.f57.body).getD .skip
noncomputable def i_within_I : FnI := ⟨i_within_b, Try.f57.results.toList, Try.f57.resultTypes.toList, []⟩
noncomputable def i_within_out (_p0 : Int) (_p1 : Int) (_p2 : Int) : Bool → CallOut := fun r => ⟨(.imm true .bool r), [], []⟩
set_option maxRecDepth 100000 in
theorem i_within_eq : ∀ (p0 : Int) (p1 : Int) (p2 : Int), denFn i_within_V i_within_I ⟨[(.imm true (.int .i64) p0), (.imm true (.int .i64) p1), (.imm true (.int .i64) p2)], []⟩ = (i_within p0 p1 p2).run fun r => some (i_within_out p0 p1 p2 r) := fun _ _ _ => by kernel_rfl
noncomputable def i_within_G (av : List AV) (rs : List Root) : Tre CallOut :=
 asCons av fun a0_ av0 =>
 asCons av0 fun a1_ av1 =>
 asCons av1 fun a2_ av2 =>
 asEnd av2 <|
 asEnd rs <|
 asImmZ true (.int .i64) a0_ fun d1 =>
 asImmZ true (.int .i64) a1_ fun d2 =>
 asImmZ true (.int .i64) a2_ fun d3 =>
 .ret (i_within_out d1 d2 d3 (i_within_S d1 d2 d3))
noncomputable def i_within_c : Ctr := ⟨[], fun ci => i_within_G ci.args ci.roots, false⟩
theorem i_within_env : EnvOK Try.prog .none i_within_V := envOK_nil
set_option maxRecDepth 100000 in
theorem i_within_ok : Contract Try.prog .none 57 i_within_c := by
 have hl : LoopsOK i_within_V [] i_within_b := loopsOK_nil (by kernel_rfl)
 refine (contract_of (F := i_within_I) tau_tys i_within_env Try.func57 (by kernel_rfl) (by kernel_rfl) (by kernel_rfl) hl []).weaken ?_
 rintro ⟨av, rs⟩ co h
 have h : (i_within_G av rs).run some = some co := h
 obtain ⟨a0_, av0, rfl, h_0⟩ := asCons_spec h
 obtain ⟨a1_, av1, rfl, h_1⟩ := asCons_spec h_0
 obtain ⟨a2_, av2, rfl, h_2⟩ := asCons_spec h_1
 obtain ⟨rfl, h_3⟩ := asEnd_spec h_2
 obtain ⟨rfl, h_4⟩ := asEnd_spec h_3
 obtain ⟨d1, rfl, h_5⟩ := asImmZ_spec h_4
 obtain ⟨d2, rfl, h_6⟩ := asImmZ_spec h_5
 obtain ⟨d3, rfl, h_7⟩ := asImmZ_spec h_6
 exact fin_ret (i_within_eq d1 d2 d3) (i_within_spec d1 d2 d3) h_7
end Go.Proofs.Ythnkanacjhlhhaa

namespace Go.Proofs.Ythnkanacjhlhhaa
open Go Go.Abs Go.Proofs
noncomputable def i_gauss_l7 (_g_ : Int → Int → Int → Option Int) (h7_0_0 : Int) (h7_0_4 : Int) : (Int × Int) → Tre ((Int × Int) ⊕ Int) := fun s7 =>
 .cond (decide (s7.2 < h7_0_4))
  (let v1 := iwrap .i64 (s7.1 * h7_0_0)
  .ret (.inl (v1, iwrap .i64 (s7.2 + 1))))
  (.ret (.inr s7.1))
noncomputable def i_gauss (g_ : Int → Int → Int → Option Int) (p0 : Int) (p1 : Int) (p2 : Int) : Tre Int :=
 .cond (decide (p2 < 0))
  (.ret 0)
  (.cond (decide (p2 > p1))
   (.ret 0)
   (.cond (decide (p2 = 0))
    (.ret 1)
    (.cond (decide (p2 = p1))
     (.ret 1)
     (.mat (loopF ((i_gauss_l7 g_) p0 p2) (1, 0)) fun l2 =>
     .mat (g_ p0 (iwrap .i64 (p1 - 1)) (iwrap .i64 (p2 - 1))) fun r3 =>
     .mat (g_ p0 (iwrap .i64 (p1 - 1)) p2) fun r4 =>
     let v5 := iwrap .i64 (r3 + (iwrap .i64 (l2 * r4)))
     .ret v5))))
noncomputable def i_gauss_R : Nat → Int → Int → Int → Option Int
 | 0 => fun _ _ _ => none
 | n + 1 => fun p0 p1 p2 => (i_gauss (i_gauss_R n) p0 p1 p2).run some
noncomputable def i_gauss_F (p0 : Int) (p1 : Int) (p2 : Int) : Option Int := i_gauss_R 1000000000000 p0 p1 p2
noncomputable def i_gauss_out (_g_ : Int → Int → Int → Option Int) (_p0 : Int) (_p1 : Int) (_p2 : Int) : Int → CallOut := fun r => ⟨(.imm true (.int .i64) r), [], []⟩
noncomputable def i_gauss_G (g_ : Int → Int → Int → Option Int) (av : List AV) (rs : List Root) : Tre CallOut :=
 asCons av fun a0_ av0 =>
 asCons av0 fun a1_ av1 =>
 asCons av1 fun a2_ av2 =>
 asEnd av2 <|
 asEnd rs <|
 asImmZ true (.int .i64) a0_ fun d1 =>
 asImmZ true (.int .i64) a1_ fun d2 =>
 asImmZ true (.int .i64) a2_ fun d3 =>
 .mat (g_ d1 d2 d3) fun r => .ret ((i_gauss_out g_) d1 d2 d3 r)
noncomputable def i_gauss_c (g_ : Int → Int → Int → Option Int) : Ctr := ⟨[], fun ci => (i_gauss_G g_) ci.args ci.roots, false⟩
noncomputable def i_gauss_V (g_ : Int → Int → Int → Option Int) : Env := ⟨tau, [(71, (i_gauss_c g_))], []⟩
noncomputable def i_gauss_b (_g_ : Int → Int → Int → Option Int) : Code := (Try.f71.body).getD .skip
noncomputable def i_gauss_l7_mk (_g_ : Int → Int → Int → Option Int) (h7_0_0 : Int) (h7_0_1 : Int) (h7_0_2 : Int) (h7_0_4 : Int) : (Int × Int) → St := fun x => stOf [(0, (.imm true (.int .i64) h7_0_0)), (1, (.imm true (.int .i64) h7_0_1)), (2, (.imm true (.int .i64) h7_0_2)), (7, (.imm true (.int .i64) x.1)), (22, (.imm true (.int .i64) h7_0_4)), (23, (.imm true (.int .i64) x.2))] []
noncomputable def i_gauss_l7_out (_g_ : Int → Int → Int → Option Int) (h7_0_0 : Int) (h7_0_1 : Int) (h7_0_2 : Int) (_h7_0_4 : Int) : Int → Ex × St := fun x => (.exit 0, stOf [(0, (.imm true (.int .i64) h7_0_0)), (1, (.imm true (.int .i64) h7_0_1)), (2, (.imm true (.int .i64) h7_0_2)), (7, (.imm true (.int .i64) x))] [])
noncomputable def i_gauss_l7_D (g_ : Int → Int → Int → Option Int) (s : St) : Tre (Ex × St) :=
 asImmZ true (.int .i64) (s.tmps 0) fun d2 =>
 asImmZ true (.int .i64) (s.tmps 1) fun d4 =>
 asImmZ true (.int .i64) (s.tmps 2) fun d6 =>
 asImmZ true (.int .i64) (s.tmps 7) fun d8 =>
 asImmZ true (.int .i64) (s.tmps 22) fun d10 =>
 asImmZ true (.int .i64) (s.tmps 23) fun d12 =>
 .mat (loopF ((i_gauss_l7 g_) d2 d10) (d8, d12)) fun x => .ret ((i_gauss_l7_out g_) d2 d4 d6 d10 x)
noncomputable def i_gauss_l7_L (g_ : Int → Int → Int → Option Int) : LoopI := ⟨([0, 1, 2, 7, 22, 23], []), ([0, 1, 2, 7], []), (i_gauss_l7_D g_)⟩
noncomputable def i_gauss_A (g_ : Int → Int → Int → Option Int) : List (Nat × LoopI) := [(7, (i_gauss_l7_L g_))]
set_option maxRecDepth 100000 in
theorem i_gauss_l7_step (g_ : Int → Int → Int → Option Int) : ∀ (h7_0_0 : Int) (h7_0_1 : Int) (h7_0_2 : Int) (h7_0_4 : Int) (x : (Int × Int)) (c : St → Option (Ex × St)), den (i_gauss_V g_) (i_gauss_A g_) (loopAt (i_gauss_b g_) 0) ((i_gauss_l7_mk g_) h7_0_0 h7_0_1 h7_0_2 h7_0_4 x) (roundK (i_gauss_l7_L g_).kp (i_gauss_l7_L g_).kx c) = ((i_gauss_l7 g_) h7_0_0 h7_0_4 x).run (roundR ((i_gauss_l7_mk g_) h7_0_0 h7_0_1 h7_0_2 h7_0_4) ((i_gauss_l7_out g_) h7_0_0 h7_0_1 h7_0_2 h7_0_4) c) := fun _ _ _ _ _ _ => by
 kernel_rfl
theorem i_gauss_l7_ok (g_ : Int → Int → Int → Option Int) : LoopOK (i_gauss_V g_) (i_gauss_A g_) (loopAt (i_gauss_b g_) 0) (i_gauss_l7_L g_) := loopOK_of fun s e s' h => by
 generalize hs : restrict (i_gauss_l7_L g_).kp s = s1 at h
 have h : ((i_gauss_l7_D g_) s1).run some = some (e, s') := h
 obtain ⟨d2, e1, h_0⟩ := asImmZ_spec h
 obtain ⟨d4, e3, h_1⟩ := asImmZ_spec h_0
 obtain ⟨d6, e5, h_2⟩ := asImmZ_spec h_1
 obtain ⟨d8, e7, h_3⟩ := asImmZ_spec h_2
 obtain ⟨d10, e9, h_4⟩ := asImmZ_spec h_3
 obtain ⟨d12, e11, h_5⟩ := asImmZ_spec h_4
 obtain ⟨y, hy, hz⟩ := mat_ret h_5
 refine ⟨_, _, (i_gauss_l7_mk g_) d2 d4 d6 d10, (i_gauss_l7_out g_) d2 d4 d6 d10, (i_gauss_l7 g_) d2 d10, (d8, d12), y, ?_, hy, ?_, (i_gauss_l7_step g_) d2 d4 d6 d10⟩
 ·subst hs; exact restrict_eq (T := [(0, (.imm true (.int .i64) d2)), (1, (.imm true (.int .i64) d4)), (2, (.imm true (.int .i64) d6)), (7, (.imm true (.int .i64) d8)), (22, (.imm true (.int .i64) d10)), (23, (.imm true (.int .i64) d12))]) (U := []) rfl rfl ⟨e1, e3, e5, e7, e9, e11, trivial⟩ trivial
 ·exact Option.some.inj hz
noncomputable def i_gauss_I (g_ : Int → Int → Int → Option Int) : FnI := ⟨(i_gauss_b g_), Try.f71.results.toList, Try.f71.resultTypes.toList, (i_gauss_A g_)⟩
set_option maxRecDepth 100000 in
theorem i_gauss_eq (g_ : Int → Int → Int → Option Int) : ∀ (p0 : Int) (p1 : Int) (p2 : Int), denFn (i_gauss_V g_) (i_gauss_I g_) ⟨[(.imm true (.int .i64) p0), (.imm true (.int .i64) p1), (.imm true (.int .i64) p2)], []⟩ = ((i_gauss g_) p0 p1 p2).run fun r => some ((i_gauss_out g_) p0 p1 p2 r) := fun _ _ _ => by kernel_rfl
theorem i_gauss_env (g_ : Int → Int → Int → Option Int) (hg_ : Contract Try.prog .none 71 (i_gauss_c g_)) : EnvOK Try.prog .none (i_gauss_V g_) := (envOK_cons hg_ ent71 envOK_nil)
set_option maxRecDepth 100000 in
theorem i_gauss_okS (g_ : Int → Int → Int → Option Int) (hg_ : Contract Try.prog .none 71 (i_gauss_c g_)) : Contract Try.prog .none 71 (i_gauss_c (fun p0 p1 p2 => (i_gauss g_ p0 p1 p2).run some)) := by
 have hl : LoopsOK (i_gauss_V g_) (i_gauss_A g_) (i_gauss_b g_) := (loopsOK_all (n := 1) (by kernel_rfl) fun k hk => by
   match k, hk with
   | 0, _ => exact loopOK_at (id := 7) (L := (i_gauss_l7_L g_)) (by kernel_rfl) (by kernel_rfl) (i_gauss_l7_ok g_))
 refine (contract_of (F := (i_gauss_I g_)) tau_tys ((i_gauss_env g_) hg_) Try.func71 (by kernel_rfl) (by kernel_rfl) (by kernel_rfl) hl []).weaken ?_
 rintro ⟨av, rs⟩ co h
 have h : (i_gauss_G (fun p0 p1 p2 => (i_gauss g_ p0 p1 p2).run some) av rs).run some = some co := h
 obtain ⟨a0_, av0, rfl, h_0⟩ := asCons_spec h
 obtain ⟨a1_, av1, rfl, h_1⟩ := asCons_spec h_0
 obtain ⟨a2_, av2, rfl, h_2⟩ := asCons_spec h_1
 obtain ⟨rfl, h_3⟩ := asEnd_spec h_2
 obtain ⟨rfl, h_4⟩ := asEnd_spec h_3
 obtain ⟨d1, rfl, h_5⟩ := asImmZ_spec h_4
 obtain ⟨d2, rfl, h_6⟩ := asImmZ_spec h_5
 obtain ⟨d3, rfl, h_7⟩ := asImmZ_spec h_6
 exact fin_mat ((i_gauss_eq g_) d1 d2 d3) h_7
theorem i_gauss_ok0 : Contract Try.prog .none 71 (i_gauss_c (fun _ _ _ => none)) := Contract.vacuous (by
 rintro ⟨av, rs⟩ co h
 have h : (i_gauss_G (fun _ _ _ => none) av rs).run some = some co := h
 obtain ⟨a0_, av0, rfl, h_0⟩ := asCons_spec h
 obtain ⟨a1_, av1, rfl, h_1⟩ := asCons_spec h_0
 obtain ⟨a2_, av2, rfl, h_2⟩ := asCons_spec h_1
 obtain ⟨rfl, h_3⟩ := asEnd_spec h_2
 obtain ⟨rfl, h_4⟩ := asEnd_spec h_3
 obtain ⟨d1, rfl, h_5⟩ := asImmZ_spec h_4
 obtain ⟨d2, rfl, h_6⟩ := asImmZ_spec h_5
 obtain ⟨d3, rfl, h_7⟩ := asImmZ_spec h_6
 exact mat_none_absurd h_7)
theorem i_gauss_okN : ∀ n, Contract Try.prog .none 71 (i_gauss_c (i_gauss_R n))
 | 0 => i_gauss_ok0
 | n + 1 => i_gauss_okS _ (i_gauss_okN n)
theorem i_gauss_ok : Contract Try.prog .none 71 (i_gauss_c i_gauss_F) := i_gauss_okN _
end Go.Proofs.Ythnkanacjhlhhaa

namespace Go.Proofs.Ythnkanacjhlhhaa
open Go Go.Abs Go.Proofs
noncomputable def i_near (p0 : Int) (p1 : Int) (p2 : Int) : Tre Int :=
 .cond (decide (p2 > p1))
  (.ret 0)
  (.cond (decide (p2 > iwrap .i64 (p0 - p1)))
   (.ret 0)
   (.ite (0 ≤ iwrap .i64 (p2 * p2)) <|
   let v1 := ishl .i64 1 (iwrap .i64 (p2 * p2))
   .mat (i_gauss_F 2 p1 p2) fun r2 =>
   .mat (i_gauss_F 2 (iwrap .i64 (p0 - p1)) p2) fun r3 =>
   let v4 := iwrap .i64 ((iwrap .i64 (v1 * r2)) * r3)
   .ret v4))
noncomputable def i_near_F (p0 : Int) (p1 : Int) (p2 : Int) : Option Int := (i_near p0 p1 p2).run some
noncomputable def i_near_V : Env := ⟨tau, [(71, (i_gauss_c i_gauss_F))], []⟩
noncomputable def i_near_b : Code := (Try.f84.body).getD .skip
noncomputable def i_near_I : FnI := ⟨i_near_b, Try.f84.results.toList, Try.f84.resultTypes.toList, []⟩
noncomputable def i_near_out (_p0 : Int) (_p1 : Int) (_p2 : Int) : Int → CallOut := fun r => ⟨(.imm true (.int .i64) r), [], []⟩
set_option maxRecDepth 100000 in
theorem i_near_eq : ∀ (p0 : Int) (p1 : Int) (p2 : Int), denFn i_near_V i_near_I ⟨[(.imm true (.int .i64) p0), (.imm true (.int .i64) p1), (.imm true (.int .i64) p2)], []⟩ = (i_near p0 p1 p2).run fun r => some (i_near_out p0 p1 p2 r) := fun _ _ _ => by kernel_rfl
noncomputable def i_near_G (av : List AV) (rs : List Root) : Tre CallOut :=
 asCons av fun a0_ av0 =>
 asCons av0 fun a1_ av1 =>
 asCons av1 fun a2_ av2 =>
 asEnd av2 <|
 asEnd rs <|
 asImmZ true (.int .i64) a0_ fun d1 =>
 asImmZ true (.int .i64) a1_ fun d2 =>
 asImmZ true (.int .i64) a2_ fun d3 =>
 .mat (i_near_F d1 d2 d3) fun r => .ret (i_near_out d1 d2 d3 r)
noncomputable def i_near_c : Ctr := ⟨[], fun ci => i_near_G ci.args ci.roots, false⟩
theorem i_near_env : EnvOK Try.prog .none i_near_V := (envOK_cons i_gauss_ok ent71 envOK_nil)
set_option maxRecDepth 100000 in
theorem i_near_ok : Contract Try.prog .none 84 i_near_c := by
 have hl : LoopsOK i_near_V [] i_near_b := loopsOK_nil (by kernel_rfl)
 refine (contract_of (F := i_near_I) tau_tys i_near_env Try.func84 (by kernel_rfl) (by kernel_rfl) (by kernel_rfl) hl []).weaken ?_
 rintro ⟨av, rs⟩ co h
 have h : (i_near_G av rs).run some = some co := h
 obtain ⟨a0_, av0, rfl, h_0⟩ := asCons_spec h
 obtain ⟨a1_, av1, rfl, h_1⟩ := asCons_spec h_0
 obtain ⟨a2_, av2, rfl, h_2⟩ := asCons_spec h_1
 obtain ⟨rfl, h_3⟩ := asEnd_spec h_2
 obtain ⟨rfl, h_4⟩ := asEnd_spec h_3
 obtain ⟨d1, rfl, h_5⟩ := asImmZ_spec h_4
 obtain ⟨d2, rfl, h_6⟩ := asImmZ_spec h_5
 obtain ⟨d3, rfl, h_7⟩ := asImmZ_spec h_6
 exact fin_mat (i_near_eq d1 d2 d3) h_7
end Go.Proofs.Ythnkanacjhlhhaa

namespace Go.Proofs.Ythnkanacjhlhhaa
open Go Go.Abs Go.Proofs
noncomputable def i_CountNear (p0 : Int) (p1 : Int) (p2 : Int) : Tre (Int × Int) :=
 .cond (!(i_within_S p0 1 10))
  (.ret (0, 2))
  (.cond (!(i_within_S p1 0 p0))
   (.ret (0, 2))
   (.cond (decide (p2 < 0))
    (.ret (0, 2))
    (.mat (i_near_F p0 p1 p2) fun r1 =>
    .ret (r1, 0))))
noncomputable def i_CountNear_F (p0 : Int) (p1 : Int) (p2 : Int) : Option (Int × Int) := (i_CountNear p0 p1 p2).run some
noncomputable def i_CountNear_V : Env := ⟨tau, [(57, i_within_c), (84, i_near_c)], []⟩
noncomputable def i_CountNear_b : Code := (Try.f28.body).getD .skip
noncomputable def i_CountNear_I : FnI := ⟨i_CountNear_b, Try.f28.results.toList, Try.f28.resultTypes.toList, []⟩
noncomputable def i_CountNear_out (_p0 : Int) (_p1 : Int) (_p2 : Int) : (Int × Int) → CallOut := fun r => ⟨(.tcons (.imm true (.int .i64) r.1) (.tcons (.imm true (.int .i64) r.2) .tnil)), [], []⟩
set_option maxRecDepth 100000 in
theorem i_CountNear_eq : ∀ (p0 : Int) (p1 : Int) (p2 : Int), denFn i_CountNear_V i_CountNear_I ⟨[(.imm true (.int .i64) p0), (.imm true (.int .i64) p1), (.imm true (.int .i64) p2)], []⟩ = (i_CountNear p0 p1 p2).run fun r => some (i_CountNear_out p0 p1 p2 r) := fun _ _ _ => by kernel_rfl
noncomputable def i_CountNear_G (av : List AV) (rs : List Root) : Tre CallOut :=
 asCons av fun a0_ av0 =>
 asCons av0 fun a1_ av1 =>
 asCons av1 fun a2_ av2 =>
 asEnd av2 <|
 asEnd rs <|
 asImmZ true (.int .i64) a0_ fun d1 =>
 asImmZ true (.int .i64) a1_ fun d2 =>
 asImmZ true (.int .i64) a2_ fun d3 =>
 .mat (i_CountNear_F d1 d2 d3) fun r => .ret (i_CountNear_out d1 d2 d3 r)
noncomputable def i_CountNear_c : Ctr := ⟨[], fun ci => i_CountNear_G ci.args ci.roots, false⟩
theorem i_CountNear_env : EnvOK Try.prog .none i_CountNear_V := (envOK_cons i_within_ok ent57 (envOK_cons i_near_ok ent84 envOK_nil))
set_option maxRecDepth 100000 in
theorem i_CountNear_ok : Contract Try.prog .none 28 i_CountNear_c := by
 have hl : LoopsOK i_CountNear_V [] i_CountNear_b := loopsOK_nil (by kernel_rfl)
 refine (contract_of (F := i_CountNear_I) tau_tys i_CountNear_env Try.func28 (by kernel_rfl) (by kernel_rfl) (by kernel_rfl) hl []).weaken ?_
 rintro ⟨av, rs⟩ co h
 have h : (i_CountNear_G av rs).run some = some co := h
 obtain ⟨a0_, av0, rfl, h_0⟩ := asCons_spec h
 obtain ⟨a1_, av1, rfl, h_1⟩ := asCons_spec h_0
 obtain ⟨a2_, av2, rfl, h_2⟩ := asCons_spec h_1
 obtain ⟨rfl, h_3⟩ := asEnd_spec h_2
 obtain ⟨rfl, h_4⟩ := asEnd_spec h_3
 obtain ⟨d1, rfl, h_5⟩ := asImmZ_spec h_4
 obtain ⟨d2, rfl, h_6⟩ := asImmZ_spec h_5
 obtain ⟨d3, rfl, h_7⟩ := asImmZ_spec h_6
 exact fin_mat (i_CountNear_eq d1 d2 d3) h_7
end Go.Proofs.Ythnkanacjhlhhaa

namespace Go.Proofs.Ythnkanacjhlhhaa
open Go Go.Abs Go.Proofs
noncomputable def s_l02Ok_15aa_l4 (h4_0_1 : TMatrix) : Int → Tre (Int ⊕ (Bool ⊕ Unit)) := fun s4 =>
 .cond (decide (s4 < (h4_0_1.2.1.length : Int)))
  (.ite (0 ≤ s4 ∧ s4 < (h4_0_1.2.1.length : Int)) <|
  .mat (h4_0_1.2.1[s4.toNat]?) fun x1 =>
  .ite (0 ≤ iwrap .u64 h4_0_1.1) <|
  let v2 := ishl .i64 1 (iwrap .u64 h4_0_1.1)
  let v3 := s_l00In_S x1 0 (iwrap .i64 (v2 - 1))
  .cond (!v3)
   (.ret (.inr (.inl false)))
   (.ret (.inl (iwrap .i64 (s4 + 1)))))
  (.ret (.inr (.inr ())))
noncomputable def s_l02Ok_15aa (p0 : TMatrix) : Tre Bool :=
 .cond (!(s_l00In_S p0.1 1 10))
  (.ret false)
  (.cond (decide ((p0.2.1.length : Int) > 10))
   (.ret false)
   (.mat (loopF (s_l02Ok_15aa_l4 p0) 0) fun l4 =>
   .alt l4
    (fun a5 =>
     .ret a5)
    (fun _ =>
     .ret true)))
noncomputable def s_l02Ok_15aa_F (p0 : TMatrix) : Option Bool := (s_l02Ok_15aa p0).run some
noncomputable def s_l02Ok_15aa_V : Env := ⟨tau, [(40, s_l00In_c)], []⟩
noncomputable def s_l02Ok_15aa_b : Code := (Try.f128.body).getD .skip
noncomputable def s_l02Ok_15aa_l4_mk (z4_0 : Bool) (h4_0_1 : TMatrix) : Int → St := fun x => stOf [(0, (.ptr (0, 0) [])), (3, (.imm true (.int .i64) x))] [((0, 0), some ⟨true, kMatrix, (.imm z4_0), h4_0_1⟩)]
noncomputable def s_l02Ok_15aa_l4_out (z4_0 : Bool) (h4_0_1 : TMatrix) : (Bool ⊕ Unit) → Ex × St
 | .inl x => (.ret, stOf [(2, (.imm true .bool x))] [((0, 0), some ⟨true, kMatrix, (.imm z4_0), h4_0_1⟩)])
 | .inr x => (.exit 0, stOf [(2, .dead)] [((0, 0), some ⟨true, kMatrix, (.imm z4_0), h4_0_1⟩)])
noncomputable def s_l02Ok_15aa_l4_D (s : St) : Tre (Ex × St) :=
 asPtr (0, 0) [] (s.tmps 0) <|
 asImmZ true (.int .i64) (s.tmps 3) fun d3 =>
 asRoot true kMatrix (s.roots (0, 0)) fun m5 d6 =>
 asMImm m5 fun z7 =>
 .mat (loopF (s_l02Ok_15aa_l4 d6) d3) fun x => .alt x (fun a0 => .ret (s_l02Ok_15aa_l4_out z7 d6 (.inl a0))) (fun b0 => .ret (s_l02Ok_15aa_l4_out z7 d6 (.inr b0)))
noncomputable def s_l02Ok_15aa_l4_L : LoopI := ⟨([0, 3], [(0, 0)]), ([2], [(0, 0)]), s_l02Ok_15aa_l4_D⟩
noncomputable def s_l02Ok_15aa_A : List (Nat × LoopI) := [(4, s_l02Ok_15aa_l4_L)]
set_option maxRecDepth 100000 in
theorem s_l02Ok_15aa_l4_step : ∀ (z4_0 : Bool) (h4_0_1 : TMatrix) (x : Int) (c : St → Option (Ex × St)), den s_l02Ok_15aa_V s_l02Ok_15aa_A (loopAt s_l02Ok_15aa_b 0) (s_l02Ok_15aa_l4_mk z4_0 h4_0_1 x) (roundK s_l02Ok_15aa_l4_L.kp s_l02Ok_15aa_l4_L.kx c) = (s_l02Ok_15aa_l4 h4_0_1 x).run (roundR (s_l02Ok_15aa_l4_mk z4_0 h4_0_1) (s_l02Ok_15aa_l4_out z4_0 h4_0_1) c) := fun _ _ _ _ => by
 kernel_rfl
theorem s_l02Ok_15aa_l4_ok : LoopOK s_l02Ok_15aa_V s_l02Ok_15aa_A (loopAt s_l02Ok_15aa_b 0) s_l02Ok_15aa_l4_L := loopOK_of fun s e s' h => by
 generalize hs : restrict s_l02Ok_15aa_l4_L.kp s = s1 at h
 have h : (s_l02Ok_15aa_l4_D s1).run some = some (e, s') := h
 obtain ⟨e1, h_0⟩ := asPtr_spec h
 obtain ⟨d3, e2, h_1⟩ := asImmZ_spec h_0
 obtain ⟨m5, d6, e4, h_2⟩ := asRoot_spec h_1
 obtain ⟨z7, rfl, h_3⟩ := asMImm_spec h_2
 obtain ⟨y, hy, hz⟩ := mat_some h_3
 refine ⟨_, _, s_l02Ok_15aa_l4_mk z7 d6, s_l02Ok_15aa_l4_out z7 d6, s_l02Ok_15aa_l4 d6, d3, y, ?_, hy, ?_, s_l02Ok_15aa_l4_step z7 d6⟩
 ·subst hs; exact restrict_eq (T := [(0, (.ptr (0, 0) [])), (3, (.imm true (.int .i64) d3))]) (U := [((0, 0), some ⟨true, kMatrix, (.imm z7), d6⟩)]) rfl rfl ⟨e1, e2, trivial⟩ ⟨e4, trivial⟩
 ·rcases y with x | x <;> exact Option.some.inj hz
noncomputable def s_l02Ok_15aa_I : FnI := ⟨s_l02Ok_15aa_b, Try.f128.results.toList, Try.f128.resultTypes.toList, s_l02Ok_15aa_A⟩
noncomputable def s_l02Ok_15aa_out (zp0 : Bool) (p0 : TMatrix) : Bool → CallOut := fun r => ⟨(.imm true .bool r), [⟨true, kMatrix, (.imm zp0), p0⟩], []⟩
set_option maxRecDepth 100000 in
theorem s_l02Ok_15aa_eq : ∀ (zp0 : Bool) (p0 : TMatrix), denFn s_l02Ok_15aa_V s_l02Ok_15aa_I ⟨[(.ptr (0, 0) [])], [⟨true, kMatrix, (.imm zp0), p0⟩]⟩ = (s_l02Ok_15aa p0).run fun r => some (s_l02Ok_15aa_out zp0 p0 r) := fun _ _ => by kernel_rfl
noncomputable def s_l02Ok_15aa_G (av : List AV) (rs : List Root) : Tre CallOut :=
 asCons av fun a0_ av0 =>
 asEnd av0 <|
 asCons rs fun r0_ rs0 =>
 asEnd rs0 <|
 asPtr (0, 0) [] a0_ <|
 asRt true kMatrix r0_ fun m1 d2 =>
 asMImm m1 fun z3 =>
 .mat (s_l02Ok_15aa_F d2) fun r => .ret (s_l02Ok_15aa_out z3 d2 r)
noncomputable def s_l02Ok_15aa_c : Ctr := ⟨[], fun ci => s_l02Ok_15aa_G ci.args ci.roots, false⟩
theorem s_l02Ok_15aa_env : EnvOK Try.prog .none s_l02Ok_15aa_V := (envOK_cons s_l00In_ok ent40 envOK_nil)
set_option maxRecDepth 100000 in
theorem s_l02Ok_15aa_ok : Contract Try.prog .none 128 s_l02Ok_15aa_c := by
 have hl : LoopsOK s_l02Ok_15aa_V s_l02Ok_15aa_A s_l02Ok_15aa_b := (loopsOK_all (n := 1) (by kernel_rfl) fun k hk => by
   match k, hk with
   | 0, _ => exact loopOK_at (id := 4) (L := s_l02Ok_15aa_l4_L) (by kernel_rfl) (by kernel_rfl) s_l02Ok_15aa_l4_ok)
 refine (contract_of (F := s_l02Ok_15aa_I) tau_tys s_l02Ok_15aa_env Try.func128 (by kernel_rfl) (by kernel_rfl) (by kernel_rfl) hl []).weaken ?_
 rintro ⟨av, rs⟩ co h
 have h : (s_l02Ok_15aa_G av rs).run some = some co := h
 obtain ⟨a0_, av0, rfl, h_0⟩ := asCons_spec h
 obtain ⟨rfl, h_1⟩ := asEnd_spec h_0
 obtain ⟨r0_, rs0, rfl, h_2⟩ := asCons_spec h_1
 obtain ⟨rfl, h_3⟩ := asEnd_spec h_2
 obtain ⟨rfl, h_4⟩ := asPtr_spec h_3
 obtain ⟨m1, d2, rfl, h_5⟩ := asRt_spec h_4
 obtain ⟨z3, rfl, h_6⟩ := asMImm_spec h_5
 exact fin_mat (s_l02Ok_15aa_eq z3 d2) h_6
end Go.Proofs.Ythnkanacjhlhhaa

namespace Go.Proofs.Ythnkanacjhlhhaa
open Go Go.Abs Go.Proofs
noncomputable def s_l02Space_15aa (p0 : TMatrix) : Tre Bool :=
 .mat (s_l02Ok_15aa_F p0) fun r1 =>
 .cond r1
  (.mat (s_l02Echelon_F p0.1 p0.2.1) fun r2 =>
  .mat (sameL r2 p0.2.1) fun r3 =>
  .ret r3)
  (.ret false)
noncomputable def s_l02Space_15aa_F (p0 : TMatrix) : Option Bool := (s_l02Space_15aa p0).run some
noncomputable def s_l02Space_15aa_V : Env := ⟨tau, [(128, s_l02Ok_15aa_c), (56, s_l02Echelon_c), (75, s_l00Same_c)], []⟩
noncomputable def s_l02Space_15aa_b : Code := (Try.f74.body).getD .skip
noncomputable def s_l02Space_15aa_I : FnI := ⟨s_l02Space_15aa_b, Try.f74.results.toList, Try.f74.resultTypes.toList, []⟩
noncomputable def s_l02Space_15aa_out (zp0 : Bool) (p0 : TMatrix) : Bool → CallOut := fun r => ⟨(.imm true .bool r), [⟨true, kMatrix, (.imm zp0), p0⟩], []⟩
set_option maxRecDepth 100000 in
theorem s_l02Space_15aa_eq : ∀ (zp0 : Bool) (p0 : TMatrix), denFn s_l02Space_15aa_V s_l02Space_15aa_I ⟨[(.ptr (0, 0) [])], [⟨true, kMatrix, (.imm zp0), p0⟩]⟩ = (s_l02Space_15aa p0).run fun r => some (s_l02Space_15aa_out zp0 p0 r) := fun _ _ => by kernel_rfl
noncomputable def s_l02Space_15aa_G (av : List AV) (rs : List Root) : Tre CallOut :=
 asCons av fun a0_ av0 =>
 asEnd av0 <|
 asCons rs fun r0_ rs0 =>
 asEnd rs0 <|
 asPtr (0, 0) [] a0_ <|
 asRt true kMatrix r0_ fun m1 d2 =>
 asMImm m1 fun z3 =>
 .mat (s_l02Space_15aa_F d2) fun r => .ret (s_l02Space_15aa_out z3 d2 r)
noncomputable def s_l02Space_15aa_c : Ctr := ⟨[], fun ci => s_l02Space_15aa_G ci.args ci.roots, false⟩
theorem s_l02Space_15aa_env : EnvOK Try.prog .none s_l02Space_15aa_V := (envOK_cons s_l02Ok_15aa_ok ent128 (envOK_cons s_l02Echelon_ok ent56 (envOK_cons s_l00Same_ok ent75 envOK_nil)))
set_option maxRecDepth 100000 in
theorem s_l02Space_15aa_ok : Contract Try.prog .none 74 s_l02Space_15aa_c := by
 have hl : LoopsOK s_l02Space_15aa_V [] s_l02Space_15aa_b := loopsOK_nil (by kernel_rfl)
 refine (contract_of (F := s_l02Space_15aa_I) tau_tys s_l02Space_15aa_env Try.func74 (by kernel_rfl) (by kernel_rfl) (by kernel_rfl) hl []).weaken ?_
 rintro ⟨av, rs⟩ co h
 have h : (s_l02Space_15aa_G av rs).run some = some co := h
 obtain ⟨a0_, av0, rfl, h_0⟩ := asCons_spec h
 obtain ⟨rfl, h_1⟩ := asEnd_spec h_0
 obtain ⟨r0_, rs0, rfl, h_2⟩ := asCons_spec h_1
 obtain ⟨rfl, h_3⟩ := asEnd_spec h_2
 obtain ⟨rfl, h_4⟩ := asPtr_spec h_3
 obtain ⟨m1, d2, rfl, h_5⟩ := asRt_spec h_4
 obtain ⟨z3, rfl, h_6⟩ := asMImm_spec h_5
 exact fin_mat (s_l02Space_15aa_eq z3 d2) h_6
end Go.Proofs.Ythnkanacjhlhhaa

namespace Go.Proofs.Ythnkanacjhlhhaa
open Go Go.Abs Go.Proofs
noncomputable def s_l02Both_8def (p0 : TMatrix) (p1 : TMatrix) : Tre Int :=
 .mat (s_l02Space_15aa_F p0) fun r1 =>
 .cond (!r1)
  (.ret 1)
  (.mat (s_l02Space_15aa_F p1) fun r2 =>
  .cond (!r2)
   (.ret 1)
   (.cond (!decide (p0.1 = p1.1))
    (.ret 2)
    (.ret 0)))
noncomputable def s_l02Both_8def_F (p0 : TMatrix) (p1 : TMatrix) : Option Int := (s_l02Both_8def p0 p1).run some
noncomputable def s_l02Both_8def_V : Env := ⟨tau, [(74, s_l02Space_15aa_c)], []⟩
noncomputable def s_l02Both_8def_b : Code := (Try.f85.body).getD .skip
noncomputable def s_l02Both_8def_I : FnI := ⟨s_l02Both_8def_b, Try.f85.results.toList, Try.f85.resultTypes.toList, []⟩
noncomputable def s_l02Both_8def_out (zp0 : Bool) (zp1 : Bool) (p0 : TMatrix) (p1 : TMatrix) : Int → CallOut := fun r => ⟨(.imm true (.int .i64) r), [⟨true, kMatrix, (.imm zp0), p0⟩, ⟨true, kMatrix, (.imm zp1), p1⟩], []⟩
set_option maxRecDepth 100000 in
theorem s_l02Both_8def_eq : ∀ (zp0 : Bool) (zp1 : Bool) (p0 : TMatrix) (p1 : TMatrix), denFn s_l02Both_8def_V s_l02Both_8def_I ⟨[(.ptr (0, 0) []), (.ptr (0, 1) [])], [⟨true, kMatrix, (.imm zp0), p0⟩, ⟨true, kMatrix, (.imm zp1), p1⟩]⟩ = (s_l02Both_8def p0 p1).run fun r => some (s_l02Both_8def_out zp0 zp1 p0 p1 r) := fun _ _ _ _ => by kernel_rfl
noncomputable def s_l02Both_8def_G (av : List AV) (rs : List Root) : Tre CallOut :=
 asCons av fun a0_ av0 =>
 asCons av0 fun a1_ av1 =>
 asEnd av1 <|
 asCons rs fun r0_ rs0 =>
 asCons rs0 fun r1_ rs1 =>
 asEnd rs1 <|
 asPtr (0, 0) [] a0_ <|
 asPtr (0, 1) [] a1_ <|
 asRt true kMatrix r0_ fun m1 d2 =>
 asMImm m1 fun z3 =>
 asRt true kMatrix r1_ fun m4 d5 =>
 asMImm m4 fun z6 =>
 .mat (s_l02Both_8def_F d2 d5) fun r => .ret (s_l02Both_8def_out z3 z6 d2 d5 r)
noncomputable def s_l02Both_8def_c : Ctr := ⟨[], fun ci => s_l02Both_8def_G ci.args ci.roots, false⟩
theorem s_l02Both_8def_env : EnvOK Try.prog .none s_l02Both_8def_V := (envOK_cons s_l02Space_15aa_ok ent74 envOK_nil)
set_option maxRecDepth 100000 in
theorem s_l02Both_8def_ok : Contract Try.prog .none 85 s_l02Both_8def_c := by
 have hl : LoopsOK s_l02Both_8def_V [] s_l02Both_8def_b := loopsOK_nil (by kernel_rfl)
 refine (contract_of (F := s_l02Both_8def_I) tau_tys s_l02Both_8def_env Try.func85 (by kernel_rfl) (by kernel_rfl) (by kernel_rfl) hl []).weaken ?_
 rintro ⟨av, rs⟩ co h
 have h : (s_l02Both_8def_G av rs).run some = some co := h
 obtain ⟨a0_, av0, rfl, h_0⟩ := asCons_spec h
 obtain ⟨a1_, av1, rfl, h_1⟩ := asCons_spec h_0
 obtain ⟨rfl, h_2⟩ := asEnd_spec h_1
 obtain ⟨r0_, rs0, rfl, h_3⟩ := asCons_spec h_2
 obtain ⟨r1_, rs1, rfl, h_4⟩ := asCons_spec h_3
 obtain ⟨rfl, h_5⟩ := asEnd_spec h_4
 obtain ⟨rfl, h_6⟩ := asPtr_spec h_5
 obtain ⟨rfl, h_7⟩ := asPtr_spec h_6
 obtain ⟨m1, d2, rfl, h_8⟩ := asRt_spec h_7
 obtain ⟨z3, rfl, h_9⟩ := asMImm_spec h_8
 obtain ⟨m4, d5, rfl, h_10⟩ := asRt_spec h_9
 obtain ⟨z6, rfl, h_11⟩ := asMImm_spec h_10
 exact fin_mat (s_l02Both_8def_eq z3 z6 d2 d5) h_11
end Go.Proofs.Ythnkanacjhlhhaa

namespace Go.Proofs.Ythnkanacjhlhhaa
open Go Go.Abs Go.Proofs
noncomputable def s_l02Sum_2e37 (p0 : TMatrix) (p1 : TMatrix) : Tre (Int × (List Int)) :=
 .mat (cloneR p0.2.1) fun r1 =>
 .ite ((r1.length + p1.2.1.length) * 8 ≤ appendMax ∧ 1 ≤ 8) <|
 .mat (s_l02Echelon_F p0.1 (r1 ++ p1.2.1)) fun r2 =>
 .ret (p0.1, r2)
noncomputable def s_l02Sum_2e37_F (p0 : TMatrix) (p1 : TMatrix) : Option (Int × (List Int)) := (s_l02Sum_2e37 p0 p1).run some
noncomputable def s_l02Sum_2e37_V : Env := ⟨tau, [(105, s_l00Own_c), (56, s_l02Echelon_c)], []⟩
noncomputable def s_l02Sum_2e37_b : Code := (Try.f136.body).getD .skip
noncomputable def s_l02Sum_2e37_I : FnI := ⟨s_l02Sum_2e37_b, Try.f136.results.toList, Try.f136.resultTypes.toList, []⟩
noncomputable def s_l02Sum_2e37_out (_zp0 : Bool) (_zp1 : Bool) (_p0 : TMatrix) (_p1 : TMatrix) : (Int × (List Int)) → CallOut := fun r => ⟨(.pair (.imm true (.int .i64) r.1) (.pair (.ref (1, 0) []) (.imm true .unit ()))), [], [⟨false, (.sl (.int .i64)), .own, r.2⟩]⟩
set_option maxRecDepth 100000 in
theorem s_l02Sum_2e37_eq : ∀ (zp0 : Bool) (zp1 : Bool) (p0 : TMatrix) (p1 : TMatrix), denFn s_l02Sum_2e37_V s_l02Sum_2e37_I ⟨[(.iptr zp0 (.sl kMatrix) ([p0]) [.idx 0]), (.iptr zp1 (.sl kMatrix) ([p1]) [.idx 0])], []⟩ = (s_l02Sum_2e37 p0 p1).run fun r => some (s_l02Sum_2e37_out zp0 zp1 p0 p1 r) := fun _ _ _ _ => by kernel_rfl
noncomputable def s_l02Sum_2e37_G (av : List AV) (rs : List Root) : Tre CallOut :=
 asCons av fun a0_ av0 =>
 asCons av0 fun a1_ av1 =>
 asEnd av1 <|
 asEnd rs <|
 asIptr kMatrix a0_ fun z1 d2 =>
 asIptr kMatrix a1_ fun z3 d4 =>
 .mat (s_l02Sum_2e37_F d2 d4) fun r => .ret (s_l02Sum_2e37_out z1 z3 d2 d4 r)
noncomputable def s_l02Sum_2e37_c : Ctr := ⟨[], fun ci => s_l02Sum_2e37_G ci.args ci.roots, false⟩
theorem s_l02Sum_2e37_env : EnvOK Try.prog .none s_l02Sum_2e37_V := (envOK_cons s_l00Own_ok ent105 (envOK_cons s_l02Echelon_ok ent56 envOK_nil))
set_option maxRecDepth 100000 in
theorem s_l02Sum_2e37_ok : Contract Try.prog .none 136 s_l02Sum_2e37_c := by
 have hl : LoopsOK s_l02Sum_2e37_V [] s_l02Sum_2e37_b := loopsOK_nil (by kernel_rfl)
 refine (contract_of (F := s_l02Sum_2e37_I) tau_tys s_l02Sum_2e37_env Try.func136 (by kernel_rfl) (by kernel_rfl) (by kernel_rfl) hl []).weaken ?_
 rintro ⟨av, rs⟩ co h
 have h : (s_l02Sum_2e37_G av rs).run some = some co := h
 obtain ⟨a0_, av0, rfl, h_0⟩ := asCons_spec h
 obtain ⟨a1_, av1, rfl, h_1⟩ := asCons_spec h_0
 obtain ⟨rfl, h_2⟩ := asEnd_spec h_1
 obtain ⟨rfl, h_3⟩ := asEnd_spec h_2
 obtain ⟨z1, d2, rfl, h_4⟩ := asIptr_spec h_3
 obtain ⟨z3, d4, rfl, h_5⟩ := asIptr_spec h_4
 exact fin_mat (s_l02Sum_2e37_eq z1 z3 d2 d4) h_5
end Go.Proofs.Ythnkanacjhlhhaa

namespace Go.Proofs.Ythnkanacjhlhhaa
open Go Go.Abs Go.Proofs
noncomputable def s_l02Distance_2e37 (p0 : TMatrix) (p1 : TMatrix) : Tre Int :=
 .mat (s_l02Sum_2e37_F p0 p1) fun r1 =>
 let v2 := iwrap .i64 (2 * (r1.2.length : Int))
 let v3 := iwrap .i64 (v2 - (p0.2.1.length : Int))
 let v4 := iwrap .i64 (v3 - (p1.2.1.length : Int))
 .ret v4
noncomputable def s_l02Distance_2e37_F (p0 : TMatrix) (p1 : TMatrix) : Option Int := (s_l02Distance_2e37 p0 p1).run some
noncomputable def s_l02Distance_2e37_V : Env := ⟨tau, [(136, s_l02Sum_2e37_c)], []⟩
noncomputable def s_l02Distance_2e37_b : Code := (Try.f86.body).getD .skip
noncomputable def s_l02Distance_2e37_I : FnI := ⟨s_l02Distance_2e37_b, Try.f86.results.toList, Try.f86.resultTypes.toList, []⟩
noncomputable def s_l02Distance_2e37_out (_zp0 : Bool) (_zp1 : Bool) (_p0 : TMatrix) (_p1 : TMatrix) : Int → CallOut := fun r => ⟨(.imm true (.int .i64) r), [], []⟩
set_option maxRecDepth 100000 in
theorem s_l02Distance_2e37_eq : ∀ (zp0 : Bool) (zp1 : Bool) (p0 : TMatrix) (p1 : TMatrix), denFn s_l02Distance_2e37_V s_l02Distance_2e37_I ⟨[(.iptr zp0 (.sl kMatrix) ([p0]) [.idx 0]), (.iptr zp1 (.sl kMatrix) ([p1]) [.idx 0])], []⟩ = (s_l02Distance_2e37 p0 p1).run fun r => some (s_l02Distance_2e37_out zp0 zp1 p0 p1 r) := fun _ _ _ _ => by kernel_rfl
noncomputable def s_l02Distance_2e37_G (av : List AV) (rs : List Root) : Tre CallOut :=
 asCons av fun a0_ av0 =>
 asCons av0 fun a1_ av1 =>
 asEnd av1 <|
 asEnd rs <|
 asIptr kMatrix a0_ fun z1 d2 =>
 asIptr kMatrix a1_ fun z3 d4 =>
 .mat (s_l02Distance_2e37_F d2 d4) fun r => .ret (s_l02Distance_2e37_out z1 z3 d2 d4 r)
noncomputable def s_l02Distance_2e37_c : Ctr := ⟨[0, 1], fun ci => s_l02Distance_2e37_G ci.args ci.roots, false⟩
theorem s_l02Distance_2e37_env : EnvOK Try.prog .none s_l02Distance_2e37_V := (envOK_cons s_l02Sum_2e37_ok ent136 envOK_nil)
set_option maxRecDepth 100000 in
theorem s_l02Distance_2e37_ok : Contract Try.prog .none 86 s_l02Distance_2e37_c := by
 have hl : LoopsOK s_l02Distance_2e37_V [] s_l02Distance_2e37_b := loopsOK_nil (by kernel_rfl)
 refine (contract_of (F := s_l02Distance_2e37_I) tau_tys s_l02Distance_2e37_env Try.func86 (by kernel_rfl) (by kernel_rfl) (by kernel_rfl) hl [0, 1]).weaken ?_
 rintro ⟨av, rs⟩ co h
 have h : (s_l02Distance_2e37_G av rs).run some = some co := h
 obtain ⟨a0_, av0, rfl, h_0⟩ := asCons_spec h
 obtain ⟨a1_, av1, rfl, h_1⟩ := asCons_spec h_0
 obtain ⟨rfl, h_2⟩ := asEnd_spec h_1
 obtain ⟨rfl, h_3⟩ := asEnd_spec h_2
 obtain ⟨z1, d2, rfl, h_4⟩ := asIptr_spec h_3
 obtain ⟨z3, d4, rfl, h_5⟩ := asIptr_spec h_4
 exact fin_mat (s_l02Distance_2e37_eq z1 z3 d2 d4) h_5
end Go.Proofs.Ythnkanacjhlhhaa

namespace Go.Proofs.Ythnkanacjhlhhaa
open Go Go.Abs Go.Proofs
noncomputable def s_DistanceOf (p0 : TMatrix) (p1 : TMatrix) : Tre (Int × Int) :=
 .mat (s_l02Both_8def_F p0 p1) fun r1 =>
 .cond (!decide (r1 = 0))
  (.ret (0, r1))
  (.mat (s_l02Distance_2e37_F p0 p1) fun r2 =>
  .ret (r2, 0))
noncomputable def s_DistanceOf_F (p0 : TMatrix) (p1 : TMatrix) : Option (Int × Int) := (s_DistanceOf p0 p1).run some
noncomputable def s_DistanceOf_V : Env := ⟨tau, [(85, s_l02Both_8def_c), (86, s_l02Distance_2e37_c)], []⟩
noncomputable def s_DistanceOf_b : Code := (Try.f29.body).getD .skip
noncomputable def s_DistanceOf_I : FnI := ⟨s_DistanceOf_b, Try.f29.results.toList, Try.f29.resultTypes.toList, []⟩
noncomputable def s_DistanceOf_out (_zp0 : Bool) (_zp1 : Bool) (_p0 : TMatrix) (_p1 : TMatrix) : (Int × Int) → CallOut := fun r => ⟨(.tcons (.imm true (.int .i64) r.1) (.tcons (.imm true (.int .i64) r.2) .tnil)), [], []⟩
set_option maxRecDepth 100000 in
theorem s_DistanceOf_eq : ∀ (zp0 : Bool) (zp1 : Bool) (p0 : TMatrix) (p1 : TMatrix), denFn s_DistanceOf_V s_DistanceOf_I ⟨[(.imm zp0 kMatrix p0), (.imm zp1 kMatrix p1)], []⟩ = (s_DistanceOf p0 p1).run fun r => some (s_DistanceOf_out zp0 zp1 p0 p1 r) := fun _ _ _ _ => by kernel_rfl
noncomputable def s_DistanceOf_G (av : List AV) (rs : List Root) : Tre CallOut :=
 asCons av fun a0_ av0 =>
 asCons av0 fun a1_ av1 =>
 asEnd av1 <|
 asEnd rs <|
 asImm kMatrix a0_ fun z2 d1 =>
 asImm kMatrix a1_ fun z4 d3 =>
 .mat (s_DistanceOf_F d1 d3) fun r => .ret (s_DistanceOf_out z2 z4 d1 d3 r)
noncomputable def s_DistanceOf_c : Ctr := ⟨[], fun ci => s_DistanceOf_G ci.args ci.roots, false⟩
theorem s_DistanceOf_env : EnvOK Try.prog .none s_DistanceOf_V := (envOK_cons s_l02Both_8def_ok ent85 (envOK_cons s_l02Distance_2e37_ok ent86 envOK_nil))
set_option maxRecDepth 100000 in
theorem s_DistanceOf_ok : Contract Try.prog .none 29 s_DistanceOf_c := by
 have hl : LoopsOK s_DistanceOf_V [] s_DistanceOf_b := loopsOK_nil (by kernel_rfl)
 refine (contract_of (F := s_DistanceOf_I) tau_tys s_DistanceOf_env Try.func29 (by kernel_rfl) (by kernel_rfl) (by kernel_rfl) hl []).weaken ?_
 rintro ⟨av, rs⟩ co h
 have h : (s_DistanceOf_G av rs).run some = some co := h
 obtain ⟨a0_, av0, rfl, h_0⟩ := asCons_spec h
 obtain ⟨a1_, av1, rfl, h_1⟩ := asCons_spec h_0
 obtain ⟨rfl, h_2⟩ := asEnd_spec h_1
 obtain ⟨rfl, h_3⟩ := asEnd_spec h_2
 obtain ⟨z2, d1, rfl, h_4⟩ := asImm_spec h_3
 obtain ⟨z4, d3, rfl, h_5⟩ := asImm_spec h_4
 exact fin_mat (s_DistanceOf_eq z2 z4 d1 d3) h_5
end Go.Proofs.Ythnkanacjhlhhaa

namespace Go.Proofs.Ythnkanacjhlhhaa
open Go Go.Abs Go.Proofs
noncomputable def i_GaussNumber (p0 : Int) (p1 : Int) : Tre (Int × Int) :=
 .cond (!(i_within_S p0 1 10))
  (.ret (0, 2))
  (.cond (!(i_within_S p1 0 p0))
   (.ret (0, 2))
   (.mat (i_gauss_F 2 p0 p1) fun r1 =>
   .ret (r1, 0)))
noncomputable def i_GaussNumber_F (p0 : Int) (p1 : Int) : Option (Int × Int) := (i_GaussNumber p0 p1).run some
noncomputable def i_GaussNumber_V : Env := ⟨tau, [(57, i_within_c), (71, (i_gauss_c i_gauss_F))], []⟩
noncomputable def i_GaussNumber_b : Code := (Try.f19.body).getD .skip
noncomputable def i_GaussNumber_I : FnI := ⟨i_GaussNumber_b, Try.f19.results.toList, Try.f19.resultTypes.toList, []⟩
noncomputable def i_GaussNumber_out (_p0 : Int) (_p1 : Int) : (Int × Int) → CallOut := fun r => ⟨(.tcons (.imm true (.int .i64) r.1) (.tcons (.imm true (.int .i64) r.2) .tnil)), [], []⟩
set_option maxRecDepth 100000 in
theorem i_GaussNumber_eq : ∀ (p0 : Int) (p1 : Int), denFn i_GaussNumber_V i_GaussNumber_I ⟨[(.imm true (.int .i64) p0), (.imm true (.int .i64) p1)], []⟩ = (i_GaussNumber p0 p1).run fun r => some (i_GaussNumber_out p0 p1 r) := fun _ _ => by kernel_rfl
noncomputable def i_GaussNumber_G (av : List AV) (rs : List Root) : Tre CallOut :=
 asCons av fun a0_ av0 =>
 asCons av0 fun a1_ av1 =>
 asEnd av1 <|
 asEnd rs <|
 asImmZ true (.int .i64) a0_ fun d1 =>
 asImmZ true (.int .i64) a1_ fun d2 =>
 .mat (i_GaussNumber_F d1 d2) fun r => .ret (i_GaussNumber_out d1 d2 r)
noncomputable def i_GaussNumber_c : Ctr := ⟨[], fun ci => i_GaussNumber_G ci.args ci.roots, false⟩
theorem i_GaussNumber_env : EnvOK Try.prog .none i_GaussNumber_V := (envOK_cons i_within_ok ent57 (envOK_cons i_gauss_ok ent71 envOK_nil))
set_option maxRecDepth 100000 in
theorem i_GaussNumber_ok : Contract Try.prog .none 19 i_GaussNumber_c := by
 have hl : LoopsOK i_GaussNumber_V [] i_GaussNumber_b := loopsOK_nil (by kernel_rfl)
 refine (contract_of (F := i_GaussNumber_I) tau_tys i_GaussNumber_env Try.func19 (by kernel_rfl) (by kernel_rfl) (by kernel_rfl) hl []).weaken ?_
 rintro ⟨av, rs⟩ co h
 have h : (i_GaussNumber_G av rs).run some = some co := h
 obtain ⟨a0_, av0, rfl, h_0⟩ := asCons_spec h
 obtain ⟨a1_, av1, rfl, h_1⟩ := asCons_spec h_0
 obtain ⟨rfl, h_2⟩ := asEnd_spec h_1
 obtain ⟨rfl, h_3⟩ := asEnd_spec h_2
 obtain ⟨d1, rfl, h_4⟩ := asImmZ_spec h_3
 obtain ⟨d2, rfl, h_5⟩ := asImmZ_spec h_4
 exact fin_mat (i_GaussNumber_eq d1 d2) h_5
end Go.Proofs.Ythnkanacjhlhhaa

namespace Go.Proofs.Ythnkanacjhlhhaa
open Go Go.Abs Go.Proofs
noncomputable def i_distanceCode (p0 : Int) (p1 : Int) (p2 : Int) : Tre Int :=
 .cond (!(i_within_S p0 1 10))
  (.ret 2)
  (.cond (!(i_within_S p1 0 p0))
   (.ret 2)
   (let v1 := i_within_S p2 2 (iwrap .i64 (2 * p1))
   .cond (!v1)
    (.ret 2)
    (.cond (!decide (Int.tmod p2 2 = 0))
     (.ret 2)
     (.ret 0))))
noncomputable def i_distanceCode_F (p0 : Int) (p1 : Int) (p2 : Int) : Option Int := (i_distanceCode p0 p1 p2).run some
def i_distanceCode_S (p0 : Int) (p1 : Int) (p2 : Int) : Int :=
 cond (!(i_within_S p0 1 10))
  (2)
  (cond (!(i_within_S p1 0 p0))
   (2)
   (let v1 := i_within_S p2 2 (iwrap .i64 (2 * p1))
   cond (!v1)
    (2)
    (cond (!decide (Int.tmod p2 2 = 0))
     (2)
     (0))))
theorem i_distanceCode_spec (p0 : Int) (p1 : Int) (p2 : Int) : i_distanceCode_F p0 p1 p2 = some (i_distanceCode_S p0 p1 p2) := (run_cond_some rfl (run_cond_some rfl (run_cond_some rfl (run_cond_some rfl rfl))))
noncomputable def i_distanceCode_V : Env := ⟨tau, [(57, i_within_c)], []⟩
noncomputable def i_distanceCode_b : Code := (Try.f87.body).getD .skip
noncomputable def i_distanceCode_I : FnI := ⟨i_distanceCode_b, Try.f87.results.toList, Try.f87.resultTypes.toList, []⟩
noncomputable def i_distanceCode_out (_p0 : Int) (_p1 : Int) (_p2 : Int) : Int → CallOut := fun r => ⟨(.imm true (.int .i64) r), [], []⟩
set_option maxRecDepth 100000 in
theorem i_distanceCode_eq : ∀ (p0 : Int) (p1 : Int) (p2 : Int), denFn i_distanceCode_V i_distanceCode_I ⟨[(.imm true (.int .i64) p0), (.imm true (.int .i64) p1), (.imm true (.int .i64) p2)], []⟩ = (i_distanceCode p0 p1 p2).run fun r => some (i_distanceCode_out p0 p1 p2 r) := fun _ _ _ => by kernel_rfl
noncomputable def i_distanceCode_G (av : List AV) (rs : List Root) : Tre CallOut :=
 asCons av fun a0_ av0 =>
 asCons av0 fun a1_ av1 =>
 asCons av1 fun a2_ av2 =>
 asEnd av2 <|
 asEnd rs <|
 asImmZ true (.int .i64) a0_ fun d1 =>
 asImmZ true (.int .i64) a1_ fun d2 =>
 asImmZ true (.int .i64) a2_ fun d3 =>
 .ret (i_distanceCode_out d1 d2 d3 (i_distanceCode_S d1 d2 d3))
noncomputable def i_distanceCode_c : Ctr := ⟨[], fun ci => i_distanceCode_G ci.args ci.roots, false⟩
theorem i_distanceCode_env : EnvOK Try.prog .none i_distanceCode_V := (envOK_cons i_within_ok ent57 envOK_nil)
set_option maxRecDepth 100000 in
theorem i_distanceCode_ok : Contract Try.prog .none 87 i_distanceCode_c := by
 have hl : LoopsOK i_distanceCode_V [] i_distanceCode_b := loopsOK_nil (by kernel_rfl)
 refine (contract_of (F := i_distanceCode_I) tau_tys i_distanceCode_env Try.func87 (by kernel_rfl) (by kernel_rfl) (by kernel_rfl) hl []).weaken ?_
 rintro ⟨av, rs⟩ co h
 have h : (i_distanceCode_G av rs).run some = some co := h
 obtain ⟨a0_, av0, rfl, h_0⟩ := asCons_spec h
 obtain ⟨a1_, av1, rfl, h_1⟩ := asCons_spec h_0
 obtain ⟨a2_, av2, rfl, h_2⟩ := asCons_spec h_1
 obtain ⟨rfl, h_3⟩ := asEnd_spec h_2
 obtain ⟨rfl, h_4⟩ := asEnd_spec h_3
 obtain ⟨d1, rfl, h_5⟩ := asImmZ_spec h_4
 obtain ⟨d2, rfl, h_6⟩ := asImmZ_spec h_5
 obtain ⟨d3, rfl, h_7⟩ := asImmZ_spec h_6
 exact fin_ret (i_distanceCode_eq d1 d2 d3) (i_distanceCode_spec d1 d2 d3) h_7
end Go.Proofs.Ythnkanacjhlhhaa

namespace Go.Proofs.Ythnkanacjhlhhaa
open Go Go.Abs Go.Proofs
noncomputable def i_size_int64 (p0 : (List Int)) : Tre Int :=
 .ret (p0.length : Int)
noncomputable def i_size_int64_F (p0 : (List Int)) : Option Int := (i_size_int64 p0).run some
theorem i_size_int64_spec (p0 : (List Int)) : i_size_int64_F p0 = some (p0.length : Int) := rfl
noncomputable def i_size_int64_V : Env := ⟨tau, [], []⟩
noncomputable def i_size_int64_b : Code := (Try.f126.body).getD .skip
noncomputable def i_size_int64_I : FnI := ⟨i_size_int64_b, Try.f126.results.toList, Try.f126.resultTypes.toList, []⟩
noncomputable def i_size_int64_out (_zp0 : Bool) (_p0 : (List Int)) : Int → CallOut := fun r => ⟨(.imm true (.int .i64) r), [], []⟩
set_option maxRecDepth 100000 in
theorem i_size_int64_eq : ∀ (zp0 : Bool) (p0 : (List Int)), denFn i_size_int64_V i_size_int64_I ⟨[(.imm zp0 (.sl (.int .i64)) p0)], []⟩ = (i_size_int64 p0).run fun r => some (i_size_int64_out zp0 p0 r) := fun _ _ => by kernel_rfl
noncomputable def i_size_int64_G (av : List AV) (rs : List Root) : Tre CallOut :=
 asCons av fun a0_ av0 =>
 asEnd av0 <|
 asEnd rs <|
 asImm (.sl (.int .i64)) a0_ fun z2 d1 =>
 .ret (i_size_int64_out z2 d1 (d1.length : Int))
noncomputable def i_size_int64_c : Ctr := ⟨[], fun ci => i_size_int64_G ci.args ci.roots, false⟩
theorem i_size_int64_env : EnvOK Try.prog .none i_size_int64_V := envOK_nil
set_option maxRecDepth 100000 in
theorem i_size_int64_ok : Contract Try.prog .none 126 i_size_int64_c := by
 have hl : LoopsOK i_size_int64_V [] i_size_int64_b := loopsOK_nil (by kernel_rfl)
 refine (contract_of (F := i_size_int64_I) tau_tys i_size_int64_env Try.func126 (by kernel_rfl) (by kernel_rfl) (by kernel_rfl) hl []).weaken ?_
 rintro ⟨av, rs⟩ co h
 have h : (i_size_int64_G av rs).run some = some co := h
 obtain ⟨a0_, av0, rfl, h_0⟩ := asCons_spec h
 obtain ⟨rfl, h_1⟩ := asEnd_spec h_0
 obtain ⟨rfl, h_2⟩ := asEnd_spec h_1
 obtain ⟨z2, d1, rfl, h_3⟩ := asImm_spec h_2
 exact fin_ret (i_size_int64_eq z2 d1) (i_size_int64_spec d1) h_3
end Go.Proofs.Ythnkanacjhlhhaa

namespace Go.Proofs.Ythnkanacjhlhhaa
open Go Go.Abs Go.Proofs
noncomputable def slices_Clone_int64_b930 : Tre (List Int) :=
 .ret []
noncomputable def slices_Clone_int64_b930_F : Option (List Int) := (slices_Clone_int64_b930).run some
theorem slices_Clone_int64_b930_spec : slices_Clone_int64_b930_F = some [] := rfl
noncomputable def slices_Clone_int64_b930_V : Env := ⟨tau, [], []⟩
noncomputable def slices_Clone_int64_b930_b : Code := (Try.f115.body).getD .skip
noncomputable def slices_Clone_int64_b930_I : FnI := ⟨slices_Clone_int64_b930_b, Try.f115.results.toList, Try.f115.resultTypes.toList, []⟩
noncomputable def slices_Clone_int64_b930_out : (List Int) → CallOut := fun r => ⟨(.ref (1, 0) []), [], [⟨false, (.sl (.int .i64)), .own, r⟩]⟩
set_option maxRecDepth 100000 in
theorem slices_Clone_int64_b930_eq : denFn slices_Clone_int64_b930_V slices_Clone_int64_b930_I ⟨[.nil], []⟩ = (slices_Clone_int64_b930).run fun r => some (slices_Clone_int64_b930_out r) := by kernel_rfl
noncomputable def slices_Clone_int64_b930_G (av : List AV) (rs : List Root) : Tre CallOut :=
 asCons av fun a0_ av0 =>
 asEnd av0 <|
 asEnd rs <|
 asNil a0_ <|
 .ret (slices_Clone_int64_b930_out [])
noncomputable def slices_Clone_int64_b930_c : Ctr := ⟨[], fun ci => slices_Clone_int64_b930_G ci.args ci.roots, false⟩
theorem slices_Clone_int64_b930_env : EnvOK Try.prog .none slices_Clone_int64_b930_V := envOK_nil
set_option maxRecDepth 100000 in
theorem slices_Clone_int64_b930_ok : Contract Try.prog .none 115 slices_Clone_int64_b930_c := by
 have hl : LoopsOK slices_Clone_int64_b930_V [] slices_Clone_int64_b930_b := loopsOK_nil (by kernel_rfl)
 refine (contract_of (F := slices_Clone_int64_b930_I) tau_tys slices_Clone_int64_b930_env Try.func115 (by kernel_rfl) (by kernel_rfl) (by kernel_rfl) hl []).weaken ?_
 rintro ⟨av, rs⟩ co h
 have h : (slices_Clone_int64_b930_G av rs).run some = some co := h
 obtain ⟨a0_, av0, rfl, h_0⟩ := asCons_spec h
 obtain ⟨rfl, h_1⟩ := asEnd_spec h_0
 obtain ⟨rfl, h_2⟩ := asEnd_spec h_1
 obtain ⟨rfl, h_3⟩ := asNil_spec h_2
 exact fin_ret (slices_Clone_int64_b930_eq) (slices_Clone_int64_b930_spec) h_3
end Go.Proofs.Ythnkanacjhlhhaa

namespace Go.Proofs.Ythnkanacjhlhhaa
open Go Go.Abs Go.Proofs
noncomputable def slices_Clone_int64_6661 (p0 : (List Int)) : Tre (List Int) :=
 .ite ((0 + p0.length) * 8 ≤ appendMax ∧ 1 ≤ 8) <|
 .ret ([] ++ p0)
noncomputable def slices_Clone_int64_6661_F (p0 : (List Int)) : Option (List Int) := (slices_Clone_int64_6661 p0).run some
theorem slices_Clone_int64_6661_spec (p0 : (List Int)) (y : (List Int)) (h : cloneR p0 = some y) : slices_Clone_int64_6661_F p0 = some y := by
 obtain ⟨hl, rfl⟩ := lim_some h
 have hb : (0 + p0.length) * 8 ≤ appendMax ∧ 1 ≤ 8 := by unfold appendMax; omega
 unfold slices_Clone_int64_6661_F slices_Clone_int64_6661
 rw [Tre.run_ite, if_pos hb]
 rfl
noncomputable def slices_Clone_int64_6661_V : Env := ⟨tau, [], []⟩
noncomputable def slices_Clone_int64_6661_b : Code := (Try.f115.body).getD .skip
noncomputable def slices_Clone_int64_6661_I : FnI := ⟨slices_Clone_int64_6661_b, Try.f115.results.toList, Try.f115.resultTypes.toList, []⟩
noncomputable def slices_Clone_int64_6661_out (_zp0 : Bool) (_p0 : (List Int)) : (List Int) → CallOut := fun r => ⟨(.ref (1, 0) []), [], [⟨false, (.sl (.int .i64)), .own, r⟩]⟩
set_option maxRecDepth 100000 in
theorem slices_Clone_int64_6661_eq : ∀ (zp0 : Bool) (p0 : (List Int)), denFn slices_Clone_int64_6661_V slices_Clone_int64_6661_I ⟨[(.nn zp0 (.int .i64) p0)], []⟩ = (slices_Clone_int64_6661 p0).run fun r => some (slices_Clone_int64_6661_out zp0 p0 r) := fun _ _ => by kernel_rfl
noncomputable def slices_Clone_int64_6661_G (av : List AV) (rs : List Root) : Tre CallOut :=
 asCons av fun a0_ av0 =>
 asEnd av0 <|
 asEnd rs <|
 asNn (.int .i64) a0_ fun z1 d2 =>
 .mat (cloneR d2) fun r => .ret (slices_Clone_int64_6661_out z1 d2 r)
noncomputable def slices_Clone_int64_6661_c : Ctr := ⟨[], fun ci => slices_Clone_int64_6661_G ci.args ci.roots, false⟩
theorem slices_Clone_int64_6661_env : EnvOK Try.prog .none slices_Clone_int64_6661_V := envOK_nil
set_option maxRecDepth 100000 in
theorem slices_Clone_int64_6661_ok : Contract Try.prog .none 115 slices_Clone_int64_6661_c := by
 have hl : LoopsOK slices_Clone_int64_6661_V [] slices_Clone_int64_6661_b := loopsOK_nil (by kernel_rfl)
 refine (contract_of (F := slices_Clone_int64_6661_I) tau_tys slices_Clone_int64_6661_env Try.func115 (by kernel_rfl) (by kernel_rfl) (by kernel_rfl) hl []).weaken ?_
 rintro ⟨av, rs⟩ co h
 have h : (slices_Clone_int64_6661_G av rs).run some = some co := h
 obtain ⟨a0_, av0, rfl, h_0⟩ := asCons_spec h
 obtain ⟨rfl, h_1⟩ := asEnd_spec h_0
 obtain ⟨rfl, h_2⟩ := asEnd_spec h_1
 obtain ⟨z1, d2, rfl, h_3⟩ := asNn_spec h_2
 exact fin_opt (slices_Clone_int64_6661_eq z1 d2) (slices_Clone_int64_6661_spec d2) h_3
end Go.Proofs.Ythnkanacjhlhhaa

namespace Go.Proofs.Ythnkanacjhlhhaa
open Go Go.Abs Go.Proofs
theorem slices_Clone_int64_nil (y : (List Int)) (h : cloneR ([] : (List Int)) = some y) : y = [] := (lim_some h).2.symm
noncomputable def slices_Clone_int64_G (av : List AV) (rs : List Root) : Tre CallOut :=
 asCons av fun a0_ av0 =>
 asEnd av0 <|
 asEnd rs <|
 asImm (.sl (.int .i64)) a0_ fun z2 d1 =>
 .mat (cloneR d1) fun r => .ret ⟨(.ref (1, 0) []), [], [⟨false, (.sl (.int .i64)), .own, r⟩]⟩
noncomputable def slices_Clone_int64_c : Ctr := ⟨[], fun ci => slices_Clone_int64_G ci.args ci.roots, false⟩
theorem slices_Clone_int64_ok : Contract Try.prog .none 115 slices_Clone_int64_c := by
 refine contract_nil (e := (.int .i64)) slices_Clone_int64_b930_ok slices_Clone_int64_6661_ok ?_
 rintro ⟨av, rs⟩ co h
 have h : (slices_Clone_int64_G av rs).run some = some co := h
 obtain ⟨a0_, av0, rfl, h_0⟩ := asCons_spec h
 obtain ⟨rfl, h_1⟩ := asEnd_spec h_0
 obtain ⟨rfl, h_2⟩ := asEnd_spec h_1
 obtain ⟨z2, d1, rfl, h_3⟩ := asImm_spec h_2
 refine ⟨z2, d1, rfl, ?_, ?_⟩
 ·exact h_3
 ·rintro rfl
  obtain ⟨y, h1, h2⟩ := mat_ret h_3
  have hy : y = [] := by
   have := slices_Clone_int64_nil y h1
   exact this
  subst hy
  rw [← h2]; rfl
end Go.Proofs.Ythnkanacjhlhhaa

namespace Go.Proofs.Ythnkanacjhlhhaa
open Go Go.Abs Go.Proofs
noncomputable def i_echelonc1_66da (p0 : Int) (p1 : Int) : Tre Bool :=
 .ite (0 ≤ p1) <|
 let v1 := iand .i64 (ishr .i64 p0 p1) 1
 .ret (decide (v1 = 1))
noncomputable def i_echelonc1_66da_F (p0 : Int) (p1 : Int) : Option Bool := (i_echelonc1_66da p0 p1).run some
noncomputable def i_echelonc1_66da_V : Env := ⟨tau, [], []⟩
noncomputable def i_echelonc1_66da_b : Code := (Try.f117.body).getD .skip
noncomputable def i_echelonc1_66da_I : FnI := ⟨i_echelonc1_66da_b, Try.f117.results.toList, Try.f117.resultTypes.toList, []⟩
noncomputable def i_echelonc1_66da_out (_p0 : Int) (p1 : Int) : Bool → CallOut := fun r => ⟨(.imm true .bool r), [⟨true, (.int .i64), .own, p1⟩], []⟩
set_option maxRecDepth 100000 in
theorem i_echelonc1_66da_eq : ∀ (p0 : Int) (p1 : Int), denFn i_echelonc1_66da_V i_echelonc1_66da_I ⟨[(.imm true (.int .i64) p0), (.ptr (0, 0) [])], [⟨true, (.int .i64), .own, p1⟩]⟩ = (i_echelonc1_66da p0 p1).run fun r => some (i_echelonc1_66da_out p0 p1 r) := fun _ _ => by kernel_rfl
noncomputable def i_echelonc1_66da_G (av : List AV) (rs : List Root) : Tre CallOut :=
 asCons av fun a0_ av0 =>
 asCons av0 fun a1_ av1 =>
 asEnd av1 <|
 asCons rs fun r0_ rs0 =>
 asEnd rs0 <|
 asImmZ true (.int .i64) a0_ fun d1 =>
 asPtr (0, 0) [] a1_ <|
 asRt true (.int .i64) r0_ fun m2 d3 =>
 asM .own m2 <|
 .mat (i_echelonc1_66da_F d1 d3) fun r => .ret (i_echelonc1_66da_out d1 d3 r)
noncomputable def i_echelonc1_66da_c : Ctr := ⟨[], fun ci => i_echelonc1_66da_G ci.args ci.roots, false⟩
theorem i_echelonc1_66da_env : EnvOK Try.prog .none i_echelonc1_66da_V := envOK_nil
set_option maxRecDepth 100000 in
theorem i_echelonc1_66da_ok : Contract Try.prog .none 117 i_echelonc1_66da_c := by
 have hl : LoopsOK i_echelonc1_66da_V [] i_echelonc1_66da_b := loopsOK_nil (by kernel_rfl)
 refine (contract_of (F := i_echelonc1_66da_I) tau_tys i_echelonc1_66da_env Try.func117 (by kernel_rfl) (by kernel_rfl) (by kernel_rfl) hl []).weaken ?_
 rintro ⟨av, rs⟩ co h
 have h : (i_echelonc1_66da_G av rs).run some = some co := h
 obtain ⟨a0_, av0, rfl, h_0⟩ := asCons_spec h
 obtain ⟨a1_, av1, rfl, h_1⟩ := asCons_spec h_0
 obtain ⟨rfl, h_2⟩ := asEnd_spec h_1
 obtain ⟨r0_, rs0, rfl, h_3⟩ := asCons_spec h_2
 obtain ⟨rfl, h_4⟩ := asEnd_spec h_3
 obtain ⟨d1, rfl, h_5⟩ := asImmZ_spec h_4
 obtain ⟨rfl, h_6⟩ := asPtr_spec h_5
 obtain ⟨m2, d3, rfl, h_7⟩ := asRt_spec h_6
 obtain ⟨rfl, h_8⟩ := asM_spec h_7
 exact fin_mat (i_echelonc1_66da_eq d1 d3) h_8
end Go.Proofs.Ythnkanacjhlhhaa

namespace Go.Proofs.Ythnkanacjhlhhaa
open Go Go.Abs Go.Proofs
noncomputable def nm19_l2 (h2_0_0 : (List Int)) (h2_0_1 : Int) (h2_0_3 : Int) : Int → Tre (Int ⊕ (Int ⊕ Unit)) := fun s2 =>
 .cond (decide (s2 < h2_0_1))
  (.ite (0 ≤ s2 ∧ s2 < (h2_0_0.length : Int)) <|
  .mat (h2_0_0[s2.toNat]?) fun x1 =>
  .mat (i_echelonc1_66da_F x1 h2_0_3) fun r2 =>
  .cond r2
   (.ret (.inr (.inl s2)))
   (.ret (.inl (iwrap .i64 (s2 + 1)))))
  (.ret (.inr (.inr ())))
noncomputable def nm19 (p0 : (List Int)) (p1 : Int) : Tre Int :=
 .mat (loopF (nm19_l2 p0 (p0.length : Int) p1) 0) fun l3 =>
 .alt l3
  (fun a4 =>
   .ret a4)
  (fun _ =>
   .ret (-1))
noncomputable def nm19_F (p0 : (List Int)) (p1 : Int) : Option Int := (nm19 p0 p1).run some
noncomputable def nm19_V : Env := ⟨tau, [(117, i_echelonc1_66da_c)], []⟩
noncomputable def nm19_b : Code := (Try.f116.body).getD .skip
noncomputable def nm19_l2_mk (z2_0 : Bool) (h2_0_0 : (List Int)) (h2_0_1 : Int) (h2_0_3 : Int) : Int → St := fun x => stOf [(0, (.imm z2_0 (.sl (.int .i64)) h2_0_0)), (1, (.fn 117 [(0, 0)])), (7, (.imm true (.int .i64) h2_0_1)), (8, (.imm true (.int .i64) x))] [((0, 0), some ⟨true, (.int .i64), .own, h2_0_3⟩)]
noncomputable def nm19_l2_out (_z2_0 : Bool) (_h2_0_0 : (List Int)) (_h2_0_1 : Int) (h2_0_3 : Int) : (Int ⊕ Unit) → Ex × St
 | .inl x => (.ret, stOf [(4, (.imm true (.int .i64) x))] [((0, 0), some ⟨true, (.int .i64), .own, h2_0_3⟩)])
 | .inr x => (.exit 0, stOf [(4, .dead)] [((0, 0), some ⟨true, (.int .i64), .own, h2_0_3⟩)])
noncomputable def nm19_l2_D (s : St) : Tre (Ex × St) :=
 asImm (.sl (.int .i64)) (s.tmps 0) fun z3 d2 =>
 asFn 117 [(0, 0)] (s.tmps 1) <|
 asImmZ true (.int .i64) (s.tmps 7) fun d6 =>
 asImmZ true (.int .i64) (s.tmps 8) fun d8 =>
 asRoot true (.int .i64) (s.roots (0, 0)) fun m10 d11 =>
 asM .own m10 <|
 .mat (loopF (nm19_l2 d2 d6 d11) d8) fun x => .alt x (fun a0 => .ret (nm19_l2_out z3 d2 d6 d11 (.inl a0))) (fun b0 => .ret (nm19_l2_out z3 d2 d6 d11 (.inr b0)))
noncomputable def nm19_l2_L : LoopI := ⟨([0, 1, 7, 8], [(0, 0)]), ([4], [(0, 0)]), nm19_l2_D⟩
noncomputable def nm19_A : List (Nat × LoopI) := [(2, nm19_l2_L)]
set_option maxRecDepth 100000 in
theorem nm19_l2_step : ∀ (z2_0 : Bool) (h2_0_0 : (List Int)) (h2_0_1 : Int) (h2_0_3 : Int) (x : Int) (c : St → Option (Ex × St)), den nm19_V nm19_A (loopAt nm19_b 0) (nm19_l2_mk z2_0 h2_0_0 h2_0_1 h2_0_3 x) (roundK nm19_l2_L.kp nm19_l2_L.kx c) = (nm19_l2 h2_0_0 h2_0_1 h2_0_3 x).run (roundR (nm19_l2_mk z2_0 h2_0_0 h2_0_1 h2_0_3) (nm19_l2_out z2_0 h2_0_0 h2_0_1 h2_0_3) c) := fun _ _ _ _ _ _ => by
 kernel_rfl
theorem nm19_l2_ok : LoopOK nm19_V nm19_A (loopAt nm19_b 0) nm19_l2_L := loopOK_of fun s e s' h => by
 generalize hs : restrict nm19_l2_L.kp s = s1 at h
 have h : (nm19_l2_D s1).run some = some (e, s') := h
 obtain ⟨z3, d2, e1, h_0⟩ := asImm_spec h
 obtain ⟨e4, h_1⟩ := asFn_spec h_0
 obtain ⟨d6, e5, h_2⟩ := asImmZ_spec h_1
 obtain ⟨d8, e7, h_3⟩ := asImmZ_spec h_2
 obtain ⟨m10, d11, e9, h_4⟩ := asRoot_spec h_3
 obtain ⟨rfl, h_5⟩ := asM_spec h_4
 obtain ⟨y, hy, hz⟩ := mat_some h_5
 refine ⟨_, _, nm19_l2_mk z3 d2 d6 d11, nm19_l2_out z3 d2 d6 d11, nm19_l2 d2 d6 d11, d8, y, ?_, hy, ?_, nm19_l2_step z3 d2 d6 d11⟩
 ·subst hs; exact restrict_eq (T := [(0, (.imm z3 (.sl (.int .i64)) d2)), (1, (.fn 117 [(0, 0)])), (7, (.imm true (.int .i64) d6)), (8, (.imm true (.int .i64) d8))]) (U := [((0, 0), some ⟨true, (.int .i64), .own, d11⟩)]) rfl rfl ⟨e1, e4, e5, e7, trivial⟩ ⟨e9, trivial⟩
 ·rcases y with x | x <;> exact Option.some.inj hz
noncomputable def nm19_I : FnI := ⟨nm19_b, Try.f116.results.toList, Try.f116.resultTypes.toList, nm19_A⟩
noncomputable def nm19_out (_zp0 : Bool) (_p0 : (List Int)) (p1 : Int) : Int → CallOut := fun r => ⟨(.imm true (.int .i64) r), [⟨true, (.int .i64), .own, p1⟩], []⟩
set_option maxRecDepth 100000 in
theorem nm19_eq : ∀ (zp0 : Bool) (p0 : (List Int)) (p1 : Int), denFn nm19_V nm19_I ⟨[(.imm zp0 (.sl (.int .i64)) p0), (.fn 117 [(0, 0)])], [⟨true, (.int .i64), .own, p1⟩]⟩ = (nm19 p0 p1).run fun r => some (nm19_out zp0 p0 p1 r) := fun _ _ _ => by kernel_rfl
noncomputable def nm19_G (av : List AV) (rs : List Root) : Tre CallOut :=
 asCons av fun a0_ av0 =>
 asCons av0 fun a1_ av1 =>
 asEnd av1 <|
 asCons rs fun r0_ rs0 =>
 asEnd rs0 <|
 asImm (.sl (.int .i64)) a0_ fun z2 d1 =>
 asFn 117 [(0, 0)] a1_ <|
 asRt true (.int .i64) r0_ fun m3 d4 =>
 asM .own m3 <|
 .mat (nm19_F d1 d4) fun r => .ret (nm19_out z2 d1 d4 r)
noncomputable def nm19_c : Ctr := ⟨[], fun ci => nm19_G ci.args ci.roots, false⟩
theorem nm19_env : EnvOK Try.prog .none nm19_V := (envOK_cons i_echelonc1_66da_ok ent117 envOK_nil)
set_option maxRecDepth 100000 in
theorem nm19_ok : Contract Try.prog .none 116 nm19_c := by
 have hl : LoopsOK nm19_V nm19_A nm19_b := (loopsOK_all (n := 1) (by kernel_rfl) fun k hk => by
   match k, hk with
   | 0, _ => exact loopOK_at (id := 2) (L := nm19_l2_L) (by kernel_rfl) (by kernel_rfl) nm19_l2_ok)
 refine (contract_of (F := nm19_I) tau_tys nm19_env Try.func116 (by kernel_rfl) (by kernel_rfl) (by kernel_rfl) hl []).weaken ?_
 rintro ⟨av, rs⟩ co h
 have h : (nm19_G av rs).run some = some co := h
 obtain ⟨a0_, av0, rfl, h_0⟩ := asCons_spec h
 obtain ⟨a1_, av1, rfl, h_1⟩ := asCons_spec h_0
 obtain ⟨rfl, h_2⟩ := asEnd_spec h_1
 obtain ⟨r0_, rs0, rfl, h_3⟩ := asCons_spec h_2
 obtain ⟨rfl, h_4⟩ := asEnd_spec h_3
 obtain ⟨z2, d1, rfl, h_5⟩ := asImm_spec h_4
 obtain ⟨rfl, h_6⟩ := asFn_spec h_5
 obtain ⟨m3, d4, rfl, h_7⟩ := asRt_spec h_6
 obtain ⟨rfl, h_8⟩ := asM_spec h_7
 exact fin_mat (nm19_eq z2 d1 d4) h_8
end Go.Proofs.Ythnkanacjhlhhaa

namespace Go.Proofs.Ythnkanacjhlhhaa
open Go Go.Abs Go.Proofs
noncomputable def i_echelon_l10 (h10_0_0 : Int) (h10_0_1 : Int) (h10_0_4 : Int) : (Int × (List Int)) → Tre ((Int × (List Int)) ⊕ (List Int)) := fun s10 =>
 .cond (decide (s10.1 < h10_0_1))
  (.cond (!decide (s10.1 = h10_0_0))
   (.ite (0 ≤ s10.1 ∧ s10.1 < (s10.2.length : Int)) <|
   .mat (s10.2[s10.1.toNat]?) fun x9 =>
   .ite (0 ≤ h10_0_4) <|
   let v10 := iand .i64 (ishr .i64 x9 h10_0_4) 1
   .cond (decide (v10 = 1))
    (.ite (0 ≤ s10.1 ∧ s10.1 < (s10.2.length : Int)) <|
    .mat (s10.2[s10.1.toNat]?) fun x11 =>
    .ite (0 ≤ h10_0_0 ∧ h10_0_0 < (s10.2.length : Int)) <|
    .mat (s10.2[h10_0_0.toNat]?) fun x12 =>
    .ite (0 ≤ s10.1 ∧ s10.1 < (s10.2.length : Int)) <|
    .mat (s10.2[s10.1.toNat]?) fun _ =>
    let v14 := s10.2.set s10.1.toNat (ixor .i64 x11 x12)
    .ret (.inl (iwrap .i64 (s10.1 + 1), v14)))
    (.ret (.inl (iwrap .i64 (s10.1 + 1), s10.2))))
   (.ret (.inl (iwrap .i64 (s10.1 + 1), s10.2))))
  (.ret (.inr s10.2))
noncomputable def i_echelon_l4 : (Int × (List Int) × Int) → Tre ((Int × (List Int) × Int) ⊕ (Int × (List Int))) := fun s4 =>
 .cond (decide (s4.2.2 < 62))
  (.cond (decide (s4.1 < (s4.2.1.length : Int)))
   (.ite (0 ≤ s4.1 ∧ s4.1 ≤ (s4.2.1.length : Int) ∧ (s4.2.1.length : Int) ≤ (s4.2.1.length : Int)) <|
   .mat (nm19_F ((s4.2.1.drop s4.1.toNat).take (((s4.2.1.length : Int) - s4.1).toNat)) s4.2.2) fun r2 =>
   .cond (decide (r2 < 0))
    (.ret (.inl (s4.1, s4.2.1, iwrap .i64 (s4.2.2 + 1))))
    (.ite (0 ≤ iwrap .i64 (s4.1 + r2) ∧ iwrap .i64 (s4.1 + r2) < (s4.2.1.length : Int)) <|
    .mat (s4.2.1[(iwrap .i64 (s4.1 + r2)).toNat]?) fun x3 =>
    .ite (0 ≤ s4.1 ∧ s4.1 < (s4.2.1.length : Int)) <|
    .mat (s4.2.1[s4.1.toNat]?) fun x4 =>
    .ite (0 ≤ s4.1 ∧ s4.1 < (s4.2.1.length : Int)) <|
    .mat (s4.2.1[s4.1.toNat]?) fun _ =>
    let v6 := s4.2.1.set s4.1.toNat x3
    .ite (0 ≤ iwrap .i64 (s4.1 + r2) ∧ iwrap .i64 (s4.1 + r2) < (v6.length : Int)) <|
    .mat (v6[(iwrap .i64 (s4.1 + r2)).toNat]?) fun _ =>
    let v8 := v6.set ((iwrap .i64 (s4.1 + r2)).toNat) x4
    .mat (loopF (i_echelon_l10 s4.1 (v8.length : Int) s4.2.2) (0, v8)) fun l15 =>
    .ret (.inl (iwrap .i64 (s4.1 + 1), l15, iwrap .i64 (s4.2.2 + 1)))))
   (.ret (.inr (s4.1, s4.2.1))))
  (.ret (.inr (s4.1, s4.2.1)))
noncomputable def i_echelon (p0 : (List Int)) : Tre (List Int) :=
 .mat (cloneR p0) fun r1 =>
 .mat (loopF i_echelon_l4 (0, r1, 0)) fun l16 =>
 .ite (0 ≤ (0 : Int) ∧ (0 : Int) ≤ l16.1 ∧ l16.1 ≤ (l16.2.length : Int)) <|
 .ret ((l16.2.drop 0).take ((l16.1 - 0).toNat))
noncomputable def i_echelon_F (p0 : (List Int)) : Option (List Int) := (i_echelon p0).run some
noncomputable def i_echelon_V : Env := ⟨tau, [(115, slices_Clone_int64_c), (116, nm19_c)], []⟩
noncomputable def i_echelon_b : Code := (Try.f62.body).getD .skip
noncomputable def i_echelon_l10_mk (h10_0_0 : Int) (h10_0_1 : Int) (h10_0_4 : Int) : (Int × (List Int)) → St := fun x => stOf [(0, (.ref (2, 0) [])), (3, (.imm true (.int .i64) h10_0_0)), (4, (.ptr (6, 0) [])), (45, (.imm true (.int .i64) h10_0_1)), (46, (.imm true (.int .i64) x.1))] [((2, 0), some ⟨false, (.sl (.int .i64)), .own, x.2⟩), ((6, 0), some ⟨true, (.int .i64), .own, h10_0_4⟩)]
noncomputable def i_echelon_l10_out (h10_0_0 : Int) (_h10_0_1 : Int) (h10_0_4 : Int) : (List Int) → Ex × St := fun x => (.exit 2, stOf [(0, (.ref (2, 0) [])), (3, (.imm true (.int .i64) h10_0_0)), (4, (.ptr (6, 0) []))] [((2, 0), some ⟨false, (.sl (.int .i64)), .own, x⟩), ((6, 0), some ⟨true, (.int .i64), .own, h10_0_4⟩)])
noncomputable def i_echelon_l10_D (s : St) : Tre (Ex × St) :=
 asRef (2, 0) [] (s.tmps 0) <|
 asImmZ true (.int .i64) (s.tmps 3) fun d3 =>
 asPtr (6, 0) [] (s.tmps 4) <|
 asImmZ true (.int .i64) (s.tmps 45) fun d6 =>
 asImmZ true (.int .i64) (s.tmps 46) fun d8 =>
 asRoot false (.sl (.int .i64)) (s.roots (2, 0)) fun m10 d11 =>
 asM .own m10 <|
 asRoot true (.int .i64) (s.roots (6, 0)) fun m13 d14 =>
 asM .own m13 <|
 .mat (loopF (i_echelon_l10 d3 d6 d14) (d8, d11)) fun x => .ret (i_echelon_l10_out d3 d6 d14 x)
noncomputable def i_echelon_l10_L : LoopI := ⟨([0, 3, 4, 45, 46], [(2, 0), (6, 0)]), ([0, 3, 4], [(2, 0), (6, 0)]), i_echelon_l10_D⟩
noncomputable def i_echelon_l4_mk : (Int × (List Int) × Int) → St := fun x => stOf [(0, (.ref (2, 0) [])), (3, (.imm true (.int .i64) x.1)), (4, (.ptr (6, 0) []))] [((2, 0), some ⟨false, (.sl (.int .i64)), .own, x.2.1⟩), ((6, 0), some ⟨true, (.int .i64), .own, x.2.2⟩)]
noncomputable def i_echelon_l4_out : (Int × (List Int)) → Ex × St := fun x => (.exit 0, stOf [(0, (.ref (2, 0) [])), (3, (.imm true (.int .i64) x.1))] [((2, 0), some ⟨false, (.sl (.int .i64)), .own, x.2⟩)])
noncomputable def i_echelon_l4_D (s : St) : Tre (Ex × St) :=
 asRef (2, 0) [] (s.tmps 0) <|
 asImmZ true (.int .i64) (s.tmps 3) fun d3 =>
 asPtr (6, 0) [] (s.tmps 4) <|
 asRoot false (.sl (.int .i64)) (s.roots (2, 0)) fun m6 d7 =>
 asM .own m6 <|
 asRoot true (.int .i64) (s.roots (6, 0)) fun m9 d10 =>
 asM .own m9 <|
 .mat (loopF i_echelon_l4 (d3, d7, d10)) fun x => .ret (i_echelon_l4_out x)
noncomputable def i_echelon_l4_L : LoopI := ⟨([0, 3, 4], [(2, 0), (6, 0)]), ([0, 3], [(2, 0)]), i_echelon_l4_D⟩
noncomputable def i_echelon_A : List (Nat × LoopI) := [(10, i_echelon_l10_L), (4, i_echelon_l4_L)]
set_option maxRecDepth 100000 in
theorem i_echelon_l10_step : ∀ (h10_0_0 : Int) (h10_0_1 : Int) (h10_0_4 : Int) (x : (Int × (List Int))) (c : St → Option (Ex × St)), den i_echelon_V i_echelon_A (loopAt i_echelon_b 1) (i_echelon_l10_mk h10_0_0 h10_0_1 h10_0_4 x) (roundK i_echelon_l10_L.kp i_echelon_l10_L.kx c) = (i_echelon_l10 h10_0_0 h10_0_1 h10_0_4 x).run (roundR (i_echelon_l10_mk h10_0_0 h10_0_1 h10_0_4) (i_echelon_l10_out h10_0_0 h10_0_1 h10_0_4) c) := fun _ _ _ _ _ => by
 kernel_rfl
theorem i_echelon_l10_ok : LoopOK i_echelon_V i_echelon_A (loopAt i_echelon_b 1) i_echelon_l10_L := loopOK_of fun s e s' h => by
 generalize hs : restrict i_echelon_l10_L.kp s = s1 at h
 have h : (i_echelon_l10_D s1).run some = some (e, s') := h
 obtain ⟨e1, h_0⟩ := asRef_spec h
 obtain ⟨d3, e2, h_1⟩ := asImmZ_spec h_0
 obtain ⟨e4, h_2⟩ := asPtr_spec h_1
 obtain ⟨d6, e5, h_3⟩ := asImmZ_spec h_2
 obtain ⟨d8, e7, h_4⟩ := asImmZ_spec h_3
 obtain ⟨m10, d11, e9, h_5⟩ := asRoot_spec h_4
 obtain ⟨rfl, h_6⟩ := asM_spec h_5
 obtain ⟨m13, d14, e12, h_7⟩ := asRoot_spec h_6
 obtain ⟨rfl, h_8⟩ := asM_spec h_7
 obtain ⟨y, hy, hz⟩ := mat_ret h_8
 refine ⟨_, _, i_echelon_l10_mk d3 d6 d14, i_echelon_l10_out d3 d6 d14, i_echelon_l10 d3 d6 d14, (d8, d11), y, ?_, hy, ?_, i_echelon_l10_step d3 d6 d14⟩
 ·subst hs; exact restrict_eq (T := [(0, (.ref (2, 0) [])), (3, (.imm true (.int .i64) d3)), (4, (.ptr (6, 0) [])), (45, (.imm true (.int .i64) d6)), (46, (.imm true (.int .i64) d8))]) (U := [((2, 0), some ⟨false, (.sl (.int .i64)), .own, d11⟩), ((6, 0), some ⟨true, (.int .i64), .own, d14⟩)]) rfl rfl ⟨e1, e2, e4, e5, e7, trivial⟩ ⟨e9, e12, trivial⟩
 ·exact Option.some.inj hz
set_option maxRecDepth 100000 in
theorem i_echelon_l4_step : ∀ (x : (Int × (List Int) × Int)) (c : St → Option (Ex × St)), den i_echelon_V i_echelon_A (loopAt i_echelon_b 0) (i_echelon_l4_mk x) (roundK i_echelon_l4_L.kp i_echelon_l4_L.kx c) = (i_echelon_l4 x).run (roundR (i_echelon_l4_mk) (i_echelon_l4_out) c) := fun _ _ => by
 kernel_rfl
theorem i_echelon_l4_ok : LoopOK i_echelon_V i_echelon_A (loopAt i_echelon_b 0) i_echelon_l4_L := loopOK_of fun s e s' h => by
 generalize hs : restrict i_echelon_l4_L.kp s = s1 at h
 have h : (i_echelon_l4_D s1).run some = some (e, s') := h
 obtain ⟨e1, h_0⟩ := asRef_spec h
 obtain ⟨d3, e2, h_1⟩ := asImmZ_spec h_0
 obtain ⟨e4, h_2⟩ := asPtr_spec h_1
 obtain ⟨m6, d7, e5, h_3⟩ := asRoot_spec h_2
 obtain ⟨rfl, h_4⟩ := asM_spec h_3
 obtain ⟨m9, d10, e8, h_5⟩ := asRoot_spec h_4
 obtain ⟨rfl, h_6⟩ := asM_spec h_5
 obtain ⟨y, hy, hz⟩ := mat_ret h_6
 refine ⟨_, _, i_echelon_l4_mk, i_echelon_l4_out, i_echelon_l4, (d3, d7, d10), y, ?_, hy, ?_, i_echelon_l4_step⟩
 ·subst hs; exact restrict_eq (T := [(0, (.ref (2, 0) [])), (3, (.imm true (.int .i64) d3)), (4, (.ptr (6, 0) []))]) (U := [((2, 0), some ⟨false, (.sl (.int .i64)), .own, d7⟩), ((6, 0), some ⟨true, (.int .i64), .own, d10⟩)]) rfl rfl ⟨e1, e2, e4, trivial⟩ ⟨e5, e8, trivial⟩
 ·exact Option.some.inj hz
noncomputable def i_echelon_I : FnI := ⟨i_echelon_b, Try.f62.results.toList, Try.f62.resultTypes.toList, i_echelon_A⟩
noncomputable def i_echelon_out (_zp0 : Bool) (_p0 : (List Int)) : (List Int) → CallOut := fun r => ⟨(.ref (1, 0) []), [], [⟨false, (.sl (.int .i64)), .own, r⟩]⟩
set_option maxRecDepth 100000 in
theorem i_echelon_eq : ∀ (zp0 : Bool) (p0 : (List Int)), denFn i_echelon_V i_echelon_I ⟨[(.imm zp0 (.sl (.int .i64)) p0)], []⟩ = (i_echelon p0).run fun r => some (i_echelon_out zp0 p0 r) := fun _ _ => by kernel_rfl
noncomputable def i_echelon_G (av : List AV) (rs : List Root) : Tre CallOut :=
 asCons av fun a0_ av0 =>
 asEnd av0 <|
 asEnd rs <|
 asImm (.sl (.int .i64)) a0_ fun z2 d1 =>
 .mat (i_echelon_F d1) fun r => .ret (i_echelon_out z2 d1 r)
noncomputable def i_echelon_c : Ctr := ⟨[], fun ci => i_echelon_G ci.args ci.roots, false⟩
theorem i_echelon_env : EnvOK Try.prog .none i_echelon_V := (envOK_cons slices_Clone_int64_ok ent115 (envOK_cons nm19_ok ent116 envOK_nil))
set_option maxRecDepth 100000 in
theorem i_echelon_ok : Contract Try.prog .none 62 i_echelon_c := by
 have hl : LoopsOK i_echelon_V i_echelon_A i_echelon_b := (loopsOK_all (n := 2) (by kernel_rfl) fun k hk => by
   match k, hk with
   | 0, _ => exact loopOK_at (id := 4) (L := i_echelon_l4_L) (by kernel_rfl) (by kernel_rfl) i_echelon_l4_ok
   | 1, _ => exact loopOK_at (id := 10) (L := i_echelon_l10_L) (by kernel_rfl) (by kernel_rfl) i_echelon_l10_ok)
 refine (contract_of (F := i_echelon_I) tau_tys i_echelon_env Try.func62 (by kernel_rfl) (by kernel_rfl) (by kernel_rfl) hl []).weaken ?_
 rintro ⟨av, rs⟩ co h
 have h : (i_echelon_G av rs).run some = some co := h
 obtain ⟨a0_, av0, rfl, h_0⟩ := asCons_spec h
 obtain ⟨rfl, h_1⟩ := asEnd_spec h_0
 obtain ⟨rfl, h_2⟩ := asEnd_spec h_1
 obtain ⟨z2, d1, rfl, h_3⟩ := asImm_spec h_2
 exact fin_mat (i_echelon_eq z2 d1) h_3
end Go.Proofs.Ythnkanacjhlhhaa

namespace Go.Proofs.Ythnkanacjhlhhaa
open Go Go.Abs Go.Proofs
noncomputable def slices_Equal_int64_l4 (h4_0_0 : (List Int)) (h4_0_1 : (List Int)) (h4_0_2 : Int) : Int → Tre (Int ⊕ (Bool ⊕ Unit)) := fun s4 =>
 .cond (decide (s4 < h4_0_2))
  (.ite (0 ≤ s4 ∧ s4 < (h4_0_0.length : Int)) <|
  .mat (h4_0_0[s4.toNat]?) fun x1 =>
  .ite (0 ≤ s4 ∧ s4 < (h4_0_1.length : Int)) <|
  .mat (h4_0_1[s4.toNat]?) fun x2 =>
  .cond (!decide (x1 = x2))
   (.ret (.inr (.inl false)))
   (.ret (.inl (iwrap .i64 (s4 + 1)))))
  (.ret (.inr (.inr ())))
noncomputable def slices_Equal_int64 (p0 : (List Int)) (p1 : (List Int)) : Tre Bool :=
 .cond (!decide ((p0.length : Int) = (p1.length : Int)))
  (.ret false)
  (.mat (loopF (slices_Equal_int64_l4 p0 p1 (p0.length : Int)) 0) fun l3 =>
  .alt l3
   (fun a4 =>
    .ret a4)
   (fun _ =>
    .ret true))
noncomputable def slices_Equal_int64_F (p0 : (List Int)) (p1 : (List Int)) : Option Bool := (slices_Equal_int64 p0 p1).run some
noncomputable def slices_Equal_int64_V : Env := ⟨tau, [], []⟩
noncomputable def slices_Equal_int64_b : Code := (Try.f121.body).getD .skip
noncomputable def slices_Equal_int64_l4_mk (z4_0 : Bool) (z4_1 : Bool) (h4_0_0 : (List Int)) (h4_0_1 : (List Int)) (h4_0_2 : Int) : Int → St := fun x => stOf [(0, (.imm z4_0 (.sl (.int .i64)) h4_0_0)), (1, (.imm z4_1 (.sl (.int .i64)) h4_0_1)), (12, (.imm true (.int .i64) h4_0_2)), (13, (.imm true (.int .i64) x))] []
noncomputable def slices_Equal_int64_l4_out (_z4_0 : Bool) (_z4_1 : Bool) (_h4_0_0 : (List Int)) (_h4_0_1 : (List Int)) (_h4_0_2 : Int) : (Bool ⊕ Unit) → Ex × St
 | .inl x => (.ret, stOf [(4, (.imm true .bool x))] [])
 | .inr x => (.exit 0, stOf [(4, .dead)] [])
noncomputable def slices_Equal_int64_l4_D (s : St) : Tre (Ex × St) :=
 asImm (.sl (.int .i64)) (s.tmps 0) fun z3 d2 =>
 asImm (.sl (.int .i64)) (s.tmps 1) fun z6 d5 =>
 asImmZ true (.int .i64) (s.tmps 12) fun d8 =>
 asImmZ true (.int .i64) (s.tmps 13) fun d10 =>
 .mat (loopF (slices_Equal_int64_l4 d2 d5 d8) d10) fun x => .alt x (fun a0 => .ret (slices_Equal_int64_l4_out z3 z6 d2 d5 d8 (.inl a0))) (fun b0 => .ret (slices_Equal_int64_l4_out z3 z6 d2 d5 d8 (.inr b0)))
noncomputable def slices_Equal_int64_l4_L : LoopI := ⟨([0, 1, 12, 13], []), ([4], []), slices_Equal_int64_l4_D⟩
noncomputable def slices_Equal_int64_A : List (Nat × LoopI) := [(4, slices_Equal_int64_l4_L)]
set_option maxRecDepth 100000 in
theorem slices_Equal_int64_l4_step : ∀ (z4_0 : Bool) (z4_1 : Bool) (h4_0_0 : (List Int)) (h4_0_1 : (List Int)) (h4_0_2 : Int) (x : Int) (c : St → Option (Ex × St)), den slices_Equal_int64_V slices_Equal_int64_A (loopAt slices_Equal_int64_b 0) (slices_Equal_int64_l4_mk z4_0 z4_1 h4_0_0 h4_0_1 h4_0_2 x) (roundK slices_Equal_int64_l4_L.kp slices_Equal_int64_l4_L.kx c) = (slices_Equal_int64_l4 h4_0_0 h4_0_1 h4_0_2 x).run (roundR (slices_Equal_int64_l4_mk z4_0 z4_1 h4_0_0 h4_0_1 h4_0_2) (slices_Equal_int64_l4_out z4_0 z4_1 h4_0_0 h4_0_1 h4_0_2) c) := fun _ _ _ _ _ _ _ => by
 kernel_rfl
theorem slices_Equal_int64_l4_ok : LoopOK slices_Equal_int64_V slices_Equal_int64_A (loopAt slices_Equal_int64_b 0) slices_Equal_int64_l4_L := loopOK_of fun s e s' h => by
 generalize hs : restrict slices_Equal_int64_l4_L.kp s = s1 at h
 have h : (slices_Equal_int64_l4_D s1).run some = some (e, s') := h
 obtain ⟨z3, d2, e1, h_0⟩ := asImm_spec h
 obtain ⟨z6, d5, e4, h_1⟩ := asImm_spec h_0
 obtain ⟨d8, e7, h_2⟩ := asImmZ_spec h_1
 obtain ⟨d10, e9, h_3⟩ := asImmZ_spec h_2
 obtain ⟨y, hy, hz⟩ := mat_some h_3
 refine ⟨_, _, slices_Equal_int64_l4_mk z3 z6 d2 d5 d8, slices_Equal_int64_l4_out z3 z6 d2 d5 d8, slices_Equal_int64_l4 d2 d5 d8, d10, y, ?_, hy, ?_, slices_Equal_int64_l4_step z3 z6 d2 d5 d8⟩
 ·subst hs; exact restrict_eq (T := [(0, (.imm z3 (.sl (.int .i64)) d2)), (1, (.imm z6 (.sl (.int .i64)) d5)), (12, (.imm true (.int .i64) d8)), (13, (.imm true (.int .i64) d10))]) (U := []) rfl rfl ⟨e1, e4, e7, e9, trivial⟩ trivial
 ·rcases y with x | x <;> exact Option.some.inj hz
noncomputable def slices_Equal_int64_I : FnI := ⟨slices_Equal_int64_b, Try.f121.results.toList, Try.f121.resultTypes.toList, slices_Equal_int64_A⟩
noncomputable def slices_Equal_int64_out (_zp0 : Bool) (_zp1 : Bool) (_p0 : (List Int)) (_p1 : (List Int)) : Bool → CallOut := fun r => ⟨(.imm true .bool r), [], []⟩
set_option maxRecDepth 100000 in
theorem slices_Equal_int64_eq : ∀ (zp0 : Bool) (zp1 : Bool) (p0 : (List Int)) (p1 : (List Int)), denFn slices_Equal_int64_V slices_Equal_int64_I ⟨[(.imm zp0 (.sl (.int .i64)) p0), (.imm zp1 (.sl (.int .i64)) p1)], []⟩ = (slices_Equal_int64 p0 p1).run fun r => some (slices_Equal_int64_out zp0 zp1 p0 p1 r) := fun _ _ _ _ => by kernel_rfl
noncomputable def slices_Equal_int64_G (av : List AV) (rs : List Root) : Tre CallOut :=
 asCons av fun a0_ av0 =>
 asCons av0 fun a1_ av1 =>
 asEnd av1 <|
 asEnd rs <|
 asImm (.sl (.int .i64)) a0_ fun z2 d1 =>
 asImm (.sl (.int .i64)) a1_ fun z4 d3 =>
 .mat (slices_Equal_int64_F d1 d3) fun r => .ret (slices_Equal_int64_out z2 z4 d1 d3 r)
noncomputable def slices_Equal_int64_c : Ctr := ⟨[], fun ci => slices_Equal_int64_G ci.args ci.roots, false⟩
theorem slices_Equal_int64_env : EnvOK Try.prog .none slices_Equal_int64_V := envOK_nil
set_option maxRecDepth 100000 in
theorem slices_Equal_int64_ok : Contract Try.prog .none 121 slices_Equal_int64_c := by
 have hl : LoopsOK slices_Equal_int64_V slices_Equal_int64_A slices_Equal_int64_b := (loopsOK_all (n := 1) (by kernel_rfl) fun k hk => by
   match k, hk with
   | 0, _ => exact loopOK_at (id := 4) (L := slices_Equal_int64_l4_L) (by kernel_rfl) (by kernel_rfl) slices_Equal_int64_l4_ok)
 refine (contract_of (F := slices_Equal_int64_I) tau_tys slices_Equal_int64_env Try.func121 (by kernel_rfl) (by kernel_rfl) (by kernel_rfl) hl []).weaken ?_
 rintro ⟨av, rs⟩ co h
 have h : (slices_Equal_int64_G av rs).run some = some co := h
 obtain ⟨a0_, av0, rfl, h_0⟩ := asCons_spec h
 obtain ⟨a1_, av1, rfl, h_1⟩ := asCons_spec h_0
 obtain ⟨rfl, h_2⟩ := asEnd_spec h_1
 obtain ⟨rfl, h_3⟩ := asEnd_spec h_2
 obtain ⟨z2, d1, rfl, h_4⟩ := asImm_spec h_3
 obtain ⟨z4, d3, rfl, h_5⟩ := asImm_spec h_4
 exact fin_mat (slices_Equal_int64_eq z2 z4 d1 d3) h_5
end Go.Proofs.Ythnkanacjhlhhaa

namespace Go.Proofs.Ythnkanacjhlhhaa
open Go Go.Abs Go.Proofs
noncomputable def i_spacesc2_1338_l3 (g_ : (List Int) → Int → (List TMatrix) → Int → Option (List TMatrix)) (h3_0_0 : (List Int)) (h3_0_2 : Int) (h3_0_4 : Int) : (Int × (List TMatrix)) → Tre ((Int × (List TMatrix)) ⊕ (List TMatrix)) := fun s3 =>
 .ite (0 ≤ h3_0_4) <|
 .cond (decide (s3.1 < ishl .i64 1 h3_0_4))
  (.mat (cloneR h3_0_0) fun r2 =>
  .ite ((r2.length + 1) * 8 ≤ appendMax ∧ 1 ≤ 8) <|
  .mat (i_echelon_F (r2 ++ ([s3.1]))) fun r3 =>
  .mat (slices_Equal_int64_F r3 (r2 ++ ([s3.1]))) fun r4 =>
  .cond r4
   (.mat (g_ (r2 ++ ([s3.1])) h3_0_2 s3.2 h3_0_4) fun r5 =>
   .ret (.inl (iwrap .i64 (s3.1 + 1), r5)))
   (.ret (.inl (iwrap .i64 (s3.1 + 1), s3.2))))
  (.ret (.inr s3.2))
noncomputable def i_spacesc2_1338 (g_ : (List Int) → Int → (List TMatrix) → Int → Option (List TMatrix)) (p0 : (List Int)) (p1 : Int) (p2 : (List TMatrix)) (p3 : Int) : Tre (List TMatrix) :=
 .cond (decide ((p0.length : Int) = p1))
  (.mat (cloneR p0) fun r1 =>
  .ite ((p2.length + 1) * 32 ≤ appendMax ∧ 1 ≤ 32) <|
  .ret (p2 ++ ([(p3, (r1, ()))])))
  (.mat (loopF ((i_spacesc2_1338_l3 g_) p0 p1 p3) (1, p2)) fun l6 =>
  .ret l6)
noncomputable def i_spacesc2_1338_R : Nat → (List Int) → Int → (List TMatrix) → Int → Option (List TMatrix)
 | 0 => fun _ _ _ _ => none
 | n + 1 => fun p0 p1 p2 p3 => (i_spacesc2_1338 (i_spacesc2_1338_R n) p0 p1 p2 p3).run some
noncomputable def i_spacesc2_1338_F (p0 : (List Int)) (p1 : Int) (p2 : (List TMatrix)) (p3 : Int) : Option (List TMatrix) := i_spacesc2_1338_R 1000000000000 p0 p1 p2 p3
noncomputable def i_spacesc2_1338_out (_g_ : (List Int) → Int → (List TMatrix) → Int → Option (List TMatrix)) (_zp0 : Bool) (_p0 : (List Int)) (p1 : Int) (_p2 : (List TMatrix)) (p3 : Int) : (List TMatrix) → CallOut := fun r => ⟨.tnil, [⟨true, (.int .i64), .own, p1⟩, ⟨true, (.sl kMatrix), .own, r⟩, ⟨true, (.int .i64), .own, p3⟩, ⟨true, .fn, .own, (some (125, [(0, 0), (0, 1), (0, 2), (0, 3)]) : Option (Nat × List RName))⟩], []⟩
noncomputable def i_spacesc2_1338_G (g_ : (List Int) → Int → (List TMatrix) → Int → Option (List TMatrix)) (av : List AV) (rs : List Root) : Tre CallOut :=
 asCons av fun a0_ av0 =>
 asCons av0 fun a1_ av1 =>
 asCons av1 fun a2_ av2 =>
 asCons av2 fun a3_ av3 =>
 asCons av3 fun a4_ av4 =>
 asEnd av4 <|
 asCons rs fun r0_ rs0 =>
 asCons rs0 fun r1_ rs1 =>
 asCons rs1 fun r2_ rs2 =>
 asCons rs2 fun r3_ rs3 =>
 asEnd rs3 <|
 asImm (.sl (.int .i64)) a0_ fun z2 d1 =>
 asPtr (0, 0) [] a1_ <|
 asPtr (0, 1) [] a2_ <|
 asPtr (0, 2) [] a3_ <|
 asPtr (0, 3) [] a4_ <|
 asRt true (.int .i64) r0_ fun m3 d4 =>
 asM .own m3 <|
 asRt true (.sl kMatrix) r1_ fun m5 d6 =>
 asM .own m5 <|
 asRt true (.int .i64) r2_ fun m7 d8 =>
 asM .own m7 <|
 asRt true .fn r3_ fun m9 d10 =>
 asM .own m9 <|
 asD d10 (some (125, [(0, 0), (0, 1), (0, 2), (0, 3)]) : Option (Nat × List RName)) <|
 .mat (g_ d1 d4 d6 d8) fun r => .ret ((i_spacesc2_1338_out g_) z2 d1 d4 d6 d8 r)
noncomputable def i_spacesc2_1338_c (g_ : (List Int) → Int → (List TMatrix) → Int → Option (List TMatrix)) : Ctr := ⟨[], fun ci => (i_spacesc2_1338_G g_) ci.args ci.roots, false⟩
noncomputable def i_spacesc2_1338_V (g_ : (List Int) → Int → (List TMatrix) → Int → Option (List TMatrix)) : Env := ⟨tau, [(126, i_size_int64_c), (115, slices_Clone_int64_c), (62, i_echelon_c), (121, slices_Equal_int64_c), (125, (i_spacesc2_1338_c g_))], []⟩
noncomputable def i_spacesc2_1338_b (_g_ : (List Int) → Int → (List TMatrix) → Int → Option (List TMatrix)) : Code := (Try.f125.body).getD .skip
noncomputable def i_spacesc2_1338_l3_mk (_g_ : (List Int) → Int → (List TMatrix) → Int → Option (List TMatrix)) (z3_0 : Bool) (h3_0_0 : (List Int)) (h3_0_2 : Int) (h3_0_4 : Int) : (Int × (List TMatrix)) → St := fun x => stOf [(0, (.imm z3_0 (.sl (.int .i64)) h3_0_0)), (3, (.ptr (0, 2) [])), (4, (.ptr (0, 3) [])), (6, (.imm true (.int .i64) x.1))] [((0, 0), some ⟨true, (.int .i64), .own, h3_0_2⟩), ((0, 1), some ⟨true, (.sl kMatrix), .own, x.2⟩), ((0, 2), some ⟨true, (.int .i64), .own, h3_0_4⟩), ((0, 3), some ⟨true, .fn, .own, (some (125, [(0, 0), (0, 1), (0, 2), (0, 3)]) : Option (Nat × List RName))⟩)]
noncomputable def i_spacesc2_1338_l3_out (_g_ : (List Int) → Int → (List TMatrix) → Int → Option (List TMatrix)) (_z3_0 : Bool) (_h3_0_0 : (List Int)) (h3_0_2 : Int) (h3_0_4 : Int) : (List TMatrix) → Ex × St := fun x => (.exit 0, stOf [] [((0, 0), some ⟨true, (.int .i64), .own, h3_0_2⟩), ((0, 1), some ⟨true, (.sl kMatrix), .own, x⟩), ((0, 2), some ⟨true, (.int .i64), .own, h3_0_4⟩), ((0, 3), some ⟨true, .fn, .own, (some (125, [(0, 0), (0, 1), (0, 2), (0, 3)]) : Option (Nat × List RName))⟩)])
noncomputable def i_spacesc2_1338_l3_D (g_ : (List Int) → Int → (List TMatrix) → Int → Option (List TMatrix)) (s : St) : Tre (Ex × St) :=
 asImm (.sl (.int .i64)) (s.tmps 0) fun z3 d2 =>
 asPtr (0, 2) [] (s.tmps 3) <|
 asPtr (0, 3) [] (s.tmps 4) <|
 asImmZ true (.int .i64) (s.tmps 6) fun d7 =>
 asRoot true (.int .i64) (s.roots (0, 0)) fun m9 d10 =>
 asM .own m9 <|
 asRoot true (.sl kMatrix) (s.roots (0, 1)) fun m12 d13 =>
 asM .own m12 <|
 asRoot true (.int .i64) (s.roots (0, 2)) fun m15 d16 =>
 asM .own m15 <|
 asRoot true .fn (s.roots (0, 3)) fun m18 d19 =>
 asM .own m18 <|
 asD d19 (some (125, [(0, 0), (0, 1), (0, 2), (0, 3)]) : Option (Nat × List RName)) <|
 .mat (loopF ((i_spacesc2_1338_l3 g_) d2 d10 d16) (d7, d13)) fun x => .ret ((i_spacesc2_1338_l3_out g_) z3 d2 d10 d16 x)
noncomputable def i_spacesc2_1338_l3_L (g_ : (List Int) → Int → (List TMatrix) → Int → Option (List TMatrix)) : LoopI := ⟨([0, 3, 4, 6], [(0, 0), (0, 1), (0, 2), (0, 3)]), ([], [(0, 0), (0, 1), (0, 2), (0, 3)]), (i_spacesc2_1338_l3_D g_)⟩
noncomputable def i_spacesc2_1338_A (g_ : (List Int) → Int → (List TMatrix) → Int → Option (List TMatrix)) : List (Nat × LoopI) := [(3, (i_spacesc2_1338_l3_L g_))]
set_option maxRecDepth 100000 in
theorem i_spacesc2_1338_l3_step (g_ : (List Int) → Int → (List TMatrix) → Int → Option (List TMatrix)) : ∀ (z3_0 : Bool) (h3_0_0 : (List Int)) (h3_0_2 : Int) (h3_0_4 : Int) (x : (Int × (List TMatrix))) (c : St → Option (Ex × St)), den (i_spacesc2_1338_V g_) (i_spacesc2_1338_A g_) (loopAt (i_spacesc2_1338_b g_) 0) ((i_spacesc2_1338_l3_mk g_) z3_0 h3_0_0 h3_0_2 h3_0_4 x) (roundK (i_spacesc2_1338_l3_L g_).kp (i_spacesc2_1338_l3_L g_).kx c) = ((i_spacesc2_1338_l3 g_) h3_0_0 h3_0_2 h3_0_4 x).run (roundR ((i_spacesc2_1338_l3_mk g_) z3_0 h3_0_0 h3_0_2 h3_0_4) ((i_spacesc2_1338_l3_out g_) z3_0 h3_0_0 h3_0_2 h3_0_4) c) := fun _ _ _ _ _ _ => by
 kernel_rfl
theorem i_spacesc2_1338_l3_ok (g_ : (List Int) → Int → (List TMatrix) → Int → Option (List TMatrix)) : LoopOK (i_spacesc2_1338_V g_) (i_spacesc2_1338_A g_) (loopAt (i_spacesc2_1338_b g_) 0) (i_spacesc2_1338_l3_L g_) := loopOK_of fun s e s' h => by
 generalize hs : restrict (i_spacesc2_1338_l3_L g_).kp s = s1 at h
 have h : ((i_spacesc2_1338_l3_D g_) s1).run some = some (e, s') := h
 obtain ⟨z3, d2, e1, h_0⟩ := asImm_spec h
 obtain ⟨e4, h_1⟩ := asPtr_spec h_0
 obtain ⟨e5, h_2⟩ := asPtr_spec h_1
 obtain ⟨d7, e6, h_3⟩ := asImmZ_spec h_2
 obtain ⟨m9, d10, e8, h_4⟩ := asRoot_spec h_3
 obtain ⟨rfl, h_5⟩ := asM_spec h_4
 obtain ⟨m12, d13, e11, h_6⟩ := asRoot_spec h_5
 obtain ⟨rfl, h_7⟩ := asM_spec h_6
 obtain ⟨m15, d16, e14, h_8⟩ := asRoot_spec h_7
 obtain ⟨rfl, h_9⟩ := asM_spec h_8
 obtain ⟨m18, d19, e17, h_10⟩ := asRoot_spec h_9
 obtain ⟨rfl, h_11⟩ := asM_spec h_10
 obtain ⟨rfl, h_12⟩ := asD_spec h_11
 obtain ⟨y, hy, hz⟩ := mat_ret h_12
 refine ⟨_, _, (i_spacesc2_1338_l3_mk g_) z3 d2 d10 d16, (i_spacesc2_1338_l3_out g_) z3 d2 d10 d16, (i_spacesc2_1338_l3 g_) d2 d10 d16, (d7, d13), y, ?_, hy, ?_, (i_spacesc2_1338_l3_step g_) z3 d2 d10 d16⟩
 ·subst hs; exact restrict_eq (T := [(0, (.imm z3 (.sl (.int .i64)) d2)), (3, (.ptr (0, 2) [])), (4, (.ptr (0, 3) [])), (6, (.imm true (.int .i64) d7))]) (U := [((0, 0), some ⟨true, (.int .i64), .own, d10⟩), ((0, 1), some ⟨true, (.sl kMatrix), .own, d13⟩), ((0, 2), some ⟨true, (.int .i64), .own, d16⟩), ((0, 3), some ⟨true, .fn, .own, (some (125, [(0, 0), (0, 1), (0, 2), (0, 3)]) : Option (Nat × List RName))⟩)]) rfl rfl ⟨e1, e4, e5, e6, trivial⟩ ⟨e8, e11, e14, e17, trivial⟩
 ·exact Option.some.inj hz
noncomputable def i_spacesc2_1338_I (g_ : (List Int) → Int → (List TMatrix) → Int → Option (List TMatrix)) : FnI := ⟨(i_spacesc2_1338_b g_), Try.f125.results.toList, Try.f125.resultTypes.toList, (i_spacesc2_1338_A g_)⟩
set_option maxRecDepth 100000 in
theorem i_spacesc2_1338_eq (g_ : (List Int) → Int → (List TMatrix) → Int → Option (List TMatrix)) : ∀ (zp0 : Bool) (p0 : (List Int)) (p1 : Int) (p2 : (List TMatrix)) (p3 : Int), denFn (i_spacesc2_1338_V g_) (i_spacesc2_1338_I g_) ⟨[(.imm zp0 (.sl (.int .i64)) p0), (.ptr (0, 0) []), (.ptr (0, 1) []), (.ptr (0, 2) []), (.ptr (0, 3) [])], [⟨true, (.int .i64), .own, p1⟩, ⟨true, (.sl kMatrix), .own, p2⟩, ⟨true, (.int .i64), .own, p3⟩, ⟨true, .fn, .own, (some (125, [(0, 0), (0, 1), (0, 2), (0, 3)]) : Option (Nat × List RName))⟩]⟩ = ((i_spacesc2_1338 g_) p0 p1 p2 p3).run fun r => some ((i_spacesc2_1338_out g_) zp0 p0 p1 p2 p3 r) := fun _ _ _ _ _ => by kernel_rfl
theorem i_spacesc2_1338_env (g_ : (List Int) → Int → (List TMatrix) → Int → Option (List TMatrix)) (hg_ : Contract Try.prog .none 125 (i_spacesc2_1338_c g_)) : EnvOK Try.prog .none (i_spacesc2_1338_V g_) := (envOK_cons i_size_int64_ok ent126 (envOK_cons slices_Clone_int64_ok ent115 (envOK_cons i_echelon_ok ent62 (envOK_cons slices_Equal_int64_ok ent121 (envOK_cons hg_ ent125 envOK_nil)))))
set_option maxRecDepth 100000 in
theorem i_spacesc2_1338_okS (g_ : (List Int) → Int → (List TMatrix) → Int → Option (List TMatrix)) (hg_ : Contract Try.prog .none 125 (i_spacesc2_1338_c g_)) : Contract Try.prog .none 125 (i_spacesc2_1338_c (fun p0 p1 p2 p3 => (i_spacesc2_1338 g_ p0 p1 p2 p3).run some)) := by
 have hl : LoopsOK (i_spacesc2_1338_V g_) (i_spacesc2_1338_A g_) (i_spacesc2_1338_b g_) := (loopsOK_all (n := 1) (by kernel_rfl) fun k hk => by
   match k, hk with
   | 0, _ => exact loopOK_at (id := 3) (L := (i_spacesc2_1338_l3_L g_)) (by kernel_rfl) (by kernel_rfl) (i_spacesc2_1338_l3_ok g_))
 refine (contract_of (F := (i_spacesc2_1338_I g_)) tau_tys ((i_spacesc2_1338_env g_) hg_) Try.func125 (by kernel_rfl) (by kernel_rfl) (by kernel_rfl) hl []).weaken ?_
 rintro ⟨av, rs⟩ co h
 have h : (i_spacesc2_1338_G (fun p0 p1 p2 p3 => (i_spacesc2_1338 g_ p0 p1 p2 p3).run some) av rs).run some = some co := h
 obtain ⟨a0_, av0, rfl, h_0⟩ := asCons_spec h
 obtain ⟨a1_, av1, rfl, h_1⟩ := asCons_spec h_0
 obtain ⟨a2_, av2, rfl, h_2⟩ := asCons_spec h_1
 obtain ⟨a3_, av3, rfl, h_3⟩ := asCons_spec h_2
 obtain ⟨a4_, av4, rfl, h_4⟩ := asCons_spec h_3
 obtain ⟨rfl, h_5⟩ := asEnd_spec h_4
 obtain ⟨r0_, rs0, rfl, h_6⟩ := asCons_spec h_5
 obtain ⟨r1_, rs1, rfl, h_7⟩ := asCons_spec h_6
 obtain ⟨r2_, rs2, rfl, h_8⟩ := asCons_spec h_7
 obtain ⟨r3_, rs3, rfl, h_9⟩ := asCons_spec h_8
 obtain ⟨rfl, h_10⟩ := asEnd_spec h_9
 obtain ⟨z2, d1, rfl, h_11⟩ := asImm_spec h_10
 obtain ⟨rfl, h_12⟩ := asPtr_spec h_11
 obtain ⟨rfl, h_13⟩ := asPtr_spec h_12
 obtain ⟨rfl, h_14⟩ := asPtr_spec h_13
 obtain ⟨rfl, h_15⟩ := asPtr_spec h_14
 obtain ⟨m3, d4, rfl, h_16⟩ := asRt_spec h_15
 obtain ⟨rfl, h_17⟩ := asM_spec h_16
 obtain ⟨m5, d6, rfl, h_18⟩ := asRt_spec h_17
 obtain ⟨rfl, h_19⟩ := asM_spec h_18
 obtain ⟨m7, d8, rfl, h_20⟩ := asRt_spec h_19
 obtain ⟨rfl, h_21⟩ := asM_spec h_20
 obtain ⟨m9, d10, rfl, h_22⟩ := asRt_spec h_21
 obtain ⟨rfl, h_23⟩ := asM_spec h_22
 obtain ⟨rfl, h_24⟩ := asD_spec h_23
 exact fin_mat ((i_spacesc2_1338_eq g_) z2 d1 d4 d6 d8) h_24
theorem i_spacesc2_1338_ok0 : Contract Try.prog .none 125 (i_spacesc2_1338_c (fun _ _ _ _ => none)) := Contract.vacuous (by
 rintro ⟨av, rs⟩ co h
 have h : (i_spacesc2_1338_G (fun _ _ _ _ => none) av rs).run some = some co := h
 obtain ⟨a0_, av0, rfl, h_0⟩ := asCons_spec h
 obtain ⟨a1_, av1, rfl, h_1⟩ := asCons_spec h_0
 obtain ⟨a2_, av2, rfl, h_2⟩ := asCons_spec h_1
 obtain ⟨a3_, av3, rfl, h_3⟩ := asCons_spec h_2
 obtain ⟨a4_, av4, rfl, h_4⟩ := asCons_spec h_3
 obtain ⟨rfl, h_5⟩ := asEnd_spec h_4
 obtain ⟨r0_, rs0, rfl, h_6⟩ := asCons_spec h_5
 obtain ⟨r1_, rs1, rfl, h_7⟩ := asCons_spec h_6
 obtain ⟨r2_, rs2, rfl, h_8⟩ := asCons_spec h_7
 obtain ⟨r3_, rs3, rfl, h_9⟩ := asCons_spec h_8
 obtain ⟨rfl, h_10⟩ := asEnd_spec h_9
 obtain ⟨z2, d1, rfl, h_11⟩ := asImm_spec h_10
 obtain ⟨rfl, h_12⟩ := asPtr_spec h_11
 obtain ⟨rfl, h_13⟩ := asPtr_spec h_12
 obtain ⟨rfl, h_14⟩ := asPtr_spec h_13
 obtain ⟨rfl, h_15⟩ := asPtr_spec h_14
 obtain ⟨m3, d4, rfl, h_16⟩ := asRt_spec h_15
 obtain ⟨rfl, h_17⟩ := asM_spec h_16
 obtain ⟨m5, d6, rfl, h_18⟩ := asRt_spec h_17
 obtain ⟨rfl, h_19⟩ := asM_spec h_18
 obtain ⟨m7, d8, rfl, h_20⟩ := asRt_spec h_19
 obtain ⟨rfl, h_21⟩ := asM_spec h_20
 obtain ⟨m9, d10, rfl, h_22⟩ := asRt_spec h_21
 obtain ⟨rfl, h_23⟩ := asM_spec h_22
 obtain ⟨rfl, h_24⟩ := asD_spec h_23
 exact mat_none_absurd h_24)
theorem i_spacesc2_1338_okN : ∀ n, Contract Try.prog .none 125 (i_spacesc2_1338_c (i_spacesc2_1338_R n))
 | 0 => i_spacesc2_1338_ok0
 | n + 1 => i_spacesc2_1338_okS _ (i_spacesc2_1338_okN n)
theorem i_spacesc2_1338_ok : Contract Try.prog .none 125 (i_spacesc2_1338_c i_spacesc2_1338_F) := i_spacesc2_1338_okN _
end Go.Proofs.Ythnkanacjhlhhaa

namespace Go.Proofs.Ythnkanacjhlhhaa
open Go Go.Abs Go.Proofs
noncomputable def bits_Len64 (p0 : Int) : Tre Int :=
 .cond (decide (p0 ≥ 4294967296))
  (.cond (decide (ishr .u64 p0 32 ≥ 65536))
   (let v1 := ishr .u64 (ishr .u64 p0 32) 16
   .cond (decide (v1 ≥ 256))
    (let v2 := iwrap .u8 (ishr .u64 v1 8)
    .ite (0 ≤ v2) <|
    .mat ((⟨#[0, 1, 2, 2, 3, 3, 3, 3, 4, 4, 4, 4, 4, 4, 4, 4, 5, 5, 5, 5, 5, 5, 5, 5, 5, 5, 5, 5, 5, 5, 5, 5, 6, 6, 6, 6, 6, 6, 6, 6, 6, 6, 6, 6, 6, 6, 6, 6, 6, 6, 6, 6, 6, 6, 6, 6, 6, 6, 6, 6, 6, 6, 6, 6, 7, 7, 7, 7, 7, 7, 7, 7, 7, 7, 7, 7, 7, 7, 7, 7, 7, 7, 7, 7, 7, 7, 7, 7, 7, 7, 7, 7, 7, 7, 7, 7, 7, 7, 7, 7, 7, 7, 7, 7, 7, 7, 7, 7, 7, 7, 7, 7, 7, 7, 7, 7, 7, 7, 7, 7, 7, 7, 7, 7, 7, 7, 7, 7, 8, 8, 8, 8, 8, 8, 8, 8, 8, 8, 8, 8, 8, 8, 8, 8, 8, 8, 8, 8, 8, 8, 8, 8, 8, 8, 8, 8, 8, 8, 8, 8, 8, 8, 8, 8, 8, 8, 8, 8, 8, 8, 8, 8, 8, 8, 8, 8, 8, 8, 8, 8, 8, 8, 8, 8, 8, 8, 8, 8, 8, 8, 8, 8, 8, 8, 8, 8, 8, 8, 8, 8, 8, 8, 8, 8, 8, 8, 8, 8, 8, 8, 8, 8, 8, 8, 8, 8, 8, 8, 8, 8, 8, 8, 8, 8, 8, 8, 8, 8, 8, 8, 8, 8, 8, 8, 8, 8, 8, 8, 8, 8, 8, 8, 8, 8, 8, 8, 8, 8, 8, 8, 8, 8, 8, 8, 8, 8]⟩ : ByteArray)[v2.toNat]?) fun b3 =>
    let v4 := iwrap .i64 (b3.toNat : Int)
    .ret (iwrap .i64 (56 + v4)))
    (.ite (0 ≤ iwrap .u8 v1) <|
    .mat ((⟨#[0, 1, 2, 2, 3, 3, 3, 3, 4, 4, 4, 4, 4, 4, 4, 4, 5, 5, 5, 5, 5, 5, 5, 5, 5, 5, 5, 5, 5, 5, 5, 5, 6, 6, 6, 6, 6, 6, 6, 6, 6, 6, 6, 6, 6, 6, 6, 6, 6, 6, 6, 6, 6, 6, 6, 6, 6, 6, 6, 6, 6, 6, 6, 6, 7, 7, 7, 7, 7, 7, 7, 7, 7, 7, 7, 7, 7, 7, 7, 7, 7, 7, 7, 7, 7, 7, 7, 7, 7, 7, 7, 7, 7, 7, 7, 7, 7, 7, 7, 7, 7, 7, 7, 7, 7, 7, 7, 7, 7, 7, 7, 7, 7, 7, 7, 7, 7, 7, 7, 7, 7, 7, 7, 7, 7, 7, 7, 7, 8, 8, 8, 8, 8, 8, 8, 8, 8, 8, 8, 8, 8, 8, 8, 8, 8, 8, 8, 8, 8, 8, 8, 8, 8, 8, 8, 8, 8, 8, 8, 8, 8, 8, 8, 8, 8, 8, 8, 8, 8, 8, 8, 8, 8, 8, 8, 8, 8, 8, 8, 8, 8, 8, 8, 8, 8, 8, 8, 8, 8, 8, 8, 8, 8, 8, 8, 8, 8, 8, 8, 8, 8, 8, 8, 8, 8, 8, 8, 8, 8, 8, 8, 8, 8, 8, 8, 8, 8, 8, 8, 8, 8, 8, 8, 8, 8, 8, 8, 8, 8, 8, 8, 8, 8, 8, 8, 8, 8, 8, 8, 8, 8, 8, 8, 8, 8, 8, 8, 8, 8, 8, 8, 8, 8, 8, 8, 8]⟩ : ByteArray)[(iwrap .u8 v1).toNat]?) fun b5 =>
    let v6 := iwrap .i64 (b5.toNat : Int)
    .ret (iwrap .i64 (48 + v6))))
   (.cond (decide (ishr .u64 p0 32 ≥ 256))
    (let v7 := ishr .u64 (ishr .u64 p0 32) 8
    .ite (0 ≤ iwrap .u8 v7) <|
    .mat ((⟨#[0, 1, 2, 2, 3, 3, 3, 3, 4, 4, 4, 4, 4, 4, 4, 4, 5, 5, 5, 5, 5, 5, 5, 5, 5, 5, 5, 5, 5, 5, 5, 5, 6, 6, 6, 6, 6, 6, 6, 6, 6, 6, 6, 6, 6, 6, 6, 6, 6, 6, 6, 6, 6, 6, 6, 6, 6, 6, 6, 6, 6, 6, 6, 6, 7, 7, 7, 7, 7, 7, 7, 7, 7, 7, 7, 7, 7, 7, 7, 7, 7, 7, 7, 7, 7, 7, 7, 7, 7, 7, 7, 7, 7, 7, 7, 7, 7, 7, 7, 7, 7, 7, 7, 7, 7, 7, 7, 7, 7, 7, 7, 7, 7, 7, 7, 7, 7, 7, 7, 7, 7, 7, 7, 7, 7, 7, 7, 7, 8, 8, 8, 8, 8, 8, 8, 8, 8, 8, 8, 8, 8, 8, 8, 8, 8, 8, 8, 8, 8, 8, 8, 8, 8, 8, 8, 8, 8, 8, 8, 8, 8, 8, 8, 8, 8, 8, 8, 8, 8, 8, 8, 8, 8, 8, 8, 8, 8, 8, 8, 8, 8, 8, 8, 8, 8, 8, 8, 8, 8, 8, 8, 8, 8, 8, 8, 8, 8, 8, 8, 8, 8, 8, 8, 8, 8, 8, 8, 8, 8, 8, 8, 8, 8, 8, 8, 8, 8, 8, 8, 8, 8, 8, 8, 8, 8, 8, 8, 8, 8, 8, 8, 8, 8, 8, 8, 8, 8, 8, 8, 8, 8, 8, 8, 8, 8, 8, 8, 8, 8, 8, 8, 8, 8, 8, 8, 8]⟩ : ByteArray)[(iwrap .u8 v7).toNat]?) fun b8 =>
    let v9 := iwrap .i64 (b8.toNat : Int)
    .ret (iwrap .i64 (40 + v9)))
    (let v10 := iwrap .u8 (ishr .u64 p0 32)
    .ite (0 ≤ v10) <|
    .mat ((⟨#[0, 1, 2, 2, 3, 3, 3, 3, 4, 4, 4, 4, 4, 4, 4, 4, 5, 5, 5, 5, 5, 5, 5, 5, 5, 5, 5, 5, 5, 5, 5, 5, 6, 6, 6, 6, 6, 6, 6, 6, 6, 6, 6, 6, 6, 6, 6, 6, 6, 6, 6, 6, 6, 6, 6, 6, 6, 6, 6, 6, 6, 6, 6, 6, 7, 7, 7, 7, 7, 7, 7, 7, 7, 7, 7, 7, 7, 7, 7, 7, 7, 7, 7, 7, 7, 7, 7, 7, 7, 7, 7, 7, 7, 7, 7, 7, 7, 7, 7, 7, 7, 7, 7, 7, 7, 7, 7, 7, 7, 7, 7, 7, 7, 7, 7, 7, 7, 7, 7, 7, 7, 7, 7, 7, 7, 7, 7, 7, 8, 8, 8, 8, 8, 8, 8, 8, 8, 8, 8, 8, 8, 8, 8, 8, 8, 8, 8, 8, 8, 8, 8, 8, 8, 8, 8, 8, 8, 8, 8, 8, 8, 8, 8, 8, 8, 8, 8, 8, 8, 8, 8, 8, 8, 8, 8, 8, 8, 8, 8, 8, 8, 8, 8, 8, 8, 8, 8, 8, 8, 8, 8, 8, 8, 8, 8, 8, 8, 8, 8, 8, 8, 8, 8, 8, 8, 8, 8, 8, 8, 8, 8, 8, 8, 8, 8, 8, 8, 8, 8, 8, 8, 8, 8, 8, 8, 8, 8, 8, 8, 8, 8, 8, 8, 8, 8, 8, 8, 8, 8, 8, 8, 8, 8, 8, 8, 8, 8, 8, 8, 8, 8, 8, 8, 8, 8, 8]⟩ : ByteArray)[v10.toNat]?) fun b11 =>
    let v12 := iwrap .i64 (b11.toNat : Int)
    .ret (iwrap .i64 (32 + v12)))))
  (.cond (decide (p0 ≥ 65536))
   (.cond (decide (ishr .u64 p0 16 ≥ 256))
    (let v13 := ishr .u64 (ishr .u64 p0 16) 8
    .ite (0 ≤ iwrap .u8 v13) <|
    .mat ((⟨#[0, 1, 2, 2, 3, 3, 3, 3, 4, 4, 4, 4, 4, 4, 4, 4, 5, 5, 5, 5, 5, 5, 5, 5, 5, 5, 5, 5, 5, 5, 5, 5, 6, 6, 6, 6, 6, 6, 6, 6, 6, 6, 6, 6, 6, 6, 6, 6, 6, 6, 6, 6, 6, 6, 6, 6, 6, 6, 6, 6, 6, 6, 6, 6, 7, 7, 7, 7, 7, 7, 7, 7, 7, 7, 7, 7, 7, 7, 7, 7, 7, 7, 7, 7, 7, 7, 7, 7, 7, 7, 7, 7, 7, 7, 7, 7, 7, 7, 7, 7, 7, 7, 7, 7, 7, 7, 7, 7, 7, 7, 7, 7, 7, 7, 7, 7, 7, 7, 7, 7, 7, 7, 7, 7, 7, 7, 7, 7, 8, 8, 8, 8, 8, 8, 8, 8, 8, 8, 8, 8, 8, 8, 8, 8, 8, 8, 8, 8, 8, 8, 8, 8, 8, 8, 8, 8, 8, 8, 8, 8, 8, 8, 8, 8, 8, 8, 8, 8, 8, 8, 8, 8, 8, 8, 8, 8, 8, 8, 8, 8, 8, 8, 8, 8, 8, 8, 8, 8, 8, 8, 8, 8, 8, 8, 8, 8, 8, 8, 8, 8, 8, 8, 8, 8, 8, 8, 8, 8, 8, 8, 8, 8, 8, 8, 8, 8, 8, 8, 8, 8, 8, 8, 8, 8, 8, 8, 8, 8, 8, 8, 8, 8, 8, 8, 8, 8, 8, 8, 8, 8, 8, 8, 8, 8, 8, 8, 8, 8, 8, 8, 8, 8, 8, 8, 8, 8]⟩ : ByteArray)[(iwrap .u8 v13).toNat]?) fun b14 =>
    let v15 := iwrap .i64 (b14.toNat : Int)
    .ret (iwrap .i64 (24 + v15)))
    (let v16 := iwrap .u8 (ishr .u64 p0 16)
    .ite (0 ≤ v16) <|
    .mat ((⟨#[0, 1, 2, 2, 3, 3, 3, 3, 4, 4, 4, 4, 4, 4, 4, 4, 5, 5, 5, 5, 5, 5, 5, 5, 5, 5, 5, 5, 5, 5, 5, 5, 6, 6, 6, 6, 6, 6, 6, 6, 6, 6, 6, 6, 6, 6, 6, 6, 6, 6, 6, 6, 6, 6, 6, 6, 6, 6, 6, 6, 6, 6, 6, 6, 7, 7, 7, 7, 7, 7, 7, 7, 7, 7, 7, 7, 7, 7, 7, 7, 7, 7, 7, 7, 7, 7, 7, 7, 7, 7, 7, 7, 7, 7, 7, 7, 7, 7, 7, 7, 7, 7, 7, 7, 7, 7, 7, 7, 7, 7, 7, 7, 7, 7, 7, 7, 7, 7, 7, 7, 7, 7, 7, 7, 7, 7, 7, 7, 8, 8, 8, 8, 8, 8, 8, 8, 8, 8, 8, 8, 8, 8, 8, 8, 8, 8, 8, 8, 8, 8, 8, 8, 8, 8, 8, 8, 8, 8, 8, 8, 8, 8, 8, 8, 8, 8, 8, 8, 8, 8, 8, 8, 8, 8, 8, 8, 8, 8, 8, 8, 8, 8, 8, 8, 8, 8, 8, 8, 8, 8, 8, 8, 8, 8, 8, 8, 8, 8, 8, 8, 8, 8, 8, 8, 8, 8, 8, 8, 8, 8, 8, 8, 8, 8, 8, 8, 8, 8, 8, 8, 8, 8, 8, 8, 8, 8, 8, 8, 8, 8, 8, 8, 8, 8, 8, 8, 8, 8, 8, 8, 8, 8, 8, 8, 8, 8, 8, 8, 8, 8, 8, 8, 8, 8, 8, 8]⟩ : ByteArray)[v16.toNat]?) fun b17 =>
    let v18 := iwrap .i64 (b17.toNat : Int)
    .ret (iwrap .i64 (16 + v18))))
   (.cond (decide (p0 ≥ 256))
    (let v19 := iwrap .u8 (ishr .u64 p0 8)
    .ite (0 ≤ v19) <|
    .mat ((⟨#[0, 1, 2, 2, 3, 3, 3, 3, 4, 4, 4, 4, 4, 4, 4, 4, 5, 5, 5, 5, 5, 5, 5, 5, 5, 5, 5, 5, 5, 5, 5, 5, 6, 6, 6, 6, 6, 6, 6, 6, 6, 6, 6, 6, 6, 6, 6, 6, 6, 6, 6, 6, 6, 6, 6, 6, 6, 6, 6, 6, 6, 6, 6, 6, 7, 7, 7, 7, 7, 7, 7, 7, 7, 7, 7, 7, 7, 7, 7, 7, 7, 7, 7, 7, 7, 7, 7, 7, 7, 7, 7, 7, 7, 7, 7, 7, 7, 7, 7, 7, 7, 7, 7, 7, 7, 7, 7, 7, 7, 7, 7, 7, 7, 7, 7, 7, 7, 7, 7, 7, 7, 7, 7, 7, 7, 7, 7, 7, 8, 8, 8, 8, 8, 8, 8, 8, 8, 8, 8, 8, 8, 8, 8, 8, 8, 8, 8, 8, 8, 8, 8, 8, 8, 8, 8, 8, 8, 8, 8, 8, 8, 8, 8, 8, 8, 8, 8, 8, 8, 8, 8, 8, 8, 8, 8, 8, 8, 8, 8, 8, 8, 8, 8, 8, 8, 8, 8, 8, 8, 8, 8, 8, 8, 8, 8, 8, 8, 8, 8, 8, 8, 8, 8, 8, 8, 8, 8, 8, 8, 8, 8, 8, 8, 8, 8, 8, 8, 8, 8, 8, 8, 8, 8, 8, 8, 8, 8, 8, 8, 8, 8, 8, 8, 8, 8, 8, 8, 8, 8, 8, 8, 8, 8, 8, 8, 8, 8, 8, 8, 8, 8, 8, 8, 8, 8, 8]⟩ : ByteArray)[v19.toNat]?) fun b20 =>
    let v21 := iwrap .i64 (b20.toNat : Int)
    .ret (iwrap .i64 (8 + v21)))
    (.ite (0 ≤ iwrap .u8 p0) <|
    .mat ((⟨#[0, 1, 2, 2, 3, 3, 3, 3, 4, 4, 4, 4, 4, 4, 4, 4, 5, 5, 5, 5, 5, 5, 5, 5, 5, 5, 5, 5, 5, 5, 5, 5, 6, 6, 6, 6, 6, 6, 6, 6, 6, 6, 6, 6, 6, 6, 6, 6, 6, 6, 6, 6, 6, 6, 6, 6, 6, 6, 6, 6, 6, 6, 6, 6, 7, 7, 7, 7, 7, 7, 7, 7, 7, 7, 7, 7, 7, 7, 7, 7, 7, 7, 7, 7, 7, 7, 7, 7, 7, 7, 7, 7, 7, 7, 7, 7, 7, 7, 7, 7, 7, 7, 7, 7, 7, 7, 7, 7, 7, 7, 7, 7, 7, 7, 7, 7, 7, 7, 7, 7, 7, 7, 7, 7, 7, 7, 7, 7, 8, 8, 8, 8, 8, 8, 8, 8, 8, 8, 8, 8, 8, 8, 8, 8, 8, 8, 8, 8, 8, 8, 8, 8, 8, 8, 8, 8, 8, 8, 8, 8, 8, 8, 8, 8, 8, 8, 8, 8, 8, 8, 8, 8, 8, 8, 8, 8, 8, 8, 8, 8, 8, 8, 8, 8, 8, 8, 8, 8, 8, 8, 8, 8, 8, 8, 8, 8, 8, 8, 8, 8, 8, 8, 8, 8, 8, 8, 8, 8, 8, 8, 8, 8, 8, 8, 8, 8, 8, 8, 8, 8, 8, 8, 8, 8, 8, 8, 8, 8, 8, 8, 8, 8, 8, 8, 8, 8, 8, 8, 8, 8, 8, 8, 8, 8, 8, 8, 8, 8, 8, 8, 8, 8, 8, 8, 8, 8]⟩ : ByteArray)[(iwrap .u8 p0).toNat]?) fun b22 =>
    let v23 := iwrap .i64 (b22.toNat : Int)
    .ret (iwrap .i64 (0 + v23)))))
noncomputable def bits_Len64_F (p0 : Int) : Option Int := (bits_Len64 p0).run some
noncomputable def bits_Len64_V : Env := ⟨tau, [], []⟩
noncomputable def bits_Len64_b : Code := (Try.f157.body).getD .skip
noncomputable def bits_Len64_I : FnI := ⟨bits_Len64_b, Try.f157.results.toList, Try.f157.resultTypes.toList, []⟩
noncomputable def bits_Len64_out (_p0 : Int) : Int → CallOut := fun r => ⟨(.imm true (.int .i64) r), [], []⟩
set_option maxRecDepth 100000 in
theorem bits_Len64_eq : ∀ (p0 : Int), denFn bits_Len64_V bits_Len64_I ⟨[(.imm true (.int .u64) p0)], []⟩ = (bits_Len64 p0).run fun r => some (bits_Len64_out p0 r) := fun _ => by kernel_rfl
noncomputable def bits_Len64_G (av : List AV) (rs : List Root) : Tre CallOut :=
 asCons av fun a0_ av0 =>
 asEnd av0 <|
 asEnd rs <|
 asImmZ true (.int .u64) a0_ fun d1 =>
 .mat (bits_Len64_F d1) fun r => .ret (bits_Len64_out d1 r)
noncomputable def bits_Len64_c : Ctr := ⟨[], fun ci => bits_Len64_G ci.args ci.roots, false⟩
theorem bits_Len64_env : EnvOK Try.prog .none bits_Len64_V := envOK_nil
set_option maxRecDepth 100000 in
theorem bits_Len64_ok : Contract Try.prog .none 157 bits_Len64_c := by
 have hl : LoopsOK bits_Len64_V [] bits_Len64_b := loopsOK_nil (by kernel_rfl)
 refine (contract_of (F := bits_Len64_I) tau_tys bits_Len64_env Try.func157 (by kernel_rfl) (by kernel_rfl) (by kernel_rfl) hl []).weaken ?_
 rintro ⟨av, rs⟩ co h
 have h : (bits_Len64_G av rs).run some = some co := h
 obtain ⟨a0_, av0, rfl, h_0⟩ := asCons_spec h
 obtain ⟨rfl, h_1⟩ := asEnd_spec h_0
 obtain ⟨rfl, h_2⟩ := asEnd_spec h_1
 obtain ⟨d1, rfl, h_3⟩ := asImmZ_spec h_2
 exact fin_mat (bits_Len64_eq d1) h_3
end Go.Proofs.Ythnkanacjhlhhaa

namespace Go.Proofs.Ythnkanacjhlhhaa
open Go Go.Abs Go.Proofs
noncomputable def bits_Len (p0 : Int) : Tre Int :=
 .mat (bits_Len64_F p0) fun r1 =>
 .ret r1
noncomputable def bits_Len_F (p0 : Int) : Option Int := (bits_Len p0).run some
noncomputable def bits_Len_V : Env := ⟨tau, [(157, bits_Len64_c)], []⟩
noncomputable def bits_Len_b : Code := (Try.f119.body).getD .skip
noncomputable def bits_Len_I : FnI := ⟨bits_Len_b, Try.f119.results.toList, Try.f119.resultTypes.toList, []⟩
noncomputable def bits_Len_out (_p0 : Int) : Int → CallOut := fun r => ⟨(.imm true (.int .i64) r), [], []⟩
set_option maxRecDepth 100000 in
theorem bits_Len_eq : ∀ (p0 : Int), denFn bits_Len_V bits_Len_I ⟨[(.imm true (.int .u64) p0)], []⟩ = (bits_Len p0).run fun r => some (bits_Len_out p0 r) := fun _ => by kernel_rfl
noncomputable def bits_Len_G (av : List AV) (rs : List Root) : Tre CallOut :=
 asCons av fun a0_ av0 =>
 asEnd av0 <|
 asEnd rs <|
 asImmZ true (.int .u64) a0_ fun d1 =>
 .mat (bits_Len_F d1) fun r => .ret (bits_Len_out d1 r)
noncomputable def bits_Len_c : Ctr := ⟨[], fun ci => bits_Len_G ci.args ci.roots, false⟩
theorem bits_Len_env : EnvOK Try.prog .none bits_Len_V := (envOK_cons bits_Len64_ok ent157 envOK_nil)
set_option maxRecDepth 100000 in
theorem bits_Len_ok : Contract Try.prog .none 119 bits_Len_c := by
 have hl : LoopsOK bits_Len_V [] bits_Len_b := loopsOK_nil (by kernel_rfl)
 refine (contract_of (F := bits_Len_I) tau_tys bits_Len_env Try.func119 (by kernel_rfl) (by kernel_rfl) (by kernel_rfl) hl []).weaken ?_
 rintro ⟨av, rs⟩ co h
 have h : (bits_Len_G av rs).run some = some co := h
 obtain ⟨a0_, av0, rfl, h_0⟩ := asCons_spec h
 obtain ⟨rfl, h_1⟩ := asEnd_spec h_0
 obtain ⟨rfl, h_2⟩ := asEnd_spec h_1
 obtain ⟨d1, rfl, h_3⟩ := asImmZ_spec h_2
 exact fin_mat (bits_Len_eq d1) h_3
end Go.Proofs.Ythnkanacjhlhhaa

namespace Go.Proofs.Ythnkanacjhlhhaa
open Go Go.Abs Go.Proofs
noncomputable def cmp_isNaN_int64 (p0 : Int) : Tre Bool :=
 .ret (!decide (p0 = p0))
noncomputable def cmp_isNaN_int64_F (p0 : Int) : Option Bool := (cmp_isNaN_int64 p0).run some
theorem cmp_isNaN_int64_spec (p0 : Int) : cmp_isNaN_int64_F p0 = some (!decide (p0 = p0)) := rfl
noncomputable def cmp_isNaN_int64_V : Env := ⟨tau, [], []⟩
noncomputable def cmp_isNaN_int64_b : Code := (Try.f158.body).getD .skip
noncomputable def cmp_isNaN_int64_I : FnI := ⟨cmp_isNaN_int64_b, Try.f158.results.toList, Try.f158.resultTypes.toList, []⟩
noncomputable def cmp_isNaN_int64_out (_p0 : Int) : Bool → CallOut := fun r => ⟨(.imm true .bool r), [], []⟩
set_option maxRecDepth 100000 in
theorem cmp_isNaN_int64_eq : ∀ (p0 : Int), denFn cmp_isNaN_int64_V cmp_isNaN_int64_I ⟨[(.imm true (.int .i64) p0)], []⟩ = (cmp_isNaN_int64 p0).run fun r => some (cmp_isNaN_int64_out p0 r) := fun _ => by kernel_rfl
noncomputable def cmp_isNaN_int64_G (av : List AV) (rs : List Root) : Tre CallOut :=
 asCons av fun a0_ av0 =>
 asEnd av0 <|
 asEnd rs <|
 asImmZ true (.int .i64) a0_ fun d1 =>
 .ret (cmp_isNaN_int64_out d1 (!decide (d1 = d1)))
noncomputable def cmp_isNaN_int64_c : Ctr := ⟨[], fun ci => cmp_isNaN_int64_G ci.args ci.roots, false⟩
theorem cmp_isNaN_int64_env : EnvOK Try.prog .none cmp_isNaN_int64_V := envOK_nil
set_option maxRecDepth 100000 in
theorem cmp_isNaN_int64_ok : Contract Try.prog .none 158 cmp_isNaN_int64_c := by
 have hl : LoopsOK cmp_isNaN_int64_V [] cmp_isNaN_int64_b := loopsOK_nil (by kernel_rfl)
 refine (contract_of (F := cmp_isNaN_int64_I) tau_tys cmp_isNaN_int64_env Try.func158 (by kernel_rfl) (by kernel_rfl) (by kernel_rfl) hl []).weaken ?_
 rintro ⟨av, rs⟩ co h
 have h : (cmp_isNaN_int64_G av rs).run some = some co := h
 obtain ⟨a0_, av0, rfl, h_0⟩ := asCons_spec h
 obtain ⟨rfl, h_1⟩ := asEnd_spec h_0
 obtain ⟨rfl, h_2⟩ := asEnd_spec h_1
 obtain ⟨d1, rfl, h_3⟩ := asImmZ_spec h_2
 exact fin_ret (cmp_isNaN_int64_eq d1) (cmp_isNaN_int64_spec d1) h_3
end Go.Proofs.Ythnkanacjhlhhaa

namespace Go.Proofs.Ythnkanacjhlhhaa
open Go Go.Abs Go.Proofs
noncomputable def cmp_Compare_int64 (p0 : Int) (p1 : Int) : Tre Int :=
 .cond (!decide (p0 = p0))
  (.cond (!decide (p1 = p1))
   (.ret 0)
   (.ret (-1)))
  (.cond (!decide (p1 = p1))
   (.ret 1)
   (.cond (decide (p0 < p1))
    (.ret (-1))
    (.cond (decide (p0 > p1))
     (.ret 1)
     (.ret 0))))
noncomputable def cmp_Compare_int64_F (p0 : Int) (p1 : Int) : Option Int := (cmp_Compare_int64 p0 p1).run some
def cmp_Compare_int64_S (p0 : Int) (p1 : Int) : Int :=
 cond (!decide (p0 = p0))
  (cond (!decide (p1 = p1))
   (0)
   (-1))
  (cond (!decide (p1 = p1))
   (1)
   (cond (decide (p0 < p1))
    (-1)
    (cond (decide (p0 > p1))
     (1)
     (0))))
theorem cmp_Compare_int64_spec (p0 : Int) (p1 : Int) : cmp_Compare_int64_F p0 p1 = some (cmp_Compare_int64_S p0 p1) := (run_cond_some (run_cond_some rfl rfl) (run_cond_some rfl (run_cond_some rfl (run_cond_some rfl rfl))))
noncomputable def cmp_Compare_int64_V : Env := ⟨tau, [(158, cmp_isNaN_int64_c)], []⟩
noncomputable def cmp_Compare_int64_b : Code := (Try.f120.body).getD .skip
noncomputable def cmp_Compare_int64_I : FnI := ⟨cmp_Compare_int64_b, Try.f120.results.toList, Try.f120.resultTypes.toList, []⟩
noncomputable def cmp_Compare_int64_out (_p0 : Int) (_p1 : Int) : Int → CallOut := fun r => ⟨(.imm true (.int .i64) r), [], []⟩
set_option maxRecDepth 100000 in
theorem cmp_Compare_int64_eq : ∀ (p0 : Int) (p1 : Int), denFn cmp_Compare_int64_V cmp_Compare_int64_I ⟨[(.imm true (.int .i64) p0), (.imm true (.int .i64) p1)], []⟩ = (cmp_Compare_int64 p0 p1).run fun r => some (cmp_Compare_int64_out p0 p1 r) := fun _ _ => by kernel_rfl
noncomputable def cmp_Compare_int64_G (av : List AV) (rs : List Root) : Tre CallOut :=
 asCons av fun a0_ av0 =>
 asCons av0 fun a1_ av1 =>
 asEnd av1 <|
 asEnd rs <|
 asImmZ true (.int .i64) a0_ fun d1 =>
 asImmZ true (.int .i64) a1_ fun d2 =>
 .ret (cmp_Compare_int64_out d1 d2 (cmp_Compare_int64_S d1 d2))
noncomputable def cmp_Compare_int64_c : Ctr := ⟨[], fun ci => cmp_Compare_int64_G ci.args ci.roots, false⟩
theorem cmp_Compare_int64_env : EnvOK Try.prog .none cmp_Compare_int64_V := (envOK_cons cmp_isNaN_int64_ok ent158 envOK_nil)
set_option maxRecDepth 100000 in
theorem cmp_Compare_int64_ok : Contract Try.prog .none 120 cmp_Compare_int64_c := by
 have hl : LoopsOK cmp_Compare_int64_V [] cmp_Compare_int64_b := loopsOK_nil (by kernel_rfl)
 refine (contract_of (F := cmp_Compare_int64_I) tau_tys cmp_Compare_int64_env Try.func120 (by kernel_rfl) (by kernel_rfl) (by kernel_rfl) hl []).weaken ?_
 rintro ⟨av, rs⟩ co h
 have h : (cmp_Compare_int64_G av rs).run some = some co := h
 obtain ⟨a0_, av0, rfl, h_0⟩ := asCons_spec h
 obtain ⟨a1_, av1, rfl, h_1⟩ := asCons_spec h_0
 obtain ⟨rfl, h_2⟩ := asEnd_spec h_1
 obtain ⟨rfl, h_3⟩ := asEnd_spec h_2
 obtain ⟨d1, rfl, h_4⟩ := asImmZ_spec h_3
 obtain ⟨d2, rfl, h_5⟩ := asImmZ_spec h_4
 exact fin_ret (cmp_Compare_int64_eq d1 d2) (cmp_Compare_int64_spec d1 d2) h_5
end Go.Proofs.Ythnkanacjhlhhaa

namespace Go.Proofs.Ythnkanacjhlhhaa
open Go Go.Abs Go.Proofs
noncomputable def slices_Compare_int64_l2 (h2_0_1 : (List Int)) (h2_0_2 : (List Int)) (h2_0_3 : Int) : Int → Tre (Int ⊕ (Int ⊕ Unit)) := fun s2 =>
 .cond (decide (s2 < h2_0_3))
  (.ite (0 ≤ s2 ∧ s2 < (h2_0_2.length : Int)) <|
  .mat (h2_0_2[s2.toNat]?) fun x1 =>
  .cond (decide (s2 ≥ (h2_0_1.length : Int)))
   (.ret (.inr (.inl 1)))
   (.ite (0 ≤ s2 ∧ s2 < (h2_0_1.length : Int)) <|
   .mat (h2_0_1[s2.toNat]?) fun x2 =>
   let v3 := cmp_Compare_int64_S x1 x2
   .cond (!decide (v3 = 0))
    (.ret (.inr (.inl v3)))
    (.ret (.inl (iwrap .i64 (s2 + 1))))))
  (.ret (.inr (.inr ())))
noncomputable def slices_Compare_int64 (p0 : (List Int)) (p1 : (List Int)) : Tre Int :=
 .mat (loopF (slices_Compare_int64_l2 p1 p0 (p0.length : Int)) 0) fun l4 =>
 .alt l4
  (fun a5 =>
   .ret a5)
  (fun _ =>
   .cond (decide ((p0.length : Int) < (p1.length : Int)))
    (.ret (-1))
    (.ret 0))
noncomputable def slices_Compare_int64_F (p0 : (List Int)) (p1 : (List Int)) : Option Int := (slices_Compare_int64 p0 p1).run some
noncomputable def slices_Compare_int64_V : Env := ⟨tau, [(120, cmp_Compare_int64_c)], []⟩
noncomputable def slices_Compare_int64_b : Code := (Try.f65.body).getD .skip
noncomputable def slices_Compare_int64_l2_mk (z2_0 : Bool) (z2_1 : Bool) (z2_2 : Bool) (h2_0_0 : (List Int)) (h2_0_1 : (List Int)) (h2_0_2 : (List Int)) (h2_0_3 : Int) : Int → St := fun x => stOf [(0, (.imm z2_0 (.sl (.int .i64)) h2_0_0)), (1, (.imm z2_1 (.sl (.int .i64)) h2_0_1)), (9, (.imm z2_2 (.sl (.int .i64)) h2_0_2)), (10, (.imm true (.int .i64) h2_0_3)), (11, (.imm true (.int .i64) x))] []
noncomputable def slices_Compare_int64_l2_out (z2_0 : Bool) (z2_1 : Bool) (_z2_2 : Bool) (h2_0_0 : (List Int)) (h2_0_1 : (List Int)) (_h2_0_2 : (List Int)) (_h2_0_3 : Int) : (Int ⊕ Unit) → Ex × St
 | .inl x => (.ret, stOf [(0, (.imm z2_0 (.sl (.int .i64)) h2_0_0)), (1, (.imm z2_1 (.sl (.int .i64)) h2_0_1)), (4, (.imm true (.int .i64) x))] [])
 | .inr x => (.exit 0, stOf [(0, (.imm z2_0 (.sl (.int .i64)) h2_0_0)), (1, (.imm z2_1 (.sl (.int .i64)) h2_0_1)), (4, .dead)] [])
noncomputable def slices_Compare_int64_l2_D (s : St) : Tre (Ex × St) :=
 asImm (.sl (.int .i64)) (s.tmps 0) fun z3 d2 =>
 asImm (.sl (.int .i64)) (s.tmps 1) fun z6 d5 =>
 asImm (.sl (.int .i64)) (s.tmps 9) fun z9 d8 =>
 asImmZ true (.int .i64) (s.tmps 10) fun d11 =>
 asImmZ true (.int .i64) (s.tmps 11) fun d13 =>
 .mat (loopF (slices_Compare_int64_l2 d5 d8 d11) d13) fun x => .alt x (fun a0 => .ret (slices_Compare_int64_l2_out z3 z6 z9 d2 d5 d8 d11 (.inl a0))) (fun b0 => .ret (slices_Compare_int64_l2_out z3 z6 z9 d2 d5 d8 d11 (.inr b0)))
noncomputable def slices_Compare_int64_l2_L : LoopI := ⟨([0, 1, 9, 10, 11], []), ([0, 1, 4], []), slices_Compare_int64_l2_D⟩
noncomputable def slices_Compare_int64_A : List (Nat × LoopI) := [(2, slices_Compare_int64_l2_L)]
set_option maxRecDepth 100000 in
theorem slices_Compare_int64_l2_step : ∀ (z2_0 : Bool) (z2_1 : Bool) (z2_2 : Bool) (h2_0_0 : (List Int)) (h2_0_1 : (List Int)) (h2_0_2 : (List Int)) (h2_0_3 : Int) (x : Int) (c : St → Option (Ex × St)), den slices_Compare_int64_V slices_Compare_int64_A (loopAt slices_Compare_int64_b 0) (slices_Compare_int64_l2_mk z2_0 z2_1 z2_2 h2_0_0 h2_0_1 h2_0_2 h2_0_3 x) (roundK slices_Compare_int64_l2_L.kp slices_Compare_int64_l2_L.kx c) = (slices_Compare_int64_l2 h2_0_1 h2_0_2 h2_0_3 x).run (roundR (slices_Compare_int64_l2_mk z2_0 z2_1 z2_2 h2_0_0 h2_0_1 h2_0_2 h2_0_3) (slices_Compare_int64_l2_out z2_0 z2_1 z2_2 h2_0_0 h2_0_1 h2_0_2 h2_0_3) c) := fun _ _ _ _ _ _ _ _ _ => by
 kernel_rfl
theorem slices_Compare_int64_l2_ok : LoopOK slices_Compare_int64_V slices_Compare_int64_A (loopAt slices_Compare_int64_b 0) slices_Compare_int64_l2_L := loopOK_of fun s e s' h => by
 generalize hs : restrict slices_Compare_int64_l2_L.kp s = s1 at h
 have h : (slices_Compare_int64_l2_D s1).run some = some (e, s') := h
 obtain ⟨z3, d2, e1, h_0⟩ := asImm_spec h
 obtain ⟨z6, d5, e4, h_1⟩ := asImm_spec h_0
 obtain ⟨z9, d8, e7, h_2⟩ := asImm_spec h_1
 obtain ⟨d11, e10, h_3⟩ := asImmZ_spec h_2
 obtain ⟨d13, e12, h_4⟩ := asImmZ_spec h_3
 obtain ⟨y, hy, hz⟩ := mat_some h_4
 refine ⟨_, _, slices_Compare_int64_l2_mk z3 z6 z9 d2 d5 d8 d11, slices_Compare_int64_l2_out z3 z6 z9 d2 d5 d8 d11, slices_Compare_int64_l2 d5 d8 d11, d13, y, ?_, hy, ?_, slices_Compare_int64_l2_step z3 z6 z9 d2 d5 d8 d11⟩
 ·subst hs; exact restrict_eq (T := [(0, (.imm z3 (.sl (.int .i64)) d2)), (1, (.imm z6 (.sl (.int .i64)) d5)), (9, (.imm z9 (.sl (.int .i64)) d8)), (10, (.imm true (.int .i64) d11)), (11, (.imm true (.int .i64) d13))]) (U := []) rfl rfl ⟨e1, e4, e7, e10, e12, trivial⟩ trivial
 ·rcases y with x | x <;> exact Option.some.inj hz
noncomputable def slices_Compare_int64_I : FnI := ⟨slices_Compare_int64_b, Try.f65.results.toList, Try.f65.resultTypes.toList, slices_Compare_int64_A⟩
noncomputable def slices_Compare_int64_out (_zp0 : Bool) (_zp1 : Bool) (_p0 : (List Int)) (_p1 : (List Int)) : Int → CallOut := fun r => ⟨(.imm true (.int .i64) r), [], []⟩
set_option maxRecDepth 100000 in
theorem slices_Compare_int64_eq : ∀ (zp0 : Bool) (zp1 : Bool) (p0 : (List Int)) (p1 : (List Int)), denFn slices_Compare_int64_V slices_Compare_int64_I ⟨[(.imm zp0 (.sl (.int .i64)) p0), (.imm zp1 (.sl (.int .i64)) p1)], []⟩ = (slices_Compare_int64 p0 p1).run fun r => some (slices_Compare_int64_out zp0 zp1 p0 p1 r) := fun _ _ _ _ => by kernel_rfl
noncomputable def slices_Compare_int64_G (av : List AV) (rs : List Root) : Tre CallOut :=
 asCons av fun a0_ av0 =>
 asCons av0 fun a1_ av1 =>
 asEnd av1 <|
 asEnd rs <|
 asImm (.sl (.int .i64)) a0_ fun z2 d1 =>
 asImm (.sl (.int .i64)) a1_ fun z4 d3 =>
 .mat (slices_Compare_int64_F d1 d3) fun r => .ret (slices_Compare_int64_out z2 z4 d1 d3 r)
noncomputable def slices_Compare_int64_c : Ctr := ⟨[], fun ci => slices_Compare_int64_G ci.args ci.roots, false⟩
theorem slices_Compare_int64_env : EnvOK Try.prog .none slices_Compare_int64_V := (envOK_cons cmp_Compare_int64_ok ent120 envOK_nil)
set_option maxRecDepth 100000 in
theorem slices_Compare_int64_ok : Contract Try.prog .none 65 slices_Compare_int64_c := by
 have hl : LoopsOK slices_Compare_int64_V slices_Compare_int64_A slices_Compare_int64_b := (loopsOK_all (n := 1) (by kernel_rfl) fun k hk => by
   match k, hk with
   | 0, _ => exact loopOK_at (id := 2) (L := slices_Compare_int64_l2_L) (by kernel_rfl) (by kernel_rfl) slices_Compare_int64_l2_ok)
 refine (contract_of (F := slices_Compare_int64_I) tau_tys slices_Compare_int64_env Try.func65 (by kernel_rfl) (by kernel_rfl) (by kernel_rfl) hl []).weaken ?_
 rintro ⟨av, rs⟩ co h
 have h : (slices_Compare_int64_G av rs).run some = some co := h
 obtain ⟨a0_, av0, rfl, h_0⟩ := asCons_spec h
 obtain ⟨a1_, av1, rfl, h_1⟩ := asCons_spec h_0
 obtain ⟨rfl, h_2⟩ := asEnd_spec h_1
 obtain ⟨rfl, h_3⟩ := asEnd_spec h_2
 obtain ⟨z2, d1, rfl, h_4⟩ := asImm_spec h_3
 obtain ⟨z4, d3, rfl, h_5⟩ := asImm_spec h_4
 exact fin_mat (slices_Compare_int64_eq z2 z4 d1 d3) h_5
end Go.Proofs.Ythnkanacjhlhhaa

namespace Go.Proofs.Ythnkanacjhlhhaa
open Go Go.Abs Go.Proofs
noncomputable def i_spacesc1c1 (p0 : TMatrix) (p1 : TMatrix) : Tre Int :=
 .mat (slices_Compare_int64_F p0.2.1 p1.2.1) fun r1 =>
 .ret r1
noncomputable def i_spacesc1c1_F (p0 : TMatrix) (p1 : TMatrix) : Option Int := (i_spacesc1c1 p0 p1).run some
noncomputable def i_spacesc1c1_V : Env := ⟨tau, [(65, slices_Compare_int64_c)], []⟩
noncomputable def i_spacesc1c1_b : Code := (Try.f123.body).getD .skip
noncomputable def i_spacesc1c1_I : FnI := ⟨i_spacesc1c1_b, Try.f123.results.toList, Try.f123.resultTypes.toList, []⟩
noncomputable def i_spacesc1c1_out (_zp0 : Bool) (_zp1 : Bool) (_p0 : TMatrix) (_p1 : TMatrix) : Int → CallOut := fun r => ⟨(.imm true (.int .i64) r), [], []⟩
set_option maxRecDepth 100000 in
theorem i_spacesc1c1_eq : ∀ (zp0 : Bool) (zp1 : Bool) (p0 : TMatrix) (p1 : TMatrix), denFn i_spacesc1c1_V i_spacesc1c1_I ⟨[(.imm zp0 kMatrix p0), (.imm zp1 kMatrix p1)], []⟩ = (i_spacesc1c1 p0 p1).run fun r => some (i_spacesc1c1_out zp0 zp1 p0 p1 r) := fun _ _ _ _ => by kernel_rfl
noncomputable def i_spacesc1c1_G (av : List AV) (rs : List Root) : Tre CallOut :=
 asCons av fun a0_ av0 =>
 asCons av0 fun a1_ av1 =>
 asEnd av1 <|
 asEnd rs <|
 asImm kMatrix a0_ fun z2 d1 =>
 asImm kMatrix a1_ fun z4 d3 =>
 .mat (i_spacesc1c1_F d1 d3) fun r => .ret (i_spacesc1c1_out z2 z4 d1 d3 r)
noncomputable def i_spacesc1c1_c : Ctr := ⟨[], fun ci => i_spacesc1c1_G ci.args ci.roots, false⟩
theorem i_spacesc1c1_env : EnvOK Try.prog .none i_spacesc1c1_V := (envOK_cons slices_Compare_int64_ok ent65 envOK_nil)
set_option maxRecDepth 100000 in
theorem i_spacesc1c1_ok : Contract Try.prog .none 123 i_spacesc1c1_c := by
 have hl : LoopsOK i_spacesc1c1_V [] i_spacesc1c1_b := loopsOK_nil (by kernel_rfl)
 refine (contract_of (F := i_spacesc1c1_I) tau_tys i_spacesc1c1_env Try.func123 (by kernel_rfl) (by kernel_rfl) (by kernel_rfl) hl []).weaken ?_
 rintro ⟨av, rs⟩ co h
 have h : (i_spacesc1c1_G av rs).run some = some co := h
 obtain ⟨a0_, av0, rfl, h_0⟩ := asCons_spec h
 obtain ⟨a1_, av1, rfl, h_1⟩ := asCons_spec h_0
 obtain ⟨rfl, h_2⟩ := asEnd_spec h_1
 obtain ⟨rfl, h_3⟩ := asEnd_spec h_2
 obtain ⟨z2, d1, rfl, h_4⟩ := asImm_spec h_3
 obtain ⟨z4, d3, rfl, h_5⟩ := asImm_spec h_4
 exact fin_mat (i_spacesc1c1_eq z2 z4 d1 d3) h_5
end Go.Proofs.Ythnkanacjhlhhaa

namespace Go.Proofs.Ythnkanacjhlhhaa
open Go Go.Abs Go.Proofs
noncomputable def nm3_l4 (h4_0_0 : Int) : (Int × (List TMatrix)) → Tre ((Int × (List TMatrix)) ⊕ (List TMatrix)) := fun s4 =>
 .cond (decide (s4.1 > h4_0_0))
  (.ite (0 ≤ s4.1 ∧ s4.1 < (s4.2.length : Int)) <|
  .mat (s4.2[s4.1.toNat]?) fun x1 =>
  .ite (0 ≤ iwrap .i64 (s4.1 - 1) ∧ iwrap .i64 (s4.1 - 1) < (s4.2.length : Int)) <|
  .mat (s4.2[(iwrap .i64 (s4.1 - 1)).toNat]?) fun x2 =>
  .mat (i_spacesc1c1_F x1 x2) fun r3 =>
  .cond (decide (r3 < 0))
   (.ite (0 ≤ iwrap .i64 (s4.1 - 1) ∧ iwrap .i64 (s4.1 - 1) < (s4.2.length : Int)) <|
   .mat (s4.2[(iwrap .i64 (s4.1 - 1)).toNat]?) fun x4 =>
   .ite (0 ≤ s4.1 ∧ s4.1 < (s4.2.length : Int)) <|
   .mat (s4.2[s4.1.toNat]?) fun x5 =>
   .ite (0 ≤ s4.1 ∧ s4.1 < (s4.2.length : Int)) <|
   .mat (s4.2[s4.1.toNat]?) fun _ =>
   let v7 := s4.2.set s4.1.toNat x4
   .ite (0 ≤ iwrap .i64 (s4.1 - 1) ∧ iwrap .i64 (s4.1 - 1) < (v7.length : Int)) <|
   .mat (v7[(iwrap .i64 (s4.1 - 1)).toNat]?) fun _ =>
   let v9 := v7.set ((iwrap .i64 (s4.1 - 1)).toNat) x5
   .ret (.inl (iwrap .i64 (s4.1 - 1), v9)))
   (.ret (.inr s4.2)))
  (.ret (.inr s4.2))
noncomputable def nm3_l1 (h1_0_0 : Int) (h1_0_1 : Int) : (Int × (List TMatrix)) → Tre ((Int × (List TMatrix)) ⊕ (List TMatrix)) := fun s1 =>
 .cond (decide (s1.1 < h1_0_1))
  (.mat (loopF (nm3_l4 h1_0_0) (s1.1, s1.2)) fun l10 =>
  .ret (.inl (iwrap .i64 (s1.1 + 1), l10)))
  (.ret (.inr s1.2))
noncomputable def nm3 (p0 : Int) (p1 : Int) (p2 : (List TMatrix)) : Tre (List TMatrix) :=
 .mat (loopF (nm3_l1 p0 p1) (iwrap .i64 (p0 + 1), p2)) fun l11 =>
 .ret l11
noncomputable def nm3_F (p0 : Int) (p1 : Int) (p2 : (List TMatrix)) : Option (List TMatrix) := (nm3 p0 p1 p2).run some
noncomputable def nm3_V : Env := ⟨tau, [(123, i_spacesc1c1_c)], []⟩
noncomputable def nm3_b : Code := (Try.f148.body).getD .skip
noncomputable def nm3_l4_mk (h4_0_0 : Int) (h4_0_1 : Int) (h4_0_2 : Int) : (Int × (List TMatrix)) → St := fun x => stOf [(0, (.ref (0, 0) [])), (1, (.imm true (.int .i64) h4_0_0)), (2, (.imm true (.int .i64) h4_0_1)), (3, (.fn 123 [])), (8, (.imm true (.int .i64) h4_0_2)), (9, (.imm true (.int .i64) x.1))] [((0, 0), some ⟨false, (.sl kMatrix), (.sl (.imm true)), x.2⟩)]
noncomputable def nm3_l4_out (h4_0_0 : Int) (h4_0_1 : Int) (h4_0_2 : Int) : (List TMatrix) → Ex × St := fun x => (.exit 2, stOf [(0, (.ref (0, 0) [])), (1, (.imm true (.int .i64) h4_0_0)), (2, (.imm true (.int .i64) h4_0_1)), (3, (.fn 123 [])), (8, (.imm true (.int .i64) h4_0_2))] [((0, 0), some ⟨false, (.sl kMatrix), (.sl (.imm true)), x⟩)])
noncomputable def nm3_l4_D (s : St) : Tre (Ex × St) :=
 asRef (0, 0) [] (s.tmps 0) <|
 asImmZ true (.int .i64) (s.tmps 1) fun d3 =>
 asImmZ true (.int .i64) (s.tmps 2) fun d5 =>
 asFn 123 [] (s.tmps 3) <|
 asImmZ true (.int .i64) (s.tmps 8) fun d8 =>
 asImmZ true (.int .i64) (s.tmps 9) fun d10 =>
 asRoot false (.sl kMatrix) (s.roots (0, 0)) fun m12 d13 =>
 asM (.sl (.imm true)) m12 <|
 .mat (loopF (nm3_l4 d3) (d10, d13)) fun x => .ret (nm3_l4_out d3 d5 d8 x)
noncomputable def nm3_l4_L : LoopI := ⟨([0, 1, 2, 3, 8, 9], [(0, 0)]), ([0, 1, 2, 3, 8], [(0, 0)]), nm3_l4_D⟩
noncomputable def nm3_l1_mk (h1_0_0 : Int) (h1_0_1 : Int) : (Int × (List TMatrix)) → St := fun x => stOf [(0, (.ref (0, 0) [])), (1, (.imm true (.int .i64) h1_0_0)), (2, (.imm true (.int .i64) h1_0_1)), (3, (.fn 123 [])), (8, (.imm true (.int .i64) x.1))] [((0, 0), some ⟨false, (.sl kMatrix), (.sl (.imm true)), x.2⟩)]
noncomputable def nm3_l1_out (_h1_0_0 : Int) (_h1_0_1 : Int) : (List TMatrix) → Ex × St := fun x => (.exit 0, stOf [] [((0, 0), some ⟨false, (.sl kMatrix), (.sl (.imm true)), x⟩)])
noncomputable def nm3_l1_D (s : St) : Tre (Ex × St) :=
 asRef (0, 0) [] (s.tmps 0) <|
 asImmZ true (.int .i64) (s.tmps 1) fun d3 =>
 asImmZ true (.int .i64) (s.tmps 2) fun d5 =>
 asFn 123 [] (s.tmps 3) <|
 asImmZ true (.int .i64) (s.tmps 8) fun d8 =>
 asRoot false (.sl kMatrix) (s.roots (0, 0)) fun m10 d11 =>
 asM (.sl (.imm true)) m10 <|
 .mat (loopF (nm3_l1 d3 d5) (d8, d11)) fun x => .ret (nm3_l1_out d3 d5 x)
noncomputable def nm3_l1_L : LoopI := ⟨([0, 1, 2, 3, 8], [(0, 0)]), ([], [(0, 0)]), nm3_l1_D⟩
noncomputable def nm3_A : List (Nat × LoopI) := [(4, nm3_l4_L), (1, nm3_l1_L)]
set_option maxRecDepth 100000 in
theorem nm3_l4_step : ∀ (h4_0_0 : Int) (h4_0_1 : Int) (h4_0_2 : Int) (x : (Int × (List TMatrix))) (c : St → Option (Ex × St)), den nm3_V nm3_A (loopAt nm3_b 1) (nm3_l4_mk h4_0_0 h4_0_1 h4_0_2 x) (roundK nm3_l4_L.kp nm3_l4_L.kx c) = (nm3_l4 h4_0_0 x).run (roundR (nm3_l4_mk h4_0_0 h4_0_1 h4_0_2) (nm3_l4_out h4_0_0 h4_0_1 h4_0_2) c) := fun _ _ _ _ _ => by
 kernel_rfl
theorem nm3_l4_ok : LoopOK nm3_V nm3_A (loopAt nm3_b 1) nm3_l4_L := loopOK_of fun s e s' h => by
 generalize hs : restrict nm3_l4_L.kp s = s1 at h
 have h : (nm3_l4_D s1).run some = some (e, s') := h
 obtain ⟨e1, h_0⟩ := asRef_spec h
 obtain ⟨d3, e2, h_1⟩ := asImmZ_spec h_0
 obtain ⟨d5, e4, h_2⟩ := asImmZ_spec h_1
 obtain ⟨e6, h_3⟩ := asFn_spec h_2
 obtain ⟨d8, e7, h_4⟩ := asImmZ_spec h_3
 obtain ⟨d10, e9, h_5⟩ := asImmZ_spec h_4
 obtain ⟨m12, d13, e11, h_6⟩ := asRoot_spec h_5
 obtain ⟨rfl, h_7⟩ := asM_spec h_6
 obtain ⟨y, hy, hz⟩ := mat_ret h_7
 refine ⟨_, _, nm3_l4_mk d3 d5 d8, nm3_l4_out d3 d5 d8, nm3_l4 d3, (d10, d13), y, ?_, hy, ?_, nm3_l4_step d3 d5 d8⟩
 ·subst hs; exact restrict_eq (T := [(0, (.ref (0, 0) [])), (1, (.imm true (.int .i64) d3)), (2, (.imm true (.int .i64) d5)), (3, (.fn 123 [])), (8, (.imm true (.int .i64) d8)), (9, (.imm true (.int .i64) d10))]) (U := [((0, 0), some ⟨false, (.sl kMatrix), (.sl (.imm true)), d13⟩)]) rfl rfl ⟨e1, e2, e4, e6, e7, e9, trivial⟩ ⟨e11, trivial⟩
 ·exact Option.some.inj hz
set_option maxRecDepth 100000 in
theorem nm3_l1_step : ∀ (h1_0_0 : Int) (h1_0_1 : Int) (x : (Int × (List TMatrix))) (c : St → Option (Ex × St)), den nm3_V nm3_A (loopAt nm3_b 0) (nm3_l1_mk h1_0_0 h1_0_1 x) (roundK nm3_l1_L.kp nm3_l1_L.kx c) = (nm3_l1 h1_0_0 h1_0_1 x).run (roundR (nm3_l1_mk h1_0_0 h1_0_1) (nm3_l1_out h1_0_0 h1_0_1) c) := fun _ _ _ _ => by
 kernel_rfl
theorem nm3_l1_ok : LoopOK nm3_V nm3_A (loopAt nm3_b 0) nm3_l1_L := loopOK_of fun s e s' h => by
 generalize hs : restrict nm3_l1_L.kp s = s1 at h
 have h : (nm3_l1_D s1).run some = some (e, s') := h
 obtain ⟨e1, h_0⟩ := asRef_spec h
 obtain ⟨d3, e2, h_1⟩ := asImmZ_spec h_0
 obtain ⟨d5, e4, h_2⟩ := asImmZ_spec h_1
 obtain ⟨e6, h_3⟩ := asFn_spec h_2
 obtain ⟨d8, e7, h_4⟩ := asImmZ_spec h_3
 obtain ⟨m10, d11, e9, h_5⟩ := asRoot_spec h_4
 obtain ⟨rfl, h_6⟩ := asM_spec h_5
 obtain ⟨y, hy, hz⟩ := mat_ret h_6
 refine ⟨_, _, nm3_l1_mk d3 d5, nm3_l1_out d3 d5, nm3_l1 d3 d5, (d8, d11), y, ?_, hy, ?_, nm3_l1_step d3 d5⟩
 ·subst hs; exact restrict_eq (T := [(0, (.ref (0, 0) [])), (1, (.imm true (.int .i64) d3)), (2, (.imm true (.int .i64) d5)), (3, (.fn 123 [])), (8, (.imm true (.int .i64) d8))]) (U := [((0, 0), some ⟨false, (.sl kMatrix), (.sl (.imm true)), d11⟩)]) rfl rfl ⟨e1, e2, e4, e6, e7, trivial⟩ ⟨e9, trivial⟩
 ·exact Option.some.inj hz
noncomputable def nm3_I : FnI := ⟨nm3_b, Try.f148.results.toList, Try.f148.resultTypes.toList, nm3_A⟩
noncomputable def nm3_out (_p0 : Int) (_p1 : Int) (_p2 : (List TMatrix)) : (List TMatrix) → CallOut := fun r => ⟨.tnil, [⟨false, (.sl kMatrix), (.sl (.imm true)), r⟩], []⟩
set_option maxRecDepth 100000 in
theorem nm3_eq : ∀ (p0 : Int) (p1 : Int) (p2 : (List TMatrix)), denFn nm3_V nm3_I ⟨[(.ref (0, 0) []), (.imm true (.int .i64) p0), (.imm true (.int .i64) p1), (.fn 123 [])], [⟨false, (.sl kMatrix), (.sl (.imm true)), p2⟩]⟩ = (nm3 p0 p1 p2).run fun r => some (nm3_out p0 p1 p2 r) := fun _ _ _ => by kernel_rfl
noncomputable def nm3_G (av : List AV) (rs : List Root) : Tre CallOut :=
 asCons av fun a0_ av0 =>
 asCons av0 fun a1_ av1 =>
 asCons av1 fun a2_ av2 =>
 asCons av2 fun a3_ av3 =>
 asEnd av3 <|
 asCons rs fun r0_ rs0 =>
 asEnd rs0 <|
 asRef (0, 0) [] a0_ <|
 asImmZ true (.int .i64) a1_ fun d1 =>
 asImmZ true (.int .i64) a2_ fun d2 =>
 asFn 123 [] a3_ <|
 asRt false (.sl kMatrix) r0_ fun m3 d4 =>
 asM (.sl (.imm true)) m3 <|
 .mat (nm3_F d1 d2 d4) fun r => .ret (nm3_out d1 d2 d4 r)
noncomputable def nm3_c : Ctr := ⟨[0], fun ci => nm3_G ci.args ci.roots, false⟩
theorem nm3_env : EnvOK Try.prog .none nm3_V := (envOK_cons i_spacesc1c1_ok ent123 envOK_nil)
set_option maxRecDepth 100000 in
theorem nm3_ok : Contract Try.prog .none 148 nm3_c := by
 have hl : LoopsOK nm3_V nm3_A nm3_b := (loopsOK_all (n := 2) (by kernel_rfl) fun k hk => by
   match k, hk with
   | 0, _ => exact loopOK_at (id := 1) (L := nm3_l1_L) (by kernel_rfl) (by kernel_rfl) nm3_l1_ok
   | 1, _ => exact loopOK_at (id := 4) (L := nm3_l4_L) (by kernel_rfl) (by kernel_rfl) nm3_l4_ok)
 refine (contract_of (F := nm3_I) tau_tys nm3_env Try.func148 (by kernel_rfl) (by kernel_rfl) (by kernel_rfl) hl [0]).weaken ?_
 rintro ⟨av, rs⟩ co h
 have h : (nm3_G av rs).run some = some co := h
 obtain ⟨a0_, av0, rfl, h_0⟩ := asCons_spec h
 obtain ⟨a1_, av1, rfl, h_1⟩ := asCons_spec h_0
 obtain ⟨a2_, av2, rfl, h_2⟩ := asCons_spec h_1
 obtain ⟨a3_, av3, rfl, h_3⟩ := asCons_spec h_2
 obtain ⟨rfl, h_4⟩ := asEnd_spec h_3
 obtain ⟨r0_, rs0, rfl, h_5⟩ := asCons_spec h_4
 obtain ⟨rfl, h_6⟩ := asEnd_spec h_5
 obtain ⟨rfl, h_7⟩ := asRef_spec h_6
 obtain ⟨d1, rfl, h_8⟩ := asImmZ_spec h_7
 obtain ⟨d2, rfl, h_9⟩ := asImmZ_spec h_8
 obtain ⟨rfl, h_10⟩ := asFn_spec h_9
 obtain ⟨m3, d4, rfl, h_11⟩ := asRt_spec h_10
 obtain ⟨rfl, h_12⟩ := asM_spec h_11
 exact fin_mat (nm3_eq d1 d2 d4) h_12
end Go.Proofs.Ythnkanacjhlhhaa
