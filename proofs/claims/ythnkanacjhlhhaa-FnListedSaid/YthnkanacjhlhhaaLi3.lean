/- Part 3 of the proof of FnListed. -/
import Derived.Sort.OwnSortedInts
import Derived.Lib.SlicesCompact
import Derived.Shelf.SortG.Plain
import Derived.Shelf.SortG.SortNone
import Derived.Ground.SlgnProg
import Derived.Test.YthnkanacjhlhhaaProg
import Derived.Test.YthnkanacjhlhhaaLi2
namespace Go.Abs
theorem put_sound {m0 : Mask} {w : World} {θ : RName → Nat} {Z S : BS} {e : K} (hbd : ∀ b, Z b ∨ S b → b < w.heap.size) :
  ∀ (p : Path) {k : K} {m : Mask} {d : k.den} {vs : List Value} {F : BS} {base : Option (Nat × Nat)} {d0 : List e.den},
   Enc w θ Z S k m d vs F → (∀ b, F b → b < w.heap.size ∧ ¬ Z b ∧ ¬ S b) →
   getP k d m p (fun k d m => some ((⟨k, d⟩ : Σ k : K, k.den), m)) = some (⟨.sl e, d0⟩, m0) →
   ∃ (v : Value) (b1 : Option (Nat × Nat)) (Gi : BS), locv w k vs base p = some ([v], b1) ∧ Enc w θ Z S (.sl e) m0 d0 [v] Gi ∧ Sub Gi F ∧
    ∀ (w' : World) (Z' G' : BS) (d1 : List e.den) (d2 : k.den) (m2 : Mask), Sub Z Z' → (∀ b, b < w.heap.size → ¬ Gi b → w'.heap[b]? = w.heap[b]?) → (∀ b, G' b → Gi b ∨ w.heap.size ≤ b) →
     Enc w' θ Z' S (.sl e) m0 d1 [v] G' → setP k d m p (.sl e) d1 m0 (fun d m => some (d, m)) = some (d2, m2) →
     Enc w' θ Z' S k m2 d2 vs (fun b => (F b ∧ ¬ Gi b) ∨ G' b) ∧ Stays w w' k d d2 m m2 vs vs base (.sl e) (p ++ [.idx 0]) := by
 intro p
 induction p with
 | nil =>
  intro k m d vs F base d0 he hF hg
  have hg' : some ((⟨k, d⟩ : Σ k : K, k.den), m) = some (⟨.sl e, d0⟩, m0) := by rw [← hg]; cases k <;> rfl
  simp only [Option.some.injEq, Prod.mk.injEq, Sigma.mk.injEq] at hg'
  obtain ⟨⟨rfl, hd⟩, rfl⟩ := hg'
  cases hd
  obtain ⟨v, rfl⟩ : ∃ v, vs = [v] := by
   have := he.len
   match vs, this with
   | [v], _ => exact ⟨v, rfl⟩
  refine ⟨v, base, F, rfl, he, .refl _, fun w' Z' G' d1 d2 m2 hZ hk hG' hnew hs => ?_⟩
  have hs' : some (d1, m) = some (d2, m2) := by
   rw [← hs]
   simp [setP, K.flat]
  simp only [Option.some.injEq, Prod.mk.injEq] at hs'
  obtain ⟨rfl, rfl⟩ := hs'
  refine ⟨hnew.mono (.refl _) (.refl _) (fun _ h => .inr h) (fun _ _ => rfl) (fun _ _ => rfl), fun q k' cs b1 hk' hcg hlc => ?_⟩
  cases q with
  | nil => exact ⟨fun _ => ⟨trivial, cs, hlc⟩, fun _ _ => ⟨trivial, hlc⟩⟩
  | cons st q =>
   cases st with
   | idx j =>
    refine ⟨fun hfl => ?_, fun _ hfl => ?_⟩
    ·rcases hfl with hfl | hfl
     ·cases hfl
     ·simp [under, hasIdx] at hfl
    ·rcases hfl with hfl | hfl
     ·cases hfl
     ·simp [under] at hfl
   | fst => simp [K.at] at hk'
   | snd => simp [K.at] at hk'
 | cons s p ih =>
  intro k m d vs F base d0 he hF hg
  cases s with
  | fst =>
   cases k with
   | pair ka kb =>
    obtain ⟨v1, v2, Fa, Fb, rfl, s1, s2, dj, h1, h2⟩ := he
    have l1 := h1.len
    obtain ⟨v, b1, Gi, g1, g2, g3, g4⟩ := ih (k := ka) (base := base) h1 (fun b hb => hF b (s1 b hb)) hg
    refine ⟨v, b1, Gi, by simp only [locv]; rw [← l1, List.take_left]; exact g1, g2, g3.trans s1, fun w' Z' G' d1 d2 m2 hZ hk hG' hnew hs => ?_⟩
    obtain ⟨t, ht, hs2⟩ := Option.bind_eq_some_iff.1 ((setP_nat (fun t : ka.den × Mask => some (((t.1, d.2) : ka.den × kb.den), m.putFst (K.sl e).flat t.2)) p (fun d m => some (d, m))).trans hs)
    obtain ⟨x, mx⟩ := t
    simp only [Option.some.injEq, Prod.mk.injEq] at hs2
    obtain ⟨rfl, rfl⟩ := hs2
    obtain ⟨k1, k2⟩ := g4 w' Z' G' d1 x mx hZ hk hG' hnew ht
    have hm0 : (m.putFst (K.sl e).flat mx).fst = mx ∧ (m.putFst (K.sl e).flat mx).snd = m.snd := ⟨setP_sound.mkPair_fst _ _, setP_sound.mkPair_snd _ _⟩
    have hsame : ∀ b, Fb b ∨ Z b ∨ S b → w'.heap[b]? = w.heap[b]? := fun b hb => hb.elim (fun hb => hk b (hF b (s2 b hb)).1 fun hg => dj b (g3 b hg) hb) fun hb => hk b (hbd b hb) fun hg => hb.elim (hF b (s1 b (g3 b hg))).2.1 (hF b (s1 b (g3 b hg))).2.2
    refine ⟨⟨v1, v2, fun b => (Fa b ∧ ¬ Gi b) ∨ G' b, Fb, rfl, fun b hb => hb.imp (fun h => ⟨s1 b h.1, h.2⟩) id, fun b hb => .inl ⟨s2 b hb, fun hg => dj b (g3 b hg) hb⟩, ?_, by rw [hm0.1]; exact k1, by rw [hm0.2]; exact h2.mono hZ (.refl _) (.refl _) hsame (fun _ _ => rfl)⟩, ?_⟩
    ·rintro b (hb | hb) hb2
     ·exact dj b hb.1 hb2
     ·rcases hG' b hb with hb | hb
      ·exact dj b (g3 b hb) hb2
      ·have := (hF b (s2 b hb2)).1; omega
    ·intro q k' cs b2 hk' hcg hlc
     cases q with
     | nil =>
      refine ⟨fun _ => ⟨trivial, cs, hlc⟩, fun ⟨e', hke⟩ => ?_⟩
      have : some (ka.pair kb) = some k' := hk'
      rw [hke] at this; cases this
     | cons st q =>
      cases st with
      | fst =>
       simp only [locv] at hlc ⊢
       rw [← l1, List.take_left] at hlc ⊢
       obtain ⟨x1, x2⟩ := k2 q k' cs b2 hk' hcg hlc
       refine ⟨fun hfl => ?_, fun he hfl => ?_⟩
       ·obtain ⟨y1, y2⟩ := x1 (by simpa [under, hasIdx] using hfl)
        exact ⟨by show canGet ka x (m.putFst (K.sl e).flat mx).fst q; rw [hm0.1]; exact y1, y2⟩
       ·obtain ⟨y1, y2⟩ := x2 he (by simpa [under] using hfl)
        exact ⟨by show canGet ka x (m.putFst (K.sl e).flat mx).fst q; rw [hm0.1]; exact y1, y2⟩
      | snd =>
       have hcg' : canGet kb d.2 m.snd q := hcg
       have hcg2 : canGet kb d.2 (m.putFst (K.sl e).flat mx).snd q := by rw [hm0.2]; exact hcg'
       obtain ⟨_, _, _, hgp⟩ := canGet_getP q hcg'
       have hfr := locv_frame (w' := w') (base := base.map fun x => (x.1, x.2 + ka.size)) q h2 hsame ⟨Unit, (), fun _ _ _ => some (), by rw [hgp]⟩
       simp only [locv] at hlc ⊢
       rw [← l1, List.drop_left, l1] at hlc ⊢
       rw [hfr]
       exact ⟨fun _ => ⟨hcg2, cs, hlc⟩, fun _ _ => ⟨hcg2, hlc⟩⟩
      | idx i => simp [K.at] at hk'
   | _ => simp [getP] at hg
  | snd =>
   cases k with
   | pair ka kb =>
    obtain ⟨v1, v2, Fa, Fb, rfl, s1, s2, dj, h1, h2⟩ := he
    have l1 := h1.len
    obtain ⟨v, b1, Gi, g1, g2, g3, g4⟩ := ih (k := kb) (base := base.map fun x => (x.1, x.2 + ka.size)) h2 (fun b hb => hF b (s2 b hb)) hg
    refine ⟨v, b1, Gi, by simp only [locv]; rw [← l1, List.drop_left, l1]; exact g1, g2, g3.trans s2, fun w' Z' G' d1 d2 m2 hZ hk hG' hnew hs => ?_⟩
    obtain ⟨t, ht, hs2⟩ := Option.bind_eq_some_iff.1 ((setP_nat (fun t : kb.den × Mask => some (((d.1, t.1) : ka.den × kb.den), m.putSnd (K.sl e).flat t.2)) p (fun d m => some (d, m))).trans hs)
    obtain ⟨x, mx⟩ := t
    simp only [Option.some.injEq, Prod.mk.injEq] at hs2
    obtain ⟨rfl, rfl⟩ := hs2
    obtain ⟨k1, k2⟩ := g4 w' Z' G' d1 x mx hZ hk hG' hnew ht
    have hm0 : (m.putSnd (K.sl e).flat mx).fst = m.fst ∧ (m.putSnd (K.sl e).flat mx).snd = mx := ⟨setP_sound.mkPair_fst _ _, setP_sound.mkPair_snd _ _⟩
    have hsame : ∀ b, Fa b ∨ Z b ∨ S b → w'.heap[b]? = w.heap[b]? := fun b hb => hb.elim (fun hb => hk b (hF b (s1 b hb)).1 fun hg => dj b hb (g3 b hg)) fun hb => hk b (hbd b hb) fun hg => hb.elim (hF b (s2 b (g3 b hg))).2.1 (hF b (s2 b (g3 b hg))).2.2
    refine ⟨⟨v1, v2, Fa, fun b => (Fb b ∧ ¬ Gi b) ∨ G' b, rfl, fun b hb => .inl ⟨s1 b hb, fun hg => dj b hb (g3 b hg)⟩, fun b hb => hb.imp (fun h => ⟨s2 b h.1, h.2⟩) id, ?_, by rw [hm0.1]; exact h1.mono hZ (.refl _) (.refl _) hsame (fun _ _ => rfl), by rw [hm0.2]; exact k1⟩, ?_⟩
    ·rintro b hb2 (hb | hb)
     ·exact dj b hb2 hb.1
     ·rcases hG' b hb with hb | hb
      ·exact dj b hb2 (g3 b hb)
      ·have := (hF b (s1 b hb2)).1; omega
    ·intro q k' cs b2 hk' hcg hlc
     cases q with
     | nil =>
      refine ⟨fun _ => ⟨trivial, cs, hlc⟩, fun ⟨e', hke⟩ => ?_⟩
      have : some (ka.pair kb) = some k' := hk'
      rw [hke] at this; cases this
     | cons st q =>
      cases st with
      | snd =>
       simp only [locv] at hlc ⊢
       rw [← l1, List.drop_left, l1] at hlc ⊢
       obtain ⟨x1, x2⟩ := k2 q k' cs b2 hk' hcg hlc
       refine ⟨fun hfl => ?_, fun he hfl => ?_⟩
       ·obtain ⟨y1, y2⟩ := x1 (by simpa [under, hasIdx] using hfl)
        exact ⟨by show canGet kb x (m.putSnd (K.sl e).flat mx).snd q; rw [hm0.2]; exact y1, y2⟩
       ·obtain ⟨y1, y2⟩ := x2 he (by simpa [under] using hfl)
        exact ⟨by show canGet kb x (m.putSnd (K.sl e).flat mx).snd q; rw [hm0.2]; exact y1, y2⟩
      | fst =>
       have hcg' : canGet ka d.1 m.fst q := hcg
       have hcg2 : canGet ka d.1 (m.putSnd (K.sl e).flat mx).fst q := by rw [hm0.1]; exact hcg'
       obtain ⟨_, _, _, hgp⟩ := canGet_getP q hcg'
       have hfr := locv_frame (w' := w') (base := base) q h1 hsame ⟨Unit, (), fun _ _ _ => some (), by rw [hgp]⟩
       simp only [locv] at hlc ⊢
       rw [← l1, List.take_left] at hlc ⊢
       rw [hfr]
       exact ⟨fun _ => ⟨hcg2, cs, hlc⟩, fun _ _ => ⟨hcg2, hlc⟩⟩
      | idx i => simp [K.at] at hk'
   | _ => simp [getP] at hg
  | idx i =>
   cases k with
   | sl e' =>
    simp only [getP] at hg
    split at hg
    case h_2 => simp at hg
    case h_1 y hy =>
    have hi : i < List.length d := (List.getElem?_eq_some_iff.1 hy).1
    rcases he with ⟨rfl, _⟩ | ⟨_, rfl, _⟩ | ⟨hgone, b', off', cap, cs, T, fz, rfl, hc, hle, hs0, hok, G, hG, hdj, hel⟩
    ·simp at hg
    ·simp at hy
    ·have hg' : getP e' y m.elem p (fun k d m => some ((⟨k, d⟩ : Σ k : K, k.den), m)) = some (⟨.sl e, d0⟩, m0) := by
      cases m <;> first | exact hg | exact absurd rfl hgone
     obtain ⟨v, b1, Gi, g1, g2, g3, g4⟩ := ih (k := e') (base := some (b', off' + i * e'.size)) (hel i y hy) (fun b hb => hF b ((hG i).1 b hb)) hg'
     refine ⟨v, b1, Gi, by simp only [locv, cellsAt, hc]; exact g1, g2, g3.trans (hG i).1, fun w' Z' G' d1 d2 m2 hZ hk hG' hnew hs => ?_⟩
     simp only [setP, hy] at hs
     cases hown : m.isOwn with
     | false => simp [hown] at hs
     | true =>
     simp only [hown, cond_true] at hs
     have hbF' : F b' ∧ fz = (0, 0) := by cases m <;> simp_all [Mask.isOwn, slOk]
     obtain ⟨t, ht, hs2⟩ := Option.bind_eq_some_iff.1 ((setP_nat (fun t : e'.den × Mask => if t.2 = m.elem then some (List.set d i t.1, m) else none) p (fun d m => some (d, m))).trans hs)
     obtain ⟨x', mx⟩ := t
     simp only at hs2
     split at hs2
     case isFalse => simp at hs2
     case isTrue hmx =>
     simp only [Option.some.injEq, Prod.mk.injEq] at hs2
     obtain ⟨rfl, rfl⟩ := hs2
     obtain ⟨k1, k2⟩ := g4 w' Z' G' d1 x' mx hZ hk hG' hnew ht
     have hnb : ¬ Gi b' := fun h => (hG i).2 (g3 b' h)
     have hc' : w'.heap[b']? = some (.cells cs T fz) := by rw [hk b' (hF b' hbF'.1).1 hnb]; exact hc
     have hsame : ∀ j, j ≠ i → ∀ b, G j b ∨ Z b ∨ S b → w'.heap[b]? = w.heap[b]? := fun j hj b hb => hb.elim (fun hb => hk b (hF b ((hG j).1 b hb)).1 fun hg => hdj j i hj b hb (g3 b hg)) fun hb => hk b (hbd b hb) fun hg => hb.elim (hF b ((hG i).1 b (g3 b hg))).2.1 (hF b ((hG i).1 b (g3 b hg))).2.2
     refine ⟨.inr (.inr ⟨hgone, b', off', cap, cs, T, fz, by simp, hc', by simpa using hle, hs0, ?_, fun j => if j = i then (fun b => (G i b ∧ ¬ Gi b) ∨ G' b) else G j, ?_, ?_, ?_⟩), ?_⟩
     ·rw [hbF'.2]
      have : slOk Z S F b' (0, 0) m := by rw [← hbF'.2]; exact hok
      cases m with
      | own => exact ⟨.inl ⟨hbF'.1, hnb⟩, rfl⟩
      | sl _ => exact ⟨.inl ⟨hbF'.1, hnb⟩, rfl⟩
      | _ => simp [Mask.isOwn] at hown
     ·intro j
      by_cases hj : j = i
      ·subst hj
       simp only [if_true]
       refine ⟨fun b hb => hb.imp (fun h => ⟨(hG j).1 b h.1, h.2⟩) id, ?_⟩
       rintro (hb | hb)
       ·exact (hG j).2 hb.1
       ·rcases hG' b' hb with hb | hb
        ·exact hnb hb
        ·have := (hF b' hbF'.1).1; omega
      ·simp only [if_neg hj]
       exact ⟨fun b hb => .inl ⟨(hG j).1 b hb, fun hg => hdj j i hj b hb (g3 b hg)⟩, (hG j).2⟩
     ·have hone : ∀ j, j ≠ i → Disj (fun b => (G i b ∧ ¬ Gi b) ∨ G' b) (G j) := by
       rintro j hj b (hb | hb) hb2
       ·exact hdj i j (fun h => hj h.symm) b hb.1 hb2
       ·rcases hG' b hb with hb | hb
        ·exact hdj i j (fun h => hj h.symm) b (g3 b hb) hb2
        ·have := (hF b ((hG j).1 b hb2)).1; omega
      intro j j' hjj
      by_cases hj : j = i
      ·have hj' : j' ≠ i := fun h => hjj (hj.trans h.symm)
       simp only [if_pos hj, if_neg hj']
       exact hone j' hj'
      ·by_cases hj' : j' = i
       ·simp only [if_neg hj, if_pos hj']
        exact (hone j hj).symm
       ·simp only [if_neg hj, if_neg hj']
        exact hdj j j' hjj
     ·intro j z hz
      by_cases hj : j = i
      ·subst hj
       rw [List.getElem?_set_self hi] at hz
       simp only [Option.some.injEq] at hz
       subst hz
       simp only [if_true]
       rw [← hmx]
       exact k1
      ·rw [List.getElem?_set_ne (fun h => hj h.symm)] at hz
       simp only [if_neg hj]
       exact (hel j z hz).mono hZ (.refl _) (.refl _) (hsame j hj) (fun _ _ => rfl)
     ·intro q k' ccs b2 hk' hcg hlc
      cases q with
      | nil => exact ⟨fun _ => ⟨trivial, _, hlc⟩, fun _ _ => ⟨trivial, hlc⟩⟩
      | cons st q =>
       cases st with
       | idx j =>
        obtain ⟨hmg, z, hz, hcg'⟩ := hcg
        have hk2 : e'.at q = some k' := hk'
        simp only [locv, cellsAt, hc, hc'] at hlc ⊢
        by_cases hj : j = i
        ·subst hj
         have hzy : z = y := by rw [hy] at hz; exact (Option.some.inj hz).symm
         subst hzy
         obtain ⟨x1, x2⟩ := k2 q k' ccs b2 hk2 hcg' hlc
         refine ⟨fun hfl => ?_, fun he hfl => ?_⟩
         ·obtain ⟨y1, y2⟩ := x1 (hfl.imp id (fun h => by simp [under, hasIdx] at h; simp [h]))
          exact ⟨⟨hmg, x', List.getElem?_set_self hi, by rw [← hmx]; exact y1⟩, y2⟩
         ·obtain ⟨y1, y2⟩ := x2 he (by simpa [under] using hfl)
          exact ⟨⟨hmg, x', List.getElem?_set_self hi, by rw [← hmx]; exact y1⟩, y2⟩
        ·obtain ⟨_, _, _, hgp⟩ := canGet_getP q hcg'
         have hfr := locv_frame (w' := w') (base := some (b', off' + j * e'.size)) q (hel j z hz) (hsame j hj) ⟨Unit, (), fun _ _ _ => some (), by rw [hgp]⟩
         rw [hfr]
         have hcg2 : canGet (.sl e') (List.set d i x') m (.idx j :: q) := ⟨hmg, z, by rw [List.getElem?_set_ne (fun h => hj h.symm)]; exact hz, hcg'⟩
         exact ⟨fun _ => ⟨hcg2, ccs, hlc⟩, fun _ _ => ⟨hcg2, hlc⟩⟩
       | fst => simp [K.at] at hk'
       | snd => simp [K.at] at hk'
   | _ => simp [getP] at hg
theorem Contract.soften {P : Program} {Γ : Glb} {f : FuncId} {q : Ctr} {e : K} (hpl : e.plain = true) (h : Contract P Γ f q) {rw : List Nat} {G : CallIn → Tre CallOut}
  (hG : ∀ ci co, (G ci).run some = some co → ∃ (p : Path) (l : List AV) (m0 : Mask) (x : Root) (d d1 : List e.den) (d2 : x.k.den) (m2 : Mask) (av0 : AV),
   ci = ⟨.ref (0, 0) p :: l, [x]⟩ ∧ x.k.plain = true ∧ (∀ a ∈ l, (∃ z k d, a = .imm z k d) ∨ ∃ g, a = .fn g []) ∧ ((∃ k r, av0 = .imm true k r) ∨ av0 = .tnil) ∧ getP x.k x.d x.m p (fun k d m => some ((⟨k, d⟩ : Σ k : K, k.den), m)) = some (⟨.sl e, d⟩, m0) ∧
   setP x.k x.d x.m p (.sl e) d1 m0 (fun d m => some (d, m)) = some (d2, m2) ∧ (q.G ⟨.ref (0, 0) [] :: l, [⟨false, .sl e, m0, d⟩]⟩).run some = some ⟨av0, [⟨false, .sl e, m0, d1⟩], []⟩ ∧
   co = ⟨av0, [⟨x.mem, x.k, m2, d2⟩], []⟩) : Contract P Γ f ⟨rw, G, true⟩ := by
 intro w C ci co vals hM hptr hsz hvals hgl hrun
 obtain ⟨p, l, m0, x, d, d1, d2, m2, av0, rfl, hxp, hl, hres, hget, hset, hin, rfl⟩ := hG ci co hrun
 have hx : rsIn [x] (par 0) = some x := rfl
 have hone : ∀ {y : Root} {q : RName} {z : Root}, rsIn [y] q = some z → q = par 0 ∧ z = y := by
  rintro y ⟨a, b⟩ z hz
  match a, b, hz with
  | 0, 0, hz => exact ⟨rfl, (Option.some.inj hz).symm⟩
  | 0, b + 1, hz => cases hz
  | a + 1, _, hz => cases hz
 obtain ⟨G0, he, hG0, hmem⟩ := hM.ok _ _ hx
 obtain ⟨v, b1, Gi, g1, g2, g3, g4⟩ := put_sound (fun b hb => hM.ro b hb) p (base := baseOf C (par 0) x) he (fun b hb => by have := hM.apart _ _ b hx (hG0 b hb); exact ⟨this.2.2, this.1, this.2.1⟩) hget
 obtain ⟨v0, hv0⟩ : ∃ v, vals[0]? = some v := ⟨_, Array.getElem?_eq_getElem (by rw [hsz]; simp)⟩
 have ha0 := hvals 0 v0 _ hv0 rfl
 obtain ⟨hA, hcl⟩ := ha0.cell (by simp) rfl (by simp) (by simp)
 have hvv : v0 = v := by
  obtain ⟨v', h1, h2⟩ := hA
  simp only [List.cons.injEq, and_true] at h1
  subst h1
  obtain ⟨_, _, _, _, h3⟩ := h2 x hx
  rw [g1] at h3
  simp only [Option.some.injEq, Prod.mk.injEq, List.cons.injEq, and_true] at h3
  exact h3.1.symm
 subst hvv
 have hGiF : Sub Gi (C.F (par 0)) := g3.trans hG0
 let C1 : Ctx := ⟨C.θ, fun _ => [v0], fun _ => Gi, C.Z, C.S⟩
 have hM1 : Mem w C1 (rsIn [⟨false, .sl e, m0, d⟩]) := by
  refine ⟨fun q y hy => ?_, fun q q' y y' hy hy' hne => ?_, fun q y b hy hb => hM.apart _ _ b hx (hGiF b hb), hM.ro, fun q y hy p' hp' => ?_⟩
  ·obtain ⟨rfl, rfl⟩ := hone hy
   exact ⟨Gi, g2, .refl _, fun h => by cases h⟩
  ·obtain ⟨rfl, _⟩ := hone hy
   obtain ⟨rfl, _⟩ := hone hy'
   exact absurd rfl hne
  ·obtain ⟨rfl, rfl⟩ := hone hy
   have : ptrsOf (.sl e) d = [] := ptrsOf_plain (k := .sl e) d hpl
   rw [this] at hp'
   cases hp'
 have hcall := h w C1 ⟨.ref (0, 0) [] :: l, [⟨false, .sl e, m0, d⟩]⟩ _ vals hM1 (fun y hy p' hp' => by
   simp only [List.mem_singleton] at hy
   subst hy
   have : ptrsOf (.sl e) d = [] := ptrsOf_plain (k := .sl e) d hpl
   rw [this] at hp'
   cases hp') hsz (fun i v a hv ha => by
   cases i with
   | zero =>
    simp only [List.getElem?_cons_zero, Option.some.injEq] at ha
    subst ha
    rw [hv0] at hv
    cases hv
    refine .inl (.inr (.inr ⟨rfl, ⟨v0, rfl, fun y hy => ?_⟩, hcl⟩))
    obtain ⟨_, rfl⟩ := hone hy
    exact ⟨e, _, rfl, trivial, rfl⟩
   | succ i =>
    have ha' : l[i]? = some a := by simpa using ha
    have hva := hvals (i + 1) v a hv (by simpa using ha')
    rcases hl a (List.mem_of_getElem? ha') with ⟨z, k', d', rfl⟩ | ⟨g, rfl⟩
    ·rcases hva with h1 | ⟨vs, _, h2⟩
     ·refine .inl ?_
      rcases h1 with h1 | ⟨h1, vs, h2, h3⟩ | ⟨h1, h2, h3⟩
      ·cases h1
      ·exact .inr (.inl ⟨h1, vs, h2, h3⟩)
      ·exact .inr (.inr ⟨h1, h2, h3⟩)
     ·exact h2.elim
    rcases hva with h1 | ⟨vs, _, h2⟩
    ·refine .inl ?_
     rcases h1 with h1 | ⟨h1, vs, h2, h3⟩ | ⟨h1, h2, h3⟩
     ·cases h1
     ·cases h1
     ·exact .inr (.inr ⟨h1, ⟨h2.1, fun q hq => by cases hq⟩, h3⟩)
    ·exact h2.elim) hgl hin
 refine hcall.mono fun e' w' hp => ?_
 cases e' with
 | panicked _ => exact hp
 | outgrown => exact hp
 | returned v' =>
 obtain ⟨C1', Po, _⟩ := hp
 have hmw : ∀ b, mayWrite C1 [⟨false, .sl e, m0, d⟩] b → Gi b := fun b ⟨_, _, _, h⟩ => h
 have hmwi : ∀ b, Gi b → mayWrite C [x] b := fun b hb => ⟨0, x, rfl, hGiF b hb⟩
 have hy1 : rsOut ⟨av0, [⟨false, .sl e, m0, d1⟩], []⟩ (par 0) = some ⟨false, .sl e, m0, d1⟩ := rfl
 obtain ⟨G1, e1, e2, _⟩ := Po.mem.ok _ _ hy1
 have hρ1 : C1'.ρ (par 0) = [v0] := Po.ρ 0 ⟨false, .sl e, m0, d1⟩ rfl rfl
 have hfoot : ∀ b, C1'.F (par 0) b → Gi b ∨ w.heap.size ≤ b := fun b hb => (Po.foot _ _ b hy1 hb).elim .inr fun h => .inl (hmw b h)
 have hsame : ∀ b, b < w.heap.size → ¬ Gi b → w'.heap[b]? = w.heap[b]? := fun b hb hg => Po.kept.block b hb fun h => hg (hmw b h)
 have hS : C1'.S = C.S := Po.S
 have hfl : Enc w' C.θ C1'.Z C.S (.sl e) m0 d1 [v0] G1 := by
  have e1' : Enc w' C1'.θ C1'.Z C1'.S (.sl e) m0 d1 (C1'.ρ (par 0)) G1 := e1
  rw [hρ1, hS] at e1'
  exact e1'.mono (.refl _) (.refl _) (.refl _) (fun _ _ => rfl) (fun p hp => by rw [ptrsOf_plain (k := .sl e) d1 hpl] at hp; cases hp)
 obtain ⟨k1, k2⟩ := g4 w' C1'.Z G1 d1 d2 m2 Po.Z hsame (fun b hb => hfoot b (e2 b hb)) hfl hset
 let C' : Ctx := ⟨C.θ, C.ρ, fun q b => (C.F q b ∧ ¬ Gi b) ∨ C1'.F (par 0) b, C1'.Z, C.S⟩
 have hout : ∀ {q : RName} {z : Root}, rsOut ⟨av0, [⟨x.mem, x.k, m2, d2⟩], []⟩ q = some z → q = par 0 ∧ z = ⟨x.mem, x.k, m2, d2⟩ := by
  rintro ⟨a, b⟩ z hz
  match a, b, hz with
  | 0, 0, hz => exact ⟨rfl, (Option.some.inj hz).symm⟩
  | 0, b + 1, hz => cases hz
  | 1, b, hz => cases hz
  | a + 2, _, hz => cases hz
 have hlt : ∀ b, C.F (par 0) b → b < w.heap.size ∧ ¬ C.Z b ∧ ¬ C.S b := fun b hb => by have := hM.apart _ _ b hx hb; exact ⟨this.2.2, this.1, this.2.1⟩
 refine ⟨C', ⟨Po.Z, rfl, fun _ => rfl, ⟨fun q z hz => ?_, fun q q' z z' hz hz' hne => ?_, fun q z b hz hb => ?_, fun b hb => ?_, fun q z hz p' hp' => ?_⟩, ?_, fun i z hz hm => rfl, ?_, fun q z b hz hb => ?_, fun b hb => ?_⟩, fun _ p' l' x' ha hx' => ?_⟩
 ·obtain ⟨rfl, rfl⟩ := hout hz
  refine ⟨_, k1, ?_, fun hm => ?_⟩
  ·rintro b (hb | hb)
   ·exact .inl ⟨hG0 b hb.1, hb.2⟩
   ·exact .inr (e2 b hb)
  ·obtain ⟨m1, m3, T, m4⟩ := hmem hm
   have hng : ¬ Gi (C.θ (par 0)) := fun hg => m1 (g3 _ hg)
   refine ⟨?_, .inl ⟨m3, hng⟩, T, ?_⟩
   ·rintro (hb | hb)
    ·exact m1 hb.1
    ·rcases hfoot _ (e2 _ hb) with hb | hb
     ·exact hng hb
     ·have h8 := (hlt _ m3).1
      have hb : w.heap.size ≤ C.θ (par 0) := hb
      omega
   ·show w'.heap[C.θ (par 0)]? = _
    rw [hsame _ (hlt _ m3).1 hng]
    exact m4
 ·obtain ⟨rfl, _⟩ := hout hz
  obtain ⟨rfl, _⟩ := hout hz'
  exact absurd rfl hne
 ·obtain ⟨rfl, _⟩ := hout hz
  rcases hb with ⟨hb, hg⟩ | hb
  ·obtain ⟨h1, h2, h3⟩ := hlt b hb
   refine ⟨fun hz2 => ?_, h3, Nat.lt_of_lt_of_le h1 Po.kept.size⟩
   rcases Po.zn b hz2 with h | h | h
   ·exact h2 h
   ·omega
   ·exact hg (hmw b h)
  ·have := Po.mem.apart _ _ b hy1 hb
   rw [hS] at this
   exact this
 ·have := Po.mem.ro b
  rw [hS] at this
  exact this hb
 ·obtain ⟨rfl, rfl⟩ := hout hz
  rw [ptrsOf_plain d2 hxp] at hp'
  cases hp'
 ·have hv := Po.val
  rcases hres with ⟨k, r, rfl⟩ | rfl
  ·have conv : ∀ vs, AVC w' C1' (rsOut ⟨.imm true k r, [⟨false, .sl e, m0, d1⟩], []⟩) (.imm true k r) vs → AVC w' C' (rsOut ⟨.imm true k r, [⟨x.mem, x.k, m2, d2⟩], []⟩) (.imm true k r) vs := fun vs h => by
    have h2 : Enc w' C1'.θ C1'.Z C1'.S k (.imm true) r vs noB := h.2
    rw [hS] at h2
    exact ⟨h.1, h2.mono (.refl _) (.refl _) (.refl _) (fun _ _ => rfl) (fun p hp => by rw [ptrsOf_plain r h.1] at hp; cases hp)⟩
   rcases hv with h1 | ⟨vs, _, h2⟩
   ·rcases h1 with h1 | ⟨h1, vs, h2, h3⟩ | ⟨h1, h2, h3⟩
    ·cases h1
    ·exact .inl (.inr (.inl ⟨h1, vs, h2, conv vs h3⟩))
    ·exact .inl (.inr (.inr ⟨h1, conv _ h2, h3⟩))
   ·exact h2.elim
  ·rcases hv with h1 | ⟨vs, h1, h2⟩
   ·rcases h1 with h1 | ⟨h1, vs, h2, h3⟩ | ⟨h1, h2, h3⟩
    ·cases h1
    ·exact h3.elim
    ·exact h2.elim
   ·exact .inr ⟨vs, h1, h2⟩
 ·exact ⟨Po.kept.os, Po.kept.tape, Po.kept.output, Po.kept.size, fun b hb hm => Po.kept.block b hb fun h => hm (hmwi b (hmw b h))⟩
 ·obtain ⟨rfl, _⟩ := hout hz
  rcases hb with ⟨hb, _⟩ | hb
  ·exact .inr ⟨0, x, rfl, hb⟩
  ·rcases hfoot b hb with hb | hb
   ·exact .inr (hmwi b hb)
   ·exact .inl hb
 ·rcases Po.zn b hb with h | h | h
  ·exact .inl h
  ·exact .inr (.inl h)
  ·exact .inr (.inr (hmwi b (hmw b h)))
 ·simp only [List.cons.injEq, AV.ref.injEq, and_true] at ha hx'
  obtain ⟨⟨_, rfl⟩, _⟩ := ha
  subst hx'
  exact ⟨d2, m2, e, rfl, k2⟩
theorem Contract.vacuous {P : Program} {Γ : Glb} {f : FuncId} {q : Ctr} (h : ∀ ci co, ¬ (q.G ci).run some = some co) : Contract P Γ f q :=
 fun _ _ ci co _ _ _ _ _ _ hG => (h ci co hG).elim
theorem mat_none_absurd {α : Type} {k : α → Tre CallOut} {co : CallOut} {p : Prop} (h : (Tre.mat none k).run some = some co) : p := by cases h
end Go.Abs

namespace Go.Abs
open Go.Sort
def sortM (zs : List Int) : List Int := zs.mergeSort fun x y => decide (x ≤ y)
def insI (x : Int) : List Int → List Int
 | [] => [x]
 | y :: l => cond (decide (x ≤ y)) (x :: y :: l) (y :: insI x l)
def sortI : List Int → List Int
 | [] => []
 | x :: l => insI x (sortI l)
theorem insI_perm (x : Int) : ∀ l : List Int, (insI x l).Perm (x :: l) := by
 intro l
 induction l with
 | nil => exact .refl _
 | cons y l ih =>
  simp only [insI]
  cases decide (x ≤ y) with
  | true => exact .refl _
  | false => exact (List.Perm.cons y ih).trans (.swap x y l)
theorem sortI_perm : ∀ l : List Int, (sortI l).Perm l := by
 intro l
 induction l with
 | nil => exact .refl _
 | cons x l ih => exact (insI_perm x _).trans (.cons x ih)
theorem insI_sorted (x : Int) : ∀ l : List Int, l.Pairwise (· ≤ ·) → (insI x l).Pairwise (· ≤ ·) := by
 intro l
 induction l with
 | nil => intro _; simp [insI]
 | cons y l ih =>
  intro h
  obtain ⟨h1, h2⟩ := List.pairwise_cons.1 h
  simp only [insI]
  by_cases hx : x ≤ y
  ·rw [decide_eq_true hx, cond_true]
   refine List.pairwise_cons.2 ⟨fun z hz => ?_, h⟩
   rcases List.mem_cons.1 hz with rfl | hz
   ·exact hx
   ·exact Int.le_trans hx (h1 z hz)
  ·rw [decide_eq_false hx, cond_false]
   refine List.pairwise_cons.2 ⟨fun z hz => ?_, ih h2⟩
   rcases List.mem_cons.1 ((insI_perm x l).mem_iff.1 hz) with rfl | hz
   ·omega
   ·exact h1 z hz
theorem sortI_sorted : ∀ l : List Int, (sortI l).Pairwise (· ≤ ·) := by
 intro l
 induction l with
 | nil => exact .nil
 | cons x l ih => exact insI_sorted x _ ih
theorem sortM_eq (zs : List Int) : sortM zs = sortI zs := by
 have h1 : (sortM zs).Pairwise (· ≤ ·) := by
  have := List.pairwise_mergeSort (le := fun x y : Int => decide (x ≤ y)) (by intro a b c; simp; omega) (by intro a b; simp; omega) zs
  exact this.imp fun h => of_decide_eq_true h
 exact List.Perm.eq_of_pairwise (fun a b _ _ h k => Int.le_antisymm h k) h1 (sortI_sorted zs) ((List.mergeSort_perm zs _).trans (sortI_perm zs).symm)
theorem sortI_len (zs : List Int) : (sortI zs).length = zs.length := (sortI_perm zs).length_eq
structure RowOp where
 g : List Int → List Int
 len : ∀ d, (g d).length = d.length
 cut : Option (List Int → Nat)
 le : ∀ n, cut = some n → ∀ d, n d ≤ d.length
def RowOp.res (o : RowOp) (d : List Int) : AV := match o.cut with
 | none => .tnil
 | some n => .slc (0, 0) [] 0 (n d)
def RowOp.val (o : RowOp) (d : List Int) (a : Option Addr) (cap : Nat) : Value := match o.cut with
 | none => .tuple #[]
 | some n => .slice a (n d) cap
noncomputable def rowCtr (o : RowOp) (mb : Bool) : Ctr := ⟨[0], fun ci => asCons ci.args fun a l => asEnd l <| asRef (0, 0) [] a <| asCons ci.roots fun r l => asEnd l <| asRt mb (.sl (.int .i64)) r fun m d => asM .own m <|
 .ite (List.length d < 4611686018427387904) <| .ret ⟨o.res d, [⟨mb, .sl (.int .i64), .own, o.g d⟩], []⟩, false⟩
def RowWalk (P : Program) (f : FuncId) (o : RowOp) : Prop :=
 ∀ (blk off cap : Nat) (zs : List Int) (w : World), Holds (Value.int .i64) w blk off zs.toArray → blk < w.heap.size → zs.length < 4611686018427387904 → zs.length ≤ cap →
  Calls P f #[.slice (some ⟨blk, off, none⟩) zs.length cap] w fun e w' => e = .returned (o.val zs (some ⟨blk, off, none⟩) cap) ∧ ∃ n os, w' = grow (putRow (Value.int .i64) (Sort.ahead w n) blk off (o.g zs).toArray) os
def RowNone (P : Program) (f : FuncId) (o : RowOp) : Prop :=
 ∀ (a : Option Addr) (w : World), Calls P f #[.slice a 0 0] w fun e w' => e = .returned (o.val [] a 0) ∧ w' = w
theorem row_ok {o : RowOp} {mb : Bool} {P : Program} {Γ : Glb} {f : FuncId} (h : RowWalk P f o) (h0 : RowNone P f o) : Contract P Γ f (rowCtr o mb) := by
 intro w C ci co vals hM hptr hsz hvals _ hG
 obtain ⟨av, rs⟩ := ci
 simp only at hM hptr hsz hvals
 have g0 : (asCons av fun a l => asEnd l <| asRef (0, 0) [] a <| asCons rs fun r l => asEnd l <| asRt mb (.sl (.int .i64)) r fun m d => asM .own m <|
  .ite (List.length d < 4611686018427387904) <| (.ret ⟨o.res d, [⟨mb, .sl (.int .i64), .own, o.g d⟩], []⟩ : Tre CallOut)).run some = some co := hG
 clear hG
 obtain ⟨a, l, e1, g1⟩ := asCons_spec g0
 obtain ⟨e2, g2⟩ := asEnd_spec g1
 obtain ⟨e3, g3⟩ := asRef_spec g2
 obtain ⟨x, l', e4, g4⟩ := asCons_spec g3
 obtain ⟨e5, g5⟩ := asEnd_spec g4
 obtain ⟨m, d, e6, g6⟩ := asRt_spec g5
 obtain ⟨e7, hG⟩ := asM_spec g6
 clear g0 g1 g2 g3 g4 g5 g6
 subst e2 e3 e1 e5 e7 e6 e4
 rw [Tre.run_ite] at hG
 split at hG
 case isFalse => cases hG
 case isTrue hlen =>
 cases hG
 have hx : rsIn [⟨mb, .sl (.int .i64), .own, d⟩] (par 0) = some ⟨mb, .sl (.int .i64), .own, d⟩ := rfl
 have hone : ∀ {y : Root} {q : RName} {z : Root}, rsOut ⟨o.res d, [y], []⟩ q = some z → q = par 0 ∧ z = y := by
  rintro y ⟨a, b⟩ z hz
  match a, b, hz with
  | 0, 0, hz => exact ⟨rfl, (Option.some.inj hz).symm⟩
  | 0, b + 1, hz => cases hz
  | 1, b, hz => cases hz
  | a + 2, _, hz => cases hz
 have hone' : ∀ {ra : AV} {q : RName} {z : Root} {y : Root}, rsOut ⟨ra, [y], []⟩ q = some z → q = par 0 ∧ z = y := by
  rintro ra ⟨a, b⟩ z y hz
  match a, b, hz with
  | 0, 0, hz => exact ⟨rfl, (Option.some.inj hz).symm⟩
  | 0, b + 1, hz => cases hz
  | 1, b, hz => cases hz
  | a + 2, _, hz => cases hz
 obtain ⟨G0, he, hG0, hmem⟩ := hM.ok _ _ hx
 have he : Enc w C.θ C.Z C.S (.sl (.int .i64)) .own d (C.ρ (par 0)) G0 := he
 obtain ⟨v0, hv0⟩ : ∃ v, vals[0]? = some v := ⟨_, Array.getElem?_eq_getElem (by rw [hsz]; simp)⟩
 have ha0 := hvals 0 v0 _ hv0 rfl
 obtain ⟨hA, hcl⟩ := ha0.cell (by simp) rfl (by simp) (by simp)
 have hvv : C.ρ (par 0) = [v0] := by
  obtain ⟨v', h1, h2⟩ := hA
  simp only [List.cons.injEq, and_true] at h1
  subst h1
  obtain ⟨_, _, _, _, h3⟩ := h2 _ hx
  rw [locv_nil] at h3
  simp only [Option.some.injEq, Prod.mk.injEq] at h3
  exact h3.1
 have hvals1 : vals = #[v0] := by
  apply Array.ext
  ·exact hsz
  ·intro k hk1 hk2
   have hk : k = 0 := by have : k < 1 := hk2; omega
   subst hk
   rw [Array.getElem?_eq_getElem (by omega)] at hv0
   exact Option.some.inj hv0
 have hlt : ∀ b, C.F (par 0) b → b < w.heap.size ∧ ¬ C.Z b ∧ ¬ C.S b := fun b hb => by have := hM.apart _ _ b hx hb; exact ⟨this.2.2, this.1, this.2.1⟩
 have hval : ∀ (w' : World) (v : Value), (∃ a cap, v0 = .slice a (List.length d) cap ∧ List.length d ≤ cap ∧ v = o.val d a cap) → VRel w' C (rsOut ⟨o.res d, [⟨mb, .sl (.int .i64), .own, o.g d⟩], []⟩) v (o.res d) := by
  rintro w' v ⟨a, cap, hv0, hcap, rfl⟩
  cases hcut : o.cut with
  | none =>
   unfold RowOp.res RowOp.val
   rw [hcut]
   exact .inr ⟨[], rfl, rfl⟩
  | some n =>
   have hn := o.le n hcut d
   have he : o.res d = .slc (0, 0) [] 0 (n d) := by unfold RowOp.res; rw [hcut]
   have hv : o.val d a cap = .slice a (n d) cap := by unfold RowOp.val; rw [hcut]
   rw [hv, he]
   refine VRel.mk ⟨_, v0, rfl, fun y hy => ?_⟩ rfl rfl
   obtain ⟨_, rfl⟩ := hone' hy
   refine ⟨.int .i64, _, rfl, trivial, by rw [locv_nil]; show some (C.ρ (par 0), _) = _; rw [hvv], a, List.length d, cap, a, hv0, by omega, hcap, rfl, fun _ => ?_⟩
   cases a with
   | none => rfl
   | some a => simp [Addr.add]
 -- memory behind the call
 have post : ∀ (w' : World) (v : Value), (∃ a cap, v0 = .slice a (List.length d) cap ∧ List.length d ≤ cap ∧ v = o.val d a cap) → w'.os = w.os → w'.tape = w.tape → w'.output = w.output → w.heap.size ≤ w'.heap.size → (∀ b, b < w.heap.size → ¬ G0 b → w'.heap[b]? = w.heap[b]?) →
   Enc w' C.θ C.Z C.S (.sl (.int .i64)) .own (o.g d) [v0] G0 → ∃ C', CallPost w C ⟨[.ref (0, 0) []], [⟨mb, .sl (.int .i64), .own, d⟩]⟩ ⟨o.res d, [⟨mb, .sl (.int .i64), .own, o.g d⟩], []⟩ v w' C' ∧ (false = true → SoftPost w C ⟨[.ref (0, 0) []], [⟨mb, .sl (.int .i64), .own, d⟩]⟩ ⟨o.res d, [⟨mb, .sl (.int .i64), .own, o.g d⟩], []⟩ w' C') := by
  intro w' v hv0 q1 q2 q3 q4 q5 hE
  refine ⟨C, ⟨.refl _, rfl, fun _ => rfl, ⟨fun q z hz => ?_, fun q q' z z' hz hz' hne => ?_, fun q z b hz hb => ?_, fun b hb => Nat.lt_of_lt_of_le (hM.ro b hb) q4, fun q z hz p hp => ?_⟩, hval w' v hv0, fun _ _ _ _ => rfl, ⟨q1, q2, q3, q4, fun b hb hn => q5 b hb fun hg => hn ⟨0, _, rfl, hG0 b hg⟩⟩, fun q z b hz hb => ?_, fun b hb => .inl hb⟩, fun h => nomatch h⟩
  ·obtain ⟨rfl, rfl⟩ := hone hz
   refine ⟨G0, by rw [hvv]; exact hE, hG0, fun h => ?_⟩
   obtain ⟨m1, m2, T, m3⟩ := hmem h
   have hθ : C.θ (par 0) < w.heap.size := by
    rcases Nat.lt_or_ge (C.θ (par 0)) w.heap.size with h | h
    ·exact h
    ·rw [Array.getElem?_eq_none h] at m3; cases m3
   exact ⟨m1, m2, T, by rw [q5 _ hθ m1]; exact m3⟩
  ·obtain ⟨rfl, _⟩ := hone hz
   obtain ⟨rfl, _⟩ := hone hz'
   exact absurd rfl hne
  ·obtain ⟨rfl, _⟩ := hone hz
   obtain ⟨h1, h2, h3⟩ := hlt b hb
   exact ⟨h2, h3, Nat.lt_of_lt_of_le h1 q4⟩
  ·obtain ⟨rfl, rfl⟩ := hone hz
   have hp' : p ∈ ptrsOf (.sl (.int .i64)) (o.g d) := hp
   rw [ptrsOf_plain (k := .sl (.int .i64)) (o.g d) rfl] at hp'
   cases hp'
  ·obtain ⟨rfl, _⟩ := hone hz
   exact .inr ⟨0, _, rfl, hb⟩
 rw [hvv] at he
 rw [hvals1]
 rcases he with ⟨hg, _⟩ | ⟨_, hd, a, hv⟩ | ⟨_, b, off, cap, c, T, fz, hv, hc, hle, hs, hok, Gs, hGs, hdj, hel⟩
 ·cases hg
 ·simp only [List.cons.injEq, and_true] at hv
  subst hv
  refine (h0 a w).mono fun e' w' he => ?_
  obtain ⟨rfl, rfl⟩ := he
  refine post w' _ ⟨a, 0, by rw [hd]; rfl, by rw [hd]; exact Nat.le_refl _, by rw [hd]⟩ rfl rfl rfl (Nat.le_refl _) (fun _ _ _ => rfl) (.inr (.inl ⟨by simp, ?_, a, rfl⟩))
  exact List.eq_nil_of_length_eq_zero (by rw [o.len, hd]; rfl)
 ·simp only [List.cons.injEq, and_true] at hv
  subst hv
  have hGb : G0 b ∧ fz = (0, 0) := hok
  obtain ⟨hGb, rfl⟩ := hGb
  have hbl := (hlt b (hG0 b hGb)).1
  have hs1 : off + cap ≤ c.size := by simpa [K.size] using hs
  have hH : Holds (Value.int .i64) w b off (List.toArray d) := by
   intro j hj
   have hj' : j < List.length d := by simpa using hj
   have hx := hel j _ (List.getElem?_eq_getElem hj')
   have hx : sub c (off + j * 1) 1 = [.int .i64 d[j]] := hx
   rw [Nat.mul_one] at hx
   have hcj : c[off + j]? = some (.int .i64 d[j]) := by
    have := congrArg (·[0]?) hx
    simp only [sub, List.getElem?_take_of_lt (show 0 < 1 by omega), List.getElem?_drop, Nat.add_zero, List.getElem?_cons_zero, Array.getElem?_toList] at this
    exact this
   refine ⟨?_, by simp [World.frozen?, hc]⟩
   simp only [World.cell?, hc]
   simp only [Option.isSome_none, Bool.false_eq_true, if_false]
   rw [hcj]
   simp [hj']
  refine (h b off cap d w hH hbl hlen hle).mono fun e' w' he => ?_
  obtain ⟨rfl, n, os, rfl⟩ := he
  have hb' : (grow (putRow (Value.int .i64) (Sort.ahead w n) b off (o.g d).toArray) os).heap[b]? = some (.cells (putCells (Value.int .i64) off (o.g d).toArray c) T (0, 0)) := by
   rw [heap_grow_old _ _ (by simpa [putRow, mapBlock, Sort.ahead] using hbl)]
   simp [putRow, mapBlock, Sort.ahead, Array.getElem?_modify, hc, onCells]
  refine post _ _ ⟨_, cap, rfl, hle, rfl⟩ rfl rfl rfl (by simp [grow, putRow, mapBlock, Sort.ahead]) (fun b2 hb2 hn => ?_) (.inr (.inr ⟨by simp, b, off, cap, _, T, (0, 0), by rw [o.len], hb', by rw [o.len]; exact hle, ?_, ⟨hGb, rfl⟩, fun _ => noB, fun _ => ⟨fun _ h => h.elim, fun h => h⟩, fun _ _ _ _ h => h.elim, fun i x hx => ?_⟩))
  ·rw [heap_grow_old _ _ (by simpa [putRow, mapBlock, Sort.ahead] using hb2)]
   have : b ≠ b2 := fun e => hn (by rw [← e]; exact hGb)
   simp [putRow, mapBlock, Sort.ahead, Array.getElem?_modify, this]
  ·simpa [putCells] using hs
  ·have hi : i < List.length d := by
    have := (List.getElem?_eq_some_iff.1 hx).1
    rwa [o.len] at this
   show sub _ (off + i * 1) 1 = [.int .i64 x]
   rw [Nat.mul_one]
   have hlt2 : off + i < c.size := by omega
   have hat : (putCells (Value.int .i64) off (o.g d).toArray c)[off + i]? = some (.int .i64 x) := by
    simp [putCells, hlt2, hi, o.len]
    exact (List.getElem?_eq_some_iff.1 hx).2
   unfold sub
   rw [List.drop_eq_getElem_cons (by simpa [putCells] using hlt2), List.take_succ_cons, List.take_zero]
   congr 1
   rw [← Array.getElem?_toList, List.getElem?_eq_getElem (by simpa [putCells] using hlt2)] at hat
   exact Option.some.inj hat
def sortOp : RowOp := ⟨sortI, sortI_len, none, fun _ h => by cases h⟩
noncomputable abbrev sortCtr (mb : Bool) : Ctr := rowCtr sortOp mb
def SortWalk (P : Program) (f : FuncId) : Prop :=
 ∀ (blk off cap : Nat) (zs : List Int) (w : World), Holds (Value.int .i64) w blk off zs.toArray → blk < w.heap.size → zs.length < 4611686018427387904 →
  Calls P f #[.slice (some ⟨blk, off, none⟩) zs.length cap] w fun e w' => e = .returned (.tuple #[]) ∧ ∃ n os, w' = grow (putRow (Value.int .i64) (Sort.ahead w n) blk off (sortM zs).toArray) os
def SortNone (P : Program) (f : FuncId) : Prop :=
 ∀ (a : Option Addr) (w : World), Calls P f #[.slice a 0 0] w fun e w' => e = .returned (.tuple #[]) ∧ w' = w
theorem sort_ok {mb : Bool} {P : Program} {Γ : Glb} {f : FuncId} (h : SortWalk P f) (h0 : SortNone P f) : Contract P Γ f (sortCtr mb) :=
 row_ok (o := sortOp) (fun blk off cap zs w h1 h2 h3 _ => by have := h blk off cap zs w h1 h2 h3; rw [sortM_eq] at this; exact this) h0
end Go.Abs

namespace Go.Proofs
open Go.Shelf
def Try.sortL_ren : Go.Shelf.Ren := ⟨fun | 53 => 130 | 64 => 119 | 63 => 163 | 78 => 156 | 79 => 157 | 70 => 171 | 71 => 172 | 72 => 173 | 73 => 174 | 74 => 175 | 75 => 176 | 59 => 177 | 76 => 178 | 77 => 179 | 88 => 181 | 89 => 167 | 90 => 168 | 91 => 182 | 92 => 183 | 68 => 158 | 96 => 184 | n => n, fun | 22 => 38 | 23 => 2 | 3 => 3 | 51 => 46 | 0 => 0 | 67 => 137 | 69 => 120 | 4 => 4 | 61 => 130 | 60 => 129 | 44 => 134 | 5 => 5 | 9 => 9 | 75 => 143 | 79 => 147 | 83 => 154 | 84 => 155 | n => n, fun | n => n⟩
theorem Try.sortL : Go.Proofs.SlLaysN.n53 Try.prog Try.sortL_ren := {
 mixed := by kernel_rfl
 f53 := ⟨Try.f130.name, by decide, Try.func130.trans (congrArg some (by kernel_rfl))⟩
 f59 := ⟨Try.f177.name, by decide, Try.func177.trans (congrArg some (by kernel_rfl))⟩
 f63 := ⟨Try.f163.name, by decide, Try.func163.trans (congrArg some (by kernel_rfl))⟩
 f64 := Try.func119.trans (congrArg some (by kernel_rfl))
 f68 := ⟨Try.f158.name, by decide, Try.func158.trans (congrArg some (by kernel_rfl))⟩
 f70 := ⟨Try.f171.name, by decide, Try.func171.trans (congrArg some (by kernel_rfl))⟩
 f71 := ⟨Try.f172.name, by decide, Try.func172.trans (congrArg some (by kernel_rfl))⟩
 f72 := ⟨Try.f173.name, by decide, Try.func173.trans (congrArg some (by kernel_rfl))⟩
 f73 := ⟨Try.f174.name, by decide, Try.func174.trans (congrArg some (by kernel_rfl))⟩
 f74 := ⟨Try.f175.name, by decide, Try.func175.trans (congrArg some (by kernel_rfl))⟩
 f75 := ⟨Try.f176.name, by decide, Try.func176.trans (congrArg some (by kernel_rfl))⟩
 f76 := ⟨Try.f178.name, by decide, Try.func178.trans (congrArg some (by kernel_rfl))⟩
 f77 := ⟨Try.f179.name, by decide, Try.func179.trans (congrArg some (by kernel_rfl))⟩
 f78 := Try.func156.trans (congrArg some (by kernel_rfl))
 f79 := Try.func157.trans (congrArg some (by kernel_rfl))
 f88 := ⟨Try.f181.name, by decide, Try.func181.trans (congrArg some (by kernel_rfl))⟩
 f89 := Try.func167.trans (congrArg some (by kernel_rfl))
 f90 := Try.func168.trans (congrArg some (by kernel_rfl))
 f91 := ⟨Try.f182.name, by decide, Try.func182.trans (congrArg some (by kernel_rfl))⟩
 f92 := ⟨Try.f183.name, by decide, Try.func183.trans (congrArg some (by kernel_rfl))⟩
 f96 := ⟨Try.f184.name, by decide, Try.func184.trans (congrArg some (by kernel_rfl))⟩
 t0 := Try.underlying0
 a0 := Try.isAgg0
 z0 := Try.sizeOf0
 v0 := Try.zeroValue0
 t3 := Try.underlying3
 a3 := Try.isAgg3
 z3 := Try.sizeOf3
 v3 := Try.zeroValue3
 t4 := Try.underlying4
 a4 := Try.isAgg4
 z4 := Try.sizeOf4
 v4 := Try.zeroValue4
 t5 := Try.underlying5
 a5 := Try.isAgg5
 z5 := Try.sizeOf5
 v5 := Try.zeroValue5
 t9 := Try.underlying9
 a9 := Try.isAgg9
 z9 := Try.sizeOf9
 v9 := Try.zeroValue9
 t22 := Try.underlying38
 a22 := Try.isAgg38
 z22 := Try.sizeOf38
 v22 := Try.zeroValue38
 t23 := Try.underlying2
 a23 := Try.isAgg2
 z23 := Try.sizeOf2
 v23 := Try.zeroValue2
 t44 := Try.underlying134
 a44 := Try.isAgg134
 z44 := Try.sizeOf134
 v44 := Try.zeroValue134
 t51 := Try.underlying46
 a51 := Try.isAgg46
 z51 := Try.sizeOf46
 v51 := Try.zeroValue46
 t60 := Try.underlying129
 a60 := Try.isAgg129
 z60 := Try.sizeOf129
 v60 := Try.zeroValue129
 t61 := Try.underlying130
 a61 := Try.isAgg130
 z61 := Try.sizeOf130
 v61 := Try.zeroValue130
 t67 := Try.underlying137
 a67 := Try.isAgg137
 z67 := Try.sizeOf137
 v67 := Try.zeroValue137
 t69 := Try.underlying120
 a69 := Try.isAgg120
 z69 := Try.sizeOf120
 v69 := Try.zeroValue120
 t75 := Try.underlying143
 a75 := Try.isAgg143
 z75 := Try.sizeOf143
 v75 := Try.zeroValue143
 t79 := Try.underlying147
 a79 := Try.isAgg147
 z79 := Try.sizeOf147
 v79 := Try.zeroValue147
 t83 := Try.underlying154
 a83 := Try.isAgg154
 z83 := Try.sizeOf154
 v83 := Try.zeroValue154
 t84 := Try.underlying155
 a84 := Try.isAgg155
 z84 := Try.sizeOf155
 v84 := Try.zeroValue155 }
end Go.Proofs

namespace Go.Proofs.Ythnkanacjhlhhaa
open Go Go.Abs Go.Proofs
abbrev kField : K := (.pair (.int .i64) (.pair (.int .i64) .unit))
abbrev kMatrix : K := (.pair (.int .i64) (.pair (.sl (.int .i64)) .unit))
abbrev kL00Src : K := (.pair (.sl (.int .u8)) (.pair (.int .i64) (.pair (.int .u64) .unit)))
def tau : List (Nat × TI) := [(40, ⟨kMatrix, 32, 0⟩), (26, ⟨(.sl kMatrix), 24, 40⟩), (38, ⟨(.sl (.int .i64)), 24, 2⟩), (2, ⟨(.int .i64), 8, 0⟩), (3, ⟨(.int .i64), 8, 0⟩), (122, ⟨kL00Src, 40, 0⟩), (143, ⟨(.int .u64), 8, 0⟩), (5, ⟨(.int .u8), 1, 0⟩), (34, ⟨(.sl (.int .u8)), 24, 5⟩), (120, ⟨(.int .u64), 8, 0⟩), (118, ⟨.fn, 8, 0⟩), (46, ⟨(.int .u64), 8, 0⟩), (9, ⟨.str, 16, 0⟩), (1, ⟨.fn, 8, 0⟩), (4, ⟨.bool, 1, 0⟩), (12, ⟨(.int .u64), 8, 0⟩), (13, ⟨(.pair .str (.pair (.int .u64) .unit)), 24, 0⟩), (21, ⟨(.int .i32), 4, 0⟩), (22, ⟨(.sl kMatrix), 24, 57⟩), (23, ⟨.fn, 8, 0⟩), (25, ⟨.fn, 8, 0⟩), (27, ⟨.fn, 8, 0⟩), (28, ⟨.fn, 8, 0⟩), (29, ⟨.fn, 8, 0⟩), (31, ⟨.fn, 8, 0⟩), (32, ⟨.fn, 8, 0⟩), (33, ⟨.fn, 8, 0⟩), (35, ⟨.fn, 8, 0⟩), (36, ⟨.fn, 8, 0⟩), (37, ⟨.fn, 8, 0⟩), (39, ⟨kMatrix, 32, 0⟩), (41, ⟨.fn, 8, 0⟩), (42, ⟨.fn, 8, 0⟩), (43, ⟨.fn, 8, 0⟩), (45, ⟨.fn, 8, 0⟩), (47, ⟨.fn, 8, 0⟩), (48, ⟨.fn, 8, 0⟩), (49, ⟨.fn, 8, 0⟩), (50, ⟨.fn, 8, 0⟩), (51, ⟨.fn, 8, 0⟩), (52, ⟨.fn, 8, 0⟩), (54, ⟨.fn, 8, 0⟩), (55, ⟨.fn, 8, 0⟩), (56, ⟨.fn, 8, 0⟩), (57, ⟨kMatrix, 32, 0⟩), (58, ⟨.fn, 8, 0⟩), (59, ⟨.fn, 8, 0⟩), (60, ⟨.fn, 8, 0⟩), (61, ⟨.fn, 8, 0⟩), (62, ⟨.fn, 8, 0⟩), (63, ⟨.fn, 8, 0⟩), (64, ⟨.fn, 8, 0⟩), (65, ⟨kField, 16, 0⟩), (66, ⟨kField, 16, 0⟩), (68, ⟨.fn, 8, 0⟩), (69, ⟨.fn, 8, 0⟩), (70, ⟨(.sl (.sl (.int .i64))), 24, 38⟩), (71, ⟨.fn, 8, 0⟩), (72, ⟨.fn, 8, 0⟩), (73, ⟨.fn, 8, 0⟩), (74, ⟨.fn, 8, 0⟩), (75, ⟨.fn, 8, 0⟩), (76, ⟨.fn, 8, 0⟩), (77, ⟨.fn, 8, 0⟩), (78, ⟨.fn, 8, 0⟩), (79, ⟨.fn, 8, 0⟩), (80, ⟨.fn, 8, 0⟩), (81, ⟨.fn, 8, 0⟩), (82, ⟨.fn, 8, 0⟩), (83, ⟨.fn, 8, 0⟩), (84, ⟨.fn, 8, 0⟩), (85, ⟨.ptr, 8, 0⟩), (86, ⟨.fn, 8, 0⟩), (87, ⟨.fn, 8, 0⟩), (88, ⟨.ptr, 8, 0⟩), (89, ⟨.fn, 8, 0⟩), (90, ⟨.fn, 8, 0⟩), (91, ⟨.fn, 8, 0⟩), (92, ⟨.fn, 8, 0⟩), (93, ⟨.fn, 8, 0⟩), (94, ⟨.fn, 8, 0⟩), (95, ⟨.fn, 8, 0⟩), (96, ⟨.fn, 8, 0⟩), (97, ⟨.fn, 8, 0⟩), (98, ⟨.fn, 8, 0⟩), (99, ⟨.fn, 8, 0⟩), (100, ⟨.fn, 8, 0⟩), (101, ⟨(.sl (.int .i64)), 24, 3⟩), (102, ⟨.fn, 8, 0⟩), (103, ⟨.fn, 8, 0⟩), (104, ⟨.fn, 8, 0⟩), (105, ⟨(.sl kField), 24, 66⟩), (106, ⟨.fn, 8, 0⟩), (107, ⟨.fn, 8, 0⟩), (109, ⟨.fn, 8, 0⟩), (110, ⟨.fn, 8, 0⟩), (111, ⟨.fn, 8, 0⟩), (112, ⟨.fn, 8, 0⟩), (113, ⟨.fn, 8, 0⟩), (114, ⟨.fn, 8, 0⟩), (115, ⟨.fn, 8, 0⟩), (116, ⟨.fn, 8, 0⟩), (117, ⟨.fn, 8, 0⟩), (119, ⟨.fn, 8, 0⟩), (121, ⟨kL00Src, 40, 0⟩), (123, ⟨.fn, 8, 0⟩), (124, ⟨.fn, 8, 0⟩), (125, ⟨.fn, 8, 0⟩), (126, ⟨.fn, 8, 0⟩), (127, ⟨.fn, 8, 0⟩), (128, ⟨.fn, 8, 0⟩), (129, ⟨(.int .i64), 8, 0⟩), (131, ⟨.fn, 8, 0⟩), (132, ⟨.fn, 8, 0⟩), (133, ⟨.fn, 8, 0⟩), (135, ⟨.fn, 8, 0⟩), (136, ⟨.fn, 8, 0⟩), (137, ⟨(.int .u32), 4, 0⟩), (138, ⟨.fn, 8, 0⟩), (139, ⟨.fn, 8, 0⟩), (140, ⟨.fn, 8, 0⟩), (141, ⟨.fn, 8, 0⟩), (142, ⟨.fn, 8, 0⟩), (144, ⟨.fn, 8, 0⟩), (145, ⟨.fn, 8, 0⟩), (146, ⟨.fn, 8, 0⟩), (147, ⟨.ptr, 8, 0⟩), (148, ⟨.fn, 8, 0⟩), (149, ⟨.fn, 8, 0⟩), (150, ⟨.fn, 8, 0⟩), (151, ⟨.fn, 8, 0⟩), (152, ⟨.fn, 8, 0⟩), (153, ⟨.fn, 8, 0⟩), (154, ⟨.ptr, 8, 0⟩), (156, ⟨.fn, 8, 0⟩), (157, ⟨.fn, 8, 0⟩), (158, ⟨.fn, 8, 0⟩), (159, ⟨.fn, 8, 0⟩), (160, ⟨.fn, 8, 0⟩), (166, ⟨.fn, 8, 0⟩), (169, ⟨.fn, 8, 0⟩), (170, ⟨.ptr, 8, 0⟩)]
set_option maxRecDepth 100000 in
theorem tau_tys {E : List (Nat × Ctr)} {Z : List (Nat × List Frz)} : TysOK Try.prog ⟨tau, E, Z⟩ := tysOK_of (tysB_env (by kernel_rfl)) (by kernel_rfl)
theorem ent16 : Go.Abs.Enters Try.prog 16 := ⟨Try.f16, Try.func16, by kernel_rfl, by kernel_rfl⟩
theorem ent17 : Go.Abs.Enters Try.prog 17 := ⟨Try.f17, Try.func17, by kernel_rfl, by kernel_rfl⟩
theorem ent18 : Go.Abs.Enters Try.prog 18 := ⟨Try.f18, Try.func18, by kernel_rfl, by kernel_rfl⟩
theorem ent19 : Go.Abs.Enters Try.prog 19 := ⟨Try.f19, Try.func19, by kernel_rfl, by kernel_rfl⟩
theorem ent20 : Go.Abs.Enters Try.prog 20 := ⟨Try.f20, Try.func20, by kernel_rfl, by kernel_rfl⟩
theorem ent21 : Go.Abs.Enters Try.prog 21 := ⟨Try.f21, Try.func21, by kernel_rfl, by kernel_rfl⟩
theorem ent22 : Go.Abs.Enters Try.prog 22 := ⟨Try.f22, Try.func22, by kernel_rfl, by kernel_rfl⟩
theorem ent23 : Go.Abs.Enters Try.prog 23 := ⟨Try.f23, Try.func23, by kernel_rfl, by kernel_rfl⟩
theorem ent24 : Go.Abs.Enters Try.prog 24 := ⟨Try.f24, Try.func24, by kernel_rfl, by kernel_rfl⟩
theorem ent40 : Go.Abs.Enters Try.prog 40 := ⟨Try.f40, Try.func40, by kernel_rfl, by kernel_rfl⟩
theorem ent45 : Go.Abs.Enters Try.prog 45 := ⟨Try.f45, Try.func45, by kernel_rfl, by kernel_rfl⟩
theorem ent46 : Go.Abs.Enters Try.prog 46 := ⟨Try.f46, Try.func46, by kernel_rfl, by kernel_rfl⟩
theorem ent56 : Go.Abs.Enters Try.prog 56 := ⟨Try.f56, Try.func56, by kernel_rfl, by kernel_rfl⟩
theorem ent57 : Go.Abs.Enters Try.prog 57 := ⟨Try.f57, Try.func57, by kernel_rfl, by kernel_rfl⟩
theorem ent62 : Go.Abs.Enters Try.prog 62 := ⟨Try.f62, Try.func62, by kernel_rfl, by kernel_rfl⟩
theorem ent63 : Go.Abs.Enters Try.prog 63 := ⟨Try.f63, Try.func63, by kernel_rfl, by kernel_rfl⟩
theorem ent65 : Go.Abs.Enters Try.prog 65 := ⟨Try.f65, Try.func65, by kernel_rfl, by kernel_rfl⟩
theorem ent70 : Go.Abs.Enters Try.prog 70 := ⟨Try.f70, Try.func70, by kernel_rfl, by kernel_rfl⟩
theorem ent71 : Go.Abs.Enters Try.prog 71 := ⟨Try.f71, Try.func71, by kernel_rfl, by kernel_rfl⟩
theorem ent72 : Go.Abs.Enters Try.prog 72 := ⟨Try.f72, Try.func72, by kernel_rfl, by kernel_rfl⟩
theorem ent73 : Go.Abs.Enters Try.prog 73 := ⟨Try.f73, Try.func73, by kernel_rfl, by kernel_rfl⟩
theorem ent74 : Go.Abs.Enters Try.prog 74 := ⟨Try.f74, Try.func74, by kernel_rfl, by kernel_rfl⟩
theorem ent75 : Go.Abs.Enters Try.prog 75 := ⟨Try.f75, Try.func75, by kernel_rfl, by kernel_rfl⟩
theorem ent76 : Go.Abs.Enters Try.prog 76 := ⟨Try.f76, Try.func76, by kernel_rfl, by kernel_rfl⟩
theorem ent77 : Go.Abs.Enters Try.prog 77 := ⟨Try.f77, Try.func77, by kernel_rfl, by kernel_rfl⟩
theorem ent78 : Go.Abs.Enters Try.prog 78 := ⟨Try.f78, Try.func78, by kernel_rfl, by kernel_rfl⟩
theorem ent79 : Go.Abs.Enters Try.prog 79 := ⟨Try.f79, Try.func79, by kernel_rfl, by kernel_rfl⟩
theorem ent80 : Go.Abs.Enters Try.prog 80 := ⟨Try.f80, Try.func80, by kernel_rfl, by kernel_rfl⟩
theorem ent81 : Go.Abs.Enters Try.prog 81 := ⟨Try.f81, Try.func81, by kernel_rfl, by kernel_rfl⟩
theorem ent88 : Go.Abs.Enters Try.prog 88 := ⟨Try.f88, Try.func88, by kernel_rfl, by kernel_rfl⟩
theorem ent105 : Go.Abs.Enters Try.prog 105 := ⟨Try.f105, Try.func105, by kernel_rfl, by kernel_rfl⟩
theorem ent106 : Go.Abs.Enters Try.prog 106 := ⟨Try.f106, Try.func106, by kernel_rfl, by kernel_rfl⟩
theorem ent115 : Go.Abs.Enters Try.prog 115 := ⟨Try.f115, Try.func115, by kernel_rfl, by kernel_rfl⟩
theorem ent116 : Go.Abs.Enters Try.prog 116 := ⟨Try.f116, Try.func116, by kernel_rfl, by kernel_rfl⟩
theorem ent117 : Go.Abs.Enters Try.prog 117 := ⟨Try.f117, Try.func117, by kernel_rfl, by kernel_rfl⟩
theorem ent118 : Go.Abs.Enters Try.prog 118 := ⟨Try.f118, Try.func118, by kernel_rfl, by kernel_rfl⟩
theorem ent119 : Go.Abs.Enters Try.prog 119 := ⟨Try.f119, Try.func119, by kernel_rfl, by kernel_rfl⟩
theorem ent120 : Go.Abs.Enters Try.prog 120 := ⟨Try.f120, Try.func120, by kernel_rfl, by kernel_rfl⟩
theorem ent121 : Go.Abs.Enters Try.prog 121 := ⟨Try.f121, Try.func121, by kernel_rfl, by kernel_rfl⟩
theorem ent122 : Go.Abs.Enters Try.prog 122 := ⟨Try.f122, Try.func122, by kernel_rfl, by kernel_rfl⟩
theorem ent123 : Go.Abs.Enters Try.prog 123 := ⟨Try.f123, Try.func123, by kernel_rfl, by kernel_rfl⟩
theorem ent124 : Go.Abs.Enters Try.prog 124 := ⟨Try.f124, Try.func124, by kernel_rfl, by kernel_rfl⟩
theorem ent125 : Go.Abs.Enters Try.prog 125 := ⟨Try.f125, Try.func125, by kernel_rfl, by kernel_rfl⟩
theorem ent126 : Go.Abs.Enters Try.prog 126 := ⟨Try.f126, Try.func126, by kernel_rfl, by kernel_rfl⟩
theorem ent127 : Go.Abs.Enters Try.prog 127 := ⟨Try.f127, Try.func127, by kernel_rfl, by kernel_rfl⟩
theorem ent128 : Go.Abs.Enters Try.prog 128 := ⟨Try.f128, Try.func128, by kernel_rfl, by kernel_rfl⟩
theorem ent129 : Go.Abs.Enters Try.prog 129 := ⟨Try.f129, Try.func129, by kernel_rfl, by kernel_rfl⟩
theorem ent130 : Go.Abs.Enters Try.prog 130 := ⟨Try.f130, Try.func130, by kernel_rfl, by kernel_rfl⟩
theorem ent131 : Go.Abs.Enters Try.prog 131 := ⟨Try.f131, Try.func131, by kernel_rfl, by kernel_rfl⟩
theorem ent132 : Go.Abs.Enters Try.prog 132 := ⟨Try.f132, Try.func132, by kernel_rfl, by kernel_rfl⟩
theorem ent148 : Go.Abs.Enters Try.prog 148 := ⟨Try.f148, Try.func148, by kernel_rfl, by kernel_rfl⟩
theorem ent149 : Go.Abs.Enters Try.prog 149 := ⟨Try.f149, Try.func149, by kernel_rfl, by kernel_rfl⟩
theorem ent150 : Go.Abs.Enters Try.prog 150 := ⟨Try.f150, Try.func150, by kernel_rfl, by kernel_rfl⟩
theorem ent151 : Go.Abs.Enters Try.prog 151 := ⟨Try.f151, Try.func151, by kernel_rfl, by kernel_rfl⟩
theorem ent152 : Go.Abs.Enters Try.prog 152 := ⟨Try.f152, Try.func152, by kernel_rfl, by kernel_rfl⟩
theorem ent153 : Go.Abs.Enters Try.prog 153 := ⟨Try.f153, Try.func153, by kernel_rfl, by kernel_rfl⟩
theorem ent154 : Go.Abs.Enters Try.prog 154 := ⟨Try.f154, Try.func154, by kernel_rfl, by kernel_rfl⟩
theorem ent155 : Go.Abs.Enters Try.prog 155 := ⟨Try.f155, Try.func155, by kernel_rfl, by kernel_rfl⟩
theorem ent157 : Go.Abs.Enters Try.prog 157 := ⟨Try.f157, Try.func157, by kernel_rfl, by kernel_rfl⟩
theorem ent158 : Go.Abs.Enters Try.prog 158 := ⟨Try.f158, Try.func158, by kernel_rfl, by kernel_rfl⟩
theorem ent159 : Go.Abs.Enters Try.prog 159 := ⟨Try.f159, Try.func159, by kernel_rfl, by kernel_rfl⟩
theorem ent160 : Go.Abs.Enters Try.prog 160 := ⟨Try.f160, Try.func160, by kernel_rfl, by kernel_rfl⟩
theorem ent161 : Go.Abs.Enters Try.prog 161 := ⟨Try.f161, Try.func161, by kernel_rfl, by kernel_rfl⟩
theorem ent162 : Go.Abs.Enters Try.prog 162 := ⟨Try.f162, Try.func162, by kernel_rfl, by kernel_rfl⟩
theorem ent166 : Go.Abs.Enters Try.prog 166 := ⟨Try.f166, Try.func166, by kernel_rfl, by kernel_rfl⟩
theorem ent167 : Go.Abs.Enters Try.prog 167 := ⟨Try.f167, Try.func167, by kernel_rfl, by kernel_rfl⟩
theorem ent168 : Go.Abs.Enters Try.prog 168 := ⟨Try.f168, Try.func168, by kernel_rfl, by kernel_rfl⟩
theorem ent169 : Go.Abs.Enters Try.prog 169 := ⟨Try.f169, Try.func169, by kernel_rfl, by kernel_rfl⟩
theorem ent170 : Go.Abs.Enters Try.prog 170 := ⟨Try.f170, Try.func170, by kernel_rfl, by kernel_rfl⟩
theorem ent180 : Go.Abs.Enters Try.prog 180 := ⟨Try.f180, Try.func180, by kernel_rfl, by kernel_rfl⟩
abbrev TMatrix := (Int × ((List Int) × Unit))
abbrev TL00Src := ((List Int) × (Int × (Int × Unit)))
end Go.Proofs.Ythnkanacjhlhhaa

namespace Go.Proofs.Ythnkanacjhlhhaa
open Go Go.Abs Go.Proofs
noncomputable def l_a2Long (p0 : (List Int)) (p1 : (List Int)) : Tre Bool :=
 .cond (decide ((p0.length : Int) > 3000))
  (.ret true)
  (.ret (decide ((p1.length : Int) > 3000)))
noncomputable def l_a2Long_F (p0 : (List Int)) (p1 : (List Int)) : Option Bool := (l_a2Long p0 p1).run some
def l_a2Long_S (p0 : (List Int)) (p1 : (List Int)) : Bool :=
 cond (decide ((p0.length : Int) > 3000))
  (true)
  (decide ((p1.length : Int) > 3000))
theorem l_a2Long_spec (p0 : (List Int)) (p1 : (List Int)) : l_a2Long_F p0 p1 = some (l_a2Long_S p0 p1) := (run_cond_some rfl rfl)
noncomputable def l_a2Long_V : Env := ⟨tau, [], []⟩
noncomputable def l_a2Long_b : Code := (Try.f16.body).getD .skip
noncomputable def l_a2Long_I : FnI := ⟨l_a2Long_b, Try.f16.results.toList, Try.f16.resultTypes.toList, []⟩
noncomputable def l_a2Long_out (_zp0 : Bool) (_zp1 : Bool) (_p0 : (List Int)) (_p1 : (List Int)) : Bool → CallOut := fun r => ⟨(.imm true .bool r), [], []⟩
set_option maxRecDepth 100000 in
theorem l_a2Long_eq : ∀ (zp0 : Bool) (zp1 : Bool) (p0 : (List Int)) (p1 : (List Int)), denFn l_a2Long_V l_a2Long_I ⟨[(.imm zp0 (.sl (.int .u8)) p0), (.imm zp1 (.sl (.int .u8)) p1)], []⟩ = (l_a2Long p0 p1).run fun r => some (l_a2Long_out zp0 zp1 p0 p1 r) := fun _ _ _ _ => by kernel_rfl
noncomputable def l_a2Long_G (av : List AV) (rs : List Root) : Tre CallOut :=
 asCons av fun a0_ av0 =>
 asCons av0 fun a1_ av1 =>
 asEnd av1 <|
 asEnd rs <|
 asImm (.sl (.int .u8)) a0_ fun z2 d1 =>
 asImm (.sl (.int .u8)) a1_ fun z4 d3 =>
 .ret (l_a2Long_out z2 z4 d1 d3 (l_a2Long_S d1 d3))
noncomputable def l_a2Long_c : Ctr := ⟨[], fun ci => l_a2Long_G ci.args ci.roots, false⟩
theorem l_a2Long_env : EnvOK Try.prog .none l_a2Long_V := envOK_nil
set_option maxRecDepth 100000 in
theorem l_a2Long_ok : Contract Try.prog .none 16 l_a2Long_c := by
 have hl : LoopsOK l_a2Long_V [] l_a2Long_b := loopsOK_nil (by kernel_rfl)
 refine (contract_of (F := l_a2Long_I) tau_tys l_a2Long_env Try.func16 (by kernel_rfl) (by kernel_rfl) (by kernel_rfl) hl []).weaken ?_
 rintro ⟨av, rs⟩ co h
 have h : (l_a2Long_G av rs).run some = some co := h
 obtain ⟨a0_, av0, rfl, h_0⟩ := asCons_spec h
 obtain ⟨a1_, av1, rfl, h_1⟩ := asCons_spec h_0
 obtain ⟨rfl, h_2⟩ := asEnd_spec h_1
 obtain ⟨rfl, h_3⟩ := asEnd_spec h_2
 obtain ⟨z2, d1, rfl, h_4⟩ := asImm_spec h_3
 obtain ⟨z4, d3, rfl, h_5⟩ := asImm_spec h_4
 exact fin_ret (l_a2Long_eq z2 z4 d1 d3) (l_a2Long_spec d1 d3) h_5
end Go.Proofs.Ythnkanacjhlhhaa

namespace Go.Proofs.Ythnkanacjhlhhaa
open Go Go.Abs Go.Proofs
noncomputable def l_a2At (p0 : (List Int)) (p1 : Int) (p2 : Int) : Tre Int :=
 .cond (decide (p1 ≥ (p0.length : Int)))
  (.ret 0)
  (.cond (decide (p2 < 1))
   (.ret 0)
   (.ite (0 ≤ p1 ∧ p1 < (p0.length : Int)) <|
   .mat (p0[p1.toNat]?) fun x1 =>
   .ifn (p2 = 0) <|
   let v2 := Int.tmod (iwrap .i64 x1) p2
   .ret v2))
noncomputable def l_a2At_F (p0 : (List Int)) (p1 : Int) (p2 : Int) : Option Int := (l_a2At p0 p1 p2).run some
noncomputable def l_a2At_V : Env := ⟨tau, [], []⟩
noncomputable def l_a2At_b : Code := (Try.f17.body).getD .skip
noncomputable def l_a2At_I : FnI := ⟨l_a2At_b, Try.f17.results.toList, Try.f17.resultTypes.toList, []⟩
noncomputable def l_a2At_out (_zp0 : Bool) (_p0 : (List Int)) (_p1 : Int) (_p2 : Int) : Int → CallOut := fun r => ⟨(.imm true (.int .i64) r), [], []⟩
set_option maxRecDepth 100000 in
theorem l_a2At_eq : ∀ (zp0 : Bool) (p0 : (List Int)) (p1 : Int) (p2 : Int), denFn l_a2At_V l_a2At_I ⟨[(.imm zp0 (.sl (.int .u8)) p0), (.imm true (.int .i64) p1), (.imm true (.int .i64) p2)], []⟩ = (l_a2At p0 p1 p2).run fun r => some (l_a2At_out zp0 p0 p1 p2 r) := fun _ _ _ _ => by kernel_rfl
noncomputable def l_a2At_G (av : List AV) (rs : List Root) : Tre CallOut :=
 asCons av fun a0_ av0 =>
 asCons av0 fun a1_ av1 =>
 asCons av1 fun a2_ av2 =>
 asEnd av2 <|
 asEnd rs <|
 asImm (.sl (.int .u8)) a0_ fun z2 d1 =>
 asImmZ true (.int .i64) a1_ fun d3 =>
 asImmZ true (.int .i64) a2_ fun d4 =>
 .mat (l_a2At_F d1 d3 d4) fun r => .ret (l_a2At_out z2 d1 d3 d4 r)
noncomputable def l_a2At_c : Ctr := ⟨[], fun ci => l_a2At_G ci.args ci.roots, false⟩
theorem l_a2At_env : EnvOK Try.prog .none l_a2At_V := envOK_nil
set_option maxRecDepth 100000 in
theorem l_a2At_ok : Contract Try.prog .none 17 l_a2At_c := by
 have hl : LoopsOK l_a2At_V [] l_a2At_b := loopsOK_nil (by kernel_rfl)
 refine (contract_of (F := l_a2At_I) tau_tys l_a2At_env Try.func17 (by kernel_rfl) (by kernel_rfl) (by kernel_rfl) hl []).weaken ?_
 rintro ⟨av, rs⟩ co h
 have h : (l_a2At_G av rs).run some = some co := h
 obtain ⟨a0_, av0, rfl, h_0⟩ := asCons_spec h
 obtain ⟨a1_, av1, rfl, h_1⟩ := asCons_spec h_0
 obtain ⟨a2_, av2, rfl, h_2⟩ := asCons_spec h_1
 obtain ⟨rfl, h_3⟩ := asEnd_spec h_2
 obtain ⟨rfl, h_4⟩ := asEnd_spec h_3
 obtain ⟨z2, d1, rfl, h_5⟩ := asImm_spec h_4
 obtain ⟨d3, rfl, h_6⟩ := asImmZ_spec h_5
 obtain ⟨d4, rfl, h_7⟩ := asImmZ_spec h_6
 exact fin_mat (l_a2At_eq z2 d1 d3 d4) h_7
end Go.Proofs.Ythnkanacjhlhhaa

namespace Go.Proofs.Ythnkanacjhlhhaa
open Go Go.Abs Go.Proofs
noncomputable def i_within (p0 : Int) (p1 : Int) (p2 : Int) : Tre Bool :=
 .cond (decide (p0 ≥ p1))
  (.ret (decide (p0 ≤ p2)))
  (.ret false)
noncomputable def i_within_F (p0 : Int) (p1 : Int) (p2 : Int) : Option Bool := (i_within p0 p1 p2).run some
def i_within_S (p0 : Int) (p1 : Int) (p2 : Int) : Bool :=
 cond (decide (p0 ≥ p1))
  (decide (p0 ≤ p2))
  (false)
theorem i_within_spec (p0 : Int) (p1 : Int) (p2 : Int) : i_within_F p0 p1 p2 = some (i_within_S p0 p1 p2) := (run_cond_some rfl rfl)
noncomputable def i_within_V : Env := ⟨tau, [], []⟩
noncomputable def i_within_b : Code := (Try.f57.body).getD .skip
noncomputable def i_within_I : FnI := ⟨i_within_b, Try.f57.results.toList, Try.f57.resultTypes.toList, []⟩
noncomputable def i_within_out (_p0 : Int) (_p1 : Int) (_p2 : Int) : Bool → CallOut := fun r => ⟨(.imm true .bool r), [], []⟩
set_option maxRecDepth 100000 in
theorem i_within_eq : ∀ (p0 : Int) (p1 : Int) (p2 : Int), denFn i_within_V i_within_I ⟨[(.imm true (.int .i64) p0), (.imm true (.int .i64) p1), (.imm true (.int .i64) p2)], []⟩ = (i_within p0 p1 p2).run fun r => some (i_within_out p0 p1 p2 r) := fun _ _ _ => by kernel_rfl
noncomputable def i_within_G (av : List AV) (rs : List Root) : Tre CallOut :=
 asCons av fun a0_ av0 =>
 asCons av0 fun a1_ av1 =>
 asCons av1 fun a2_ av2 =>
 asEnd av2 <|
 asEnd rs <|
 asImmZ true (.int .i64) a0_ fun d1 =>
 asImmZ true (.int .i64) a1_ fun d2 =>
 asImmZ true (.int .i64) a2_ fun d3 =>
 .ret (i_within_out d1 d2 d3 (i_within_S d1 d2 d3))
noncomputable def i_within_c : Ctr := ⟨[], fun ci => i_within_G ci.args ci.roots, false⟩
theorem i_within_env : EnvOK Try.prog .none i_within_V := envOK_nil
set_option maxRecDepth 100000 in
theorem i_within_ok : Contract Try.prog .none 57 i_within_c := by
 have hl : LoopsOK i_within_V [] i_within_b := loopsOK_nil (by kernel_rfl)
 refine (contract_of (F := i_within_I) tau_tys i_within_env Try.func57 (by kernel_rfl) (by kernel_rfl) (by kernel_rfl) hl []).weaken ?_
 rintro ⟨av, rs⟩ co h
 have h : (i_within_G av rs).run some = some co := h
 obtain ⟨a0_, av0, rfl, h_0⟩ := asCons_spec h
 obtain ⟨a1_, av1, rfl, h_1⟩ := asCons_spec h_0
 obtain ⟨a2_, av2, rfl, h_2⟩ := asCons_spec h_1
 obtain ⟨rfl, h_3⟩ := asEnd_spec h_2
 obtain ⟨rfl, h_4⟩ := asEnd_spec h_3
 obtain ⟨d1, rfl, h_5⟩ := asImmZ_spec h_4
 obtain ⟨d2, rfl, h_6⟩ := asImmZ_spec h_5
 obtain ⟨d3, rfl, h_7⟩ := asImmZ_spec h_6
 exact fin_ret (i_within_eq d1 d2 d3) (i_within_spec d1 d2 d3) h_7
end Go.Proofs.Ythnkanacjhlhhaa

namespace Go.Proofs.Ythnkanacjhlhhaa
open Go Go.Abs Go.Proofs
noncomputable def i_gauss_l7 (_g_ : Int → Int → Int → Option Int) (h7_0_0 : Int) (h7_0_4 : Int) : (Int × Int) → Tre ((Int × Int) ⊕ Int) := fun s7 =>
 .cond (decide (s7.2 < h7_0_4))
  (let v1 := iwrap .i64 (s7.1 * h7_0_0)
  .ret (.inl (v1, iwrap .i64 (s7.2 + 1))))
  (.ret (.inr s7.1))
noncomputable def i_gauss (g_ : Int → Int → Int → Option Int) (p0 : Int) (p1 : Int) (p2 : Int) : Tre Int :=
 .cond (decide (p2 < 0))
  (.ret 0)
  (.cond (decide (p2 > p1))
   (.ret 0)
   (.cond (decide (p2 = 0))
    (.ret 1)
    (.cond (decide (p2 = p1))
     (.ret 1)
     (.mat (loopF ((i_gauss_l7 g_) p0 p2) (1, 0)) fun l2 =>
     .mat (g_ p0 (iwrap .i64 (p1 - 1)) (iwrap .i64 (p2 - 1))) fun r3 =>
     .mat (g_ p0 (iwrap .i64 (p1 - 1)) p2) fun r4 =>
     let v5 := iwrap .i64 (r3 + (iwrap .i64 (l2 * r4)))
     .ret v5))))
noncomputable def i_gauss_R : Nat → Int → Int → Int → Option Int
 | 0 => fun _ _ _ => none
 | n + 1 => fun p0 p1 p2 => (i_gauss (i_gauss_R n) p0 p1 p2).run some
noncomputable def i_gauss_F (p0 : Int) (p1 : Int) (p2 : Int) : Option Int := i_gauss_R 1000000000000 p0 p1 p2
noncomputable def i_gauss_out (_g_ : Int → Int → Int → Option Int) (_p0 : Int) (_p1 : Int) (_p2 : Int) : Int → CallOut := fun r => ⟨(.imm true (.int .i64) r), [], []⟩
noncomputable def i_gauss_G (g_ : Int → Int → Int → Option Int) (av : List AV) (rs : List Root) : Tre CallOut :=
 asCons av fun a0_ av0 =>
 asCons av0 fun a1_ av1 =>
 asCons av1 fun a2_ av2 =>
 asEnd av2 <|
 asEnd rs <|
 asImmZ true (.int .i64) a0_ fun d1 =>
 asImmZ true (.int .i64) a1_ fun d2 =>
 asImmZ true (.int .i64) a2_ fun d3 =>
 .mat (g_ d1 d2 d3) fun r => .ret ((i_gauss_out g_) d1 d2 d3 r)
noncomputable def i_gauss_c (g_ : Int → Int → Int → Option Int) : Ctr := ⟨[], fun ci => (i_gauss_G g_) ci.args ci.roots, false⟩
noncomputable def i_gauss_V (g_ : Int → Int → Int → Option Int) : Env := ⟨tau, [(71, (i_gauss_c g_))], []⟩
noncomputable def i_gauss_b (_g_ : Int → Int → Int → Option Int) : Code := (Try.f71.body).getD .skip
noncomputable def i_gauss_l7_mk (_g_ : Int → Int → Int → Option Int) (h7_0_0 : Int) (h7_0_1 : Int) (h7_0_2 : Int) (h7_0_4 : Int) : (Int × Int) → St := fun x => stOf [(0, (.imm true (.int .i64) h7_0_0)), (1, (.imm true (.int .i64) h7_0_1)), (2, (.imm true (.int .i64) h7_0_2)), (7, (.imm true (.int .i64) x.1)), (22, (.imm true (.int .i64) h7_0_4)), (23, (.imm true (.int .i64) x.2))] []
noncomputable def i_gauss_l7_out (_g_ : Int → Int → Int → Option Int) (h7_0_0 : Int) (h7_0_1 : Int) (h7_0_2 : Int) (_h7_0_4 : Int) : Int → Ex × St := fun x => (.exit 0, stOf [(0, (.imm true (.int .i64) h7_0_0)), (1, (.imm true (.int .i64) h7_0_1)), (2, (.imm true (.int .i64) h7_0_2)), (7, (.imm true (.int .i64) x))] [])
noncomputable def i_gauss_l7_D (g_ : Int → Int → Int → Option Int) (s : St) : Tre (Ex × St) :=
 asImmZ true (.int .i64) (s.tmps 0) fun d2 =>
 asImmZ true (.int .i64) (s.tmps 1) fun d4 =>
 asImmZ true (.int .i64) (s.tmps 2) fun d6 =>
 asImmZ true (.int .i64) (s.tmps 7) fun d8 =>
 asImmZ true (.int .i64) (s.tmps 22) fun d10 =>
 asImmZ true (.int .i64) (s.tmps 23) fun d12 =>
 .mat (loopF ((i_gauss_l7 g_) d2 d10) (d8, d12)) fun x => .ret ((i_gauss_l7_out g_) d2 d4 d6 d10 x)
noncomputable def i_gauss_l7_L (g_ : Int → Int → Int → Option Int) : LoopI := ⟨([0, 1, 2, 7, 22, 23], []), ([0, 1, 2, 7], []), (i_gauss_l7_D g_)⟩
noncomputable def i_gauss_A (g_ : Int → Int → Int → Option Int) : List (Nat × LoopI) := [(7, (i_gauss_l7_L g_))]
set_option maxRecDepth 100000 in
theorem i_gauss_l7_step (g_ : Int → Int → Int → Option Int) : ∀ (h7_0_0 : Int) (h7_0_1 : Int) (h7_0_2 : Int) (h7_0_4 : Int) (x : (Int × Int)) (c : St → Option (Ex × St)), den (i_gauss_V g_) (i_gauss_A g_) (loopAt (i_gauss_b g_) 0) ((i_gauss_l7_mk g_) h7_0_0 h7_0_1 h7_0_2 h7_0_4 x) (roundK (i_gauss_l7_L g_).kp (i_gauss_l7_L g_).kx c) = ((i_gauss_l7 g_) h7_0_0 h7_0_4 x).run (roundR ((i_gauss_l7_mk g_) h7_0_0 h7_0_1 h7_0_2 h7_0_4) ((i_gauss_l7_out g_) h7_0_0 h7_0_1 h7_0_2 h7_0_4) c) := fun _ _ _ _ _ _ => by
 kernel_rfl
theorem i_gauss_l7_ok (g_ : Int → Int → Int → Option Int) : LoopOK (i_gauss_V g_) (i_gauss_A g_) (loopAt (i_gauss_b g_) 0) (i_gauss_l7_L g_) := loopOK_of fun s e s' h => by
 generalize hs : restrict (i_gauss_l7_L g_).kp s = s1 at h
 have h : ((i_gauss_l7_D g_) s1).run some = some (e, s') := h
 obtain ⟨d2, e1, h_0⟩ := asImmZ_spec h
 obtain ⟨d4, e3, h_1⟩ := asImmZ_spec h_0
 obtain ⟨d6, e5, h_2⟩ := asImmZ_spec h_1
 obtain ⟨d8, e7, h_3⟩ := asImmZ_spec h_2
 obtain ⟨d10, e9, h_4⟩ := asImmZ_spec h_3
 obtain ⟨d12, e11, h_5⟩ := asImmZ_spec h_4
 obtain ⟨y, hy, hz⟩ := mat_ret h_5
 refine ⟨_, _, (i_gauss_l7_mk g_) d2 d4 d6 d10, (i_gauss_l7_out g_) d2 d4 d6 d10, (i_gauss_l7 g_) d2 d10, (d8, d12), y, ?_, hy, ?_, (i_gauss_l7_step g_) d2 d4 d6 d10⟩
 ·subst hs; exact restrict_eq (T := [(0, (.imm true (.int .i64) d2)), (1, (.imm true (.int .i64) d4)), (2, (.imm true (.int .i64) d6)), (7, (.imm true (.int .i64) d8)), (22, (.imm true (.int .i64) d10)), (23, (.imm true (.int .i64) d12))]) (U := []) rfl rfl ⟨e1, e3, e5, e7, e9, e11, trivial⟩ trivial
 ·exact Option.some.inj hz
noncomputable def i_gauss_I (g_ : Int → Int → Int → Option Int) : FnI := ⟨(i_gauss_b g_), Try.f71.results.toList, Try.f71.resultTypes.toList, (i_gauss_A g_)⟩
set_option maxRecDepth 100000 in
theorem i_gauss_eq (g_ : Int → Int → Int → Option Int) : ∀ (p0 : Int) (p1 : Int) (p2 : Int), denFn (i_gauss_V g_) (i_gauss_I g_) ⟨[(.imm true (.int .i64) p0), (.imm true (.int .i64) p1), (.imm true (.int .i64) p2)], []⟩ = ((i_gauss g_) p0 p1 p2).run fun r => some ((i_gauss_out g_) p0 p1 p2 r) := fun _ _ _ => by kernel_rfl
theorem i_gauss_env (g_ : Int → Int → Int → Option Int) (hg_ : Contract Try.prog .none 71 (i_gauss_c g_)) : EnvOK Try.prog .none (i_gauss_V g_) := (envOK_cons hg_ ent71 envOK_nil)
set_option maxRecDepth 100000 in
theorem i_gauss_okS (g_ : Int → Int → Int → Option Int) (hg_ : Contract Try.prog .none 71 (i_gauss_c g_)) : Contract Try.prog .none 71 (i_gauss_c (fun p0 p1 p2 => (i_gauss g_ p0 p1 p2).run some)) := by
 have hl : LoopsOK (i_gauss_V g_) (i_gauss_A g_) (i_gauss_b g_) := (loopsOK_all (n := 1) (by kernel_rfl) fun k hk => by
   match k, hk with
   | 0, _ => exact loopOK_at (id := 7) (L := (i_gauss_l7_L g_)) (by kernel_rfl) (by kernel_rfl) (i_gauss_l7_ok g_))
 refine (contract_of (F := (i_gauss_I g_)) tau_tys ((i_gauss_env g_) hg_) Try.func71 (by kernel_rfl) (by kernel_rfl) (by kernel_rfl) hl []).weaken ?_
 rintro ⟨av, rs⟩ co h
 have h : (i_gauss_G (fun p0 p1 p2 => (i_gauss g_ p0 p1 p2).run some) av rs).run some = some co := h
 obtain ⟨a0_, av0, rfl, h_0⟩ := asCons_spec h
 obtain ⟨a1_, av1, rfl, h_1⟩ := asCons_spec h_0
 obtain ⟨a2_, av2, rfl, h_2⟩ := asCons_spec h_1
 obtain ⟨rfl, h_3⟩ := asEnd_spec h_2
 obtain ⟨rfl, h_4⟩ := asEnd_spec h_3
 obtain ⟨d1, rfl, h_5⟩ := asImmZ_spec h_4
 obtain ⟨d2, rfl, h_6⟩ := asImmZ_spec h_5
 obtain ⟨d3, rfl, h_7⟩ := asImmZ_spec h_6
 exact fin_mat ((i_gauss_eq g_) d1 d2 d3) h_7
theorem i_gauss_ok0 : Contract Try.prog .none 71 (i_gauss_c (fun _ _ _ => none)) := Contract.vacuous (by
 rintro ⟨av, rs⟩ co h
 have h : (i_gauss_G (fun _ _ _ => none) av rs).run some = some co := h
 obtain ⟨a0_, av0, rfl, h_0⟩ := asCons_spec h
 obtain ⟨a1_, av1, rfl, h_1⟩ := asCons_spec h_0
 obtain ⟨a2_, av2, rfl, h_2⟩ := asCons_spec h_1
 obtain ⟨rfl, h_3⟩ := asEnd_spec h_2
 obtain ⟨rfl, h_4⟩ := asEnd_spec h_3
 obtain ⟨d1, rfl, h_5⟩ := asImmZ_spec h_4
 obtain ⟨d2, rfl, h_6⟩ := asImmZ_spec h_5
 obtain ⟨d3, rfl, h_7⟩ := asImmZ_spec h_6
 exact mat_none_absurd h_7)
theorem i_gauss_okN : ∀ n, Contract Try.prog .none 71 (i_gauss_c (i_gauss_R n))
 | 0 => i_gauss_ok0
 | n + 1 => i_gauss_okS _ (i_gauss_okN n)
theorem i_gauss_ok : Contract Try.prog .none 71 (i_gauss_c i_gauss_F) := i_gauss_okN _
end Go.Proofs.Ythnkanacjhlhhaa

namespace Go.Proofs.Ythnkanacjhlhhaa
open Go Go.Abs Go.Proofs
noncomputable def i_GaussNumber (p0 : Int) (p1 : Int) : Tre (Int × Int) :=
 .cond (!(i_within_S p0 1 10))
  (.ret (0, 2))
  (.cond (!(i_within_S p1 0 p0))
   (.ret (0, 2))
   (.mat (i_gauss_F 2 p0 p1) fun r1 =>
   .ret (r1, 0)))
noncomputable def i_GaussNumber_F (p0 : Int) (p1 : Int) : Option (Int × Int) := (i_GaussNumber p0 p1).run some
noncomputable def i_GaussNumber_V : Env := ⟨tau, [(57, i_within_c), (71, (i_gauss_c i_gauss_F))], []⟩
noncomputable def i_GaussNumber_b : Code := (Try.f19.body).getD .skip
noncomputable def i_GaussNumber_I : FnI := ⟨i_GaussNumber_b, Try.f19.results.toList, Try.f19.resultTypes.toList, []⟩
noncomputable def i_GaussNumber_out (_p0 : Int) (_p1 : Int) : (Int × Int) → CallOut := fun r => ⟨(.tcons (.imm true (.int .i64) r.1) (.tcons (.imm true (.int .i64) r.2) .tnil)), [], []⟩
set_option maxRecDepth 100000 in
theorem i_GaussNumber_eq : ∀ (p0 : Int) (p1 : Int), denFn i_GaussNumber_V i_GaussNumber_I ⟨[(.imm true (.int .i64) p0), (.imm true (.int .i64) p1)], []⟩ = (i_GaussNumber p0 p1).run fun r => some (i_GaussNumber_out p0 p1 r) := fun _ _ => by kernel_rfl
noncomputable def i_GaussNumber_G (av : List AV) (rs : List Root) : Tre CallOut :=
 asCons av fun a0_ av0 =>
 asCons av0 fun a1_ av1 =>
 asEnd av1 <|
 asEnd rs <|
 asImmZ true (.int .i64) a0_ fun d1 =>
 asImmZ true (.int .i64) a1_ fun d2 =>
 .mat (i_GaussNumber_F d1 d2) fun r => .ret (i_GaussNumber_out d1 d2 r)
noncomputable def i_GaussNumber_c : Ctr := ⟨[], fun ci => i_GaussNumber_G ci.args ci.roots, false⟩
theorem i_GaussNumber_env : EnvOK Try.prog .none i_GaussNumber_V := (envOK_cons i_within_ok ent57 (envOK_cons i_gauss_ok ent71 envOK_nil))
set_option maxRecDepth 100000 in
theorem i_GaussNumber_ok : Contract Try.prog .none 19 i_GaussNumber_c := by
 have hl : LoopsOK i_GaussNumber_V [] i_GaussNumber_b := loopsOK_nil (by kernel_rfl)
 refine (contract_of (F := i_GaussNumber_I) tau_tys i_GaussNumber_env Try.func19 (by kernel_rfl) (by kernel_rfl) (by kernel_rfl) hl []).weaken ?_
 rintro ⟨av, rs⟩ co h
 have h : (i_GaussNumber_G av rs).run some = some co := h
 obtain ⟨a0_, av0, rfl, h_0⟩ := asCons_spec h
 obtain ⟨a1_, av1, rfl, h_1⟩ := asCons_spec h_0
 obtain ⟨rfl, h_2⟩ := asEnd_spec h_1
 obtain ⟨rfl, h_3⟩ := asEnd_spec h_2
 obtain ⟨d1, rfl, h_4⟩ := asImmZ_spec h_3
 obtain ⟨d2, rfl, h_5⟩ := asImmZ_spec h_4
 exact fin_mat (i_GaussNumber_eq d1 d2) h_5
end Go.Proofs.Ythnkanacjhlhhaa

namespace Go.Proofs.Ythnkanacjhlhhaa
open Go Go.Abs Go.Proofs
noncomputable def i_size_int64 (p0 : (List Int)) : Tre Int :=
 .ret (p0.length : Int)
noncomputable def i_size_int64_F (p0 : (List Int)) : Option Int := (i_size_int64 p0).run some
theorem i_size_int64_spec (p0 : (List Int)) : i_size_int64_F p0 = some (p0.length : Int) := rfl
noncomputable def i_size_int64_V : Env := ⟨tau, [], []⟩
noncomputable def i_size_int64_b : Code := (Try.f126.body).getD .skip
noncomputable def i_size_int64_I : FnI := ⟨i_size_int64_b, Try.f126.results.toList, Try.f126.resultTypes.toList, []⟩
noncomputable def i_size_int64_out (_zp0 : Bool) (_p0 : (List Int)) : Int → CallOut := fun r => ⟨(.imm true (.int .i64) r), [], []⟩
set_option maxRecDepth 100000 in
theorem i_size_int64_eq : ∀ (zp0 : Bool) (p0 : (List Int)), denFn i_size_int64_V i_size_int64_I ⟨[(.imm zp0 (.sl (.int .i64)) p0)], []⟩ = (i_size_int64 p0).run fun r => some (i_size_int64_out zp0 p0 r) := fun _ _ => by kernel_rfl
noncomputable def i_size_int64_G (av : List AV) (rs : List Root) : Tre CallOut :=
 asCons av fun a0_ av0 =>
 asEnd av0 <|
 asEnd rs <|
 asImm (.sl (.int .i64)) a0_ fun z2 d1 =>
 .ret (i_size_int64_out z2 d1 (d1.length : Int))
noncomputable def i_size_int64_c : Ctr := ⟨[], fun ci => i_size_int64_G ci.args ci.roots, false⟩
theorem i_size_int64_env : EnvOK Try.prog .none i_size_int64_V := envOK_nil
set_option maxRecDepth 100000 in
theorem i_size_int64_ok : Contract Try.prog .none 126 i_size_int64_c := by
 have hl : LoopsOK i_size_int64_V [] i_size_int64_b := loopsOK_nil (by kernel_rfl)
 refine (contract_of (F := i_size_int64_I) tau_tys i_size_int64_env Try.func126 (by kernel_rfl) (by kernel_rfl) (by kernel_rfl) hl []).weaken ?_
 rintro ⟨av, rs⟩ co h
 have h : (i_size_int64_G av rs).run some = some co := h
 obtain ⟨a0_, av0, rfl, h_0⟩ := asCons_spec h
 obtain ⟨rfl, h_1⟩ := asEnd_spec h_0
 obtain ⟨rfl, h_2⟩ := asEnd_spec h_1
 obtain ⟨z2, d1, rfl, h_3⟩ := asImm_spec h_2
 exact fin_ret (i_size_int64_eq z2 d1) (i_size_int64_spec d1) h_3
end Go.Proofs.Ythnkanacjhlhhaa

namespace Go.Proofs.Ythnkanacjhlhhaa
open Go Go.Abs Go.Proofs
noncomputable def slices_Clone_int64_b930 : Tre (List Int) :=
 .ret []
noncomputable def slices_Clone_int64_b930_F : Option (List Int) := (slices_Clone_int64_b930).run some
theorem slices_Clone_int64_b930_spec : slices_Clone_int64_b930_F = some [] := rfl
noncomputable def slices_Clone_int64_b930_V : Env := ⟨tau, [], []⟩
noncomputable def slices_Clone_int64_b930_b : Code := (Try.f115.body).getD .skip
noncomputable def slices_Clone_int64_b930_I : FnI := ⟨slices_Clone_int64_b930_b, Try.f115.results.toList, Try.f115.resultTypes.toList, []⟩
noncomputable def slices_Clone_int64_b930_out : (List Int) → CallOut := fun r => ⟨(.ref (1, 0) []), [], [⟨false, (.sl (.int .i64)), .own, r⟩]⟩
set_option maxRecDepth 100000 in
theorem slices_Clone_int64_b930_eq : denFn slices_Clone_int64_b930_V slices_Clone_int64_b930_I ⟨[.nil], []⟩ = (slices_Clone_int64_b930).run fun r => some (slices_Clone_int64_b930_out r) := by kernel_rfl
noncomputable def slices_Clone_int64_b930_G (av : List AV) (rs : List Root) : Tre CallOut :=
 asCons av fun a0_ av0 =>
 asEnd av0 <|
 asEnd rs <|
 asNil a0_ <|
 .ret (slices_Clone_int64_b930_out [])
noncomputable def slices_Clone_int64_b930_c : Ctr := ⟨[], fun ci => slices_Clone_int64_b930_G ci.args ci.roots, false⟩
theorem slices_Clone_int64_b930_env : EnvOK Try.prog .none slices_Clone_int64_b930_V := envOK_nil
set_option maxRecDepth 100000 in
theorem slices_Clone_int64_b930_ok : Contract Try.prog .none 115 slices_Clone_int64_b930_c := by
 have hl : LoopsOK slices_Clone_int64_b930_V [] slices_Clone_int64_b930_b := loopsOK_nil (by kernel_rfl)
 refine (contract_of (F := slices_Clone_int64_b930_I) tau_tys slices_Clone_int64_b930_env Try.func115 (by kernel_rfl) (by kernel_rfl) (by kernel_rfl) hl []).weaken ?_
 rintro ⟨av, rs⟩ co h
 have h : (slices_Clone_int64_b930_G av rs).run some = some co := h
 obtain ⟨a0_, av0, rfl, h_0⟩ := asCons_spec h
 obtain ⟨rfl, h_1⟩ := asEnd_spec h_0
 obtain ⟨rfl, h_2⟩ := asEnd_spec h_1
 obtain ⟨rfl, h_3⟩ := asNil_spec h_2
 exact fin_ret (slices_Clone_int64_b930_eq) (slices_Clone_int64_b930_spec) h_3
end Go.Proofs.Ythnkanacjhlhhaa

namespace Go.Proofs.Ythnkanacjhlhhaa
open Go Go.Abs Go.Proofs
noncomputable def slices_Clone_int64_6661 (p0 : (List Int)) : Tre (List Int) :=
 .ite ((0 + p0.length) * 8 ≤ appendMax ∧ 1 ≤ 8) <|
 .ret ([] ++ p0)
noncomputable def slices_Clone_int64_6661_F (p0 : (List Int)) : Option (List Int) := (slices_Clone_int64_6661 p0).run some
theorem slices_Clone_int64_6661_spec (p0 : (List Int)) (y : (List Int)) (h : cloneR p0 = some y) : slices_Clone_int64_6661_F p0 = some y := by
 obtain ⟨hl, rfl⟩ := lim_some h
 have hb : (0 + p0.length) * 8 ≤ appendMax ∧ 1 ≤ 8 := by unfold appendMax; omega
 unfold slices_Clone_int64_6661_F slices_Clone_int64_6661
 rw [Tre.run_ite, if_pos hb]
 rfl
noncomputable def slices_Clone_int64_6661_V : Env := ⟨tau, [], []⟩
noncomputable def slices_Clone_int64_6661_b : Code := (Try.f115.body).getD .skip
noncomputable def slices_Clone_int64_6661_I : FnI := ⟨slices_Clone_int64_6661_b, Try.f115.results.toList, Try.f115.resultTypes.toList, []⟩
noncomputable def slices_Clone_int64_6661_out (_zp0 : Bool) (_p0 : (List Int)) : (List Int) → CallOut := fun r => ⟨(.ref (1, 0) []), [], [⟨false, (.sl (.int .i64)), .own, r⟩]⟩
set_option maxRecDepth 100000 in
theorem slices_Clone_int64_6661_eq : ∀ (zp0 : Bool) (p0 : (List Int)), denFn slices_Clone_int64_6661_V slices_Clone_int64_6661_I ⟨[(.nn zp0 (.int .i64) p0)], []⟩ = (slices_Clone_int64_6661 p0).run fun r => some (slices_Clone_int64_6661_out zp0 p0 r) := fun _ _ => by kernel_rfl
noncomputable def slices_Clone_int64_6661_G (av : List AV) (rs : List Root) : Tre CallOut :=
 asCons av fun a0_ av0 =>
 asEnd av0 <|
 asEnd rs <|
 asNn (.int .i64) a0_ fun z1 d2 =>
 .mat (cloneR d2) fun r => .ret (slices_Clone_int64_6661_out z1 d2 r)
noncomputable def slices_Clone_int64_6661_c : Ctr := ⟨[], fun ci => slices_Clone_int64_6661_G ci.args ci.roots, false⟩
theorem slices_Clone_int64_6661_env : EnvOK Try.prog .none slices_Clone_int64_6661_V := envOK_nil
set_option maxRecDepth 100000 in
theorem slices_Clone_int64_6661_ok : Contract Try.prog .none 115 slices_Clone_int64_6661_c := by
 have hl : LoopsOK slices_Clone_int64_6661_V [] slices_Clone_int64_6661_b := loopsOK_nil (by kernel_rfl)
 refine (contract_of (F := slices_Clone_int64_6661_I) tau_tys slices_Clone_int64_6661_env Try.func115 (by kernel_rfl) (by kernel_rfl) (by kernel_rfl) hl []).weaken ?_
 rintro ⟨av, rs⟩ co h
 have h : (slices_Clone_int64_6661_G av rs).run some = some co := h
 obtain ⟨a0_, av0, rfl, h_0⟩ := asCons_spec h
 obtain ⟨rfl, h_1⟩ := asEnd_spec h_0
 obtain ⟨rfl, h_2⟩ := asEnd_spec h_1
 obtain ⟨z1, d2, rfl, h_3⟩ := asNn_spec h_2
 exact fin_opt (slices_Clone_int64_6661_eq z1 d2) (slices_Clone_int64_6661_spec d2) h_3
end Go.Proofs.Ythnkanacjhlhhaa

namespace Go.Proofs.Ythnkanacjhlhhaa
open Go Go.Abs Go.Proofs
theorem slices_Clone_int64_nil (y : (List Int)) (h : cloneR ([] : (List Int)) = some y) : y = [] := (lim_some h).2.symm
noncomputable def slices_Clone_int64_G (av : List AV) (rs : List Root) : Tre CallOut :=
 asCons av fun a0_ av0 =>
 asEnd av0 <|
 asEnd rs <|
 asImm (.sl (.int .i64)) a0_ fun z2 d1 =>
 .mat (cloneR d1) fun r => .ret ⟨(.ref (1, 0) []), [], [⟨false, (.sl (.int .i64)), .own, r⟩]⟩
noncomputable def slices_Clone_int64_c : Ctr := ⟨[], fun ci => slices_Clone_int64_G ci.args ci.roots, false⟩
theorem slices_Clone_int64_ok : Contract Try.prog .none 115 slices_Clone_int64_c := by
 refine contract_nil (e := (.int .i64)) slices_Clone_int64_b930_ok slices_Clone_int64_6661_ok ?_
 rintro ⟨av, rs⟩ co h
 have h : (slices_Clone_int64_G av rs).run some = some co := h
 obtain ⟨a0_, av0, rfl, h_0⟩ := asCons_spec h
 obtain ⟨rfl, h_1⟩ := asEnd_spec h_0
 obtain ⟨rfl, h_2⟩ := asEnd_spec h_1
 obtain ⟨z2, d1, rfl, h_3⟩ := asImm_spec h_2
 refine ⟨z2, d1, rfl, ?_, ?_⟩
 ·exact h_3
 ·rintro rfl
  obtain ⟨y, h1, h2⟩ := mat_ret h_3
  have hy : y = [] := by
   have := slices_Clone_int64_nil y h1
   exact this
  subst hy
  rw [← h2]; rfl
end Go.Proofs.Ythnkanacjhlhhaa

namespace Go.Proofs.Ythnkanacjhlhhaa
open Go Go.Abs Go.Proofs
noncomputable def i_echelonc1_66da (p0 : Int) (p1 : Int) : Tre Bool :=
 .ite (0 ≤ p1) <|
 let v1 := iand .i64 (ishr .i64 p0 p1) 1
 .ret (decide (v1 = 1))
noncomputable def i_echelonc1_66da_F (p0 : Int) (p1 : Int) : Option Bool := (i_echelonc1_66da p0 p1).run some
noncomputable def i_echelonc1_66da_V : Env := ⟨tau, [], []⟩
noncomputable def i_echelonc1_66da_b : Code := (Try.f117.body).getD .skip
noncomputable def i_echelonc1_66da_I : FnI := ⟨i_echelonc1_66da_b, Try.f117.results.toList, Try.f117.resultTypes.toList, []⟩
noncomputable def i_echelonc1_66da_out (_p0 : Int) (p1 : Int) : Bool → CallOut := fun r => ⟨(.imm true .bool r), [⟨true, (.int .i64), .own, p1⟩], []⟩
set_option maxRecDepth 100000 in
theorem i_echelonc1_66da_eq : ∀ (p0 : Int) (p1 : Int), denFn i_echelonc1_66da_V i_echelonc1_66da_I ⟨[(.imm true (.int .i64) p0), (.ptr (0, 0) [])], [⟨true, (.int .i64), .own, p1⟩]⟩ = (i_echelonc1_66da p0 p1).run fun r => some (i_echelonc1_66da_out p0 p1 r) := fun _ _ => by kernel_rfl
noncomputable def i_echelonc1_66da_G (av : List AV) (rs : List Root) : Tre CallOut :=
 asCons av fun a0_ av0 =>
 asCons av0 fun a1_ av1 =>
 asEnd av1 <|
 asCons rs fun r0_ rs0 =>
 asEnd rs0 <|
 asImmZ true (.int .i64) a0_ fun d1 =>
 asPtr (0, 0) [] a1_ <|
 asRt true (.int .i64) r0_ fun m2 d3 =>
 asM .own m2 <|
 .mat (i_echelonc1_66da_F d1 d3) fun r => .ret (i_echelonc1_66da_out d1 d3 r)
noncomputable def i_echelonc1_66da_c : Ctr := ⟨[], fun ci => i_echelonc1_66da_G ci.args ci.roots, false⟩
theorem i_echelonc1_66da_env : EnvOK Try.prog .none i_echelonc1_66da_V := envOK_nil
set_option maxRecDepth 100000 in
theorem i_echelonc1_66da_ok : Contract Try.prog .none 117 i_echelonc1_66da_c := by
 have hl : LoopsOK i_echelonc1_66da_V [] i_echelonc1_66da_b := loopsOK_nil (by kernel_rfl)
 refine (contract_of (F := i_echelonc1_66da_I) tau_tys i_echelonc1_66da_env Try.func117 (by kernel_rfl) (by kernel_rfl) (by kernel_rfl) hl []).weaken ?_
 rintro ⟨av, rs⟩ co h
 have h : (i_echelonc1_66da_G av rs).run some = some co := h
 obtain ⟨a0_, av0, rfl, h_0⟩ := asCons_spec h
 obtain ⟨a1_, av1, rfl, h_1⟩ := asCons_spec h_0
 obtain ⟨rfl, h_2⟩ := asEnd_spec h_1
 obtain ⟨r0_, rs0, rfl, h_3⟩ := asCons_spec h_2
 obtain ⟨rfl, h_4⟩ := asEnd_spec h_3
 obtain ⟨d1, rfl, h_5⟩ := asImmZ_spec h_4
 obtain ⟨rfl, h_6⟩ := asPtr_spec h_5
 obtain ⟨m2, d3, rfl, h_7⟩ := asRt_spec h_6
 obtain ⟨rfl, h_8⟩ := asM_spec h_7
 exact fin_mat (i_echelonc1_66da_eq d1 d3) h_8
end Go.Proofs.Ythnkanacjhlhhaa

namespace Go.Proofs.Ythnkanacjhlhhaa
open Go Go.Abs Go.Proofs
noncomputable def slices_IndexFunc_int64_i_echelonc1_l2 (h2_0_0 : (List Int)) (h2_0_1 : Int) (h2_0_3 : Int) : Int → Tre (Int ⊕ (Int ⊕ Unit)) := fun s2 =>
 .cond (decide (s2 < h2_0_1))
  (.ite (0 ≤ s2 ∧ s2 < (h2_0_0.length : Int)) <|
  .mat (h2_0_0[s2.toNat]?) fun x1 =>
  .mat (i_echelonc1_66da_F x1 h2_0_3) fun r2 =>
  .cond r2
   (.ret (.inr (.inl s2)))
   (.ret (.inl (iwrap .i64 (s2 + 1)))))
  (.ret (.inr (.inr ())))
noncomputable def slices_IndexFunc_int64_i_echelonc1 (p0 : (List Int)) (p1 : Int) : Tre Int :=
 .mat (loopF (slices_IndexFunc_int64_i_echelonc1_l2 p0 (p0.length : Int) p1) 0) fun l3 =>
 .alt l3
  (fun a4 =>
   .ret a4)
  (fun _ =>
   .ret (-1))
noncomputable def slices_IndexFunc_int64_i_echelonc1_F (p0 : (List Int)) (p1 : Int) : Option Int := (slices_IndexFunc_int64_i_echelonc1 p0 p1).run some
noncomputable def slices_IndexFunc_int64_i_echelonc1_V : Env := ⟨tau, [(117, i_echelonc1_66da_c)], []⟩
noncomputable def slices_IndexFunc_int64_i_echelonc1_b : Code := (Try.f116.body).getD .skip
noncomputable def slices_IndexFunc_int64_i_echelonc1_l2_mk (z2_0 : Bool) (h2_0_0 : (List Int)) (h2_0_1 : Int) (h2_0_3 : Int) : Int → St := fun x => stOf [(0, (.imm z2_0 (.sl (.int .i64)) h2_0_0)), (1, (.fn 117 [(0, 0)])), (7, (.imm true (.int .i64) h2_0_1)), (8, (.imm true (.int .i64) x))] [((0, 0), some ⟨true, (.int .i64), .own, h2_0_3⟩)]
noncomputable def slices_IndexFunc_int64_i_echelonc1_l2_out (_z2_0 : Bool) (_h2_0_0 : (List Int)) (_h2_0_1 : Int) (h2_0_3 : Int) : (Int ⊕ Unit) → Ex × St
 | .inl x => (.ret, stOf [(4, (.imm true (.int .i64) x))] [((0, 0), some ⟨true, (.int .i64), .own, h2_0_3⟩)])
 | .inr x => (.exit 0, stOf [(4, .dead)] [((0, 0), some ⟨true, (.int .i64), .own, h2_0_3⟩)])
noncomputable def slices_IndexFunc_int64_i_echelonc1_l2_D (s : St) : Tre (Ex × St) :=
 asImm (.sl (.int .i64)) (s.tmps 0) fun z3 d2 =>
 asFn 117 [(0, 0)] (s.tmps 1) <|
 asImmZ true (.int .i64) (s.tmps 7) fun d6 =>
 asImmZ true (.int .i64) (s.tmps 8) fun d8 =>
 asRoot true (.int .i64) (s.roots (0, 0)) fun m10 d11 =>
 asM .own m10 <|
 .mat (loopF (slices_IndexFunc_int64_i_echelonc1_l2 d2 d6 d11) d8) fun x => .alt x (fun a0 => .ret (slices_IndexFunc_int64_i_echelonc1_l2_out z3 d2 d6 d11 (.inl a0))) (fun b0 => .ret (slices_IndexFunc_int64_i_echelonc1_l2_out z3 d2 d6 d11 (.inr b0)))
noncomputable def slices_IndexFunc_int64_i_echelonc1_l2_L : LoopI := ⟨([0, 1, 7, 8], [(0, 0)]), ([4], [(0, 0)]), slices_IndexFunc_int64_i_echelonc1_l2_D⟩
noncomputable def slices_IndexFunc_int64_i_echelonc1_A : List (Nat × LoopI) := [(2, slices_IndexFunc_int64_i_echelonc1_l2_L)]
set_option maxRecDepth 100000 in
theorem slices_IndexFunc_int64_i_echelonc1_l2_step : ∀ (z2_0 : Bool) (h2_0_0 : (List Int)) (h2_0_1 : Int) (h2_0_3 : Int) (x : Int) (c : St → Option (Ex × St)), den slices_IndexFunc_int64_i_echelonc1_V slices_IndexFunc_int64_i_echelonc1_A (loopAt slices_IndexFunc_int64_i_echelonc1_b 0) (slices_IndexFunc_int64_i_echelonc1_l2_mk z2_0 h2_0_0 h2_0_1 h2_0_3 x) (roundK slices_IndexFunc_int64_i_echelonc1_l2_L.kp slices_IndexFunc_int64_i_echelonc1_l2_L.kx c) = (slices_IndexFunc_int64_i_echelonc1_l2 h2_0_0 h2_0_1 h2_0_3 x).run (roundR (slices_IndexFunc_int64_i_echelonc1_l2_mk z2_0 h2_0_0 h2_0_1 h2_0_3) (slices_IndexFunc_int64_i_echelonc1_l2_out z2_0 h2_0_0 h2_0_1 h2_0_3) c) := fun _ _ _ _ _ _ => by
 kernel_rfl
theorem slices_IndexFunc_int64_i_echelonc1_l2_ok : LoopOK slices_IndexFunc_int64_i_echelonc1_V slices_IndexFunc_int64_i_echelonc1_A (loopAt slices_IndexFunc_int64_i_echelonc1_b 0) slices_IndexFunc_int64_i_echelonc1_l2_L := loopOK_of fun s e s' h => by
 generalize hs : restrict slices_IndexFunc_int64_i_echelonc1_l2_L.kp s = s1 at h
 have h : (slices_IndexFunc_int64_i_echelonc1_l2_D s1).run some = some (e, s') := h
 obtain ⟨z3, d2, e1, h_0⟩ := asImm_spec h
 obtain ⟨e4, h_1⟩ := asFn_spec h_0
 obtain ⟨d6, e5, h_2⟩ := asImmZ_spec h_1
 obtain ⟨d8, e7, h_3⟩ := asImmZ_spec h_2
 obtain ⟨m10, d11, e9, h_4⟩ := asRoot_spec h_3
 obtain ⟨rfl, h_5⟩ := asM_spec h_4
 obtain ⟨y, hy, hz⟩ := mat_some h_5
 refine ⟨_, _, slices_IndexFunc_int64_i_echelonc1_l2_mk z3 d2 d6 d11, slices_IndexFunc_int64_i_echelonc1_l2_out z3 d2 d6 d11, slices_IndexFunc_int64_i_echelonc1_l2 d2 d6 d11, d8, y, ?_, hy, ?_, slices_IndexFunc_int64_i_echelonc1_l2_step z3 d2 d6 d11⟩
 ·subst hs; exact restrict_eq (T := [(0, (.imm z3 (.sl (.int .i64)) d2)), (1, (.fn 117 [(0, 0)])), (7, (.imm true (.int .i64) d6)), (8, (.imm true (.int .i64) d8))]) (U := [((0, 0), some ⟨true, (.int .i64), .own, d11⟩)]) rfl rfl ⟨e1, e4, e5, e7, trivial⟩ ⟨e9, trivial⟩
 ·rcases y with x | x <;> exact Option.some.inj hz
noncomputable def slices_IndexFunc_int64_i_echelonc1_I : FnI := ⟨slices_IndexFunc_int64_i_echelonc1_b, Try.f116.results.toList, Try.f116.resultTypes.toList, slices_IndexFunc_int64_i_echelonc1_A⟩
noncomputable def slices_IndexFunc_int64_i_echelonc1_out (_zp0 : Bool) (_p0 : (List Int)) (p1 : Int) : Int → CallOut := fun r => ⟨(.imm true (.int .i64) r), [⟨true, (.int .i64), .own, p1⟩], []⟩
set_option maxRecDepth 100000 in
theorem slices_IndexFunc_int64_i_echelonc1_eq : ∀ (zp0 : Bool) (p0 : (List Int)) (p1 : Int), denFn slices_IndexFunc_int64_i_echelonc1_V slices_IndexFunc_int64_i_echelonc1_I ⟨[(.imm zp0 (.sl (.int .i64)) p0), (.fn 117 [(0, 0)])], [⟨true, (.int .i64), .own, p1⟩]⟩ = (slices_IndexFunc_int64_i_echelonc1 p0 p1).run fun r => some (slices_IndexFunc_int64_i_echelonc1_out zp0 p0 p1 r) := fun _ _ _ => by kernel_rfl
noncomputable def slices_IndexFunc_int64_i_echelonc1_G (av : List AV) (rs : List Root) : Tre CallOut :=
 asCons av fun a0_ av0 =>
 asCons av0 fun a1_ av1 =>
 asEnd av1 <|
 asCons rs fun r0_ rs0 =>
 asEnd rs0 <|
 asImm (.sl (.int .i64)) a0_ fun z2 d1 =>
 asFn 117 [(0, 0)] a1_ <|
 asRt true (.int .i64) r0_ fun m3 d4 =>
 asM .own m3 <|
 .mat (slices_IndexFunc_int64_i_echelonc1_F d1 d4) fun r => .ret (slices_IndexFunc_int64_i_echelonc1_out z2 d1 d4 r)
noncomputable def slices_IndexFunc_int64_i_echelonc1_c : Ctr := ⟨[], fun ci => slices_IndexFunc_int64_i_echelonc1_G ci.args ci.roots, false⟩
theorem slices_IndexFunc_int64_i_echelonc1_env : EnvOK Try.prog .none slices_IndexFunc_int64_i_echelonc1_V := (envOK_cons i_echelonc1_66da_ok ent117 envOK_nil)
set_option maxRecDepth 100000 in
theorem slices_IndexFunc_int64_i_echelonc1_ok : Contract Try.prog .none 116 slices_IndexFunc_int64_i_echelonc1_c := by
 have hl : LoopsOK slices_IndexFunc_int64_i_echelonc1_V slices_IndexFunc_int64_i_echelonc1_A slices_IndexFunc_int64_i_echelonc1_b := (loopsOK_all (n := 1) (by kernel_rfl) fun k hk => by
   match k, hk with
   | 0, _ => exact loopOK_at (id := 2) (L := slices_IndexFunc_int64_i_echelonc1_l2_L) (by kernel_rfl) (by kernel_rfl) slices_IndexFunc_int64_i_echelonc1_l2_ok)
 refine (contract_of (F := slices_IndexFunc_int64_i_echelonc1_I) tau_tys slices_IndexFunc_int64_i_echelonc1_env Try.func116 (by kernel_rfl) (by kernel_rfl) (by kernel_rfl) hl []).weaken ?_
 rintro ⟨av, rs⟩ co h
 have h : (slices_IndexFunc_int64_i_echelonc1_G av rs).run some = some co := h
 obtain ⟨a0_, av0, rfl, h_0⟩ := asCons_spec h
 obtain ⟨a1_, av1, rfl, h_1⟩ := asCons_spec h_0
 obtain ⟨rfl, h_2⟩ := asEnd_spec h_1
 obtain ⟨r0_, rs0, rfl, h_3⟩ := asCons_spec h_2
 obtain ⟨rfl, h_4⟩ := asEnd_spec h_3
 obtain ⟨z2, d1, rfl, h_5⟩ := asImm_spec h_4
 obtain ⟨rfl, h_6⟩ := asFn_spec h_5
 obtain ⟨m3, d4, rfl, h_7⟩ := asRt_spec h_6
 obtain ⟨rfl, h_8⟩ := asM_spec h_7
 exact fin_mat (slices_IndexFunc_int64_i_echelonc1_eq z2 d1 d4) h_8
end Go.Proofs.Ythnkanacjhlhhaa

namespace Go.Proofs.Ythnkanacjhlhhaa
open Go Go.Abs Go.Proofs
noncomputable def i_echelon_l10 (h10_0_0 : Int) (h10_0_1 : Int) (h10_0_4 : Int) : (Int × (List Int)) → Tre ((Int × (List Int)) ⊕ (List Int)) := fun s10 =>
 .cond (decide (s10.1 < h10_0_1))
  (.cond (!decide (s10.1 = h10_0_0))
   (.ite (0 ≤ s10.1 ∧ s10.1 < (s10.2.length : Int)) <|
   .mat (s10.2[s10.1.toNat]?) fun x9 =>
   .ite (0 ≤ h10_0_4) <|
   let v10 := iand .i64 (ishr .i64 x9 h10_0_4) 1
   .cond (decide (v10 = 1))
    (.ite (0 ≤ s10.1 ∧ s10.1 < (s10.2.length : Int)) <|
    .mat (s10.2[s10.1.toNat]?) fun x11 =>
    .ite (0 ≤ h10_0_0 ∧ h10_0_0 < (s10.2.length : Int)) <|
    .mat (s10.2[h10_0_0.toNat]?) fun x12 =>
    .ite (0 ≤ s10.1 ∧ s10.1 < (s10.2.length : Int)) <|
    .mat (s10.2[s10.1.toNat]?) fun _ =>
    let v14 := s10.2.set s10.1.toNat (ixor .i64 x11 x12)
    .ret (.inl (iwrap .i64 (s10.1 + 1), v14)))
    (.ret (.inl (iwrap .i64 (s10.1 + 1), s10.2))))
   (.ret (.inl (iwrap .i64 (s10.1 + 1), s10.2))))
  (.ret (.inr s10.2))
noncomputable def i_echelon_l4 : (Int × (List Int) × Int) → Tre ((Int × (List Int) × Int) ⊕ (Int × (List Int))) := fun s4 =>
 .cond (decide (s4.2.2 < 62))
  (.cond (decide (s4.1 < (s4.2.1.length : Int)))
   (.ite (0 ≤ s4.1 ∧ s4.1 ≤ (s4.2.1.length : Int) ∧ (s4.2.1.length : Int) ≤ (s4.2.1.length : Int)) <|
   .mat (slices_IndexFunc_int64_i_echelonc1_F ((s4.2.1.drop s4.1.toNat).take (((s4.2.1.length : Int) - s4.1).toNat)) s4.2.2) fun r2 =>
   .cond (decide (r2 < 0))
    (.ret (.inl (s4.1, s4.2.1, iwrap .i64 (s4.2.2 + 1))))
    (.ite (0 ≤ iwrap .i64 (s4.1 + r2) ∧ iwrap .i64 (s4.1 + r2) < (s4.2.1.length : Int)) <|
    .mat (s4.2.1[(iwrap .i64 (s4.1 + r2)).toNat]?) fun x3 =>
    .ite (0 ≤ s4.1 ∧ s4.1 < (s4.2.1.length : Int)) <|
    .mat (s4.2.1[s4.1.toNat]?) fun x4 =>
    .ite (0 ≤ s4.1 ∧ s4.1 < (s4.2.1.length : Int)) <|
    .mat (s4.2.1[s4.1.toNat]?) fun _ =>
    let v6 := s4.2.1.set s4.1.toNat x3
    .ite (0 ≤ iwrap .i64 (s4.1 + r2) ∧ iwrap .i64 (s4.1 + r2) < (v6.length : Int)) <|
    .mat (v6[(iwrap .i64 (s4.1 + r2)).toNat]?) fun _ =>
    let v8 := v6.set ((iwrap .i64 (s4.1 + r2)).toNat) x4
    .mat (loopF (i_echelon_l10 s4.1 (v8.length : Int) s4.2.2) (0, v8)) fun l15 =>
    .ret (.inl (iwrap .i64 (s4.1 + 1), l15, iwrap .i64 (s4.2.2 + 1)))))
   (.ret (.inr (s4.1, s4.2.1))))
  (.ret (.inr (s4.1, s4.2.1)))
noncomputable def i_echelon (p0 : (List Int)) : Tre (List Int) :=
 .mat (cloneR p0) fun r1 =>
 .mat (loopF i_echelon_l4 (0, r1, 0)) fun l16 =>
 .ite (0 ≤ (0 : Int) ∧ (0 : Int) ≤ l16.1 ∧ l16.1 ≤ (l16.2.length : Int)) <|
 .ret ((l16.2.drop 0).take ((l16.1 - 0).toNat))
noncomputable def i_echelon_F (p0 : (List Int)) : Option (List Int) := (i_echelon p0).run some
noncomputable def i_echelon_V : Env := ⟨tau, [(115, slices_Clone_int64_c), (116, slices_IndexFunc_int64_i_echelonc1_c)], []⟩
noncomputable def i_echelon_b : Code := (Try.f62.body).getD .skip
noncomputable def i_echelon_l10_mk (h10_0_0 : Int) (h10_0_1 : Int) (h10_0_4 : Int) : (Int × (List Int)) → St := fun x => stOf [(0, (.ref (2, 0) [])), (3, (.imm true (.int .i64) h10_0_0)), (4, (.ptr (6, 0) [])), (45, (.imm true (.int .i64) h10_0_1)), (46, (.imm true (.int .i64) x.1))] [((2, 0), some ⟨false, (.sl (.int .i64)), .own, x.2⟩), ((6, 0), some ⟨true, (.int .i64), .own, h10_0_4⟩)]
noncomputable def i_echelon_l10_out (h10_0_0 : Int) (_h10_0_1 : Int) (h10_0_4 : Int) : (List Int) → Ex × St := fun x => (.exit 2, stOf [(0, (.ref (2, 0) [])), (3, (.imm true (.int .i64) h10_0_0)), (4, (.ptr (6, 0) []))] [((2, 0), some ⟨false, (.sl (.int .i64)), .own, x⟩), ((6, 0), some ⟨true, (.int .i64), .own, h10_0_4⟩)])
noncomputable def i_echelon_l10_D (s : St) : Tre (Ex × St) :=
 asRef (2, 0) [] (s.tmps 0) <|
 asImmZ true (.int .i64) (s.tmps 3) fun d3 =>
 asPtr (6, 0) [] (s.tmps 4) <|
 asImmZ true (.int .i64) (s.tmps 45) fun d6 =>
 asImmZ true (.int .i64) (s.tmps 46) fun d8 =>
 asRoot false (.sl (.int .i64)) (s.roots (2, 0)) fun m10 d11 =>
 asM .own m10 <|
 asRoot true (.int .i64) (s.roots (6, 0)) fun m13 d14 =>
 asM .own m13 <|
 .mat (loopF (i_echelon_l10 d3 d6 d14) (d8, d11)) fun x => .ret (i_echelon_l10_out d3 d6 d14 x)
noncomputable def i_echelon_l10_L : LoopI := ⟨([0, 3, 4, 45, 46], [(2, 0), (6, 0)]), ([0, 3, 4], [(2, 0), (6, 0)]), i_echelon_l10_D⟩
noncomputable def i_echelon_l4_mk : (Int × (List Int) × Int) → St := fun x => stOf [(0, (.ref (2, 0) [])), (3, (.imm true (.int .i64) x.1)), (4, (.ptr (6, 0) []))] [((2, 0), some ⟨false, (.sl (.int .i64)), .own, x.2.1⟩), ((6, 0), some ⟨true, (.int .i64), .own, x.2.2⟩)]
noncomputable def i_echelon_l4_out : (Int × (List Int)) → Ex × St := fun x => (.exit 0, stOf [(0, (.ref (2, 0) [])), (3, (.imm true (.int .i64) x.1))] [((2, 0), some ⟨false, (.sl (.int .i64)), .own, x.2⟩)])
noncomputable def i_echelon_l4_D (s : St) : Tre (Ex × St) :=
 asRef (2, 0) [] (s.tmps 0) <|
 asImmZ true (.int .i64) (s.tmps 3) fun d3 =>
 asPtr (6, 0) [] (s.tmps 4) <|
 asRoot false (.sl (.int .i64)) (s.roots (2, 0)) fun m6 d7 =>
 asM .own m6 <|
 asRoot true (.int .i64) (s.roots (6, 0)) fun m9 d10 =>
 asM .own m9 <|
 .mat (loopF i_echelon_l4 (d3, d7, d10)) fun x => .ret (i_echelon_l4_out x)
noncomputable def i_echelon_l4_L : LoopI := ⟨([0, 3, 4], [(2, 0), (6, 0)]), ([0, 3], [(2, 0)]), i_echelon_l4_D⟩
noncomputable def i_echelon_A : List (Nat × LoopI) := [(10, i_echelon_l10_L), (4, i_echelon_l4_L)]
set_option maxRecDepth 100000 in
theorem i_echelon_l10_step : ∀ (h10_0_0 : Int) (h10_0_1 : Int) (h10_0_4 : Int) (x : (Int × (List Int))) (c : St → Option (Ex × St)), den i_echelon_V i_echelon_A (loopAt i_echelon_b 1) (i_echelon_l10_mk h10_0_0 h10_0_1 h10_0_4 x) (roundK i_echelon_l10_L.kp i_echelon_l10_L.kx c) = (i_echelon_l10 h10_0_0 h10_0_1 h10_0_4 x).run (roundR (i_echelon_l10_mk h10_0_0 h10_0_1 h10_0_4) (i_echelon_l10_out h10_0_0 h10_0_1 h10_0_4) c) := fun _ _ _ _ _ => by
 kernel_rfl
theorem i_echelon_l10_ok : LoopOK i_echelon_V i_echelon_A (loopAt i_echelon_b 1) i_echelon_l10_L := loopOK_of fun s e s' h => by
 generalize hs : restrict i_echelon_l10_L.kp s = s1 at h
 have h : (i_echelon_l10_D s1).run some = some (e, s') := h
 obtain ⟨e1, h_0⟩ := asRef_spec h
 obtain ⟨d3, e2, h_1⟩ := asImmZ_spec h_0
 obtain ⟨e4, h_2⟩ := asPtr_spec h_1
 obtain ⟨d6, e5, h_3⟩ := asImmZ_spec h_2
 obtain ⟨d8, e7, h_4⟩ := asImmZ_spec h_3
 obtain ⟨m10, d11, e9, h_5⟩ := asRoot_spec h_4
 obtain ⟨rfl, h_6⟩ := asM_spec h_5
 obtain ⟨m13, d14, e12, h_7⟩ := asRoot_spec h_6
 obtain ⟨rfl, h_8⟩ := asM_spec h_7
 obtain ⟨y, hy, hz⟩ := mat_ret h_8
 refine ⟨_, _, i_echelon_l10_mk d3 d6 d14, i_echelon_l10_out d3 d6 d14, i_echelon_l10 d3 d6 d14, (d8, d11), y, ?_, hy, ?_, i_echelon_l10_step d3 d6 d14⟩
 ·subst hs; exact restrict_eq (T := [(0, (.ref (2, 0) [])), (3, (.imm true (.int .i64) d3)), (4, (.ptr (6, 0) [])), (45, (.imm true (.int .i64) d6)), (46, (.imm true (.int .i64) d8))]) (U := [((2, 0), some ⟨false, (.sl (.int .i64)), .own, d11⟩), ((6, 0), some ⟨true, (.int .i64), .own, d14⟩)]) rfl rfl ⟨e1, e2, e4, e5, e7, trivial⟩ ⟨e9, e12, trivial⟩
 ·exact Option.some.inj hz
set_option maxRecDepth 100000 in
theorem i_echelon_l4_step : ∀ (x : (Int × (List Int) × Int)) (c : St → Option (Ex × St)), den i_echelon_V i_echelon_A (loopAt i_echelon_b 0) (i_echelon_l4_mk x) (roundK i_echelon_l4_L.kp i_echelon_l4_L.kx c) = (i_echelon_l4 x).run (roundR (i_echelon_l4_mk) (i_echelon_l4_out) c) := fun _ _ => by
 kernel_rfl
theorem i_echelon_l4_ok : LoopOK i_echelon_V i_echelon_A (loopAt i_echelon_b 0) i_echelon_l4_L := loopOK_of fun s e s' h => by
 generalize hs : restrict i_echelon_l4_L.kp s = s1 at h
 have h : (i_echelon_l4_D s1).run some = some (e, s') := h
 obtain ⟨e1, h_0⟩ := asRef_spec h
 obtain ⟨d3, e2, h_1⟩ := asImmZ_spec h_0
 obtain ⟨e4, h_2⟩ := asPtr_spec h_1
 obtain ⟨m6, d7, e5, h_3⟩ := asRoot_spec h_2
 obtain ⟨rfl, h_4⟩ := asM_spec h_3
 obtain ⟨m9, d10, e8, h_5⟩ := asRoot_spec h_4
 obtain ⟨rfl, h_6⟩ := asM_spec h_5
 obtain ⟨y, hy, hz⟩ := mat_ret h_6
 refine ⟨_, _, i_echelon_l4_mk, i_echelon_l4_out, i_echelon_l4, (d3, d7, d10), y, ?_, hy, ?_, i_echelon_l4_step⟩
 ·subst hs; exact restrict_eq (T := [(0, (.ref (2, 0) [])), (3, (.imm true (.int .i64) d3)), (4, (.ptr (6, 0) []))]) (U := [((2, 0), some ⟨false, (.sl (.int .i64)), .own, d7⟩), ((6, 0), some ⟨true, (.int .i64), .own, d10⟩)]) rfl rfl ⟨e1, e2, e4, trivial⟩ ⟨e5, e8, trivial⟩
 ·exact Option.some.inj hz
noncomputable def i_echelon_I : FnI := ⟨i_echelon_b, Try.f62.results.toList, Try.f62.resultTypes.toList, i_echelon_A⟩
noncomputable def i_echelon_out (_zp0 : Bool) (_p0 : (List Int)) : (List Int) → CallOut := fun r => ⟨(.ref (1, 0) []), [], [⟨false, (.sl (.int .i64)), .own, r⟩]⟩
set_option maxRecDepth 100000 in
theorem i_echelon_eq : ∀ (zp0 : Bool) (p0 : (List Int)), denFn i_echelon_V i_echelon_I ⟨[(.imm zp0 (.sl (.int .i64)) p0)], []⟩ = (i_echelon p0).run fun r => some (i_echelon_out zp0 p0 r) := fun _ _ => by kernel_rfl
noncomputable def i_echelon_G (av : List AV) (rs : List Root) : Tre CallOut :=
 asCons av fun a0_ av0 =>
 asEnd av0 <|
 asEnd rs <|
 asImm (.sl (.int .i64)) a0_ fun z2 d1 =>
 .mat (i_echelon_F d1) fun r => .ret (i_echelon_out z2 d1 r)
noncomputable def i_echelon_c : Ctr := ⟨[], fun ci => i_echelon_G ci.args ci.roots, false⟩
theorem i_echelon_env : EnvOK Try.prog .none i_echelon_V := (envOK_cons slices_Clone_int64_ok ent115 (envOK_cons slices_IndexFunc_int64_i_echelonc1_ok ent116 envOK_nil))
set_option maxRecDepth 100000 in
theorem i_echelon_ok : Contract Try.prog .none 62 i_echelon_c := by
 have hl : LoopsOK i_echelon_V i_echelon_A i_echelon_b := (loopsOK_all (n := 2) (by kernel_rfl) fun k hk => by
   match k, hk with
   | 0, _ => exact loopOK_at (id := 4) (L := i_echelon_l4_L) (by kernel_rfl) (by kernel_rfl) i_echelon_l4_ok
   | 1, _ => exact loopOK_at (id := 10) (L := i_echelon_l10_L) (by kernel_rfl) (by kernel_rfl) i_echelon_l10_ok)
 refine (contract_of (F := i_echelon_I) tau_tys i_echelon_env Try.func62 (by kernel_rfl) (by kernel_rfl) (by kernel_rfl) hl []).weaken ?_
 rintro ⟨av, rs⟩ co h
 have h : (i_echelon_G av rs).run some = some co := h
 obtain ⟨a0_, av0, rfl, h_0⟩ := asCons_spec h
 obtain ⟨rfl, h_1⟩ := asEnd_spec h_0
 obtain ⟨rfl, h_2⟩ := asEnd_spec h_1
 obtain ⟨z2, d1, rfl, h_3⟩ := asImm_spec h_2
 exact fin_mat (i_echelon_eq z2 d1) h_3
end Go.Proofs.Ythnkanacjhlhhaa

namespace Go.Proofs.Ythnkanacjhlhhaa
open Go Go.Abs Go.Proofs
noncomputable def slices_Equal_int64_l4 (h4_0_0 : (List Int)) (h4_0_1 : (List Int)) (h4_0_2 : Int) : Int → Tre (Int ⊕ (Bool ⊕ Unit)) := fun s4 =>
 .cond (decide (s4 < h4_0_2))
  (.ite (0 ≤ s4 ∧ s4 < (h4_0_0.length : Int)) <|
  .mat (h4_0_0[s4.toNat]?) fun x1 =>
  .ite (0 ≤ s4 ∧ s4 < (h4_0_1.length : Int)) <|
  .mat (h4_0_1[s4.toNat]?) fun x2 =>
  .cond (!decide (x1 = x2))
   (.ret (.inr (.inl false)))
   (.ret (.inl (iwrap .i64 (s4 + 1)))))
  (.ret (.inr (.inr ())))
noncomputable def slices_Equal_int64 (p0 : (List Int)) (p1 : (List Int)) : Tre Bool :=
 .cond (!decide ((p0.length : Int) = (p1.length : Int)))
  (.ret false)
  (.mat (loopF (slices_Equal_int64_l4 p0 p1 (p0.length : Int)) 0) fun l3 =>
  .alt l3
   (fun a4 =>
    .ret a4)
   (fun _ =>
    .ret true))
noncomputable def slices_Equal_int64_F (p0 : (List Int)) (p1 : (List Int)) : Option Bool := (slices_Equal_int64 p0 p1).run some
noncomputable def slices_Equal_int64_V : Env := ⟨tau, [], []⟩
noncomputable def slices_Equal_int64_b : Code := (Try.f121.body).getD .skip
noncomputable def slices_Equal_int64_l4_mk (z4_0 : Bool) (z4_1 : Bool) (h4_0_0 : (List Int)) (h4_0_1 : (List Int)) (h4_0_2 : Int) : Int → St := fun x => stOf [(0, (.imm z4_0 (.sl (.int .i64)) h4_0_0)), (1, (.imm z4_1 (.sl (.int .i64)) h4_0_1)), (12, (.imm true (.int .i64) h4_0_2)), (13, (.imm true (.int .i64) x))] []
noncomputable def slices_Equal_int64_l4_out (_z4_0 : Bool) (_z4_1 : Bool) (_h4_0_0 : (List Int)) (_h4_0_1 : (List Int)) (_h4_0_2 : Int) : (Bool ⊕ Unit) → Ex × St
 | .inl x => (.ret, stOf [(4, (.imm true .bool x))] [])
 | .inr x => (.exit 0, stOf [(4, .dead)] [])
noncomputable def slices_Equal_int64_l4_D (s : St) : Tre (Ex × St) :=
 asImm (.sl (.int .i64)) (s.tmps 0) fun z3 d2 =>
 asImm (.sl (.int .i64)) (s.tmps 1) fun z6 d5 =>
 asImmZ true (.int .i64) (s.tmps 12) fun d8 =>
 asImmZ true (.int .i64) (s.tmps 13) fun d10 =>
 .mat (loopF (slices_Equal_int64_l4 d2 d5 d8) d10) fun x => .alt x (fun a0 => .ret (slices_Equal_int64_l4_out z3 z6 d2 d5 d8 (.inl a0))) (fun b0 => .ret (slices_Equal_int64_l4_out z3 z6 d2 d5 d8 (.inr b0)))
noncomputable def slices_Equal_int64_l4_L : LoopI := ⟨([0, 1, 12, 13], []), ([4], []), slices_Equal_int64_l4_D⟩
noncomputable def slices_Equal_int64_A : List (Nat × LoopI) := [(4, slices_Equal_int64_l4_L)]
set_option maxRecDepth 100000 in
theorem slices_Equal_int64_l4_step : ∀ (z4_0 : Bool) (z4_1 : Bool) (h4_0_0 : (List Int)) (h4_0_1 : (List Int)) (h4_0_2 : Int) (x : Int) (c : St → Option (Ex × St)), den slices_Equal_int64_V slices_Equal_int64_A (loopAt slices_Equal_int64_b 0) (slices_Equal_int64_l4_mk z4_0 z4_1 h4_0_0 h4_0_1 h4_0_2 x) (roundK slices_Equal_int64_l4_L.kp slices_Equal_int64_l4_L.kx c) = (slices_Equal_int64_l4 h4_0_0 h4_0_1 h4_0_2 x).run (roundR (slices_Equal_int64_l4_mk z4_0 z4_1 h4_0_0 h4_0_1 h4_0_2) (slices_Equal_int64_l4_out z4_0 z4_1 h4_0_0 h4_0_1 h4_0_2) c) := fun _ _ _ _ _ _ _ => by
 kernel_rfl
theorem slices_Equal_int64_l4_ok : LoopOK slices_Equal_int64_V slices_Equal_int64_A (loopAt slices_Equal_int64_b 0) slices_Equal_int64_l4_L := loopOK_of fun s e s' h => by
 generalize hs : restrict slices_Equal_int64_l4_L.kp s = s1 at h
 have h : (slices_Equal_int64_l4_D s1).run some = some (e, s') := h
 obtain ⟨z3, d2, e1, h_0⟩ := asImm_spec h
 obtain ⟨z6, d5, e4, h_1⟩ := asImm_spec h_0
 obtain ⟨d8, e7, h_2⟩ := asImmZ_spec h_1
 obtain ⟨d10, e9, h_3⟩ := asImmZ_spec h_2
 obtain ⟨y, hy, hz⟩ := mat_some h_3
 refine ⟨_, _, slices_Equal_int64_l4_mk z3 z6 d2 d5 d8, slices_Equal_int64_l4_out z3 z6 d2 d5 d8, slices_Equal_int64_l4 d2 d5 d8, d10, y, ?_, hy, ?_, slices_Equal_int64_l4_step z3 z6 d2 d5 d8⟩
 ·subst hs; exact restrict_eq (T := [(0, (.imm z3 (.sl (.int .i64)) d2)), (1, (.imm z6 (.sl (.int .i64)) d5)), (12, (.imm true (.int .i64) d8)), (13, (.imm true (.int .i64) d10))]) (U := []) rfl rfl ⟨e1, e4, e7, e9, trivial⟩ trivial
 ·rcases y with x | x <;> exact Option.some.inj hz
noncomputable def slices_Equal_int64_I : FnI := ⟨slices_Equal_int64_b, Try.f121.results.toList, Try.f121.resultTypes.toList, slices_Equal_int64_A⟩
noncomputable def slices_Equal_int64_out (_zp0 : Bool) (_zp1 : Bool) (_p0 : (List Int)) (_p1 : (List Int)) : Bool → CallOut := fun r => ⟨(.imm true .bool r), [], []⟩
set_option maxRecDepth 100000 in
theorem slices_Equal_int64_eq : ∀ (zp0 : Bool) (zp1 : Bool) (p0 : (List Int)) (p1 : (List Int)), denFn slices_Equal_int64_V slices_Equal_int64_I ⟨[(.imm zp0 (.sl (.int .i64)) p0), (.imm zp1 (.sl (.int .i64)) p1)], []⟩ = (slices_Equal_int64 p0 p1).run fun r => some (slices_Equal_int64_out zp0 zp1 p0 p1 r) := fun _ _ _ _ => by kernel_rfl
noncomputable def slices_Equal_int64_G (av : List AV) (rs : List Root) : Tre CallOut :=
 asCons av fun a0_ av0 =>
 asCons av0 fun a1_ av1 =>
 asEnd av1 <|
 asEnd rs <|
 asImm (.sl (.int .i64)) a0_ fun z2 d1 =>
 asImm (.sl (.int .i64)) a1_ fun z4 d3 =>
 .mat (slices_Equal_int64_F d1 d3) fun r => .ret (slices_Equal_int64_out z2 z4 d1 d3 r)
noncomputable def slices_Equal_int64_c : Ctr := ⟨[], fun ci => slices_Equal_int64_G ci.args ci.roots, false⟩
theorem slices_Equal_int64_env : EnvOK Try.prog .none slices_Equal_int64_V := envOK_nil
set_option maxRecDepth 100000 in
theorem slices_Equal_int64_ok : Contract Try.prog .none 121 slices_Equal_int64_c := by
 have hl : LoopsOK slices_Equal_int64_V slices_Equal_int64_A slices_Equal_int64_b := (loopsOK_all (n := 1) (by kernel_rfl) fun k hk => by
   match k, hk with
   | 0, _ => exact loopOK_at (id := 4) (L := slices_Equal_int64_l4_L) (by kernel_rfl) (by kernel_rfl) slices_Equal_int64_l4_ok)
 refine (contract_of (F := slices_Equal_int64_I) tau_tys slices_Equal_int64_env Try.func121 (by kernel_rfl) (by kernel_rfl) (by kernel_rfl) hl []).weaken ?_
 rintro ⟨av, rs⟩ co h
 have h : (slices_Equal_int64_G av rs).run some = some co := h
 obtain ⟨a0_, av0, rfl, h_0⟩ := asCons_spec h
 obtain ⟨a1_, av1, rfl, h_1⟩ := asCons_spec h_0
 obtain ⟨rfl, h_2⟩ := asEnd_spec h_1
 obtain ⟨rfl, h_3⟩ := asEnd_spec h_2
 obtain ⟨z2, d1, rfl, h_4⟩ := asImm_spec h_3
 obtain ⟨z4, d3, rfl, h_5⟩ := asImm_spec h_4
 exact fin_mat (slices_Equal_int64_eq z2 z4 d1 d3) h_5
end Go.Proofs.Ythnkanacjhlhhaa

namespace Go.Proofs.Ythnkanacjhlhhaa
open Go Go.Abs Go.Proofs
noncomputable def i_spacesc2_1338_l3 (g_ : (List Int) → Int → (List TMatrix) → Int → Option (List TMatrix)) (h3_0_0 : (List Int)) (h3_0_2 : Int) (h3_0_4 : Int) : (Int × (List TMatrix)) → Tre ((Int × (List TMatrix)) ⊕ (List TMatrix)) := fun s3 =>
 .ite (0 ≤ h3_0_4) <|
 .cond (decide (s3.1 < ishl .i64 1 h3_0_4))
  (.mat (cloneR h3_0_0) fun r2 =>
  .ite ((r2.length + 1) * 8 ≤ appendMax ∧ 1 ≤ 8) <|
  .mat (i_echelon_F (r2 ++ ([s3.1]))) fun r3 =>
  .mat (slices_Equal_int64_F r3 (r2 ++ ([s3.1]))) fun r4 =>
  .cond r4
   (.mat (g_ (r2 ++ ([s3.1])) h3_0_2 s3.2 h3_0_4) fun r5 =>
   .ret (.inl (iwrap .i64 (s3.1 + 1), r5)))
   (.ret (.inl (iwrap .i64 (s3.1 + 1), s3.2))))
  (.ret (.inr s3.2))
noncomputable def i_spacesc2_1338 (g_ : (List Int) → Int → (List TMatrix) → Int → Option (List TMatrix)) (p0 : (List Int)) (p1 : Int) (p2 : (List TMatrix)) (p3 : Int) : Tre (List TMatrix) :=
 .cond (decide ((p0.length : Int) = p1))
  (.mat (cloneR p0) fun r1 =>
  .ite ((p2.length + 1) * 32 ≤ appendMax ∧ 1 ≤ 32) <|
  .ret (p2 ++ ([(p3, (r1, ()))])))
  (.mat (loopF ((i_spacesc2_1338_l3 g_) p0 p1 p3) (1, p2)) fun l6 =>
  .ret l6)
noncomputable def i_spacesc2_1338_R : Nat → (List Int) → Int → (List TMatrix) → Int → Option (List TMatrix)
 | 0 => fun _ _ _ _ => none
 | n + 1 => fun p0 p1 p2 p3 => (i_spacesc2_1338 (i_spacesc2_1338_R n) p0 p1 p2 p3).run some
noncomputable def i_spacesc2_1338_F (p0 : (List Int)) (p1 : Int) (p2 : (List TMatrix)) (p3 : Int) : Option (List TMatrix) := i_spacesc2_1338_R 1000000000000 p0 p1 p2 p3
noncomputable def i_spacesc2_1338_out (_g_ : (List Int) → Int → (List TMatrix) → Int → Option (List TMatrix)) (_zp0 : Bool) (_p0 : (List Int)) (p1 : Int) (_p2 : (List TMatrix)) (p3 : Int) : (List TMatrix) → CallOut := fun r => ⟨.tnil, [⟨true, (.int .i64), .own, p1⟩, ⟨true, (.sl kMatrix), .own, r⟩, ⟨true, (.int .i64), .own, p3⟩, ⟨true, .fn, .own, (some (125, [(0, 0), (0, 1), (0, 2), (0, 3)]) : Option (Nat × List RName))⟩], []⟩
noncomputable def i_spacesc2_1338_G (g_ : (List Int) → Int → (List TMatrix) → Int → Option (List TMatrix)) (av : List AV) (rs : List Root) : Tre CallOut :=
 asCons av fun a0_ av0 =>
 asCons av0 fun a1_ av1 =>
 asCons av1 fun a2_ av2 =>
 asCons av2 fun a3_ av3 =>
 asCons av3 fun a4_ av4 =>
 asEnd av4 <|
 asCons rs fun r0_ rs0 =>
 asCons rs0 fun r1_ rs1 =>
 asCons rs1 fun r2_ rs2 =>
 asCons rs2 fun r3_ rs3 =>
 asEnd rs3 <|
 asImm (.sl (.int .i64)) a0_ fun z2 d1 =>
 asPtr (0, 0) [] a1_ <|
 asPtr (0, 1) [] a2_ <|
 asPtr (0, 2) [] a3_ <|
 asPtr (0, 3) [] a4_ <|
 asRt true (.int .i64) r0_ fun m3 d4 =>
 asM .own m3 <|
 asRt true (.sl kMatrix) r1_ fun m5 d6 =>
 asM .own m5 <|
 asRt true (.int .i64) r2_ fun m7 d8 =>
 asM .own m7 <|
 asRt true .fn r3_ fun m9 d10 =>
 asM .own m9 <|
 asD d10 (some (125, [(0, 0), (0, 1), (0, 2), (0, 3)]) : Option (Nat × List RName)) <|
 .mat (g_ d1 d4 d6 d8) fun r => .ret ((i_spacesc2_1338_out g_) z2 d1 d4 d6 d8 r)
noncomputable def i_spacesc2_1338_c (g_ : (List Int) → Int → (List TMatrix) → Int → Option (List TMatrix)) : Ctr := ⟨[], fun ci => (i_spacesc2_1338_G g_) ci.args ci.roots, false⟩
noncomputable def i_spacesc2_1338_V (g_ : (List Int) → Int → (List TMatrix) → Int → Option (List TMatrix)) : Env := ⟨tau, [(126, i_size_int64_c), (115, slices_Clone_int64_c), (62, i_echelon_c), (121, slices_Equal_int64_c), (125, (i_spacesc2_1338_c g_))], []⟩
noncomputable def i_spacesc2_1338_b (_g_ : (List Int) → Int → (List TMatrix) → Int → Option (List TMatrix)) : Code := (Try.f125.body).getD .skip
noncomputable def i_spacesc2_1338_l3_mk (_g_ : (List Int) → Int → (List TMatrix) → Int → Option (List TMatrix)) (z3_0 : Bool) (h3_0_0 : (List Int)) (h3_0_2 : Int) (h3_0_4 : Int) : (Int × (List TMatrix)) → St := fun x => stOf [(0, (.imm z3_0 (.sl (.int .i64)) h3_0_0)), (3, (.ptr (0, 2) [])), (4, (.ptr (0, 3) [])), (6, (.imm true (.int .i64) x.1))] [((0, 0), some ⟨true, (.int .i64), .own, h3_0_2⟩), ((0, 1), some ⟨true, (.sl kMatrix), .own, x.2⟩), ((0, 2), some ⟨true, (.int .i64), .own, h3_0_4⟩), ((0, 3), some ⟨true, .fn, .own, (some (125, [(0, 0), (0, 1), (0, 2), (0, 3)]) : Option (Nat × List RName))⟩)]
noncomputable def i_spacesc2_1338_l3_out (_g_ : (List Int) → Int → (List TMatrix) → Int → Option (List TMatrix)) (_z3_0 : Bool) (_h3_0_0 : (List Int)) (h3_0_2 : Int) (h3_0_4 : Int) : (List TMatrix) → Ex × St := fun x => (.exit 0, stOf [] [((0, 0), some ⟨true, (.int .i64), .own, h3_0_2⟩), ((0, 1), some ⟨true, (.sl kMatrix), .own, x⟩), ((0, 2), some ⟨true, (.int .i64), .own, h3_0_4⟩), ((0, 3), some ⟨true, .fn, .own, (some (125, [(0, 0), (0, 1), (0, 2), (0, 3)]) : Option (Nat × List RName))⟩)])
noncomputable def i_spacesc2_1338_l3_D (g_ : (List Int) → Int → (List TMatrix) → Int → Option (List TMatrix)) (s : St) : Tre (Ex × St) :=
 asImm (.sl (.int .i64)) (s.tmps 0) fun z3 d2 =>
 asPtr (0, 2) [] (s.tmps 3) <|
 asPtr (0, 3) [] (s.tmps 4) <|
 asImmZ true (.int .i64) (s.tmps 6) fun d7 =>
 asRoot true (.int .i64) (s.roots (0, 0)) fun m9 d10 =>
 asM .own m9 <|
 asRoot true (.sl kMatrix) (s.roots (0, 1)) fun m12 d13 =>
 asM .own m12 <|
 asRoot true (.int .i64) (s.roots (0, 2)) fun m15 d16 =>
 asM .own m15 <|
 asRoot true .fn (s.roots (0, 3)) fun m18 d19 =>
 asM .own m18 <|
 asD d19 (some (125, [(0, 0), (0, 1), (0, 2), (0, 3)]) : Option (Nat × List RName)) <|
 .mat (loopF ((i_spacesc2_1338_l3 g_) d2 d10 d16) (d7, d13)) fun x => .ret ((i_spacesc2_1338_l3_out g_) z3 d2 d10 d16 x)
noncomputable def i_spacesc2_1338_l3_L (g_ : (List Int) → Int → (List TMatrix) → Int → Option (List TMatrix)) : LoopI := ⟨([0, 3, 4, 6], [(0, 0), (0, 1), (0, 2), (0, 3)]), ([], [(0, 0), (0, 1), (0, 2), (0, 3)]), (i_spacesc2_1338_l3_D g_)⟩
noncomputable def i_spacesc2_1338_A (g_ : (List Int) → Int → (List TMatrix) → Int → Option (List TMatrix)) : List (Nat × LoopI) := [(3, (i_spacesc2_1338_l3_L g_))]
set_option maxRecDepth 100000 in
theorem i_spacesc2_1338_l3_step (g_ : (List Int) → Int → (List TMatrix) → Int → Option (List TMatrix)) : ∀ (z3_0 : Bool) (h3_0_0 : (List Int)) (h3_0_2 : Int) (h3_0_4 : Int) (x : (Int × (List TMatrix))) (c : St → Option (Ex × St)), den (i_spacesc2_1338_V g_) (i_spacesc2_1338_A g_) (loopAt (i_spacesc2_1338_b g_) 0) ((i_spacesc2_1338_l3_mk g_) z3_0 h3_0_0 h3_0_2 h3_0_4 x) (roundK (i_spacesc2_1338_l3_L g_).kp (i_spacesc2_1338_l3_L g_).kx c) = ((i_spacesc2_1338_l3 g_) h3_0_0 h3_0_2 h3_0_4 x).run (roundR ((i_spacesc2_1338_l3_mk g_) z3_0 h3_0_0 h3_0_2 h3_0_4) ((i_spacesc2_1338_l3_out g_) z3_0 h3_0_0 h3_0_2 h3_0_4) c) := fun _ _ _ _ _ _ => by
 kernel_rfl
theorem i_spacesc2_1338_l3_ok (g_ : (List Int) → Int → (List TMatrix) → Int → Option (List TMatrix)) : LoopOK (i_spacesc2_1338_V g_) (i_spacesc2_1338_A g_) (loopAt (i_spacesc2_1338_b g_) 0) (i_spacesc2_1338_l3_L g_) := loopOK_of fun s e s' h => by
 generalize hs : restrict (i_spacesc2_1338_l3_L g_).kp s = s1 at h
 have h : ((i_spacesc2_1338_l3_D g_) s1).run some = some (e, s') := h
 obtain ⟨z3, d2, e1, h_0⟩ := asImm_spec h
 obtain ⟨e4, h_1⟩ := asPtr_spec h_0
 obtain ⟨e5, h_2⟩ := asPtr_spec h_1
 obtain ⟨d7, e6, h_3⟩ := asImmZ_spec h_2
 obtain ⟨m9, d10, e8, h_4⟩ := asRoot_spec h_3
 obtain ⟨rfl, h_5⟩ := asM_spec h_4
 obtain ⟨m12, d13, e11, h_6⟩ := asRoot_spec h_5
 obtain ⟨rfl, h_7⟩ := asM_spec h_6
 obtain ⟨m15, d16, e14, h_8⟩ := asRoot_spec h_7
 obtain ⟨rfl, h_9⟩ := asM_spec h_8
 obtain ⟨m18, d19, e17, h_10⟩ := asRoot_spec h_9
 obtain ⟨rfl, h_11⟩ := asM_spec h_10
 obtain ⟨rfl, h_12⟩ := asD_spec h_11
 obtain ⟨y, hy, hz⟩ := mat_ret h_12
 refine ⟨_, _, (i_spacesc2_1338_l3_mk g_) z3 d2 d10 d16, (i_spacesc2_1338_l3_out g_) z3 d2 d10 d16, (i_spacesc2_1338_l3 g_) d2 d10 d16, (d7, d13), y, ?_, hy, ?_, (i_spacesc2_1338_l3_step g_) z3 d2 d10 d16⟩
 ·subst hs; exact restrict_eq (T := [(0, (.imm z3 (.sl (.int .i64)) d2)), (3, (.ptr (0, 2) [])), (4, (.ptr (0, 3) [])), (6, (.imm true (.int .i64) d7))]) (U := [((0, 0), some ⟨true, (.int .i64), .own, d10⟩), ((0, 1), some ⟨true, (.sl kMatrix), .own, d13⟩), ((0, 2), some ⟨true, (.int .i64), .own, d16⟩), ((0, 3), some ⟨true, .fn, .own, (some (125, [(0, 0), (0, 1), (0, 2), (0, 3)]) : Option (Nat × List RName))⟩)]) rfl rfl ⟨e1, e4, e5, e6, trivial⟩ ⟨e8, e11, e14, e17, trivial⟩
 ·exact Option.some.inj hz
noncomputable def i_spacesc2_1338_I (g_ : (List Int) → Int → (List TMatrix) → Int → Option (List TMatrix)) : FnI := ⟨(i_spacesc2_1338_b g_), Try.f125.results.toList, Try.f125.resultTypes.toList, (i_spacesc2_1338_A g_)⟩
set_option maxRecDepth 100000 in
theorem i_spacesc2_1338_eq (g_ : (List Int) → Int → (List TMatrix) → Int → Option (List TMatrix)) : ∀ (zp0 : Bool) (p0 : (List Int)) (p1 : Int) (p2 : (List TMatrix)) (p3 : Int), denFn (i_spacesc2_1338_V g_) (i_spacesc2_1338_I g_) ⟨[(.imm zp0 (.sl (.int .i64)) p0), (.ptr (0, 0) []), (.ptr (0, 1) []), (.ptr (0, 2) []), (.ptr (0, 3) [])], [⟨true, (.int .i64), .own, p1⟩, ⟨true, (.sl kMatrix), .own, p2⟩, ⟨true, (.int .i64), .own, p3⟩, ⟨true, .fn, .own, (some (125, [(0, 0), (0, 1), (0, 2), (0, 3)]) : Option (Nat × List RName))⟩]⟩ = ((i_spacesc2_1338 g_) p0 p1 p2 p3).run fun r => some ((i_spacesc2_1338_out g_) zp0 p0 p1 p2 p3 r) := fun _ _ _ _ _ => by kernel_rfl
theorem i_spacesc2_1338_env (g_ : (List Int) → Int → (List TMatrix) → Int → Option (List TMatrix)) (hg_ : Contract Try.prog .none 125 (i_spacesc2_1338_c g_)) : EnvOK Try.prog .none (i_spacesc2_1338_V g_) := (envOK_cons i_size_int64_ok ent126 (envOK_cons slices_Clone_int64_ok ent115 (envOK_cons i_echelon_ok ent62 (envOK_cons slices_Equal_int64_ok ent121 (envOK_cons hg_ ent125 envOK_nil)))))
set_option maxRecDepth 100000 in
theorem i_spacesc2_1338_okS (g_ : (List Int) → Int → (List TMatrix) → Int → Option (List TMatrix)) (hg_ : Contract Try.prog .none 125 (i_spacesc2_1338_c g_)) : Contract Try.prog .none 125 (i_spacesc2_1338_c (fun p0 p1 p2 p3 => (i_spacesc2_1338 g_ p0 p1 p2 p3).run some)) := by
 have hl : LoopsOK (i_spacesc2_1338_V g_) (i_spacesc2_1338_A g_) (i_spacesc2_1338_b g_) := (loopsOK_all (n := 1) (by kernel_rfl) fun k hk => by
   match k, hk with
   | 0, _ => exact loopOK_at (id := 3) (L := (i_spacesc2_1338_l3_L g_)) (by kernel_rfl) (by kernel_rfl) (i_spacesc2_1338_l3_ok g_))
 refine (contract_of (F := (i_spacesc2_1338_I g_)) tau_tys ((i_spacesc2_1338_env g_) hg_) Try.func125 (by kernel_rfl) (by kernel_rfl) (by kernel_rfl) hl []).weaken ?_
 rintro ⟨av, rs⟩ co h
 have h : (i_spacesc2_1338_G (fun p0 p1 p2 p3 => (i_spacesc2_1338 g_ p0 p1 p2 p3).run some) av rs).run some = some co := h
 obtain ⟨a0_, av0, rfl, h_0⟩ := asCons_spec h
 obtain ⟨a1_, av1, rfl, h_1⟩ := asCons_spec h_0
 obtain ⟨a2_, av2, rfl, h_2⟩ := asCons_spec h_1
 obtain ⟨a3_, av3, rfl, h_3⟩ := asCons_spec h_2
 obtain ⟨a4_, av4, rfl, h_4⟩ := asCons_spec h_3
 obtain ⟨rfl, h_5⟩ := asEnd_spec h_4
 obtain ⟨r0_, rs0, rfl, h_6⟩ := asCons_spec h_5
 obtain ⟨r1_, rs1, rfl, h_7⟩ := asCons_spec h_6
 obtain ⟨r2_, rs2, rfl, h_8⟩ := asCons_spec h_7
 obtain ⟨r3_, rs3, rfl, h_9⟩ := asCons_spec h_8
 obtain ⟨rfl, h_10⟩ := asEnd_spec h_9
 obtain ⟨z2, d1, rfl, h_11⟩ := asImm_spec h_10
 obtain ⟨rfl, h_12⟩ := asPtr_spec h_11
 obtain ⟨rfl, h_13⟩ := asPtr_spec h_12
 obtain ⟨rfl, h_14⟩ := asPtr_spec h_13
 obtain ⟨rfl, h_15⟩ := asPtr_spec h_14
 obtain ⟨m3, d4, rfl, h_16⟩ := asRt_spec h_15
 obtain ⟨rfl, h_17⟩ := asM_spec h_16
 obtain ⟨m5, d6, rfl, h_18⟩ := asRt_spec h_17
 obtain ⟨rfl, h_19⟩ := asM_spec h_18
 obtain ⟨m7, d8, rfl, h_20⟩ := asRt_spec h_19
 obtain ⟨rfl, h_21⟩ := asM_spec h_20
 obtain ⟨m9, d10, rfl, h_22⟩ := asRt_spec h_21
 obtain ⟨rfl, h_23⟩ := asM_spec h_22
 obtain ⟨rfl, h_24⟩ := asD_spec h_23
 exact fin_mat ((i_spacesc2_1338_eq g_) z2 d1 d4 d6 d8) h_24
theorem i_spacesc2_1338_ok0 : Contract Try.prog .none 125 (i_spacesc2_1338_c (fun _ _ _ _ => none)) := Contract.vacuous (by
 rintro ⟨av, rs⟩ co h
 have h : (i_spacesc2_1338_G (fun _ _ _ _ => none) av rs).run some = some co := h
 obtain ⟨a0_, av0, rfl, h_0⟩ := asCons_spec h
 obtain ⟨a1_, av1, rfl, h_1⟩ := asCons_spec h_0
 obtain ⟨a2_, av2, rfl, h_2⟩ := asCons_spec h_1
 obtain ⟨a3_, av3, rfl, h_3⟩ := asCons_spec h_2
 obtain ⟨a4_, av4, rfl, h_4⟩ := asCons_spec h_3
 obtain ⟨rfl, h_5⟩ := asEnd_spec h_4
 obtain ⟨r0_, rs0, rfl, h_6⟩ := asCons_spec h_5
 obtain ⟨r1_, rs1, rfl, h_7⟩ := asCons_spec h_6
 obtain ⟨r2_, rs2, rfl, h_8⟩ := asCons_spec h_7
 obtain ⟨r3_, rs3, rfl, h_9⟩ := asCons_spec h_8
 obtain ⟨rfl, h_10⟩ := asEnd_spec h_9
 obtain ⟨z2, d1, rfl, h_11⟩ := asImm_spec h_10
 obtain ⟨rfl, h_12⟩ := asPtr_spec h_11
 obtain ⟨rfl, h_13⟩ := asPtr_spec h_12
 obtain ⟨rfl, h_14⟩ := asPtr_spec h_13
 obtain ⟨rfl, h_15⟩ := asPtr_spec h_14
 obtain ⟨m3, d4, rfl, h_16⟩ := asRt_spec h_15
 obtain ⟨rfl, h_17⟩ := asM_spec h_16
 obtain ⟨m5, d6, rfl, h_18⟩ := asRt_spec h_17
 obtain ⟨rfl, h_19⟩ := asM_spec h_18
 obtain ⟨m7, d8, rfl, h_20⟩ := asRt_spec h_19
 obtain ⟨rfl, h_21⟩ := asM_spec h_20
 obtain ⟨m9, d10, rfl, h_22⟩ := asRt_spec h_21
 obtain ⟨rfl, h_23⟩ := asM_spec h_22
 obtain ⟨rfl, h_24⟩ := asD_spec h_23
 exact mat_none_absurd h_24)
theorem i_spacesc2_1338_okN : ∀ n, Contract Try.prog .none 125 (i_spacesc2_1338_c (i_spacesc2_1338_R n))
 | 0 => i_spacesc2_1338_ok0
 | n + 1 => i_spacesc2_1338_okS _ (i_spacesc2_1338_okN n)
theorem i_spacesc2_1338_ok : Contract Try.prog .none 125 (i_spacesc2_1338_c i_spacesc2_1338_F) := i_spacesc2_1338_okN _
end Go.Proofs.Ythnkanacjhlhhaa

namespace Go.Proofs.Ythnkanacjhlhhaa
open Go Go.Abs Go.Proofs
noncomputable def bits_Len64 (p0 : Int) : Tre Int :=
 .cond (decide (p0 ≥ 4294967296))
  (.cond (decide (ishr .u64 p0 32 ≥ 65536))
   (let v1 := ishr .u64 (ishr .u64 p0 32) 16
   .cond (decide (v1 ≥ 256))
    (let v2 := iwrap .u8 (ishr .u64 v1 8)
    .ite (0 ≤ v2) <|
    .mat ((⟨#[0, 1, 2, 2, 3, 3, 3, 3, 4, 4, 4, 4, 4, 4, 4, 4, 5, 5, 5, 5, 5, 5, 5, 5, 5, 5, 5, 5, 5, 5, 5, 5, 6, 6, 6, 6, 6, 6, 6, 6, 6, 6, 6, 6, 6, 6, 6, 6, 6, 6, 6, 6, 6, 6, 6, 6, 6, 6, 6, 6, 6, 6, 6, 6, 7, 7, 7, 7, 7, 7, 7, 7, 7, 7, 7, 7, 7, 7, 7, 7, 7, 7, 7, 7, 7, 7, 7, 7, 7, 7, 7, 7, 7, 7, 7, 7, 7, 7, 7, 7, 7, 7, 7, 7, 7, 7, 7, 7, 7, 7, 7, 7, 7, 7, 7, 7, 7, 7, 7, 7, 7, 7, 7, 7, 7, 7, 7, 7, 8, 8, 8, 8, 8, 8, 8, 8, 8, 8, 8, 8, 8, 8, 8, 8, 8, 8, 8, 8, 8, 8, 8, 8, 8, 8, 8, 8, 8, 8, 8, 8, 8, 8, 8, 8, 8, 8, 8, 8, 8, 8, 8, 8, 8, 8, 8, 8, 8, 8, 8, 8, 8, 8, 8, 8, 8, 8, 8, 8, 8, 8, 8, 8, 8, 8, 8, 8, 8, 8, 8, 8, 8, 8, 8, 8, 8, 8, 8, 8, 8, 8, 8, 8, 8, 8, 8, 8, 8, 8, 8, 8, 8, 8, 8, 8, 8, 8, 8, 8, 8, 8, 8, 8, 8, 8, 8, 8, 8, 8, 8, 8, 8, 8, 8, 8, 8, 8, 8, 8, 8, 8, 8, 8, 8, 8, 8, 8]⟩ : ByteArray)[v2.toNat]?) fun b3 =>
    let v4 := iwrap .i64 (b3.toNat : Int)
    .ret (iwrap .i64 (56 + v4)))
    (.ite (0 ≤ iwrap .u8 v1) <|
    .mat ((⟨#[0, 1, 2, 2, 3, 3, 3, 3, 4, 4, 4, 4, 4, 4, 4, 4, 5, 5, 5, 5, 5, 5, 5, 5, 5, 5, 5, 5, 5, 5, 5, 5, 6, 6, 6, 6, 6, 6, 6, 6, 6, 6, 6, 6, 6, 6, 6, 6, 6, 6, 6, 6, 6, 6, 6, 6, 6, 6, 6, 6, 6, 6, 6, 6, 7, 7, 7, 7, 7, 7, 7, 7, 7, 7, 7, 7, 7, 7, 7, 7, 7, 7, 7, 7, 7, 7, 7, 7, 7, 7, 7, 7, 7, 7, 7, 7, 7, 7, 7, 7, 7, 7, 7, 7, 7, 7, 7, 7, 7, 7, 7, 7, 7, 7, 7, 7, 7, 7, 7, 7, 7, 7, 7, 7, 7, 7, 7, 7, 8, 8, 8, 8, 8, 8, 8, 8, 8, 8, 8, 8, 8, 8, 8, 8, 8, 8, 8, 8, 8, 8, 8, 8, 8, 8, 8, 8, 8, 8, 8, 8, 8, 8, 8, 8, 8, 8, 8, 8, 8, 8, 8, 8, 8, 8, 8, 8, 8, 8, 8, 8, 8, 8, 8, 8, 8, 8, 8, 8, 8, 8, 8, 8, 8, 8, 8, 8, 8, 8, 8, 8, 8, 8, 8, 8, 8, 8, 8, 8, 8, 8, 8, 8, 8, 8, 8, 8, 8, 8, 8, 8, 8, 8, 8, 8, 8, 8, 8, 8, 8, 8, 8, 8, 8, 8, 8, 8, 8, 8, 8, 8, 8, 8, 8, 8, 8, 8, 8, 8, 8, 8, 8, 8, 8, 8, 8, 8]⟩ : ByteArray)[(iwrap .u8 v1).toNat]?) fun b5 =>
    let v6 := iwrap .i64 (b5.toNat : Int)
    .ret (iwrap .i64 (48 + v6))))
   (.cond (decide (ishr .u64 p0 32 ≥ 256))
    (let v7 := ishr .u64 (ishr .u64 p0 32) 8
    .ite (0 ≤ iwrap .u8 v7) <|
    .mat ((⟨#[0, 1, 2, 2, 3, 3, 3, 3, 4, 4, 4, 4, 4, 4, 4, 4, 5, 5, 5, 5, 5, 5, 5, 5, 5, 5, 5, 5, 5, 5, 5, 5, 6, 6, 6, 6, 6, 6, 6, 6, 6, 6, 6, 6, 6, 6, 6, 6, 6, 6, 6, 6, 6, 6, 6, 6, 6, 6, 6, 6, 6, 6, 6, 6, 7, 7, 7, 7, 7, 7, 7, 7, 7, 7, 7, 7, 7, 7, 7, 7, 7, 7, 7, 7, 7, 7, 7, 7, 7, 7, 7, 7, 7, 7, 7, 7, 7, 7, 7, 7, 7, 7, 7, 7, 7, 7, 7, 7, 7, 7, 7, 7, 7, 7, 7, 7, 7, 7, 7, 7, 7, 7, 7, 7, 7, 7, 7, 7, 8, 8, 8, 8, 8, 8, 8, 8, 8, 8, 8, 8, 8, 8, 8, 8, 8, 8, 8, 8, 8, 8, 8, 8, 8, 8, 8, 8, 8, 8, 8, 8, 8, 8, 8, 8, 8, 8, 8, 8, 8, 8, 8, 8, 8, 8, 8, 8, 8, 8, 8, 8, 8, 8, 8, 8, 8, 8, 8, 8, 8, 8, 8, 8, 8, 8, 8, 8, 8, 8, 8, 8, 8, 8, 8, 8, 8, 8, 8, 8, 8, 8, 8, 8, 8, 8, 8, 8, 8, 8, 8, 8, 8, 8, 8, 8, 8, 8, 8, 8, 8, 8, 8, 8, 8, 8, 8, 8, 8, 8, 8, 8, 8, 8, 8, 8, 8, 8, 8, 8, 8, 8, 8, 8, 8, 8, 8, 8]⟩ : ByteArray)[(iwrap .u8 v7).toNat]?) fun b8 =>
    let v9 := iwrap .i64 (b8.toNat : Int)
    .ret (iwrap .i64 (40 + v9)))
    (let v10 := iwrap .u8 (ishr .u64 p0 32)
    .ite (0 ≤ v10) <|
    .mat ((⟨#[0, 1, 2, 2, 3, 3, 3, 3, 4, 4, 4, 4, 4, 4, 4, 4, 5, 5, 5, 5, 5, 5, 5, 5, 5, 5, 5, 5, 5, 5, 5, 5, 6, 6, 6, 6, 6, 6, 6, 6, 6, 6, 6, 6, 6, 6, 6, 6, 6, 6, 6, 6, 6, 6, 6, 6, 6, 6, 6, 6, 6, 6, 6, 6, 7, 7, 7, 7, 7, 7, 7, 7, 7, 7, 7, 7, 7, 7, 7, 7, 7, 7, 7, 7, 7, 7, 7, 7, 7, 7, 7, 7, 7, 7, 7, 7, 7, 7, 7, 7, 7, 7, 7, 7, 7, 7, 7, 7, 7, 7, 7, 7, 7, 7, 7, 7, 7, 7, 7, 7, 7, 7, 7, 7, 7, 7, 7, 7, 8, 8, 8, 8, 8, 8, 8, 8, 8, 8, 8, 8, 8, 8, 8, 8, 8, 8, 8, 8, 8, 8, 8, 8, 8, 8, 8, 8, 8, 8, 8, 8, 8, 8, 8, 8, 8, 8, 8, 8, 8, 8, 8, 8, 8, 8, 8, 8, 8, 8, 8, 8, 8, 8, 8, 8, 8, 8, 8, 8, 8, 8, 8, 8, 8, 8, 8, 8, 8, 8, 8, 8, 8, 8, 8, 8, 8, 8, 8, 8, 8, 8, 8, 8, 8, 8, 8, 8, 8, 8, 8, 8, 8, 8, 8, 8, 8, 8, 8, 8, 8, 8, 8, 8, 8, 8, 8, 8, 8, 8, 8, 8, 8, 8, 8, 8, 8, 8, 8, 8, 8, 8, 8, 8, 8, 8, 8, 8]⟩ : ByteArray)[v10.toNat]?) fun b11 =>
    let v12 := iwrap .i64 (b11.toNat : Int)
    .ret (iwrap .i64 (32 + v12)))))
  (.cond (decide (p0 ≥ 65536))
   (.cond (decide (ishr .u64 p0 16 ≥ 256))
    (let v13 := ishr .u64 (ishr .u64 p0 16) 8
    .ite (0 ≤ iwrap .u8 v13) <|
    .mat ((⟨#[0, 1, 2, 2, 3, 3, 3, 3, 4, 4, 4, 4, 4, 4, 4, 4, 5, 5, 5, 5, 5, 5, 5, 5, 5, 5, 5, 5, 5, 5, 5, 5, 6, 6, 6, 6, 6, 6, 6, 6, 6, 6, 6, 6, 6, 6, 6, 6, 6, 6, 6, 6, 6, 6, 6, 6, 6, 6, 6, 6, 6, 6, 6, 6, 7, 7, 7, 7, 7, 7, 7, 7, 7, 7, 7, 7, 7, 7, 7, 7, 7, 7, 7, 7, 7, 7, 7, 7, 7, 7, 7, 7, 7, 7, 7, 7, 7, 7, 7, 7, 7, 7, 7, 7, 7, 7, 7, 7, 7, 7, 7, 7, 7, 7, 7, 7, 7, 7, 7, 7, 7, 7, 7, 7, 7, 7, 7, 7, 8, 8, 8, 8, 8, 8, 8, 8, 8, 8, 8, 8, 8, 8, 8, 8, 8, 8, 8, 8, 8, 8, 8, 8, 8, 8, 8, 8, 8, 8, 8, 8, 8, 8, 8, 8, 8, 8, 8, 8, 8, 8, 8, 8, 8, 8, 8, 8, 8, 8, 8, 8, 8, 8, 8, 8, 8, 8, 8, 8, 8, 8, 8, 8, 8, 8, 8, 8, 8, 8, 8, 8, 8, 8, 8, 8, 8, 8, 8, 8, 8, 8, 8, 8, 8, 8, 8, 8, 8, 8, 8, 8, 8, 8, 8, 8, 8, 8, 8, 8, 8, 8, 8, 8, 8, 8, 8, 8, 8, 8, 8, 8, 8, 8, 8, 8, 8, 8, 8, 8, 8, 8, 8, 8, 8, 8, 8, 8]⟩ : ByteArray)[(iwrap .u8 v13).toNat]?) fun b14 =>
    let v15 := iwrap .i64 (b14.toNat : Int)
    .ret (iwrap .i64 (24 + v15)))
    (let v16 := iwrap .u8 (ishr .u64 p0 16)
    .ite (0 ≤ v16) <|
    .mat ((⟨#[0, 1, 2, 2, 3, 3, 3, 3, 4, 4, 4, 4, 4, 4, 4, 4, 5, 5, 5, 5, 5, 5, 5, 5, 5, 5, 5, 5, 5, 5, 5, 5, 6, 6, 6, 6, 6, 6, 6, 6, 6, 6, 6, 6, 6, 6, 6, 6, 6, 6, 6, 6, 6, 6, 6, 6, 6, 6, 6, 6, 6, 6, 6, 6, 7, 7, 7, 7, 7, 7, 7, 7, 7, 7, 7, 7, 7, 7, 7, 7, 7, 7, 7, 7, 7, 7, 7, 7, 7, 7, 7, 7, 7, 7, 7, 7, 7, 7, 7, 7, 7, 7, 7, 7, 7, 7, 7, 7, 7, 7, 7, 7, 7, 7, 7, 7, 7, 7, 7, 7, 7, 7, 7, 7, 7, 7, 7, 7, 8, 8, 8, 8, 8, 8, 8, 8, 8, 8, 8, 8, 8, 8, 8, 8, 8, 8, 8, 8, 8, 8, 8, 8, 8, 8, 8, 8, 8, 8, 8, 8, 8, 8, 8, 8, 8, 8, 8, 8, 8, 8, 8, 8, 8, 8, 8, 8, 8, 8, 8, 8, 8, 8, 8, 8, 8, 8, 8, 8, 8, 8, 8, 8, 8, 8, 8, 8, 8, 8, 8, 8, 8, 8, 8, 8, 8, 8, 8, 8, 8, 8, 8, 8, 8, 8, 8, 8, 8, 8, 8, 8, 8, 8, 8, 8, 8, 8, 8, 8, 8, 8, 8, 8, 8, 8, 8, 8, 8, 8, 8, 8, 8, 8, 8, 8, 8, 8, 8, 8, 8, 8, 8, 8, 8, 8, 8, 8]⟩ : ByteArray)[v16.toNat]?) fun b17 =>
    let v18 := iwrap .i64 (b17.toNat : Int)
    .ret (iwrap .i64 (16 + v18))))
   (.cond (decide (p0 ≥ 256))
    (let v19 := iwrap .u8 (ishr .u64 p0 8)
    .ite (0 ≤ v19) <|
    .mat ((⟨#[0, 1, 2, 2, 3, 3, 3, 3, 4, 4, 4, 4, 4, 4, 4, 4, 5, 5, 5, 5, 5, 5, 5, 5, 5, 5, 5, 5, 5, 5, 5, 5, 6, 6, 6, 6, 6, 6, 6, 6, 6, 6, 6, 6, 6, 6, 6, 6, 6, 6, 6, 6, 6, 6, 6, 6, 6, 6, 6, 6, 6, 6, 6, 6, 7, 7, 7, 7, 7, 7, 7, 7, 7, 7, 7, 7, 7, 7, 7, 7, 7, 7, 7, 7, 7, 7, 7, 7, 7, 7, 7, 7, 7, 7, 7, 7, 7, 7, 7, 7, 7, 7, 7, 7, 7, 7, 7, 7, 7, 7, 7, 7, 7, 7, 7, 7, 7, 7, 7, 7, 7, 7, 7, 7, 7, 7, 7, 7, 8, 8, 8, 8, 8, 8, 8, 8, 8, 8, 8, 8, 8, 8, 8, 8, 8, 8, 8, 8, 8, 8, 8, 8, 8, 8, 8, 8, 8, 8, 8, 8, 8, 8, 8, 8, 8, 8, 8, 8, 8, 8, 8, 8, 8, 8, 8, 8, 8, 8, 8, 8, 8, 8, 8, 8, 8, 8, 8, 8, 8, 8, 8, 8, 8, 8, 8, 8, 8, 8, 8, 8, 8, 8, 8, 8, 8, 8, 8, 8, 8, 8, 8, 8, 8, 8, 8, 8, 8, 8, 8, 8, 8, 8, 8, 8, 8, 8, 8, 8, 8, 8, 8, 8, 8, 8, 8, 8, 8, 8, 8, 8, 8, 8, 8, 8, 8, 8, 8, 8, 8, 8, 8, 8, 8, 8, 8, 8]⟩ : ByteArray)[v19.toNat]?) fun b20 =>
    let v21 := iwrap .i64 (b20.toNat : Int)
    .ret (iwrap .i64 (8 + v21)))
    (.ite (0 ≤ iwrap .u8 p0) <|
    .mat ((⟨#[0, 1, 2, 2, 3, 3, 3, 3, 4, 4, 4, 4, 4, 4, 4, 4, 5, 5, 5, 5, 5, 5, 5, 5, 5, 5, 5, 5, 5, 5, 5, 5, 6, 6, 6, 6, 6, 6, 6, 6, 6, 6, 6, 6, 6, 6, 6, 6, 6, 6, 6, 6, 6, 6, 6, 6, 6, 6, 6, 6, 6, 6, 6, 6, 7, 7, 7, 7, 7, 7, 7, 7, 7, 7, 7, 7, 7, 7, 7, 7, 7, 7, 7, 7, 7, 7, 7, 7, 7, 7, 7, 7, 7, 7, 7, 7, 7, 7, 7, 7, 7, 7, 7, 7, 7, 7, 7, 7, 7, 7, 7, 7, 7, 7, 7, 7, 7, 7, 7, 7, 7, 7, 7, 7, 7, 7, 7, 7, 8, 8, 8, 8, 8, 8, 8, 8, 8, 8, 8, 8, 8, 8, 8, 8, 8, 8, 8, 8, 8, 8, 8, 8, 8, 8, 8, 8, 8, 8, 8, 8, 8, 8, 8, 8, 8, 8, 8, 8, 8, 8, 8, 8, 8, 8, 8, 8, 8, 8, 8, 8, 8, 8, 8, 8, 8, 8, 8, 8, 8, 8, 8, 8, 8, 8, 8, 8, 8, 8, 8, 8, 8, 8, 8, 8, 8, 8, 8, 8, 8, 8, 8, 8, 8, 8, 8, 8, 8, 8, 8, 8, 8, 8, 8, 8, 8, 8, 8, 8, 8, 8, 8, 8, 8, 8, 8, 8, 8, 8, 8, 8, 8, 8, 8, 8, 8, 8, 8, 8, 8, 8, 8, 8, 8, 8, 8, 8]⟩ : ByteArray)[(iwrap .u8 p0).toNat]?) fun b22 =>
    let v23 := iwrap .i64 (b22.toNat : Int)
    .ret (iwrap .i64 (0 + v23)))))
noncomputable def bits_Len64_F (p0 : Int) : Option Int := (bits_Len64 p0).run some
noncomputable def bits_Len64_V : Env := ⟨tau, [], []⟩
noncomputable def bits_Len64_b : Code := (Try.f157.body).getD .skip
noncomputable def bits_Len64_I : FnI := ⟨bits_Len64_b, Try.f157.results.toList, Try.f157.resultTypes.toList, []⟩
noncomputable def bits_Len64_out (_p0 : Int) : Int → CallOut := fun r => ⟨(.imm true (.int .i64) r), [], []⟩
set_option maxRecDepth 100000 in
theorem bits_Len64_eq : ∀ (p0 : Int), denFn bits_Len64_V bits_Len64_I ⟨[(.imm true (.int .u64) p0)], []⟩ = (bits_Len64 p0).run fun r => some (bits_Len64_out p0 r) := fun _ => by kernel_rfl
noncomputable def bits_Len64_G (av : List AV) (rs : List Root) : Tre CallOut :=
 asCons av fun a0_ av0 =>
 asEnd av0 <|
 asEnd rs <|
 asImmZ true (.int .u64) a0_ fun d1 =>
 .mat (bits_Len64_F d1) fun r => .ret (bits_Len64_out d1 r)
noncomputable def bits_Len64_c : Ctr := ⟨[], fun ci => bits_Len64_G ci.args ci.roots, false⟩
theorem bits_Len64_env : EnvOK Try.prog .none bits_Len64_V := envOK_nil
set_option maxRecDepth 100000 in
theorem bits_Len64_ok : Contract Try.prog .none 157 bits_Len64_c := by
 have hl : LoopsOK bits_Len64_V [] bits_Len64_b := loopsOK_nil (by kernel_rfl)
 refine (contract_of (F := bits_Len64_I) tau_tys bits_Len64_env Try.func157 (by kernel_rfl) (by kernel_rfl) (by kernel_rfl) hl []).weaken ?_
 rintro ⟨av, rs⟩ co h
 have h : (bits_Len64_G av rs).run some = some co := h
 obtain ⟨a0_, av0, rfl, h_0⟩ := asCons_spec h
 obtain ⟨rfl, h_1⟩ := asEnd_spec h_0
 obtain ⟨rfl, h_2⟩ := asEnd_spec h_1
 obtain ⟨d1, rfl, h_3⟩ := asImmZ_spec h_2
 exact fin_mat (bits_Len64_eq d1) h_3
end Go.Proofs.Ythnkanacjhlhhaa

namespace Go.Proofs.Ythnkanacjhlhhaa
open Go Go.Abs Go.Proofs
noncomputable def bits_Len (p0 : Int) : Tre Int :=
 .mat (bits_Len64_F p0) fun r1 =>
 .ret r1
noncomputable def bits_Len_F (p0 : Int) : Option Int := (bits_Len p0).run some
noncomputable def bits_Len_V : Env := ⟨tau, [(157, bits_Len64_c)], []⟩
noncomputable def bits_Len_b : Code := (Try.f119.body).getD .skip
noncomputable def bits_Len_I : FnI := ⟨bits_Len_b, Try.f119.results.toList, Try.f119.resultTypes.toList, []⟩
noncomputable def bits_Len_out (_p0 : Int) : Int → CallOut := fun r => ⟨(.imm true (.int .i64) r), [], []⟩
set_option maxRecDepth 100000 in
theorem bits_Len_eq : ∀ (p0 : Int), denFn bits_Len_V bits_Len_I ⟨[(.imm true (.int .u64) p0)], []⟩ = (bits_Len p0).run fun r => some (bits_Len_out p0 r) := fun _ => by kernel_rfl
noncomputable def bits_Len_G (av : List AV) (rs : List Root) : Tre CallOut :=
 asCons av fun a0_ av0 =>
 asEnd av0 <|
 asEnd rs <|
 asImmZ true (.int .u64) a0_ fun d1 =>
 .mat (bits_Len_F d1) fun r => .ret (bits_Len_out d1 r)
noncomputable def bits_Len_c : Ctr := ⟨[], fun ci => bits_Len_G ci.args ci.roots, false⟩
theorem bits_Len_env : EnvOK Try.prog .none bits_Len_V := (envOK_cons bits_Len64_ok ent157 envOK_nil)
set_option maxRecDepth 100000 in
theorem bits_Len_ok : Contract Try.prog .none 119 bits_Len_c := by
 have hl : LoopsOK bits_Len_V [] bits_Len_b := loopsOK_nil (by kernel_rfl)
 refine (contract_of (F := bits_Len_I) tau_tys bits_Len_env Try.func119 (by kernel_rfl) (by kernel_rfl) (by kernel_rfl) hl []).weaken ?_
 rintro ⟨av, rs⟩ co h
 have h : (bits_Len_G av rs).run some = some co := h
 obtain ⟨a0_, av0, rfl, h_0⟩ := asCons_spec h
 obtain ⟨rfl, h_1⟩ := asEnd_spec h_0
 obtain ⟨rfl, h_2⟩ := asEnd_spec h_1
 obtain ⟨d1, rfl, h_3⟩ := asImmZ_spec h_2
 exact fin_mat (bits_Len_eq d1) h_3
end Go.Proofs.Ythnkanacjhlhhaa

namespace Go.Proofs.Ythnkanacjhlhhaa
open Go Go.Abs Go.Proofs
noncomputable def cmp_isNaN_int64 (p0 : Int) : Tre Bool :=
 .ret (!decide (p0 = p0))
noncomputable def cmp_isNaN_int64_F (p0 : Int) : Option Bool := (cmp_isNaN_int64 p0).run some
theorem cmp_isNaN_int64_spec (p0 : Int) : cmp_isNaN_int64_F p0 = some (!decide (p0 = p0)) := rfl
noncomputable def cmp_isNaN_int64_V : Env := ⟨tau, [], []⟩
noncomputable def cmp_isNaN_int64_b : Code := (Try.f158.body).getD .skip
noncomputable def cmp_isNaN_int64_I : FnI := ⟨cmp_isNaN_int64_b, Try.f158.results.toList, Try.f158.resultTypes.toList, []⟩
noncomputable def cmp_isNaN_int64_out (_p0 : Int) : Bool → CallOut := fun r => ⟨(.imm true .bool r), [], []⟩
set_option maxRecDepth 100000 in
theorem cmp_isNaN_int64_eq : ∀ (p0 : Int), denFn cmp_isNaN_int64_V cmp_isNaN_int64_I ⟨[(.imm true (.int .i64) p0)], []⟩ = (cmp_isNaN_int64 p0).run fun r => some (cmp_isNaN_int64_out p0 r) := fun _ => by kernel_rfl
noncomputable def cmp_isNaN_int64_G (av : List AV) (rs : List Root) : Tre CallOut :=
 asCons av fun a0_ av0 =>
 asEnd av0 <|
 asEnd rs <|
 asImmZ true (.int .i64) a0_ fun d1 =>
 .ret (cmp_isNaN_int64_out d1 (!decide (d1 = d1)))
noncomputable def cmp_isNaN_int64_c : Ctr := ⟨[], fun ci => cmp_isNaN_int64_G ci.args ci.roots, false⟩
theorem cmp_isNaN_int64_env : EnvOK Try.prog .none cmp_isNaN_int64_V := envOK_nil
set_option maxRecDepth 100000 in
theorem cmp_isNaN_int64_ok : Contract Try.prog .none 158 cmp_isNaN_int64_c := by
 have hl : LoopsOK cmp_isNaN_int64_V [] cmp_isNaN_int64_b := loopsOK_nil (by kernel_rfl)
 refine (contract_of (F := cmp_isNaN_int64_I) tau_tys cmp_isNaN_int64_env Try.func158 (by kernel_rfl) (by kernel_rfl) (by kernel_rfl) hl []).weaken ?_
 rintro ⟨av, rs⟩ co h
 have h : (cmp_isNaN_int64_G av rs).run some = some co := h
 obtain ⟨a0_, av0, rfl, h_0⟩ := asCons_spec h
 obtain ⟨rfl, h_1⟩ := asEnd_spec h_0
 obtain ⟨rfl, h_2⟩ := asEnd_spec h_1
 obtain ⟨d1, rfl, h_3⟩ := asImmZ_spec h_2
 exact fin_ret (cmp_isNaN_int64_eq d1) (cmp_isNaN_int64_spec d1) h_3
end Go.Proofs.Ythnkanacjhlhhaa

namespace Go.Proofs.Ythnkanacjhlhhaa
open Go Go.Abs Go.Proofs
noncomputable def cmp_Compare_int64 (p0 : Int) (p1 : Int) : Tre Int :=
 .cond (!decide (p0 = p0))
  (.cond (!decide (p1 = p1))
   (.ret 0)
   (.ret (-1)))
  (.cond (!decide (p1 = p1))
   (.ret 1)
   (.cond (decide (p0 < p1))
    (.ret (-1))
    (.cond (decide (p0 > p1))
     (.ret 1)
     (.ret 0))))
noncomputable def cmp_Compare_int64_F (p0 : Int) (p1 : Int) : Option Int := (cmp_Compare_int64 p0 p1).run some
def cmp_Compare_int64_S (p0 : Int) (p1 : Int) : Int :=
 cond (!decide (p0 = p0))
  (cond (!decide (p1 = p1))
   (0)
   (-1))
  (cond (!decide (p1 = p1))
   (1)
   (cond (decide (p0 < p1))
    (-1)
    (cond (decide (p0 > p1))
     (1)
     (0))))
theorem cmp_Compare_int64_spec (p0 : Int) (p1 : Int) : cmp_Compare_int64_F p0 p1 = some (cmp_Compare_int64_S p0 p1) := (run_cond_some (run_cond_some rfl rfl) (run_cond_some rfl (run_cond_some rfl (run_cond_some rfl rfl))))
noncomputable def cmp_Compare_int64_V : Env := ⟨tau, [(158, cmp_isNaN_int64_c)], []⟩
noncomputable def cmp_Compare_int64_b : Code := (Try.f120.body).getD .skip
noncomputable def cmp_Compare_int64_I : FnI := ⟨cmp_Compare_int64_b, Try.f120.results.toList, Try.f120.resultTypes.toList, []⟩
noncomputable def cmp_Compare_int64_out (_p0 : Int) (_p1 : Int) : Int → CallOut := fun r => ⟨(.imm true (.int .i64) r), [], []⟩
set_option maxRecDepth 100000 in
theorem cmp_Compare_int64_eq : ∀ (p0 : Int) (p1 : Int), denFn cmp_Compare_int64_V cmp_Compare_int64_I ⟨[(.imm true (.int .i64) p0), (.imm true (.int .i64) p1)], []⟩ = (cmp_Compare_int64 p0 p1).run fun r => some (cmp_Compare_int64_out p0 p1 r) := fun _ _ => by kernel_rfl
noncomputable def cmp_Compare_int64_G (av : List AV) (rs : List Root) : Tre CallOut :=
 asCons av fun a0_ av0 =>
 asCons av0 fun a1_ av1 =>
 asEnd av1 <|
 asEnd rs <|
 asImmZ true (.int .i64) a0_ fun d1 =>
 asImmZ true (.int .i64) a1_ fun d2 =>
 .ret (cmp_Compare_int64_out d1 d2 (cmp_Compare_int64_S d1 d2))
noncomputable def cmp_Compare_int64_c : Ctr := ⟨[], fun ci => cmp_Compare_int64_G ci.args ci.roots, false⟩
theorem cmp_Compare_int64_env : EnvOK Try.prog .none cmp_Compare_int64_V := (envOK_cons cmp_isNaN_int64_ok ent158 envOK_nil)
set_option maxRecDepth 100000 in
theorem cmp_Compare_int64_ok : Contract Try.prog .none 120 cmp_Compare_int64_c := by
 have hl : LoopsOK cmp_Compare_int64_V [] cmp_Compare_int64_b := loopsOK_nil (by kernel_rfl)
 refine (contract_of (F := cmp_Compare_int64_I) tau_tys cmp_Compare_int64_env Try.func120 (by kernel_rfl) (by kernel_rfl) (by kernel_rfl) hl []).weaken ?_
 rintro ⟨av, rs⟩ co h
 have h : (cmp_Compare_int64_G av rs).run some = some co := h
 obtain ⟨a0_, av0, rfl, h_0⟩ := asCons_spec h
 obtain ⟨a1_, av1, rfl, h_1⟩ := asCons_spec h_0
 obtain ⟨rfl, h_2⟩ := asEnd_spec h_1
 obtain ⟨rfl, h_3⟩ := asEnd_spec h_2
 obtain ⟨d1, rfl, h_4⟩ := asImmZ_spec h_3
 obtain ⟨d2, rfl, h_5⟩ := asImmZ_spec h_4
 exact fin_ret (cmp_Compare_int64_eq d1 d2) (cmp_Compare_int64_spec d1 d2) h_5
end Go.Proofs.Ythnkanacjhlhhaa

namespace Go.Proofs.Ythnkanacjhlhhaa
open Go Go.Abs Go.Proofs
noncomputable def slices_Compare_int64_l2 (h2_0_1 : (List Int)) (h2_0_2 : (List Int)) (h2_0_3 : Int) : Int → Tre (Int ⊕ (Int ⊕ Unit)) := fun s2 =>
 .cond (decide (s2 < h2_0_3))
  (.ite (0 ≤ s2 ∧ s2 < (h2_0_2.length : Int)) <|
  .mat (h2_0_2[s2.toNat]?) fun x1 =>
  .cond (decide (s2 ≥ (h2_0_1.length : Int)))
   (.ret (.inr (.inl 1)))
   (.ite (0 ≤ s2 ∧ s2 < (h2_0_1.length : Int)) <|
   .mat (h2_0_1[s2.toNat]?) fun x2 =>
   let v3 := cmp_Compare_int64_S x1 x2
   .cond (!decide (v3 = 0))
    (.ret (.inr (.inl v3)))
    (.ret (.inl (iwrap .i64 (s2 + 1))))))
  (.ret (.inr (.inr ())))
noncomputable def slices_Compare_int64 (p0 : (List Int)) (p1 : (List Int)) : Tre Int :=
 .mat (loopF (slices_Compare_int64_l2 p1 p0 (p0.length : Int)) 0) fun l4 =>
 .alt l4
  (fun a5 =>
   .ret a5)
  (fun _ =>
   .cond (decide ((p0.length : Int) < (p1.length : Int)))
    (.ret (-1))
    (.ret 0))
noncomputable def slices_Compare_int64_F (p0 : (List Int)) (p1 : (List Int)) : Option Int := (slices_Compare_int64 p0 p1).run some
noncomputable def slices_Compare_int64_V : Env := ⟨tau, [(120, cmp_Compare_int64_c)], []⟩
noncomputable def slices_Compare_int64_b : Code := (Try.f65.body).getD .skip
noncomputable def slices_Compare_int64_l2_mk (z2_0 : Bool) (z2_1 : Bool) (z2_2 : Bool) (h2_0_0 : (List Int)) (h2_0_1 : (List Int)) (h2_0_2 : (List Int)) (h2_0_3 : Int) : Int → St := fun x => stOf [(0, (.imm z2_0 (.sl (.int .i64)) h2_0_0)), (1, (.imm z2_1 (.sl (.int .i64)) h2_0_1)), (9, (.imm z2_2 (.sl (.int .i64)) h2_0_2)), (10, (.imm true (.int .i64) h2_0_3)), (11, (.imm true (.int .i64) x))] []
noncomputable def slices_Compare_int64_l2_out (z2_0 : Bool) (z2_1 : Bool) (_z2_2 : Bool) (h2_0_0 : (List Int)) (h2_0_1 : (List Int)) (_h2_0_2 : (List Int)) (_h2_0_3 : Int) : (Int ⊕ Unit) → Ex × St
 | .inl x => (.ret, stOf [(0, (.imm z2_0 (.sl (.int .i64)) h2_0_0)), (1, (.imm z2_1 (.sl (.int .i64)) h2_0_1)), (4, (.imm true (.int .i64) x))] [])
 | .inr x => (.exit 0, stOf [(0, (.imm z2_0 (.sl (.int .i64)) h2_0_0)), (1, (.imm z2_1 (.sl (.int .i64)) h2_0_1)), (4, .dead)] [])
noncomputable def slices_Compare_int64_l2_D (s : St) : Tre (Ex × St) :=
 asImm (.sl (.int .i64)) (s.tmps 0) fun z3 d2 =>
 asImm (.sl (.int .i64)) (s.tmps 1) fun z6 d5 =>
 asImm (.sl (.int .i64)) (s.tmps 9) fun z9 d8 =>
 asImmZ true (.int .i64) (s.tmps 10) fun d11 =>
 asImmZ true (.int .i64) (s.tmps 11) fun d13 =>
 .mat (loopF (slices_Compare_int64_l2 d5 d8 d11) d13) fun x => .alt x (fun a0 => .ret (slices_Compare_int64_l2_out z3 z6 z9 d2 d5 d8 d11 (.inl a0))) (fun b0 => .ret (slices_Compare_int64_l2_out z3 z6 z9 d2 d5 d8 d11 (.inr b0)))
noncomputable def slices_Compare_int64_l2_L : LoopI := ⟨([0, 1, 9, 10, 11], []), ([0, 1, 4], []), slices_Compare_int64_l2_D⟩
noncomputable def slices_Compare_int64_A : List (Nat × LoopI) := [(2, slices_Compare_int64_l2_L)]
set_option maxRecDepth 100000 in
theorem slices_Compare_int64_l2_step : ∀ (z2_0 : Bool) (z2_1 : Bool) (z2_2 : Bool) (h2_0_0 : (List Int)) (h2_0_1 : (List Int)) (h2_0_2 : (List Int)) (h2_0_3 : Int) (x : Int) (c : St → Option (Ex × St)), den slices_Compare_int64_V slices_Compare_int64_A (loopAt slices_Compare_int64_b 0) (slices_Compare_int64_l2_mk z2_0 z2_1 z2_2 h2_0_0 h2_0_1 h2_0_2 h2_0_3 x) (roundK slices_Compare_int64_l2_L.kp slices_Compare_int64_l2_L.kx c) = (slices_Compare_int64_l2 h2_0_1 h2_0_2 h2_0_3 x).run (roundR (slices_Compare_int64_l2_mk z2_0 z2_1 z2_2 h2_0_0 h2_0_1 h2_0_2 h2_0_3) (slices_Compare_int64_l2_out z2_0 z2_1 z2_2 h2_0_0 h2_0_1 h2_0_2 h2_0_3) c) := fun _ _ _ _ _ _ _ _ _ => by
 kernel_rfl
theorem slices_Compare_int64_l2_ok : LoopOK slices_Compare_int64_V slices_Compare_int64_A (loopAt slices_Compare_int64_b 0) slices_Compare_int64_l2_L := loopOK_of fun s e s' h => by
 generalize hs : restrict slices_Compare_int64_l2_L.kp s = s1 at h
 have h : (slices_Compare_int64_l2_D s1).run some = some (e, s') := h
 obtain ⟨z3, d2, e1, h_0⟩ := asImm_spec h
 obtain ⟨z6, d5, e4, h_1⟩ := asImm_spec h_0
 obtain ⟨z9, d8, e7, h_2⟩ := asImm_spec h_1
 obtain ⟨d11, e10, h_3⟩ := asImmZ_spec h_2
 obtain ⟨d13, e12, h_4⟩ := asImmZ_spec h_3
 obtain ⟨y, hy, hz⟩ := mat_some h_4
 refine ⟨_, _, slices_Compare_int64_l2_mk z3 z6 z9 d2 d5 d8 d11, slices_Compare_int64_l2_out z3 z6 z9 d2 d5 d8 d11, slices_Compare_int64_l2 d5 d8 d11, d13, y, ?_, hy, ?_, slices_Compare_int64_l2_step z3 z6 z9 d2 d5 d8 d11⟩
 ·subst hs; exact restrict_eq (T := [(0, (.imm z3 (.sl (.int .i64)) d2)), (1, (.imm z6 (.sl (.int .i64)) d5)), (9, (.imm z9 (.sl (.int .i64)) d8)), (10, (.imm true (.int .i64) d11)), (11, (.imm true (.int .i64) d13))]) (U := []) rfl rfl ⟨e1, e4, e7, e10, e12, trivial⟩ trivial
 ·rcases y with x | x <;> exact Option.some.inj hz
noncomputable def slices_Compare_int64_I : FnI := ⟨slices_Compare_int64_b, Try.f65.results.toList, Try.f65.resultTypes.toList, slices_Compare_int64_A⟩
noncomputable def slices_Compare_int64_out (_zp0 : Bool) (_zp1 : Bool) (_p0 : (List Int)) (_p1 : (List Int)) : Int → CallOut := fun r => ⟨(.imm true (.int .i64) r), [], []⟩
set_option maxRecDepth 100000 in
theorem slices_Compare_int64_eq : ∀ (zp0 : Bool) (zp1 : Bool) (p0 : (List Int)) (p1 : (List Int)), denFn slices_Compare_int64_V slices_Compare_int64_I ⟨[(.imm zp0 (.sl (.int .i64)) p0), (.imm zp1 (.sl (.int .i64)) p1)], []⟩ = (slices_Compare_int64 p0 p1).run fun r => some (slices_Compare_int64_out zp0 zp1 p0 p1 r) := fun _ _ _ _ => by kernel_rfl
noncomputable def slices_Compare_int64_G (av : List AV) (rs : List Root) : Tre CallOut :=
 asCons av fun a0_ av0 =>
 asCons av0 fun a1_ av1 =>
 asEnd av1 <|
 asEnd rs <|
 asImm (.sl (.int .i64)) a0_ fun z2 d1 =>
 asImm (.sl (.int .i64)) a1_ fun z4 d3 =>
 .mat (slices_Compare_int64_F d1 d3) fun r => .ret (slices_Compare_int64_out z2 z4 d1 d3 r)
noncomputable def slices_Compare_int64_c : Ctr := ⟨[], fun ci => slices_Compare_int64_G ci.args ci.roots, false⟩
theorem slices_Compare_int64_env : EnvOK Try.prog .none slices_Compare_int64_V := (envOK_cons cmp_Compare_int64_ok ent120 envOK_nil)
set_option maxRecDepth 100000 in
theorem slices_Compare_int64_ok : Contract Try.prog .none 65 slices_Compare_int64_c := by
 have hl : LoopsOK slices_Compare_int64_V slices_Compare_int64_A slices_Compare_int64_b := (loopsOK_all (n := 1) (by kernel_rfl) fun k hk => by
   match k, hk with
   | 0, _ => exact loopOK_at (id := 2) (L := slices_Compare_int64_l2_L) (by kernel_rfl) (by kernel_rfl) slices_Compare_int64_l2_ok)
 refine (contract_of (F := slices_Compare_int64_I) tau_tys slices_Compare_int64_env Try.func65 (by kernel_rfl) (by kernel_rfl) (by kernel_rfl) hl []).weaken ?_
 rintro ⟨av, rs⟩ co h
 have h : (slices_Compare_int64_G av rs).run some = some co := h
 obtain ⟨a0_, av0, rfl, h_0⟩ := asCons_spec h
 obtain ⟨a1_, av1, rfl, h_1⟩ := asCons_spec h_0
 obtain ⟨rfl, h_2⟩ := asEnd_spec h_1
 obtain ⟨rfl, h_3⟩ := asEnd_spec h_2
 obtain ⟨z2, d1, rfl, h_4⟩ := asImm_spec h_3
 obtain ⟨z4, d3, rfl, h_5⟩ := asImm_spec h_4
 exact fin_mat (slices_Compare_int64_eq z2 z4 d1 d3) h_5
end Go.Proofs.Ythnkanacjhlhhaa

namespace Go.Proofs.Ythnkanacjhlhhaa
open Go Go.Abs Go.Proofs
noncomputable def i_spacesc1c1 (p0 : TMatrix) (p1 : TMatrix) : Tre Int :=
 .mat (slices_Compare_int64_F p0.2.1 p1.2.1) fun r1 =>
 .ret r1
noncomputable def i_spacesc1c1_F (p0 : TMatrix) (p1 : TMatrix) : Option Int := (i_spacesc1c1 p0 p1).run some
noncomputable def i_spacesc1c1_V : Env := ⟨tau, [(65, slices_Compare_int64_c)], []⟩
noncomputable def i_spacesc1c1_b : Code := (Try.f123.body).getD .skip
noncomputable def i_spacesc1c1_I : FnI := ⟨i_spacesc1c1_b, Try.f123.results.toList, Try.f123.resultTypes.toList, []⟩
noncomputable def i_spacesc1c1_out (_zp0 : Bool) (_zp1 : Bool) (_p0 : TMatrix) (_p1 : TMatrix) : Int → CallOut := fun r => ⟨(.imm true (.int .i64) r), [], []⟩
set_option maxRecDepth 100000 in
theorem i_spacesc1c1_eq : ∀ (zp0 : Bool) (zp1 : Bool) (p0 : TMatrix) (p1 : TMatrix), denFn i_spacesc1c1_V i_spacesc1c1_I ⟨[(.imm zp0 kMatrix p0), (.imm zp1 kMatrix p1)], []⟩ = (i_spacesc1c1 p0 p1).run fun r => some (i_spacesc1c1_out zp0 zp1 p0 p1 r) := fun _ _ _ _ => by kernel_rfl
noncomputable def i_spacesc1c1_G (av : List AV) (rs : List Root) : Tre CallOut :=
 asCons av fun a0_ av0 =>
 asCons av0 fun a1_ av1 =>
 asEnd av1 <|
 asEnd rs <|
 asImm kMatrix a0_ fun z2 d1 =>
 asImm kMatrix a1_ fun z4 d3 =>
 .mat (i_spacesc1c1_F d1 d3) fun r => .ret (i_spacesc1c1_out z2 z4 d1 d3 r)
noncomputable def i_spacesc1c1_c : Ctr := ⟨[], fun ci => i_spacesc1c1_G ci.args ci.roots, false⟩
theorem i_spacesc1c1_env : EnvOK Try.prog .none i_spacesc1c1_V := (envOK_cons slices_Compare_int64_ok ent65 envOK_nil)
set_option maxRecDepth 100000 in
theorem i_spacesc1c1_ok : Contract Try.prog .none 123 i_spacesc1c1_c := by
 have hl : LoopsOK i_spacesc1c1_V [] i_spacesc1c1_b := loopsOK_nil (by kernel_rfl)
 refine (contract_of (F := i_spacesc1c1_I) tau_tys i_spacesc1c1_env Try.func123 (by kernel_rfl) (by kernel_rfl) (by kernel_rfl) hl []).weaken ?_
 rintro ⟨av, rs⟩ co h
 have h : (i_spacesc1c1_G av rs).run some = some co := h
 obtain ⟨a0_, av0, rfl, h_0⟩ := asCons_spec h
 obtain ⟨a1_, av1, rfl, h_1⟩ := asCons_spec h_0
 obtain ⟨rfl, h_2⟩ := asEnd_spec h_1
 obtain ⟨rfl, h_3⟩ := asEnd_spec h_2
 obtain ⟨z2, d1, rfl, h_4⟩ := asImm_spec h_3
 obtain ⟨z4, d3, rfl, h_5⟩ := asImm_spec h_4
 exact fin_mat (i_spacesc1c1_eq z2 z4 d1 d3) h_5
end Go.Proofs.Ythnkanacjhlhhaa

namespace Go.Proofs.Ythnkanacjhlhhaa
open Go Go.Abs Go.Proofs
noncomputable def slices_insertionSortCmpFunc_Matrix_i_spacesc1c1_d737_l4 (h4_0_0 : Int) : (Int × (List TMatrix)) → Tre ((Int × (List TMatrix)) ⊕ (List TMatrix)) := fun s4 =>
 .cond (decide (s4.1 > h4_0_0))
  (.ite (0 ≤ s4.1 ∧ s4.1 < (s4.2.length : Int)) <|
  .mat (s4.2[s4.1.toNat]?) fun x1 =>
  .ite (0 ≤ iwrap .i64 (s4.1 - 1) ∧ iwrap .i64 (s4.1 - 1) < (s4.2.length : Int)) <|
  .mat (s4.2[(iwrap .i64 (s4.1 - 1)).toNat]?) fun x2 =>
  .mat (i_spacesc1c1_F x1 x2) fun r3 =>
  .cond (decide (r3 < 0))
   (.ite (0 ≤ iwrap .i64 (s4.1 - 1) ∧ iwrap .i64 (s4.1 - 1) < (s4.2.length : Int)) <|
   .mat (s4.2[(iwrap .i64 (s4.1 - 1)).toNat]?) fun x4 =>
   .ite (0 ≤ s4.1 ∧ s4.1 < (s4.2.length : Int)) <|
   .mat (s4.2[s4.1.toNat]?) fun x5 =>
   .ite (0 ≤ s4.1 ∧ s4.1 < (s4.2.length : Int)) <|
   .mat (s4.2[s4.1.toNat]?) fun _ =>
   let v7 := s4.2.set s4.1.toNat x4
   .ite (0 ≤ iwrap .i64 (s4.1 - 1) ∧ iwrap .i64 (s4.1 - 1) < (v7.length : Int)) <|
   .mat (v7[(iwrap .i64 (s4.1 - 1)).toNat]?) fun _ =>
   let v9 := v7.set ((iwrap .i64 (s4.1 - 1)).toNat) x5
   .ret (.inl (iwrap .i64 (s4.1 - 1), v9)))
   (.ret (.inr s4.2)))
  (.ret (.inr s4.2))
noncomputable def slices_insertionSortCmpFunc_Matrix_i_spacesc1c1_d737_l1 (h1_0_0 : Int) (h1_0_1 : Int) : (Int × (List TMatrix)) → Tre ((Int × (List TMatrix)) ⊕ (List TMatrix)) := fun s1 =>
 .cond (decide (s1.1 < h1_0_1))
  (.mat (loopF (slices_insertionSortCmpFunc_Matrix_i_spacesc1c1_d737_l4 h1_0_0) (s1.1, s1.2)) fun l10 =>
  .ret (.inl (iwrap .i64 (s1.1 + 1), l10)))
  (.ret (.inr s1.2))
noncomputable def slices_insertionSortCmpFunc_Matrix_i_spacesc1c1_d737 (p0 : Int) (p1 : Int) (p2 : (List TMatrix)) : Tre (List TMatrix) :=
 .mat (loopF (slices_insertionSortCmpFunc_Matrix_i_spacesc1c1_d737_l1 p0 p1) (iwrap .i64 (p0 + 1), p2)) fun l11 =>
 .ret l11
noncomputable def slices_insertionSortCmpFunc_Matrix_i_spacesc1c1_d737_F (p0 : Int) (p1 : Int) (p2 : (List TMatrix)) : Option (List TMatrix) := (slices_insertionSortCmpFunc_Matrix_i_spacesc1c1_d737 p0 p1 p2).run some
noncomputable def slices_insertionSortCmpFunc_Matrix_i_spacesc1c1_d737_V : Env := ⟨tau, [(123, i_spacesc1c1_c)], []⟩
noncomputable def slices_insertionSortCmpFunc_Matrix_i_spacesc1c1_d737_b : Code := (Try.f148.body).getD .skip
noncomputable def slices_insertionSortCmpFunc_Matrix_i_spacesc1c1_d737_l4_mk (h4_0_0 : Int) (h4_0_1 : Int) (h4_0_2 : Int) : (Int × (List TMatrix)) → St := fun x => stOf [(0, (.ref (0, 0) [])), (1, (.imm true (.int .i64) h4_0_0)), (2, (.imm true (.int .i64) h4_0_1)), (3, (.fn 123 [])), (8, (.imm true (.int .i64) h4_0_2)), (9, (.imm true (.int .i64) x.1))] [((0, 0), some ⟨false, (.sl kMatrix), (.sl (.imm true)), x.2⟩)]
noncomputable def slices_insertionSortCmpFunc_Matrix_i_spacesc1c1_d737_l4_out (h4_0_0 : Int) (h4_0_1 : Int) (h4_0_2 : Int) : (List TMatrix) → Ex × St := fun x => (.exit 2, stOf [(0, (.ref (0, 0) [])), (1, (.imm true (.int .i64) h4_0_0)), (2, (.imm true (.int .i64) h4_0_1)), (3, (.fn 123 [])), (8, (.imm true (.int .i64) h4_0_2))] [((0, 0), some ⟨false, (.sl kMatrix), (.sl (.imm true)), x⟩)])
noncomputable def slices_insertionSortCmpFunc_Matrix_i_spacesc1c1_d737_l4_D (s : St) : Tre (Ex × St) :=
 asRef (0, 0) [] (s.tmps 0) <|
 asImmZ true (.int .i64) (s.tmps 1) fun d3 =>
 asImmZ true (.int .i64) (s.tmps 2) fun d5 =>
 asFn 123 [] (s.tmps 3) <|
 asImmZ true (.int .i64) (s.tmps 8) fun d8 =>
 asImmZ true (.int .i64) (s.tmps 9) fun d10 =>
 asRoot false (.sl kMatrix) (s.roots (0, 0)) fun m12 d13 =>
 asM (.sl (.imm true)) m12 <|
 .mat (loopF (slices_insertionSortCmpFunc_Matrix_i_spacesc1c1_d737_l4 d3) (d10, d13)) fun x => .ret (slices_insertionSortCmpFunc_Matrix_i_spacesc1c1_d737_l4_out d3 d5 d8 x)
noncomputable def slices_insertionSortCmpFunc_Matrix_i_spacesc1c1_d737_l4_L : LoopI := ⟨([0, 1, 2, 3, 8, 9], [(0, 0)]), ([0, 1, 2, 3, 8], [(0, 0)]), slices_insertionSortCmpFunc_Matrix_i_spacesc1c1_d737_l4_D⟩
noncomputable def slices_insertionSortCmpFunc_Matrix_i_spacesc1c1_d737_l1_mk (h1_0_0 : Int) (h1_0_1 : Int) : (Int × (List TMatrix)) → St := fun x => stOf [(0, (.ref (0, 0) [])), (1, (.imm true (.int .i64) h1_0_0)), (2, (.imm true (.int .i64) h1_0_1)), (3, (.fn 123 [])), (8, (.imm true (.int .i64) x.1))] [((0, 0), some ⟨false, (.sl kMatrix), (.sl (.imm true)), x.2⟩)]
noncomputable def slices_insertionSortCmpFunc_Matrix_i_spacesc1c1_d737_l1_out (_h1_0_0 : Int) (_h1_0_1 : Int) : (List TMatrix) → Ex × St := fun x => (.exit 0, stOf [] [((0, 0), some ⟨false, (.sl kMatrix), (.sl (.imm true)), x⟩)])
noncomputable def slices_insertionSortCmpFunc_Matrix_i_spacesc1c1_d737_l1_D (s : St) : Tre (Ex × St) :=
 asRef (0, 0) [] (s.tmps 0) <|
 asImmZ true (.int .i64) (s.tmps 1) fun d3 =>
 asImmZ true (.int .i64) (s.tmps 2) fun d5 =>
 asFn 123 [] (s.tmps 3) <|
 asImmZ true (.int .i64) (s.tmps 8) fun d8 =>
 asRoot false (.sl kMatrix) (s.roots (0, 0)) fun m10 d11 =>
 asM (.sl (.imm true)) m10 <|
 .mat (loopF (slices_insertionSortCmpFunc_Matrix_i_spacesc1c1_d737_l1 d3 d5) (d8, d11)) fun x => .ret (slices_insertionSortCmpFunc_Matrix_i_spacesc1c1_d737_l1_out d3 d5 x)
noncomputable def slices_insertionSortCmpFunc_Matrix_i_spacesc1c1_d737_l1_L : LoopI := ⟨([0, 1, 2, 3, 8], [(0, 0)]), ([], [(0, 0)]), slices_insertionSortCmpFunc_Matrix_i_spacesc1c1_d737_l1_D⟩
noncomputable def slices_insertionSortCmpFunc_Matrix_i_spacesc1c1_d737_A : List (Nat × LoopI) := [(4, slices_insertionSortCmpFunc_Matrix_i_spacesc1c1_d737_l4_L), (1, slices_insertionSortCmpFunc_Matrix_i_spacesc1c1_d737_l1_L)]
set_option maxRecDepth 100000 in
theorem slices_insertionSortCmpFunc_Matrix_i_spacesc1c1_d737_l4_step : ∀ (h4_0_0 : Int) (h4_0_1 : Int) (h4_0_2 : Int) (x : (Int × (List TMatrix))) (c : St → Option (Ex × St)), den slices_insertionSortCmpFunc_Matrix_i_spacesc1c1_d737_V slices_insertionSortCmpFunc_Matrix_i_spacesc1c1_d737_A (loopAt slices_insertionSortCmpFunc_Matrix_i_spacesc1c1_d737_b 1) (slices_insertionSortCmpFunc_Matrix_i_spacesc1c1_d737_l4_mk h4_0_0 h4_0_1 h4_0_2 x) (roundK slices_insertionSortCmpFunc_Matrix_i_spacesc1c1_d737_l4_L.kp slices_insertionSortCmpFunc_Matrix_i_spacesc1c1_d737_l4_L.kx c) = (slices_insertionSortCmpFunc_Matrix_i_spacesc1c1_d737_l4 h4_0_0 x).run (roundR (slices_insertionSortCmpFunc_Matrix_i_spacesc1c1_d737_l4_mk h4_0_0 h4_0_1 h4_0_2) (slices_insertionSortCmpFunc_Matrix_i_spacesc1c1_d737_l4_out h4_0_0 h4_0_1 h4_0_2) c) := fun _ _ _ _ _ => by
 kernel_rfl
theorem slices_insertionSortCmpFunc_Matrix_i_spacesc1c1_d737_l4_ok : LoopOK slices_insertionSortCmpFunc_Matrix_i_spacesc1c1_d737_V slices_insertionSortCmpFunc_Matrix_i_spacesc1c1_d737_A (loopAt slices_insertionSortCmpFunc_Matrix_i_spacesc1c1_d737_b 1) slices_insertionSortCmpFunc_Matrix_i_spacesc1c1_d737_l4_L := loopOK_of fun s e s' h => by
 generalize hs : restrict slices_insertionSortCmpFunc_Matrix_i_spacesc1c1_d737_l4_L.kp s = s1 at h
 have h : (slices_insertionSortCmpFunc_Matrix_i_spacesc1c1_d737_l4_D s1).run some = some (e, s') := h
 obtain ⟨e1, h_0⟩ := asRef_spec h
 obtain ⟨d3, e2, h_1⟩ := asImmZ_spec h_0
 obtain ⟨d5, e4, h_2⟩ := asImmZ_spec h_1
 obtain ⟨e6, h_3⟩ := asFn_spec h_2
 obtain ⟨d8, e7, h_4⟩ := asImmZ_spec h_3
 obtain ⟨d10, e9, h_5⟩ := asImmZ_spec h_4
 obtain ⟨m12, d13, e11, h_6⟩ := asRoot_spec h_5
 obtain ⟨rfl, h_7⟩ := asM_spec h_6
 obtain ⟨y, hy, hz⟩ := mat_ret h_7
 refine ⟨_, _, slices_insertionSortCmpFunc_Matrix_i_spacesc1c1_d737_l4_mk d3 d5 d8, slices_insertionSortCmpFunc_Matrix_i_spacesc1c1_d737_l4_out d3 d5 d8, slices_insertionSortCmpFunc_Matrix_i_spacesc1c1_d737_l4 d3, (d10, d13), y, ?_, hy, ?_, slices_insertionSortCmpFunc_Matrix_i_spacesc1c1_d737_l4_step d3 d5 d8⟩
 ·subst hs; exact restrict_eq (T := [(0, (.ref (0, 0) [])), (1, (.imm true (.int .i64) d3)), (2, (.imm true (.int .i64) d5)), (3, (.fn 123 [])), (8, (.imm true (.int .i64) d8)), (9, (.imm true (.int .i64) d10))]) (U := [((0, 0), some ⟨false, (.sl kMatrix), (.sl (.imm true)), d13⟩)]) rfl rfl ⟨e1, e2, e4, e6, e7, e9, trivial⟩ ⟨e11, trivial⟩
 ·exact Option.some.inj hz
set_option maxRecDepth 100000 in
theorem slices_insertionSortCmpFunc_Matrix_i_spacesc1c1_d737_l1_step : ∀ (h1_0_0 : Int) (h1_0_1 : Int) (x : (Int × (List TMatrix))) (c : St → Option (Ex × St)), den slices_insertionSortCmpFunc_Matrix_i_spacesc1c1_d737_V slices_insertionSortCmpFunc_Matrix_i_spacesc1c1_d737_A (loopAt slices_insertionSortCmpFunc_Matrix_i_spacesc1c1_d737_b 0) (slices_insertionSortCmpFunc_Matrix_i_spacesc1c1_d737_l1_mk h1_0_0 h1_0_1 x) (roundK slices_insertionSortCmpFunc_Matrix_i_spacesc1c1_d737_l1_L.kp slices_insertionSortCmpFunc_Matrix_i_spacesc1c1_d737_l1_L.kx c) = (slices_insertionSortCmpFunc_Matrix_i_spacesc1c1_d737_l1 h1_0_0 h1_0_1 x).run (roundR (slices_insertionSortCmpFunc_Matrix_i_spacesc1c1_d737_l1_mk h1_0_0 h1_0_1) (slices_insertionSortCmpFunc_Matrix_i_spacesc1c1_d737_l1_out h1_0_0 h1_0_1) c) := fun _ _ _ _ => by
 kernel_rfl
theorem slices_insertionSortCmpFunc_Matrix_i_spacesc1c1_d737_l1_ok : LoopOK slices_insertionSortCmpFunc_Matrix_i_spacesc1c1_d737_V slices_insertionSortCmpFunc_Matrix_i_spacesc1c1_d737_A (loopAt slices_insertionSortCmpFunc_Matrix_i_spacesc1c1_d737_b 0) slices_insertionSortCmpFunc_Matrix_i_spacesc1c1_d737_l1_L := loopOK_of fun s e s' h => by
 generalize hs : restrict slices_insertionSortCmpFunc_Matrix_i_spacesc1c1_d737_l1_L.kp s = s1 at h
 have h : (slices_insertionSortCmpFunc_Matrix_i_spacesc1c1_d737_l1_D s1).run some = some (e, s') := h
 obtain ⟨e1, h_0⟩ := asRef_spec h
 obtain ⟨d3, e2, h_1⟩ := asImmZ_spec h_0
 obtain ⟨d5, e4, h_2⟩ := asImmZ_spec h_1
 obtain ⟨e6, h_3⟩ := asFn_spec h_2
 obtain ⟨d8, e7, h_4⟩ := asImmZ_spec h_3
 obtain ⟨m10, d11, e9, h_5⟩ := asRoot_spec h_4
 obtain ⟨rfl, h_6⟩ := asM_spec h_5
 obtain ⟨y, hy, hz⟩ := mat_ret h_6
 refine ⟨_, _, slices_insertionSortCmpFunc_Matrix_i_spacesc1c1_d737_l1_mk d3 d5, slices_insertionSortCmpFunc_Matrix_i_spacesc1c1_d737_l1_out d3 d5, slices_insertionSortCmpFunc_Matrix_i_spacesc1c1_d737_l1 d3 d5, (d8, d11), y, ?_, hy, ?_, slices_insertionSortCmpFunc_Matrix_i_spacesc1c1_d737_l1_step d3 d5⟩
 ·subst hs; exact restrict_eq (T := [(0, (.ref (0, 0) [])), (1, (.imm true (.int .i64) d3)), (2, (.imm true (.int .i64) d5)), (3, (.fn 123 [])), (8, (.imm true (.int .i64) d8))]) (U := [((0, 0), some ⟨false, (.sl kMatrix), (.sl (.imm true)), d11⟩)]) rfl rfl ⟨e1, e2, e4, e6, e7, trivial⟩ ⟨e9, trivial⟩
 ·exact Option.some.inj hz
noncomputable def slices_insertionSortCmpFunc_Matrix_i_spacesc1c1_d737_I : FnI := ⟨slices_insertionSortCmpFunc_Matrix_i_spacesc1c1_d737_b, Try.f148.results.toList, Try.f148.resultTypes.toList, slices_insertionSortCmpFunc_Matrix_i_spacesc1c1_d737_A⟩
noncomputable def slices_insertionSortCmpFunc_Matrix_i_spacesc1c1_d737_out (_p0 : Int) (_p1 : Int) (_p2 : (List TMatrix)) : (List TMatrix) → CallOut := fun r => ⟨.tnil, [⟨false, (.sl kMatrix), (.sl (.imm true)), r⟩], []⟩
set_option maxRecDepth 100000 in
theorem slices_insertionSortCmpFunc_Matrix_i_spacesc1c1_d737_eq : ∀ (p0 : Int) (p1 : Int) (p2 : (List TMatrix)), denFn slices_insertionSortCmpFunc_Matrix_i_spacesc1c1_d737_V slices_insertionSortCmpFunc_Matrix_i_spacesc1c1_d737_I ⟨[(.ref (0, 0) []), (.imm true (.int .i64) p0), (.imm true (.int .i64) p1), (.fn 123 [])], [⟨false, (.sl kMatrix), (.sl (.imm true)), p2⟩]⟩ = (slices_insertionSortCmpFunc_Matrix_i_spacesc1c1_d737 p0 p1 p2).run fun r => some (slices_insertionSortCmpFunc_Matrix_i_spacesc1c1_d737_out p0 p1 p2 r) := fun _ _ _ => by kernel_rfl
noncomputable def slices_insertionSortCmpFunc_Matrix_i_spacesc1c1_d737_G (av : List AV) (rs : List Root) : Tre CallOut :=
 asCons av fun a0_ av0 =>
 asCons av0 fun a1_ av1 =>
 asCons av1 fun a2_ av2 =>
 asCons av2 fun a3_ av3 =>
 asEnd av3 <|
 asCons rs fun r0_ rs0 =>
 asEnd rs0 <|
 asRef (0, 0) [] a0_ <|
 asImmZ true (.int .i64) a1_ fun d1 =>
 asImmZ true (.int .i64) a2_ fun d2 =>
 asFn 123 [] a3_ <|
 asRt false (.sl kMatrix) r0_ fun m3 d4 =>
 asM (.sl (.imm true)) m3 <|
 .mat (slices_insertionSortCmpFunc_Matrix_i_spacesc1c1_d737_F d1 d2 d4) fun r => .ret (slices_insertionSortCmpFunc_Matrix_i_spacesc1c1_d737_out d1 d2 d4 r)
noncomputable def slices_insertionSortCmpFunc_Matrix_i_spacesc1c1_d737_c : Ctr := ⟨[0], fun ci => slices_insertionSortCmpFunc_Matrix_i_spacesc1c1_d737_G ci.args ci.roots, false⟩
theorem slices_insertionSortCmpFunc_Matrix_i_spacesc1c1_d737_env : EnvOK Try.prog .none slices_insertionSortCmpFunc_Matrix_i_spacesc1c1_d737_V := (envOK_cons i_spacesc1c1_ok ent123 envOK_nil)
set_option maxRecDepth 100000 in
theorem slices_insertionSortCmpFunc_Matrix_i_spacesc1c1_d737_ok : Contract Try.prog .none 148 slices_insertionSortCmpFunc_Matrix_i_spacesc1c1_d737_c := by
 have hl : LoopsOK slices_insertionSortCmpFunc_Matrix_i_spacesc1c1_d737_V slices_insertionSortCmpFunc_Matrix_i_spacesc1c1_d737_A slices_insertionSortCmpFunc_Matrix_i_spacesc1c1_d737_b := (loopsOK_all (n := 2) (by kernel_rfl) fun k hk => by
   match k, hk with
   | 0, _ => exact loopOK_at (id := 1) (L := slices_insertionSortCmpFunc_Matrix_i_spacesc1c1_d737_l1_L) (by kernel_rfl) (by kernel_rfl) slices_insertionSortCmpFunc_Matrix_i_spacesc1c1_d737_l1_ok
   | 1, _ => exact loopOK_at (id := 4) (L := slices_insertionSortCmpFunc_Matrix_i_spacesc1c1_d737_l4_L) (by kernel_rfl) (by kernel_rfl) slices_insertionSortCmpFunc_Matrix_i_spacesc1c1_d737_l4_ok)
 refine (contract_of (F := slices_insertionSortCmpFunc_Matrix_i_spacesc1c1_d737_I) tau_tys slices_insertionSortCmpFunc_Matrix_i_spacesc1c1_d737_env Try.func148 (by kernel_rfl) (by kernel_rfl) (by kernel_rfl) hl [0]).weaken ?_
 rintro ⟨av, rs⟩ co h
 have h : (slices_insertionSortCmpFunc_Matrix_i_spacesc1c1_d737_G av rs).run some = some co := h
 obtain ⟨a0_, av0, rfl, h_0⟩ := asCons_spec h
 obtain ⟨a1_, av1, rfl, h_1⟩ := asCons_spec h_0
 obtain ⟨a2_, av2, rfl, h_2⟩ := asCons_spec h_1
 obtain ⟨a3_, av3, rfl, h_3⟩ := asCons_spec h_2
 obtain ⟨rfl, h_4⟩ := asEnd_spec h_3
 obtain ⟨r0_, rs0, rfl, h_5⟩ := asCons_spec h_4
 obtain ⟨rfl, h_6⟩ := asEnd_spec h_5
 obtain ⟨rfl, h_7⟩ := asRef_spec h_6
 obtain ⟨d1, rfl, h_8⟩ := asImmZ_spec h_7
 obtain ⟨d2, rfl, h_9⟩ := asImmZ_spec h_8
 obtain ⟨rfl, h_10⟩ := asFn_spec h_9
 obtain ⟨m3, d4, rfl, h_11⟩ := asRt_spec h_10
 obtain ⟨rfl, h_12⟩ := asM_spec h_11
 exact fin_mat (slices_insertionSortCmpFunc_Matrix_i_spacesc1c1_d737_eq d1 d2 d4) h_12
end Go.Proofs.Ythnkanacjhlhhaa

namespace Go.Proofs.Ythnkanacjhlhhaa
open Go Go.Abs Go.Proofs
noncomputable def slices_siftDownCmpFunc_Matrix_i_spacesc1c1_c978_l1 (h1_0_0 : Int) (h1_0_1 : Int) : (Int × (List TMatrix)) → Tre ((Int × (List TMatrix)) ⊕ ((List TMatrix) ⊕ (List TMatrix))) := fun s1 =>
 let v1 := iwrap .i64 ((iwrap .i64 (2 * s1.1)) + 1)
 .cond (decide (v1 ≥ h1_0_0))
  (.ret (.inr (.inl s1.2)))
  (.cond (decide (iwrap .i64 (v1 + 1) < h1_0_0))
   (.ite (0 ≤ iwrap .i64 (h1_0_1 + v1) ∧ iwrap .i64 (h1_0_1 + v1) < (s1.2.length : Int)) <|
   .mat (s1.2[(iwrap .i64 (h1_0_1 + v1)).toNat]?) fun x2 =>
   let v3 := iwrap .i64 ((iwrap .i64 (h1_0_1 + v1)) + 1)
   .ite (0 ≤ v3 ∧ v3 < (s1.2.length : Int)) <|
   .mat (s1.2[v3.toNat]?) fun x4 =>
   .mat (i_spacesc1c1_F x2 x4) fun r5 =>
   .cond (decide (r5 < 0))
    (let v6 := iwrap .i64 (h1_0_1 + s1.1)
    .ite (0 ≤ v6 ∧ v6 < (s1.2.length : Int)) <|
    .mat (s1.2[v6.toNat]?) fun x7 =>
    let v8 := iwrap .i64 (h1_0_1 + (iwrap .i64 (v1 + 1)))
    .ite (0 ≤ v8 ∧ v8 < (s1.2.length : Int)) <|
    .mat (s1.2[v8.toNat]?) fun x9 =>
    .mat (i_spacesc1c1_F x7 x9) fun r10 =>
    .cond (!(decide (r10 < 0)))
     (.ret (.inr (.inr s1.2)))
     (.ite (0 ≤ v8 ∧ v8 < (s1.2.length : Int)) <|
     .mat (s1.2[v8.toNat]?) fun x11 =>
     .ite (0 ≤ v6 ∧ v6 < (s1.2.length : Int)) <|
     .mat (s1.2[v6.toNat]?) fun x12 =>
     .ite (0 ≤ v6 ∧ v6 < (s1.2.length : Int)) <|
     .mat (s1.2[v6.toNat]?) fun _ =>
     .ite (0 ≤ v8 ∧ v8 < ((s1.2.set v6.toNat x11).length : Int)) <|
     .mat ((s1.2.set v6.toNat x11)[v8.toNat]?) fun _ =>
     let v15 := (s1.2.set v6.toNat x11).set v8.toNat x12
     .ret (.inl (iwrap .i64 (v1 + 1), v15))))
    (let v16 := iwrap .i64 (h1_0_1 + s1.1)
    .ite (0 ≤ v16 ∧ v16 < (s1.2.length : Int)) <|
    .mat (s1.2[v16.toNat]?) fun x17 =>
    .ite (0 ≤ iwrap .i64 (h1_0_1 + v1) ∧ iwrap .i64 (h1_0_1 + v1) < (s1.2.length : Int)) <|
    .mat (s1.2[(iwrap .i64 (h1_0_1 + v1)).toNat]?) fun x18 =>
    .mat (i_spacesc1c1_F x17 x18) fun r19 =>
    .cond (!(decide (r19 < 0)))
     (.ret (.inr (.inr s1.2)))
     (.ite (0 ≤ iwrap .i64 (h1_0_1 + v1) ∧ iwrap .i64 (h1_0_1 + v1) < (s1.2.length : Int)) <|
     .mat (s1.2[(iwrap .i64 (h1_0_1 + v1)).toNat]?) fun x20 =>
     .ite (0 ≤ v16 ∧ v16 < (s1.2.length : Int)) <|
     .mat (s1.2[v16.toNat]?) fun x21 =>
     .ite (0 ≤ v16 ∧ v16 < (s1.2.length : Int)) <|
     .mat (s1.2[v16.toNat]?) fun _ =>
     .ite (0 ≤ iwrap .i64 (h1_0_1 + v1) ∧ iwrap .i64 (h1_0_1 + v1) < ((s1.2.set v16.toNat x20).length : Int)) <|
     .mat ((s1.2.set v16.toNat x20)[(iwrap .i64 (h1_0_1 + v1)).toNat]?) fun _ =>
     let v24 := (s1.2.set v16.toNat x20).set ((iwrap .i64 (h1_0_1 + v1)).toNat) x21
     .ret (.inl (v1, v24)))))
   (let v25 := iwrap .i64 (h1_0_1 + s1.1)
   .ite (0 ≤ v25 ∧ v25 < (s1.2.length : Int)) <|
   .mat (s1.2[v25.toNat]?) fun x26 =>
   .ite (0 ≤ iwrap .i64 (h1_0_1 + v1) ∧ iwrap .i64 (h1_0_1 + v1) < (s1.2.length : Int)) <|
   .mat (s1.2[(iwrap .i64 (h1_0_1 + v1)).toNat]?) fun x27 =>
   .mat (i_spacesc1c1_F x26 x27) fun r28 =>
   .cond (!(decide (r28 < 0)))
    (.ret (.inr (.inr s1.2)))
    (.ite (0 ≤ iwrap .i64 (h1_0_1 + v1) ∧ iwrap .i64 (h1_0_1 + v1) < (s1.2.length : Int)) <|
    .mat (s1.2[(iwrap .i64 (h1_0_1 + v1)).toNat]?) fun x29 =>
    .ite (0 ≤ v25 ∧ v25 < (s1.2.length : Int)) <|
    .mat (s1.2[v25.toNat]?) fun x30 =>
    .ite (0 ≤ v25 ∧ v25 < (s1.2.length : Int)) <|
    .mat (s1.2[v25.toNat]?) fun _ =>
    .ite (0 ≤ iwrap .i64 (h1_0_1 + v1) ∧ iwrap .i64 (h1_0_1 + v1) < ((s1.2.set v25.toNat x29).length : Int)) <|
    .mat ((s1.2.set v25.toNat x29)[(iwrap .i64 (h1_0_1 + v1)).toNat]?) fun _ =>
    let v33 := (s1.2.set v25.toNat x29).set ((iwrap .i64 (h1_0_1 + v1)).toNat) x30
    .ret (.inl (v1, v33)))))
noncomputable def slices_siftDownCmpFunc_Matrix_i_spacesc1c1_c978 (p0 : Int) (p1 : Int) (p2 : Int) (p3 : (List TMatrix)) : Tre (List TMatrix) :=
 .mat (loopF (slices_siftDownCmpFunc_Matrix_i_spacesc1c1_c978_l1 p1 p2) (p0, p3)) fun l34 =>
 .alt l34
  (fun a35 =>
   .ret a35)
  (fun b36 =>
   .ret b36)
noncomputable def slices_siftDownCmpFunc_Matrix_i_spacesc1c1_c978_F (p0 : Int) (p1 : Int) (p2 : Int) (p3 : (List TMatrix)) : Option (List TMatrix) := (slices_siftDownCmpFunc_Matrix_i_spacesc1c1_c978 p0 p1 p2 p3).run some
noncomputable def slices_siftDownCmpFunc_Matrix_i_spacesc1c1_c978_V : Env := ⟨tau, [(123, i_spacesc1c1_c)], []⟩
noncomputable def slices_siftDownCmpFunc_Matrix_i_spacesc1c1_c978_b : Code := (Try.f166.body).getD .skip
noncomputable def slices_siftDownCmpFunc_Matrix_i_spacesc1c1_c978_l1_mk (h1_0_0 : Int) (h1_0_1 : Int) : (Int × (List TMatrix)) → St := fun x => stOf [(0, (.ref (0, 0) [])), (2, (.imm true (.int .i64) h1_0_0)), (3, (.imm true (.int .i64) h1_0_1)), (4, (.fn 123 [])), (10, (.imm true (.int .i64) x.1))] [((0, 0), some ⟨false, (.sl kMatrix), (.sl (.imm true)), x.2⟩)]
noncomputable def slices_siftDownCmpFunc_Matrix_i_spacesc1c1_c978_l1_out (_h1_0_0 : Int) (_h1_0_1 : Int) : ((List TMatrix) ⊕ (List TMatrix)) → Ex × St
 | .inl x => (.exit 0, stOf [] [((0, 0), some ⟨false, (.sl kMatrix), (.sl (.imm true)), x⟩)])
 | .inr x => (.ret, stOf [] [((0, 0), some ⟨false, (.sl kMatrix), (.sl (.imm true)), x⟩)])
noncomputable def slices_siftDownCmpFunc_Matrix_i_spacesc1c1_c978_l1_D (s : St) : Tre (Ex × St) :=
 asRef (0, 0) [] (s.tmps 0) <|
 asImmZ true (.int .i64) (s.tmps 2) fun d3 =>
 asImmZ true (.int .i64) (s.tmps 3) fun d5 =>
 asFn 123 [] (s.tmps 4) <|
 asImmZ true (.int .i64) (s.tmps 10) fun d8 =>
 asRoot false (.sl kMatrix) (s.roots (0, 0)) fun m10 d11 =>
 asM (.sl (.imm true)) m10 <|
 .mat (loopF (slices_siftDownCmpFunc_Matrix_i_spacesc1c1_c978_l1 d3 d5) (d8, d11)) fun x => .alt x (fun a0 => .ret (slices_siftDownCmpFunc_Matrix_i_spacesc1c1_c978_l1_out d3 d5 (.inl a0))) (fun b0 => .ret (slices_siftDownCmpFunc_Matrix_i_spacesc1c1_c978_l1_out d3 d5 (.inr b0)))
noncomputable def slices_siftDownCmpFunc_Matrix_i_spacesc1c1_c978_l1_L : LoopI := ⟨([0, 2, 3, 4, 10], [(0, 0)]), ([], [(0, 0)]), slices_siftDownCmpFunc_Matrix_i_spacesc1c1_c978_l1_D⟩
noncomputable def slices_siftDownCmpFunc_Matrix_i_spacesc1c1_c978_A : List (Nat × LoopI) := [(1, slices_siftDownCmpFunc_Matrix_i_spacesc1c1_c978_l1_L)]
set_option maxRecDepth 100000 in
theorem slices_siftDownCmpFunc_Matrix_i_spacesc1c1_c978_l1_step : ∀ (h1_0_0 : Int) (h1_0_1 : Int) (x : (Int × (List TMatrix))) (c : St → Option (Ex × St)), den slices_siftDownCmpFunc_Matrix_i_spacesc1c1_c978_V slices_siftDownCmpFunc_Matrix_i_spacesc1c1_c978_A (loopAt slices_siftDownCmpFunc_Matrix_i_spacesc1c1_c978_b 0) (slices_siftDownCmpFunc_Matrix_i_spacesc1c1_c978_l1_mk h1_0_0 h1_0_1 x) (roundK slices_siftDownCmpFunc_Matrix_i_spacesc1c1_c978_l1_L.kp slices_siftDownCmpFunc_Matrix_i_spacesc1c1_c978_l1_L.kx c) = (slices_siftDownCmpFunc_Matrix_i_spacesc1c1_c978_l1 h1_0_0 h1_0_1 x).run (roundR (slices_siftDownCmpFunc_Matrix_i_spacesc1c1_c978_l1_mk h1_0_0 h1_0_1) (slices_siftDownCmpFunc_Matrix_i_spacesc1c1_c978_l1_out h1_0_0 h1_0_1) c) := fun _ _ _ _ => by
 kernel_rfl
theorem slices_siftDownCmpFunc_Matrix_i_spacesc1c1_c978_l1_ok : LoopOK slices_siftDownCmpFunc_Matrix_i_spacesc1c1_c978_V slices_siftDownCmpFunc_Matrix_i_spacesc1c1_c978_A (loopAt slices_siftDownCmpFunc_Matrix_i_spacesc1c1_c978_b 0) slices_siftDownCmpFunc_Matrix_i_spacesc1c1_c978_l1_L := loopOK_of fun s e s' h => by
 generalize hs : restrict slices_siftDownCmpFunc_Matrix_i_spacesc1c1_c978_l1_L.kp s = s1 at h
 have h : (slices_siftDownCmpFunc_Matrix_i_spacesc1c1_c978_l1_D s1).run some = some (e, s') := h
 obtain ⟨e1, h_0⟩ := asRef_spec h
 obtain ⟨d3, e2, h_1⟩ := asImmZ_spec h_0
 obtain ⟨d5, e4, h_2⟩ := asImmZ_spec h_1
 obtain ⟨e6, h_3⟩ := asFn_spec h_2
 obtain ⟨d8, e7, h_4⟩ := asImmZ_spec h_3
 obtain ⟨m10, d11, e9, h_5⟩ := asRoot_spec h_4
 obtain ⟨rfl, h_6⟩ := asM_spec h_5
 obtain ⟨y, hy, hz⟩ := mat_some h_6
 refine ⟨_, _, slices_siftDownCmpFunc_Matrix_i_spacesc1c1_c978_l1_mk d3 d5, slices_siftDownCmpFunc_Matrix_i_spacesc1c1_c978_l1_out d3 d5, slices_siftDownCmpFunc_Matrix_i_spacesc1c1_c978_l1 d3 d5, (d8, d11), y, ?_, hy, ?_, slices_siftDownCmpFunc_Matrix_i_spacesc1c1_c978_l1_step d3 d5⟩
 ·subst hs; exact restrict_eq (T := [(0, (.ref (0, 0) [])), (2, (.imm true (.int .i64) d3)), (3, (.imm true (.int .i64) d5)), (4, (.fn 123 [])), (10, (.imm true (.int .i64) d8))]) (U := [((0, 0), some ⟨false, (.sl kMatrix), (.sl (.imm true)), d11⟩)]) rfl rfl ⟨e1, e2, e4, e6, e7, trivial⟩ ⟨e9, trivial⟩
 ·rcases y with x | x <;> exact Option.some.inj hz
noncomputable def slices_siftDownCmpFunc_Matrix_i_spacesc1c1_c978_I : FnI := ⟨slices_siftDownCmpFunc_Matrix_i_spacesc1c1_c978_b, Try.f166.results.toList, Try.f166.resultTypes.toList, slices_siftDownCmpFunc_Matrix_i_spacesc1c1_c978_A⟩
noncomputable def slices_siftDownCmpFunc_Matrix_i_spacesc1c1_c978_out (_p0 : Int) (_p1 : Int) (_p2 : Int) (_p3 : (List TMatrix)) : (List TMatrix) → CallOut := fun r => ⟨.tnil, [⟨false, (.sl kMatrix), (.sl (.imm true)), r⟩], []⟩
set_option maxRecDepth 100000 in
theorem slices_siftDownCmpFunc_Matrix_i_spacesc1c1_c978_eq : ∀ (p0 : Int) (p1 : Int) (p2 : Int) (p3 : (List TMatrix)), denFn slices_siftDownCmpFunc_Matrix_i_spacesc1c1_c978_V slices_siftDownCmpFunc_Matrix_i_spacesc1c1_c978_I ⟨[(.ref (0, 0) []), (.imm true (.int .i64) p0), (.imm true (.int .i64) p1), (.imm true (.int .i64) p2), (.fn 123 [])], [⟨false, (.sl kMatrix), (.sl (.imm true)), p3⟩]⟩ = (slices_siftDownCmpFunc_Matrix_i_spacesc1c1_c978 p0 p1 p2 p3).run fun r => some (slices_siftDownCmpFunc_Matrix_i_spacesc1c1_c978_out p0 p1 p2 p3 r) := fun _ _ _ _ => by kernel_rfl
noncomputable def slices_siftDownCmpFunc_Matrix_i_spacesc1c1_c978_G (av : List AV) (rs : List Root) : Tre CallOut :=
 asCons av fun a0_ av0 =>
 asCons av0 fun a1_ av1 =>
 asCons av1 fun a2_ av2 =>
 asCons av2 fun a3_ av3 =>
 asCons av3 fun a4_ av4 =>
 asEnd av4 <|
 asCons rs fun r0_ rs0 =>
 asEnd rs0 <|
 asRef (0, 0) [] a0_ <|
 asImmZ true (.int .i64) a1_ fun d1 =>
 asImmZ true (.int .i64) a2_ fun d2 =>
 asImmZ true (.int .i64) a3_ fun d3 =>
 asFn 123 [] a4_ <|
 asRt false (.sl kMatrix) r0_ fun m4 d5 =>
 asM (.sl (.imm true)) m4 <|
 .mat (slices_siftDownCmpFunc_Matrix_i_spacesc1c1_c978_F d1 d2 d3 d5) fun r => .ret (slices_siftDownCmpFunc_Matrix_i_spacesc1c1_c978_out d1 d2 d3 d5 r)
noncomputable def slices_siftDownCmpFunc_Matrix_i_spacesc1c1_c978_c : Ctr := ⟨[0], fun ci => slices_siftDownCmpFunc_Matrix_i_spacesc1c1_c978_G ci.args ci.roots, false⟩
theorem slices_siftDownCmpFunc_Matrix_i_spacesc1c1_c978_env : EnvOK Try.prog .none slices_siftDownCmpFunc_Matrix_i_spacesc1c1_c978_V := (envOK_cons i_spacesc1c1_ok ent123 envOK_nil)
set_option maxRecDepth 100000 in
theorem slices_siftDownCmpFunc_Matrix_i_spacesc1c1_c978_ok : Contract Try.prog .none 166 slices_siftDownCmpFunc_Matrix_i_spacesc1c1_c978_c := by
 have hl : LoopsOK slices_siftDownCmpFunc_Matrix_i_spacesc1c1_c978_V slices_siftDownCmpFunc_Matrix_i_spacesc1c1_c978_A slices_siftDownCmpFunc_Matrix_i_spacesc1c1_c978_b := (loopsOK_all (n := 1) (by kernel_rfl) fun k hk => by
   match k, hk with
   | 0, _ => exact loopOK_at (id := 1) (L := slices_siftDownCmpFunc_Matrix_i_spacesc1c1_c978_l1_L) (by kernel_rfl) (by kernel_rfl) slices_siftDownCmpFunc_Matrix_i_spacesc1c1_c978_l1_ok)
 refine (contract_of (F := slices_siftDownCmpFunc_Matrix_i_spacesc1c1_c978_I) tau_tys slices_siftDownCmpFunc_Matrix_i_spacesc1c1_c978_env Try.func166 (by kernel_rfl) (by kernel_rfl) (by kernel_rfl) hl [0]).weaken ?_
 rintro ⟨av, rs⟩ co h
 have h : (slices_siftDownCmpFunc_Matrix_i_spacesc1c1_c978_G av rs).run some = some co := h
 obtain ⟨a0_, av0, rfl, h_0⟩ := asCons_spec h
 obtain ⟨a1_, av1, rfl, h_1⟩ := asCons_spec h_0
 obtain ⟨a2_, av2, rfl, h_2⟩ := asCons_spec h_1
 obtain ⟨a3_, av3, rfl, h_3⟩ := asCons_spec h_2
 obtain ⟨a4_, av4, rfl, h_4⟩ := asCons_spec h_3
 obtain ⟨rfl, h_5⟩ := asEnd_spec h_4
 obtain ⟨r0_, rs0, rfl, h_6⟩ := asCons_spec h_5
 obtain ⟨rfl, h_7⟩ := asEnd_spec h_6
 obtain ⟨rfl, h_8⟩ := asRef_spec h_7
 obtain ⟨d1, rfl, h_9⟩ := asImmZ_spec h_8
 obtain ⟨d2, rfl, h_10⟩ := asImmZ_spec h_9
 obtain ⟨d3, rfl, h_11⟩ := asImmZ_spec h_10
 obtain ⟨rfl, h_12⟩ := asFn_spec h_11
 obtain ⟨m4, d5, rfl, h_13⟩ := asRt_spec h_12
 obtain ⟨rfl, h_14⟩ := asM_spec h_13
 exact fin_mat (slices_siftDownCmpFunc_Matrix_i_spacesc1c1_c978_eq d1 d2 d3 d5) h_14
end Go.Proofs.Ythnkanacjhlhhaa

namespace Go.Proofs.Ythnkanacjhlhhaa
open Go Go.Abs Go.Proofs
noncomputable def slices_heapSortCmpFunc_Matrix_i_spacesc1c1_d737_l4 (h4_0_0 : Int) (h4_0_2 : Int) : (Int × (List TMatrix)) → Tre ((Int × (List TMatrix)) ⊕ (List TMatrix)) := fun s4 =>
 .cond (decide (s4.1 ≥ 0))
  (.mat (slices_siftDownCmpFunc_Matrix_i_spacesc1c1_c978_F s4.1 h4_0_2 h4_0_0 s4.2) fun r3 =>
  .ret (.inl (iwrap .i64 (s4.1 - 1), r3)))
  (.ret (.inr s4.2))
noncomputable def slices_heapSortCmpFunc_Matrix_i_spacesc1c1_d737_l8 (h8_0_0 : Int) (h8_0_1 : Int) : (Int × (List TMatrix)) → Tre ((Int × (List TMatrix)) ⊕ (List TMatrix)) := fun s8 =>
 .cond (decide (s8.1 ≥ 0))
  (let v5 := iwrap .i64 (h8_0_0 + s8.1)
  .ite (0 ≤ v5 ∧ v5 < (s8.2.length : Int)) <|
  .mat (s8.2[v5.toNat]?) fun x6 =>
  .ite (0 ≤ h8_0_0 ∧ h8_0_0 < (s8.2.length : Int)) <|
  .mat (s8.2[h8_0_0.toNat]?) fun x7 =>
  .ite (0 ≤ h8_0_0 ∧ h8_0_0 < (s8.2.length : Int)) <|
  .mat (s8.2[h8_0_0.toNat]?) fun _ =>
  let v9 := s8.2.set h8_0_0.toNat x6
  .ite (0 ≤ v5 ∧ v5 < (v9.length : Int)) <|
  .mat (v9[v5.toNat]?) fun _ =>
  .mat (slices_siftDownCmpFunc_Matrix_i_spacesc1c1_c978_F h8_0_1 s8.1 h8_0_0 (v9.set v5.toNat x7)) fun r11 =>
  .ret (.inl (iwrap .i64 (s8.1 - 1), r11)))
  (.ret (.inr s8.2))
noncomputable def slices_heapSortCmpFunc_Matrix_i_spacesc1c1_d737 (p0 : Int) (p1 : Int) (p2 : (List TMatrix)) : Tre (List TMatrix) :=
 let v1 := iwrap .i64 ((iwrap .i64 (p1 - p0)) - 1)
 let v2 := iwrap .i64 (Int.tdiv v1 2)
 .mat (loopF (slices_heapSortCmpFunc_Matrix_i_spacesc1c1_d737_l4 p0 (iwrap .i64 (p1 - p0))) (v2, p2)) fun l4 =>
 .mat (loopF (slices_heapSortCmpFunc_Matrix_i_spacesc1c1_d737_l8 p0 0) (v1, l4)) fun l12 =>
 .ret l12
noncomputable def slices_heapSortCmpFunc_Matrix_i_spacesc1c1_d737_F (p0 : Int) (p1 : Int) (p2 : (List TMatrix)) : Option (List TMatrix) := (slices_heapSortCmpFunc_Matrix_i_spacesc1c1_d737 p0 p1 p2).run some
noncomputable def slices_heapSortCmpFunc_Matrix_i_spacesc1c1_d737_V : Env := ⟨tau, [(166, slices_siftDownCmpFunc_Matrix_i_spacesc1c1_c978_c)], []⟩
noncomputable def slices_heapSortCmpFunc_Matrix_i_spacesc1c1_d737_b : Code := (Try.f149.body).getD .skip
noncomputable def slices_heapSortCmpFunc_Matrix_i_spacesc1c1_d737_l4_mk (h4_0_0 : Int) (h4_0_1 : Int) (h4_0_2 : Int) : (Int × (List TMatrix)) → St := fun x => stOf [(0, (.ref (0, 0) [])), (3, (.fn 123 [])), (8, (.imm true (.int .i64) h4_0_0)), (9, (.imm true (.int .i64) h4_0_1)), (10, (.imm true (.int .i64) h4_0_2)), (11, (.imm true (.int .i64) x.1))] [((0, 0), some ⟨false, (.sl kMatrix), (.sl (.imm true)), x.2⟩)]
noncomputable def slices_heapSortCmpFunc_Matrix_i_spacesc1c1_d737_l4_out (h4_0_0 : Int) (h4_0_1 : Int) (h4_0_2 : Int) : (List TMatrix) → Ex × St := fun x => (.exit 0, stOf [(0, (.ref (0, 0) [])), (3, (.fn 123 [])), (8, (.imm true (.int .i64) h4_0_0)), (9, (.imm true (.int .i64) h4_0_1)), (10, (.imm true (.int .i64) h4_0_2))] [((0, 0), some ⟨false, (.sl kMatrix), (.sl (.imm true)), x⟩)])
noncomputable def slices_heapSortCmpFunc_Matrix_i_spacesc1c1_d737_l4_D (s : St) : Tre (Ex × St) :=
 asRef (0, 0) [] (s.tmps 0) <|
 asFn 123 [] (s.tmps 3) <|
 asImmZ true (.int .i64) (s.tmps 8) fun d4 =>
 asImmZ true (.int .i64) (s.tmps 9) fun d6 =>
 asImmZ true (.int .i64) (s.tmps 10) fun d8 =>
 asImmZ true (.int .i64) (s.tmps 11) fun d10 =>
 asRoot false (.sl kMatrix) (s.roots (0, 0)) fun m12 d13 =>
 asM (.sl (.imm true)) m12 <|
 .mat (loopF (slices_heapSortCmpFunc_Matrix_i_spacesc1c1_d737_l4 d4 d8) (d10, d13)) fun x => .ret (slices_heapSortCmpFunc_Matrix_i_spacesc1c1_d737_l4_out d4 d6 d8 x)
noncomputable def slices_heapSortCmpFunc_Matrix_i_spacesc1c1_d737_l4_L : LoopI := ⟨([0, 3, 8, 9, 10, 11], [(0, 0)]), ([0, 3, 8, 9, 10], [(0, 0)]), slices_heapSortCmpFunc_Matrix_i_spacesc1c1_d737_l4_D⟩
noncomputable def slices_heapSortCmpFunc_Matrix_i_spacesc1c1_d737_l8_mk (h8_0_0 : Int) (h8_0_1 : Int) : (Int × (List TMatrix)) → St := fun x => stOf [(0, (.ref (0, 0) [])), (3, (.fn 123 [])), (8, (.imm true (.int .i64) h8_0_0)), (9, (.imm true (.int .i64) h8_0_1)), (12, (.imm true (.int .i64) x.1))] [((0, 0), some ⟨false, (.sl kMatrix), (.sl (.imm true)), x.2⟩)]
noncomputable def slices_heapSortCmpFunc_Matrix_i_spacesc1c1_d737_l8_out (_h8_0_0 : Int) (_h8_0_1 : Int) : (List TMatrix) → Ex × St := fun x => (.exit 2, stOf [] [((0, 0), some ⟨false, (.sl kMatrix), (.sl (.imm true)), x⟩)])
noncomputable def slices_heapSortCmpFunc_Matrix_i_spacesc1c1_d737_l8_D (s : St) : Tre (Ex × St) :=
 asRef (0, 0) [] (s.tmps 0) <|
 asFn 123 [] (s.tmps 3) <|
 asImmZ true (.int .i64) (s.tmps 8) fun d4 =>
 asImmZ true (.int .i64) (s.tmps 9) fun d6 =>
 asImmZ true (.int .i64) (s.tmps 12) fun d8 =>
 asRoot false (.sl kMatrix) (s.roots (0, 0)) fun m10 d11 =>
 asM (.sl (.imm true)) m10 <|
 .mat (loopF (slices_heapSortCmpFunc_Matrix_i_spacesc1c1_d737_l8 d4 d6) (d8, d11)) fun x => .ret (slices_heapSortCmpFunc_Matrix_i_spacesc1c1_d737_l8_out d4 d6 x)
noncomputable def slices_heapSortCmpFunc_Matrix_i_spacesc1c1_d737_l8_L : LoopI := ⟨([0, 3, 8, 9, 12], [(0, 0)]), ([], [(0, 0)]), slices_heapSortCmpFunc_Matrix_i_spacesc1c1_d737_l8_D⟩
noncomputable def slices_heapSortCmpFunc_Matrix_i_spacesc1c1_d737_A : List (Nat × LoopI) := [(4, slices_heapSortCmpFunc_Matrix_i_spacesc1c1_d737_l4_L), (8, slices_heapSortCmpFunc_Matrix_i_spacesc1c1_d737_l8_L)]
set_option maxRecDepth 100000 in
theorem slices_heapSortCmpFunc_Matrix_i_spacesc1c1_d737_l4_step : ∀ (h4_0_0 : Int) (h4_0_1 : Int) (h4_0_2 : Int) (x : (Int × (List TMatrix))) (c : St → Option (Ex × St)), den slices_heapSortCmpFunc_Matrix_i_spacesc1c1_d737_V slices_heapSortCmpFunc_Matrix_i_spacesc1c1_d737_A (loopAt slices_heapSortCmpFunc_Matrix_i_spacesc1c1_d737_b 0) (slices_heapSortCmpFunc_Matrix_i_spacesc1c1_d737_l4_mk h4_0_0 h4_0_1 h4_0_2 x) (roundK slices_heapSortCmpFunc_Matrix_i_spacesc1c1_d737_l4_L.kp slices_heapSortCmpFunc_Matrix_i_spacesc1c1_d737_l4_L.kx c) = (slices_heapSortCmpFunc_Matrix_i_spacesc1c1_d737_l4 h4_0_0 h4_0_2 x).run (roundR (slices_heapSortCmpFunc_Matrix_i_spacesc1c1_d737_l4_mk h4_0_0 h4_0_1 h4_0_2) (slices_heapSortCmpFunc_Matrix_i_spacesc1c1_d737_l4_out h4_0_0 h4_0_1 h4_0_2) c) := fun _ _ _ _ _ => by
 kernel_rfl
theorem slices_heapSortCmpFunc_Matrix_i_spacesc1c1_d737_l4_ok : LoopOK slices_heapSortCmpFunc_Matrix_i_spacesc1c1_d737_V slices_heapSortCmpFunc_Matrix_i_spacesc1c1_d737_A (loopAt slices_heapSortCmpFunc_Matrix_i_spacesc1c1_d737_b 0) slices_heapSortCmpFunc_Matrix_i_spacesc1c1_d737_l4_L := loopOK_of fun s e s' h => by
 generalize hs : restrict slices_heapSortCmpFunc_Matrix_i_spacesc1c1_d737_l4_L.kp s = s1 at h
 have h : (slices_heapSortCmpFunc_Matrix_i_spacesc1c1_d737_l4_D s1).run some = some (e, s') := h
 obtain ⟨e1, h_0⟩ := asRef_spec h
 obtain ⟨e2, h_1⟩ := asFn_spec h_0
 obtain ⟨d4, e3, h_2⟩ := asImmZ_spec h_1
 obtain ⟨d6, e5, h_3⟩ := asImmZ_spec h_2
 obtain ⟨d8, e7, h_4⟩ := asImmZ_spec h_3
 obtain ⟨d10, e9, h_5⟩ := asImmZ_spec h_4
 obtain ⟨m12, d13, e11, h_6⟩ := asRoot_spec h_5
 obtain ⟨rfl, h_7⟩ := asM_spec h_6
 obtain ⟨y, hy, hz⟩ := mat_ret h_7
 refine ⟨_, _, slices_heapSortCmpFunc_Matrix_i_spacesc1c1_d737_l4_mk d4 d6 d8, slices_heapSortCmpFunc_Matrix_i_spacesc1c1_d737_l4_out d4 d6 d8, slices_heapSortCmpFunc_Matrix_i_spacesc1c1_d737_l4 d4 d8, (d10, d13), y, ?_, hy, ?_, slices_heapSortCmpFunc_Matrix_i_spacesc1c1_d737_l4_step d4 d6 d8⟩
 ·subst hs; exact restrict_eq (T := [(0, (.ref (0, 0) [])), (3, (.fn 123 [])), (8, (.imm true (.int .i64) d4)), (9, (.imm true (.int .i64) d6)), (10, (.imm true (.int .i64) d8)), (11, (.imm true (.int .i64) d10))]) (U := [((0, 0), some ⟨false, (.sl kMatrix), (.sl (.imm true)), d13⟩)]) rfl rfl ⟨e1, e2, e3, e5, e7, e9, trivial⟩ ⟨e11, trivial⟩
 ·exact Option.some.inj hz
set_option maxRecDepth 100000 in
theorem slices_heapSortCmpFunc_Matrix_i_spacesc1c1_d737_l8_step : ∀ (h8_0_0 : Int) (h8_0_1 : Int) (x : (Int × (List TMatrix))) (c : St → Option (Ex × St)), den slices_heapSortCmpFunc_Matrix_i_spacesc1c1_d737_V slices_heapSortCmpFunc_Matrix_i_spacesc1c1_d737_A (loopAt slices_heapSortCmpFunc_Matrix_i_spacesc1c1_d737_b 1) (slices_heapSortCmpFunc_Matrix_i_spacesc1c1_d737_l8_mk h8_0_0 h8_0_1 x) (roundK slices_heapSortCmpFunc_Matrix_i_spacesc1c1_d737_l8_L.kp slices_heapSortCmpFunc_Matrix_i_spacesc1c1_d737_l8_L.kx c) = (slices_heapSortCmpFunc_Matrix_i_spacesc1c1_d737_l8 h8_0_0 h8_0_1 x).run (roundR (slices_heapSortCmpFunc_Matrix_i_spacesc1c1_d737_l8_mk h8_0_0 h8_0_1) (slices_heapSortCmpFunc_Matrix_i_spacesc1c1_d737_l8_out h8_0_0 h8_0_1) c) := fun _ _ _ _ => by
 kernel_rfl
theorem slices_heapSortCmpFunc_Matrix_i_spacesc1c1_d737_l8_ok : LoopOK slices_heapSortCmpFunc_Matrix_i_spacesc1c1_d737_V slices_heapSortCmpFunc_Matrix_i_spacesc1c1_d737_A (loopAt slices_heapSortCmpFunc_Matrix_i_spacesc1c1_d737_b 1) slices_heapSortCmpFunc_Matrix_i_spacesc1c1_d737_l8_L := loopOK_of fun s e s' h => by
 generalize hs : restrict slices_heapSortCmpFunc_Matrix_i_spacesc1c1_d737_l8_L.kp s = s1 at h
 have h : (slices_heapSortCmpFunc_Matrix_i_spacesc1c1_d737_l8_D s1).run some = some (e, s') := h
 obtain ⟨e1, h_0⟩ := asRef_spec h
 obtain ⟨e2, h_1⟩ := asFn_spec h_0
 obtain ⟨d4, e3, h_2⟩ := asImmZ_spec h_1
 obtain ⟨d6, e5, h_3⟩ := asImmZ_spec h_2
 obtain ⟨d8, e7, h_4⟩ := asImmZ_spec h_3
 obtain ⟨m10, d11, e9, h_5⟩ := asRoot_spec h_4
 obtain ⟨rfl, h_6⟩ := asM_spec h_5
 obtain ⟨y, hy, hz⟩ := mat_ret h_6
 refine ⟨_, _, slices_heapSortCmpFunc_Matrix_i_spacesc1c1_d737_l8_mk d4 d6, slices_heapSortCmpFunc_Matrix_i_spacesc1c1_d737_l8_out d4 d6, slices_heapSortCmpFunc_Matrix_i_spacesc1c1_d737_l8 d4 d6, (d8, d11), y, ?_, hy, ?_, slices_heapSortCmpFunc_Matrix_i_spacesc1c1_d737_l8_step d4 d6⟩
 ·subst hs; exact restrict_eq (T := [(0, (.ref (0, 0) [])), (3, (.fn 123 [])), (8, (.imm true (.int .i64) d4)), (9, (.imm true (.int .i64) d6)), (12, (.imm true (.int .i64) d8))]) (U := [((0, 0), some ⟨false, (.sl kMatrix), (.sl (.imm true)), d11⟩)]) rfl rfl ⟨e1, e2, e3, e5, e7, trivial⟩ ⟨e9, trivial⟩
 ·exact Option.some.inj hz
noncomputable def slices_heapSortCmpFunc_Matrix_i_spacesc1c1_d737_I : FnI := ⟨slices_heapSortCmpFunc_Matrix_i_spacesc1c1_d737_b, Try.f149.results.toList, Try.f149.resultTypes.toList, slices_heapSortCmpFunc_Matrix_i_spacesc1c1_d737_A⟩
noncomputable def slices_heapSortCmpFunc_Matrix_i_spacesc1c1_d737_out (_p0 : Int) (_p1 : Int) (_p2 : (List TMatrix)) : (List TMatrix) → CallOut := fun r => ⟨.tnil, [⟨false, (.sl kMatrix), (.sl (.imm true)), r⟩], []⟩
set_option maxRecDepth 100000 in
theorem slices_heapSortCmpFunc_Matrix_i_spacesc1c1_d737_eq : ∀ (p0 : Int) (p1 : Int) (p2 : (List TMatrix)), denFn slices_heapSortCmpFunc_Matrix_i_spacesc1c1_d737_V slices_heapSortCmpFunc_Matrix_i_spacesc1c1_d737_I ⟨[(.ref (0, 0) []), (.imm true (.int .i64) p0), (.imm true (.int .i64) p1), (.fn 123 [])], [⟨false, (.sl kMatrix), (.sl (.imm true)), p2⟩]⟩ = (slices_heapSortCmpFunc_Matrix_i_spacesc1c1_d737 p0 p1 p2).run fun r => some (slices_heapSortCmpFunc_Matrix_i_spacesc1c1_d737_out p0 p1 p2 r) := fun _ _ _ => by kernel_rfl
noncomputable def slices_heapSortCmpFunc_Matrix_i_spacesc1c1_d737_G (av : List AV) (rs : List Root) : Tre CallOut :=
 asCons av fun a0_ av0 =>
 asCons av0 fun a1_ av1 =>
 asCons av1 fun a2_ av2 =>
 asCons av2 fun a3_ av3 =>
 asEnd av3 <|
 asCons rs fun r0_ rs0 =>
 asEnd rs0 <|
 asRef (0, 0) [] a0_ <|
 asImmZ true (.int .i64) a1_ fun d1 =>
 asImmZ true (.int .i64) a2_ fun d2 =>
 asFn 123 [] a3_ <|
 asRt false (.sl kMatrix) r0_ fun m3 d4 =>
 asM (.sl (.imm true)) m3 <|
 .mat (slices_heapSortCmpFunc_Matrix_i_spacesc1c1_d737_F d1 d2 d4) fun r => .ret (slices_heapSortCmpFunc_Matrix_i_spacesc1c1_d737_out d1 d2 d4 r)
noncomputable def slices_heapSortCmpFunc_Matrix_i_spacesc1c1_d737_c : Ctr := ⟨[0], fun ci => slices_heapSortCmpFunc_Matrix_i_spacesc1c1_d737_G ci.args ci.roots, false⟩
theorem slices_heapSortCmpFunc_Matrix_i_spacesc1c1_d737_env : EnvOK Try.prog .none slices_heapSortCmpFunc_Matrix_i_spacesc1c1_d737_V := (envOK_cons slices_siftDownCmpFunc_Matrix_i_spacesc1c1_c978_ok ent166 envOK_nil)
set_option maxRecDepth 100000 in
theorem slices_heapSortCmpFunc_Matrix_i_spacesc1c1_d737_ok : Contract Try.prog .none 149 slices_heapSortCmpFunc_Matrix_i_spacesc1c1_d737_c := by
 have hl : LoopsOK slices_heapSortCmpFunc_Matrix_i_spacesc1c1_d737_V slices_heapSortCmpFunc_Matrix_i_spacesc1c1_d737_A slices_heapSortCmpFunc_Matrix_i_spacesc1c1_d737_b := (loopsOK_all (n := 2) (by kernel_rfl) fun k hk => by
   match k, hk with
   | 0, _ => exact loopOK_at (id := 4) (L := slices_heapSortCmpFunc_Matrix_i_spacesc1c1_d737_l4_L) (by kernel_rfl) (by kernel_rfl) slices_heapSortCmpFunc_Matrix_i_spacesc1c1_d737_l4_ok
   | 1, _ => exact loopOK_at (id := 8) (L := slices_heapSortCmpFunc_Matrix_i_spacesc1c1_d737_l8_L) (by kernel_rfl) (by kernel_rfl) slices_heapSortCmpFunc_Matrix_i_spacesc1c1_d737_l8_ok)
 refine (contract_of (F := slices_heapSortCmpFunc_Matrix_i_spacesc1c1_d737_I) tau_tys slices_heapSortCmpFunc_Matrix_i_spacesc1c1_d737_env Try.func149 (by kernel_rfl) (by kernel_rfl) (by kernel_rfl) hl [0]).weaken ?_
 rintro ⟨av, rs⟩ co h
 have h : (slices_heapSortCmpFunc_Matrix_i_spacesc1c1_d737_G av rs).run some = some co := h
 obtain ⟨a0_, av0, rfl, h_0⟩ := asCons_spec h
 obtain ⟨a1_, av1, rfl, h_1⟩ := asCons_spec h_0
 obtain ⟨a2_, av2, rfl, h_2⟩ := asCons_spec h_1
 obtain ⟨a3_, av3, rfl, h_3⟩ := asCons_spec h_2
 obtain ⟨rfl, h_4⟩ := asEnd_spec h_3
 obtain ⟨r0_, rs0, rfl, h_5⟩ := asCons_spec h_4
 obtain ⟨rfl, h_6⟩ := asEnd_spec h_5
 obtain ⟨rfl, h_7⟩ := asRef_spec h_6
 obtain ⟨d1, rfl, h_8⟩ := asImmZ_spec h_7
 obtain ⟨d2, rfl, h_9⟩ := asImmZ_spec h_8
 obtain ⟨rfl, h_10⟩ := asFn_spec h_9
 obtain ⟨m3, d4, rfl, h_11⟩ := asRt_spec h_10
 obtain ⟨rfl, h_12⟩ := asM_spec h_11
 exact fin_mat (slices_heapSortCmpFunc_Matrix_i_spacesc1c1_d737_eq d1 d2 d4) h_12
end Go.Proofs.Ythnkanacjhlhhaa

namespace Go.Proofs.Ythnkanacjhlhhaa
open Go Go.Abs Go.Proofs
noncomputable def slices_nextPowerOfTwo (p0 : Int) : Tre Int :=
 .mat (bits_Len_F (iwrap .u64 p0)) fun r1 =>
 .ite (0 ≤ r1) <|
 .ret (ishl .u64 1 r1)
noncomputable def slices_nextPowerOfTwo_F (p0 : Int) : Option Int := (slices_nextPowerOfTwo p0).run some
noncomputable def slices_nextPowerOfTwo_V : Env := ⟨tau, [(119, bits_Len_c)], []⟩
noncomputable def slices_nextPowerOfTwo_b : Code := (Try.f167.body).getD .skip
noncomputable def slices_nextPowerOfTwo_I : FnI := ⟨slices_nextPowerOfTwo_b, Try.f167.results.toList, Try.f167.resultTypes.toList, []⟩
noncomputable def slices_nextPowerOfTwo_out (_p0 : Int) : Int → CallOut := fun r => ⟨(.imm true (.int .u64) r), [], []⟩
set_option maxRecDepth 100000 in
theorem slices_nextPowerOfTwo_eq : ∀ (p0 : Int), denFn slices_nextPowerOfTwo_V slices_nextPowerOfTwo_I ⟨[(.imm true (.int .i64) p0)], []⟩ = (slices_nextPowerOfTwo p0).run fun r => some (slices_nextPowerOfTwo_out p0 r) := fun _ => by kernel_rfl
noncomputable def slices_nextPowerOfTwo_G (av : List AV) (rs : List Root) : Tre CallOut :=
 asCons av fun a0_ av0 =>
 asEnd av0 <|
 asEnd rs <|
 asImmZ true (.int .i64) a0_ fun d1 =>
 .mat (slices_nextPowerOfTwo_F d1) fun r => .ret (slices_nextPowerOfTwo_out d1 r)
noncomputable def slices_nextPowerOfTwo_c : Ctr := ⟨[], fun ci => slices_nextPowerOfTwo_G ci.args ci.roots, false⟩
theorem slices_nextPowerOfTwo_env : EnvOK Try.prog .none slices_nextPowerOfTwo_V := (envOK_cons bits_Len_ok ent119 envOK_nil)
set_option maxRecDepth 100000 in
theorem slices_nextPowerOfTwo_ok : Contract Try.prog .none 167 slices_nextPowerOfTwo_c := by
 have hl : LoopsOK slices_nextPowerOfTwo_V [] slices_nextPowerOfTwo_b := loopsOK_nil (by kernel_rfl)
 refine (contract_of (F := slices_nextPowerOfTwo_I) tau_tys slices_nextPowerOfTwo_env Try.func167 (by kernel_rfl) (by kernel_rfl) (by kernel_rfl) hl []).weaken ?_
 rintro ⟨av, rs⟩ co h
 have h : (slices_nextPowerOfTwo_G av rs).run some = some co := h
 obtain ⟨a0_, av0, rfl, h_0⟩ := asCons_spec h
 obtain ⟨rfl, h_1⟩ := asEnd_spec h_0
 obtain ⟨rfl, h_2⟩ := asEnd_spec h_1
 obtain ⟨d1, rfl, h_3⟩ := asImmZ_spec h_2
 exact fin_mat (slices_nextPowerOfTwo_eq d1) h_3
end Go.Proofs.Ythnkanacjhlhhaa

namespace Go.Proofs.Ythnkanacjhlhhaa
open Go Go.Abs Go.Proofs
noncomputable def slices_xorshift_Next_7633 (p0 : Int) : Tre (Int × Int) :=
 let v1 := ixor .u64 p0 (ishl .u64 p0 13)
 let v2 := ixor .u64 v1 (ishr .u64 v1 7)
 let v3 := ixor .u64 v2 (ishl .u64 v2 17)
 .ret (v3, v3)
noncomputable def slices_xorshift_Next_7633_F (p0 : Int) : Option (Int × Int) := (slices_xorshift_Next_7633 p0).run some
def slices_xorshift_Next_7633_S (p0 : Int) : (Int × Int) :=
 let v1 := ixor .u64 p0 (ishl .u64 p0 13)
 let v2 := ixor .u64 v1 (ishr .u64 v1 7)
 let v3 := ixor .u64 v2 (ishl .u64 v2 17)
 (v3, v3)
theorem slices_xorshift_Next_7633_spec (p0 : Int) : slices_xorshift_Next_7633_F p0 = some (slices_xorshift_Next_7633_S p0) := rfl
noncomputable def slices_xorshift_Next_7633_V : Env := ⟨tau, [], []⟩
noncomputable def slices_xorshift_Next_7633_b : Code := (Try.f168.body).getD .skip
noncomputable def slices_xorshift_Next_7633_I : FnI := ⟨slices_xorshift_Next_7633_b, Try.f168.results.toList, Try.f168.resultTypes.toList, []⟩
noncomputable def slices_xorshift_Next_7633_out (_p0 : Int) : (Int × Int) → CallOut := fun r => ⟨(.imm true (.int .u64) r.1), [⟨true, (.int .u64), .own, r.2⟩], []⟩
set_option maxRecDepth 100000 in
theorem slices_xorshift_Next_7633_eq : ∀ (p0 : Int), denFn slices_xorshift_Next_7633_V slices_xorshift_Next_7633_I ⟨[(.ptr (0, 0) [])], [⟨true, (.int .u64), .own, p0⟩]⟩ = (slices_xorshift_Next_7633 p0).run fun r => some (slices_xorshift_Next_7633_out p0 r) := fun _ => by kernel_rfl
noncomputable def slices_xorshift_Next_7633_G (av : List AV) (rs : List Root) : Tre CallOut :=
 asCons av fun a0_ av0 =>
 asEnd av0 <|
 asCons rs fun r0_ rs0 =>
 asEnd rs0 <|
 asPtr (0, 0) [] a0_ <|
 asRt true (.int .u64) r0_ fun m1 d2 =>
 asM .own m1 <|
 .ret (slices_xorshift_Next_7633_out d2 (slices_xorshift_Next_7633_S d2))
noncomputable def slices_xorshift_Next_7633_c : Ctr := ⟨[], fun ci => slices_xorshift_Next_7633_G ci.args ci.roots, false⟩
theorem slices_xorshift_Next_7633_env : EnvOK Try.prog .none slices_xorshift_Next_7633_V := envOK_nil
set_option maxRecDepth 100000 in
theorem slices_xorshift_Next_7633_ok : Contract Try.prog .none 168 slices_xorshift_Next_7633_c := by
 have hl : LoopsOK slices_xorshift_Next_7633_V [] slices_xorshift_Next_7633_b := loopsOK_nil (by kernel_rfl)
 refine (contract_of (F := slices_xorshift_Next_7633_I) tau_tys slices_xorshift_Next_7633_env Try.func168 (by kernel_rfl) (by kernel_rfl) (by kernel_rfl) hl []).weaken ?_
 rintro ⟨av, rs⟩ co h
 have h : (slices_xorshift_Next_7633_G av rs).run some = some co := h
 obtain ⟨a0_, av0, rfl, h_0⟩ := asCons_spec h
 obtain ⟨rfl, h_1⟩ := asEnd_spec h_0
 obtain ⟨r0_, rs0, rfl, h_2⟩ := asCons_spec h_1
 obtain ⟨rfl, h_3⟩ := asEnd_spec h_2
 obtain ⟨rfl, h_4⟩ := asPtr_spec h_3
 obtain ⟨m1, d2, rfl, h_5⟩ := asRt_spec h_4
 obtain ⟨rfl, h_6⟩ := asM_spec h_5
 exact fin_ret (slices_xorshift_Next_7633_eq d2) (slices_xorshift_Next_7633_spec d2) h_6
end Go.Proofs.Ythnkanacjhlhhaa

namespace Go.Proofs.Ythnkanacjhlhhaa
open Go Go.Abs Go.Proofs
noncomputable def slices_breakPatternsCmpFunc_Matrix_i_spacesc1c1_d737_l5 (h5_0_0 : Int) (h5_0_1 : Int) (h5_0_2 : Int) : (Int × (List TMatrix) × Int) → Tre ((Int × (List TMatrix) × Int) ⊕ (List TMatrix)) := fun s5 =>
 let v5 := iwrap .i64 (Int.tdiv h5_0_1 4)
 let v6 := iwrap .i64 (h5_0_0 + (iwrap .i64 (v5 * 2)))
 .cond (decide (s5.1 ≤ iwrap .i64 (v6 + 1)))
  (let v7 := slices_xorshift_Next_7633_S s5.2.2
  let v8 := iand .u64 v7.1 (iwrap .u64 (h5_0_2 - 1))
  .cond (decide (iwrap .i64 v8 ≥ h5_0_1))
   (let v9 := iwrap .i64 ((iwrap .i64 v8) - h5_0_1)
   .ite (0 ≤ iwrap .i64 (h5_0_0 + v9) ∧ iwrap .i64 (h5_0_0 + v9) < (s5.2.1.length : Int)) <|
   .mat (s5.2.1[(iwrap .i64 (h5_0_0 + v9)).toNat]?) fun x10 =>
   .ite (0 ≤ s5.1 ∧ s5.1 < (s5.2.1.length : Int)) <|
   .mat (s5.2.1[s5.1.toNat]?) fun x11 =>
   .ite (0 ≤ s5.1 ∧ s5.1 < (s5.2.1.length : Int)) <|
   .mat (s5.2.1[s5.1.toNat]?) fun _ =>
   let v13 := s5.2.1.set s5.1.toNat x10
   .ite (0 ≤ iwrap .i64 (h5_0_0 + v9) ∧ iwrap .i64 (h5_0_0 + v9) < (v13.length : Int)) <|
   .mat (v13[(iwrap .i64 (h5_0_0 + v9)).toNat]?) fun _ =>
   let v15 := v13.set ((iwrap .i64 (h5_0_0 + v9)).toNat) x11
   .ret (.inl (iwrap .i64 (s5.1 + 1), v15, v7.2)))
   (let v16 := iwrap .i64 (h5_0_0 + (iwrap .i64 v8))
   .ite (0 ≤ v16 ∧ v16 < (s5.2.1.length : Int)) <|
   .mat (s5.2.1[v16.toNat]?) fun x17 =>
   .ite (0 ≤ s5.1 ∧ s5.1 < (s5.2.1.length : Int)) <|
   .mat (s5.2.1[s5.1.toNat]?) fun x18 =>
   .ite (0 ≤ s5.1 ∧ s5.1 < (s5.2.1.length : Int)) <|
   .mat (s5.2.1[s5.1.toNat]?) fun _ =>
   let v20 := s5.2.1.set s5.1.toNat x17
   .ite (0 ≤ v16 ∧ v16 < (v20.length : Int)) <|
   .mat (v20[v16.toNat]?) fun _ =>
   .ret (.inl (iwrap .i64 (s5.1 + 1), v20.set v16.toNat x18, v7.2))))
  (.ret (.inr s5.2.1))
noncomputable def slices_breakPatternsCmpFunc_Matrix_i_spacesc1c1_d737 (p0 : Int) (p1 : Int) (p2 : (List TMatrix)) : Tre (List TMatrix) :=
 .cond (decide (iwrap .i64 (p1 - p0) ≥ 8))
  (let v1 := iwrap .u64 (iwrap .i64 (p1 - p0))
  .mat (slices_nextPowerOfTwo_F (iwrap .i64 (p1 - p0))) fun r2 =>
  let v3 := iwrap .i64 (Int.tdiv (iwrap .i64 (p1 - p0)) 4)
  let v4 := iwrap .i64 (p0 + (iwrap .i64 (v3 * 2)))
  .mat (loopF (slices_breakPatternsCmpFunc_Matrix_i_spacesc1c1_d737_l5 p0 (iwrap .i64 (p1 - p0)) r2) (iwrap .i64 (v4 - 1), p2, v1)) fun l22 =>
  .ret l22)
  (.ret p2)
noncomputable def slices_breakPatternsCmpFunc_Matrix_i_spacesc1c1_d737_F (p0 : Int) (p1 : Int) (p2 : (List TMatrix)) : Option (List TMatrix) := (slices_breakPatternsCmpFunc_Matrix_i_spacesc1c1_d737 p0 p1 p2).run some
noncomputable def slices_breakPatternsCmpFunc_Matrix_i_spacesc1c1_d737_V : Env := ⟨tau, [(167, slices_nextPowerOfTwo_c), (168, slices_xorshift_Next_7633_c)], []⟩
noncomputable def slices_breakPatternsCmpFunc_Matrix_i_spacesc1c1_d737_b : Code := (Try.f150.body).getD .skip
noncomputable def slices_breakPatternsCmpFunc_Matrix_i_spacesc1c1_d737_l5_mk (h5_0_0 : Int) (h5_0_1 : Int) (h5_0_2 : Int) : (Int × (List TMatrix) × Int) → St := fun x => stOf [(0, (.ref (0, 0) [])), (1, (.imm true (.int .i64) h5_0_0)), (8, (.imm true (.int .i64) h5_0_1)), (9, (.ptr (11, 0) [])), (10, (.imm true (.int .u64) h5_0_2)), (11, (.imm true (.int .i64) x.1))] [((0, 0), some ⟨false, (.sl kMatrix), (.sl (.imm true)), x.2.1⟩), ((11, 0), some ⟨true, (.int .u64), .own, x.2.2⟩)]
noncomputable def slices_breakPatternsCmpFunc_Matrix_i_spacesc1c1_d737_l5_out (_h5_0_0 : Int) (_h5_0_1 : Int) (_h5_0_2 : Int) : (List TMatrix) → Ex × St := fun x => (.exit 0, stOf [] [((0, 0), some ⟨false, (.sl kMatrix), (.sl (.imm true)), x⟩)])
noncomputable def slices_breakPatternsCmpFunc_Matrix_i_spacesc1c1_d737_l5_D (s : St) : Tre (Ex × St) :=
 asRef (0, 0) [] (s.tmps 0) <|
 asImmZ true (.int .i64) (s.tmps 1) fun d3 =>
 asImmZ true (.int .i64) (s.tmps 8) fun d5 =>
 asPtr (11, 0) [] (s.tmps 9) <|
 asImmZ true (.int .u64) (s.tmps 10) fun d8 =>
 asImmZ true (.int .i64) (s.tmps 11) fun d10 =>
 asRoot false (.sl kMatrix) (s.roots (0, 0)) fun m12 d13 =>
 asM (.sl (.imm true)) m12 <|
 asRoot true (.int .u64) (s.roots (11, 0)) fun m15 d16 =>
 asM .own m15 <|
 .mat (loopF (slices_breakPatternsCmpFunc_Matrix_i_spacesc1c1_d737_l5 d3 d5 d8) (d10, d13, d16)) fun x => .ret (slices_breakPatternsCmpFunc_Matrix_i_spacesc1c1_d737_l5_out d3 d5 d8 x)
noncomputable def slices_breakPatternsCmpFunc_Matrix_i_spacesc1c1_d737_l5_L : LoopI := ⟨([0, 1, 8, 9, 10, 11], [(0, 0), (11, 0)]), ([], [(0, 0)]), slices_breakPatternsCmpFunc_Matrix_i_spacesc1c1_d737_l5_D⟩
noncomputable def slices_breakPatternsCmpFunc_Matrix_i_spacesc1c1_d737_A : List (Nat × LoopI) := [(5, slices_breakPatternsCmpFunc_Matrix_i_spacesc1c1_d737_l5_L)]
set_option maxRecDepth 100000 in
theorem slices_breakPatternsCmpFunc_Matrix_i_spacesc1c1_d737_l5_step : ∀ (h5_0_0 : Int) (h5_0_1 : Int) (h5_0_2 : Int) (x : (Int × (List TMatrix) × Int)) (c : St → Option (Ex × St)), den slices_breakPatternsCmpFunc_Matrix_i_spacesc1c1_d737_V slices_breakPatternsCmpFunc_Matrix_i_spacesc1c1_d737_A (loopAt slices_breakPatternsCmpFunc_Matrix_i_spacesc1c1_d737_b 0) (slices_breakPatternsCmpFunc_Matrix_i_spacesc1c1_d737_l5_mk h5_0_0 h5_0_1 h5_0_2 x) (roundK slices_breakPatternsCmpFunc_Matrix_i_spacesc1c1_d737_l5_L.kp slices_breakPatternsCmpFunc_Matrix_i_spacesc1c1_d737_l5_L.kx c) = (slices_breakPatternsCmpFunc_Matrix_i_spacesc1c1_d737_l5 h5_0_0 h5_0_1 h5_0_2 x).run (roundR (slices_breakPatternsCmpFunc_Matrix_i_spacesc1c1_d737_l5_mk h5_0_0 h5_0_1 h5_0_2) (slices_breakPatternsCmpFunc_Matrix_i_spacesc1c1_d737_l5_out h5_0_0 h5_0_1 h5_0_2) c) := fun _ _ _ _ _ => by
 kernel_rfl
theorem slices_breakPatternsCmpFunc_Matrix_i_spacesc1c1_d737_l5_ok : LoopOK slices_breakPatternsCmpFunc_Matrix_i_spacesc1c1_d737_V slices_breakPatternsCmpFunc_Matrix_i_spacesc1c1_d737_A (loopAt slices_breakPatternsCmpFunc_Matrix_i_spacesc1c1_d737_b 0) slices_breakPatternsCmpFunc_Matrix_i_spacesc1c1_d737_l5_L := loopOK_of fun s e s' h => by
 generalize hs : restrict slices_breakPatternsCmpFunc_Matrix_i_spacesc1c1_d737_l5_L.kp s = s1 at h
 have h : (slices_breakPatternsCmpFunc_Matrix_i_spacesc1c1_d737_l5_D s1).run some = some (e, s') := h
 obtain ⟨e1, h_0⟩ := asRef_spec h
 obtain ⟨d3, e2, h_1⟩ := asImmZ_spec h_0
 obtain ⟨d5, e4, h_2⟩ := asImmZ_spec h_1
 obtain ⟨e6, h_3⟩ := asPtr_spec h_2
 obtain ⟨d8, e7, h_4⟩ := asImmZ_spec h_3
 obtain ⟨d10, e9, h_5⟩ := asImmZ_spec h_4
 obtain ⟨m12, d13, e11, h_6⟩ := asRoot_spec h_5
 obtain ⟨rfl, h_7⟩ := asM_spec h_6
 obtain ⟨m15, d16, e14, h_8⟩ := asRoot_spec h_7
 obtain ⟨rfl, h_9⟩ := asM_spec h_8
 obtain ⟨y, hy, hz⟩ := mat_ret h_9
 refine ⟨_, _, slices_breakPatternsCmpFunc_Matrix_i_spacesc1c1_d737_l5_mk d3 d5 d8, slices_breakPatternsCmpFunc_Matrix_i_spacesc1c1_d737_l5_out d3 d5 d8, slices_breakPatternsCmpFunc_Matrix_i_spacesc1c1_d737_l5 d3 d5 d8, (d10, d13, d16), y, ?_, hy, ?_, slices_breakPatternsCmpFunc_Matrix_i_spacesc1c1_d737_l5_step d3 d5 d8⟩
 ·subst hs; exact restrict_eq (T := [(0, (.ref (0, 0) [])), (1, (.imm true (.int .i64) d3)), (8, (.imm true (.int .i64) d5)), (9, (.ptr (11, 0) [])), (10, (.imm true (.int .u64) d8)), (11, (.imm true (.int .i64) d10))]) (U := [((0, 0), some ⟨false, (.sl kMatrix), (.sl (.imm true)), d13⟩), ((11, 0), some ⟨true, (.int .u64), .own, d16⟩)]) rfl rfl ⟨e1, e2, e4, e6, e7, e9, trivial⟩ ⟨e11, e14, trivial⟩
 ·exact Option.some.inj hz
noncomputable def slices_breakPatternsCmpFunc_Matrix_i_spacesc1c1_d737_I : FnI := ⟨slices_breakPatternsCmpFunc_Matrix_i_spacesc1c1_d737_b, Try.f150.results.toList, Try.f150.resultTypes.toList, slices_breakPatternsCmpFunc_Matrix_i_spacesc1c1_d737_A⟩
noncomputable def slices_breakPatternsCmpFunc_Matrix_i_spacesc1c1_d737_out (_p0 : Int) (_p1 : Int) (_p2 : (List TMatrix)) : (List TMatrix) → CallOut := fun r => ⟨.tnil, [⟨false, (.sl kMatrix), (.sl (.imm true)), r⟩], []⟩
set_option maxRecDepth 100000 in
theorem slices_breakPatternsCmpFunc_Matrix_i_spacesc1c1_d737_eq : ∀ (p0 : Int) (p1 : Int) (p2 : (List TMatrix)), denFn slices_breakPatternsCmpFunc_Matrix_i_spacesc1c1_d737_V slices_breakPatternsCmpFunc_Matrix_i_spacesc1c1_d737_I ⟨[(.ref (0, 0) []), (.imm true (.int .i64) p0), (.imm true (.int .i64) p1), (.fn 123 [])], [⟨false, (.sl kMatrix), (.sl (.imm true)), p2⟩]⟩ = (slices_breakPatternsCmpFunc_Matrix_i_spacesc1c1_d737 p0 p1 p2).run fun r => some (slices_breakPatternsCmpFunc_Matrix_i_spacesc1c1_d737_out p0 p1 p2 r) := fun _ _ _ => by kernel_rfl
noncomputable def slices_breakPatternsCmpFunc_Matrix_i_spacesc1c1_d737_G (av : List AV) (rs : List Root) : Tre CallOut :=
 asCons av fun a0_ av0 =>
 asCons av0 fun a1_ av1 =>
 asCons av1 fun a2_ av2 =>
 asCons av2 fun a3_ av3 =>
 asEnd av3 <|
 asCons rs fun r0_ rs0 =>
 asEnd rs0 <|
 asRef (0, 0) [] a0_ <|
 asImmZ true (.int .i64) a1_ fun d1 =>
 asImmZ true (.int .i64) a2_ fun d2 =>
 asFn 123 [] a3_ <|
 asRt false (.sl kMatrix) r0_ fun m3 d4 =>
 asM (.sl (.imm true)) m3 <|
 .mat (slices_breakPatternsCmpFunc_Matrix_i_spacesc1c1_d737_F d1 d2 d4) fun r => .ret (slices_breakPatternsCmpFunc_Matrix_i_spacesc1c1_d737_out d1 d2 d4 r)
noncomputable def slices_breakPatternsCmpFunc_Matrix_i_spacesc1c1_d737_c : Ctr := ⟨[0], fun ci => slices_breakPatternsCmpFunc_Matrix_i_spacesc1c1_d737_G ci.args ci.roots, false⟩
theorem slices_breakPatternsCmpFunc_Matrix_i_spacesc1c1_d737_env : EnvOK Try.prog .none slices_breakPatternsCmpFunc_Matrix_i_spacesc1c1_d737_V := (envOK_cons slices_nextPowerOfTwo_ok ent167 (envOK_cons slices_xorshift_Next_7633_ok ent168 envOK_nil))
set_option maxRecDepth 100000 in
theorem slices_breakPatternsCmpFunc_Matrix_i_spacesc1c1_d737_ok : Contract Try.prog .none 150 slices_breakPatternsCmpFunc_Matrix_i_spacesc1c1_d737_c := by
 have hl : LoopsOK slices_breakPatternsCmpFunc_Matrix_i_spacesc1c1_d737_V slices_breakPatternsCmpFunc_Matrix_i_spacesc1c1_d737_A slices_breakPatternsCmpFunc_Matrix_i_spacesc1c1_d737_b := (loopsOK_all (n := 1) (by kernel_rfl) fun k hk => by
   match k, hk with
   | 0, _ => exact loopOK_at (id := 5) (L := slices_breakPatternsCmpFunc_Matrix_i_spacesc1c1_d737_l5_L) (by kernel_rfl) (by kernel_rfl) slices_breakPatternsCmpFunc_Matrix_i_spacesc1c1_d737_l5_ok)
 refine (contract_of (F := slices_breakPatternsCmpFunc_Matrix_i_spacesc1c1_d737_I) tau_tys slices_breakPatternsCmpFunc_Matrix_i_spacesc1c1_d737_env Try.func150 (by kernel_rfl) (by kernel_rfl) (by kernel_rfl) hl [0]).weaken ?_
 rintro ⟨av, rs⟩ co h
 have h : (slices_breakPatternsCmpFunc_Matrix_i_spacesc1c1_d737_G av rs).run some = some co := h
 obtain ⟨a0_, av0, rfl, h_0⟩ := asCons_spec h
 obtain ⟨a1_, av1, rfl, h_1⟩ := asCons_spec h_0
 obtain ⟨a2_, av2, rfl, h_2⟩ := asCons_spec h_1
 obtain ⟨a3_, av3, rfl, h_3⟩ := asCons_spec h_2
 obtain ⟨rfl, h_4⟩ := asEnd_spec h_3
 obtain ⟨r0_, rs0, rfl, h_5⟩ := asCons_spec h_4
 obtain ⟨rfl, h_6⟩ := asEnd_spec h_5
 obtain ⟨rfl, h_7⟩ := asRef_spec h_6
 obtain ⟨d1, rfl, h_8⟩ := asImmZ_spec h_7
 obtain ⟨d2, rfl, h_9⟩ := asImmZ_spec h_8
 obtain ⟨rfl, h_10⟩ := asFn_spec h_9
 obtain ⟨m3, d4, rfl, h_11⟩ := asRt_spec h_10
 obtain ⟨rfl, h_12⟩ := asM_spec h_11
 exact fin_mat (slices_breakPatternsCmpFunc_Matrix_i_spacesc1c1_d737_eq d1 d2 d4) h_12
end Go.Proofs.Ythnkanacjhlhhaa

namespace Go.Proofs.Ythnkanacjhlhhaa
open Go Go.Abs Go.Proofs
noncomputable def slices_order2CmpFunc_Matrix_i_spacesc1c1_ce64 (p0 : Int) (p1 : Int) (p2 : (List TMatrix)) (p3 : Int) : Tre (Int × Int × Int) :=
 .ite (0 ≤ p1 ∧ p1 < (p2.length : Int)) <|
 .mat (p2[p1.toNat]?) fun x1 =>
 .ite (0 ≤ p0 ∧ p0 < (p2.length : Int)) <|
 .mat (p2[p0.toNat]?) fun x2 =>
 .mat (i_spacesc1c1_F x1 x2) fun r3 =>
 .cond (decide (r3 < 0))
  (.ret (p1, p0, iwrap .i64 (p3 + 1)))
  (.ret (p0, p1, p3))
noncomputable def slices_order2CmpFunc_Matrix_i_spacesc1c1_ce64_F (p0 : Int) (p1 : Int) (p2 : (List TMatrix)) (p3 : Int) : Option (Int × Int × Int) := (slices_order2CmpFunc_Matrix_i_spacesc1c1_ce64 p0 p1 p2 p3).run some
noncomputable def slices_order2CmpFunc_Matrix_i_spacesc1c1_ce64_V : Env := ⟨tau, [(123, i_spacesc1c1_c)], []⟩
noncomputable def slices_order2CmpFunc_Matrix_i_spacesc1c1_ce64_b : Code := (Try.f180.body).getD .skip
noncomputable def slices_order2CmpFunc_Matrix_i_spacesc1c1_ce64_I : FnI := ⟨slices_order2CmpFunc_Matrix_i_spacesc1c1_ce64_b, Try.f180.results.toList, Try.f180.resultTypes.toList, []⟩
noncomputable def slices_order2CmpFunc_Matrix_i_spacesc1c1_ce64_out (_p0 : Int) (_p1 : Int) (p2 : (List TMatrix)) (_p3 : Int) : (Int × Int × Int) → CallOut := fun r => ⟨(.tcons (.imm true (.int .i64) r.1) (.tcons (.imm true (.int .i64) r.2.1) .tnil)), [⟨false, (.sl kMatrix), (.sl (.imm true)), p2⟩, ⟨true, (.int .i64), .own, r.2.2⟩], []⟩
set_option maxRecDepth 100000 in
theorem slices_order2CmpFunc_Matrix_i_spacesc1c1_ce64_eq : ∀ (p0 : Int) (p1 : Int) (p2 : (List TMatrix)) (p3 : Int), denFn slices_order2CmpFunc_Matrix_i_spacesc1c1_ce64_V slices_order2CmpFunc_Matrix_i_spacesc1c1_ce64_I ⟨[(.ref (0, 0) []), (.imm true (.int .i64) p0), (.imm true (.int .i64) p1), (.ptr (0, 1) []), (.fn 123 [])], [⟨false, (.sl kMatrix), (.sl (.imm true)), p2⟩, ⟨true, (.int .i64), .own, p3⟩]⟩ = (slices_order2CmpFunc_Matrix_i_spacesc1c1_ce64 p0 p1 p2 p3).run fun r => some (slices_order2CmpFunc_Matrix_i_spacesc1c1_ce64_out p0 p1 p2 p3 r) := fun _ _ _ _ => by kernel_rfl
noncomputable def slices_order2CmpFunc_Matrix_i_spacesc1c1_ce64_G (av : List AV) (rs : List Root) : Tre CallOut :=
 asCons av fun a0_ av0 =>
 asCons av0 fun a1_ av1 =>
 asCons av1 fun a2_ av2 =>
 asCons av2 fun a3_ av3 =>
 asCons av3 fun a4_ av4 =>
 asEnd av4 <|
 asCons rs fun r0_ rs0 =>
 asCons rs0 fun r1_ rs1 =>
 asEnd rs1 <|
 asRef (0, 0) [] a0_ <|
 asImmZ true (.int .i64) a1_ fun d1 =>
 asImmZ true (.int .i64) a2_ fun d2 =>
 asPtr (0, 1) [] a3_ <|
 asFn 123 [] a4_ <|
 asRt false (.sl kMatrix) r0_ fun m3 d4 =>
 asM (.sl (.imm true)) m3 <|
 asRt true (.int .i64) r1_ fun m5 d6 =>
 asM .own m5 <|
 .mat (slices_order2CmpFunc_Matrix_i_spacesc1c1_ce64_F d1 d2 d4 d6) fun r => .ret (slices_order2CmpFunc_Matrix_i_spacesc1c1_ce64_out d1 d2 d4 d6 r)
noncomputable def slices_order2CmpFunc_Matrix_i_spacesc1c1_ce64_c : Ctr := ⟨[0], fun ci => slices_order2CmpFunc_Matrix_i_spacesc1c1_ce64_G ci.args ci.roots, false⟩
theorem slices_order2CmpFunc_Matrix_i_spacesc1c1_ce64_env : EnvOK Try.prog .none slices_order2CmpFunc_Matrix_i_spacesc1c1_ce64_V := (envOK_cons i_spacesc1c1_ok ent123 envOK_nil)
set_option maxRecDepth 100000 in
theorem slices_order2CmpFunc_Matrix_i_spacesc1c1_ce64_ok : Contract Try.prog .none 180 slices_order2CmpFunc_Matrix_i_spacesc1c1_ce64_c := by
 have hl : LoopsOK slices_order2CmpFunc_Matrix_i_spacesc1c1_ce64_V [] slices_order2CmpFunc_Matrix_i_spacesc1c1_ce64_b := loopsOK_nil (by kernel_rfl)
 refine (contract_of (F := slices_order2CmpFunc_Matrix_i_spacesc1c1_ce64_I) tau_tys slices_order2CmpFunc_Matrix_i_spacesc1c1_ce64_env Try.func180 (by kernel_rfl) (by kernel_rfl) (by kernel_rfl) hl [0]).weaken ?_
 rintro ⟨av, rs⟩ co h
 have h : (slices_order2CmpFunc_Matrix_i_spacesc1c1_ce64_G av rs).run some = some co := h
 obtain ⟨a0_, av0, rfl, h_0⟩ := asCons_spec h
 obtain ⟨a1_, av1, rfl, h_1⟩ := asCons_spec h_0
 obtain ⟨a2_, av2, rfl, h_2⟩ := asCons_spec h_1
 obtain ⟨a3_, av3, rfl, h_3⟩ := asCons_spec h_2
 obtain ⟨a4_, av4, rfl, h_4⟩ := asCons_spec h_3
 obtain ⟨rfl, h_5⟩ := asEnd_spec h_4
 obtain ⟨r0_, rs0, rfl, h_6⟩ := asCons_spec h_5
 obtain ⟨r1_, rs1, rfl, h_7⟩ := asCons_spec h_6
 obtain ⟨rfl, h_8⟩ := asEnd_spec h_7
 obtain ⟨rfl, h_9⟩ := asRef_spec h_8
 obtain ⟨d1, rfl, h_10⟩ := asImmZ_spec h_9
 obtain ⟨d2, rfl, h_11⟩ := asImmZ_spec h_10
 obtain ⟨rfl, h_12⟩ := asPtr_spec h_11
 obtain ⟨rfl, h_13⟩ := asFn_spec h_12
 obtain ⟨m3, d4, rfl, h_14⟩ := asRt_spec h_13
 obtain ⟨rfl, h_15⟩ := asM_spec h_14
 obtain ⟨m5, d6, rfl, h_16⟩ := asRt_spec h_15
 obtain ⟨rfl, h_17⟩ := asM_spec h_16
 exact fin_mat (slices_order2CmpFunc_Matrix_i_spacesc1c1_ce64_eq d1 d2 d4 d6) h_17
end Go.Proofs.Ythnkanacjhlhhaa

namespace Go.Proofs.Ythnkanacjhlhhaa
open Go Go.Abs Go.Proofs
noncomputable def slices_medianCmpFunc_Matrix_i_spacesc1c1_e71f (p0 : Int) (p1 : Int) (p2 : Int) (p3 : (List TMatrix)) (p4 : Int) : Tre (Int × Int) :=
 .mat (slices_order2CmpFunc_Matrix_i_spacesc1c1_ce64_F p0 p1 p3 p4) fun r1 =>
 .mat (slices_order2CmpFunc_Matrix_i_spacesc1c1_ce64_F r1.2.1 p2 p3 r1.2.2) fun r2 =>
 .mat (slices_order2CmpFunc_Matrix_i_spacesc1c1_ce64_F r1.1 r2.1 p3 r2.2.2) fun r3 =>
 .ret (r3.2.1, r3.2.2)
noncomputable def slices_medianCmpFunc_Matrix_i_spacesc1c1_e71f_F (p0 : Int) (p1 : Int) (p2 : Int) (p3 : (List TMatrix)) (p4 : Int) : Option (Int × Int) := (slices_medianCmpFunc_Matrix_i_spacesc1c1_e71f p0 p1 p2 p3 p4).run some
noncomputable def slices_medianCmpFunc_Matrix_i_spacesc1c1_e71f_V : Env := ⟨tau, [(180, slices_order2CmpFunc_Matrix_i_spacesc1c1_ce64_c)], []⟩
noncomputable def slices_medianCmpFunc_Matrix_i_spacesc1c1_e71f_b : Code := (Try.f170.body).getD .skip
noncomputable def slices_medianCmpFunc_Matrix_i_spacesc1c1_e71f_I : FnI := ⟨slices_medianCmpFunc_Matrix_i_spacesc1c1_e71f_b, Try.f170.results.toList, Try.f170.resultTypes.toList, []⟩
noncomputable def slices_medianCmpFunc_Matrix_i_spacesc1c1_e71f_out (_p0 : Int) (_p1 : Int) (_p2 : Int) (p3 : (List TMatrix)) (_p4 : Int) : (Int × Int) → CallOut := fun r => ⟨(.imm true (.int .i64) r.1), [⟨false, (.sl kMatrix), (.sl (.imm true)), p3⟩, ⟨true, (.int .i64), .own, r.2⟩], []⟩
set_option maxRecDepth 100000 in
theorem slices_medianCmpFunc_Matrix_i_spacesc1c1_e71f_eq : ∀ (p0 : Int) (p1 : Int) (p2 : Int) (p3 : (List TMatrix)) (p4 : Int), denFn slices_medianCmpFunc_Matrix_i_spacesc1c1_e71f_V slices_medianCmpFunc_Matrix_i_spacesc1c1_e71f_I ⟨[(.ref (0, 0) []), (.imm true (.int .i64) p0), (.imm true (.int .i64) p1), (.imm true (.int .i64) p2), (.ptr (0, 1) []), (.fn 123 [])], [⟨false, (.sl kMatrix), (.sl (.imm true)), p3⟩, ⟨true, (.int .i64), .own, p4⟩]⟩ = (slices_medianCmpFunc_Matrix_i_spacesc1c1_e71f p0 p1 p2 p3 p4).run fun r => some (slices_medianCmpFunc_Matrix_i_spacesc1c1_e71f_out p0 p1 p2 p3 p4 r) := fun _ _ _ _ _ => by kernel_rfl
noncomputable def slices_medianCmpFunc_Matrix_i_spacesc1c1_e71f_G (av : List AV) (rs : List Root) : Tre CallOut :=
 asCons av fun a0_ av0 =>
 asCons av0 fun a1_ av1 =>
 asCons av1 fun a2_ av2 =>
 asCons av2 fun a3_ av3 =>
 asCons av3 fun a4_ av4 =>
 asCons av4 fun a5_ av5 =>
 asEnd av5 <|
 asCons rs fun r0_ rs0 =>
 asCons rs0 fun r1_ rs1 =>
 asEnd rs1 <|
 asRef (0, 0) [] a0_ <|
 asImmZ true (.int .i64) a1_ fun d1 =>
 asImmZ true (.int .i64) a2_ fun d2 =>
 asImmZ true (.int .i64) a3_ fun d3 =>
 asPtr (0, 1) [] a4_ <|
 asFn 123 [] a5_ <|
 asRt false (.sl kMatrix) r0_ fun m4 d5 =>
 asM (.sl (.imm true)) m4 <|
 asRt true (.int .i64) r1_ fun m6 d7 =>
 asM .own m6 <|
 .mat (slices_medianCmpFunc_Matrix_i_spacesc1c1_e71f_F d1 d2 d3 d5 d7) fun r => .ret (slices_medianCmpFunc_Matrix_i_spacesc1c1_e71f_out d1 d2 d3 d5 d7 r)
noncomputable def slices_medianCmpFunc_Matrix_i_spacesc1c1_e71f_c : Ctr := ⟨[0], fun ci => slices_medianCmpFunc_Matrix_i_spacesc1c1_e71f_G ci.args ci.roots, false⟩
theorem slices_medianCmpFunc_Matrix_i_spacesc1c1_e71f_env : EnvOK Try.prog .none slices_medianCmpFunc_Matrix_i_spacesc1c1_e71f_V := (envOK_cons slices_order2CmpFunc_Matrix_i_spacesc1c1_ce64_ok ent180 envOK_nil)
set_option maxRecDepth 100000 in
theorem slices_medianCmpFunc_Matrix_i_spacesc1c1_e71f_ok : Contract Try.prog .none 170 slices_medianCmpFunc_Matrix_i_spacesc1c1_e71f_c := by
 have hl : LoopsOK slices_medianCmpFunc_Matrix_i_spacesc1c1_e71f_V [] slices_medianCmpFunc_Matrix_i_spacesc1c1_e71f_b := loopsOK_nil (by kernel_rfl)
 refine (contract_of (F := slices_medianCmpFunc_Matrix_i_spacesc1c1_e71f_I) tau_tys slices_medianCmpFunc_Matrix_i_spacesc1c1_e71f_env Try.func170 (by kernel_rfl) (by kernel_rfl) (by kernel_rfl) hl [0]).weaken ?_
 rintro ⟨av, rs⟩ co h
 have h : (slices_medianCmpFunc_Matrix_i_spacesc1c1_e71f_G av rs).run some = some co := h
 obtain ⟨a0_, av0, rfl, h_0⟩ := asCons_spec h
 obtain ⟨a1_, av1, rfl, h_1⟩ := asCons_spec h_0
 obtain ⟨a2_, av2, rfl, h_2⟩ := asCons_spec h_1
 obtain ⟨a3_, av3, rfl, h_3⟩ := asCons_spec h_2
 obtain ⟨a4_, av4, rfl, h_4⟩ := asCons_spec h_3
 obtain ⟨a5_, av5, rfl, h_5⟩ := asCons_spec h_4
 obtain ⟨rfl, h_6⟩ := asEnd_spec h_5
 obtain ⟨r0_, rs0, rfl, h_7⟩ := asCons_spec h_6
 obtain ⟨r1_, rs1, rfl, h_8⟩ := asCons_spec h_7
 obtain ⟨rfl, h_9⟩ := asEnd_spec h_8
 obtain ⟨rfl, h_10⟩ := asRef_spec h_9
 obtain ⟨d1, rfl, h_11⟩ := asImmZ_spec h_10
 obtain ⟨d2, rfl, h_12⟩ := asImmZ_spec h_11
 obtain ⟨d3, rfl, h_13⟩ := asImmZ_spec h_12
 obtain ⟨rfl, h_14⟩ := asPtr_spec h_13
 obtain ⟨rfl, h_15⟩ := asFn_spec h_14
 obtain ⟨m4, d5, rfl, h_16⟩ := asRt_spec h_15
 obtain ⟨rfl, h_17⟩ := asM_spec h_16
 obtain ⟨m6, d7, rfl, h_18⟩ := asRt_spec h_17
 obtain ⟨rfl, h_19⟩ := asM_spec h_18
 exact fin_mat (slices_medianCmpFunc_Matrix_i_spacesc1c1_e71f_eq d1 d2 d3 d5 d7) h_19
end Go.Proofs.Ythnkanacjhlhhaa

namespace Go.Proofs.Ythnkanacjhlhhaa
open Go Go.Abs Go.Proofs
noncomputable def slices_medianAdjacentCmpFunc_Matrix_i_spacesc1c1_30aa (p0 : Int) (p1 : (List TMatrix)) (p2 : Int) : Tre (Int × Int) :=
 .mat (slices_medianCmpFunc_Matrix_i_spacesc1c1_e71f_F (iwrap .i64 (p0 - 1)) p0 (iwrap .i64 (p0 + 1)) p1 p2) fun r1 =>
 .ret (r1.1, r1.2)
noncomputable def slices_medianAdjacentCmpFunc_Matrix_i_spacesc1c1_30aa_F (p0 : Int) (p1 : (List TMatrix)) (p2 : Int) : Option (Int × Int) := (slices_medianAdjacentCmpFunc_Matrix_i_spacesc1c1_30aa p0 p1 p2).run some
noncomputable def slices_medianAdjacentCmpFunc_Matrix_i_spacesc1c1_30aa_V : Env := ⟨tau, [(170, slices_medianCmpFunc_Matrix_i_spacesc1c1_e71f_c)], []⟩
noncomputable def slices_medianAdjacentCmpFunc_Matrix_i_spacesc1c1_30aa_b : Code := (Try.f169.body).getD .skip
noncomputable def slices_medianAdjacentCmpFunc_Matrix_i_spacesc1c1_30aa_I : FnI := ⟨slices_medianAdjacentCmpFunc_Matrix_i_spacesc1c1_30aa_b, Try.f169.results.toList, Try.f169.resultTypes.toList, []⟩
noncomputable def slices_medianAdjacentCmpFunc_Matrix_i_spacesc1c1_30aa_out (_p0 : Int) (p1 : (List TMatrix)) (_p2 : Int) : (Int × Int) → CallOut := fun r => ⟨(.imm true (.int .i64) r.1), [⟨false, (.sl kMatrix), (.sl (.imm true)), p1⟩, ⟨true, (.int .i64), .own, r.2⟩], []⟩
set_option maxRecDepth 100000 in
theorem slices_medianAdjacentCmpFunc_Matrix_i_spacesc1c1_30aa_eq : ∀ (p0 : Int) (p1 : (List TMatrix)) (p2 : Int), denFn slices_medianAdjacentCmpFunc_Matrix_i_spacesc1c1_30aa_V slices_medianAdjacentCmpFunc_Matrix_i_spacesc1c1_30aa_I ⟨[(.ref (0, 0) []), (.imm true (.int .i64) p0), (.ptr (0, 1) []), (.fn 123 [])], [⟨false, (.sl kMatrix), (.sl (.imm true)), p1⟩, ⟨true, (.int .i64), .own, p2⟩]⟩ = (slices_medianAdjacentCmpFunc_Matrix_i_spacesc1c1_30aa p0 p1 p2).run fun r => some (slices_medianAdjacentCmpFunc_Matrix_i_spacesc1c1_30aa_out p0 p1 p2 r) := fun _ _ _ => by kernel_rfl
noncomputable def slices_medianAdjacentCmpFunc_Matrix_i_spacesc1c1_30aa_G (av : List AV) (rs : List Root) : Tre CallOut :=
 asCons av fun a0_ av0 =>
 asCons av0 fun a1_ av1 =>
 asCons av1 fun a2_ av2 =>
 asCons av2 fun a3_ av3 =>
 asEnd av3 <|
 asCons rs fun r0_ rs0 =>
 asCons rs0 fun r1_ rs1 =>
 asEnd rs1 <|
 asRef (0, 0) [] a0_ <|
 asImmZ true (.int .i64) a1_ fun d1 =>
 asPtr (0, 1) [] a2_ <|
 asFn 123 [] a3_ <|
 asRt false (.sl kMatrix) r0_ fun m2 d3 =>
 asM (.sl (.imm true)) m2 <|
 asRt true (.int .i64) r1_ fun m4 d5 =>
 asM .own m4 <|
 .mat (slices_medianAdjacentCmpFunc_Matrix_i_spacesc1c1_30aa_F d1 d3 d5) fun r => .ret (slices_medianAdjacentCmpFunc_Matrix_i_spacesc1c1_30aa_out d1 d3 d5 r)
noncomputable def slices_medianAdjacentCmpFunc_Matrix_i_spacesc1c1_30aa_c : Ctr := ⟨[0], fun ci => slices_medianAdjacentCmpFunc_Matrix_i_spacesc1c1_30aa_G ci.args ci.roots, false⟩
theorem slices_medianAdjacentCmpFunc_Matrix_i_spacesc1c1_30aa_env : EnvOK Try.prog .none slices_medianAdjacentCmpFunc_Matrix_i_spacesc1c1_30aa_V := (envOK_cons slices_medianCmpFunc_Matrix_i_spacesc1c1_e71f_ok ent170 envOK_nil)
set_option maxRecDepth 100000 in
theorem slices_medianAdjacentCmpFunc_Matrix_i_spacesc1c1_30aa_ok : Contract Try.prog .none 169 slices_medianAdjacentCmpFunc_Matrix_i_spacesc1c1_30aa_c := by
 have hl : LoopsOK slices_medianAdjacentCmpFunc_Matrix_i_spacesc1c1_30aa_V [] slices_medianAdjacentCmpFunc_Matrix_i_spacesc1c1_30aa_b := loopsOK_nil (by kernel_rfl)
 refine (contract_of (F := slices_medianAdjacentCmpFunc_Matrix_i_spacesc1c1_30aa_I) tau_tys slices_medianAdjacentCmpFunc_Matrix_i_spacesc1c1_30aa_env Try.func169 (by kernel_rfl) (by kernel_rfl) (by kernel_rfl) hl [0]).weaken ?_
 rintro ⟨av, rs⟩ co h
 have h : (slices_medianAdjacentCmpFunc_Matrix_i_spacesc1c1_30aa_G av rs).run some = some co := h
 obtain ⟨a0_, av0, rfl, h_0⟩ := asCons_spec h
 obtain ⟨a1_, av1, rfl, h_1⟩ := asCons_spec h_0
 obtain ⟨a2_, av2, rfl, h_2⟩ := asCons_spec h_1
 obtain ⟨a3_, av3, rfl, h_3⟩ := asCons_spec h_2
 obtain ⟨rfl, h_4⟩ := asEnd_spec h_3
 obtain ⟨r0_, rs0, rfl, h_5⟩ := asCons_spec h_4
 obtain ⟨r1_, rs1, rfl, h_6⟩ := asCons_spec h_5
 obtain ⟨rfl, h_7⟩ := asEnd_spec h_6
 obtain ⟨rfl, h_8⟩ := asRef_spec h_7
 obtain ⟨d1, rfl, h_9⟩ := asImmZ_spec h_8
 obtain ⟨rfl, h_10⟩ := asPtr_spec h_9
 obtain ⟨rfl, h_11⟩ := asFn_spec h_10
 obtain ⟨m2, d3, rfl, h_12⟩ := asRt_spec h_11
 obtain ⟨rfl, h_13⟩ := asM_spec h_12
 obtain ⟨m4, d5, rfl, h_14⟩ := asRt_spec h_13
 obtain ⟨rfl, h_15⟩ := asM_spec h_14
 exact fin_mat (slices_medianAdjacentCmpFunc_Matrix_i_spacesc1c1_30aa_eq d1 d3 d5) h_15
end Go.Proofs.Ythnkanacjhlhhaa

namespace Go.Proofs.Ythnkanacjhlhhaa
open Go Go.Abs Go.Proofs
noncomputable def slices_choosePivotCmpFunc_Matrix_i_spacesc1c1_d737 (p0 : Int) (p1 : Int) (p2 : (List TMatrix)) : Tre (Int × Int) :=
 let v1 := iwrap .i64 (Int.tdiv (iwrap .i64 (p1 - p0)) 4)
 let v2 := iwrap .i64 (p0 + (iwrap .i64 (v1 * 1)))
 let v3 := iwrap .i64 (p0 + (iwrap .i64 (v1 * 2)))
 let v4 := iwrap .i64 (p0 + (iwrap .i64 (v1 * 3)))
 .cond (decide (iwrap .i64 (p1 - p0) ≥ 8))
  (.cond (decide (iwrap .i64 (p1 - p0) ≥ 50))
   (.mat (slices_medianAdjacentCmpFunc_Matrix_i_spacesc1c1_30aa_F v2 p2 0) fun r5 =>
   .mat (slices_medianAdjacentCmpFunc_Matrix_i_spacesc1c1_30aa_F v3 p2 r5.2) fun r6 =>
   .mat (slices_medianAdjacentCmpFunc_Matrix_i_spacesc1c1_30aa_F v4 p2 r6.2) fun r7 =>
   .mat (slices_medianCmpFunc_Matrix_i_spacesc1c1_e71f_F r5.1 r6.1 r7.1 p2 r7.2) fun r8 =>
   .cond (decide (r8.2 = 0))
    (.ret (r8.1, 1))
    (.cond (decide (r8.2 = 12))
     (.ret (r8.1, 2))
     (.ret (r8.1, 0))))
   (.mat (slices_medianCmpFunc_Matrix_i_spacesc1c1_e71f_F v2 v3 v4 p2 0) fun r9 =>
   .cond (decide (r9.2 = 0))
    (.ret (r9.1, 1))
    (.cond (decide (r9.2 = 12))
     (.ret (r9.1, 2))
     (.ret (r9.1, 0)))))
  (.ret (v3, 1))
noncomputable def slices_choosePivotCmpFunc_Matrix_i_spacesc1c1_d737_F (p0 : Int) (p1 : Int) (p2 : (List TMatrix)) : Option (Int × Int) := (slices_choosePivotCmpFunc_Matrix_i_spacesc1c1_d737 p0 p1 p2).run some
noncomputable def slices_choosePivotCmpFunc_Matrix_i_spacesc1c1_d737_V : Env := ⟨tau, [(169, slices_medianAdjacentCmpFunc_Matrix_i_spacesc1c1_30aa_c), (170, slices_medianCmpFunc_Matrix_i_spacesc1c1_e71f_c)], []⟩
noncomputable def slices_choosePivotCmpFunc_Matrix_i_spacesc1c1_d737_b : Code := (Try.f151.body).getD .skip
noncomputable def slices_choosePivotCmpFunc_Matrix_i_spacesc1c1_d737_I : FnI := ⟨slices_choosePivotCmpFunc_Matrix_i_spacesc1c1_d737_b, Try.f151.results.toList, Try.f151.resultTypes.toList, []⟩
noncomputable def slices_choosePivotCmpFunc_Matrix_i_spacesc1c1_d737_out (_p0 : Int) (_p1 : Int) (p2 : (List TMatrix)) : (Int × Int) → CallOut := fun r => ⟨(.tcons (.imm true (.int .i64) r.1) (.tcons (.imm true (.int .i64) r.2) .tnil)), [⟨false, (.sl kMatrix), (.sl (.imm true)), p2⟩], []⟩
set_option maxRecDepth 100000 in
theorem slices_choosePivotCmpFunc_Matrix_i_spacesc1c1_d737_eq : ∀ (p0 : Int) (p1 : Int) (p2 : (List TMatrix)), denFn slices_choosePivotCmpFunc_Matrix_i_spacesc1c1_d737_V slices_choosePivotCmpFunc_Matrix_i_spacesc1c1_d737_I ⟨[(.ref (0, 0) []), (.imm true (.int .i64) p0), (.imm true (.int .i64) p1), (.fn 123 [])], [⟨false, (.sl kMatrix), (.sl (.imm true)), p2⟩]⟩ = (slices_choosePivotCmpFunc_Matrix_i_spacesc1c1_d737 p0 p1 p2).run fun r => some (slices_choosePivotCmpFunc_Matrix_i_spacesc1c1_d737_out p0 p1 p2 r) := fun _ _ _ => by kernel_rfl
noncomputable def slices_choosePivotCmpFunc_Matrix_i_spacesc1c1_d737_G (av : List AV) (rs : List Root) : Tre CallOut :=
 asCons av fun a0_ av0 =>
 asCons av0 fun a1_ av1 =>
 asCons av1 fun a2_ av2 =>
 asCons av2 fun a3_ av3 =>
 asEnd av3 <|
 asCons rs fun r0_ rs0 =>
 asEnd rs0 <|
 asRef (0, 0) [] a0_ <|
 asImmZ true (.int .i64) a1_ fun d1 =>
 asImmZ true (.int .i64) a2_ fun d2 =>
 asFn 123 [] a3_ <|
 asRt false (.sl kMatrix) r0_ fun m3 d4 =>
 asM (.sl (.imm true)) m3 <|
 .mat (slices_choosePivotCmpFunc_Matrix_i_spacesc1c1_d737_F d1 d2 d4) fun r => .ret (slices_choosePivotCmpFunc_Matrix_i_spacesc1c1_d737_out d1 d2 d4 r)
noncomputable def slices_choosePivotCmpFunc_Matrix_i_spacesc1c1_d737_c : Ctr := ⟨[0], fun ci => slices_choosePivotCmpFunc_Matrix_i_spacesc1c1_d737_G ci.args ci.roots, false⟩
theorem slices_choosePivotCmpFunc_Matrix_i_spacesc1c1_d737_env : EnvOK Try.prog .none slices_choosePivotCmpFunc_Matrix_i_spacesc1c1_d737_V := (envOK_cons slices_medianAdjacentCmpFunc_Matrix_i_spacesc1c1_30aa_ok ent169 (envOK_cons slices_medianCmpFunc_Matrix_i_spacesc1c1_e71f_ok ent170 envOK_nil))
set_option maxRecDepth 100000 in
theorem slices_choosePivotCmpFunc_Matrix_i_spacesc1c1_d737_ok : Contract Try.prog .none 151 slices_choosePivotCmpFunc_Matrix_i_spacesc1c1_d737_c := by
 have hl : LoopsOK slices_choosePivotCmpFunc_Matrix_i_spacesc1c1_d737_V [] slices_choosePivotCmpFunc_Matrix_i_spacesc1c1_d737_b := loopsOK_nil (by kernel_rfl)
 refine (contract_of (F := slices_choosePivotCmpFunc_Matrix_i_spacesc1c1_d737_I) tau_tys slices_choosePivotCmpFunc_Matrix_i_spacesc1c1_d737_env Try.func151 (by kernel_rfl) (by kernel_rfl) (by kernel_rfl) hl [0]).weaken ?_
 rintro ⟨av, rs⟩ co h
 have h : (slices_choosePivotCmpFunc_Matrix_i_spacesc1c1_d737_G av rs).run some = some co := h
 obtain ⟨a0_, av0, rfl, h_0⟩ := asCons_spec h
 obtain ⟨a1_, av1, rfl, h_1⟩ := asCons_spec h_0
 obtain ⟨a2_, av2, rfl, h_2⟩ := asCons_spec h_1
 obtain ⟨a3_, av3, rfl, h_3⟩ := asCons_spec h_2
 obtain ⟨rfl, h_4⟩ := asEnd_spec h_3
 obtain ⟨r0_, rs0, rfl, h_5⟩ := asCons_spec h_4
 obtain ⟨rfl, h_6⟩ := asEnd_spec h_5
 obtain ⟨rfl, h_7⟩ := asRef_spec h_6
 obtain ⟨d1, rfl, h_8⟩ := asImmZ_spec h_7
 obtain ⟨d2, rfl, h_9⟩ := asImmZ_spec h_8
 obtain ⟨rfl, h_10⟩ := asFn_spec h_9
 obtain ⟨m3, d4, rfl, h_11⟩ := asRt_spec h_10
 obtain ⟨rfl, h_12⟩ := asM_spec h_11
 exact fin_mat (slices_choosePivotCmpFunc_Matrix_i_spacesc1c1_d737_eq d1 d2 d4) h_12
end Go.Proofs.Ythnkanacjhlhhaa

namespace Go.Proofs.Ythnkanacjhlhhaa
open Go Go.Abs Go.Proofs
noncomputable def slices_reverseRangeCmpFunc_Matrix_i_spacesc1c1_d737_l2 : (Int × Int × (List TMatrix)) → Tre ((Int × Int × (List TMatrix)) ⊕ (List TMatrix)) := fun s2 =>
 .cond (decide (s2.1 < s2.2.1))
  (.ite (0 ≤ s2.2.1 ∧ s2.2.1 < (s2.2.2.length : Int)) <|
  .mat (s2.2.2[s2.2.1.toNat]?) fun x1 =>
  .ite (0 ≤ s2.1 ∧ s2.1 < (s2.2.2.length : Int)) <|
  .mat (s2.2.2[s2.1.toNat]?) fun x2 =>
  .ite (0 ≤ s2.1 ∧ s2.1 < (s2.2.2.length : Int)) <|
  .mat (s2.2.2[s2.1.toNat]?) fun _ =>
  let v4 := s2.2.2.set s2.1.toNat x1
  .ite (0 ≤ s2.2.1 ∧ s2.2.1 < (v4.length : Int)) <|
  .mat (v4[s2.2.1.toNat]?) fun _ =>
  .ret (.inl (iwrap .i64 (s2.1 + 1), iwrap .i64 (s2.2.1 - 1), v4.set s2.2.1.toNat x2)))
  (.ret (.inr s2.2.2))
noncomputable def slices_reverseRangeCmpFunc_Matrix_i_spacesc1c1_d737 (p0 : Int) (p1 : Int) (p2 : (List TMatrix)) : Tre (List TMatrix) :=
 .mat (loopF slices_reverseRangeCmpFunc_Matrix_i_spacesc1c1_d737_l2 (p0, iwrap .i64 (p1 - 1), p2)) fun l6 =>
 .ret l6
noncomputable def slices_reverseRangeCmpFunc_Matrix_i_spacesc1c1_d737_F (p0 : Int) (p1 : Int) (p2 : (List TMatrix)) : Option (List TMatrix) := (slices_reverseRangeCmpFunc_Matrix_i_spacesc1c1_d737 p0 p1 p2).run some
noncomputable def slices_reverseRangeCmpFunc_Matrix_i_spacesc1c1_d737_V : Env := ⟨tau, [], []⟩
noncomputable def slices_reverseRangeCmpFunc_Matrix_i_spacesc1c1_d737_b : Code := (Try.f152.body).getD .skip
noncomputable def slices_reverseRangeCmpFunc_Matrix_i_spacesc1c1_d737_l2_mk : (Int × Int × (List TMatrix)) → St := fun x => stOf [(0, (.ref (0, 0) [])), (8, (.imm true (.int .i64) x.1)), (9, (.imm true (.int .i64) x.2.1))] [((0, 0), some ⟨false, (.sl kMatrix), (.sl (.imm true)), x.2.2⟩)]
noncomputable def slices_reverseRangeCmpFunc_Matrix_i_spacesc1c1_d737_l2_out : (List TMatrix) → Ex × St := fun x => (.exit 0, stOf [] [((0, 0), some ⟨false, (.sl kMatrix), (.sl (.imm true)), x⟩)])
noncomputable def slices_reverseRangeCmpFunc_Matrix_i_spacesc1c1_d737_l2_D (s : St) : Tre (Ex × St) :=
 asRef (0, 0) [] (s.tmps 0) <|
 asImmZ true (.int .i64) (s.tmps 8) fun d3 =>
 asImmZ true (.int .i64) (s.tmps 9) fun d5 =>
 asRoot false (.sl kMatrix) (s.roots (0, 0)) fun m7 d8 =>
 asM (.sl (.imm true)) m7 <|
 .mat (loopF slices_reverseRangeCmpFunc_Matrix_i_spacesc1c1_d737_l2 (d3, d5, d8)) fun x => .ret (slices_reverseRangeCmpFunc_Matrix_i_spacesc1c1_d737_l2_out x)
noncomputable def slices_reverseRangeCmpFunc_Matrix_i_spacesc1c1_d737_l2_L : LoopI := ⟨([0, 8, 9], [(0, 0)]), ([], [(0, 0)]), slices_reverseRangeCmpFunc_Matrix_i_spacesc1c1_d737_l2_D⟩
noncomputable def slices_reverseRangeCmpFunc_Matrix_i_spacesc1c1_d737_A : List (Nat × LoopI) := [(2, slices_reverseRangeCmpFunc_Matrix_i_spacesc1c1_d737_l2_L)]
set_option maxRecDepth 100000 in
theorem slices_reverseRangeCmpFunc_Matrix_i_spacesc1c1_d737_l2_step : ∀ (x : (Int × Int × (List TMatrix))) (c : St → Option (Ex × St)), den slices_reverseRangeCmpFunc_Matrix_i_spacesc1c1_d737_V slices_reverseRangeCmpFunc_Matrix_i_spacesc1c1_d737_A (loopAt slices_reverseRangeCmpFunc_Matrix_i_spacesc1c1_d737_b 0) (slices_reverseRangeCmpFunc_Matrix_i_spacesc1c1_d737_l2_mk x) (roundK slices_reverseRangeCmpFunc_Matrix_i_spacesc1c1_d737_l2_L.kp slices_reverseRangeCmpFunc_Matrix_i_spacesc1c1_d737_l2_L.kx c) = (slices_reverseRangeCmpFunc_Matrix_i_spacesc1c1_d737_l2 x).run (roundR (slices_reverseRangeCmpFunc_Matrix_i_spacesc1c1_d737_l2_mk) (slices_reverseRangeCmpFunc_Matrix_i_spacesc1c1_d737_l2_out) c) := fun _ _ => by
 kernel_rfl
theorem slices_reverseRangeCmpFunc_Matrix_i_spacesc1c1_d737_l2_ok : LoopOK slices_reverseRangeCmpFunc_Matrix_i_spacesc1c1_d737_V slices_reverseRangeCmpFunc_Matrix_i_spacesc1c1_d737_A (loopAt slices_reverseRangeCmpFunc_Matrix_i_spacesc1c1_d737_b 0) slices_reverseRangeCmpFunc_Matrix_i_spacesc1c1_d737_l2_L := loopOK_of fun s e s' h => by
 generalize hs : restrict slices_reverseRangeCmpFunc_Matrix_i_spacesc1c1_d737_l2_L.kp s = s1 at h
 have h : (slices_reverseRangeCmpFunc_Matrix_i_spacesc1c1_d737_l2_D s1).run some = some (e, s') := h
 obtain ⟨e1, h_0⟩ := asRef_spec h
 obtain ⟨d3, e2, h_1⟩ := asImmZ_spec h_0
 obtain ⟨d5, e4, h_2⟩ := asImmZ_spec h_1
 obtain ⟨m7, d8, e6, h_3⟩ := asRoot_spec h_2
 obtain ⟨rfl, h_4⟩ := asM_spec h_3
 obtain ⟨y, hy, hz⟩ := mat_ret h_4
 refine ⟨_, _, slices_reverseRangeCmpFunc_Matrix_i_spacesc1c1_d737_l2_mk, slices_reverseRangeCmpFunc_Matrix_i_spacesc1c1_d737_l2_out, slices_reverseRangeCmpFunc_Matrix_i_spacesc1c1_d737_l2, (d3, d5, d8), y, ?_, hy, ?_, slices_reverseRangeCmpFunc_Matrix_i_spacesc1c1_d737_l2_step⟩
 ·subst hs; exact restrict_eq (T := [(0, (.ref (0, 0) [])), (8, (.imm true (.int .i64) d3)), (9, (.imm true (.int .i64) d5))]) (U := [((0, 0), some ⟨false, (.sl kMatrix), (.sl (.imm true)), d8⟩)]) rfl rfl ⟨e1, e2, e4, trivial⟩ ⟨e6, trivial⟩
 ·exact Option.some.inj hz
noncomputable def slices_reverseRangeCmpFunc_Matrix_i_spacesc1c1_d737_I : FnI := ⟨slices_reverseRangeCmpFunc_Matrix_i_spacesc1c1_d737_b, Try.f152.results.toList, Try.f152.resultTypes.toList, slices_reverseRangeCmpFunc_Matrix_i_spacesc1c1_d737_A⟩
noncomputable def slices_reverseRangeCmpFunc_Matrix_i_spacesc1c1_d737_out (_p0 : Int) (_p1 : Int) (_p2 : (List TMatrix)) : (List TMatrix) → CallOut := fun r => ⟨.tnil, [⟨false, (.sl kMatrix), (.sl (.imm true)), r⟩], []⟩
set_option maxRecDepth 100000 in
theorem slices_reverseRangeCmpFunc_Matrix_i_spacesc1c1_d737_eq : ∀ (p0 : Int) (p1 : Int) (p2 : (List TMatrix)), denFn slices_reverseRangeCmpFunc_Matrix_i_spacesc1c1_d737_V slices_reverseRangeCmpFunc_Matrix_i_spacesc1c1_d737_I ⟨[(.ref (0, 0) []), (.imm true (.int .i64) p0), (.imm true (.int .i64) p1), (.fn 123 [])], [⟨false, (.sl kMatrix), (.sl (.imm true)), p2⟩]⟩ = (slices_reverseRangeCmpFunc_Matrix_i_spacesc1c1_d737 p0 p1 p2).run fun r => some (slices_reverseRangeCmpFunc_Matrix_i_spacesc1c1_d737_out p0 p1 p2 r) := fun _ _ _ => by kernel_rfl
noncomputable def slices_reverseRangeCmpFunc_Matrix_i_spacesc1c1_d737_G (av : List AV) (rs : List Root) : Tre CallOut :=
 asCons av fun a0_ av0 =>
 asCons av0 fun a1_ av1 =>
 asCons av1 fun a2_ av2 =>
 asCons av2 fun a3_ av3 =>
 asEnd av3 <|
 asCons rs fun r0_ rs0 =>
 asEnd rs0 <|
 asRef (0, 0) [] a0_ <|
 asImmZ true (.int .i64) a1_ fun d1 =>
 asImmZ true (.int .i64) a2_ fun d2 =>
 asFn 123 [] a3_ <|
 asRt false (.sl kMatrix) r0_ fun m3 d4 =>
 asM (.sl (.imm true)) m3 <|
 .mat (slices_reverseRangeCmpFunc_Matrix_i_spacesc1c1_d737_F d1 d2 d4) fun r => .ret (slices_reverseRangeCmpFunc_Matrix_i_spacesc1c1_d737_out d1 d2 d4 r)
noncomputable def slices_reverseRangeCmpFunc_Matrix_i_spacesc1c1_d737_c : Ctr := ⟨[0], fun ci => slices_reverseRangeCmpFunc_Matrix_i_spacesc1c1_d737_G ci.args ci.roots, false⟩
theorem slices_reverseRangeCmpFunc_Matrix_i_spacesc1c1_d737_env : EnvOK Try.prog .none slices_reverseRangeCmpFunc_Matrix_i_spacesc1c1_d737_V := envOK_nil
set_option maxRecDepth 100000 in
theorem slices_reverseRangeCmpFunc_Matrix_i_spacesc1c1_d737_ok : Contract Try.prog .none 152 slices_reverseRangeCmpFunc_Matrix_i_spacesc1c1_d737_c := by
 have hl : LoopsOK slices_reverseRangeCmpFunc_Matrix_i_spacesc1c1_d737_V slices_reverseRangeCmpFunc_Matrix_i_spacesc1c1_d737_A slices_reverseRangeCmpFunc_Matrix_i_spacesc1c1_d737_b := (loopsOK_all (n := 1) (by kernel_rfl) fun k hk => by
   match k, hk with
   | 0, _ => exact loopOK_at (id := 2) (L := slices_reverseRangeCmpFunc_Matrix_i_spacesc1c1_d737_l2_L) (by kernel_rfl) (by kernel_rfl) slices_reverseRangeCmpFunc_Matrix_i_spacesc1c1_d737_l2_ok)
 refine (contract_of (F := slices_reverseRangeCmpFunc_Matrix_i_spacesc1c1_d737_I) tau_tys slices_reverseRangeCmpFunc_Matrix_i_spacesc1c1_d737_env Try.func152 (by kernel_rfl) (by kernel_rfl) (by kernel_rfl) hl [0]).weaken ?_
 rintro ⟨av, rs⟩ co h
 have h : (slices_reverseRangeCmpFunc_Matrix_i_spacesc1c1_d737_G av rs).run some = some co := h
 obtain ⟨a0_, av0, rfl, h_0⟩ := asCons_spec h
 obtain ⟨a1_, av1, rfl, h_1⟩ := asCons_spec h_0
 obtain ⟨a2_, av2, rfl, h_2⟩ := asCons_spec h_1
 obtain ⟨a3_, av3, rfl, h_3⟩ := asCons_spec h_2
 obtain ⟨rfl, h_4⟩ := asEnd_spec h_3
 obtain ⟨r0_, rs0, rfl, h_5⟩ := asCons_spec h_4
 obtain ⟨rfl, h_6⟩ := asEnd_spec h_5
 obtain ⟨rfl, h_7⟩ := asRef_spec h_6
 obtain ⟨d1, rfl, h_8⟩ := asImmZ_spec h_7
 obtain ⟨d2, rfl, h_9⟩ := asImmZ_spec h_8
 obtain ⟨rfl, h_10⟩ := asFn_spec h_9
 obtain ⟨m3, d4, rfl, h_11⟩ := asRt_spec h_10
 obtain ⟨rfl, h_12⟩ := asM_spec h_11
 exact fin_mat (slices_reverseRangeCmpFunc_Matrix_i_spacesc1c1_d737_eq d1 d2 d4) h_12
end Go.Proofs.Ythnkanacjhlhhaa

namespace Go.Proofs.Ythnkanacjhlhhaa
open Go Go.Abs Go.Proofs
noncomputable def slices_partialInsertionSortCmpFunc_Matrix_i_spacesc1c1_d737_l5 (h5_0_1 : Int) (h5_0_4 : (List TMatrix)) : Int → Tre (Int ⊕ Int) := fun s5 =>
 .cond (decide (s5 < h5_0_1))
  (.ite (0 ≤ s5 ∧ s5 < (h5_0_4.length : Int)) <|
  .mat (h5_0_4[s5.toNat]?) fun x1 =>
  .ite (0 ≤ iwrap .i64 (s5 - 1) ∧ iwrap .i64 (s5 - 1) < (h5_0_4.length : Int)) <|
  .mat (h5_0_4[(iwrap .i64 (s5 - 1)).toNat]?) fun x2 =>
  .mat (i_spacesc1c1_F x1 x2) fun r3 =>
  .cond (!(decide (r3 < 0)))
   (.ret (.inl (iwrap .i64 (s5 + 1))))
   (.ret (.inr s5)))
  (.ret (.inr s5))
noncomputable def slices_partialInsertionSortCmpFunc_Matrix_i_spacesc1c1_d737_l14 : (Int × (List TMatrix)) → Tre ((Int × (List TMatrix)) ⊕ (List TMatrix)) := fun s14 =>
 .cond (decide (s14.1 ≥ 1))
  (.ite (0 ≤ s14.1 ∧ s14.1 < (s14.2.length : Int)) <|
  .mat (s14.2[s14.1.toNat]?) fun x11 =>
  .ite (0 ≤ iwrap .i64 (s14.1 - 1) ∧ iwrap .i64 (s14.1 - 1) < (s14.2.length : Int)) <|
  .mat (s14.2[(iwrap .i64 (s14.1 - 1)).toNat]?) fun x12 =>
  .mat (i_spacesc1c1_F x11 x12) fun r13 =>
  .cond (!(decide (r13 < 0)))
   (.ret (.inr s14.2))
   (.ite (0 ≤ iwrap .i64 (s14.1 - 1) ∧ iwrap .i64 (s14.1 - 1) < (s14.2.length : Int)) <|
   .mat (s14.2[(iwrap .i64 (s14.1 - 1)).toNat]?) fun x14 =>
   .ite (0 ≤ s14.1 ∧ s14.1 < (s14.2.length : Int)) <|
   .mat (s14.2[s14.1.toNat]?) fun x15 =>
   .ite (0 ≤ s14.1 ∧ s14.1 < (s14.2.length : Int)) <|
   .mat (s14.2[s14.1.toNat]?) fun _ =>
   let v17 := s14.2.set s14.1.toNat x14
   .ite (0 ≤ iwrap .i64 (s14.1 - 1) ∧ iwrap .i64 (s14.1 - 1) < (v17.length : Int)) <|
   .mat (v17[(iwrap .i64 (s14.1 - 1)).toNat]?) fun _ =>
   let v19 := v17.set ((iwrap .i64 (s14.1 - 1)).toNat) x15
   .ret (.inl (iwrap .i64 (s14.1 - 1), v19))))
  (.ret (.inr s14.2))
noncomputable def slices_partialInsertionSortCmpFunc_Matrix_i_spacesc1c1_d737_l20 (h20_0_1 : Int) : (Int × (List TMatrix)) → Tre ((Int × (List TMatrix)) ⊕ (List TMatrix)) := fun s20 =>
 .cond (decide (s20.1 < h20_0_1))
  (.ite (0 ≤ s20.1 ∧ s20.1 < (s20.2.length : Int)) <|
  .mat (s20.2[s20.1.toNat]?) fun x21 =>
  .ite (0 ≤ iwrap .i64 (s20.1 - 1) ∧ iwrap .i64 (s20.1 - 1) < (s20.2.length : Int)) <|
  .mat (s20.2[(iwrap .i64 (s20.1 - 1)).toNat]?) fun x22 =>
  .mat (i_spacesc1c1_F x21 x22) fun r23 =>
  .cond (!(decide (r23 < 0)))
   (.ret (.inr s20.2))
   (.ite (0 ≤ iwrap .i64 (s20.1 - 1) ∧ iwrap .i64 (s20.1 - 1) < (s20.2.length : Int)) <|
   .mat (s20.2[(iwrap .i64 (s20.1 - 1)).toNat]?) fun x24 =>
   .ite (0 ≤ s20.1 ∧ s20.1 < (s20.2.length : Int)) <|
   .mat (s20.2[s20.1.toNat]?) fun x25 =>
   .ite (0 ≤ s20.1 ∧ s20.1 < (s20.2.length : Int)) <|
   .mat (s20.2[s20.1.toNat]?) fun _ =>
   let v27 := s20.2.set s20.1.toNat x24
   .ite (0 ≤ iwrap .i64 (s20.1 - 1) ∧ iwrap .i64 (s20.1 - 1) < (v27.length : Int)) <|
   .mat (v27[(iwrap .i64 (s20.1 - 1)).toNat]?) fun _ =>
   let v29 := v27.set ((iwrap .i64 (s20.1 - 1)).toNat) x25
   .ret (.inl (iwrap .i64 (s20.1 + 1), v29))))
  (.ret (.inr s20.2))
noncomputable def slices_partialInsertionSortCmpFunc_Matrix_i_spacesc1c1_d737_l3 (h3_0_0 : Int) (h3_0_1 : Int) : (Int × Int × (List TMatrix)) → Tre ((Int × Int × (List TMatrix)) ⊕ ((Bool × (List TMatrix)) ⊕ (List TMatrix))) := fun s3 =>
 .cond (decide (s3.2.1 < 5))
  (.mat (loopF (slices_partialInsertionSortCmpFunc_Matrix_i_spacesc1c1_d737_l5 h3_0_1 s3.2.2) s3.1) fun l4 =>
  .cond (decide (l4 = h3_0_1))
   (.ret (.inr (.inl (true, s3.2.2))))
   (let v5 := iwrap .i64 (h3_0_1 - h3_0_0)
   .cond (decide (v5 < 50))
    (.ret (.inr (.inl (false, s3.2.2))))
    (.ite (0 ≤ iwrap .i64 (l4 - 1) ∧ iwrap .i64 (l4 - 1) < (s3.2.2.length : Int)) <|
    .mat (s3.2.2[(iwrap .i64 (l4 - 1)).toNat]?) fun x6 =>
    .ite (0 ≤ l4 ∧ l4 < (s3.2.2.length : Int)) <|
    .mat (s3.2.2[l4.toNat]?) fun x7 =>
    .ite (0 ≤ l4 ∧ l4 < (s3.2.2.length : Int)) <|
    .mat (s3.2.2[l4.toNat]?) fun _ =>
    .ite (0 ≤ iwrap .i64 (l4 - 1) ∧ iwrap .i64 (l4 - 1) < ((s3.2.2.set l4.toNat x6).length : Int)) <|
    .mat ((s3.2.2.set l4.toNat x6)[(iwrap .i64 (l4 - 1)).toNat]?) fun _ =>
    let v10 := (s3.2.2.set l4.toNat x6).set ((iwrap .i64 (l4 - 1)).toNat) x7
    .cond (decide (iwrap .i64 (l4 - h3_0_0) ≥ 2))
     (.mat (loopF slices_partialInsertionSortCmpFunc_Matrix_i_spacesc1c1_d737_l14 (iwrap .i64 (l4 - 1), v10)) fun l20 =>
     .cond (decide (iwrap .i64 (h3_0_1 - l4) ≥ 2))
      (.mat (loopF (slices_partialInsertionSortCmpFunc_Matrix_i_spacesc1c1_d737_l20 h3_0_1) (iwrap .i64 (l4 + 1), l20)) fun l30 =>
      .ret (.inl (l4, iwrap .i64 (s3.2.1 + 1), l30)))
      (.ret (.inl (l4, iwrap .i64 (s3.2.1 + 1), l20))))
     (.cond (decide (iwrap .i64 (h3_0_1 - l4) ≥ 2))
      (.mat (loopF (slices_partialInsertionSortCmpFunc_Matrix_i_spacesc1c1_d737_l20 h3_0_1) (iwrap .i64 (l4 + 1), v10)) fun l31 =>
      .ret (.inl (l4, iwrap .i64 (s3.2.1 + 1), l31)))
      (.ret (.inl (l4, iwrap .i64 (s3.2.1 + 1), v10)))))))
  (.ret (.inr (.inr s3.2.2)))
noncomputable def slices_partialInsertionSortCmpFunc_Matrix_i_spacesc1c1_d737 (p0 : Int) (p1 : Int) (p2 : (List TMatrix)) : Tre (Bool × (List TMatrix)) :=
 .mat (loopF (slices_partialInsertionSortCmpFunc_Matrix_i_spacesc1c1_d737_l3 p0 p1) (iwrap .i64 (p0 + 1), 0, p2)) fun l32 =>
 .alt l32
  (fun a33 =>
   .ret (a33.1, a33.2))
  (fun b34 =>
   .ret (false, b34))
noncomputable def slices_partialInsertionSortCmpFunc_Matrix_i_spacesc1c1_d737_F (p0 : Int) (p1 : Int) (p2 : (List TMatrix)) : Option (Bool × (List TMatrix)) := (slices_partialInsertionSortCmpFunc_Matrix_i_spacesc1c1_d737 p0 p1 p2).run some
noncomputable def slices_partialInsertionSortCmpFunc_Matrix_i_spacesc1c1_d737_V : Env := ⟨tau, [(123, i_spacesc1c1_c)], []⟩
noncomputable def slices_partialInsertionSortCmpFunc_Matrix_i_spacesc1c1_d737_b : Code := (Try.f153.body).getD .skip
noncomputable def slices_partialInsertionSortCmpFunc_Matrix_i_spacesc1c1_d737_l5_mk (h5_0_0 : Int) (h5_0_1 : Int) (h5_0_3 : Int) (h5_0_4 : (List TMatrix)) : Int → St := fun x => stOf [(0, (.ref (0, 0) [])), (1, (.imm true (.int .i64) h5_0_0)), (2, (.imm true (.int .i64) h5_0_1)), (3, (.fn 123 [])), (9, (.imm true (.int .i64) x)), (10, (.imm true (.int .i64) h5_0_3))] [((0, 0), some ⟨false, (.sl kMatrix), (.sl (.imm true)), h5_0_4⟩)]
noncomputable def slices_partialInsertionSortCmpFunc_Matrix_i_spacesc1c1_d737_l5_out (h5_0_0 : Int) (h5_0_1 : Int) (h5_0_3 : Int) (h5_0_4 : (List TMatrix)) : Int → Ex × St := fun x => (.exit 2, stOf [(0, (.ref (0, 0) [])), (1, (.imm true (.int .i64) h5_0_0)), (2, (.imm true (.int .i64) h5_0_1)), (3, (.fn 123 [])), (9, (.imm true (.int .i64) x)), (10, (.imm true (.int .i64) h5_0_3))] [((0, 0), some ⟨false, (.sl kMatrix), (.sl (.imm true)), h5_0_4⟩)])
noncomputable def slices_partialInsertionSortCmpFunc_Matrix_i_spacesc1c1_d737_l5_D (s : St) : Tre (Ex × St) :=
 asRef (0, 0) [] (s.tmps 0) <|
 asImmZ true (.int .i64) (s.tmps 1) fun d3 =>
 asImmZ true (.int .i64) (s.tmps 2) fun d5 =>
 asFn 123 [] (s.tmps 3) <|
 asImmZ true (.int .i64) (s.tmps 9) fun d8 =>
 asImmZ true (.int .i64) (s.tmps 10) fun d10 =>
 asRoot false (.sl kMatrix) (s.roots (0, 0)) fun m12 d13 =>
 asM (.sl (.imm true)) m12 <|
 .mat (loopF (slices_partialInsertionSortCmpFunc_Matrix_i_spacesc1c1_d737_l5 d5 d13) d8) fun x => .ret (slices_partialInsertionSortCmpFunc_Matrix_i_spacesc1c1_d737_l5_out d3 d5 d10 d13 x)
noncomputable def slices_partialInsertionSortCmpFunc_Matrix_i_spacesc1c1_d737_l5_L : LoopI := ⟨([0, 1, 2, 3, 9, 10], [(0, 0)]), ([0, 1, 2, 3, 9, 10], [(0, 0)]), slices_partialInsertionSortCmpFunc_Matrix_i_spacesc1c1_d737_l5_D⟩
noncomputable def slices_partialInsertionSortCmpFunc_Matrix_i_spacesc1c1_d737_l14_mk (h14_0_0 : Int) (h14_0_1 : Int) (h14_0_2 : Int) (h14_0_3 : Int) : (Int × (List TMatrix)) → St := fun x => stOf [(0, (.ref (0, 0) [])), (1, (.imm true (.int .i64) h14_0_0)), (2, (.imm true (.int .i64) h14_0_1)), (3, (.fn 123 [])), (9, (.imm true (.int .i64) h14_0_2)), (10, (.imm true (.int .i64) h14_0_3)), (11, (.imm true (.int .i64) x.1))] [((0, 0), some ⟨false, (.sl kMatrix), (.sl (.imm true)), x.2⟩)]
noncomputable def slices_partialInsertionSortCmpFunc_Matrix_i_spacesc1c1_d737_l14_out (h14_0_0 : Int) (h14_0_1 : Int) (h14_0_2 : Int) (h14_0_3 : Int) : (List TMatrix) → Ex × St := fun x => (.exit 4, stOf [(0, (.ref (0, 0) [])), (1, (.imm true (.int .i64) h14_0_0)), (2, (.imm true (.int .i64) h14_0_1)), (3, (.fn 123 [])), (9, (.imm true (.int .i64) h14_0_2)), (10, (.imm true (.int .i64) h14_0_3))] [((0, 0), some ⟨false, (.sl kMatrix), (.sl (.imm true)), x⟩)])
noncomputable def slices_partialInsertionSortCmpFunc_Matrix_i_spacesc1c1_d737_l14_D (s : St) : Tre (Ex × St) :=
 asRef (0, 0) [] (s.tmps 0) <|
 asImmZ true (.int .i64) (s.tmps 1) fun d3 =>
 asImmZ true (.int .i64) (s.tmps 2) fun d5 =>
 asFn 123 [] (s.tmps 3) <|
 asImmZ true (.int .i64) (s.tmps 9) fun d8 =>
 asImmZ true (.int .i64) (s.tmps 10) fun d10 =>
 asImmZ true (.int .i64) (s.tmps 11) fun d12 =>
 asRoot false (.sl kMatrix) (s.roots (0, 0)) fun m14 d15 =>
 asM (.sl (.imm true)) m14 <|
 .mat (loopF slices_partialInsertionSortCmpFunc_Matrix_i_spacesc1c1_d737_l14 (d12, d15)) fun x => .ret (slices_partialInsertionSortCmpFunc_Matrix_i_spacesc1c1_d737_l14_out d3 d5 d8 d10 x)
noncomputable def slices_partialInsertionSortCmpFunc_Matrix_i_spacesc1c1_d737_l14_L : LoopI := ⟨([0, 1, 2, 3, 9, 10, 11], [(0, 0)]), ([0, 1, 2, 3, 9, 10], [(0, 0)]), slices_partialInsertionSortCmpFunc_Matrix_i_spacesc1c1_d737_l14_D⟩
noncomputable def slices_partialInsertionSortCmpFunc_Matrix_i_spacesc1c1_d737_l20_mk (h20_0_0 : Int) (h20_0_1 : Int) (h20_0_2 : Int) (h20_0_3 : Int) : (Int × (List TMatrix)) → St := fun x => stOf [(0, (.ref (0, 0) [])), (1, (.imm true (.int .i64) h20_0_0)), (2, (.imm true (.int .i64) h20_0_1)), (3, (.fn 123 [])), (9, (.imm true (.int .i64) h20_0_2)), (10, (.imm true (.int .i64) h20_0_3)), (12, (.imm true (.int .i64) x.1))] [((0, 0), some ⟨false, (.sl kMatrix), (.sl (.imm true)), x.2⟩)]
noncomputable def slices_partialInsertionSortCmpFunc_Matrix_i_spacesc1c1_d737_l20_out (h20_0_0 : Int) (h20_0_1 : Int) (h20_0_2 : Int) (h20_0_3 : Int) : (List TMatrix) → Ex × St := fun x => (.exit 6, stOf [(0, (.ref (0, 0) [])), (1, (.imm true (.int .i64) h20_0_0)), (2, (.imm true (.int .i64) h20_0_1)), (3, (.fn 123 [])), (9, (.imm true (.int .i64) h20_0_2)), (10, (.imm true (.int .i64) h20_0_3))] [((0, 0), some ⟨false, (.sl kMatrix), (.sl (.imm true)), x⟩)])
noncomputable def slices_partialInsertionSortCmpFunc_Matrix_i_spacesc1c1_d737_l20_D (s : St) : Tre (Ex × St) :=
 asRef (0, 0) [] (s.tmps 0) <|
 asImmZ true (.int .i64) (s.tmps 1) fun d3 =>
 asImmZ true (.int .i64) (s.tmps 2) fun d5 =>
 asFn 123 [] (s.tmps 3) <|
 asImmZ true (.int .i64) (s.tmps 9) fun d8 =>
 asImmZ true (.int .i64) (s.tmps 10) fun d10 =>
 asImmZ true (.int .i64) (s.tmps 12) fun d12 =>
 asRoot false (.sl kMatrix) (s.roots (0, 0)) fun m14 d15 =>
 asM (.sl (.imm true)) m14 <|
 .mat (loopF (slices_partialInsertionSortCmpFunc_Matrix_i_spacesc1c1_d737_l20 d5) (d12, d15)) fun x => .ret (slices_partialInsertionSortCmpFunc_Matrix_i_spacesc1c1_d737_l20_out d3 d5 d8 d10 x)
noncomputable def slices_partialInsertionSortCmpFunc_Matrix_i_spacesc1c1_d737_l20_L : LoopI := ⟨([0, 1, 2, 3, 9, 10, 12], [(0, 0)]), ([0, 1, 2, 3, 9, 10], [(0, 0)]), slices_partialInsertionSortCmpFunc_Matrix_i_spacesc1c1_d737_l20_D⟩
noncomputable def slices_partialInsertionSortCmpFunc_Matrix_i_spacesc1c1_d737_l3_mk (h3_0_0 : Int) (h3_0_1 : Int) : (Int × Int × (List TMatrix)) → St := fun x => stOf [(0, (.ref (0, 0) [])), (1, (.imm true (.int .i64) h3_0_0)), (2, (.imm true (.int .i64) h3_0_1)), (3, (.fn 123 [])), (9, (.imm true (.int .i64) x.1)), (10, (.imm true (.int .i64) x.2.1))] [((0, 0), some ⟨false, (.sl kMatrix), (.sl (.imm true)), x.2.2⟩)]
noncomputable def slices_partialInsertionSortCmpFunc_Matrix_i_spacesc1c1_d737_l3_out (_h3_0_0 : Int) (_h3_0_1 : Int) : ((Bool × (List TMatrix)) ⊕ (List TMatrix)) → Ex × St
 | .inl x => (.ret, stOf [(8, (.imm true .bool x.1))] [((0, 0), some ⟨false, (.sl kMatrix), (.sl (.imm true)), x.2⟩)])
 | .inr x => (.exit 0, stOf [(8, .dead)] [((0, 0), some ⟨false, (.sl kMatrix), (.sl (.imm true)), x⟩)])
noncomputable def slices_partialInsertionSortCmpFunc_Matrix_i_spacesc1c1_d737_l3_D (s : St) : Tre (Ex × St) :=
 asRef (0, 0) [] (s.tmps 0) <|
 asImmZ true (.int .i64) (s.tmps 1) fun d3 =>
 asImmZ true (.int .i64) (s.tmps 2) fun d5 =>
 asFn 123 [] (s.tmps 3) <|
 asImmZ true (.int .i64) (s.tmps 9) fun d8 =>
 asImmZ true (.int .i64) (s.tmps 10) fun d10 =>
 asRoot false (.sl kMatrix) (s.roots (0, 0)) fun m12 d13 =>
 asM (.sl (.imm true)) m12 <|
 .mat (loopF (slices_partialInsertionSortCmpFunc_Matrix_i_spacesc1c1_d737_l3 d3 d5) (d8, d10, d13)) fun x => .alt x (fun a0 => .ret (slices_partialInsertionSortCmpFunc_Matrix_i_spacesc1c1_d737_l3_out d3 d5 (.inl a0))) (fun b0 => .ret (slices_partialInsertionSortCmpFunc_Matrix_i_spacesc1c1_d737_l3_out d3 d5 (.inr b0)))
noncomputable def slices_partialInsertionSortCmpFunc_Matrix_i_spacesc1c1_d737_l3_L : LoopI := ⟨([0, 1, 2, 3, 9, 10], [(0, 0)]), ([8], [(0, 0)]), slices_partialInsertionSortCmpFunc_Matrix_i_spacesc1c1_d737_l3_D⟩
noncomputable def slices_partialInsertionSortCmpFunc_Matrix_i_spacesc1c1_d737_A : List (Nat × LoopI) := [(5, slices_partialInsertionSortCmpFunc_Matrix_i_spacesc1c1_d737_l5_L), (14, slices_partialInsertionSortCmpFunc_Matrix_i_spacesc1c1_d737_l14_L), (20, slices_partialInsertionSortCmpFunc_Matrix_i_spacesc1c1_d737_l20_L), (3, slices_partialInsertionSortCmpFunc_Matrix_i_spacesc1c1_d737_l3_L)]
set_option maxRecDepth 100000 in
theorem slices_partialInsertionSortCmpFunc_Matrix_i_spacesc1c1_d737_l5_step : ∀ (h5_0_0 : Int) (h5_0_1 : Int) (h5_0_3 : Int) (h5_0_4 : (List TMatrix)) (x : Int) (c : St → Option (Ex × St)), den slices_partialInsertionSortCmpFunc_Matrix_i_spacesc1c1_d737_V slices_partialInsertionSortCmpFunc_Matrix_i_spacesc1c1_d737_A (loopAt slices_partialInsertionSortCmpFunc_Matrix_i_spacesc1c1_d737_b 1) (slices_partialInsertionSortCmpFunc_Matrix_i_spacesc1c1_d737_l5_mk h5_0_0 h5_0_1 h5_0_3 h5_0_4 x) (roundK slices_partialInsertionSortCmpFunc_Matrix_i_spacesc1c1_d737_l5_L.kp slices_partialInsertionSortCmpFunc_Matrix_i_spacesc1c1_d737_l5_L.kx c) = (slices_partialInsertionSortCmpFunc_Matrix_i_spacesc1c1_d737_l5 h5_0_1 h5_0_4 x).run (roundR (slices_partialInsertionSortCmpFunc_Matrix_i_spacesc1c1_d737_l5_mk h5_0_0 h5_0_1 h5_0_3 h5_0_4) (slices_partialInsertionSortCmpFunc_Matrix_i_spacesc1c1_d737_l5_out h5_0_0 h5_0_1 h5_0_3 h5_0_4) c) := fun _ _ _ _ _ _ => by
 kernel_rfl
theorem slices_partialInsertionSortCmpFunc_Matrix_i_spacesc1c1_d737_l5_ok : LoopOK slices_partialInsertionSortCmpFunc_Matrix_i_spacesc1c1_d737_V slices_partialInsertionSortCmpFunc_Matrix_i_spacesc1c1_d737_A (loopAt slices_partialInsertionSortCmpFunc_Matrix_i_spacesc1c1_d737_b 1) slices_partialInsertionSortCmpFunc_Matrix_i_spacesc1c1_d737_l5_L := loopOK_of fun s e s' h => by
 generalize hs : restrict slices_partialInsertionSortCmpFunc_Matrix_i_spacesc1c1_d737_l5_L.kp s = s1 at h
 have h : (slices_partialInsertionSortCmpFunc_Matrix_i_spacesc1c1_d737_l5_D s1).run some = some (e, s') := h
 obtain ⟨e1, h_0⟩ := asRef_spec h
 obtain ⟨d3, e2, h_1⟩ := asImmZ_spec h_0
 obtain ⟨d5, e4, h_2⟩ := asImmZ_spec h_1
 obtain ⟨e6, h_3⟩ := asFn_spec h_2
 obtain ⟨d8, e7, h_4⟩ := asImmZ_spec h_3
 obtain ⟨d10, e9, h_5⟩ := asImmZ_spec h_4
 obtain ⟨m12, d13, e11, h_6⟩ := asRoot_spec h_5
 obtain ⟨rfl, h_7⟩ := asM_spec h_6
 obtain ⟨y, hy, hz⟩ := mat_ret h_7
 refine ⟨_, _, slices_partialInsertionSortCmpFunc_Matrix_i_spacesc1c1_d737_l5_mk d3 d5 d10 d13, slices_partialInsertionSortCmpFunc_Matrix_i_spacesc1c1_d737_l5_out d3 d5 d10 d13, slices_partialInsertionSortCmpFunc_Matrix_i_spacesc1c1_d737_l5 d5 d13, d8, y, ?_, hy, ?_, slices_partialInsertionSortCmpFunc_Matrix_i_spacesc1c1_d737_l5_step d3 d5 d10 d13⟩
 ·subst hs; exact restrict_eq (T := [(0, (.ref (0, 0) [])), (1, (.imm true (.int .i64) d3)), (2, (.imm true (.int .i64) d5)), (3, (.fn 123 [])), (9, (.imm true (.int .i64) d8)), (10, (.imm true (.int .i64) d10))]) (U := [((0, 0), some ⟨false, (.sl kMatrix), (.sl (.imm true)), d13⟩)]) rfl rfl ⟨e1, e2, e4, e6, e7, e9, trivial⟩ ⟨e11, trivial⟩
 ·exact Option.some.inj hz
set_option maxRecDepth 100000 in
theorem slices_partialInsertionSortCmpFunc_Matrix_i_spacesc1c1_d737_l14_step : ∀ (h14_0_0 : Int) (h14_0_1 : Int) (h14_0_2 : Int) (h14_0_3 : Int) (x : (Int × (List TMatrix))) (c : St → Option (Ex × St)), den slices_partialInsertionSortCmpFunc_Matrix_i_spacesc1c1_d737_V slices_partialInsertionSortCmpFunc_Matrix_i_spacesc1c1_d737_A (loopAt slices_partialInsertionSortCmpFunc_Matrix_i_spacesc1c1_d737_b 2) (slices_partialInsertionSortCmpFunc_Matrix_i_spacesc1c1_d737_l14_mk h14_0_0 h14_0_1 h14_0_2 h14_0_3 x) (roundK slices_partialInsertionSortCmpFunc_Matrix_i_spacesc1c1_d737_l14_L.kp slices_partialInsertionSortCmpFunc_Matrix_i_spacesc1c1_d737_l14_L.kx c) = (slices_partialInsertionSortCmpFunc_Matrix_i_spacesc1c1_d737_l14 x).run (roundR (slices_partialInsertionSortCmpFunc_Matrix_i_spacesc1c1_d737_l14_mk h14_0_0 h14_0_1 h14_0_2 h14_0_3) (slices_partialInsertionSortCmpFunc_Matrix_i_spacesc1c1_d737_l14_out h14_0_0 h14_0_1 h14_0_2 h14_0_3) c) := fun _ _ _ _ _ _ => by
 kernel_rfl
theorem slices_partialInsertionSortCmpFunc_Matrix_i_spacesc1c1_d737_l14_ok : LoopOK slices_partialInsertionSortCmpFunc_Matrix_i_spacesc1c1_d737_V slices_partialInsertionSortCmpFunc_Matrix_i_spacesc1c1_d737_A (loopAt slices_partialInsertionSortCmpFunc_Matrix_i_spacesc1c1_d737_b 2) slices_partialInsertionSortCmpFunc_Matrix_i_spacesc1c1_d737_l14_L := loopOK_of fun s e s' h => by
 generalize hs : restrict slices_partialInsertionSortCmpFunc_Matrix_i_spacesc1c1_d737_l14_L.kp s = s1 at h
 have h : (slices_partialInsertionSortCmpFunc_Matrix_i_spacesc1c1_d737_l14_D s1).run some = some (e, s') := h
 obtain ⟨e1, h_0⟩ := asRef_spec h
 obtain ⟨d3, e2, h_1⟩ := asImmZ_spec h_0
 obtain ⟨d5, e4, h_2⟩ := asImmZ_spec h_1
 obtain ⟨e6, h_3⟩ := asFn_spec h_2
 obtain ⟨d8, e7, h_4⟩ := asImmZ_spec h_3
 obtain ⟨d10, e9, h_5⟩ := asImmZ_spec h_4
 obtain ⟨d12, e11, h_6⟩ := asImmZ_spec h_5
 obtain ⟨m14, d15, e13, h_7⟩ := asRoot_spec h_6
 obtain ⟨rfl, h_8⟩ := asM_spec h_7
 obtain ⟨y, hy, hz⟩ := mat_ret h_8
 refine ⟨_, _, slices_partialInsertionSortCmpFunc_Matrix_i_spacesc1c1_d737_l14_mk d3 d5 d8 d10, slices_partialInsertionSortCmpFunc_Matrix_i_spacesc1c1_d737_l14_out d3 d5 d8 d10, slices_partialInsertionSortCmpFunc_Matrix_i_spacesc1c1_d737_l14, (d12, d15), y, ?_, hy, ?_, slices_partialInsertionSortCmpFunc_Matrix_i_spacesc1c1_d737_l14_step d3 d5 d8 d10⟩
 ·subst hs; exact restrict_eq (T := [(0, (.ref (0, 0) [])), (1, (.imm true (.int .i64) d3)), (2, (.imm true (.int .i64) d5)), (3, (.fn 123 [])), (9, (.imm true (.int .i64) d8)), (10, (.imm true (.int .i64) d10)), (11, (.imm true (.int .i64) d12))]) (U := [((0, 0), some ⟨false, (.sl kMatrix), (.sl (.imm true)), d15⟩)]) rfl rfl ⟨e1, e2, e4, e6, e7, e9, e11, trivial⟩ ⟨e13, trivial⟩
 ·exact Option.some.inj hz
set_option maxRecDepth 100000 in
theorem slices_partialInsertionSortCmpFunc_Matrix_i_spacesc1c1_d737_l20_step : ∀ (h20_0_0 : Int) (h20_0_1 : Int) (h20_0_2 : Int) (h20_0_3 : Int) (x : (Int × (List TMatrix))) (c : St → Option (Ex × St)), den slices_partialInsertionSortCmpFunc_Matrix_i_spacesc1c1_d737_V slices_partialInsertionSortCmpFunc_Matrix_i_spacesc1c1_d737_A (loopAt slices_partialInsertionSortCmpFunc_Matrix_i_spacesc1c1_d737_b 3) (slices_partialInsertionSortCmpFunc_Matrix_i_spacesc1c1_d737_l20_mk h20_0_0 h20_0_1 h20_0_2 h20_0_3 x) (roundK slices_partialInsertionSortCmpFunc_Matrix_i_spacesc1c1_d737_l20_L.kp slices_partialInsertionSortCmpFunc_Matrix_i_spacesc1c1_d737_l20_L.kx c) = (slices_partialInsertionSortCmpFunc_Matrix_i_spacesc1c1_d737_l20 h20_0_1 x).run (roundR (slices_partialInsertionSortCmpFunc_Matrix_i_spacesc1c1_d737_l20_mk h20_0_0 h20_0_1 h20_0_2 h20_0_3) (slices_partialInsertionSortCmpFunc_Matrix_i_spacesc1c1_d737_l20_out h20_0_0 h20_0_1 h20_0_2 h20_0_3) c) := fun _ _ _ _ _ _ => by
 kernel_rfl
theorem slices_partialInsertionSortCmpFunc_Matrix_i_spacesc1c1_d737_l20_ok : LoopOK slices_partialInsertionSortCmpFunc_Matrix_i_spacesc1c1_d737_V slices_partialInsertionSortCmpFunc_Matrix_i_spacesc1c1_d737_A (loopAt slices_partialInsertionSortCmpFunc_Matrix_i_spacesc1c1_d737_b 3) slices_partialInsertionSortCmpFunc_Matrix_i_spacesc1c1_d737_l20_L := loopOK_of fun s e s' h => by
 generalize hs : restrict slices_partialInsertionSortCmpFunc_Matrix_i_spacesc1c1_d737_l20_L.kp s = s1 at h
 have h : (slices_partialInsertionSortCmpFunc_Matrix_i_spacesc1c1_d737_l20_D s1).run some = some (e, s') := h
 obtain ⟨e1, h_0⟩ := asRef_spec h
 obtain ⟨d3, e2, h_1⟩ := asImmZ_spec h_0
 obtain ⟨d5, e4, h_2⟩ := asImmZ_spec h_1
 obtain ⟨e6, h_3⟩ := asFn_spec h_2
 obtain ⟨d8, e7, h_4⟩ := asImmZ_spec h_3
 obtain ⟨d10, e9, h_5⟩ := asImmZ_spec h_4
 obtain ⟨d12, e11, h_6⟩ := asImmZ_spec h_5
 obtain ⟨m14, d15, e13, h_7⟩ := asRoot_spec h_6
 obtain ⟨rfl, h_8⟩ := asM_spec h_7
 obtain ⟨y, hy, hz⟩ := mat_ret h_8
 refine ⟨_, _, slices_partialInsertionSortCmpFunc_Matrix_i_spacesc1c1_d737_l20_mk d3 d5 d8 d10, slices_partialInsertionSortCmpFunc_Matrix_i_spacesc1c1_d737_l20_out d3 d5 d8 d10, slices_partialInsertionSortCmpFunc_Matrix_i_spacesc1c1_d737_l20 d5, (d12, d15), y, ?_, hy, ?_, slices_partialInsertionSortCmpFunc_Matrix_i_spacesc1c1_d737_l20_step d3 d5 d8 d10⟩
 ·subst hs; exact restrict_eq (T := [(0, (.ref (0, 0) [])), (1, (.imm true (.int .i64) d3)), (2, (.imm true (.int .i64) d5)), (3, (.fn 123 [])), (9, (.imm true (.int .i64) d8)), (10, (.imm true (.int .i64) d10)), (12, (.imm true (.int .i64) d12))]) (U := [((0, 0), some ⟨false, (.sl kMatrix), (.sl (.imm true)), d15⟩)]) rfl rfl ⟨e1, e2, e4, e6, e7, e9, e11, trivial⟩ ⟨e13, trivial⟩
 ·exact Option.some.inj hz
set_option maxRecDepth 100000 in
theorem slices_partialInsertionSortCmpFunc_Matrix_i_spacesc1c1_d737_l3_step : ∀ (h3_0_0 : Int) (h3_0_1 : Int) (x : (Int × Int × (List TMatrix))) (c : St → Option (Ex × St)), den slices_partialInsertionSortCmpFunc_Matrix_i_spacesc1c1_d737_V slices_partialInsertionSortCmpFunc_Matrix_i_spacesc1c1_d737_A (loopAt slices_partialInsertionSortCmpFunc_Matrix_i_spacesc1c1_d737_b 0) (slices_partialInsertionSortCmpFunc_Matrix_i_spacesc1c1_d737_l3_mk h3_0_0 h3_0_1 x) (roundK slices_partialInsertionSortCmpFunc_Matrix_i_spacesc1c1_d737_l3_L.kp slices_partialInsertionSortCmpFunc_Matrix_i_spacesc1c1_d737_l3_L.kx c) = (slices_partialInsertionSortCmpFunc_Matrix_i_spacesc1c1_d737_l3 h3_0_0 h3_0_1 x).run (roundR (slices_partialInsertionSortCmpFunc_Matrix_i_spacesc1c1_d737_l3_mk h3_0_0 h3_0_1) (slices_partialInsertionSortCmpFunc_Matrix_i_spacesc1c1_d737_l3_out h3_0_0 h3_0_1) c) := fun _ _ _ _ => by
 kernel_rfl
theorem slices_partialInsertionSortCmpFunc_Matrix_i_spacesc1c1_d737_l3_ok : LoopOK slices_partialInsertionSortCmpFunc_Matrix_i_spacesc1c1_d737_V slices_partialInsertionSortCmpFunc_Matrix_i_spacesc1c1_d737_A (loopAt slices_partialInsertionSortCmpFunc_Matrix_i_spacesc1c1_d737_b 0) slices_partialInsertionSortCmpFunc_Matrix_i_spacesc1c1_d737_l3_L := loopOK_of fun s e s' h => by
 generalize hs : restrict slices_partialInsertionSortCmpFunc_Matrix_i_spacesc1c1_d737_l3_L.kp s = s1 at h
 have h : (slices_partialInsertionSortCmpFunc_Matrix_i_spacesc1c1_d737_l3_D s1).run some = some (e, s') := h
 obtain ⟨e1, h_0⟩ := asRef_spec h
 obtain ⟨d3, e2, h_1⟩ := asImmZ_spec h_0
 obtain ⟨d5, e4, h_2⟩ := asImmZ_spec h_1
 obtain ⟨e6, h_3⟩ := asFn_spec h_2
 obtain ⟨d8, e7, h_4⟩ := asImmZ_spec h_3
 obtain ⟨d10, e9, h_5⟩ := asImmZ_spec h_4
 obtain ⟨m12, d13, e11, h_6⟩ := asRoot_spec h_5
 obtain ⟨rfl, h_7⟩ := asM_spec h_6
 obtain ⟨y, hy, hz⟩ := mat_some h_7
 refine ⟨_, _, slices_partialInsertionSortCmpFunc_Matrix_i_spacesc1c1_d737_l3_mk d3 d5, slices_partialInsertionSortCmpFunc_Matrix_i_spacesc1c1_d737_l3_out d3 d5, slices_partialInsertionSortCmpFunc_Matrix_i_spacesc1c1_d737_l3 d3 d5, (d8, d10, d13), y, ?_, hy, ?_, slices_partialInsertionSortCmpFunc_Matrix_i_spacesc1c1_d737_l3_step d3 d5⟩
 ·subst hs; exact restrict_eq (T := [(0, (.ref (0, 0) [])), (1, (.imm true (.int .i64) d3)), (2, (.imm true (.int .i64) d5)), (3, (.fn 123 [])), (9, (.imm true (.int .i64) d8)), (10, (.imm true (.int .i64) d10))]) (U := [((0, 0), some ⟨false, (.sl kMatrix), (.sl (.imm true)), d13⟩)]) rfl rfl ⟨e1, e2, e4, e6, e7, e9, trivial⟩ ⟨e11, trivial⟩
 ·rcases y with x | x <;> exact Option.some.inj hz
noncomputable def slices_partialInsertionSortCmpFunc_Matrix_i_spacesc1c1_d737_I : FnI := ⟨slices_partialInsertionSortCmpFunc_Matrix_i_spacesc1c1_d737_b, Try.f153.results.toList, Try.f153.resultTypes.toList, slices_partialInsertionSortCmpFunc_Matrix_i_spacesc1c1_d737_A⟩
noncomputable def slices_partialInsertionSortCmpFunc_Matrix_i_spacesc1c1_d737_out (_p0 : Int) (_p1 : Int) (_p2 : (List TMatrix)) : (Bool × (List TMatrix)) → CallOut := fun r => ⟨(.imm true .bool r.1), [⟨false, (.sl kMatrix), (.sl (.imm true)), r.2⟩], []⟩
set_option maxRecDepth 100000 in
theorem slices_partialInsertionSortCmpFunc_Matrix_i_spacesc1c1_d737_eq : ∀ (p0 : Int) (p1 : Int) (p2 : (List TMatrix)), denFn slices_partialInsertionSortCmpFunc_Matrix_i_spacesc1c1_d737_V slices_partialInsertionSortCmpFunc_Matrix_i_spacesc1c1_d737_I ⟨[(.ref (0, 0) []), (.imm true (.int .i64) p0), (.imm true (.int .i64) p1), (.fn 123 [])], [⟨false, (.sl kMatrix), (.sl (.imm true)), p2⟩]⟩ = (slices_partialInsertionSortCmpFunc_Matrix_i_spacesc1c1_d737 p0 p1 p2).run fun r => some (slices_partialInsertionSortCmpFunc_Matrix_i_spacesc1c1_d737_out p0 p1 p2 r) := fun _ _ _ => by kernel_rfl
noncomputable def slices_partialInsertionSortCmpFunc_Matrix_i_spacesc1c1_d737_G (av : List AV) (rs : List Root) : Tre CallOut :=
 asCons av fun a0_ av0 =>
 asCons av0 fun a1_ av1 =>
 asCons av1 fun a2_ av2 =>
 asCons av2 fun a3_ av3 =>
 asEnd av3 <|
 asCons rs fun r0_ rs0 =>
 asEnd rs0 <|
 asRef (0, 0) [] a0_ <|
 asImmZ true (.int .i64) a1_ fun d1 =>
 asImmZ true (.int .i64) a2_ fun d2 =>
 asFn 123 [] a3_ <|
 asRt false (.sl kMatrix) r0_ fun m3 d4 =>
 asM (.sl (.imm true)) m3 <|
 .mat (slices_partialInsertionSortCmpFunc_Matrix_i_spacesc1c1_d737_F d1 d2 d4) fun r => .ret (slices_partialInsertionSortCmpFunc_Matrix_i_spacesc1c1_d737_out d1 d2 d4 r)
noncomputable def slices_partialInsertionSortCmpFunc_Matrix_i_spacesc1c1_d737_c : Ctr := ⟨[0], fun ci => slices_partialInsertionSortCmpFunc_Matrix_i_spacesc1c1_d737_G ci.args ci.roots, false⟩
theorem slices_partialInsertionSortCmpFunc_Matrix_i_spacesc1c1_d737_env : EnvOK Try.prog .none slices_partialInsertionSortCmpFunc_Matrix_i_spacesc1c1_d737_V := (envOK_cons i_spacesc1c1_ok ent123 envOK_nil)
set_option maxRecDepth 100000 in
theorem slices_partialInsertionSortCmpFunc_Matrix_i_spacesc1c1_d737_ok : Contract Try.prog .none 153 slices_partialInsertionSortCmpFunc_Matrix_i_spacesc1c1_d737_c := by
 have hl : LoopsOK slices_partialInsertionSortCmpFunc_Matrix_i_spacesc1c1_d737_V slices_partialInsertionSortCmpFunc_Matrix_i_spacesc1c1_d737_A slices_partialInsertionSortCmpFunc_Matrix_i_spacesc1c1_d737_b := (loopsOK_all (n := 4) (by kernel_rfl) fun k hk => by
   match k, hk with
   | 0, _ => exact loopOK_at (id := 3) (L := slices_partialInsertionSortCmpFunc_Matrix_i_spacesc1c1_d737_l3_L) (by kernel_rfl) (by kernel_rfl) slices_partialInsertionSortCmpFunc_Matrix_i_spacesc1c1_d737_l3_ok
   | 1, _ => exact loopOK_at (id := 5) (L := slices_partialInsertionSortCmpFunc_Matrix_i_spacesc1c1_d737_l5_L) (by kernel_rfl) (by kernel_rfl) slices_partialInsertionSortCmpFunc_Matrix_i_spacesc1c1_d737_l5_ok
   | 2, _ => exact loopOK_at (id := 14) (L := slices_partialInsertionSortCmpFunc_Matrix_i_spacesc1c1_d737_l14_L) (by kernel_rfl) (by kernel_rfl) slices_partialInsertionSortCmpFunc_Matrix_i_spacesc1c1_d737_l14_ok
   | 3, _ => exact loopOK_at (id := 20) (L := slices_partialInsertionSortCmpFunc_Matrix_i_spacesc1c1_d737_l20_L) (by kernel_rfl) (by kernel_rfl) slices_partialInsertionSortCmpFunc_Matrix_i_spacesc1c1_d737_l20_ok)
 refine (contract_of (F := slices_partialInsertionSortCmpFunc_Matrix_i_spacesc1c1_d737_I) tau_tys slices_partialInsertionSortCmpFunc_Matrix_i_spacesc1c1_d737_env Try.func153 (by kernel_rfl) (by kernel_rfl) (by kernel_rfl) hl [0]).weaken ?_
 rintro ⟨av, rs⟩ co h
 have h : (slices_partialInsertionSortCmpFunc_Matrix_i_spacesc1c1_d737_G av rs).run some = some co := h
 obtain ⟨a0_, av0, rfl, h_0⟩ := asCons_spec h
 obtain ⟨a1_, av1, rfl, h_1⟩ := asCons_spec h_0
 obtain ⟨a2_, av2, rfl, h_2⟩ := asCons_spec h_1
 obtain ⟨a3_, av3, rfl, h_3⟩ := asCons_spec h_2
 obtain ⟨rfl, h_4⟩ := asEnd_spec h_3
 obtain ⟨r0_, rs0, rfl, h_5⟩ := asCons_spec h_4
 obtain ⟨rfl, h_6⟩ := asEnd_spec h_5
 obtain ⟨rfl, h_7⟩ := asRef_spec h_6
 obtain ⟨d1, rfl, h_8⟩ := asImmZ_spec h_7
 obtain ⟨d2, rfl, h_9⟩ := asImmZ_spec h_8
 obtain ⟨rfl, h_10⟩ := asFn_spec h_9
 obtain ⟨m3, d4, rfl, h_11⟩ := asRt_spec h_10
 obtain ⟨rfl, h_12⟩ := asM_spec h_11
 exact fin_mat (slices_partialInsertionSortCmpFunc_Matrix_i_spacesc1c1_d737_eq d1 d2 d4) h_12
end Go.Proofs.Ythnkanacjhlhhaa
