/- Part 1 of the proof of FnDelivered. -/
import Derived.Laws.MakeOwn
import Derived.Laws.CopyRow
import Derived.Test.YtkgekgfmnhccmaaPd0
namespace Go.Abs
section
variable {P : Program} {V : Env} {w0 w : World} {M0 : BS} {n : Nat} {C0 C : Ctx} {s : St} {a : Act}
variable {R' : Type} {r : R'} {o : Oper}
structure Freed (w : World) (C C1 : Ctx) (rs rs1 : RF) (ks : List Kill) (G : BS) : Prop where
 θ : C1.θ = C.θ
 ρ : C1.ρ = C.ρ
 Z : C1.Z = C.Z
 S : C1.S = C.S
 mem : Mem w C1 rs1
 leaf : ∀ b vs, b.isLeaf = true → hit ks b = false → AVC w C rs b vs → AVC w C1 rs1 b vs
 was : ∀ r y, rs1 r = some y → ∃ z, rs r = some z ∧ Sub (C1.F r) (C.F r) ∧ y.mem = z.mem ∧ ∀ q ∈ ptrsOf y.k y.d, q ∈ ptrsOf z.k z.d
 gfoot : ∀ b, G b → ∃ r y, rs r = some y ∧ C.F r b
 gdisj : ∀ r y, rs1 r = some y → Disj G (C1.F r)
theorem Freed.refl {rs : RF} (hM : Mem w C rs) : Freed w C C rs rs [] noB :=
 ⟨rfl, rfl, rfl, rfl, hM, fun _ _ _ _ h => h, fun _ y h => ⟨y, h, .refl _, rfl, fun _ hq => hq⟩, fun _ h => h.elim, fun _ _ _ _ h => h.elim⟩
theorem hit_append (k1 k2 : List Kill) (b : AV) : hit (k1 ++ k2) b = (hit k1 b || hit k2 b) := by simp [hit]
theorem Freed.trans {C1 C2 : Ctx} {rs rs1 rs2 : RF} {k1 k2 : List Kill} {G1 G2 : BS} (h : Freed w C C1 rs rs1 k1 G1) (k : Freed w C1 C2 rs1 rs2 k2 G2) :
  Freed w C C2 rs rs2 (k1 ++ k2) (fun b => G1 b ∨ G2 b) where
 θ := k.θ.trans h.θ
 ρ := k.ρ.trans h.ρ
 Z := k.Z.trans h.Z
 S := k.S.trans h.S
 mem := k.mem
 leaf := fun b vs hl hh hv => by
  rw [hit_append, Bool.or_eq_false_iff] at hh
  exact k.leaf b vs hl hh.2 (h.leaf b vs hl hh.1 hv)
 was := fun r y hy => by
  obtain ⟨z, z1, z2, z3, z4⟩ := k.was r y hy
  obtain ⟨u, u1, u2, u3, u4⟩ := h.was r z z1
  exact ⟨u, u1, z2.trans u2, z3.trans u3, fun q hq => u4 q (z4 q hq)⟩
 gfoot := fun b hb => by
  rcases hb with hb | hb
  ·exact h.gfoot b hb
  ·obtain ⟨r, y, h1, h2⟩ := k.gfoot b hb
   obtain ⟨z, z1, z2, _⟩ := h.was r y h1
   exact ⟨r, z, z1, z2 b h2⟩
 gdisj := fun r y hy b hb hf => by
  rcases hb with hb | hb
  ·obtain ⟨z, z1, z2, _⟩ := k.was r y hy
   exact h.gdisj r z z1 b hb (z2 b hf)
  ·exact k.gdisj r y hy b hb hf
theorem Freed.ofs {rs rs1 : RF} (hM : Mem w C rs) {e : List RName} (he : ∀ q ∈ e, ∃ y, rs q = some y) (h1 : ∀ q, rs1 q = if q ∈ e then none else rs q) :
  Freed w C C rs rs1 (ofs e) (FU C e) := by
 have hw : ∀ q y, rs1 q = some y → q ∉ e ∧ rs q = some y := by
  intro q y hq
  rw [h1] at hq
  split at hq
  ·cases hq
  ·exact ⟨‹_›, hq⟩
 refine ⟨rfl, rfl, rfl, rfl, ⟨fun r x hx => hM.ok r x (hw r x hx).2, fun r r' x x' hx hx' => hM.disj r r' x x' (hw r x hx).2 (hw r' x' hx').2, fun r x b hx => hM.apart r x b (hw r x hx).2, hM.ro,
  fun r x hx q hq y hy => hM.ptr r x (hw r x hx).2 q hq y (hw q y hy).2⟩, fun b vs hl hh hv => ?_, fun r y hy => ⟨y, (hw r y hy).2, .refl _, rfl, fun _ hq => hq⟩, ?_, ?_⟩
 ·exact leaf_keep (C' := C) hM (fun q => q ∈ e) rfl rfl (fun _ _ => rfl) (fun _ _ => rfl) (fun q y _ hy => (hw q y hy).2) (fun _ _ => rfl) hl (hit_ofs hl hh) hv
 ·rintro b ⟨q, hq, hb⟩
  obtain ⟨y, hy⟩ := he q hq
  exact ⟨q, y, hy, hb⟩
 ·rintro r y hy b ⟨q, hq, hb⟩ hf
  obtain ⟨z, hz⟩ := he q hq
  exact hM.disj q r z y hz (hw r y hy).2 (fun h => (hw r y hy).1 (h ▸ hq)) b hb hf
theorem mkPair_fst' (a b : Mask) : (Mask.mkPair a b).fst = a := by unfold Mask.mkPair; split <;> first | rfl | (split <;> rfl)
theorem mkPair_snd' (a b : Mask) : (Mask.mkPair a b).snd = b := by
 unfold Mask.mkPair
 split
 ·rfl
 ·split
  ·rename_i h; subst h; rfl
  ·rfl
 ·rfl
theorem take_sound {θ : RName → Nat} {Z S : BS} {e : K} : ∀ (p : Path) {k : K} {m : Mask} {d : k.den} {vs : List Value} {F : BS} {R : Type} {r : R} {c : k.den → Mask → Option R},
  hasIdx p = false → setP k d m p (.sl e) [] .gone c = some r → Enc w θ Z S k m d vs F →
  ∃ d' m' F1 G xs ma v, c d' m' = some r ∧ k.at p = some (.sl e) ∧ (∀ (R : Type) (c2 : (k' : K) → k'.den → Mask → Option R), getP k d m p c2 = c2 (.sl e) xs ma) ∧
   Enc w θ Z S k m' d' vs F1 ∧ Sub F1 F ∧ Sub G F ∧ Disj F1 G ∧ Enc w θ Z S (.sl e) ma xs [v] G ∧ (∀ base, ∃ b1, locv w k vs base p = some ([v], b1)) ∧
   (∀ q ∈ ptrsOf k d', q ∈ ptrsOf k d) ∧ (∀ q k', k.at q = some k' → canGet k d m q → (under p q && hasIdx q) = false → canGet k d' m' q) := by
 intro p
 induction p with
 | nil =>
  intro k m d vs F R r c _ h he
  have h' : (if hk : K.sl e = k then c (hk ▸ ([] : (K.sl e).den)) (bif k.flat then m else .gone) else none) = some r := by cases k <;> exact h
  split at h'
  case isFalse => simp at h'
  case isTrue hk =>
  subst hk
  have hlen := he.len
  obtain ⟨v, rfl⟩ := one_of_len (vs := vs) hlen
  refine ⟨[], _, noB, F, d, m, v, h', rfl, fun R c2 => rfl, .inl ⟨rfl, v, rfl⟩, fun _ x => x.elim, .refl _, fun _ x => x.elim, he, fun base => ⟨base, rfl⟩, ?_, ?_⟩
  ·intro q hq; simp only [ptrsOf] at hq; cases hpl : e.plain <;> rw [hpl] at hq <;> simp at hq
  ·intro q k' hk hcg hu
   cases q with
   | nil => trivial
   | cons st q =>
    cases st with
    | fst => exact hcg.elim
    | snd => exact hcg.elim
    | idx i => simp [under, hasIdx] at hu
 | cons st p ih =>
  intro k m d vs F R r c hi h he
  cases st with
  | fst =>
   cases k with
   | pair ka kb =>
    obtain ⟨v1, v2, Fa, Fb, rfl, s1, s2, dj, h1, h2⟩ := he
    obtain ⟨d', m', F1, G, xs, ma, v, g1, g2, g3, g4, g5, g6, g7, g8, g9, g10, g11⟩ := ih (k := ka) (m := m.fst) (d := d.1) (by simpa [hasIdx] using hi) h h1
    have hm0 : (m.setFst m').fst = m' ∧ (m.setFst m').snd = m.snd := ⟨mkPair_fst' _ _, mkPair_snd' _ _⟩
    refine ⟨(d', d.2), m.setFst m', (fun b => F1 b ∨ Fb b), G, xs, ma, v, g1, g2, g3, ⟨v1, v2, F1, Fb, rfl, fun _ => .inl, fun _ => .inr, dj.sub g5 (.refl _), by rw [hm0.1]; exact g4, by rw [hm0.2]; exact h2⟩,
     fun b hb => hb.elim (fun hb => s1 _ (g5 _ hb)) (s2 _), g6.trans s1, fun b hb hg => hb.elim (fun hb => g7 b hb hg) (fun hb => dj b (g6 _ hg) hb), g8, fun base => ?_, ?_, ?_⟩
    ·obtain ⟨b1, hb1⟩ := g9 base
     refine ⟨b1, ?_⟩
     show locv w ka ((v1 ++ v2).take ka.size) base p = _
     rw [← h1.len, List.take_left]; exact hb1
    ·intro q hq
     simp only [ptrsOf, List.mem_append] at hq ⊢
     exact hq.imp (g10 q) id
    ·intro q k' hk hcg hu
     cases q with
     | nil => trivial
     | cons st q =>
      cases st with
      | fst => show canGet ka d' (m.setFst m').fst q; rw [hm0.1]; exact g11 q k' hk hcg (by simpa [under, hasIdx] using hu)
      | snd => show canGet kb d.2 (m.setFst m').snd q; rw [hm0.2]; exact hcg
      | idx i => exact hcg.elim
   | _ => simp [setP] at h
  | snd =>
   cases k with
   | pair ka kb =>
    obtain ⟨v1, v2, Fa, Fb, rfl, s1, s2, dj, h1, h2⟩ := he
    obtain ⟨d', m', F1, G, xs, ma, v, g1, g2, g3, g4, g5, g6, g7, g8, g9, g10, g11⟩ := ih (k := kb) (m := m.snd) (d := d.2) (by simpa [hasIdx] using hi) h h2
    have hm0 : (m.setSnd m').fst = m.fst ∧ (m.setSnd m').snd = m' := ⟨mkPair_fst' _ _, mkPair_snd' _ _⟩
    refine ⟨(d.1, d'), m.setSnd m', (fun b => Fa b ∨ F1 b), G, xs, ma, v, g1, g2, g3, ⟨v1, v2, Fa, F1, rfl, fun _ => .inl, fun _ => .inr, dj.sub (.refl _) g5, by rw [hm0.1]; exact h1, by rw [hm0.2]; exact g4⟩,
     fun b hb => hb.elim (s1 _) (fun hb => s2 _ (g5 _ hb)), g6.trans s2, fun b hb hg => hb.elim (fun hb => dj b hb (g6 _ hg)) (fun hb => g7 b hb hg), g8, fun base => ?_, ?_, ?_⟩
    ·obtain ⟨b1, hb1⟩ := g9 (base.map fun x => (x.1, x.2 + ka.size))
     refine ⟨b1, ?_⟩
     show locv w kb ((v1 ++ v2).drop ka.size) (base.map fun x => (x.1, x.2 + ka.size)) p = _
     rw [← h1.len, List.drop_left, h1.len]; exact hb1
    ·intro q hq
     simp only [ptrsOf, List.mem_append] at hq ⊢
     exact hq.imp id (g10 q)
    ·intro q k' hk hcg hu
     cases q with
     | nil => trivial
     | cons st q =>
      cases st with
      | fst => show canGet ka d.1 (m.setSnd m').fst q; rw [hm0.1]; exact hcg
      | snd => show canGet kb d' (m.setSnd m').snd q; rw [hm0.2]; exact g11 q k' hk hcg (by simpa [under, hasIdx] using hu)
      | idx i => exact hcg.elim
   | _ => simp [setP] at h
  | idx i => simp [hasIdx] at hi
theorem look_cons (rs : RF) (q0 : RName) (x : Option Root) (u : U) (q : RName) : look rs ((q0, x) :: u) q = if q = q0 then x else look rs u q := by
 simp only [look, lookU]
 by_cases h : q = q0
 ·rw [if_pos h, req_iff.2 h]; rfl
 ·rw [if_neg h, req_ne h]; rfl
theorem lookU_ne {q q0 : RName} {x : Option Root} {u : U} (h : q ≠ q0) : lookU q ((q0, x) :: u) = lookU q u := by simp only [lookU]; rw [req_ne h]; rfl
theorem ptrsOf_nil (e : K) : ptrsOf (.sl e) [] = [] := by simp only [ptrsOf]; cases e.plain <;> rfl
theorem ptrsOf_part {e : K} {xs : List e.den} {lo k : Nat} {p : RName} (h : p ∈ ptrsOf (.sl e) ((xs.drop lo).take k)) : p ∈ ptrsOf (.sl e) xs := by
 simp only [ptrsOf] at h ⊢
 cases hp : e.plain with
 | true => rw [hp] at h; simp at h
 | false =>
  rw [hp] at h
  simp only [cond_false, List.mem_flatMap] at h ⊢
  obtain ⟨y, hy, h⟩ := h
  exact ⟨y, List.mem_of_mem_drop (List.mem_of_mem_take hy), h⟩
theorem takeDst_sound {rs : RF} {e : K} {u : U} {av : AV} {v : Value} (hM : Mem w C (look rs u)) (hv : AVC w C (look rs u) av [v]) {c : List e.den → Mask → U → List Kill → List RName → Option R'}
  (h : takeDst rs e u av c = some r) :
  ∃ xs m u' k1 g1 C2 G, c xs m u' k1 g1 = some r ∧ m.isOwn = true ∧ Freed w C C2 (look rs u) (look rs u') k1 G ∧ Enc w C.θ C.Z C.S (.sl e) m xs [v] G ∧
   (∀ q, q ∉ av.names → lookU q u' = lookU q u) ∧ ∀ p ∈ ptrsOf (.sl e) xs, ∃ q x, look rs u q = some x ∧ p ∈ ptrsOf x.k x.d := by
 unfold takeDst at h
 split at h
 ·refine ⟨_, _, _, _, _, C, noB, h, rfl, .refl hM, .inr (.inl ⟨by simp, rfl, none, hv⟩), fun _ _ => rfl, fun p hp => by rw [ptrsOf_nil] at hp; cases hp⟩
 ·obtain ⟨a', hv⟩ := hv
  refine ⟨_, _, _, _, _, C, noB, h, rfl, .refl hM, .inr (.inl ⟨by simp, rfl, a', hv⟩), fun _ _ => rfl, fun p hp => by rw [ptrsOf_nil] at hp; cases hp⟩
 ·rename_i q p
  obtain ⟨v', hvv, hroot⟩ := hv
  simp only [List.cons.injEq, and_true] at hvv
  subst hvv
  split at h
  case h_1 => simp at h
  case h_2 x hx =>
  obtain ⟨e', base, g1, g2, g3⟩ := hroot x hx
  have gen : hasIdx p = false → takeIn q e u x p c = some r →
    ∃ xs m u' k1 g1 C2 G, c xs m u' k1 g1 = some r ∧ m.isOwn = true ∧ Freed w C C2 (look rs u) (look rs u') k1 G ∧ Enc w C.θ C.Z C.S (.sl e) m xs [v] G ∧
     (∀ q', q' ∉ (AV.ref q p).names → lookU q' u' = lookU q' u) ∧ ∀ p' ∈ ptrsOf (.sl e) xs, ∃ q x, look rs u q = some x ∧ p' ∈ ptrsOf x.k x.d := by
   intro hidx h
   unfold takeIn at h
   obtain ⟨k', d, m, vs, b1, hp, hc⟩ := place_get (hM.ok _ _ hx) h
   split at hc
   case isFalse => simp at hc
   case isTrue hk =>
   subst hk
   cases hown : m.isOwn with
   | false => simp [hown] at hc
   | true =>
   simp only [hown, cond_true] at hc
   obtain ⟨F, f1, f2, f3⟩ := hM.ok _ _ hx
   obtain ⟨d', m', F1, G, xs, ma, v1, t1, t2, t3, t4, t5, t6, t7, t8, t9, t10, t11⟩ := take_sound p hidx hc f1
   have hsame := t3 ((Σ k : K, k.den) × Mask) (fun k d m => some (⟨k, d⟩, m))
   rw [hp.get] at hsame
   simp only [Option.some.injEq, Prod.mk.injEq, Sigma.mk.injEq, heq_eq_eq, true_and] at hsame
   obtain ⟨rfl, rfl⟩ := hsame
   obtain ⟨b2, hb2⟩ := t9 (baseOf C q x)
   rw [g3] at hb2
   simp only [Option.some.injEq, Prod.mk.injEq, List.cons.injEq, and_true] at hb2
   obtain ⟨rfl, _⟩ := hb2
   have hθG : ∀ b, G b → x.mem = true → b ≠ C.θ q := by rintro b hb hm rfl; exact (f3 hm).1 (t6 _ hb)
   refine ⟨_, _, _, _, _, ⟨C.θ, C.ρ, fun q' => if q' = q then (fun b => F1 b ∨ (x.mem = true ∧ b = C.θ q)) else C.F q', C.Z, C.S⟩, G, t1, hown, ?_, t8, fun q' hq' => lookU_ne (by simpa [AV.names] using hq'), fun p hp' => ⟨q, x, hx, hp.ptrs p hp'⟩⟩
   have hlook : ∀ q' y, look rs ((q, some ⟨x.mem, x.k, m', d'⟩) :: u) q' = some y → (q' = q ∧ y = ⟨x.mem, x.k, m', d'⟩) ∨ (q' ≠ q ∧ look rs u q' = some y) := by
    intro q' y hy
    rw [look_cons] at hy
    split at hy
    ·exact .inl ⟨‹_›, by simpa using hy.symm⟩
    ·exact .inr ⟨‹_›, hy⟩
   have hsub : ∀ b, (F1 b ∨ (x.mem = true ∧ b = C.θ q)) → C.F q b := by
    rintro b (hb | ⟨hm, rfl⟩)
    ·exact f2 _ (t5 _ hb)
    ·exact (f3 hm).2.1
   have hFs : ∀ q' b, (if q' = q then (fun b => F1 b ∨ (x.mem = true ∧ b = C.θ q)) else C.F q') b → C.F q' b := by
    intro q' b hb
    split at hb
    ·rename_i hq; rw [hq]; exact hsub b hb
    ·exact hb
   have hwas : ∀ q' y, look rs ((q, some ⟨x.mem, x.k, m', d'⟩) :: u) q' = some y → ∃ z, look rs u q' = some z ∧ y.mem = z.mem ∧ ∀ p ∈ ptrsOf y.k y.d, p ∈ ptrsOf z.k z.d := by
    intro q' y hy
    rcases hlook q' y hy with ⟨rfl, rfl⟩ | ⟨_, h⟩
    ·exact ⟨x, hx, rfl, t10⟩
    ·exact ⟨y, h, rfl, fun _ h => h⟩
   refine ⟨rfl, rfl, rfl, rfl, ⟨?_, ?_, ?_, hM.ro, ?_⟩, ?_, ?_, ?_, ?_⟩
   ·intro q' y hy
    rcases hlook q' y hy with ⟨rfl, rfl⟩ | ⟨hne, h⟩
    ·refine ⟨F1, t4, fun b hb => by show (if q' = q' then _ else _ : BS) b; rw [if_pos rfl]; exact .inl hb, fun hm => ?_⟩
     obtain ⟨k1, k2, T, k3⟩ := f3 hm
     exact ⟨fun h => k1 (t5 _ h), by show (if q' = q' then _ else _ : BS) _; rw [if_pos rfl]; exact .inr ⟨hm, rfl⟩, T, k3⟩
    ·obtain ⟨G', k1, k2, k3⟩ := hM.ok q' y h
     refine ⟨G', k1, ?_, ?_⟩
     ·show Sub G' (if q' = q then _ else C.F q'); rw [if_neg hne]; exact k2
     ·show y.mem = true → _ ∧ (if q' = q then _ else C.F q' : BS) _ ∧ _; rw [if_neg hne]; exact k3
   ·intro r1 r2 y1 y2 h1 h2 hne b hb1 hb2
    obtain ⟨z1, hz1, _⟩ := hwas _ _ h1
    obtain ⟨z2, hz2, _⟩ := hwas _ _ h2
    exact hM.disj r1 r2 z1 z2 hz1 hz2 hne b (hFs _ _ hb1) (hFs _ _ hb2)
   ·intro r1 y b h1 hb
    obtain ⟨z1, hz1, _⟩ := hwas _ _ h1
    exact hM.apart r1 z1 b hz1 (hFs _ _ hb)
   ·intro r1 y h1 q2 hq2 y2 hy2
    obtain ⟨z1, hz1, _, h1p⟩ := hwas _ _ h1
    obtain ⟨z2, hz2, h2m, _⟩ := hwas _ _ hy2
    rw [h2m]; exact hM.ptr r1 z1 hz1 q2 (h1p _ hq2) z2 hz2
   ·refine leaf_vw ?_
    intro b vs hvw hl hh hvs
    have hplace : ∀ q' y p', look rs ((q, some ⟨x.mem, x.k, m', d'⟩) :: u) q' = some y → (q' = q → (under p p' && hasIdx p') = false) →
      ∀ k', (∀ z, look rs u q' = some z → z.k.at p' = some k' ∧ canGet z.k z.d z.m p') → ∃ z, look rs u q' = some z ∧ z.k = y.k ∧ z.mem = y.mem ∧ canGet y.k y.d y.m p' := by
     intro q' y p' hy hu k' hz
     rcases hlook q' y hy with ⟨rfl, rfl⟩ | ⟨hne, h⟩
     ·obtain ⟨z1, z2⟩ := hz x hx
      exact ⟨x, hx, rfl, rfl, t11 p' k' z1 z2 (hu rfl)⟩
     ·exact ⟨y, h, rfl, rfl, (hz y h).2⟩
    have hbase : ∀ q' (y z : Root), z.mem = y.mem → baseOf ⟨C.θ, C.ρ, fun q' => if q' = q then (fun b => F1 b ∨ (x.mem = true ∧ b = C.θ q)) else C.F q', C.Z, C.S⟩ q' y = baseOf C q' z := by
     intro q' y z hm; unfold baseOf; rw [hm]
    have hat : ∀ q' p', (Kill.at q p).hits (.ref q' p') = false → q' = q → under p p' = false := by
     rintro q' p' hh rfl
     simp only [Kill.hits, req_iff.2 rfl, Bool.true_and] at hh
     exact hh
    simp only [hit, List.any_cons, List.any_nil, Bool.or_false] at hh
    cases b with
    | ptr q' p' =>
     obtain ⟨b, off, rfl, h0, hr⟩ := hvs
     refine ⟨b, off, rfl, h0, fun y hy => ?_⟩
     have hu : q' = q → (under p p' && hasIdx p') = false := by
      rintro rfl
      simp only [Kill.hits, req_iff.2 rfl, Bool.true_and] at hh
      exact hh
     have hex : ∃ z, look rs u q' = some z := by obtain ⟨z, hz, _⟩ := hwas _ _ hy; exact ⟨z, hz⟩
     obtain ⟨z0, hz0⟩ := hex
     obtain ⟨k', cs, r1, r2, r3⟩ := hr z0 hz0
     obtain ⟨z, hz, e1, e2, e3⟩ := hplace q' y p' hy hu k' (fun z hz => by rw [hz0] at hz; cases hz; exact ⟨r1, r2⟩)
     rw [hz0] at hz; cases hz
     exact ⟨k', cs, by rw [← e1]; exact r1, e3, by rw [hbase q' y z0 e2, ← e1]; exact r3⟩
    | ref q' p' =>
     obtain ⟨v, rfl, hr⟩ := hvs
     refine ⟨v, rfl, fun y hy => ?_⟩
     have hu : q' = q → (under p p' && hasIdx p') = false := fun hq => by rw [hat q' p' hh hq]; rfl
     obtain ⟨z0, hz0, _⟩ := hwas _ _ hy
     obtain ⟨e2, base2, r1, r2, r3⟩ := hr z0 hz0
     obtain ⟨z, hz, e1, e2', e3⟩ := hplace q' y p' hy hu _ (fun z hz => by rw [hz0] at hz; cases hz; exact ⟨r1, r2⟩)
     rw [hz0] at hz; cases hz
     exact ⟨e2, base2, by rw [← e1]; exact r1, e3, by rw [hbase q' y z0 e2', ← e1]; exact r3⟩
    | slc q' p' lo k0 =>
     obtain ⟨v, v0, rfl, hr⟩ := hvs
     refine ⟨v, v0, rfl, fun y hy => ?_⟩
     have hu : q' = q → (under p p' && hasIdx p') = false := fun hq => by
      rw [hat q' p' (by simpa [Kill.hits] using hh) hq]; rfl
     obtain ⟨z0, hz0, _⟩ := hwas _ _ hy
     obtain ⟨e2, base2, r1, r2, r3, r4⟩ := hr z0 hz0
     obtain ⟨z, hz, e1, e2', e3⟩ := hplace q' y p' hy hu _ (fun z hz => by rw [hz0] at hz; cases hz; exact ⟨r1, r2⟩)
     rw [hz0] at hz; cases hz
     exact ⟨e2, base2, by rw [← e1]; exact r1, e3, by rw [hbase q' y z0 e2', ← e1]; exact r3, r4⟩
    | fn f caps =>
     refine ⟨hvs.1, fun q' hq' y hy => ?_⟩
     obtain ⟨z0, hz0, hm0, _⟩ := hwas _ _ hy
     rw [hm0]; exact hvs.2 q' hq' z0 hz0
    | vw _ _ _ => simp [AV.isVw] at hvw
    | pair _ _ => simp [AV.isLeaf] at hl
    | tcons _ _ => simp [AV.isLeaf] at hl
    | dead => trivial
    | imm => exact hvs
    | nil => exact hvs
    | emp => exact hvs
    | nilp => exact hvs
    | iptr => exact hvs
    | nn => exact hvs
    | tnil => exact hvs
   ·intro q' y hy
    rcases hlook q' y hy with ⟨rfl, rfl⟩ | ⟨hne, h⟩
    ·exact ⟨x, hx, fun b hb => hFs q' b hb, rfl, t10⟩
    ·exact ⟨y, h, fun b hb => hFs q' b hb, rfl, fun _ h => h⟩
   ·intro b hb; exact ⟨q, x, hx, f2 _ (t6 _ hb)⟩
   ·intro q' y hy b hb hf
    rcases hlook q' y hy with ⟨rfl, rfl⟩ | ⟨hne, h⟩
    ·have hf' : (if q' = q' then (fun b => F1 b ∨ (x.mem = true ∧ b = C.θ q')) else C.F q' : BS) b := hf
     rw [if_pos rfl] at hf'
     rcases hf' with hf' | ⟨hm, rfl⟩
     ·exact t7 b hf' hb
     ·exact hθG _ hb hm rfl
    ·exact hM.disj q' q y x h hx hne b (hFs q' b hf) (f2 _ (t6 _ hb))
  split at h
  case h_1 =>
   cases hmem0 : (x.mem || Nat.beq q.1 0) with
   | true => rw [hmem0] at h; exact gen rfl h
   | false =>
   have hmem : x.mem = false := (Bool.or_eq_false_iff.1 hmem0).1
   simp only [hmem0, cond_false] at h
   split at h
   case isFalse => simp at h
   case isTrue hk =>
   cases hown : x.m.isOwn with
   | false => simp [hown] at h
   | true =>
   simp only [hown, cond_true] at h
   obtain ⟨xmem, xk, xm, xd⟩ := x
   simp only at hk hmem hown h g1 g2 g3
   subst hk
   rw [locv_nil] at g3
   simp only [Option.some.injEq, Prod.mk.injEq] at g3
   obtain ⟨F, f1, f2, _⟩ := hM.ok _ _ hx
   refine ⟨_, _, _, _, _, C, FU C [q], h, hown, ?_, ?_, fun q' hq' => lookU_ne (by simpa [AV.names] using hq'), fun p hp => ⟨q, _, hx, hp⟩⟩
   ·refine Freed.ofs hM (e := [q]) (by simp [hx]) (fun q' => ?_)
    rw [look_cons]; simp
   ·rw [g3.1] at f1
    exact f1.mono (.refl _) (.refl _) (fun b hb => ⟨q, by simp, f2 b hb⟩) (fun _ _ => rfl) (fun _ _ => rfl)
  case h_2 =>
   cases hidx : hasIdx p with
   | true => simp [hidx] at h
   | false =>
   simp only [hidx, cond_false] at h
   exact gen hidx h
 ·rename_i q lo k0
  obtain ⟨v', v0, hvv, hroot⟩ := hv
  simp only [List.cons.injEq, and_true] at hvv
  subst hvv
  split at h
  case h_1 => simp at h
  case h_2 x hx =>
  obtain ⟨e', base, g1, g2, g3, g4⟩ := hroot x hx
  cases hmem : x.mem with
  | true => simp [hmem] at h
  | false =>
  simp only [hmem, cond_false] at h
  split at h
  case isFalse => simp at h
  case isTrue hk =>
  cases hown : x.m.isOwn with
  | false => simp [hown] at h
  | true =>
  simp only [hown, cond_true] at h
  obtain ⟨xmem, xk, xm, xd⟩ := x
  simp only at hk hmem hown h g1 g2 g3
  subst hk
  rw [locv_nil] at g3
  simp only [Option.some.injEq, Prod.mk.injEq] at g3
  rw [at_nil] at g1
  simp only [Option.some.injEq, K.sl.injEq] at g1
  subst g1
  obtain ⟨F, f1, f2, _⟩ := hM.ok _ _ hx
  refine ⟨_, _, _, _, _, C, FU C [q], h, hown, ?_, ?_, fun q' hq' => lookU_ne (by simpa [AV.names] using hq'), fun p hp => ⟨q, _, hx, ptrsOf_part hp⟩⟩
  ·refine Freed.ofs hM (e := [q]) (by simp [hx]) (fun q' => ?_)
   rw [look_cons]; simp
  ·rw [g3.1] at f1
   have hne : xm ≠ .gone := by rintro rfl; simp [Mask.isOwn] at hown
   exact (enc_slc f1 hne g4).mono (.refl _) (.refl _) (fun b hb => ⟨q, by simp, f2 b hb⟩) (fun _ _ => rfl) (fun _ _ => rfl)
 ·simp at h
theorem Freed.free {C1 : Ctx} {rs rs1 : RF} {ks : List Kill} {G : BS} (hM : Mem w C rs) (h : Freed w C C1 rs rs1 ks G) {b : Nat} (hb : G b) : ¬ C.Z b ∧ ¬ C.S b ∧ b < w.heap.size := by
 obtain ⟨r, y, h1, h2⟩ := h.gfoot b hb
 exact hM.apart r y b h1 h2
theorem Rel.fresh2 (R : Rel w0 M0 n C0 C s a w) {d : Nat} (hd : d < n) {x : Del} (hal : allowed s (some d) x = true) (hren : x.ren = none) (hmk : x.make = true)
  {C1 : Ctx} {u' : U} {G : BS} (Fd : Freed w C C1 s.roots (look s.roots u') x.kills G) {y0 : Root} (hu : x.u = (loc d 0, some y0) :: u')
  {v : Value} {w' : World} {b0 : Nat} {vs0 : List Value} {F0 : BS} (hkept : Keeps M0 w0 w') (hsz : w.heap.size ≤ w'.heap.size)
  (hblk : ∀ b, b < w.heap.size → ¬ G b → w'.heap[b]? = w.heap[b]?) (hF0 : ∀ b, F0 b → G b ∨ w.heap.size ≤ b) (hF1 : ∀ b, F0 b → b < w'.heap.size)
  (hok' : ∃ G', Enc w' C.θ C.Z C.S y0.k y0.m y0.d vs0 G' ∧ Sub G' F0 ∧ (y0.mem = true → ¬ G' b0 ∧ F0 b0 ∧ ∃ T, w'.heap[b0]? = some (.cells vs0.toArray T (0, 0))))
  (hptr : ∀ q ∈ ptrsOf y0.k y0.d, q ∈ x.pins ∨ ∃ r' z, s.roots r' = some z ∧ q ∈ ptrsOf z.k z.d) (hpm : ∀ q ∈ x.pins, ∀ y, s.roots q = some y → y.mem = true)
  (hav : ∀ rs', rs' (loc d 0) = some y0 → (∀ q y, q ≠ loc d 0 → rs' q = some y → look s.roots u' q = some y) → VRel w' (C1.with (loc d 0) b0 vs0 F0) rs' v x.v) :
  Rel w0 M0 n C0 (C1.with (loc d 0) b0 vs0 F0) (s.after (some d) x) (a.put (some d) v) w' := by
 have hpin : s.pins (d + 2) = false ∧ ∀ q ∈ x.pins, q.1 ≠ d + 2 := by
  unfold allowed at hal
  simp only [hmk, Bool.not_true, Bool.false_and, Bool.false_or, Bool.and_eq_true, Bool.not_eq_true', List.any_eq_false] at hal
  exact ⟨hal.1, fun q hq he => hal.2 q hq (beq_iff.2 he.symm)⟩
 have hroots : ∀ q y, (s.after (some d) x).roots q = some y → (q = loc d 0 ∧ y = y0) ∨ (q ≠ loc d 0 ∧ look s.roots u' q = some y) := by
  intro q y hq
  simp only [St.after, hu, lookU] at hq
  by_cases h0 : q = loc d 0
  ·rw [req_iff.2 h0] at hq; exact .inl ⟨h0, (Option.some.inj hq).symm⟩
  ·rw [req_ne h0] at hq
   simp only [cond_false] at hq
   refine .inr ⟨h0, ?_⟩
   unfold look
   cases hl : lookU q u' with
   | some y' => rw [hl] at hq; exact hq
   | none =>
    rw [hl] at hq
    simp only at hq ⊢
    cases hb : (x.make && Nat.beq q.1 ((some d).getD 0 + 2)) with
    | true => rw [hb] at hq; cases hq
    | false => rw [hb] at hq; exact hq
 have hnew : (s.after (some d) x).roots (loc d 0) = some y0 := by simp only [St.after, hu, lookU, req_iff.2 rfl, cond_true]
 have hkeepB : ∀ r y b, look s.roots u' r = some y → C1.F r b → w'.heap[b]? = w.heap[b]? := by
  intro r y b hy hb
  exact hblk b (Fd.mem.apart r y b hy hb).2.2 (fun hg => Fd.gdisj r y hy b hg hb)
 have hkeepZ : ∀ b, C1.Z b ∨ C1.S b → w'.heap[b]? = w.heap[b]? := by
  intro b hb
  rw [Fd.Z, Fd.S] at hb
  refine hblk b (R.mem.ro b hb) fun hg => ?_
  have := Fd.free R.mem hg
  exact hb.elim this.1 this.2.1
 have hpq : ∀ r y, look s.roots u' r = some y → ∀ q ∈ ptrsOf y.k y.d, q.1 ≠ d + 2 := by
  intro r y hy q hq he
  obtain ⟨z, hz, _, _, hzp⟩ := Fd.was r y hy
  have := R.pins r z hz q (hzp q hq) (by omega)
  rw [he, hpin.1] at this; cases this
 have hpq0 : ∀ q ∈ ptrsOf y0.k y0.d, q.1 ≠ d + 2 := by
  intro q hq
  rcases hptr q hq with h | ⟨r', z, hz, h⟩
  ·exact hpin.2 q h
  ·intro he
   have := R.pins r' z hz q h (by omega)
   rw [he, hpin.1] at this; cases this
 have hne : ∀ q : RName, q.1 ≠ d + 2 → q ≠ loc d 0 := by rintro q h rfl; exact h rfl
 have hok : RootOK w' (C1.with (loc d 0) b0 vs0 F0) (loc d 0) y0 := by
  obtain ⟨G', g1, g2, g3⟩ := hok'
  refine ⟨G', ?_, by rw [Ctx.with_F0]; exact g2, fun hm => ?_⟩
  ·rw [Ctx.with_ρ0]
   show Enc w' _ C1.Z C1.S _ _ _ _ _
   rw [Fd.Z, Fd.S]
   exact g1.mono (.refl _) (.refl _) (.refl _) (fun _ _ => rfl) (fun q hq => by rw [Ctx.with_θ (hne q (hpq0 q hq)), Fd.θ])
  ·rw [Ctx.with_θ0, Ctx.with_F0, Ctx.with_ρ0]; exact g3 hm
 refine R.put (fun d' h => by cases h; exact hd) hren ⟨fun b hb => (show C1.Z b by rw [Fd.Z]; exact R.ext.Z b hb), Fd.S.trans R.ext.S, fun i => ?_⟩ ⟨?_, ?_, ?_, ?_, ?_⟩ ?_ ?_ hkept ?_ ?_ ?_ (fun b hb => R.zn b (by rw [← Fd.Z]; exact hb))
 ·rw [Ctx.with_θ (by intro h; cases h), Fd.θ]; exact R.ext.θ i
 ·intro r y hr
  rcases hroots r y hr with ⟨rfl, rfl⟩ | ⟨h1, h4⟩
  ·exact hok
  ·refine (Fd.mem.ok r y h4).keep rfl rfl (Ctx.with_θ h1) (Ctx.with_ρ h1) (Ctx.with_F h1) (fun q hq => Ctx.with_θ (hne q (hpq r y h4 q hq))) ?_
   intro b hb
   rcases hb with hb | hb
   ·exact hkeepB r y b h4 hb
   ·exact hkeepZ b hb
 ·intro r r' y y' hr hr' hrr
  have side : ∀ r y, r ≠ loc d 0 → look s.roots u' r = some y → Disj F0 (C1.F r) := by
   intro r y h1 h4 b hb hb'
   rcases hF0 b hb with hb2 | hb2
   ·exact Fd.gdisj r y h4 b hb2 hb'
   ·have := (Fd.mem.apart r y b h4 hb').2.2; omega
  rcases hroots r y hr with ⟨rfl, rfl⟩ | ⟨h1, h4⟩ <;> rcases hroots r' y' hr' with ⟨rfl, rfl⟩ | ⟨g1, g4⟩
  ·exact absurd rfl hrr
  ·rw [Ctx.with_F0, Ctx.with_F g1]; exact side r' y' g1 g4
  ·rw [Ctx.with_F0, Ctx.with_F h1]; exact (side r y h1 h4).symm
  ·rw [Ctx.with_F h1, Ctx.with_F g1]; exact Fd.mem.disj r r' y y' h4 g4 hrr
 ·intro r y b hr hb
  show ¬ C1.Z b ∧ ¬ C1.S b ∧ _
  rcases hroots r y hr with ⟨rfl, rfl⟩ | ⟨h1, h4⟩
  ·rw [Ctx.with_F0] at hb
   rw [Fd.Z, Fd.S]
   rcases hF0 b hb with hb2 | hb2
   ·have := Fd.free R.mem hb2
    exact ⟨this.1, this.2.1, hF1 b hb⟩
   ·exact ⟨fun h => by have := R.mem.ro b (.inl h); omega, fun h => by have := R.mem.ro b (.inr h); omega, hF1 b hb⟩
  ·rw [Ctx.with_F h1] at hb
   have := Fd.mem.apart r y b h4 hb
   exact ⟨this.1, this.2.1, by omega⟩
 ·intro b hb
  have hb' : C1.Z b ∨ C1.S b := hb
  rw [Fd.Z, Fd.S] at hb'
  have := R.mem.ro b hb'; omega
 ·intro r y hr q hq z hz
  have hq1 : q.1 ≠ d + 2 := by
   rcases hroots r y hr with ⟨rfl, rfl⟩ | ⟨h1, h4⟩
   ·exact hpq0 q hq
   ·exact hpq r y h4 q hq
  rcases hroots q z hz with ⟨rfl, _⟩ | ⟨_, hz'⟩
  ·exact absurd rfl hq1
  ·rcases hroots r y hr with ⟨rfl, rfl⟩ | ⟨h1, h4⟩
   ·obtain ⟨z2, hz2, _, hzm, _⟩ := Fd.was q z hz'
    rw [hzm]
    rcases hptr q hq with h | ⟨r', z', hz3, h⟩
    ·exact hpm q h z2 hz2
    ·exact R.mem.ptr r' z' hz3 q h z2 hz2
   ·exact Fd.mem.ptr r y h4 q hq z hz'
 ·intro b vs hl hh hb
  simp only [killList, hmk, cond_true, Option.getD_some, hit, List.any_cons, Bool.or_eq_false_iff] at hh
  have hn1 := hit_dst hl hh.1
  refine leaf_keep (C' := C1.with (loc d 0) b0 vs0 F0) Fd.mem (fun q => q.1 = d + 2) rfl rfl (fun q hq => Ctx.with_θ (hne q hq)) (fun q hq => Ctx.with_ρ (hne q hq)) ?_ ?_ hl hn1 (Fd.leaf b vs hl hh.2 hb)
  ·intro q y hq hy
   rcases hroots q y hy with ⟨rfl, _⟩ | ⟨_, h⟩
   ·exact absurd rfl hq
   ·exact h
  ·intro b' hb'
   rcases hb' with hb' | hb' | ⟨q, y, hq, hy, hb'⟩
   ·exact hkeepZ b' (.inl hb')
   ·exact hkeepZ b' (.inr hb')
   ·exact hkeepB q y b' hy hb'
 ·intro d' hd'
  exact hav _ hnew fun q y hne hy => (hroots q y hy).elim (fun h => absurd h.1 hne) fun h => h.2
 ·intro r y b hr hb
  rcases hroots r y hr with ⟨rfl, rfl⟩ | ⟨h1, h4⟩
  ·rw [Ctx.with_F0] at hb
   rcases hF0 b hb with hb2 | hb2
   ·obtain ⟨r2, y2, hy2, hb3⟩ := Fd.gfoot b hb2
    exact R.foot r2 y2 b hy2 hb3
   ·exact .inl (Nat.le_trans R.kept.size hb2)
  ·rw [Ctx.with_F h1] at hb
   obtain ⟨z, hz, hzs, _⟩ := Fd.was r y h4
   exact R.foot r z b hz (hzs b hb)
 ·intro r y hr q hq h2
  simp only [St.after, Bool.or_eq_true, List.any_eq_true]
  rcases hroots r y hr with ⟨rfl, rfl⟩ | ⟨h1, h4⟩
  ·rcases hptr q hq with h | ⟨r', z, hz, h⟩
   ·exact .inr ⟨q, h, beq_iff.2 rfl⟩
   ·exact .inl (R.pins r' z hz q h h2)
  ·obtain ⟨z, hz, _, _, hzp⟩ := Fd.was r y h4
   exact .inl (R.pins r z hz q (hzp q hq) h2)
 ·intro i y hi hm
  rcases hroots _ y hi with ⟨h, _⟩ | ⟨h1, h4⟩
  ·cases h
  ·obtain ⟨z, hz, _, hzm, _⟩ := Fd.was _ y h4
   rw [Ctx.with_ρ h1, Fd.ρ]
   exact R.parρ i z hz (by rw [← hzm]; exact hm)
theorem Rel.fresh (R : Rel w0 M0 n C0 C s a w) {d : Nat} (hd : d < n) {x : Del} (hal : allowed s (some d) x = true) (hren : x.ren = none) (hmk : x.make = true)
  {C1 : Ctx} {u' : U} {G : BS} (Fd : Freed w C C1 s.roots (look s.roots u') x.kills G) {y0 : Root} (hu : x.u = (loc d 0, some y0) :: u')
  {v : Value} {w' : World} {b0 : Nat} {vs0 : List Value} {F0 : BS} (hkept : Keeps M0 w0 w') (hsz : w.heap.size ≤ w'.heap.size)
  (hblk : ∀ b, b < w.heap.size → ¬ G b → w'.heap[b]? = w.heap[b]?) (hF0 : ∀ b, F0 b → G b ∨ w.heap.size ≤ b) (hF1 : ∀ b, F0 b → b < w'.heap.size)
  (hok' : ∃ G', Enc w' C.θ C.Z C.S y0.k y0.m y0.d vs0 G' ∧ Sub G' F0 ∧ (y0.mem = true → ¬ G' b0 ∧ F0 b0 ∧ ∃ T, w'.heap[b0]? = some (.cells vs0.toArray T (0, 0))))
  (hptr : ∀ q ∈ ptrsOf y0.k y0.d, q ∈ x.pins ∨ ∃ r' z, s.roots r' = some z ∧ q ∈ ptrsOf z.k z.d) (hpm : ∀ q ∈ x.pins, ∀ y, s.roots q = some y → y.mem = true)
  (hav : ∀ rs', rs' (loc d 0) = some y0 → VRel w' (C1.with (loc d 0) b0 vs0 F0) rs' v x.v) :
  Rel w0 M0 n C0 (C1.with (loc d 0) b0 vs0 F0) (s.after (some d) x) (a.put (some d) v) w' :=
 R.fresh2 hd hal hren hmk Fd hu hkept hsz hblk hF0 hF1 hok' hptr hpm fun rs' h _ => hav rs' h
theorem Absorbed.freed {rs : RF} (hM : Mem w C rs) {k : K} {d : k.den} {m : Mask} {vs : List Value} {u' : U} {e q : List RName} {F : BS} (A : Absorbed w C rs [] k d m vs u' e q F) :
  Freed w C C rs (look rs u') (ofs e) (FU C e) := by
 refine Freed.ofs hM (fun q hq => by obtain ⟨y, hy, _⟩ := A.was q hq; exact ⟨y, hy⟩) (fun q => ?_)
 unfold look
 rw [A.ended]
 by_cases h : q ∈ e
 ·rw [if_pos h, if_pos h]
 ·rw [if_neg h, if_neg h]; rfl
variable {c : Del → Option R'} {r : R'}
theorem does_new (R : Rel w0 M0 n C0 C s a w) {k : K} {dd : k.den} {m : Mask} {u' : U} {e q : List RName} {F : BS} {vs : List Value} {T : TypeId} {rd : List RName}
  (A : Absorbed w C s.roots [] k dd m vs u' e q F)
  (hr : (execOp a.eval o).run P w = .ok (.value (.pointer (some ⟨w.heap.size, 0, none⟩))) (World.push w (.cells vs.toArray T))) :
  Does P w0 M0 n C0 s a w o ⟨.ptr (loc (o.dst.getD 0) 0) [], (loc (o.dst.getD 0) 0, some ⟨true, k, m, dd⟩) :: u', true, ofs e, q, none, rd, e, false⟩ := by
 intro hd hal next Q hn
 obtain ⟨d, hdst⟩ := dst_some hal rfl
 unfold Oper.wp
 rw [hr]
 show next (a.put o.dst _) _
 rw [hdst] at hal hn ⊢
 simp only [Option.getD_some] at hal hn ⊢
 have Fd := A.freed R.mem
 refine hn _ _ _ (R.fresh (hd d hdst) hal rfl rfl Fd (y0 := ⟨true, k, m, dd⟩) rfl
  (w' := World.push w (.cells vs.toArray T)) (b0 := w.heap.size) (vs0 := vs) (F0 := fun b => F b ∨ b = w.heap.size) (R.kept.push _) (by rw [push_size]; omega) (fun b hb _ => push_old _ _ hb) ?_ ?_ ?_ ?_ A.pmem ?_)
 ·rintro b (hb | hb)
  ·exact .inl (A.sub b hb)
  ·exact .inr (by omega)
 ·rintro b (hb | hb)
  ·have := (Fd.free R.mem (A.sub b hb)).2.2; rw [push_size]; omega
  ·rw [push_size]; omega
 ·refine ⟨F, ?_, fun _ h => .inl h, fun _ => ⟨fun h => ?_, .inr rfl, T, push_new _ _⟩⟩
  ·refine A.enc.mono (.refl _) (.refl _) (.refl _) (fun b hb => push_old _ _ ?_) (fun _ _ => rfl)
   rcases hb with hb | hb
   ·exact (Fd.free R.mem (A.sub b hb)).2.2
   ·exact R.mem.ro b hb
  ·have := (Fd.free R.mem (A.sub _ h)).2.2; omega
 ·intro q' hq'
  exact (A.ptrs q' hq').imp id (fun ⟨r', _, z, hz, h⟩ => ⟨r', z, hz, h⟩)
 ·intro rs' hrs
  refine VRel.mk ⟨w.heap.size, 0, rfl, fun _ => ⟨by rw [Ctx.with_θ0], rfl⟩, fun y hy => ?_⟩ rfl rfl
  rw [hrs] at hy; cases hy
  exact ⟨k, vs, at_nil _, canGet_nil _ _ _, by rw [locv_nil, Ctx.with_ρ0]; unfold baseOf; rw [if_pos rfl, Ctx.with_θ0]⟩
theorem does_alloc (hT : TysOK P V) (R : Rel w0 M0 n C0 C s a w) {t : TypeId} (ho : o.op = .alloc t) (h : denOp V o s.tmps s.roots c = some r) :
  ∃ x, c x = some r ∧ Does P w0 M0 n C0 s a w o x := by
 simp only [denOp, ho] at h
 split at h
 case h_2 => simp at h
 case h_1 k hk =>
 obtain ⟨ti, hti, rfl⟩ := Env.k_ti hk
 obtain ⟨i, z, hi, hs, hb, hz, hzc⟩ := (hT.ty _ _ hti).info
 refine ⟨_, h, does_new (T := t) R (vs := ti.k.zeroCells) (u' := []) (F := noB) (e := []) (q := []) ⟨Enc.zero, fun _ x => x.elim, fun r => by simp [lookU], by simp, ?_, by simp⟩ ?_⟩
 ·intro q hq
  have key : ∀ (k : K), ptrsOf k k.zero = [] := by
   intro k
   induction k with
   | pair a b iha ihb => simp [ptrsOf, K.zero, iha, ihb]
   | sl e _ => simp only [ptrsOf, K.zero]; cases e.plain <;> rfl
   | _ => rfl
  rw [key] at hq; cases hq
 ·have : z.cells = ti.k.zeroCells.toArray := by apply Array.ext'; rw [hzc]
  simp only [execOp, ho, Instr.alloc, Sem.run_bind, run_zeroValue_of hi hz, Result.andThen_ok, newVar, newRow, run_newObj, Sem.run_pure, this]
  rfl
theorem viewAt_sound {rs : RF} : ∀ (av : AV) {k : K} {vs : List Value} {y : k.den × Mask}, viewAt av k = some y → AVC w C rs av vs →
  Enc w C.θ C.Z C.S k y.2 y.1 vs noB ∧ ptrsOf k y.1 = [] ∧ ∀ (p0 : Path) e, e ∈ linksOf av p0 → ∃ rel u kk, e.1 = p0 ++ rel ∧ hasIdx rel = false ∧ k.at rel = some (.sl kk) ∧
   (∀ base0, ∃ b1, locv w k vs base0 rel = some ([u], b1)) ∧ AVC w C rs (.ref (par e.2.1) e.2.2) [u] := by
 intro av
 induction av with
 | imm z k' d =>
  intro k vs y h hv
  have h' : (if h : k' = k then some (h ▸ d, Mask.ro k z) else none) = some y := by cases k <;> exact h
  split at h'
  case isFalse => cases h'
  case isTrue hk =>
  subst hk
  cases h'
  refine ⟨?_, ptrsOf_plain d hv.1, fun p0 e he => by simp [linksOf] at he⟩
  unfold Mask.ro
  cases hf : k'.flat with
  | true => exact Enc.flat hf hv.2
  | false => exact hv.2
 | pair a b iha ihb =>
  intro k vs y h hv
  cases k with
  | pair ka kb =>
   simp only [viewAt] at h
   split at h
   case h_2 => cases h
   case h_1 x1 x2 e1 e2 =>
   cases h
   obtain ⟨v1, v2, rfl, h1, h2⟩ := hv
   obtain ⟨i1, i2, i3⟩ := iha e1 h1
   obtain ⟨j1, j2, j3⟩ := ihb e2 h2
   refine ⟨⟨v1, v2, noB, noB, rfl, .refl _, .refl _, fun _ h _ => h, by rw [mkPair_fst']; exact i1, by rw [mkPair_snd']; exact j1⟩, by simp [ptrsOf, i2, j2], fun p0 e he => ?_⟩
   simp only [linksOf, List.mem_append] at he
   rcases he with he | he
   ·obtain ⟨rel, u, kk, g1, g2, g3, g4, g5⟩ := i3 _ e he
    refine ⟨.fst :: rel, u, kk, by rw [g1]; simp, by simpa [hasIdx] using g2, g3, fun base0 => ?_, g5⟩
    obtain ⟨b1, hb1⟩ := g4 base0
    refine ⟨b1, ?_⟩
    show locv w ka ((v1 ++ v2).take ka.size) base0 rel = _
    rw [← i1.len, List.take_left]; exact hb1
   ·obtain ⟨rel, u, kk, g1, g2, g3, g4, g5⟩ := j3 _ e he
    refine ⟨.snd :: rel, u, kk, by rw [g1]; simp, by simpa [hasIdx] using g2, g3, fun base0 => ?_, g5⟩
    obtain ⟨b1, hb1⟩ := g4 (base0.map fun x => (x.1, x.2 + ka.size))
    refine ⟨b1, ?_⟩
    show locv w kb ((v1 ++ v2).drop ka.size) (base0.map fun x => (x.1, x.2 + ka.size)) rel = _
    rw [← i1.len, List.drop_left, i1.len]; exact hb1
  | _ => simp [viewAt] at h
 | ref q p =>
  intro k vs y h hv
  obtain ⟨q1, q2⟩ := q
  cases q1 with
  | zero =>
   cases k with
   | sl e =>
    simp only [viewAt, Option.some.injEq] at h
    subst h
    have hv' := hv
    obtain ⟨v, rfl, _⟩ := hv
    refine ⟨.inl ⟨rfl, v, rfl⟩, ptrsOf_nil e, fun p0 e' he => ?_⟩
    simp only [linksOf, List.mem_singleton] at he
    subst he
    exact ⟨[], v, e, by simp, rfl, rfl, fun base0 => ⟨base0, rfl⟩, hv'⟩
   | _ => simp [viewAt] at h
  | succ => cases k <;> simp [viewAt] at h
 | _ => intro k vs y h hv; cases k <;> simp [viewAt] at h
theorem does_view (R : Rel w0 M0 n C0 C s a w) {k : K} {y : k.den × Mask} {av : AV} {vs : List Value} {T : TypeId} {rd : List RName} (hy : viewAt av k = some y) (hA : AVC w C s.roots av vs)
  (hr : (execOp a.eval o).run P w = .ok (.value (.pointer (some ⟨w.heap.size, 0, none⟩))) (World.push w (.cells vs.toArray T))) :
  Does P w0 M0 n C0 s a w o ⟨.vw (loc (o.dst.getD 0) 0) [] (linksOf av []), [(loc (o.dst.getD 0) 0, some ⟨true, k, y.2, y.1⟩)], true, [], [], none, rd, [], false⟩ := by
 intro hd hal next Q hn
 obtain ⟨d, hdst⟩ := dst_some hal rfl
 unfold Oper.wp
 rw [hr]
 show next (a.put o.dst _) _
 rw [hdst] at hal hn ⊢
 simp only [Option.getD_some] at hal hn ⊢
 obtain ⟨hE, hP, hL⟩ := viewAt_sound av hy hA
 refine hn _ _ _ (R.fresh2 (hd d hdst) hal rfl rfl (Freed.refl R.mem) (y0 := ⟨true, k, y.2, y.1⟩) (u' := []) rfl
  (w' := World.push w (.cells vs.toArray T)) (b0 := w.heap.size) (vs0 := vs) (F0 := fun b => b = w.heap.size) (R.kept.push _) (by rw [push_size]; omega) (fun b hb _ => push_old _ _ hb) ?_ ?_ ?_ ?_ (fun q hq => by cases hq) ?_)
 ·intro b hb; exact .inr (by omega)
 ·intro b hb; rw [push_size]; omega
 ·refine ⟨noB, ?_, fun _ h => h.elim, fun _ => ⟨fun h => h, rfl, T, push_new _ _⟩⟩
  refine hE.mono (.refl _) (.refl _) (.refl _) (fun b hb => push_old _ _ ?_) (fun _ _ => rfl)
  rcases hb with hb | hb
  ·exact hb.elim
  ·exact R.mem.ro b hb
 ·intro q' hq'
  simp only [hP] at hq'
  cases hq'
 ·intro rs' hrs hrs2
  refine VRel.mk ⟨⟨w.heap.size, 0, rfl, fun _ => ⟨by rw [Ctx.with_θ0], rfl⟩, fun y hy => ?_⟩, fun e he => ?_⟩ rfl rfl
  ·rw [hrs] at hy; cases hy
   exact ⟨k, vs, at_nil _, canGet_nil _ _ _, by rw [locv_nil, Ctx.with_ρ0]; unfold baseOf; rw [if_pos rfl, Ctx.with_θ0]⟩
  ·obtain ⟨rel, u, kk, g1, g2, g3, g4, g5⟩ := hL [] e he
   rw [List.nil_append] at g1
   refine ⟨u, ⟨u, rfl, fun x hx => ?_⟩, ?_⟩
   ·rw [hrs] at hx; cases hx
    obtain ⟨b1, hb1⟩ := g4 (baseOf (C.with (loc d 0) w.heap.size vs fun b => b = w.heap.size) (loc d 0) ⟨true, k, y.2, y.1⟩)
    refine ⟨kk, b1, by rw [List.nil_append, g1]; exact g3, by rw [List.nil_append, g1]; exact canGet_noidx rel g2 g3, ?_⟩
    rw [List.nil_append, g1, Ctx.with_ρ0]
    rw [← hb1]
    obtain ⟨o1, ho1⟩ := locv_noidx rel g2 g3
    rw [(ho1 _ _ _ hE.len).1, (ho1 _ _ _ hE.len).1]
   ·refine leaf_keep (C' := C.with (loc d 0) w.heap.size vs fun b => b = w.heap.size) (av := .ref (par e.2.1) e.2.2) R.mem (fun q => q = loc d 0) rfl rfl (fun q hq => Ctx.with_θ hq) (fun q hq => Ctx.with_ρ hq) (fun q y hq hy => hrs2 q y hq hy) ?_ rfl (fun q hq h => ?_) g5
    ·intro b hb
     refine push_old _ _ ?_
     rcases hb with hb | hb | ⟨q, y, _, hy, hb⟩
     ·exact R.mem.ro b (.inl hb)
     ·exact R.mem.ro b (.inr hb)
     ·exact (R.mem.apart q y b hy hb).2.2
    ·simp only [AV.names, List.mem_singleton] at hq
     rw [hq] at h
     simp at h
theorem does_box (R : Rel w0 M0 n C0 C s a w) {t : TypeId} {y : Operand} (ho : o.op = .box t y) (h : denOp V o s.tmps s.roots c = some r) :
  ∃ x, c x = some r ∧ Does P w0 M0 n C0 s a w o x := by
 simp only [denOp, ho] at h
 split at h
 case h_2 => simp at h
 case h_1 k hk =>
 have hx := R.eval y
 split at h
 ·rename_i yy hyy
  have hva : viewAt (evalAV s.tmps y) k = some yy := by
   unfold viewOf at hyy
   cases hp : (evalAV s.tmps y).hasPar with
   | true => rw [hp] at hyy; exact hyy
   | false => rw [hp] at hyy; cases hyy
  obtain ⟨hA⟩ : Nonempty (AVC w C s.roots (evalAV s.tmps y) (a.eval y).cells.toList) := by
   rcases hx with (hd | ⟨_, vs, hv, hx⟩ | ⟨_, hx, hc⟩) | ⟨vs, _, ht⟩
   ·rw [hd] at hva; cases k <;> simp [viewAt] at hva
   ·rw [hv]; exact ⟨hx⟩
   ·rw [hc]; exact ⟨hx⟩
   ·cases he : evalAV s.tmps y <;> rw [he] at ht hva <;> first | exact ht.elim | (cases k <;> simp [viewAt] at hva)
  refine ⟨_, h, does_view (T := t) R hva hA ?_⟩
  simp only [execOp, ho, Instr.box, Sem.run_bind, newVar, newRow, run_newObj, Result.andThen_ok, Sem.run_pure, Array.toArray_toList]
  rfl
 obtain ⟨hA⟩ : Nonempty (AVC w C s.roots (evalAV s.tmps y) (a.eval y).cells.toList) := by
  rcases hx with (hd | ⟨_, vs, hv, hx⟩ | ⟨_, hx, hc⟩) | ⟨vs, _, ht⟩
  ·rw [hd] at h; cases k <;> simp [absorb] at h
  ·rw [hv]; exact ⟨hx⟩
  ·rw [hc]; exact ⟨hx⟩
  ·cases he : evalAV s.tmps y <;> rw [he] at ht h <;> first | exact ht.elim | (cases k <;> simp [absorb] at h)
 obtain ⟨d, m, u', e, q, F, g1, A⟩ := absorb_sound R.mem _ h onlyNone_nil hA
 refine ⟨_, g1, does_new (T := t) R A ?_⟩
 simp only [execOp, ho, Instr.box, Sem.run_bind, newVar, newRow, run_newObj, Result.andThen_ok, Sem.run_pure, Array.toArray_toList]
 rfl
end
end Go.Abs

namespace Go.Abs
section
variable {P : Program} {V : Env} {w0 w : World} {M0 : BS} {n : Nat} {C0 C : Ctx} {s : St} {a : Act}
variable {R' : Type} {r : R'} {o : Oper} {c : Del → Option R'}
theorem Keeps.push_of {M : BS} {a' w w' : World} (h : Keeps M a' w) {ob : Obj} (h1 : w'.heap = w.heap.push ob) (h2 : w'.os = w.os) (h3 : w'.tape = w.tape) (h4 : w'.output = w.output) : Keeps M a' w' := by
 refine ⟨h2.trans h.os, h3.trans h.tape, h4.trans h.output, by rw [h1]; have := h.size; simp; omega, fun b hb hm => ?_⟩
 rw [h1, Array.getElem?_push, if_neg (by have := h.size; omega)]
 exact h.block b hb hm
theorem does_sl (R : Rel w0 M0 n C0 C s a w) {e : K} {xs : List e.den} {m : Mask} {u' : U} {ks : List Kill} {q rd wr : List RName} {C1 : Ctx} {G F0 : BS} {v : Value} {w' : World}
  (Fd : Freed w C C1 s.roots (look s.roots u') ks G)
  (hr : (execOp a.eval o).run P w = .ok (.value v) w') (hkept : Keeps M0 w0 w') (hsz : w.heap.size ≤ w'.heap.size)
  (hblk : ∀ b, b < w.heap.size → ¬ G b → w'.heap[b]? = w.heap[b]?) (hF0 : ∀ b, F0 b → G b ∨ w.heap.size ≤ b) (hF1 : ∀ b, F0 b → b < w'.heap.size)
  (henc : Enc w' C.θ C.Z C.S (.sl e) m xs [v] F0) (hc : v.cells = #[v])
  (hptr : ∀ p ∈ ptrsOf (.sl e) xs, p ∈ q ∨ ∃ r' z, s.roots r' = some z ∧ p ∈ ptrsOf z.k z.d) (hpm : ∀ p ∈ q, ∀ y, s.roots p = some y → y.mem = true) :
  Does P w0 M0 n C0 s a w o ⟨.ref (loc (o.dst.getD 0) 0) [], (loc (o.dst.getD 0) 0, some ⟨false, .sl e, m, xs⟩) :: u', true, ks, q, none, rd, wr, false⟩ := by
 intro hd hal next Q hn
 obtain ⟨d, hdst⟩ := dst_some hal rfl
 unfold Oper.wp
 rw [hr]
 show next (a.put o.dst _) _
 rw [hdst] at hal hn ⊢
 simp only [Option.getD_some] at hal hn ⊢
 refine hn _ _ _ (R.fresh (hd d hdst) hal rfl rfl Fd (y0 := ⟨false, .sl e, m, xs⟩) rfl (w' := w') (b0 := 0) (vs0 := [v]) (F0 := F0) hkept hsz hblk hF0 hF1
  ⟨F0, henc, .refl _, fun h => by cases h⟩ hptr hpm ?_)
 intro rs' hrs
 refine VRel.mk ⟨v, rfl, fun y hy => ?_⟩ rfl hc
 rw [hrs] at hy; cases hy
 exact ⟨e, none, rfl, trivial, by rw [locv_nil, Ctx.with_ρ0]; rfl⟩
theorem made_sub {z : Array Value} {N i : Nat} (h : (i + 1) * z.size ≤ N) : sub (madeCells z N) (i * z.size) z.size = z.toList := by
 have hN : i * z.size + z.size ≤ N := by rw [Nat.add_mul, Nat.one_mul] at h; exact h
 apply List.ext_getElem?
 intro j
 unfold sub
 rw [List.getElem?_take]
 by_cases hj : j < z.size
 ·rw [if_pos hj, List.getElem?_drop]
  simp only [madeCells, Array.toList_map, Array.toList_range, List.getElem?_map, Array.getElem?_toList]
  rw [List.getElem?_range (by omega)]
  simp only [Option.map_some]
  rw [show (i * z.size + j) % z.size = j by rw [Nat.mul_comm, Nat.mul_add_mod]; exact Nat.mod_eq_of_lt hj]
  rw [Array.getElem?_eq_getElem hj, getElem!_pos z j hj]
 ·rw [if_neg hj]
  simp only [Array.getElem?_toList]
  rw [Array.getElem?_eq_none (by omega)]
theorem TyOK.zeroOf {T : TypeId} {ti : TI} (h : TyOK P V T ti) : ∃ i z, P.info? T = some i ∧ i.size = ti.k.size ∧ i.bytes = ti.bytes ∧ i.zero = some z ∧ z.cells.toList = ti.k.zeroCells ∧ z.cells.size = ti.k.size := by
 obtain ⟨i, z, h1, h2, h3, h4, h5⟩ := h.info
 exact ⟨i, z, h1, h2, h3, h4, h5, by rw [← zeroCells_len ti.k, ← h5]; simp⟩
theorem ptrsOf_zero : ∀ (k : K), ptrsOf k k.zero = [] := by
 intro k
 induction k with
 | pair a b iha ihb => simp [ptrsOf, K.zero, iha, ihb]
 | sl e _ => simp only [ptrsOf, K.zero]; cases e.plain <;> rfl
 | _ => rfl
theorem make_bounds (nn : Int) (b : Nat) (h0 : 0 ≤ nn) (h : nn * b ≤ 140737488355328) (h1 : 1 ≤ b) : (b : Int) * nn ≤ 281474976710656 ∧ nn ≤ 9223372036854775807 := by
 have : nn * 1 ≤ nn * (b : Int) := Int.mul_le_mul_of_nonneg_left (by omega) h0
 rw [Int.mul_comm (b : Int)]
 omega
theorem does_makeSlice (hT : TysOK P V) (R : Rel w0 M0 n C0 C s a w) {t : TypeId} {l cp : Operand} (ho : o.op = .makeSlice t l cp) (h : denOp V o s.tmps s.roots c = some r) :
  ∃ x, c x = some r ∧ Does P w0 M0 n C0 s a w o x := by
 simp only [denOp, ho] at h
 split at h
 case h_2 => simp at h
 case h_1 e bytes el hti =>
 split at h
 case h_2 => simp at h
 rename_i te z1 nn z2 n' hte hl hcp
 split at h
 case isFalse => simp at h
 case isTrue hcond =>
 obtain ⟨rfl, h0, hnn, hbytes, hb1⟩ := hcond
 subst hnn
 obtain ⟨d, hd, hdok⟩ := (hT.ty _ _ hti).desc
 obtain ⟨rfl, te', hte', _, hsz⟩ := hdok
 simp only at hte'
 rw [hte] at hte'
 cases hte'
 obtain ⟨i, z, hi, hs, hb, hz, hzc, hzs⟩ := (hT.ty _ _ hte).zeroOf
 have el1 : a.eval l = .int .i64 nn := by have := R.eval l; rw [hl] at this; exact this.int
 have el2 : a.eval cp = .int .i64 nn := by have := R.eval cp; rw [hcp] at this; exact this.int
 obtain ⟨haux1, haux2⟩ := make_bounds nn te.bytes h0 hbytes hb1
 have hrun := run_make (P := P) w t el i z hd hi hz .i64 .i64 nn nn h0 (Int.le_refl _) (by rw [hb]; exact haux1) haux2
 have hrun' : (execOp a.eval o).run P w = .ok (.value (.slice (some ⟨w.heap.size, 0, none⟩) nn.toNat nn.toNat)) (w.alloc (.cells (madeCells z.cells (nn.toNat * i.size)) el)) := by
  simp only [execOp, ho, Sem.run_bind, el1, el2, hrun, Result.andThen_ok, Sem.run_pure]
 refine ⟨_, h, does_sl (u' := []) (ks := []) (q := []) (G := noB) (F0 := fun b => b = w.heap.size) R (.refl R.mem) hrun' (R.kept.push_of (ob := .cells (madeCells z.cells (nn.toNat * i.size)) el) rfl rfl rfl rfl) (by simp)
  (fun b hb _ => heap_alloc_old w _ b hb) (fun b hb => .inr (by omega)) (fun b hb => by simp [hb]) ?_ rfl ?_ (by simp)⟩
 ·refine .inr (.inr ⟨by simp, w.heap.size, 0, nn.toNat, madeCells z.cells (nn.toNat * i.size), el, (0, 0), by simp, heap_alloc_new w _, by simp, ?_, ⟨rfl, rfl⟩, fun _ => noB, fun j => ⟨fun _ h => h.elim, fun h => h.elim⟩, fun _ _ _ _ h => h.elim, fun j x hx => ?_⟩)
  ·rw [size_madeCells, hs]; omega
  ·rw [List.getElem?_replicate] at hx
   split at hx
   case isFalse => simp at hx
   case isTrue hj =>
   cases hx
   have := made_sub (z := z.cells) (N := nn.toNat * i.size) (i := j) (by rw [hzs, hs]; exact Nat.mul_le_mul_right _ hj)
   rw [hzs] at this
   rw [Nat.zero_add, this, hzc]
   exact Enc.zero
 ·intro p hp
  simp only [ptrsOf] at hp
  cases hpl : te.k.plain with
  | true => simp [hpl] at hp
  | false =>
   simp only [hpl, cond_false, List.mem_flatMap] at hp
   obtain ⟨y, hy, hp⟩ := hp
   rw [List.eq_of_mem_replicate hy, ptrsOf_zero] at hp
   cases hp
theorem fill_rows {sz : Nat} : ∀ (parts : List (Nat × Value)) (j : Nat) (pre rest : List Value), (∀ x ∈ parts, x.2.cells.size = sz) → (∀ k x, parts[k]? = some x → x.1 = j + k) → pre.length = j * sz → rest.length = parts.length * sz →
  Instr.fill (fun i => some (i * sz, sz)) (pre ++ rest).toArray parts = some (pre ++ parts.flatMap fun x => x.2.cells.toList).toArray := by
 intro parts
 induction parts with
 | nil =>
  intro j pre rest _ _ _ hr
  have : rest = [] := List.eq_nil_of_length_eq_zero (by simpa using hr)
  simp [Instr.fill, this]
 | cons x parts ih =>
  intro j pre rest hs hi hp hr
  obtain ⟨i, v⟩ := x
  have hi0 : i = j := hi 0 _ rfl
  subst hi0
  have hv : v.cells.size = sz := hs (i, v) (by simp)
  have hr' : rest.length = parts.length * sz + sz := by rw [hr, List.length_cons, Nat.add_mul, Nat.one_mul]
  simp only [Instr.fill]
  rw [if_neg (by simp only [List.size_toArray, List.length_append, hv, hp, hr', ne_eq, not_true_eq_false, decide_false, Bool.false_or, decide_eq_true_eq]; omega)]
  rw [afold_upd _ _ _ (by simp only [List.size_toArray, List.length_append, hv, hp, hr']; omega)]
  have h4 : updCells (pre ++ rest).toArray (i * sz) v.cells.toList = ((pre ++ v.cells.toList) ++ rest.drop sz).toArray := by
   unfold updCells
   apply Array.ext'
   simp only [← hp]
   rw [List.take_left, ← List.drop_drop, List.drop_left]
   simp [hv]
  rw [h4, ih (i + 1) (pre ++ v.cells.toList) (rest.drop sz) (fun x hx => hs x (by simp [hx])) (fun k x hx => by have := hi (k + 1) x (by simpa using hx); omega) (by simp [hp, hv, Nat.add_mul]) (by simp [hr'])]
  simp
theorem drop_flat {sz : Nat} : ∀ (l : List (List Value)) (i : Nat) (x : List Value), (∀ y ∈ l, y.length = sz) → l[i]? = some x → (l.flatten.drop (i * sz)).take sz = x := by
 intro l
 induction l with
 | nil => intro i x _ h; simp at h
 | cons y l ih =>
  intro i x hs h
  have hy := hs y (by simp)
  cases i with
  | zero =>
   simp only [List.getElem?_cons_zero, Option.some.injEq] at h
   subst h
   simp [← hy]
  | succ i =>
   simp only [List.getElem?_cons_succ] at h
   rw [List.flatten_cons, Nat.add_mul, Nat.one_mul, Nat.add_comm, ← List.drop_drop, ← hy, List.drop_left, hy]
   exact ih i x (fun y hy => hs y (by simp [hy])) h
structure Absorbeds (w : World) (C : Ctx) (rs : RF) (u : U) (e : K) (ds : List e.den) (m0 m : Option Mask) (vss : List (List Value)) (u' : U) (ee q : List RName) (G : Nat → BS) : Prop where
 len : ds.length = vss.length
 keep : ∀ x, m0 = some x → m = some x
 enc : ∀ i d, ds[i]? = some d → ∃ x vs, m = some x ∧ vss[i]? = some vs ∧ Enc w C.θ C.Z C.S e x d vs (G i)
 sub : ∀ i, Sub (G i) (FU C ee)
 disj : ∀ i j, i ≠ j → Disj (G i) (G j)
 ended : ∀ r, lookU r u' = if r ∈ ee then some none else lookU r u
 was : ∀ r ∈ ee, ∃ x, rs r = some x ∧ True ∧ lookU r u = none
 ptrs : ∀ d ∈ ds, ∀ r ∈ ptrsOf e d, r ∈ q ∨ ∃ r' x, rs r' = some x ∧ r ∈ ptrsOf x.k x.d
 pmem : ∀ r ∈ q, ∀ y, rs r = some y → y.mem = true
theorem absorbs_sound {rs : RF} (hM : Mem w C rs) {e : K} : ∀ (l : List (AV × List Value)) {u : U} {m0 : Option Mask} {c : List e.den → Option Mask → U → List RName → List RName → Option R'},
  absorbs rs e (l.map (·.1)) u m0 c = some r → OnlyNone u → (∀ x ∈ l, AVC w C rs x.1 x.2) →
  ∃ ds m u' ee q G, c ds m u' ee q = some r ∧ Absorbeds w C rs u e ds m0 m (l.map (·.2)) u' ee q G := by
 intro l
 induction l with
 | nil =>
  intro u m0 c h hu hl
  exact ⟨[], m0, u, [], [], fun _ => noB, h, rfl, fun x hx => hx, by simp, fun _ _ h => h.elim, fun _ _ _ _ h => h.elim, fun r => by simp, by simp, by simp, by simp⟩
 | cons x l ih =>
  intro u m0 c h hu hl
  simp only [List.map_cons, absorbs] at h
  obtain ⟨d, ma, u1, e1, q1, F, g1, A⟩ := absorb_sound hM x.1 h hu (hl x (by simp))
  have hu1 : OnlyNone u1 := by
   intro p y hp
   rw [A.ended] at hp
   split at hp
   ·exact (Option.some.inj hp).symm
   ·exact hu p y hp
  have hgo : ∃ ds m u' ee q G, c (d :: ds) m u' (e1 ++ ee) (q1 ++ q) = some r ∧ Absorbeds w C rs u1 e ds (some ma) m (l.map (·.2)) u' ee q G ∧ (∀ x, m0 = some x → ma = x) := by
   cases m0 with
   | none =>
    simp only at g1
    obtain ⟨ds, m, u', ee, q, G, k1, k2⟩ := ih g1 hu1 (fun x hx => hl x (by simp [hx]))
    exact ⟨ds, m, u', ee, q, G, k1, k2, by simp⟩
   | some m1 =>
    simp only at g1
    split at g1
    case isFalse => simp at g1
    case isTrue hma =>
    subst hma
    obtain ⟨ds, m, u', ee, q, G, k1, k2⟩ := ih g1 hu1 (fun x hx => hl x (by simp [hx]))
    exact ⟨ds, m, u', ee, q, G, k1, k2, by simp⟩
  obtain ⟨ds, m, u', ee, q, G, k1, B, k3⟩ := hgo
  have hdis : ∀ p ∈ e1, ∀ p' ∈ ee, p ≠ p' := by
   rintro p hp p' hp' rfl
   obtain ⟨_, _, _, h3⟩ := B.was p hp'
   rw [A.ended, if_pos hp] at h3; cases h3
  have hFd : ∀ b, FU C e1 b → FU C ee b → False := by
   rintro b ⟨p, hp, hb⟩ ⟨p', hp', hb'⟩
   obtain ⟨y, hy, _⟩ := A.was p hp
   obtain ⟨y', hy', _⟩ := B.was p' hp'
   exact hM.disj p p' y y' hy hy' (hdis p hp p' hp') b hb hb'
  refine ⟨d :: ds, m, u', e1 ++ ee, q1 ++ q, (fun i => match i with | 0 => F | i + 1 => G i), k1, ?_, ?_, ?_, ?_, ?_, ?_, ?_, ?_, ?_⟩
  ·simp [B.len]
  ·intro x hx; rw [← k3 x hx]; exact B.keep ma rfl
  ·intro i y hy
   cases i with
   | zero =>
    simp only [List.getElem?_cons_zero, Option.some.injEq] at hy
    subst hy
    exact ⟨ma, x.2, B.keep ma rfl, rfl, A.enc⟩
   | succ i => exact B.enc i y (by simpa using hy)
  ·intro i b hb
   cases i with
   | zero => obtain ⟨p, hp, hb⟩ := A.sub b hb; exact ⟨p, by simp [hp], hb⟩
   | succ i => obtain ⟨p, hp, hb⟩ := B.sub i b hb; exact ⟨p, by simp [hp], hb⟩
  ·intro i j hij b hb hb'
   cases i with
   | zero =>
    cases j with
    | zero => exact hij rfl
    | succ j => exact hFd b (A.sub b hb) (B.sub j b hb')
   | succ i =>
    cases j with
    | zero => exact hFd b (A.sub b hb') (B.sub i b hb)
    | succ j => exact B.disj i j (by omega) b hb hb'
  ·intro p
   rw [B.ended, A.ended]
   by_cases h1 : p ∈ e1 <;> by_cases h2 : p ∈ ee <;> simp [h1, h2]
  ·intro p hp
   rcases List.mem_append.1 hp with hp | hp
   ·exact A.was p hp
   ·obtain ⟨y, h1, h2, h3⟩ := B.was p hp
    refine ⟨y, h1, h2, ?_⟩
    rw [A.ended] at h3
    split at h3
    ·cases h3
    ·exact h3
  ·intro y hy p hp
   rcases List.mem_cons.1 hy with rfl | hy
   ·rcases A.ptrs p hp with h | ⟨r', _, z, hz, h⟩
    ·exact .inl (by simp [h])
    ·exact .inr ⟨r', z, hz, h⟩
   ·rcases B.ptrs y hy p hp with h | h
    ·exact .inl (by simp [h])
    ·exact .inr h
  ·intro p hp
   rcases List.mem_append.1 hp with hp | hp
   ·exact A.pmem p hp
   ·exact B.pmem p hp
theorem inOrder_get : ∀ (l : List (Nat × Operand)) (j : Nat), inOrder l j = true → ∀ k x, l[k]? = some x → x.1 = j + k := by
 intro l
 induction l with
 | nil => intro j _ k x h; simp at h
 | cons y l ih =>
  intro j h k x hx
  simp only [inOrder, Bool.and_eq_true] at h
  cases k with
  | zero => simp only [List.getElem?_cons_zero, Option.some.injEq] at hx; subst hx; exact Nat.eq_of_beq_eq_true h.1
  | succ k => have := ih _ h.2 k x (by simpa using hx); omega
theorem run_buildSlice_of {t el : TypeId} {N : Nat} {parts : Array (Nat × Value)} {i : TypeInfo} {z : Value} (hu : P.underlying t = some (.slice el)) (hi : P.info? el = some i) (hz : i.zero = some z)
  (hN : N * i.size ≤ 16777216) {cs : Array Value} (hf : Instr.fill (fun j => some (j * i.size, i.size)) (madeCells z.cells (N * i.size)) parts.toList = some cs) :
  (Instr.buildSlice t N parts).run P w = .ok (.slice (some ⟨w.heap.size, 0, none⟩) N N) (World.push w (.cells cs el)) := by
 have hN' : ¬ (16777216 < N * i.size) := by omega
 unfold madeCells at hf
 by_cases h0 : N * i.size = 0
 ·simp [Instr.buildSlice, run_underlying_of hu, sizeOf, typeInfo, hi, h0, Array.range_zero'] at hf ⊢
  simp [hf, newRow, World.push]
 ·simp [Instr.buildSlice, run_underlying_of hu, sizeOf, typeInfo, zeroValue, hi, hz, h0, hN', hf, newRow, World.push]
theorem sizesOK_mem {n : Nat} : ∀ (l : List AV), sizesOK n l = true → ∀ x ∈ l, x.size = some n := by
 intro l
 induction l with
 | nil => intro _ x hx; cases hx
 | cons y l ih =>
  intro h x hx
  simp only [sizesOK, Bool.and_eq_true] at h
  rcases List.mem_cons.1 hx with rfl | hx
  ·cases hs : x.size with
   | none => rw [hs] at h; simp at h
   | some m => rw [hs] at h; rw [Nat.eq_of_beq_eq_true h.1]
  ·exact ih h.2 x hx
theorem Enc.ro' {w : World} {θ : RName → Nat} {Z S : BS} {z : Bool} (z' : Bool) {k : K} {d : k.den} {vs : List Value} {F G : BS} (h : Enc w θ Z S k (.imm z) d vs F) : Enc w θ Z S k (.imm (z' && z)) d vs G := by
 rw [Bool.and_comm]; exact h.ro z'
theorem allImm_sound {rs : RF} {e : K} : ∀ (l : List (AV × List Value)) {ds : List e.den} {z : Option Bool}, allImm e (l.map (·.1)) = some (ds, z) → (∀ x ∈ l, AVC w C rs x.1 x.2) →
  ds.length = l.length ∧ (l ≠ [] → e.plain = true) ∧ ∀ (i : Nat) (d : e.den), ds[i]? = some d → ∃ (y : Bool) (vs : List Value), z = some y ∧ (l.map (·.2))[i]? = some vs ∧ Enc w C.θ C.Z C.S e (.imm y) d vs noB := by
 intro l
 induction l with
 | nil => intro ds z h _; simp only [List.map_nil, allImm, Option.some.injEq, Prod.mk.injEq] at h; obtain ⟨rfl, rfl⟩ := h; simp
 | cons x l ih =>
  intro ds z h hl
  obtain ⟨av, vs⟩ := x
  have hx := hl (av, vs) (by simp)
  simp only [List.map_cons] at h
  cases av <;> simp only [allImm] at h <;> first | (simp at h; done) | skip
  rename_i z0 k d
  split at h
  ·simp at h
  ·rename_i ds' z' hd
   split at h
   case isFalse => simp at h
   case isTrue hk =>
   subst hk
   simp only [Option.some.injEq, Prod.mk.injEq] at h
   obtain ⟨rfl, rfl⟩ := h
   obtain ⟨h1, h2, h3⟩ := ih hd (fun x hx => hl x (by simp [hx]))
   refine ⟨by simp [h1], fun _ => hx.1, fun i y hy => ?_⟩
   cases i with
   | zero =>
    simp only [List.getElem?_cons_zero, Option.some.injEq] at hy
    subst hy
    refine ⟨_, vs, rfl, rfl, ?_⟩
    have he : Enc w C.θ C.Z C.S k (.imm z0) d vs noB := by have h4 := hx.2.ro (G := noB) true; rwa [Bool.and_true] at h4
    cases z' with
    | none => exact he
    | some z' => exact he.ro z'
   | succ i =>
    obtain ⟨y', vs', rfl, g1, g2⟩ := h3 i y (by simpa using hy)
    exact ⟨_, vs', rfl, by simpa using g1, g2.ro' z0⟩
theorem absorbsI_sound {rs : RF} (hM : Mem w C rs) {e : K} (l : List (AV × List Value)) {c : List e.den → Option Mask → U → List RName → List RName → Option R'}
  (h : absorbsI rs e (l.map (·.1)) c = some r) (hl : ∀ x ∈ l, AVC w C rs x.1 x.2) :
  ∃ ds m u' ee q G, c ds m u' ee q = some r ∧ Absorbeds w C rs [] e ds none m (l.map (·.2)) u' ee q G := by
 unfold absorbsI at h
 split at h
 ·rename_i ds z hz
  obtain ⟨h1, h2, h3⟩ := allImm_sound l hz hl
  have hne : ds ≠ [] → l ≠ [] := by rintro h rfl; simp at h1; exact h h1
  refine ⟨ds, _, [], [], [], fun _ => noB, h, by simp [h1], (fun x hx => nomatch hx), fun i d hd => ?_, fun _ _ x => x.elim, fun _ _ _ _ x => x.elim, fun r => by simp, by simp, fun d hd r hr => ?_, by simp⟩
  ·obtain ⟨y, vs, g1, g2, g3⟩ := h3 i d hd
   cases g1
   refine ⟨_, vs, rfl, g2, ?_⟩
   unfold Mask.ro
   cases hf : e.flat with
   | true => exact Enc.flat hf g3
   | false => exact g3
  ·rw [ptrsOf_plain d (h2 (hne (by rintro rfl; cases hd)))] at hr; cases hr
 ·exact absorbs_sound hM l h onlyNone_nil hl
theorem run_isAgg {t : TypeId} {b : Bool} (h : aggOf P t = some b) : (Go.isAgg t).run P w = .ok b w := by
 unfold aggOf at h
 split at h <;> first | (simp at h; done) | skip
 all_goals (rename_i hu; simp only [Option.some.injEq] at h; subst h; unfold Go.isAgg; simp only [Sem.run_bind, run_underlying_of hu, Result.andThen_ok])
 all_goals first | rfl | (split <;> first | rfl | (rename_i h1 h2; simp_all))
theorem fields_off : ∀ (f : Nat) {k : K} {fs : List Field} {off0 : Nat} {x : K × Nat}, FieldsOK P fs k off0 → k.offOf f = some x → ∃ fd, fs[f]? = some fd ∧ fd.offset = off0 + x.2 ∧ aggOf P fd.type = some x.1.isAgg := by
 intro f
 induction f with
 | zero =>
  intro k fs off0 x h hk
  cases k <;> simp only [K.offOf, Option.some.injEq] at hk <;> first | (simp at hk; done) | skip
  subst hk
  cases fs with
  | nil => exact h.elim
  | cons fd fs => obtain ⟨h1, h2, ⟨i, h3, h4, h6⟩, h5⟩ := h; exact ⟨fd, rfl, h1, h6⟩
 | succ f ih =>
  intro k fs off0 x h hk
  cases k <;> simp only [K.offOf] at hk <;> first | (simp at hk; done) | skip
  split at hk
  ·rename_i y hy
   simp only [Option.some.injEq] at hk
   subst hk
   cases fs with
   | nil => exact h.elim
   | cons fd fs =>
    obtain ⟨h1, h2, h3, h5⟩ := h
    obtain ⟨fd', g1, g2, g3⟩ := ih h5 hy
    exact ⟨fd', by simpa using g1, by simp only [g2]; omega, g3⟩
  ·simp at hk
theorem fieldAV_sound {rs : RF} : ∀ (n : Nat) {a : AV} {x : AV × Nat} {vs : List Value}, fieldAV a n = some x → AVC w C rs a vs → a.agg = true ∧ ∃ u v y, vs = u ++ v ++ y ∧ u.length = x.2 ∧ AVC w C rs x.1 v := by
 intro n
 induction n with
 | zero =>
  intro a x vs h ha
  cases a with
  | pair a b =>
   simp only [fieldAV, Option.some.injEq] at h; subst h
   obtain ⟨v1, v2, rfl, h1, h2⟩ := ha
   exact ⟨rfl, [], v1, v2, by simp, rfl, h1⟩
  | imm z k d =>
   cases k <;> simp only [fieldAV, Option.some.injEq] at h <;> first | (simp at h; done) | skip
   subst h
   obtain ⟨hp, v1, v2, F1, F2, rfl, s1, s2, dj, h1, h2⟩ := ha
   simp only [K.plain, Bool.and_eq_true] at hp
   exact ⟨rfl, [], v1, v2, by simp, rfl, hp.1, h1.mono (.refl _) (.refl _) (fun _ x => s1 _ x) (fun _ _ => rfl) (fun _ _ => rfl)⟩
  | _ => simp [fieldAV] at h
 | succ n ih =>
  intro a x vs h ha
  cases a with
  | pair a b =>
   simp only [fieldAV] at h
   split at h
   ·rename_i m y hm hy
    simp only [Option.some.injEq] at h; subst h
    obtain ⟨v1, v2, rfl, h1, h2⟩ := ha
    obtain ⟨_, u, v, y', rfl, g1, g2⟩ := ih hy h2
    exact ⟨rfl, v1 ++ u, v, y', by simp, by simp [g1, h1.size hm], g2⟩
   ·simp at h
  | imm z k d =>
   cases k <;> simp only [fieldAV] at h <;> first | (simp at h; done) | skip
   split at h
   ·rename_i y hy
    simp only [Option.some.injEq] at h; subst h
    obtain ⟨hp, v1, v2, F1, F2, rfl, s1, s2, dj, h1, h2⟩ := ha
    simp only [K.plain, Bool.and_eq_true] at hp
    obtain ⟨_, u, v, y', rfl, g1, g2⟩ := ih hy ⟨hp.2, h2.mono (.refl _) (.refl _) (fun _ x => s2 _ x) (fun _ _ => rfl) (fun _ _ => rfl)⟩
    exact ⟨rfl, v1 ++ u, v, y', by simp, by simp [g1, h1.len], g2⟩
   ·simp at h
  | _ => simp [fieldAV] at h
theorem does_field (hT : TysOK P V) (R : Rel w0 M0 n C0 C s a w) {t : TypeId} {x : Operand} {f : Nat} (ho : o.op = .field t x f) (h : denOp V o s.tmps s.roots c = some r) :
  ∃ x, c x = some r ∧ Does P w0 M0 n C0 s a w o x := by
 simp only [denOp, ho] at h
 split at h
 case h_2 => simp at h
 case h_1 k v hk hv =>
 obtain ⟨k0, hk0, hk⟩ := Option.bind_eq_some_iff.1 hk
 obtain ⟨ti, hti, rfl⟩ := Env.k_ti hk0
 obtain ⟨d, hd, hD⟩ := (hT.ty _ _ hti).desc
 cases hc : (Nat.beq k.2 v.2 && !k.1.isAgg) with
 | false => rw [hc] at h; simp at h
 | true =>
 rw [hc] at h
 simp only [cond_true] at h
 simp only [Bool.and_eq_true, Bool.not_eq_true'] at hc
 obtain ⟨ho2, hagg⟩ := hc
 have ho2 := Nat.eq_of_beq_eq_true ho2
 obtain ⟨fs, rfl, hF⟩ : ∃ fs, d = .struct fs ∧ FieldsOK P fs.toList ti.k 0 := by
  unfold DOK at hD
  cases hti : ti.k <;> simp only [hti] at hD hk
  case pair a b => exact hD
  all_goals (cases f <;> simp [K.offOf] at hk)
 obtain ⟨fd, g1, g2, g3⟩ := fields_off f hF hk
 have hx := R.eval x
 have hcells : ∃ vs, a.eval x = .agg vs.toArray ∧ AVC w C s.roots (evalAV s.tmps x) vs := by
  rcases hx with (hx | ⟨_, vs, h1, h2⟩ | ⟨hg, h2, _⟩) | ⟨vs, _, ht⟩
  ·rw [hx] at hv; cases f <;> simp [fieldAV] at hv
  ·exact ⟨vs, h1, h2⟩
  ·have := (fieldAV_sound f hv h2).1; rw [hg] at this; cases this
  ·cases he : evalAV s.tmps x <;> rw [he] at ht hv <;> first | exact ht.elim | (cases f <;> simp [fieldAV] at hv)
 obtain ⟨vs, hvs, hA⟩ := hcells
 obtain ⟨_, u, mid, y, rfl, hu, hm⟩ := fieldAV_sound f hv hA
 have hrun : ∀ v0, mid = [v0] → (execOp a.eval o).run P w = .ok (.value v0) w := by
  rintro v0 rfl
  have hf' : fs[f]? = some fd := by rw [← g1]; simp
  have hget : (u ++ [v0] ++ y).toArray[fd.offset]? = some v0 := by
   rw [g2, Nat.zero_add, ho2, ← hu]; simp
  simp only [execOp, ho, hvs, Instr.field, Sem.run_bind, run_underlying_of hd, Result.andThen_ok, hf', asAgg, Sem.run_pure, Go.part, run_isAgg g3, hagg, hget]
  simp
 unfold cellAV at h
 split at h
 ·rename_i z k' d' hv'
  cases hag : k'.isAgg with
  | true => rw [hag] at h; simp at h
  | false =>
  rw [hag] at h
  rw [hv'] at hm
  have hl := hm.2.len
  rw [K.size_one hag] at hl
  obtain ⟨v0, rfl⟩ := List.length_eq_one_iff.1 hl
  refine ⟨_, h, Does.plain R (hrun v0 rfl) (VRel.mk hm hag ?_)⟩
  have h5 := hm.2.cellV (fun e _ => by simp) hag
  have h6 := (valOf_spec (k := k') (vs := [v0]) (by simp [K.size_one hag])).2 hag
  simp only [List.cons.injEq, and_true] at h6
  rw [← h6] at h5; exact h5
 ·rename_i q p e hv' hk'
  rw [hv'] at hm
  obtain ⟨v0, rfl, hroot⟩ := hm
  unfold readSl at h
  simp only at h
  split at h
  case h_1 => simp at h
  case h_2 x hx =>
  have hx : s.roots q = some x := hx
  obtain ⟨k', d, m, vs, b1, hp, hc⟩ := place_get (R.mem.ok _ _ hx) h
  obtain ⟨e', base, g1, g2, g3⟩ := hroot x hx
  split at hc
  case isFalse => simp at hc
  case isTrue hk =>
  subst hk
  cases hl : m.live with
  | false => simp [hl] at hc
  | true =>
  simp only [hl, cond_true] at hc
  have := hp.lc; rw [g3] at this
  simp only [Option.some.injEq, Prod.mk.injEq] at this
  obtain ⟨rfl, rfl⟩ := this
  obtain ⟨F, henc⟩ := hp.enc
  obtain ⟨a', cap, h1, h2, _⟩ := sl_value henc (Mask.live_ne hl)
  exact ⟨_, hc, Does.plain R (hrun v0 rfl) (VRel.mk ⟨v0, rfl, hroot⟩ rfl (by rw [h1]; rfl))⟩
 ·simp at h
theorem does_buildSlice (hT : TysOK P V) (R : Rel w0 M0 n C0 C s a w) {t : TypeId} {N : Nat} {parts : Array (Nat × Operand)} (ho : o.op = .buildSlice t N parts) (h : denOp V o s.tmps s.roots c = some r) :
  ∃ x, c x = some r ∧ Does P w0 M0 n C0 s a w o x := by
 simp only [denOp, ho] at h
 split at h
 case h_2 => simp at h
 case h_1 e bytes el hti =>
 split at h
 case h_1 => simp at h
 case h_2 te hte =>
 cases hchk : (Nat.beq N parts.toList.length && inOrder parts.toList 0 && decide (te.k = e) && Nat.ble (N * e.size) 1000000 && sizesOK e.size (parts.toList.map fun x => evalAV s.tmps x.2)) with
 | false => rw [hchk] at h; simp at h
 | true =>
 rw [hchk] at h
 simp only [cond_true] at h
 simp only [Bool.and_eq_true, decide_eq_true_eq] at hchk
 obtain ⟨⟨⟨⟨hN, hord⟩, rfl⟩, hbig⟩, hsizes⟩ := hchk
 have hN := Nat.eq_of_beq_eq_true hN
 have hbig := Nat.le_of_ble_eq_true hbig
 obtain ⟨d, hd, hdok⟩ := (hT.ty _ _ hti).desc
 obtain ⟨rfl, te', hte', _, hsz⟩ := hdok
 simp only at hte'
 rw [hte] at hte'
 cases hte'
 obtain ⟨i, z, hi, hs, hb, hz, hzc, hzs⟩ := (hT.ty _ _ hte).zeroOf
 have hcell : ∀ x ∈ parts.toList, AVC w C s.roots (evalAV s.tmps x.2) (a.eval x.2).cells.toList ∧ (a.eval x.2).cells.size = te.k.size :=
  fun x hx => (R.eval x.2).cells (sizesOK_mem _ hsizes _ (List.mem_map.2 ⟨x, hx, rfl⟩))
 have hlist : (parts.toList.map fun x => evalAV s.tmps x.2) = (parts.toList.map fun x => (evalAV s.tmps x.2, (a.eval x.2).cells.toList)).map (·.1) := by simp [Function.comp_def]
 rw [hlist] at h
 obtain ⟨ds, m, u', ee, q, G, g1, A⟩ := absorbsI_sound R.mem _ h (fun x hx => by
  simp only [List.mem_map] at hx
  obtain ⟨y, hy, rfl⟩ := hx
  exact (hcell y hy).1)
 rw [← hlist] at g1
 have hvss : (parts.toList.map fun x => (evalAV s.tmps x.2, (a.eval x.2).cells.toList)).map (·.2) = parts.toList.map fun x => (a.eval x.2).cells.toList := by simp [Function.comp_def]
 rw [hvss] at A
 have hdl : ds.length = N := by rw [A.len, hN]; simp
 have hfill := fill_rows (sz := i.size) (parts.toList.map fun x => (x.1, a.eval x.2)) 0 [] (madeCells z.cells (N * i.size)).toList
  (fun x hx => by
   simp only [List.mem_map] at hx
   obtain ⟨y, hy, rfl⟩ := hx
   rw [hs]; exact (hcell y hy).2)
  (fun k x hx => by
   rw [List.getElem?_map] at hx
   cases hp : parts.toList[k]? with
   | none => rw [hp] at hx; simp at hx
   | some y => rw [hp] at hx; simp only [Option.map_some, Option.some.injEq] at hx; subst hx; exact inOrder_get _ _ hord k y hp)
  (by simp) (by simp [size_madeCells, hN])
 simp only [List.nil_append, Array.toArray_toList] at hfill
 have hrun : (execOp a.eval o).run P w = .ok (.value (.slice (some ⟨w.heap.size, 0, none⟩) N N)) (World.push w (.cells ((parts.toList.map fun x => (x.1, a.eval x.2)).flatMap fun x => x.2.cells.toList).toArray el)) := by
  simp only [execOp, ho, Sem.run_bind]
  rw [run_buildSlice_of (parts := parts.map fun (i, x) => (i, a.eval x)) hd hi hz (by rw [hs]; omega) (by rw [Array.toList_map]; exact hfill)]
  rfl
 have Fd : Freed w C C s.roots (look s.roots u') (ofs ee) (FU C ee) := by
  refine Freed.ofs R.mem (fun q hq => by obtain ⟨y, hy, _⟩ := A.was q hq; exact ⟨y, hy⟩) (fun q => ?_)
  unfold look
  rw [A.ended]
  by_cases h : q ∈ ee
  ·rw [if_pos h, if_pos h]
  ·rw [if_neg h, if_neg h]; rfl
 have hlt : ∀ b, FU C ee b → b < w.heap.size := fun b hb => (Fd.free R.mem hb).2.2
 refine ⟨_, g1, does_sl (F0 := fun b => FU C ee b ∨ b = w.heap.size) R Fd hrun (R.kept.push _) (by rw [push_size]; omega) (fun b hb _ => push_old _ _ hb)
  (fun b hb => hb.imp id (fun h => by omega)) (fun b hb => by rw [push_size]; rcases hb with hb | hb; (have := hlt b hb; omega); omega) ?_ rfl ?_ A.pmem⟩
 ·have hflat : ((parts.toList.map fun x => (x.1, a.eval x.2)).flatMap fun x => x.2.cells.toList) = (parts.toList.map fun x => (a.eval x.2).cells.toList).flatten := by
   simp [List.flatMap, Function.comp_def]
  have hall : ∀ y ∈ (parts.toList.map fun x => (a.eval x.2).cells.toList), y.length = te.k.size := by
   intro y hy
   simp only [List.mem_map] at hy
   obtain ⟨x, hx, rfl⟩ := hy
   simpa using (hcell x hx).2
  have hlen : ∀ (l : List (List Value)), (∀ y ∈ l, y.length = te.k.size) → l.flatten.length = l.length * te.k.size := by
   intro l
   induction l with
   | nil => intro _; simp
   | cons y l ih => intro hh; rw [List.flatten_cons, List.length_append, ih (fun y hy => hh y (by simp [hy])), hh y (by simp), List.length_cons, Nat.add_mul]; omega
  have hne : (bif te.k.flat then Mask.own else Mask.mkSl (m.getD .own)) ≠ .gone := by
   cases te.k.flat
   ·simp only [cond_false]; cases m.getD .own <;> simp [Mask.mkSl]
   ·simp
  refine .inr (.inr ⟨hne, w.heap.size, 0, N, _, el, (0, 0), by rw [hdl], push_new _ _, by omega, ?_, ?_, G, fun j => ⟨fun b hb => .inl (A.sub j b hb), fun hb => by have := hlt _ (A.sub j _ hb); omega⟩, A.disj, fun j x hx => ?_⟩)
  ·rw [hflat]
   simp only [List.size_toArray, Nat.zero_add]
   rw [hlen _ hall, List.length_map, hN]; exact Nat.le_refl _
  ·cases te.k.flat
   ·simp only [cond_false]; cases m.getD .own <;> simp [Mask.mkSl, slOk]
   ·simp [slOk]
  ·obtain ⟨x0, vs, h1, h2, h3⟩ := A.enc j x hx
   have hsub : sub ((parts.toList.map fun x => (x.1, a.eval x.2)).flatMap fun x => x.2.cells.toList).toArray (0 + j * te.k.size) te.k.size = vs := by
    unfold sub
    rw [hflat, Nat.zero_add]
    exact drop_flat _ j vs hall h2
   rw [hsub]
   have h4 := h3.mono (w' := World.push w (.cells ((parts.toList.map fun x => (x.1, a.eval x.2)).flatMap fun x => x.2.cells.toList).toArray el)) (.refl _) (.refl _) (.refl _) (fun b hb => push_old _ _ (by
    rcases hb with hb | hb
    ·exact hlt b (A.sub j b hb)
    ·exact R.mem.ro b hb)) (fun _ _ => rfl)
   cases hf : te.k.flat with
   | true => exact Enc.flat hf h4
   | false =>
    simp only [cond_false, h1, Option.getD_some]
    have : (Mask.mkSl x0).elem = x0 := by cases x0 <;> rfl
    rw [this]; exact h4
 ·intro p hp
  simp only [ptrsOf] at hp
  cases hpl : te.k.plain with
  | true => simp [hpl] at hp
  | false =>
   simp only [hpl, cond_false, List.mem_flatMap] at hp
   obtain ⟨y, hy, hp⟩ := hp
   exact A.ptrs y hy p hp
end
end Go.Abs

namespace Go.Abs
section
variable {P : Program} {V : Env} {w0 w : World} {M0 : BS} {n : Nat} {C0 C : Ctx} {s : St} {a : Act}
variable {R' : Type} {r : R'} {o : Oper} {c : Del → Option R'}
theorem append_bounds {N b : Nat} (h : N * b ≤ 70368744177664) (h1 : 1 ≤ b) : N ≤ 70368744177664 := by
 have : N * 1 ≤ N * b := Nat.mul_le_mul_left _ h1
 omega
theorem run_append_in {ts : Array TypeId} {t t2 ty el : TypeId} {d2 : TypeDesc} {i : TypeInfo} (ht1 : ts[0]? = some t) (ht2 : ts[1]? = some t2) (hu : P.underlying t = some (.slice el)) (hu2 : P.underlying t2 = some d2) (hd2 : (∃ e2, d2 = .slice e2) ∨ d2 = .string) (hi : P.info? el = some i)
  {a1 : Option Addr} {n1 c1 n2 : Nat} {v2 : Value} {news : List Value} (hl2 : ∀ w', (Builtin.lenOf v2).run P w' = .ok n2 w') (hf2 : (Builtin.firstCells i.size n2 v2).run P w = .ok news.toArray w)
  (hroom : n1 + n2 ≤ c1) {w' : World} (hst : (match a1 with | some ad => storeCells (ad.add (n1 * i.size)) news | none => pure ()).run P w = .ok () w') :
  (Builtin.append_ ts ty #[.slice a1 n1 c1, v2]).run P w = .ok (.slice a1 (n1 + n2) c1) w' := by
 cases a1 with
 | none =>
  simp only [Sem.run_pure, Result.ok.injEq, true_and] at hst
  subst hst
  rcases hd2 with ⟨e2, rfl⟩ | rfl <;> simp [Builtin.append_, ht1, ht2, run_underlying hu, run_underlying hu2, sizeOf, typeInfo, hi, hl2, hroom, hf2]
 | some ad =>
  simp only at hst
  rcases hd2 with ⟨e2, rfl⟩ | rfl <;> simp [Builtin.append_, ht1, ht2, run_underlying hu, run_underlying hu2, sizeOf, typeInfo, hi, hl2, hroom, hf2, hst]
theorem run_append_out {ts : Array TypeId} {t t2 ty el : TypeId} {d2 : TypeDesc} {i : TypeInfo} {z : Value} (ht1 : ts[0]? = some t) (ht2 : ts[1]? = some t2) (hu : P.underlying t = some (.slice el)) (hu2 : P.underlying t2 = some d2) (hd2 : (∃ e2, d2 = .slice e2) ∨ d2 = .string) (hi : P.info? el = some i) (hz : i.zero = some z)
  {a1 : Option Addr} {n1 c1 n2 : Nat} {v2 : Value} {olds news : List Value} (hl2 : ∀ w', (Builtin.lenOf v2).run P w' = .ok n2 w') (hf2 : ∀ w', w'.heap = w.heap → (Builtin.firstCells i.size n2 v2).run P w' = .ok news.toArray w')
  (hf1 : ∀ w', w'.heap = w.heap → (Builtin.firstCells i.size n1 (.slice a1 n1 c1)).run P w' = .ok olds.toArray w')
  (hroom : c1 < n1 + n2) (hb : (n1 + n2) * i.bytes ≤ 70368744177664) (hb1 : 1 ≤ i.bytes) :
  ∃ cap, n1 + n2 ≤ cap ∧ (Builtin.append_ ts ty #[.slice a1 n1 c1, v2]).run P w = .ok (.slice (some ⟨w.heap.size, 0, none⟩) (n1 + n2) cap)
   (w.drew.alloc (.cells ((olds ++ news).toArray ++ Builtin.zeroCells z.cells (cap - (n1 + n2))) el)) := by
 refine ⟨grownCap w (n1 + n2) c1 el, grownCap_ge w _ _ _, ?_⟩
 have hn : ¬ (n1 + n2 ≤ c1) := by omega
 have h63 : ¬ (9223372036854775807 < ((n1 : Int) + (n2 : Int))) := by have := append_bounds hb hb1; omega
 have h48 : ¬ (281474976710656 < Builtin.nextslicecap (n1 + n2) c1 * i.bytes) := by have := growslice_fits (old := c1) hroom (by omega : (n1 + n2) * i.bytes ≤ 140737488355328); omega
 have h1 := hf1 w.drew rfl
 have h2 := hf2 w.drew rfl
 rcases hd2 with ⟨e2, rfl⟩ | rfl <;>
  simp [Builtin.append_, ht1, ht2, run_underlying hu, run_underlying hu2, sizeOf, typeInfo, zeroValue, hi, hz, hl2, hn, h63, h48, Question.forced, h1, h2, newRow, grownCap] <;> congr 2 <;> apply Array.ext' <;> simp
theorem Enc.one {θ : RName → Nat} {Z S : BS} : ∀ {k : K} {m : Mask} {d : k.den} {vs : List Value} {F : BS}, Enc w θ Z S k m d vs F → m.live = true → ∀ v ∈ vs, v.oneCell' = true := by
 intro k
 induction k with
 | pair a b iha ihb =>
  intro m d vs F h hl v hv
  obtain ⟨v1, v2, F1, F2, rfl, _, _, _, h1, h2⟩ := h
  rcases List.mem_append.1 hv with hv | hv
  ·exact iha h1 (Mask.live_fst hl) v hv
  ·exact ihb h2 (Mask.live_snd hl) v hv
 | sl e _ =>
  intro m d vs F h hl v hv
  rcases h with ⟨h, _⟩ | ⟨_, _, a, rfl⟩ | ⟨_, _, _, _, _, _, _, rfl, _⟩
  ·exact absurd h (Mask.live_ne hl)
  ·simp only [List.mem_singleton] at hv; subst hv; rfl
  ·simp only [List.mem_singleton] at hv; subst hv; rfl
 | ptr =>
  intro m d vs F h hl v hv
  simp only [Enc] at h; subst h
  simp only [List.mem_singleton] at hv; subst hv
  cases d <;> rfl
 | fn =>
  intro m d vs F h hl v hv
  simp only [Enc] at h; subst h
  simp only [List.mem_singleton] at hv; subst hv
  cases d <;> rfl
 | _ =>
  intro m d vs F h hl v hv
  simp only [Enc] at h; subst h
  simp only [List.mem_singleton, List.not_mem_nil] at hv
  try (subst hv; rfl)
theorem rows_mem {sz N : Nat} {cells : List Value} (hl : cells.length = N * sz) {p : Value → Prop} (h : ∀ i, i < N → ∀ v ∈ (cells.drop (i * sz)).take sz, p v) : ∀ v ∈ cells, p v := by
 intro v hv
 obtain ⟨j, hj, rfl⟩ := List.getElem_of_mem hv
 have hsz : 0 < sz := by
  rcases Nat.eq_zero_or_pos sz with rfl | hp
  ·rw [hl] at hj; simp at hj
  ·exact hp
 refine h (j / sz) (by rw [Nat.div_lt_iff_lt_mul hsz]; omega) _ ?_
 rw [List.mem_iff_getElem?]
 refine ⟨j % sz, ?_⟩
 rw [List.getElem?_take, if_pos (Nat.mod_lt _ hsz), List.getElem?_drop, Nat.mul_comm, Nat.div_add_mod]
 exact List.getElem?_eq_getElem hj
structure Row (P : Program) (w : World) (θ : RName → Nat) (Z S : BS) (e : K) (m : Mask) (xs : List e.den) (v : Value) (cells : List Value) (G : Nat → BS) (F : BS) : Prop where
 len : cells.length = xs.length * e.size
 enc : ∀ i x, xs[i]? = some x → Enc w θ Z S e m x ((cells.drop (i * e.size)).take e.size) (G i)
 sub : ∀ i, Sub (G i) F
 disj : ∀ i j, i ≠ j → Disj (G i) (G j)
 first : ∀ w', w'.heap = w.heap → (Builtin.firstCells e.size xs.length v).run P w' = .ok cells.toArray w'
theorem enc_row (P : Program) {θ : RName → Nat} {Z S : BS} {e : K} {m : Mask} {xs : List e.den} {v : Value} {F : BS} (h : Enc w θ Z S (.sl e) m xs [v] F) (hm : m ≠ .gone) :
  ∃ ad cap cells G, v = .slice ad xs.length cap ∧ xs.length ≤ cap ∧ Row P w θ Z S e m.elem xs v cells G F ∧
   ((cap = 0 ∧ xs = []) ∨ ∃ b off cs T fz, ad = some ⟨b, off, none⟩ ∧ w.heap[b]? = some (.cells cs T fz) ∧ off + cap * e.size ≤ cs.size ∧ slOk Z S F b fz m ∧ (∀ i, ¬ G i b) ∧ cells = Go.Abs.sub cs off (xs.length * e.size)) := by
 rcases h with ⟨h, _⟩ | ⟨_, rfl, ad, h⟩ | ⟨_, b, off, cap, cs, T, fz, h, hc, hle, hs, hok, G, hG, hd, he⟩
 ·exact absurd h hm
 ·simp only [List.cons.injEq, and_true] at h
  subst h
  refine ⟨ad, 0, [], fun _ => noB, rfl, Nat.le_refl _, ⟨by simp, by simp, fun _ _ h => h.elim, fun _ _ _ _ h => h.elim, fun w' _ => ?_⟩, .inl ⟨rfl, rfl⟩⟩
  cases ad with
  | none => exact run_firstCells_none _ _ _ _ _
  | some ad => exact run_firstCells_some w' _ _ ad 0 0 [] (by simp) (by simp)
 ·simp only [List.cons.injEq, and_true] at h
  subst h
  have hmul : xs.length * e.size ≤ cap * e.size := Nat.mul_le_mul_right _ hle
  have hlen : (Go.Abs.sub cs off (xs.length * e.size)).length = xs.length * e.size := sub_length (by omega)
  refine ⟨_, cap, Go.Abs.sub cs off (xs.length * e.size), G, rfl, hle, ⟨hlen, fun i x hx => ?_, fun i => (hG i).1, hd, fun w' hw' => ?_⟩, .inr ⟨b, off, cs, T, fz, rfl, hc, hs, hok, fun i => (hG i).2, rfl⟩⟩
  ·have hi : i < xs.length := (List.getElem?_eq_some_iff.1 hx).1
   have hmul2 : i * e.size + e.size ≤ xs.length * e.size := by have := Nat.mul_le_mul_right e.size hi; rw [Nat.succ_mul] at this; exact this
   have : ((Go.Abs.sub cs off (xs.length * e.size)).drop (i * e.size)).take e.size = Go.Abs.sub cs (off + i * e.size) e.size := by
    rw [sub_drop, sub_take (by omega)]
   rw [this]; exact he i x hx
  ·refine run_firstCells_some w' _ _ _ _ _ _ hlen fun j u hj => ?_
   have hl : Lies w' (Go.Abs.sub cs off (xs.length * e.size)) (some (b, off)) := ⟨cs, T, fz, by rw [hw']; exact hc, by rw [hlen]; omega, by rw [hlen]⟩
   have := lies_cell hl hj
   rw [addr_add]; exact this
theorem append_enc {θ : RName → Nat} {Z S : BS} {ts : Array TypeId} {t t2 ty el : TypeId} {d2 : TypeDesc} {i : TypeInfo} {z : Value} {e : K} (ht1 : ts[0]? = some t) (ht2 : ts[1]? = some t2) (hu : P.underlying t = some (.slice el)) (hu2 : P.underlying t2 = some d2) (hd2 : (∃ e2, d2 = .slice e2) ∨ d2 = .string)
  (hi : P.info? el = some i) (hz : i.zero = some z) (his : i.size = e.size) (hzs : z.cells.size = e.size) {xs ys : List e.den} {ma me m : Mask} {v1 v2 : Value} {F1 F2 : BS}
  (h1 : Enc w θ Z S (.sl e) ma xs [v1] F1) (hown : ma.isOwn = true) {news : List Value} {G2 : Nat → BS} (h2 : Row P w θ Z S e me ys v2 news G2 F2) (hone : ∀ v ∈ news, v.oneCell' = true)
  (hl2 : ∀ w', (Builtin.lenOf v2).run P w' = .ok ys.length w') (hm : m.isOwn = true)
  (c1 : ∀ (w' : World) (x : e.den) (vs : List Value) (G : BS), x ∈ xs → Enc w' θ Z S e ma.elem x vs G → Enc w' θ Z S e m.elem x vs G)
  (c2 : ∀ (w' : World) (x : e.den) (vs : List Value) (G : BS), x ∈ ys → Enc w' θ Z S e me x vs G → Enc w' θ Z S e m.elem x vs G)
  (hdj : Disj F1 F2) (hF1 : ∀ b, F1 b → ¬ Z b ∧ ¬ S b ∧ b < w.heap.size) (hF2 : ∀ b, F2 b → b < w.heap.size) (hro : ∀ b, Z b ∨ S b → b < w.heap.size)
  (hb : (xs.length + ys.length) * i.bytes ≤ 70368744177664) (hb1 : 1 ≤ i.bytes) {M : BS} {a' : World} (hk : Keeps M a' w) (hMF : ∀ b, F1 b → a'.heap.size ≤ b ∨ M b) :
  ∃ v' w', (Builtin.append_ ts ty #[v1, v2]).run P w = .ok v' w' ∧ Keeps M a' w' ∧ w.heap.size ≤ w'.heap.size ∧ (∀ b, b < w.heap.size → ¬ F1 b → w'.heap[b]? = w.heap[b]?) ∧ v'.cells = #[v'] ∧
   ∃ F0, Enc w' θ Z S (.sl e) m (xs ++ ys) [v'] F0 ∧ (∀ b, F0 b → (F1 b ∨ F2 b) ∨ w.heap.size ≤ b) ∧ (∀ b, F0 b → b < w'.heap.size) := by
 have hne : ma ≠ .gone := by rintro rfl; simp [Mask.isOwn] at hown
 have hmne : m ≠ .gone := by rintro rfl; simp [Mask.isOwn] at hm
 obtain ⟨ad, cap, olds, G1, rfl, hcap, R1, hcase⟩ := enc_row P h1 hne
 have hF1s : ∀ j b, G1 j b → F1 b := fun j => R1.sub j
 by_cases hroom : xs.length + ys.length ≤ cap
 ·-- there is room
  rcases hcase with ⟨rfl, rfl⟩ | ⟨b, off, cs, T, fz, rfl, hc, hcs, hok, hGb, rfl⟩
  ·have hy : ys = [] := by simpa using hroom
   subst hy
   have hn : news = [] := List.eq_nil_of_length_eq_zero (by rw [h2.len]; simp)
   subst hn
   refine ⟨_, w, run_append_in (i := i) (news := []) ht1 ht2 hu hu2 hd2 hi hl2 (by have := h2.first w rfl; rw [his]; exact this) hroom (w' := w) (by cases ad <;> simp [storeCells]), hk, Nat.le_refl _, fun _ _ _ => rfl, rfl, noB, .inr (.inl ⟨hmne, rfl, ad, rfl⟩), fun _ h => h.elim, fun _ h => h.elim⟩
  ·have hfz : F1 b ∧ fz = (0, 0) := by cases ma <;> simp_all [Mask.isOwn, slOk]
   obtain ⟨hFb, rfl⟩ := hfz
   have hmul : (xs.length + ys.length) * e.size ≤ cap * e.size := Nat.mul_le_mul_right _ hroom
   rw [Nat.add_mul] at hmul
   have hfit : off + xs.length * e.size + news.length ≤ cs.size := by rw [h2.len]; omega
   have hst := run_storeCells_at P b (off + xs.length * e.size) T news 0 cs w hc (by simpa using hfit) hone
   simp only [Nat.add_zero] at hst
   have hupd : (cs.toList.take (off + xs.length * e.size) ++ news ++ cs.toList.drop (off + xs.length * e.size + news.length)).toArray = updCells cs (off + xs.length * e.size) news := rfl
   rw [hupd] at hst
   have hoth : ∀ b', b' ≠ b → (w.setRow b (updCells cs (off + xs.length * e.size) news)).heap[b']? = w.heap[b']? := fun b' hb' => setRow_other w b b' _ hb'
   have hsize : (w.setRow b (updCells cs (off + xs.length * e.size) news)).heap.size = w.heap.size := by simp [World.setRow]
   refine ⟨_, _, run_append_in (i := i) ht1 ht2 hu hu2 hd2 hi hl2 (by have := h2.first w rfl; rw [his]; exact this) hroom (w' := w.setRow b (updCells cs (off + xs.length * e.size) news)) (by rw [his]; simp only [addr_add]; exact hst), ?_, by omega,
    fun b' _ hb' => hoth b' (by rintro rfl; exact hb' hFb), rfl, fun b' => F1 b' ∨ F2 b', ?_, fun b' hb' => .inl hb', fun b' hb' => by rw [hsize]; exact hb'.elim (fun h => (hF1 _ h).2.2) (hF2 _)⟩
   ·refine ⟨hk.os, hk.tape, hk.output, by rw [hsize]; exact hk.size, fun b' hb' hm' => ?_⟩
    rw [hoth b' ?_]; exact hk.block b' hb' hm'
    rintro rfl
    exact (hMF _ hFb).elim (fun h => by omega) hm'
   ·have hencO : ∀ j x vs, xs[j]? = some x → Enc w θ Z S e ma.elem x vs (G1 j) → Enc (w.setRow b (updCells cs (off + xs.length * e.size) news)) θ Z S e m.elem x vs (G1 j) := by
     intro j x vs hx he
     refine c1 _ x vs _ (List.mem_of_getElem? hx) (he.mono (.refl _) (.refl _) (.refl _) (fun b' hb' => hoth b' ?_) (fun _ _ => rfl))
     rintro rfl
     rcases hb' with hb' | hb'
     ·exact hGb _ hb'
     ·exact hb'.elim (hF1 _ hFb).1 (hF1 _ hFb).2.1
    have hencN : ∀ j x vs, ys[j]? = some x → Enc w θ Z S e me x vs (G2 j) → Enc (w.setRow b (updCells cs (off + xs.length * e.size) news)) θ Z S e m.elem x vs (G2 j) := by
     intro j x vs hx he
     refine c2 _ x vs _ (List.mem_of_getElem? hx) (he.mono (.refl _) (.refl _) (.refl _) (fun b' hb' => hoth b' ?_) (fun _ _ => rfl))
     rintro rfl
     rcases hb' with hb' | hb'
     ·exact hdj _ hFb (h2.sub j _ hb')
     ·exact hb'.elim (hF1 _ hFb).1 (hF1 _ hFb).2.1
    refine .inr (.inr ⟨hmne, b, off, cap, updCells cs (off + xs.length * e.size) news, T, (0, 0), by rw [List.length_append], setRow_heap w b cs _ T _ hc, by rw [List.length_append]; exact hroom, ?_, ?_,
     fun j => if j < xs.length then G1 j else G2 (j - xs.length), fun j => ?_, fun j1 j2 hj => ?_, fun j x hx => ?_⟩)
    ·rw [updCells_size hfit]; exact hcs
    ·cases m <;> simp_all [Mask.isOwn, slOk]
    ·by_cases hj : j < xs.length
     ·simp only [if_pos hj]; exact ⟨fun b' hb' => .inl (hF1s j b' hb'), hGb j⟩
     ·simp only [if_neg hj]; exact ⟨fun b' hb' => .inr (h2.sub _ b' hb'), fun hb' => hdj _ hFb (h2.sub _ _ hb')⟩
    ·by_cases h1' : j1 < xs.length <;> by_cases h2' : j2 < xs.length
     ·simp only [if_pos h1', if_pos h2']; exact R1.disj _ _ hj
     ·simp only [if_pos h1', if_neg h2']; exact hdj.sub (R1.sub _) (h2.sub _)
     ·simp only [if_neg h1', if_pos h2']; exact (hdj.sub (R1.sub _) (h2.sub _)).symm
     ·simp only [if_neg h1', if_neg h2']; exact h2.disj _ _ (by omega)
    ·by_cases hj : j < xs.length
     ·simp only [if_pos hj]
      rw [List.getElem?_append_left hj] at hx
      have hmul2 : j * e.size + e.size ≤ xs.length * e.size := by have := Nat.mul_le_mul_right e.size hj; rw [Nat.succ_mul] at this; exact this
      rw [sub_upd_left hfit (by omega)]
      have := R1.enc j x hx
      rw [sub_drop, sub_take (by omega)] at this
      exact hencO j x _ hx this
     ·simp only [if_neg hj]
      rw [List.getElem?_append_right (by omega)] at hx
      have hjy : j - xs.length < ys.length := (List.getElem?_eq_some_iff.1 hx).1
      have hmul2 : (j - xs.length) * e.size + e.size ≤ news.length := by rw [h2.len]; have := Nat.mul_le_mul_right e.size hjy; rw [Nat.succ_mul] at this; exact this
      have hcells : Go.Abs.sub (updCells cs (off + xs.length * e.size) news) (off + j * e.size) e.size = (news.drop ((j - xs.length) * e.size)).take e.size := by
       have hj2 : j * e.size = xs.length * e.size + (j - xs.length) * e.size := by rw [← Nat.add_mul]; congr 1; omega
       have := sub_upd_same (c := cs) (off := off + xs.length * e.size) (vs := news) hfit
       conv => rhs; rw [← this]
       rw [sub_drop, sub_take (by omega), hj2, ← Nat.add_assoc]
      rw [hcells]
      exact hencN _ x _ hx (h2.enc _ x hx)
 ·-- a new row
  obtain ⟨ncap, hncap, hrun⟩ := run_append_out (P := P) (w := w) (ty := ty) (i := i) (n2 := ys.length) ht1 ht2 hu hu2 hd2 hi hz hl2 (by intro w' hw'; rw [his]; exact h2.first w' hw') (by intro w' hw'; rw [his]; exact R1.first w' hw') (by omega) hb hb1
  have hold : ∀ b, b < w.heap.size → (w.drew.alloc (.cells ((olds ++ news).toArray ++ Builtin.zeroCells z.cells (ncap - (xs.length + ys.length))) el)).heap[b]? = w.heap[b]? := fun b hb => heap_alloc_old w.drew _ b hb
  refine ⟨_, _, hrun, hk.push_of (ob := .cells ((olds ++ news).toArray ++ Builtin.zeroCells z.cells (ncap - (xs.length + ys.length))) el) rfl rfl rfl rfl, by simp, fun b hb _ => hold b hb, rfl, fun b => (F1 b ∨ F2 b) ∨ b = w.heap.size, ?_, fun b hb => hb.imp id (fun h => by omega),
   fun b hb => by simp; rcases hb with (hb | hb) | hb; (have := (hF1 _ hb).2.2; omega); (have := hF2 _ hb; omega); omega⟩
  have hlen : (olds ++ news).length = (xs.length + ys.length) * e.size := by rw [List.length_append, R1.len, h2.len, Nat.add_mul]
  have henc : ∀ {k : Mask} {x : e.den} {vs : List Value} {G : BS}, (∀ b, G b → F1 b ∨ F2 b) → Enc w θ Z S e k x vs G → Enc (w.drew.alloc (.cells ((olds ++ news).toArray ++ Builtin.zeroCells z.cells (ncap - (xs.length + ys.length))) el)) θ Z S e k x vs G := by
   intro k x vs G hG he
   refine he.mono (.refl _) (.refl _) (.refl _) (fun b' hb' => hold b' ?_) (fun _ _ => rfl)
   rcases hb' with hb' | hb'
   ·rcases hG b' hb' with h | h
    ·exact (hF1 _ h).2.2
    ·exact hF2 _ h
   ·exact hro _ hb'
  refine .inr (.inr ⟨hmne, w.heap.size, 0, ncap, _, el, (0, 0), by rw [List.length_append], heap_alloc_new w.drew _, by rw [List.length_append]; exact hncap, ?_, ?_,
   fun j => if j < xs.length then G1 j else G2 (j - xs.length), fun j => ?_, fun j1 j2 hj => ?_, fun j x hx => ?_⟩)
  ·simp only [Array.size_append, List.size_toArray, hlen, size_zeroCells, hzs, Nat.zero_add]
   rw [← Nat.add_mul]
   exact Nat.mul_le_mul_right _ (by omega)
  ·cases m <;> simp_all [Mask.isOwn, slOk]
  ·by_cases hj : j < xs.length
   ·simp only [if_pos hj]; exact ⟨fun b' hb' => .inl (.inl (hF1s j b' hb')), fun hb' => by have := (hF1 _ (hF1s j _ hb')).2.2; omega⟩
   ·simp only [if_neg hj]; exact ⟨fun b' hb' => .inl (.inr (h2.sub _ b' hb')), fun hb' => by have := hF2 _ (h2.sub _ _ hb'); omega⟩
  ·by_cases h1' : j1 < xs.length <;> by_cases h2' : j2 < xs.length
   ·simp only [if_pos h1', if_pos h2']; exact R1.disj _ _ hj
   ·simp only [if_pos h1', if_neg h2']; exact hdj.sub (R1.sub _) (h2.sub _)
   ·simp only [if_neg h1', if_pos h2']; exact (hdj.sub (R1.sub _) (h2.sub _)).symm
   ·simp only [if_neg h1', if_neg h2']; exact h2.disj _ _ (by omega)
  ·have hsub : ∀ p q, p + q ≤ (olds ++ news).length → Go.Abs.sub ((olds ++ news).toArray ++ Builtin.zeroCells z.cells (ncap - (xs.length + ys.length))) p q = ((olds ++ news).drop p).take q := by
    intro p q hpq
    unfold Go.Abs.sub
    rw [Array.toList_append]
    show (((olds ++ news) ++ _).drop p).take q = _
    rw [List.drop_append_of_le_length (by omega), List.take_append_of_le_length (by simp only [List.length_drop]; omega)]
   by_cases hj : j < xs.length
   ·simp only [if_pos hj]
    rw [List.getElem?_append_left hj] at hx
    have hmul2 : j * e.size + e.size ≤ xs.length * e.size := by have := Nat.mul_le_mul_right e.size hj; rw [Nat.succ_mul] at this; exact this
    rw [Nat.zero_add, hsub _ _ (by rw [hlen, Nat.add_mul]; omega), List.drop_append_of_le_length (by rw [R1.len]; omega), List.take_append_of_le_length (by simp only [List.length_drop, R1.len]; omega)]
    exact c1 _ x _ _ (List.mem_of_getElem? hx) (henc (fun b hb => .inl (hF1s j b hb)) (R1.enc j x hx))
   ·simp only [if_neg hj]
    rw [List.getElem?_append_right (by omega)] at hx
    have hjy : j - xs.length < ys.length := (List.getElem?_eq_some_iff.1 hx).1
    have hmul2 : (j - xs.length) * e.size + e.size ≤ ys.length * e.size := by have := Nat.mul_le_mul_right e.size hjy; rw [Nat.succ_mul] at this; exact this
    have hj2 : j * e.size = xs.length * e.size + (j - xs.length) * e.size := by rw [← Nat.add_mul]; congr 1; omega
    rw [Nat.zero_add, hsub _ _ (by rw [hlen, Nat.add_mul]; omega), hj2, ← List.drop_drop, ← R1.len, List.drop_left]
    exact c2 _ x _ _ (List.mem_of_getElem? hx) (henc (fun b hb => .inr (h2.sub _ b hb)) (h2.enc _ x hx))
end
end Go.Abs

namespace Go.Abs
section
variable {P : Program} {V : Env} {w0 w : World} {M0 : BS} {n : Nat} {C0 C : Ctx} {s : St} {a : Act}
variable {R' : Type} {r : R'} {o : Oper} {c : Del → Option R'}
theorem readSl_enc (R : Rel w0 M0 n C0 C s a w) {e : K} {av : AV} {v : Value} (hv : VRel w C s.roots v av) {R' : Type} {r : R'} {c : List e.den → Mask → Option R'}
  (h : readSl s.roots [] e av c = some r) : ∃ xs m F, c xs m = some r ∧ m.live = true ∧ Enc w C.θ C.Z C.S (.sl e) m xs [v] F ∧ AVC w C s.roots av [v] ∧ av.isLeaf = true ∧
   ∀ p ∈ ptrsOf (.sl e) xs, ∃ q x, s.roots q = some x ∧ p ∈ ptrsOf x.k x.d := by
 unfold readSl at h
 split at h
 ·refine ⟨_, _, noB, h, rfl, .inr (.inl ⟨by simp, rfl, none, by rw [hv.nil]⟩), (hv.cell (by simp) rfl (by simp) (by simp)).1, rfl, fun p hp => by rw [ptrsOf_nil] at hp; cases hp⟩
 ·obtain ⟨a', hv'⟩ := hv.emp
  refine ⟨_, _, noB, h, rfl, .inr (.inl ⟨by simp, rfl, a', by rw [hv']⟩), (hv.cell (by simp) rfl (by simp) (by simp)).1, rfl, fun p hp => by rw [ptrsOf_nil] at hp; cases hp⟩
 ·split at h
  case isFalse => simp at h
  case isTrue hk =>
  subst hk
  obtain ⟨hA, _⟩ := hv.cell (by simp) rfl (by simp) (by simp)
  exact ⟨_, _, noB, h, rfl, hA.2, hA, rfl, fun p hp => by rw [ptrsOf_plain _ hA.1] at hp; cases hp⟩
 ·split at h
  case isFalse => simp at h
  case isTrue hk =>
  subst hk
  obtain ⟨hA, _⟩ := hv.cell (by simp) rfl (by simp) (by simp)
  exact ⟨_, _, noB, h, rfl, hA.2.1, hA, rfl, fun p hp => by rw [ptrsOf_plain (k := .sl _) _ hA.1] at hp; cases hp⟩
 ·rename_i q p
  obtain ⟨hA, _⟩ := hv.cell (by simp) rfl (by simp) (by simp)
  have hA' := hA
  obtain ⟨v', hvv, hroot⟩ := hA'
  simp only [List.cons.injEq, and_true] at hvv
  subst hvv
  split at h
  case h_1 => simp at h
  case h_2 x hx =>
  have hx : s.roots q = some x := hx
  obtain ⟨k', d, m, vs, b1, hp, hc⟩ := place_get (R.mem.ok _ _ hx) h
  obtain ⟨e', base, g1, g2, g3⟩ := hroot x hx
  split at hc
  case isFalse => simp at hc
  case isTrue hk =>
  subst hk
  cases hl : m.live with
  | false => simp [hl] at hc
  | true =>
  simp only [hl, cond_true] at hc
  have := hp.lc; rw [g3] at this
  simp only [Option.some.injEq, Prod.mk.injEq] at this
  obtain ⟨rfl, rfl⟩ := this
  obtain ⟨F, henc⟩ := hp.enc
  exact ⟨_, _, F, hc, hl, henc, hA, rfl, fun p hp' => ⟨q, x, hx, hp.ptrs p hp'⟩⟩
 ·rename_i q p lo nn
  obtain ⟨hA, _⟩ := hv.cell (by simp) rfl (by simp) (by simp)
  have hA' := hA
  obtain ⟨v', v0, hvv, hroot⟩ := hA'
  simp only [List.cons.injEq, and_true] at hvv
  subst hvv
  split at h
  case h_1 => simp at h
  case h_2 x hx =>
  have hx : s.roots q = some x := hx
  obtain ⟨k', d, m, vs, b1, hp, hc⟩ := place_get (R.mem.ok _ _ hx) h
  obtain ⟨e', base, g1, g2, g3, g4⟩ := hroot x hx
  split at hc
  case isFalse => simp at hc
  case isTrue hk =>
  subst hk
  cases hl : m.live with
  | false => simp [hl] at hc
  | true =>
  simp only [hl, cond_true] at hc
  have := hp.lc; rw [g3] at this
  simp only [Option.some.injEq, Prod.mk.injEq] at this
  obtain ⟨rfl, rfl⟩ := this
  obtain ⟨F, henc⟩ := hp.enc
  have := hp.at_; rw [g1] at this
  simp only [Option.some.injEq, K.sl.injEq] at this
  subst this
  exact ⟨_, _, F, hc, hl, enc_slc henc (Mask.live_ne hl) g4, hA, rfl, fun p hp' => ⟨q, x, hx, hp.ptrs p (ptrsOf_part hp')⟩⟩
 ·simp at h
theorem takeDst_shape {rs : RF} {e : K} {u : U} {av : AV} {c : List e.den → Mask → U → List Kill → List RName → Option R'} (h : takeDst rs e u av c = some r) :
  av.isLeaf = true ∧ av ≠ .dead ∧ av.agg = false ∧ av ≠ .tnil ∧ ∀ x y, av ≠ .tcons x y := by
 unfold takeDst at h
 split at h <;> first | exact ⟨rfl, by simp, rfl, by simp, by simp⟩ | (simp at h; done)
theorem mkSl_elem (m : Mask) : (Mask.mkSl m).elem = m := by cases m <;> rfl
theorem mkSl_own (m : Mask) : (Mask.mkSl m).isOwn = true := by cases m <;> rfl
theorem mem_ptrs_append {e : K} {xs ys : List e.den} {p : RName} (h : p ∈ ptrsOf (.sl e) (xs ++ ys)) : p ∈ ptrsOf (.sl e) xs ∨ p ∈ ptrsOf (.sl e) ys := by
 simp only [ptrsOf] at h ⊢
 cases hp : e.plain with
 | true => rw [hp] at h; simp at h
 | false =>
  rw [hp] at h
  simp only [cond_false, List.flatMap_append, List.mem_append] at h ⊢
  exact h
theorem run_appendOp {args : Array Operand} {ts : Array TypeId} (ho : o.op = .call { callee := .builtin .append, args := args, argTypes := ts }) {y1 y2 : Operand} (hy : args.toList = [y1, y2])
  {v' : Value} {w' : World} (h : ∀ ty, (Builtin.append_ ts ty #[a.eval y1, a.eval y2]).run P w = .ok v' w') : (execOp a.eval o).run P w = .ok (.value v') w' := by
 have hargs : args.map a.eval = #[a.eval y1, a.eval y2] := builtin_args (by rw [hy]; rfl)
 simp only [execOp, ho, resolve, Sem.run_bind, Sem.run_pure, Result.andThen_ok, invoke, builtin, hargs, h]
theorem string_row (P : Program) (w : World) (θ : RName → Nat) (Z S : BS) (y : ByteArray) :
  Row P w θ Z S (.int .u8) .own (y.data.toList.map fun b => (b.toNat : Int)) (.string y) (y.data.toList.map fun b => Value.int .u8 (b.toNat : Int)) (fun _ => noB) noB := by
 refine ⟨by simp [K.size], fun i x hx => ?_, fun _ _ h => h.elim, fun _ _ _ _ h => h.elim, fun w' _ => ?_⟩
 ·rw [List.getElem?_map] at hx
  cases hb : y.data.toList[i]? with
  | none => rw [hb] at hx; simp at hx
  | some b =>
   rw [hb] at hx
   simp only [Option.map_some, Option.some.injEq] at hx
   subst hx
   show _ = _
   have hi : i < y.data.toList.length := (List.getElem?_eq_some_iff.1 hb).1
   have hbi : y.data.toList[i] = b := (List.getElem?_eq_some_iff.1 hb).2
   simp only [K.size, Nat.mul_one]
   rw [List.drop_eq_getElem_cons (by simpa using hi)]
   simp [hbi]
 ·have hx : (y.extract 0 y.data.toList.length).data.map (fun b => Value.int .u8 (b.toNat : Int)) = (y.data.toList.map fun b => Value.int .u8 (b.toNat : Int)).toArray := by
   have h1 : (y.extract 0 y.data.toList.length).data = y.data := by simp
   rw [h1]; apply Array.ext'; simp
  simp only [Builtin.firstCells, List.length_map, Sem.run_pure, hx]
theorem madeCells_append (z : Array Value) (x y : Nat) : madeCells z (x * z.size) ++ madeCells z (y * z.size) = madeCells z ((x + y) * z.size) := by
 apply Array.ext
 ·simp [size_madeCells, Nat.add_mul]
 ·intro j h1 h2
  rw [Array.getElem_append]
  simp only [madeCells, Array.getElem_map, Array.getElem_range, Array.size_map, Array.size_range]
  split
  ·rfl
  ·rename_i h
   congr 1
   have : j = (j - x * z.size) + z.size * x := by rw [Nat.mul_comm z.size x]; omega
   conv => rhs; rw [this]
   rw [Nat.add_mul_mod_self_left]
theorem run_append_make {ts : Array TypeId} {t t2 ty el : TypeId} {ik : IntKind} {i : TypeInfo} {z : Value} (ht1 : ts[0]? = some t) (ht2 : ts[1]? = some t2) (hu : P.underlying t = some (.slice el)) (hu2 : P.underlying t2 = some (.int ik))
  (hi : P.info? el = some i) (hz : i.zero = some z) (hs : 1 ≤ i.size) {k : IntKind} {x : Int} (h0 : 0 ≤ x) (hb : x.toNat * i.bytes ≤ 70368744177664) (hb1 : 1 ≤ i.bytes) :
  (x.toNat = 0 ∧ (Builtin.append_ ts ty #[.slice none 0 0, .int k x]).run P w = .ok (.slice none 0 0) w) ∨
  (∃ cap, x.toNat ≤ cap ∧ (Builtin.append_ ts ty #[.slice none 0 0, .int k x]).run P w = .ok (.slice (some ⟨w.heap.size, 0, none⟩) x.toNat cap)
   (w.drew.alloc (.cells (madeCells z.cells (x.toNat * z.cells.size) ++ madeCells z.cells ((cap - x.toNat) * z.cells.size)) el))) := by
 obtain ⟨m, rfl⟩ := Int.eq_ofNat_of_zero_le h0
 have h3 := append_bounds hb hb1
 simp only [Int.toNat_natCast] at *
 have hw : IntKind.i64.wrap (m : Int) = m := by
  rw [IntKind.wrap_i64]; omega
 have h48' : ¬ ((281474976710656 : Int) < (m : Int) * (i.bytes : Int)) := by
  have h4 : ((m * i.bytes : Nat) : Int) ≤ 70368744177664 := Int.ofNat_le.2 hb
  rw [Int.natCast_mul] at h4
  omega
 by_cases hm : m = 0
 ·subst hm
  left
  refine ⟨rfl, ?_⟩
  have hw0 : IntKind.i64.wrap 0 = 0 := hw
  simp [hw0, Builtin.append_, ht1, ht2, run_underlying hu, run_underlying hu2, sizeOf, typeInfo, hi, asInt, asIntOf]
 ·right
  have hn : ¬ (m ≤ 0) := by omega
  have h63 : ¬ (9223372036854775807 < (m : Int)) := by omega
  have h48 : ¬ (281474976710656 < Builtin.nextslicecap m 0 * i.bytes) := by have := growslice_fits (old := 0) (by omega : 0 < m) (by omega : m * i.bytes ≤ 140737488355328); omega
  refine ⟨grownCap w m 0 el, grownCap_ge w _ _ _, ?_⟩
  simp [Builtin.append_, ht1, ht2, run_underlying hu, run_underlying hu2, sizeOf, typeInfo, zeroValue, hi, hz, asInt, asIntOf, hw, h63, h48, h48', Question.forced, run_firstCells_none, newRow, grownCap]
  have hms : ¬ (m = 0 ∨ i.size = 0) := by omega
  have hneg : ¬ ((m : Int) < 0) := by omega
  rw [if_neg hneg, if_neg hm, if_neg (by rw [Nat.mul_eq_zero]; exact hms)]
  rfl
theorem does_appendMake (hT : TysOK P V) (R : Rel w0 M0 n C0 C s a w) {args : Array Operand} {ts : Array TypeId} (ho : o.op = .call { callee := .builtin .append, args := args, argTypes := ts }) {y1 y2 : Operand} (hy : args.toList = [y1, y2])
  (h : appendMake V ts (o.dst.getD 0) (evalAV s.tmps y1) (evalAV s.tmps y2) c = some r) : ∃ x, c x = some r ∧ Does P w0 M0 n C0 s a w o x := by
 unfold appendMake at h
 split at h
 case h_2 => simp at h
 case h_1 zz kk x ik e bytes el e1 e2 hk2 hti0 =>
 obtain ⟨t, ht1, hti⟩ : ∃ t, ts[0]? = some t ∧ V.ti t = some ⟨.sl e, bytes, el⟩ := by
  cases hh : ts[0]? with
  | none => simp [hh] at hti0
  | some t => exact ⟨t, rfl, by simpa [hh] using hti0⟩
 obtain ⟨t2, ht2, hk2⟩ : ∃ t2, ts[1]? = some t2 ∧ V.k t2 = some (.int ik) := by
  cases hh : ts[1]? with
  | none => simp [hh] at hk2
  | some t2 => exact ⟨t2, rfl, by simpa [hh] using hk2⟩
 obtain ⟨ti2, hti2, hk2'⟩ := Env.k_ti hk2
 obtain ⟨d2, hd2, hD2⟩ := (hT.ty _ _ hti2).desc
 simp only [DOK, hk2'] at hD2
 subst hD2
 split at h
 case h_1 => simp at h
 case h_2 te hte =>
 split at h
 case isFalse => simp at h
 case isTrue hcond =>
 obtain ⟨rfl, h0, hbytes, hb1⟩ := hcond
 obtain ⟨d, hd, hdok⟩ := (hT.ty _ _ hti).desc
 obtain ⟨rfl, te', hte', _, hsz⟩ := hdok
 simp only at hte'
 rw [hte] at hte'
 cases hte'
 obtain ⟨i, z, hi, hs, hb, hz, hzc, hzs⟩ := (hT.ty _ _ hte).zeroOf
 have el1 : a.eval y1 = .slice none 0 0 := by have := R.eval y1; rw [e1] at this; exact this.nil
 have el2 : a.eval y2 = .int kk x := by have := R.eval y2; rw [e2] at this; exact this.int
 rcases run_append_make (P := P) (w := w) (ty := 0) (k := kk) ht1 ht2 hd hd2 hi hz (by omega) h0 (by rw [hb]; simpa [appendMax] using hbytes) (by rw [hb]; exact hb1) with ⟨hx0, hrun⟩ | ⟨cap, hcap, hrun⟩
 ·refine ⟨_, h, does_sl (u' := []) (ks := []) (q := []) (G := noB) (F0 := noB) R (.refl R.mem) (run_appendOp ho hy (fun ty => by rw [el1, el2]; exact hrun)) R.kept (Nat.le_refl _) (fun b _ _ => rfl) (fun b hb => hb.elim) (fun b hb => hb.elim) ?_ rfl ?_ (by simp)⟩
  ·exact .inr (.inl ⟨by simp, by rw [hx0]; rfl, none, rfl⟩)
  ·intro p hp; rw [hx0] at hp; simp only [List.replicate_zero] at hp; rw [ptrsOf_nil] at hp; cases hp
 rw [madeCells_append] at hrun
 rw [show x.toNat + (cap - x.toNat) = cap by omega] at hrun
 have hrun' := run_appendOp (a := a) ho hy (fun ty => by rw [el1, el2]; exact hrun)
 refine ⟨_, h, does_sl (u' := []) (ks := []) (q := []) (G := noB) (F0 := fun b => b = w.heap.size) R (.refl R.mem) hrun' (R.kept.push_of (ob := .cells (madeCells z.cells (cap * z.cells.size)) el) rfl rfl rfl rfl) (by simp)
  (fun b hb _ => heap_alloc_old w.drew _ b hb) (fun b hb => .inr (by omega)) (fun b hb => by simp [hb]) ?_ rfl ?_ (by simp)⟩
 ·refine .inr (.inr ⟨by simp, w.heap.size, 0, cap, madeCells z.cells (cap * z.cells.size), el, (0, 0), by simp, heap_alloc_new w.drew _, by simpa using hcap, ?_, ⟨rfl, rfl⟩, fun _ => noB, fun j => ⟨fun _ h => h.elim, fun h => h.elim⟩, fun _ _ _ _ h => h.elim, fun j x' hx => ?_⟩)
  ·rw [size_madeCells, hzs]; omega
  ·rw [List.getElem?_replicate] at hx
   split at hx
   case isFalse => simp at hx
   case isTrue hj =>
   cases hx
   have := made_sub (z := z.cells) (N := cap * z.cells.size) (i := j) (Nat.mul_le_mul_right _ (by omega))
   rw [hzs] at this
   rw [Nat.zero_add, hzs, this, hzc]
   exact Enc.zero
 ·intro p hp
  simp only [ptrsOf] at hp
  cases hpl : te.k.plain with
  | true => simp [hpl] at hp
  | false =>
   simp only [hpl, cond_false, List.mem_flatMap] at hp
   obtain ⟨y, hy, hp⟩ := hp
   rw [List.eq_of_mem_replicate hy, ptrsOf_zero] at hp
   cases hp
theorem does_append (hT : TysOK P V) (R : Rel w0 M0 n C0 C s a w) {args : Array Operand} {ts : Array TypeId} (ho : o.op = .call { callee := .builtin .append, args := args, argTypes := ts })
  (h : denOp V o s.tmps s.roots c = some r) : ∃ x, c x = some r ∧ Does P w0 M0 n C0 s a w o x := by
 simp only [denOp, ho] at h
 unfold denBuiltin at h
 split at h
 case h_2 x1 x2 e1 e2 =>
  obtain ⟨y1, y2, hy, hy1, hy2⟩ : ∃ y1 y2, args.toList = [y1, y2] ∧ evalAV s.tmps y1 = x1 ∧ evalAV s.tmps y2 = x2 := by
   match hh : args.toList, e2 with
   | [y1, y2], e2 => exact ⟨y1, y2, rfl, by simpa using e2⟩
  have hv1 := R.eval y1
  have hv2 := R.eval y2
  rw [hy1] at hv1; rw [hy2] at hv2
  split at h
  case h_2 => simp at h
  case h_1 e bytes el hti0 =>
  obtain ⟨t, ht1, hti⟩ : ∃ t, ts[0]? = some t ∧ V.ti t = some ⟨.sl e, bytes, el⟩ := by
   cases hh : ts[0]? with
   | none => simp [hh] at hti0
   | some t => exact ⟨t, rfl, by simpa [hh] using hti0⟩
  cases hnr : notRow (ts[1]?.bind V.k) with
  | true =>
   rw [hnr] at h
   simp only [cond_true] at h
   subst hy1 hy2
   exact does_appendMake hT R ho hy h
  | false =>
  rw [hnr] at h
  simp only [cond_false] at h
  obtain ⟨t2, d2, ht2, hu2, hd2⟩ : ∃ t2 d2, ts[1]? = some t2 ∧ P.underlying t2 = some d2 ∧ ((∃ e2, d2 = .slice e2) ∨ d2 = .string) := by
   cases hh : ts[1]? with
   | none => rw [hh] at hnr; simp [notRow] at hnr
   | some t2 =>
    rw [hh] at hnr
    simp only [Option.bind_some] at hnr
    cases hk : V.k t2 with
    | none => rw [hk] at hnr; simp [notRow] at hnr
    | some k =>
     rw [hk] at hnr
     obtain ⟨ti2, hti2, hk2⟩ := Env.k_ti hk
     obtain ⟨d, hd, hD⟩ := (hT.ty _ _ hti2).desc
     simp only [DOK, hk2] at hD
     cases k <;> simp only [notRow] at hnr <;> first | (cases hnr; done) | skip
     ·exact ⟨t2, d, rfl, hd, .inr hD⟩
     ·exact ⟨t2, d, rfl, hd, .inl ⟨_, hD.1⟩⟩
  split at h
  case h_1 => simp at h
  case h_2 te hte =>
  split at h
  case isFalse => simp at h
  case isTrue hke =>
  obtain ⟨d, hd, hdok⟩ := (hT.ty _ _ hti).desc
  obtain ⟨rfl, te', hte', hk', hsz⟩ := hdok
  simp only at hte' hk'
  rw [hte] at hte'
  cases hte'
  obtain ⟨i, z, hi, hs, hb, hz, hzc, hzs⟩ := (hT.ty _ _ hte).zeroOf
  rw [hke] at hs hzs hsz
  have hshape := takeDst_shape h
  obtain ⟨hA1, hc1⟩ := hv1.cell hshape.2.1 hshape.2.2.1 hshape.2.2.2.1 hshape.2.2.2.2
  obtain ⟨xs, ma, u1, k1, g1, C1, G1, g, hown, Fd1, henc1, _, hptr1⟩ := takeDst_sound (u := []) R.mem hA1 h
  clear h
  have hG1 : ∀ b, G1 b → ¬ C.Z b ∧ ¬ C.S b ∧ b < w.heap.size := fun b hb => Fd1.free R.mem hb
  have hG1M : ∀ b, G1 b → w0.heap.size ≤ b ∨ M0 b := by
   intro b hb
   obtain ⟨r1, y, hy, hb⟩ := Fd1.gfoot b hb
   exact R.foot r1 y b hy hb
  have hptr1' : ∀ p ∈ ptrsOf (.sl e) xs, ∃ q x, s.roots q = some x ∧ p ∈ ptrsOf x.k x.d := hptr1
  have hro : ∀ b, C.Z b ∨ C.S b → b < w.heap.size := R.mem.ro
  have hmo : (Mask.own).isOwn = true := rfl
  split at g
  ·-- the bytes of a string
   rename_i zz y
   split at g
   case h_2 => simp at g
   case h_1 =>
   split at g
   case isFalse => simp at g
   case isTrue hbound =>
   have hst := hv2.str
   have hrow := string_row P w C.θ C.Z C.S y
   obtain ⟨v', w', hrun, hk, hsz', hblk, hcell, F0, henc, hF0, hF1⟩ := append_enc (P := P) (ty := 0) ht1 ht2 hd hu2 hd2 hi hz hs hzs henc1 hown (m := .own) (v2 := .string y) hrow (by
     intro v hv
     simp only [List.mem_map] at hv
     obtain ⟨b, _, rfl⟩ := hv
     rfl) (by intro w'; simp [Builtin.lenOf]) rfl (fun _ _ _ _ _ he => Enc.flat rfl he) (fun _ _ _ _ _ he => he) (fun _ _ h => h.elim) hG1 (fun _ h => h.elim) hro (by
     rw [hb]; simpa [appendMax] using hbound.1) (by rw [hb]; exact hbound.2) R.kept hG1M
   refine ⟨_, g, does_sl (F0 := F0) R Fd1 (run_appendOp ho hy (fun ty => by rw [hst]; exact hrun)) hk hsz' hblk (fun b hb => (hF0 b hb).imp (fun h => h.elim id (fun h => h.elim)) id) hF1 henc hcell ?_ (by simp)⟩
   intro p hp
   rw [ptrsOf_plain _ rfl] at hp; cases hp
  ·obtain ⟨ys, my, Fy, g, hlive, hency, hA2, hleaf, hptr2⟩ := readSl_enc R hv2 g
   obtain ⟨ad, cap, news, G2, hv2e, _, hrow, _⟩ := enc_row P hency (Mask.live_ne hlive)
   split at g
   case isFalse => simp at g
   case isTrue hbound =>
   have hl2 : ∀ w', (Builtin.lenOf (a.eval y2)).run P w' = .ok ys.length w' := by intro w'; rw [hv2e]; simp [Builtin.lenOf]
   have hone : ∀ v ∈ news, v.oneCell' = true := by
    refine rows_mem hrow.len fun i hi v hv => ?_
    exact (hrow.enc i ys[i] (List.getElem?_eq_getElem hi)).one (Mask.live_elem hlive) v hv
   cases hf : e.flat with
   | true =>
    simp only [hf, cond_true] at g
    have hrow' : Row P w C.θ C.Z C.S e .own ys (a.eval y2) news (fun _ => noB) noB :=
     ⟨hrow.len, fun i x hx => Enc.flat hf (hrow.enc i x hx), fun _ _ h => h.elim, fun _ _ _ _ h => h.elim, hrow.first⟩
    obtain ⟨v', w', hrun, hk, hsz', hblk, hcell, F0, henc, hF0, hF1⟩ := append_enc (P := P) (ty := 0) ht1 ht2 hd hu2 hd2 hi hz hs hzs henc1 hown (m := .own) hrow' hone hl2 rfl
     (fun _ _ _ _ _ he => Enc.flat hf he) (fun _ _ _ _ _ he => he) (fun _ _ h => h.elim) hG1 (fun _ h => h.elim) hro (by rw [hb]; exact hbound.1) (by rw [hb]; exact hbound.2) R.kept hG1M
    refine ⟨_, g, does_sl (F0 := F0) R Fd1 (run_appendOp ho hy (fun ty => hrun)) hk hsz' hblk (fun b hb => (hF0 b hb).imp (fun h => h.elim id (fun h => h.elim)) id) hF1 henc hcell ?_ (by simp)⟩
    intro p hp
    right
    rcases mem_ptrs_append hp with hp | hp
    ·exact hptr1' p hp
    ·exact hptr2 p hp
   | false =>
    simp only [hf, cond_false] at g
    cases hpl : (e.plain && !hit k1 x2) with
    | false => rw [hpl] at g; simp at g
    | true =>
    rw [hpl] at g
    simp only [cond_true] at g
    simp only [Bool.and_eq_true, Bool.not_eq_true'] at hpl
    have hA2' := Fd1.leaf _ _ hleaf hpl.2 hA2
    -- what is put behind
    have hsrc : ∃ ys' mb u2 k2 g2 C2 G2u, (match joinMask e xs.isEmpty ma mb with
       | some m => bif !mb.live then none else c ⟨.ref (loc (o.dst.getD 0) 0) [], (loc (o.dst.getD 0) 0, some ⟨false, .sl e, m, xs ++ ys'⟩) :: u2, true, k1 ++ k2, [], none, x1.names ++ x2.names, g1 ++ g2, false⟩
       | none => none) = some r ∧ Freed w C1 C2 (look s.roots u1) (look s.roots u2) k2 G2u ∧ Enc w C.θ C.Z C.S (.sl e) mb ys' [a.eval y2] G2u := by
     unfold takeSrc at g
     split at g
     ·split at g
      case isFalse => simp at g
      case isTrue hk =>
      subst hk
      refine ⟨_, _, _, _, _, C1, noB, g, .refl Fd1.mem, ?_⟩
      exact hA2.2
     ·obtain ⟨ys', mb, u2, k2, g2, C2, G2u, gg, _, Fd2, henc2, _⟩ := takeDst_sound Fd1.mem hA2' g
      refine ⟨ys', mb, u2, k2, g2, C2, G2u, gg, Fd2, ?_⟩
      rw [← Fd1.θ, ← Fd1.Z, ← Fd1.S]; exact henc2
    obtain ⟨ys', mb, u2, k2, g2, C2, G2u, g, Fd2, henc2⟩ := hsrc
    split at g
    case h_2 => simp at g
    case h_1 m hjoin =>
    cases hml : mb.live with
    | false => rw [hml] at g; simp at g
    | true =>
    rw [hml] at g
    simp only [Bool.not_true, cond_false] at g
    obtain ⟨ad', cap', news', G2', hv2e', _, hrow', _⟩ := enc_row P henc2 (Mask.live_ne hml)
    have hyl : ys'.length = ys.length := by rw [hv2e] at hv2e'; simp only [Value.slice.injEq] at hv2e'; exact hv2e'.2.1.symm
    have hone' : ∀ v ∈ news', v.oneCell' = true := by
     refine rows_mem hrow'.len fun i hi v hv => ?_
     exact (hrow'.enc i ys'[i] (List.getElem?_eq_getElem hi)).one (Mask.live_elem hml) v hv
    have hjm : m.isOwn = true ∧ m.elem = mb.elem ∧ (xs = [] ∨ m.elem = ma.elem) := by
     unfold joinMask at hjoin
     simp only [hf, cond_false] at hjoin
     split at hjoin
     ·rename_i heq
      simp only [Option.some.injEq] at hjoin
      subst hjoin
      exact ⟨mkSl_own _, by rw [mkSl_elem, heq], .inr (mkSl_elem _)⟩
     ·cases hx : xs.isEmpty with
      | true =>
       rw [hx] at hjoin
       simp only [cond_true, Option.some.injEq] at hjoin
       subst hjoin
       exact ⟨mkSl_own _, mkSl_elem _, .inl (by simpa using hx)⟩
      | false =>
       rw [hx] at hjoin
       simp at hjoin
    have hG2 : ∀ b, G2u b → b < w.heap.size := fun b hb => (Fd2.free Fd1.mem hb).2.2
    have hdj : Disj G1 G2u := by
     intro b hb1 hb2
     obtain ⟨r1, y, hy, hb⟩ := Fd2.gfoot b hb2
     exact Fd1.gdisj r1 y hy b hb1 hb
    obtain ⟨v', w', hrun, hk, hsz', hblk, hcell, F0, henc, hF0, hF1⟩ := append_enc (P := P) (ty := 0) ht1 ht2 hd hu2 hd2 hi hz hs hzs henc1 hown (m := m) hrow' hone' (by intro w'; rw [hyl]; exact hl2 w') hjm.1
     (fun w' x vs G hx he => by
      rcases hjm.2.2 with h | h
      ·rw [h] at hx; cases hx
      ·rw [h]; exact he) (fun _ _ _ _ _ he => by rw [hjm.2.1]; exact he) hdj hG1 hG2 hro (by rw [hb, hyl]; exact hbound.1) (by rw [hb]; exact hbound.2) R.kept hG1M
    refine ⟨_, g, does_sl (F0 := F0) R (Fd1.trans Fd2) (run_appendOp ho hy (fun ty => hrun)) hk hsz' (fun b hb hg => hblk b hb (fun h => hg (.inl h))) hF0 hF1 henc hcell ?_ (by simp)⟩
    intro p hp
    rw [ptrsOf_plain _ (by simpa [K.plain] using hpl.1)] at hp; cases hp
 all_goals simp_all
end
end Go.Abs

namespace Go.Abs
section
variable {P : Program} {V : Env} {w0 w : World} {M0 : BS} {n : Nat} {C0 C : Ctx} {s : St} {a : Act}
variable {R' : Type} {r : R'} {o : Oper} {c : Del → Option R'}
theorem sub_all {c : Array Value} {vs : List Value} (h : sub c 0 vs.length = vs) (hs : c.size = vs.length) : c = vs.toArray := by
 apply Array.ext'
 unfold sub at h
 simp only [List.drop_zero] at h
 rw [List.take_of_length_le (by simp [hs])] at h
 exact h
theorem setP_block {θ : RName → Nat} {Z S : BS} {R : Type} {r : R} {k1 : K} {d1 : k1.den} {m1 : Mask} {b off : Nat} : ∀ (p : Path) {k : K} {m : Mask} {d : k.den} {vs : List Value} {F : BS} {base : Option (Nat × Nat)} {c : k.den → Mask → Option R} {old : List Value},
  setP k d m p k1 d1 m1 c = some r → Enc w θ Z S k m d vs F → (∀ x, base = some x → ∃ cs T, w.heap[x.1]? = some (.cells cs T (0, 0))) → locv w k vs base p = some (old, some (b, off)) →
  (∃ cs T, w.heap[b]? = some (.cells cs T (0, 0))) ∧ (F b ∨ ∃ o0, base = some (b, o0)) ∧ k.at p = some k1 := by
 intro p
 induction p with
 | nil =>
  intro k m d vs F base c old h he hb hloc
  rw [locv_nil] at hloc
  simp only [Option.some.injEq, Prod.mk.injEq] at hloc
  have h' : (if hk : k1 = k then c (hk ▸ d1) (bif k.flat then m else m1) else none) = some r := by cases k <;> exact h
  split at h'
  case isFalse => simp at h'
  case isTrue hk => exact ⟨hb _ hloc.2, .inr ⟨off, hloc.2⟩, by rw [at_nil, hk]⟩
 | cons st p ih =>
  intro k m d vs F base c old h he hb hloc
  cases st with
  | fst =>
   cases k with
   | pair ka kb =>
    obtain ⟨v1, v2, Fa, Fb, rfl, s1, s2, dj, h1, h2⟩ := he
    simp only [locv] at hloc
    rw [← h1.len, List.take_left] at hloc
    obtain ⟨g1, g2, g3⟩ := ih (k := ka) h h1 hb hloc
    exact ⟨g1, g2.imp (s1 _) id, g3⟩
   | _ => simp [setP] at h
  | snd =>
   cases k with
   | pair ka kb =>
    obtain ⟨v1, v2, Fa, Fb, rfl, s1, s2, dj, h1, h2⟩ := he
    simp only [locv] at hloc
    rw [← h1.len, List.drop_left] at hloc
    obtain ⟨g1, g2, g3⟩ := ih (k := kb) h h2 (fun x hx => by
     cases base with
     | none => simp at hx
     | some y => simp only [Option.map_some, Option.some.injEq] at hx; subst hx; exact hb y rfl) hloc
    refine ⟨g1, g2.imp (s2 _) ?_, g3⟩
    rintro ⟨o0, ho⟩
    cases base with
    | none => simp at ho
    | some y => simp only [Option.map_some, Option.some.injEq, Prod.mk.injEq] at ho; exact ⟨y.2, by rw [← ho.1]⟩
   | _ => simp [setP] at h
  | idx i =>
   cases k with
   | sl e =>
    simp only [setP] at h
    split at h
    case h_2 => simp at h
    case h_1 x hx =>
    cases hown : m.isOwn with
    | false => simp [hown] at h
    | true =>
    simp only [hown, cond_true] at h
    rcases he with ⟨rfl, _⟩ | ⟨_, rfl, _⟩ | ⟨hgone, b', off', cap, cs, T, fz, rfl, hc, hle, hs, hok, G, hG, hdj, hel⟩
    ·simp [Mask.isOwn] at hown
    ·simp at hx
    ·have hbF' : F b' ∧ fz = (0, 0) := by cases m <;> simp_all [Mask.isOwn, slOk]
     obtain ⟨hbF, rfl⟩ := hbF'
     simp only [locv, cellsAt, hc] at hloc
     obtain ⟨g1, g2, g3⟩ := ih (k := e) h (hel i x hx) (fun y hy => by simp only [Option.some.injEq] at hy; subst hy; exact ⟨cs, T, hc⟩) hloc
     refine ⟨g1, .inl ?_, g3⟩
     rcases g2 with g2 | ⟨o0, g2⟩
     ·exact (hG i).1 _ g2
     ·simp only [Option.some.injEq, Prod.mk.injEq] at g2; rw [← g2.1]; exact hbF
   | _ => simp [setP] at h
theorem run_storeAt_of {T : TypeId} {ti : TI} (h : TyOK P V T ti) {b off : Nat} {cs : Array Value} {T' : TypeId} {v : Value} (hc : w.heap[b]? = some (.cells cs T' (0, 0))) (hs : v.cells.size = ti.k.size)
  (hfit : off + v.cells.toList.length ≤ cs.size) (h1 : ∀ u ∈ v.cells.toList, u.oneCell' = true) :
  (Instr.storeAt T (.pointer (some ⟨b, off, none⟩)) v).run P w = .ok () (w.setRow b (updCells cs off v.cells.toList)) := by
 have hst := run_storeCells_at P b off T' v.cells.toList 0 cs w hc (by simpa using hfit) h1
 simp only [Nat.add_zero] at hst
 unfold Instr.storeAt Instr.sureAddr storeVar
 simp only [Sem.run_bind, Sem.run_pure, Result.andThen_ok, h.size]
 rw [if_neg (by simp [hs])]
 exact hst
theorem does_store (hT : TysOK P V) (R : Rel w0 M0 n C0 C s a w) {t : TypeId} {x y : Operand} (ho : o.op = .store t x y) (h : denOp V o s.tmps s.roots c = some r) :
  ∃ z, c z = some r ∧ Does P w0 M0 n C0 s a w o z := by
 simp only [denOp, ho] at h
 split at h
 case h_1 => simp at h
 case h_2 k hk =>
 obtain ⟨ti, hti, rfl⟩ := Env.k_ti hk
 have hty := hT.ty _ _ hti
 split at h
 case h_2 => simp at h
 case h_1 q p hx =>
 have hp := R.eval x
 rw [hx] at hp
 obtain ⟨hpA, _⟩ := hp.cell (by simp) rfl (by simp) (by simp)
 obtain ⟨b, off, hpv, hp0, hproot⟩ := hpA
 simp only [List.cons.injEq, and_true] at hpv
 have hy := R.eval y
 obtain ⟨hA⟩ : Nonempty (AVC w C s.roots (evalAV s.tmps y) (a.eval y).cells.toList) := by
  rcases hy with (hd | ⟨_, vs, hv, hx⟩ | ⟨_, hx, hc⟩) | ⟨vs, _, ht⟩
  ·rw [hd] at h; cases hk2 : ti.k <;> rw [hk2] at h <;> simp [absorb] at h
  ·rw [hv]; exact ⟨hx⟩
  ·rw [hc]; exact ⟨hx⟩
  ·cases he : evalAV s.tmps y <;> rw [he] at ht h <;> first | exact ht.elim | (cases hk2 : ti.k <;> rw [hk2] at h <;> simp [absorb] at h)
 obtain ⟨d1, m1, u, e, qs, F1, g, A⟩ := absorb_sound R.mem _ h onlyNone_nil hA
 clear h
 cases hml : m1.live with
 | false => rw [hml] at g; simp at g
 | true =>
 rw [hml] at g
 simp only [Bool.not_true, cond_false] at g
 split at g
 case h_1 => simp at g
 case h_2 z hz =>
 have Fd := A.freed R.mem
 have hzq : s.roots q = some z ∧ q ∉ e := by
  unfold look at hz
  rw [A.ended] at hz
  by_cases hqe : q ∈ e
  ·rw [if_pos hqe] at hz; cases hz
  ·rw [if_neg hqe] at hz; exact ⟨hz, hqe⟩
 obtain ⟨kp, cs0, hat, hcg, hloc⟩ := hproot z hzq.1
 obtain ⟨G, hG, hGs, hGm⟩ := R.mem.ok q z hzq.1
 have hbase : ∀ x, baseOf C q z = some x → ∃ cs T, w.heap[x.1]? = some (.cells cs T (0, 0)) := by
  intro x hx
  unfold baseOf at hx
  split at hx
  ·rename_i hm; simp only [Option.some.injEq] at hx; subst hx; obtain ⟨_, _, T, hh⟩ := hGm hm; exact ⟨_, T, hh⟩
  ·cases hx
 have hbaseG : ∀ x, baseOf C q z = some x → ¬ G x.1 := by
  intro x hx
  unfold baseOf at hx
  split at hx
  ·rename_i hm; simp only [Option.some.injEq] at hx; subst hx; exact (hGm hm).1
  ·cases hx
 obtain ⟨⟨cs, T, hcs⟩, hbF, hat2⟩ := setP_block p g hG hbase hloc
 have hbq : C.F q b := by
  rcases hbF with hbF | ⟨o0, hbF⟩
  ·exact hGs _ hbF
  ·unfold baseOf at hbF
   split at hbF
   ·rename_i hm; simp only [Option.some.injEq, Prod.mk.injEq] at hbF; rw [← hbF.1]; exact (hGm hm).2.1
   ·cases hbF
 have hap := R.mem.apart q z b hzq.1 hbq
 -- the cells that are written
 have hlen1 : (a.eval y).cells.toList.length = ti.k.size := A.enc.len
 have hfit : off + (a.eval y).cells.toList.length ≤ cs.size := by
  obtain ⟨kk, dd, mm, vv, bb, hpl⟩ := place_of (R.mem.ok q z hzq.1) hcg
  have h1 := hpl.lc
  rw [hloc] at h1
  simp only [Option.some.injEq, Prod.mk.injEq] at h1
  have h2 := hpl.at_
  rw [hat2] at h2
  simp only [Option.some.injEq] at h2
  obtain ⟨F, hF⟩ := hpl.enc
  have h3 := hF.len
  have h4 := hpl.lies
  rw [← h1.2] at h4
  obtain ⟨c2, T2, f2, k1, k2, _⟩ := h4
  rw [hcs] at k1
  simp only [Option.some.injEq, Obj.cells.injEq] at k1
  rw [← k1.1] at k2
  rw [hlen1, h2, ← h3]; exact k2
 have hrun := run_storeAt_of hty hcs (v := a.eval y) (by rw [← hlen1]; simp) hfit (A.enc.one hml)
 have hoth : ∀ b', b' ≠ b → (w.setRow b (updCells cs off (a.eval y).cells.toList)).heap[b']? = w.heap[b']? := fun b' hb' => setRow_other w b b' _ hb'
 have hsize : (w.setRow b (updCells cs off (a.eval y).cells.toList)).heap.size = w.heap.size := by simp [World.setRow]
 have hhere := setRow_heap w b cs (updCells cs off (a.eval y).cells.toList) T _ hcs
 have hw : Wrote w (w.setRow b (updCells cs off (a.eval y).cells.toList)) b off (a.eval y).cells.toList := ⟨hsize, hoth, cs, T, _, hcs, hfit, hhere⟩
 have hFe : ∀ b', FU C e b' → b' ≠ b := by
  rintro b' ⟨q', hq', hb'⟩ rfl
  obtain ⟨y', hy', _⟩ := A.was q' hq'
  exact R.mem.disj q' q y' z hy' hzq.1 (fun h => hzq.2 (h ▸ hq')) b' hb' hbq
 have hZS : ∀ b', C.Z b' ∨ C.S b' → b' ≠ b := by rintro b' hb' rfl; exact hb'.elim hap.1 hap.2.1
 have hnew : Enc (w.setRow b (updCells cs off (a.eval y).cells.toList)) C.θ C.Z C.S ti.k m1 d1 (a.eval y).cells.toList F1 :=
  A.enc.mono (.refl _) (.refl _) (.refl _) (fun b' hb' => hoth b' (hb'.elim (fun h => hFe b' (A.sub b' h)) (hZS b'))) (fun _ _ => rfl)
 obtain ⟨d', m', vs', g', _, hE', hL', hP', hVs, hSt⟩ := setP_sound hnew hw hap.1 hap.2.1 p g hG (R.mem.ok q z hzq.1).lies hbaseG (by
  intro b' h1 h2
  obtain ⟨q', hq', hb'⟩ := A.sub b' h1
  obtain ⟨y', hy', _⟩ := A.was q' hq'
  exact R.mem.disj q' q y' z hy' hzq.1 (fun h => hzq.2 (h ▸ hq')) b' hb' (hGs _ h2)) hloc
 clear g
 have hrs : ∀ (D : Del), D.u = (q, some ⟨z.mem, z.k, m', d'⟩) :: u → D.make = false → ∀ q' y', (s.after o.dst D).roots q' = some y' → (q' = q ∧ y' = ⟨z.mem, z.k, m', d'⟩) ∨ (q' ≠ q ∧ q' ∉ e ∧ s.roots q' = some y') := by
  intro D hDu hDm q' y' hq'
  simp only [St.after, hDu, hDm, lookU, Bool.false_and, cond_false] at hq'
  by_cases h0 : q' = q
  ·rw [req_iff.2 h0] at hq'; exact .inl ⟨h0, (Option.some.inj hq').symm⟩
  ·rw [req_ne h0] at hq'
   simp only [cond_false, A.ended] at hq'
   by_cases h1 : q' ∈ e
   ·rw [if_pos h1] at hq'; cases hq'
   ·rw [if_neg h1] at hq'; exact .inr ⟨h0, h1, hq'⟩
 refine ⟨_, g', ?_⟩
 intro hd hal next Q hn
 unfold Oper.wp
 rw [show (execOp a.eval o).run P w = .ok .skip (w.setRow b (updCells cs off (a.eval y).cells.toList)) by
  simp only [execOp, ho, Sem.run_bind, hpv, hrun, Result.andThen_ok, Sem.run_pure]]
 show next (a.put o.dst undef) _
 have hrs' := hrs ⟨.dead, (q, some ⟨z.mem, z.k, m', d'⟩) :: u, false, (bif ti.k.flat then ofs e else .at q p :: ofs e), qs, none, [], [], true⟩ rfl rfl
 have hFq : ∀ q' y', q' ≠ q → q' ∉ e → s.roots q' = some y' → ∀ b', C.F q' b' → b' ≠ b ∧ ¬ C.F q b' ∧ ¬ FU C e b' := by
  intro q' y' h1 h2 h3 b' hb'
  refine ⟨?_, fun h => R.mem.disj q' q y' z h3 hzq.1 h1 b' hb' h, ?_⟩
  ·rintro rfl; exact R.mem.disj q' q y' z h3 hzq.1 h1 b' hb' hbq
  ·rintro ⟨q2, hq2, hb2⟩
   obtain ⟨y2, hy2, _⟩ := A.was q2 hq2
   exact R.mem.disj q' q2 y' y2 h3 hy2 (fun h => h2 (h ▸ hq2)) b' hb' hb2
 have hθF1 : z.mem = true → ¬ F1 (C.θ q) := by
  intro hm h1
  obtain ⟨q2, hq2, hb2⟩ := A.sub _ h1
  obtain ⟨y2, hy2, _⟩ := A.was q2 hq2
  exact R.mem.disj q2 q y2 z hy2 hzq.1 (fun h => hzq.2 (h ▸ hq2)) _ hb2 (hGm hm).2.1
 have hptrs : ∀ p' ∈ ptrsOf z.k d', p' ∈ qs ∨ ∃ r' x', s.roots r' = some x' ∧ p' ∈ ptrsOf x'.k x'.d := by
  intro p' hp'
  rcases hP' p' hp' with h | h
  ·exact .inr ⟨q, z, hzq.1, h⟩
  ·rcases A.ptrs p' h with h | ⟨r', _, x', hx', h⟩
   ·exact .inl h
   ·exact .inr ⟨r', x', hx', h⟩
 refine hn _ _ _ (R.put (C' := ⟨C.θ, fun q' => if q' = q then vs' else C.ρ q', fun q' => if q' = q then (fun b => C.F q b ∨ FU C e b) else C.F q', C.Z, C.S⟩) hd rfl ⟨R.ext.Z, R.ext.S, R.ext.θ⟩ ⟨?_, ?_, ?_, ?_, ?_⟩ ?_ (fun _ _ => VRel.dead) ?_ ?_ ?_ ?_ R.zn)
 ·intro q' y' hq'
  rcases hrs' q' y' hq' with ⟨rfl, rfl⟩ | ⟨h1, h2, h3⟩
  ·refine ⟨fun x => G x ∨ F1 x, ?_, ?_, fun hm => ?_⟩
   ·simp only [if_true]; exact hE'
   ·simp only [if_true]; exact fun b' hb' => hb'.imp (hGs b') (A.sub b')
   ·simp only [if_true]
    obtain ⟨k1, k2, T0, k3⟩ := hGm hm
    refine ⟨fun h => h.elim k1 (hθF1 hm), .inl k2, ?_⟩
    have hbm : baseOf C q' z = some (C.θ q', 0) := by unfold baseOf; rw [if_pos hm]
    rw [hbm] at hL'
    obtain ⟨c2, T2, f2, l1, l2, l3⟩ := hL'
    have hvl : vs'.length = (C.ρ q').length := by rw [hE'.len, hG.len]
    have hfin : ∃ c3 T3, (w.setRow b (updCells cs off (a.eval y).cells.toList)).heap[C.θ q']? = some (.cells c3 T3 (0, 0)) ∧ c3.size = vs'.length := by
     by_cases hbθ : b = C.θ q'
     ·refine ⟨updCells cs off (a.eval y).cells.toList, T, by rw [← hbθ]; exact hhere, ?_⟩
      rw [← hbθ, hcs] at k3
      simp only [Option.some.injEq, Obj.cells.injEq] at k3
      rw [updCells_size hfit, k3.1, hvl]; simp
     ·exact ⟨_, T0, by rw [hoth _ (Ne.symm hbθ)]; exact k3, by rw [hvl]; simp⟩
    obtain ⟨c3, T3, m1, m2⟩ := hfin
    rw [m1] at l1
    simp only [Option.some.injEq, Obj.cells.injEq] at l1
    rw [← l1.1] at l3
    exact ⟨T3, by rw [m1, sub_all l3 m2]⟩
  ·refine (R.mem.ok q' y' h3).keep rfl rfl rfl (if_neg h1) (if_neg h1) (fun _ _ => rfl) (fun b' hb' => hoth b' ?_)
   rcases hb' with hb' | hb'
   ·exact (hFq q' y' h1 h2 h3 b' hb').1
   ·exact hZS b' hb'
 ·intro r1 r2 x1 x2 hr1 hr2 hne b' hb1 hb2
  rcases hrs' r1 x1 hr1 with ⟨rfl, rfl⟩ | ⟨h1, h2, h3⟩ <;> rcases hrs' r2 x2 hr2 with ⟨rfl, rfl⟩ | ⟨k1, k2, k3⟩
  ·exact hne rfl
  ·simp only [if_true, if_neg k1] at hb1 hb2
   have := hFq r2 x2 k1 k2 k3 b' hb2
   exact hb1.elim this.2.1 this.2.2
  ·simp only [if_true, if_neg h1] at hb1 hb2
   have := hFq r1 x1 h1 h2 h3 b' hb1
   exact hb2.elim this.2.1 this.2.2
  ·simp only [if_neg h1, if_neg k1] at hb1 hb2
   exact R.mem.disj r1 r2 x1 x2 h3 k3 hne b' hb1 hb2
 ·intro r1 x1 b' hr1 hb'
  rw [hsize]
  rcases hrs' r1 x1 hr1 with ⟨rfl, rfl⟩ | ⟨h1, h2, h3⟩
  ·simp only [if_true] at hb'
   rcases hb' with hb' | hb'
   ·exact R.mem.apart r1 z b' hzq.1 hb'
   ·exact Fd.free R.mem hb'
  ·simp only [if_neg h1] at hb'
   exact R.mem.apart r1 x1 b' h3 hb'
 ·intro b' hb'; rw [hsize]; exact R.mem.ro b' hb'
 ·intro r1 x1 hr1 p' hp' x2 hr2
  have hm2 : ∃ x3, s.roots p' = some x3 ∧ x2.mem = x3.mem := by
   rcases hrs' p' x2 hr2 with ⟨rfl, rfl⟩ | ⟨k1, k2, k3⟩
   ·exact ⟨z, hzq.1, rfl⟩
   ·exact ⟨x2, k3, rfl⟩
  obtain ⟨x3, hx3, hm3⟩ := hm2
  rw [hm3]
  rcases hrs' r1 x1 hr1 with ⟨rfl, rfl⟩ | ⟨h1, h2, h3⟩
  ·rcases hptrs p' hp' with h | ⟨r', x', hx', h⟩
   ·exact A.pmem p' h x3 hx3
   ·exact R.mem.ptr r' x' hx' p' h x3 hx3
  ·exact R.mem.ptr r1 x1 h3 p' hp' x3 hx3
 ·refine leaf_vw ?_
  intro av vs hvw hl hh hav
  simp only [killList, cond_false] at hh
  have hofs : hit (ofs e) av = false := by
   cases hf : ti.k.flat with
   | true => rw [hf] at hh; exact hh
   | false => rw [hf] at hh; simp only [cond_false, hit, List.any_cons, Bool.or_eq_false_iff] at hh; exact hh.2
  have hat' : ti.k.flat = true ∨ (Kill.at q p).hits av = false := by
   cases hf : ti.k.flat with
   | true => exact .inl rfl
   | false => rw [hf] at hh; simp only [cond_false, hit, List.any_cons, Bool.or_eq_false_iff] at hh; exact .inr hh.1
  have hnames := hit_ofs hl hofs
  by_cases hq : q ∈ av.names ∧ ∀ f caps, av ≠ .fn f caps
  ·-- what names the root that is written
   obtain ⟨hq, hfn⟩ := hq
   have hroot' : ∀ y', (s.after o.dst ⟨.dead, (q, some ⟨z.mem, z.k, m', d'⟩) :: u, false, (bif ti.k.flat then ofs e else .at q p :: ofs e), qs, none, [], [], true⟩).roots q = some y' → y' = ⟨z.mem, z.k, m', d'⟩ := by
    intro y' hy'
    rcases hrs' q y' hy' with ⟨_, h⟩ | ⟨h, _⟩
    ·exact h
    ·exact absurd rfl h
   cases av with
   | ptr q' p' =>
    simp only [AV.names, List.mem_singleton] at hq
    subst hq
    obtain ⟨b2, off2, rfl, h0, hr2⟩ := hav
    refine ⟨b2, off2, rfl, h0, fun y' hy' => ?_⟩
    rw [hroot' y' hy']
    obtain ⟨k2, cs2, e1, e2, e3⟩ := hr2 z hzq.1
    obtain ⟨f1, cs3, f2⟩ := (hSt p' k2 cs2 _ e1 e2 e3).1 (hat'.imp id fun h => by
     simp only [Kill.hits, req_iff.2 rfl, Bool.true_and] at h; exact h)
    exact ⟨k2, cs3, e1, f1, by simp only [if_true]; exact f2⟩
   | ref q' p' =>
    simp only [AV.names, List.mem_singleton] at hq
    subst hq
    obtain ⟨v2, rfl, hr2⟩ := hav
    refine ⟨v2, rfl, fun y' hy' => ?_⟩
    rw [hroot' y' hy']
    obtain ⟨e2, base2, g1, g2, g3⟩ := hr2 z hzq.1
    obtain ⟨f1, f2⟩ := (hSt p' _ _ _ g1 g2 g3).2 ⟨e2, rfl⟩ (hat'.imp id fun h => by
     simp only [Kill.hits, req_iff.2 rfl, Bool.true_and] at h; exact h)
    exact ⟨e2, base2, g1, f1, by simp only [if_true]; exact f2⟩
   | slc q' p' lo k0 =>
    simp only [AV.names, List.mem_singleton] at hq
    subst hq
    obtain ⟨v2, v3, rfl, hr2⟩ := hav
    refine ⟨v2, v3, rfl, fun y' hy' => ?_⟩
    rw [hroot' y' hy']
    obtain ⟨e2, base2, g1, g2, g3, g4⟩ := hr2 z hzq.1
    obtain ⟨f1, f2⟩ := (hSt p' _ _ _ g1 g2 g3).2 ⟨e2, rfl⟩ (hat'.imp id fun h => by
     simp only [Kill.hits, req_iff.2 rfl, Bool.true_and] at h; exact h)
    exact ⟨e2, base2, g1, f1, by simp only [if_true]; exact f2, g4⟩
   | fn f caps => exact absurd rfl (hfn f caps)
   | vw _ _ _ => simp [AV.isVw] at hvw
   | pair _ _ => simp [AV.isLeaf] at hl
   | tcons _ _ => simp [AV.isLeaf] at hl
   | _ => simp [AV.names] at hq
  ·by_cases hfn : ∃ f caps, av = .fn f caps
   ·obtain ⟨f, caps, rfl⟩ := hfn
    refine ⟨hav.1, fun q' hq' y' hy' => ?_⟩
    rcases hrs' q' y' hy' with ⟨rfl, rfl⟩ | ⟨_, _, h3⟩
    ·exact hav.2 q' hq' z hzq.1
    ·exact hav.2 q' hq' y' h3
   ·have hq2 : q ∉ av.names := fun h => hq ⟨h, fun f caps he => hfn ⟨f, caps, he⟩⟩
    refine leaf_keep (C' := ⟨C.θ, fun q' => if q' = q then vs' else C.ρ q', fun q' => if q' = q then (fun b => C.F q b ∨ FU C e b) else C.F q', C.Z, C.S⟩) R.mem (fun q' => q' = q ∨ q' ∈ e) rfl rfl (fun _ _ => rfl) (fun q' h => if_neg (fun h' => h (.inl h'))) ?_ ?_ hl (fun q' hq' h => h.elim (fun h => hq2 (h ▸ hq')) (hnames q' hq')) hav
    ·intro q' y' h hy'
     rcases hrs' q' y' hy' with ⟨h1, _⟩ | ⟨_, _, h3⟩
     ·exact absurd (.inl h1) h
     ·exact h3
    ·intro b' hb'
     refine hoth b' ?_
     rcases hb' with hb' | hb' | ⟨q', y', h, hy', hb'⟩
     ·exact hZS b' (.inl hb')
     ·exact hZS b' (.inr hb')
     ·exact (hFq q' y' (fun h' => h (.inl h')) (fun h' => h (.inr h')) hy' b' hb').1
 ·refine ⟨R.kept.os, R.kept.tape, R.kept.output, by rw [hsize]; exact R.kept.size, fun b' hb' hm => ?_⟩
  rw [hoth b' ?_]; exact R.kept.block b' hb' hm
  rintro rfl
  exact (R.foot q z b' hzq.1 hbq).elim (fun h => by omega) hm
 ·intro r1 x1 b' hr1 hb'
  rcases hrs' r1 x1 hr1 with ⟨rfl, rfl⟩ | ⟨h1, h2, h3⟩
  ·simp only [if_true] at hb'
   rcases hb' with hb' | ⟨q2, hq2, hb2⟩
   ·exact R.foot r1 z b' hzq.1 hb'
   ·obtain ⟨y2, hy2, _⟩ := A.was q2 hq2
    exact R.foot q2 y2 b' hy2 hb2
  ·simp only [if_neg h1] at hb'
   exact R.foot r1 x1 b' h3 hb'
 ·intro r1 x1 hr1 p' hp' h2
  simp only [St.after, Bool.or_eq_true, List.any_eq_true]
  rcases hrs' r1 x1 hr1 with ⟨rfl, rfl⟩ | ⟨_, _, h3⟩
  ·rcases hptrs p' hp' with h | ⟨r', x', hx', h⟩
   ·exact .inr ⟨p', h, beq_iff.2 rfl⟩
   ·exact .inl (R.pins r' x' hx' p' h h2)
  ·exact .inl (R.pins r1 x1 h3 p' hp' h2)
 ·intro i y1 hi hm
  rcases hrs' _ y1 hi with ⟨h1, rfl⟩ | ⟨h1, _, h3⟩
  ·show (if (0, i) = q then vs' else _) = _
   rw [if_pos h1]
   rcases hVs with ⟨_, hvs⟩ | ⟨o0, hb, _⟩
   ·rw [hvs, ← h1]; exact R.parρ i z (by rw [h1]; exact hzq.1) hm
   ·unfold baseOf at hb
    have hm' : z.mem = false := hm
    rw [if_neg (by simp [hm'])] at hb; cases hb
  ·show (if (0, i) = q then vs' else _) = _
   rw [if_neg h1]; exact R.parρ i y1 h3 hm
theorem AVC.ren {C' : Ctx} {rs rs' : RF} {q q2 : RName} {y : Root} (hq : rs q = some y) (hm : y.mem = false)
  (hC : C' = C.with q2 (C.θ q) (C.ρ q) (C.F q)) (hrs : ∀ p x, rs' p = some x → (p = q2 ∧ x = y) ∨ (p ≠ q2 ∧ p ≠ q ∧ rs p = some x)) :
  ∀ (av : AV) (vs : List Value), (∀ p ∈ av.names, p ≠ q2) → AVC w C rs av vs → AVC w C' rs' (av.ren q q2) vs := by
 subst hC
 have hmono : ∀ {z : Bool} {k : K} {d : k.den} {vs : List Value}, k.plain = true → Enc w C.θ C.Z C.S k (.imm z) d vs noB → Enc w (C.with q2 (C.θ q) (C.ρ q) (C.F q)).θ C.Z C.S k (.imm z) d vs noB := by
  intro z k d vs hp he
  exact he.mono (.refl _) (.refl _) (.refl _) (fun _ _ => rfl) (fun p hp' => by rw [ptrsOf_plain d hp] at hp'; cases hp')
 have hstay : ∀ (p : RName) (x : Root), p ≠ q2 → rs' p = some x → rs p = some x ∧ (C.with q2 (C.θ q) (C.ρ q) (C.F q)).ρ p = C.ρ p ∧ baseOf (C.with q2 (C.θ q) (C.ρ q) (C.F q)) p x = baseOf C p x := by
  intro p x hp hx
  rcases hrs p x hx with ⟨h, _⟩ | ⟨h1, h2, h3⟩
  ·exact absurd h hp
  ·exact ⟨h3, Ctx.with_ρ h1, by unfold baseOf; rw [Ctx.with_θ h1]⟩
 have hnew : ∀ (x : Root), rs' q2 = some x → x = y ∧ (C.with q2 (C.θ q) (C.ρ q) (C.F q)).ρ q2 = C.ρ q ∧ baseOf (C.with q2 (C.θ q) (C.ρ q) (C.F q)) q2 x = baseOf C q y := by
  intro x hx
  rcases hrs q2 x hx with ⟨_, rfl⟩ | ⟨h1, _⟩
  ·exact ⟨rfl, Ctx.with_ρ0, by unfold baseOf; rw [if_neg (by simp [hm]), if_neg (by simp [hm])]⟩
  ·exact absurd rfl h1
 intro av
 induction av with
 | pair a b iha ihb =>
  intro vs hn hv
  obtain ⟨v1, v2, rfl, h1, h2⟩ := hv
  exact ⟨v1, v2, rfl, iha _ (fun p hp => hn p (by simp [AV.names, hp])) h1, ihb _ (fun p hp => hn p (by simp [AV.names, hp])) h2⟩
 | tcons a b _ _ => intro vs _ hv; exact hv.elim
 | tnil => intro vs _ hv; exact hv.elim
 | dead => intro vs _ _; trivial
 | imm z k d => intro vs _ hv; exact ⟨hv.1, hmono hv.1 hv.2⟩
 | nn z e d => intro vs _ hv; exact ⟨hv.1, hmono (k := .sl e) hv.1 hv.2.1, hv.2.2⟩
 | vw r p L =>
  intro vs hn hv
  have hst : ∀ (a : RName) (pp : Path) (v : Value), a ≠ q2 → AVC w C rs (.ref a pp) [v] → AVC w (C.with q2 (C.θ q) (C.ρ q) (C.F q)) rs' (.ref a pp) [v] := by
   intro a pp v ha hr
   obtain ⟨v', he, hr⟩ := hr
   refine ⟨v', he, fun x hx => ?_⟩
   obtain ⟨h1, h2, h3⟩ := hstay a x ha hx
   rw [h2, h3]; exact hr x h1
  have hp2 : r ≠ q2 := hn r (by simp [AV.names])
  refine AVC.vw_map (fun hv => ?_) (fun e he v => ⟨hst _ _ v hp2, hst _ _ v (hn _ (by simp only [AV.names]; exact List.mem_cons_of_mem _ (List.mem_map.2 ⟨e, he, rfl⟩)))⟩) hv
  obtain ⟨b, off, rfl, h0, hr⟩ := hv
  refine ⟨b, off, rfl, fun h => by rw [Ctx.with_θ hp2]; exact h0 h, fun x hx => ?_⟩
  obtain ⟨h1, h2, h3⟩ := hstay r x hp2 hx
  rw [h2, h3]; exact hr x h1
 | nil => intro vs _ hv; exact hv
 | emp => intro vs _ hv; exact hv
 | nilp => intro vs _ hv; exact hv
 | ptr p pp =>
  intro vs hn hv
  obtain ⟨b, off, rfl, h0, hr⟩ := hv
  have hp2 : p ≠ q2 := hn p (by simp [AV.names])
  refine ⟨b, off, rfl, fun h => by rw [Ctx.with_θ hp2]; exact h0 h, fun x hx => ?_⟩
  obtain ⟨h1, h2, h3⟩ := hstay p x hp2 hx
  rw [h2, h3]; exact hr x h1
 | iptr z k d p =>
  intro vs _ hv
  obtain ⟨vs0, b, off, cs, k', h1, h2, h3⟩ := hv
  exact ⟨vs0, b, off, cs, k', h1, hmono h1 h2, h3⟩
 | ref p pp =>
  intro vs hn hv
  obtain ⟨v, rfl, hr⟩ := hv
  have hp2 : p ≠ q2 := hn p (by simp [AV.names])
  simp only [AV.ren]
  by_cases h : p = q
  ·subst h
   rw [req_iff.2 rfl]
   refine ⟨v, rfl, fun x hx => ?_⟩
   obtain ⟨rfl, h2, h3⟩ := hnew x hx
   rw [h2, h3]; exact hr x hq
  ·rw [req_ne (Ne.symm h)]
   refine ⟨v, rfl, fun x hx => ?_⟩
   obtain ⟨h1, h2, h3⟩ := hstay p x hp2 hx
   rw [h2, h3]; exact hr x h1
 | slc p pp lo k0 =>
  intro vs hn hv
  obtain ⟨v, v0, rfl, hr⟩ := hv
  have hp2 : p ≠ q2 := hn p (by simp [AV.names])
  simp only [AV.ren]
  by_cases h : p = q
  ·subst h
   rw [req_iff.2 rfl]
   refine ⟨v, v0, rfl, fun x hx => ?_⟩
   obtain ⟨rfl, h2, h3⟩ := hnew x hx
   rw [h2, h3]; exact hr x hq
  ·rw [req_ne (Ne.symm h)]
   refine ⟨v, v0, rfl, fun x hx => ?_⟩
   obtain ⟨h1, h2, h3⟩ := hstay p x hp2 hx
   rw [h2, h3]; exact hr x h1
 | fn f caps =>
  intro vs hn hv
  refine ⟨?_, fun p hp x hx => ?_⟩
  ·rw [hv.1]
   have : capV C.θ caps = capV (C.with q2 (C.θ q) (C.ρ q) (C.F q)).θ caps := by
    unfold capV
    congr 1
    exact List.map_congr_left fun p hp => by rw [Ctx.with_θ (hn p (by simpa [AV.names] using hp))]
   rw [this]
  ·exact hv.2 p hp x (hstay p x (hn p (by simpa [AV.names] using hp)) hx).1
theorem ren_agg (q q2 : RName) (av : AV) : (av.ren q q2).agg = av.agg := by
 cases av <;> simp only [AV.ren] <;> first | rfl | (cases req q _ <;> rfl)
theorem VRel.ren {C' : Ctx} {rs rs' : RF} {q q2 : RName} {y : Root} (hq : rs q = some y) (hm : y.mem = false)
  (hC : C' = C.with q2 (C.θ q) (C.ρ q) (C.F q)) (hrs : ∀ p x, rs' p = some x → (p = q2 ∧ x = y) ∨ (p ≠ q2 ∧ p ≠ q ∧ rs p = some x)) {v : Value} {av : AV} (hn : ∀ p ∈ av.names, p ≠ q2) (hv : VRel w C rs v av) :
  VRel w C' rs' v (av.ren q q2) := by
 have h1 : ∀ {v : Value} {av : AV}, (∀ p ∈ av.names, p ≠ q2) → VRel1 w C rs v av → VRel1 w C' rs' v (av.ren q q2) := by
  intro v av hn hv
  rcases hv with rfl | ⟨ha, vs, rfl, hv⟩ | ⟨ha, hv, hc⟩
  ·exact .inl rfl
  ·exact .inr (.inl ⟨by rw [ren_agg]; exact ha, vs, rfl, AVC.ren hq hm hC hrs _ _ hn hv⟩)
  ·exact .inr (.inr ⟨by rw [ren_agg]; exact ha, AVC.ren hq hm hC hrs _ _ hn hv, hc⟩)
 rcases hv with hv | ⟨vs, rfl, hv⟩
 ·exact .inl (h1 hn hv)
 ·refine .inr ⟨vs, rfl, ?_⟩
  have : ∀ (av : AV) (vs : List Value), (∀ p ∈ av.names, p ≠ q2) → TRel w C rs av vs → TRel w C' rs' (av.ren q q2) vs := by
   intro av
   induction av with
   | tcons a b _ ihb =>
    intro vs hn hv
    obtain ⟨v, l, rfl, k1, k2⟩ := hv
    exact ⟨v, l, rfl, h1 (fun p hp => hn p (by simp [AV.names, hp])) k1, ihb _ (fun p hp => hn p (by simp [AV.names, hp])) k2⟩
   | tnil => intro vs _ hv; exact hv
   | _ => intro vs _ hv; exact hv.elim
  exact this av vs hn hv
theorem kill_of_names (q2 : RName) : ∀ (av : AV), ∀ p ∈ (AV.kills [.of q2] av).names, p ≠ q2 := by
 intro av
 induction av with
 | pair a b iha ihb =>
  intro p hp
  rw [kills_pair] at hp
  simp only [AV.names, List.mem_append] at hp
  exact hp.elim (iha p) (ihb p)
 | tcons a b iha ihb =>
  intro p hp
  rw [kills_tcons] at hp
  simp only [AV.names, List.mem_append] at hp
  exact hp.elim (iha p) (ihb p)
 | _ =>
  intro p hp
  rw [kills_leaf _ _ rfl] at hp
  cases hh : hit [.of q2] _ with
  | true => rw [hh] at hp; cases hp
  | false =>
   rw [hh] at hp
   have := hit_ofs (e := [q2]) rfl hh p hp
   simpa using this
theorem does_assign (R : Rel w0 M0 n C0 C s a w) {x : Operand} (ho : o.op = .assign x) (h : denOp V o s.tmps s.roots c = some r) :
  ∃ z, c z = some r ∧ Does P w0 M0 n C0 s a w o z := by
 simp only [denOp, ho] at h
 have hx := R.eval x
 have hrun : (execOp a.eval o).run P w = .ok (.value (a.eval x)) w := by simp [execOp, ho]
 have hplain : ∀ av, VRel w C s.roots (a.eval x) av → Does P w0 M0 n C0 s a w o ⟨av, [], false, [], [], none, [], [], true⟩ := fun av hav => Does.plain (rd := []) R hrun hav
 split at h
 case h_2 => exact ⟨_, h, hplain _ hx⟩
 case h_1 d j hev =>
 rw [hev] at hx
 cases hsame : (Nat.beq d (o.dst.getD 0) && Nat.beq j 0) with
 | true =>
  rw [hsame] at h
  exact ⟨_, h, hplain _ hx⟩
 | false =>
 rw [hsame] at h
 simp only [cond_false] at h
 split at h
 case h_1 => simp at h
 case h_2 y hy =>
 cases hm : y.mem with
 | true => rw [hm] at h; exact ⟨_, h, Does.plain (rd := []) R hrun hx⟩
 | false =>
 simp only [hm, cond_false] at h
 refine ⟨_, h, ?_⟩
 intro hd hal next Q hn
 obtain ⟨d0, hdst⟩ : ∃ d0, o.dst = some d0 := by
  cases hh : o.dst with
  | none => rw [hh] at hal; simp [allowed] at hal
  | some d0 => exact ⟨d0, rfl⟩
 have hpin : s.pins (d0 + 2) = false := by
  rw [hdst] at hal
  simp only [allowed, Option.isNone, Bool.and_false, Bool.false_or, Bool.and_eq_true, Bool.not_eq_true'] at hal
  exact hal.1
 have hd0 := hd d0 hdst
 unfold Oper.wp
 rw [hrun]
 show next (a.put o.dst _) _
 rw [hdst] at hn hsame ⊢
 simp only [Option.getD_some] at hn hsame ⊢
 have hne : ((d + 2, j) : RName) ≠ loc d0 0 := by
  intro he
  simp only [Prod.mk.injEq] at he
  rw [show d = d0 by omega, he.2, beq_iff.2 rfl, beq_iff.2 rfl] at hsame
  cases hsame
 refine hn _ _ (C.with (loc d0 0) (C.θ (d + 2, j)) (C.ρ (d + 2, j)) (C.F (d + 2, j))) ?_
 have hrs : ∀ p z, (s.after (some d0) ⟨.ref (loc d0 0) [], [(loc d0 0, some y), ((d + 2, j), none)], false, [.of (loc d0 0)], [], some ((d + 2, j), loc d0 0), [], [], true⟩).roots p = some z →
   (p = loc d0 0 ∧ z = y) ∨ (p ≠ loc d0 0 ∧ p ≠ (d + 2, j) ∧ s.roots p = some z) := by
  intro p z hp
  simp only [St.after, lookU, Bool.false_and, cond_false] at hp
  by_cases h0 : p = loc d0 0
  ·rw [req_iff.2 h0] at hp; exact .inl ⟨h0, (Option.some.inj hp).symm⟩
  ·rw [req_ne h0] at hp
   simp only [cond_false] at hp
   by_cases h1 : p = (d + 2, j)
   ·rw [req_iff.2 h1] at hp; cases hp
   ·rw [req_ne h1] at hp; exact .inr ⟨h0, h1, hp⟩
 have hpq : ∀ p z, s.roots p = some z → ∀ p' ∈ ptrsOf z.k z.d, p' ≠ loc d0 0 := by
  rintro p z hz p' hp' rfl
  have := R.pins p z hz _ hp' (by simp)
  rw [hpin] at this; cases this
 -- what was known of the name before has ended
 have hstep : ∀ {v : Value} {av : AV}, VRel w C s.roots v av → VRel w C s.roots v (AV.kills [.of (loc d0 0)] av) := fun hv => hv.step fun _ _ _ _ h => h
 have hren : ∀ {v : Value} {av : AV}, VRel w C s.roots v av → VRel w (C.with (loc d0 0) (C.θ (d + 2, j)) (C.ρ (d + 2, j)) (C.F (d + 2, j)))
   (s.after (some d0) ⟨.ref (loc d0 0) [], [(loc d0 0, some y), ((d + 2, j), none)], false, [.of (loc d0 0)], [], some ((d + 2, j), loc d0 0), [], [], true⟩).roots v ((AV.kills [.of (loc d0 0)] av).ren (d + 2, j) (loc d0 0)) :=
  fun hv => (hstep hv).ren hy hm rfl hrs (kill_of_names _ _)
 refine ⟨⟨R.ext.Z, R.ext.S, fun i => ?_⟩, ⟨?_, ?_, ?_, ?_, ?_⟩, ?_, R.kept, ?_, ?_, R.defers, by simp [Act.put, R.room], ?_, R.zn⟩
 ·rw [Ctx.with_θ (by intro h; cases h)]; exact R.ext.θ i
 ·intro p z hp
  rcases hrs p z hp with ⟨rfl, rfl⟩ | ⟨h1, h2, h3⟩
  ·obtain ⟨G, g1, g2, g3⟩ := R.mem.ok _ _ hy
   refine ⟨G, ?_, by rw [Ctx.with_F0]; exact g2, fun h => by rw [hm] at h; cases h⟩
   rw [Ctx.with_ρ0]
   exact g1.mono (.refl _) (.refl _) (.refl _) (fun _ _ => rfl) (fun p' hp' => Ctx.with_θ (hpq _ _ hy p' hp'))
  ·exact (R.mem.ok p z h3).keep rfl rfl (Ctx.with_θ h1) (Ctx.with_ρ h1) (Ctx.with_F h1) (fun p' hp' => Ctx.with_θ (hpq p z h3 p' hp')) (fun _ _ => rfl)
 ·intro p p' z z' hp hp' hpp
  rcases hrs p z hp with ⟨rfl, rfl⟩ | ⟨h1, h2, h3⟩ <;> rcases hrs p' z' hp' with ⟨rfl, rfl⟩ | ⟨k1, k2, k3⟩
  ·exact absurd rfl hpp
  ·rw [Ctx.with_F0, Ctx.with_F k1]; exact R.mem.disj _ _ _ _ hy k3 (Ne.symm k2)
  ·rw [Ctx.with_F0, Ctx.with_F h1]; exact R.mem.disj _ _ _ _ h3 hy h2
  ·rw [Ctx.with_F h1, Ctx.with_F k1]; exact R.mem.disj _ _ _ _ h3 k3 hpp
 ·intro p z b hp hb
  rcases hrs p z hp with ⟨rfl, rfl⟩ | ⟨h1, h2, h3⟩
  ·rw [Ctx.with_F0] at hb; exact R.mem.apart _ _ b hy hb
  ·rw [Ctx.with_F h1] at hb; exact R.mem.apart _ _ b h3 hb
 ·exact R.mem.ro
 ·intro p z hp p' hp' z' hz'
  have hp0 : ∃ p0 z0, s.roots p0 = some z0 ∧ p' ∈ ptrsOf z0.k z0.d := by
   rcases hrs p z hp with ⟨rfl, rfl⟩ | ⟨h1, h2, h3⟩
   ·exact ⟨_, _, hy, hp'⟩
   ·exact ⟨_, _, h3, hp'⟩
  obtain ⟨p0, z0, k1, k2⟩ := hp0
  rcases hrs p' z' hz' with ⟨rfl, rfl⟩ | ⟨h1, h2, h3⟩
  ·exact absurd rfl (hpq p0 z0 k1 _ k2)
  ·exact R.mem.ptr p0 z0 k1 p' k2 z' h3
 ·intro t
  show VRel w _ _ ((a.put (some d0) (a.eval x)).tmps.getD t undef) (bif Nat.beq t d0 then _ else renAV (some ((d + 2, j), loc d0 0)) (AV.kills (killList _ _) (s.tmps t)))
  rw [getD_put (by rw [R.room]; exact hd0)]
  by_cases ht : t = d0
  ·rw [if_pos ht, beq_iff.2 ht]
   simp only [cond_true]
   obtain ⟨hA, hc⟩ := hx.cell (by simp) rfl (by simp) (by simp)
   refine VRel.mk ?_ rfl hc
   obtain ⟨v, hv, hr⟩ := hA
   refine ⟨v, hv, fun z hz => ?_⟩
   rcases hrs _ z hz with ⟨_, rfl⟩ | ⟨h1, _⟩
   ·rw [Ctx.with_ρ0]
    have hb : baseOf (C.with (loc d0 0) (C.θ (d + 2, j)) (C.ρ (d + 2, j)) (C.F (d + 2, j))) (loc d0 0) z = baseOf C (d + 2, j) z := by
     unfold baseOf; rw [if_neg (by simp [hm]), if_neg (by simp [hm])]
    rw [hb]; exact hr z hy
   ·exact absurd rfl h1
  ·rw [if_neg ht, beq_ne ht]
   exact hren (R.tm t)
 ·intro p z b hp hb
  rcases hrs p z hp with ⟨rfl, rfl⟩ | ⟨h1, h2, h3⟩
  ·rw [Ctx.with_F0] at hb; exact R.foot _ _ b hy hb
  ·rw [Ctx.with_F h1] at hb; exact R.foot _ _ b h3 hb
 ·intro p z hp p' hp' h2
  simp only [St.after, List.any_nil, Bool.or_false]
  rcases hrs p z hp with ⟨rfl, rfl⟩ | ⟨_, _, h3⟩
  ·exact R.pins _ _ hy p' hp' h2
  ·exact R.pins _ _ h3 p' hp' h2
 ·intro i z hp hm2
  rcases hrs _ z hp with ⟨h, _⟩ | ⟨h1, _, h3⟩
  ·cases h
  ·rw [Ctx.with_ρ h1]; exact R.parρ i z h3 hm2
end
end Go.Abs

namespace Go.Abs
def rsIn (l : List Root) : RF := fun r => match r with
 | (0, i) => l[i]?
 | _ => none
def rsOut (co : CallOut) : RF := fun r => match r with
 | (0, i) => co.roots[i]?
 | (1, j) => co.fresh[j]?
 | _ => none
def mayWrite (C : Ctx) (l : List Root) : BS := fun b => ∃ i x, l[i]? = some x ∧ C.F (par i) b
structure CallPost (w : World) (C : Ctx) (ci : CallIn) (co : CallOut) (v : Value) (w' : World) (C' : Ctx) : Prop where
 Z : Sub C.Z C'.Z
 S : C'.S = C.S
 θ : ∀ i, C'.θ (par i) = C.θ (par i)
 mem : Mem w' C' (rsOut co)
 val : VRel w' C' (rsOut co) v co.res
 ρ : ∀ i x, co.roots[i]? = some x → x.mem = false → C'.ρ (par i) = C.ρ (par i)
 kept : Keeps (mayWrite C ci.roots) w w'
 foot : ∀ r x b, rsOut co r = some x → C'.F r b → w.heap.size ≤ b ∨ mayWrite C ci.roots b
 zn : ∀ b, C'.Z b → C.Z b ∨ w.heap.size ≤ b ∨ mayWrite C ci.roots b
def SoftPost (w : World) (C : Ctx) (ci : CallIn) (co : CallOut) (w' : World) (C' : Ctx) : Prop :=
 ∀ p l x, ci.args = .ref (0, 0) p :: l → ci.roots = [x] → ∃ d' m' e, co.roots = [⟨x.mem, x.k, m', d'⟩] ∧ Stays w w' x.k x.d d' x.m m' (C.ρ (par 0)) (C'.ρ (par 0)) (baseOf C (par 0) x) (.sl e) (p ++ [.idx 0])
structure Glb where
 blocks : List Nat
 holds : World → Prop
 congr : ∀ w w' : World, (∀ b ∈ blocks, w'.heap[b]? = w.heap[b]?) → holds w → holds w'
def Glb.none : Glb := ⟨[], fun _ => True, fun _ _ _ h => h⟩
def Glb.ok (Γ : Glb) (w : World) (C : Ctx) : Prop := (∀ b ∈ Γ.blocks, C.Z b) ∧ Γ.holds w
def Contract (P : Program) (Γ : Glb) (f : FuncId) (q : Ctr) : Prop :=
 ∀ (w : World) (C : Ctx) (ci : CallIn) (co : CallOut) (vals : Array Value), Mem w C (rsIn ci.roots) → (∀ x ∈ ci.roots, ∀ p ∈ ptrsOf x.k x.d, p.1 = 0) → vals.size = ci.args.length →
  (∀ (i : Nat) (v : Value) (a : AV), vals[i]? = some v → ci.args[i]? = some a → VRel w C (rsIn ci.roots) v a) → Γ.ok w C → (q.G ci).run some = some co →
  Calls P f vals w fun e w' => match e with
   | .returned v => ∃ C', CallPost w C ci co v w' C' ∧ (q.soft = true → SoftPost w C ci co w' C')
   | _ => False
def Enters (P : Program) (f : FuncId) : Prop := ∃ fn, P.funcs[f]? = some fn ∧ (fn.name == "runtime.NumGoroutine") = false ∧ fn.body.isNone = false
def EnvOK (P : Program) (Γ : Glb) (V : Env) : Prop := ∀ f q, V.ctr f = some q → Contract P Γ f q ∧ Enters P f
structure EnvG (P : Program) (Γ : Glb) (V : Env) (w0 : World) (M0 : BS) (C0 : Ctx) : Prop where
 env : EnvOK P Γ V
 gl : (∀ b ∈ Γ.blocks, C0.Z b ∧ ¬ M0 b ∧ b < w0.heap.size) ∧ Γ.holds w0
theorem EnvG.here {P : Program} {Γ : Glb} {V : Env} {w0 w : World} {M0 : BS} {n : Nat} {C0 C : Ctx} {s : St} {a : Act} (h : EnvG P Γ V w0 M0 C0) (R : Rel w0 M0 n C0 C s a w) : (∀ b ∈ Γ.blocks, C.Z b) ∧ Γ.holds w :=
 ⟨fun b hb => R.ext.Z b (h.gl.1 b hb).1, Γ.congr w0 w (fun b hb => R.kept.block b (h.gl.1 b hb).2.2 (h.gl.1 b hb).2.1) h.gl.2⟩
section
variable {P : Program} {V : Env} {w0 w : World} {M0 : BS} {n : Nat} {C0 C : Ctx} {s : St} {a : Act}
variable {R' : Type} {r : R'} {o : Oper} {c : Del → Option R'}
structure Callee (C : Ctx) (rs : RF) (sn : List RName) (g : Reg) (Cc : Ctx) (rsc : RF) : Prop where
 Z : Cc.Z = C.Z
 S : Sub C.S Cc.S
 sn : ∀ r ∈ sn, Sub (C.F r) Cc.S
 θ : ∀ i r, g[i]? = some r → Cc.θ (par i) = C.θ r
 ρ : ∀ i r, g[i]? = some r → Cc.ρ (par i) = C.ρ r
 root : ∀ i y, rsc (par i) = some y → ∃ r x, g[i]? = some r ∧ rs r = some x ∧ y.mem = x.mem ∧ y.k = x.k ∧ ∀ p, canGet x.k x.d x.m p → canGet y.k y.d y.m p
theorem place_foot {C : Ctx} {q : RName} {x : Root} {p : Path} {k : K} {d : k.den} {m : Mask} {vs : List Value} {b1 : Option (Nat × Nat)} (h : RootOK w C q x) (hp : Place w C q x p k d m vs b1) :
  ∃ F, Enc w C.θ C.Z C.S k m d vs F ∧ Sub F (C.F q) := by
 have hl := h.lies
 obtain ⟨G, he, hs, _⟩ := h
 have h1 := hp.get _ (fun k d m => some ((⟨k, d⟩ : Σ k : K, k.den), m))
 obtain ⟨k', d', m', vs', b1', F', g1, g2, g3, g4, g5, _⟩ := getP_sound p h1 he hl
 simp only [Option.some.injEq, Prod.mk.injEq, Sigma.mk.injEq] at g1
 obtain ⟨⟨rfl, h2⟩, rfl⟩ := g1
 cases h2
 have := hp.lc
 rw [g3] at this
 simp only [Option.some.injEq, Prod.mk.injEq] at this
 obtain ⟨rfl, _⟩ := this
 exact ⟨F', g4, g5.trans hs⟩
theorem find_some {p : RName} : ∀ (g : Reg) (i j : Nat), Reg.find p g i = some j → i ≤ j ∧ g[j - i]? = some p := by
 intro g
 induction g with
 | nil => intro i j h; simp [Reg.find] at h
 | cons q g ih =>
  intro i j h
  simp only [Reg.find] at h
  by_cases hq : p = q
  ·rw [req_iff.2 hq] at h
   simp only [cond_true, Option.some.injEq] at h
   subst h
   simp [hq]
  ·rw [req_ne hq] at h
   obtain ⟨h1, h2⟩ := ih _ _ h
   refine ⟨by omega, ?_⟩
   rw [show j - i = (j - (i + 1)) + 1 by omega]
   simpa using h2
theorem find_none {p : RName} : ∀ (g : Reg) (i : Nat), Reg.find p g i = none → p ∉ g := by
 intro g
 induction g with
 | nil => intro i _ h; cases h
 | cons q g ih =>
  intro i h
  simp only [Reg.find] at h
  by_cases hq : p = q
  ·rw [req_iff.2 hq] at h; simp at h
  ·rw [req_ne hq] at h
   simp only [List.mem_cons, not_or]
   exact ⟨hq, ih _ h⟩
theorem put_spec {p : RName} {g : Reg} {i : Nat} {g1 : Reg} (h : Reg.put p g = (i, g1)) : g1[i]? = some p ∧ (∃ t, g1 = g ++ t) ∧ (g.Nodup → g1.Nodup) := by
 unfold Reg.put at h
 split at h
 ·rename_i j hj
  simp only [Prod.mk.injEq] at h
  obtain ⟨rfl, rfl⟩ := h
  obtain ⟨_, h2⟩ := find_some _ _ _ hj
  exact ⟨by simpa using h2, ⟨[], by simp⟩, id⟩
 ·rename_i hj
  simp only [Prod.mk.injEq] at h
  obtain ⟨rfl, rfl⟩ := h
  have hn := find_none _ _ hj
  refine ⟨by simp, ⟨[p], rfl⟩, fun h => ?_⟩
  rw [List.nodup_append]
  exact ⟨h, by simp, by intro x hx y hy; simp only [List.mem_singleton] at hy; subst hy; rintro rfl; exact hn hx⟩
theorem puts_spec : ∀ (l : List RName) {g : Reg} {l' : List RName} {g1 : Reg}, Reg.puts l g = (l', g1) → (∃ t, g1 = g ++ t) ∧ (g.Nodup → g1.Nodup) ∧ l'.length = l.length ∧
  ∀ (j : Nat) (p : RName), l[j]? = some p → ∃ i : Nat, l'[j]? = some (par i) ∧ g1[i]? = some p := by
 intro l
 induction l with
 | nil =>
  intro g l' g1 h
  simp only [Reg.puts, Prod.mk.injEq] at h
  obtain ⟨rfl, rfl⟩ := h
  exact ⟨⟨[], by simp⟩, id, rfl, by simp⟩
 | cons p l ih =>
  intro g l' g1 h
  simp only [Reg.puts] at h
  generalize hp : Reg.put p g = pr at h
  obtain ⟨i, g2⟩ := pr
  simp only at h
  generalize hps : Reg.puts l g2 = pr at h
  obtain ⟨l2, g3⟩ := pr
  simp only [Prod.mk.injEq] at h
  obtain ⟨rfl, rfl⟩ := h
  obtain ⟨h1, ⟨t, rfl⟩, h3⟩ := put_spec hp
  obtain ⟨⟨t2, rfl⟩, k2, k3, k4⟩ := ih hps
  refine ⟨⟨t ++ t2, by simp⟩, fun h => k2 (h3 h), by simp [k3], fun j q hj => ?_⟩
  cases j with
  | zero =>
   simp only [List.getElem?_cons_zero, Option.some.injEq] at hj
   subst hj
   exact ⟨i, rfl, by rw [List.getElem?_append_left (List.getElem?_eq_some_iff.1 h1).1]; exact h1⟩
  | succ j => simpa using k4 j q (by simpa using hj)
theorem get_app {α : Type} {l t : List α} {i : Nat} {x : α} (h : l[i]? = some x) : (l ++ t)[i]? = some x := by
 rw [List.getElem?_append_left (List.getElem?_eq_some_iff.1 h).1]; exact h
theorem iptrArg_sound {w : World} {C : Ctx} {rs : RF} {R : Type} {r : R} {z : Bool} : ∀ {k : K} {d : k.den} {p : Path} {c : AV → Option R}, iptrArg z k d p c = some r →
  ∃ (k1 : K) (d1 : k1.den) (p1 : Path), c (.iptr z k1 d1 p1) = some r ∧ ∀ vs, AVC w C rs (.iptr z k d p) vs → AVC w C rs (.iptr z k1 d1 p1) vs := by
 intro k d p c h
 unfold iptrArg at h
 split at h
 ·rename_i e d i
  split at h
  case h_2 => cases h
  rename_i x hx
  refine ⟨_, _, _, h, fun vs hv => ?_⟩
  obtain ⟨vs0, b, off, cs, k', h1, h2, h3, h4, h5, h6, h7⟩ := hv
  rcases h2 with ⟨h2, _⟩ | ⟨_, h2, _⟩ | ⟨hm, b0, off0, cap, c0, T, fz, hv, hc, hle, hs, hok, G, hG, hd, hel⟩
  ·cases h2
  ·rw [h2] at hx; simp at hx
  ·subst hv
   have hi : i < List.length d := (List.getElem?_eq_some_iff.1 hx).1
   have hsz : off0 + i * e.size + e.size ≤ c0.size := by
    have : (i + 1) * e.size ≤ cap * e.size := Nat.mul_le_mul_right _ (by omega)
    rw [Nat.add_mul, Nat.one_mul] at this; omega
   simp only [locv, cellsAt, hc] at h6
   refine ⟨[.slice (some ⟨b0, off0 + i * e.size, none⟩) 1 1], b, off, cs, e, h1, .inr (.inr ⟨by simp, b0, off0 + i * e.size, 1, c0, T, fz, rfl, hc, Nat.le_refl _, by omega, hok, fun _ => noB, fun _ => ⟨fun _ h => h.elim, fun h => h⟩, fun _ _ _ _ h => h.elim, fun j y hy => ?_⟩), by cases e <;> rfl, ⟨by simp, x, rfl, canGet_nil _ _ _⟩, rfl, ?_, h7⟩
   ·cases j with
    | succ j => simp at hy
    | zero =>
     simp only [List.getElem?_cons_zero, Option.some.injEq] at hy
     subst hy
     rw [Nat.zero_mul, Nat.add_zero]
     exact (hel i _ hx).mono (.refl _) (.refl _) (fun b hb => ((hG i).1 b hb).elim) (fun _ _ => rfl) (fun _ _ => rfl)
   ·simp only [locv, cellsAt, hc, Nat.zero_mul, Nat.add_zero]
    exact h6
 ·exact ⟨_, _, _, h, fun _ hv => hv⟩
theorem getP_block {θ : RName → Nat} {Z S : BS} {w : World} {R : Type} {r : R} {b off : Nat} : ∀ (p : Path) {k : K} {m : Mask} {d : k.den} {vs : List Value} {F : BS} {base : Option (Nat × Nat)} {c : (k' : K) → k'.den → Mask → Option R} {old : List Value},
  getP k d m p c = some r → Enc w θ Z S k m d vs F → locv w k vs base p = some (old, some (b, off)) → (F b ∨ Z b ∨ S b) ∨ ∃ o0, base = some (b, o0) := by
 intro p
 induction p with
 | nil =>
  intro k m d vs F base c old h he hloc
  rw [locv_nil] at hloc
  simp only [Option.some.injEq, Prod.mk.injEq] at hloc
  exact .inr ⟨off, hloc.2⟩
 | cons st p ih =>
  intro k m d vs F base c old h he hloc
  cases st with
  | fst =>
   cases k with
   | pair ka kb =>
    obtain ⟨v1, v2, Fa, Fb, rfl, s1, s2, dj, h1, h2⟩ := he
    simp only [locv] at hloc
    rw [← h1.len, List.take_left] at hloc
    exact (ih (k := ka) h h1 hloc).imp (fun g => g.imp (s1 _) id) id
   | _ => simp [getP] at h
  | snd =>
   cases k with
   | pair ka kb =>
    obtain ⟨v1, v2, Fa, Fb, rfl, s1, s2, dj, h1, h2⟩ := he
    simp only [locv] at hloc
    rw [← h1.len, List.drop_left] at hloc
    rcases ih (k := kb) h h2 hloc with g | ⟨o0, ho⟩
    ·exact .inl (g.imp (s2 _) id)
    ·cases base with
     | none => simp at ho
     | some y => simp only [Option.map_some, Option.some.injEq, Prod.mk.injEq] at ho; exact .inr ⟨y.2, by rw [← ho.1]⟩
   | _ => simp [getP] at h
  | idx i =>
   cases k with
   | sl e =>
    simp only [getP] at h
    split at h
    case h_2 => simp at h
    case h_1 x hx =>
    rcases he with ⟨rfl, _⟩ | ⟨_, rfl, _⟩ | ⟨hgone, b', off', cap, cs, T, fz, rfl, hc, hle, hs, hok, G, hG, hdj, hel⟩
    ·simp at h
    ·simp at hx
    ·have h' : getP e x m.elem p c = some r := by
      cases m <;> first | exact h | exact absurd rfl hgone
     simp only [locv, cellsAt, hc] at hloc
     rcases ih (k := e) h' (hel i x hx) hloc with g | ⟨o0, g⟩
     ·exact .inl (g.imp ((hG i).1 _) id)
     ·simp only [Option.some.injEq, Prod.mk.injEq] at g
      rw [← g.1]
      exact .inl (slOk_in hok)
   | _ => simp [getP] at h
theorem argOf_sound {rs : RF} (hM : Mem w C rs) (rw : Bool) : ∀ (av : AV) {kind : Option K} {sn : List RName} {g : Reg} {c : AV → List RName → Reg → Option R'}, argOf rs rw kind av sn g c = some r →
  ∃ av' sn' g', c av' sn' g' = some r ∧ (∀ x ∈ sn, x ∈ sn') ∧ (∀ x ∈ sn', x ∈ sn ∨ ∃ y, rs x = some y) ∧ (∃ t, g' = g ++ t) ∧ (g.Nodup → g'.Nodup) ∧ av ≠ .dead ∧ (∀ vs, ¬ TRel w C rs av vs) ∧
   ∀ vs, AVC w C rs av vs → av'.agg = av.agg ∧ ∀ snf gf, (∀ x ∈ sn', x ∈ snf) → (∃ t, gf = g' ++ t) → ∀ Cc rsc, Callee C rs snf gf Cc rsc → AVC w Cc rsc av' vs := by
 intro av
 induction av with
 | imm z k d =>
  intro kind sn g c h
  refine ⟨_, _, _, h, fun _ h => h, fun _ h => .inl h, ⟨[], by simp⟩, id, by simp, fun _ h => h.elim, fun vs hv => ⟨rfl, fun snf gf _ _ Cc rsc hC => ?_⟩⟩
  refine ⟨hv.1, ?_⟩
  rw [hC.Z]
  have he : Enc w Cc.θ C.Z Cc.S k (.imm z) d vs noB := hv.2.mono (.refl _) hC.S (.refl _) (fun _ _ => rfl) (fun p hp => by rw [ptrsOf_plain d hv.1] at hp; cases hp)
  cases hf : k.flat with
  | true => exact he.flat hf
  | false => exact he
 | nil =>
  intro kind sn g c h
  simp only [argOf] at h
  split at h
  case h_2 => simp at h
  case h_1 e =>
  cases hp : e.plain with
  | false => simp [hp] at h
  | true =>
  simp only [hp, cond_true] at h
  cases rw with
  | true => exact ⟨_, _, _, h, fun _ h => h, fun _ h => .inl h, ⟨[], by simp⟩, id, by simp, fun _ h => h.elim, fun vs hv => ⟨rfl, fun snf gf _ _ Cc rsc hC => hv⟩⟩
  | false => exact ⟨_, _, _, h, fun _ h => h, fun _ h => .inl h, ⟨[], by simp⟩, id, by simp, fun _ h => h.elim, fun vs hv => ⟨rfl, fun snf gf _ _ Cc rsc hC => ⟨hp, .inr (.inl ⟨by simp, rfl, none, hv⟩)⟩⟩⟩
 | emp =>
  intro kind sn g c h
  simp only [argOf] at h
  split at h
  case h_2 => simp at h
  case h_1 e =>
  cases hp : e.plain with
  | false => simp [hp] at h
  | true =>
  simp only [hp, cond_true] at h
  exact ⟨_, _, _, h, fun _ h => h, fun _ h => .inl h, ⟨[], by simp⟩, id, by simp, fun _ h => h.elim, fun vs hv => ⟨rfl, fun snf gf _ _ Cc rsc hC => ⟨hp, .inr (.inl ⟨by simp, rfl, hv⟩)⟩⟩⟩
 | nilp =>
  intro kind sn g c h
  exact ⟨_, _, _, h, fun _ h => h, fun _ h => .inl h, ⟨[], by simp⟩, id, by simp, fun _ h => h.elim, fun vs hv => ⟨rfl, fun snf gf _ _ Cc rsc hC => hv⟩⟩
 | ptr q p =>
  intro kind sn g c h
  cases p with
  | cons st p =>
   simp only [argOf] at h
   cases rw with
   | false => simp at h
   | true =>
   simp only [cond_true] at h
   split at h
   case h_1 => simp at h
   case h_2 x hx =>
   obtain ⟨k, d, m, vs0, b1, hp, hc⟩ := place_get (hM.ok _ _ hx) h
   cases hl : (m.live && k.plain) with
   | false => simp [hl] at hc
   | true =>
   simp only [hl, cond_true] at hc
   simp only [Bool.and_eq_true] at hl
   obtain ⟨F, hF, hFs⟩ := place_foot (hM.ok _ _ hx) hp
   refine ⟨_, _, _, hc, fun _ h => List.mem_cons_of_mem _ h, fun p hp => ?_, ⟨[], by simp⟩, id, by simp, fun _ h => h.elim, fun vs hv => ⟨rfl, fun snf gf hsn hgf Cc rsc hC => ?_⟩⟩
   ·rcases List.mem_cons.1 hp with rfl | hp
    ·exact .inr ⟨x, hx⟩
    ·exact .inl hp
   ·obtain ⟨b, off, rfl, _, hr⟩ := hv
    obtain ⟨k', cs, e1, e2, e3⟩ := hr x hx
    have hlc := hp.lc
    rw [e3] at hlc
    simp only [Option.some.injEq, Prod.mk.injEq] at hlc
    obtain ⟨rfl, rfl⟩ := hlc
    obtain ⟨c0, T, fz, hhp, hsz, hsub⟩ := hp.lies
    have hqS : ∀ b, C.F q b → Cc.S b := hC.sn q (hsn q (by simp))
    obtain ⟨G, hG, hGs, hGm⟩ := hM.ok _ _ hx
    have hb : Cc.Z b ∨ Cc.S b := by
     have h1 := hp.get _ (fun k d m => some ((⟨k, d⟩ : Σ k : K, k.den), m))
     rcases getP_block _ h1 hG e3 with (g | g | g) | ⟨o0, g⟩
     ·exact .inr (hqS b (hGs b g))
     ·exact .inl (by rw [hC.Z]; exact g)
     ·exact .inr (hC.S b g)
     ·unfold baseOf at g
      split at g
      ·rename_i hm
       simp only [Option.some.injEq, Prod.mk.injEq] at g
       rw [← g.1]
       exact .inr (hqS _ (hGm hm).2.1)
      ·cases g
    have hel := (hF.snap (S' := Cc.S) (G := noB) hC.S hl.1 (hFs.trans hqS)).mono (θ' := Cc.θ) (w' := w) (.refl _) (.refl _) (.refl _) (fun _ _ => rfl) (fun p hp => by rw [ptrsOf_plain d hl.2] at hp; cases hp)
    have hlen := hF.len
    rw [hlen] at hsub hsz
    refine ⟨[.slice (some ⟨b, off, none⟩) 1 1], b, off, cs, k, hl.2, ?_, (show k.at [] = some k from at_nil _), ⟨by simp, d, rfl, canGet_nil _ _ _⟩, rfl, ?_, rfl⟩
    ·refine .inr (.inr ⟨by simp, b, off, 1, c0, T, fz, rfl, hhp, Nat.le_refl _, by omega, ?_, fun _ => noB, fun _ => ⟨fun _ h => h.elim, fun h => h⟩, fun _ _ _ _ h => h.elim, fun i y hy => ?_⟩)
     ·exact hb.imp id fun g => ⟨rfl, g⟩
     have hi0 : i = 0 := by
      have := (List.getElem?_eq_some_iff.1 hy).1
      simp at this; exact this
     subst hi0
     simp only [List.getElem?_cons_zero, Option.some.injEq] at hy
     subst hy
     rw [Nat.zero_mul, Nat.add_zero, hsub]
     rw [← hC.Z] at hel
     exact hel
    ·have hc : cellsAt w b off k.size = cs := by unfold cellsAt; rw [hhp]; exact hsub
     simp only [locv, Nat.zero_mul, Nat.add_zero, hc]
  | nil =>
   simp only [argOf] at h
   cases rw with
   | true =>
    simp only [cond_true] at h
    split at h
    case h_1 => simp at h
    case h_2 x hx =>
    cases hl : (x.mem && (x.m.live && x.k.plain)) with
    | false => rw [hl] at h; simp at h
    | true =>
    rw [hl] at h
    simp only [cond_true] at h
    simp only [Bool.and_eq_true] at hl
    obtain ⟨hmem, hlive, hpl⟩ := hl
    obtain ⟨G, hG, hGs, hGm⟩ := hM.ok _ _ hx
    obtain ⟨_, hθ, T, hhp⟩ := hGm hmem
    refine ⟨_, _, _, h, fun _ h => List.mem_cons_of_mem _ h, fun p hp => ?_, ⟨[], by simp⟩, id, by simp, fun _ h => h.elim, fun vs hv => ⟨rfl, fun snf gf hsn hgf Cc rsc hC => ?_⟩⟩
    ·rcases List.mem_cons.1 hp with rfl | hp
     ·exact .inr ⟨x, hx⟩
     ·exact .inl hp
    ·obtain ⟨b, off, rfl, h0, _⟩ := hv
     obtain ⟨rfl, rfl⟩ := h0 rfl
     have hS : Cc.S (C.θ q) := hC.sn q (hsn q (by simp)) _ hθ
     have hsub : Sub G Cc.S := hGs.trans (hC.sn q (hsn q (by simp)))
     have hel := (hG.snap (S' := Cc.S) (G := noB) hC.S hlive hsub).mono (θ' := Cc.θ) (w' := w) (.refl _) (.refl _) (.refl _) (fun _ _ => rfl) (fun p hp => by rw [ptrsOf_plain x.d hpl] at hp; cases hp)
     have hlen := hG.len
     have hfull : Go.Abs.sub (C.ρ q).toArray 0 x.k.size = C.ρ q := by unfold Go.Abs.sub; simp only [List.drop_zero]; rw [List.take_of_length_le (by omega)]
     refine ⟨[.slice (some ⟨C.θ q, 0, none⟩) 1 1], C.θ q, 0, C.ρ q, x.k, hpl, ?_, (show x.k.at [] = some x.k from at_nil _), ⟨by simp, x.d, rfl, canGet_nil _ _ _⟩, rfl, ?_, rfl⟩
     ·rw [hC.Z]
      refine .inr (.inr ⟨by simp, C.θ q, 0, 1, (C.ρ q).toArray, T, (0, 0), rfl, hhp, Nat.le_refl _, by simp [hlen], .inr ⟨rfl, hS⟩, fun _ => noB, fun _ => ⟨fun _ h => h.elim, fun h => h⟩, fun _ _ _ _ h => h.elim, fun i y hy => ?_⟩)
      have hi0 : i = 0 := by
       have := (List.getElem?_eq_some_iff.1 hy).1
       simp at this; exact this
      subst hi0
      simp only [List.getElem?_cons_zero, Option.some.injEq] at hy
      subst hy
      rw [Nat.zero_mul, Nat.add_zero, hfull]
      exact hel
     ·have hc : cellsAt w (C.θ q) 0 x.k.size = C.ρ q := by unfold cellsAt; rw [hhp]; exact hfull
      simp only [locv, Nat.zero_mul, Nat.add_zero, hc]
   | false =>
   simp only [cond_false] at h
   generalize hp : Reg.put q g = pr at h
   obtain ⟨i, g1⟩ := pr
   simp only at h
   obtain ⟨h1, h2, h3⟩ := put_spec hp
   refine ⟨_, _, _, h, fun _ h => h, fun _ h => .inl h, h2, h3, by simp, fun _ h => h.elim, fun vs hv => ⟨rfl, fun snf gf _ hgf Cc rsc hC => ?_⟩⟩
   obtain ⟨t, rfl⟩ := hgf
   obtain ⟨b, off, rfl, h0, hr⟩ := hv
   have hi := get_app (t := t) h1
   refine ⟨b, off, rfl, fun hh => by rw [hC.θ i q hi]; exact h0 hh, fun y hy => ?_⟩
   obtain ⟨q', x, g1', g2', g3', g4', g5'⟩ := hC.root i y hy
   rw [hi] at g1'
   simp only [Option.some.injEq] at g1'
   subst g1'
   obtain ⟨k', cs, e1, e2, e3⟩ := hr x g2'
   rw [locv_nil] at e3
   rw [at_nil] at e1
   simp only [Option.some.injEq, Prod.mk.injEq] at e3
   refine ⟨y.k, cs, at_nil _, canGet_nil _ _ _, ?_⟩
   rw [locv_nil, hC.ρ i q hi, e3.1, ← e3.2]
   unfold baseOf
   rw [g3', hC.θ i q hi]
 | iptr z k d p =>
  intro kind sn g c h
  simp only [argOf] at h
  obtain ⟨k1, d1, p1, h, hcv⟩ := iptrArg_sound h
  refine ⟨_, _, _, h, fun _ h => h, fun _ h => .inl h, ⟨[], by simp⟩, id, by simp, fun _ h => h.elim, fun vs hv => ⟨rfl, fun snf gf _ _ Cc rsc hC => ?_⟩⟩
  obtain ⟨vs0, b, off, cs, k', h1, h2, h3⟩ := hcv vs hv
  refine ⟨vs0, b, off, cs, k', h1, ?_, h3⟩
  rw [hC.Z]
  exact h2.mono (.refl _) hC.S (.refl _) (fun _ _ => rfl) (fun p hp => by rw [ptrsOf_plain d1 h1] at hp; cases hp)
 | nn _ _ _ => intro kind sn g c h; simp [argOf] at h
 | vw _ _ _ => intro kind sn g c h; simp [argOf] at h
 | ref q p =>
  intro kind sn g c h
  simp only [argOf] at h
  split at h
  case h_1 => simp at h
  case h_2 x hx =>
  cases rw with
  | true =>
   simp only [cond_true] at h
   split at h
   case h_2 hpne =>
    generalize hp : Reg.put q g = pr at h
    obtain ⟨i, g1⟩ := pr
    simp only at h
    obtain ⟨h1, h2, h3⟩ := put_spec hp
    refine ⟨_, _, _, h, fun _ h => h, fun _ h => .inl h, h2, h3, by simp, fun _ h => h.elim, fun vs hv => ⟨rfl, fun snf gf _ hgf Cc rsc hC => ?_⟩⟩
    obtain ⟨t, rfl⟩ := hgf
    obtain ⟨v, rfl, hr⟩ := hv
    have hi := get_app (t := t) h1
    refine ⟨v, rfl, fun y hy => ?_⟩
    obtain ⟨q', x', g1', g2', g3', g4', g5'⟩ := hC.root _ y hy
    rw [hi] at g1'
    simp only [Option.some.injEq] at g1'
    subst g1'
    obtain ⟨e', base, e1, e2, e3⟩ := hr x' g2'
    refine ⟨e', base, by rw [g4']; exact e1, g5' p e2, ?_⟩
    have hb : baseOf Cc (par i) y = baseOf C q x' := by unfold baseOf; rw [g3', hC.θ i q hi]
    rw [hC.ρ i q hi, hb, g4']
    exact e3
   case h_1 =>
   cases hm : memR q g with
   | true => simp [hm] at h
   | false =>
   simp only [hm, cond_false] at h
   refine ⟨_, _, _, h, fun _ h => h, fun _ h => .inl h, ⟨[q], rfl⟩, fun hnd => ?_, by simp, fun _ h => h.elim, fun vs hv => ⟨rfl, fun snf gf _ hgf Cc rsc hC => ?_⟩⟩
   ·rw [List.nodup_append]
    refine ⟨hnd, by simp, fun x0 hx0 y hy => ?_⟩
    simp only [List.mem_singleton] at hy
    subst hy
    rintro rfl
    rw [memR_iff.2 hx0] at hm; cases hm
   ·obtain ⟨t, rfl⟩ := hgf
    obtain ⟨v, rfl, hr⟩ := hv
    have hi : ((g ++ [q]) ++ t)[g.length]? = some q := by simp
    refine ⟨v, rfl, fun y hy => ?_⟩
    obtain ⟨q', x', g1', g2', g3', g4', g5'⟩ := hC.root _ y hy
    rw [hi] at g1'
    simp only [Option.some.injEq] at g1'
    subst g1'
    obtain ⟨e', base, e1, e2, e3⟩ := hr x' g2'
    rw [locv_nil] at e3
    simp only [Option.some.injEq, Prod.mk.injEq] at e3
    refine ⟨e', baseOf Cc (par g.length) y, by rw [at_nil, g4', ← at_nil]; exact e1, canGet_nil _ _ _, ?_⟩
    rw [locv_nil, hC.ρ _ q hi, e3.1]
  | false =>
   simp only [cond_false] at h
   obtain ⟨k, d, m, vs0, b1, hp, hc⟩ := place_get (hM.ok _ _ hx) h
   cases hl : (m.live && k.plain) with
   | false => simp [hl] at hc
   | true =>
   simp only [hl, cond_true] at hc
   simp only [Bool.and_eq_true] at hl
   obtain ⟨F, hF, hFs⟩ := place_foot (hM.ok _ _ hx) hp
   by_cases hmi : ∃ z, m = .imm z
   ·obtain ⟨z, rfl⟩ := hmi
    refine ⟨_, _, _, hc, fun _ h => h, fun _ h => .inl h, ⟨[], by simp⟩, id, by simp, fun _ h => h.elim, fun vs hv => ?_⟩
    obtain ⟨v, rfl, hr⟩ := hv
    obtain ⟨e', base, e1, e2, e3⟩ := hr x hx
    have hkk := hp.at_
    rw [e1] at hkk
    simp only [Option.some.injEq] at hkk
    refine ⟨by show k.isAgg = false; rw [← hkk]; rfl, fun snf gf hsn hgf Cc rsc hC => ?_⟩
    have := hp.lc
    rw [e3] at this
    simp only [Option.some.injEq, Prod.mk.injEq] at this
    obtain ⟨rfl, _⟩ := this
    refine ⟨hl.2, ?_⟩
    rw [hC.Z]
    exact (Enc.imm0 (G := noB) hF).mono (.refl _) hC.S (.refl _) (fun _ _ => rfl) (fun p hp => by rw [ptrsOf_plain d hl.2] at hp; cases hp)
   have hc : c (.imm false k d) (q :: sn) g = some r := by
    cases m <;> first | exact hc | exact absurd ⟨_, rfl⟩ hmi
   refine ⟨_, _, _, hc, fun _ h => List.mem_cons_of_mem _ h, fun p hp => ?_, ⟨[], by simp⟩, id, by simp, fun _ h => h.elim, fun vs hv => ?_⟩
   ·rcases List.mem_cons.1 hp with rfl | hp
    ·exact .inr ⟨x, hx⟩
    ·exact .inl hp
   ·obtain ⟨v, rfl, hr⟩ := hv
    obtain ⟨e', base, e1, e2, e3⟩ := hr x hx
    have hkk := hp.at_
    rw [e1] at hkk
    simp only [Option.some.injEq] at hkk
    refine ⟨by show k.isAgg = false; rw [← hkk]; rfl, fun snf gf hsn hgf Cc rsc hC => ?_⟩
    have := hp.lc
    rw [e3] at this
    simp only [Option.some.injEq, Prod.mk.injEq] at this
    obtain ⟨rfl, _⟩ := this
    refine ⟨hl.2, ?_⟩
    rw [hC.Z]
    exact (hF.snap (S' := Cc.S) (G := noB) hC.S hl.1 (hFs.trans (hC.sn q (hsn q (by simp))))).mono (.refl _) (.refl _) (.refl _) (fun _ _ => rfl) (fun p hp => by rw [ptrsOf_plain d hl.2] at hp; cases hp)
 | slc q p lo k0 =>
  intro kind sn g c h
  simp only [argOf] at h
  split at h
  case h_1 => simp at h
  case h_2 x hx =>
  cases rw with
  | true => simp at h
  | false =>
   simp only [cond_false] at h
   obtain ⟨k, d, m, vs0, b1, hp, hc⟩ := place_get (hM.ok _ _ hx) h
   cases hl : (m.live && k.plain) with
   | false => simp [hl] at hc
   | true =>
   simp only [hl, cond_true] at hc
   simp only [Bool.and_eq_true] at hl
   obtain ⟨F, hF, hFs⟩ := place_foot (hM.ok _ _ hx) hp
   split at hc
   case h_2 => simp at hc
   case h_1 e dd =>
   refine ⟨_, _, _, hc, fun _ h => List.mem_cons_of_mem _ h, fun p hp => ?_, ⟨[], by simp⟩, id, by simp, fun _ h => h.elim, fun vs hv => ⟨rfl, fun snf gf hsn hgf Cc rsc hC => ?_⟩⟩
   ·rcases List.mem_cons.1 hp with rfl | hp
    ·exact .inr ⟨x, hx⟩
    ·exact .inl hp
   ·obtain ⟨v, v0, rfl, hr⟩ := hv
    obtain ⟨e', base, e1, e2, e3, e4⟩ := hr x hx
    have := hp.lc
    rw [e3] at this
    simp only [Option.some.injEq, Prod.mk.injEq] at this
    obtain ⟨rfl, _⟩ := this
    have := hp.at_
    rw [e1] at this
    simp only [Option.some.injEq, K.sl.injEq] at this
    subst this
    refine ⟨hl.2, ?_⟩
    rw [hC.Z]
    exact ((enc_slc hF (Mask.live_ne hl.1) e4).snap (S' := Cc.S) (G := noB) hC.S hl.1 (hFs.trans (hC.sn q (hsn q (by simp))))).mono (.refl _) (.refl _) (.refl _) (fun _ _ => rfl) (fun p hp => by rw [ptrsOf_plain _ hl.2] at hp; cases hp)
 | pair a b iha ihb =>
  intro kind sn g c h
  simp only [argOf] at h
  obtain ⟨a', sn1, g1, h, a1, a2, ⟨t1, rfl⟩, a4, a6, a7, a8⟩ := iha h
  obtain ⟨b', sn2, g2, h, b1, b2, ⟨t2, rfl⟩, b4, b6, b7, b8⟩ := ihb h
  refine ⟨_, _, _, h, fun x hx => b1 x (a1 x hx), fun x hx => ?_, ⟨t1 ++ t2, by simp⟩, fun h => b4 (a4 h), by simp, fun _ h => h.elim, fun vs hv => ⟨by rw [flatten_agg]; rfl, fun snf gf hsn hgf Cc rsc hC => ?_⟩⟩
  ·rcases b2 x hx with h | h
   ·exact a2 x h
   ·exact .inr h
  ·obtain ⟨v1, v2, rfl, h1, h2⟩ := hv
   obtain ⟨t3, rfl⟩ := hgf
   exact AVC.flatten ((a8 v1 h1).2 snf _ (fun x hx => hsn x (b1 x hx)) ⟨t2 ++ t3, by simp⟩ Cc rsc hC) ((b8 v2 h2).2 snf _ hsn ⟨t3, rfl⟩ Cc rsc hC)
 | fn f caps =>
  intro kind sn g c h
  simp only [argOf] at h
  generalize hp : Reg.puts caps g = pr at h
  obtain ⟨l, g1⟩ := pr
  simp only at h
  obtain ⟨h1, h2, h3, h4⟩ := puts_spec _ hp
  refine ⟨_, _, _, h, fun _ h => h, fun _ h => .inl h, h1, h2, by simp, fun _ h => h.elim, fun vs hv => ⟨rfl, fun snf gf _ hgf Cc rsc hC => ?_⟩⟩
  obtain ⟨t, rfl⟩ := hgf
  obtain ⟨rfl, hcap⟩ := hv
  refine ⟨?_, fun p hp y hy => ?_⟩
  ·congr 2
   unfold capV
   congr 1
   apply List.ext_getElem?
   intro j
   rw [List.getElem?_map, List.getElem?_map]
   cases hj : caps[j]? with
   | none => rw [List.getElem?_eq_none (by rw [h3]; exact List.getElem?_eq_none_iff.1 hj)]; rfl
   | some p =>
    obtain ⟨i, k1, k2⟩ := h4 j p hj
    rw [k1]
    simp only [Option.map_some]
    rw [hC.θ i p (get_app k2)]
  ·obtain ⟨j, hj⟩ := List.getElem?_of_mem hp
   have hjl : j < caps.length := by rw [← h3]; exact (List.getElem?_eq_some_iff.1 hj).1
   obtain ⟨i, k1, k2⟩ := h4 j caps[j] (List.getElem?_eq_getElem hjl)
   rw [hj] at k1
   simp only [Option.some.injEq] at k1
   subst k1
   obtain ⟨q', x, g1', g2', g3', g4', g5'⟩ := hC.root i y hy
   rw [get_app k2] at g1'
   simp only [Option.some.injEq] at g1'
   subst g1'
   rw [g3']
   exact hcap _ (List.getElem_mem hjl) x g2'
 | dead => intro kind sn g c h; simp [argOf] at h
 | tnil => intro kind sn g c h; simp [argOf] at h
 | tcons _ _ _ _ => intro kind sn g c h; simp [argOf] at h
theorem argsOf_sound {rs : RF} (hM : Mem w C rs) (rw : List Nat) : ∀ (l : List (AV × Value)) {kinds : List (Option K)} {j : Nat} {sn : List RName} {g : Reg} {c : List AV → List RName → Reg → Option R'},
  argsOf rs rw kinds j (l.map (·.1)) sn g c = some r → (∀ x ∈ l, VRel w C rs x.2 x.1) →
  ∃ l' sn' g', c l' sn' g' = some r ∧ (∀ x ∈ sn, x ∈ sn') ∧ (∀ x ∈ sn', x ∈ sn ∨ ∃ y, rs x = some y) ∧ (∃ t, g' = g ++ t) ∧ (g.Nodup → g'.Nodup) ∧ l'.length = l.length ∧
   ∀ snf gf, (∀ x ∈ sn', x ∈ snf) → (∃ t, gf = g' ++ t) → ∀ Cc rsc, Callee C rs snf gf Cc rsc → ∀ (i : Nat) (x : AV × Value) (a' : AV), l[i]? = some x → l'[i]? = some a' → VRel w Cc rsc x.2 a' := by
 intro l
 induction l with
 | nil =>
  intro kinds j sn g c h _
  exact ⟨_, _, _, h, fun _ h => h, fun _ h => .inl h, ⟨[], by simp⟩, id, rfl, by simp⟩
 | cons x l ih =>
  intro kinds j sn g c h hl
  simp only [List.map_cons, argsOf] at h
  obtain ⟨a', sn1, g1, h, a1, a2, ⟨t1, rfl⟩, a4, a5, a6, a7⟩ := argOf_sound hM _ x.1 h
  obtain ⟨l', sn2, g2, h, b1, b2, ⟨t2, rfl⟩, b4, b5, b6⟩ := ih h (fun x hx => hl x (by simp [hx]))
  refine ⟨_, _, _, h, fun y hy => b1 y (a1 y hy), fun y hy => ?_, ⟨t1 ++ t2, by simp⟩, fun h => b4 (a4 h), by simp [b5], ?_⟩
  ·rcases b2 y hy with h | h
   ·exact a2 y h
   ·exact .inr h
  ·intro snf gf hsn hgf Cc rsc hC i y a2' hy ha
   cases i with
   | zero =>
    simp only [List.getElem?_cons_zero, Option.some.injEq] at hy ha
    subst hy; subst ha
    obtain ⟨t3, rfl⟩ := hgf
    have hv := hl x (by simp)
    rcases hv with (hd | ⟨hg, vs, hv, hA⟩ | ⟨hg, hA, hc⟩) | ⟨vs, _, ht⟩
    ·exact absurd hd a5
    ·obtain ⟨k1, k2⟩ := a7 vs hA
     exact .inl (.inr (.inl ⟨by rw [k1]; exact hg, vs, hv, k2 snf _ (fun y hy => hsn y (b1 y hy)) ⟨t2 ++ t3, by simp⟩ Cc rsc hC⟩))
    ·obtain ⟨k1, k2⟩ := a7 _ hA
     exact .inl (.inr (.inr ⟨by rw [k1]; exact hg, k2 snf _ (fun y hy => hsn y (b1 y hy)) ⟨t2 ++ t3, by simp⟩ Cc rsc hC, hc⟩))
    ·exact absurd ht (a6 vs)
   | succ i => exact b6 snf gf hsn hgf Cc rsc hC i y a2' (by simpa using hy) (by simpa using ha)
theorem Enc.renD {θ θ' : RName → Nat} {Z S : BS} {f : RName → RName} : ∀ {k : K} {m : Mask} {d : k.den} {vs : List Value} {F : BS}, Enc w θ Z S k m d vs F → (∀ p ∈ ptrsOf k d, θ' (f p) = θ p) → Enc w θ' Z S k m (renD f k d) vs F := by
 intro k
 induction k with
 | ptr =>
  intro m d vs F h hp
  simp only [Enc] at h ⊢
  subst h
  cases d with
  | none => rfl
  | some p => simp only [Go.Abs.renD, ptrV, hp p (by simp [ptrsOf])]
 | fn =>
  intro m d vs F h hp
  simp only [Enc] at h ⊢
  subst h
  cases d with
  | none => rfl
  | some x =>
   simp only [Go.Abs.renD, fnV]
   congr 2
   unfold capV
   rw [List.map_map]
   congr 1
   exact List.map_congr_left fun p hm => by simp only [Function.comp, hp p (by simpa [ptrsOf] using hm)]
 | pair a b iha ihb =>
  intro m d vs F h hp
  simp only [Go.Abs.renD]
  cases hpl : (a.plain && b.plain) with
  | true =>
   simp only [cond_true]
   exact h.mono (.refl _) (.refl _) (.refl _) (fun _ _ => rfl) (fun p hp' => by rw [ptrsOf_plain d (by simpa [K.plain] using hpl)] at hp'; cases hp')
  | false =>
   simp only [cond_false]
   obtain ⟨v1, v2, F1, F2, rfl, s1, s2, dj, h1, h2⟩ := h
   exact ⟨v1, v2, F1, F2, rfl, s1, s2, dj, iha h1 (fun p hm => hp p (by simp [ptrsOf, hm])), ihb h2 (fun p hm => hp p (by simp [ptrsOf, hm]))⟩
 | sl e ih =>
  intro m d vs F h hp
  simp only [Go.Abs.renD]
  cases hpl : e.plain with
  | true =>
   simp only [cond_true]
   exact h.mono (.refl _) (.refl _) (.refl _) (fun _ _ => rfl) (fun p hp' => by rw [ptrsOf_plain d (by simpa [K.plain] using hpl)] at hp'; cases hp')
  | false =>
   simp only [cond_false]
   rcases h with h | ⟨h1, rfl, h2⟩ | ⟨hm, b, off, cap, cs, T, fz, rfl, hc, hle, hs, hok, G, hG, hd, he⟩
   ·exact .inl h
   ·exact .inr (.inl ⟨h1, rfl, h2⟩)
   ·refine .inr (.inr ⟨hm, b, off, cap, cs, T, fz, by simp, hc, by simpa using hle, hs, hok, G, hG, hd, fun i x hx => ?_⟩)
    rw [List.getElem?_map] at hx
    cases hy : d[i]? with
    | none => rw [hy] at hx; simp at hx
    | some y =>
     rw [hy] at hx
     simp only [Option.map_some, Option.some.injEq] at hx
     subst hx
     exact ih (he i y hy) (fun p hm => hp p (mem_ptrsOf_sl (List.mem_of_getElem? hy) hm))
 | _ => intro m d vs F h _; exact h
theorem ptrs_renD {f : RName → RName} : ∀ {k : K} (d : k.den), ptrsOf k (renD f k d) = (ptrsOf k d).map f := by
 intro k
 induction k with
 | ptr => intro d; cases d <;> rfl
 | fn => intro d; cases d <;> simp [ptrsOf, Go.Abs.renD]
 | pair a b iha ihb =>
  intro d
  simp only [Go.Abs.renD]
  cases hpl : (a.plain && b.plain) with
  | true =>
   simp only [cond_true]
   rw [ptrsOf_plain d (by simpa [K.plain] using hpl)]; rfl
  | false => simp only [cond_false, ptrsOf, iha, ihb, List.map_append]
 | sl e ih =>
  intro d
  simp only [Go.Abs.renD]
  cases hpl : e.plain with
  | true => simp [ptrsOf, hpl]
  | false =>
   simp only [cond_false, ptrsOf, hpl, List.map_flatMap]
   induction d with
   | nil => rfl
   | cons x d ihd => simp [ih, ihd]
 | _ => intro d; simp [ptrsOf]
theorem Enc.done {θ : RName → Nat} {Z S S' : BS} : ∀ {k : K} {m : Mask} {d : k.den} {vs : List Value} {F : BS}, Enc w θ Z S k m d vs F → m.done = true → Enc w θ Z S' k m d vs F := by
 intro k
 induction k with
 | pair a b iha ihb =>
  intro m d vs F h hm
  obtain ⟨v1, v2, F1, F2, rfl, s1, s2, dj, h1, h2⟩ := h
  exact ⟨v1, v2, F1, F2, rfl, s1, s2, dj, iha h1 (by cases m <;> simp_all [Mask.done, Mask.fst]), ihb h2 (by cases m <;> simp_all [Mask.done, Mask.snd])⟩
 | sl e ih =>
  intro m d vs F h hm
  rcases h with ⟨rfl, _⟩ | h | ⟨hm', b, off, cap, cs, T, fz, rfl, hc, hle, hs, hok, G, hG, hd, he⟩
  ·simp [Mask.done] at hm
  ·exact .inr (.inl h)
  ·refine .inr (.inr ⟨hm', b, off, cap, cs, T, fz, rfl, hc, hle, hs, ?_, G, hG, hd, fun i x hx => ih (he i x hx) (by cases m <;> simp_all [Mask.done, Mask.elem])⟩)
   cases m <;> simp_all [Mask.done, slOk]
 | _ => intro m d vs F h _; exact h
end
end Go.Abs

namespace Go.Abs
section
variable {P : Program} {V : Env} {w0 w : World} {M0 : BS} {n : Nat} {C0 C : Ctx} {s : St} {a : Act}
variable {R' : Type} {r : R'} {o : Oper} {c : Del → Option R'}
theorem closeReg_spec {rs : RF} : ∀ (n i : Nat) {g g' : Reg}, closeReg rs n i g = some g' → (∃ t, g' = g ++ t) ∧ (g.Nodup → g'.Nodup) := by
 intro n
 induction n with
 | zero => intro i g g' h; simp [closeReg] at h
 | succ n ih =>
  intro i g g' h
  simp only [closeReg] at h
  split at h
  ·simp only [Option.some.injEq] at h; subst h; exact ⟨⟨[], by simp⟩, id⟩
  ·split at h
   ·simp at h
   ·rename_i x hx
    cases hp : x.k.plain with
    | true => rw [hp] at h; exact ih _ h
    | false =>
     rw [hp] at h
     simp only [cond_false] at h
     generalize hps : Reg.puts (ptrsOf x.k x.d) g = pr at h
     obtain ⟨l, g2⟩ := pr
     obtain ⟨⟨t1, h1⟩, h2, _⟩ := puts_spec _ hps
     obtain ⟨⟨t2, h3⟩, h4⟩ := ih _ h
     simp only at h3 h4
     exact ⟨⟨t1 ++ t2, by rw [h3, h1]; simp⟩, fun h => h4 (h2 h)⟩
theorem anyR_mem {l g : List RName} (h : anyR l g = false) : ∀ p ∈ l, p ∉ g := by
 induction l with
 | nil => intro p hp; cases hp
 | cons q l ih =>
  simp only [anyR, Bool.or_eq_false_iff] at h
  intro p hp hg
  rcases List.mem_cons.1 hp with rfl | hp
  ·rw [memR_iff.2 hg] at h; cases h.1
  ·exact ih h.2 p hp hg
theorem allR_mem {l g : List RName} (h : allR l g = true) : ∀ p ∈ l, p ∈ g := by
 induction l with
 | nil => intro p hp; cases hp
 | cons q l ih =>
  simp only [allR, Bool.and_eq_true] at h
  intro p hp
  rcases List.mem_cons.1 hp with rfl | hp
  ·exact memR_iff.1 h.1
  ·exact ih h.2 p hp
theorem closedReg_mem {rs : RF} {g : Reg} : ∀ (l : List RName), closedReg rs g l = true → ∀ q ∈ l, ∃ x, rs q = some x ∧ ∀ p ∈ ptrsOf x.k x.d, p ∈ g := by
 intro l
 induction l with
 | nil => intro _ q hq; cases hq
 | cons q0 l ih =>
  intro h q hq
  simp only [closedReg, Bool.and_eq_true] at h
  rcases List.mem_cons.1 hq with rfl | hq
  ·cases hx : rs q with
   | none => rw [hx] at h; simp at h
   | some x =>
    rw [hx] at h
    refine ⟨x, rfl, fun p hp => ?_⟩
    simp only [Bool.or_eq_true] at h
    rcases h.1 with h1 | h1
    ·rw [ptrsOf_plain _ h1] at hp; cases hp
    ·exact allR_mem h1 p hp
  ·exact ih h.2 q hq
theorem anySlot_mem {d : Nat} : ∀ (l : List RName), anySlot d l = false → ∀ q ∈ l, q.1 ≠ d := by
 intro l
 induction l with
 | nil => intro _ q hq; cases hq
 | cons q0 l ih =>
  intro h q hq
  simp only [anySlot, Bool.or_eq_false_iff] at h
  rcases List.mem_cons.1 hq with rfl | hq
  ·intro he; rw [beq_iff.2 he] at h; cases h.1
  ·exact ih h.2 q hq
theorem rootsFor_spec {rs : RF} {g : Reg} : ∀ (l : List RName) {ys : List Root}, rootsFor rs g l = some ys → ys.length = l.length ∧
  ∀ (i : Nat) (q : RName), l[i]? = some q → ∃ x, rs q = some x ∧ ys[i]? = some ⟨x.mem, x.k, x.m, renD (parOf g) x.k x.d⟩ := by
 intro l
 induction l with
 | nil => intro ys h; simp only [rootsFor, Option.some.injEq] at h; subst h; exact ⟨rfl, by simp⟩
 | cons q0 l ih =>
  intro ys h
  simp only [rootsFor] at h
  split at h
  ·simp at h
  ·rename_i x hx
   cases hr : rootsFor rs g l with
   | none => rw [hr] at h; simp at h
   | some ys' =>
    rw [hr] at h
    simp only [Option.map_some, Option.some.injEq] at h
    subst h
    obtain ⟨h1, h2⟩ := ih hr
    refine ⟨by simp [h1], fun i q hi => ?_⟩
    cases i with
    | zero => simp only [List.getElem?_cons_zero, Option.some.injEq] at hi; subst hi; exact ⟨x, hx, rfl⟩
    | succ i => simpa using h2 i q (by simpa using hi)
theorem rootsBack_spec {rs : RF} {g : Reg} {dst : Nat} : ∀ (l : List RName) {ys : List Root} {u : U}, rootsBack rs g dst l ys = some u → ys.length = l.length ∧
  (∀ q z, lookU q u = some z → ∃ (i : Nat) (y x : Root), l[i]? = some q ∧ ys[i]? = some y ∧ rs q = some x ∧ y.k = x.k ∧ y.mem = x.mem ∧ z = some ⟨y.mem, y.k, y.m, renD (backOf g dst) y.k y.d⟩) ∧ (∀ q, lookU q u = none → q ∉ l) := by
 intro l
 induction l with
 | nil =>
  intro ys u h
  cases ys with
  | nil => simp only [rootsBack, Option.some.injEq] at h; subst h; exact ⟨rfl, by simp [lookU], by simp⟩
  | cons _ _ => simp [rootsBack] at h
 | cons q0 l ih =>
  intro ys u h
  cases ys with
  | nil => simp [rootsBack] at h
  | cons y ys =>
   simp only [rootsBack] at h
   split at h
   ·simp at h
   ·rename_i x hx
    split at h
    case isFalse => simp at h
    case isTrue hk =>
    cases hr : rootsBack rs g dst l ys with
    | none => rw [hr] at h; simp at h
    | some u' =>
     rw [hr] at h
     simp only [Option.map_some, Option.some.injEq] at h
     subst h
     obtain ⟨h1, h2, h3⟩ := ih hr
     refine ⟨by simp [h1], fun q z hz => ?_, fun q hq => ?_⟩
     ·simp only [lookU] at hz
      by_cases hqq : q = q0
      ·rw [req_iff.2 hqq] at hz
       simp only [cond_true, Option.some.injEq] at hz
       subst hqq
       exact ⟨0, y, x, rfl, rfl, hx, hk.1, hk.2, hz.symm⟩
      ·rw [req_ne hqq] at hz
       obtain ⟨i, y', x', k1, k2, k3⟩ := h2 q z hz
       exact ⟨i + 1, y', x', by simpa using k1, by simpa using k2, k3⟩
     ·simp only [lookU] at hq
      by_cases hqq : q = q0
      ·rw [req_iff.2 hqq] at hq; cases hq
      ·rw [req_ne hqq] at hq
       simp only [List.mem_cons, not_or]
       exact ⟨hqq, h3 q hq⟩
theorem freshBack_spec {g : Reg} {dst : Nat} : ∀ (ys : List Root) (j0 : Nat) (q : RName) (z : Option Root), lookU q (freshBack g dst j0 ys) = some z →
  ∃ (j : Nat) (y : Root), q = loc dst (j0 + j) ∧ ys[j]? = some y ∧ z = some ⟨y.mem, y.k, y.m, renD (backOf g dst) y.k y.d⟩ := by
 intro ys
 induction ys with
 | nil => intro j0 q z h; simp [freshBack, lookU] at h
 | cons y ys ih =>
  intro j0 q z h
  simp only [freshBack, lookU] at h
  by_cases hq : q = loc dst j0
  ·rw [req_iff.2 hq] at h
   simp only [cond_true, Option.some.injEq] at h
   exact ⟨0, y, hq, rfl, h.symm⟩
  ·rw [req_ne hq] at h
   obtain ⟨j, y', h1, h2, h3⟩ := ih _ _ _ h
   exact ⟨j + 1, y', by rw [h1]; congr 1; omega, by simpa using h2, h3⟩
theorem lookU_append (q : RName) (u v : U) : lookU q (u ++ v) = match lookU q u with
  | some z => some z
  | none => lookU q v := by
 induction u with
 | nil => rfl
 | cons x u ih =>
  obtain ⟨q0, z⟩ := x
  simp only [List.cons_append, lookU]
  cases req q q0 <;> simp [ih]
theorem namesOk_mem {n m : Nat} : ∀ (l : List RName), namesOk n m l = true → ∀ p ∈ l, (∃ i, p = par i ∧ i < n) ∨ (∃ j, p = fr j ∧ j < m) := by
 intro l
 induction l with
 | nil => intro _ p hp; cases hp
 | cons q l ih =>
  intro h p hp
  obtain ⟨q1, q2⟩ := q
  match q1, h with
  | 0, h =>
   simp only [namesOk, Bool.and_eq_true] at h
   rcases List.mem_cons.1 hp with rfl | hp
   ·exact .inl ⟨q2, rfl, by have := Nat.le_of_ble_eq_true h.1; omega⟩
   ·exact ih h.2 p hp
  | 1, h =>
   simp only [namesOk, Bool.and_eq_true] at h
   rcases List.mem_cons.1 hp with rfl | hp
   ·exact .inr ⟨q2, rfl, by have := Nat.le_of_ble_eq_true h.1; omega⟩
   ·exact ih h.2 p hp
  | q1 + 2, h => simp [namesOk] at h
theorem ptrsOk_mem {n m : Nat} : ∀ (l : List Root), ptrsOk n m l = true → ∀ x ∈ l, ∀ p ∈ ptrsOf x.k x.d, (∃ i, p = par i ∧ i < n) ∨ (∃ j, p = fr j ∧ j < m) := by
 intro l
 induction l with
 | nil => intro _ x hx; cases hx
 | cons y l ih =>
  intro h x hx p hp
  simp only [ptrsOk, Bool.and_eq_true, Bool.or_eq_true] at h
  rcases List.mem_cons.1 hx with rfl | hx
  ·rcases h.1 with h1 | h1
   ·rw [ptrsOf_plain _ h1] at hp; cases hp
   ·exact namesOk_mem _ h1 p hp
  ·exact ih h.2 x hx p hp
theorem rootsDone_mem : ∀ (l : List Root), rootsDone l = true → ∀ x ∈ l, x.m.done = true := by
 intro l
 induction l with
 | nil => intro _ x hx; cases hx
 | cons y l ih =>
  intro h x hx
  simp only [rootsDone, Bool.and_eq_true] at h
  rcases List.mem_cons.1 hx with rfl | hx
  ·exact h.1
  ·exact ih h.2 x hx
theorem ptrsOfAll_mem {x : Root} {p : RName} : ∀ (l : List Root), x ∈ l → p ∈ ptrsOf x.k x.d → p ∈ ptrsOfAll l := by
 intro l
 induction l with
 | nil => intro hx; cases hx
 | cons y l ih =>
  intro hx hp
  simp only [ptrsOfAll, List.mem_append]
  rcases List.mem_cons.1 hx with rfl | hx
  ·exact .inl hp
  ·exact .inr (ih hx hp)
theorem nodup_idx {g : List RName} (h : g.Nodup) {i j : Nat} {p : RName} (hi : g[i]? = some p) (hj : g[j]? = some p) : i = j := by
 have h1 := List.getElem?_eq_some_iff.1 hi
 have h2 := List.getElem?_eq_some_iff.1 hj
 exact (List.getElem_inj h).1 (h1.2.trans h2.2.symm)
theorem find_idx {g : Reg} (h : g.Nodup) {i : Nat} {p : RName} (hi : g[i]? = some p) : Reg.find p g 0 = some i := by
 cases hf : Reg.find p g 0 with
 | none => exact absurd (List.mem_of_getElem? hi) (find_none _ _ hf)
 | some j =>
  have h2 := (find_some _ _ _ hf).2
  rw [nodup_idx h hi h2]; rfl
def pickN {α : Type} (g : Reg) (dst : Nat) (A B : RName → α) (p : RName) : α :=
 match Reg.find p g 0 with
 | some i => A (par i)
 | none => if p.1 = dst + 2 then A (fr p.2) else B p
theorem pickN_reg {α : Type} {g : Reg} {dst : Nat} {A B : RName → α} {i : Nat} {p : RName} (h : g.Nodup) (hi : g[i]? = some p) : pickN g dst A B p = A (par i) := by
 unfold pickN; rw [find_idx h hi]
theorem pickN_fresh {α : Type} {g : Reg} {dst : Nat} {A B : RName → α} {j : Nat} (h : ∀ q ∈ g, q.1 ≠ dst + 2) : pickN g dst A B (loc dst j) = A (fr j) := by
 unfold pickN
 cases hf : Reg.find (loc dst j) g 0 with
 | some i => exact absurd rfl (h _ (List.mem_of_getElem? (find_some _ _ _ hf).2))
 | none => simp
theorem pickN_old {α : Type} {g : Reg} {dst : Nat} {A B : RName → α} {p : RName} (h : p ∉ g) (hp : p.1 ≠ dst + 2) : pickN g dst A B p = B p := by
 unfold pickN
 cases hf : Reg.find p g 0 with
 | some i => exact absurd (List.mem_of_getElem? (find_some _ _ _ hf).2) h
 | none => simp [hp]
theorem AVC.back {w' : World} {Cc' C' : Ctx} {co : CallOut} {rs' : RF} {g : Reg} {dst : Nat}
  (hreg : ∀ (i : Nat) q, g[i]? = some q → (∀ z, rs' q = some z → ∃ y, co.roots[i]? = some y ∧ z.mem = y.mem ∧ z.k = y.k ∧ z.m = y.m ∧ ∀ p, canGet y.k y.d y.m p → canGet z.k z.d z.m p) ∧ C'.θ q = Cc'.θ (par i) ∧ C'.ρ q = Cc'.ρ (par i))
  (hfr : ∀ (j : Nat), (∀ z, rs' (loc dst j) = some z → ∃ y, co.fresh[j]? = some y ∧ z.mem = y.mem ∧ z.k = y.k ∧ z.m = y.m ∧ ∀ p, canGet y.k y.d y.m p → canGet z.k z.d z.m p) ∧ C'.θ (loc dst j) = Cc'.θ (fr j) ∧ C'.ρ (loc dst j) = Cc'.ρ (fr j))
  (hS : ∀ {z : Bool} {k : K} {d : k.den} {vs : List Value}, (AV.imm z k d).done = true ∨ Sub Cc'.S C'.S → k.plain = true → Enc w' Cc'.θ Cc'.Z Cc'.S k (.imm z) d vs noB → Enc w' C'.θ C'.Z C'.S k (.imm z) d vs noB) :
  ∀ (av : AV) (vs : List Value), (av.done = true ∨ Sub Cc'.S C'.S) → AVC w' Cc' (rsOut co) av vs → AVC w' C' rs' (av.back g dst) vs := by
 have hloc : ∀ {q p : RName} {z y : Root} {pp : Path} {x : Option (List Value × Option (Nat × Nat))}, z.mem = y.mem → z.k = y.k → C'.θ q = Cc'.θ p → C'.ρ q = Cc'.ρ p →
   locv w' y.k (Cc'.ρ p) (baseOf Cc' p y) pp = x → locv w' z.k (C'.ρ q) (baseOf C' q z) pp = x := by
  intro q p z y pp x h1 h2 h3 h4 h
  rw [h2, h4]
  have : baseOf C' q z = baseOf Cc' p y := by unfold baseOf; rw [h1, h3]
  rw [this]; exact h
 intro av
 induction av with
 | pair a b iha ihb =>
  intro vs hd hv
  obtain ⟨v1, v2, rfl, h1, h2⟩ := hv
  simp only [AV.done, Bool.and_eq_true] at hd
  exact ⟨v1, v2, rfl, iha _ (hd.imp (·.1) id) h1, ihb _ (hd.imp (·.2) id) h2⟩
 | imm z k d => intro vs hd hv; exact ⟨hv.1, hS hd hv.1 hv.2⟩
 | nilp => intro vs _ hv; exact hv
 | tnil => intro vs _ hv; exact hv.elim
 | tcons => intro vs _ hv; exact hv.elim
 | ref q p =>
  intro vs _ hv
  obtain ⟨q1, q2⟩ := q
  match q1, hv with
  | 0, hv =>
   simp only [AV.back]
   cases hg : g[q2]? with
   | none => trivial
   | some q =>
    obtain ⟨v, rfl, hr⟩ := hv
    obtain ⟨h1, h2, h3⟩ := hreg q2 q hg
    refine ⟨v, rfl, fun z hz => ?_⟩
    obtain ⟨y, hy, y1, y2, y3, y4⟩ := h1 z hz
    obtain ⟨e, base, k1, k2, k3⟩ := hr y hy
    exact ⟨e, base, by rw [y2]; exact k1, y4 p k2, hloc y1 y2 h2 h3 k3⟩
  | 1, hv =>
   obtain ⟨v, rfl, hr⟩ := hv
   obtain ⟨h1, h2, h3⟩ := hfr q2
   refine ⟨v, rfl, fun z hz => ?_⟩
   obtain ⟨y, hy, y1, y2, y3, y4⟩ := h1 z hz
   obtain ⟨e, base, k1, k2, k3⟩ := hr y hy
   exact ⟨e, base, by rw [y2]; exact k1, y4 p k2, hloc y1 y2 h2 h3 k3⟩
  | q1 + 2, hv => trivial
 | slc q p lo k0 =>
  intro vs _ hv
  obtain ⟨q1, q2⟩ := q
  match q1, hv with
  | 0, hv =>
   simp only [AV.back]
   cases hg : g[q2]? with
   | none => trivial
   | some q =>
    obtain ⟨v, v0, rfl, hr⟩ := hv
    obtain ⟨h1, h2, h3⟩ := hreg q2 q hg
    refine ⟨v, v0, rfl, fun z hz => ?_⟩
    obtain ⟨y, hy, y1, y2, y3, y4⟩ := h1 z hz
    obtain ⟨e, base, k1, k2, k3, k4⟩ := hr y hy
    exact ⟨e, base, by rw [y2]; exact k1, y4 p k2, hloc y1 y2 h2 h3 k3, k4⟩
  | 1, hv =>
   obtain ⟨v, v0, rfl, hr⟩ := hv
   obtain ⟨h1, h2, h3⟩ := hfr q2
   refine ⟨v, v0, rfl, fun z hz => ?_⟩
   obtain ⟨y, hy, y1, y2, y3, y4⟩ := h1 z hz
   obtain ⟨e, base, k1, k2, k3, k4⟩ := hr y hy
   exact ⟨e, base, by rw [y2]; exact k1, y4 p k2, hloc y1 y2 h2 h3 k3, k4⟩
  | q1 + 2, hv => trivial
 | ptr q p =>
  intro vs _ hv
  obtain ⟨q1, q2⟩ := q
  cases p with
  | cons _ _ => match q1, hv with
   | 0, hv => trivial
   | 1, hv => trivial
   | q1 + 2, hv => trivial
  | nil =>
   match q1, hv with
   | 0, hv =>
    simp only [AV.back]
    cases hg : g[q2]? with
    | none => trivial
    | some q =>
     obtain ⟨b, off, rfl, h0, hr⟩ := hv
     obtain ⟨h1, h2, h3⟩ := hreg q2 q hg
     refine ⟨b, off, rfl, fun hh => by rw [h2]; exact h0 hh, fun z hz => ?_⟩
     obtain ⟨y, hy, y1, y2, y3, y4⟩ := h1 z hz
     obtain ⟨k', cs, k1, k2, k3⟩ := hr y hy
     exact ⟨k', cs, by rw [y2]; exact k1, canGet_nil _ _ _, hloc y1 y2 h2 h3 k3⟩
   | 1, hv =>
    obtain ⟨b, off, rfl, h0, hr⟩ := hv
    obtain ⟨h1, h2, h3⟩ := hfr q2
    refine ⟨b, off, rfl, fun hh => by rw [h2]; exact h0 hh, fun z hz => ?_⟩
    obtain ⟨y, hy, y1, y2, y3, y4⟩ := h1 z hz
    obtain ⟨k', cs, k1, k2, k3⟩ := hr y hy
    exact ⟨k', cs, by rw [y2]; exact k1, canGet_nil _ _ _, hloc y1 y2 h2 h3 k3⟩
   | q1 + 2, hv => trivial
 | dead => intro vs _ hv; trivial
 | nil => intro vs _ hv; trivial
 | emp => intro vs _ hv; trivial
 | iptr => intro vs _ hv; trivial
 | nn => intro vs _ hv; trivial
 | vw => intro vs _ hv; trivial
 | fn => intro vs _ hv; trivial
theorem back_agg (g : Reg) (dst : Nat) (av : AV) : av.back g dst = .dead ∨ (av.back g dst).agg = av.agg := by
 cases av with
 | pair => exact .inr rfl
 | imm => exact .inr rfl
 | ref q p =>
  obtain ⟨q1, q2⟩ := q
  match q1 with
  | 0 => simp only [AV.back]; cases g[q2]? <;> simp [AV.agg]
  | 1 => exact .inr rfl
  | q1 + 2 => exact .inl rfl
 | slc q p =>
  obtain ⟨q1, q2⟩ := q
  match q1 with
  | 0 => simp only [AV.back]; cases g[q2]? <;> simp [AV.agg]
  | 1 => exact .inr rfl
  | q1 + 2 => exact .inl rfl
 | ptr q p =>
  obtain ⟨q1, q2⟩ := q
  cases p with
  | nil => match q1 with
   | 0 => simp only [AV.back]; cases g[q2]? <;> simp [AV.agg]
   | 1 => exact .inr rfl
   | q1 + 2 => exact .inl rfl
  | cons => match q1 with
   | 0 => exact .inl rfl
   | 1 => exact .inl rfl
   | q1 + 2 => exact .inl rfl
 | nilp => exact .inr rfl
 | tcons => exact .inr rfl
 | tnil => exact .inr rfl
 | dead => exact .inl rfl
 | nil => exact .inl rfl
 | emp => exact .inl rfl
 | iptr => exact .inl rfl
 | nn => exact .inl rfl
 | vw => exact .inl rfl
 | fn => exact .inl rfl
theorem VRel.back {w' : World} {Cc' C' : Ctx} {co : CallOut} {rs' : RF} {g : Reg} {dst : Nat} {P0 : AV → Prop}
  (hp : ∀ a b, P0 (.tcons a b) → P0 a ∧ P0 b)
  (h : ∀ (av : AV) (vs : List Value), P0 av → AVC w' Cc' (rsOut co) av vs → AVC w' C' rs' (av.back g dst) vs) {v : Value} {av : AV} (h0 : P0 av) (hv : VRel w' Cc' (rsOut co) v av) : VRel w' C' rs' v (av.back g dst) := by
 have h1 : ∀ {v : Value} {av : AV}, P0 av → VRel1 w' Cc' (rsOut co) v av → VRel1 w' C' rs' v (av.back g dst) := by
  intro v av h0 hv
  rcases hv with rfl | ⟨ha, vs, rfl, hv⟩ | ⟨ha, hv, hc⟩
  ·exact .inl rfl
  ·rcases back_agg g dst av with hd | hd
   ·exact .inl hd
   ·exact .inr (.inl ⟨by rw [hd]; exact ha, vs, rfl, h _ _ h0 hv⟩)
  ·rcases back_agg g dst av with hd | hd
   ·exact .inl hd
   ·exact .inr (.inr ⟨by rw [hd]; exact ha, h _ _ h0 hv, hc⟩)
 rcases hv with hv | ⟨vs, rfl, hv⟩
 ·exact .inl (h1 h0 hv)
 ·refine .inr ⟨vs, rfl, ?_⟩
  have : ∀ (av : AV) (vs : List Value), P0 av → TRel w' Cc' (rsOut co) av vs → TRel w' C' rs' (av.back g dst) vs := by
   intro av
   induction av with
   | tcons a b _ ihb =>
    intro vs h0 hv
    obtain ⟨v, l, rfl, k1, k2⟩ := hv
    exact ⟨v, l, rfl, h1 (hp _ _ h0).1 k1, ihb _ (hp _ _ h0).2 k2⟩
   | tnil => intro vs _ hv; exact hv
   | _ => intro vs _ hv; exact hv.elim
  exact this av vs h0 hv
theorem canGet_renD {f : RName → RName} : ∀ (p : Path) {k : K} {d : k.den} {m : Mask}, canGet k d m p → canGet k (renD f k d) m p := by
 intro p
 induction p with
 | nil => intro k d m _; exact canGet_nil _ _ _
 | cons st p ih =>
  intro k d m h
  cases st with
  | fst =>
   cases k with
   | pair a b =>
    simp only [renD]
    cases a.plain && b.plain with
    | true => exact h
    | false => exact ih (k := a) h
   | _ => exact h.elim
  | snd =>
   cases k with
   | pair a b =>
    simp only [renD]
    cases a.plain && b.plain with
    | true => exact h
    | false => exact ih (k := b) h
   | _ => exact h.elim
  | idx i =>
   cases k with
   | sl e =>
    simp only [renD]
    cases e.plain with
    | true => exact h
    | false =>
     obtain ⟨h1, x, hx, h2⟩ := h
     exact ⟨h1, renD f e x, by simp only [cond_false]; rw [List.getElem?_map, hx]; rfl, ih (k := e) h2⟩
   | _ => exact h.elim
end
end Go.Abs

namespace Go.Abs
variable {Γ : Glb}
section
variable {P : Program} {V : Env} {w0 w : World} {M0 : BS} {n : Nat} {C0 C : Ctx} {s : St} {a : Act}
variable {R' : Type} {r : R'} {o : Oper} {c : Del → Option R'}
theorem regKills_mem {rs : RF} {av : AV} : ∀ (l : List RName), hit (regKills rs l) av = false → ∀ q ∈ l, ∀ x, rs q = some x → (bif x.mem then Kill.at q [] else Kill.inn q).hits av = false := by
 intro l
 induction l with
 | nil => intro _ q hq; cases hq
 | cons q0 l ih =>
  intro h q hq x hx
  simp only [regKills, hit, List.any_cons, Bool.or_eq_false_iff] at h
  rcases List.mem_cons.1 hq with rfl | hq
  ·have := h.1
   rw [hx] at this
   exact this
  ·exact ih h.2 q hq x hx
theorem callKills_cases (sf : Bool) (rs : RF) (args : List AV) (g : Reg) : callKills sf rs args g = regKills rs g ∨
  ∃ p l q0, sf = true ∧ args = .ref (0, 0) p :: l ∧ g = [q0] ∧ callKills sf rs args g = [.at q0 (p ++ [.idx 0])] := by
 unfold callKills
 cases sf with
 | false => exact .inl rfl
 | true =>
  simp only [cond_true]
  unfold softKills
  split
  ·rename_i r p l q0
   cases hr : req r (0, 0) with
   | false => exact .inl rfl
   | true =>
    have hr2 := req_iff.1 hr
    subst hr2
    exact .inr ⟨p, l, q0, by first | rfl | trivial, rfl, rfl, rfl⟩
  ·exact .inl rfl
theorem hits_slc {ks : List Kill} {q : RName} {p : Path} {lo n : Nat} : hit ks (.slc q p lo n) = hit ks (.ref q p) := by
 unfold hit
 congr 1
 funext x
 cases x <;> rfl
theorem run_callOp {f : Operand} {args : Array Operand} {ts : Array TypeId} (ho : o.op = .call { callee := .value f, args := args, argTypes := ts }) {fid : Nat} {caps : Array Value}
  (hf : a.eval f = .func (.func fid) #[] caps) (hE : Enters P fid) : (execOp a.eval o).run P w = .ok (.enter fid (args.map a.eval ++ caps)) w := by
 obtain ⟨fn, h1, h2, h3⟩ := hE
 have hp : (program).run P w = .ok P w := rfl
 simp only [execOp, ho, resolve, hf, Deferred.ofValue, invoke, callFunc, Sem.run_bind, Sem.run_pure, Result.andThen_ok, hp, h1, h2, h3]
 simp
theorem does_call (hE : EnvG P Γ V w0 M0 C0) (R : Rel w0 M0 n C0 C s a w) {f : Operand} {args : Array Operand} {ts : Array TypeId} (ho : o.op = .call { callee := .value f, args := args, argTypes := ts })
  (h : denOp V o s.tmps s.roots c = some r) : ∃ x, c x = some r ∧ Does P w0 M0 n C0 s a w o x := by
 simp only [denOp, ho] at h
 unfold callee at h
 split at h
 case h_2 => simp at h
 case h_1 fid caps hf =>
 have hfv := R.eval f
 rw [hf] at hfv
 have hfe := hfv.fn
 have hcapm : ∀ q ∈ caps, ∀ y, s.roots q = some y → y.mem = true := by
  obtain ⟨hA, _⟩ := hfv.cell (by simp) rfl (by simp) (by simp)
  exact hA.2
 unfold denCall at h
 dsimp only at h
 split at h
 case h_1 => simp at h
 case h_2 qc hq =>
 obtain ⟨hCon, hEnt⟩ := hE.env fid qc hq
 -- the arguments
 have hl : args.toList.map (evalAV s.tmps) ++ ptrs caps = ((args.toList.map fun x => (evalAV s.tmps x, a.eval x)) ++ caps.map fun p => (AV.ptr p [], Value.pointer (some ⟨C.θ p, 0, none⟩))).map (·.1) := by
  simp only [List.map_append, List.map_map, Function.comp_def]
  congr 1
  clear hf hfv hfe hcapm h
  induction caps with
  | nil => rfl
  | cons p l ih => simp only [ptrs, List.map_cons, ih]
 rw [hl] at h
 have hvals : ∀ x ∈ ((args.toList.map fun x => (evalAV s.tmps x, a.eval x)) ++ caps.map fun p => (AV.ptr p [], Value.pointer (some ⟨C.θ p, 0, none⟩))), VRel w C s.roots x.2 x.1 := by
  intro x hx
  rcases List.mem_append.1 hx with hx | hx
  ·simp only [List.mem_map] at hx
   obtain ⟨y, _, rfl⟩ := hx
   exact R.eval y
  ·simp only [List.mem_map] at hx
   obtain ⟨p, hp, rfl⟩ := hx
   refine VRel.mk ⟨C.θ p, 0, rfl, fun _ => ⟨rfl, rfl⟩, fun y hy => ⟨y.k, C.ρ p, at_nil _, canGet_nil _ _ _, ?_⟩⟩ rfl rfl
   rw [locv_nil]
   unfold baseOf
   rw [if_pos (hcapm p hp y hy)]
 obtain ⟨args', sn, g0, h, _, hsn, ⟨t0, ht0⟩, hnd0, hlen', hargs⟩ := argsOf_sound R.mem qc.rw _ h hvals
 simp only [List.nil_append] at ht0
 split at h
 case h_1 => simp at h
 case h_2 _ g hg =>
 obtain ⟨hgt, hnd⟩ := closeReg_spec _ _ hg
 have hnd := hnd (hnd0 (by simp))
 cases hchk : (anyR sn g || !closedReg s.roots g g || anySlot (o.dst.getD 0 + 2) g || !Nat.blt g.length 1000000) with
 | true => rw [hchk] at h; simp at h
 | false =>
 rw [hchk] at h
 simp only [cond_false] at h
 simp only [Bool.or_eq_false_iff, Bool.not_eq_false'] at hchk
 obtain ⟨⟨⟨hany, hclosed⟩, hslot⟩, _⟩ := hchk
 have hany := anyR_mem hany
 have hclosed := closedReg_mem _ hclosed
 have hslot := anySlot_mem _ hslot
 split at h
 case h_1 => simp at h
 case h_2 _ ys hys =>
 obtain ⟨hysl, hysr⟩ := rootsFor_spec _ hys
 obtain ⟨co, hco, h⟩ := Tre.run_some h
 cases hchk2 : (ptrsOk g.length co.fresh.length co.roots && ptrsOk g.length co.fresh.length co.fresh && (sn.isEmpty || (rootsDone co.roots && rootsDone co.fresh && co.res.done))) with
 | false => rw [hchk2] at h; simp at h
 | true =>
 rw [hchk2] at h
 simp only [cond_true] at h
 simp only [Bool.and_eq_true, Bool.or_eq_true] at hchk2
 obtain ⟨⟨hpr, hpf⟩, hdone⟩ := hchk2
 have hpr := ptrsOk_mem _ hpr
 have hpf := ptrsOk_mem _ hpf
 split at h
 case h_1 => simp at h
 case h_2 _ u hu =>
 obtain ⟨hul, hu1, hu2⟩ := rootsBack_spec _ hu
 refine ⟨_, h, ?_⟩
 clear h
 intro hd hal next Q hn
 obtain ⟨d, hdst⟩ := dst_some hal rfl
 have hpin : s.pins (d + 2) = false := by
  rw [hdst] at hal
  simp only [allowed, Bool.not_true, Bool.false_and, Bool.false_or, Bool.and_eq_true, Bool.not_eq_true'] at hal
  exact hal.1
 unfold Oper.wp
 rw [run_callOp ho hfe hEnt, Oper.upon_enter]
 -- the callee's memory
 let Cc : Ctx := ⟨fun p => C.θ (g.getD p.2 nowhere), fun p => C.ρ (g.getD p.2 nowhere), fun p => C.F (g.getD p.2 nowhere), C.Z, fun b => C.S b ∨ FU C sn b⟩
 have hgd : ∀ {i : Nat} {p : RName}, g[i]? = some p → g.getD i nowhere = p := by intro i p hi; simp [List.getD, hi]
 have hin : ∀ p z, rsIn ys p = some z → ∃ i q x, p = par i ∧ g[i]? = some q ∧ s.roots q = some x ∧ z = ⟨x.mem, x.k, x.m, renD (parOf g) x.k x.d⟩ := by
  rintro ⟨p1, p2⟩ z hz
  match p1, hz with
  | 0, hz =>
   have hz : ys[p2]? = some z := hz
   have hlt : p2 < g.length := by rw [← hysl]; exact (List.getElem?_eq_some_iff.1 hz).1
   obtain ⟨x, hx, hy⟩ := hysr p2 g[p2] (List.getElem?_eq_getElem hlt)
   rw [hy] at hz
   exact ⟨p2, _, x, rfl, List.getElem?_eq_getElem hlt, hx, (Option.some.inj hz).symm⟩
  | p1 + 1, hz => cases hz
 have hparOf : ∀ {p : RName}, p ∈ g → ∃ j, g[j]? = some p ∧ parOf g p = par j := by
  intro p hp
  obtain ⟨j, hj⟩ := List.getElem?_of_mem hp
  exact ⟨j, hj, by unfold parOf; rw [find_idx hnd hj]⟩
 have hFUsn : ∀ {p : RName} {x : Root} {b : Nat}, p ∈ g → s.roots p = some x → C.F p b → ¬ FU C sn b := by
  rintro p x b hp hx hb ⟨p', hp', hb'⟩
  rcases hsn p' hp' with h | ⟨y, hy⟩
  ·cases h
  ·exact R.mem.disj p' p y x hy hx (fun h => hany p' hp' (h ▸ hp)) b hb' hb
 have hFUro : ∀ {b : Nat}, FU C sn b → b < w.heap.size := by
  rintro b ⟨p', hp', hb'⟩
  rcases hsn p' hp' with h | ⟨y, hy⟩
  ·cases h
  ·exact (R.mem.apart p' y b hy hb').2.2
 have hMc : Mem w Cc (rsIn ys) := by
  refine ⟨?_, ?_, ?_, ?_, ?_⟩
  ·intro p z hz
   obtain ⟨i, q, x, rfl, hi, hx, rfl⟩ := hin p z hz
   obtain ⟨G, g1, g2, g3⟩ := R.mem.ok q x hx
   refine ⟨G, ?_, ?_, fun hm => ?_⟩
   ·show Enc w Cc.θ C.Z _ x.k x.m _ (C.ρ (g.getD i nowhere)) G
    rw [hgd hi]
    refine Enc.renD (g1.mono (S' := fun b => C.S b ∨ FU C sn b) (.refl _) (fun b h => .inl h) (.refl _) (fun _ _ => rfl) (fun _ _ => rfl)) (fun p hp => ?_)
    obtain ⟨x', hx', hcl⟩ := hclosed q (List.mem_of_getElem? hi)
    rw [hx] at hx'; cases hx'
    obtain ⟨j, hj, hpj⟩ := hparOf (hcl p hp)
    rw [hpj]
    show C.θ (g.getD j nowhere) = _
    rw [hgd hj]
   ·show Sub G (C.F (g.getD i nowhere)); rw [hgd hi]; exact g2
   ·show ¬ G (C.θ (g.getD i nowhere)) ∧ C.F (g.getD i nowhere) (C.θ (g.getD i nowhere)) ∧ ∃ T, w.heap[C.θ (g.getD i nowhere)]? = some (.cells (C.ρ (g.getD i nowhere)).toArray T (0, 0))
    rw [hgd hi]; exact g3 hm
  ·intro p p' z z' hz hz' hpp
   obtain ⟨i, q, x, rfl, hi, hx, rfl⟩ := hin p z hz
   obtain ⟨i', q', x', rfl, hi', hx', rfl⟩ := hin p' z' hz'
   show Disj (C.F (g.getD i nowhere)) (C.F (g.getD i' nowhere))
   rw [hgd hi, hgd hi']
   refine R.mem.disj q q' x x' hx hx' ?_
   rintro rfl
   exact hpp (by rw [nodup_idx hnd hi hi'])
  ·intro p z b hz hb
   obtain ⟨i, q, x, rfl, hi, hx, rfl⟩ := hin p z hz
   have hb : C.F (g.getD i nowhere) b := hb
   rw [hgd hi] at hb
   have := R.mem.apart q x b hx hb
   exact ⟨this.1, fun h => h.elim this.2.1 (hFUsn (List.mem_of_getElem? hi) hx hb), this.2.2⟩
  ·rintro b (hb | hb | hb)
   ·exact R.mem.ro b (.inl hb)
   ·exact R.mem.ro b (.inr hb)
   ·exact hFUro hb
  ·intro p z hz p' hp' z' hz'
   obtain ⟨i, q, x, rfl, hi, hx, rfl⟩ := hin p z hz
   rw [ptrs_renD] at hp'
   obtain ⟨p0, hp0, rfl⟩ := List.mem_map.1 hp'
   obtain ⟨x2, hx2, hcl⟩ := hclosed q (List.mem_of_getElem? hi)
   rw [hx] at hx2; cases hx2
   obtain ⟨j, hj, hpj⟩ := hparOf (hcl p0 hp0)
   rw [hpj] at hz'
   obtain ⟨i', q', x', he, hi', hx', rfl⟩ := hin _ z' hz'
   simp only [Prod.mk.injEq, true_and] at he
   subst he
   rw [hj] at hi'
   simp only [Option.some.injEq] at hi'
   subst hi'
   exact R.mem.ptr q x hx p0 hp0 x' hx'
 have hCal : Callee C s.roots sn g Cc (rsIn ys) := by
  refine ⟨rfl, fun b h => .inl h, fun p hp b hb => .inr ⟨p, hp, hb⟩, fun i p hi => ?_, fun i p hi => ?_, fun i y hy => ?_⟩
  ·show C.θ (g.getD i nowhere) = _; rw [hgd hi]
  ·show C.ρ (g.getD i nowhere) = _; rw [hgd hi]
  ·obtain ⟨i', q, x, he, hi, hx, rfl⟩ := hin _ y hy
   simp only [Prod.mk.injEq, true_and] at he
   subst he
   exact ⟨q, x, hi, hx, rfl, rfl, fun p h => canGet_renD p h⟩
 have hval : (args.map a.eval ++ capV C.θ caps).size = args'.length := by
  rw [hlen']; simp [capV]
 have hcall := hCon w Cc ⟨args', ys⟩ co (args.map a.eval ++ capV C.θ caps) hMc (by
   intro z hz p hp
   obtain ⟨i, hi⟩ := List.getElem?_of_mem hz
   obtain ⟨i', q, x, he, hi', hx, rfl⟩ := hin (par i) z hi
   rw [ptrs_renD] at hp
   obtain ⟨p0, hp0, rfl⟩ := List.mem_map.1 hp
   obtain ⟨x2, hx2, hcl⟩ := hclosed q (List.mem_of_getElem? hi')
   rw [hx] at hx2; cases hx2
   obtain ⟨j, hj, hpj⟩ := hparOf (hcl p0 hp0)
   rw [hpj]) hval (by
   intro i v a' hv ha'
   have hx : ∃ x, ((args.toList.map fun x => (evalAV s.tmps x, a.eval x)) ++ caps.map fun p => (AV.ptr p [], Value.pointer (some ⟨C.θ p, 0, none⟩)))[i]? = some x ∧ x.2 = v := by
    have h2 : (((args.toList.map fun x => (evalAV s.tmps x, a.eval x)) ++ caps.map fun p => (AV.ptr p [], Value.pointer (some ⟨C.θ p, 0, none⟩))).map (·.2))[i]? = some v := by
     rw [← hv, ← Array.getElem?_toList]
     congr 1
     simp [capV, Function.comp_def]
    rw [List.getElem?_map] at h2
    cases hx : ((args.toList.map fun x => (evalAV s.tmps x, a.eval x)) ++ caps.map fun p => (AV.ptr p [], Value.pointer (some ⟨C.θ p, 0, none⟩)))[i]? with
    | none => rw [hx] at h2; simp at h2
    | some x => rw [hx] at h2; exact ⟨x, rfl, by simpa using h2⟩
   obtain ⟨x, hx, rfl⟩ := hx
   exact hargs sn g (fun _ h => h) hgt Cc _ hCal i x a' hx ha') (have h9 := hE.here R; h9) hco
 refine Calls.mono hcall ?_
 intro e w' he
 cases e with
 | panicked _ => exact he.elim
 | outgrown => exact he.elim
 | returned v =>
 obtain ⟨Cc', Po, Sf⟩ := he
 show next (a.put o.dst v) w'
 rw [hdst] at hn hslot hu hu1 ⊢
 simp only [Option.getD_some] at hn hslot hu hu1
 have hroots : ∀ p z, (s.after (some d) ⟨co.res.back g d, u ++ freshBack g d 0 co.fresh, true, callKills qc.soft s.roots args' g, (ptrsOfAll co.roots ++ ptrsOfAll co.fresh).map (backOf g d), none, sn ++ (co.res.back g d).names, g, false⟩).roots p = some z →
   (∃ (i : Nat) (y x : Root), g[i]? = some p ∧ co.roots[i]? = some y ∧ s.roots p = some x ∧ y.k = x.k ∧ y.mem = x.mem ∧ z = ⟨y.mem, y.k, y.m, renD (backOf g d) y.k y.d⟩) ∨
   (∃ (j : Nat) (y : Root), p = loc d j ∧ co.fresh[j]? = some y ∧ z = ⟨y.mem, y.k, y.m, renD (backOf g d) y.k y.d⟩) ∨ (p ∉ g ∧ p.1 ≠ d + 2 ∧ s.roots p = some z) := by
  intro p z hp
  simp only [St.after, lookU_append] at hp
  cases h1 : lookU p u with
  | some z1 =>
   rw [h1] at hp
   simp only at hp
   obtain ⟨i, y, x, k1, k2, k3, k4, k5, k6⟩ := hu1 p z1 h1
   rw [hp] at k6
   exact .inl ⟨i, y, x, k1, k2, k3, k4, k5, Option.some.inj k6⟩
  | none =>
   rw [h1] at hp
   simp only at hp
   have hpg := hu2 p h1
   cases h2 : lookU p (freshBack g d 0 co.fresh) with
   | some z1 =>
    rw [h2] at hp
    simp only at hp
    obtain ⟨j, y, k1, k2, k3⟩ := freshBack_spec _ _ _ _ h2
    rw [hp] at k3
    exact .inr (.inl ⟨j, y, by rw [k1, Nat.zero_add], k2, Option.some.inj k3⟩)
   | none =>
    rw [h2] at hp
    simp only [Bool.true_and, Option.getD_some] at hp
    by_cases h3 : p.1 = d + 2
    ·rw [beq_iff.2 h3] at hp; cases hp
    ·rw [beq_ne h3] at hp; exact .inr (.inr ⟨hpg, h3, hp⟩)
 generalize hD : (⟨co.res.back g d, u ++ freshBack g d 0 co.fresh, true, callKills qc.soft s.roots args' g, (ptrsOfAll co.roots ++ ptrsOfAll co.fresh).map (backOf g d), none, sn ++ (co.res.back g d).names, g, false⟩ : Del) = D at hn hroots
 have hDk : D.kills = callKills qc.soft s.roots args' g := by rw [← hD]
 have hDm : D.make = true := by rw [← hD]
 have hDr : D.ren = none := by rw [← hD]
 have hDv : D.v = co.res.back g d := by rw [← hD]
 have hDp : D.pins = (ptrsOfAll co.roots ++ ptrsOfAll co.fresh).map (backOf g d) := by rw [← hD]
 clear hD
 have hθreg : ∀ {i : Nat} {p : RName}, g[i]? = some p → Cc'.θ (par i) = C.θ p := by
  intro i p hi
  rw [Po.θ i]
  show C.θ (g.getD i nowhere) = _
  rw [hgd hi]
 have hmw : ∀ {b : Nat}, mayWrite Cc ys b → ∃ (i : Nat) (p : RName) (x : Root), g[i]? = some p ∧ s.roots p = some x ∧ C.F p b := by
  rintro b ⟨i, x, hx, hb⟩
  obtain ⟨i', q', x', he, hi, hx', _⟩ := hin (par i) x hx
  simp only [Prod.mk.injEq, true_and] at he
  subst he
  have hb : C.F (g.getD i nowhere) b := hb
  rw [hgd hi] at hb
  exact ⟨i, q', x', hi, hx', hb⟩
 have hmwlt : ∀ {b : Nat}, mayWrite Cc ys b → b < w.heap.size ∧ ¬ C.Z b ∧ ¬ C.S b := by
  intro b hb
  obtain ⟨i, p, x, _, hx, hb⟩ := hmw hb
  have := R.mem.apart p x b hx hb
  exact ⟨this.2.2, this.1, this.2.1⟩
 have hmwold : ∀ {p : RName} {x : Root} {b : Nat}, p ∉ g → s.roots p = some x → C.F p b → ¬ mayWrite Cc ys b := by
  intro p x b hp hx hb hm
  obtain ⟨i, p', x', hi, hx', hb'⟩ := hmw hm
  exact R.mem.disj p p' x x' hx hx' (fun h => hp (h ▸ List.mem_of_getElem? hi)) b hb hb'
 have hZSb : ∀ {b : Nat}, C.Z b ∨ C.S b → w'.heap[b]? = w.heap[b]? := by
  intro b hb
  exact Po.kept.block b (R.mem.ro b hb) (fun hm => hb.elim (hmwlt hm).2.1 (hmwlt hm).2.2)
 have holdb : ∀ {p : RName} {x : Root} {b : Nat}, p ∉ g → s.roots p = some x → C.F p b → w'.heap[b]? = w.heap[b]? :=
  fun hp hx hb => Po.kept.block _ (R.mem.apart _ _ _ hx hb).2.2 (hmwold hp hx hb)
 have hZ : Sub C.Z Cc'.Z := Po.Z
 have hzn : ∀ b, Cc'.Z b → C.Z b ∨ w.heap.size ≤ b ∨ mayWrite Cc ys b := Po.zn
 have hSS : Cc'.S = fun b => C.S b ∨ FU C sn b := Po.S
 have hSsub : sn.isEmpty = true → Sub Cc'.S C.S := by
  intro he b hb
  rw [hSS] at hb
  rcases hb with hb | ⟨p, hp, _⟩
  ·exact hb
  ·rw [List.isEmpty_iff.1 he] at hp; cases hp
 have hfix : ∀ (y : Root), (y ∈ co.roots ∨ y ∈ co.fresh) → ∀ {θ : RName → Nat} {dd : y.k.den} {vs : List Value} {F : BS}, Enc w' θ Cc'.Z Cc'.S y.k y.m dd vs F → Enc w' θ Cc'.Z C.S y.k y.m dd vs F := by
  intro y hy θ dd vs F he
  rcases hdone with h1 | h1
  ·exact he.mono (.refl _) (hSsub h1) (.refl _) (fun _ _ => rfl) (fun _ _ => rfl)
  ·exact he.done (hy.elim (rootsDone_mem _ h1.1.1 y) (rootsDone_mem _ h1.1.2 y))
 let C' : Ctx := ⟨pickN g d Cc'.θ C.θ, pickN g d Cc'.ρ C.ρ, pickN g d Cc'.F C.F, Cc'.Z, C.S⟩
 have hC1 : ∀ {i : Nat} {p : RName}, g[i]? = some p → C'.θ p = Cc'.θ (par i) ∧ C'.ρ p = Cc'.ρ (par i) ∧ C'.F p = Cc'.F (par i) :=
  fun hi => ⟨pickN_reg hnd hi, pickN_reg hnd hi, pickN_reg hnd hi⟩
 have hC2 : ∀ j, C'.θ (loc d j) = Cc'.θ (fr j) ∧ C'.ρ (loc d j) = Cc'.ρ (fr j) ∧ C'.F (loc d j) = Cc'.F (fr j) :=
  fun j => ⟨pickN_fresh hslot, pickN_fresh hslot, pickN_fresh hslot⟩
 have hC3 : ∀ {p : RName}, p ∉ g → p.1 ≠ d + 2 → C'.θ p = C.θ p ∧ C'.ρ p = C.ρ p ∧ C'.F p = C.F p :=
  fun h1 h2 => ⟨pickN_old h1 h2, pickN_old h1 h2, pickN_old h1 h2⟩
 have hθall : ∀ {p : RName}, p.1 ≠ d + 2 → C'.θ p = C.θ p := by
  intro p hp
  by_cases hg' : p ∈ g
  ·obtain ⟨i, hi⟩ := List.getElem?_of_mem hg'
   rw [(hC1 hi).1, hθreg hi]
  ·exact (hC3 hg' hp).1
 have hbackθ : ∀ (y : Root), (y ∈ co.roots ∨ y ∈ co.fresh) → ∀ q ∈ ptrsOf y.k y.d, C'.θ (backOf g d q) = Cc'.θ q ∧
   ((∃ i, q = par i ∧ g[i]? = some (backOf g d q)) ∨ (∃ j, q = fr j ∧ backOf g d q = loc d j)) := by
  intro y hy q hq
  have := hy.elim (fun h => hpr y h q hq) (fun h => hpf y h q hq)
  rcases this with ⟨i, rfl, hi⟩ | ⟨j, rfl, _⟩
  ·have hgi : g[i]? = some g[i] := List.getElem?_eq_getElem hi
   have hb : backOf g d (par i) = g[i] := by simp only [backOf, hgi]
   rw [hb]
   exact ⟨(hC1 hgi).1, .inl ⟨i, rfl, hgi⟩⟩
  ·exact ⟨(hC2 j).1, .inr ⟨j, rfl, rfl⟩⟩
 have hnewok : ∀ {p p' : RName} {y : Root}, rsOut co p' = some y → (y ∈ co.roots ∨ y ∈ co.fresh) → C'.θ p = Cc'.θ p' ∧ C'.ρ p = Cc'.ρ p' ∧ C'.F p = Cc'.F p' → RootOK w' C' p ⟨y.mem, y.k, y.m, renD (backOf g d) y.k y.d⟩ := by
  intro p p' y hy hmem ⟨h1, h2, h3⟩
  obtain ⟨G, g1, g2, g3⟩ := Po.mem.ok p' y hy
  refine ⟨G, ?_, by rw [h3]; exact g2, fun hm => by rw [h1, h2, h3]; exact g3 hm⟩
  show Enc w' C'.θ Cc'.Z C.S y.k y.m _ (C'.ρ p) G
  rw [h2]
  exact (hfix y hmem g1).renD (fun q hq => (hbackθ y hmem q hq).1)
 have hcase : ∀ {p : RName} {z : Root}, (s.after (some d) D).roots p = some z →
   (∃ p' y, rsOut co p' = some y ∧ (y ∈ co.roots ∨ y ∈ co.fresh) ∧ (C'.θ p = Cc'.θ p' ∧ C'.ρ p = Cc'.ρ p' ∧ C'.F p = Cc'.F p') ∧ z = ⟨y.mem, y.k, y.m, renD (backOf g d) y.k y.d⟩ ∧ ((∃ i, p' = par i ∧ g[i]? = some p) ∨ (∃ j, p' = fr j ∧ p = loc d j))) ∨
   (p ∉ g ∧ p.1 ≠ d + 2 ∧ s.roots p = some z) := by
  intro p z hp
  rcases hroots p z hp with ⟨i, y, x, k1, k2, k3, k4, k5, k6⟩ | ⟨j, y, k1, k2, k3⟩ | h
  ·exact .inl ⟨par i, y, k2, .inl (List.mem_of_getElem? k2), hC1 k1, k6, .inl ⟨i, rfl, k1⟩⟩
  ·exact .inl ⟨fr j, y, k2, .inr (List.mem_of_getElem? k2), by rw [k1]; exact hC2 j, k3, .inr ⟨j, rfl, k1⟩⟩
  ·exact .inr h
 have hpq : ∀ {p : RName} {z : Root}, s.roots p = some z → ∀ q ∈ ptrsOf z.k z.d, q.1 ≠ d + 2 := by
  intro p z hz q hq he
  have := R.pins p z hz q hq (by omega)
  rw [he, hpin] at this; cases this
 have hcallM : Mem w' C' (s.after (some d) D).roots := by
  refine ⟨?_, ?_, ?_, ?_, ?_⟩
  ·intro p z hp
   rcases hcase hp with ⟨p', y, k1, k2, k3, rfl, _⟩ | ⟨h1, h2, h3⟩
   ·exact hnewok k1 k2 k3
   ·refine (R.mem.ok p z h3).keepZ hZ rfl (hC3 h1 h2).1 (hC3 h1 h2).2.1 (hC3 h1 h2).2.2 (fun q hq => hθall (hpq h3 q hq)) (fun b hb => ?_)
    rcases hb with hb | hb
    ·exact holdb h1 h3 hb
    ·exact hZSb hb
  ·have side : ∀ {p p' : RName} {y z : Root}, rsOut co p' = some y → C'.F p = Cc'.F p' → ∀ {p2 : RName}, p2 ∉ g → p2.1 ≠ d + 2 → s.roots p2 = some z → Disj (C'.F p) (C'.F p2) := by
    intro p p' y z k1 k2 p2 h1 h2 h3 b hb hb'
    rw [k2] at hb
    rw [(hC3 h1 h2).2.2] at hb'
    rcases Po.foot p' y b k1 hb with hf | hf
    ·have := (R.mem.apart p2 z b h3 hb').2.2; omega
    ·exact hmwold h1 h3 hb' hf
   intro p1 p2 z1 z2 hp1 hp2 hne
   rcases hcase hp1 with ⟨p1', y1, k1, _, k3, _, k4⟩ | ⟨h1, h2, h3⟩ <;> rcases hcase hp2 with ⟨p2', y2, l1, _, l3, _, l4⟩ | ⟨m1, m2, m3⟩
   ·rw [k3.2.2, l3.2.2]
    refine Po.mem.disj p1' p2' y1 y2 k1 l1 ?_
    rintro rfl
    apply hne
    rcases k4 with ⟨i, rfl, hi⟩ | ⟨j, rfl, hj⟩ <;> rcases l4 with ⟨i', he, hi'⟩ | ⟨j', he, hj'⟩
    ·simp only [Prod.mk.injEq, true_and] at he; subst he
     rw [hi] at hi'; exact Option.some.inj hi'
    ·cases he
    ·cases he
    ·simp only [Prod.mk.injEq, true_and] at he; subst he
     rw [hj, hj']
   ·exact side k1 k3.2.2 m1 m2 m3
   ·exact (side l1 l3.2.2 h1 h2 h3).symm
   ·rw [(hC3 h1 h2).2.2, (hC3 m1 m2).2.2]; exact R.mem.disj p1 p2 z1 z2 h3 m3 hne
  ·intro p z b hp hb
   show ¬ Cc'.Z b ∧ ¬ C.S b ∧ _
   rcases hcase hp with ⟨p', y, k1, _, k3, _, _⟩ | ⟨h1, h2, h3⟩
   ·rw [k3.2.2] at hb
    have := Po.mem.apart p' y b k1 hb
    rw [hSS] at this
    exact ⟨this.1, fun h => this.2.1 (.inl h), this.2.2⟩
   ·rw [(hC3 h1 h2).2.2] at hb
    have h4 := R.mem.apart p z b h3 hb
    exact ⟨fun hz => (hzn b hz).elim h4.1 (fun h => h.elim (fun h => by omega) (hmwold h1 h3 hb)), h4.2.1, Nat.lt_of_lt_of_le h4.2.2 Po.kept.size⟩
  ·intro b hb
   rcases hb with hb | hb
   ·exact Po.mem.ro b (.inl hb)
   ·have := R.mem.ro b (.inr hb)
    have := Po.kept.size
    show b < w'.heap.size
    omega
  ·intro p z hp q hq z2 hq2
   rcases hcase hp with ⟨p', y, k1, k2, k3, rfl, _⟩ | ⟨h1, h2, h3⟩
   ·rw [ptrs_renD] at hq
    obtain ⟨q0, hq0, rfl⟩ := List.mem_map.1 hq
    have hb := (hbackθ y k2 q0 hq0).2
    rcases hroots _ z2 hq2 with ⟨i, y2, x2, l1, l2, l3, l4, l5, rfl⟩ | ⟨j, y2, l1, l2, rfl⟩ | ⟨l1, l2, _⟩
    ·rcases hb with ⟨i', rfl, hi'⟩ | ⟨j', rfl, hj'⟩
     ·rw [nodup_idx hnd hi' l1] at hq0
      exact Po.mem.ptr p' y k1 _ hq0 y2 l2
     ·rw [hj'] at l1; exact absurd rfl (hslot _ (List.mem_of_getElem? l1))
    ·rcases hb with ⟨i', rfl, hi'⟩ | ⟨j', rfl, hj'⟩
     ·rw [l1] at hi'; exact absurd rfl (hslot _ (List.mem_of_getElem? hi'))
     ·rw [hj'] at l1
      simp only [Prod.mk.injEq, true_and] at l1
      subst l1
      exact Po.mem.ptr p' y k1 _ hq0 y2 l2
    ·rcases hb with ⟨i', rfl, hi'⟩ | ⟨j', rfl, hj'⟩
     ·exact absurd (List.mem_of_getElem? hi') l1
     ·rw [hj'] at l2; exact absurd rfl l2
   ·rcases hroots _ z2 hq2 with ⟨i, y2, x2, l1, l2, l3, l4, l5, rfl⟩ | ⟨j, y2, l1, l2, rfl⟩ | ⟨_, _, l3⟩
    ·show y2.mem = true
     rw [l5]; exact R.mem.ptr p z h3 q hq x2 l3
    ·exact absurd (by rw [l1]) (hpq h3 q hq)
    ·exact R.mem.ptr p z h3 q hq z2 l3
 have hdn : ∀ d', some d = some d' → d' < n := fun d' h => by cases h; exact hd d hdst
 have hznew : ∀ b, C'.Z b → C0.Z b ∨ w0.heap.size ≤ b ∨ M0 b := by
  intro b hb
  rcases hzn b hb with h | h | h
  ·exact R.zn b h
  ·exact .inr (.inl (Nat.le_trans R.kept.size h))
  ·obtain ⟨i, p, x, _, hx, hb'⟩ := hmw h
   exact .inr (R.foot p x b hx hb')
 refine hn _ _ C' (R.put (C' := C') hdn hDr ⟨R.ext.Z.trans hZ, R.ext.S, fun i => by rw [hθall (by simp)]; exact R.ext.θ i⟩ hcallM ?_ ?_ ?_ ?_ ?_ ?_ hznew)
 ·refine leaf_vw ?_
  intro b vs hvw hl hh hb
  simp only [killList, hDm, cond_true, Option.getD_some, hDk, hit, List.any_cons, Bool.or_eq_false_iff] at hh
  have hn1 := hit_dst hl hh.1
  by_cases hall : ∀ q ∈ b.names, q ∉ g
  ·refine leaf_keepZ (C' := C') R.mem (fun q => q ∈ g ∨ q.1 = d + 2) hZ rfl (fun q hq => (hC3 (fun h => hq (.inl h)) (fun h => hq (.inr h))).1) (fun q hq => (hC3 (fun h => hq (.inl h)) (fun h => hq (.inr h))).2.1) ?_ ?_ hl (fun q hq h => h.elim (hall q hq) (hn1 q hq)) hb
   ·intro q z hq hz
    rcases hroots q z hz with ⟨i, _, _, k1, _⟩ | ⟨j, _, k1, _⟩ | ⟨_, _, h⟩
    ·exact absurd (.inl (List.mem_of_getElem? k1)) hq
    ·exact absurd (.inr (by rw [k1])) hq
    ·exact h
   ·intro b' hb'
    rcases hb' with hb' | hb' | ⟨q, z, hq, hz, hb'⟩
    ·exact hZSb (.inl hb')
    ·exact hZSb (.inr hb')
    ·exact holdb (fun h => hq (.inl h)) hz hb'
  ·have hreg1 : ∀ {q : RName} {z : Root}, q ∈ g → (s.after (some d) D).roots q = some z → ∃ x, s.roots q = some x ∧ z.k = x.k ∧ z.mem = x.mem ∧ baseOf C' q z = baseOf C q x ∧ (x.mem = false → C'.ρ q = C.ρ q) ∧ (C'.ρ q).length = z.k.size := by
    intro q z hq hz
    rcases hroots q z hz with ⟨i, y, x, k1, k2, k3, k4, k5, rfl⟩ | ⟨j, _, k1, _⟩ | ⟨h, _, _⟩
    ·refine ⟨x, k3, k4, k5, ?_, fun hm => ?_, ?_⟩
     ·unfold baseOf
      rw [hθall (by rintro he; exact hslot q hq he)]
      simp only [k5]
     ·rw [(hC1 k1).2.1, Po.ρ i y k2 (by rw [k5]; exact hm)]
      show C.ρ (g.getD i nowhere) = _
      rw [hgd k1]
     ·obtain ⟨G, g1, _⟩ := hcallM.ok q _ hz
      exact g1.len
    ·rw [k1] at hq; exact absurd rfl (hslot _ hq)
    ·exact absurd hq h
   have hold1 : ∀ {q : RName} {z : Root} {p : Path}, q ∉ g → (s.after (some d) D).roots q = some z → q.1 ≠ d + 2 → s.roots q = some z ∧ (canGet z.k z.d z.m p → locv w' z.k (C'.ρ q) (baseOf C' q z) p = locv w z.k (C.ρ q) (baseOf C q z) p) := by
    intro q z p hq hz hq1
    rcases hroots q z hz with ⟨i, y, x, k1, _⟩ | ⟨j, _, k1, _⟩ | ⟨_, _, h3⟩
    ·exact absurd (List.mem_of_getElem? k1) hq
    ·rw [k1] at hq1; exact absurd rfl hq1
    ·refine ⟨h3, fun hcg => ?_⟩
     obtain ⟨G, hG1, hG2, _⟩ := R.mem.ok q z h3
     obtain ⟨_, _, _, hgp⟩ := canGet_getP p hcg
     have hb : baseOf C' q z = baseOf C q z := by unfold baseOf; rw [(hC3 hq hq1).1]
     rw [(hC3 hq hq1).2.1, hb]
     refine locv_frame p hG1 (fun b hb => ?_) ⟨Unit, (), fun _ _ _ => some (), by rw [hgp]⟩
     rcases hb with hb | hb
     ·exact holdb hq h3 (hG2 b hb)
     ·exact hZSb hb
   have hpl : ∀ {q : RName} {z x : Root} (p' : Path) (k' : K) (cs : List Value) (b1 : Option (Nat × Nat)), q ∈ g → (s.after (some d) D).roots q = some z → s.roots q = some x → x.k.at p' = some k' → canGet x.k x.d x.m p' →
     locv w x.k (C.ρ q) (baseOf C q x) p' = some (cs, b1) →
     (hit (callKills qc.soft s.roots args' g) (.ptr q p') = false → canGet z.k z.d z.m p' ∧ ∃ cs', locv w' z.k (C'.ρ q) (baseOf C' q z) p' = some (cs', b1)) ∧
     ((∃ e, k' = .sl e) → hit (callKills qc.soft s.roots args' g) (.ref q p') = false → canGet z.k z.d z.m p' ∧ locv w' z.k (C'.ρ q) (baseOf C' q z) p' = some (cs, b1)) := by
    intro q z x p' k' cs b1 hqg hz hx hat hcg hlc
    rcases callKills_cases qc.soft s.roots args' g with hk | ⟨p0, l0, q0, hsf, ha, hg0, hk⟩
    ·rw [hk]
     obtain ⟨x', x1, x2, x3, x4, x5, x6⟩ := hreg1 hqg hz
     rw [hx] at x1
     cases x1
     refine ⟨fun hh => ?_, fun _ hh => ?_⟩
     ·have hkk := regKills_mem g hh q hqg x hx
      have hidx : hasIdx p' = false := by
       cases hm : x.mem with
       | true => rw [hm] at hkk; simpa [Kill.hits, req_iff.2 rfl, under] using hkk
       | false => rw [hm] at hkk; simpa [Kill.hits, req_iff.2 rfl] using hkk
      obtain ⟨oo, hoo⟩ := locv_noidx p' hidx hat
      have hlen : (C.ρ q).length = x.k.size := by obtain ⟨G, g1, _⟩ := R.mem.ok q x hx; exact g1.len
      rw [(hoo w (C.ρ q) (baseOf C q x) hlen).1] at hlc
      simp only [Option.some.injEq, Prod.mk.injEq] at hlc
      refine ⟨canGet_noidx p' hidx (by rw [x2]; exact hat), ((C'.ρ q).drop oo).take k'.size, ?_⟩
      rw [x4, x2, (hoo w' (C'.ρ q) (baseOf C q x) (by rw [x6, x2])).1, hlc.2]
     ·have hkk := regKills_mem g hh q hqg x hx
      have hmp : x.mem = false ∧ p' = [] := by
       cases hm : x.mem with
       | true => rw [hm] at hkk; simp [Kill.hits, req_iff.2 rfl, under] at hkk
       | false => rw [hm] at hkk; simpa [Kill.hits, req_iff.2 rfl] using hkk
      obtain ⟨hm, rfl⟩ := hmp
      rw [locv_nil] at hlc
      exact ⟨canGet_nil _ _ _, by rw [locv_nil, x5 hm, x4]; exact hlc⟩
    ·rw [hk]
     have hq0 : g[0]? = some q0 := by rw [hg0]; rfl
     have hqq : q = q0 := by rw [hg0] at hqg; exact List.mem_singleton.1 hqg
     subst hqq
     have hys : ys = [⟨x.mem, x.k, x.m, renD (parOf g) x.k x.d⟩] := by
      have hl1 : ys.length = 1 := by rw [hysl, hg0]; rfl
      obtain ⟨y0, rfl⟩ : ∃ y0, ys = [y0] := by
       match ys, hl1 with
       | [y0], _ => exact ⟨y0, rfl⟩
      obtain ⟨i', q', x', he, hi', hx', hz'⟩ := hin (par 0) y0 rfl
      simp only [Prod.mk.injEq, true_and] at he
      subst he
      rw [hq0] at hi'
      cases hi'
      rw [hx] at hx'
      cases hx'
      rw [hz']
     obtain ⟨d', m', e, hco', hst⟩ := Sf hsf p0 l0 _ ha hys
     have hρ0 : Cc.ρ (par 0) = C.ρ q := by show C.ρ (g.getD 0 nowhere) = _; rw [hgd hq0]
     have hb0 : baseOf Cc (par 0) ⟨x.mem, x.k, x.m, renD (parOf g) x.k x.d⟩ = baseOf C q x := by
      unfold baseOf
      show (if x.mem = true then some (C.θ (g.getD 0 nowhere), 0) else none) = _
      rw [hgd hq0]
     have hzz : z = ⟨x.mem, x.k, m', renD (backOf g d) x.k d'⟩ := by
      rcases hroots q z hz with ⟨i, y, x', k1, k2, k3, k4, k5, rfl⟩ | ⟨j, _, k1, _⟩ | ⟨h, _, _⟩
      ·have hi0 : i = 0 := nodup_idx hnd k1 hq0
       subst hi0
       rw [hco'] at k2
       simp only [List.getElem?_cons_zero, Option.some.injEq] at k2
       subst k2
       rfl
      ·exact absurd (by rw [k1]) (hslot _ hqg)
      ·exact absurd hqg h
     have hbz : baseOf C' q z = baseOf C q x := by
      obtain ⟨x', x1, _, _, x4, _, _⟩ := hreg1 hqg hz
      rw [hx] at x1
      cases x1
      exact x4
     rw [hρ0, hb0] at hst
     obtain ⟨s1, s2⟩ := hst p' k' cs b1 hat (canGet_renD p' hcg) hlc
     have hkr : ∀ av, hit [Kill.at q (p0 ++ [.idx 0])] av = (Kill.at q (p0 ++ [.idx 0])).hits av := fun av => by simp [hit]
     rw [hbz, (hC1 hq0).2.1]
     subst hzz
     refine ⟨fun hh => ?_, fun he hh => ?_⟩
     ·rw [hkr] at hh
      obtain ⟨u1, u2⟩ := s1 (.inr (by simpa [Kill.hits, req_iff.2 rfl] using hh))
      exact ⟨canGet_renD p' u1, u2⟩
     ·rw [hkr] at hh
      obtain ⟨u1, u2⟩ := s2 he (.inr (by simpa [Kill.hits, req_iff.2 rfl] using hh))
      exact ⟨canGet_renD p' u1, u2⟩
   have hin2 : ∀ {q : RName}, (∀ q' ∈ b.names, q' = q) → q ∈ g := fun {q} h => by
    by_cases hq : q ∈ g
    ·exact hq
    ·exact absurd (fun q' hq' => by rw [h q' hq']; exact hq) hall
   cases b with
   | ptr q p =>
    have hqg : q ∈ g := hin2 fun q' hq' => by simpa [AV.names] using hq'
    obtain ⟨b, off, rfl, h0, hr⟩ := hb
    refine ⟨b, off, rfl, fun h => by rw [hθall (hn1 q (by simp [AV.names]))]; exact h0 h, fun z hz => ?_⟩
    obtain ⟨x, x1, x2, x3, x4, x5, x6⟩ := hreg1 hqg hz
    obtain ⟨k', cs, r1, r2, r3⟩ := hr x x1
    obtain ⟨u1, cs', u2⟩ := (hpl p k' cs _ hqg hz x1 r1 r2 r3).1 hh.2
    exact ⟨k', cs', by rw [x2]; exact r1, u1, u2⟩
   | ref q p =>
    have hqg : q ∈ g := hin2 fun q' hq' => by simpa [AV.names] using hq'
    obtain ⟨v2, rfl, hr⟩ := hb
    refine ⟨v2, rfl, fun z hz => ?_⟩
    obtain ⟨x, x1, x2, x3, x4, x5, x6⟩ := hreg1 hqg hz
    obtain ⟨e2, base2, r1, r2, r3⟩ := hr x x1
    obtain ⟨u1, u2⟩ := (hpl p _ _ _ hqg hz x1 r1 r2 r3).2 ⟨e2, rfl⟩ hh.2
    exact ⟨e2, base2, by rw [x2]; exact r1, u1, u2⟩
   | slc q p lo k0 =>
    have hqg : q ∈ g := hin2 fun q' hq' => by simpa [AV.names] using hq'
    obtain ⟨v2, v3, rfl, hr⟩ := hb
    refine ⟨v2, v3, rfl, fun z hz => ?_⟩
    obtain ⟨x, x1, x2, x3, x4, x5, x6⟩ := hreg1 hqg hz
    obtain ⟨e2, base2, r1, r2, r3, r4⟩ := hr x x1
    have hh2 : hit (callKills qc.soft s.roots args' g) (.ref q p) = false := by rw [← hits_slc]; exact hh.2
    obtain ⟨u1, u2⟩ := (hpl p _ _ _ hqg hz x1 r1 r2 r3).2 ⟨e2, rfl⟩ hh2
    exact ⟨e2, base2, by rw [x2]; exact r1, u1, u2, r4⟩
   | fn f0 caps0 =>
    obtain ⟨rfl, hcp⟩ := hb
    refine ⟨?_, fun q hq z hz => ?_⟩
    ·have : capV C.θ caps0 = capV C'.θ caps0 := by
      unfold capV
      congr 1
      exact List.map_congr_left fun q hq => by rw [hθall (hn1 q (by simpa [AV.names] using hq))]
     rw [this]
    ·by_cases hqg : q ∈ g
     ·obtain ⟨x, x1, x2, x3, _⟩ := hreg1 hqg hz
      rw [x3]; exact hcp q hq x x1
     ·exact hcp q hq z (hold1 (p := []) hqg hz (hn1 q (by simpa [AV.names] using hq))).1
   | vw _ _ _ => simp [AV.isVw] at hvw
   | pair _ _ => simp [AV.isLeaf] at hl
   | tcons _ _ => simp [AV.isLeaf] at hl
   | _ => exact absurd (by simp [AV.names]) hall
 ·intro d' _
  rw [hDv]
  refine VRel.back (P0 := fun av => av.done = true ∨ Sub Cc'.S C'.S) (fun a b h => ⟨h.imp (fun h => by simp only [AV.done, Bool.and_eq_true] at h; exact h.1) id, h.imp (fun h => by simp only [AV.done, Bool.and_eq_true] at h; exact h.2) id⟩)
   (fun av vs h0 hav => AVC.back (fun i q hi => ⟨fun z hz => ?_, (hC1 hi).1, (hC1 hi).2.1⟩) (fun j => ⟨fun z hz => ?_, (hC2 j).1, (hC2 j).2.1⟩) ?_ av vs h0 hav) ?_ Po.val
  ·rcases hroots q z hz with ⟨i', y, x, k1, k2, k3, k4, k5, rfl⟩ | ⟨j, _, k1, _⟩ | ⟨h, _, _⟩
   ·rw [nodup_idx hnd hi k1]
    exact ⟨y, k2, rfl, rfl, rfl, fun p h => canGet_renD p h⟩
   ·rw [k1] at hi; exact absurd rfl (hslot _ (List.mem_of_getElem? hi))
   ·exact absurd (List.mem_of_getElem? hi) h
  ·rcases hroots _ z hz with ⟨i', y, x, k1, _⟩ | ⟨j', y, k1, k2, rfl⟩ | ⟨_, h, _⟩
   ·exact absurd rfl (hslot _ (List.mem_of_getElem? k1))
   ·simp only [Prod.mk.injEq, true_and] at k1
    subst k1
    exact ⟨y, k2, rfl, rfl, rfl, fun p h => canGet_renD p h⟩
   ·exact absurd rfl h
  ·intro z k dd vs h0 hpl he
   have he2 : Enc w' C'.θ Cc'.Z Cc'.S k (.imm z) dd vs noB := he.mono (.refl _) (.refl _) (.refl _) (fun _ _ => rfl) (fun p hp => by rw [ptrsOf_plain dd hpl] at hp; cases hp)
   rcases h0 with h0 | h0
   ·simp only [AV.done, Bool.or_eq_true] at h0
    rcases h0 with h0 | h0
    ·exact he2.done h0
    ·exact Enc.flat h0 he2
   ·exact he2.mono (.refl _) h0 (.refl _) (fun _ _ => rfl) (fun _ _ => rfl)
  ·rcases hdone with h1 | h1
   ·exact .inr (hSsub h1)
   ·exact .inl h1.2
 ·refine R.kept.trans Po.kept (fun b hb hm => ?_)
  obtain ⟨i, p, x, _, hx, hb'⟩ := hmw hm
  exact (R.foot p x b hx hb').elim (fun h => by omega) id
 ·intro p z b hp hb
  rcases hcase hp with ⟨p', y, k1, _, k3, _, _⟩ | ⟨h1, h2, h3⟩
  ·rw [k3.2.2] at hb
   rcases Po.foot p' y b k1 hb with hf | hf
   ·exact .inl (Nat.le_trans R.kept.size hf)
   ·obtain ⟨i, p2, x, _, hx, hb'⟩ := hmw hf
    exact R.foot p2 x b hx hb'
  ·rw [(hC3 h1 h2).2.2] at hb
   exact R.foot p z b h3 hb
 ·intro p z hp q hq h2
  simp only [St.after, Bool.or_eq_true, List.any_eq_true]
  rcases hcase hp with ⟨p', y, k1, k2, k3, rfl, _⟩ | ⟨_, _, h3⟩
  ·rw [ptrs_renD] at hq
   obtain ⟨q0, hq0, rfl⟩ := List.mem_map.1 hq
   refine .inr ⟨backOf g d q0, ?_, beq_iff.2 rfl⟩
   rw [hDp]
   refine List.mem_map.2 ⟨q0, List.mem_append.2 ?_, rfl⟩
   exact k2.imp (fun h => ptrsOfAll_mem _ h hq0) (fun h => ptrsOfAll_mem _ h hq0)
  ·exact .inl (R.pins p z h3 q hq h2)
 ·intro i z hp hm
  rcases hroots _ z hp with ⟨i', y, x, k1, k2, k3, k4, k5, rfl⟩ | ⟨j, _, k1, _⟩ | ⟨h1, h2, h3⟩
  ·have hm' : y.mem = false := hm
   rw [(hC1 k1).2.1, Po.ρ i' y k2 hm']
   show C.ρ (g.getD i' nowhere) = _
   rw [hgd k1]
   exact R.parρ i x k3 (by rw [← k5]; exact hm')
  ·cases k1
  ·rw [(hC3 h1 h2).2.1]; exact R.parρ i z h3 hm
end
end Go.Abs

namespace Go.Abs
variable {Γ : Glb}
section
variable {P : Program} {V : Env} {w0 w : World} {M0 : BS} {n : Nat} {C0 C : Ctx} {s : St} {a : Act}
variable {R' : Type} {r : R'} {o : Oper} {c : Del → Option R'}
def Noted (C : Ctx) (rs : RF) (z : Root) (w w' : World) : Prop :=
 ∃ (r : RName) (i j : Nat) (y : Root) (b off len cap : Nat) (cs : Array Value) (T : TypeId) (v : Value), pendD z.k z.d = some (Int.ofNat r.1, Int.ofNat r.2, Int.ofNat i, Int.ofNat j) ∧ rs r = some y ∧
  C.ρ r = [.slice (some ⟨b, off, none⟩) len cap] ∧ w.heap[b]? = some (.cells cs T (0, 0)) ∧ C.F r b ∧ i < len ∧ j < len ∧ off + len ≤ cs.size ∧ cs[off + j]? = some v ∧ w' = w.setRow b (updCells cs (off + i) [v])
def Und (C : Ctx) (rs : RF) (w w' : World) : Prop := match rs pendR with
 | none => w' = w
 | some z => Noted C rs z w w'
def Rel2 (w0 : World) (M0 : BS) (n : Nat) (C0 C : Ctx) (s : St) (a : Act) (w' : World) : Prop := ∃ w, Rel w0 M0 n C0 C s a w ∧ Und C s.roots w w'
def Does2 (P : Program) (w0 : World) (M0 : BS) (n : Nat) (C0 : Ctx) (s : St) (a : Act) (w' : World) (o : Oper) (x : Del) : Prop :=
 (∀ d, o.dst = some d → d < n) → allowedS s o.dst x = true → ∀ (next : Act → World → Prop) (Q : Exit → Act → World → Prop),
  (∀ a' w'' C', Rel2 w0 M0 n C0 C' (s.after o.dst x) a' w'' → next a' w'') → o.wp P a w' next Q
theorem Rel.two (R : Rel w0 M0 n C0 C s a w) (h : s.roots pendR = none) : Rel2 w0 M0 n C0 C s a w := ⟨w, R, by unfold Und; rw [h]⟩
theorem Rel2.one {w' : World} (R : Rel2 w0 M0 n C0 C s a w') (h : s.roots pendR = none) : Rel w0 M0 n C0 C s a w' := by
 obtain ⟨w, R, hu⟩ := R
 unfold Und at hu
 rw [h] at hu
 subst hu
 exact R
structure TwoHeads (w : World) (C : Ctx) (a : Act) (r : RName) (i j : Nat) (e : K) (m : Mask) (d : List (K.sl e).den) (x y : Operand) (b off cap : Nat) (cs : Array Value) (T : TypeId) (v : Value) (G : Nat → BS) : Prop where
 ρ : C.ρ r = [.slice (some ⟨b, off, none⟩) d.length cap]
 heap : w.heap[b]? = some (.cells cs T (0, 0))
 le : d.length ≤ cap
 fit : off + cap ≤ cs.size
 F : C.F r b
 hi : i < d.length
 hj : j < d.length
 ptr : a.eval x = .pointer (some ⟨b, off + i, none⟩)
 at_ : cs[off + j]? = some v
 val : a.eval y = v
 cells : v.cells = #[v]
 one : v.oneCell' = true
 gs : ∀ i, Sub (G i) (C.F r) ∧ ¬ G i b
 dj : ∀ i j, i ≠ j → Disj (G i) (G j)
 el : ∀ k x, d[k]? = some x → Enc w C.θ C.Z C.S (.sl e) m.elem x (sub cs (off + k) 1) (G k)
theorem sub_one {cs : Array Value} {off : Nat} {v : Value} (h : cs[off]? = some v) : sub cs off 1 = [v] := by
 unfold sub
 have hlt := (Array.getElem?_eq_some_iff.1 h).1
 rw [List.drop_eq_getElem_cons (by simpa using hlt)]
 have := (Array.getElem?_eq_some_iff.1 h).2
 simp [this]
theorem heads_of (R : Rel w0 M0 n C0 C s a w) {q : RName} {i j : Nat} {e : K} {m : Mask} {d : List (K.sl e).den} {x y : Operand} (hr : s.roots q = some ⟨false, .sl (.sl e), m, d⟩) (hown : m.isOwn = true) (hlive : m.live = true)
  (hx : evalAV s.tmps x = .ptr q [.idx i]) (hy : evalAV s.tmps y = .ref q [.idx j]) : ∃ b off cap cs T v G, TwoHeads w C a q i j e m d x y b off cap cs T v G := by
 have hp := R.eval x
 rw [hx] at hp
 obtain ⟨⟨bp, offp, hpv, _, hpr⟩, _⟩ := hp.cell (by simp) rfl (by simp) (by simp)
 have hv := R.eval y
 rw [hy] at hv
 obtain ⟨⟨v, hvv, hvr⟩, hvc⟩ := hv.cell (by simp) rfl (by simp) (by simp)
 simp only [List.cons.injEq, and_true] at hpv hvv
 obtain ⟨k1, c1, _, hcg, hloc⟩ := hpr _ hr
 obtain ⟨e2, base, _, hcg2, hloc2⟩ := hvr _ hr
 obtain ⟨G0, he, hs, _⟩ := R.mem.ok q _ hr
 obtain ⟨_, xi, hxi, _⟩ := hcg
 obtain ⟨_, xj, hxj, _⟩ := hcg2
 have hi : i < List.length d := (List.getElem?_eq_some_iff.1 hxi).1
 have hj : j < List.length d := (List.getElem?_eq_some_iff.1 hxj).1
 have hbase : baseOf C q ⟨false, .sl (.sl e), m, d⟩ = none := by unfold baseOf; rw [if_neg (by simp)]
 rcases he with ⟨hg, _⟩ | ⟨_, hd, _⟩ | ⟨_, b, off, cap, cs, T, fz, hρ, hc, hle, hfit, hok, G, hG, hdj, hel⟩
 ·subst hg; simp [Mask.isOwn] at hown
 ·simp only at hd; rw [hd] at hi; simp at hi
 ·have hbF : G0 b ∧ fz = (0, 0) := by cases m <;> simp_all [Mask.isOwn, slOk]
  obtain ⟨hbF, rfl⟩ := hbF
  simp only [K.size, Nat.mul_one] at hfit hel
  rw [hbase] at hloc hloc2
  rw [hρ] at hloc hloc2
  simp only [locv, cellsAt, hc, K.size, Nat.mul_one] at hloc hloc2
  simp only [Option.some.injEq, Prod.mk.injEq] at hloc hloc2
  have hle : List.length d ≤ cap := hle
  have hlt : off + j < cs.size := by omega
  have hs1 := sub_one (Array.getElem?_eq_getElem hlt)
  rw [hs1] at hloc2
  simp only [List.cons.injEq, and_true] at hloc2
  have hel' := hel j xj hxj
  rw [hs1, hloc2.1] at hel'
  refine ⟨b, off, cap, cs, T, v, G, hρ, hc, hle, hfit, hs b hbF, hi, hj, ?_, ?_, hvv, ?_, hel'.one (Mask.live_elem hlive) v (by simp), fun k => ⟨(hG k).1.trans hs, (hG k).2⟩, hdj, hel⟩
  ·rw [hpv, ← hloc.2.1, ← hloc.2.2]
  ·rw [Array.getElem?_eq_getElem hlt, hloc2.1]
  ·rw [← hvv]; exact hvc
theorem run_head (hT : TysOK P V) {t : TypeId} {e : K} (hk : V.k t = some (.sl e)) {x y : Operand} (ho : o.op = .store t x y) {b off : Nat} {cs : Array Value} {T : TypeId} {v : Value} {w : World} (hc : w.heap[b]? = some (.cells cs T (0, 0)))
  (hp : a.eval x = .pointer (some ⟨b, off, none⟩)) (hv : a.eval y = v) (h1 : v.cells = #[v]) (h2 : v.oneCell' = true) (hfit : off < cs.size) : (execOp a.eval o).run P w = .ok .skip (w.setRow b (updCells cs off [v])) := by
 obtain ⟨ti, hti, hk⟩ := Env.k_ti hk
 have hty := hT.ty _ _ hti
 have hrun := run_storeAt_of (w := w) hty hc (v := v) (off := off) (by rw [h1, hk]; rfl) (by rw [h1]; exact hfit) (by rw [h1]; simpa using h2)
 rw [h1] at hrun
 simp only [execOp, ho, Sem.run_bind, hp, hv, hrun, Result.andThen_ok, Sem.run_pure]
theorem after_roots {x : Del} {d : Option Nat} (hm : x.make = false) (q : RName) : (s.after d x).roots q = match lookU q x.u with
  | some y => y
  | none => s.roots q := by
 simp only [St.after, hm, Bool.false_and, cond_false]
 rfl
theorem head_first (hT : TysOK P V) (R : Rel w0 M0 n C0 C s a w) {q : RName} {i j : Nat} {e : K} {m : Mask} {d : List (K.sl e).den} {t : TypeId} {x y : Operand} (ho : o.op = .store t x y) (hk : V.k t = some (.sl e))
  (hr : s.roots q = some ⟨false, .sl (.sl e), m, d⟩) (hown : m.isOwn = true) (hlive : m.live = true) (hx : evalAV s.tmps x = .ptr q [.idx i]) (hy : evalAV s.tmps y = .ref q [.idx j]) (hn : s.roots pendR = none) :
  Does2 P w0 M0 n C0 s a w o ⟨.dead, [(pendR, some (pendOf q i j))], false, [.of pendR], [], none, [q], [pendR], true⟩ := by
 obtain ⟨b, off, cap, cs, T, v, G, H⟩ := heads_of R hr hown hlive hx hy
 have hqp : q ≠ pendR := by rintro rfl; rw [hn] at hr; cases hr
 intro hd hal next Q hnx
 unfold Oper.wp
 rw [run_head hT hk ho H.heap H.ptr H.val H.cells H.one (by have := H.le; have := H.fit; have := H.hi; omega)]
 show next (a.put o.dst undef) _
 have hrs : ∀ q' y', (s.after o.dst ⟨.dead, [(pendR, some (pendOf q i j))], false, [.of pendR], [], none, [q], [pendR], true⟩).roots q' = some y' → (q' = pendR ∧ y' = pendOf q i j) ∨ (q' ≠ pendR ∧ s.roots q' = some y') := by
  intro q' y' h
  rw [after_roots rfl] at h
  by_cases hq : q' = pendR
  ·rw [hq] at h ⊢
   simp only [lookU, req_iff.2 rfl, cond_true, Option.some.injEq] at h
   exact .inl ⟨rfl, h.symm⟩
  ·simp only [lookU, req_ne hq, cond_false] at h
   exact .inr ⟨hq, h⟩
 refine hnx _ _ ⟨C.θ, fun q' => if q' = pendR then [.int .i64 (Int.ofNat q.1), .int .i64 (Int.ofNat q.2), .int .i64 (Int.ofNat i), .int .i64 (Int.ofNat j)] else C.ρ q', fun q' => if q' = pendR then noB else C.F q', C.Z, C.S⟩ ⟨w, ?_, ?_⟩
 ·refine R.put hd rfl ⟨R.ext.Z, R.ext.S, R.ext.θ⟩ ⟨?_, ?_, ?_, R.mem.ro, ?_⟩ ?_ (fun _ _ => VRel.dead) R.kept ?_ ?_ ?_ R.zn
  ·intro q' y' h
   rcases hrs q' y' h with ⟨rfl, rfl⟩ | ⟨h1, h2⟩
   ·refine ⟨noB, ?_, fun _ h => h.elim, fun h => by cases h⟩
    simp only [if_true]
    exact ⟨[_], [_, _, _], noB, noB, rfl, fun _ h => h, fun _ h => h, fun _ h => h.elim, rfl, [_], [_, _], noB, noB, rfl, fun _ h => h, fun _ h => h, fun _ h => h.elim, rfl, [_], [_], noB, noB, rfl, fun _ h => h, fun _ h => h, fun _ h => h.elim, rfl, rfl⟩
   ·exact (R.mem.ok q' y' h2).keep rfl rfl rfl (if_neg h1) (if_neg h1) (fun _ _ => rfl) (fun _ _ => rfl)
  ·intro r1 r2 x1 x2 h1 h2 hne b' hb1 hb2
   rcases hrs r1 x1 h1 with ⟨rfl, rfl⟩ | ⟨k1, k2⟩
   ·simp only [if_true] at hb1; exact hb1
   ·rcases hrs r2 x2 h2 with ⟨rfl, rfl⟩ | ⟨l1, l2⟩
    ·simp only [if_true] at hb2; exact hb2
    ·simp only [if_neg k1, if_neg l1] at hb1 hb2
     exact R.mem.disj r1 r2 x1 x2 k2 l2 hne b' hb1 hb2
  ·intro r1 x1 b' h1 hb
   rcases hrs r1 x1 h1 with ⟨rfl, rfl⟩ | ⟨k1, k2⟩
   ·simp only [if_true] at hb; exact hb.elim
   ·simp only [if_neg k1] at hb; exact R.mem.apart r1 x1 b' k2 hb
  ·intro r1 x1 h1 p hp y1 hy1
   rcases hrs r1 x1 h1 with ⟨rfl, rfl⟩ | ⟨k1, k2⟩
   ·simp [pendOf, pendK, ptrsOf] at hp
   ·rcases hrs p y1 hy1 with ⟨rfl, rfl⟩ | ⟨l1, l2⟩
    ·have hp1 := R.pins r1 x1 k2 _ hp (Nat.le_refl 1)
     simp only [allowedS, memR, req_iff.2 rfl, Bool.true_or, Bool.not_true, Bool.false_or, Bool.and_eq_true, Bool.not_eq_true'] at hal
     have h1 : s.pins 1 = true := hp1
     rw [hal.2] at h1
     cases h1
    ·exact R.mem.ptr r1 x1 k2 p hp y1 l2
  ·intro av vs hl hh hav
   have hnm : ∀ q' ∈ av.names, ¬ q' = pendR := by
    have := hit_ofs (e := [pendR]) hl hh
    intro q' hq' he; exact this q' hq' (by rw [he]; simp)
   refine leaf_keep (C' := ⟨C.θ, fun q' => if q' = pendR then [.int .i64 (Int.ofNat q.1), .int .i64 (Int.ofNat q.2), .int .i64 (Int.ofNat i), .int .i64 (Int.ofNat j)] else C.ρ q', fun q' => if q' = pendR then noB else C.F q', C.Z, C.S⟩) R.mem (fun q' => q' = pendR) rfl rfl (fun _ _ => rfl) (fun q' h => if_neg h) (fun q' y' h hy' => ?_) (fun _ _ => rfl) hl hnm hav
   rcases hrs q' y' hy' with ⟨h1, _⟩ | ⟨_, h2⟩
   ·exact absurd h1 h
   ·exact h2
  ·intro r1 x1 b' h1 hb
   rcases hrs r1 x1 h1 with ⟨rfl, rfl⟩ | ⟨k1, k2⟩
   ·simp only [if_true] at hb; exact hb.elim
   ·simp only [if_neg k1] at hb; exact R.foot r1 x1 b' k2 hb
  ·intro r1 x1 h1 p hp h2
   rcases hrs r1 x1 h1 with ⟨rfl, rfl⟩ | ⟨k1, k2⟩
   ·simp [pendOf, pendK, ptrsOf] at hp
   ·simp only [St.after, List.any_nil, Bool.or_false]; exact R.pins r1 x1 k2 p hp h2
  ·intro k y1 h1 hm
   rcases hrs _ y1 h1 with ⟨h, _⟩ | ⟨k1, k2⟩
   ·cases h
   ·simp only [if_neg k1]; exact R.parρ k y1 k2 hm
 ·have hpr : (s.after o.dst ⟨.dead, [(pendR, some (pendOf q i j))], false, [.of pendR], [], none, [q], [pendR], true⟩).roots pendR = some (pendOf q i j) := by
   rw [after_roots rfl]; simp only [lookU, req_iff.2 rfl, cond_true]
  unfold Und
  rw [hpr]
  refine ⟨q, i, j, ⟨false, .sl (.sl e), m, d⟩, b, off, d.length, cap, cs, T, v, rfl, ?_, ?_, H.heap, ?_, H.hi, H.hj, by have := H.le; have := H.fit; omega, H.at_, rfl⟩
  ·rw [after_roots rfl]; simp only [lookU, req_ne hqp, cond_false]; exact hr
  ·simp only [if_neg hqp]; exact H.ρ
  ·simp only [if_neg hqp]; exact H.F
theorem upd_one {cs : Array Value} {off : Nat} {v : Value} (h : off < cs.size) : updCells cs off [v] = cs.setIfInBounds off v := by
 apply Array.ext'
 unfold updCells
 rw [Array.toList_setIfInBounds, List.set_eq_take_append_cons_drop]
 simp [h]
theorem pend_head {z : Root} {q r : RName} {q1 q2 : Int} {i1 i2 : Int} {i j : Nat} (h : pendD z.k z.d = some (q1, q2, i1, i2)) (h' : pendD z.k z.d = some (Int.ofNat r.1, Int.ofNat r.2, Int.ofNat i, Int.ofNat j)) (h1 : (Nat.beq q1.toNat q.1 && Nat.beq q2.toNat q.2) = true) :
  r = q ∧ i1 = Int.ofNat i ∧ i2 = Int.ofNat j := by
 rw [h] at h'
 simp only [Option.some.injEq, Prod.mk.injEq] at h'
 obtain ⟨rfl, rfl, rfl, rfl⟩ := h'
 rw [Bool.and_eq_true] at h1
 exact ⟨Prod.ext (Nat.eq_of_beq_eq_true h1.1) (Nat.eq_of_beq_eq_true h1.2), rfl, rfl⟩
theorem swapL_get {α : Type} {i j : Nat} {l : List α} {x y : α} (hi : l[i]? = some x) (hj : l[j]? = some y) (k : Nat) : (swapL i j l)[k]? = if k = i then some y else if k = j then some x else l[k]? := by
 unfold swapL
 rw [hi, hj]
 simp only
 have h1 := (List.getElem?_eq_some_iff.1 hi).1
 have h2 := (List.getElem?_eq_some_iff.1 hj).1
 rw [List.getElem?_set, List.getElem?_set]
 simp only [List.length_set]
 by_cases hk : k = j
 ·subst hk
  rw [if_pos rfl, if_pos h2]
  by_cases hki : k = i
  ·subst hki; rw [if_pos rfl]; rw [hi] at hj; exact hj
  ·rw [if_neg hki, if_pos rfl]
 ·rw [if_neg (Ne.symm hk)]
  by_cases hki : k = i
  ·subst hki; rw [if_pos rfl, if_pos rfl, if_pos h1]
  ·rw [if_neg (Ne.symm hki), if_neg hki, if_neg hk]
theorem swapL_length {α : Type} {i j : Nat} {l : List α} : (swapL i j l).length = l.length := by
 unfold swapL
 split <;> simp
theorem head_second (hT : TysOK P V) {w' : World} (R : Rel w0 M0 n C0 C s a w) {q : RName} {i j : Nat} {e : K} {m : Mask} {d : List (K.sl e).den} {t : TypeId} {x y : Operand} (ho : o.op = .store t x y) (hk : V.k t = some (.sl e))
  (hr : s.roots q = some ⟨false, .sl (.sl e), m, d⟩) (hown : m.isOwn = true) (hlive : m.live = true) (hx : evalAV s.tmps x = .ptr q [.idx i]) (hy : evalAV s.tmps y = .ref q [.idx j]) (hqp : pendR ≠ q)
  {b0 off0 len0 cap0 : Nat} {cs0 : Array Value} {T0 : TypeId} {v0 : Value} (g1 : C.ρ q = [.slice (some ⟨b0, off0, none⟩) len0 cap0]) (g2 : w.heap[b0]? = some (.cells cs0 T0 (0, 0))) (g3 : cs0[off0 + i]? = some v0) (g4 : w' = w.setRow b0 (updCells cs0 (off0 + j) [v0])) :
  Does2 P w0 M0 n C0 s a w' o ⟨.dead, [(pendR, none), (q, some ⟨false, .sl (.sl e), m, swapL i j d⟩)], false, [.at q [.idx 0]], [], none, [q], [pendR, q], true⟩ := by
 obtain ⟨b, off, cap, cs, T, v, G, H⟩ := heads_of R hr hown hlive hx hy
 have h1 := H.ρ
 rw [g1] at h1
 simp only [List.cons.injEq, and_true, Value.slice.injEq, Option.some.injEq, Addr.mk.injEq] at h1
 obtain ⟨⟨rfl, rfl⟩, rfl, rfl⟩ := h1
 have h2 := H.heap
 rw [g2] at h2
 simp only [Option.some.injEq, Obj.cells.injEq, and_true] at h2
 obtain ⟨rfl, rfl⟩ := h2
 have hle := H.le
 have hfit := H.fit
 have hi := H.hi
 have hj := H.hj
 have hlti : off0 + i < cs0.size := by omega
 have hltj : off0 + j < cs0.size := by omega
 have hsz1 : (updCells cs0 (off0 + j) [v0]).size = cs0.size := updCells_size (by simp; omega)
 have hw1 := setRow_heap w b0 cs0 (updCells cs0 (off0 + j) [v0]) T0 _ g2
 rw [← g4] at hw1
 intro hd hal next Q hnx
 unfold Oper.wp
 rw [run_head hT hk ho hw1 H.ptr H.val H.cells H.one (by rw [hsz1]; exact hlti)]
 show next (a.put o.dst undef) _
 have hne : ∀ b', b' ≠ b0 → (w'.setRow b0 (updCells (updCells cs0 (off0 + j) [v0]) (off0 + i) [v])).heap[b']? = w.heap[b']? := fun b' hb' => by
  rw [setRow_other _ _ _ _ hb', g4, setRow_other _ _ _ _ hb']
 have hhere := setRow_heap w' b0 _ (updCells (updCells cs0 (off0 + j) [v0]) (off0 + i) [v]) T0 _ hw1
 have hsize : (w'.setRow b0 (updCells (updCells cs0 (off0 + j) [v0]) (off0 + i) [v])).heap.size = w.heap.size := by rw [g4]; simp [World.setRow]
 have hos : (w'.setRow b0 (updCells (updCells cs0 (off0 + j) [v0]) (off0 + i) [v])).os = w.os := by rw [g4]; rfl
 have htp : (w'.setRow b0 (updCells (updCells cs0 (off0 + j) [v0]) (off0 + i) [v])).tape = w.tape := by rw [g4]; rfl
 have hou : (w'.setRow b0 (updCells (updCells cs0 (off0 + j) [v0]) (off0 + i) [v])).output = w.output := by rw [g4]; rfl
 have hsz2 : (updCells (updCells cs0 (off0 + j) [v0]) (off0 + i) [v]).size = cs0.size := by rw [updCells_size (by rw [hsz1]; simp; omega), hsz1]
 have hcell : ∀ k, k < d.length → (updCells (updCells cs0 (off0 + j) [v0]) (off0 + i) [v])[off0 + k]? = if k = i then some v else if k = j then some v0 else cs0[off0 + k]? := by
  intro k hk
  rw [upd_one (by rw [hsz1]; exact hlti), upd_one hltj, Array.getElem?_setIfInBounds, Array.getElem?_setIfInBounds]
  simp only [Array.size_setIfInBounds]
  by_cases h1 : k = i
  ·subst h1; rw [if_pos rfl, if_pos rfl, if_pos hlti]
  ·rw [if_neg (by omega), if_neg h1]
   by_cases h2 : k = j
   ·subst h2; rw [if_pos rfl, if_pos rfl, if_pos hltj]
   ·rw [if_neg (by omega), if_neg h2]
 generalize w'.setRow b0 (updCells (updCells cs0 (off0 + j) [v0]) (off0 + i) [v]) = w2 at hne hhere hsize hos htp hou ⊢
 generalize updCells (updCells cs0 (off0 + j) [v0]) (off0 + i) [v] = c2 at hhere hsz2 hcell
 have hrs : ∀ q' y', (s.after o.dst ⟨.dead, [(pendR, none), (q, some ⟨false, .sl (.sl e), m, swapL i j d⟩)], false, [.at q [.idx 0]], [], none, [q], [pendR, q], true⟩).roots q' = some y' → (q' = q ∧ y' = ⟨false, .sl (.sl e), m, swapL i j d⟩) ∨ (q' ≠ q ∧ s.roots q' = some y') := by
  intro q' y' h
  rw [after_roots rfl] at h
  by_cases h1 : q' = pendR
  ·rw [h1] at h; simp only [lookU, req_iff.2 rfl, cond_true] at h; cases h
  ·by_cases h2 : q' = q
   ·subst h2
    simp only [lookU, req_ne h1, req_iff.2 rfl, cond_true, cond_false, Option.some.injEq] at h
    exact .inl ⟨rfl, h.symm⟩
   ·simp only [lookU, req_ne h1, req_ne h2, cond_false] at h
    exact .inr ⟨h2, h⟩
 have hap := R.mem.apart q _ b0 hr H.F
 have hZS : ∀ b', C.Z b' ∨ C.S b' → b' ≠ b0 := by rintro b' hb' rfl; exact hb'.elim hap.1 hap.2.1
 have hoth : ∀ q' y', q' ≠ q → s.roots q' = some y' → ∀ b', C.F q' b' → b' ≠ b0 := by
  rintro q' y' h1 h2 b' hb' rfl
  exact R.mem.disj q' q y' _ h2 hr h1 b' hb' H.F
 obtain ⟨xi, hxi⟩ : ∃ x, d[i]? = some x := ⟨_, List.getElem?_eq_getElem hi⟩
 obtain ⟨xj, hxj⟩ : ∃ x, d[j]? = some x := ⟨_, List.getElem?_eq_getElem hj⟩
 have hmem : ∀ x ∈ swapL i j d, x ∈ d := by
  intro x hx
  obtain ⟨k, hk⟩ := List.mem_iff_getElem?.1 hx
  rw [swapL_get hxi hxj] at hk
  split at hk
  ·rw [← hxj] at hk; exact List.mem_of_getElem? hk
  ·split at hk
   ·rw [← hxi] at hk; exact List.mem_of_getElem? hk
   ·exact List.mem_of_getElem? hk
 have hptr : ∀ p ∈ ptrsOf (.sl (.sl e)) (swapL i j d), p ∈ ptrsOf (.sl (.sl e)) d := by
  intro p hp
  simp only [ptrsOf] at hp ⊢
  cases hpl : (K.sl e).plain with
  | true => rw [hpl] at hp; exact hp
  | false =>
   rw [hpl] at hp
   simp only [cond_false, List.mem_flatMap] at hp ⊢
   obtain ⟨x, h1, h2⟩ := hp
   exact ⟨x, hmem x h1, h2⟩
 have hg : m ≠ .gone := by rintro rfl; cases hown
 have hel : ∀ k x, d[k]? = some x → Enc w2 C.θ C.Z C.S (.sl e) m.elem x (sub cs0 (off0 + k) 1) (G k) := fun k x hx =>
  (H.el k x hx).mono (.refl _) (.refl _) (.refl _) (fun b' hb' => hne b' (hb'.elim (fun h => by rintro rfl; exact (H.gs k).2 h) (hZS b'))) (fun _ _ => rfl)
 have hroot : RootOK w2 C q ⟨false, .sl (.sl e), m, swapL i j d⟩ := by
  refine ⟨C.F q, ?_, .refl _, fun h => by cases h⟩
  refine .inr (.inr ⟨hg, b0, off0, cap0, c2, T0, (0, 0), ?_, hhere, by rw [swapL_length]; exact hle, by rw [hsz2]; simpa [K.size] using hfit, ?_, fun k => if k = i then G j else if k = j then G i else G k, fun k => ?_, fun k1 k2 hk => ?_, fun k x hx => ?_⟩)
  ·rw [H.ρ, swapL_length]
  ·cases m <;> first | exact ⟨H.F, rfl⟩ | (simp [Mask.isOwn] at hown; done)
  ·dsimp only
   split
   ·exact H.gs j
   ·split
    ·exact H.gs i
    ·exact H.gs k
  ·have key : ∀ k, (if k = i then G j else if k = j then G i else G k) = G (if k = i then j else if k = j then i else k) := by
    intro k
    split
    ·rfl
    ·split <;> rfl
   simp only [key]
   refine H.dj _ _ (fun h => hk ?_)
   revert h
   split <;> split <;> (try split) <;> (try split) <;> omega
  ·have hk : k < d.length := by have := (List.getElem?_eq_some_iff.1 hx).1; rw [swapL_length] at this; exact this
   rw [swapL_get hxi hxj] at hx
   have hc := hcell k hk
   simp only [K.size, Nat.mul_one]
   by_cases h1 : k = i
   ·rw [if_pos h1] at hx hc ⊢
    rw [sub_one hc]
    cases hx
    have := hel j xj hxj
    rw [sub_one H.at_] at this; exact this
   ·rw [if_neg h1] at hx hc ⊢
    by_cases h2 : k = j
    ·rw [if_pos h2] at hx hc ⊢
     rw [sub_one hc]
     cases hx
     have := hel i xi hxi
     rw [sub_one g3] at this; exact this
    ·rw [if_neg h2] at hx hc ⊢
     have hlt : off0 + k < cs0.size := by omega
     rw [Array.getElem?_eq_getElem hlt] at hc
     rw [sub_one hc, ← sub_one (Array.getElem?_eq_getElem hlt)]
     exact hel k x hx
 have hnp : (s.after o.dst ⟨.dead, [(pendR, none), (q, some ⟨false, .sl (.sl e), m, swapL i j d⟩)], false, [.at q [.idx 0]], [], none, [q], [pendR, q], true⟩).roots pendR = none := by
  rw [after_roots rfl]; simp only [lookU, req_iff.2 rfl, cond_true]
 refine hnx _ _ C (Rel.two (R.put (C' := C) hd rfl R.ext ⟨?_, ?_, ?_, ?_, ?_⟩ ?_ (fun _ _ => VRel.dead) ?_ ?_ ?_ ?_ R.zn) hnp)
 ·intro q' y' h
  rcases hrs q' y' h with ⟨rfl, rfl⟩ | ⟨h1, h2⟩
  ·exact hroot
  ·exact (R.mem.ok q' y' h2).keep rfl rfl rfl rfl rfl (fun _ _ => rfl) (fun b' hb' => hne b' (hb'.elim (hoth q' y' h1 h2 b') (hZS b')))
 ·intro r1 r2 x1 x2 h1 h2 hne
  have e1 : ∃ y, s.roots r1 = some y := by rcases hrs r1 x1 h1 with ⟨rfl, _⟩ | ⟨_, h⟩ <;> exact ⟨_, by assumption⟩
  have e2 : ∃ y, s.roots r2 = some y := by rcases hrs r2 x2 h2 with ⟨rfl, _⟩ | ⟨_, h⟩ <;> exact ⟨_, by assumption⟩
  obtain ⟨y1, k1⟩ := e1
  obtain ⟨y2, k2⟩ := e2
  exact R.mem.disj r1 r2 y1 y2 k1 k2 hne
 ·intro r1 x1 b' h1 hb
  rw [hsize]
  rcases hrs r1 x1 h1 with ⟨rfl, _⟩ | ⟨_, h⟩
  ·exact R.mem.apart r1 _ b' hr hb
  ·exact R.mem.apart r1 x1 b' h hb
 ·intro b' hb'; rw [hsize]; exact R.mem.ro b' hb'
 ·intro r1 x1 h1 p hp y1 hy1
  have e1 : ∃ y, s.roots r1 = some y ∧ p ∈ ptrsOf y.k y.d := by
   rcases hrs r1 x1 h1 with ⟨rfl, rfl⟩ | ⟨_, h⟩
   ·exact ⟨_, hr, hptr p hp⟩
   ·exact ⟨_, h, hp⟩
  obtain ⟨y2, k1, k2⟩ := e1
  rcases hrs p y1 hy1 with ⟨rfl, rfl⟩ | ⟨_, h⟩
  ·have h := R.mem.ptr r1 y2 k1 p k2 _ hr
   exact h
  ·exact R.mem.ptr r1 y2 k1 p k2 y1 h
 ·refine leaf_vw ?_
  intro av vs hvw hl hh hav
  have hh : (Kill.at q [.idx 0]).hits av = false := by
   simpa [killList, hit] using hh
  have hbase : baseOf C q ⟨false, .sl (.sl e), m, d⟩ = none := by unfold baseOf; rw [if_neg (by simp)]
  by_cases hq : q ∈ av.names ∧ ∀ f caps, av ≠ .fn f caps
  ·obtain ⟨hq, hfn⟩ := hq
   have hnew : ∀ y', (s.after o.dst ⟨.dead, [(pendR, none), (q, some ⟨false, .sl (.sl e), m, swapL i j d⟩)], false, [.at q [.idx 0]], [], none, [q], [pendR, q], true⟩).roots q = some y' → y' = ⟨false, .sl (.sl e), m, swapL i j d⟩ := by
    intro y' hy'
    rcases hrs q y' hy' with ⟨_, h⟩ | ⟨h, _⟩
    ·exact h
    ·exact absurd rfl h
   cases av with
   | ptr q' p' =>
    simp only [AV.names, List.mem_singleton] at hq
    subst hq
    obtain ⟨b2, off2, rfl, h0, hr2⟩ := hav
    obtain ⟨k2, cs2, e1, e2, e3⟩ := hr2 _ hr
    exfalso
    cases p' with
    | nil => rw [locv_nil, hbase] at e3; simp at e3
    | cons st p' =>
     cases st with
     | idx k => simp [Kill.hits, req_iff.2 rfl, under, hasIdx] at hh
     | _ => simp [K.at] at e1
   | ref q' p' =>
    simp only [AV.names, List.mem_singleton] at hq
    subst hq
    obtain ⟨v2, rfl, hr2⟩ := hav
    refine ⟨v2, rfl, fun y' hy' => ?_⟩
    rw [hnew y' hy']
    obtain ⟨e2, base2, k1, k2, k3⟩ := hr2 _ hr
    cases p' with
    | nil => rw [locv_nil, hbase] at k3; exact ⟨e2, none, k1, canGet_nil _ _ _, by rw [locv_nil]; simp only [Option.some.injEq, Prod.mk.injEq] at k3 ⊢; exact ⟨k3.1, by unfold baseOf; rw [if_neg (by simp)]⟩⟩
    | cons st p' =>
     exfalso
     cases st with
     | idx k => simp [Kill.hits, req_iff.2 rfl, under] at hh
     | _ => simp [K.at] at k1
   | slc q' p' lo k0 =>
    simp only [AV.names, List.mem_singleton] at hq
    subst hq
    obtain ⟨v2, v3, rfl, hr2⟩ := hav
    refine ⟨v2, v3, rfl, fun y' hy' => ?_⟩
    rw [hnew y' hy']
    obtain ⟨e2, base2, k1, k2, k3, k4⟩ := hr2 _ hr
    cases p' with
    | nil => rw [locv_nil, hbase] at k3; exact ⟨e2, none, k1, canGet_nil _ _ _, by rw [locv_nil]; simp only [Option.some.injEq, Prod.mk.injEq] at k3 ⊢; exact ⟨k3.1, by unfold baseOf; rw [if_neg (by simp)]⟩, k4⟩
    | cons st p' =>
     exfalso
     cases st with
     | idx k => simp [Kill.hits, req_iff.2 rfl, under] at hh
     | _ => simp [K.at] at k1
   | fn f caps => exact absurd rfl (hfn f caps)
   | vw _ _ _ => simp [AV.isVw] at hvw
   | pair _ _ => simp [AV.isLeaf] at hl
   | tcons _ _ => simp [AV.isLeaf] at hl
   | _ => simp [AV.names] at hq
  ·by_cases hfn : ∃ f caps, av = .fn f caps
   ·obtain ⟨f, caps, rfl⟩ := hfn
    refine ⟨hav.1, fun q' hq' y' hy' => ?_⟩
    rcases hrs q' y' hy' with ⟨rfl, rfl⟩ | ⟨_, h3⟩
    ·have h := hav.2 q' hq' _ hr
     exact h
    ·exact hav.2 q' hq' y' h3
   ·have hq2 : q ∉ av.names := fun h => hq ⟨h, fun f caps he => hfn ⟨f, caps, he⟩⟩
    refine leaf_keep (C' := C) R.mem (fun q' => q' = q) rfl rfl (fun _ _ => rfl) (fun _ _ => rfl) ?_ ?_ hl (fun q' hq' h => hq2 (h ▸ hq')) hav
    ·intro q' y' h hy'
     rcases hrs q' y' hy' with ⟨h1, _⟩ | ⟨_, h3⟩
     ·exact absurd h1 h
     ·exact h3
    ·intro b' hb'
     refine hne b' ?_
     rcases hb' with hb' | hb' | ⟨q', y', h, hy', hb'⟩
     ·exact hZS b' (.inl hb')
     ·exact hZS b' (.inr hb')
     ·exact hoth q' y' h hy' b' hb'
 ·refine ⟨hos.trans R.kept.os, htp.trans R.kept.tape, hou.trans R.kept.output, by rw [hsize]; exact R.kept.size, fun b' hb' hm => ?_⟩
  rw [hne b' ?_]; exact R.kept.block b' hb' hm
  rintro rfl
  exact (R.foot q _ b' hr H.F).elim (fun h => by omega) hm
 ·intro r1 x1 b' h1 hb
  rcases hrs r1 x1 h1 with ⟨rfl, _⟩ | ⟨_, h⟩
  ·exact R.foot r1 _ b' hr hb
  ·exact R.foot r1 x1 b' h hb
 ·intro r1 x1 h1 p hp h2
  simp only [St.after, List.any_nil, Bool.or_false]
  rcases hrs r1 x1 h1 with ⟨rfl, rfl⟩ | ⟨_, h⟩
  ·exact R.pins r1 _ hr p (hptr p hp) h2
  ·exact R.pins r1 x1 h p hp h2
 ·intro k y1 h1 hm
  rcases hrs _ y1 h1 with ⟨h, rfl⟩ | ⟨_, h⟩
  ·exact R.parρ k _ (by rw [h]; exact hr) rfl
  ·exact R.parρ k y1 h hm
theorem headStore_mem {o : Oper} {tm : TF} {x : TypeId × RName × Nat × Nat} (h : headStore o tm = some x) : ∃ a b, o.op = .store x.1 a b ∧ evalAV tm a = .ptr x.2.1 [.idx x.2.2.1] ∧ evalAV tm b = .ref x.2.1 [.idx x.2.2.2] := by
 unfold headStore at h
 split at h
 ·rename_i t a b ho
  split at h
  ·rename_i r i r' j e1 e2
   by_cases hr : r = r'
   ·subst hr
    rw [req_iff.2 rfl] at h
    simp only [cond_true, Option.some.injEq] at h
    subst h
    exact ⟨a, b, ho, e1, e2⟩
   ·rw [req_ne hr] at h; simp at h
  ·simp at h
 ·simp at h
theorem calm_op (hT : TysOK P V) (R : Rel w0 M0 n C0 C s a w) (hc : calmOp o = true) (h : denOp V o s.tmps s.roots c = some r) : ∃ x, c x = some r ∧ Calm P C s a w o x := by
 cases ho : o.op with
 | move x => exact calm_move R ho h
 | pick x y z => exact calm_pick R ho h
 | binOp op t x y ty => exact calm_binOp hT R ho h
 | unOp op t x => exact calm_unOp R ho h
 | convert t1 t2 x => exact calm_convert hT R ho h
 | extract x i => exact calm_extract R ho h
 | indexAddr t x i => exact calm_indexAddr hT R ho h
 | _ => simp [calmOp, ho] at hc
theorem Calm.two {x : Del} {w' : World} (R : Rel w0 M0 n C0 C s a w) (hu : Und C s.roots w w') (h : Calm P C s a w o x) : Does2 P w0 M0 n C0 s a w' o x := by
 obtain ⟨v, av, rd, rfl, hr, hv⟩ := h
 intro hd hal next Q hn
 unfold Oper.wp
 rw [hr w']
 exact hn _ _ C ⟨w, R.plain hd hv, by rw [after_plain_roots]; exact hu⟩
theorem does_head (hT : TysOK P V) {w' : World} (R : Rel w0 M0 n C0 C s a w) (hu : Und C s.roots w w') {X : TypeId × RName × Nat × Nat} (hX : headStore o s.tmps = some X) (h : denHead V X s.roots c = some r) : ∃ x, c x = some r ∧ Does2 P w0 M0 n C0 s a w' o x := by
 obtain ⟨xa, xb, ho, e1, e2⟩ := headStore_mem hX
 unfold denHead at h
 split at h
 case h_2 => simp at h
 case h_1 e hk =>
 split at h
 case h_1 => simp at h
 case h_2 y hy =>
 split at h
 case isFalse => simp at h
 case isTrue hyk =>
 obtain ⟨ym, yk, ymask, yd⟩ := y
 dsimp only at hyk
 subst hyk
 cases hb : (ym || !ymask.isOwn || !ymask.live) with
 | true => simp [hb] at h
 | false =>
 rw [hb] at h
 simp only [Bool.or_eq_false_iff, Bool.not_eq_false'] at hb
 obtain ⟨⟨rfl, hown⟩, hlive⟩ := hb
 unfold Und at hu
 split at h
 ·rename_i hn
  rw [hn] at hu
  subst hu
  exact ⟨_, h, head_first hT R ho hk hy hown hlive e1 e2 hn⟩
 ·rename_i z hz
  rw [hz] at hu
  split at h
  case h_2 => simp at h
  case h_1 p hp =>
  obtain ⟨p1, p2, p3, p4⟩ := p
  dsimp only at h
  cases hc : (Nat.beq p1.toNat X.2.1.1 && Nat.beq p2.toNat X.2.1.2) with
  | false => rw [hc] at h; simp at h
  | true =>
  rw [hc] at h
  split at h
  case isFalse => simp at h
  case isTrue hpp =>
  obtain ⟨r0, i0, j0, y0, b, off, len, cap, cs, T, v, g1, g2, g3, g4, g5, g6, g7, g8, g9, g10⟩ := hu
  obtain ⟨rfl, k1, k2⟩ := pend_head hp g1 hc
  rw [hpp.1] at k1
  rw [hpp.2] at k2
  obtain rfl := Int.ofNat.inj k1
  obtain rfl := Int.ofNat.inj k2
  refine ⟨_, h, head_second hT R ho hk hy hown hlive e1 e2 ?_ g3 g4 g9 g10⟩
  intro he
  rw [he, hy] at hz
  cases hz
  cases hp
theorem does_opS_of (hT : TysOK P V) {w' : World} (R2 : Rel2 w0 M0 n C0 C s a w') (hop : ∀ {R : Type} {r : R} {c : Del → Option R}, Rel w0 M0 n C0 C s a w' → denOp V o s.tmps s.roots c = some r → ∃ x, c x = some r ∧ Does P w0 M0 n C0 s a w' o x)
  (h : denOpS V o s.tmps s.roots c = some r) : ∃ x, c x = some r ∧ Does2 P w0 M0 n C0 s a w' o x := by
 obtain ⟨w, R, hu⟩ := R2
 unfold denOpS at h
 split at h
 ·rename_i X hX
  exact does_head hT R hu hX h
 ·cases hc : calmOp o with
  | true =>
   rw [hc, cond_true] at h
   obtain ⟨x, h1, h2⟩ := calm_op hT R hc h
   exact ⟨x, h1, h2.two R hu⟩
  | false =>
   rw [hc, cond_false] at h
   split at h
   case h_2 => simp at h
   case h_1 hn =>
   have hu' := hu
   unfold Und at hu'
   rw [hn] at hu'
   subst hu'
   obtain ⟨x, h1, h2⟩ := hop R h
   split at h1
   case h_2 => simp at h1
   case h_1 hl =>
   refine ⟨x, h1, fun hd hal next Q hnx => h2 hd ?_ next Q (fun a' w'' C' R' => hnx _ _ _ (R'.two ?_))⟩
   ·unfold allowedS at hal
    rw [Bool.and_eq_true] at hal
    exact hal.1
   ·simp only [St.after, hl, hn]
    cases (x.make && Nat.beq pendR.1 (o.dst.getD 0 + 2)) <;> rfl
end
end Go.Abs
