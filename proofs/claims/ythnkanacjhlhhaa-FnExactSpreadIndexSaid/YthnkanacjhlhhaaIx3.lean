/- Part 3 of the proof of FnExactSpreadIndex. -/
import Derived.Sort.OwnSortedInts
import Derived.Shelf.SortG.Plain
import Derived.Shelf.SortG.SortNone
import Derived.Ground.SlgnProg
import Derived.Test.YthnkanacjhlhhaaProg
import Derived.Test.YthnkanacjhlhhaaIx2
namespace Go.Abs
def selN (h : Nat) : Nat → List Nat → Nat
  | _, [] => 0
  | i, x :: l => cond (h.testBit i) x 0 ^^^ selN h (i + 1) l
theorem selN_none {h : Nat} : ∀ (l : List Nat) (i : Nat), (∀ q, i ≤ q → h.testBit q = false) → selN h i l = 0 := by
  intro l
  induction l with
  | nil => intro i _; rfl
  | cons x l ih =>
    intro i hq
    simp only [selN]
    rw [hq i (Nat.le_refl i), ih (i + 1) fun q h => hq q (by omega), cond_false, Nat.xor_self]
theorem selN_zero (l : List Nat) (i : Nat) : selN 0 i l = 0 := selN_none l i fun q _ => Nat.zero_testBit q
theorem xor_four (x a b : Nat) : a ^^^ b = (x ^^^ a) ^^^ (x ^^^ b) := by
  rw [Nat.xor_comm x a, Nat.xor_assoc, ← Nat.xor_assoc x x b, Nat.xor_self, Nat.zero_xor]
theorem selN_xor (a b : Nat) : ∀ (l : List Nat) (i : Nat), selN (a ^^^ b) i l = selN a i l ^^^ selN b i l := by
  intro l
  induction l with
  | nil => intro i; exact (Nat.xor_self 0).symm
  | cons x l ih =>
    intro i
    simp only [selN]
    rw [ih, Nat.testBit_xor]
    cases a.testBit i <;> cases b.testBit i
    · simp only [Bool.xor_false, cond_false, Nat.zero_xor]
    · simp only [Bool.false_xor, cond_true, cond_false, Nat.zero_xor]
      rw [Nat.xor_comm, Nat.xor_assoc, Nat.xor_comm (selN b (i + 1) l)]
    · simp only [Bool.xor_false, cond_true, cond_false, Nat.zero_xor]
      rw [Nat.xor_assoc]
    · simp only [Bool.xor_self, cond_true, cond_false, Nat.zero_xor]
      exact xor_four x _ _
theorem selN_pow : ∀ (l : List Nat) (i j : Nat) {x : Nat}, l[j]? = some x → selN (2 ^ (i + j)) i l = x := by
  intro l
  induction l with
  | nil => intro i j x h; simp at h
  | cons y l ih =>
    intro i j x h
    simp only [selN]
    cases j with
    | zero =>
      simp only [List.getElem?_cons_zero, Option.some.injEq] at h
      subst h
      rw [Nat.add_zero, Nat.testBit_two_pow_self, cond_true, selN_none l (i + 1) fun q hq => by rw [Nat.testBit_two_pow]; exact decide_eq_false (by omega), Nat.xor_zero]
    | succ j =>
      simp only [List.getElem?_cons_succ] at h
      rw [Nat.testBit_two_pow, decide_eq_false (by omega), cond_false, Nat.zero_xor, show i + (j + 1) = i + 1 + j by omega]
      exact ih (i + 1) j h
theorem selN_Sp (h : Nat) (l' : List Nat) : ∀ (l : List Nat) (i : Nat), (∀ x ∈ l, x ∈ l') → Sp l' (selN h i l) := by
  intro l
  induction l with
  | nil => intro i _; exact .zero
  | cons x l ih =>
    intro i hs
    simp only [selN]
    have h1 := ih (i + 1) fun y hy => hs y (.tail _ hy)
    cases h.testBit i
    · rw [cond_false, Nat.zero_xor]; exact h1
    · exact .add (hs x (.head _)) h1
theorem timesL_sel {a b : Nat} (ha : a < 2 ^ 63) (hb : b ≤ 62) : ∀ (ns : List Nat) (i acc : Nat), i + ns.length ≤ 64 → acc < 2 ^ b → (∀ n ∈ ns, n < 2 ^ b) →
    foldE (β := Int) (fun (i : Nat) acc x => .inl (cond (bitAt (a : Int) (i : Int)) (ixor .i64 acc x) acc)) id i (acc : Int) (up ns) = ((acc ^^^ selN a i ns : Nat) : Int) := by
  intro ns
  have hp := pow_le hb
  induction ns with
  | nil => intro i acc _ _ _; simp [selN, foldE, up]
  | cons n ns ih =>
    intro i acc hi hacc hn
    simp only [List.length_cons] at hi
    have h1 := hn n (.head _)
    show foldE _ id (i + 1) (cond (bitAt (a : Int) (i : Int)) (ixor .i64 (acc : Int) (n : Int)) (acc : Int)) (up ns) = _
    rw [bitAt_nat ha (by omega)]
    simp only [selN]
    cases a.testBit i
    · rw [cond_false, cond_false, Nat.zero_xor]
      exact ih (i + 1) acc (by omega) hacc fun x hx => hn x (.tail _ hx)
    · rw [cond_true, cond_true, ixor_nat (by omega) (by omega), ih (i + 1) (acc ^^^ n) (by omega) (Nat.xor_lt_two_pow hacc h1) fun x hx => hn x (.tail _ hx), Nat.xor_assoc]
theorem timesL_eq {a b : Nat} {ns : List Nat} (ha : a < 2 ^ 63) (hb : b ≤ 62) (hl : ns.length ≤ 64) (hn : ∀ n ∈ ns, n < 2 ^ b) : timesL (a : Int) (up ns) = ((selN a 0 ns : Nat) : Int) := by
  have := timesL_sel ha hb ns 0 0 (by omega) (Nat.two_pow_pos b) hn
  rw [Nat.zero_xor] at this
  exact this
structure Heads (N : Nat) (S : List Nat) : Prop where
  len : S.length = N
  head : ∀ i x, S[i]? = some x → x &&& (2 ^ N - 1) = 2 ^ i
theorem Heads.bit {N : Nat} {S : List Nat} (h : Heads N S) {i x q : Nat} (hx : S[i]? = some x) (hq : q < N) : x.testBit q = decide (i = q) := by
  have := congrArg (·.testBit q) (h.head i x hx)
  simpa [Nat.testBit_and, Nat.testBit_two_pow_sub_one, Nat.testBit_two_pow, hq] using this
theorem Heads.back {N : Nat} {S : List Nat} (h : Heads N S) {v : Nat} (hv : Sp S v) : selN (v &&& (2 ^ N - 1)) 0 S = v := by
  induction hv with
  | zero => rw [Nat.zero_and, selN_zero]
  | add hr _ ih =>
    obtain ⟨i, hi⟩ := List.getElem?_of_mem hr
    rw [Nat.and_xor_distrib_right, selN_xor, ih, h.head i _ hi]
    have := selN_pow S 0 i hi
    rw [Nat.zero_add] at this
    rw [this]
theorem sorted_len : ∀ (l : List (Nat × Nat)) (lo b : Nat), (l.Pairwise fun a b => a.1 < b.1) → (∀ a ∈ l, lo ≤ a.1 ∧ a.1 < b) → l.length ≤ b - lo := by
  intro l
  induction l with
  | nil => intro lo b _ _; exact Nat.zero_le _
  | cons a l ih =>
    intro lo b h hb
    obtain ⟨h1, h2⟩ := List.pairwise_cons.1 h
    have := ih (a.1 + 1) b h2 fun x hx => ⟨h1 x hx, (hb x (.tail _ hx)).2⟩
    have h0 := hb a (.head _)
    simp only [List.length_cons]
    omega
theorem sorted_range : ∀ (l : List (Nat × Nat)) (lo : Nat), (l.Pairwise fun a b => a.1 < b.1) → (∀ a ∈ l, lo ≤ a.1 ∧ a.1 < lo + l.length) → ∀ (i : Nat) (a : Nat × Nat), l[i]? = some a → a.1 = lo + i := by
  intro l
  induction l with
  | nil => intro lo _ _ i a h; simp at h
  | cons b l ih =>
    intro lo h hb i a ha
    obtain ⟨h1, h2⟩ := List.pairwise_cons.1 h
    simp only [List.length_cons] at hb
    have h0 := hb b (.head _)
    have hl := sorted_len l (b.1 + 1) (lo + (l.length + 1)) h2 fun x hx => ⟨h1 x hx, (hb x (.tail _ hx)).2⟩
    have hb0 : b.1 = lo := by omega
    cases i with
    | zero => simp only [List.getElem?_cons_zero, Option.some.injEq] at ha; subst ha; exact hb0
    | succ i =>
      simp only [List.getElem?_cons_succ] at ha
      rw [ih (lo + 1) h2 (fun x hx => ⟨by have := h1 x hx; omega, by have := (hb x (.tail _ hx)).2; omega⟩) i a ha]
      omega
theorem Heads.ech {N : Nat} {S : List Nat} (h : Heads N S) : IsEch S S := by
  refine ⟨(List.range N).zip S, N, ⟨fun a ha => ?_, ?_⟩, ?_, fun v => Iff.rfl⟩
  · obtain ⟨i, hi⟩ := List.getElem?_of_mem ha
    rw [List.getElem?_zip_eq_some] at hi
    obtain ⟨h1, h2⟩ := hi
    have hiN : i < N := by have := (List.getElem?_eq_some_iff.1 h1).1; simpa using this
    rw [List.getElem?_range hiN, Option.some.injEq] at h1
    refine ⟨by omega, by rw [h.bit h2 (by omega)]; exact decide_eq_true h1, fun q hq => by rw [h.bit h2 (by omega)]; exact decide_eq_false (by omega)⟩
  · rw [List.pairwise_iff_getElem]
    intro i j hi hj hij
    simp only [List.length_zip, List.length_range, h.len, Nat.min_self] at hi hj
    simp only [List.getElem_zip, List.getElem_range]
    refine ⟨hij, ?_⟩
    rw [h.bit (List.getElem?_eq_getElem (by have := h.len; omega)) hj]
    exact decide_eq_false (by omega)
  · exact List.map_snd_zip (by simp [h.len])
theorem IsEch.heads {N : Nat} {rows E A : List Nat} (h : IsEch rows E) (hA : IsEch (rows.map (· &&& (2 ^ N - 1))) A) (hE : E.length = N) (hAl : A.length = N) : Heads N E := by
  obtain ⟨P, c, hr, rfl, hs⟩ := h
  rw [List.length_map] at hE
  have hlow : ∀ a ∈ P, a.1 < N := by
    intro a ha
    refine Decidable.byContradiction fun hn => ?_
    have hz : ∀ q, q < N → a.2.testBit q = false := fun q hq => (hr.1 a ha).2.2 q (by omega)
    have hza : a.2 &&& (2 ^ N - 1) = 0 := by
      refine Nat.eq_of_testBit_eq fun q => ?_
      rw [Nat.testBit_and, Nat.testBit_two_pow_sub_one, Nat.zero_testBit]
      by_cases hq : q < N
      · rw [hz q hq]; rfl
      · simp [hq]
    have hA2 : IsEch (((P.erase a).map (·.2)).map (· &&& (2 ^ N - 1))) A := by
      obtain ⟨Q, d, h1, h2, h3⟩ := hA
      refine ⟨Q, d, h1, h2, fun v => Iff.trans ⟨fun hv => ?_, fun hv => ?_⟩ (h3 v)⟩
      · refine Sp.trans (fun x hx => ?_) hv
        obtain ⟨y, hy, rfl⟩ := List.mem_map.1 hx
        obtain ⟨b, hb, rfl⟩ := List.mem_map.1 hy
        have := ((hs b.2).2 (Sp.mem (List.mem_map.2 ⟨b, List.mem_of_mem_erase hb, rfl⟩))).map (f := (· &&& (2 ^ N - 1))) (Nat.zero_and _) (fun a b => Nat.and_xor_distrib_right)
        exact this
      · have key : ∀ w, Sp (P.map (·.2)) w → Sp (((P.erase a).map (·.2)).map (· &&& (2 ^ N - 1))) (w &&& (2 ^ N - 1)) := by
          intro w hw
          induction hw with
          | zero => rw [Nat.zero_and]; exact .zero
          | add hx _ ih =>
            obtain ⟨b, hb, rfl⟩ := List.mem_map.1 hx
            rw [Nat.and_xor_distrib_right]
            by_cases hba : b = a
            · rw [hba, hza, Nat.zero_xor]; exact ih
            · exact .add (List.mem_map.2 ⟨b.2, List.mem_map.2 ⟨b, (List.mem_erase_of_ne hba).2 hb, rfl⟩, rfl⟩) ih
        refine Sp.trans (fun x hx => ?_) hv
        obtain ⟨r, hr2, rfl⟩ := List.mem_map.1 hx
        exact key r ((hs r).1 (Sp.mem hr2))
    have := hA2.le
    rw [List.length_map, List.length_map, List.length_erase_of_mem ha] at this
    have := List.length_pos_of_mem ha
    omega
  have hsort := hr.2.imp (S := fun a b : Nat × Nat => a.1 < b.1) fun h => h.1
  have hat := sorted_range P 0 hsort fun a ha => ⟨Nat.zero_le _, by have := hlow a ha; omega⟩
  refine ⟨by rw [List.length_map]; exact hE, fun i x hx => ?_⟩
  rw [List.getElem?_map] at hx
  obtain ⟨a, ha, rfl⟩ := Option.map_eq_some_iff.1 hx
  have hai := hat i a ha
  have ham := List.mem_of_getElem? ha
  have hiN := hlow a ham
  refine Nat.eq_of_testBit_eq fun q => ?_
  rw [Nat.testBit_and, Nat.testBit_two_pow_sub_one, Nat.testBit_two_pow]
  by_cases hq : q < N
  · obtain ⟨b, hb⟩ : ∃ b, P[q]? = some b := ⟨_, List.getElem?_eq_getElem (by omega)⟩
    have hbq := hat q b hb
    by_cases hiq : i = q
    · subst hiq
      have := (hr.1 a ham).2.1
      rw [show a.1 = i by omega] at this
      simp [this, hq]
    · have := hr.apart ham (List.mem_of_getElem? hb) (by omega)
      rw [show b.1 = q by omega] at this
      simp [this, hiq]
  · have : i ≠ q := by omega
    simp [hq, this]
end Go.Abs

namespace Go.Abs
end Go.Abs

namespace Go.Abs
open Go.Sort
def sortI (zs : List Int) : List Int := zs.mergeSort fun x y => decide (x ≤ y)
theorem sortI_len (zs : List Int) : (sortI zs).length = zs.length := List.length_mergeSort zs
noncomputable def sortCtr : Ctr := ⟨[0], fun ci => asCons ci.args fun a l => asEnd l <| asRef (0, 0) [] a <| asCons ci.roots fun r l => asEnd l <| asRt false (.sl (.int .i64)) r fun m d => asM .own m <|
  .ite (List.length d < 4611686018427387904) <| .ret ⟨.tnil, [⟨false, .sl (.int .i64), .own, sortI d⟩], []⟩, false⟩
def SortWalk (P : Program) (f : FuncId) : Prop :=
  ∀ (blk off cap : Nat) (zs : List Int) (w : World), Holds (Value.int .i64) w blk off zs.toArray → blk < w.heap.size → zs.length < 4611686018427387904 →
    Calls P f #[.slice (some ⟨blk, off, none⟩) zs.length cap] w fun e w' => e = .returned (.tuple #[]) ∧ ∃ n os, w' = grow (putRow (Value.int .i64) (Sort.ahead w n) blk off (sortI zs).toArray) os
def SortNone (P : Program) (f : FuncId) : Prop :=
  ∀ (a : Option Addr) (w : World), Calls P f #[.slice a 0 0] w fun e w' => e = .returned (.tuple #[]) ∧ w' = w
theorem sort_ok {P : Program} {Γ : Glb} {f : FuncId} (h : SortWalk P f) (h0 : SortNone P f) : Contract P Γ f sortCtr := by
  intro w C ci co vals hM hptr hsz hvals _ hG
  obtain ⟨av, rs⟩ := ci
  simp only at hM hptr hsz hvals
  have g0 : (asCons av fun a l => asEnd l <| asRef (0, 0) [] a <| asCons rs fun r l => asEnd l <| asRt false (.sl (.int .i64)) r fun m d => asM .own m <|
    .ite (List.length d < 4611686018427387904) <| (.ret ⟨.tnil, [⟨false, .sl (.int .i64), .own, sortI d⟩], []⟩ : Tre CallOut)).run some = some co := hG
  clear hG
  obtain ⟨a, l, e1, g1⟩ := asCons_spec g0
  obtain ⟨e2, g2⟩ := asEnd_spec g1
  obtain ⟨e3, g3⟩ := asRef_spec g2
  obtain ⟨x, l', e4, g4⟩ := asCons_spec g3
  obtain ⟨e5, g5⟩ := asEnd_spec g4
  obtain ⟨m, d, e6, g6⟩ := asRt_spec g5
  obtain ⟨e7, hG⟩ := asM_spec g6
  clear g0 g1 g2 g3 g4 g5 g6
  subst e2 e3 e1 e5 e7 e6 e4
  rw [Tre.run_ite] at hG
  split at hG
  case isFalse => cases hG
  case isTrue hlen =>
  cases hG
  have hx : rsIn [⟨false, .sl (.int .i64), .own, d⟩] (par 0) = some ⟨false, .sl (.int .i64), .own, d⟩ := rfl
  have hone : ∀ {y : Root} {q : RName} {z : Root}, rsOut ⟨.tnil, [y], []⟩ q = some z → q = par 0 ∧ z = y := by
    rintro y ⟨a, b⟩ z hz
    match a, b, hz with
    | 0, 0, hz => exact ⟨rfl, (Option.some.inj hz).symm⟩
    | 0, b + 1, hz => cases hz
    | 1, b, hz => cases hz
    | a + 2, _, hz => cases hz
  obtain ⟨G0, he, hG0, _⟩ := hM.ok _ _ hx
  have he : Enc w C.θ C.Z C.S (.sl (.int .i64)) .own d (C.ρ (par 0)) G0 := he
  obtain ⟨v0, hv0⟩ : ∃ v, vals[0]? = some v := ⟨_, Array.getElem?_eq_getElem (by rw [hsz]; simp)⟩
  have ha0 := hvals 0 v0 _ hv0 rfl
  obtain ⟨hA, hcl⟩ := ha0.cell (by simp) rfl (by simp) (by simp)
  have hvv : C.ρ (par 0) = [v0] := by
    obtain ⟨v', h1, h2⟩ := hA
    simp only [List.cons.injEq, and_true] at h1
    subst h1
    obtain ⟨_, _, _, _, h3⟩ := h2 _ hx
    rw [locv_nil] at h3
    simp only [Option.some.injEq, Prod.mk.injEq] at h3
    exact h3.1
  have hvals1 : vals = #[v0] := by
    apply Array.ext
    · exact hsz
    · intro k hk1 hk2
      have hk : k = 0 := by have : k < 1 := hk2; omega
      subst hk
      rw [Array.getElem?_eq_getElem (by omega)] at hv0
      exact Option.some.inj hv0
  have hlt : ∀ b, C.F (par 0) b → b < w.heap.size ∧ ¬ C.Z b ∧ ¬ C.S b := fun b hb => by have := hM.apart _ _ b hx hb; exact ⟨this.2.2, this.1, this.2.1⟩
  -- memory behind the call
  have post : ∀ (w' : World), w'.os = w.os → w'.tape = w.tape → w'.output = w.output → w.heap.size ≤ w'.heap.size → (∀ b, b < w.heap.size → ¬ G0 b → w'.heap[b]? = w.heap[b]?) →
      Enc w' C.θ C.Z C.S (.sl (.int .i64)) .own (sortI d) [v0] G0 → ∃ C', CallPost w C ⟨[.ref (0, 0) []], [⟨false, .sl (.int .i64), .own, d⟩]⟩ ⟨.tnil, [⟨false, .sl (.int .i64), .own, sortI d⟩], []⟩ (.tuple #[]) w' C' ∧ (false = true → SoftPost w C ⟨[.ref (0, 0) []], [⟨false, .sl (.int .i64), .own, d⟩]⟩ ⟨.tnil, [⟨false, .sl (.int .i64), .own, sortI d⟩], []⟩ w' C') := by
    intro w' q1 q2 q3 q4 q5 hE
    refine ⟨C, ⟨.refl _, rfl, fun _ => rfl, ⟨fun q z hz => ?_, fun q q' z z' hz hz' hne => ?_, fun q z b hz hb => ?_, fun b hb => Nat.lt_of_lt_of_le (hM.ro b hb) q4, fun q z hz p hp => ?_⟩, .inr ⟨[], rfl, rfl⟩, fun _ _ _ _ => rfl, ⟨q1, q2, q3, q4, fun b hb hn => q5 b hb fun hg => hn ⟨0, _, rfl, hG0 b hg⟩⟩, fun q z b hz hb => ?_, fun b hb => .inl hb⟩, fun h => nomatch h⟩
    · obtain ⟨rfl, rfl⟩ := hone hz
      exact ⟨G0, by rw [hvv]; exact hE, hG0, fun h => by cases h⟩
    · obtain ⟨rfl, _⟩ := hone hz
      obtain ⟨rfl, _⟩ := hone hz'
      exact absurd rfl hne
    · obtain ⟨rfl, _⟩ := hone hz
      obtain ⟨h1, h2, h3⟩ := hlt b hb
      exact ⟨h2, h3, Nat.lt_of_lt_of_le h1 q4⟩
    · obtain ⟨rfl, rfl⟩ := hone hz
      have hp' : p ∈ ptrsOf (.sl (.int .i64)) (sortI d) := hp
      rw [ptrsOf_plain (k := .sl (.int .i64)) (sortI d) rfl] at hp'
      cases hp'
    · obtain ⟨rfl, _⟩ := hone hz
      exact .inr ⟨0, _, rfl, hb⟩
  rw [hvv] at he
  rw [hvals1]
  rcases he with ⟨hg, _⟩ | ⟨_, hd, a, hv⟩ | ⟨_, b, off, cap, c, T, fz, hv, hc, hle, hs, hok, Gs, hGs, hdj, hel⟩
  · cases hg
  · simp only [List.cons.injEq, and_true] at hv
    subst hv
    refine (h0 a w).mono fun e' w' he => ?_
    obtain ⟨rfl, rfl⟩ := he
    refine post w' rfl rfl rfl (Nat.le_refl _) (fun _ _ _ => rfl) (.inr (.inl ⟨by simp, ?_, a, rfl⟩))
    rw [hd]
    exact List.eq_nil_of_length_eq_zero (sortI_len [])
  · simp only [List.cons.injEq, and_true] at hv
    subst hv
    have hGb : G0 b ∧ fz = (0, 0) := hok
    obtain ⟨hGb, rfl⟩ := hGb
    have hbl := (hlt b (hG0 b hGb)).1
    have hs1 : off + cap ≤ c.size := by simpa [K.size] using hs
    have hH : Holds (Value.int .i64) w b off (List.toArray d) := by
      intro j hj
      have hj' : j < List.length d := by simpa using hj
      have hx := hel j _ (List.getElem?_eq_getElem hj')
      have hx : sub c (off + j * 1) 1 = [.int .i64 d[j]] := hx
      rw [Nat.mul_one] at hx
      have hcj : c[off + j]? = some (.int .i64 d[j]) := by
        have := congrArg (·[0]?) hx
        simp only [sub, List.getElem?_take_of_lt (show 0 < 1 by omega), List.getElem?_drop, Nat.add_zero, List.getElem?_cons_zero, Array.getElem?_toList] at this
        exact this
      refine ⟨?_, by simp [World.frozen?, hc]⟩
      simp only [World.cell?, hc]
      simp only [Option.isSome_none, Bool.false_eq_true, if_false]
      rw [hcj]
      simp [hj']
    refine (h b off cap d w hH hbl hlen).mono fun e' w' he => ?_
    obtain ⟨rfl, n, os, rfl⟩ := he
    have hb' : (grow (putRow (Value.int .i64) (Sort.ahead w n) b off (sortI d).toArray) os).heap[b]? = some (.cells (putCells (Value.int .i64) off (sortI d).toArray c) T (0, 0)) := by
      rw [heap_grow_old _ _ (by simpa [putRow, mapBlock, Sort.ahead] using hbl)]
      simp [putRow, mapBlock, Sort.ahead, Array.getElem?_modify, hc, onCells]
    refine post _ rfl rfl rfl (by simp [grow, putRow, mapBlock, Sort.ahead]) (fun b2 hb2 hn => ?_) (.inr (.inr ⟨by simp, b, off, cap, _, T, (0, 0), by rw [sortI_len], hb', by rw [sortI_len]; exact hle, ?_, ⟨hGb, rfl⟩, fun _ => noB, fun _ => ⟨fun _ h => h.elim, fun h => h⟩, fun _ _ _ _ h => h.elim, fun i x hx => ?_⟩))
    · rw [heap_grow_old _ _ (by simpa [putRow, mapBlock, Sort.ahead] using hb2)]
      have : b ≠ b2 := fun e => hn (by rw [← e]; exact hGb)
      simp [putRow, mapBlock, Sort.ahead, Array.getElem?_modify, this]
    · simpa [putCells] using hs
    · have hi : i < List.length d := by
        have := (List.getElem?_eq_some_iff.1 hx).1
        rwa [sortI_len] at this
      show sub _ (off + i * 1) 1 = [.int .i64 x]
      rw [Nat.mul_one]
      have hlt2 : off + i < c.size := by omega
      have hat : (putCells (Value.int .i64) off (sortI d).toArray c)[off + i]? = some (.int .i64 x) := by
        simp [putCells, hlt2, hi, sortI_len]
        exact (List.getElem?_eq_some_iff.1 hx).2
      unfold sub
      rw [List.drop_eq_getElem_cons (by simpa [putCells] using hlt2), List.take_succ_cons, List.take_zero]
      congr 1
      rw [← Array.getElem?_toList, List.getElem?_eq_getElem (by simpa [putCells] using hlt2)] at hat
      exact Option.some.inj hat
end Go.Abs

namespace Go.Proofs
open Go.Shelf
def Try.sortL_ren : Go.Shelf.Ren := ⟨fun | 53 => 130 | 64 => 119 | 63 => 163 | 78 => 156 | 79 => 157 | 70 => 171 | 71 => 172 | 72 => 173 | 73 => 174 | 74 => 175 | 75 => 176 | 59 => 177 | 76 => 178 | 77 => 179 | 88 => 181 | 89 => 167 | 90 => 168 | 91 => 182 | 92 => 183 | 68 => 158 | 96 => 184 | n => n, fun | 22 => 38 | 23 => 2 | 3 => 3 | 51 => 46 | 0 => 0 | 67 => 137 | 69 => 120 | 4 => 4 | 61 => 130 | 60 => 129 | 44 => 134 | 5 => 5 | 9 => 9 | 75 => 143 | 79 => 147 | 83 => 154 | 84 => 155 | n => n, fun | n => n⟩
theorem Try.sortL : Go.Proofs.SlLaysN.n53 Try.prog Try.sortL_ren := {
  mixed := by kernel_rfl
  f53 := ⟨Try.f130.name, by decide, Try.func130.trans (congrArg some (by kernel_rfl))⟩
  f59 := ⟨Try.f177.name, by decide, Try.func177.trans (congrArg some (by kernel_rfl))⟩
  f63 := ⟨Try.f163.name, by decide, Try.func163.trans (congrArg some (by kernel_rfl))⟩
  f64 := Try.func119.trans (congrArg some (by kernel_rfl))
  f68 := ⟨Try.f158.name, by decide, Try.func158.trans (congrArg some (by kernel_rfl))⟩
  f70 := ⟨Try.f171.name, by decide, Try.func171.trans (congrArg some (by kernel_rfl))⟩
  f71 := ⟨Try.f172.name, by decide, Try.func172.trans (congrArg some (by kernel_rfl))⟩
  f72 := ⟨Try.f173.name, by decide, Try.func173.trans (congrArg some (by kernel_rfl))⟩
  f73 := ⟨Try.f174.name, by decide, Try.func174.trans (congrArg some (by kernel_rfl))⟩
  f74 := ⟨Try.f175.name, by decide, Try.func175.trans (congrArg some (by kernel_rfl))⟩
  f75 := ⟨Try.f176.name, by decide, Try.func176.trans (congrArg some (by kernel_rfl))⟩
  f76 := ⟨Try.f178.name, by decide, Try.func178.trans (congrArg some (by kernel_rfl))⟩
  f77 := ⟨Try.f179.name, by decide, Try.func179.trans (congrArg some (by kernel_rfl))⟩
  f78 := Try.func156.trans (congrArg some (by kernel_rfl))
  f79 := Try.func157.trans (congrArg some (by kernel_rfl))
  f88 := ⟨Try.f181.name, by decide, Try.func181.trans (congrArg some (by kernel_rfl))⟩
  f89 := Try.func167.trans (congrArg some (by kernel_rfl))
  f90 := Try.func168.trans (congrArg some (by kernel_rfl))
  f91 := ⟨Try.f182.name, by decide, Try.func182.trans (congrArg some (by kernel_rfl))⟩
  f92 := ⟨Try.f183.name, by decide, Try.func183.trans (congrArg some (by kernel_rfl))⟩
  f96 := ⟨Try.f184.name, by decide, Try.func184.trans (congrArg some (by kernel_rfl))⟩
  t0 := Try.underlying0
  a0 := Try.isAgg0
  z0 := Try.sizeOf0
  v0 := Try.zeroValue0
  t3 := Try.underlying3
  a3 := Try.isAgg3
  z3 := Try.sizeOf3
  v3 := Try.zeroValue3
  t4 := Try.underlying4
  a4 := Try.isAgg4
  z4 := Try.sizeOf4
  v4 := Try.zeroValue4
  t5 := Try.underlying5
  a5 := Try.isAgg5
  z5 := Try.sizeOf5
  v5 := Try.zeroValue5
  t9 := Try.underlying9
  a9 := Try.isAgg9
  z9 := Try.sizeOf9
  v9 := Try.zeroValue9
  t22 := Try.underlying38
  a22 := Try.isAgg38
  z22 := Try.sizeOf38
  v22 := Try.zeroValue38
  t23 := Try.underlying2
  a23 := Try.isAgg2
  z23 := Try.sizeOf2
  v23 := Try.zeroValue2
  t44 := Try.underlying134
  a44 := Try.isAgg134
  z44 := Try.sizeOf134
  v44 := Try.zeroValue134
  t51 := Try.underlying46
  a51 := Try.isAgg46
  z51 := Try.sizeOf46
  v51 := Try.zeroValue46
  t60 := Try.underlying129
  a60 := Try.isAgg129
  z60 := Try.sizeOf129
  v60 := Try.zeroValue129
  t61 := Try.underlying130
  a61 := Try.isAgg130
  z61 := Try.sizeOf130
  v61 := Try.zeroValue130
  t67 := Try.underlying137
  a67 := Try.isAgg137
  z67 := Try.sizeOf137
  v67 := Try.zeroValue137
  t69 := Try.underlying120
  a69 := Try.isAgg120
  z69 := Try.sizeOf120
  v69 := Try.zeroValue120
  t75 := Try.underlying143
  a75 := Try.isAgg143
  z75 := Try.sizeOf143
  v75 := Try.zeroValue143
  t79 := Try.underlying147
  a79 := Try.isAgg147
  z79 := Try.sizeOf147
  v79 := Try.zeroValue147
  t83 := Try.underlying154
  a83 := Try.isAgg154
  z83 := Try.sizeOf154
  v83 := Try.zeroValue154
  t84 := Try.underlying155
  a84 := Try.isAgg155
  z84 := Try.sizeOf155
  v84 := Try.zeroValue155 }
end Go.Proofs

namespace Go.Proofs.Ythnkanacjhlhhaa
open Go Go.Abs Go.Proofs
abbrev kField : K := (.pair (.int .i64) (.pair (.int .i64) .unit))
abbrev kMatrix : K := (.pair (.int .i64) (.pair (.sl (.int .i64)) .unit))
abbrev kL00Src : K := (.pair (.sl (.int .u8)) (.pair (.int .i64) (.pair (.int .u64) .unit)))
def tau : List (Nat × TI) := [(40, ⟨kMatrix, 32, 0⟩), (38, ⟨(.sl (.int .i64)), 24, 2⟩), (2, ⟨(.int .i64), 8, 0⟩), (26, ⟨(.sl kMatrix), 24, 40⟩), (3, ⟨(.int .i64), 8, 0⟩), (57, ⟨kMatrix, 32, 0⟩), (101, ⟨(.sl (.int .i64)), 24, 3⟩), (70, ⟨(.sl (.sl (.int .i64))), 24, 38⟩), (22, ⟨(.sl kMatrix), 24, 57⟩), (1, ⟨.fn, 8, 0⟩), (4, ⟨.bool, 1, 0⟩), (5, ⟨(.int .u8), 1, 0⟩), (9, ⟨.str, 16, 0⟩), (12, ⟨(.int .u64), 8, 0⟩), (13, ⟨(.pair .str (.pair (.int .u64) .unit)), 24, 0⟩), (21, ⟨(.int .i32), 4, 0⟩), (23, ⟨.fn, 8, 0⟩), (25, ⟨.fn, 8, 0⟩), (27, ⟨.fn, 8, 0⟩), (28, ⟨.fn, 8, 0⟩), (29, ⟨.fn, 8, 0⟩), (31, ⟨.fn, 8, 0⟩), (32, ⟨.fn, 8, 0⟩), (33, ⟨.fn, 8, 0⟩), (34, ⟨(.sl (.int .u8)), 24, 5⟩), (35, ⟨.fn, 8, 0⟩), (36, ⟨.fn, 8, 0⟩), (37, ⟨.fn, 8, 0⟩), (39, ⟨kMatrix, 32, 0⟩), (41, ⟨.fn, 8, 0⟩), (42, ⟨.fn, 8, 0⟩), (43, ⟨.fn, 8, 0⟩), (45, ⟨.fn, 8, 0⟩), (46, ⟨(.int .u64), 8, 0⟩), (47, ⟨.fn, 8, 0⟩), (48, ⟨.fn, 8, 0⟩), (49, ⟨.fn, 8, 0⟩), (50, ⟨.fn, 8, 0⟩), (51, ⟨.fn, 8, 0⟩), (52, ⟨.fn, 8, 0⟩), (54, ⟨.fn, 8, 0⟩), (55, ⟨.fn, 8, 0⟩), (56, ⟨.fn, 8, 0⟩), (58, ⟨.fn, 8, 0⟩), (59, ⟨.fn, 8, 0⟩), (60, ⟨.fn, 8, 0⟩), (61, ⟨.fn, 8, 0⟩), (62, ⟨.fn, 8, 0⟩), (63, ⟨.fn, 8, 0⟩), (64, ⟨.fn, 8, 0⟩), (65, ⟨kField, 16, 0⟩), (66, ⟨kField, 16, 0⟩), (68, ⟨.fn, 8, 0⟩), (69, ⟨.fn, 8, 0⟩), (71, ⟨.fn, 8, 0⟩), (72, ⟨.fn, 8, 0⟩), (73, ⟨.fn, 8, 0⟩), (74, ⟨.fn, 8, 0⟩), (75, ⟨.fn, 8, 0⟩), (76, ⟨.fn, 8, 0⟩), (77, ⟨.fn, 8, 0⟩), (78, ⟨.fn, 8, 0⟩), (79, ⟨.fn, 8, 0⟩), (80, ⟨.fn, 8, 0⟩), (81, ⟨.fn, 8, 0⟩), (82, ⟨.fn, 8, 0⟩), (83, ⟨.fn, 8, 0⟩), (84, ⟨.fn, 8, 0⟩), (85, ⟨.ptr, 8, 0⟩), (86, ⟨.fn, 8, 0⟩), (87, ⟨.fn, 8, 0⟩), (88, ⟨.ptr, 8, 0⟩), (89, ⟨.fn, 8, 0⟩), (90, ⟨.fn, 8, 0⟩), (91, ⟨.fn, 8, 0⟩), (92, ⟨.fn, 8, 0⟩), (93, ⟨.fn, 8, 0⟩), (94, ⟨.fn, 8, 0⟩), (95, ⟨.fn, 8, 0⟩), (96, ⟨.fn, 8, 0⟩), (97, ⟨.fn, 8, 0⟩), (98, ⟨.fn, 8, 0⟩), (99, ⟨.fn, 8, 0⟩), (100, ⟨.fn, 8, 0⟩), (102, ⟨.fn, 8, 0⟩), (103, ⟨.fn, 8, 0⟩), (104, ⟨.fn, 8, 0⟩), (105, ⟨(.sl kField), 24, 66⟩), (106, ⟨.fn, 8, 0⟩), (107, ⟨.fn, 8, 0⟩), (109, ⟨.fn, 8, 0⟩), (110, ⟨.fn, 8, 0⟩), (111, ⟨.fn, 8, 0⟩), (112, ⟨.fn, 8, 0⟩), (113, ⟨.fn, 8, 0⟩), (114, ⟨.fn, 8, 0⟩), (115, ⟨.fn, 8, 0⟩), (116, ⟨.fn, 8, 0⟩), (117, ⟨.fn, 8, 0⟩), (118, ⟨.fn, 8, 0⟩), (119, ⟨.fn, 8, 0⟩), (120, ⟨(.int .u64), 8, 0⟩), (121, ⟨kL00Src, 40, 0⟩), (122, ⟨kL00Src, 40, 0⟩), (123, ⟨.fn, 8, 0⟩), (124, ⟨.fn, 8, 0⟩), (125, ⟨.fn, 8, 0⟩), (126, ⟨.fn, 8, 0⟩), (127, ⟨.fn, 8, 0⟩), (128, ⟨.fn, 8, 0⟩), (129, ⟨(.int .i64), 8, 0⟩), (131, ⟨.fn, 8, 0⟩), (132, ⟨.fn, 8, 0⟩), (133, ⟨.fn, 8, 0⟩), (135, ⟨.fn, 8, 0⟩), (136, ⟨.fn, 8, 0⟩), (137, ⟨(.int .u32), 4, 0⟩), (138, ⟨.fn, 8, 0⟩), (139, ⟨.fn, 8, 0⟩), (140, ⟨.fn, 8, 0⟩), (141, ⟨.fn, 8, 0⟩), (142, ⟨.fn, 8, 0⟩), (143, ⟨(.int .u64), 8, 0⟩), (144, ⟨.fn, 8, 0⟩), (145, ⟨.fn, 8, 0⟩), (146, ⟨.fn, 8, 0⟩), (147, ⟨.ptr, 8, 0⟩), (148, ⟨.fn, 8, 0⟩), (149, ⟨.fn, 8, 0⟩), (150, ⟨.fn, 8, 0⟩), (151, ⟨.fn, 8, 0⟩), (152, ⟨.fn, 8, 0⟩), (153, ⟨.fn, 8, 0⟩), (154, ⟨.ptr, 8, 0⟩), (156, ⟨.fn, 8, 0⟩), (157, ⟨.fn, 8, 0⟩), (158, ⟨.fn, 8, 0⟩), (159, ⟨.fn, 8, 0⟩), (160, ⟨.fn, 8, 0⟩), (166, ⟨.fn, 8, 0⟩), (169, ⟨.fn, 8, 0⟩), (170, ⟨.ptr, 8, 0⟩)]
set_option maxRecDepth 100000 in
theorem tau_tys {E : List (Nat × Ctr)} {Z : List (Nat × List Frz)} : TysOK Try.prog ⟨tau, E, Z⟩ := tysOK_of (tysB_env (by kernel_rfl)) (by kernel_rfl)
theorem ent7 : Go.Abs.Enters Try.prog 7 := ⟨Try.f7, Try.func7, by kernel_rfl, by kernel_rfl⟩
theorem ent8 : Go.Abs.Enters Try.prog 8 := ⟨Try.f8, Try.func8, by kernel_rfl, by kernel_rfl⟩
theorem ent9 : Go.Abs.Enters Try.prog 9 := ⟨Try.f9, Try.func9, by kernel_rfl, by kernel_rfl⟩
theorem ent10 : Go.Abs.Enters Try.prog 10 := ⟨Try.f10, Try.func10, by kernel_rfl, by kernel_rfl⟩
theorem ent11 : Go.Abs.Enters Try.prog 11 := ⟨Try.f11, Try.func11, by kernel_rfl, by kernel_rfl⟩
theorem ent37 : Go.Abs.Enters Try.prog 37 := ⟨Try.f37, Try.func37, by kernel_rfl, by kernel_rfl⟩
theorem ent38 : Go.Abs.Enters Try.prog 38 := ⟨Try.f38, Try.func38, by kernel_rfl, by kernel_rfl⟩
theorem ent39 : Go.Abs.Enters Try.prog 39 := ⟨Try.f39, Try.func39, by kernel_rfl, by kernel_rfl⟩
theorem ent40 : Go.Abs.Enters Try.prog 40 := ⟨Try.f40, Try.func40, by kernel_rfl, by kernel_rfl⟩
theorem ent41 : Go.Abs.Enters Try.prog 41 := ⟨Try.f41, Try.func41, by kernel_rfl, by kernel_rfl⟩
theorem ent42 : Go.Abs.Enters Try.prog 42 := ⟨Try.f42, Try.func42, by kernel_rfl, by kernel_rfl⟩
theorem ent43 : Go.Abs.Enters Try.prog 43 := ⟨Try.f43, Try.func43, by kernel_rfl, by kernel_rfl⟩
theorem ent44 : Go.Abs.Enters Try.prog 44 := ⟨Try.f44, Try.func44, by kernel_rfl, by kernel_rfl⟩
theorem ent45 : Go.Abs.Enters Try.prog 45 := ⟨Try.f45, Try.func45, by kernel_rfl, by kernel_rfl⟩
theorem ent46 : Go.Abs.Enters Try.prog 46 := ⟨Try.f46, Try.func46, by kernel_rfl, by kernel_rfl⟩
theorem ent47 : Go.Abs.Enters Try.prog 47 := ⟨Try.f47, Try.func47, by kernel_rfl, by kernel_rfl⟩
theorem ent48 : Go.Abs.Enters Try.prog 48 := ⟨Try.f48, Try.func48, by kernel_rfl, by kernel_rfl⟩
theorem ent49 : Go.Abs.Enters Try.prog 49 := ⟨Try.f49, Try.func49, by kernel_rfl, by kernel_rfl⟩
theorem ent56 : Go.Abs.Enters Try.prog 56 := ⟨Try.f56, Try.func56, by kernel_rfl, by kernel_rfl⟩
theorem ent57 : Go.Abs.Enters Try.prog 57 := ⟨Try.f57, Try.func57, by kernel_rfl, by kernel_rfl⟩
theorem ent62 : Go.Abs.Enters Try.prog 62 := ⟨Try.f62, Try.func62, by kernel_rfl, by kernel_rfl⟩
theorem ent67 : Go.Abs.Enters Try.prog 67 := ⟨Try.f67, Try.func67, by kernel_rfl, by kernel_rfl⟩
theorem ent74 : Go.Abs.Enters Try.prog 74 := ⟨Try.f74, Try.func74, by kernel_rfl, by kernel_rfl⟩
theorem ent75 : Go.Abs.Enters Try.prog 75 := ⟨Try.f75, Try.func75, by kernel_rfl, by kernel_rfl⟩
theorem ent76 : Go.Abs.Enters Try.prog 76 := ⟨Try.f76, Try.func76, by kernel_rfl, by kernel_rfl⟩
theorem ent77 : Go.Abs.Enters Try.prog 77 := ⟨Try.f77, Try.func77, by kernel_rfl, by kernel_rfl⟩
theorem ent80 : Go.Abs.Enters Try.prog 80 := ⟨Try.f80, Try.func80, by kernel_rfl, by kernel_rfl⟩
theorem ent92 : Go.Abs.Enters Try.prog 92 := ⟨Try.f92, Try.func92, by kernel_rfl, by kernel_rfl⟩
theorem ent93 : Go.Abs.Enters Try.prog 93 := ⟨Try.f93, Try.func93, by kernel_rfl, by kernel_rfl⟩
theorem ent94 : Go.Abs.Enters Try.prog 94 := ⟨Try.f94, Try.func94, by kernel_rfl, by kernel_rfl⟩
theorem ent95 : Go.Abs.Enters Try.prog 95 := ⟨Try.f95, Try.func95, by kernel_rfl, by kernel_rfl⟩
theorem ent96 : Go.Abs.Enters Try.prog 96 := ⟨Try.f96, Try.func96, by kernel_rfl, by kernel_rfl⟩
theorem ent97 : Go.Abs.Enters Try.prog 97 := ⟨Try.f97, Try.func97, by kernel_rfl, by kernel_rfl⟩
theorem ent98 : Go.Abs.Enters Try.prog 98 := ⟨Try.f98, Try.func98, by kernel_rfl, by kernel_rfl⟩
theorem ent99 : Go.Abs.Enters Try.prog 99 := ⟨Try.f99, Try.func99, by kernel_rfl, by kernel_rfl⟩
theorem ent105 : Go.Abs.Enters Try.prog 105 := ⟨Try.f105, Try.func105, by kernel_rfl, by kernel_rfl⟩
theorem ent106 : Go.Abs.Enters Try.prog 106 := ⟨Try.f106, Try.func106, by kernel_rfl, by kernel_rfl⟩
theorem ent115 : Go.Abs.Enters Try.prog 115 := ⟨Try.f115, Try.func115, by kernel_rfl, by kernel_rfl⟩
theorem ent116 : Go.Abs.Enters Try.prog 116 := ⟨Try.f116, Try.func116, by kernel_rfl, by kernel_rfl⟩
theorem ent117 : Go.Abs.Enters Try.prog 117 := ⟨Try.f117, Try.func117, by kernel_rfl, by kernel_rfl⟩
theorem ent121 : Go.Abs.Enters Try.prog 121 := ⟨Try.f121, Try.func121, by kernel_rfl, by kernel_rfl⟩
theorem ent128 : Go.Abs.Enters Try.prog 128 := ⟨Try.f128, Try.func128, by kernel_rfl, by kernel_rfl⟩
theorem ent129 : Go.Abs.Enters Try.prog 129 := ⟨Try.f129, Try.func129, by kernel_rfl, by kernel_rfl⟩
theorem ent130 : Go.Abs.Enters Try.prog 130 := ⟨Try.f130, Try.func130, by kernel_rfl, by kernel_rfl⟩
theorem ent138 : Go.Abs.Enters Try.prog 138 := ⟨Try.f138, Try.func138, by kernel_rfl, by kernel_rfl⟩
theorem ent139 : Go.Abs.Enters Try.prog 139 := ⟨Try.f139, Try.func139, by kernel_rfl, by kernel_rfl⟩
theorem ent140 : Go.Abs.Enters Try.prog 140 := ⟨Try.f140, Try.func140, by kernel_rfl, by kernel_rfl⟩
theorem ent161 : Go.Abs.Enters Try.prog 161 := ⟨Try.f161, Try.func161, by kernel_rfl, by kernel_rfl⟩
theorem ent162 : Go.Abs.Enters Try.prog 162 := ⟨Try.f162, Try.func162, by kernel_rfl, by kernel_rfl⟩
theorem ent164 : Go.Abs.Enters Try.prog 164 := ⟨Try.f164, Try.func164, by kernel_rfl, by kernel_rfl⟩
abbrev TMatrix := (Int × ((List Int) × Unit))
end Go.Proofs.Ythnkanacjhlhhaa

namespace Go.Proofs.Ythnkanacjhlhhaa
open Go Go.Abs Go.Proofs
noncomputable def l_szInt64S (p0 : (List Int)) (p1 : Int) : Tre Int :=
  let v1 := iwrap .i64 (p1 - (p0.length : Int))
  .cond (decide (v1 < 0))
    (.ret (-1))
    (.ret v1)
noncomputable def l_szInt64S_F (p0 : (List Int)) (p1 : Int) : Option Int := (l_szInt64S p0 p1).run some
def l_szInt64S_S (p0 : (List Int)) (p1 : Int) : Int :=
  let v1 := iwrap .i64 (p1 - (p0.length : Int))
  cond (decide (v1 < 0))
    (-1)
    (v1)
theorem l_szInt64S_spec (p0 : (List Int)) (p1 : Int) : l_szInt64S_F p0 p1 = some (l_szInt64S_S p0 p1) := (run_cond_some rfl rfl)
-- more
noncomputable def l_szInt64S_V : Env := ⟨tau, [], []⟩
noncomputable def l_szInt64S_b : Code := (Try.f92.body).getD .skip
noncomputable def l_szInt64S_I : FnI := ⟨l_szInt64S_b, Try.f92.results.toList, Try.f92.resultTypes.toList, []⟩
noncomputable def l_szInt64S_out (_zp0 : Bool) (_p0 : (List Int)) (_p1 : Int) : Int → CallOut := fun r => ⟨(.imm true (.int .i64) r), [], []⟩
set_option maxRecDepth 100000 in
theorem l_szInt64S_eq : ∀ (zp0 : Bool) (p0 : (List Int)) (p1 : Int), denFn l_szInt64S_V l_szInt64S_I ⟨[(.imm zp0 (.sl (.int .i64)) p0), (.imm true (.int .i64) p1)], []⟩ = (l_szInt64S p0 p1).run fun r => some (l_szInt64S_out zp0 p0 p1 r) := fun _ _ _ => by kernel_rfl
noncomputable def l_szInt64S_G (av : List AV) (rs : List Root) : Tre CallOut :=
  asCons av fun a0_ av0 =>
  asCons av0 fun a1_ av1 =>
  asEnd av1 <|
  asEnd rs <|
  asImm (.sl (.int .i64)) a0_ fun z2 d1 =>
  asImmZ true (.int .i64) a1_ fun d3 =>
  .ret (l_szInt64S_out z2 d1 d3 (l_szInt64S_S d1 d3))
noncomputable def l_szInt64S_c : Ctr := ⟨[], fun ci => l_szInt64S_G ci.args ci.roots, false⟩
theorem l_szInt64S_env : EnvOK Try.prog .none l_szInt64S_V := envOK_nil
set_option maxRecDepth 100000 in
theorem l_szInt64S_ok : Contract Try.prog .none 92 l_szInt64S_c := by
  have hl : LoopsOK l_szInt64S_V [] l_szInt64S_b := loopsOK_nil (by kernel_rfl)
  refine (contract_of (F := l_szInt64S_I) tau_tys l_szInt64S_env Try.func92 (by kernel_rfl) (by kernel_rfl) (by kernel_rfl) hl []).weaken ?_
  rintro ⟨av, rs⟩ co h
  have h : (l_szInt64S_G av rs).run some = some co := h
  obtain ⟨a0_, av0, rfl, h_0⟩ := asCons_spec h
  obtain ⟨a1_, av1, rfl, h_1⟩ := asCons_spec h_0
  obtain ⟨rfl, h_2⟩ := asEnd_spec h_1
  obtain ⟨rfl, h_3⟩ := asEnd_spec h_2
  obtain ⟨z2, d1, rfl, h_4⟩ := asImm_spec h_3
  obtain ⟨d3, rfl, h_5⟩ := asImmZ_spec h_4
  exact fin_ret (l_szInt64S_eq z2 d1 d3) (l_szInt64S_spec d1 d3) h_5
end Go.Proofs.Ythnkanacjhlhhaa

namespace Go.Proofs.Ythnkanacjhlhhaa
open Go Go.Abs Go.Proofs
noncomputable def l_szMatrix (p0 : TMatrix) (p1 : Int) : Tre Int :=
  .cond (decide ((l_szInt64S_S p0.2.1 p1) < 0))
    (.ret (-1))
    (.ret (l_szInt64S_S p0.2.1 p1))
noncomputable def l_szMatrix_F (p0 : TMatrix) (p1 : Int) : Option Int := (l_szMatrix p0 p1).run some
def l_szMatrix_S (p0 : TMatrix) (p1 : Int) : Int :=
  cond (decide ((l_szInt64S_S p0.2.1 p1) < 0))
    (-1)
    ((l_szInt64S_S p0.2.1 p1))
theorem l_szMatrix_spec (p0 : TMatrix) (p1 : Int) : l_szMatrix_F p0 p1 = some (l_szMatrix_S p0 p1) := (run_cond_some rfl rfl)
noncomputable def l_szMatrix_V : Env := ⟨tau, [(92, l_szInt64S_c)], []⟩
noncomputable def l_szMatrix_b : Code := (Try.f37.body).getD .skip
noncomputable def l_szMatrix_I : FnI := ⟨l_szMatrix_b, Try.f37.results.toList, Try.f37.resultTypes.toList, []⟩
noncomputable def l_szMatrix_out (_zp0 : Bool) (_p0 : TMatrix) (_p1 : Int) : Int → CallOut := fun r => ⟨(.imm true (.int .i64) r), [], []⟩
set_option maxRecDepth 100000 in
theorem l_szMatrix_eq : ∀ (zp0 : Bool) (p0 : TMatrix) (p1 : Int), denFn l_szMatrix_V l_szMatrix_I ⟨[(.imm zp0 kMatrix p0), (.imm true (.int .i64) p1)], []⟩ = (l_szMatrix p0 p1).run fun r => some (l_szMatrix_out zp0 p0 p1 r) := fun _ _ _ => by kernel_rfl
noncomputable def l_szMatrix_G (av : List AV) (rs : List Root) : Tre CallOut :=
  asCons av fun a0_ av0 =>
  asCons av0 fun a1_ av1 =>
  asEnd av1 <|
  asEnd rs <|
  asImm kMatrix a0_ fun z2 d1 =>
  asImmZ true (.int .i64) a1_ fun d3 =>
  .ret (l_szMatrix_out z2 d1 d3 (l_szMatrix_S d1 d3))
noncomputable def l_szMatrix_c : Ctr := ⟨[], fun ci => l_szMatrix_G ci.args ci.roots, false⟩
theorem l_szMatrix_env : EnvOK Try.prog .none l_szMatrix_V := (envOK_cons l_szInt64S_ok ent92 envOK_nil)
set_option maxRecDepth 100000 in
theorem l_szMatrix_ok : Contract Try.prog .none 37 l_szMatrix_c := by
  have hl : LoopsOK l_szMatrix_V [] l_szMatrix_b := loopsOK_nil (by kernel_rfl)
  refine (contract_of (F := l_szMatrix_I) tau_tys l_szMatrix_env Try.func37 (by kernel_rfl) (by kernel_rfl) (by kernel_rfl) hl []).weaken ?_
  rintro ⟨av, rs⟩ co h
  have h : (l_szMatrix_G av rs).run some = some co := h
  obtain ⟨a0_, av0, rfl, h_0⟩ := asCons_spec h
  obtain ⟨a1_, av1, rfl, h_1⟩ := asCons_spec h_0
  obtain ⟨rfl, h_2⟩ := asEnd_spec h_1
  obtain ⟨rfl, h_3⟩ := asEnd_spec h_2
  obtain ⟨z2, d1, rfl, h_4⟩ := asImm_spec h_3
  obtain ⟨d3, rfl, h_5⟩ := asImmZ_spec h_4
  exact fin_ret (l_szMatrix_eq z2 d1 d3) (l_szMatrix_spec d1 d3) h_5
end Go.Proofs.Ythnkanacjhlhhaa

namespace Go.Proofs.Ythnkanacjhlhhaa
open Go Go.Abs Go.Proofs
noncomputable def s_l00Own (p0 : (List Int)) : Tre (List Int) :=
  .ite ((0 + p0.length) * 8 ≤ appendMax ∧ 1 ≤ 8) <|
  .ret ([] ++ p0)
noncomputable def s_l00Own_F (p0 : (List Int)) : Option (List Int) := (s_l00Own p0).run some
theorem s_l00Own_spec (p0 : List Int) (y : List Int) (h : cloneR p0 = some y) : s_l00Own_F p0 = some y := by
  obtain ⟨hl, rfl⟩ := lim_some h
  have hb : (0 + p0.length) * 8 ≤ appendMax ∧ 1 ≤ 8 := by unfold appendMax; omega
  unfold s_l00Own_F s_l00Own
  rw [Tre.run_ite, if_pos hb]
  rfl
noncomputable def s_l00Own_V : Env := ⟨tau, [], []⟩
noncomputable def s_l00Own_b : Code := (Try.f105.body).getD .skip
noncomputable def s_l00Own_I : FnI := ⟨s_l00Own_b, Try.f105.results.toList, Try.f105.resultTypes.toList, []⟩
noncomputable def s_l00Own_out (_zp0 : Bool) (_p0 : (List Int)) : (List Int) → CallOut := fun r => ⟨(.ref (1, 0) []), [], [⟨false, (.sl (.int .i64)), .own, r⟩]⟩
set_option maxRecDepth 100000 in
theorem s_l00Own_eq : ∀ (zp0 : Bool) (p0 : (List Int)), denFn s_l00Own_V s_l00Own_I ⟨[(.imm zp0 (.sl (.int .i64)) p0)], []⟩ = (s_l00Own p0).run fun r => some (s_l00Own_out zp0 p0 r) := fun _ _ => by kernel_rfl
noncomputable def s_l00Own_G (av : List AV) (rs : List Root) : Tre CallOut :=
  asCons av fun a0_ av0 =>
  asEnd av0 <|
  asEnd rs <|
  asImm (.sl (.int .i64)) a0_ fun z2 d1 =>
  .mat (cloneR d1) fun r => .ret (s_l00Own_out z2 d1 r)
noncomputable def s_l00Own_c : Ctr := ⟨[], fun ci => s_l00Own_G ci.args ci.roots, false⟩
theorem s_l00Own_env : EnvOK Try.prog .none s_l00Own_V := envOK_nil
set_option maxRecDepth 100000 in
theorem s_l00Own_ok : Contract Try.prog .none 105 s_l00Own_c := by
  have hl : LoopsOK s_l00Own_V [] s_l00Own_b := loopsOK_nil (by kernel_rfl)
  refine (contract_of (F := s_l00Own_I) tau_tys s_l00Own_env Try.func105 (by kernel_rfl) (by kernel_rfl) (by kernel_rfl) hl []).weaken ?_
  rintro ⟨av, rs⟩ co h
  have h : (s_l00Own_G av rs).run some = some co := h
  obtain ⟨a0_, av0, rfl, h_0⟩ := asCons_spec h
  obtain ⟨rfl, h_1⟩ := asEnd_spec h_0
  obtain ⟨rfl, h_2⟩ := asEnd_spec h_1
  obtain ⟨z2, d1, rfl, h_3⟩ := asImm_spec h_2
  exact fin_opt (s_l00Own_eq z2 d1) (s_l00Own_spec d1) h_3
end Go.Proofs.Ythnkanacjhlhhaa

namespace Go.Proofs.Ythnkanacjhlhhaa
open Go Go.Abs Go.Proofs
noncomputable def s_l02Bit (p0 : Int) (p1 : Int) : Tre Int :=
  .ite (0 ≤ iwrap .u64 p1) <|
  let v1 := ishr .i64 p0 (iwrap .u64 p1)
  .ret (iand .i64 v1 1)
noncomputable def s_l02Bit_F (p0 : Int) (p1 : Int) : Option Int := (s_l02Bit p0 p1).run some
def bitR (x j : Int) : Option Int := askO (inR j 0 9223372036854775807) (iand .i64 (ishr .i64 x j) 1)
theorem s_l02Bit_spec (p0 p1 : Int) (y : Int) (h : bitR p0 p1 = some y) : s_l02Bit_F p0 p1 = some y := by
  obtain ⟨hl, rfl⟩ := askO_some h
  rw [inR_iff] at hl
  unfold s_l02Bit_F s_l02Bit
  rw [iwrap_u64 hl.1 (by omega), Tre.run_ite, if_pos hl.1]
  rfl
theorem bitR_nat {x : Int} {j : Nat} (h : j ≤ 1048576) : bitR x (j : Int) = some (iand .i64 (ishr .i64 x j) 1) := askO_true (by rw [inR_iff]; omega)
noncomputable def s_l02Bit_V : Env := ⟨tau, [], []⟩
noncomputable def s_l02Bit_b : Code := (Try.f106.body).getD .skip
noncomputable def s_l02Bit_I : FnI := ⟨s_l02Bit_b, Try.f106.results.toList, Try.f106.resultTypes.toList, []⟩
noncomputable def s_l02Bit_out (_p0 : Int) (_p1 : Int) : Int → CallOut := fun r => ⟨(.imm true (.int .i64) r), [], []⟩
set_option maxRecDepth 100000 in
theorem s_l02Bit_eq : ∀ (p0 : Int) (p1 : Int), denFn s_l02Bit_V s_l02Bit_I ⟨[(.imm true (.int .i64) p0), (.imm true (.int .i64) p1)], []⟩ = (s_l02Bit p0 p1).run fun r => some (s_l02Bit_out p0 p1 r) := fun _ _ => by kernel_rfl
noncomputable def s_l02Bit_G (av : List AV) (rs : List Root) : Tre CallOut :=
  asCons av fun a0_ av0 =>
  asCons av0 fun a1_ av1 =>
  asEnd av1 <|
  asEnd rs <|
  asImmZ true (.int .i64) a0_ fun d1 =>
  asImmZ true (.int .i64) a1_ fun d2 =>
  .mat (bitR d1 d2) fun r => .ret (s_l02Bit_out d1 d2 r)
noncomputable def s_l02Bit_c : Ctr := ⟨[], fun ci => s_l02Bit_G ci.args ci.roots, false⟩
theorem s_l02Bit_env : EnvOK Try.prog .none s_l02Bit_V := envOK_nil
set_option maxRecDepth 100000 in
theorem s_l02Bit_ok : Contract Try.prog .none 106 s_l02Bit_c := by
  have hl : LoopsOK s_l02Bit_V [] s_l02Bit_b := loopsOK_nil (by kernel_rfl)
  refine (contract_of (F := s_l02Bit_I) tau_tys s_l02Bit_env Try.func106 (by kernel_rfl) (by kernel_rfl) (by kernel_rfl) hl []).weaken ?_
  rintro ⟨av, rs⟩ co h
  have h : (s_l02Bit_G av rs).run some = some co := h
  obtain ⟨a0_, av0, rfl, h_0⟩ := asCons_spec h
  obtain ⟨a1_, av1, rfl, h_1⟩ := asCons_spec h_0
  obtain ⟨rfl, h_2⟩ := asEnd_spec h_1
  obtain ⟨rfl, h_3⟩ := asEnd_spec h_2
  obtain ⟨d1, rfl, h_4⟩ := asImmZ_spec h_3
  obtain ⟨d2, rfl, h_5⟩ := asImmZ_spec h_4
  exact fin_opt (s_l02Bit_eq d1 d2) (s_l02Bit_spec d1 d2) h_5
end Go.Proofs.Ythnkanacjhlhhaa

namespace Go.Proofs.Ythnkanacjhlhhaa
open Go Go.Abs Go.Proofs
noncomputable def s_l02Echelon_l8 (h8_0_1 : Int) (h8_0_4 : (List Int)) : (Int × Int) → Tre ((Int × Int) ⊕ Int) := fun s8 =>
  .cond (decide (s8.2 < (h8_0_4.length : Int)))
    (.cond (decide (s8.1 < 0))
      (.ite (0 ≤ s8.2 ∧ s8.2 < (h8_0_4.length : Int)) <|
      .mat (h8_0_4[s8.2.toNat]?) fun x2 =>
      .mat (bitR x2 h8_0_1) fun r3 =>
      .cond (decide (r3 = 1))
        (.ret (.inl (s8.2, iwrap .i64 (s8.2 + 1))))
        (.ret (.inl (s8.1, iwrap .i64 (s8.2 + 1)))))
      (.ret (.inr s8.1)))
    (.ret (.inr s8.1))
noncomputable def s_l02Echelon_l16 (h16_0_1 : Int) (h16_0_2 : Int) : (Int × (List Int)) → Tre ((Int × (List Int)) ⊕ (List Int)) := fun s16 =>
  .cond (decide (s16.1 < (s16.2.length : Int)))
    (.ite (0 ≤ s16.1 ∧ s16.1 < (s16.2.length : Int)) <|
    .mat (s16.2[s16.1.toNat]?) fun x7 =>
    .mat (bitR x7 h16_0_1) fun r8 =>
    .cond (decide (r8 = 1))
      (.ite (0 ≤ s16.1 ∧ s16.1 < (s16.2.length : Int)) <|
      .mat (s16.2[s16.1.toNat]?) fun x9 =>
      .ite (0 ≤ s16.1 ∧ s16.1 < (s16.2.length : Int)) <|
      .mat (s16.2[s16.1.toNat]?) fun _ =>
      let v11 := s16.2.set s16.1.toNat (ixor .i64 x9 h16_0_2)
      .ret (.inl (iwrap .i64 (s16.1 + 1), v11)))
      (.ret (.inl (iwrap .i64 (s16.1 + 1), s16.2))))
    (.ret (.inr s16.2))
noncomputable def s_l02Echelon_l21 (h21_0_1 : Int) (h21_0_2 : Int) : (Int × (List Int)) → Tre ((Int × (List Int)) ⊕ (List Int)) := fun s21 =>
  .cond (decide (s21.1 < (s21.2.length : Int)))
    (.ite (0 ≤ s21.1 ∧ s21.1 < (s21.2.length : Int)) <|
    .mat (s21.2[s21.1.toNat]?) fun x13 =>
    .mat (bitR x13 h21_0_1) fun r14 =>
    .cond (decide (r14 = 1))
      (.ite (0 ≤ s21.1 ∧ s21.1 < (s21.2.length : Int)) <|
      .mat (s21.2[s21.1.toNat]?) fun x15 =>
      .ite (0 ≤ s21.1 ∧ s21.1 < (s21.2.length : Int)) <|
      .mat (s21.2[s21.1.toNat]?) fun _ =>
      let v17 := s21.2.set s21.1.toNat (ixor .i64 x15 h21_0_2)
      .ret (.inl (iwrap .i64 (s21.1 + 1), v17)))
      (.ret (.inl (iwrap .i64 (s21.1 + 1), s21.2))))
    (.ret (.inr s21.2))
noncomputable def s_l02Echelon_l4 (h4_0_0 : Int) : (Int × (List Int) × (List Int)) → Tre ((Int × (List Int) × (List Int)) ⊕ (List Int)) := fun s4 =>
  .cond (decide (s4.1 < h4_0_0))
    (.mat (loopF (s_l02Echelon_l8 s4.1 s4.2.1) (-1, 0)) fun l4 =>
    .cond (decide (l4 < 0))
      (.ret (.inl (iwrap .i64 (s4.1 + 1), s4.2.1, s4.2.2)))
      (.ite (0 ≤ l4 ∧ l4 < (s4.2.1.length : Int)) <|
      .mat (s4.2.1[l4.toNat]?) fun x5 =>
      .ite (0 ≤ l4 ∧ l4 < (s4.2.1.length : Int)) <|
      .mat (s4.2.1[l4.toNat]?) fun _ =>
      .mat (loopF (s_l02Echelon_l16 s4.1 x5) (0, s4.2.1.set l4.toNat 0)) fun l12 =>
      .mat (loopF (s_l02Echelon_l21 s4.1 x5) (0, s4.2.2)) fun l18 =>
      .ite ((l18.length + 1) * 8 ≤ appendMax ∧ 1 ≤ 8) <|
      .ret (.inl (iwrap .i64 (s4.1 + 1), l12, l18 ++ ([x5])))))
    (.ret (.inr s4.2.2))
noncomputable def s_l02Echelon (p0 : Int) (p1 : (List Int)) : Tre (List Int) :=
  .mat (cloneR p1) fun r1 =>
  .mat (loopF (s_l02Echelon_l4 p0) (0, r1, [])) fun l19 =>
  .ret l19
noncomputable def s_l02Echelon_F (p0 : Int) (p1 : (List Int)) : Option (List Int) := (s_l02Echelon p0 p1).run some
noncomputable def echB (m : Int) (xs : List Int) : Option (List Int) := askO (inR m 0 62 && okRows m.toNat xs) (echI xs)
theorem s_l02Echelon_find (c : Nat) (hc : c ≤ 62) (xs : List Int) (hl : xs.length ≤ 1048576) : loopF (s_l02Echelon_l8 (c : Int) xs) (-1, 0) = some (idxI (fun x => bitAt x (c : Int)) 0 xs) := by
  have := fold_loop (xs := xs) (step := s_l02Echelon_l8 (c : Int) xs) (fun i acc => (acc, (i : Int))) (fun i acc x => cond (decide (acc < 0)) (.inl (cond (bitAt x (c : Int)) (i : Int) acc)) (.inr acc)) id (fun _ _ => True) (by
    intro i acc x hx _
    refine ⟨?_, fun _ _ => trivial⟩
    have hi : i < xs.length := (List.getElem?_eq_some_iff.1 hx).1
    unfold s_l02Echelon_l8
    rw [Tre.run_cond, show decide (((acc, (i : Int)) : Int × Int).2 < (xs.length : Int)) = true from by simpa using hi, cond_true, Tre.run_cond]
    by_cases h0 : acc < 0
    · rw [show decide (acc < 0) = true from by simpa using h0]
      rw [cond_true, run_at hx, run_some_mat (bitR_nat (by omega) : bitR x (c : Int) = _), Tre.run_cond]
      show cond (bitAt x (c : Int)) _ _ = _
      cases bitAt x (c : Int)
      · rw [cond_false, Tre.run_ret, iwrap_succ (by omega)]; rfl
      · rw [cond_true, Tre.run_ret, iwrap_succ (by omega)]; rfl
    · rw [show decide (acc < 0) = false from by simpa using h0]
      rfl)
    (by
    intro acc _
    unfold s_l02Echelon_l8
    exact run_out) xs 0 (-1) rfl (Nat.zero_le _) trivial
  rw [show (((-1 : Int), (0 : Int)) : Int × Int) = (-1, ((0 : Nat) : Int)) from rfl, this]
  have key : ∀ (l : List Int) (i : Nat), foldE (β := Int) (fun (i : Nat) (acc : Int) x => cond (decide (acc < 0)) (.inl (cond (bitAt x (c : Int)) (i : Int) acc)) (.inr acc)) id i (-1) l = idxI (fun x => bitAt x (c : Int)) i l := by
    intro l
    induction l with
    | nil => intro i; rfl
    | cons x l ih =>
      intro i
      simp only [foldE, idxI, show decide ((-1 : Int) < 0) = true from rfl, cond_true]
      cases bitAt x (c : Int)
      · exact ih (i + 1)
      · have hn : decide ((i : Int) < 0) = false := by simp
        cases l with
        | nil => rfl
        | cons y l => simp only [foldE, cond_true, hn, cond_false]
  rw [key]
theorem s_l02Echelon_elim (c r : Nat) (hc : c ≤ 62) (hr : r < 2 ^ 62) (l : List Nat) (hb : ∀ n ∈ l, n < 2 ^ 62) (hl : l.length ≤ 1048576) : loopF (s_l02Echelon_l16 (c : Int) (r : Int)) (0, up l) = some (up (l.map (elimB c r))) := by
  have := part_loop (step := s_l02Echelon_l16 (c : Int) (r : Int)) (fun _ x => elimB c r x) l id (by
    intro i x hx
    have hi : i < l.length := (List.getElem?_eq_some_iff.1 hx).1
    have hx2 := up_at (part_at (g := fun _ x => elimB c r x) (i := i) hx)
    rw [if_neg (Nat.lt_irrefl i)] at hx2
    have hlen : (up (partB (fun _ x => elimB c r x) i l)).length = l.length := by rw [up_len, part_len]
    have hxb := hb x (List.mem_of_getElem? hx)
    rw [← part_set hx]
    unfold s_l02Echelon_l16
    rw [run_inb hx2, run_some_mat (bitR_nat (by omega) : bitR (x : Int) (c : Int) = _), Tre.run_cond]
    show cond (bitAt (x : Int) (c : Int)) _ _ = _
    rw [bitAt_nat (by omega) (by omega)]
    have he : elimB c r x = cond (x.testBit c) (x ^^^ r) x := rfl
    rw [he]
    cases x.testBit c
    · rw [cond_false, Tre.run_ret, iwrap_succ (by omega)]
      refine congrArg (fun z => some (Sum.inl (((i + 1 : Nat) : Int), z))) ?_
      rw [cond_false, ← up_set]
      exact (List.ext_getElem? fun j => by
        rw [List.getElem?_set]
        by_cases hj : i = j
        · subst hj; rw [if_pos rfl, hx2, if_pos (List.getElem?_eq_some_iff.1 hx2).1]
        · rw [if_neg hj]).symm
    · rw [cond_true, run_at hx2, run_at hx2, Tre.run_ret, iwrap_succ (by omega), ixor_nat (by omega) (by omega), Int.toNat_natCast, cond_true, ← up_set])
    (by
    unfold s_l02Echelon_l16
    have : ((partB (fun _ x => elimB c r x) l.length l).length : Int) = (l.length : Int) := by rw [part_len]
    show (Tre.cond (decide ((l.length : Int) < ((up (partB (fun _ x => elimB c r x) l.length l)).length : Int))) _ _).run some = _
    rw [up_len, part_len]
    exact run_out)
  rw [this, mapIdx_const]
  rfl
theorem s_l02Echelon_l21_eq : s_l02Echelon_l21 = s_l02Echelon_l16 := rfl
theorem s_l02Echelon_loop (m : Nat) (hm : m ≤ 62) (orig : List Nat) : ∀ (n c : Nat) (E : List (Nat × Nat)) (R : List Nat), c + n = m → Inv orig c E R → E.length ≤ c → R.length ≤ 1048576 → (∀ x ∈ R, x < 2 ^ m) → (∀ a ∈ E, a.2 < 2 ^ m) →
    ∃ E' : List Nat, loopF (s_l02Echelon_l4 (m : Int)) ((c : Int), up R, up (E.map (·.2))) = some (up E') ∧ IsEch orig E' := by
  intro n
  have hp := pow_le hm
  induction n with
  | zero =>
    intro c E R hc hI _ _ hR _
    have : c = m := hc
    subst this
    refine ⟨E.map (·.2), loopF_done ?_, hI.done fun x hx => zero_of_bits (hR x hx) (hI.low x hx)⟩
    unfold s_l02Echelon_l4
    exact run_out
  | succ n ih =>
    intro c E R hc hI hE hl hR hEb
    have hcm : c < m := by omega
    have hstep : ∀ E2 R2, Inv orig (c + 1) E2 R2 → E2.length ≤ c + 1 → R2.length ≤ 1048576 → (∀ x ∈ R2, x < 2 ^ m) → (∀ a ∈ E2, a.2 < 2 ^ m) → (s_l02Echelon_l4 (m : Int) ((c : Int), up R, up (E.map (·.2)))).run some = some (.inl (((c + 1 : Nat) : Int), up R2, up (E2.map (·.2)))) →
        ∃ E' : List Nat, loopF (s_l02Echelon_l4 (m : Int)) ((c : Int), up R, up (E.map (·.2))) = some (up E') ∧ IsEch orig E' := by
      intro E2 R2 h1 h2 h3 h4 h5 h6
      rw [loopF_step h6]
      exact ih (c + 1) E2 R2 (by omega) h1 h2 h3 h4 h5
    have hfind := s_l02Echelon_find c (by omega) (up R) (by rw [up_len]; exact hl)
    have hw : iwrap .i64 ((c : Int) + 1) = ((c + 1 : Nat) : Int) := iwrap_succ (by omega)
    have hdec : decide ((c : Int) < (m : Int)) = true := by simpa using hcm
    rcases idxI_cases (fun x => bitAt x (c : Int)) (up R) 0 with ⟨h1, h2⟩ | ⟨k, x, h1, h2, h3⟩
    · refine hstep E R (hI.skip fun x hx => ?_) (by omega) hl hR hEb ?_
      · have := h2 (x : Int) (List.mem_map.2 ⟨x, hx, rfl⟩)
        have hxb := hR x hx
        rwa [bitAt_nat (by omega) (by omega)] at this
      · unfold s_l02Echelon_l4
        rw [Tre.run_cond]
        show cond (decide ((c : Int) < (m : Int))) _ _ = _
        rw [hdec, cond_true, run_some_mat (hfind.trans (by rw [h1])), Tre.run_cond]
        simp only [show decide ((-1 : Int) < 0) = true from rfl, cond_true, Tre.run_ret, hw]
    · obtain ⟨r, hr1, rfl⟩ : ∃ r : Nat, R[k]? = some r ∧ (r : Int) = x := by
        simp only [up, List.getElem?_map, Option.map_eq_some_iff] at h1
        exact h1
      have hrm : r ∈ R := List.mem_of_getElem? hr1
      have hrb := hR r hrm
      rw [bitAt_nat (by omega) (by omega)] at h2
      rw [Nat.zero_add] at h3
      have hk : k < R.length := (List.getElem?_eq_some_iff.1 hr1).1
      have hE2 : ((E.map fun a => (a.1, elimB c r a.2)) ++ [(c, r)]).map (·.2) = (E.map (·.2)).map (elimB c r) ++ [r] := by simp [List.map_map, Function.comp_def]
      refine hstep (E.map (fun a => (a.1, elimB c r a.2)) ++ [(c, r)]) ((R.set k 0).map (elimB c r)) (hI.step hrm h2 ?_ ?_) (by simp; omega) (by simpa using hl) ?_ ?_ ?_
      · intro y hy
        obtain ⟨x, hx, rfl⟩ := List.mem_map.1 hy
        rcases List.mem_or_eq_of_mem_set hx with hx | rfl
        · exact .inr ⟨x, hx, rfl⟩
        · exact .inl (by unfold elimB; simp)
      · intro x hx
        obtain ⟨j, hj⟩ := List.getElem?_of_mem hx
        by_cases hjk : k = j
        · subst hjk; rw [hr1] at hj; exact .inl (Option.some.inj hj).symm
        · refine .inr (List.mem_map.2 ⟨x, List.mem_of_getElem? (i := j) ?_, rfl⟩)
          rw [List.getElem?_set, if_neg hjk, hj]
      · intro y hy
        obtain ⟨x, hx, rfl⟩ := List.mem_map.1 hy
        refine elimB_lt hrb ?_
        rcases List.mem_or_eq_of_mem_set hx with hx | rfl
        · exact hR x hx
        · exact Nat.two_pow_pos m
      · intro a ha
        rcases List.mem_append.1 ha with ha | ha
        · obtain ⟨b, hb, rfl⟩ := List.mem_map.1 ha
          exact elimB_lt hrb (hEb b hb)
        · simp only [List.mem_singleton] at ha; subst ha; exact hrb
      · have e1 := s_l02Echelon_elim c r (by omega) (by omega) (R.set k 0) (fun x hx => by
          rcases List.mem_or_eq_of_mem_set hx with hx | rfl
          · have := hR x hx; omega
          · decide) (by simpa using hl)
        have e2 : loopF (s_l02Echelon_l21 (c : Int) (r : Int)) (0, up (E.map (·.2))) = some (up ((E.map (·.2)).map (elimB c r))) := by
          rw [s_l02Echelon_l21_eq]
          exact s_l02Echelon_elim c r (by omega) (by omega) (E.map (·.2)) (fun x hx => by
          obtain ⟨a, ha, rfl⟩ := List.mem_map.1 hx
          have := hEb a ha
          omega) (by simp; omega)
        unfold s_l02Echelon_l4
        rw [Tre.run_cond]
        show cond (decide ((c : Int) < (m : Int))) _ _ = _
        rw [hdec, cond_true, run_some_mat (hfind.trans (by rw [h3])), Tre.run_cond]
        rw [show decide ((k : Int) < 0) = false from by simp, cond_false, run_at h1, run_at h1, Int.toNat_natCast]
        rw [show (up R).set k 0 = up (R.set k 0) from up_set R k 0, run_some_mat e1, run_some_mat e2]
        rw [Tre.run_ite, if_pos (by unfold appendMax; rw [up_len]; simp; omega), Tre.run_ret, hw, hE2]
        simp [up]
theorem s_l02Echelon_spec (p0 : Int) (p1 : List Int) (y : List Int) (h : echB p0 p1 = some y) : s_l02Echelon_F p0 p1 = some y := by
  obtain ⟨hl, rfl⟩ := askO_some h
  rw [Bool.and_eq_true, inR_iff] at hl
  obtain ⟨m, rfl⟩ : ∃ m : Nat, p0 = (m : Int) := ⟨p0.toNat, by omega⟩
  obtain ⟨ns, rfl, hlen, hb, hn⟩ := okRows_up hl.2
  rw [Int.toNat_natCast] at hb
  obtain ⟨E, h1, h2⟩ := s_l02Echelon_loop m (by omega) ns m 0 [] ns (by omega) (Inv.start ns) (Nat.zero_le _) hlen hb (fun a ha => by cases ha)
  unfold s_l02Echelon_F s_l02Echelon
  have e1 : cloneR (up ns) = some (up ns) := lim_of (by rw [up_len]; exact hlen)
  have h1 : loopF (s_l02Echelon_l4 (m : Int)) (0, up ns, []) = some (up E) := h1
  rw [run_some_mat e1, run_some_mat h1]
  unfold echI
  rw [hn, ech_of h2]
  rfl
noncomputable def s_l02Echelon_V : Env := ⟨tau, [(105, s_l00Own_c), (106, s_l02Bit_c)], []⟩
noncomputable def s_l02Echelon_b : Code := (Try.f56.body).getD .skip
noncomputable def s_l02Echelon_l8_mk (h8_0_0 : Int) (h8_0_1 : Int) (h8_0_4 : (List Int)) (h8_0_5 : (List Int)) : (Int × Int) → St := fun x => stOf [(0, (.imm true (.int .i64) h8_0_0)), (5, (.ref (7, 0) [])), (6, (.ref (8, 0) [])), (7, (.imm true (.int .i64) h8_0_1)), (8, (.imm true (.int .i64) x.1)), (9, (.imm true (.int .i64) x.2))] [((7, 0), some ⟨false, (.sl (.int .i64)), .own, h8_0_4⟩), ((8, 0), some ⟨false, (.sl (.int .i64)), .own, h8_0_5⟩)]
noncomputable def s_l02Echelon_l8_out (h8_0_0 : Int) (h8_0_1 : Int) (h8_0_4 : (List Int)) (h8_0_5 : (List Int)) : Int → Ex × St := fun x => (.exit 2, stOf [(0, (.imm true (.int .i64) h8_0_0)), (5, (.ref (7, 0) [])), (6, (.ref (8, 0) [])), (7, (.imm true (.int .i64) h8_0_1)), (8, (.imm true (.int .i64) x))] [((7, 0), some ⟨false, (.sl (.int .i64)), .own, h8_0_4⟩), ((8, 0), some ⟨false, (.sl (.int .i64)), .own, h8_0_5⟩)])
noncomputable def s_l02Echelon_l8_D (s : St) : Tre (Ex × St) :=
  asImmZ true (.int .i64) (s.tmps 0) fun d2 =>
  asRef (7, 0) [] (s.tmps 5) <|
  asRef (8, 0) [] (s.tmps 6) <|
  asImmZ true (.int .i64) (s.tmps 7) fun d6 =>
  asImmZ true (.int .i64) (s.tmps 8) fun d8 =>
  asImmZ true (.int .i64) (s.tmps 9) fun d10 =>
  asRoot false (.sl (.int .i64)) (s.roots (7, 0)) fun m12 d13 =>
  asM .own m12 <|
  asRoot false (.sl (.int .i64)) (s.roots (8, 0)) fun m15 d16 =>
  asM .own m15 <|
  .mat (loopF (s_l02Echelon_l8 d6 d13) (d8, d10)) fun x => .ret (s_l02Echelon_l8_out d2 d6 d13 d16 x)
noncomputable def s_l02Echelon_l8_L : LoopI := ⟨([0, 5, 6, 7, 8, 9], [(7, 0), (8, 0)]), ([0, 5, 6, 7, 8], [(7, 0), (8, 0)]), s_l02Echelon_l8_D⟩
noncomputable def s_l02Echelon_l16_mk (h16_0_0 : Int) (h16_0_1 : Int) (h16_0_2 : Int) (h16_0_5 : (List Int)) : (Int × (List Int)) → St := fun x => stOf [(0, (.imm true (.int .i64) h16_0_0)), (5, (.ref (7, 0) [])), (6, (.ref (8, 0) [])), (7, (.imm true (.int .i64) h16_0_1)), (10, (.imm true (.int .i64) h16_0_2)), (11, (.imm true (.int .i64) x.1))] [((7, 0), some ⟨false, (.sl (.int .i64)), .own, x.2⟩), ((8, 0), some ⟨false, (.sl (.int .i64)), .own, h16_0_5⟩)]
noncomputable def s_l02Echelon_l16_out (h16_0_0 : Int) (h16_0_1 : Int) (h16_0_2 : Int) (h16_0_5 : (List Int)) : (List Int) → Ex × St := fun x => (.exit 4, stOf [(0, (.imm true (.int .i64) h16_0_0)), (5, (.ref (7, 0) [])), (6, (.ref (8, 0) [])), (7, (.imm true (.int .i64) h16_0_1)), (10, (.imm true (.int .i64) h16_0_2))] [((7, 0), some ⟨false, (.sl (.int .i64)), .own, x⟩), ((8, 0), some ⟨false, (.sl (.int .i64)), .own, h16_0_5⟩)])
noncomputable def s_l02Echelon_l16_D (s : St) : Tre (Ex × St) :=
  asImmZ true (.int .i64) (s.tmps 0) fun d2 =>
  asRef (7, 0) [] (s.tmps 5) <|
  asRef (8, 0) [] (s.tmps 6) <|
  asImmZ true (.int .i64) (s.tmps 7) fun d6 =>
  asImmZ true (.int .i64) (s.tmps 10) fun d8 =>
  asImmZ true (.int .i64) (s.tmps 11) fun d10 =>
  asRoot false (.sl (.int .i64)) (s.roots (7, 0)) fun m12 d13 =>
  asM .own m12 <|
  asRoot false (.sl (.int .i64)) (s.roots (8, 0)) fun m15 d16 =>
  asM .own m15 <|
  .mat (loopF (s_l02Echelon_l16 d6 d8) (d10, d13)) fun x => .ret (s_l02Echelon_l16_out d2 d6 d8 d16 x)
noncomputable def s_l02Echelon_l16_L : LoopI := ⟨([0, 5, 6, 7, 10, 11], [(7, 0), (8, 0)]), ([0, 5, 6, 7, 10], [(7, 0), (8, 0)]), s_l02Echelon_l16_D⟩
noncomputable def s_l02Echelon_l21_mk (h21_0_0 : Int) (h21_0_1 : Int) (h21_0_2 : Int) (h21_0_4 : (List Int)) : (Int × (List Int)) → St := fun x => stOf [(0, (.imm true (.int .i64) h21_0_0)), (5, (.ref (7, 0) [])), (6, (.ref (8, 0) [])), (7, (.imm true (.int .i64) h21_0_1)), (10, (.imm true (.int .i64) h21_0_2)), (12, (.imm true (.int .i64) x.1))] [((7, 0), some ⟨false, (.sl (.int .i64)), .own, h21_0_4⟩), ((8, 0), some ⟨false, (.sl (.int .i64)), .own, x.2⟩)]
noncomputable def s_l02Echelon_l21_out (h21_0_0 : Int) (h21_0_1 : Int) (h21_0_2 : Int) (h21_0_4 : (List Int)) : (List Int) → Ex × St := fun x => (.exit 6, stOf [(0, (.imm true (.int .i64) h21_0_0)), (5, (.ref (7, 0) [])), (6, (.ref (8, 0) [])), (7, (.imm true (.int .i64) h21_0_1)), (10, (.imm true (.int .i64) h21_0_2))] [((7, 0), some ⟨false, (.sl (.int .i64)), .own, h21_0_4⟩), ((8, 0), some ⟨false, (.sl (.int .i64)), .own, x⟩)])
noncomputable def s_l02Echelon_l21_D (s : St) : Tre (Ex × St) :=
  asImmZ true (.int .i64) (s.tmps 0) fun d2 =>
  asRef (7, 0) [] (s.tmps 5) <|
  asRef (8, 0) [] (s.tmps 6) <|
  asImmZ true (.int .i64) (s.tmps 7) fun d6 =>
  asImmZ true (.int .i64) (s.tmps 10) fun d8 =>
  asImmZ true (.int .i64) (s.tmps 12) fun d10 =>
  asRoot false (.sl (.int .i64)) (s.roots (7, 0)) fun m12 d13 =>
  asM .own m12 <|
  asRoot false (.sl (.int .i64)) (s.roots (8, 0)) fun m15 d16 =>
  asM .own m15 <|
  .mat (loopF (s_l02Echelon_l21 d6 d8) (d10, d16)) fun x => .ret (s_l02Echelon_l21_out d2 d6 d8 d13 x)
noncomputable def s_l02Echelon_l21_L : LoopI := ⟨([0, 5, 6, 7, 10, 12], [(7, 0), (8, 0)]), ([0, 5, 6, 7, 10], [(7, 0), (8, 0)]), s_l02Echelon_l21_D⟩
noncomputable def s_l02Echelon_l4_mk (h4_0_0 : Int) : (Int × (List Int) × (List Int)) → St := fun x => stOf [(0, (.imm true (.int .i64) h4_0_0)), (5, (.ref (7, 0) [])), (6, (.ref (8, 0) [])), (7, (.imm true (.int .i64) x.1))] [((7, 0), some ⟨false, (.sl (.int .i64)), .own, x.2.1⟩), ((8, 0), some ⟨false, (.sl (.int .i64)), .own, x.2.2⟩)]
noncomputable def s_l02Echelon_l4_out (_h4_0_0 : Int) : (List Int) → Ex × St := fun x => (.exit 0, stOf [(6, (.ref (8, 0) []))] [((8, 0), some ⟨false, (.sl (.int .i64)), .own, x⟩)])
noncomputable def s_l02Echelon_l4_D (s : St) : Tre (Ex × St) :=
  asImmZ true (.int .i64) (s.tmps 0) fun d2 =>
  asRef (7, 0) [] (s.tmps 5) <|
  asRef (8, 0) [] (s.tmps 6) <|
  asImmZ true (.int .i64) (s.tmps 7) fun d6 =>
  asRoot false (.sl (.int .i64)) (s.roots (7, 0)) fun m8 d9 =>
  asM .own m8 <|
  asRoot false (.sl (.int .i64)) (s.roots (8, 0)) fun m11 d12 =>
  asM .own m11 <|
  .mat (loopF (s_l02Echelon_l4 d2) (d6, d9, d12)) fun x => .ret (s_l02Echelon_l4_out d2 x)
noncomputable def s_l02Echelon_l4_L : LoopI := ⟨([0, 5, 6, 7], [(7, 0), (8, 0)]), ([6], [(8, 0)]), s_l02Echelon_l4_D⟩
noncomputable def s_l02Echelon_A : List (Nat × LoopI) := [(8, s_l02Echelon_l8_L), (16, s_l02Echelon_l16_L), (21, s_l02Echelon_l21_L), (4, s_l02Echelon_l4_L)]
set_option maxRecDepth 100000 in
theorem s_l02Echelon_l8_step : ∀ (h8_0_0 : Int) (h8_0_1 : Int) (h8_0_4 : (List Int)) (h8_0_5 : (List Int)) (x : (Int × Int)) (c : St → Option (Ex × St)), den s_l02Echelon_V s_l02Echelon_A (loopAt s_l02Echelon_b 1) (s_l02Echelon_l8_mk h8_0_0 h8_0_1 h8_0_4 h8_0_5 x) (roundK s_l02Echelon_l8_L.kp s_l02Echelon_l8_L.kx c) = (s_l02Echelon_l8 h8_0_1 h8_0_4 x).run (roundR (s_l02Echelon_l8_mk h8_0_0 h8_0_1 h8_0_4 h8_0_5) (s_l02Echelon_l8_out h8_0_0 h8_0_1 h8_0_4 h8_0_5) c) := fun _ _ _ _ _ _ => by
  kernel_rfl
theorem s_l02Echelon_l8_ok : LoopOK s_l02Echelon_V s_l02Echelon_A (loopAt s_l02Echelon_b 1) s_l02Echelon_l8_L := loopOK_of fun s e s' h => by
  generalize hs : restrict s_l02Echelon_l8_L.kp s = s1 at h
  have h : (s_l02Echelon_l8_D s1).run some = some (e, s') := h
  obtain ⟨d2, e1, h_0⟩ := asImmZ_spec h
  obtain ⟨e3, h_1⟩ := asRef_spec h_0
  obtain ⟨e4, h_2⟩ := asRef_spec h_1
  obtain ⟨d6, e5, h_3⟩ := asImmZ_spec h_2
  obtain ⟨d8, e7, h_4⟩ := asImmZ_spec h_3
  obtain ⟨d10, e9, h_5⟩ := asImmZ_spec h_4
  obtain ⟨m12, d13, e11, h_6⟩ := asRoot_spec h_5
  obtain ⟨rfl, h_7⟩ := asM_spec h_6
  obtain ⟨m15, d16, e14, h_8⟩ := asRoot_spec h_7
  obtain ⟨rfl, h_9⟩ := asM_spec h_8
  obtain ⟨y, hy, hz⟩ := mat_ret h_9
  refine ⟨_, _, s_l02Echelon_l8_mk d2 d6 d13 d16, s_l02Echelon_l8_out d2 d6 d13 d16, s_l02Echelon_l8 d6 d13, (d8, d10), y, ?_, hy, ?_, s_l02Echelon_l8_step d2 d6 d13 d16⟩
  · subst hs; exact restrict_eq (T := [(0, (.imm true (.int .i64) d2)), (5, (.ref (7, 0) [])), (6, (.ref (8, 0) [])), (7, (.imm true (.int .i64) d6)), (8, (.imm true (.int .i64) d8)), (9, (.imm true (.int .i64) d10))]) (U := [((7, 0), some ⟨false, (.sl (.int .i64)), .own, d13⟩), ((8, 0), some ⟨false, (.sl (.int .i64)), .own, d16⟩)]) rfl rfl ⟨e1, e3, e4, e5, e7, e9, trivial⟩ ⟨e11, e14, trivial⟩
  · exact Option.some.inj hz
set_option maxRecDepth 100000 in
theorem s_l02Echelon_l16_step : ∀ (h16_0_0 : Int) (h16_0_1 : Int) (h16_0_2 : Int) (h16_0_5 : (List Int)) (x : (Int × (List Int))) (c : St → Option (Ex × St)), den s_l02Echelon_V s_l02Echelon_A (loopAt s_l02Echelon_b 2) (s_l02Echelon_l16_mk h16_0_0 h16_0_1 h16_0_2 h16_0_5 x) (roundK s_l02Echelon_l16_L.kp s_l02Echelon_l16_L.kx c) = (s_l02Echelon_l16 h16_0_1 h16_0_2 x).run (roundR (s_l02Echelon_l16_mk h16_0_0 h16_0_1 h16_0_2 h16_0_5) (s_l02Echelon_l16_out h16_0_0 h16_0_1 h16_0_2 h16_0_5) c) := fun _ _ _ _ _ _ => by
  kernel_rfl
theorem s_l02Echelon_l16_ok : LoopOK s_l02Echelon_V s_l02Echelon_A (loopAt s_l02Echelon_b 2) s_l02Echelon_l16_L := loopOK_of fun s e s' h => by
  generalize hs : restrict s_l02Echelon_l16_L.kp s = s1 at h
  have h : (s_l02Echelon_l16_D s1).run some = some (e, s') := h
  obtain ⟨d2, e1, h_0⟩ := asImmZ_spec h
  obtain ⟨e3, h_1⟩ := asRef_spec h_0
  obtain ⟨e4, h_2⟩ := asRef_spec h_1
  obtain ⟨d6, e5, h_3⟩ := asImmZ_spec h_2
  obtain ⟨d8, e7, h_4⟩ := asImmZ_spec h_3
  obtain ⟨d10, e9, h_5⟩ := asImmZ_spec h_4
  obtain ⟨m12, d13, e11, h_6⟩ := asRoot_spec h_5
  obtain ⟨rfl, h_7⟩ := asM_spec h_6
  obtain ⟨m15, d16, e14, h_8⟩ := asRoot_spec h_7
  obtain ⟨rfl, h_9⟩ := asM_spec h_8
  obtain ⟨y, hy, hz⟩ := mat_ret h_9
  refine ⟨_, _, s_l02Echelon_l16_mk d2 d6 d8 d16, s_l02Echelon_l16_out d2 d6 d8 d16, s_l02Echelon_l16 d6 d8, (d10, d13), y, ?_, hy, ?_, s_l02Echelon_l16_step d2 d6 d8 d16⟩
  · subst hs; exact restrict_eq (T := [(0, (.imm true (.int .i64) d2)), (5, (.ref (7, 0) [])), (6, (.ref (8, 0) [])), (7, (.imm true (.int .i64) d6)), (10, (.imm true (.int .i64) d8)), (11, (.imm true (.int .i64) d10))]) (U := [((7, 0), some ⟨false, (.sl (.int .i64)), .own, d13⟩), ((8, 0), some ⟨false, (.sl (.int .i64)), .own, d16⟩)]) rfl rfl ⟨e1, e3, e4, e5, e7, e9, trivial⟩ ⟨e11, e14, trivial⟩
  · exact Option.some.inj hz
set_option maxRecDepth 100000 in
theorem s_l02Echelon_l21_step : ∀ (h21_0_0 : Int) (h21_0_1 : Int) (h21_0_2 : Int) (h21_0_4 : (List Int)) (x : (Int × (List Int))) (c : St → Option (Ex × St)), den s_l02Echelon_V s_l02Echelon_A (loopAt s_l02Echelon_b 3) (s_l02Echelon_l21_mk h21_0_0 h21_0_1 h21_0_2 h21_0_4 x) (roundK s_l02Echelon_l21_L.kp s_l02Echelon_l21_L.kx c) = (s_l02Echelon_l21 h21_0_1 h21_0_2 x).run (roundR (s_l02Echelon_l21_mk h21_0_0 h21_0_1 h21_0_2 h21_0_4) (s_l02Echelon_l21_out h21_0_0 h21_0_1 h21_0_2 h21_0_4) c) := fun _ _ _ _ _ _ => by
  kernel_rfl
theorem s_l02Echelon_l21_ok : LoopOK s_l02Echelon_V s_l02Echelon_A (loopAt s_l02Echelon_b 3) s_l02Echelon_l21_L := loopOK_of fun s e s' h => by
  generalize hs : restrict s_l02Echelon_l21_L.kp s = s1 at h
  have h : (s_l02Echelon_l21_D s1).run some = some (e, s') := h
  obtain ⟨d2, e1, h_0⟩ := asImmZ_spec h
  obtain ⟨e3, h_1⟩ := asRef_spec h_0
  obtain ⟨e4, h_2⟩ := asRef_spec h_1
  obtain ⟨d6, e5, h_3⟩ := asImmZ_spec h_2
  obtain ⟨d8, e7, h_4⟩ := asImmZ_spec h_3
  obtain ⟨d10, e9, h_5⟩ := asImmZ_spec h_4
  obtain ⟨m12, d13, e11, h_6⟩ := asRoot_spec h_5
  obtain ⟨rfl, h_7⟩ := asM_spec h_6
  obtain ⟨m15, d16, e14, h_8⟩ := asRoot_spec h_7
  obtain ⟨rfl, h_9⟩ := asM_spec h_8
  obtain ⟨y, hy, hz⟩ := mat_ret h_9
  refine ⟨_, _, s_l02Echelon_l21_mk d2 d6 d8 d13, s_l02Echelon_l21_out d2 d6 d8 d13, s_l02Echelon_l21 d6 d8, (d10, d16), y, ?_, hy, ?_, s_l02Echelon_l21_step d2 d6 d8 d13⟩
  · subst hs; exact restrict_eq (T := [(0, (.imm true (.int .i64) d2)), (5, (.ref (7, 0) [])), (6, (.ref (8, 0) [])), (7, (.imm true (.int .i64) d6)), (10, (.imm true (.int .i64) d8)), (12, (.imm true (.int .i64) d10))]) (U := [((7, 0), some ⟨false, (.sl (.int .i64)), .own, d13⟩), ((8, 0), some ⟨false, (.sl (.int .i64)), .own, d16⟩)]) rfl rfl ⟨e1, e3, e4, e5, e7, e9, trivial⟩ ⟨e11, e14, trivial⟩
  · exact Option.some.inj hz
set_option maxRecDepth 100000 in
theorem s_l02Echelon_l4_step : ∀ (h4_0_0 : Int) (x : (Int × (List Int) × (List Int))) (c : St → Option (Ex × St)), den s_l02Echelon_V s_l02Echelon_A (loopAt s_l02Echelon_b 0) (s_l02Echelon_l4_mk h4_0_0 x) (roundK s_l02Echelon_l4_L.kp s_l02Echelon_l4_L.kx c) = (s_l02Echelon_l4 h4_0_0 x).run (roundR (s_l02Echelon_l4_mk h4_0_0) (s_l02Echelon_l4_out h4_0_0) c) := fun _ _ _ => by
  kernel_rfl
theorem s_l02Echelon_l4_ok : LoopOK s_l02Echelon_V s_l02Echelon_A (loopAt s_l02Echelon_b 0) s_l02Echelon_l4_L := loopOK_of fun s e s' h => by
  generalize hs : restrict s_l02Echelon_l4_L.kp s = s1 at h
  have h : (s_l02Echelon_l4_D s1).run some = some (e, s') := h
  obtain ⟨d2, e1, h_0⟩ := asImmZ_spec h
  obtain ⟨e3, h_1⟩ := asRef_spec h_0
  obtain ⟨e4, h_2⟩ := asRef_spec h_1
  obtain ⟨d6, e5, h_3⟩ := asImmZ_spec h_2
  obtain ⟨m8, d9, e7, h_4⟩ := asRoot_spec h_3
  obtain ⟨rfl, h_5⟩ := asM_spec h_4
  obtain ⟨m11, d12, e10, h_6⟩ := asRoot_spec h_5
  obtain ⟨rfl, h_7⟩ := asM_spec h_6
  obtain ⟨y, hy, hz⟩ := mat_ret h_7
  refine ⟨_, _, s_l02Echelon_l4_mk d2, s_l02Echelon_l4_out d2, s_l02Echelon_l4 d2, (d6, d9, d12), y, ?_, hy, ?_, s_l02Echelon_l4_step d2⟩
  · subst hs; exact restrict_eq (T := [(0, (.imm true (.int .i64) d2)), (5, (.ref (7, 0) [])), (6, (.ref (8, 0) [])), (7, (.imm true (.int .i64) d6))]) (U := [((7, 0), some ⟨false, (.sl (.int .i64)), .own, d9⟩), ((8, 0), some ⟨false, (.sl (.int .i64)), .own, d12⟩)]) rfl rfl ⟨e1, e3, e4, e5, trivial⟩ ⟨e7, e10, trivial⟩
  · exact Option.some.inj hz
noncomputable def s_l02Echelon_I : FnI := ⟨s_l02Echelon_b, Try.f56.results.toList, Try.f56.resultTypes.toList, s_l02Echelon_A⟩
noncomputable def s_l02Echelon_out (_zp0 : Bool) (_p0 : Int) (_p1 : (List Int)) : (List Int) → CallOut := fun r => ⟨(.ref (1, 0) []), [], [⟨false, (.sl (.int .i64)), .own, r⟩]⟩
set_option maxRecDepth 100000 in
theorem s_l02Echelon_eq : ∀ (zp0 : Bool) (p0 : Int) (p1 : (List Int)), denFn s_l02Echelon_V s_l02Echelon_I ⟨[(.imm true (.int .i64) p0), (.imm zp0 (.sl (.int .i64)) p1)], []⟩ = (s_l02Echelon p0 p1).run fun r => some (s_l02Echelon_out zp0 p0 p1 r) := fun _ _ _ => by kernel_rfl
noncomputable def s_l02Echelon_G (av : List AV) (rs : List Root) : Tre CallOut :=
  asCons av fun a0_ av0 =>
  asCons av0 fun a1_ av1 =>
  asEnd av1 <|
  asEnd rs <|
  asImmZ true (.int .i64) a0_ fun d1 =>
  asImm (.sl (.int .i64)) a1_ fun z3 d2 =>
  .mat (echB d1 d2) fun r => .ret (s_l02Echelon_out z3 d1 d2 r)
noncomputable def s_l02Echelon_c : Ctr := ⟨[], fun ci => s_l02Echelon_G ci.args ci.roots, false⟩
theorem s_l02Echelon_env : EnvOK Try.prog .none s_l02Echelon_V := (envOK_cons s_l00Own_ok ent105 (envOK_cons s_l02Bit_ok ent106 envOK_nil))
set_option maxRecDepth 100000 in
theorem s_l02Echelon_ok : Contract Try.prog .none 56 s_l02Echelon_c := by
  have hl : LoopsOK s_l02Echelon_V s_l02Echelon_A s_l02Echelon_b := (loopsOK_all (n := 4) (by kernel_rfl) fun k hk => by
      match k, hk with
      | 0, _ => exact loopOK_at (id := 4) (L := s_l02Echelon_l4_L) (by kernel_rfl) (by kernel_rfl) s_l02Echelon_l4_ok
      | 1, _ => exact loopOK_at (id := 8) (L := s_l02Echelon_l8_L) (by kernel_rfl) (by kernel_rfl) s_l02Echelon_l8_ok
      | 2, _ => exact loopOK_at (id := 16) (L := s_l02Echelon_l16_L) (by kernel_rfl) (by kernel_rfl) s_l02Echelon_l16_ok
      | 3, _ => exact loopOK_at (id := 21) (L := s_l02Echelon_l21_L) (by kernel_rfl) (by kernel_rfl) s_l02Echelon_l21_ok)
  refine (contract_of (F := s_l02Echelon_I) tau_tys s_l02Echelon_env Try.func56 (by kernel_rfl) (by kernel_rfl) (by kernel_rfl) hl []).weaken ?_
  rintro ⟨av, rs⟩ co h
  have h : (s_l02Echelon_G av rs).run some = some co := h
  obtain ⟨a0_, av0, rfl, h_0⟩ := asCons_spec h
  obtain ⟨a1_, av1, rfl, h_1⟩ := asCons_spec h_0
  obtain ⟨rfl, h_2⟩ := asEnd_spec h_1
  obtain ⟨rfl, h_3⟩ := asEnd_spec h_2
  obtain ⟨d1, rfl, h_4⟩ := asImmZ_spec h_3
  obtain ⟨z3, d2, rfl, h_5⟩ := asImm_spec h_4
  exact fin_opt (s_l02Echelon_eq z3 d1 d2) (s_l02Echelon_spec d1 d2) h_5
end Go.Proofs.Ythnkanacjhlhhaa

namespace Go.Proofs.Ythnkanacjhlhhaa
open Go Go.Abs Go.Proofs
-- shared
theorem ech_is {b : Nat} {xs : List Int} (hb : b ≤ 62) (h : okRows b xs = true) : IsEch (xs.map Int.toNat) (ech (xs.map Int.toNat)) := by
  obtain ⟨ns, rfl, hlen, hn, he⟩ := okRows_up h
  obtain ⟨E, _, h2⟩ := s_l02Echelon_loop b hb ns b 0 [] ns (by omega) (Inv.start ns) (Nat.zero_le _) hlen hn (fun a ha => by cases ha)
  rw [he, ech_of h2]; exact h2
theorem echI_len (xs : List Int) : (echI xs).length = (ech (xs.map Int.toNat)).length := by unfold echI; rw [up_len]
theorem sorted_len : ∀ (l : List (Nat × Nat)) (lo b : Nat), (l.Pairwise fun a b => a.1 < b.1) → (∀ a ∈ l, lo ≤ a.1 ∧ a.1 < b) → l.length ≤ b - lo := by
  intro l
  induction l with
  | nil => intro lo b _ _; exact Nat.zero_le _
  | cons a l ih =>
    intro lo b h hb
    obtain ⟨h1, h2⟩ := List.pairwise_cons.1 h
    have := ih (a.1 + 1) b h2 fun x hx => ⟨h1 x hx, (hb x (.tail _ hx)).2⟩
    have h0 := hb a (.head _)
    simp only [List.length_cons]
    omega
theorem sp_lt {l : List Nat} {b v : Nat} (h : ∀ x ∈ l, x < 2 ^ b) (hv : Sp l v) : v < 2 ^ b := by
  induction hv with
  | zero => exact Nat.two_pow_pos b
  | add hr _ ih => exact Nat.xor_lt_two_pow (h _ hr) ih
end Go.Proofs.Ythnkanacjhlhhaa

namespace Go.Proofs.Ythnkanacjhlhhaa
open Go Go.Abs Go.Proofs
-- shared
theorem nodup_back {α : Type} [DecidableEq α] {l l' : List α} (hl : l.Nodup) (hs : ∀ x ∈ l, x ∈ l') (hle : l'.length ≤ l.length) : ∀ x ∈ l', x ∈ l := by
  intro x hx
  refine Classical.byContradiction fun hn => ?_
  have := nodup_le (l := x :: l) (l' := l') (List.nodup_cons.2 ⟨hn, hl⟩) (fun y hy => by
    rcases List.mem_cons.1 hy with rfl | hy
    · exact hx
    · exact hs y hy)
  simp only [List.length_cons] at this
  omega
theorem span_rank {ns E : List Nat} {r : Nat} (h : IsEch ns ns) (hE : IsEch (ns ++ [r]) E) : E.length = ns.length ↔ Sp ns r := by
  constructor
  · intro hl
    obtain ⟨P, c, hr, hP, _⟩ := h
    obtain ⟨P', c', hr', hP', hs'⟩ := hE
    have n1 : (sumsOf ns).Nodup := by rw [← hP]; exact hr.nodup
    have hsub : ∀ x ∈ sumsOf ns, x ∈ sumsOf E := fun x hx => ((hs' x).1 (Sp.trans (fun r hr => Sp.mem (List.mem_append_left _ hr)) (sums_Sp hx))).sums
    exact sums_Sp (nodup_back n1 hsub (by rw [sumsOf_len, sumsOf_len, hl]; exact Nat.le_refl _) r ((hs' r).1 (Sp.mem (by simp))).sums)
  · intro hs
    obtain ⟨P, c, hr, hP, _⟩ := h
    have : IsEch (ns ++ [r]) ns := ⟨P, c, hr, hP, fun v => ⟨Sp.trans fun x hx => by
      rcases List.mem_append.1 hx with hx | hx
      · exact Sp.mem hx
      · rw [List.mem_singleton.1 hx]; exact hs, Sp.trans fun x hx => Sp.mem (List.mem_append_left _ hx)⟩⟩
    rw [hE.eq this]
theorem selN_off {p h : Nat} : ∀ (l : List Nat) (i : Nat), (∀ x ∈ l, x.testBit p = false) → (selN h i l).testBit p = false := by
  intro l
  induction l with
  | nil => intro i _; exact Nat.zero_testBit p
  | cons x l ih =>
    intro i hx
    simp only [selN]
    rw [Nat.testBit_xor, ih (i + 1) fun y hy => hx y (.tail _ hy)]
    cases h.testBit i
    · simp
    · simp [hx x (.head _)]
theorem selN_on {p h : Nat} : ∀ (l : List Nat) (i j : Nat), (∀ j' x, l[j']? = some x → x.testBit p = decide (j' = j)) → j < l.length → (selN h i l).testBit p = h.testBit (i + j) := by
  intro l
  induction l with
  | nil => intro i j _ hj; simp at hj
  | cons x l ih =>
    intro i j hx hj
    simp only [selN]
    rw [Nat.testBit_xor]
    have h0 := hx 0 x rfl
    cases j with
    | zero =>
      rw [selN_off l (i + 1) fun y hy => by
        obtain ⟨k, hk⟩ := List.getElem?_of_mem hy
        have := hx (k + 1) y (by simpa using hk)
        simpa using this]
      cases h.testBit i
      · simp
      · simp [h0]
    | succ j =>
      rw [ih (i + 1) j (fun k y hk => by have := hx (k + 1) y (by simpa using hk); simpa using this) (by simpa using hj)]
      have h0 : x.testBit p = false := by simpa using h0
      rw [show i + 1 + j = i + (j + 1) by omega]
      cases h.testBit i <;> simp [h0]
theorem ech_place {ns : List Nat} (h : IsEch ns ns) {q : Nat} (hq : q < ns.length) : ∃ p, ∀ j x, ns[j]? = some x → x.testBit p = decide (j = q) := by
  obtain ⟨P, c, hr, rfl, _⟩ := h
  rw [List.length_map] at hq
  refine ⟨P[q].1, fun j x hx => ?_⟩
  rw [List.getElem?_map] at hx
  cases hj : P[j]? with
  | none => rw [hj] at hx; cases hx
  | some a =>
    rw [hj] at hx
    simp only [Option.map_some, Option.some.injEq] at hx
    subst hx
    obtain ⟨hjl, rfl⟩ := List.getElem?_eq_some_iff.1 hj
    by_cases hjq : j = q
    · subst hjq
      simpa using (hr.1 _ (List.getElem_mem hjl)).2.1
    · rw [decide_eq_false hjq]
      refine hr.apart (List.getElem_mem hjl) (List.getElem_mem hq) ?_
      have hp := List.pairwise_iff_getElem.1 hr.2
      rcases Nat.lt_or_gt_of_ne hjq with h | h
      · exact Nat.ne_of_lt (hp j q hjl hq h).1
      · exact Nat.ne_of_gt (hp q j hq hjl h).1
theorem sel_inj {ns : List Nat} (h : IsEch ns ns) {a b : Nat} (ha : a < 2 ^ ns.length) (hb : b < 2 ^ ns.length) (he : selN a 0 ns = selN b 0 ns) : a = b := by
  apply Nat.eq_of_testBit_eq
  intro q
  by_cases hq : q < ns.length
  · obtain ⟨p, hp⟩ := ech_place h hq
    have h1 := selN_on (h := a) ns 0 q hp hq
    have h2 := selN_on (h := b) ns 0 q hp hq
    rw [he, h2, Nat.zero_add] at h1
    exact h1.symm
  · rw [Nat.testBit_lt_two_pow (Nat.lt_of_lt_of_le ha (Nat.pow_le_pow_right (by decide) (by omega))), Nat.testBit_lt_two_pow (Nat.lt_of_lt_of_le hb (Nat.pow_le_pow_right (by decide) (by omega)))]
theorem sp_sel {ns : List Nat} {v : Nat} (h : Sp ns v) : ∃ a, a < 2 ^ ns.length ∧ selN a 0 ns = v := by
  induction h with
  | zero => exact ⟨0, Nat.two_pow_pos _, selN_zero ns 0⟩
  | add hr _ ih =>
    obtain ⟨a, ha, rfl⟩ := ih
    obtain ⟨j, hj⟩ := List.getElem?_of_mem hr
    have hjl : j < ns.length := (List.getElem?_eq_some_iff.1 hj).1
    have := selN_pow ns 0 j hj
    rw [Nat.zero_add] at this
    exact ⟨2 ^ j ^^^ a, Nat.xor_lt_two_pow (Nat.pow_lt_pow_right (by decide) hjl) ha, by rw [selN_xor, this]⟩
def vecN (ns : List Nat) : List Nat := (List.range (2 ^ ns.length)).map fun a => selN a 0 ns
theorem vec_mem {ns : List Nat} {v : Nat} : v ∈ vecN ns ↔ Sp ns v := by
  unfold vecN
  rw [List.mem_map]
  constructor
  · rintro ⟨a, _, rfl⟩; exact selN_Sp a ns ns 0 fun x hx => hx
  · intro h
    obtain ⟨a, ha, rfl⟩ := sp_sel h
    exact ⟨a, List.mem_range.2 ha, rfl⟩
theorem vec_nodup {ns : List Nat} (h : IsEch ns ns) : (vecN ns).Nodup := by
  unfold vecN
  rw [List.nodup_iff_pairwise_ne]
  refine List.pairwise_map.2 (List.Pairwise.imp_of_mem ?_ (List.nodup_iff_pairwise_ne.1 List.nodup_range))
  intro a b ha hb hab he
  exact hab (sel_inj h (List.mem_range.1 ha) (List.mem_range.1 hb) he)
open Classical in
theorem vec_count {ns : List Nat} (h : IsEch ns ns) (v : Nat) : (vecN ns).count v = if Sp ns v then 1 else 0 := by
  rw [(vec_nodup h).count]
  by_cases hs : Sp ns v
  · rw [if_pos hs, if_pos (vec_mem.2 hs)]
  · rw [if_neg hs, if_neg fun hm => hs (vec_mem.1 hm)]
def okMx (m : Int × List Int × Unit) : Bool := inR m.1 1 10 && (decide (m.2.1.length ≤ 10) && m.2.1.all (inP m.1))
noncomputable def spMx (m : Int × List Int × Unit) : Bool := okMx m && decide (echI m.2.1 = m.2.1)
noncomputable def inMx (m : Int × List Int × Unit) (r : Int) : Bool := decide ((echI (m.2.1 ++ [r])).length = m.2.1.length)
theorem okMx_up {m : Int × List Int × Unit} (h : okMx m = true) : ∃ (c : Nat) (ns : List Nat), m = ((c : Int), up ns, ()) ∧ 1 ≤ c ∧ c ≤ 10 ∧ ns.length ≤ 10 ∧ ∀ n ∈ ns, n < 2 ^ c := by
  obtain ⟨a, xs, _⟩ := m
  simp only [okMx, Bool.and_eq_true, inR_iff, decide_eq_true_eq, List.all_eq_true] at h
  obtain ⟨⟨h1, h2⟩, h3, h4⟩ := h
  obtain ⟨c, rfl⟩ := Int.eq_ofNat_of_zero_le (show 0 ≤ a by omega)
  have hc : c ≤ 62 := by omega
  refine ⟨c, xs.map Int.toNat, ?_, by omega, by omega, by simpa using h3, fun n hn => ?_⟩
  · have : up (xs.map Int.toNat) = xs := by
      unfold up
      rw [List.map_map]
      refine (List.map_congr_left fun x hx => ?_).trans (List.map_id xs)
      obtain ⟨n, rfl, _⟩ := inP_nat hc (h4 x hx)
      simp
    rw [this]
  · obtain ⟨x, hx, rfl⟩ := List.mem_map.1 hn
    obtain ⟨k, rfl, hk⟩ := inP_nat hc (h4 x hx)
    simpa using hk
theorem okRows_mx {c b : Nat} {ns : List Nat} (hc : c ≤ b) (hl : ns.length ≤ 1048576) (hn : ∀ n ∈ ns, n < 2 ^ c) : okRows b (up ns) = true :=
  okRows_of hl fun n h => Nat.lt_of_lt_of_le (hn n h) (pow_le hc)
theorem spMx_up {m : Int × List Int × Unit} (h : spMx m = true) : ∃ (c : Nat) (ns : List Nat), m = ((c : Int), up ns, ()) ∧ 1 ≤ c ∧ c ≤ 10 ∧ ns.length ≤ 10 ∧ (∀ n ∈ ns, n < 2 ^ c) ∧ IsEch ns ns := by
  unfold spMx at h
  rw [Bool.and_eq_true] at h
  obtain ⟨c, ns, rfl, h1, h2, h3, h4⟩ := okMx_up h.1
  refine ⟨c, ns, rfl, h1, h2, h3, h4, ?_⟩
  have he := of_decide_eq_true h.2
  have hi := ech_is (b := 62) (by omega) (okRows_mx (b := 62) (by omega) (by omega) h4)
  rw [up_toNat] at hi
  unfold echI at he
  rw [up_toNat] at he
  have : ech ns = ns := by
    have := congrArg (List.map Int.toNat) he
    rwa [up_toNat, up_toNat] at this
  rw [this] at hi
  exact hi
theorem inMx_sp {c : Nat} {ns : List Nat} {r : Nat} (hc : c ≤ 10) (hl : ns.length ≤ 10) (hn : ∀ n ∈ ns, n < 2 ^ c) (h : IsEch ns ns) (hr : r < 2 ^ c) : inMx ((c : Int), up ns, ()) (r : Int) = true ↔ Sp ns r := by
  have hup : up ns ++ [(r : Int)] = up (ns ++ [r]) := by simp [up]
  have hi := ech_is (b := 62) (by omega) (okRows_mx (c := c) (b := 62) (ns := ns ++ [r]) (by omega) (by simp; omega) (fun n h => by
    rcases List.mem_append.1 h with h | h
    · exact hn n h
    · rw [List.mem_singleton.1 h]; exact hr))
  rw [up_toNat] at hi
  unfold inMx
  rw [decide_eq_true_eq]
  dsimp only
  rw [hup, echI_len, up_len, up_toNat]
  exact span_rank h hi
def goV {α : Type} (bad : Nat → α → Bool) : Nat → List α → Bool
  | _, [] => true
  | i, x :: l => !bad i x && goV bad (i + 1) l
theorem findE_goV {α : Type} {bad : Nat → α → Bool} : ∀ (l : List α) (i : Nat), (findE (fun i x => cond (bad i x) (some (.inl false)) none) (.inr ()) i l : Bool ⊕ Unit) = cond (goV bad i l) (.inr ()) (.inl false) := by
  intro l
  induction l with
  | nil => intro i; rfl
  | cons x l ih =>
    intro i
    simp only [findE, goV]
    cases bad i x
    · simp only [cond_false, Bool.not_false, Bool.true_and]; exact ih (i + 1)
    · rfl
theorem goV_iff {α : Type} {bad : Nat → α → Bool} : ∀ (l : List α) (i : Nat), goV bad i l = true ↔ ∀ j x, l[j]? = some x → bad (i + j) x = false := by
  intro l
  induction l with
  | nil => intro i; simp [goV]
  | cons x l ih =>
    intro i
    simp only [goV, Bool.and_eq_true, Bool.not_eq_true', ih]
    constructor
    · rintro ⟨h1, h2⟩ j y hy
      cases j with
      | zero => simp only [List.getElem?_cons_zero, Option.some.injEq] at hy; subst hy; exact h1
      | succ j => have := h2 j y (by simpa using hy); rwa [show i + 1 + j = i + (j + 1) by omega] at this
    · intro h
      refine ⟨h 0 x rfl, fun j y hy => ?_⟩
      have := h (j + 1) y (by simpa using hy)
      rwa [show i + 1 + j = i + (j + 1) by omega]
theorem goV_same {α : Type} {b1 b2 : Nat → α → Bool} {l : List α} (h : ∀ i x, l[i]? = some x → (∀ j y, j < i → l[j]? = some y → b1 j y = false) → b1 i x = b2 i x) : goV b1 0 l = goV b2 0 l := by
  have key : goV b1 0 l = true ↔ goV b2 0 l = true := by
    rw [goV_iff, goV_iff]
    simp only [Nat.zero_add]
    constructor
    · intro h1 j x hx
      rw [← h j x hx fun k y _ hy => h1 k y hy]
      exact h1 j x hx
    · intro h2 j
      induction j using Nat.strongRecOn with
      | ind j ih =>
        intro x hx
        rw [h j x hx fun k y hk hy => ih k hk y hy]
        exact h2 j x hx
  cases h1 : goV b1 0 l <;> cases h2 : goV b2 0 l <;> simp_all
theorem st_loop {σ β : Type} {step : σ → Tre (σ ⊕ β)} (st : Nat → σ) (n : Nat) {b : β} (h : ∀ i, i < n → (step (st i)).run some = some (.inl (st (i + 1)))) (hd : (step (st n)).run some = some (.inr b)) :
    ∀ k i, i + k = n → loopF step (st i) = some b := by
  intro k
  induction k with
  | zero =>
    intro i hi
    obtain rfl : i = n := by omega
    exact loopF_done hd
  | succ k ih =>
    intro i hi
    rw [loopF_step (h i (by omega))]; exact ih (i + 1) (by omega)
theorem ishl_pow {k : Nat} (h : k ≤ 10) : ishl .i64 1 (k : Int) = ((2 ^ k : Nat) : Int) := by
  have : ∀ k : Nat, k < 11 → ishl .i64 1 (k : Int) = ((2 ^ k : Nat) : Int) := by decide
  exact this k (by omega)
theorem pow_small {k : Nat} (h : k ≤ 10) : 2 ^ k ≤ 1024 := Nat.pow_le_pow_right (n := 2) (by decide) h
def firstMx (ss : List (Int × List Int × Unit)) : Int × List Int × Unit := ss.headD (0, [], ())
theorem first_at {ss : List (Int × List Int × Unit)} (h : 0 < ss.length) : ss[0]? = some (firstMx ss) := by
  cases ss with
  | nil => simp at h
  | cons x l => rfl
noncomputable def badMx (ss : List (Int × List Int × Unit)) (i : Nat) (x : Int × List Int × Unit) : Bool :=
  !spMx x || !decide (x.1 = (firstMx ss).1) || !decide ((x.2.1.length : Int) = ((firstMx ss).2.1.length : Int)) || (ss.take i).any fun y => decide (x.2.1 = y.2.1)
noncomputable def validSs (ss : List (Int × List Int × Unit)) : Bool := inR (ss.length : Int) 1 400 && goV (badMx ss) 0 ss
theorem validSs_iff {ss : List (Int × List Int × Unit)} (h : validSs ss = true) : 1 ≤ ss.length ∧ ss.length ≤ 400 ∧ ∀ x ∈ ss, spMx x = true ∧ x.1 = (firstMx ss).1 := by
  unfold validSs at h
  rw [Bool.and_eq_true, inR_iff, goV_iff] at h
  refine ⟨by omega, by omega, fun x hx => ?_⟩
  obtain ⟨j, hj⟩ := List.getElem?_of_mem hx
  have := h.2 j x hj
  unfold badMx at this
  simp only [Bool.or_eq_false_iff, Bool.not_eq_false'] at this
  exact ⟨this.1.1.1, of_decide_eq_true this.1.1.2⟩
def shortSs (ss : List (Int × List Int × Unit)) : Prop := ss.length ≤ 1048576 ∧ ∀ x ∈ ss, x.2.1.length ≤ 1048576
def holderV {α : Type} (p : α → Bool) (l : List α) : Int := if l.countP p = 1 then idxI p 0 l else -1
def colsN (ss : List (Int × List Int × Unit)) : Nat := (firstMx ss).1.toNat
noncomputable def spreadV (ss : List (Int × List Int × Unit)) : Bool := (List.range' 1 (2 ^ colsN ss - 1)).all fun r => decide (ss.countP (fun m => inMx m (r : Int)) = 1)
noncomputable def indexV (ss : List (Int × List Int × Unit)) (one : Int) : Int × Int :=
  cond (!validSs ss) (0, 1) (cond (!spreadV ss) (0, 4) (cond (!inR one 1 (top1 (firstMx ss).1)) (0, 2) (idxI (fun m => inMx m one) 0 ss, 0)))
theorem up_loop {β : Type} {step : Int → Tre (Int ⊕ β)} (p : Nat → Bool) (n : Nat) (b0 b1 : β) (hs : ∀ r, r < n → (step (r : Int)).run some = some (cond (p r) (.inl ((r + 1 : Nat) : Int)) (.inr b0))) (he : (step (n : Int)).run some = some (.inr b1)) :
    ∀ k i, i + k = n → loopF step (i : Int) = some (cond ((List.range' i k).all p) b1 b0) := by
  intro k
  induction k with
  | zero =>
    intro i hi
    obtain rfl : i = n := by omega
    exact loopF_done he
  | succ k ih =>
    intro i hi
    have h := hs i (by omega)
    rw [List.range'_succ, List.all_cons]
    cases hp : p i
    · rw [hp] at h; exact loopF_done h
    · rw [hp] at h
      rw [loopF_step h, ih (i + 1) (by omega), Bool.true_and]
theorem countP_idx {α : Type} {p : α → Bool} {l : List α} (h : l.countP p = 1) : 0 ≤ idxI p 0 l := by
  have h1 := idxI_any (p := p) l 0
  have : l.any p = true := by
    rw [List.any_eq_true]
    have : 0 < l.countP p := by omega
    exact List.countP_pos_iff.1 this
  rw [this] at h1
  exact of_decide_eq_true h1
theorem holder_neg {α : Type} (p : α → Bool) (l : List α) : decide (holderV p l < 0) = !decide (l.countP p = 1) := by
  unfold holderV
  by_cases h : l.countP p = 1
  · rw [if_pos h, decide_eq_true h]; have := countP_idx h; simp; omega
  · rw [if_neg h, decide_eq_false h]; rfl
theorem valid_up {ss : List (Int × List Int × Unit)} (h : validSs ss = true) : 1 ≤ colsN ss ∧ colsN ss ≤ 10 ∧ (firstMx ss).1 = (colsN ss : Int) ∧ 1 ≤ ss.length ∧ ss.length ≤ 400 ∧
    ∀ x ∈ ss, ∃ ns : List Nat, x = ((colsN ss : Int), up ns, ()) ∧ ns.length ≤ 10 ∧ (∀ n ∈ ns, n < 2 ^ colsN ss) ∧ IsEch ns ns := by
  obtain ⟨h1, h2, h3⟩ := validSs_iff h
  have hf : firstMx ss ∈ ss := List.mem_of_getElem? (first_at (by omega))
  obtain ⟨c, ns, he, k1, k2, _⟩ := spMx_up (h3 _ hf).1
  have hc : colsN ss = c := by unfold colsN; rw [he]; rfl
  refine ⟨by omega, by omega, by rw [he, hc], h1, h2, fun x hx => ?_⟩
  obtain ⟨c', ns', he', _, _, k3, k4, k5⟩ := spMx_up (h3 x hx).1
  have : c' = c := by
    have := (h3 x hx).2
    rw [he, he'] at this
    exact Int.ofNat.inj this
  subst this
  rw [hc]
  exact ⟨ns', he', k3, k4, k5⟩
def cntL (c : Nat) (w : List Nat) : List Int := (List.range (2 ^ c)).map fun r => ((w.count r : Nat) : Int)
theorem cntL_len (c : Nat) (w : List Nat) : (cntL c w).length = 2 ^ c := by simp [cntL]
theorem cntL_at {c : Nat} {w : List Nat} {r : Nat} (h : r < 2 ^ c) : (cntL c w)[r]? = some ((w.count r : Nat) : Int) := by
  unfold cntL
  rw [List.getElem?_map, List.getElem?_range h]
  rfl
theorem cntL_set {c : Nat} {w : List Nat} {x : Nat} (h : x < 2 ^ c) : (cntL c w).set x ((w.count x : Nat) + 1 : Int) = cntL c (w ++ [x]) := by
  apply List.ext_getElem?
  intro r
  by_cases hr : r < 2 ^ c
  · rw [cntL_at hr]
    by_cases hx : x = r
    · subst hx
      rw [List.getElem?_set_self (by rw [cntL_len]; exact hr), List.count_append, List.count_singleton_self]
      simp
    · rw [List.getElem?_set_ne hx, cntL_at hr, List.count_append, List.count_singleton]
      simp [hx]
  · rw [List.getElem?_eq_none (by rw [List.length_set, cntL_len]; omega), List.getElem?_eq_none (by rw [cntL_len]; omega)]
theorem cntL_congr {c : Nat} {w w' : List Nat} (h : ∀ r, w.count r = w'.count r) : cntL c w = cntL c w' := by
  unfold cntL
  exact List.map_congr_left fun r _ => by rw [h r]
def rowsN (m : Int × List Int × Unit) : List Nat := m.2.1.map Int.toNat
def allV (ss : List (Int × List Int × Unit)) : List Nat := ss.flatMap fun m => vecN (rowsN m)
theorem allV_count {c : Nat} (hc : c ≤ 10) {r : Nat} (hr : r < 2 ^ c) : ∀ (ss : List (Int × List Int × Unit)), (∀ x ∈ ss, ∃ ns : List Nat, x = ((c : Int), up ns, ()) ∧ ns.length ≤ 10 ∧ (∀ n ∈ ns, n < 2 ^ c) ∧ IsEch ns ns) →
    (allV ss).count r = ss.countP fun m => inMx m (r : Int) := by
  intro ss
  induction ss with
  | nil => intro _; rfl
  | cons x l ih =>
    intro h
    obtain ⟨ns, rfl, k1, k2, k3⟩ := h x (.head _)
    have hi := ih fun y hy => h y (.tail _ hy)
    unfold allV at hi ⊢
    rw [List.flatMap_cons, List.count_append, hi, List.countP_cons]
    rw [show rowsN ((c : Int), up ns, ()) = ns from up_toNat ns, vec_count k3]
    have hs := inMx_sp hc k1 k2 k3 hr
    by_cases hp : Sp ns r
    · rw [if_pos hp, hs.2 hp, if_pos rfl]; omega
    · rw [if_neg hp]
      cases hb : inMx ((c : Int), up ns, ()) (r : Int)
      · simp
      · exact absurd (hs.1 hb) hp
theorem sortI_perm (l : List Int) : (sortI l).Perm l := List.mergeSort_perm _ _
theorem sortI_up (l : List Nat) : ∃ vs : List Nat, sortI (up l) = up vs ∧ vs.Perm l := by
  refine ⟨(sortI (up l)).map Int.toNat, ?_, ?_⟩
  · unfold up
    rw [List.map_map]
    refine ((List.map_congr_left fun x hx => ?_).trans (List.map_id _)).symm
    obtain ⟨n, _, rfl⟩ := List.mem_map.1 ((sortI_perm _).mem_iff.1 hx)
    simp
  · have := (sortI_perm (up l)).map Int.toNat
    rwa [up_toNat] at this
end Go.Proofs.Ythnkanacjhlhhaa

namespace Go.Proofs.Ythnkanacjhlhhaa
open Go Go.Abs Go.Proofs
noncomputable def l_szMatrixS_l5 (h5_0_0 : (List TMatrix)) : (Int × Int) → Tre ((Int × Int) ⊕ ((Int × Int) ⊕ Int)) := fun s5 =>
  .cond (decide (s5.2 < (h5_0_0.length : Int)))
    (.ite (0 ≤ s5.2 ∧ s5.2 < (h5_0_0.length : Int)) <|
    .mat (h5_0_0[s5.2.toNat]?) fun x2 =>
    .cond (decide ((l_szMatrix_S x2 s5.1) < 0))
      (.ret (.inr (.inl ((l_szMatrix_S x2 s5.1), -1))))
      (.ret (.inl ((l_szMatrix_S x2 s5.1), iwrap .i64 (s5.2 + 1)))))
    (.ret (.inr (.inr s5.1)))
noncomputable def l_szMatrixS (p0 : (List TMatrix)) (p1 : Int) : Tre Int :=
  let v1 := iwrap .i64 (p1 - (p0.length : Int))
  .cond (decide (v1 < 0))
    (.ret (-1))
    (.mat (loopF (l_szMatrixS_l5 p0) (v1, 0)) fun l3 =>
    .alt l3
      (fun a4 =>
        .ret a4.2)
      (fun b5 =>
        .ret b5))
noncomputable def l_szMatrixS_F (p0 : (List TMatrix)) (p1 : Int) : Option Int := (l_szMatrixS p0 p1).run some
-- more
theorem szMatrix_pos {x : Int × List Int × Unit} {n : Int} (h0 : 0 ≤ n) (h1 : n ≤ 1048576) (hl : x.2.1.length ≤ maxLen) (h : ¬ l_szMatrix_S x n < 0) : x.2.1.length ≤ 1048576 ∧ 0 ≤ l_szMatrix_S x n ∧ l_szMatrix_S x n ≤ 1048576 := by
  unfold maxLen at hl
  have key : ∀ s, l_szInt64S_S x.2.1 n = s → ¬ s < 0 → x.2.1.length ≤ 1048576 ∧ 0 ≤ s ∧ s ≤ 1048576 := by
    rintro s rfl hs
    unfold l_szInt64S_S at hs ⊢
    dsimp only at hs ⊢
    rw [iwrap_i64 (by omega) (by omega)] at hs ⊢
    by_cases h2 : n - (x.2.1.length : Int) < 0
    · simp [h2] at hs
    · rw [decide_eq_false h2, cond_false]; omega
  unfold l_szMatrix_S at h ⊢
  by_cases h2 : l_szInt64S_S x.2.1 n < 0
  · rw [decide_eq_true h2, cond_true] at h; exact absurd (by decide) h
  · rw [decide_eq_false h2, cond_false]; exact key _ rfl h2
theorem szMatrixS_fold : ∀ (l : List (Int × List Int × Unit)) (i : Nat) (acc : Int), 0 ≤ acc → acc ≤ 1048576 → (∀ x ∈ l, x.2.1.length ≤ maxLen) →
    (∃ a : Int, foldE (β := (Int × Int) ⊕ Int) (fun _ acc x => cond (decide (l_szMatrix_S x acc < 0)) (.inr (.inl (l_szMatrix_S x acc, -1))) (.inl (l_szMatrix_S x acc))) (.inr) i acc l = .inl (a, -1)) ∨
    (∃ a : Int, foldE (β := (Int × Int) ⊕ Int) (fun _ acc x => cond (decide (l_szMatrix_S x acc < 0)) (.inr (.inl (l_szMatrix_S x acc, -1))) (.inl (l_szMatrix_S x acc))) (.inr) i acc l = .inr a ∧ ∀ x ∈ l, x.2.1.length ≤ 1048576) := by
  intro l
  induction l with
  | nil => intro i acc _ _ _; exact .inr ⟨acc, rfl, fun x hx => by cases hx⟩
  | cons x l ih =>
    intro i acc h0 h1 hl
    simp only [foldE]
    by_cases h : l_szMatrix_S x acc < 0
    · rw [decide_eq_true h, cond_true]; exact .inl ⟨_, rfl⟩
    · rw [decide_eq_false h, cond_false]
      obtain ⟨k1, k2, k3⟩ := szMatrix_pos h0 h1 (hl x (.head _)) h
      rcases ih (i + 1) (l_szMatrix_S x acc) k2 k3 fun y hy => hl y (.tail _ hy) with ⟨a, ha⟩ | ⟨a, ha, hb⟩
      · exact .inl ⟨a, ha⟩
      · refine .inr ⟨a, ha, fun y hy => ?_⟩
        rcases List.mem_cons.1 hy with rfl | hy
        · exact k1
        · exact hb y hy
theorem l_szMatrixS_is (ss : List (Int × List Int × Unit)) (hw : (K.sl kMatrix).wf ss) : ∃ r, l_szMatrixS_F ss 1048576 = some r ∧ (¬ r < 0 → shortSs ss) := by
  have hl : ∀ x ∈ ss, x.2.1.length ≤ maxLen := fun x hx => (hw.2 x hx).2.1.1
  have hll : ss.length ≤ maxLen := hw.1
  unfold l_szMatrixS_F l_szMatrixS
  unfold maxLen at hll
  dsimp only
  rw [iwrap_i64 (by omega) (by omega), Tre.run_cond]
  by_cases h : (1048576 : Int) - ss.length < 0
  · rw [decide_eq_true h]; exact ⟨-1, rfl, fun h => absurd (by decide) h⟩
  rw [decide_eq_false h, cond_false, Tre.run_mat]
  have := fold_loop' (xs := ss) (step := l_szMatrixS_l5 ss) (fun i acc => (acc, (i : Int))) (fun _ acc x => cond (decide (l_szMatrix_S x acc < 0)) (.inr (.inl (l_szMatrix_S x acc, -1))) (.inl (l_szMatrix_S x acc))) (.inr) (by
    intro i acc x hx
    have hi : i < ss.length := (List.getElem?_eq_some_iff.1 hx).1
    unfold l_szMatrixS_l5
    rw [run_inb hx, Tre.run_cond]
    dsimp only
    cases decide (l_szMatrix_S x acc < 0)
    · rw [cond_false, cond_false, Tre.run_ret, iwrap_succ (by omega)]
    · rfl)
    (by
    intro acc
    unfold l_szMatrixS_l5
    exact run_out) ((1048576 : Int) - ss.length)
  rw [show (((1048576 : Int) - ss.length), (0 : Int)) = (((1048576 : Int) - ss.length), ((0 : Nat) : Int)) from rfl, this]
  rcases szMatrixS_fold ss 0 ((1048576 : Int) - ss.length) (by omega) (by omega) hl with ⟨a, ha⟩ | ⟨a, ha, hb⟩
  · rw [ha]; exact ⟨-1, rfl, fun h => absurd (by decide) h⟩
  · rw [ha]; exact ⟨a, rfl, fun _ => ⟨by omega, hb⟩⟩
noncomputable def l_szMatrixS_V : Env := ⟨tau, [(37, l_szMatrix_c)], []⟩
noncomputable def l_szMatrixS_b : Code := (Try.f7.body).getD .skip
noncomputable def l_szMatrixS_l5_mk (z5_0 : Bool) (h5_0_0 : (List TMatrix)) : (Int × Int) → St := fun x => stOf [(0, (.imm z5_0 (.sl kMatrix) h5_0_0)), (1, (.imm true (.int .i64) x.1)), (5, (.imm true (.int .i64) x.2))] []
noncomputable def l_szMatrixS_l5_out (_z5_0 : Bool) (_h5_0_0 : (List TMatrix)) : ((Int × Int) ⊕ Int) → Ex × St
  | .inl x => (.ret, stOf [(1, (.imm true (.int .i64) x.1)), (4, (.imm true (.int .i64) x.2))] [])
  | .inr x => (.exit 0, stOf [(1, (.imm true (.int .i64) x)), (4, .dead)] [])
noncomputable def l_szMatrixS_l5_D (s : St) : Tre (Ex × St) :=
  asImm (.sl kMatrix) (s.tmps 0) fun z3 d2 =>
  asImmZ true (.int .i64) (s.tmps 1) fun d5 =>
  asImmZ true (.int .i64) (s.tmps 5) fun d7 =>
  .mat (loopF (l_szMatrixS_l5 d2) (d5, d7)) fun x => .alt x (fun a0 => .ret (l_szMatrixS_l5_out z3 d2 (.inl a0))) (fun b0 => .ret (l_szMatrixS_l5_out z3 d2 (.inr b0)))
noncomputable def l_szMatrixS_l5_L : LoopI := ⟨([0, 1, 5], []), ([1, 4], []), l_szMatrixS_l5_D⟩
noncomputable def l_szMatrixS_A : List (Nat × LoopI) := [(5, l_szMatrixS_l5_L)]
set_option maxRecDepth 100000 in
theorem l_szMatrixS_l5_step : ∀ (z5_0 : Bool) (h5_0_0 : (List TMatrix)) (x : (Int × Int)) (c : St → Option (Ex × St)), den l_szMatrixS_V l_szMatrixS_A (loopAt l_szMatrixS_b 0) (l_szMatrixS_l5_mk z5_0 h5_0_0 x) (roundK l_szMatrixS_l5_L.kp l_szMatrixS_l5_L.kx c) = (l_szMatrixS_l5 h5_0_0 x).run (roundR (l_szMatrixS_l5_mk z5_0 h5_0_0) (l_szMatrixS_l5_out z5_0 h5_0_0) c) := fun _ _ _ _ => by
  kernel_rfl
theorem l_szMatrixS_l5_ok : LoopOK l_szMatrixS_V l_szMatrixS_A (loopAt l_szMatrixS_b 0) l_szMatrixS_l5_L := loopOK_of fun s e s' h => by
  generalize hs : restrict l_szMatrixS_l5_L.kp s = s1 at h
  have h : (l_szMatrixS_l5_D s1).run some = some (e, s') := h
  obtain ⟨z3, d2, e1, h_0⟩ := asImm_spec h
  obtain ⟨d5, e4, h_1⟩ := asImmZ_spec h_0
  obtain ⟨d7, e6, h_2⟩ := asImmZ_spec h_1
  obtain ⟨y, hy, hz⟩ := mat_some h_2
  refine ⟨_, _, l_szMatrixS_l5_mk z3 d2, l_szMatrixS_l5_out z3 d2, l_szMatrixS_l5 d2, (d5, d7), y, ?_, hy, ?_, l_szMatrixS_l5_step z3 d2⟩
  · subst hs; exact restrict_eq (T := [(0, (.imm z3 (.sl kMatrix) d2)), (1, (.imm true (.int .i64) d5)), (5, (.imm true (.int .i64) d7))]) (U := []) rfl rfl ⟨e1, e4, e6, trivial⟩ trivial
  · rcases y with x | x <;> exact Option.some.inj hz
noncomputable def l_szMatrixS_I : FnI := ⟨l_szMatrixS_b, Try.f7.results.toList, Try.f7.resultTypes.toList, l_szMatrixS_A⟩
noncomputable def l_szMatrixS_out (_zp0 : Bool) (_p0 : (List TMatrix)) (_p1 : Int) : Int → CallOut := fun r => ⟨(.imm true (.int .i64) r), [], []⟩
set_option maxRecDepth 100000 in
theorem l_szMatrixS_eq : ∀ (zp0 : Bool) (p0 : (List TMatrix)) (p1 : Int), denFn l_szMatrixS_V l_szMatrixS_I ⟨[(.imm zp0 (.sl kMatrix) p0), (.imm true (.int .i64) p1)], []⟩ = (l_szMatrixS p0 p1).run fun r => some (l_szMatrixS_out zp0 p0 p1 r) := fun _ _ _ => by kernel_rfl
noncomputable def l_szMatrixS_G (av : List AV) (rs : List Root) : Tre CallOut :=
  asCons av fun a0_ av0 =>
  asCons av0 fun a1_ av1 =>
  asEnd av1 <|
  asEnd rs <|
  asImm (.sl kMatrix) a0_ fun z2 d1 =>
  asImmZ true (.int .i64) a1_ fun d3 =>
  .mat (l_szMatrixS_F d1 d3) fun r => .ret (l_szMatrixS_out z2 d1 d3 r)
noncomputable def l_szMatrixS_c : Ctr := ⟨[], fun ci => l_szMatrixS_G ci.args ci.roots, false⟩
theorem l_szMatrixS_env : EnvOK Try.prog .none l_szMatrixS_V := (envOK_cons l_szMatrix_ok ent37 envOK_nil)
set_option maxRecDepth 100000 in
theorem l_szMatrixS_ok : Contract Try.prog .none 7 l_szMatrixS_c := by
  have hl : LoopsOK l_szMatrixS_V l_szMatrixS_A l_szMatrixS_b := (loopsOK_all (n := 1) (by kernel_rfl) fun k hk => by
      match k, hk with
      | 0, _ => exact loopOK_at (id := 5) (L := l_szMatrixS_l5_L) (by kernel_rfl) (by kernel_rfl) l_szMatrixS_l5_ok)
  refine (contract_of (F := l_szMatrixS_I) tau_tys l_szMatrixS_env Try.func7 (by kernel_rfl) (by kernel_rfl) (by kernel_rfl) hl []).weaken ?_
  rintro ⟨av, rs⟩ co h
  have h : (l_szMatrixS_G av rs).run some = some co := h
  obtain ⟨a0_, av0, rfl, h_0⟩ := asCons_spec h
  obtain ⟨a1_, av1, rfl, h_1⟩ := asCons_spec h_0
  obtain ⟨rfl, h_2⟩ := asEnd_spec h_1
  obtain ⟨rfl, h_3⟩ := asEnd_spec h_2
  obtain ⟨z2, d1, rfl, h_4⟩ := asImm_spec h_3
  obtain ⟨d3, rfl, h_5⟩ := asImmZ_spec h_4
  exact fin_mat (l_szMatrixS_eq z2 d1 d3) h_5
end Go.Proofs.Ythnkanacjhlhhaa

namespace Go.Proofs.Ythnkanacjhlhhaa
open Go Go.Abs Go.Proofs
noncomputable def l_toInt64S_l3 (h3_0_0 : (List Int)) : (Int × (List Int)) → Tre ((Int × (List Int)) ⊕ (List Int)) := fun s3 =>
  .cond (decide (s3.1 < (h3_0_0.length : Int)))
    (.ite (0 ≤ s3.1 ∧ s3.1 < (h3_0_0.length : Int)) <|
    .mat (h3_0_0[s3.1.toNat]?) fun x1 =>
    .ite (0 ≤ s3.1 ∧ s3.1 < (s3.2.length : Int)) <|
    .mat (s3.2[s3.1.toNat]?) fun _ =>
    let v3 := s3.2.set s3.1.toNat x1
    .ret (.inl (iwrap .i64 (s3.1 + 1), v3)))
    (.ret (.inr s3.2))
noncomputable def l_toInt64S (p0 : (List Int)) : Tre (List Int) :=
  .ite (((.int .i64) : K) = (.int .i64) ∧ 0 ≤ (p0.length : Int) ∧ (p0.length : Int) = (p0.length : Int) ∧ (p0.length : Int) * (8 : Nat) ≤ 140737488355328 ∧ 1 ≤ 8) <|
  .mat (loopF (l_toInt64S_l3 p0) (0, List.replicate (p0.length : Int).toNat 0)) fun l4 =>
  .ret l4
noncomputable def l_toInt64S_F (p0 : (List Int)) : Option (List Int) := (l_toInt64S p0).run some
theorem l_toInt64S_spec (p0 : List Int) (y : List Int) (h : cloneR p0 = some y) : l_toInt64S_F p0 = some y := by
  obtain ⟨hl, rfl⟩ := lim_some h
  unfold l_toInt64S_F l_toInt64S
  rw [Tre.run_ite, if_pos ⟨rfl, by omega, rfl, by omega, by omega⟩, Tre.run_mat]
  have := fold_loop (xs := p0) (step := l_toInt64S_l3 p0) (fun i acc => ((i : Int), acc)) (fun i acc x => .inl (acc.set i x)) id (fun i acc => acc.length = p0.length) (by
    intro i acc x hx hI
    have hi : i < p0.length := (List.getElem?_eq_some_iff.1 hx).1
    refine ⟨?_, fun a ha => by cases ha; simpa using hI⟩
    unfold l_toInt64S_l3
    rw [run_inb hx]
    rw [show acc.length = p0.length from hI] 
    rw [Tre.run_ite, if_pos ⟨by dsimp only; omega, by dsimp only; omega⟩, Tre.run_mat]
    dsimp only
    rw [Int.toNat_natCast, List.getElem?_eq_getElem (by omega : i < acc.length), Option.bind_some, Tre.run_ret, iwrap_succ (by omega)])
    (by
    intro acc hI
    unfold l_toInt64S_l3
    exact run_out)
    p0 0 (List.replicate p0.length 0) rfl (Nat.zero_le _) (by simp)
  rw [Int.toNat_natCast]
  rw [show ((0 : Int), List.replicate p0.length (0 : Int)) = (((0 : Nat) : Int), List.replicate p0.length 0) from rfl, this, foldE_set _ _ _ _ (by simp)]
  simp [Tre.run_ret]
noncomputable def l_toInt64S_V : Env := ⟨tau, [], []⟩
noncomputable def l_toInt64S_b : Code := (Try.f94.body).getD .skip
noncomputable def l_toInt64S_l3_mk (z3_0 : Bool) (h3_0_0 : (List Int)) : (Int × (List Int)) → St := fun x => stOf [(0, (.imm z3_0 (.sl (.int .i64)) h3_0_0)), (3, (.ref (5, 0) [])), (4, (.imm true (.int .i64) x.1))] [((5, 0), some ⟨false, (.sl (.int .i64)), .own, x.2⟩)]
noncomputable def l_toInt64S_l3_out (_z3_0 : Bool) (_h3_0_0 : (List Int)) : (List Int) → Ex × St := fun x => (.exit 0, stOf [(3, (.ref (5, 0) []))] [((5, 0), some ⟨false, (.sl (.int .i64)), .own, x⟩)])
noncomputable def l_toInt64S_l3_D (s : St) : Tre (Ex × St) :=
  asImm (.sl (.int .i64)) (s.tmps 0) fun z3 d2 =>
  asRef (5, 0) [] (s.tmps 3) <|
  asImmZ true (.int .i64) (s.tmps 4) fun d6 =>
  asRoot false (.sl (.int .i64)) (s.roots (5, 0)) fun m8 d9 =>
  asM .own m8 <|
  .mat (loopF (l_toInt64S_l3 d2) (d6, d9)) fun x => .ret (l_toInt64S_l3_out z3 d2 x)
noncomputable def l_toInt64S_l3_L : LoopI := ⟨([0, 3, 4], [(5, 0)]), ([3], [(5, 0)]), l_toInt64S_l3_D⟩
noncomputable def l_toInt64S_A : List (Nat × LoopI) := [(3, l_toInt64S_l3_L)]
set_option maxRecDepth 100000 in
theorem l_toInt64S_l3_step : ∀ (z3_0 : Bool) (h3_0_0 : (List Int)) (x : (Int × (List Int))) (c : St → Option (Ex × St)), den l_toInt64S_V l_toInt64S_A (loopAt l_toInt64S_b 0) (l_toInt64S_l3_mk z3_0 h3_0_0 x) (roundK l_toInt64S_l3_L.kp l_toInt64S_l3_L.kx c) = (l_toInt64S_l3 h3_0_0 x).run (roundR (l_toInt64S_l3_mk z3_0 h3_0_0) (l_toInt64S_l3_out z3_0 h3_0_0) c) := fun _ _ _ _ => by
  kernel_rfl
theorem l_toInt64S_l3_ok : LoopOK l_toInt64S_V l_toInt64S_A (loopAt l_toInt64S_b 0) l_toInt64S_l3_L := loopOK_of fun s e s' h => by
  generalize hs : restrict l_toInt64S_l3_L.kp s = s1 at h
  have h : (l_toInt64S_l3_D s1).run some = some (e, s') := h
  obtain ⟨z3, d2, e1, h_0⟩ := asImm_spec h
  obtain ⟨e4, h_1⟩ := asRef_spec h_0
  obtain ⟨d6, e5, h_2⟩ := asImmZ_spec h_1
  obtain ⟨m8, d9, e7, h_3⟩ := asRoot_spec h_2
  obtain ⟨rfl, h_4⟩ := asM_spec h_3
  obtain ⟨y, hy, hz⟩ := mat_ret h_4
  refine ⟨_, _, l_toInt64S_l3_mk z3 d2, l_toInt64S_l3_out z3 d2, l_toInt64S_l3 d2, (d6, d9), y, ?_, hy, ?_, l_toInt64S_l3_step z3 d2⟩
  · subst hs; exact restrict_eq (T := [(0, (.imm z3 (.sl (.int .i64)) d2)), (3, (.ref (5, 0) [])), (4, (.imm true (.int .i64) d6))]) (U := [((5, 0), some ⟨false, (.sl (.int .i64)), .own, d9⟩)]) rfl rfl ⟨e1, e4, e5, trivial⟩ ⟨e7, trivial⟩
  · exact Option.some.inj hz
noncomputable def l_toInt64S_I : FnI := ⟨l_toInt64S_b, Try.f94.results.toList, Try.f94.resultTypes.toList, l_toInt64S_A⟩
noncomputable def l_toInt64S_out (_zp0 : Bool) (_p0 : (List Int)) : (List Int) → CallOut := fun r => ⟨(.ref (1, 0) []), [], [⟨false, (.sl (.int .i64)), .own, r⟩]⟩
set_option maxRecDepth 100000 in
theorem l_toInt64S_eq : ∀ (zp0 : Bool) (p0 : (List Int)), denFn l_toInt64S_V l_toInt64S_I ⟨[(.imm zp0 (.sl (.int .i64)) p0)], []⟩ = (l_toInt64S p0).run fun r => some (l_toInt64S_out zp0 p0 r) := fun _ _ => by kernel_rfl
noncomputable def l_toInt64S_G (av : List AV) (rs : List Root) : Tre CallOut :=
  asCons av fun a0_ av0 =>
  asEnd av0 <|
  asEnd rs <|
  asImm (.sl (.int .i64)) a0_ fun z2 d1 =>
  .mat (cloneR d1) fun r => .ret (l_toInt64S_out z2 d1 r)
noncomputable def l_toInt64S_c : Ctr := ⟨[], fun ci => l_toInt64S_G ci.args ci.roots, false⟩
theorem l_toInt64S_env : EnvOK Try.prog .none l_toInt64S_V := envOK_nil
set_option maxRecDepth 100000 in
theorem l_toInt64S_ok : Contract Try.prog .none 94 l_toInt64S_c := by
  have hl : LoopsOK l_toInt64S_V l_toInt64S_A l_toInt64S_b := (loopsOK_all (n := 1) (by kernel_rfl) fun k hk => by
      match k, hk with
      | 0, _ => exact loopOK_at (id := 3) (L := l_toInt64S_l3_L) (by kernel_rfl) (by kernel_rfl) l_toInt64S_l3_ok)
  refine (contract_of (F := l_toInt64S_I) tau_tys l_toInt64S_env Try.func94 (by kernel_rfl) (by kernel_rfl) (by kernel_rfl) hl []).weaken ?_
  rintro ⟨av, rs⟩ co h
  have h : (l_toInt64S_G av rs).run some = some co := h
  obtain ⟨a0_, av0, rfl, h_0⟩ := asCons_spec h
  obtain ⟨rfl, h_1⟩ := asEnd_spec h_0
  obtain ⟨rfl, h_2⟩ := asEnd_spec h_1
  obtain ⟨z2, d1, rfl, h_3⟩ := asImm_spec h_2
  exact fin_opt (l_toInt64S_eq z2 d1) (l_toInt64S_spec d1) h_3
end Go.Proofs.Ythnkanacjhlhhaa

namespace Go.Proofs.Ythnkanacjhlhhaa
open Go Go.Abs Go.Proofs
noncomputable def l_toMatrix (p0 : TMatrix) : Tre (Int × (List Int)) :=
  .mat (cloneR p0.2.1) fun r1 =>
  .ret (p0.1, r1)
noncomputable def l_toMatrix_F (p0 : TMatrix) : Option (Int × (List Int)) := (l_toMatrix p0).run some
noncomputable def l_toMatrix_V : Env := ⟨tau, [(94, l_toInt64S_c)], []⟩
noncomputable def l_toMatrix_b : Code := (Try.f42.body).getD .skip
noncomputable def l_toMatrix_I : FnI := ⟨l_toMatrix_b, Try.f42.results.toList, Try.f42.resultTypes.toList, []⟩
noncomputable def l_toMatrix_out (_zp0 : Bool) (_p0 : TMatrix) : (Int × (List Int)) → CallOut := fun r => ⟨(.pair (.imm true (.int .i64) r.1) (.pair (.ref (1, 0) []) (.imm true .unit ()))), [], [⟨false, (.sl (.int .i64)), .own, r.2⟩]⟩
set_option maxRecDepth 100000 in
theorem l_toMatrix_eq : ∀ (zp0 : Bool) (p0 : TMatrix), denFn l_toMatrix_V l_toMatrix_I ⟨[(.imm zp0 kMatrix p0)], []⟩ = (l_toMatrix p0).run fun r => some (l_toMatrix_out zp0 p0 r) := fun _ _ => by kernel_rfl
noncomputable def l_toMatrix_G (av : List AV) (rs : List Root) : Tre CallOut :=
  asCons av fun a0_ av0 =>
  asEnd av0 <|
  asEnd rs <|
  asImm kMatrix a0_ fun z2 d1 =>
  .mat (l_toMatrix_F d1) fun r => .ret (l_toMatrix_out z2 d1 r)
noncomputable def l_toMatrix_c : Ctr := ⟨[], fun ci => l_toMatrix_G ci.args ci.roots, false⟩
theorem l_toMatrix_env : EnvOK Try.prog .none l_toMatrix_V := (envOK_cons l_toInt64S_ok ent94 envOK_nil)
set_option maxRecDepth 100000 in
theorem l_toMatrix_ok : Contract Try.prog .none 42 l_toMatrix_c := by
  have hl : LoopsOK l_toMatrix_V [] l_toMatrix_b := loopsOK_nil (by kernel_rfl)
  refine (contract_of (F := l_toMatrix_I) tau_tys l_toMatrix_env Try.func42 (by kernel_rfl) (by kernel_rfl) (by kernel_rfl) hl []).weaken ?_
  rintro ⟨av, rs⟩ co h
  have h : (l_toMatrix_G av rs).run some = some co := h
  obtain ⟨a0_, av0, rfl, h_0⟩ := asCons_spec h
  obtain ⟨rfl, h_1⟩ := asEnd_spec h_0
  obtain ⟨rfl, h_2⟩ := asEnd_spec h_1
  obtain ⟨z2, d1, rfl, h_3⟩ := asImm_spec h_2
  exact fin_mat (l_toMatrix_eq z2 d1) h_3
end Go.Proofs.Ythnkanacjhlhhaa

namespace Go.Proofs.Ythnkanacjhlhhaa
open Go Go.Abs Go.Proofs
noncomputable def l_toMatrixS_l3 (h3_0_0 : (List TMatrix)) : (Int × (List TMatrix)) → Tre ((Int × (List TMatrix)) ⊕ (List TMatrix)) := fun s3 =>
  .cond (decide (s3.1 < (h3_0_0.length : Int)))
    (.ite (0 ≤ s3.1 ∧ s3.1 < (h3_0_0.length : Int)) <|
    .mat (h3_0_0[s3.1.toNat]?) fun x1 =>
    .mat (l_toMatrix_F x1) fun r2 =>
    .ite (0 ≤ s3.1 ∧ s3.1 < (s3.2.length : Int)) <|
    .mat (s3.2[s3.1.toNat]?) fun _ =>
    let v4 := s3.2.set s3.1.toNat (r2.1, (r2.2, ()))
    .ret (.inl (iwrap .i64 (s3.1 + 1), v4)))
    (.ret (.inr s3.2))
noncomputable def l_toMatrixS (p0 : (List TMatrix)) : Tre (List TMatrix) :=
  .ite ((kMatrix : K) = kMatrix ∧ 0 ≤ (p0.length : Int) ∧ (p0.length : Int) = (p0.length : Int) ∧ (p0.length : Int) * (32 : Nat) ≤ 140737488355328 ∧ 1 ≤ 32) <|
  .mat (loopF (l_toMatrixS_l3 p0) (0, List.replicate (p0.length : Int).toNat ((0, ([], ())) : TMatrix))) fun l5 =>
  .ret l5
noncomputable def l_toMatrixS_F (p0 : (List TMatrix)) : Option (List TMatrix) := (l_toMatrixS p0).run some
-- more
theorem l_toMatrix_is (m : Int × List Int × Unit) (h : m.2.1.length ≤ 1048576) : l_toMatrix_F m = some (m.1, m.2.1) := by
  unfold l_toMatrix_F l_toMatrix
  rw [run_some_mat (show cloneR m.2.1 = _ from lim_of h)]
  rfl
theorem l_toMatrixS_is (p0 : List (Int × List Int × Unit)) (h : shortSs p0) : l_toMatrixS_F p0 = some p0 := by
  obtain ⟨hl, hm⟩ := h
  unfold l_toMatrixS_F l_toMatrixS
  rw [Tre.run_ite, if_pos ⟨rfl, by omega, rfl, by omega, by omega⟩, Tre.run_mat]
  have := fold_loop (xs := p0) (step := l_toMatrixS_l3 p0) (fun i acc => ((i : Int), acc)) (fun i acc x => .inl (acc.set i x)) id (fun i acc => acc.length = p0.length) (by
    intro i acc x hx hI
    have hi : i < p0.length := (List.getElem?_eq_some_iff.1 hx).1
    refine ⟨?_, fun a ha => by cases ha; simpa using hI⟩
    unfold l_toMatrixS_l3
    rw [run_inb hx, run_some_mat (l_toMatrix_is x (hm x (List.mem_of_getElem? hx)))]
    rw [show acc.length = p0.length from hI]
    rw [Tre.run_ite, if_pos ⟨by dsimp only; omega, by dsimp only; omega⟩, Tre.run_mat]
    dsimp only
    rw [Int.toNat_natCast, List.getElem?_eq_getElem (by omega : i < acc.length), Option.bind_some, Tre.run_ret, iwrap_succ (by omega)])
    (by
    intro acc hI
    unfold l_toMatrixS_l3
    exact run_out)
    p0 0 (List.replicate p0.length (0, [], ())) rfl (Nat.zero_le _) (by simp)
  rw [Int.toNat_natCast]
  rw [show ((0 : Int), List.replicate p0.length ((0, [], ()) : Int × List Int × Unit)) = (((0 : Nat) : Int), List.replicate p0.length (0, [], ())) from rfl, this, foldE_set _ _ _ _ (by simp)]
  simp [Tre.run_ret]
noncomputable def l_toMatrixS_V : Env := ⟨tau, [(42, l_toMatrix_c)], []⟩
noncomputable def l_toMatrixS_b : Code := (Try.f9.body).getD .skip
noncomputable def l_toMatrixS_l3_mk (z3_0 : Bool) (h3_0_0 : (List TMatrix)) : (Int × (List TMatrix)) → St := fun x => stOf [(0, (.imm z3_0 (.sl kMatrix) h3_0_0)), (3, (.ref (5, 0) [])), (4, (.imm true (.int .i64) x.1))] [((5, 0), some ⟨false, (.sl kMatrix), .own, x.2⟩)]
noncomputable def l_toMatrixS_l3_out (_z3_0 : Bool) (_h3_0_0 : (List TMatrix)) : (List TMatrix) → Ex × St := fun x => (.exit 0, stOf [(3, (.ref (5, 0) []))] [((5, 0), some ⟨false, (.sl kMatrix), .own, x⟩)])
noncomputable def l_toMatrixS_l3_D (s : St) : Tre (Ex × St) :=
  asImm (.sl kMatrix) (s.tmps 0) fun z3 d2 =>
  asRef (5, 0) [] (s.tmps 3) <|
  asImmZ true (.int .i64) (s.tmps 4) fun d6 =>
  asRoot false (.sl kMatrix) (s.roots (5, 0)) fun m8 d9 =>
  asM .own m8 <|
  .mat (loopF (l_toMatrixS_l3 d2) (d6, d9)) fun x => .ret (l_toMatrixS_l3_out z3 d2 x)
noncomputable def l_toMatrixS_l3_L : LoopI := ⟨([0, 3, 4], [(5, 0)]), ([3], [(5, 0)]), l_toMatrixS_l3_D⟩
noncomputable def l_toMatrixS_A : List (Nat × LoopI) := [(3, l_toMatrixS_l3_L)]
set_option maxRecDepth 100000 in
theorem l_toMatrixS_l3_step : ∀ (z3_0 : Bool) (h3_0_0 : (List TMatrix)) (x : (Int × (List TMatrix))) (c : St → Option (Ex × St)), den l_toMatrixS_V l_toMatrixS_A (loopAt l_toMatrixS_b 0) (l_toMatrixS_l3_mk z3_0 h3_0_0 x) (roundK l_toMatrixS_l3_L.kp l_toMatrixS_l3_L.kx c) = (l_toMatrixS_l3 h3_0_0 x).run (roundR (l_toMatrixS_l3_mk z3_0 h3_0_0) (l_toMatrixS_l3_out z3_0 h3_0_0) c) := fun _ _ _ _ => by
  kernel_rfl
theorem l_toMatrixS_l3_ok : LoopOK l_toMatrixS_V l_toMatrixS_A (loopAt l_toMatrixS_b 0) l_toMatrixS_l3_L := loopOK_of fun s e s' h => by
  generalize hs : restrict l_toMatrixS_l3_L.kp s = s1 at h
  have h : (l_toMatrixS_l3_D s1).run some = some (e, s') := h
  obtain ⟨z3, d2, e1, h_0⟩ := asImm_spec h
  obtain ⟨e4, h_1⟩ := asRef_spec h_0
  obtain ⟨d6, e5, h_2⟩ := asImmZ_spec h_1
  obtain ⟨m8, d9, e7, h_3⟩ := asRoot_spec h_2
  obtain ⟨rfl, h_4⟩ := asM_spec h_3
  obtain ⟨y, hy, hz⟩ := mat_ret h_4
  refine ⟨_, _, l_toMatrixS_l3_mk z3 d2, l_toMatrixS_l3_out z3 d2, l_toMatrixS_l3 d2, (d6, d9), y, ?_, hy, ?_, l_toMatrixS_l3_step z3 d2⟩
  · subst hs; exact restrict_eq (T := [(0, (.imm z3 (.sl kMatrix) d2)), (3, (.ref (5, 0) [])), (4, (.imm true (.int .i64) d6))]) (U := [((5, 0), some ⟨false, (.sl kMatrix), .own, d9⟩)]) rfl rfl ⟨e1, e4, e5, trivial⟩ ⟨e7, trivial⟩
  · exact Option.some.inj hz
noncomputable def l_toMatrixS_I : FnI := ⟨l_toMatrixS_b, Try.f9.results.toList, Try.f9.resultTypes.toList, l_toMatrixS_A⟩
noncomputable def l_toMatrixS_out (_zp0 : Bool) (_p0 : (List TMatrix)) : (List TMatrix) → CallOut := fun r => ⟨(.ref (1, 0) []), [], [⟨false, (.sl kMatrix), .own, r⟩]⟩
set_option maxRecDepth 100000 in
theorem l_toMatrixS_eq : ∀ (zp0 : Bool) (p0 : (List TMatrix)), denFn l_toMatrixS_V l_toMatrixS_I ⟨[(.imm zp0 (.sl kMatrix) p0)], []⟩ = (l_toMatrixS p0).run fun r => some (l_toMatrixS_out zp0 p0 r) := fun _ _ => by kernel_rfl
noncomputable def l_toMatrixS_G (av : List AV) (rs : List Root) : Tre CallOut :=
  asCons av fun a0_ av0 =>
  asEnd av0 <|
  asEnd rs <|
  asImm (.sl kMatrix) a0_ fun z2 d1 =>
  .mat (l_toMatrixS_F d1) fun r => .ret (l_toMatrixS_out z2 d1 r)
noncomputable def l_toMatrixS_c : Ctr := ⟨[], fun ci => l_toMatrixS_G ci.args ci.roots, false⟩
theorem l_toMatrixS_env : EnvOK Try.prog .none l_toMatrixS_V := (envOK_cons l_toMatrix_ok ent42 envOK_nil)
set_option maxRecDepth 100000 in
theorem l_toMatrixS_ok : Contract Try.prog .none 9 l_toMatrixS_c := by
  have hl : LoopsOK l_toMatrixS_V l_toMatrixS_A l_toMatrixS_b := (loopsOK_all (n := 1) (by kernel_rfl) fun k hk => by
      match k, hk with
      | 0, _ => exact loopOK_at (id := 3) (L := l_toMatrixS_l3_L) (by kernel_rfl) (by kernel_rfl) l_toMatrixS_l3_ok)
  refine (contract_of (F := l_toMatrixS_I) tau_tys l_toMatrixS_env Try.func9 (by kernel_rfl) (by kernel_rfl) (by kernel_rfl) hl []).weaken ?_
  rintro ⟨av, rs⟩ co h
  have h : (l_toMatrixS_G av rs).run some = some co := h
  obtain ⟨a0_, av0, rfl, h_0⟩ := asCons_spec h
  obtain ⟨rfl, h_1⟩ := asEnd_spec h_0
  obtain ⟨rfl, h_2⟩ := asEnd_spec h_1
  obtain ⟨z2, d1, rfl, h_3⟩ := asImm_spec h_2
  exact fin_mat (l_toMatrixS_eq z2 d1) h_3
end Go.Proofs.Ythnkanacjhlhhaa

namespace Go.Proofs.Ythnkanacjhlhhaa
open Go Go.Abs Go.Proofs
noncomputable def s_l00In (p0 : Int) (p1 : Int) (p2 : Int) : Tre Bool :=
  .cond (decide (p0 ≥ p1))
    (.ret (decide (p0 ≤ p2)))
    (.ret false)
noncomputable def s_l00In_F (p0 : Int) (p1 : Int) (p2 : Int) : Option Bool := (s_l00In p0 p1 p2).run some
theorem s_l00In_spec (n a b : Int) : s_l00In_F n a b = some (inR n a b) := by
  unfold s_l00In_F s_l00In inR
  by_cases h : a ≤ n
  · simp [Tre.run_cond, Tre.run_ret, h]
  · simp [Tre.run_cond, Tre.run_ret, h]
noncomputable def s_l00In_V : Env := ⟨tau, [], []⟩
noncomputable def s_l00In_b : Code := (Try.f40.body).getD .skip
noncomputable def s_l00In_I : FnI := ⟨s_l00In_b, Try.f40.results.toList, Try.f40.resultTypes.toList, []⟩
noncomputable def s_l00In_out (_p0 : Int) (_p1 : Int) (_p2 : Int) : Bool → CallOut := fun r => ⟨(.imm true .bool r), [], []⟩
set_option maxRecDepth 100000 in
theorem s_l00In_eq : ∀ (p0 : Int) (p1 : Int) (p2 : Int), denFn s_l00In_V s_l00In_I ⟨[(.imm true (.int .i64) p0), (.imm true (.int .i64) p1), (.imm true (.int .i64) p2)], []⟩ = (s_l00In p0 p1 p2).run fun r => some (s_l00In_out p0 p1 p2 r) := fun _ _ _ => by kernel_rfl
noncomputable def s_l00In_G (av : List AV) (rs : List Root) : Tre CallOut :=
  asCons av fun a0_ av0 =>
  asCons av0 fun a1_ av1 =>
  asCons av1 fun a2_ av2 =>
  asEnd av2 <|
  asEnd rs <|
  asImmZ true (.int .i64) a0_ fun d1 =>
  asImmZ true (.int .i64) a1_ fun d2 =>
  asImmZ true (.int .i64) a2_ fun d3 =>
  .ret (s_l00In_out d1 d2 d3 (inR d1 d2 d3))
noncomputable def s_l00In_c : Ctr := ⟨[], fun ci => s_l00In_G ci.args ci.roots, false⟩
theorem s_l00In_env : EnvOK Try.prog .none s_l00In_V := envOK_nil
set_option maxRecDepth 100000 in
theorem s_l00In_ok : Contract Try.prog .none 40 s_l00In_c := by
  have hl : LoopsOK s_l00In_V [] s_l00In_b := loopsOK_nil (by kernel_rfl)
  refine (contract_of (F := s_l00In_I) tau_tys s_l00In_env Try.func40 (by kernel_rfl) (by kernel_rfl) (by kernel_rfl) hl []).weaken ?_
  rintro ⟨av, rs⟩ co h
  have h : (s_l00In_G av rs).run some = some co := h
  obtain ⟨a0_, av0, rfl, h_0⟩ := asCons_spec h
  obtain ⟨a1_, av1, rfl, h_1⟩ := asCons_spec h_0
  obtain ⟨a2_, av2, rfl, h_2⟩ := asCons_spec h_1
  obtain ⟨rfl, h_3⟩ := asEnd_spec h_2
  obtain ⟨rfl, h_4⟩ := asEnd_spec h_3
  obtain ⟨d1, rfl, h_5⟩ := asImmZ_spec h_4
  obtain ⟨d2, rfl, h_6⟩ := asImmZ_spec h_5
  obtain ⟨d3, rfl, h_7⟩ := asImmZ_spec h_6
  exact fin_ret (s_l00In_eq d1 d2 d3) (s_l00In_spec d1 d2 d3) h_7
end Go.Proofs.Ythnkanacjhlhhaa

namespace Go.Proofs.Ythnkanacjhlhhaa
open Go Go.Abs Go.Proofs
noncomputable def s_l02Ok_f995_l4 (h4_0_0 : TMatrix) : Int → Tre (Int ⊕ (Bool ⊕ Unit)) := fun s4 =>
  .cond (decide (s4 < (h4_0_0.2.1.length : Int)))
    (.ite (0 ≤ s4 ∧ s4 < (h4_0_0.2.1.length : Int)) <|
    .mat (h4_0_0.2.1[s4.toNat]?) fun x1 =>
    .ite (0 ≤ iwrap .u64 h4_0_0.1) <|
    let v2 := ishl .i64 1 (iwrap .u64 h4_0_0.1)
    let v3 := inR x1 0 (iwrap .i64 (v2 - 1))
    .cond (!v3)
      (.ret (.inr (.inl false)))
      (.ret (.inl (iwrap .i64 (s4 + 1)))))
    (.ret (.inr (.inr ())))
noncomputable def s_l02Ok_f995 (p0 : TMatrix) : Tre Bool :=
  .cond (!(inR p0.1 1 10))
    (.ret false)
    (.cond (decide ((p0.2.1.length : Int) > 10))
      (.ret false)
      (.mat (loopF (s_l02Ok_f995_l4 p0) 0) fun l4 =>
      .alt l4
        (fun a5 =>
          .ret a5)
        (fun _ =>
          .ret true)))
noncomputable def s_l02Ok_f995_F (p0 : TMatrix) : Option Bool := (s_l02Ok_f995 p0).run some
noncomputable def s_l02Ok_f995_V : Env := ⟨tau, [(40, s_l00In_c)], []⟩
noncomputable def s_l02Ok_f995_b : Code := (Try.f128.body).getD .skip
noncomputable def s_l02Ok_f995_l4_mk (z4_0 : Bool) (h4_0_0 : TMatrix) : Int → St := fun x => stOf [(0, (.iptr z4_0 (.sl kMatrix) ([h4_0_0]) [.idx 0])), (3, (.imm true (.int .i64) x))] []
noncomputable def s_l02Ok_f995_l4_out (_z4_0 : Bool) (_h4_0_0 : TMatrix) : (Bool ⊕ Unit) → Ex × St
  | .inl x => (.ret, stOf [(2, (.imm true .bool x))] [])
  | .inr x => (.exit 0, stOf [(2, .dead)] [])
noncomputable def s_l02Ok_f995_l4_D (s : St) : Tre (Ex × St) :=
  asIptr kMatrix (s.tmps 0) fun z2 d3 =>
  asImmZ true (.int .i64) (s.tmps 3) fun d5 =>
  .mat (loopF (s_l02Ok_f995_l4 d3) d5) fun x => .alt x (fun a0 => .ret (s_l02Ok_f995_l4_out z2 d3 (.inl a0))) (fun b0 => .ret (s_l02Ok_f995_l4_out z2 d3 (.inr b0)))
noncomputable def s_l02Ok_f995_l4_L : LoopI := ⟨([0, 3], []), ([2], []), s_l02Ok_f995_l4_D⟩
noncomputable def s_l02Ok_f995_A : List (Nat × LoopI) := [(4, s_l02Ok_f995_l4_L)]
set_option maxRecDepth 100000 in
theorem s_l02Ok_f995_l4_step : ∀ (z4_0 : Bool) (h4_0_0 : TMatrix) (x : Int) (c : St → Option (Ex × St)), den s_l02Ok_f995_V s_l02Ok_f995_A (loopAt s_l02Ok_f995_b 0) (s_l02Ok_f995_l4_mk z4_0 h4_0_0 x) (roundK s_l02Ok_f995_l4_L.kp s_l02Ok_f995_l4_L.kx c) = (s_l02Ok_f995_l4 h4_0_0 x).run (roundR (s_l02Ok_f995_l4_mk z4_0 h4_0_0) (s_l02Ok_f995_l4_out z4_0 h4_0_0) c) := fun _ _ _ _ => by
  kernel_rfl
theorem s_l02Ok_f995_l4_ok : LoopOK s_l02Ok_f995_V s_l02Ok_f995_A (loopAt s_l02Ok_f995_b 0) s_l02Ok_f995_l4_L := loopOK_of fun s e s' h => by
  generalize hs : restrict s_l02Ok_f995_l4_L.kp s = s1 at h
  have h : (s_l02Ok_f995_l4_D s1).run some = some (e, s') := h
  obtain ⟨z2, d3, e1, h_0⟩ := asIptr_spec h
  obtain ⟨d5, e4, h_1⟩ := asImmZ_spec h_0
  obtain ⟨y, hy, hz⟩ := mat_some h_1
  refine ⟨_, _, s_l02Ok_f995_l4_mk z2 d3, s_l02Ok_f995_l4_out z2 d3, s_l02Ok_f995_l4 d3, d5, y, ?_, hy, ?_, s_l02Ok_f995_l4_step z2 d3⟩
  · subst hs; exact restrict_eq (T := [(0, (.iptr z2 (.sl kMatrix) ([d3]) [.idx 0])), (3, (.imm true (.int .i64) d5))]) (U := []) rfl rfl ⟨e1, e4, trivial⟩ trivial
  · rcases y with x | x <;> exact Option.some.inj hz
noncomputable def s_l02Ok_f995_I : FnI := ⟨s_l02Ok_f995_b, Try.f128.results.toList, Try.f128.resultTypes.toList, s_l02Ok_f995_A⟩
noncomputable def s_l02Ok_f995_out (_zp0 : Bool) (_p0 : TMatrix) : Bool → CallOut := fun r => ⟨(.imm true .bool r), [], []⟩
set_option maxRecDepth 100000 in
theorem s_l02Ok_f995_eq : ∀ (zp0 : Bool) (p0 : TMatrix), denFn s_l02Ok_f995_V s_l02Ok_f995_I ⟨[(.iptr zp0 (.sl kMatrix) ([p0]) [.idx 0])], []⟩ = (s_l02Ok_f995 p0).run fun r => some (s_l02Ok_f995_out zp0 p0 r) := fun _ _ => by kernel_rfl
noncomputable def s_l02Ok_f995_G (av : List AV) (rs : List Root) : Tre CallOut :=
  asCons av fun a0_ av0 =>
  asEnd av0 <|
  asEnd rs <|
  asIptr kMatrix a0_ fun z1 d2 =>
  .mat (s_l02Ok_f995_F d2) fun r => .ret (s_l02Ok_f995_out z1 d2 r)
noncomputable def s_l02Ok_f995_c : Ctr := ⟨[], fun ci => s_l02Ok_f995_G ci.args ci.roots, false⟩
theorem s_l02Ok_f995_env : EnvOK Try.prog .none s_l02Ok_f995_V := (envOK_cons s_l00In_ok ent40 envOK_nil)
set_option maxRecDepth 100000 in
theorem s_l02Ok_f995_ok : Contract Try.prog .none 128 s_l02Ok_f995_c := by
  have hl : LoopsOK s_l02Ok_f995_V s_l02Ok_f995_A s_l02Ok_f995_b := (loopsOK_all (n := 1) (by kernel_rfl) fun k hk => by
      match k, hk with
      | 0, _ => exact loopOK_at (id := 4) (L := s_l02Ok_f995_l4_L) (by kernel_rfl) (by kernel_rfl) s_l02Ok_f995_l4_ok)
  refine (contract_of (F := s_l02Ok_f995_I) tau_tys s_l02Ok_f995_env Try.func128 (by kernel_rfl) (by kernel_rfl) (by kernel_rfl) hl []).weaken ?_
  rintro ⟨av, rs⟩ co h
  have h : (s_l02Ok_f995_G av rs).run some = some co := h
  obtain ⟨a0_, av0, rfl, h_0⟩ := asCons_spec h
  obtain ⟨rfl, h_1⟩ := asEnd_spec h_0
  obtain ⟨rfl, h_2⟩ := asEnd_spec h_1
  obtain ⟨z1, d2, rfl, h_3⟩ := asIptr_spec h_2
  exact fin_mat (s_l02Ok_f995_eq z1 d2) h_3
end Go.Proofs.Ythnkanacjhlhhaa

namespace Go.Proofs.Ythnkanacjhlhhaa
open Go Go.Abs Go.Proofs
noncomputable def s_l00Same_l4 (h4_0_0 : (List Int)) (h4_0_1 : (List Int)) : Int → Tre (Int ⊕ (Bool ⊕ Unit)) := fun s4 =>
  .cond (decide (s4 < (h4_0_0.length : Int)))
    (.ite (0 ≤ s4 ∧ s4 < (h4_0_0.length : Int)) <|
    .mat (h4_0_0[s4.toNat]?) fun x1 =>
    .ite (0 ≤ s4 ∧ s4 < (h4_0_1.length : Int)) <|
    .mat (h4_0_1[s4.toNat]?) fun x2 =>
    .cond (!decide (x1 = x2))
      (.ret (.inr (.inl false)))
      (.ret (.inl (iwrap .i64 (s4 + 1)))))
    (.ret (.inr (.inr ())))
noncomputable def s_l00Same (p0 : (List Int)) (p1 : (List Int)) : Tre Bool :=
  .cond (!decide ((p0.length : Int) = (p1.length : Int)))
    (.ret false)
    (.mat (loopF (s_l00Same_l4 p0 p1) 0) fun l3 =>
    .alt l3
      (fun a4 =>
        .ret a4)
      (fun _ =>
        .ret true))
noncomputable def s_l00Same_F (p0 : (List Int)) (p1 : (List Int)) : Option Bool := (s_l00Same p0 p1).run some
def sameL (a b : List Int) : Option Bool := askO (decide (a.length ≤ 1048576) && decide (b.length ≤ 1048576)) (decide (a = b))
def sameAt (b : List Int) (i : Nat) (x : Int) : Option (Bool ⊕ Unit) := match b[i]? with
  | some y => cond (decide (x = y)) none (some (.inl false))
  | none => none
theorem findE_same (b : List Int) : ∀ (l : List Int) (i : Nat), l.length = (b.drop i).length → findE (β := Bool ⊕ Unit) (sameAt b) (.inr ()) i l = cond (decide (l = b.drop i)) (.inr ()) (.inl false) := by
  intro l
  induction l with
  | nil =>
    intro i h
    have : b.drop i = [] := List.eq_nil_of_length_eq_zero h.symm
    rw [this]; rfl
  | cons x l ih =>
    intro i h
    have hi : i < b.length := by rw [List.length_drop, List.length_cons] at h; omega
    have hd : b.drop i = b[i] :: b.drop (i + 1) := List.drop_eq_getElem_cons hi
    have hlen : l.length = (b.drop (i + 1)).length := by rw [hd, List.length_cons, List.length_cons] at h; omega
    have hih := ih (i + 1) hlen
    simp only [findE, sameAt]
    rw [List.getElem?_eq_getElem hi]
    simp only
    by_cases hx : x = b[i]
    · rw [decide_eq_true hx, cond_true, hih]
      by_cases hl : l = b.drop (i + 1)
      · rw [decide_eq_true hl, decide_eq_true (show x :: l = b.drop i by rw [hd, hx, hl])]
      · rw [decide_eq_false hl, decide_eq_false (fun h2 => hl (by rw [hd] at h2; exact (List.cons.inj h2).2))]
    · rw [decide_eq_false hx, cond_false, decide_eq_false (fun h2 => hx (by rw [hd] at h2; exact (List.cons.inj h2).1))]
      rfl
theorem s_l00Same_spec (p0 p1 : List Int) (y : Bool) (h : sameL p0 p1 = some y) : s_l00Same_F p0 p1 = some y := by
  obtain ⟨hok, rfl⟩ := askO_some h
  simp only [Bool.and_eq_true, decide_eq_true_eq] at hok
  unfold s_l00Same_F s_l00Same
  rw [Tre.run_cond]
  by_cases hl : p0.length = p1.length
  · rw [decide_eq_true (show (p0.length : Int) = (p1.length : Int) by omega), Bool.not_true, cond_false, Tre.run_mat, find_loop (xs := p0) (sameAt p1) (.inr ()), findE_same p1 p0 0 (by simpa using hl)]
    · rw [List.drop_zero]
      cases decide (p0 = p1) <;> rfl
    · intro i x hx
      have hi : i < p0.length := (List.getElem?_eq_some_iff.1 hx).1
      have hy : p1[i]? = some p1[i] := List.getElem?_eq_getElem (by omega)
      unfold s_l00Same_l4
      unfold sameAt
      rw [run_inb hx, run_at hy, Tre.run_cond, hy]
      dsimp only
      cases decide (x = p1[i])
      · rfl
      · simp only [Bool.not_true, cond_true, cond_false, Tre.run_ret, iwrap_succ (show i < 4611686018427387904 by omega)]
    · unfold s_l00Same_l4
      exact run_out
  · rw [decide_eq_false (show ¬ (p0.length : Int) = (p1.length : Int) by omega), Bool.not_false, cond_true, Tre.run_ret, decide_eq_false (fun h => hl (by rw [h]))]
noncomputable def s_l00Same_V : Env := ⟨tau, [], []⟩
noncomputable def s_l00Same_b : Code := (Try.f75.body).getD .skip
noncomputable def s_l00Same_l4_mk (z4_0 : Bool) (z4_1 : Bool) (h4_0_0 : (List Int)) (h4_0_1 : (List Int)) : Int → St := fun x => stOf [(0, (.imm z4_0 (.sl (.int .i64)) h4_0_0)), (1, (.imm z4_1 (.sl (.int .i64)) h4_0_1)), (5, (.imm true (.int .i64) x))] []
noncomputable def s_l00Same_l4_out (_z4_0 : Bool) (_z4_1 : Bool) (_h4_0_0 : (List Int)) (_h4_0_1 : (List Int)) : (Bool ⊕ Unit) → Ex × St
  | .inl x => (.ret, stOf [(4, (.imm true .bool x))] [])
  | .inr x => (.exit 0, stOf [(4, .dead)] [])
noncomputable def s_l00Same_l4_D (s : St) : Tre (Ex × St) :=
  asImm (.sl (.int .i64)) (s.tmps 0) fun z3 d2 =>
  asImm (.sl (.int .i64)) (s.tmps 1) fun z6 d5 =>
  asImmZ true (.int .i64) (s.tmps 5) fun d8 =>
  .mat (loopF (s_l00Same_l4 d2 d5) d8) fun x => .alt x (fun a0 => .ret (s_l00Same_l4_out z3 z6 d2 d5 (.inl a0))) (fun b0 => .ret (s_l00Same_l4_out z3 z6 d2 d5 (.inr b0)))
noncomputable def s_l00Same_l4_L : LoopI := ⟨([0, 1, 5], []), ([4], []), s_l00Same_l4_D⟩
noncomputable def s_l00Same_A : List (Nat × LoopI) := [(4, s_l00Same_l4_L)]
set_option maxRecDepth 100000 in
theorem s_l00Same_l4_step : ∀ (z4_0 : Bool) (z4_1 : Bool) (h4_0_0 : (List Int)) (h4_0_1 : (List Int)) (x : Int) (c : St → Option (Ex × St)), den s_l00Same_V s_l00Same_A (loopAt s_l00Same_b 0) (s_l00Same_l4_mk z4_0 z4_1 h4_0_0 h4_0_1 x) (roundK s_l00Same_l4_L.kp s_l00Same_l4_L.kx c) = (s_l00Same_l4 h4_0_0 h4_0_1 x).run (roundR (s_l00Same_l4_mk z4_0 z4_1 h4_0_0 h4_0_1) (s_l00Same_l4_out z4_0 z4_1 h4_0_0 h4_0_1) c) := fun _ _ _ _ _ _ => by
  kernel_rfl
theorem s_l00Same_l4_ok : LoopOK s_l00Same_V s_l00Same_A (loopAt s_l00Same_b 0) s_l00Same_l4_L := loopOK_of fun s e s' h => by
  generalize hs : restrict s_l00Same_l4_L.kp s = s1 at h
  have h : (s_l00Same_l4_D s1).run some = some (e, s') := h
  obtain ⟨z3, d2, e1, h_0⟩ := asImm_spec h
  obtain ⟨z6, d5, e4, h_1⟩ := asImm_spec h_0
  obtain ⟨d8, e7, h_2⟩ := asImmZ_spec h_1
  obtain ⟨y, hy, hz⟩ := mat_some h_2
  refine ⟨_, _, s_l00Same_l4_mk z3 z6 d2 d5, s_l00Same_l4_out z3 z6 d2 d5, s_l00Same_l4 d2 d5, d8, y, ?_, hy, ?_, s_l00Same_l4_step z3 z6 d2 d5⟩
  · subst hs; exact restrict_eq (T := [(0, (.imm z3 (.sl (.int .i64)) d2)), (1, (.imm z6 (.sl (.int .i64)) d5)), (5, (.imm true (.int .i64) d8))]) (U := []) rfl rfl ⟨e1, e4, e7, trivial⟩ trivial
  · rcases y with x | x <;> exact Option.some.inj hz
noncomputable def s_l00Same_I : FnI := ⟨s_l00Same_b, Try.f75.results.toList, Try.f75.resultTypes.toList, s_l00Same_A⟩
noncomputable def s_l00Same_out (_zp0 : Bool) (_zp1 : Bool) (_p0 : (List Int)) (_p1 : (List Int)) : Bool → CallOut := fun r => ⟨(.imm true .bool r), [], []⟩
set_option maxRecDepth 100000 in
theorem s_l00Same_eq : ∀ (zp0 : Bool) (zp1 : Bool) (p0 : (List Int)) (p1 : (List Int)), denFn s_l00Same_V s_l00Same_I ⟨[(.imm zp0 (.sl (.int .i64)) p0), (.imm zp1 (.sl (.int .i64)) p1)], []⟩ = (s_l00Same p0 p1).run fun r => some (s_l00Same_out zp0 zp1 p0 p1 r) := fun _ _ _ _ => by kernel_rfl
noncomputable def s_l00Same_G (av : List AV) (rs : List Root) : Tre CallOut :=
  asCons av fun a0_ av0 =>
  asCons av0 fun a1_ av1 =>
  asEnd av1 <|
  asEnd rs <|
  asImm (.sl (.int .i64)) a0_ fun z2 d1 =>
  asImm (.sl (.int .i64)) a1_ fun z4 d3 =>
  .mat (sameL d1 d3) fun r => .ret (s_l00Same_out z2 z4 d1 d3 r)
noncomputable def s_l00Same_c : Ctr := ⟨[], fun ci => s_l00Same_G ci.args ci.roots, false⟩
theorem s_l00Same_env : EnvOK Try.prog .none s_l00Same_V := envOK_nil
set_option maxRecDepth 100000 in
theorem s_l00Same_ok : Contract Try.prog .none 75 s_l00Same_c := by
  have hl : LoopsOK s_l00Same_V s_l00Same_A s_l00Same_b := (loopsOK_all (n := 1) (by kernel_rfl) fun k hk => by
      match k, hk with
      | 0, _ => exact loopOK_at (id := 4) (L := s_l00Same_l4_L) (by kernel_rfl) (by kernel_rfl) s_l00Same_l4_ok)
  refine (contract_of (F := s_l00Same_I) tau_tys s_l00Same_env Try.func75 (by kernel_rfl) (by kernel_rfl) (by kernel_rfl) hl []).weaken ?_
  rintro ⟨av, rs⟩ co h
  have h : (s_l00Same_G av rs).run some = some co := h
  obtain ⟨a0_, av0, rfl, h_0⟩ := asCons_spec h
  obtain ⟨a1_, av1, rfl, h_1⟩ := asCons_spec h_0
  obtain ⟨rfl, h_2⟩ := asEnd_spec h_1
  obtain ⟨rfl, h_3⟩ := asEnd_spec h_2
  obtain ⟨z2, d1, rfl, h_4⟩ := asImm_spec h_3
  obtain ⟨z4, d3, rfl, h_5⟩ := asImm_spec h_4
  exact fin_opt (s_l00Same_eq z2 z4 d1 d3) (s_l00Same_spec d1 d3) h_5
end Go.Proofs.Ythnkanacjhlhhaa

namespace Go.Proofs.Ythnkanacjhlhhaa
open Go Go.Abs Go.Proofs
noncomputable def i_within (p0 : Int) (p1 : Int) (p2 : Int) : Tre Bool :=
  .cond (decide (p0 ≥ p1))
    (.ret (decide (p0 ≤ p2)))
    (.ret false)
noncomputable def i_within_F (p0 : Int) (p1 : Int) (p2 : Int) : Option Bool := (i_within p0 p1 p2).run some
theorem i_within_spec (n a b : Int) : i_within_F n a b = some (inR n a b) := by
  unfold i_within_F i_within inR
  by_cases h : a ≤ n
  · simp [Tre.run_cond, Tre.run_ret, h]
  · simp [Tre.run_cond, Tre.run_ret, h]
noncomputable def i_within_V : Env := ⟨tau, [], []⟩
noncomputable def i_within_b : Code := (Try.f57.body).getD .skip
noncomputable def i_within_I : FnI := ⟨i_within_b, Try.f57.results.toList, Try.f57.resultTypes.toList, []⟩
noncomputable def i_within_out (_p0 : Int) (_p1 : Int) (_p2 : Int) : Bool → CallOut := fun r => ⟨(.imm true .bool r), [], []⟩
set_option maxRecDepth 100000 in
theorem i_within_eq : ∀ (p0 : Int) (p1 : Int) (p2 : Int), denFn i_within_V i_within_I ⟨[(.imm true (.int .i64) p0), (.imm true (.int .i64) p1), (.imm true (.int .i64) p2)], []⟩ = (i_within p0 p1 p2).run fun r => some (i_within_out p0 p1 p2 r) := fun _ _ _ => by kernel_rfl
noncomputable def i_within_G (av : List AV) (rs : List Root) : Tre CallOut :=
  asCons av fun a0_ av0 =>
  asCons av0 fun a1_ av1 =>
  asCons av1 fun a2_ av2 =>
  asEnd av2 <|
  asEnd rs <|
  asImmZ true (.int .i64) a0_ fun d1 =>
  asImmZ true (.int .i64) a1_ fun d2 =>
  asImmZ true (.int .i64) a2_ fun d3 =>
  .ret (i_within_out d1 d2 d3 (inR d1 d2 d3))
noncomputable def i_within_c : Ctr := ⟨[], fun ci => i_within_G ci.args ci.roots, false⟩
theorem i_within_env : EnvOK Try.prog .none i_within_V := envOK_nil
set_option maxRecDepth 100000 in
theorem i_within_ok : Contract Try.prog .none 57 i_within_c := by
  have hl : LoopsOK i_within_V [] i_within_b := loopsOK_nil (by kernel_rfl)
  refine (contract_of (F := i_within_I) tau_tys i_within_env Try.func57 (by kernel_rfl) (by kernel_rfl) (by kernel_rfl) hl []).weaken ?_
  rintro ⟨av, rs⟩ co h
  have h : (i_within_G av rs).run some = some co := h
  obtain ⟨a0_, av0, rfl, h_0⟩ := asCons_spec h
  obtain ⟨a1_, av1, rfl, h_1⟩ := asCons_spec h_0
  obtain ⟨a2_, av2, rfl, h_2⟩ := asCons_spec h_1
  obtain ⟨rfl, h_3⟩ := asEnd_spec h_2
  obtain ⟨rfl, h_4⟩ := asEnd_spec h_3
  obtain ⟨d1, rfl, h_5⟩ := asImmZ_spec h_4
  obtain ⟨d2, rfl, h_6⟩ := asImmZ_spec h_5
  obtain ⟨d3, rfl, h_7⟩ := asImmZ_spec h_6
  exact fin_ret (i_within_eq d1 d2 d3) (i_within_spec d1 d2 d3) h_7
end Go.Proofs.Ythnkanacjhlhhaa

namespace Go.Proofs.Ythnkanacjhlhhaa
open Go Go.Abs Go.Proofs
noncomputable def i_Matrix_has (p0 : TMatrix) (p1 : Int) : Tre Bool :=
  .ite (0 ≤ p0.1) <|
  let v1 := iwrap .i64 ((ishl .i64 1 p0.1) - 1)
  .ret (inR p1 0 v1)
noncomputable def i_Matrix_has_F (p0 : TMatrix) (p1 : Int) : Option Bool := (i_Matrix_has p0 p1).run some
noncomputable def i_Matrix_has_V : Env := ⟨tau, [(57, i_within_c)], []⟩
noncomputable def i_Matrix_has_b : Code := (Try.f45.body).getD .skip
noncomputable def i_Matrix_has_I : FnI := ⟨i_Matrix_has_b, Try.f45.results.toList, Try.f45.resultTypes.toList, []⟩
noncomputable def i_Matrix_has_out (_zp0 : Bool) (_p0 : TMatrix) (_p1 : Int) : Bool → CallOut := fun r => ⟨(.imm true .bool r), [], []⟩
set_option maxRecDepth 100000 in
theorem i_Matrix_has_eq : ∀ (zp0 : Bool) (p0 : TMatrix) (p1 : Int), denFn i_Matrix_has_V i_Matrix_has_I ⟨[(.imm zp0 kMatrix p0), (.imm true (.int .i64) p1)], []⟩ = (i_Matrix_has p0 p1).run fun r => some (i_Matrix_has_out zp0 p0 p1 r) := fun _ _ _ => by kernel_rfl
noncomputable def i_Matrix_has_G (av : List AV) (rs : List Root) : Tre CallOut :=
  asCons av fun a0_ av0 =>
  asCons av0 fun a1_ av1 =>
  asEnd av1 <|
  asEnd rs <|
  asImm kMatrix a0_ fun z2 d1 =>
  asImmZ true (.int .i64) a1_ fun d3 =>
  .mat (i_Matrix_has_F d1 d3) fun r => .ret (i_Matrix_has_out z2 d1 d3 r)
noncomputable def i_Matrix_has_c : Ctr := ⟨[], fun ci => i_Matrix_has_G ci.args ci.roots, false⟩
theorem i_Matrix_has_env : EnvOK Try.prog .none i_Matrix_has_V := (envOK_cons i_within_ok ent57 envOK_nil)
set_option maxRecDepth 100000 in
theorem i_Matrix_has_ok : Contract Try.prog .none 45 i_Matrix_has_c := by
  have hl : LoopsOK i_Matrix_has_V [] i_Matrix_has_b := loopsOK_nil (by kernel_rfl)
  refine (contract_of (F := i_Matrix_has_I) tau_tys i_Matrix_has_env Try.func45 (by kernel_rfl) (by kernel_rfl) (by kernel_rfl) hl []).weaken ?_
  rintro ⟨av, rs⟩ co h
  have h : (i_Matrix_has_G av rs).run some = some co := h
  obtain ⟨a0_, av0, rfl, h_0⟩ := asCons_spec h
  obtain ⟨a1_, av1, rfl, h_1⟩ := asCons_spec h_0
  obtain ⟨rfl, h_2⟩ := asEnd_spec h_1
  obtain ⟨rfl, h_3⟩ := asEnd_spec h_2
  obtain ⟨z2, d1, rfl, h_4⟩ := asImm_spec h_3
  obtain ⟨d3, rfl, h_5⟩ := asImmZ_spec h_4
  exact fin_mat (i_Matrix_has_eq z2 d1 d3) h_5
end Go.Proofs.Ythnkanacjhlhhaa

namespace Go.Proofs.Ythnkanacjhlhhaa
open Go Go.Abs Go.Proofs
noncomputable def i_ValidMatrixc1_ccae (p0 : Int) (p1 : TMatrix) : Tre Bool :=
  .mat (i_Matrix_has_F p1 p0) fun r1 =>
  .ret (!r1)
noncomputable def i_ValidMatrixc1_ccae_F (p0 : Int) (p1 : TMatrix) : Option Bool := (i_ValidMatrixc1_ccae p0 p1).run some
noncomputable def i_ValidMatrixc1_ccae_V : Env := ⟨tau, [(45, i_Matrix_has_c)], []⟩
noncomputable def i_ValidMatrixc1_ccae_b : Code := (Try.f162.body).getD .skip
noncomputable def i_ValidMatrixc1_ccae_I : FnI := ⟨i_ValidMatrixc1_ccae_b, Try.f162.results.toList, Try.f162.resultTypes.toList, []⟩
noncomputable def i_ValidMatrixc1_ccae_out (zp0 : Bool) (_p0 : Int) (p1 : TMatrix) : Bool → CallOut := fun r => ⟨(.imm true .bool r), [⟨true, kMatrix, (.imm zp0), p1⟩], []⟩
set_option maxRecDepth 100000 in
theorem i_ValidMatrixc1_ccae_eq : ∀ (zp0 : Bool) (p0 : Int) (p1 : TMatrix), denFn i_ValidMatrixc1_ccae_V i_ValidMatrixc1_ccae_I ⟨[(.imm true (.int .i64) p0), (.ptr (0, 0) [])], [⟨true, kMatrix, (.imm zp0), p1⟩]⟩ = (i_ValidMatrixc1_ccae p0 p1).run fun r => some (i_ValidMatrixc1_ccae_out zp0 p0 p1 r) := fun _ _ _ => by kernel_rfl
noncomputable def i_ValidMatrixc1_ccae_G (av : List AV) (rs : List Root) : Tre CallOut :=
  asCons av fun a0_ av0 =>
  asCons av0 fun a1_ av1 =>
  asEnd av1 <|
  asCons rs fun r0_ rs0 =>
  asEnd rs0 <|
  asImmZ true (.int .i64) a0_ fun d1 =>
  asPtr (0, 0) [] a1_ <|
  asRt true kMatrix r0_ fun m2 d3 =>
  asMImm m2 fun z4 =>
  .mat (i_ValidMatrixc1_ccae_F d1 d3) fun r => .ret (i_ValidMatrixc1_ccae_out z4 d1 d3 r)
noncomputable def i_ValidMatrixc1_ccae_c : Ctr := ⟨[], fun ci => i_ValidMatrixc1_ccae_G ci.args ci.roots, false⟩
theorem i_ValidMatrixc1_ccae_env : EnvOK Try.prog .none i_ValidMatrixc1_ccae_V := (envOK_cons i_Matrix_has_ok ent45 envOK_nil)
set_option maxRecDepth 100000 in
theorem i_ValidMatrixc1_ccae_ok : Contract Try.prog .none 162 i_ValidMatrixc1_ccae_c := by
  have hl : LoopsOK i_ValidMatrixc1_ccae_V [] i_ValidMatrixc1_ccae_b := loopsOK_nil (by kernel_rfl)
  refine (contract_of (F := i_ValidMatrixc1_ccae_I) tau_tys i_ValidMatrixc1_ccae_env Try.func162 (by kernel_rfl) (by kernel_rfl) (by kernel_rfl) hl []).weaken ?_
  rintro ⟨av, rs⟩ co h
  have h : (i_ValidMatrixc1_ccae_G av rs).run some = some co := h
  obtain ⟨a0_, av0, rfl, h_0⟩ := asCons_spec h
  obtain ⟨a1_, av1, rfl, h_1⟩ := asCons_spec h_0
  obtain ⟨rfl, h_2⟩ := asEnd_spec h_1
  obtain ⟨r0_, rs0, rfl, h_3⟩ := asCons_spec h_2
  obtain ⟨rfl, h_4⟩ := asEnd_spec h_3
  obtain ⟨d1, rfl, h_5⟩ := asImmZ_spec h_4
  obtain ⟨rfl, h_6⟩ := asPtr_spec h_5
  obtain ⟨m2, d3, rfl, h_7⟩ := asRt_spec h_6
  obtain ⟨z4, rfl, h_8⟩ := asMImm_spec h_7
  exact fin_mat (i_ValidMatrixc1_ccae_eq z4 d1 d3) h_8
end Go.Proofs.Ythnkanacjhlhhaa

namespace Go.Proofs.Ythnkanacjhlhhaa
open Go Go.Abs Go.Proofs
noncomputable def slices_IndexFunc_int64_i_ValidMatrixc1_l2 (h2_0_0 : (List Int)) (h2_0_1 : Int) (h2_0_3 : TMatrix) : Int → Tre (Int ⊕ (Int ⊕ Unit)) := fun s2 =>
  .cond (decide (s2 < h2_0_1))
    (.ite (0 ≤ s2 ∧ s2 < (h2_0_0.length : Int)) <|
    .mat (h2_0_0[s2.toNat]?) fun x1 =>
    .mat (i_ValidMatrixc1_ccae_F x1 h2_0_3) fun r2 =>
    .cond r2
      (.ret (.inr (.inl s2)))
      (.ret (.inl (iwrap .i64 (s2 + 1)))))
    (.ret (.inr (.inr ())))
noncomputable def slices_IndexFunc_int64_i_ValidMatrixc1 (p0 : (List Int)) (p1 : TMatrix) : Tre Int :=
  .mat (loopF (slices_IndexFunc_int64_i_ValidMatrixc1_l2 p0 (p0.length : Int) p1) 0) fun l3 =>
  .alt l3
    (fun a4 =>
      .ret a4)
    (fun _ =>
      .ret (-1))
noncomputable def slices_IndexFunc_int64_i_ValidMatrixc1_F (p0 : (List Int)) (p1 : TMatrix) : Option Int := (slices_IndexFunc_int64_i_ValidMatrixc1 p0 p1).run some
noncomputable def slices_IndexFunc_int64_i_ValidMatrixc1_V : Env := ⟨tau, [(162, i_ValidMatrixc1_ccae_c)], []⟩
noncomputable def slices_IndexFunc_int64_i_ValidMatrixc1_b : Code := (Try.f116.body).getD .skip
noncomputable def slices_IndexFunc_int64_i_ValidMatrixc1_l2_mk (z2_0 : Bool) (z2_1 : Bool) (h2_0_0 : (List Int)) (h2_0_1 : Int) (h2_0_3 : TMatrix) : Int → St := fun x => stOf [(0, (.imm z2_0 (.sl (.int .i64)) h2_0_0)), (1, (.fn 162 [(0, 0)])), (7, (.imm true (.int .i64) h2_0_1)), (8, (.imm true (.int .i64) x))] [((0, 0), some ⟨true, kMatrix, (.imm z2_1), h2_0_3⟩)]
noncomputable def slices_IndexFunc_int64_i_ValidMatrixc1_l2_out (_z2_0 : Bool) (z2_1 : Bool) (_h2_0_0 : (List Int)) (_h2_0_1 : Int) (h2_0_3 : TMatrix) : (Int ⊕ Unit) → Ex × St
  | .inl x => (.ret, stOf [(4, (.imm true (.int .i64) x))] [((0, 0), some ⟨true, kMatrix, (.imm z2_1), h2_0_3⟩)])
  | .inr x => (.exit 0, stOf [(4, .dead)] [((0, 0), some ⟨true, kMatrix, (.imm z2_1), h2_0_3⟩)])
noncomputable def slices_IndexFunc_int64_i_ValidMatrixc1_l2_D (s : St) : Tre (Ex × St) :=
  asImm (.sl (.int .i64)) (s.tmps 0) fun z3 d2 =>
  asFn 162 [(0, 0)] (s.tmps 1) <|
  asImmZ true (.int .i64) (s.tmps 7) fun d6 =>
  asImmZ true (.int .i64) (s.tmps 8) fun d8 =>
  asRoot true kMatrix (s.roots (0, 0)) fun m10 d11 =>
  asMImm m10 fun z12 =>
  .mat (loopF (slices_IndexFunc_int64_i_ValidMatrixc1_l2 d2 d6 d11) d8) fun x => .alt x (fun a0 => .ret (slices_IndexFunc_int64_i_ValidMatrixc1_l2_out z3 z12 d2 d6 d11 (.inl a0))) (fun b0 => .ret (slices_IndexFunc_int64_i_ValidMatrixc1_l2_out z3 z12 d2 d6 d11 (.inr b0)))
noncomputable def slices_IndexFunc_int64_i_ValidMatrixc1_l2_L : LoopI := ⟨([0, 1, 7, 8], [(0, 0)]), ([4], [(0, 0)]), slices_IndexFunc_int64_i_ValidMatrixc1_l2_D⟩
noncomputable def slices_IndexFunc_int64_i_ValidMatrixc1_A : List (Nat × LoopI) := [(2, slices_IndexFunc_int64_i_ValidMatrixc1_l2_L)]
set_option maxRecDepth 100000 in
theorem slices_IndexFunc_int64_i_ValidMatrixc1_l2_step : ∀ (z2_0 : Bool) (z2_1 : Bool) (h2_0_0 : (List Int)) (h2_0_1 : Int) (h2_0_3 : TMatrix) (x : Int) (c : St → Option (Ex × St)), den slices_IndexFunc_int64_i_ValidMatrixc1_V slices_IndexFunc_int64_i_ValidMatrixc1_A (loopAt slices_IndexFunc_int64_i_ValidMatrixc1_b 0) (slices_IndexFunc_int64_i_ValidMatrixc1_l2_mk z2_0 z2_1 h2_0_0 h2_0_1 h2_0_3 x) (roundK slices_IndexFunc_int64_i_ValidMatrixc1_l2_L.kp slices_IndexFunc_int64_i_ValidMatrixc1_l2_L.kx c) = (slices_IndexFunc_int64_i_ValidMatrixc1_l2 h2_0_0 h2_0_1 h2_0_3 x).run (roundR (slices_IndexFunc_int64_i_ValidMatrixc1_l2_mk z2_0 z2_1 h2_0_0 h2_0_1 h2_0_3) (slices_IndexFunc_int64_i_ValidMatrixc1_l2_out z2_0 z2_1 h2_0_0 h2_0_1 h2_0_3) c) := fun _ _ _ _ _ _ _ => by
  kernel_rfl
theorem slices_IndexFunc_int64_i_ValidMatrixc1_l2_ok : LoopOK slices_IndexFunc_int64_i_ValidMatrixc1_V slices_IndexFunc_int64_i_ValidMatrixc1_A (loopAt slices_IndexFunc_int64_i_ValidMatrixc1_b 0) slices_IndexFunc_int64_i_ValidMatrixc1_l2_L := loopOK_of fun s e s' h => by
  generalize hs : restrict slices_IndexFunc_int64_i_ValidMatrixc1_l2_L.kp s = s1 at h
  have h : (slices_IndexFunc_int64_i_ValidMatrixc1_l2_D s1).run some = some (e, s') := h
  obtain ⟨z3, d2, e1, h_0⟩ := asImm_spec h
  obtain ⟨e4, h_1⟩ := asFn_spec h_0
  obtain ⟨d6, e5, h_2⟩ := asImmZ_spec h_1
  obtain ⟨d8, e7, h_3⟩ := asImmZ_spec h_2
  obtain ⟨m10, d11, e9, h_4⟩ := asRoot_spec h_3
  obtain ⟨z12, rfl, h_5⟩ := asMImm_spec h_4
  obtain ⟨y, hy, hz⟩ := mat_some h_5
  refine ⟨_, _, slices_IndexFunc_int64_i_ValidMatrixc1_l2_mk z3 z12 d2 d6 d11, slices_IndexFunc_int64_i_ValidMatrixc1_l2_out z3 z12 d2 d6 d11, slices_IndexFunc_int64_i_ValidMatrixc1_l2 d2 d6 d11, d8, y, ?_, hy, ?_, slices_IndexFunc_int64_i_ValidMatrixc1_l2_step z3 z12 d2 d6 d11⟩
  · subst hs; exact restrict_eq (T := [(0, (.imm z3 (.sl (.int .i64)) d2)), (1, (.fn 162 [(0, 0)])), (7, (.imm true (.int .i64) d6)), (8, (.imm true (.int .i64) d8))]) (U := [((0, 0), some ⟨true, kMatrix, (.imm z12), d11⟩)]) rfl rfl ⟨e1, e4, e5, e7, trivial⟩ ⟨e9, trivial⟩
  · rcases y with x | x <;> exact Option.some.inj hz
noncomputable def slices_IndexFunc_int64_i_ValidMatrixc1_I : FnI := ⟨slices_IndexFunc_int64_i_ValidMatrixc1_b, Try.f116.results.toList, Try.f116.resultTypes.toList, slices_IndexFunc_int64_i_ValidMatrixc1_A⟩
noncomputable def slices_IndexFunc_int64_i_ValidMatrixc1_out (_zp0 : Bool) (zp1 : Bool) (_p0 : (List Int)) (p1 : TMatrix) : Int → CallOut := fun r => ⟨(.imm true (.int .i64) r), [⟨true, kMatrix, (.imm zp1), p1⟩], []⟩
set_option maxRecDepth 100000 in
theorem slices_IndexFunc_int64_i_ValidMatrixc1_eq : ∀ (zp0 : Bool) (zp1 : Bool) (p0 : (List Int)) (p1 : TMatrix), denFn slices_IndexFunc_int64_i_ValidMatrixc1_V slices_IndexFunc_int64_i_ValidMatrixc1_I ⟨[(.imm zp0 (.sl (.int .i64)) p0), (.fn 162 [(0, 0)])], [⟨true, kMatrix, (.imm zp1), p1⟩]⟩ = (slices_IndexFunc_int64_i_ValidMatrixc1 p0 p1).run fun r => some (slices_IndexFunc_int64_i_ValidMatrixc1_out zp0 zp1 p0 p1 r) := fun _ _ _ _ => by kernel_rfl
noncomputable def slices_IndexFunc_int64_i_ValidMatrixc1_G (av : List AV) (rs : List Root) : Tre CallOut :=
  asCons av fun a0_ av0 =>
  asCons av0 fun a1_ av1 =>
  asEnd av1 <|
  asCons rs fun r0_ rs0 =>
  asEnd rs0 <|
  asImm (.sl (.int .i64)) a0_ fun z2 d1 =>
  asFn 162 [(0, 0)] a1_ <|
  asRt true kMatrix r0_ fun m3 d4 =>
  asMImm m3 fun z5 =>
  .mat (slices_IndexFunc_int64_i_ValidMatrixc1_F d1 d4) fun r => .ret (slices_IndexFunc_int64_i_ValidMatrixc1_out z2 z5 d1 d4 r)
noncomputable def slices_IndexFunc_int64_i_ValidMatrixc1_c : Ctr := ⟨[], fun ci => slices_IndexFunc_int64_i_ValidMatrixc1_G ci.args ci.roots, false⟩
theorem slices_IndexFunc_int64_i_ValidMatrixc1_env : EnvOK Try.prog .none slices_IndexFunc_int64_i_ValidMatrixc1_V := (envOK_cons i_ValidMatrixc1_ccae_ok ent162 envOK_nil)
set_option maxRecDepth 100000 in
theorem slices_IndexFunc_int64_i_ValidMatrixc1_ok : Contract Try.prog .none 116 slices_IndexFunc_int64_i_ValidMatrixc1_c := by
  have hl : LoopsOK slices_IndexFunc_int64_i_ValidMatrixc1_V slices_IndexFunc_int64_i_ValidMatrixc1_A slices_IndexFunc_int64_i_ValidMatrixc1_b := (loopsOK_all (n := 1) (by kernel_rfl) fun k hk => by
      match k, hk with
      | 0, _ => exact loopOK_at (id := 2) (L := slices_IndexFunc_int64_i_ValidMatrixc1_l2_L) (by kernel_rfl) (by kernel_rfl) slices_IndexFunc_int64_i_ValidMatrixc1_l2_ok)
  refine (contract_of (F := slices_IndexFunc_int64_i_ValidMatrixc1_I) tau_tys slices_IndexFunc_int64_i_ValidMatrixc1_env Try.func116 (by kernel_rfl) (by kernel_rfl) (by kernel_rfl) hl []).weaken ?_
  rintro ⟨av, rs⟩ co h
  have h : (slices_IndexFunc_int64_i_ValidMatrixc1_G av rs).run some = some co := h
  obtain ⟨a0_, av0, rfl, h_0⟩ := asCons_spec h
  obtain ⟨a1_, av1, rfl, h_1⟩ := asCons_spec h_0
  obtain ⟨rfl, h_2⟩ := asEnd_spec h_1
  obtain ⟨r0_, rs0, rfl, h_3⟩ := asCons_spec h_2
  obtain ⟨rfl, h_4⟩ := asEnd_spec h_3
  obtain ⟨z2, d1, rfl, h_5⟩ := asImm_spec h_4
  obtain ⟨rfl, h_6⟩ := asFn_spec h_5
  obtain ⟨m3, d4, rfl, h_7⟩ := asRt_spec h_6
  obtain ⟨z5, rfl, h_8⟩ := asMImm_spec h_7
  exact fin_mat (slices_IndexFunc_int64_i_ValidMatrixc1_eq z2 z5 d1 d4) h_8
end Go.Proofs.Ythnkanacjhlhhaa

namespace Go.Proofs.Ythnkanacjhlhhaa
open Go Go.Abs Go.Proofs
noncomputable def slices_ContainsFunc_int64_i_ValidMatrixc1 (p0 : (List Int)) (p1 : TMatrix) : Tre Bool :=
  .mat (slices_IndexFunc_int64_i_ValidMatrixc1_F p0 p1) fun r1 =>
  .ret (decide (r1 ≥ 0))
noncomputable def slices_ContainsFunc_int64_i_ValidMatrixc1_F (p0 : (List Int)) (p1 : TMatrix) : Option Bool := (slices_ContainsFunc_int64_i_ValidMatrixc1 p0 p1).run some
noncomputable def slices_ContainsFunc_int64_i_ValidMatrixc1_V : Env := ⟨tau, [(116, slices_IndexFunc_int64_i_ValidMatrixc1_c)], []⟩
noncomputable def slices_ContainsFunc_int64_i_ValidMatrixc1_b : Code := (Try.f161.body).getD .skip
noncomputable def slices_ContainsFunc_int64_i_ValidMatrixc1_I : FnI := ⟨slices_ContainsFunc_int64_i_ValidMatrixc1_b, Try.f161.results.toList, Try.f161.resultTypes.toList, []⟩
noncomputable def slices_ContainsFunc_int64_i_ValidMatrixc1_out (_zp0 : Bool) (zp1 : Bool) (_p0 : (List Int)) (p1 : TMatrix) : Bool → CallOut := fun r => ⟨(.imm true .bool r), [⟨true, kMatrix, (.imm zp1), p1⟩], []⟩
set_option maxRecDepth 100000 in
theorem slices_ContainsFunc_int64_i_ValidMatrixc1_eq : ∀ (zp0 : Bool) (zp1 : Bool) (p0 : (List Int)) (p1 : TMatrix), denFn slices_ContainsFunc_int64_i_ValidMatrixc1_V slices_ContainsFunc_int64_i_ValidMatrixc1_I ⟨[(.imm zp0 (.sl (.int .i64)) p0), (.fn 162 [(0, 0)])], [⟨true, kMatrix, (.imm zp1), p1⟩]⟩ = (slices_ContainsFunc_int64_i_ValidMatrixc1 p0 p1).run fun r => some (slices_ContainsFunc_int64_i_ValidMatrixc1_out zp0 zp1 p0 p1 r) := fun _ _ _ _ => by kernel_rfl
noncomputable def slices_ContainsFunc_int64_i_ValidMatrixc1_G (av : List AV) (rs : List Root) : Tre CallOut :=
  asCons av fun a0_ av0 =>
  asCons av0 fun a1_ av1 =>
  asEnd av1 <|
  asCons rs fun r0_ rs0 =>
  asEnd rs0 <|
  asImm (.sl (.int .i64)) a0_ fun z2 d1 =>
  asFn 162 [(0, 0)] a1_ <|
  asRt true kMatrix r0_ fun m3 d4 =>
  asMImm m3 fun z5 =>
  .mat (slices_ContainsFunc_int64_i_ValidMatrixc1_F d1 d4) fun r => .ret (slices_ContainsFunc_int64_i_ValidMatrixc1_out z2 z5 d1 d4 r)
noncomputable def slices_ContainsFunc_int64_i_ValidMatrixc1_c : Ctr := ⟨[], fun ci => slices_ContainsFunc_int64_i_ValidMatrixc1_G ci.args ci.roots, false⟩
theorem slices_ContainsFunc_int64_i_ValidMatrixc1_env : EnvOK Try.prog .none slices_ContainsFunc_int64_i_ValidMatrixc1_V := (envOK_cons slices_IndexFunc_int64_i_ValidMatrixc1_ok ent116 envOK_nil)
set_option maxRecDepth 100000 in
theorem slices_ContainsFunc_int64_i_ValidMatrixc1_ok : Contract Try.prog .none 161 slices_ContainsFunc_int64_i_ValidMatrixc1_c := by
  have hl : LoopsOK slices_ContainsFunc_int64_i_ValidMatrixc1_V [] slices_ContainsFunc_int64_i_ValidMatrixc1_b := loopsOK_nil (by kernel_rfl)
  refine (contract_of (F := slices_ContainsFunc_int64_i_ValidMatrixc1_I) tau_tys slices_ContainsFunc_int64_i_ValidMatrixc1_env Try.func161 (by kernel_rfl) (by kernel_rfl) (by kernel_rfl) hl []).weaken ?_
  rintro ⟨av, rs⟩ co h
  have h : (slices_ContainsFunc_int64_i_ValidMatrixc1_G av rs).run some = some co := h
  obtain ⟨a0_, av0, rfl, h_0⟩ := asCons_spec h
  obtain ⟨a1_, av1, rfl, h_1⟩ := asCons_spec h_0
  obtain ⟨rfl, h_2⟩ := asEnd_spec h_1
  obtain ⟨r0_, rs0, rfl, h_3⟩ := asCons_spec h_2
  obtain ⟨rfl, h_4⟩ := asEnd_spec h_3
  obtain ⟨z2, d1, rfl, h_5⟩ := asImm_spec h_4
  obtain ⟨rfl, h_6⟩ := asFn_spec h_5
  obtain ⟨m3, d4, rfl, h_7⟩ := asRt_spec h_6
  obtain ⟨z5, rfl, h_8⟩ := asMImm_spec h_7
  exact fin_mat (slices_ContainsFunc_int64_i_ValidMatrixc1_eq z2 z5 d1 d4) h_8
end Go.Proofs.Ythnkanacjhlhhaa

namespace Go.Proofs.Ythnkanacjhlhhaa
open Go Go.Abs Go.Proofs
noncomputable def i_ValidMatrix (p0 : TMatrix) : Tre Bool :=
  .cond (inR p0.1 1 10)
    (.cond (decide ((p0.2.1.length : Int) ≤ 10))
      (.mat (slices_ContainsFunc_int64_i_ValidMatrixc1_F p0.2.1 p0) fun r1 =>
      .ret (!r1))
      (.ret false))
    (.ret false)
noncomputable def i_ValidMatrix_F (p0 : TMatrix) : Option Bool := (i_ValidMatrix p0).run some
-- more
theorem i_Matrix_has_is (m : Int × List Int × Unit) (x : Int) (h : 0 ≤ m.1) : i_Matrix_has_F m x = some (inP m.1 x) := by
  unfold i_Matrix_has_F i_Matrix_has
  rw [Tre.run_ite, if_pos h]
  rfl
theorem i_ValidMatrixc1_ccae_is (m : Int × List Int × Unit) (x : Int) (h : 0 ≤ m.1) : i_ValidMatrixc1_ccae_F x m = some (!inP m.1 x) := by
  unfold i_ValidMatrixc1_ccae_F i_ValidMatrixc1_ccae
  rw [run_some_mat (i_Matrix_has_is m x h)]
  rfl
theorem i_ValidMatrix_idx (xs : List Int) (m : Int × List Int × Unit) (h : 0 ≤ m.1) (hl : xs.length ≤ 1048576) : slices_IndexFunc_int64_i_ValidMatrixc1_F xs m = some (idxI (fun x => !inP m.1 x) 0 xs) := by
  unfold slices_IndexFunc_int64_i_ValidMatrixc1_F slices_IndexFunc_int64_i_ValidMatrixc1
  rw [Tre.run_mat, find_loop (xs := xs) (fun i x => cond (!inP m.1 x) (some (.inl (i : Int))) none) (.inr ())]
  · rw [Option.bind_some, ← findE_idx (p := fun x => !inP m.1 x)]
    generalize findE _ _ _ _ = r
    cases r <;> rfl
  · intro i x hx
    have hi : i < xs.length := (List.getElem?_eq_some_iff.1 hx).1
    unfold slices_IndexFunc_int64_i_ValidMatrixc1_l2
    rw [run_inb hx, run_some_mat (i_ValidMatrixc1_ccae_is m x h), Tre.run_cond]
    cases inP m.1 x
    · rfl
    · simp only [Bool.not_true, cond_false, Tre.run_ret, iwrap_succ (show i < 4611686018427387904 by omega)]
  · unfold slices_IndexFunc_int64_i_ValidMatrixc1_l2
    exact run_out
theorem i_ValidMatrix_has (xs : List Int) (m : Int × List Int × Unit) (h : 0 ≤ m.1) (hl : xs.length ≤ 1048576) : slices_ContainsFunc_int64_i_ValidMatrixc1_F xs m = some (xs.any fun x => !inP m.1 x) := by
  unfold slices_ContainsFunc_int64_i_ValidMatrixc1_F slices_ContainsFunc_int64_i_ValidMatrixc1
  rw [run_some_mat (i_ValidMatrix_idx xs m h hl), Tre.run_ret, idxI_any]
theorem i_ValidMatrix_is (m : Int × List Int × Unit) (hl : m.2.1.length ≤ 1048576) : i_ValidMatrix_F m = some (okMx m) := by
  unfold i_ValidMatrix_F i_ValidMatrix okMx
  rw [Tre.run_cond]
  cases h1 : inR m.1 1 10
  · rfl
  rw [cond_true, Tre.run_cond, Bool.true_and]
  rw [inR_iff] at h1
  by_cases h2 : (m.2.1.length : Int) ≤ 10
  · rw [decide_eq_true h2, cond_true, run_some_mat (i_ValidMatrix_has m.2.1 m (by omega) hl), Tre.run_ret, decide_eq_true (show m.2.1.length ≤ 10 by omega), Bool.true_and, List.not_any_eq_all_not]
    simp only [Bool.not_not]
  · rw [decide_eq_false h2, decide_eq_false (show ¬ m.2.1.length ≤ 10 by omega)]; rfl
noncomputable def i_ValidMatrix_V : Env := ⟨tau, [(57, i_within_c), (161, slices_ContainsFunc_int64_i_ValidMatrixc1_c)], []⟩
noncomputable def i_ValidMatrix_b : Code := (Try.f129.body).getD .skip
noncomputable def i_ValidMatrix_I : FnI := ⟨i_ValidMatrix_b, Try.f129.results.toList, Try.f129.resultTypes.toList, []⟩
noncomputable def i_ValidMatrix_out (_zp0 : Bool) (_p0 : TMatrix) : Bool → CallOut := fun r => ⟨(.imm true .bool r), [], []⟩
set_option maxRecDepth 100000 in
theorem i_ValidMatrix_eq : ∀ (zp0 : Bool) (p0 : TMatrix), denFn i_ValidMatrix_V i_ValidMatrix_I ⟨[(.imm zp0 kMatrix p0)], []⟩ = (i_ValidMatrix p0).run fun r => some (i_ValidMatrix_out zp0 p0 r) := fun _ _ => by kernel_rfl
noncomputable def i_ValidMatrix_G (av : List AV) (rs : List Root) : Tre CallOut :=
  asCons av fun a0_ av0 =>
  asEnd av0 <|
  asEnd rs <|
  asImm kMatrix a0_ fun z2 d1 =>
  .mat (i_ValidMatrix_F d1) fun r => .ret (i_ValidMatrix_out z2 d1 r)
noncomputable def i_ValidMatrix_c : Ctr := ⟨[], fun ci => i_ValidMatrix_G ci.args ci.roots, false⟩
theorem i_ValidMatrix_env : EnvOK Try.prog .none i_ValidMatrix_V := (envOK_cons i_within_ok ent57 (envOK_cons slices_ContainsFunc_int64_i_ValidMatrixc1_ok ent161 envOK_nil))
set_option maxRecDepth 100000 in
theorem i_ValidMatrix_ok : Contract Try.prog .none 129 i_ValidMatrix_c := by
  have hl : LoopsOK i_ValidMatrix_V [] i_ValidMatrix_b := loopsOK_nil (by kernel_rfl)
  refine (contract_of (F := i_ValidMatrix_I) tau_tys i_ValidMatrix_env Try.func129 (by kernel_rfl) (by kernel_rfl) (by kernel_rfl) hl []).weaken ?_
  rintro ⟨av, rs⟩ co h
  have h : (i_ValidMatrix_G av rs).run some = some co := h
  obtain ⟨a0_, av0, rfl, h_0⟩ := asCons_spec h
  obtain ⟨rfl, h_1⟩ := asEnd_spec h_0
  obtain ⟨rfl, h_2⟩ := asEnd_spec h_1
  obtain ⟨z2, d1, rfl, h_3⟩ := asImm_spec h_2
  exact fin_mat (i_ValidMatrix_eq z2 d1) h_3
end Go.Proofs.Ythnkanacjhlhhaa

namespace Go.Proofs.Ythnkanacjhlhhaa
open Go Go.Abs Go.Proofs
noncomputable def slices_Clone_int64_b930 : Tre (List Int) :=
  .ret []
noncomputable def slices_Clone_int64_b930_F : Option (List Int) := (slices_Clone_int64_b930).run some
theorem slices_Clone_int64_b930_spec : slices_Clone_int64_b930_F = some [] := rfl
noncomputable def slices_Clone_int64_b930_V : Env := ⟨tau, [], []⟩
noncomputable def slices_Clone_int64_b930_b : Code := (Try.f115.body).getD .skip
noncomputable def slices_Clone_int64_b930_I : FnI := ⟨slices_Clone_int64_b930_b, Try.f115.results.toList, Try.f115.resultTypes.toList, []⟩
noncomputable def slices_Clone_int64_b930_out : (List Int) → CallOut := fun r => ⟨(.ref (1, 0) []), [], [⟨false, (.sl (.int .i64)), .own, r⟩]⟩
set_option maxRecDepth 100000 in
theorem slices_Clone_int64_b930_eq : denFn slices_Clone_int64_b930_V slices_Clone_int64_b930_I ⟨[.nil], []⟩ = (slices_Clone_int64_b930).run fun r => some (slices_Clone_int64_b930_out r) := by kernel_rfl
noncomputable def slices_Clone_int64_b930_G (av : List AV) (rs : List Root) : Tre CallOut :=
  asCons av fun a0_ av0 =>
  asEnd av0 <|
  asEnd rs <|
  asNil a0_ <|
  .ret (slices_Clone_int64_b930_out [])
noncomputable def slices_Clone_int64_b930_c : Ctr := ⟨[], fun ci => slices_Clone_int64_b930_G ci.args ci.roots, false⟩
theorem slices_Clone_int64_b930_env : EnvOK Try.prog .none slices_Clone_int64_b930_V := envOK_nil
set_option maxRecDepth 100000 in
theorem slices_Clone_int64_b930_ok : Contract Try.prog .none 115 slices_Clone_int64_b930_c := by
  have hl : LoopsOK slices_Clone_int64_b930_V [] slices_Clone_int64_b930_b := loopsOK_nil (by kernel_rfl)
  refine (contract_of (F := slices_Clone_int64_b930_I) tau_tys slices_Clone_int64_b930_env Try.func115 (by kernel_rfl) (by kernel_rfl) (by kernel_rfl) hl []).weaken ?_
  rintro ⟨av, rs⟩ co h
  have h : (slices_Clone_int64_b930_G av rs).run some = some co := h
  obtain ⟨a0_, av0, rfl, h_0⟩ := asCons_spec h
  obtain ⟨rfl, h_1⟩ := asEnd_spec h_0
  obtain ⟨rfl, h_2⟩ := asEnd_spec h_1
  obtain ⟨rfl, h_3⟩ := asNil_spec h_2
  exact fin_ret (slices_Clone_int64_b930_eq) (slices_Clone_int64_b930_spec) h_3
end Go.Proofs.Ythnkanacjhlhhaa

namespace Go.Proofs.Ythnkanacjhlhhaa
open Go Go.Abs Go.Proofs
noncomputable def slices_Clone_int64_6661 (p0 : (List Int)) : Tre (List Int) :=
  .ite ((0 + p0.length) * 8 ≤ appendMax ∧ 1 ≤ 8) <|
  .ret ([] ++ p0)
noncomputable def slices_Clone_int64_6661_F (p0 : (List Int)) : Option (List Int) := (slices_Clone_int64_6661 p0).run some
theorem slices_Clone_int64_6661_spec (p0 : List Int) (y : List Int) (h : cloneR p0 = some y) : slices_Clone_int64_6661_F p0 = some y := by
  obtain ⟨hl, rfl⟩ := lim_some h
  have hb : (0 + p0.length) * 8 ≤ appendMax ∧ 1 ≤ 8 := by unfold appendMax; omega
  unfold slices_Clone_int64_6661_F slices_Clone_int64_6661
  rw [Tre.run_ite, if_pos hb]
  rfl
noncomputable def slices_Clone_int64_6661_V : Env := ⟨tau, [], []⟩
noncomputable def slices_Clone_int64_6661_b : Code := (Try.f115.body).getD .skip
noncomputable def slices_Clone_int64_6661_I : FnI := ⟨slices_Clone_int64_6661_b, Try.f115.results.toList, Try.f115.resultTypes.toList, []⟩
noncomputable def slices_Clone_int64_6661_out (_zp0 : Bool) (_p0 : (List Int)) : (List Int) → CallOut := fun r => ⟨(.ref (1, 0) []), [], [⟨false, (.sl (.int .i64)), .own, r⟩]⟩
set_option maxRecDepth 100000 in
theorem slices_Clone_int64_6661_eq : ∀ (zp0 : Bool) (p0 : (List Int)), denFn slices_Clone_int64_6661_V slices_Clone_int64_6661_I ⟨[(.nn zp0 (.int .i64) p0)], []⟩ = (slices_Clone_int64_6661 p0).run fun r => some (slices_Clone_int64_6661_out zp0 p0 r) := fun _ _ => by kernel_rfl
noncomputable def slices_Clone_int64_6661_G (av : List AV) (rs : List Root) : Tre CallOut :=
  asCons av fun a0_ av0 =>
  asEnd av0 <|
  asEnd rs <|
  asNn (.int .i64) a0_ fun z1 d2 =>
  .mat (cloneR d2) fun r => .ret (slices_Clone_int64_6661_out z1 d2 r)
noncomputable def slices_Clone_int64_6661_c : Ctr := ⟨[], fun ci => slices_Clone_int64_6661_G ci.args ci.roots, false⟩
theorem slices_Clone_int64_6661_env : EnvOK Try.prog .none slices_Clone_int64_6661_V := envOK_nil
set_option maxRecDepth 100000 in
theorem slices_Clone_int64_6661_ok : Contract Try.prog .none 115 slices_Clone_int64_6661_c := by
  have hl : LoopsOK slices_Clone_int64_6661_V [] slices_Clone_int64_6661_b := loopsOK_nil (by kernel_rfl)
  refine (contract_of (F := slices_Clone_int64_6661_I) tau_tys slices_Clone_int64_6661_env Try.func115 (by kernel_rfl) (by kernel_rfl) (by kernel_rfl) hl []).weaken ?_
  rintro ⟨av, rs⟩ co h
  have h : (slices_Clone_int64_6661_G av rs).run some = some co := h
  obtain ⟨a0_, av0, rfl, h_0⟩ := asCons_spec h
  obtain ⟨rfl, h_1⟩ := asEnd_spec h_0
  obtain ⟨rfl, h_2⟩ := asEnd_spec h_1
  obtain ⟨z1, d2, rfl, h_3⟩ := asNn_spec h_2
  exact fin_opt (slices_Clone_int64_6661_eq z1 d2) (slices_Clone_int64_6661_spec d2) h_3
end Go.Proofs.Ythnkanacjhlhhaa

namespace Go.Proofs.Ythnkanacjhlhhaa
open Go Go.Abs Go.Proofs
theorem slices_Clone_int64_nil (y : List Int) (h : cloneR ([] : List Int) = some y) : y = [] := (lim_some h).2.symm
noncomputable def slices_Clone_int64_G (av : List AV) (rs : List Root) : Tre CallOut :=
  asCons av fun a0_ av0 =>
  asEnd av0 <|
  asEnd rs <|
  asImm (.sl (.int .i64)) a0_ fun z2 d1 =>
  .mat (cloneR d1) fun r => .ret ⟨(.ref (1, 0) []), [], [⟨false, (.sl (.int .i64)), .own, r⟩]⟩
noncomputable def slices_Clone_int64_c : Ctr := ⟨[], fun ci => slices_Clone_int64_G ci.args ci.roots, false⟩
theorem slices_Clone_int64_ok : Contract Try.prog .none 115 slices_Clone_int64_c := by
  refine contract_nil (e := (.int .i64)) slices_Clone_int64_b930_ok slices_Clone_int64_6661_ok ?_
  rintro ⟨av, rs⟩ co h
  have h : (slices_Clone_int64_G av rs).run some = some co := h
  obtain ⟨a0_, av0, rfl, h_0⟩ := asCons_spec h
  obtain ⟨rfl, h_1⟩ := asEnd_spec h_0
  obtain ⟨rfl, h_2⟩ := asEnd_spec h_1
  obtain ⟨z2, d1, rfl, h_3⟩ := asImm_spec h_2
  refine ⟨z2, d1, rfl, ?_, ?_⟩
  · exact h_3
  · rintro rfl
    obtain ⟨y, h1, h2⟩ := mat_ret h_3
    have hy : y = [] := by
      have := slices_Clone_int64_nil y h1
      exact this
    subst hy
    rw [← h2]; rfl
end Go.Proofs.Ythnkanacjhlhhaa

namespace Go.Proofs.Ythnkanacjhlhhaa
open Go Go.Abs Go.Proofs
noncomputable def i_echelonc1_66da (p0 : Int) (p1 : Int) : Tre Bool :=
  .ite (0 ≤ p1) <|
  let v1 := iand .i64 (ishr .i64 p0 p1) 1
  .ret (decide (v1 = 1))
noncomputable def i_echelonc1_66da_F (p0 : Int) (p1 : Int) : Option Bool := (i_echelonc1_66da p0 p1).run some
def bitB (x j : Int) : Option Bool := askO (decide (0 ≤ j)) (bitAt x j)
theorem i_echelonc1_66da_spec (p0 p1 : Int) (y : Bool) (h : bitB p0 p1 = some y) : i_echelonc1_66da_F p0 p1 = some y := by
  obtain ⟨hl, rfl⟩ := askO_some h
  unfold i_echelonc1_66da_F i_echelonc1_66da
  rw [Tre.run_ite, if_pos (of_decide_eq_true hl)]
  rfl
noncomputable def i_echelonc1_66da_V : Env := ⟨tau, [], []⟩
noncomputable def i_echelonc1_66da_b : Code := (Try.f117.body).getD .skip
noncomputable def i_echelonc1_66da_I : FnI := ⟨i_echelonc1_66da_b, Try.f117.results.toList, Try.f117.resultTypes.toList, []⟩
noncomputable def i_echelonc1_66da_out (_p0 : Int) (p1 : Int) : Bool → CallOut := fun r => ⟨(.imm true .bool r), [⟨true, (.int .i64), .own, p1⟩], []⟩
set_option maxRecDepth 100000 in
theorem i_echelonc1_66da_eq : ∀ (p0 : Int) (p1 : Int), denFn i_echelonc1_66da_V i_echelonc1_66da_I ⟨[(.imm true (.int .i64) p0), (.ptr (0, 0) [])], [⟨true, (.int .i64), .own, p1⟩]⟩ = (i_echelonc1_66da p0 p1).run fun r => some (i_echelonc1_66da_out p0 p1 r) := fun _ _ => by kernel_rfl
noncomputable def i_echelonc1_66da_G (av : List AV) (rs : List Root) : Tre CallOut :=
  asCons av fun a0_ av0 =>
  asCons av0 fun a1_ av1 =>
  asEnd av1 <|
  asCons rs fun r0_ rs0 =>
  asEnd rs0 <|
  asImmZ true (.int .i64) a0_ fun d1 =>
  asPtr (0, 0) [] a1_ <|
  asRt true (.int .i64) r0_ fun m2 d3 =>
  asM .own m2 <|
  .mat (bitB d1 d3) fun r => .ret (i_echelonc1_66da_out d1 d3 r)
noncomputable def i_echelonc1_66da_c : Ctr := ⟨[], fun ci => i_echelonc1_66da_G ci.args ci.roots, false⟩
theorem i_echelonc1_66da_env : EnvOK Try.prog .none i_echelonc1_66da_V := envOK_nil
set_option maxRecDepth 100000 in
theorem i_echelonc1_66da_ok : Contract Try.prog .none 117 i_echelonc1_66da_c := by
  have hl : LoopsOK i_echelonc1_66da_V [] i_echelonc1_66da_b := loopsOK_nil (by kernel_rfl)
  refine (contract_of (F := i_echelonc1_66da_I) tau_tys i_echelonc1_66da_env Try.func117 (by kernel_rfl) (by kernel_rfl) (by kernel_rfl) hl []).weaken ?_
  rintro ⟨av, rs⟩ co h
  have h : (i_echelonc1_66da_G av rs).run some = some co := h
  obtain ⟨a0_, av0, rfl, h_0⟩ := asCons_spec h
  obtain ⟨a1_, av1, rfl, h_1⟩ := asCons_spec h_0
  obtain ⟨rfl, h_2⟩ := asEnd_spec h_1
  obtain ⟨r0_, rs0, rfl, h_3⟩ := asCons_spec h_2
  obtain ⟨rfl, h_4⟩ := asEnd_spec h_3
  obtain ⟨d1, rfl, h_5⟩ := asImmZ_spec h_4
  obtain ⟨rfl, h_6⟩ := asPtr_spec h_5
  obtain ⟨m2, d3, rfl, h_7⟩ := asRt_spec h_6
  obtain ⟨rfl, h_8⟩ := asM_spec h_7
  exact fin_opt (i_echelonc1_66da_eq d1 d3) (i_echelonc1_66da_spec d1 d3) h_8
end Go.Proofs.Ythnkanacjhlhhaa

namespace Go.Proofs.Ythnkanacjhlhhaa
open Go Go.Abs Go.Proofs
noncomputable def slices_IndexFunc_int64_i_echelonc1_l2 (h2_0_0 : (List Int)) (h2_0_1 : Int) (h2_0_3 : Int) : Int → Tre (Int ⊕ (Int ⊕ Unit)) := fun s2 =>
  .cond (decide (s2 < h2_0_1))
    (.ite (0 ≤ s2 ∧ s2 < (h2_0_0.length : Int)) <|
    .mat (h2_0_0[s2.toNat]?) fun x1 =>
    .mat (bitB x1 h2_0_3) fun r2 =>
    .cond r2
      (.ret (.inr (.inl s2)))
      (.ret (.inl (iwrap .i64 (s2 + 1)))))
    (.ret (.inr (.inr ())))
noncomputable def slices_IndexFunc_int64_i_echelonc1 (p0 : (List Int)) (p1 : Int) : Tre Int :=
  .mat (loopF (slices_IndexFunc_int64_i_echelonc1_l2 p0 (p0.length : Int) p1) 0) fun l3 =>
  .alt l3
    (fun a4 =>
      .ret a4)
    (fun _ =>
      .ret (-1))
noncomputable def slices_IndexFunc_int64_i_echelonc1_F (p0 : (List Int)) (p1 : Int) : Option Int := (slices_IndexFunc_int64_i_echelonc1 p0 p1).run some
def idxB (xs : List Int) (j : Int) : Option Int := askO (decide (0 ≤ j) && decide (xs.length ≤ 1048576)) (idxI (fun x => bitAt x j) 0 xs)
theorem slices_IndexFunc_int64_i_echelonc1_spec (p0 : List Int) (p1 : Int) (y : Int) (h : idxB p0 p1 = some y) : slices_IndexFunc_int64_i_echelonc1_F p0 p1 = some y := by
  obtain ⟨hl, rfl⟩ := askO_some h
  rw [Bool.and_eq_true] at hl
  obtain ⟨hm, hl⟩ := hl
  have hl := of_decide_eq_true hl
  unfold slices_IndexFunc_int64_i_echelonc1_F slices_IndexFunc_int64_i_echelonc1
  rw [Tre.run_mat, find_loop (xs := p0) (fun i x => cond (bitAt x p1) (some (.inl (i : Int))) none) (.inr ())]
  · rw [Option.bind_some, ← findE_idx (p := fun x => bitAt x p1)]
    generalize findE _ _ _ _ = r
    cases r <;> rfl
  · intro i x hx
    have hi : i < p0.length := (List.getElem?_eq_some_iff.1 hx).1
    unfold slices_IndexFunc_int64_i_echelonc1_l2
    rw [run_inb hx, run_some_mat (show bitB x p1 = some _ from askO_true hm), Tre.run_cond]
    cases bitAt x p1
    · simp only [cond_false, Tre.run_ret, iwrap_succ (show i < 4611686018427387904 by omega)]
    · rfl
  · unfold slices_IndexFunc_int64_i_echelonc1_l2
    exact run_out
noncomputable def slices_IndexFunc_int64_i_echelonc1_V : Env := ⟨tau, [(117, i_echelonc1_66da_c)], []⟩
noncomputable def slices_IndexFunc_int64_i_echelonc1_b : Code := (Try.f116.body).getD .skip
noncomputable def slices_IndexFunc_int64_i_echelonc1_l2_mk (z2_0 : Bool) (h2_0_0 : (List Int)) (h2_0_1 : Int) (h2_0_3 : Int) : Int → St := fun x => stOf [(0, (.imm z2_0 (.sl (.int .i64)) h2_0_0)), (1, (.fn 117 [(0, 0)])), (7, (.imm true (.int .i64) h2_0_1)), (8, (.imm true (.int .i64) x))] [((0, 0), some ⟨true, (.int .i64), .own, h2_0_3⟩)]
noncomputable def slices_IndexFunc_int64_i_echelonc1_l2_out (_z2_0 : Bool) (_h2_0_0 : (List Int)) (_h2_0_1 : Int) (h2_0_3 : Int) : (Int ⊕ Unit) → Ex × St
  | .inl x => (.ret, stOf [(4, (.imm true (.int .i64) x))] [((0, 0), some ⟨true, (.int .i64), .own, h2_0_3⟩)])
  | .inr x => (.exit 0, stOf [(4, .dead)] [((0, 0), some ⟨true, (.int .i64), .own, h2_0_3⟩)])
noncomputable def slices_IndexFunc_int64_i_echelonc1_l2_D (s : St) : Tre (Ex × St) :=
  asImm (.sl (.int .i64)) (s.tmps 0) fun z3 d2 =>
  asFn 117 [(0, 0)] (s.tmps 1) <|
  asImmZ true (.int .i64) (s.tmps 7) fun d6 =>
  asImmZ true (.int .i64) (s.tmps 8) fun d8 =>
  asRoot true (.int .i64) (s.roots (0, 0)) fun m10 d11 =>
  asM .own m10 <|
  .mat (loopF (slices_IndexFunc_int64_i_echelonc1_l2 d2 d6 d11) d8) fun x => .alt x (fun a0 => .ret (slices_IndexFunc_int64_i_echelonc1_l2_out z3 d2 d6 d11 (.inl a0))) (fun b0 => .ret (slices_IndexFunc_int64_i_echelonc1_l2_out z3 d2 d6 d11 (.inr b0)))
noncomputable def slices_IndexFunc_int64_i_echelonc1_l2_L : LoopI := ⟨([0, 1, 7, 8], [(0, 0)]), ([4], [(0, 0)]), slices_IndexFunc_int64_i_echelonc1_l2_D⟩
noncomputable def slices_IndexFunc_int64_i_echelonc1_A : List (Nat × LoopI) := [(2, slices_IndexFunc_int64_i_echelonc1_l2_L)]
set_option maxRecDepth 100000 in
theorem slices_IndexFunc_int64_i_echelonc1_l2_step : ∀ (z2_0 : Bool) (h2_0_0 : (List Int)) (h2_0_1 : Int) (h2_0_3 : Int) (x : Int) (c : St → Option (Ex × St)), den slices_IndexFunc_int64_i_echelonc1_V slices_IndexFunc_int64_i_echelonc1_A (loopAt slices_IndexFunc_int64_i_echelonc1_b 0) (slices_IndexFunc_int64_i_echelonc1_l2_mk z2_0 h2_0_0 h2_0_1 h2_0_3 x) (roundK slices_IndexFunc_int64_i_echelonc1_l2_L.kp slices_IndexFunc_int64_i_echelonc1_l2_L.kx c) = (slices_IndexFunc_int64_i_echelonc1_l2 h2_0_0 h2_0_1 h2_0_3 x).run (roundR (slices_IndexFunc_int64_i_echelonc1_l2_mk z2_0 h2_0_0 h2_0_1 h2_0_3) (slices_IndexFunc_int64_i_echelonc1_l2_out z2_0 h2_0_0 h2_0_1 h2_0_3) c) := fun _ _ _ _ _ _ => by
  kernel_rfl
theorem slices_IndexFunc_int64_i_echelonc1_l2_ok : LoopOK slices_IndexFunc_int64_i_echelonc1_V slices_IndexFunc_int64_i_echelonc1_A (loopAt slices_IndexFunc_int64_i_echelonc1_b 0) slices_IndexFunc_int64_i_echelonc1_l2_L := loopOK_of fun s e s' h => by
  generalize hs : restrict slices_IndexFunc_int64_i_echelonc1_l2_L.kp s = s1 at h
  have h : (slices_IndexFunc_int64_i_echelonc1_l2_D s1).run some = some (e, s') := h
  obtain ⟨z3, d2, e1, h_0⟩ := asImm_spec h
  obtain ⟨e4, h_1⟩ := asFn_spec h_0
  obtain ⟨d6, e5, h_2⟩ := asImmZ_spec h_1
  obtain ⟨d8, e7, h_3⟩ := asImmZ_spec h_2
  obtain ⟨m10, d11, e9, h_4⟩ := asRoot_spec h_3
  obtain ⟨rfl, h_5⟩ := asM_spec h_4
  obtain ⟨y, hy, hz⟩ := mat_some h_5
  refine ⟨_, _, slices_IndexFunc_int64_i_echelonc1_l2_mk z3 d2 d6 d11, slices_IndexFunc_int64_i_echelonc1_l2_out z3 d2 d6 d11, slices_IndexFunc_int64_i_echelonc1_l2 d2 d6 d11, d8, y, ?_, hy, ?_, slices_IndexFunc_int64_i_echelonc1_l2_step z3 d2 d6 d11⟩
  · subst hs; exact restrict_eq (T := [(0, (.imm z3 (.sl (.int .i64)) d2)), (1, (.fn 117 [(0, 0)])), (7, (.imm true (.int .i64) d6)), (8, (.imm true (.int .i64) d8))]) (U := [((0, 0), some ⟨true, (.int .i64), .own, d11⟩)]) rfl rfl ⟨e1, e4, e5, e7, trivial⟩ ⟨e9, trivial⟩
  · rcases y with x | x <;> exact Option.some.inj hz
noncomputable def slices_IndexFunc_int64_i_echelonc1_I : FnI := ⟨slices_IndexFunc_int64_i_echelonc1_b, Try.f116.results.toList, Try.f116.resultTypes.toList, slices_IndexFunc_int64_i_echelonc1_A⟩
noncomputable def slices_IndexFunc_int64_i_echelonc1_out (_zp0 : Bool) (_p0 : (List Int)) (p1 : Int) : Int → CallOut := fun r => ⟨(.imm true (.int .i64) r), [⟨true, (.int .i64), .own, p1⟩], []⟩
set_option maxRecDepth 100000 in
theorem slices_IndexFunc_int64_i_echelonc1_eq : ∀ (zp0 : Bool) (p0 : (List Int)) (p1 : Int), denFn slices_IndexFunc_int64_i_echelonc1_V slices_IndexFunc_int64_i_echelonc1_I ⟨[(.imm zp0 (.sl (.int .i64)) p0), (.fn 117 [(0, 0)])], [⟨true, (.int .i64), .own, p1⟩]⟩ = (slices_IndexFunc_int64_i_echelonc1 p0 p1).run fun r => some (slices_IndexFunc_int64_i_echelonc1_out zp0 p0 p1 r) := fun _ _ _ => by kernel_rfl
noncomputable def slices_IndexFunc_int64_i_echelonc1_G (av : List AV) (rs : List Root) : Tre CallOut :=
  asCons av fun a0_ av0 =>
  asCons av0 fun a1_ av1 =>
  asEnd av1 <|
  asCons rs fun r0_ rs0 =>
  asEnd rs0 <|
  asImm (.sl (.int .i64)) a0_ fun z2 d1 =>
  asFn 117 [(0, 0)] a1_ <|
  asRt true (.int .i64) r0_ fun m3 d4 =>
  asM .own m3 <|
  .mat (idxB d1 d4) fun r => .ret (slices_IndexFunc_int64_i_echelonc1_out z2 d1 d4 r)
noncomputable def slices_IndexFunc_int64_i_echelonc1_c : Ctr := ⟨[], fun ci => slices_IndexFunc_int64_i_echelonc1_G ci.args ci.roots, false⟩
theorem slices_IndexFunc_int64_i_echelonc1_env : EnvOK Try.prog .none slices_IndexFunc_int64_i_echelonc1_V := (envOK_cons i_echelonc1_66da_ok ent117 envOK_nil)
set_option maxRecDepth 100000 in
theorem slices_IndexFunc_int64_i_echelonc1_ok : Contract Try.prog .none 116 slices_IndexFunc_int64_i_echelonc1_c := by
  have hl : LoopsOK slices_IndexFunc_int64_i_echelonc1_V slices_IndexFunc_int64_i_echelonc1_A slices_IndexFunc_int64_i_echelonc1_b := (loopsOK_all (n := 1) (by kernel_rfl) fun k hk => by
      match k, hk with
      | 0, _ => exact loopOK_at (id := 2) (L := slices_IndexFunc_int64_i_echelonc1_l2_L) (by kernel_rfl) (by kernel_rfl) slices_IndexFunc_int64_i_echelonc1_l2_ok)
  refine (contract_of (F := slices_IndexFunc_int64_i_echelonc1_I) tau_tys slices_IndexFunc_int64_i_echelonc1_env Try.func116 (by kernel_rfl) (by kernel_rfl) (by kernel_rfl) hl []).weaken ?_
  rintro ⟨av, rs⟩ co h
  have h : (slices_IndexFunc_int64_i_echelonc1_G av rs).run some = some co := h
  obtain ⟨a0_, av0, rfl, h_0⟩ := asCons_spec h
  obtain ⟨a1_, av1, rfl, h_1⟩ := asCons_spec h_0
  obtain ⟨rfl, h_2⟩ := asEnd_spec h_1
  obtain ⟨r0_, rs0, rfl, h_3⟩ := asCons_spec h_2
  obtain ⟨rfl, h_4⟩ := asEnd_spec h_3
  obtain ⟨z2, d1, rfl, h_5⟩ := asImm_spec h_4
  obtain ⟨rfl, h_6⟩ := asFn_spec h_5
  obtain ⟨m3, d4, rfl, h_7⟩ := asRt_spec h_6
  obtain ⟨rfl, h_8⟩ := asM_spec h_7
  exact fin_opt (slices_IndexFunc_int64_i_echelonc1_eq z2 d1 d4) (slices_IndexFunc_int64_i_echelonc1_spec d1 d4) h_8
end Go.Proofs.Ythnkanacjhlhhaa

namespace Go.Proofs.Ythnkanacjhlhhaa
open Go Go.Abs Go.Proofs
noncomputable def i_echelon_l10 (h10_0_0 : Int) (h10_0_1 : Int) (h10_0_4 : Int) : (Int × (List Int)) → Tre ((Int × (List Int)) ⊕ (List Int)) := fun s10 =>
  .cond (decide (s10.1 < h10_0_1))
    (.cond (!decide (s10.1 = h10_0_0))
      (.ite (0 ≤ s10.1 ∧ s10.1 < (s10.2.length : Int)) <|
      .mat (s10.2[s10.1.toNat]?) fun x9 =>
      .ite (0 ≤ h10_0_4) <|
      let v10 := iand .i64 (ishr .i64 x9 h10_0_4) 1
      .cond (decide (v10 = 1))
        (.ite (0 ≤ s10.1 ∧ s10.1 < (s10.2.length : Int)) <|
        .mat (s10.2[s10.1.toNat]?) fun x11 =>
        .ite (0 ≤ h10_0_0 ∧ h10_0_0 < (s10.2.length : Int)) <|
        .mat (s10.2[h10_0_0.toNat]?) fun x12 =>
        .ite (0 ≤ s10.1 ∧ s10.1 < (s10.2.length : Int)) <|
        .mat (s10.2[s10.1.toNat]?) fun _ =>
        let v14 := s10.2.set s10.1.toNat (ixor .i64 x11 x12)
        .ret (.inl (iwrap .i64 (s10.1 + 1), v14)))
        (.ret (.inl (iwrap .i64 (s10.1 + 1), s10.2))))
      (.ret (.inl (iwrap .i64 (s10.1 + 1), s10.2))))
    (.ret (.inr s10.2))
noncomputable def i_echelon_l4 : (Int × (List Int) × Int) → Tre ((Int × (List Int) × Int) ⊕ (Int × (List Int))) := fun s4 =>
  .cond (decide (s4.2.2 < 62))
    (.cond (decide (s4.1 < (s4.2.1.length : Int)))
      (.ite (0 ≤ s4.1 ∧ s4.1 ≤ (s4.2.1.length : Int) ∧ (s4.2.1.length : Int) ≤ (s4.2.1.length : Int)) <|
      .mat (idxB ((s4.2.1.drop s4.1.toNat).take (((s4.2.1.length : Int) - s4.1).toNat)) s4.2.2) fun r2 =>
      .cond (decide (r2 < 0))
        (.ret (.inl (s4.1, s4.2.1, iwrap .i64 (s4.2.2 + 1))))
        (.ite (0 ≤ iwrap .i64 (s4.1 + r2) ∧ iwrap .i64 (s4.1 + r2) < (s4.2.1.length : Int)) <|
        .mat (s4.2.1[(iwrap .i64 (s4.1 + r2)).toNat]?) fun x3 =>
        .ite (0 ≤ s4.1 ∧ s4.1 < (s4.2.1.length : Int)) <|
        .mat (s4.2.1[s4.1.toNat]?) fun x4 =>
        .ite (0 ≤ s4.1 ∧ s4.1 < (s4.2.1.length : Int)) <|
        .mat (s4.2.1[s4.1.toNat]?) fun _ =>
        let v6 := s4.2.1.set s4.1.toNat x3
        .ite (0 ≤ iwrap .i64 (s4.1 + r2) ∧ iwrap .i64 (s4.1 + r2) < (v6.length : Int)) <|
        .mat (v6[(iwrap .i64 (s4.1 + r2)).toNat]?) fun _ =>
        let v8 := v6.set ((iwrap .i64 (s4.1 + r2)).toNat) x4
        .mat (loopF (i_echelon_l10 s4.1 (v8.length : Int) s4.2.2) (0, v8)) fun l15 =>
        .ret (.inl (iwrap .i64 (s4.1 + 1), l15, iwrap .i64 (s4.2.2 + 1)))))
      (.ret (.inr (s4.1, s4.2.1))))
    (.ret (.inr (s4.1, s4.2.1)))
noncomputable def i_echelon (p0 : (List Int)) : Tre (List Int) :=
  .mat (cloneR p0) fun r1 =>
  .mat (loopF i_echelon_l4 (0, r1, 0)) fun l16 =>
  .ite (0 ≤ (0 : Int) ∧ (0 : Int) ≤ l16.1 ∧ l16.1 ≤ (l16.2.length : Int)) <|
  .ret ((l16.2.drop 0).take ((l16.1 - 0).toNat))
noncomputable def i_echelon_F (p0 : (List Int)) : Option (List Int) := (i_echelon p0).run some
noncomputable def echA (xs : List Int) : Option (List Int) := askO (okRows 62 xs) (echI xs)
theorem i_echelon_elim (k c r : Nat) (hc : c ≤ 62) (hr : r < 2 ^ 62) (A B : List Nat) (hk : A.length = k) (hb : ∀ n ∈ A ++ r :: B, n < 2 ^ 62) (hl : (A ++ r :: B).length ≤ 1048576) :
    loopF (i_echelon_l10 (k : Int) ((A ++ r :: B).length : Int) (c : Int)) (0, up (A ++ r :: B)) = some (up (A.map (elimB c r) ++ r :: B.map (elimB c r))) := by
  have hkr : (A ++ r :: B)[k]? = some r := by rw [List.getElem?_append_right (by omega), hk]; simp
  generalize hL : A ++ r :: B = l at *
  have := part_loop (step := i_echelon_l10 (k : Int) (l.length : Int) (c : Int)) (fun i x => if i = k then x else elimB c r x) l id (by
    intro i x hx
    have hi : i < l.length := (List.getElem?_eq_some_iff.1 hx).1
    have hx2 := up_at (part_at (g := fun i x => if i = k then x else elimB c r x) (i := i) hx)
    rw [if_neg (Nat.lt_irrefl i)] at hx2
    have hr2 := up_at (part_at (g := fun i x => if i = k then x else elimB c r x) (i := i) hkr)
    simp only [if_true, ite_self] at hr2
    have hxb := hb x (List.mem_of_getElem? hx)
    rw [← part_set hx]
    generalize hP : partB (fun i x => if i = k then x else elimB c r x) i l = P at *
    have hset : (up P).set i (x : Int) = up P := List.ext_getElem? fun j => by
      rw [List.getElem?_set]
      by_cases hj : i = j
      · subst hj; rw [if_pos rfl, hx2, if_pos (List.getElem?_eq_some_iff.1 hx2).1]
      · rw [if_neg hj]
    unfold i_echelon_l10
    rw [Tre.run_cond]
    show cond (decide ((i : Int) < (l.length : Int))) _ _ = _
    rw [show decide ((i : Int) < (l.length : Int)) = true from by simpa using hi, cond_true, Tre.run_cond]
    show cond (!decide ((i : Int) = (k : Int))) _ _ = _
    by_cases hik : i = k
    · rw [show decide ((i : Int) = (k : Int)) = true from decide_eq_true (by omega), Bool.not_true, cond_false, Tre.run_ret, iwrap_succ (by omega), if_pos hik, ← up_set, hset]
    · rw [show decide ((i : Int) = (k : Int)) = false from decide_eq_false (by omega), Bool.not_false, cond_true, run_at hx2, Tre.run_ite, if_pos (by omega), Tre.run_cond, if_neg hik]
      show cond (bitAt (x : Int) (c : Int)) _ _ = _
      rw [bitAt_nat (by omega) (by omega)]
      have he : elimB c r x = cond (x.testBit c) (x ^^^ r) x := rfl
      rw [he]
      cases x.testBit c
      · rw [cond_false, Tre.run_ret, iwrap_succ (by omega), cond_false, ← up_set, hset]
      · rw [cond_true, run_at hx2, run_at hr2, run_at hx2, Tre.run_ret, iwrap_succ (by omega), ixor_nat (by omega) (by omega), Int.toNat_natCast, cond_true, ← up_set])
    (by
    unfold i_echelon_l10
    exact run_out)
  rw [this, ← hL, mapIdx_pivot (f := elimB c r) (g := fun i x => if i = k then x else elimB c r x) (r := r) (B := B) hk (fun i x h => if_neg h) (if_pos rfl)]
  rfl
theorem i_echelon_loop (orig : List Nat) : ∀ (n c : Nat) (E : List (Nat × Nat)) (R : List Nat), c + n = 62 → Inv orig c E R → E.length + R.length ≤ 1048576 → (∀ x ∈ R, x < 2 ^ 62) → (∀ a ∈ E, a.2 < 2 ^ 62) →
    ∃ (E' L : List Nat), loopF i_echelon_l4 ((E.length : Int), up (E.map (·.2) ++ R), (c : Int)) = some ((E'.length : Int), up (E' ++ L)) ∧ IsEch orig E' := by
  intro n
  induction n with
  | zero =>
    intro c E R hc hI _ hR _
    have : c = 62 := hc
    subst this
    refine ⟨E.map (·.2), R, loopF_done ?_, hI.done fun x hx => zero_of_bits (hR x hx) (hI.low x hx)⟩
    unfold i_echelon_l4
    simp [Tre.run_cond, Tre.run_ret]
  | succ n ih =>
    intro c E R hc hI hl hR hEb
    have hcm : c < 62 := by omega
    have hlen : (up (E.map (·.2) ++ R)).length = E.length + R.length := by rw [up_len]; simp
    by_cases hR0 : R = []
    · subst hR0
      refine ⟨E.map (·.2), [], loopF_done ?_, hI.done fun x hx => by cases hx⟩
      unfold i_echelon_l4
      simp [Tre.run_cond, Tre.run_ret]
    have hRl : 0 < R.length := List.length_pos_iff.2 hR0
    have hstep : ∀ E2 R2, Inv orig (c + 1) E2 R2 → E2.length + R2.length ≤ 1048576 → (∀ x ∈ R2, x < 2 ^ 62) → (∀ a ∈ E2, a.2 < 2 ^ 62) → (i_echelon_l4 ((E.length : Int), up (E.map (·.2) ++ R), (c : Int))).run some = some (.inl ((E2.length : Int), up (E2.map (·.2) ++ R2), ((c + 1 : Nat) : Int))) →
        ∃ (E' L : List Nat), loopF i_echelon_l4 ((E.length : Int), up (E.map (·.2) ++ R), (c : Int)) = some ((E'.length : Int), up (E' ++ L)) ∧ IsEch orig E' := by
      intro E2 R2 h1 h2 h3 h4 h5
      rw [loopF_step h5]
      exact ih (c + 1) E2 R2 (by omega) h1 h2 h3 h4
    have hsub : ((up (E.map (·.2) ++ R)).drop E.length).take (((E.length + R.length : Nat) : Int) - (E.length : Int)).toNat = up R := by
      rw [show (((E.length + R.length : Nat) : Int) - (E.length : Int)).toNat = R.length from by omega]
      unfold up
      rw [List.map_append, List.drop_append_of_le_length (by simp), List.drop_of_length_le (by simp), List.nil_append, List.take_of_length_le (by simp)]
    have hfind : idxB (up R) (c : Int) = some _ := askO_true (by rw [up_len]; simp; omega)
    have hw : iwrap .i64 ((c : Int) + 1) = ((c + 1 : Nat) : Int) := iwrap_succ (by omega)
    have hdec : decide ((c : Int) < 62) = true := by simp; omega
    have hdec2 : decide ((E.length : Int) < ((E.length + R.length : Nat) : Int)) = true := by simp; omega
    rcases idxI_cases (fun x => bitAt x (c : Int)) (up R) 0 with ⟨h1, h2⟩ | ⟨j, x, h1, h2, h3⟩
    · refine hstep E R (hI.skip fun x hx => ?_) hl hR hEb ?_
      · have := h2 (x : Int) (List.mem_map.2 ⟨x, hx, rfl⟩)
        have hxb := hR x hx
        rwa [bitAt_nat (by omega) (by omega)] at this
      · unfold i_echelon_l4
        dsimp only
        rw [hlen, Tre.run_cond, hdec, cond_true, Tre.run_cond, hdec2, cond_true, Tre.run_ite, if_pos (by omega), Int.toNat_natCast, hsub, run_some_mat (hfind.trans (by rw [h1])), Tre.run_cond]
        simp only [show decide ((-1 : Int) < 0) = true from rfl, cond_true, Tre.run_ret, hw]
    · obtain ⟨r, hr1, rfl⟩ : ∃ r : Nat, R[j]? = some r ∧ (r : Int) = x := by
        simp only [up, List.getElem?_map, Option.map_eq_some_iff] at h1
        exact h1
      have hrm : r ∈ R := List.mem_of_getElem? hr1
      have hrb := hR r hrm
      rw [bitAt_nat (by omega) (by omega)] at h2
      rw [Nat.zero_add] at h3
      have hj : j < R.length := (List.getElem?_eq_some_iff.1 hr1).1
      obtain ⟨y, R', rfl⟩ : ∃ y R', R = y :: R' := by
        cases R with
        | nil => exact absurd rfl hR0
        | cons y R' => exact ⟨y, R', rfl⟩
      -- the rows behind the swap
      obtain ⟨B, hB, hB1, hB2, hBl⟩ : ∃ B, ((y :: R').set 0 r).set j y = r :: B ∧ (∀ x ∈ B, x ∈ y :: R') ∧ (∀ x ∈ y :: R', x = r ∨ x ∈ B) ∧ B.length = R'.length := by
        cases j with
        | zero =>
          have hyr : y = r := by simpa using hr1
          subst hyr
          exact ⟨R', by simp, fun x hx => .tail _ hx, fun x hx => by
            cases hx with
            | head => exact .inl rfl
            | tail _ hx => exact .inr hx, rfl⟩
        | succ j =>
          have hr1 : R'[j]? = some r := by simpa using hr1
          have hj' : j < R'.length := (List.getElem?_eq_some_iff.1 hr1).1
          refine ⟨R'.set j y, by simp, fun x hx => ?_, fun x hx => ?_, by simp⟩
          · rcases List.mem_or_eq_of_mem_set hx with hx | rfl
            · exact .tail _ hx
            · exact .head _
          · cases hx with
            | head => exact .inr (List.mem_set hj' _)
            | tail _ hx =>
              obtain ⟨i, hi⟩ := List.getElem?_of_mem hx
              by_cases hij : j = i
              · subst hij; rw [hr1] at hi; exact .inl (Option.some.inj hi).symm
              · exact .inr (List.mem_of_getElem? (i := i) (by rw [List.getElem?_set, if_neg hij, hi]))
      have hE2 : ((E.map fun a => (a.1, elimB c r a.2)) ++ [(c, r)]).map (·.2) = (E.map (·.2)).map (elimB c r) ++ [r] := by simp [List.map_map, Function.comp_def]
      have hRB : (E.map (·.2) ++ r :: B).length = E.length + (y :: R').length := by simp [hBl]
      have hall : ∀ x ∈ E.map (·.2) ++ r :: B, x < 2 ^ 62 := by
        intro x hx
        rcases List.mem_append.1 hx with hx | hx
        · obtain ⟨a, ha, rfl⟩ := List.mem_map.1 hx; exact hEb a ha
        · cases hx with
          | head => exact hrb
          | tail _ hx => exact hR x (hB1 x hx)
      refine hstep (E.map (fun a => (a.1, elimB c r a.2)) ++ [(c, r)]) (B.map (elimB c r)) (hI.step hrm h2 ?_ ?_) (by simp [hBl] at hl ⊢; omega) ?_ ?_ ?_
      · intro z hz
        obtain ⟨x, hx, rfl⟩ := List.mem_map.1 hz
        exact .inr ⟨x, hB1 x hx, rfl⟩
      · intro x hx
        rcases hB2 x hx with h | h
        · exact .inl h
        · exact .inr (List.mem_map.2 ⟨x, h, rfl⟩)
      · intro z hz
        obtain ⟨x, hx, rfl⟩ := List.mem_map.1 hz
        exact elimB_lt hrb (hR x (hB1 x hx))
      · intro a ha
        rcases List.mem_append.1 ha with ha | ha
        · obtain ⟨b, hb, rfl⟩ := List.mem_map.1 ha
          exact elimB_lt hrb (hEb b hb)
        · simp only [List.mem_singleton] at ha; subst ha; exact hrb
      · have e1 := i_echelon_elim E.length c r (by omega) hrb (E.map (·.2)) B (by simp) hall (by rw [hRB]; exact hl)
        have hkj : iwrap .i64 ((E.length : Int) + (j : Int)) = ((E.length + j : Nat) : Int) := by rw [iwrap_i64 (by omega) (by omega)]; omega
        have hat1 : (up (E.map (·.2) ++ y :: R'))[E.length + j]? = some (r : Int) := up_at (by rw [List.getElem?_append_right (by simp)]; simpa using hr1)
        have hat2 : (up (E.map (·.2) ++ y :: R'))[E.length]? = some (y : Int) := up_at (by rw [List.getElem?_append_right (by simp)]; simp)
        have hs1 : (up (E.map (·.2) ++ y :: R')).set E.length (r : Int) = up (E.map (·.2) ++ (y :: R').set 0 r) := by
          rw [up_set, List.set_append_right _ _ (by simp)]
          simp
        have hs2 : (up (E.map (·.2) ++ (y :: R').set 0 r)).set (E.length + j) (y : Int) = up (E.map (·.2) ++ r :: B) := by
          rw [up_set, List.set_append_right _ _ (by simp), ← hB]
          simp
        have hat3 : ∃ z, (up (E.map (·.2) ++ (y :: R').set 0 r))[E.length + j]? = some z := ⟨_, List.getElem?_eq_getElem (by rw [up_len]; simp at hj ⊢; omega)⟩
        obtain ⟨z, hat3⟩ := hat3
        have hlen3 : ((up (E.map (·.2) ++ r :: B)).length : Int) = ((E.map (·.2) ++ r :: B).length : Int) := by rw [up_len]
        unfold i_echelon_l4
        dsimp only
        rw [hlen, Tre.run_cond, hdec, cond_true, Tre.run_cond, hdec2, cond_true, Tre.run_ite, if_pos (by omega), Int.toNat_natCast, hsub, run_some_mat (hfind.trans (by rw [h3])), Tre.run_cond]
        rw [show decide ((j : Int) < 0) = false from by simp, cond_false, hkj, ← hlen, run_at hat1, run_at2 hat2, run_at2 hat2]
        rw [Int.toNat_natCast, hs1, run_at2 hat3, hs2, hlen3, run_some_mat e1, Tre.run_ret, iwrap_succ (by omega), hw, hE2]
        simp [List.append_assoc]
theorem i_echelon_spec (p0 : List Int) (y : List Int) (h : echA p0 = some y) : i_echelon_F p0 = some y := by
  obtain ⟨hl, rfl⟩ := askO_some h
  obtain ⟨ns, rfl, hlen, hb, hn⟩ := okRows_up hl
  obtain ⟨E, L, h1, h2⟩ := i_echelon_loop ns 62 0 [] ns (by omega) (Inv.start ns) (by simpa using hlen) hb (fun a ha => by cases ha)
  unfold i_echelon_F i_echelon
  have e1 : cloneR (up ns) = some (up ns) := lim_of (by rw [up_len]; exact hlen)
  have h1 : loopF i_echelon_l4 (0, up ns, 0) = some ((E.length : Int), up (E ++ L)) := h1
  rw [run_some_mat e1, run_some_mat h1, Tre.run_ite, if_pos (by rw [up_len]; simp; omega), Tre.run_ret]
  unfold echI
  rw [hn, ech_of h2]
  simp [up]
noncomputable def i_echelon_V : Env := ⟨tau, [(115, slices_Clone_int64_c), (116, slices_IndexFunc_int64_i_echelonc1_c)], []⟩
noncomputable def i_echelon_b : Code := (Try.f62.body).getD .skip
noncomputable def i_echelon_l10_mk (h10_0_0 : Int) (h10_0_1 : Int) (h10_0_4 : Int) : (Int × (List Int)) → St := fun x => stOf [(0, (.ref (2, 0) [])), (3, (.imm true (.int .i64) h10_0_0)), (4, (.ptr (6, 0) [])), (45, (.imm true (.int .i64) h10_0_1)), (46, (.imm true (.int .i64) x.1))] [((2, 0), some ⟨false, (.sl (.int .i64)), .own, x.2⟩), ((6, 0), some ⟨true, (.int .i64), .own, h10_0_4⟩)]
noncomputable def i_echelon_l10_out (h10_0_0 : Int) (_h10_0_1 : Int) (h10_0_4 : Int) : (List Int) → Ex × St := fun x => (.exit 2, stOf [(0, (.ref (2, 0) [])), (3, (.imm true (.int .i64) h10_0_0)), (4, (.ptr (6, 0) []))] [((2, 0), some ⟨false, (.sl (.int .i64)), .own, x⟩), ((6, 0), some ⟨true, (.int .i64), .own, h10_0_4⟩)])
noncomputable def i_echelon_l10_D (s : St) : Tre (Ex × St) :=
  asRef (2, 0) [] (s.tmps 0) <|
  asImmZ true (.int .i64) (s.tmps 3) fun d3 =>
  asPtr (6, 0) [] (s.tmps 4) <|
  asImmZ true (.int .i64) (s.tmps 45) fun d6 =>
  asImmZ true (.int .i64) (s.tmps 46) fun d8 =>
  asRoot false (.sl (.int .i64)) (s.roots (2, 0)) fun m10 d11 =>
  asM .own m10 <|
  asRoot true (.int .i64) (s.roots (6, 0)) fun m13 d14 =>
  asM .own m13 <|
  .mat (loopF (i_echelon_l10 d3 d6 d14) (d8, d11)) fun x => .ret (i_echelon_l10_out d3 d6 d14 x)
noncomputable def i_echelon_l10_L : LoopI := ⟨([0, 3, 4, 45, 46], [(2, 0), (6, 0)]), ([0, 3, 4], [(2, 0), (6, 0)]), i_echelon_l10_D⟩
noncomputable def i_echelon_l4_mk : (Int × (List Int) × Int) → St := fun x => stOf [(0, (.ref (2, 0) [])), (3, (.imm true (.int .i64) x.1)), (4, (.ptr (6, 0) []))] [((2, 0), some ⟨false, (.sl (.int .i64)), .own, x.2.1⟩), ((6, 0), some ⟨true, (.int .i64), .own, x.2.2⟩)]
noncomputable def i_echelon_l4_out : (Int × (List Int)) → Ex × St := fun x => (.exit 0, stOf [(0, (.ref (2, 0) [])), (3, (.imm true (.int .i64) x.1))] [((2, 0), some ⟨false, (.sl (.int .i64)), .own, x.2⟩)])
noncomputable def i_echelon_l4_D (s : St) : Tre (Ex × St) :=
  asRef (2, 0) [] (s.tmps 0) <|
  asImmZ true (.int .i64) (s.tmps 3) fun d3 =>
  asPtr (6, 0) [] (s.tmps 4) <|
  asRoot false (.sl (.int .i64)) (s.roots (2, 0)) fun m6 d7 =>
  asM .own m6 <|
  asRoot true (.int .i64) (s.roots (6, 0)) fun m9 d10 =>
  asM .own m9 <|
  .mat (loopF i_echelon_l4 (d3, d7, d10)) fun x => .ret (i_echelon_l4_out x)
noncomputable def i_echelon_l4_L : LoopI := ⟨([0, 3, 4], [(2, 0), (6, 0)]), ([0, 3], [(2, 0)]), i_echelon_l4_D⟩
noncomputable def i_echelon_A : List (Nat × LoopI) := [(10, i_echelon_l10_L), (4, i_echelon_l4_L)]
set_option maxRecDepth 100000 in
theorem i_echelon_l10_step : ∀ (h10_0_0 : Int) (h10_0_1 : Int) (h10_0_4 : Int) (x : (Int × (List Int))) (c : St → Option (Ex × St)), den i_echelon_V i_echelon_A (loopAt i_echelon_b 1) (i_echelon_l10_mk h10_0_0 h10_0_1 h10_0_4 x) (roundK i_echelon_l10_L.kp i_echelon_l10_L.kx c) = (i_echelon_l10 h10_0_0 h10_0_1 h10_0_4 x).run (roundR (i_echelon_l10_mk h10_0_0 h10_0_1 h10_0_4) (i_echelon_l10_out h10_0_0 h10_0_1 h10_0_4) c) := fun _ _ _ _ _ => by
  kernel_rfl
theorem i_echelon_l10_ok : LoopOK i_echelon_V i_echelon_A (loopAt i_echelon_b 1) i_echelon_l10_L := loopOK_of fun s e s' h => by
  generalize hs : restrict i_echelon_l10_L.kp s = s1 at h
  have h : (i_echelon_l10_D s1).run some = some (e, s') := h
  obtain ⟨e1, h_0⟩ := asRef_spec h
  obtain ⟨d3, e2, h_1⟩ := asImmZ_spec h_0
  obtain ⟨e4, h_2⟩ := asPtr_spec h_1
  obtain ⟨d6, e5, h_3⟩ := asImmZ_spec h_2
  obtain ⟨d8, e7, h_4⟩ := asImmZ_spec h_3
  obtain ⟨m10, d11, e9, h_5⟩ := asRoot_spec h_4
  obtain ⟨rfl, h_6⟩ := asM_spec h_5
  obtain ⟨m13, d14, e12, h_7⟩ := asRoot_spec h_6
  obtain ⟨rfl, h_8⟩ := asM_spec h_7
  obtain ⟨y, hy, hz⟩ := mat_ret h_8
  refine ⟨_, _, i_echelon_l10_mk d3 d6 d14, i_echelon_l10_out d3 d6 d14, i_echelon_l10 d3 d6 d14, (d8, d11), y, ?_, hy, ?_, i_echelon_l10_step d3 d6 d14⟩
  · subst hs; exact restrict_eq (T := [(0, (.ref (2, 0) [])), (3, (.imm true (.int .i64) d3)), (4, (.ptr (6, 0) [])), (45, (.imm true (.int .i64) d6)), (46, (.imm true (.int .i64) d8))]) (U := [((2, 0), some ⟨false, (.sl (.int .i64)), .own, d11⟩), ((6, 0), some ⟨true, (.int .i64), .own, d14⟩)]) rfl rfl ⟨e1, e2, e4, e5, e7, trivial⟩ ⟨e9, e12, trivial⟩
  · exact Option.some.inj hz
set_option maxRecDepth 100000 in
theorem i_echelon_l4_step : ∀ (x : (Int × (List Int) × Int)) (c : St → Option (Ex × St)), den i_echelon_V i_echelon_A (loopAt i_echelon_b 0) (i_echelon_l4_mk x) (roundK i_echelon_l4_L.kp i_echelon_l4_L.kx c) = (i_echelon_l4 x).run (roundR (i_echelon_l4_mk) (i_echelon_l4_out) c) := fun _ _ => by
  kernel_rfl
theorem i_echelon_l4_ok : LoopOK i_echelon_V i_echelon_A (loopAt i_echelon_b 0) i_echelon_l4_L := loopOK_of fun s e s' h => by
  generalize hs : restrict i_echelon_l4_L.kp s = s1 at h
  have h : (i_echelon_l4_D s1).run some = some (e, s') := h
  obtain ⟨e1, h_0⟩ := asRef_spec h
  obtain ⟨d3, e2, h_1⟩ := asImmZ_spec h_0
  obtain ⟨e4, h_2⟩ := asPtr_spec h_1
  obtain ⟨m6, d7, e5, h_3⟩ := asRoot_spec h_2
  obtain ⟨rfl, h_4⟩ := asM_spec h_3
  obtain ⟨m9, d10, e8, h_5⟩ := asRoot_spec h_4
  obtain ⟨rfl, h_6⟩ := asM_spec h_5
  obtain ⟨y, hy, hz⟩ := mat_ret h_6
  refine ⟨_, _, i_echelon_l4_mk, i_echelon_l4_out, i_echelon_l4, (d3, d7, d10), y, ?_, hy, ?_, i_echelon_l4_step⟩
  · subst hs; exact restrict_eq (T := [(0, (.ref (2, 0) [])), (3, (.imm true (.int .i64) d3)), (4, (.ptr (6, 0) []))]) (U := [((2, 0), some ⟨false, (.sl (.int .i64)), .own, d7⟩), ((6, 0), some ⟨true, (.int .i64), .own, d10⟩)]) rfl rfl ⟨e1, e2, e4, trivial⟩ ⟨e5, e8, trivial⟩
  · exact Option.some.inj hz
noncomputable def i_echelon_I : FnI := ⟨i_echelon_b, Try.f62.results.toList, Try.f62.resultTypes.toList, i_echelon_A⟩
noncomputable def i_echelon_out (_zp0 : Bool) (_p0 : (List Int)) : (List Int) → CallOut := fun r => ⟨(.ref (1, 0) []), [], [⟨false, (.sl (.int .i64)), .own, r⟩]⟩
set_option maxRecDepth 100000 in
theorem i_echelon_eq : ∀ (zp0 : Bool) (p0 : (List Int)), denFn i_echelon_V i_echelon_I ⟨[(.imm zp0 (.sl (.int .i64)) p0)], []⟩ = (i_echelon p0).run fun r => some (i_echelon_out zp0 p0 r) := fun _ _ => by kernel_rfl
noncomputable def i_echelon_G (av : List AV) (rs : List Root) : Tre CallOut :=
  asCons av fun a0_ av0 =>
  asEnd av0 <|
  asEnd rs <|
  asImm (.sl (.int .i64)) a0_ fun z2 d1 =>
  .mat (echA d1) fun r => .ret (i_echelon_out z2 d1 r)
noncomputable def i_echelon_c : Ctr := ⟨[], fun ci => i_echelon_G ci.args ci.roots, false⟩
theorem i_echelon_env : EnvOK Try.prog .none i_echelon_V := (envOK_cons slices_Clone_int64_ok ent115 (envOK_cons slices_IndexFunc_int64_i_echelonc1_ok ent116 envOK_nil))
set_option maxRecDepth 100000 in
theorem i_echelon_ok : Contract Try.prog .none 62 i_echelon_c := by
  have hl : LoopsOK i_echelon_V i_echelon_A i_echelon_b := (loopsOK_all (n := 2) (by kernel_rfl) fun k hk => by
      match k, hk with
      | 0, _ => exact loopOK_at (id := 4) (L := i_echelon_l4_L) (by kernel_rfl) (by kernel_rfl) i_echelon_l4_ok
      | 1, _ => exact loopOK_at (id := 10) (L := i_echelon_l10_L) (by kernel_rfl) (by kernel_rfl) i_echelon_l10_ok)
  refine (contract_of (F := i_echelon_I) tau_tys i_echelon_env Try.func62 (by kernel_rfl) (by kernel_rfl) (by kernel_rfl) hl []).weaken ?_
  rintro ⟨av, rs⟩ co h
  have h : (i_echelon_G av rs).run some = some co := h
  obtain ⟨a0_, av0, rfl, h_0⟩ := asCons_spec h
  obtain ⟨rfl, h_1⟩ := asEnd_spec h_0
  obtain ⟨rfl, h_2⟩ := asEnd_spec h_1
  obtain ⟨z2, d1, rfl, h_3⟩ := asImm_spec h_2
  exact fin_opt (i_echelon_eq z2 d1) (i_echelon_spec d1) h_3
end Go.Proofs.Ythnkanacjhlhhaa

namespace Go.Proofs.Ythnkanacjhlhhaa
open Go Go.Abs Go.Proofs
noncomputable def slices_Equal_int64_l4 (h4_0_0 : (List Int)) (h4_0_1 : (List Int)) (h4_0_2 : Int) : Int → Tre (Int ⊕ (Bool ⊕ Unit)) := fun s4 =>
  .cond (decide (s4 < h4_0_2))
    (.ite (0 ≤ s4 ∧ s4 < (h4_0_0.length : Int)) <|
    .mat (h4_0_0[s4.toNat]?) fun x1 =>
    .ite (0 ≤ s4 ∧ s4 < (h4_0_1.length : Int)) <|
    .mat (h4_0_1[s4.toNat]?) fun x2 =>
    .cond (!decide (x1 = x2))
      (.ret (.inr (.inl false)))
      (.ret (.inl (iwrap .i64 (s4 + 1)))))
    (.ret (.inr (.inr ())))
noncomputable def slices_Equal_int64 (p0 : (List Int)) (p1 : (List Int)) : Tre Bool :=
  .cond (!decide ((p0.length : Int) = (p1.length : Int)))
    (.ret false)
    (.mat (loopF (slices_Equal_int64_l4 p0 p1 (p0.length : Int)) 0) fun l3 =>
    .alt l3
      (fun a4 =>
        .ret a4)
      (fun _ =>
        .ret true))
noncomputable def slices_Equal_int64_F (p0 : (List Int)) (p1 : (List Int)) : Option Bool := (slices_Equal_int64 p0 p1).run some
theorem slices_Equal_int64_spec (p0 p1 : List Int) (y : Bool) (h : sameL p0 p1 = some y) : slices_Equal_int64_F p0 p1 = some y := by
  obtain ⟨hok, rfl⟩ := askO_some h
  simp only [Bool.and_eq_true, decide_eq_true_eq] at hok
  unfold slices_Equal_int64_F slices_Equal_int64
  rw [Tre.run_cond]
  by_cases hl : p0.length = p1.length
  · rw [decide_eq_true (show (p0.length : Int) = (p1.length : Int) by omega), Bool.not_true, cond_false, Tre.run_mat, find_loop (xs := p0) (sameAt p1) (.inr ()), findE_same p1 p0 0 (by simpa using hl)]
    · rw [List.drop_zero]
      cases decide (p0 = p1) <;> rfl
    · intro i x hx
      have hi : i < p0.length := (List.getElem?_eq_some_iff.1 hx).1
      have hy : p1[i]? = some p1[i] := List.getElem?_eq_getElem (by omega)
      unfold slices_Equal_int64_l4
      unfold sameAt
      rw [run_inb hx, run_at hy, Tre.run_cond, hy]
      dsimp only
      cases decide (x = p1[i])
      · rfl
      · simp only [Bool.not_true, cond_true, cond_false, Tre.run_ret, iwrap_succ (show i < 4611686018427387904 by omega)]
    · unfold slices_Equal_int64_l4
      exact run_out
  · rw [decide_eq_false (show ¬ (p0.length : Int) = (p1.length : Int) by omega), Bool.not_false, cond_true, Tre.run_ret, decide_eq_false (fun h => hl (by rw [h]))]
noncomputable def slices_Equal_int64_V : Env := ⟨tau, [], []⟩
noncomputable def slices_Equal_int64_b : Code := (Try.f121.body).getD .skip
noncomputable def slices_Equal_int64_l4_mk (z4_0 : Bool) (z4_1 : Bool) (h4_0_0 : (List Int)) (h4_0_1 : (List Int)) (h4_0_2 : Int) : Int → St := fun x => stOf [(0, (.imm z4_0 (.sl (.int .i64)) h4_0_0)), (1, (.imm z4_1 (.sl (.int .i64)) h4_0_1)), (12, (.imm true (.int .i64) h4_0_2)), (13, (.imm true (.int .i64) x))] []
noncomputable def slices_Equal_int64_l4_out (_z4_0 : Bool) (_z4_1 : Bool) (_h4_0_0 : (List Int)) (_h4_0_1 : (List Int)) (_h4_0_2 : Int) : (Bool ⊕ Unit) → Ex × St
  | .inl x => (.ret, stOf [(4, (.imm true .bool x))] [])
  | .inr x => (.exit 0, stOf [(4, .dead)] [])
noncomputable def slices_Equal_int64_l4_D (s : St) : Tre (Ex × St) :=
  asImm (.sl (.int .i64)) (s.tmps 0) fun z3 d2 =>
  asImm (.sl (.int .i64)) (s.tmps 1) fun z6 d5 =>
  asImmZ true (.int .i64) (s.tmps 12) fun d8 =>
  asImmZ true (.int .i64) (s.tmps 13) fun d10 =>
  .mat (loopF (slices_Equal_int64_l4 d2 d5 d8) d10) fun x => .alt x (fun a0 => .ret (slices_Equal_int64_l4_out z3 z6 d2 d5 d8 (.inl a0))) (fun b0 => .ret (slices_Equal_int64_l4_out z3 z6 d2 d5 d8 (.inr b0)))
noncomputable def slices_Equal_int64_l4_L : LoopI := ⟨([0, 1, 12, 13], []), ([4], []), slices_Equal_int64_l4_D⟩
noncomputable def slices_Equal_int64_A : List (Nat × LoopI) := [(4, slices_Equal_int64_l4_L)]
set_option maxRecDepth 100000 in
theorem slices_Equal_int64_l4_step : ∀ (z4_0 : Bool) (z4_1 : Bool) (h4_0_0 : (List Int)) (h4_0_1 : (List Int)) (h4_0_2 : Int) (x : Int) (c : St → Option (Ex × St)), den slices_Equal_int64_V slices_Equal_int64_A (loopAt slices_Equal_int64_b 0) (slices_Equal_int64_l4_mk z4_0 z4_1 h4_0_0 h4_0_1 h4_0_2 x) (roundK slices_Equal_int64_l4_L.kp slices_Equal_int64_l4_L.kx c) = (slices_Equal_int64_l4 h4_0_0 h4_0_1 h4_0_2 x).run (roundR (slices_Equal_int64_l4_mk z4_0 z4_1 h4_0_0 h4_0_1 h4_0_2) (slices_Equal_int64_l4_out z4_0 z4_1 h4_0_0 h4_0_1 h4_0_2) c) := fun _ _ _ _ _ _ _ => by
  kernel_rfl
theorem slices_Equal_int64_l4_ok : LoopOK slices_Equal_int64_V slices_Equal_int64_A (loopAt slices_Equal_int64_b 0) slices_Equal_int64_l4_L := loopOK_of fun s e s' h => by
  generalize hs : restrict slices_Equal_int64_l4_L.kp s = s1 at h
  have h : (slices_Equal_int64_l4_D s1).run some = some (e, s') := h
  obtain ⟨z3, d2, e1, h_0⟩ := asImm_spec h
  obtain ⟨z6, d5, e4, h_1⟩ := asImm_spec h_0
  obtain ⟨d8, e7, h_2⟩ := asImmZ_spec h_1
  obtain ⟨d10, e9, h_3⟩ := asImmZ_spec h_2
  obtain ⟨y, hy, hz⟩ := mat_some h_3
  refine ⟨_, _, slices_Equal_int64_l4_mk z3 z6 d2 d5 d8, slices_Equal_int64_l4_out z3 z6 d2 d5 d8, slices_Equal_int64_l4 d2 d5 d8, d10, y, ?_, hy, ?_, slices_Equal_int64_l4_step z3 z6 d2 d5 d8⟩
  · subst hs; exact restrict_eq (T := [(0, (.imm z3 (.sl (.int .i64)) d2)), (1, (.imm z6 (.sl (.int .i64)) d5)), (12, (.imm true (.int .i64) d8)), (13, (.imm true (.int .i64) d10))]) (U := []) rfl rfl ⟨e1, e4, e7, e9, trivial⟩ trivial
  · rcases y with x | x <;> exact Option.some.inj hz
noncomputable def slices_Equal_int64_I : FnI := ⟨slices_Equal_int64_b, Try.f121.results.toList, Try.f121.resultTypes.toList, slices_Equal_int64_A⟩
noncomputable def slices_Equal_int64_out (_zp0 : Bool) (_zp1 : Bool) (_p0 : (List Int)) (_p1 : (List Int)) : Bool → CallOut := fun r => ⟨(.imm true .bool r), [], []⟩
set_option maxRecDepth 100000 in
theorem slices_Equal_int64_eq : ∀ (zp0 : Bool) (zp1 : Bool) (p0 : (List Int)) (p1 : (List Int)), denFn slices_Equal_int64_V slices_Equal_int64_I ⟨[(.imm zp0 (.sl (.int .i64)) p0), (.imm zp1 (.sl (.int .i64)) p1)], []⟩ = (slices_Equal_int64 p0 p1).run fun r => some (slices_Equal_int64_out zp0 zp1 p0 p1 r) := fun _ _ _ _ => by kernel_rfl
noncomputable def slices_Equal_int64_G (av : List AV) (rs : List Root) : Tre CallOut :=
  asCons av fun a0_ av0 =>
  asCons av0 fun a1_ av1 =>
  asEnd av1 <|
  asEnd rs <|
  asImm (.sl (.int .i64)) a0_ fun z2 d1 =>
  asImm (.sl (.int .i64)) a1_ fun z4 d3 =>
  .mat (sameL d1 d3) fun r => .ret (slices_Equal_int64_out z2 z4 d1 d3 r)
noncomputable def slices_Equal_int64_c : Ctr := ⟨[], fun ci => slices_Equal_int64_G ci.args ci.roots, false⟩
theorem slices_Equal_int64_env : EnvOK Try.prog .none slices_Equal_int64_V := envOK_nil
set_option maxRecDepth 100000 in
theorem slices_Equal_int64_ok : Contract Try.prog .none 121 slices_Equal_int64_c := by
  have hl : LoopsOK slices_Equal_int64_V slices_Equal_int64_A slices_Equal_int64_b := (loopsOK_all (n := 1) (by kernel_rfl) fun k hk => by
      match k, hk with
      | 0, _ => exact loopOK_at (id := 4) (L := slices_Equal_int64_l4_L) (by kernel_rfl) (by kernel_rfl) slices_Equal_int64_l4_ok)
  refine (contract_of (F := slices_Equal_int64_I) tau_tys slices_Equal_int64_env Try.func121 (by kernel_rfl) (by kernel_rfl) (by kernel_rfl) hl []).weaken ?_
  rintro ⟨av, rs⟩ co h
  have h : (slices_Equal_int64_G av rs).run some = some co := h
  obtain ⟨a0_, av0, rfl, h_0⟩ := asCons_spec h
  obtain ⟨a1_, av1, rfl, h_1⟩ := asCons_spec h_0
  obtain ⟨rfl, h_2⟩ := asEnd_spec h_1
  obtain ⟨rfl, h_3⟩ := asEnd_spec h_2
  obtain ⟨z2, d1, rfl, h_4⟩ := asImm_spec h_3
  obtain ⟨z4, d3, rfl, h_5⟩ := asImm_spec h_4
  exact fin_opt (slices_Equal_int64_eq z2 z4 d1 d3) (slices_Equal_int64_spec d1 d3) h_5
end Go.Proofs.Ythnkanacjhlhhaa

namespace Go.Proofs.Ythnkanacjhlhhaa
open Go Go.Abs Go.Proofs
noncomputable def i_IsSpace (p0 : TMatrix) : Tre Bool :=
  .mat (i_ValidMatrix_F p0) fun r1 =>
  .cond r1
    (.mat (echA p0.2.1) fun r2 =>
    .mat (sameL r2 p0.2.1) fun r3 =>
    .ret r3)
    (.ret false)
noncomputable def i_IsSpace_F (p0 : TMatrix) : Option Bool := (i_IsSpace p0).run some
-- more
theorem echI_short {c : Nat} {ns : List Nat} (hc : c ≤ 10) (hl : ns.length ≤ 10) (hn : ∀ n ∈ ns, n < 2 ^ c) : (echI (up ns)).length ≤ ns.length := by
  have hi := ech_is (b := 62) (by omega) (okRows_mx (c := c) (b := 62) (ns := ns) (by omega) (by omega) hn)
  rw [up_toNat] at hi
  rw [echI_len, up_toNat]
  exact hi.le
theorem i_IsSpace_is (m : Int × List Int × Unit) (hl : m.2.1.length ≤ 1048576) : i_IsSpace_F m = some (spMx m) := by
  unfold i_IsSpace_F i_IsSpace
  rw [run_some_mat (i_ValidMatrix_is m hl), Tre.run_cond]
  unfold spMx
  cases h : okMx m
  · rfl
  obtain ⟨c, ns, rfl, h1, h2, h3, h4⟩ := okMx_up h
  dsimp only at hl ⊢
  rw [cond_true, run_some_mat (show echA (up ns) = some _ from askO_true (okRows_mx (c := c) (by omega) (by omega) h4))]
  rw [run_some_mat (show sameL (echI (up ns)) (up ns) = some _ from askO_true (by
    have := echI_short h2 h3 h4
    simp only [Bool.and_eq_true, decide_eq_true_eq, up_len]; omega))]
  rfl
noncomputable def i_IsSpace_V : Env := ⟨tau, [(129, i_ValidMatrix_c), (62, i_echelon_c), (121, slices_Equal_int64_c)], []⟩
noncomputable def i_IsSpace_b : Code := (Try.f76.body).getD .skip
noncomputable def i_IsSpace_I : FnI := ⟨i_IsSpace_b, Try.f76.results.toList, Try.f76.resultTypes.toList, []⟩
noncomputable def i_IsSpace_out (_zp0 : Bool) (_p0 : TMatrix) : Bool → CallOut := fun r => ⟨(.imm true .bool r), [], []⟩
set_option maxRecDepth 100000 in
theorem i_IsSpace_eq : ∀ (zp0 : Bool) (p0 : TMatrix), denFn i_IsSpace_V i_IsSpace_I ⟨[(.imm zp0 kMatrix p0)], []⟩ = (i_IsSpace p0).run fun r => some (i_IsSpace_out zp0 p0 r) := fun _ _ => by kernel_rfl
noncomputable def i_IsSpace_G (av : List AV) (rs : List Root) : Tre CallOut :=
  asCons av fun a0_ av0 =>
  asEnd av0 <|
  asEnd rs <|
  asImm kMatrix a0_ fun z2 d1 =>
  .mat (i_IsSpace_F d1) fun r => .ret (i_IsSpace_out z2 d1 r)
noncomputable def i_IsSpace_c : Ctr := ⟨[], fun ci => i_IsSpace_G ci.args ci.roots, false⟩
theorem i_IsSpace_env : EnvOK Try.prog .none i_IsSpace_V := (envOK_cons i_ValidMatrix_ok ent129 (envOK_cons i_echelon_ok ent62 (envOK_cons slices_Equal_int64_ok ent121 envOK_nil)))
set_option maxRecDepth 100000 in
theorem i_IsSpace_ok : Contract Try.prog .none 76 i_IsSpace_c := by
  have hl : LoopsOK i_IsSpace_V [] i_IsSpace_b := loopsOK_nil (by kernel_rfl)
  refine (contract_of (F := i_IsSpace_I) tau_tys i_IsSpace_env Try.func76 (by kernel_rfl) (by kernel_rfl) (by kernel_rfl) hl []).weaken ?_
  rintro ⟨av, rs⟩ co h
  have h : (i_IsSpace_G av rs).run some = some co := h
  obtain ⟨a0_, av0, rfl, h_0⟩ := asCons_spec h
  obtain ⟨rfl, h_1⟩ := asEnd_spec h_0
  obtain ⟨rfl, h_2⟩ := asEnd_spec h_1
  obtain ⟨z2, d1, rfl, h_3⟩ := asImm_spec h_2
  exact fin_mat (i_IsSpace_eq z2 d1) h_3
end Go.Proofs.Ythnkanacjhlhhaa

namespace Go.Proofs.Ythnkanacjhlhhaa
open Go Go.Abs Go.Proofs
noncomputable def s_l02Space_f995 (p0 : TMatrix) : Tre Bool :=
  .mat (s_l02Ok_f995_F p0) fun r1 =>
  .cond r1
    (.mat (echB p0.1 p0.2.1) fun r2 =>
    .mat (sameL r2 p0.2.1) fun r3 =>
    .ret r3)
    (.ret false)
noncomputable def s_l02Space_f995_F (p0 : TMatrix) : Option Bool := (s_l02Space_f995 p0).run some
-- more
theorem top1_u {m : Int} (h : 1 ≤ m ∧ m ≤ 10) : iwrap .i64 (ishl .i64 1 (iwrap .u64 m) - 1) = top1 m := by
  rw [iwrap_u64 (by omega) (by omega)]; rfl
theorem s_l02Ok_f995_is (m : Int × List Int × Unit) : s_l02Ok_f995_F m = some (okMx m) := by
  unfold s_l02Ok_f995_F s_l02Ok_f995 okMx
  rw [Tre.run_cond]
  cases h1 : inR m.1 1 10
  · rfl
  rw [Bool.not_true, cond_false, Tre.run_cond, Bool.true_and]
  rw [inR_iff] at h1
  by_cases h2 : (m.2.1.length : Int) > 10
  · rw [decide_eq_true h2, decide_eq_false (show ¬ m.2.1.length ≤ 10 by omega)]; rfl
  rw [decide_eq_false h2, cond_false, decide_eq_true (show m.2.1.length ≤ 10 by omega), Bool.true_and]
  rw [Tre.run_mat, find_loop (xs := m.2.1) (fun _ x => cond (inP m.1 x) none (some (.inl false))) (.inr ())]
  · rw [findE_all, Option.bind_some]
    cases m.2.1.all (inP m.1) <;> rfl
  · intro i x hx
    have hi : i < m.2.1.length := (List.getElem?_eq_some_iff.1 hx).1
    unfold s_l02Ok_f995_l4
    rw [run_inb hx, Tre.run_ite, if_pos (iwrap_u64_nonneg _)]
    dsimp only
    rw [top1_u h1, Tre.run_cond, show inR x 0 (top1 m.1) = inP m.1 x from rfl]
    cases inP m.1 x
    · rfl
    · simp only [Bool.not_true, cond_false, cond_true, Tre.run_ret, iwrap_succ (show i < 4611686018427387904 by omega)]
  · unfold s_l02Ok_f995_l4
    exact run_out
theorem s_l02Space_f995_is (m : Int × List Int × Unit) : s_l02Space_f995_F m = some (spMx m) := by
  unfold s_l02Space_f995_F s_l02Space_f995
  rw [run_some_mat (s_l02Ok_f995_is m), Tre.run_cond]
  unfold spMx
  cases h : okMx m
  · rfl
  obtain ⟨c, ns, rfl, h1, h2, h3, h4⟩ := okMx_up h
  dsimp only
  rw [cond_true, run_some_mat (show echB (c : Int) (up ns) = some _ from askO_true (by
    rw [Bool.and_eq_true, inR_iff]
    exact ⟨by omega, by rw [Int.toNat_natCast]; exact okRows_mx (c := c) (Nat.le_refl c) (by omega) h4⟩))]
  rw [run_some_mat (show sameL (echI (up ns)) (up ns) = some _ from askO_true (by
    have := echI_short h2 h3 h4
    simp only [Bool.and_eq_true, decide_eq_true_eq, up_len]; omega))]
  rfl
noncomputable def s_l02Space_f995_V : Env := ⟨tau, [(128, s_l02Ok_f995_c), (56, s_l02Echelon_c), (75, s_l00Same_c)], []⟩
noncomputable def s_l02Space_f995_b : Code := (Try.f74.body).getD .skip
noncomputable def s_l02Space_f995_I : FnI := ⟨s_l02Space_f995_b, Try.f74.results.toList, Try.f74.resultTypes.toList, []⟩
noncomputable def s_l02Space_f995_out (_zp0 : Bool) (_p0 : TMatrix) : Bool → CallOut := fun r => ⟨(.imm true .bool r), [], []⟩
set_option maxRecDepth 100000 in
theorem s_l02Space_f995_eq : ∀ (zp0 : Bool) (p0 : TMatrix), denFn s_l02Space_f995_V s_l02Space_f995_I ⟨[(.iptr zp0 (.sl kMatrix) ([p0]) [.idx 0])], []⟩ = (s_l02Space_f995 p0).run fun r => some (s_l02Space_f995_out zp0 p0 r) := fun _ _ => by kernel_rfl
noncomputable def s_l02Space_f995_G (av : List AV) (rs : List Root) : Tre CallOut :=
  asCons av fun a0_ av0 =>
  asEnd av0 <|
  asEnd rs <|
  asIptr kMatrix a0_ fun z1 d2 =>
  .mat (s_l02Space_f995_F d2) fun r => .ret (s_l02Space_f995_out z1 d2 r)
noncomputable def s_l02Space_f995_c : Ctr := ⟨[], fun ci => s_l02Space_f995_G ci.args ci.roots, false⟩
theorem s_l02Space_f995_env : EnvOK Try.prog .none s_l02Space_f995_V := (envOK_cons s_l02Ok_f995_ok ent128 (envOK_cons s_l02Echelon_ok ent56 (envOK_cons s_l00Same_ok ent75 envOK_nil)))
set_option maxRecDepth 100000 in
theorem s_l02Space_f995_ok : Contract Try.prog .none 74 s_l02Space_f995_c := by
  have hl : LoopsOK s_l02Space_f995_V [] s_l02Space_f995_b := loopsOK_nil (by kernel_rfl)
  refine (contract_of (F := s_l02Space_f995_I) tau_tys s_l02Space_f995_env Try.func74 (by kernel_rfl) (by kernel_rfl) (by kernel_rfl) hl []).weaken ?_
  rintro ⟨av, rs⟩ co h
  have h : (s_l02Space_f995_G av rs).run some = some co := h
  obtain ⟨a0_, av0, rfl, h_0⟩ := asCons_spec h
  obtain ⟨rfl, h_1⟩ := asEnd_spec h_0
  obtain ⟨rfl, h_2⟩ := asEnd_spec h_1
  obtain ⟨z1, d2, rfl, h_3⟩ := asIptr_spec h_2
  exact fin_mat (s_l02Space_f995_eq z1 d2) h_3
end Go.Proofs.Ythnkanacjhlhhaa

namespace Go.Proofs.Ythnkanacjhlhhaa
open Go Go.Abs Go.Proofs
noncomputable def s_l06Ok_l9 (h9_0_0 : (List TMatrix)) (h9_0_1 : Int) : Int → Tre (Int ⊕ (Bool ⊕ Unit)) := fun s9 =>
  .cond (decide (s9 < h9_0_1))
    (.ite (0 ≤ h9_0_1 ∧ h9_0_1 < (h9_0_0.length : Int)) <|
    .mat (h9_0_0[h9_0_1.toNat]?) fun x8 =>
    .ite (0 ≤ s9 ∧ s9 < (h9_0_0.length : Int)) <|
    .mat (h9_0_0[s9.toNat]?) fun x9 =>
    .mat (sameL x8.2.1 x9.2.1) fun r10 =>
    .cond r10
      (.ret (.inr (.inl false)))
      (.ret (.inl (iwrap .i64 (s9 + 1)))))
    (.ret (.inr (.inr ())))
noncomputable def s_l06Ok_l4 (h4_0_0 : (List TMatrix)) : Int → Tre (Int ⊕ (Bool ⊕ Unit)) := fun s4 =>
  .cond (decide (s4 < (h4_0_0.length : Int)))
    (.ite (0 ≤ s4 ∧ s4 < (h4_0_0.length : Int)) <|
    .mat (h4_0_0[s4.toNat]?) fun x2 =>
    .mat (s_l02Space_f995_F x2) fun r3 =>
    .cond (!r3)
      (.ret (.inr (.inl false)))
      (.ite (0 ≤ s4 ∧ s4 < (h4_0_0.length : Int)) <|
      .mat (h4_0_0[s4.toNat]?) fun x4 =>
      .ite ((0 : Int) ≤ 0 ∧ (0 : Int) < (h4_0_0.length : Int)) <|
      .mat (h4_0_0[0]?) fun x5 =>
      .cond (!decide (x4.1 = x5.1))
        (.ret (.inr (.inl false)))
        (.ite (0 ≤ s4 ∧ s4 < (h4_0_0.length : Int)) <|
        .mat (h4_0_0[s4.toNat]?) fun x6 =>
        .ite ((0 : Int) ≤ 0 ∧ (0 : Int) < (h4_0_0.length : Int)) <|
        .mat (h4_0_0[0]?) fun x7 =>
        .cond (!decide ((x6.2.1.length : Int) = (x7.2.1.length : Int)))
          (.ret (.inr (.inl false)))
          (.mat (loopF (s_l06Ok_l9 h4_0_0 s4) 0) fun l11 =>
          .alt l11
            (fun a12 =>
              .ret (.inr (.inl a12)))
            (fun _ =>
              .ret (.inl (iwrap .i64 (s4 + 1))))))))
    (.ret (.inr (.inr ())))
noncomputable def s_l06Ok (p0 : (List TMatrix)) : Tre Bool :=
  let v1 := inR (p0.length : Int) 1 400
  .cond (!v1)
    (.ret false)
    (.mat (loopF (s_l06Ok_l4 p0) 0) fun l14 =>
    .alt l14
      (fun a15 =>
        .ret a15)
      (fun _ =>
        .ret true))
noncomputable def s_l06Ok_F (p0 : (List TMatrix)) : Option Bool := (s_l06Ok p0).run some
-- more
theorem findE_any {α : Type} {p : α → Bool} : ∀ (l : List α) (i : Nat), (findE (fun _ x => cond (p x) (some (.inl false)) none) (.inr ()) i l : Bool ⊕ Unit) = cond (l.any p) (.inl false) (.inr ()) := by
  intro l
  induction l with
  | nil => intro i; rfl
  | cons x l ih =>
    intro i
    simp only [findE, List.any_cons]
    cases p x
    · simp only [cond_false, Bool.false_or]; exact ih (i + 1)
    · rfl
theorem s_l06Ok_in (ss : List (Int × List Int × Unit)) (h : shortSs ss) (i : Nat) (x : Int × List Int × Unit) (hx : ss[i]? = some x) :
    loopF (s_l06Ok_l9 ss (i : Int)) 0 = some (cond ((ss.take i).any fun y => decide (x.2.1 = y.2.1)) (.inl false) (.inr ())) := by
  have hi : i < ss.length := (List.getElem?_eq_some_iff.1 hx).1
  have hlen : (ss.take i).length = i := by rw [List.length_take]; omega
  rw [find_loop (xs := ss.take i) (fun _ y => cond (decide (x.2.1 = y.2.1)) (some (.inl false)) none) (.inr ())]
  · rw [findE_any]
  · intro j y hy
    have hj : j < i := by have := (List.getElem?_eq_some_iff.1 hy).1; omega
    have hy : ss[j]? = some y := by rw [List.getElem?_take, if_pos hj] at hy; exact hy
    unfold s_l06Ok_l9
    rw [Tre.run_cond, decide_eq_true (by omega), cond_true, run_at hx, run_at hy, run_some_mat (show sameL x.2.1 y.2.1 = some _ from askO_true (by
      have h1 := h.2 x (List.mem_of_getElem? hx)
      have h2 := h.2 y (List.mem_of_getElem? hy)
      simp only [Bool.and_eq_true, decide_eq_true_eq]; exact ⟨h1, h2⟩)), Tre.run_cond]
    cases decide (x.2.1 = y.2.1)
    · simp only [cond_false, Tre.run_ret, iwrap_succ (show j < 4611686018427387904 by have := h.1; omega)]
    · rfl
  · rw [hlen]
    unfold s_l06Ok_l9
    exact run_out
theorem s_l06Ok_is (ss : List (Int × List Int × Unit)) (h : shortSs ss) : s_l06Ok_F ss = some (validSs ss) := by
  unfold s_l06Ok_F s_l06Ok validSs
  dsimp only
  rw [Tre.run_cond]
  cases h1 : inR (ss.length : Int) 1 400
  · rfl
  rw [inR_iff] at h1
  rw [Bool.not_true, cond_false, Bool.true_and, Tre.run_mat, find_loop (xs := ss) (fun i x => cond (badMx ss i x) (some (.inl false)) none) (.inr ())]
  · rw [findE_goV, Option.bind_some]
    cases goV (badMx ss) 0 ss <;> rfl
  · intro i x hx
    have hi : i < ss.length := (List.getElem?_eq_some_iff.1 hx).1
    unfold s_l06Ok_l4
    rw [run_inb hx, run_some_mat (s_l02Space_f995_is x), Tre.run_cond]
    unfold badMx
    cases spMx x
    · rfl
    rw [Bool.not_true, cond_false, Bool.false_or, run_at hx, Tre.run_ite, if_pos ⟨Int.le_refl _, by omega⟩, run_some_mat (first_at (by omega)), Tre.run_cond]
    cases decide (x.1 = (firstMx ss).1)
    · rfl
    rw [Bool.not_true, cond_false, Bool.false_or, run_at hx, Tre.run_ite, if_pos ⟨Int.le_refl _, by omega⟩, run_some_mat (first_at (by omega)), Tre.run_cond]
    cases decide ((x.2.1.length : Int) = ((firstMx ss).2.1.length : Int))
    · rfl
    rw [Bool.not_true, cond_false, Bool.false_or, run_some_mat (s_l06Ok_in ss h i x hx)]
    cases (ss.take i).any fun y => decide (x.2.1 = y.2.1)
    · simp only [cond_false, iwrap_succ (show i < 4611686018427387904 by omega)]; rfl
    · rfl
  · unfold s_l06Ok_l4
    exact run_out
noncomputable def s_l06Ok_V : Env := ⟨tau, [(40, s_l00In_c), (74, s_l02Space_f995_c), (75, s_l00Same_c)], []⟩
noncomputable def s_l06Ok_b : Code := (Try.f38.body).getD .skip
noncomputable def s_l06Ok_l9_mk (z9_0 : Bool) (h9_0_0 : (List TMatrix)) (h9_0_1 : Int) : Int → St := fun x => stOf [(0, (.imm z9_0 (.sl kMatrix) h9_0_0)), (3, (.imm true (.int .i64) h9_0_1)), (4, (.imm true (.int .i64) x))] []
noncomputable def s_l06Ok_l9_out (z9_0 : Bool) (h9_0_0 : (List TMatrix)) (h9_0_1 : Int) : (Bool ⊕ Unit) → Ex × St
  | .inl x => (.ret, stOf [(0, (.imm z9_0 (.sl kMatrix) h9_0_0)), (2, (.imm true .bool x)), (3, (.imm true (.int .i64) h9_0_1))] [])
  | .inr x => (.exit 2, stOf [(0, (.imm z9_0 (.sl kMatrix) h9_0_0)), (2, .dead), (3, (.imm true (.int .i64) h9_0_1))] [])
noncomputable def s_l06Ok_l9_D (s : St) : Tre (Ex × St) :=
  asImm (.sl kMatrix) (s.tmps 0) fun z3 d2 =>
  asImmZ true (.int .i64) (s.tmps 3) fun d5 =>
  asImmZ true (.int .i64) (s.tmps 4) fun d7 =>
  .mat (loopF (s_l06Ok_l9 d2 d5) d7) fun x => .alt x (fun a0 => .ret (s_l06Ok_l9_out z3 d2 d5 (.inl a0))) (fun b0 => .ret (s_l06Ok_l9_out z3 d2 d5 (.inr b0)))
noncomputable def s_l06Ok_l9_L : LoopI := ⟨([0, 3, 4], []), ([0, 2, 3], []), s_l06Ok_l9_D⟩
noncomputable def s_l06Ok_l4_mk (z4_0 : Bool) (h4_0_0 : (List TMatrix)) : Int → St := fun x => stOf [(0, (.imm z4_0 (.sl kMatrix) h4_0_0)), (3, (.imm true (.int .i64) x))] []
noncomputable def s_l06Ok_l4_out (_z4_0 : Bool) (_h4_0_0 : (List TMatrix)) : (Bool ⊕ Unit) → Ex × St
  | .inl x => (.ret, stOf [(2, (.imm true .bool x))] [])
  | .inr x => (.exit 0, stOf [(2, .dead)] [])
noncomputable def s_l06Ok_l4_D (s : St) : Tre (Ex × St) :=
  asImm (.sl kMatrix) (s.tmps 0) fun z3 d2 =>
  asImmZ true (.int .i64) (s.tmps 3) fun d5 =>
  .mat (loopF (s_l06Ok_l4 d2) d5) fun x => .alt x (fun a0 => .ret (s_l06Ok_l4_out z3 d2 (.inl a0))) (fun b0 => .ret (s_l06Ok_l4_out z3 d2 (.inr b0)))
noncomputable def s_l06Ok_l4_L : LoopI := ⟨([0, 3], []), ([2], []), s_l06Ok_l4_D⟩
noncomputable def s_l06Ok_A : List (Nat × LoopI) := [(9, s_l06Ok_l9_L), (4, s_l06Ok_l4_L)]
set_option maxRecDepth 100000 in
theorem s_l06Ok_l9_step : ∀ (z9_0 : Bool) (h9_0_0 : (List TMatrix)) (h9_0_1 : Int) (x : Int) (c : St → Option (Ex × St)), den s_l06Ok_V s_l06Ok_A (loopAt s_l06Ok_b 1) (s_l06Ok_l9_mk z9_0 h9_0_0 h9_0_1 x) (roundK s_l06Ok_l9_L.kp s_l06Ok_l9_L.kx c) = (s_l06Ok_l9 h9_0_0 h9_0_1 x).run (roundR (s_l06Ok_l9_mk z9_0 h9_0_0 h9_0_1) (s_l06Ok_l9_out z9_0 h9_0_0 h9_0_1) c) := fun _ _ _ _ _ => by
  kernel_rfl
theorem s_l06Ok_l9_ok : LoopOK s_l06Ok_V s_l06Ok_A (loopAt s_l06Ok_b 1) s_l06Ok_l9_L := loopOK_of fun s e s' h => by
  generalize hs : restrict s_l06Ok_l9_L.kp s = s1 at h
  have h : (s_l06Ok_l9_D s1).run some = some (e, s') := h
  obtain ⟨z3, d2, e1, h_0⟩ := asImm_spec h
  obtain ⟨d5, e4, h_1⟩ := asImmZ_spec h_0
  obtain ⟨d7, e6, h_2⟩ := asImmZ_spec h_1
  obtain ⟨y, hy, hz⟩ := mat_some h_2
  refine ⟨_, _, s_l06Ok_l9_mk z3 d2 d5, s_l06Ok_l9_out z3 d2 d5, s_l06Ok_l9 d2 d5, d7, y, ?_, hy, ?_, s_l06Ok_l9_step z3 d2 d5⟩
  · subst hs; exact restrict_eq (T := [(0, (.imm z3 (.sl kMatrix) d2)), (3, (.imm true (.int .i64) d5)), (4, (.imm true (.int .i64) d7))]) (U := []) rfl rfl ⟨e1, e4, e6, trivial⟩ trivial
  · rcases y with x | x <;> exact Option.some.inj hz
set_option maxRecDepth 100000 in
theorem s_l06Ok_l4_step : ∀ (z4_0 : Bool) (h4_0_0 : (List TMatrix)) (x : Int) (c : St → Option (Ex × St)), den s_l06Ok_V s_l06Ok_A (loopAt s_l06Ok_b 0) (s_l06Ok_l4_mk z4_0 h4_0_0 x) (roundK s_l06Ok_l4_L.kp s_l06Ok_l4_L.kx c) = (s_l06Ok_l4 h4_0_0 x).run (roundR (s_l06Ok_l4_mk z4_0 h4_0_0) (s_l06Ok_l4_out z4_0 h4_0_0) c) := fun _ _ _ _ => by
  kernel_rfl
theorem s_l06Ok_l4_ok : LoopOK s_l06Ok_V s_l06Ok_A (loopAt s_l06Ok_b 0) s_l06Ok_l4_L := loopOK_of fun s e s' h => by
  generalize hs : restrict s_l06Ok_l4_L.kp s = s1 at h
  have h : (s_l06Ok_l4_D s1).run some = some (e, s') := h
  obtain ⟨z3, d2, e1, h_0⟩ := asImm_spec h
  obtain ⟨d5, e4, h_1⟩ := asImmZ_spec h_0
  obtain ⟨y, hy, hz⟩ := mat_some h_1
  refine ⟨_, _, s_l06Ok_l4_mk z3 d2, s_l06Ok_l4_out z3 d2, s_l06Ok_l4 d2, d5, y, ?_, hy, ?_, s_l06Ok_l4_step z3 d2⟩
  · subst hs; exact restrict_eq (T := [(0, (.imm z3 (.sl kMatrix) d2)), (3, (.imm true (.int .i64) d5))]) (U := []) rfl rfl ⟨e1, e4, trivial⟩ trivial
  · rcases y with x | x <;> exact Option.some.inj hz
noncomputable def s_l06Ok_I : FnI := ⟨s_l06Ok_b, Try.f38.results.toList, Try.f38.resultTypes.toList, s_l06Ok_A⟩
noncomputable def s_l06Ok_out (_zp0 : Bool) (_p0 : (List TMatrix)) : Bool → CallOut := fun r => ⟨(.imm true .bool r), [], []⟩
set_option maxRecDepth 100000 in
theorem s_l06Ok_eq : ∀ (zp0 : Bool) (p0 : (List TMatrix)), denFn s_l06Ok_V s_l06Ok_I ⟨[(.imm zp0 (.sl kMatrix) p0)], []⟩ = (s_l06Ok p0).run fun r => some (s_l06Ok_out zp0 p0 r) := fun _ _ => by kernel_rfl
noncomputable def s_l06Ok_G (av : List AV) (rs : List Root) : Tre CallOut :=
  asCons av fun a0_ av0 =>
  asEnd av0 <|
  asEnd rs <|
  asImm (.sl kMatrix) a0_ fun z2 d1 =>
  .mat (s_l06Ok_F d1) fun r => .ret (s_l06Ok_out z2 d1 r)
noncomputable def s_l06Ok_c : Ctr := ⟨[], fun ci => s_l06Ok_G ci.args ci.roots, false⟩
theorem s_l06Ok_env : EnvOK Try.prog .none s_l06Ok_V := (envOK_cons s_l00In_ok ent40 (envOK_cons s_l02Space_f995_ok ent74 (envOK_cons s_l00Same_ok ent75 envOK_nil)))
set_option maxRecDepth 100000 in
theorem s_l06Ok_ok : Contract Try.prog .none 38 s_l06Ok_c := by
  have hl : LoopsOK s_l06Ok_V s_l06Ok_A s_l06Ok_b := (loopsOK_all (n := 2) (by kernel_rfl) fun k hk => by
      match k, hk with
      | 0, _ => exact loopOK_at (id := 4) (L := s_l06Ok_l4_L) (by kernel_rfl) (by kernel_rfl) s_l06Ok_l4_ok
      | 1, _ => exact loopOK_at (id := 9) (L := s_l06Ok_l9_L) (by kernel_rfl) (by kernel_rfl) s_l06Ok_l9_ok)
  refine (contract_of (F := s_l06Ok_I) tau_tys s_l06Ok_env Try.func38 (by kernel_rfl) (by kernel_rfl) (by kernel_rfl) hl []).weaken ?_
  rintro ⟨av, rs⟩ co h
  have h : (s_l06Ok_G av rs).run some = some co := h
  obtain ⟨a0_, av0, rfl, h_0⟩ := asCons_spec h
  obtain ⟨rfl, h_1⟩ := asEnd_spec h_0
  obtain ⟨rfl, h_2⟩ := asEnd_spec h_1
  obtain ⟨z2, d1, rfl, h_3⟩ := asImm_spec h_2
  exact fin_mat (s_l06Ok_eq z2 d1) h_3
end Go.Proofs.Ythnkanacjhlhhaa

namespace Go.Proofs.Ythnkanacjhlhhaa
open Go Go.Abs Go.Proofs
noncomputable def s_l02Rank (p0 : Int) (p1 : (List Int)) : Tre Int :=
  .mat (echB p0 p1) fun r1 =>
  .ret (r1.length : Int)
noncomputable def s_l02Rank_F (p0 : Int) (p1 : (List Int)) : Option Int := (s_l02Rank p0 p1).run some
noncomputable def rankR (m : Int) (xs : List Int) : Option Int := askO (inR m 0 62 && okRows m.toNat xs) ((echI xs).length : Int)
theorem s_l02Rank_spec (p0 : Int) (p1 : List Int) (y : Int) (h : rankR p0 p1 = some y) : s_l02Rank_F p0 p1 = some y := by
  obtain ⟨hl, rfl⟩ := askO_some h
  unfold s_l02Rank_F s_l02Rank
  rw [run_some_mat (show echB p0 p1 = some _ from askO_true hl)]
  rfl
noncomputable def s_l02Rank_V : Env := ⟨tau, [(56, s_l02Echelon_c)], []⟩
noncomputable def s_l02Rank_b : Code := (Try.f138.body).getD .skip
noncomputable def s_l02Rank_I : FnI := ⟨s_l02Rank_b, Try.f138.results.toList, Try.f138.resultTypes.toList, []⟩
noncomputable def s_l02Rank_out (_zp0 : Bool) (_p0 : Int) (_p1 : (List Int)) : Int → CallOut := fun r => ⟨(.imm true (.int .i64) r), [], []⟩
set_option maxRecDepth 100000 in
theorem s_l02Rank_eq : ∀ (zp0 : Bool) (p0 : Int) (p1 : (List Int)), denFn s_l02Rank_V s_l02Rank_I ⟨[(.imm true (.int .i64) p0), (.imm zp0 (.sl (.int .i64)) p1)], []⟩ = (s_l02Rank p0 p1).run fun r => some (s_l02Rank_out zp0 p0 p1 r) := fun _ _ _ => by kernel_rfl
noncomputable def s_l02Rank_G (av : List AV) (rs : List Root) : Tre CallOut :=
  asCons av fun a0_ av0 =>
  asCons av0 fun a1_ av1 =>
  asEnd av1 <|
  asEnd rs <|
  asImmZ true (.int .i64) a0_ fun d1 =>
  asImm (.sl (.int .i64)) a1_ fun z3 d2 =>
  .mat (rankR d1 d2) fun r => .ret (s_l02Rank_out z3 d1 d2 r)
noncomputable def s_l02Rank_c : Ctr := ⟨[], fun ci => s_l02Rank_G ci.args ci.roots, false⟩
theorem s_l02Rank_env : EnvOK Try.prog .none s_l02Rank_V := (envOK_cons s_l02Echelon_ok ent56 envOK_nil)
set_option maxRecDepth 100000 in
theorem s_l02Rank_ok : Contract Try.prog .none 138 s_l02Rank_c := by
  have hl : LoopsOK s_l02Rank_V [] s_l02Rank_b := loopsOK_nil (by kernel_rfl)
  refine (contract_of (F := s_l02Rank_I) tau_tys s_l02Rank_env Try.func138 (by kernel_rfl) (by kernel_rfl) (by kernel_rfl) hl []).weaken ?_
  rintro ⟨av, rs⟩ co h
  have h : (s_l02Rank_G av rs).run some = some co := h
  obtain ⟨a0_, av0, rfl, h_0⟩ := asCons_spec h
  obtain ⟨a1_, av1, rfl, h_1⟩ := asCons_spec h_0
  obtain ⟨rfl, h_2⟩ := asEnd_spec h_1
  obtain ⟨rfl, h_3⟩ := asEnd_spec h_2
  obtain ⟨d1, rfl, h_4⟩ := asImmZ_spec h_3
  obtain ⟨z3, d2, rfl, h_5⟩ := asImm_spec h_4
  exact fin_opt (s_l02Rank_eq z3 d1 d2) (s_l02Rank_spec d1 d2) h_5
end Go.Proofs.Ythnkanacjhlhhaa

namespace Go.Proofs.Ythnkanacjhlhhaa
open Go Go.Abs Go.Proofs
noncomputable def s_l06In_7e3e (p0 : TMatrix) (p1 : Int) : Tre Bool :=
  .mat (cloneR p0.2.1) fun r1 =>
  .ite ((r1.length + 1) * 8 ≤ appendMax ∧ 1 ≤ 8) <|
  .mat (rankR p0.1 (r1 ++ ([p1]))) fun r2 =>
  .ret (decide (r2 = (p0.2.1.length : Int)))
noncomputable def s_l06In_7e3e_F (p0 : TMatrix) (p1 : Int) : Option Bool := (s_l06In_7e3e p0 p1).run some
-- more
theorem s_l06In_7e3e_is {c : Nat} {ns : List Nat} {r : Nat} (hc : c ≤ 10) (hl : ns.length ≤ 10) (hn : ∀ n ∈ ns, n < 2 ^ c) (hr : r < 2 ^ c) : s_l06In_7e3e_F ((c : Int), up ns, ()) (r : Int) = some (inMx ((c : Int), up ns, ()) (r : Int)) := by
  unfold s_l06In_7e3e_F s_l06In_7e3e inMx
  dsimp only
  have hup : up ns ++ [(r : Int)] = up (ns ++ [r]) := by simp [up]
  rw [run_some_mat (show cloneR (up ns) = _ from lim_of (by rw [up_len]; omega)), Tre.run_ite, if_pos (by rw [up_len]; unfold appendMax; omega)]
  rw [run_some_mat (show rankR (c : Int) (up ns ++ [(r : Int)]) = some _ from askO_true (by
    rw [Bool.and_eq_true, inR_iff, Int.toNat_natCast, hup]
    refine ⟨by omega, okRows_mx (c := c) (Nat.le_refl c) (by simp; omega) fun n h => ?_⟩
    rcases List.mem_append.1 h with h | h
    · exact hn n h
    · rw [List.mem_singleton.1 h]; exact hr)), Tre.run_ret]
  congr 1
  apply decide_eq_decide.2
  omega
noncomputable def s_l06In_7e3e_V : Env := ⟨tau, [(105, s_l00Own_c), (138, s_l02Rank_c)], []⟩
noncomputable def s_l06In_7e3e_b : Code := (Try.f93.body).getD .skip
noncomputable def s_l06In_7e3e_I : FnI := ⟨s_l06In_7e3e_b, Try.f93.results.toList, Try.f93.resultTypes.toList, []⟩
noncomputable def s_l06In_7e3e_out (_zp0 : Bool) (_p0 : TMatrix) (_p1 : Int) : Bool → CallOut := fun r => ⟨(.imm true .bool r), [], []⟩
set_option maxRecDepth 100000 in
theorem s_l06In_7e3e_eq : ∀ (zp0 : Bool) (p0 : TMatrix) (p1 : Int), denFn s_l06In_7e3e_V s_l06In_7e3e_I ⟨[(.iptr zp0 (.sl kMatrix) ([p0]) [.idx 0]), (.imm true (.int .i64) p1)], []⟩ = (s_l06In_7e3e p0 p1).run fun r => some (s_l06In_7e3e_out zp0 p0 p1 r) := fun _ _ _ => by kernel_rfl
noncomputable def s_l06In_7e3e_G (av : List AV) (rs : List Root) : Tre CallOut :=
  asCons av fun a0_ av0 =>
  asCons av0 fun a1_ av1 =>
  asEnd av1 <|
  asEnd rs <|
  asIptr kMatrix a0_ fun z1 d2 =>
  asImmZ true (.int .i64) a1_ fun d3 =>
  .mat (s_l06In_7e3e_F d2 d3) fun r => .ret (s_l06In_7e3e_out z1 d2 d3 r)
noncomputable def s_l06In_7e3e_c : Ctr := ⟨[], fun ci => s_l06In_7e3e_G ci.args ci.roots, false⟩
theorem s_l06In_7e3e_env : EnvOK Try.prog .none s_l06In_7e3e_V := (envOK_cons s_l00Own_ok ent105 (envOK_cons s_l02Rank_ok ent138 envOK_nil))
set_option maxRecDepth 100000 in
theorem s_l06In_7e3e_ok : Contract Try.prog .none 93 s_l06In_7e3e_c := by
  have hl : LoopsOK s_l06In_7e3e_V [] s_l06In_7e3e_b := loopsOK_nil (by kernel_rfl)
  refine (contract_of (F := s_l06In_7e3e_I) tau_tys s_l06In_7e3e_env Try.func93 (by kernel_rfl) (by kernel_rfl) (by kernel_rfl) hl []).weaken ?_
  rintro ⟨av, rs⟩ co h
  have h : (s_l06In_7e3e_G av rs).run some = some co := h
  obtain ⟨a0_, av0, rfl, h_0⟩ := asCons_spec h
  obtain ⟨a1_, av1, rfl, h_1⟩ := asCons_spec h_0
  obtain ⟨rfl, h_2⟩ := asEnd_spec h_1
  obtain ⟨rfl, h_3⟩ := asEnd_spec h_2
  obtain ⟨z1, d2, rfl, h_4⟩ := asIptr_spec h_3
  obtain ⟨d3, rfl, h_5⟩ := asImmZ_spec h_4
  exact fin_mat (s_l06In_7e3e_eq z1 d2 d3) h_5
end Go.Proofs.Ythnkanacjhlhhaa

namespace Go.Proofs.Ythnkanacjhlhhaa
open Go Go.Abs Go.Proofs
noncomputable def s_l06Holder_l3 (h3_0_0 : (List TMatrix)) (h3_0_1 : Int) : (Int × Int) → Tre ((Int × Int) ⊕ ((Int × Int) ⊕ Int)) := fun s3 =>
  .cond (decide (s3.2 < (h3_0_0.length : Int)))
    (.ite (0 ≤ s3.2 ∧ s3.2 < (h3_0_0.length : Int)) <|
    .mat (h3_0_0[s3.2.toNat]?) fun x1 =>
    .mat (s_l06In_7e3e_F x1 h3_0_1) fun r2 =>
    .cond r2
      (.cond (decide (s3.1 ≥ 0))
        (.ret (.inr (.inl (-1, s3.1))))
        (.ret (.inl (s3.2, iwrap .i64 (s3.2 + 1)))))
      (.ret (.inl (s3.1, iwrap .i64 (s3.2 + 1)))))
    (.ret (.inr (.inr s3.1)))
noncomputable def s_l06Holder (p0 : (List TMatrix)) (p1 : Int) : Tre Int :=
  .mat (loopF (s_l06Holder_l3 p0 p1) (-1, 0)) fun l3 =>
  .alt l3
    (fun a4 =>
      .ret a4.1)
    (fun b5 =>
      .ret b5)
noncomputable def s_l06Holder_F (p0 : (List TMatrix)) (p1 : Int) : Option Int := (s_l06Holder p0 p1).run some
-- more
theorem holder_fold {α : Type} (p : α → Bool) : ∀ (l : List α) (i : Nat) (acc : Int), (0 ≤ acc ∨ acc = -1) →
    (match foldE (β := (Int × Int) ⊕ Int) (fun i acc x => cond (p x) (cond (decide (acc ≥ 0)) (.inr (.inl (-1, acc))) (.inl (i : Int))) (.inl acc)) (.inr) i acc l with
      | .inl a => a.1
      | .inr b => b) = if 0 ≤ acc then (if l.any p then -1 else acc) else (if l.countP p = 1 then idxI p i l else -1) := by
  intro l
  induction l with
  | nil =>
    intro i acc h
    simp only [foldE, List.any_nil, List.countP_nil]
    rcases h with h | rfl
    · rw [if_pos h]; rfl
    · rfl
  | cons x l ih =>
    intro i acc h
    simp only [foldE, List.any_cons, List.countP_cons, idxI]
    rcases Bool.eq_false_or_eq_true (p x) with hp | hp
    case inr =>
      simp only [hp, cond_false, Bool.false_or, Bool.false_eq_true, if_false, Nat.add_zero]
      exact ih (i + 1) acc h
    case inl =>
      simp only [hp, cond_true, Bool.true_or, if_true]
      by_cases ha : 0 ≤ acc
      · rw [decide_eq_true (show acc ≥ 0 from ha), if_pos ha]; rfl
      · rw [decide_eq_false (show ¬ acc ≥ 0 from ha), if_neg ha, cond_false]
        refine (ih (i + 1) (i : Int) (.inl (by omega))).trans ?_
        rw [if_pos (by omega)]
        cases ho : l.any p
        · have h0 : l.countP p = 0 := by
            rw [List.countP_eq_zero]
            intro y hy hpy
            have := List.any_eq_true.2 ⟨y, hy, hpy⟩
            rw [ho] at this; cases this
          rw [h0]; rfl
        · obtain ⟨y, hy, hpy⟩ := List.any_eq_true.1 ho
          have h0 : 0 < l.countP p := List.countP_pos_iff.2 ⟨y, hy, hpy⟩
          rw [if_neg (by omega : ¬ l.countP p + 1 = 1)]; rfl
theorem s_l06Holder_is (ss : List (Int × List Int × Unit)) (h : validSs ss = true) (r : Nat) (hr : r < 2 ^ colsN ss) : s_l06Holder_F ss (r : Int) = some (holderV (fun m => inMx m (r : Int)) ss) := by
  obtain ⟨c1, c2, hf, l1, l2, hx⟩ := valid_up h
  unfold s_l06Holder_F s_l06Holder
  rw [Tre.run_mat]
  have := fold_loop' (xs := ss) (step := s_l06Holder_l3 ss (r : Int)) (fun i acc => (acc, (i : Int))) (fun i acc x => cond (inMx x (r : Int)) (cond (decide (acc ≥ 0)) (.inr (.inl (-1, acc))) (.inl (i : Int))) (.inl acc)) (.inr) (by
    intro i acc x hxi
    have hi : i < ss.length := (List.getElem?_eq_some_iff.1 hxi).1
    obtain ⟨ns, rfl, k1, k2, k3⟩ := hx x (List.mem_of_getElem? hxi)
    unfold s_l06Holder_l3
    rw [run_inb hxi, run_some_mat (s_l06In_7e3e_is c2 k1 k2 hr), Tre.run_cond]
    dsimp only
    cases inMx ((colsN ss : Int), up ns, ()) (r : Int)
    · simp only [cond_false, Tre.run_ret, iwrap_succ (show i < 4611686018427387904 by omega)]
    · rw [cond_true, Tre.run_cond, cond_true]
      cases decide (acc ≥ 0)
      · simp only [cond_false, Tre.run_ret, iwrap_succ (show i < 4611686018427387904 by omega)]
      · rfl)
    (by
    intro acc
    unfold s_l06Holder_l3
    exact run_out) (-1)
  rw [show ((-1 : Int), (0 : Int)) = (-1, ((0 : Nat) : Int)) from rfl, this, Option.bind_some]
  have h2 := holder_fold (fun m => inMx m (r : Int)) ss 0 (-1) (.inr rfl)
  unfold holderV
  rw [if_neg (by decide)] at h2
  rw [← h2]
  generalize foldE _ _ _ _ _ = z
  cases z <;> rfl
noncomputable def s_l06Holder_V : Env := ⟨tau, [(93, s_l06In_7e3e_c)], []⟩
noncomputable def s_l06Holder_b : Code := (Try.f41.body).getD .skip
noncomputable def s_l06Holder_l3_mk (z3_0 : Bool) (h3_0_0 : (List TMatrix)) (h3_0_1 : Int) : (Int × Int) → St := fun x => stOf [(0, (.imm z3_0 (.sl kMatrix) h3_0_0)), (1, (.imm true (.int .i64) h3_0_1)), (5, (.imm true (.int .i64) x.1)), (6, (.imm true (.int .i64) x.2))] []
noncomputable def s_l06Holder_l3_out (_z3_0 : Bool) (_h3_0_0 : (List TMatrix)) (_h3_0_1 : Int) : ((Int × Int) ⊕ Int) → Ex × St
  | .inl x => (.ret, stOf [(4, (.imm true (.int .i64) x.1)), (5, (.imm true (.int .i64) x.2))] [])
  | .inr x => (.exit 0, stOf [(4, .dead), (5, (.imm true (.int .i64) x))] [])
noncomputable def s_l06Holder_l3_D (s : St) : Tre (Ex × St) :=
  asImm (.sl kMatrix) (s.tmps 0) fun z3 d2 =>
  asImmZ true (.int .i64) (s.tmps 1) fun d5 =>
  asImmZ true (.int .i64) (s.tmps 5) fun d7 =>
  asImmZ true (.int .i64) (s.tmps 6) fun d9 =>
  .mat (loopF (s_l06Holder_l3 d2 d5) (d7, d9)) fun x => .alt x (fun a0 => .ret (s_l06Holder_l3_out z3 d2 d5 (.inl a0))) (fun b0 => .ret (s_l06Holder_l3_out z3 d2 d5 (.inr b0)))
noncomputable def s_l06Holder_l3_L : LoopI := ⟨([0, 1, 5, 6], []), ([4, 5], []), s_l06Holder_l3_D⟩
noncomputable def s_l06Holder_A : List (Nat × LoopI) := [(3, s_l06Holder_l3_L)]
set_option maxRecDepth 100000 in
theorem s_l06Holder_l3_step : ∀ (z3_0 : Bool) (h3_0_0 : (List TMatrix)) (h3_0_1 : Int) (x : (Int × Int)) (c : St → Option (Ex × St)), den s_l06Holder_V s_l06Holder_A (loopAt s_l06Holder_b 0) (s_l06Holder_l3_mk z3_0 h3_0_0 h3_0_1 x) (roundK s_l06Holder_l3_L.kp s_l06Holder_l3_L.kx c) = (s_l06Holder_l3 h3_0_0 h3_0_1 x).run (roundR (s_l06Holder_l3_mk z3_0 h3_0_0 h3_0_1) (s_l06Holder_l3_out z3_0 h3_0_0 h3_0_1) c) := fun _ _ _ _ _ => by
  kernel_rfl
theorem s_l06Holder_l3_ok : LoopOK s_l06Holder_V s_l06Holder_A (loopAt s_l06Holder_b 0) s_l06Holder_l3_L := loopOK_of fun s e s' h => by
  generalize hs : restrict s_l06Holder_l3_L.kp s = s1 at h
  have h : (s_l06Holder_l3_D s1).run some = some (e, s') := h
  obtain ⟨z3, d2, e1, h_0⟩ := asImm_spec h
  obtain ⟨d5, e4, h_1⟩ := asImmZ_spec h_0
  obtain ⟨d7, e6, h_2⟩ := asImmZ_spec h_1
  obtain ⟨d9, e8, h_3⟩ := asImmZ_spec h_2
  obtain ⟨y, hy, hz⟩ := mat_some h_3
  refine ⟨_, _, s_l06Holder_l3_mk z3 d2 d5, s_l06Holder_l3_out z3 d2 d5, s_l06Holder_l3 d2 d5, (d7, d9), y, ?_, hy, ?_, s_l06Holder_l3_step z3 d2 d5⟩
  · subst hs; exact restrict_eq (T := [(0, (.imm z3 (.sl kMatrix) d2)), (1, (.imm true (.int .i64) d5)), (5, (.imm true (.int .i64) d7)), (6, (.imm true (.int .i64) d9))]) (U := []) rfl rfl ⟨e1, e4, e6, e8, trivial⟩ trivial
  · rcases y with x | x <;> exact Option.some.inj hz
noncomputable def s_l06Holder_I : FnI := ⟨s_l06Holder_b, Try.f41.results.toList, Try.f41.resultTypes.toList, s_l06Holder_A⟩
noncomputable def s_l06Holder_out (_zp0 : Bool) (_p0 : (List TMatrix)) (_p1 : Int) : Int → CallOut := fun r => ⟨(.imm true (.int .i64) r), [], []⟩
set_option maxRecDepth 100000 in
theorem s_l06Holder_eq : ∀ (zp0 : Bool) (p0 : (List TMatrix)) (p1 : Int), denFn s_l06Holder_V s_l06Holder_I ⟨[(.imm zp0 (.sl kMatrix) p0), (.imm true (.int .i64) p1)], []⟩ = (s_l06Holder p0 p1).run fun r => some (s_l06Holder_out zp0 p0 p1 r) := fun _ _ _ => by kernel_rfl
noncomputable def s_l06Holder_G (av : List AV) (rs : List Root) : Tre CallOut :=
  asCons av fun a0_ av0 =>
  asCons av0 fun a1_ av1 =>
  asEnd av1 <|
  asEnd rs <|
  asImm (.sl kMatrix) a0_ fun z2 d1 =>
  asImmZ true (.int .i64) a1_ fun d3 =>
  .mat (s_l06Holder_F d1 d3) fun r => .ret (s_l06Holder_out z2 d1 d3 r)
noncomputable def s_l06Holder_c : Ctr := ⟨[], fun ci => s_l06Holder_G ci.args ci.roots, false⟩
theorem s_l06Holder_env : EnvOK Try.prog .none s_l06Holder_V := (envOK_cons s_l06In_7e3e_ok ent93 envOK_nil)
set_option maxRecDepth 100000 in
theorem s_l06Holder_ok : Contract Try.prog .none 41 s_l06Holder_c := by
  have hl : LoopsOK s_l06Holder_V s_l06Holder_A s_l06Holder_b := (loopsOK_all (n := 1) (by kernel_rfl) fun k hk => by
      match k, hk with
      | 0, _ => exact loopOK_at (id := 3) (L := s_l06Holder_l3_L) (by kernel_rfl) (by kernel_rfl) s_l06Holder_l3_ok)
  refine (contract_of (F := s_l06Holder_I) tau_tys s_l06Holder_env Try.func41 (by kernel_rfl) (by kernel_rfl) (by kernel_rfl) hl []).weaken ?_
  rintro ⟨av, rs⟩ co h
  have h : (s_l06Holder_G av rs).run some = some co := h
  obtain ⟨a0_, av0, rfl, h_0⟩ := asCons_spec h
  obtain ⟨a1_, av1, rfl, h_1⟩ := asCons_spec h_0
  obtain ⟨rfl, h_2⟩ := asEnd_spec h_1
  obtain ⟨rfl, h_3⟩ := asEnd_spec h_2
  obtain ⟨z2, d1, rfl, h_4⟩ := asImm_spec h_3
  obtain ⟨d3, rfl, h_5⟩ := asImmZ_spec h_4
  exact fin_mat (s_l06Holder_eq z2 d1 d3) h_5
end Go.Proofs.Ythnkanacjhlhhaa

namespace Go.Proofs.Ythnkanacjhlhhaa
open Go Go.Abs Go.Proofs
noncomputable def s_l06Spread_l2 (h2_0_0 : (List TMatrix)) : Int → Tre (Int ⊕ (Bool ⊕ Unit)) := fun s2 =>
  .ite ((0 : Int) ≤ 0 ∧ (0 : Int) < (h2_0_0.length : Int)) <|
  .mat (h2_0_0[0]?) fun x1 =>
  .ite (0 ≤ iwrap .u64 x1.1) <|
  let v2 := ishl .i64 1 (iwrap .u64 x1.1)
  .cond (decide (s2 < v2))
    (.mat (s_l06Holder_F h2_0_0 s2) fun r3 =>
    .cond (decide (r3 < 0))
      (.ret (.inr (.inl false)))
      (.ret (.inl (iwrap .i64 (s2 + 1)))))
    (.ret (.inr (.inr ())))
noncomputable def s_l06Spread (p0 : (List TMatrix)) : Tre Bool :=
  .mat (loopF (s_l06Spread_l2 p0) 1) fun l4 =>
  .alt l4
    (fun a5 =>
      .ret a5)
    (fun _ =>
      .ret true)
noncomputable def s_l06Spread_F (p0 : (List TMatrix)) : Option Bool := (s_l06Spread p0).run some
noncomputable def s_l06Spread_V : Env := ⟨tau, [(41, s_l06Holder_c)], []⟩
noncomputable def s_l06Spread_b : Code := (Try.f39.body).getD .skip
noncomputable def s_l06Spread_l2_mk (z2_0 : Bool) (h2_0_0 : (List TMatrix)) : Int → St := fun x => stOf [(0, (.imm z2_0 (.sl kMatrix) h2_0_0)), (3, (.imm true (.int .i64) x))] []
noncomputable def s_l06Spread_l2_out (_z2_0 : Bool) (_h2_0_0 : (List TMatrix)) : (Bool ⊕ Unit) → Ex × St
  | .inl x => (.ret, stOf [(2, (.imm true .bool x))] [])
  | .inr x => (.exit 0, stOf [(2, .dead)] [])
noncomputable def s_l06Spread_l2_D (s : St) : Tre (Ex × St) :=
  asImm (.sl kMatrix) (s.tmps 0) fun z3 d2 =>
  asImmZ true (.int .i64) (s.tmps 3) fun d5 =>
  .mat (loopF (s_l06Spread_l2 d2) d5) fun x => .alt x (fun a0 => .ret (s_l06Spread_l2_out z3 d2 (.inl a0))) (fun b0 => .ret (s_l06Spread_l2_out z3 d2 (.inr b0)))
noncomputable def s_l06Spread_l2_L : LoopI := ⟨([0, 3], []), ([2], []), s_l06Spread_l2_D⟩
noncomputable def s_l06Spread_A : List (Nat × LoopI) := [(2, s_l06Spread_l2_L)]
set_option maxRecDepth 100000 in
theorem s_l06Spread_l2_step : ∀ (z2_0 : Bool) (h2_0_0 : (List TMatrix)) (x : Int) (c : St → Option (Ex × St)), den s_l06Spread_V s_l06Spread_A (loopAt s_l06Spread_b 0) (s_l06Spread_l2_mk z2_0 h2_0_0 x) (roundK s_l06Spread_l2_L.kp s_l06Spread_l2_L.kx c) = (s_l06Spread_l2 h2_0_0 x).run (roundR (s_l06Spread_l2_mk z2_0 h2_0_0) (s_l06Spread_l2_out z2_0 h2_0_0) c) := fun _ _ _ _ => by
  kernel_rfl
theorem s_l06Spread_l2_ok : LoopOK s_l06Spread_V s_l06Spread_A (loopAt s_l06Spread_b 0) s_l06Spread_l2_L := loopOK_of fun s e s' h => by
  generalize hs : restrict s_l06Spread_l2_L.kp s = s1 at h
  have h : (s_l06Spread_l2_D s1).run some = some (e, s') := h
  obtain ⟨z3, d2, e1, h_0⟩ := asImm_spec h
  obtain ⟨d5, e4, h_1⟩ := asImmZ_spec h_0
  obtain ⟨y, hy, hz⟩ := mat_some h_1
  refine ⟨_, _, s_l06Spread_l2_mk z3 d2, s_l06Spread_l2_out z3 d2, s_l06Spread_l2 d2, d5, y, ?_, hy, ?_, s_l06Spread_l2_step z3 d2⟩
  · subst hs; exact restrict_eq (T := [(0, (.imm z3 (.sl kMatrix) d2)), (3, (.imm true (.int .i64) d5))]) (U := []) rfl rfl ⟨e1, e4, trivial⟩ trivial
  · rcases y with x | x <;> exact Option.some.inj hz
noncomputable def s_l06Spread_I : FnI := ⟨s_l06Spread_b, Try.f39.results.toList, Try.f39.resultTypes.toList, s_l06Spread_A⟩
noncomputable def s_l06Spread_out (_zp0 : Bool) (_p0 : (List TMatrix)) : Bool → CallOut := fun r => ⟨(.imm true .bool r), [], []⟩
set_option maxRecDepth 100000 in
theorem s_l06Spread_eq : ∀ (zp0 : Bool) (p0 : (List TMatrix)), denFn s_l06Spread_V s_l06Spread_I ⟨[(.imm zp0 (.sl kMatrix) p0)], []⟩ = (s_l06Spread p0).run fun r => some (s_l06Spread_out zp0 p0 r) := fun _ _ => by kernel_rfl
noncomputable def s_l06Spread_G (av : List AV) (rs : List Root) : Tre CallOut :=
  asCons av fun a0_ av0 =>
  asEnd av0 <|
  asEnd rs <|
  asImm (.sl kMatrix) a0_ fun z2 d1 =>
  .mat (s_l06Spread_F d1) fun r => .ret (s_l06Spread_out z2 d1 r)
noncomputable def s_l06Spread_c : Ctr := ⟨[], fun ci => s_l06Spread_G ci.args ci.roots, false⟩
theorem s_l06Spread_env : EnvOK Try.prog .none s_l06Spread_V := (envOK_cons s_l06Holder_ok ent41 envOK_nil)
set_option maxRecDepth 100000 in
theorem s_l06Spread_ok : Contract Try.prog .none 39 s_l06Spread_c := by
  have hl : LoopsOK s_l06Spread_V s_l06Spread_A s_l06Spread_b := (loopsOK_all (n := 1) (by kernel_rfl) fun k hk => by
      match k, hk with
      | 0, _ => exact loopOK_at (id := 2) (L := s_l06Spread_l2_L) (by kernel_rfl) (by kernel_rfl) s_l06Spread_l2_ok)
  refine (contract_of (F := s_l06Spread_I) tau_tys s_l06Spread_env Try.func39 (by kernel_rfl) (by kernel_rfl) (by kernel_rfl) hl []).weaken ?_
  rintro ⟨av, rs⟩ co h
  have h : (s_l06Spread_G av rs).run some = some co := h
  obtain ⟨a0_, av0, rfl, h_0⟩ := asCons_spec h
  obtain ⟨rfl, h_1⟩ := asEnd_spec h_0
  obtain ⟨rfl, h_2⟩ := asEnd_spec h_1
  obtain ⟨z2, d1, rfl, h_3⟩ := asImm_spec h_2
  exact fin_mat (s_l06Spread_eq z2 d1) h_3
end Go.Proofs.Ythnkanacjhlhhaa

namespace Go.Proofs.Ythnkanacjhlhhaa
open Go Go.Abs Go.Proofs
noncomputable def s_SpreadIndex (p0 : (List TMatrix)) (p1 : Int) : Tre (Int × Int) :=
  .mat (s_l06Ok_F p0) fun r1 =>
  .cond (!r1)
    (.ret (0, 1))
    (.mat (s_l06Spread_F p0) fun r2 =>
    .cond (!r2)
      (.ret (0, 4))
      (.ite ((0 : Int) ≤ 0 ∧ (0 : Int) < (p0.length : Int)) <|
      .mat (p0[0]?) fun x3 =>
      .ite (0 ≤ iwrap .u64 x3.1) <|
      let v4 := ishl .i64 1 (iwrap .u64 x3.1)
      let v5 := inR p1 1 (iwrap .i64 (v4 - 1))
      .cond (!v5)
        (.ret (0, 2))
        (.mat (s_l06Holder_F p0 p1) fun r6 =>
        .ret (r6, 0))))
noncomputable def s_SpreadIndex_F (p0 : (List TMatrix)) (p1 : Int) : Option (Int × Int) := (s_SpreadIndex p0 p1).run some
-- more
theorem ishl_cols {ss : List (Int × List Int × Unit)} (h : validSs ss = true) : ishl .i64 1 (iwrap .u64 (firstMx ss).1) = ((2 ^ colsN ss : Nat) : Int) := by
  obtain ⟨c1, c2, hf, _⟩ := valid_up h
  rw [iwrap_u64 (by omega) (by omega), hf, ishl_pow c2]
theorem s_l06Spread_is (ss : List (Int × List Int × Unit)) (h : validSs ss = true) : s_l06Spread_F ss = some (spreadV ss) := by
  obtain ⟨c1, c2, hf, l1, l2, hx⟩ := valid_up h
  have hp := pow_small c2
  have hp2 : 1 ≤ 2 ^ colsN ss := Nat.two_pow_pos _
  unfold s_l06Spread_F s_l06Spread
  rw [Tre.run_mat]
  have := up_loop (step := s_l06Spread_l2 ss) (fun r => decide (ss.countP (fun m => inMx m (r : Int)) = 1)) (2 ^ colsN ss) (.inl false) (.inr ()) (by
    intro r hr
    unfold s_l06Spread_l2
    rw [Tre.run_ite, if_pos ⟨Int.le_refl _, by omega⟩, run_some_mat (first_at (by omega)), Tre.run_ite, if_pos (iwrap_u64_nonneg _)]
    dsimp only
    rw [ishl_cols h, Tre.run_cond, decide_eq_true (by omega), cond_true, run_some_mat (s_l06Holder_is ss h r hr), Tre.run_cond, holder_neg]
    cases decide (ss.countP (fun m => inMx m (r : Int)) = 1)
    · rfl
    · simp only [Bool.not_true, cond_false, cond_true, Tre.run_ret, iwrap_succ (show r < 4611686018427387904 by omega)])
    (by
    unfold s_l06Spread_l2
    rw [Tre.run_ite, if_pos ⟨Int.le_refl _, by omega⟩, run_some_mat (first_at (by omega)), Tre.run_ite, if_pos (iwrap_u64_nonneg _)]
    dsimp only
    rw [ishl_cols h]
    exact run_out) (2 ^ colsN ss - 1) 1 (by omega)
  rw [show (1 : Int) = ((1 : Nat) : Int) from rfl, this, Option.bind_some]
  unfold spreadV
  generalize List.all _ _ = b
  cases b <;> rfl
theorem s_SpreadIndex_is (ss : List (Int × List Int × Unit)) (hs : shortSs ss) (one : Int) : s_SpreadIndex_F ss one = some (indexV ss one) := by
  unfold s_SpreadIndex_F s_SpreadIndex indexV
  rw [run_some_mat (s_l06Ok_is ss hs), Tre.run_cond]
  cases h : validSs ss
  · rfl
  rw [Bool.not_true, cond_false, cond_false, run_some_mat (s_l06Spread_is ss h), Tre.run_cond]
  cases h2 : spreadV ss
  · rfl
  obtain ⟨c1, c2, hf, l1, l2, hx⟩ := valid_up h
  have hp := pow_small c2
  have hp2 : 1 ≤ 2 ^ colsN ss := Nat.two_pow_pos _
  rw [Bool.not_true, cond_false, cond_false, Tre.run_ite, if_pos ⟨Int.le_refl _, by omega⟩, run_some_mat (first_at (by omega)), Tre.run_ite, if_pos (iwrap_u64_nonneg _)]
  dsimp only
  rw [ishl_cols h, hf, top1_nat (by omega), iwrap_i64 (by omega) (by omega), Tre.run_cond]
  rw [show (((2 ^ colsN ss : Nat) : Int) - 1) = ((2 ^ colsN ss - 1 : Nat) : Int) by omega]
  cases h3 : inR one 1 ((2 ^ colsN ss - 1 : Nat) : Int)
  · rfl
  rw [inR_iff] at h3
  obtain ⟨r, rfl⟩ := Int.eq_ofNat_of_zero_le (show 0 ≤ one by omega)
  rw [Bool.not_true, cond_false, cond_false, run_some_mat (s_l06Holder_is ss h r (by omega))]
  unfold holderV
  have h4 := (List.all_eq_true.1 h2) r (List.mem_range'_1.2 (by omega))
  rw [if_pos (of_decide_eq_true h4)]
  rfl
noncomputable def s_SpreadIndex_V : Env := ⟨tau, [(38, s_l06Ok_c), (39, s_l06Spread_c), (40, s_l00In_c), (41, s_l06Holder_c)], []⟩
noncomputable def s_SpreadIndex_b : Code := (Try.f8.body).getD .skip
noncomputable def s_SpreadIndex_I : FnI := ⟨s_SpreadIndex_b, Try.f8.results.toList, Try.f8.resultTypes.toList, []⟩
noncomputable def s_SpreadIndex_out (_zp0 : Bool) (_p0 : (List TMatrix)) (_p1 : Int) : (Int × Int) → CallOut := fun r => ⟨(.tcons (.imm true (.int .i64) r.1) (.tcons (.imm true (.int .i64) r.2) .tnil)), [], []⟩
set_option maxRecDepth 100000 in
theorem s_SpreadIndex_eq : ∀ (zp0 : Bool) (p0 : (List TMatrix)) (p1 : Int), denFn s_SpreadIndex_V s_SpreadIndex_I ⟨[(.imm zp0 (.sl kMatrix) p0), (.imm true (.int .i64) p1)], []⟩ = (s_SpreadIndex p0 p1).run fun r => some (s_SpreadIndex_out zp0 p0 p1 r) := fun _ _ _ => by kernel_rfl
noncomputable def s_SpreadIndex_G (av : List AV) (rs : List Root) : Tre CallOut :=
  asCons av fun a0_ av0 =>
  asCons av0 fun a1_ av1 =>
  asEnd av1 <|
  asEnd rs <|
  asImm (.sl kMatrix) a0_ fun z2 d1 =>
  asImmZ true (.int .i64) a1_ fun d3 =>
  .mat (s_SpreadIndex_F d1 d3) fun r => .ret (s_SpreadIndex_out z2 d1 d3 r)
noncomputable def s_SpreadIndex_c : Ctr := ⟨[], fun ci => s_SpreadIndex_G ci.args ci.roots, false⟩
theorem s_SpreadIndex_env : EnvOK Try.prog .none s_SpreadIndex_V := (envOK_cons s_l06Ok_ok ent38 (envOK_cons s_l06Spread_ok ent39 (envOK_cons s_l00In_ok ent40 (envOK_cons s_l06Holder_ok ent41 envOK_nil))))
set_option maxRecDepth 100000 in
theorem s_SpreadIndex_ok : Contract Try.prog .none 8 s_SpreadIndex_c := by
  have hl : LoopsOK s_SpreadIndex_V [] s_SpreadIndex_b := loopsOK_nil (by kernel_rfl)
  refine (contract_of (F := s_SpreadIndex_I) tau_tys s_SpreadIndex_env Try.func8 (by kernel_rfl) (by kernel_rfl) (by kernel_rfl) hl []).weaken ?_
  rintro ⟨av, rs⟩ co h
  have h : (s_SpreadIndex_G av rs).run some = some co := h
  obtain ⟨a0_, av0, rfl, h_0⟩ := asCons_spec h
  obtain ⟨a1_, av1, rfl, h_1⟩ := asCons_spec h_0
  obtain ⟨rfl, h_2⟩ := asEnd_spec h_1
  obtain ⟨rfl, h_3⟩ := asEnd_spec h_2
  obtain ⟨z2, d1, rfl, h_4⟩ := asImm_spec h_3
  obtain ⟨d3, rfl, h_5⟩ := asImmZ_spec h_4
  exact fin_mat (s_SpreadIndex_eq z2 d1 d3) h_5
end Go.Proofs.Ythnkanacjhlhhaa

namespace Go.Proofs.Ythnkanacjhlhhaa
open Go Go.Abs Go.Proofs
noncomputable def i_size_Matrix (p0 : (List TMatrix)) : Tre Int :=
  .ret (p0.length : Int)
noncomputable def i_size_Matrix_F (p0 : (List TMatrix)) : Option Int := (i_size_Matrix p0).run some
theorem i_size_Matrix_spec (p0 : (List TMatrix)) : i_size_Matrix_F p0 = some (p0.length : Int) := rfl
noncomputable def i_size_Matrix_V : Env := ⟨tau, [], []⟩
noncomputable def i_size_Matrix_b : Code := (Try.f95.body).getD .skip
noncomputable def i_size_Matrix_I : FnI := ⟨i_size_Matrix_b, Try.f95.results.toList, Try.f95.resultTypes.toList, []⟩
noncomputable def i_size_Matrix_out (_zp0 : Bool) (_p0 : (List TMatrix)) : Int → CallOut := fun r => ⟨(.imm true (.int .i64) r), [], []⟩
set_option maxRecDepth 100000 in
theorem i_size_Matrix_eq : ∀ (zp0 : Bool) (p0 : (List TMatrix)), denFn i_size_Matrix_V i_size_Matrix_I ⟨[(.imm zp0 (.sl kMatrix) p0)], []⟩ = (i_size_Matrix p0).run fun r => some (i_size_Matrix_out zp0 p0 r) := fun _ _ => by kernel_rfl
noncomputable def i_size_Matrix_G (av : List AV) (rs : List Root) : Tre CallOut :=
  asCons av fun a0_ av0 =>
  asEnd av0 <|
  asEnd rs <|
  asImm (.sl kMatrix) a0_ fun z2 d1 =>
  .ret (i_size_Matrix_out z2 d1 (d1.length : Int))
noncomputable def i_size_Matrix_c : Ctr := ⟨[], fun ci => i_size_Matrix_G ci.args ci.roots, false⟩
theorem i_size_Matrix_env : EnvOK Try.prog .none i_size_Matrix_V := envOK_nil
set_option maxRecDepth 100000 in
theorem i_size_Matrix_ok : Contract Try.prog .none 95 i_size_Matrix_c := by
  have hl : LoopsOK i_size_Matrix_V [] i_size_Matrix_b := loopsOK_nil (by kernel_rfl)
  refine (contract_of (F := i_size_Matrix_I) tau_tys i_size_Matrix_env Try.func95 (by kernel_rfl) (by kernel_rfl) (by kernel_rfl) hl []).weaken ?_
  rintro ⟨av, rs⟩ co h
  have h : (i_size_Matrix_G av rs).run some = some co := h
  obtain ⟨a0_, av0, rfl, h_0⟩ := asCons_spec h
  obtain ⟨rfl, h_1⟩ := asEnd_spec h_0
  obtain ⟨rfl, h_2⟩ := asEnd_spec h_1
  obtain ⟨z2, d1, rfl, h_3⟩ := asImm_spec h_2
  exact fin_ret (i_size_Matrix_eq z2 d1) (i_size_Matrix_spec d1) h_3
end Go.Proofs.Ythnkanacjhlhhaa

namespace Go.Proofs.Ythnkanacjhlhhaa
open Go Go.Abs Go.Proofs
noncomputable def i_SameMatrix (p0 : TMatrix) (p1 : TMatrix) : Tre Bool :=
  .cond (decide (p0.1 = p1.1))
    (.mat (sameL p0.2.1 p1.2.1) fun r1 =>
    .ret r1)
    (.ret false)
noncomputable def i_SameMatrix_F (p0 : TMatrix) (p1 : TMatrix) : Option Bool := (i_SameMatrix p0 p1).run some
noncomputable def i_SameMatrix_V : Env := ⟨tau, [(121, slices_Equal_int64_c)], []⟩
noncomputable def i_SameMatrix_b : Code := (Try.f67.body).getD .skip
noncomputable def i_SameMatrix_I : FnI := ⟨i_SameMatrix_b, Try.f67.results.toList, Try.f67.resultTypes.toList, []⟩
noncomputable def i_SameMatrix_out (_zp0 : Bool) (_zp1 : Bool) (_p0 : TMatrix) (_p1 : TMatrix) : Bool → CallOut := fun r => ⟨(.imm true .bool r), [], []⟩
set_option maxRecDepth 100000 in
theorem i_SameMatrix_eq : ∀ (zp0 : Bool) (zp1 : Bool) (p0 : TMatrix) (p1 : TMatrix), denFn i_SameMatrix_V i_SameMatrix_I ⟨[(.imm zp0 kMatrix p0), (.imm zp1 kMatrix p1)], []⟩ = (i_SameMatrix p0 p1).run fun r => some (i_SameMatrix_out zp0 zp1 p0 p1 r) := fun _ _ _ _ => by kernel_rfl
noncomputable def i_SameMatrix_G (av : List AV) (rs : List Root) : Tre CallOut :=
  asCons av fun a0_ av0 =>
  asCons av0 fun a1_ av1 =>
  asEnd av1 <|
  asEnd rs <|
  asImm kMatrix a0_ fun z2 d1 =>
  asImm kMatrix a1_ fun z4 d3 =>
  .mat (i_SameMatrix_F d1 d3) fun r => .ret (i_SameMatrix_out z2 z4 d1 d3 r)
noncomputable def i_SameMatrix_c : Ctr := ⟨[], fun ci => i_SameMatrix_G ci.args ci.roots, false⟩
theorem i_SameMatrix_env : EnvOK Try.prog .none i_SameMatrix_V := (envOK_cons slices_Equal_int64_ok ent121 envOK_nil)
set_option maxRecDepth 100000 in
theorem i_SameMatrix_ok : Contract Try.prog .none 67 i_SameMatrix_c := by
  have hl : LoopsOK i_SameMatrix_V [] i_SameMatrix_b := loopsOK_nil (by kernel_rfl)
  refine (contract_of (F := i_SameMatrix_I) tau_tys i_SameMatrix_env Try.func67 (by kernel_rfl) (by kernel_rfl) (by kernel_rfl) hl []).weaken ?_
  rintro ⟨av, rs⟩ co h
  have h : (i_SameMatrix_G av rs).run some = some co := h
  obtain ⟨a0_, av0, rfl, h_0⟩ := asCons_spec h
  obtain ⟨a1_, av1, rfl, h_1⟩ := asCons_spec h_0
  obtain ⟨rfl, h_2⟩ := asEnd_spec h_1
  obtain ⟨rfl, h_3⟩ := asEnd_spec h_2
  obtain ⟨z2, d1, rfl, h_4⟩ := asImm_spec h_3
  obtain ⟨z4, d3, rfl, h_5⟩ := asImm_spec h_4
  exact fin_mat (i_SameMatrix_eq z2 z4 d1 d3) h_5
end Go.Proofs.Ythnkanacjhlhhaa
