/- Part 3 of the proof of FnDelivered. -/
import Derived.WalkKit
import Derived.Deep.RegionLaw
import Derived.Test.YtkgekgfmnhccmaaProg
import Derived.Test.YtkgekgfmnhccmaaPd2
namespace Go.Abs
theorem iwrap_nat {n : Nat} (h : n < 9223372036854775808) : iwrap .i64 (n : Int) = n := iwrap_i64 (by omega) (by omega)
theorem ofInt_nat {n : Nat} (h : n < 18446744073709551616) : (BitVec.ofInt 64 (n : Int)).toNat = n := by
 rw [BitVec.ofInt_natCast, BitVec.toNat_ofNat, Nat.mod_eq_of_lt h]
theorem ixor_nat {a b : Nat} (ha : a < 2 ^ 63) (hb : b < 2 ^ 63) : ixor .i64 (a : Int) (b : Int) = ((a ^^^ b : Nat) : Int) := by
 have hx : a ^^^ b < 2 ^ 63 := Nat.xor_lt_two_pow ha hb
 have : (BitVec.ofInt 64 (a : Int) ^^^ BitVec.ofInt 64 (b : Int)).toNat = a ^^^ b := by
  rw [BitVec.toNat_xor, ofInt_nat (by omega), ofInt_nat (by omega)]
 unfold ixor
 show iwrap .i64 (((BitVec.ofInt 64 (a : Int) ^^^ BitVec.ofInt 64 (b : Int)).toNat : Nat) : Int) = _
 rw [this, iwrap_nat (by omega)]
inductive Sp (l : List Nat) : Nat → Prop
 | zero : Sp l 0
 | add {r v : Nat} : r ∈ l → Sp l v → Sp l (r ^^^ v)
theorem Sp.mem {l : List Nat} {r : Nat} (h : r ∈ l) : Sp l r := by
 have := Sp.add h (Sp.zero)
 rwa [Nat.xor_zero] at this
theorem Sp.xor {l : List Nat} {a b : Nat} (ha : Sp l a) (hb : Sp l b) : Sp l (a ^^^ b) := by
 induction ha with
 | zero => rwa [Nat.zero_xor]
 | add h _ ih => rw [Nat.xor_assoc]; exact .add h ih
theorem Sp.trans {l l' : List Nat} (h : ∀ r ∈ l, Sp l' r) {v : Nat} (hv : Sp l v) : Sp l' v := by
 induction hv with
 | zero => exact .zero
 | add hr _ ih => exact (h _ hr).xor ih
def Lo (r p : Nat) : Prop := r.testBit p = true ∧ ∀ q, q < p → r.testBit q = false
theorem Lo.uniq {r p q : Nat} (h1 : Lo r p) (h2 : Lo r q) : p = q := by
 rcases Nat.lt_trichotomy p q with h | h | h
 ·have := h2.2 p h; rw [h1.1] at this; cases this
 ·exact h
 ·have := h1.2 q h; rw [h2.1] at this; cases this
def Red (c : Nat) (E : List (Nat × Nat)) : Prop := (∀ a ∈ E, a.1 < c ∧ Lo a.2 a.1) ∧ E.Pairwise fun a b => a.1 < b.1 ∧ a.2.testBit b.1 = false
def comb (f : Nat → Bool) : List (Nat × Nat) → Nat
 | [] => 0
 | a :: l => cond (f a.1) (a.2 ^^^ comb f l) (comb f l)
theorem comb_xor (f g : Nat → Bool) : ∀ l : List (Nat × Nat), comb (fun x => f x ^^ g x) l = comb f l ^^^ comb g l := by
 intro l
 induction l with
 | nil => exact (Nat.xor_self 0).symm
 | cons a l ih =>
  simp only [comb, ih]
  cases f a.1 <;> cases g a.1 <;> simp only [Bool.false_xor, Bool.true_xor, Bool.not_true, Bool.not_false, cond_true, cond_false]
  ·rw [← Nat.xor_assoc, ← Nat.xor_assoc, Nat.xor_comm a.2]
  ·rw [Nat.xor_assoc]
  ·rw [Nat.xor_assoc a.2, Nat.xor_comm (comb f l) (a.2 ^^^ comb g l), ← Nat.xor_assoc, ← Nat.xor_assoc, Nat.xor_self, Nat.zero_xor, Nat.xor_comm]
theorem comb_none (f : Nat → Bool) : ∀ l : List (Nat × Nat), (∀ a ∈ l, f a.1 = false) → comb f l = 0 := by
 intro l h
 induction l with
 | nil => rfl
 | cons a l ih => simp only [comb, h a (.head _), cond_false]; exact ih fun x hx => h x (.tail _ hx)
theorem comb_clear (f : Nat → Bool) {p : Nat} : ∀ l : List (Nat × Nat), (∀ a ∈ l, a.2.testBit p = false) → (comb f l).testBit p = false := by
 intro l h
 induction l with
 | nil => simp [comb]
 | cons a l ih =>
  have := ih fun x hx => h x (.tail _ hx)
  simp only [comb]
  cases f a.1
  ·exact this
  ·simp [Nat.testBit_xor, this, h a (.head _)]
theorem Red.tail {c : Nat} {a : Nat × Nat} {l : List (Nat × Nat)} (h : Red c (a :: l)) : Red c l := ⟨fun x hx => h.1 x (.tail _ hx), (List.pairwise_cons.1 h.2).2⟩
theorem comb_one {c : Nat} : ∀ (E : List (Nat × Nat)), Red c E → ∀ a ∈ E, comb (fun p => p == a.1) E = a.2 := by
 intro E
 induction E with
 | nil => intro _ a ha; cases ha
 | cons b l ih =>
  intro h a ha
  have hp := (List.pairwise_cons.1 h.2).1
  simp only [comb]
  cases ha with
  | head =>
   rw [comb_none _ l fun x hx => by have := (hp x hx).1; simp; omega]
   simp
  | tail _ ha =>
   have : (b.1 == a.1) = false := by have := (hp a ha).1; simp; omega
   rw [this]
   exact ih h.tail a ha
theorem Sp.comb {c : Nat} {E : List (Nat × Nat)} (h : Red c E) {v : Nat} (hv : Sp (E.map (·.2)) v) : ∃ f, v = Abs.comb f E := by
 induction hv with
 | zero => exact ⟨fun _ => false, (comb_none _ _ fun _ _ => rfl).symm⟩
 | add hr _ ih =>
  obtain ⟨f, rfl⟩ := ih
  obtain ⟨a, ha, rfl⟩ := List.mem_map.1 hr
  exact ⟨_, by rw [comb_xor (fun p => p == a.1) f, comb_one E h a ha]⟩
theorem comb_bit {c : Nat} (f : Nat → Bool) : ∀ (E : List (Nat × Nat)), Red c E → ∀ a ∈ E, (comb f E).testBit a.1 = f a.1 := by
 intro E
 induction E with
 | nil => intro _ a ha; cases ha
 | cons b l ih =>
  intro h a ha
  have hp := (List.pairwise_cons.1 h.2).1
  simp only [comb]
  cases ha with
  | head =>
   have h0 : (comb f l).testBit b.1 = false := comb_clear f l fun x hx => (h.1 x (.tail _ hx)).2.2 _ (hp x hx).1
   cases hf : f b.1
   ·exact h0
   ·simp [Nat.testBit_xor, h0, (h.1 b (.head _)).2.1]
  | tail _ ha =>
   have hb := (hp a ha).2
   have := ih h.tail a ha
   cases f b.1
   ·exact this
   ·simp [Nat.testBit_xor, this, hb]
theorem comb_low {c : Nat} (f : Nat → Bool) : ∀ (E : List (Nat × Nat)), Red c E → comb f E = 0 ∨ ∃ a ∈ E, Lo (comb f E) a.1 := by
 intro E
 induction E with
 | nil => intro _; exact .inl rfl
 | cons b l ih =>
  intro h
  have hp := (List.pairwise_cons.1 h.2).1
  have hb := (h.1 b (.head _)).2
  simp only [comb]
  cases f b.1
  ·rcases ih h.tail with h0 | ⟨a, ha, hl⟩
   ·exact .inl h0
   ·exact .inr ⟨a, .tail _ ha, hl⟩
  ·refine .inr ⟨b, .head _, ?_, fun q hq => ?_⟩
   ·have h0 : (comb f l).testBit b.1 = false := comb_clear f l fun x hx => (h.1 x (.tail _ hx)).2.2 _ (hp x hx).1
    simp [Nat.testBit_xor, h0, hb.1]
   ·have h0 : (comb f l).testBit q = false := comb_clear f l fun x hx => (h.1 x (.tail _ hx)).2.2 _ (Nat.lt_trans hq (hp x hx).1)
    simp [Nat.testBit_xor, h0, hb.2 q hq]
theorem Red.apart {c : Nat} : ∀ {E : List (Nat × Nat)}, Red c E → ∀ {a b : Nat × Nat}, a ∈ E → b ∈ E → a.1 ≠ b.1 → a.2.testBit b.1 = false := by
 intro E
 induction E with
 | nil => intro _ a b ha; cases ha
 | cons x l ih =>
  intro h a b ha hb hne
  have hp := (List.pairwise_cons.1 h.2).1
  cases ha with
  | head =>
   cases hb with
   | head => exact absurd rfl hne
   | tail _ hb => exact (hp b hb).2
  | tail _ ha =>
   cases hb with
   | head => exact (h.1 a (.tail _ ha)).2.2 _ (hp a ha).1
   | tail _ hb => exact ih h.tail ha hb hne
theorem Red.find {c : Nat} {E : List (Nat × Nat)} (h : Red c E) {v p : Nat} (hv : Sp (E.map (·.2)) v) (hl : Lo v p) : ∃ a ∈ E, a.1 = p := by
 obtain ⟨f, rfl⟩ := hv.comb h
 rcases comb_low f E h with h0 | ⟨a, ha, hl'⟩
 ·rw [h0] at hl; have := hl.1; simp at this
 ·exact ⟨a, ha, hl'.uniq hl⟩
theorem Red.sub {c c' : Nat} {E E' : List (Nat × Nat)} (h : Red c E) (h' : Red c' E') (hs : ∀ v, Sp (E.map (·.2)) v ↔ Sp (E'.map (·.2)) v) : ∀ a ∈ E, a ∈ E' := by
 intro a ha
 have ha1 := (h.1 a ha).2
 have hin : ∀ b ∈ E, ∃ b' ∈ E', b'.1 = b.1 := fun b hb => h'.find ((hs _).1 (.mem (List.mem_map.2 ⟨b, hb, rfl⟩))) (h.1 b hb).2
 obtain ⟨a', ha', he⟩ := hin a ha
 have ha1' := (h'.1 a' ha').2
 have hw : Sp (E.map (·.2)) (a.2 ^^^ a'.2) := (Sp.mem (List.mem_map.2 ⟨a, ha, rfl⟩)).xor ((hs _).2 (.mem (List.mem_map.2 ⟨a', ha', rfl⟩)))
 obtain ⟨g, hg⟩ := hw.comb h
 have hz : ∀ b ∈ E, g b.1 = false := by
  intro b hb
  rw [← comb_bit g E h b hb, ← hg, Nat.testBit_xor]
  by_cases hab : a.1 = b.1
  ·rw [← hab, ha1.1, ← he, ha1'.1]; rfl
  ·obtain ⟨b', hb', he'⟩ := hin b hb
   rw [h.apart ha hb hab, ← he', h'.apart ha' hb' (by rw [he, he']; exact hab)]; rfl
 rw [comb_none g E hz] at hg
 have h2 : a.2 = a'.2 := by
  have h3 := congrArg (· ^^^ a'.2) hg
  simp only [Nat.xor_assoc, Nat.xor_self, Nat.xor_zero, Nat.zero_xor] at h3
  exact h3
 have : a = a' := Prod.ext he.symm h2
 rw [this]
 exact ha'
theorem sorted_eq : ∀ (E E' : List (Nat × Nat)), (E.Pairwise fun a b => a.1 < b.1) → (E'.Pairwise fun a b => a.1 < b.1) → (∀ a ∈ E, a ∈ E') → (∀ a ∈ E', a ∈ E) → E = E' := by
 intro E
 induction E with
 | nil =>
  intro E' _ _ _ h
  cases E' with
  | nil => rfl
  | cons b l => have := h b (.head _); cases this
 | cons a l ih =>
  intro E' hE hE' h1 h2
  cases E' with
  | nil => have := h1 a (.head _); cases this
  | cons b l' =>
   have hp := List.pairwise_cons.1 hE
   have hp' := List.pairwise_cons.1 hE'
   have hab : a = b := by
    have i1 := h1 a (.head _)
    have i2 := h2 b (.head _)
    cases i1 with
    | head => rfl
    | tail _ i1 =>
     cases i2 with
     | head => rfl
     | tail _ i2 => have := hp'.1 a i1; have := hp.1 b i2; omega
   subst hab
   congr 1
   refine ih l' hp.2 hp'.2 (fun x hx => ?_) (fun x hx => ?_)
   ·have := h1 x (.tail _ hx)
    cases this with
    | head => have := hp.1 _ hx; omega
    | tail _ h => exact h
   ·have := h2 x (.tail _ hx)
    cases this with
    | head => have := hp'.1 _ hx; omega
    | tail _ h => exact h
theorem Red.uniq {c c' : Nat} {E E' : List (Nat × Nat)} (h : Red c E) (h' : Red c' E') (hs : ∀ v, Sp (E.map (·.2)) v ↔ Sp (E'.map (·.2)) v) : E = E' :=
 sorted_eq E E' (h.2.imp fun h => h.1) (h'.2.imp fun h => h.1) (h.sub h' hs) (h'.sub h fun v => (hs v).symm)
def IsEch (rows E : List Nat) : Prop := ∃ P c, Red c P ∧ P.map (·.2) = E ∧ ∀ v, Sp rows v ↔ Sp E v
def elimB (c r x : Nat) : Nat := cond (x.testBit c) (x ^^^ r) x
theorem elimB_bit {c r x : Nat} (hr : r.testBit c = true) : (elimB c r x).testBit c = false := by
 unfold elimB
 cases h : x.testBit c
 ·exact h
 ·simp [Nat.testBit_xor, h, hr]
theorem elimB_low {c r x q : Nat} (hr : r.testBit q = false) : (elimB c r x).testBit q = x.testBit q := by
 unfold elimB
 cases x.testBit c
 ·rfl
 ·simp [Nat.testBit_xor, hr]
structure Inv (orig : List Nat) (c : Nat) (E : List (Nat × Nat)) (R : List Nat) : Prop where
 red : Red c E
 low : ∀ x ∈ R, ∀ q, q < c → x.testBit q = false
 span : ∀ v, Sp orig v ↔ Sp (E.map (·.2) ++ R) v
theorem Inv.skip {orig : List Nat} {c : Nat} {E : List (Nat × Nat)} {R : List Nat} (h : Inv orig c E R) (hc : ∀ x ∈ R, x.testBit c = false) : Inv orig (c + 1) E R :=
 ⟨⟨fun a ha => ⟨Nat.lt_succ_of_lt (h.red.1 a ha).1, (h.red.1 a ha).2⟩, h.red.2⟩, fun x hx q hq => by
  rcases Nat.lt_succ_iff_lt_or_eq.1 hq with h1 | rfl
  ·exact h.low x hx q h1
  ·exact hc x hx, h.span⟩
theorem Inv.step {orig : List Nat} {c : Nat} {E : List (Nat × Nat)} {R R' : List Nat} {r : Nat} (h : Inv orig c E R) (hr : r ∈ R) (hb : r.testBit c = true)
  (h1 : ∀ y ∈ R', y = 0 ∨ ∃ x ∈ R, y = elimB c r x) (h2 : ∀ x ∈ R, x = r ∨ elimB c r x ∈ R') : Inv orig (c + 1) (E.map (fun a => (a.1, elimB c r a.2)) ++ [(c, r)]) R' := by
 have hlow := h.low r hr
 refine ⟨⟨?_, ?_⟩, ?_, ?_⟩
 ·intro a ha
  rcases List.mem_append.1 ha with ha | ha
  ·obtain ⟨b, hb', rfl⟩ := List.mem_map.1 ha
   obtain ⟨i1, i2⟩ := h.red.1 b hb'
   refine ⟨Nat.lt_succ_of_lt i1, ?_, fun q hq => ?_⟩
   ·dsimp only; rw [elimB_low (hlow _ i1)]; exact i2.1
   ·dsimp only at hq ⊢; rw [elimB_low (hlow _ (Nat.lt_trans hq i1))]; exact i2.2 q hq
  ·simp only [List.mem_singleton] at ha
   subst ha
   exact ⟨Nat.lt_succ_self _, hb, hlow⟩
 ·refine List.pairwise_append.2 ⟨?_, List.pairwise_singleton _ _, ?_⟩
  ·refine List.pairwise_map.2 ((List.pairwise_iff_forall_sublist.2 ?_))
   intro a b hs
   have hmem : a ∈ E ∧ b ∈ E := ⟨hs.subset (.head _), hs.subset (.tail _ (.head _))⟩
   have := List.pairwise_iff_forall_sublist.1 h.red.2 hs
   exact ⟨this.1, by dsimp only; rw [elimB_low (hlow _ (h.red.1 b hmem.2).1)]; exact this.2⟩
  ·intro a ha b hb'
   simp only [List.mem_singleton] at hb'
   subst hb'
   obtain ⟨x, hx, rfl⟩ := List.mem_map.1 ha
   exact ⟨(h.red.1 x hx).1, elimB_bit hb⟩
 ·intro y hy q hq
  rcases h1 y hy with rfl | ⟨x, hx, rfl⟩
  ·simp
  ·rcases Nat.lt_succ_iff_lt_or_eq.1 hq with h3 | rfl
   ·rw [elimB_low (hlow _ h3)]; exact h.low x hx q h3
   ·exact elimB_bit hb
 ·have hr1 : Sp (E.map (·.2) ++ R) r := .mem (List.mem_append_right _ hr)
  have key : ∀ {L : List Nat} {x : Nat}, Sp L r → Sp L x → Sp L (elimB c r x) := by
   intro L x i1 i2
   unfold elimB
   cases x.testBit c
   ·exact i2
   ·exact i2.xor i1
  have key2 : ∀ {L : List Nat} {x : Nat}, Sp L r → Sp L (elimB c r x) → Sp L x := by
   intro L x i1 i2
   unfold elimB at i2
   cases hx : x.testBit c
   ·rw [hx] at i2; exact i2
   ·rw [hx] at i2
    have := Sp.xor i2 i1
    simp only [cond_true] at this
    rwa [Nat.xor_assoc, Nat.xor_self, Nat.xor_zero] at this
  have hmap : (E.map (fun a => (a.1, elimB c r a.2)) ++ [(c, r)]).map (·.2) = E.map (fun a => elimB c r a.2) ++ [r] := by simp [List.map_map, Function.comp_def]
  rw [hmap]
  intro v
  rw [h.span v]
  have hr2 : Sp (E.map (fun a => elimB c r a.2) ++ [r] ++ R') r := .mem (by simp)
  constructor
  ·refine Sp.trans fun x hx => ?_
   rcases List.mem_append.1 hx with hx | hx
   ·obtain ⟨a, ha, rfl⟩ := List.mem_map.1 hx
    exact key2 hr2 (.mem (List.mem_append_left _ (List.mem_append_left _ (List.mem_map.2 ⟨a, ha, rfl⟩))))
   ·rcases h2 x hx with rfl | h3
    ·exact hr2
    ·exact key2 hr2 (.mem (List.mem_append_right _ h3))
  ·refine Sp.trans fun x hx => ?_
   rcases List.mem_append.1 hx with hx | hx
   ·rcases List.mem_append.1 hx with hx | hx
    ·obtain ⟨a, ha, rfl⟩ := List.mem_map.1 hx
     exact key hr1 (.mem (List.mem_append_left _ (List.mem_map.2 ⟨a, ha, rfl⟩)))
    ·simp only [List.mem_singleton] at hx
     subst hx
     exact hr1
   ·rcases h1 x hx with rfl | ⟨y, hy, rfl⟩
    ·exact .zero
    ·exact key hr1 (.mem (List.mem_append_right _ hy))
theorem Inv.done {orig : List Nat} {c : Nat} {E : List (Nat × Nat)} {R : List Nat} (h : Inv orig c E R) (hz : ∀ x ∈ R, x = 0) : IsEch orig (E.map (·.2)) := by
 refine ⟨E, c, h.red, rfl, fun v => (h.span v).trans ⟨?_, ?_⟩⟩
 ·refine Sp.trans fun x hx => ?_
  rcases List.mem_append.1 hx with hx | hx
  ·exact .mem hx
  ·rw [hz x hx]; exact .zero
 ·exact Sp.trans fun x hx => .mem (List.mem_append_left _ hx)
theorem Inv.start (orig : List Nat) : Inv orig 0 [] orig := ⟨⟨fun a ha => by (cases ha), .nil⟩, fun _ _ q hq => absurd hq (Nat.not_lt_zero q), fun _ => Iff.rfl⟩
abbrev up (l : List Nat) : List Int := l.map fun n : Nat => (n : Int)
theorem idxI_cases {α : Type} (p : α → Bool) : ∀ (l : List α) (i : Nat), (idxI p i l = -1 ∧ ∀ x ∈ l, p x = false) ∨ ∃ k x, l[k]? = some x ∧ p x = true ∧ idxI p i l = ((i + k : Nat) : Int) := by
 intro l
 induction l with
 | nil => intro i; exact .inl ⟨rfl, fun x hx => by cases hx⟩
 | cons a l ih =>
  intro i
  simp only [idxI]
  cases ha : p a
  ·rcases ih (i + 1) with ⟨h1, h2⟩ | ⟨k, x, h1, h2, h3⟩
   ·exact .inl ⟨h1, fun x hx => by
     cases hx with
     | head => exact ha
     | tail _ hx => exact h2 x hx⟩
   ·exact .inr ⟨k + 1, x, h1, h2, by rw [cond_false, h3]; congr 1; omega⟩
  ·exact .inr ⟨0, a, rfl, ha, rfl⟩
end Go.Abs

namespace Go.Abs
end Go.Abs

namespace Go.Abs
end Go.Abs

namespace Go.Abs
def sumsOf : List Nat → List Nat
 | [] => [0]
 | x :: l => sumsOf l ++ (sumsOf l).map (x ^^^ ·)
theorem sumsOf_len : ∀ l : List Nat, (sumsOf l).length = 2 ^ l.length := by
 intro l
 induction l with
 | nil => rfl
 | cons x l ih => simp only [sumsOf, List.length_append, List.length_map, ih, List.length_cons, Nat.pow_succ]; omega
theorem sumsOf_zero : ∀ l : List Nat, 0 ∈ sumsOf l := by
 intro l
 induction l with
 | nil => simp [sumsOf]
 | cons x l ih => exact List.mem_append.2 (.inl ih)
theorem xor_cancel (a b : Nat) : a ^^^ (a ^^^ b) = b := by rw [← Nat.xor_assoc, Nat.xor_self, Nat.zero_xor]
theorem sumsOf_add : ∀ {l : List Nat} {r v : Nat}, r ∈ l → v ∈ sumsOf l → r ^^^ v ∈ sumsOf l := by
 intro l
 induction l with
 | nil => intro r v hr; cases hr
 | cons x l ih =>
  intro r v hr hv
  simp only [sumsOf, List.mem_append, List.mem_map] at hv ⊢
  cases hr with
  | head =>
   rcases hv with hv | ⟨w, hw, rfl⟩
   ·exact .inr ⟨v, hv, rfl⟩
   ·exact .inl (by rw [xor_cancel]; exact hw)
  | tail _ hr =>
   rcases hv with hv | ⟨w, hw, rfl⟩
   ·exact .inl (ih hr hv)
   ·exact .inr ⟨r ^^^ w, ih hr hw, by rw [← Nat.xor_assoc, Nat.xor_comm x r, Nat.xor_assoc]⟩
theorem Sp.sums {l : List Nat} {v : Nat} (h : Sp l v) : v ∈ sumsOf l := by
 induction h with
 | zero => exact sumsOf_zero l
 | add hr _ ih => exact sumsOf_add hr ih
theorem sums_Sp : ∀ {l : List Nat} {v : Nat}, v ∈ sumsOf l → Sp l v := by
 intro l
 induction l with
 | nil => intro v hv; simp only [sumsOf, List.mem_singleton] at hv; subst hv; exact .zero
 | cons x l ih =>
  intro v hv
  simp only [sumsOf, List.mem_append, List.mem_map] at hv
  have hs : ∀ {w}, Sp l w → Sp (x :: l) w := fun h => h.trans fun r hr => Sp.mem (.tail _ hr)
  rcases hv with hv | ⟨w, hw, rfl⟩
  ·exact hs (ih hv)
  ·exact .add (.head _) (hs (ih hw))
theorem sums_bit {p : Nat} : ∀ {l : List Nat} {v : Nat}, (∀ r ∈ l, r.testBit p = false) → v ∈ sumsOf l → v.testBit p = false := by
 intro l
 induction l with
 | nil => intro v _ hv; simp only [sumsOf, List.mem_singleton] at hv; subst hv; simp
 | cons x l ih =>
  intro v h hv
  simp only [sumsOf, List.mem_append, List.mem_map] at hv
  rcases hv with hv | ⟨w, hw, rfl⟩
  ·exact ih (fun r hr => h r (.tail _ hr)) hv
  ·rw [Nat.testBit_xor, h x (.head _), ih (fun r hr => h r (.tail _ hr)) hw]; rfl
theorem Red.nodup {c : Nat} : ∀ {E : List (Nat × Nat)}, Red c E → (sumsOf (E.map (·.2))).Nodup := by
 intro E
 induction E with
 | nil => intro _; simp [sumsOf]
 | cons a l ih =>
  intro h
  have hp := (List.pairwise_cons.1 h.2).1
  have hl : ∀ r ∈ l.map (·.2), r.testBit a.1 = false := by
   intro r hr
   obtain ⟨b, hb, rfl⟩ := List.mem_map.1 hr
   exact ((h.1 b (.tail _ hb)).2).2 a.1 (hp b hb).1
  have ha : a.2.testBit a.1 = true := (h.1 a (.head _)).2.1
  simp only [List.map_cons, sumsOf]
  rw [List.nodup_append]
  refine ⟨ih h.tail, ?_, ?_⟩
  ·rw [List.nodup_iff_pairwise_ne]
   refine List.pairwise_map.2 ((List.nodup_iff_pairwise_ne.1 (ih h.tail)).imp ?_)
   intro x y hxy hne
   exact hxy (by rw [← xor_cancel a.2 x, hne, xor_cancel])
  ·intro x hx y hy hxy
   obtain ⟨w, hw, rfl⟩ := List.mem_map.1 hy
   have h1 := sums_bit hl hx
   have h2 := sums_bit hl hw
   rw [hxy, Nat.testBit_xor, ha, h2] at h1
   cases h1
theorem nodup_le {α : Type} [DecidableEq α] : ∀ {l l' : List α}, l.Nodup → (∀ x ∈ l, x ∈ l') → l.length ≤ l'.length := by
 intro l
 induction l with
 | nil => intro l' _ _; exact Nat.zero_le _
 | cons x l ih =>
  intro l' hn hs
  rw [List.nodup_cons] at hn
  have hx := hs x (.head _)
  have := ih (l' := l'.erase x) hn.2 (fun y hy => by
   have hne : y ≠ x := by rintro rfl; exact hn.1 hy
   exact (List.mem_erase_of_ne hne).2 (hs y (.tail _ hy)))
  rw [List.length_erase_of_mem hx] at this
  have hpos : 0 < l'.length := List.length_pos_of_mem hx
  simp only [List.length_cons]
  omega
theorem IsEch.le {rows E : List Nat} (h : IsEch rows E) : E.length ≤ rows.length := by
 obtain ⟨P, c, hr, rfl, hs⟩ := h
 have := nodup_le hr.nodup (fun x hx => ((hs x).2 (sums_Sp hx)).sums)
 rw [sumsOf_len, sumsOf_len] at this
 exact (Nat.pow_le_pow_iff_right (by decide)).1 this
theorem Sp.map {rows : List Nat} {f : Nat → Nat} (h0 : f 0 = 0) (hf : ∀ a b, f (a ^^^ b) = f a ^^^ f b) {v : Nat} (h : Sp rows v) : Sp (rows.map f) (f v) := by
 induction h with
 | zero => rw [h0]; exact .zero
 | add hr _ ih => rw [hf]; exact .add (List.mem_map.2 ⟨_, hr, rfl⟩) ih
end Go.Abs

namespace Go.Abs
def selN (h : Nat) : Nat → List Nat → Nat
 | _, [] => 0
 | i, x :: l => cond (h.testBit i) x 0 ^^^ selN h (i + 1) l
theorem selN_none {h : Nat} : ∀ (l : List Nat) (i : Nat), (∀ q, i ≤ q → h.testBit q = false) → selN h i l = 0 := by
 intro l
 induction l with
 | nil => intro i _; rfl
 | cons x l ih =>
  intro i hq
  simp only [selN]
  rw [hq i (Nat.le_refl i), ih (i + 1) fun q h => hq q (by omega), cond_false, Nat.xor_self]
theorem selN_zero (l : List Nat) (i : Nat) : selN 0 i l = 0 := selN_none l i fun q _ => Nat.zero_testBit q
theorem xor_four (x a b : Nat) : a ^^^ b = (x ^^^ a) ^^^ (x ^^^ b) := by
 rw [Nat.xor_comm x a, Nat.xor_assoc, ← Nat.xor_assoc x x b, Nat.xor_self, Nat.zero_xor]
theorem selN_xor (a b : Nat) : ∀ (l : List Nat) (i : Nat), selN (a ^^^ b) i l = selN a i l ^^^ selN b i l := by
 intro l
 induction l with
 | nil => intro i; exact (Nat.xor_self 0).symm
 | cons x l ih =>
  intro i
  simp only [selN]
  rw [ih, Nat.testBit_xor]
  cases a.testBit i <;> cases b.testBit i
  ·simp only [Bool.xor_false, cond_false, Nat.zero_xor]
  ·simp only [Bool.false_xor, cond_true, cond_false, Nat.zero_xor]
   rw [Nat.xor_comm, Nat.xor_assoc, Nat.xor_comm (selN b (i + 1) l)]
  ·simp only [Bool.xor_false, cond_true, cond_false, Nat.zero_xor]
   rw [Nat.xor_assoc]
  ·simp only [Bool.xor_self, cond_true, cond_false, Nat.zero_xor]
   exact xor_four x _ _
theorem selN_pow : ∀ (l : List Nat) (i j : Nat) {x : Nat}, l[j]? = some x → selN (2 ^ (i + j)) i l = x := by
 intro l
 induction l with
 | nil => intro i j x h; simp at h
 | cons y l ih =>
  intro i j x h
  simp only [selN]
  cases j with
  | zero =>
   simp only [List.getElem?_cons_zero, Option.some.injEq] at h
   subst h
   rw [Nat.add_zero, Nat.testBit_two_pow_self, cond_true, selN_none l (i + 1) fun q hq => by rw [Nat.testBit_two_pow]; exact decide_eq_false (by omega), Nat.xor_zero]
  | succ j =>
   simp only [List.getElem?_cons_succ] at h
   rw [Nat.testBit_two_pow, decide_eq_false (by omega), cond_false, Nat.zero_xor, show i + (j + 1) = i + 1 + j by omega]
   exact ih (i + 1) j h
structure Heads (N : Nat) (S : List Nat) : Prop where
 len : S.length = N
 head : ∀ i x, S[i]? = some x → x &&& (2 ^ N - 1) = 2 ^ i
theorem Heads.back {N : Nat} {S : List Nat} (h : Heads N S) {v : Nat} (hv : Sp S v) : selN (v &&& (2 ^ N - 1)) 0 S = v := by
 induction hv with
 | zero => rw [Nat.zero_and, selN_zero]
 | add hr _ ih =>
  obtain ⟨i, hi⟩ := List.getElem?_of_mem hr
  rw [Nat.and_xor_distrib_right, selN_xor, ih, h.head i _ hi]
  have := selN_pow S 0 i hi
  rw [Nat.zero_add] at this
  rw [this]
theorem sorted_len : ∀ (l : List (Nat × Nat)) (lo b : Nat), (l.Pairwise fun a b => a.1 < b.1) → (∀ a ∈ l, lo ≤ a.1 ∧ a.1 < b) → l.length ≤ b - lo := by
 intro l
 induction l with
 | nil => intro lo b _ _; exact Nat.zero_le _
 | cons a l ih =>
  intro lo b h hb
  obtain ⟨h1, h2⟩ := List.pairwise_cons.1 h
  have := ih (a.1 + 1) b h2 fun x hx => ⟨h1 x hx, (hb x (.tail _ hx)).2⟩
  have h0 := hb a (.head _)
  simp only [List.length_cons]
  omega
theorem sorted_range : ∀ (l : List (Nat × Nat)) (lo : Nat), (l.Pairwise fun a b => a.1 < b.1) → (∀ a ∈ l, lo ≤ a.1 ∧ a.1 < lo + l.length) → ∀ (i : Nat) (a : Nat × Nat), l[i]? = some a → a.1 = lo + i := by
 intro l
 induction l with
 | nil => intro lo _ _ i a h; simp at h
 | cons b l ih =>
  intro lo h hb i a ha
  obtain ⟨h1, h2⟩ := List.pairwise_cons.1 h
  simp only [List.length_cons] at hb
  have h0 := hb b (.head _)
  have hl := sorted_len l (b.1 + 1) (lo + (l.length + 1)) h2 fun x hx => ⟨h1 x hx, (hb x (.tail _ hx)).2⟩
  have hb0 : b.1 = lo := by omega
  cases i with
  | zero => simp only [List.getElem?_cons_zero, Option.some.injEq] at ha; subst ha; exact hb0
  | succ i =>
   simp only [List.getElem?_cons_succ] at ha
   rw [ih (lo + 1) h2 (fun x hx => ⟨by have := h1 x hx; omega, by have := (hb x (.tail _ hx)).2; omega⟩) i a ha]
   omega
theorem Heads.full {N : Nat} {S rows E : List Nat} (h : Heads N S) (hs : ∀ r ∈ rows, Sp S r) (he : IsEch rows E) (hl : E.length = N) : E = S := by
 obtain ⟨P, c, hr, rfl, hsp⟩ := he
 rw [List.length_map] at hl
 have hin : ∀ a ∈ P, Sp S a.2 := fun a ha => Sp.trans hs ((hsp a.2).2 (Sp.mem (List.mem_map.2 ⟨a, ha, rfl⟩)))
 have hpos : ∀ a ∈ P, a.1 < N := fun a ha => by
  refine Nat.lt_of_not_le fun hge => ?_
  have h0 : a.2 &&& (2 ^ N - 1) = 0 := by
   refine Nat.eq_of_testBit_eq fun q => ?_
   rw [Nat.testBit_and, Nat.testBit_two_pow_sub_one, Nat.zero_testBit]
   by_cases hq : q < N
   ·rw [(hr.1 a ha).2.2 q (by omega)]; rfl
   ·rw [decide_eq_false hq, Bool.and_false]
  have h1 := h.back (hin a ha)
  rw [h0, selN_zero] at h1
  have h2 := (hr.1 a ha).2.1
  rw [← h1, Nat.zero_testBit] at h2
  cases h2
 have hidx := sorted_range P 0 (hr.2.imp fun h => h.1) fun a ha => ⟨Nat.zero_le _, by have := hpos a ha; omega⟩
 refine List.ext_getElem? fun i => ?_
 rw [List.getElem?_map]
 cases ha : P[i]? with
 | none =>
  have hi := List.getElem?_eq_none_iff.1 ha
  rw [List.getElem?_eq_none_iff.2 (show S.length ≤ i by have := h.len; omega)]
  rfl
 | some a =>
  have hi : i < P.length := (List.getElem?_eq_some_iff.1 ha).1
  have ham := List.mem_of_getElem? ha
  have ha1 : a.1 = i := by rw [hidx i a ha]; omega
  have hiS : i < S.length := by have := h.len; omega
  have hx : S[i]? = some S[i] := List.getElem?_eq_getElem hiS
  have hhead : a.2 &&& (2 ^ N - 1) = 2 ^ i := by
   refine Nat.eq_of_testBit_eq fun q => ?_
   rw [Nat.testBit_and, Nat.testBit_two_pow_sub_one, Nat.testBit_two_pow]
   by_cases hq : q < N
   ·rw [decide_eq_true hq, Bool.and_true]
    by_cases hqi : i = q
    ·subst hqi; rw [decide_eq_true rfl, ← ha1]; exact (hr.1 a ham).2.1
    ·have hb : P[q]? = some P[q] := List.getElem?_eq_getElem (by omega)
     have hb1 : P[q].1 = q := by rw [hidx q _ hb]; omega
     have := hr.apart ham (List.mem_of_getElem? hb) (by omega)
     rw [hb1] at this
     rw [this, decide_eq_false hqi]
   ·rw [decide_eq_false hq, Bool.and_false, decide_eq_false (by omega)]
  have h1 := h.back (hin a ham)
  have h2 := selN_pow S 0 i hx
  rw [Nat.zero_add] at h2
  rw [hhead, h2] at h1
  rw [hx, Option.map_some, h1]
theorem IsEch.heads {N : Nat} {rows E A : List Nat} (h : IsEch rows E) (hA : IsEch (rows.map (· &&& (2 ^ N - 1))) A) (hE : E.length = N) (hAl : A.length = N) : Heads N E := by
 obtain ⟨P, c, hr, rfl, hs⟩ := h
 rw [List.length_map] at hE
 have hlow : ∀ a ∈ P, a.1 < N := by
  intro a ha
  refine Decidable.byContradiction fun hn => ?_
  have hz : ∀ q, q < N → a.2.testBit q = false := fun q hq => (hr.1 a ha).2.2 q (by omega)
  have hza : a.2 &&& (2 ^ N - 1) = 0 := by
   refine Nat.eq_of_testBit_eq fun q => ?_
   rw [Nat.testBit_and, Nat.testBit_two_pow_sub_one, Nat.zero_testBit]
   by_cases hq : q < N
   ·rw [hz q hq]; rfl
   ·simp [hq]
  have hA2 : IsEch (((P.erase a).map (·.2)).map (· &&& (2 ^ N - 1))) A := by
   obtain ⟨Q, d, h1, h2, h3⟩ := hA
   refine ⟨Q, d, h1, h2, fun v => Iff.trans ⟨fun hv => ?_, fun hv => ?_⟩ (h3 v)⟩
   ·refine Sp.trans (fun x hx => ?_) hv
    obtain ⟨y, hy, rfl⟩ := List.mem_map.1 hx
    obtain ⟨b, hb, rfl⟩ := List.mem_map.1 hy
    have := ((hs b.2).2 (Sp.mem (List.mem_map.2 ⟨b, List.mem_of_mem_erase hb, rfl⟩))).map (f := (· &&& (2 ^ N - 1))) (Nat.zero_and _) (fun a b => Nat.and_xor_distrib_right)
    exact this
   ·have key : ∀ w, Sp (P.map (·.2)) w → Sp (((P.erase a).map (·.2)).map (· &&& (2 ^ N - 1))) (w &&& (2 ^ N - 1)) := by
     intro w hw
     induction hw with
     | zero => rw [Nat.zero_and]; exact .zero
     | add hx _ ih =>
      obtain ⟨b, hb, rfl⟩ := List.mem_map.1 hx
      rw [Nat.and_xor_distrib_right]
      by_cases hba : b = a
      ·rw [hba, hza, Nat.zero_xor]; exact ih
      ·exact .add (List.mem_map.2 ⟨b.2, List.mem_map.2 ⟨b, (List.mem_erase_of_ne hba).2 hb, rfl⟩, rfl⟩) ih
    refine Sp.trans (fun x hx => ?_) hv
    obtain ⟨r, hr2, rfl⟩ := List.mem_map.1 hx
    exact key r ((hs r).1 (Sp.mem hr2))
  have := hA2.le
  rw [List.length_map, List.length_map, List.length_erase_of_mem ha] at this
  have := List.length_pos_of_mem ha
  omega
 have hsort := hr.2.imp (S := fun a b : Nat × Nat => a.1 < b.1) fun h => h.1
 have hat := sorted_range P 0 hsort fun a ha => ⟨Nat.zero_le _, by have := hlow a ha; omega⟩
 refine ⟨by rw [List.length_map]; exact hE, fun i x hx => ?_⟩
 rw [List.getElem?_map] at hx
 obtain ⟨a, ha, rfl⟩ := Option.map_eq_some_iff.1 hx
 have hai := hat i a ha
 have ham := List.mem_of_getElem? ha
 have hiN := hlow a ham
 refine Nat.eq_of_testBit_eq fun q => ?_
 rw [Nat.testBit_and, Nat.testBit_two_pow_sub_one, Nat.testBit_two_pow]
 by_cases hq : q < N
 ·obtain ⟨b, hb⟩ : ∃ b, P[q]? = some b := ⟨_, List.getElem?_eq_getElem (by omega)⟩
  have hbq := hat q b hb
  by_cases hiq : i = q
  ·subst hiq
   have := (hr.1 a ham).2.1
   rw [show a.1 = i by omega] at this
   simp [this, hq]
  ·have := hr.apart ham (List.mem_of_getElem? hb) (by omega)
   rw [show b.1 = q by omega] at this
   simp [this, hiq]
 ·have : i ≠ q := by omega
  simp [hq, this]
end Go.Abs

namespace Go.Abs
end Go.Abs

namespace Go.Proofs.Ytkgekgfmnhccmaa
open Go Go.Abs Go.Proofs
abbrev kField : K := (.pair (.int .i64) (.pair (.int .i64) .unit))
abbrev kStation : K := (.pair (.sl (.int .i64)) (.pair (.sl (.int .i64)) .unit))
abbrev kL00Src : K := (.pair (.sl (.int .u8)) (.pair (.int .i64) (.pair (.int .u64) .unit)))
abbrev kDeed : K := (.pair (.int .i64) (.pair (.int .i64) (.pair (.int .i64) (.pair (.int .i64) .unit))))
abbrev kGather : K := (.pair (.int .i64) (.pair (.int .i64) (.pair (.sl (.int .i64)) (.pair (.int .i64) (.pair (.int .i64) .unit)))))
abbrev kL08Plan : K := (.pair .ptr (.pair (.sl kDeed) .unit))
abbrev kPlant : K := (.pair (.sl kStation) (.pair (.sl kField) .unit))
abbrev kNet : K := (.pair kField (.pair (.int .i64) (.pair (.int .i64) (.pair (.sl (.sl (.int .i64))) (.pair (.sl (.sl (.int .i64))) .unit)))))
abbrev kL08Run : K := (.pair .ptr (.pair kPlant .unit))
abbrev kWorks : K := (.pair kPlant (.pair kGather .unit))
def tau : List (Nat × TI) := [(28, ⟨kNet, 80, 0⟩), (31, ⟨(.sl (.int .i64)), 24, 2⟩), (2, ⟨(.int .i64), 8, 0⟩), (26, ⟨(.sl (.sl (.int .i64))), 24, 31⟩), (25, ⟨kField, 16, 0⟩), (134, ⟨kL00Src, 40, 0⟩), (3, ⟨(.int .i64), 8, 0⟩), (22, ⟨(.sl (.int .u8)), 24, 5⟩), (132, ⟨(.int .u64), 8, 0⟩), (160, ⟨(.sl kField), 24, 25⟩), (5, ⟨(.int .u8), 1, 0⟩), (1, ⟨.fn, 8, 0⟩), (4, ⟨.bool, 1, 0⟩), (9, ⟨.str, 16, 0⟩), (12, ⟨(.int .u64), 8, 0⟩), (13, ⟨(.pair .str (.pair (.int .u64) .unit)), 24, 0⟩), (21, ⟨(.int .i32), 4, 0⟩), (23, ⟨.fn, 8, 0⟩), (24, ⟨kField, 16, 0⟩), (27, ⟨kNet, 80, 0⟩), (29, ⟨.fn, 8, 0⟩), (30, ⟨.fn, 8, 0⟩), (32, ⟨.fn, 8, 0⟩), (34, ⟨.fn, 8, 0⟩), (35, ⟨.fn, 8, 0⟩), (37, ⟨.fn, 8, 0⟩), (38, ⟨.fn, 8, 0⟩), (40, ⟨.fn, 8, 0⟩), (41, ⟨.fn, 8, 0⟩), (42, ⟨.fn, 8, 0⟩), (43, ⟨.fn, 8, 0⟩), (44, ⟨.fn, 8, 0⟩), (45, ⟨.fn, 8, 0⟩), (46, ⟨kField, 16, 0⟩), (47, ⟨kNet, 80, 0⟩), (48, ⟨kNet, 80, 0⟩), (49, ⟨.fn, 8, 0⟩), (50, ⟨.fn, 8, 0⟩), (51, ⟨.fn, 8, 0⟩), (52, ⟨.fn, 8, 0⟩), (53, ⟨.fn, 8, 0⟩), (54, ⟨.fn, 8, 0⟩), (55, ⟨.fn, 8, 0⟩), (56, ⟨kGather, 56, 0⟩), (57, ⟨kGather, 56, 0⟩), (58, ⟨.fn, 8, 0⟩), (59, ⟨(.sl kDeed), 24, 111⟩), (60, ⟨.fn, 8, 0⟩), (62, ⟨.fn, 8, 0⟩), (63, ⟨(.sl kStation), 24, 107⟩), (64, ⟨(.sl kField), 24, 128⟩), (65, ⟨kPlant, 48, 0⟩), (66, ⟨kPlant, 48, 0⟩), (68, ⟨.fn, 8, 0⟩), (69, ⟨.fn, 8, 0⟩), (70, ⟨.fn, 8, 0⟩), (71, ⟨.ptr, 8, 0⟩), (72, ⟨.fn, 8, 0⟩), (73, ⟨.fn, 8, 0⟩), (74, ⟨.fn, 8, 0⟩), (75, ⟨.fn, 8, 0⟩), (76, ⟨.fn, 8, 0⟩), (77, ⟨.fn, 8, 0⟩), (78, ⟨.fn, 8, 0⟩), (79, ⟨.ptr, 8, 0⟩), (80, ⟨.fn, 8, 0⟩), (81, ⟨.fn, 8, 0⟩), (82, ⟨.fn, 8, 0⟩), (83, ⟨.fn, 8, 0⟩), (84, ⟨.fn, 8, 0⟩), (85, ⟨.fn, 8, 0⟩), (86, ⟨.fn, 8, 0⟩), (87, ⟨.fn, 8, 0⟩), (88, ⟨.fn, 8, 0⟩), (89, ⟨.fn, 8, 0⟩), (90, ⟨.fn, 8, 0⟩), (91, ⟨.fn, 8, 0⟩), (92, ⟨.fn, 8, 0⟩), (93, ⟨.fn, 8, 0⟩), (94, ⟨.fn, 8, 0⟩), (95, ⟨.fn, 8, 0⟩), (96, ⟨.fn, 8, 0⟩), (97, ⟨.fn, 8, 0⟩), (98, ⟨.fn, 8, 0⟩), (99, ⟨.fn, 8, 0⟩), (100, ⟨.fn, 8, 0⟩), (101, ⟨.ptr, 8, 0⟩), (102, ⟨.fn, 8, 0⟩), (103, ⟨.ptr, 8, 0⟩), (105, ⟨.fn, 8, 0⟩), (106, ⟨kStation, 48, 0⟩), (107, ⟨kStation, 48, 0⟩), (108, ⟨kWorks, 104, 0⟩), (109, ⟨kWorks, 104, 0⟩), (110, ⟨kDeed, 32, 0⟩), (111, ⟨kDeed, 32, 0⟩), (112, ⟨.fn, 8, 0⟩), (113, ⟨.fn, 8, 0⟩), (114, ⟨.fn, 8, 0⟩), (115, ⟨.ptr, 8, 0⟩), (117, ⟨.fn, 8, 0⟩), (118, ⟨kL08Run, 56, 0⟩), (119, ⟨kL08Run, 56, 0⟩), (120, ⟨.ptr, 8, 0⟩), (121, ⟨kL08Plan, 32, 0⟩), (122, ⟨kL08Plan, 32, 0⟩), (123, ⟨.fn, 8, 0⟩), (124, ⟨.fn, 8, 0⟩), (125, ⟨(.int .u64), 8, 0⟩), (126, ⟨.fn, 8, 0⟩), (127, ⟨kField, 16, 0⟩), (128, ⟨kField, 16, 0⟩), (129, ⟨.fn, 8, 0⟩), (130, ⟨.fn, 8, 0⟩), (131, ⟨.fn, 8, 0⟩), (133, ⟨kL00Src, 40, 0⟩), (135, ⟨.fn, 8, 0⟩), (136, ⟨.fn, 8, 0⟩), (137, ⟨.fn, 8, 0⟩), (138, ⟨.fn, 8, 0⟩), (139, ⟨.fn, 8, 0⟩), (140, ⟨.fn, 8, 0⟩), (141, ⟨.fn, 8, 0⟩), (142, ⟨.fn, 8, 0⟩), (143, ⟨.fn, 8, 0⟩), (144, ⟨.fn, 8, 0⟩), (145, ⟨.fn, 8, 0⟩), (146, ⟨.fn, 8, 0⟩), (147, ⟨.fn, 8, 0⟩), (148, ⟨.fn, 8, 0⟩), (149, ⟨.fn, 8, 0⟩), (150, ⟨.fn, 8, 0⟩), (151, ⟨.fn, 8, 0⟩), (152, ⟨.fn, 8, 0⟩), (153, ⟨.fn, 8, 0⟩), (154, ⟨.fn, 8, 0⟩), (155, ⟨.fn, 8, 0⟩), (156, ⟨.fn, 8, 0⟩), (157, ⟨.fn, 8, 0⟩), (158, ⟨.fn, 8, 0⟩), (159, ⟨.fn, 8, 0⟩), (161, ⟨.fn, 8, 0⟩), (162, ⟨.fn, 8, 0⟩), (163, ⟨.fn, 8, 0⟩), (164, ⟨.fn, 8, 0⟩), (165, ⟨.ptr, 8, 0⟩), (166, ⟨.fn, 8, 0⟩), (168, ⟨.fn, 8, 0⟩), (169, ⟨.fn, 8, 0⟩), (170, ⟨(.sl .str), 24, 9⟩), (171, ⟨(.sl (.int .i64)), 24, 3⟩), (173, ⟨.fn, 8, 0⟩), (174, ⟨.fn, 8, 0⟩), (175, ⟨.fn, 8, 0⟩), (176, ⟨.fn, 8, 0⟩), (177, ⟨.fn, 8, 0⟩), (178, ⟨.fn, 8, 0⟩), (179, ⟨.fn, 8, 0⟩), (185, ⟨.fn, 8, 0⟩), (186, ⟨(.int .u32), 4, 0⟩), (189, ⟨.fn, 8, 0⟩), (190, ⟨.ptr, 8, 0⟩), (195, ⟨.fn, 8, 0⟩)]
set_option maxRecDepth 100000 in
theorem tau_tys {E : List (Nat × Ctr)} {Z : List (Nat × List Frz)} : TysOK Try.prog ⟨tau, E, Z⟩ := tysOK_of (tysB_env (by kernel_rfl)) (by kernel_rfl)
theorem ent6 : Go.Abs.Enters Try.prog 6 := ⟨Try.f6, Try.func6, by kernel_rfl, by kernel_rfl⟩
theorem ent7 : Go.Abs.Enters Try.prog 7 := ⟨Try.f7, Try.func7, by kernel_rfl, by kernel_rfl⟩
theorem ent8 : Go.Abs.Enters Try.prog 8 := ⟨Try.f8, Try.func8, by kernel_rfl, by kernel_rfl⟩
theorem ent9 : Go.Abs.Enters Try.prog 9 := ⟨Try.f9, Try.func9, by kernel_rfl, by kernel_rfl⟩
theorem ent10 : Go.Abs.Enters Try.prog 10 := ⟨Try.f10, Try.func10, by kernel_rfl, by kernel_rfl⟩
theorem ent11 : Go.Abs.Enters Try.prog 11 := ⟨Try.f11, Try.func11, by kernel_rfl, by kernel_rfl⟩
theorem ent12 : Go.Abs.Enters Try.prog 12 := ⟨Try.f12, Try.func12, by kernel_rfl, by kernel_rfl⟩
theorem ent13 : Go.Abs.Enters Try.prog 13 := ⟨Try.f13, Try.func13, by kernel_rfl, by kernel_rfl⟩
theorem ent14 : Go.Abs.Enters Try.prog 14 := ⟨Try.f14, Try.func14, by kernel_rfl, by kernel_rfl⟩
theorem ent15 : Go.Abs.Enters Try.prog 15 := ⟨Try.f15, Try.func15, by kernel_rfl, by kernel_rfl⟩
theorem ent16 : Go.Abs.Enters Try.prog 16 := ⟨Try.f16, Try.func16, by kernel_rfl, by kernel_rfl⟩
theorem ent17 : Go.Abs.Enters Try.prog 17 := ⟨Try.f17, Try.func17, by kernel_rfl, by kernel_rfl⟩
theorem ent18 : Go.Abs.Enters Try.prog 18 := ⟨Try.f18, Try.func18, by kernel_rfl, by kernel_rfl⟩
theorem ent19 : Go.Abs.Enters Try.prog 19 := ⟨Try.f19, Try.func19, by kernel_rfl, by kernel_rfl⟩
theorem ent37 : Go.Abs.Enters Try.prog 37 := ⟨Try.f37, Try.func37, by kernel_rfl, by kernel_rfl⟩
theorem ent38 : Go.Abs.Enters Try.prog 38 := ⟨Try.f38, Try.func38, by kernel_rfl, by kernel_rfl⟩
theorem ent39 : Go.Abs.Enters Try.prog 39 := ⟨Try.f39, Try.func39, by kernel_rfl, by kernel_rfl⟩
theorem ent40 : Go.Abs.Enters Try.prog 40 := ⟨Try.f40, Try.func40, by kernel_rfl, by kernel_rfl⟩
theorem ent41 : Go.Abs.Enters Try.prog 41 := ⟨Try.f41, Try.func41, by kernel_rfl, by kernel_rfl⟩
theorem ent42 : Go.Abs.Enters Try.prog 42 := ⟨Try.f42, Try.func42, by kernel_rfl, by kernel_rfl⟩
theorem ent43 : Go.Abs.Enters Try.prog 43 := ⟨Try.f43, Try.func43, by kernel_rfl, by kernel_rfl⟩
theorem ent44 : Go.Abs.Enters Try.prog 44 := ⟨Try.f44, Try.func44, by kernel_rfl, by kernel_rfl⟩
theorem ent45 : Go.Abs.Enters Try.prog 45 := ⟨Try.f45, Try.func45, by kernel_rfl, by kernel_rfl⟩
theorem ent46 : Go.Abs.Enters Try.prog 46 := ⟨Try.f46, Try.func46, by kernel_rfl, by kernel_rfl⟩
theorem ent47 : Go.Abs.Enters Try.prog 47 := ⟨Try.f47, Try.func47, by kernel_rfl, by kernel_rfl⟩
theorem ent48 : Go.Abs.Enters Try.prog 48 := ⟨Try.f48, Try.func48, by kernel_rfl, by kernel_rfl⟩
theorem ent49 : Go.Abs.Enters Try.prog 49 := ⟨Try.f49, Try.func49, by kernel_rfl, by kernel_rfl⟩
theorem ent50 : Go.Abs.Enters Try.prog 50 := ⟨Try.f50, Try.func50, by kernel_rfl, by kernel_rfl⟩
theorem ent51 : Go.Abs.Enters Try.prog 51 := ⟨Try.f51, Try.func51, by kernel_rfl, by kernel_rfl⟩
theorem ent52 : Go.Abs.Enters Try.prog 52 := ⟨Try.f52, Try.func52, by kernel_rfl, by kernel_rfl⟩
theorem ent53 : Go.Abs.Enters Try.prog 53 := ⟨Try.f53, Try.func53, by kernel_rfl, by kernel_rfl⟩
theorem ent54 : Go.Abs.Enters Try.prog 54 := ⟨Try.f54, Try.func54, by kernel_rfl, by kernel_rfl⟩
theorem ent55 : Go.Abs.Enters Try.prog 55 := ⟨Try.f55, Try.func55, by kernel_rfl, by kernel_rfl⟩
theorem ent56 : Go.Abs.Enters Try.prog 56 := ⟨Try.f56, Try.func56, by kernel_rfl, by kernel_rfl⟩
theorem ent57 : Go.Abs.Enters Try.prog 57 := ⟨Try.f57, Try.func57, by kernel_rfl, by kernel_rfl⟩
theorem ent58 : Go.Abs.Enters Try.prog 58 := ⟨Try.f58, Try.func58, by kernel_rfl, by kernel_rfl⟩
theorem ent60 : Go.Abs.Enters Try.prog 60 := ⟨Try.f60, Try.func60, by kernel_rfl, by kernel_rfl⟩
theorem ent61 : Go.Abs.Enters Try.prog 61 := ⟨Try.f61, Try.func61, by kernel_rfl, by kernel_rfl⟩
theorem ent84 : Go.Abs.Enters Try.prog 84 := ⟨Try.f84, Try.func84, by kernel_rfl, by kernel_rfl⟩
theorem ent85 : Go.Abs.Enters Try.prog 85 := ⟨Try.f85, Try.func85, by kernel_rfl, by kernel_rfl⟩
theorem ent86 : Go.Abs.Enters Try.prog 86 := ⟨Try.f86, Try.func86, by kernel_rfl, by kernel_rfl⟩
theorem ent87 : Go.Abs.Enters Try.prog 87 := ⟨Try.f87, Try.func87, by kernel_rfl, by kernel_rfl⟩
theorem ent88 : Go.Abs.Enters Try.prog 88 := ⟨Try.f88, Try.func88, by kernel_rfl, by kernel_rfl⟩
theorem ent89 : Go.Abs.Enters Try.prog 89 := ⟨Try.f89, Try.func89, by kernel_rfl, by kernel_rfl⟩
theorem ent90 : Go.Abs.Enters Try.prog 90 := ⟨Try.f90, Try.func90, by kernel_rfl, by kernel_rfl⟩
theorem ent91 : Go.Abs.Enters Try.prog 91 := ⟨Try.f91, Try.func91, by kernel_rfl, by kernel_rfl⟩
theorem ent92 : Go.Abs.Enters Try.prog 92 := ⟨Try.f92, Try.func92, by kernel_rfl, by kernel_rfl⟩
theorem ent93 : Go.Abs.Enters Try.prog 93 := ⟨Try.f93, Try.func93, by kernel_rfl, by kernel_rfl⟩
theorem ent94 : Go.Abs.Enters Try.prog 94 := ⟨Try.f94, Try.func94, by kernel_rfl, by kernel_rfl⟩
theorem ent95 : Go.Abs.Enters Try.prog 95 := ⟨Try.f95, Try.func95, by kernel_rfl, by kernel_rfl⟩
theorem ent96 : Go.Abs.Enters Try.prog 96 := ⟨Try.f96, Try.func96, by kernel_rfl, by kernel_rfl⟩
theorem ent97 : Go.Abs.Enters Try.prog 97 := ⟨Try.f97, Try.func97, by kernel_rfl, by kernel_rfl⟩
theorem ent98 : Go.Abs.Enters Try.prog 98 := ⟨Try.f98, Try.func98, by kernel_rfl, by kernel_rfl⟩
theorem ent99 : Go.Abs.Enters Try.prog 99 := ⟨Try.f99, Try.func99, by kernel_rfl, by kernel_rfl⟩
theorem ent100 : Go.Abs.Enters Try.prog 100 := ⟨Try.f100, Try.func100, by kernel_rfl, by kernel_rfl⟩
theorem ent101 : Go.Abs.Enters Try.prog 101 := ⟨Try.f101, Try.func101, by kernel_rfl, by kernel_rfl⟩
theorem ent102 : Go.Abs.Enters Try.prog 102 := ⟨Try.f102, Try.func102, by kernel_rfl, by kernel_rfl⟩
theorem ent103 : Go.Abs.Enters Try.prog 103 := ⟨Try.f103, Try.func103, by kernel_rfl, by kernel_rfl⟩
theorem ent104 : Go.Abs.Enters Try.prog 104 := ⟨Try.f104, Try.func104, by kernel_rfl, by kernel_rfl⟩
theorem ent105 : Go.Abs.Enters Try.prog 105 := ⟨Try.f105, Try.func105, by kernel_rfl, by kernel_rfl⟩
theorem ent106 : Go.Abs.Enters Try.prog 106 := ⟨Try.f106, Try.func106, by kernel_rfl, by kernel_rfl⟩
theorem ent107 : Go.Abs.Enters Try.prog 107 := ⟨Try.f107, Try.func107, by kernel_rfl, by kernel_rfl⟩
theorem ent108 : Go.Abs.Enters Try.prog 108 := ⟨Try.f108, Try.func108, by kernel_rfl, by kernel_rfl⟩
theorem ent109 : Go.Abs.Enters Try.prog 109 := ⟨Try.f109, Try.func109, by kernel_rfl, by kernel_rfl⟩
theorem ent111 : Go.Abs.Enters Try.prog 111 := ⟨Try.f111, Try.func111, by kernel_rfl, by kernel_rfl⟩
theorem ent112 : Go.Abs.Enters Try.prog 112 := ⟨Try.f112, Try.func112, by kernel_rfl, by kernel_rfl⟩
theorem ent133 : Go.Abs.Enters Try.prog 133 := ⟨Try.f133, Try.func133, by kernel_rfl, by kernel_rfl⟩
theorem ent134 : Go.Abs.Enters Try.prog 134 := ⟨Try.f134, Try.func134, by kernel_rfl, by kernel_rfl⟩
theorem ent135 : Go.Abs.Enters Try.prog 135 := ⟨Try.f135, Try.func135, by kernel_rfl, by kernel_rfl⟩
theorem ent136 : Go.Abs.Enters Try.prog 136 := ⟨Try.f136, Try.func136, by kernel_rfl, by kernel_rfl⟩
theorem ent137 : Go.Abs.Enters Try.prog 137 := ⟨Try.f137, Try.func137, by kernel_rfl, by kernel_rfl⟩
theorem ent138 : Go.Abs.Enters Try.prog 138 := ⟨Try.f138, Try.func138, by kernel_rfl, by kernel_rfl⟩
theorem ent139 : Go.Abs.Enters Try.prog 139 := ⟨Try.f139, Try.func139, by kernel_rfl, by kernel_rfl⟩
theorem ent140 : Go.Abs.Enters Try.prog 140 := ⟨Try.f140, Try.func140, by kernel_rfl, by kernel_rfl⟩
theorem ent141 : Go.Abs.Enters Try.prog 141 := ⟨Try.f141, Try.func141, by kernel_rfl, by kernel_rfl⟩
theorem ent142 : Go.Abs.Enters Try.prog 142 := ⟨Try.f142, Try.func142, by kernel_rfl, by kernel_rfl⟩
theorem ent143 : Go.Abs.Enters Try.prog 143 := ⟨Try.f143, Try.func143, by kernel_rfl, by kernel_rfl⟩
theorem ent160 : Go.Abs.Enters Try.prog 160 := ⟨Try.f160, Try.func160, by kernel_rfl, by kernel_rfl⟩
abbrev TL00Src := ((List Int) × (Int × (Int × Unit)))
abbrev TNet := ((Int × (Int × Unit)) × (Int × (Int × ((List (List Int)) × ((List (List Int)) × Unit)))))
end Go.Proofs.Ytkgekgfmnhccmaa

namespace Go.Proofs.Ytkgekgfmnhccmaa
open Go Go.Abs Go.Proofs
noncomputable def l_f6big (p0 : (List Int)) : Tre Bool :=
 .ret (decide ((p0.length : Int) > 4096))
noncomputable def l_f6big_F (p0 : (List Int)) : Option Bool := (l_f6big p0).run some
def l_f6big_S (p0 : (List Int)) : Bool :=
 decide ((p0.length : Int) > 4096)
theorem l_f6big_spec (p0 : (List Int)) : l_f6big_F p0 = some (l_f6big_S p0) := rfl
noncomputable def l_f6big_V : Env := ⟨tau, [], []⟩
noncomputable def l_f6big_b : Code := (Try.f6.body).getD .skip
noncomputable def l_f6big_I : FnI := ⟨l_f6big_b, Try.f6.results.toList, Try.f6.resultTypes.toList, []⟩
noncomputable def l_f6big_out (_zp0 : Bool) (_p0 : (List Int)) : Bool → CallOut := fun r => ⟨(.imm true .bool r), [], []⟩
set_option maxRecDepth 100000 in
theorem l_f6big_eq : ∀ (zp0 : Bool) (p0 : (List Int)), denFn l_f6big_V l_f6big_I ⟨[(.imm zp0 (.sl (.int .u8)) p0)], []⟩ = (l_f6big p0).run fun r => some (l_f6big_out zp0 p0 r) := fun _ _ => by kernel_rfl
noncomputable def l_f6big_G (av : List AV) (rs : List Root) : Tre CallOut :=
 asCons av fun a0_ av0 =>
 asEnd av0 <|
 asEnd rs <|
 asImm (.sl (.int .u8)) a0_ fun z2 d1 =>
 .ret (l_f6big_out z2 d1 (l_f6big_S d1))
noncomputable def l_f6big_c : Ctr := ⟨[], fun ci => l_f6big_G ci.args ci.roots, false⟩
theorem l_f6big_env : EnvOK Try.prog .none l_f6big_V := envOK_nil
set_option maxRecDepth 100000 in
theorem l_f6big_ok : Contract Try.prog .none 6 l_f6big_c := by
 have hl : LoopsOK l_f6big_V [] l_f6big_b := loopsOK_nil (by kernel_rfl)
 refine (contract_of (F := l_f6big_I) tau_tys l_f6big_env Try.func6 (by kernel_rfl) (by kernel_rfl) (by kernel_rfl) hl []).weaken ?_
 rintro ⟨av, rs⟩ co h
 have h : (l_f6big_G av rs).run some = some co := h
 obtain ⟨a0_, av0, rfl, h_0⟩ := asCons_spec h
 obtain ⟨rfl, h_1⟩ := asEnd_spec h_0
 obtain ⟨rfl, h_2⟩ := asEnd_spec h_1
 obtain ⟨z2, d1, rfl, h_3⟩ := asImm_spec h_2
 exact fin_ret (l_f6big_eq z2 d1) (l_f6big_spec d1) h_3
end Go.Proofs.Ytkgekgfmnhccmaa

namespace Go.Proofs.Ytkgekgfmnhccmaa
open Go Go.Abs Go.Proofs
noncomputable def s_l00From (p0 : (List Int)) : Tre TL00Src :=
 .ret (p0, (0, (0, ())))
noncomputable def s_l00From_F (p0 : (List Int)) : Option TL00Src := (s_l00From p0).run some
theorem s_l00From_spec (p0 : (List Int)) : s_l00From_F p0 = some (p0, (0, (0, ()))) := rfl
noncomputable def s_l00From_V : Env := ⟨tau, [], []⟩
noncomputable def s_l00From_b : Code := (Try.f38.body).getD .skip
noncomputable def s_l00From_I : FnI := ⟨s_l00From_b, Try.f38.results.toList, Try.f38.resultTypes.toList, []⟩
noncomputable def s_l00From_out (zp0 : Bool) (_p0 : (List Int)) : TL00Src → CallOut := fun r => ⟨(.ptr (1, 0) []), [], [⟨true, kL00Src, (.imm zp0), r⟩]⟩
set_option maxRecDepth 100000 in
theorem s_l00From_eq : ∀ (zp0 : Bool) (p0 : (List Int)), denFn s_l00From_V s_l00From_I ⟨[(.imm zp0 (.sl (.int .u8)) p0)], []⟩ = (s_l00From p0).run fun r => some (s_l00From_out zp0 p0 r) := fun _ _ => by kernel_rfl
noncomputable def s_l00From_G (av : List AV) (rs : List Root) : Tre CallOut :=
 asCons av fun a0_ av0 =>
 asEnd av0 <|
 asEnd rs <|
 asImm (.sl (.int .u8)) a0_ fun z2 d1 =>
 .ret (s_l00From_out z2 d1 (d1, (0, (0, ()))))
noncomputable def s_l00From_c : Ctr := ⟨[], fun ci => s_l00From_G ci.args ci.roots, false⟩
theorem s_l00From_env : EnvOK Try.prog .none s_l00From_V := envOK_nil
set_option maxRecDepth 100000 in
theorem s_l00From_ok : Contract Try.prog .none 38 s_l00From_c := by
 have hl : LoopsOK s_l00From_V [] s_l00From_b := loopsOK_nil (by kernel_rfl)
 refine (contract_of (F := s_l00From_I) tau_tys s_l00From_env Try.func38 (by kernel_rfl) (by kernel_rfl) (by kernel_rfl) hl []).weaken ?_
 rintro ⟨av, rs⟩ co h
 have h : (s_l00From_G av rs).run some = some co := h
 obtain ⟨a0_, av0, rfl, h_0⟩ := asCons_spec h
 obtain ⟨rfl, h_1⟩ := asEnd_spec h_0
 obtain ⟨rfl, h_2⟩ := asEnd_spec h_1
 obtain ⟨z2, d1, rfl, h_3⟩ := asImm_spec h_2
 exact fin_ret (s_l00From_eq z2 d1) (s_l00From_spec d1) h_3
end Go.Proofs.Ytkgekgfmnhccmaa

namespace Go.Proofs.Ytkgekgfmnhccmaa
open Go Go.Abs Go.Proofs
noncomputable def s_l00Src_next_6913 (p0 : TL00Src) : Tre (Int × TL00Src) :=
 .cond (decide (p0.2.1 < (p0.1.length : Int)))
  (.ite (0 ≤ p0.2.1 ∧ p0.2.1 < (p0.1.length : Int)) <|
  .mat (p0.1[p0.2.1.toNat]?) fun x1 =>
  let v2 := iwrap .u64 (p0.2.2.1 * 6364136223846793005)
  let v3 := iwrap .u64 (iwrap .i64 x1)
  let v4 := iwrap .u64 ((iwrap .u64 (v2 + v3)) + 1442695040888963407)
  .cond (decide (iwrap .i64 (p0.2.1 + 1) ≤ (p0.1.length : Int)))
   (.ret (iwrap .i64 x1, (p0.1, (iwrap .i64 (p0.2.1 + 1), (v4, p0.2.2.2)))))
   (let v5 := iand .u64 (ishr .u64 v4 40) 255
   .ret (iwrap .i64 v5, (p0.1, (iwrap .i64 (p0.2.1 + 1), (v4, p0.2.2.2))))))
  (let v6 := iwrap .u64 (p0.2.2.1 * 6364136223846793005)
  let v7 := iwrap .u64 ((iwrap .u64 (v6 + 0)) + 1442695040888963407)
  .cond (decide (iwrap .i64 (p0.2.1 + 1) ≤ (p0.1.length : Int)))
   (.ret (0, (p0.1, (iwrap .i64 (p0.2.1 + 1), (v7, p0.2.2.2)))))
   (let v8 := iand .u64 (ishr .u64 v7 40) 255
   .ret (iwrap .i64 v8, (p0.1, (iwrap .i64 (p0.2.1 + 1), (v7, p0.2.2.2))))))
noncomputable def s_l00Src_next_6913_F (p0 : TL00Src) : Option (Int × TL00Src) := (s_l00Src_next_6913 p0).run some
noncomputable def s_l00Src_next_6913_V : Env := ⟨tau, [], []⟩
noncomputable def s_l00Src_next_6913_b : Code := (Try.f87.body).getD .skip
noncomputable def s_l00Src_next_6913_I : FnI := ⟨s_l00Src_next_6913_b, Try.f87.results.toList, Try.f87.resultTypes.toList, []⟩
noncomputable def s_l00Src_next_6913_out (zp0 : Bool) (_p0 : TL00Src) : (Int × TL00Src) → CallOut := fun r => ⟨(.imm true (.int .i64) r.1), [⟨true, kL00Src, (.imm zp0), r.2⟩], []⟩
set_option maxRecDepth 100000 in
theorem s_l00Src_next_6913_eq : ∀ (zp0 : Bool) (p0 : TL00Src), denFn s_l00Src_next_6913_V s_l00Src_next_6913_I ⟨[(.ptr (0, 0) [])], [⟨true, kL00Src, (.imm zp0), p0⟩]⟩ = (s_l00Src_next_6913 p0).run fun r => some (s_l00Src_next_6913_out zp0 p0 r) := fun _ _ => by kernel_rfl
noncomputable def s_l00Src_next_6913_G (av : List AV) (rs : List Root) : Tre CallOut :=
 asCons av fun a0_ av0 =>
 asEnd av0 <|
 asCons rs fun r0_ rs0 =>
 asEnd rs0 <|
 asPtr (0, 0) [] a0_ <|
 asRt true kL00Src r0_ fun m1 d2 =>
 asMImm m1 fun z3 =>
 .mat (s_l00Src_next_6913_F d2) fun r => .ret (s_l00Src_next_6913_out z3 d2 r)
noncomputable def s_l00Src_next_6913_c : Ctr := ⟨[], fun ci => s_l00Src_next_6913_G ci.args ci.roots, false⟩
theorem s_l00Src_next_6913_env : EnvOK Try.prog .none s_l00Src_next_6913_V := envOK_nil
set_option maxRecDepth 100000 in
theorem s_l00Src_next_6913_ok : Contract Try.prog .none 87 s_l00Src_next_6913_c := by
 have hl : LoopsOK s_l00Src_next_6913_V [] s_l00Src_next_6913_b := loopsOK_nil (by kernel_rfl)
 refine (contract_of (F := s_l00Src_next_6913_I) tau_tys s_l00Src_next_6913_env Try.func87 (by kernel_rfl) (by kernel_rfl) (by kernel_rfl) hl []).weaken ?_
 rintro ⟨av, rs⟩ co h
 have h : (s_l00Src_next_6913_G av rs).run some = some co := h
 obtain ⟨a0_, av0, rfl, h_0⟩ := asCons_spec h
 obtain ⟨rfl, h_1⟩ := asEnd_spec h_0
 obtain ⟨r0_, rs0, rfl, h_2⟩ := asCons_spec h_1
 obtain ⟨rfl, h_3⟩ := asEnd_spec h_2
 obtain ⟨rfl, h_4⟩ := asPtr_spec h_3
 obtain ⟨m1, d2, rfl, h_5⟩ := asRt_spec h_4
 obtain ⟨z3, rfl, h_6⟩ := asMImm_spec h_5
 exact fin_mat (s_l00Src_next_6913_eq z3 d2) h_6
end Go.Proofs.Ytkgekgfmnhccmaa

namespace Go.Proofs.Ytkgekgfmnhccmaa
open Go Go.Abs Go.Proofs
noncomputable def s_l00Src_pick_9f69 (p0 : Int) (p1 : TL00Src) : Tre (Int × TL00Src) :=
 .cond (decide (p0 ≤ 1))
  (.ret (0, p1))
  (.mat (s_l00Src_next_6913_F p1) fun r1 =>
  .cond (decide (p0 > 200))
   (.mat (s_l00Src_next_6913_F r1.2) fun r2 =>
   let v3 := iwrap .i64 ((iwrap .i64 (r1.1 * 256)) + r2.1)
   .ifn (p0 = 0) <|
   .ret (Int.tmod v3 p0, r2.2))
   (.ifn (p0 = 0) <|
   .ret (Int.tmod r1.1 p0, r1.2)))
noncomputable def s_l00Src_pick_9f69_F (p0 : Int) (p1 : TL00Src) : Option (Int × TL00Src) := (s_l00Src_pick_9f69 p0 p1).run some
noncomputable def s_l00Src_pick_9f69_V : Env := ⟨tau, [(87, s_l00Src_next_6913_c)], []⟩
noncomputable def s_l00Src_pick_9f69_b : Code := (Try.f39.body).getD .skip
noncomputable def s_l00Src_pick_9f69_I : FnI := ⟨s_l00Src_pick_9f69_b, Try.f39.results.toList, Try.f39.resultTypes.toList, []⟩
noncomputable def s_l00Src_pick_9f69_out (zp0 : Bool) (_p0 : Int) (_p1 : TL00Src) : (Int × TL00Src) → CallOut := fun r => ⟨(.imm true (.int .i64) r.1), [⟨true, kL00Src, (.imm zp0), r.2⟩], []⟩
set_option maxRecDepth 100000 in
theorem s_l00Src_pick_9f69_eq : ∀ (zp0 : Bool) (p0 : Int) (p1 : TL00Src), denFn s_l00Src_pick_9f69_V s_l00Src_pick_9f69_I ⟨[(.ptr (0, 0) []), (.imm true (.int .i64) p0)], [⟨true, kL00Src, (.imm zp0), p1⟩]⟩ = (s_l00Src_pick_9f69 p0 p1).run fun r => some (s_l00Src_pick_9f69_out zp0 p0 p1 r) := fun _ _ _ => by kernel_rfl
noncomputable def s_l00Src_pick_9f69_G (av : List AV) (rs : List Root) : Tre CallOut :=
 asCons av fun a0_ av0 =>
 asCons av0 fun a1_ av1 =>
 asEnd av1 <|
 asCons rs fun r0_ rs0 =>
 asEnd rs0 <|
 asPtr (0, 0) [] a0_ <|
 asImmZ true (.int .i64) a1_ fun d1 =>
 asRt true kL00Src r0_ fun m2 d3 =>
 asMImm m2 fun z4 =>
 .mat (s_l00Src_pick_9f69_F d1 d3) fun r => .ret (s_l00Src_pick_9f69_out z4 d1 d3 r)
noncomputable def s_l00Src_pick_9f69_c : Ctr := ⟨[], fun ci => s_l00Src_pick_9f69_G ci.args ci.roots, false⟩
theorem s_l00Src_pick_9f69_env : EnvOK Try.prog .none s_l00Src_pick_9f69_V := (envOK_cons s_l00Src_next_6913_ok ent87 envOK_nil)
set_option maxRecDepth 100000 in
theorem s_l00Src_pick_9f69_ok : Contract Try.prog .none 39 s_l00Src_pick_9f69_c := by
 have hl : LoopsOK s_l00Src_pick_9f69_V [] s_l00Src_pick_9f69_b := loopsOK_nil (by kernel_rfl)
 refine (contract_of (F := s_l00Src_pick_9f69_I) tau_tys s_l00Src_pick_9f69_env Try.func39 (by kernel_rfl) (by kernel_rfl) (by kernel_rfl) hl []).weaken ?_
 rintro ⟨av, rs⟩ co h
 have h : (s_l00Src_pick_9f69_G av rs).run some = some co := h
 obtain ⟨a0_, av0, rfl, h_0⟩ := asCons_spec h
 obtain ⟨a1_, av1, rfl, h_1⟩ := asCons_spec h_0
 obtain ⟨rfl, h_2⟩ := asEnd_spec h_1
 obtain ⟨r0_, rs0, rfl, h_3⟩ := asCons_spec h_2
 obtain ⟨rfl, h_4⟩ := asEnd_spec h_3
 obtain ⟨rfl, h_5⟩ := asPtr_spec h_4
 obtain ⟨d1, rfl, h_6⟩ := asImmZ_spec h_5
 obtain ⟨m2, d3, rfl, h_7⟩ := asRt_spec h_6
 obtain ⟨z4, rfl, h_8⟩ := asMImm_spec h_7
 exact fin_mat (s_l00Src_pick_9f69_eq z4 d1 d3) h_8
end Go.Proofs.Ytkgekgfmnhccmaa

namespace Go.Proofs.Ytkgekgfmnhccmaa
open Go Go.Abs Go.Proofs
noncomputable def s_l01Degree_l2 : (Int × Int) → Tre ((Int × Int) ⊕ Int) := fun s2 =>
 .cond (decide (s2.1 > 0))
  (let v1 := iwrap .i64 (Int.tdiv s2.1 2)
  .ret (.inl (v1, iwrap .i64 (s2.2 + 1))))
  (.ret (.inr s2.2))
noncomputable def s_l01Degree (p0 : Int) : Tre Int :=
 .mat (loopF s_l01Degree_l2 (p0, -1)) fun l2 =>
 .ret l2
noncomputable def s_l01Degree_F (p0 : Int) : Option Int := (s_l01Degree p0).run some
noncomputable def s_l01Degree_V : Env := ⟨tau, [], []⟩
noncomputable def s_l01Degree_b : Code := (Try.f138.body).getD .skip
noncomputable def s_l01Degree_l2_mk : (Int × Int) → St := fun x => stOf [(0, (.imm true (.int .i64) x.1)), (3, (.imm true (.int .i64) x.2))] []
noncomputable def s_l01Degree_l2_out : Int → Ex × St := fun x => (.exit 0, stOf [(3, (.imm true (.int .i64) x))] [])
noncomputable def s_l01Degree_l2_D (s : St) : Tre (Ex × St) :=
 asImmZ true (.int .i64) (s.tmps 0) fun d2 =>
 asImmZ true (.int .i64) (s.tmps 3) fun d4 =>
 .mat (loopF s_l01Degree_l2 (d2, d4)) fun x => .ret (s_l01Degree_l2_out x)
noncomputable def s_l01Degree_l2_L : LoopI := ⟨([0, 3], []), ([3], []), s_l01Degree_l2_D⟩
noncomputable def s_l01Degree_A : List (Nat × LoopI) := [(2, s_l01Degree_l2_L)]
set_option maxRecDepth 100000 in
theorem s_l01Degree_l2_step : ∀ (x : (Int × Int)) (c : St → Option (Ex × St)), den s_l01Degree_V s_l01Degree_A (loopAt s_l01Degree_b 0) (s_l01Degree_l2_mk x) (roundK s_l01Degree_l2_L.kp s_l01Degree_l2_L.kx c) = (s_l01Degree_l2 x).run (roundR (s_l01Degree_l2_mk) (s_l01Degree_l2_out) c) := fun _ _ => by
 kernel_rfl
theorem s_l01Degree_l2_ok : LoopOK s_l01Degree_V s_l01Degree_A (loopAt s_l01Degree_b 0) s_l01Degree_l2_L := loopOK_of fun s e s' h => by
 generalize hs : restrict s_l01Degree_l2_L.kp s = s1 at h
 have h : (s_l01Degree_l2_D s1).run some = some (e, s') := h
 obtain ⟨d2, e1, h_0⟩ := asImmZ_spec h
 obtain ⟨d4, e3, h_1⟩ := asImmZ_spec h_0
 obtain ⟨y, hy, hz⟩ := mat_ret h_1
 refine ⟨_, _, s_l01Degree_l2_mk, s_l01Degree_l2_out, s_l01Degree_l2, (d2, d4), y, ?_, hy, ?_, s_l01Degree_l2_step⟩
 ·subst hs; exact restrict_eq (T := [(0, (.imm true (.int .i64) d2)), (3, (.imm true (.int .i64) d4))]) (U := []) rfl rfl ⟨e1, e3, trivial⟩ trivial
 ·exact Option.some.inj hz
noncomputable def s_l01Degree_I : FnI := ⟨s_l01Degree_b, Try.f138.results.toList, Try.f138.resultTypes.toList, s_l01Degree_A⟩
noncomputable def s_l01Degree_out (_p0 : Int) : Int → CallOut := fun r => ⟨(.imm true (.int .i64) r), [], []⟩
set_option maxRecDepth 100000 in
theorem s_l01Degree_eq : ∀ (p0 : Int), denFn s_l01Degree_V s_l01Degree_I ⟨[(.imm true (.int .i64) p0)], []⟩ = (s_l01Degree p0).run fun r => some (s_l01Degree_out p0 r) := fun _ => by kernel_rfl
noncomputable def s_l01Degree_G (av : List AV) (rs : List Root) : Tre CallOut :=
 asCons av fun a0_ av0 =>
 asEnd av0 <|
 asEnd rs <|
 asImmZ true (.int .i64) a0_ fun d1 =>
 .mat (s_l01Degree_F d1) fun r => .ret (s_l01Degree_out d1 r)
noncomputable def s_l01Degree_c : Ctr := ⟨[], fun ci => s_l01Degree_G ci.args ci.roots, false⟩
theorem s_l01Degree_env : EnvOK Try.prog .none s_l01Degree_V := envOK_nil
set_option maxRecDepth 100000 in
theorem s_l01Degree_ok : Contract Try.prog .none 138 s_l01Degree_c := by
 have hl : LoopsOK s_l01Degree_V s_l01Degree_A s_l01Degree_b := (loopsOK_all (n := 1) (by kernel_rfl) fun k hk => by
   match k, hk with
   | 0, _ => exact loopOK_at (id := 2) (L := s_l01Degree_l2_L) (by kernel_rfl) (by kernel_rfl) s_l01Degree_l2_ok)
 refine (contract_of (F := s_l01Degree_I) tau_tys s_l01Degree_env Try.func138 (by kernel_rfl) (by kernel_rfl) (by kernel_rfl) hl []).weaken ?_
 rintro ⟨av, rs⟩ co h
 have h : (s_l01Degree_G av rs).run some = some co := h
 obtain ⟨a0_, av0, rfl, h_0⟩ := asCons_spec h
 obtain ⟨rfl, h_1⟩ := asEnd_spec h_0
 obtain ⟨rfl, h_2⟩ := asEnd_spec h_1
 obtain ⟨d1, rfl, h_3⟩ := asImmZ_spec h_2
 exact fin_mat (s_l01Degree_eq d1) h_3
end Go.Proofs.Ytkgekgfmnhccmaa

namespace Go.Proofs.Ytkgekgfmnhccmaa
open Go Go.Abs Go.Proofs
noncomputable def s_l01Rest_l2 (h2_0_1 : Int) (h2_0_2 : Int) : Int → Tre (Int ⊕ Int) := fun s2 =>
 .mat (s_l01Degree_F s2) fun r2 =>
 .cond (decide (r2 ≥ h2_0_2))
  (.mat (s_l01Degree_F s2) fun r3 =>
  let v4 := iwrap .u64 (iwrap .i64 (r3 - h2_0_2))
  .ite (0 ≤ v4) <|
  let v5 := ixor .i64 s2 (ishl .i64 h2_0_1 v4)
  .ret (.inl v5))
  (.ret (.inr s2))
noncomputable def s_l01Rest (p0 : Int) (p1 : Int) : Tre Int :=
 .mat (s_l01Degree_F p1) fun r1 =>
 .mat (loopF (s_l01Rest_l2 p1 r1) p0) fun l6 =>
 .ret l6
noncomputable def s_l01Rest_F (p0 : Int) (p1 : Int) : Option Int := (s_l01Rest p0 p1).run some
noncomputable def s_l01Rest_V : Env := ⟨tau, [(138, s_l01Degree_c)], []⟩
noncomputable def s_l01Rest_b : Code := (Try.f139.body).getD .skip
noncomputable def s_l01Rest_l2_mk (h2_0_1 : Int) (h2_0_2 : Int) : Int → St := fun x => stOf [(0, (.imm true (.int .i64) x)), (1, (.imm true (.int .i64) h2_0_1)), (5, (.imm true (.int .i64) h2_0_2))] []
noncomputable def s_l01Rest_l2_out (_h2_0_1 : Int) (_h2_0_2 : Int) : Int → Ex × St := fun x => (.exit 0, stOf [(0, (.imm true (.int .i64) x))] [])
noncomputable def s_l01Rest_l2_D (s : St) : Tre (Ex × St) :=
 asImmZ true (.int .i64) (s.tmps 0) fun d2 =>
 asImmZ true (.int .i64) (s.tmps 1) fun d4 =>
 asImmZ true (.int .i64) (s.tmps 5) fun d6 =>
 .mat (loopF (s_l01Rest_l2 d4 d6) d2) fun x => .ret (s_l01Rest_l2_out d4 d6 x)
noncomputable def s_l01Rest_l2_L : LoopI := ⟨([0, 1, 5], []), ([0], []), s_l01Rest_l2_D⟩
noncomputable def s_l01Rest_A : List (Nat × LoopI) := [(2, s_l01Rest_l2_L)]
set_option maxRecDepth 100000 in
theorem s_l01Rest_l2_step : ∀ (h2_0_1 : Int) (h2_0_2 : Int) (x : Int) (c : St → Option (Ex × St)), den s_l01Rest_V s_l01Rest_A (loopAt s_l01Rest_b 0) (s_l01Rest_l2_mk h2_0_1 h2_0_2 x) (roundK s_l01Rest_l2_L.kp s_l01Rest_l2_L.kx c) = (s_l01Rest_l2 h2_0_1 h2_0_2 x).run (roundR (s_l01Rest_l2_mk h2_0_1 h2_0_2) (s_l01Rest_l2_out h2_0_1 h2_0_2) c) := fun _ _ _ _ => by
 kernel_rfl
theorem s_l01Rest_l2_ok : LoopOK s_l01Rest_V s_l01Rest_A (loopAt s_l01Rest_b 0) s_l01Rest_l2_L := loopOK_of fun s e s' h => by
 generalize hs : restrict s_l01Rest_l2_L.kp s = s1 at h
 have h : (s_l01Rest_l2_D s1).run some = some (e, s') := h
 obtain ⟨d2, e1, h_0⟩ := asImmZ_spec h
 obtain ⟨d4, e3, h_1⟩ := asImmZ_spec h_0
 obtain ⟨d6, e5, h_2⟩ := asImmZ_spec h_1
 obtain ⟨y, hy, hz⟩ := mat_ret h_2
 refine ⟨_, _, s_l01Rest_l2_mk d4 d6, s_l01Rest_l2_out d4 d6, s_l01Rest_l2 d4 d6, d2, y, ?_, hy, ?_, s_l01Rest_l2_step d4 d6⟩
 ·subst hs; exact restrict_eq (T := [(0, (.imm true (.int .i64) d2)), (1, (.imm true (.int .i64) d4)), (5, (.imm true (.int .i64) d6))]) (U := []) rfl rfl ⟨e1, e3, e5, trivial⟩ trivial
 ·exact Option.some.inj hz
noncomputable def s_l01Rest_I : FnI := ⟨s_l01Rest_b, Try.f139.results.toList, Try.f139.resultTypes.toList, s_l01Rest_A⟩
noncomputable def s_l01Rest_out (_p0 : Int) (_p1 : Int) : Int → CallOut := fun r => ⟨(.imm true (.int .i64) r), [], []⟩
set_option maxRecDepth 100000 in
theorem s_l01Rest_eq : ∀ (p0 : Int) (p1 : Int), denFn s_l01Rest_V s_l01Rest_I ⟨[(.imm true (.int .i64) p0), (.imm true (.int .i64) p1)], []⟩ = (s_l01Rest p0 p1).run fun r => some (s_l01Rest_out p0 p1 r) := fun _ _ => by kernel_rfl
noncomputable def s_l01Rest_G (av : List AV) (rs : List Root) : Tre CallOut :=
 asCons av fun a0_ av0 =>
 asCons av0 fun a1_ av1 =>
 asEnd av1 <|
 asEnd rs <|
 asImmZ true (.int .i64) a0_ fun d1 =>
 asImmZ true (.int .i64) a1_ fun d2 =>
 .mat (s_l01Rest_F d1 d2) fun r => .ret (s_l01Rest_out d1 d2 r)
noncomputable def s_l01Rest_c : Ctr := ⟨[], fun ci => s_l01Rest_G ci.args ci.roots, false⟩
theorem s_l01Rest_env : EnvOK Try.prog .none s_l01Rest_V := (envOK_cons s_l01Degree_ok ent138 envOK_nil)
set_option maxRecDepth 100000 in
theorem s_l01Rest_ok : Contract Try.prog .none 139 s_l01Rest_c := by
 have hl : LoopsOK s_l01Rest_V s_l01Rest_A s_l01Rest_b := (loopsOK_all (n := 1) (by kernel_rfl) fun k hk => by
   match k, hk with
   | 0, _ => exact loopOK_at (id := 2) (L := s_l01Rest_l2_L) (by kernel_rfl) (by kernel_rfl) s_l01Rest_l2_ok)
 refine (contract_of (F := s_l01Rest_I) tau_tys s_l01Rest_env Try.func139 (by kernel_rfl) (by kernel_rfl) (by kernel_rfl) hl []).weaken ?_
 rintro ⟨av, rs⟩ co h
 have h : (s_l01Rest_G av rs).run some = some co := h
 obtain ⟨a0_, av0, rfl, h_0⟩ := asCons_spec h
 obtain ⟨a1_, av1, rfl, h_1⟩ := asCons_spec h_0
 obtain ⟨rfl, h_2⟩ := asEnd_spec h_1
 obtain ⟨rfl, h_3⟩ := asEnd_spec h_2
 obtain ⟨d1, rfl, h_4⟩ := asImmZ_spec h_3
 obtain ⟨d2, rfl, h_5⟩ := asImmZ_spec h_4
 exact fin_mat (s_l01Rest_eq d1 d2) h_5
end Go.Proofs.Ytkgekgfmnhccmaa

namespace Go.Proofs.Ytkgekgfmnhccmaa
open Go Go.Abs Go.Proofs
noncomputable def s_l01Irreducible_l5 (h5_0_0 : Int) (h5_0_1 : Int) : Int → Tre (Int ⊕ (Bool ⊕ Unit)) := fun s5 =>
 .mat (s_l01Degree_F s5) fun r2 =>
 .cond (decide (r2 < h5_0_1))
  (.mat (s_l01Rest_F h5_0_0 s5) fun r3 =>
  .cond (decide (r3 = 0))
   (.ret (.inr (.inl false)))
   (.ret (.inl (iwrap .i64 (s5 + 1)))))
  (.ret (.inr (.inr ())))
noncomputable def s_l01Irreducible (p0 : Int) : Tre Bool :=
 .mat (s_l01Degree_F p0) fun r1 =>
 .cond (decide (r1 < 1))
  (.ret false)
  (.cond (decide (r1 > 5))
   (.ret false)
   (.mat (loopF (s_l01Irreducible_l5 p0 r1) 2) fun l4 =>
   .alt l4
    (fun a5 =>
     .ret a5)
    (fun _ =>
     .ret true)))
noncomputable def s_l01Irreducible_F (p0 : Int) : Option Bool := (s_l01Irreducible p0).run some
noncomputable def s_l01Irreducible_V : Env := ⟨tau, [(138, s_l01Degree_c), (139, s_l01Rest_c)], []⟩
noncomputable def s_l01Irreducible_b : Code := (Try.f160.body).getD .skip
noncomputable def s_l01Irreducible_l5_mk (h5_0_0 : Int) (h5_0_1 : Int) : Int → St := fun x => stOf [(0, (.imm true (.int .i64) h5_0_0)), (3, (.imm true (.int .i64) h5_0_1)), (4, (.imm true (.int .i64) x))] []
noncomputable def s_l01Irreducible_l5_out (_h5_0_0 : Int) (_h5_0_1 : Int) : (Bool ⊕ Unit) → Ex × St
 | .inl x => (.ret, stOf [(2, (.imm true .bool x))] [])
 | .inr _ => (.exit 0, stOf [(2, .dead)] [])
noncomputable def s_l01Irreducible_l5_D (s : St) : Tre (Ex × St) :=
 asImmZ true (.int .i64) (s.tmps 0) fun d2 =>
 asImmZ true (.int .i64) (s.tmps 3) fun d4 =>
 asImmZ true (.int .i64) (s.tmps 4) fun d6 =>
 .mat (loopF (s_l01Irreducible_l5 d2 d4) d6) fun x => .alt x (fun a0 => .ret (s_l01Irreducible_l5_out d2 d4 (.inl a0))) (fun b0 => .ret (s_l01Irreducible_l5_out d2 d4 (.inr b0)))
noncomputable def s_l01Irreducible_l5_L : LoopI := ⟨([0, 3, 4], []), ([2], []), s_l01Irreducible_l5_D⟩
noncomputable def s_l01Irreducible_A : List (Nat × LoopI) := [(5, s_l01Irreducible_l5_L)]
set_option maxRecDepth 100000 in
theorem s_l01Irreducible_l5_step : ∀ (h5_0_0 : Int) (h5_0_1 : Int) (x : Int) (c : St → Option (Ex × St)), den s_l01Irreducible_V s_l01Irreducible_A (loopAt s_l01Irreducible_b 0) (s_l01Irreducible_l5_mk h5_0_0 h5_0_1 x) (roundK s_l01Irreducible_l5_L.kp s_l01Irreducible_l5_L.kx c) = (s_l01Irreducible_l5 h5_0_0 h5_0_1 x).run (roundR (s_l01Irreducible_l5_mk h5_0_0 h5_0_1) (s_l01Irreducible_l5_out h5_0_0 h5_0_1) c) := fun _ _ _ _ => by
 kernel_rfl
theorem s_l01Irreducible_l5_ok : LoopOK s_l01Irreducible_V s_l01Irreducible_A (loopAt s_l01Irreducible_b 0) s_l01Irreducible_l5_L := loopOK_of fun s e s' h => by
 generalize hs : restrict s_l01Irreducible_l5_L.kp s = s1 at h
 have h : (s_l01Irreducible_l5_D s1).run some = some (e, s') := h
 obtain ⟨d2, e1, h_0⟩ := asImmZ_spec h
 obtain ⟨d4, e3, h_1⟩ := asImmZ_spec h_0
 obtain ⟨d6, e5, h_2⟩ := asImmZ_spec h_1
 obtain ⟨y, hy, hz⟩ := mat_some h_2
 refine ⟨_, _, s_l01Irreducible_l5_mk d2 d4, s_l01Irreducible_l5_out d2 d4, s_l01Irreducible_l5 d2 d4, d6, y, ?_, hy, ?_, s_l01Irreducible_l5_step d2 d4⟩
 ·subst hs; exact restrict_eq (T := [(0, (.imm true (.int .i64) d2)), (3, (.imm true (.int .i64) d4)), (4, (.imm true (.int .i64) d6))]) (U := []) rfl rfl ⟨e1, e3, e5, trivial⟩ trivial
 ·rcases y with x | x <;> exact Option.some.inj hz
noncomputable def s_l01Irreducible_I : FnI := ⟨s_l01Irreducible_b, Try.f160.results.toList, Try.f160.resultTypes.toList, s_l01Irreducible_A⟩
noncomputable def s_l01Irreducible_out (_p0 : Int) : Bool → CallOut := fun r => ⟨(.imm true .bool r), [], []⟩
set_option maxRecDepth 100000 in
theorem s_l01Irreducible_eq : ∀ (p0 : Int), denFn s_l01Irreducible_V s_l01Irreducible_I ⟨[(.imm true (.int .i64) p0)], []⟩ = (s_l01Irreducible p0).run fun r => some (s_l01Irreducible_out p0 r) := fun _ => by kernel_rfl
noncomputable def s_l01Irreducible_G (av : List AV) (rs : List Root) : Tre CallOut :=
 asCons av fun a0_ av0 =>
 asEnd av0 <|
 asEnd rs <|
 asImmZ true (.int .i64) a0_ fun d1 =>
 .mat (s_l01Irreducible_F d1) fun r => .ret (s_l01Irreducible_out d1 r)
noncomputable def s_l01Irreducible_c : Ctr := ⟨[], fun ci => s_l01Irreducible_G ci.args ci.roots, false⟩
theorem s_l01Irreducible_env : EnvOK Try.prog .none s_l01Irreducible_V := (envOK_cons s_l01Degree_ok ent138 (envOK_cons s_l01Rest_ok ent139 envOK_nil))
set_option maxRecDepth 100000 in
theorem s_l01Irreducible_ok : Contract Try.prog .none 160 s_l01Irreducible_c := by
 have hl : LoopsOK s_l01Irreducible_V s_l01Irreducible_A s_l01Irreducible_b := (loopsOK_all (n := 1) (by kernel_rfl) fun k hk => by
   match k, hk with
   | 0, _ => exact loopOK_at (id := 5) (L := s_l01Irreducible_l5_L) (by kernel_rfl) (by kernel_rfl) s_l01Irreducible_l5_ok)
 refine (contract_of (F := s_l01Irreducible_I) tau_tys s_l01Irreducible_env Try.func160 (by kernel_rfl) (by kernel_rfl) (by kernel_rfl) hl []).weaken ?_
 rintro ⟨av, rs⟩ co h
 have h : (s_l01Irreducible_G av rs).run some = some co := h
 obtain ⟨a0_, av0, rfl, h_0⟩ := asCons_spec h
 obtain ⟨rfl, h_1⟩ := asEnd_spec h_0
 obtain ⟨rfl, h_2⟩ := asEnd_spec h_1
 obtain ⟨d1, rfl, h_3⟩ := asImmZ_spec h_2
 exact fin_mat (s_l01Irreducible_eq d1) h_3
end Go.Proofs.Ytkgekgfmnhccmaa

namespace Go.Proofs.Ytkgekgfmnhccmaa
open Go Go.Abs Go.Proofs
-- shared
def allI {α : Type} (p : Nat → α → Bool) : Nat → List α → Bool
 | _, [] => true
 | i, x :: l => p i x && allI p (i + 1) l
theorem allI_iff {α : Type} {p : Nat → α → Bool} : ∀ (l : List α) (i : Nat), allI p i l = true ↔ ∀ j x, l[j]? = some x → p (i + j) x = true := by
 intro l
 induction l with
 | nil => intro i; simp [allI]
 | cons x l ih =>
  intro i
  simp only [allI, Bool.and_eq_true, ih (i + 1)]
  constructor
  ·rintro ⟨h1, h2⟩ j y hj
   cases j with
   | zero => simp only [List.getElem?_cons_zero, Option.some.injEq] at hj; subst hj; exact h1
   | succ j => simp only [List.getElem?_cons_succ] at hj; have := h2 j y hj; rw [show i + 1 + j = i + (j + 1) by omega] at this; exact this
  ·intro h
   refine ⟨h 0 x rfl, fun j y hj => ?_⟩
   have := h (j + 1) y (by simpa using hj)
   rw [show i + 1 + j = i + (j + 1) by omega]; exact this
theorem allI_const {α : Type} {p : α → Bool} : ∀ (l : List α) (i : Nat), allI (fun _ x => p x) i l = l.all p := by
 intro l
 induction l with
 | nil => intro i; rfl
 | cons x l ih => intro i; simp only [allI, List.all_cons, ih]
theorem foldE_allI {α β : Type} {p : Nat → α → Bool} {b0 b1 : β} : ∀ (l : List α) (i : Nat), foldE (γ := Unit) (fun i _ x => cond (p i x) (.inl ()) (.inr b0)) (fun _ => b1) i () l = cond (allI p i l) b1 b0 := by
 intro l
 induction l with
 | nil => intro i; rfl
 | cons x l ih =>
  intro i
  simp only [foldE, allI]
  cases p i x with
  | true => simp only [cond_true, Bool.true_and]; exact ih _
  | false => rfl
theorem all_loop {α β : Type} {step : Int → Tre (Int ⊕ β)} {xs : List α} (p : Nat → α → Bool) (b0 b1 : β)
  (hs : ∀ i x, xs[i]? = some x → (∀ j y, j < i → xs[j]? = some y → p j y = true) → (step (i : Int)).run some = some (cond (p i x) (.inl ((i + 1 : Nat) : Int)) (.inr b0)))
  (he : (step (xs.length : Int)).run some = some (.inr b1)) : loopF step 0 = some (cond (allI p 0 xs) b1 b0) := by
 have := fold_loop (xs := xs) (step := step) (γ := Unit) (fun i _ => (i : Int)) (fun i _ x => cond (p i x) (.inl ()) (.inr b0)) (fun _ => b1) (fun i _ => ∀ j y, j < i → xs[j]? = some y → p j y = true)
  (by
   intro i acc x hx hI
   refine ⟨?_, ?_⟩
   ·rw [hs i x hx hI]
    cases p i x <;> rfl
   ·intro a ha j y hj hy
    cases hp : p i x with
    | false => rw [hp] at ha; cases ha
    | true =>
     by_cases hji : j = i
     ·subst hji; rw [hx] at hy; cases hy; exact hp
     ·exact hI j y (by omega) hy)
  (fun _ _ => he) xs 0 () rfl (Nat.zero_le _) (by intro j y h; omega)
 rw [← foldE_allI xs 0]
 exact this
theorem all_loop' {α β : Type} {step : Int → Tre (Int ⊕ β)} {xs : List α} (p : α → Bool) (b0 b1 : β)
  (hs : ∀ (i : Nat) x, xs[i]? = some x → (step (i : Int)).run some = some (cond (p x) (.inl ((i + 1 : Nat) : Int)) (.inr b0)))
  (he : (step (xs.length : Int)).run some = some (.inr b1)) : loopF step 0 = some (cond (xs.all p) b1 b0) := by
 rw [← allI_const xs 0]
 exact all_loop (fun _ x => p x) b0 b1 (fun i x hx _ => hs i x hx) he
theorem idxI_all {α : Type} {p : α → Bool} (l : List α) : (!decide (idxI (fun x => !p x) 0 l ≥ 0)) = l.all p := by
 rw [idxI_any]
 induction l with
 | nil => rfl
 | cons x l ih => simp only [List.any_cons, List.all_cons, ← ih, Bool.not_or, Bool.not_not]
def pickI {α β : Type} (f : Nat → α → Option β) : Nat → List α → List β
 | _, [] => []
 | i, x :: l => match f i x with
  | some y => y :: pickI f (i + 1) l
  | none => pickI f (i + 1) l
theorem pickI_len {α β : Type} {f : Nat → α → Option β} : ∀ (l : List α) (i : Nat), (pickI f i l).length ≤ l.length := by
 intro l
 induction l with
 | nil => intro i; exact Nat.le_refl _
 | cons x l ih =>
  intro i
  simp only [pickI]
  cases f i x with
  | none => exact Nat.le_succ_of_le (ih _)
  | some y => exact Nat.succ_le_succ (ih _)
theorem mem_pickI {α β : Type} {f : Nat → α → Option β} {y : β} : ∀ (l : List α) (i : Nat), y ∈ pickI f i l ↔ ∃ j x, l[j]? = some x ∧ f (i + j) x = some y := by
 intro l
 induction l with
 | nil => intro i; simp [pickI]
 | cons x l ih =>
  intro i
  have key : (∃ j z, (x :: l)[j]? = some z ∧ f (i + j) z = some y) ↔ f i x = some y ∨ ∃ j z, l[j]? = some z ∧ f (i + 1 + j) z = some y := by
   constructor
   ·rintro ⟨j, z, h1, h2⟩
    cases j with
    | zero => simp only [List.getElem?_cons_zero, Option.some.injEq] at h1; subst h1; exact .inl h2
    | succ j => exact .inr ⟨j, z, by simpa using h1, by rw [show i + 1 + j = i + (j + 1) by omega]; exact h2⟩
   ·rintro (h | ⟨j, z, h1, h2⟩)
    ·exact ⟨0, x, rfl, h⟩
    ·exact ⟨j + 1, z, by simpa using h1, by rw [show i + (j + 1) = i + 1 + j by omega]; exact h2⟩
  rw [key, ← ih]
  simp only [pickI]
  cases hf : f i x with
  | none => simp
  | some z => simp only [List.mem_cons, Option.some.injEq]; constructor <;> (rintro (h | h) <;> first | exact .inl h.symm | exact .inr h)
theorem pick_loop {α β : Type} {step : Int × List β → Tre ((Int × List β) ⊕ List β)} {xs : List α} (f : Nat → α → Option β)
  (hs : ∀ (i : Nat) acc x, xs[i]? = some x → acc.length ≤ i → (step ((i : Int), acc)).run some = some (.inl (((i + 1 : Nat) : Int), acc ++ (f i x).toList)))
  (he : ∀ acc, (step ((xs.length : Int), acc)).run some = some (.inr acc)) : loopF step (0, []) = some (pickI f 0 xs) := by
 have h := fold_loop (xs := xs) (step := step) (γ := List β) (fun i acc => ((i : Int), acc)) (fun i acc x => .inl (acc ++ (f i x).toList)) id (fun i acc => acc.length ≤ i)
  (by
   intro i acc x hx hI
   refine ⟨hs i acc x hx hI, ?_⟩
   intro a ha
   cases ha
   rw [List.length_append]
   cases f i x <;> simp <;> omega)
  (fun acc _ => he acc) xs 0 [] rfl (Nat.zero_le _) (Nat.le_refl _)
 have key : ∀ (l : List α) (i : Nat) (acc : List β), foldE (β := List β) (fun i acc x => .inl (acc ++ (f i x).toList)) id i acc l = acc ++ pickI f i l := by
  intro l
  induction l with
  | nil => intro i acc; simp [foldE, pickI]
  | cons x l ih =>
   intro i acc
   simp only [foldE, pickI]
   rw [ih]
   cases f i x <;> simp
 rw [key] at h
 exact h
theorem iwrap_pred {i : Nat} (h0 : 0 < i) (h : i < 4611686018427387904) : iwrap .i64 ((i : Int) - 1) = ((i - 1 : Nat) : Int) := by
 rw [iwrap_i64 (by omega) (by omega)]; omega
theorem len2 {e : List Int} (h : e.length = 2) : ∃ a b, e = [a, b] := by
 match e, h with
 | [a, b], _ => exact ⟨a, b, rfl⟩
end Go.Proofs.Ytkgekgfmnhccmaa

namespace Go.Proofs.Ytkgekgfmnhccmaa
open Go Go.Abs Go.Proofs
-- shared
abbrev TF3 := Int × Int × Unit
def fieldT : List (Int × Int) := [(1, 2), (1, 3), (2, 7), (3, 11), (3, 13), (4, 19), (4, 25), (4, 31), (5, 37), (5, 41), (5, 47), (5, 55), (5, 59), (5, 61)]
def fieldOk (f : TF3) : Bool := fieldT.contains (f.1, f.2.1)
theorem fieldOk_mem {f : TF3} (h : fieldOk f = true) : (f.1, f.2.1) ∈ fieldT := by simpa [fieldOk] using h
theorem fieldOk_deg {f : TF3} (h : fieldOk f = true) : 1 ≤ f.1 ∧ f.1 ≤ 5 := by
 have h := fieldOk_mem h
 have : ∀ x ∈ fieldT, 1 ≤ x.1 ∧ x.1 ≤ 5 := by decide
 exact this _ h
theorem fieldOk_poly {f : TF3} (h : fieldOk f = true) : 2 ≤ f.2.1 ∧ f.2.1 ≤ 61 := by
 have h := fieldOk_mem h
 have : ∀ x ∈ fieldT, 2 ≤ x.2 ∧ x.2 ≤ 61 := by decide
 exact this _ h
theorem field_of {F : TF3 → Option Bool} (hd : ∀ f : TF3, inR f.1 1 5 = false → F f = some false)
  (hb : ∀ f : TF3, (f.2.1 < 0 ∨ 64 ≤ f.2.1) → F f = some false)
  (hk : ((List.range' 1 5).all fun d => (List.range 64).all fun p => F ((d : Int), (p : Int), ()) == some (fieldOk ((d : Int), (p : Int), ()))) = true) (f : TF3) : F f = some (fieldOk f) := by
 have hno : ∀ g : TF3, (¬ (1 ≤ g.1 ∧ g.1 ≤ 5) ∨ ¬ (0 ≤ g.2.1 ∧ g.2.1 < 64)) → fieldOk g = false := by
  intro g hg
  cases h : fieldOk g with
  | false => rfl
  | true =>
   have h1 := fieldOk_deg h
   have h2 := fieldOk_poly h
   omega
 obtain ⟨d, p, ⟨⟩⟩ := f
 by_cases h1 : 1 ≤ d ∧ d ≤ 5
 ·by_cases h2 : 0 ≤ p ∧ p < 64
  ·obtain ⟨n, rfl⟩ := Int.eq_ofNat_of_zero_le (show 0 ≤ d by omega)
   obtain ⟨m, rfl⟩ := Int.eq_ofNat_of_zero_le h2.1
   have h3 := List.all_eq_true.1 (List.all_eq_true.1 hk n (List.mem_range'_1.2 (by omega))) m (List.mem_range.2 (by omega))
   exact eq_of_beq h3
  ·rw [hb _ (by show p < 0 ∨ 64 ≤ p; omega), hno _ (.inr h2)]
 ·rw [hd _ (inR_false.2 (by show d < 1 ∨ 5 < d; omega)), hno _ (.inl h1)]
end Go.Proofs.Ytkgekgfmnhccmaa

namespace Go.Proofs.Ytkgekgfmnhccmaa
open Go Go.Abs Go.Proofs
-- shared
def clmN : Nat → Nat → Nat → Nat
 | 0, _, _ => 0
 | n + 1, a, b => Nat.xor (bif Nat.beq (b % 2) 1 then a else 0) (clmN n (2 * a) (b / 2))
def restN : Nat → Nat → Nat → Nat
 | 0, c, _ => c
 | n + 1, c, p => bif Nat.ble (Nat.log2 p) (Nat.log2 c) then restN n (Nat.xor c (Nat.shiftLeft p (Nat.log2 c - Nat.log2 p))) p else c
def mulN (p a b : Nat) : Nat := restN 6 (clmN 6 a b) p
def mulI (f : TF3) (a b : Int) : Int := ((mulN f.2.1.toNat a.toNat b.toNat : Nat) : Int)
def inF (f : TF3) (a : Int) : Prop := 0 ≤ a ∧ a < ((2 ^ f.1.toNat : Nat) : Int)
def fieldN : List (Nat × Nat) := [(1, 2), (1, 3), (2, 7), (3, 11), (3, 13), (4, 19), (4, 25), (4, 31), (5, 37), (5, 41), (5, 47), (5, 55), (5, 59), (5, 61)]
def chk2 (F : TF3 → Int → Int → Option Int) (G : Nat → Nat → Nat → Nat) (d p : Nat) : Bool := (List.range (2 ^ d)).all fun a => (List.range (2 ^ d)).all fun b => F ((d : Int), (p : Int), ()) (a : Int) (b : Int) == some ((G p a b : Nat) : Int)
theorem fieldN_of {f : TF3} (h : fieldOk f = true) : ∃ d p : Nat, (d, p) ∈ fieldN ∧ f = ((d : Int), (p : Int), ()) := by
 have h1 := fieldOk_mem h
 obtain ⟨a, b, ⟨⟩⟩ := f
 have key : ∀ x ∈ fieldT, ∃ q ∈ fieldN, x = ((q.1 : Int), (q.2 : Int)) := by decide
 obtain ⟨q, h2, h3⟩ := key _ h1
 simp only [Prod.mk.injEq] at h3
 exact ⟨q.1, q.2, h2, by rw [h3.1, h3.2]⟩
theorem two_of {F : TF3 → Int → Int → Option Int} {G : Nat → Nat → Nat → Nat} (h : ∀ q ∈ fieldN, chk2 F G q.1 q.2 = true) {f : TF3} (hf : fieldOk f = true) {a b : Int} (ha : inF f a) (hb : inF f b) : F f a b = some ((G f.2.1.toNat a.toNat b.toNat : Nat) : Int) := by
 obtain ⟨d, p, hq, rfl⟩ := fieldN_of hf
 obtain ⟨ha0, ha1⟩ := ha
 obtain ⟨hb0, hb1⟩ := hb
 simp only [Int.toNat_natCast] at ha1 hb1
 obtain ⟨m, rfl⟩ := Int.eq_ofNat_of_zero_le ha0
 obtain ⟨n, rfl⟩ := Int.eq_ofNat_of_zero_le hb0
 have h1 := List.all_eq_true.1 (List.all_eq_true.1 (h _ hq) m (List.mem_range.2 (by exact_mod_cast ha1))) n (List.mem_range.2 (by exact_mod_cast hb1))
 exact eq_of_beq h1
end Go.Proofs.Ytkgekgfmnhccmaa

namespace Go.Proofs.Ytkgekgfmnhccmaa
open Go Go.Abs Go.Proofs
noncomputable def s_l01Fields_l3 (h3_0_0 : Int) : (Int × (List (Int × (Int × Unit)))) → Tre ((Int × (List (Int × (Int × Unit)))) ⊕ (List (Int × (Int × Unit)))) := fun s3 =>
 .ite (0 ≤ iwrap .u64 h3_0_0) <|
 let v2 := ishl .i64 2 (iwrap .u64 h3_0_0)
 .cond (decide (s3.1 < v2))
  (.mat (s_l01Irreducible_F s3.1) fun r3 =>
  .cond r3
   (.ite ((s3.2.length + 1) * 16 ≤ appendMax ∧ 1 ≤ 16) <|
   let v4 := s3.2 ++ ([(h3_0_0, (s3.1, ()))])
   .ret (.inl (iwrap .i64 (s3.1 + 1), v4)))
   (.ret (.inl (iwrap .i64 (s3.1 + 1), s3.2))))
  (.ret (.inr s3.2))
noncomputable def s_l01Fields (p0 : Int) : Tre (List (Int × (Int × Unit))) :=
 .ite (0 ≤ iwrap .u64 p0) <|
 let v1 := ishl .i64 1 (iwrap .u64 p0)
 .mat (loopF (s_l01Fields_l3 p0) (v1, [])) fun l5 =>
 .ret l5
noncomputable def s_l01Fields_F (p0 : Int) : Option (List (Int × (Int × Unit))) := (s_l01Fields p0).run some
-- more
def fieldsV (d : Nat) : List TF3 := (fieldN.filter fun q => q.1 == d).map fun q => ((q.1 : Int), (q.2 : Int), ())
set_option maxRecDepth 100000 in
theorem fields_all : ((List.range' 1 5).all fun d => s_l01Fields_F (d : Int) == some (fieldsV d)) = true := by kernel_rfl
theorem fields_is {d : Nat} (h1 : 1 ≤ d) (h2 : d ≤ 5) : s_l01Fields_F (d : Int) = some (fieldsV d) := by
 have := List.all_eq_true.1 fields_all d (List.mem_range'_1.2 (by omega))
 exact eq_of_beq this
theorem fieldsV_ok {d : Nat} (h1 : 1 ≤ d) (h2 : d ≤ 5) : 1 ≤ (fieldsV d).length ∧ (fieldsV d).length ≤ 6 ∧ ∀ f ∈ fieldsV d, fieldOk f = true ∧ f.1 = (d : Int) := by
 have : ∀ d ∈ List.range' 1 5, 1 ≤ (fieldsV d).length ∧ (fieldsV d).length ≤ 6 ∧ ∀ f ∈ fieldsV d, fieldOk f = true ∧ f.1 = (d : Int) := by decide
 exact this d (List.mem_range'_1.2 (by omega))
noncomputable def s_l01Fields_V : Env := ⟨tau, [(160, s_l01Irreducible_c)], []⟩
noncomputable def s_l01Fields_b : Code := (Try.f133.body).getD .skip
noncomputable def s_l01Fields_l3_mk (h3_0_0 : Int) : (Int × (List (Int × (Int × Unit)))) → St := fun x => stOf [(0, (.imm true (.int .i64) h3_0_0)), (3, (.ref (5, 0) [])), (4, (.imm true (.int .i64) x.1))] [((5, 0), some ⟨false, (.sl kField), .own, x.2⟩)]
noncomputable def s_l01Fields_l3_out (_h3_0_0 : Int) : (List (Int × (Int × Unit))) → Ex × St := fun x => (.exit 0, stOf [(3, (.ref (5, 0) []))] [((5, 0), some ⟨false, (.sl kField), .own, x⟩)])
noncomputable def s_l01Fields_l3_D (s : St) : Tre (Ex × St) :=
 asImmZ true (.int .i64) (s.tmps 0) fun d2 =>
 asRef (5, 0) [] (s.tmps 3) <|
 asImmZ true (.int .i64) (s.tmps 4) fun d5 =>
 asRoot false (.sl kField) (s.roots (5, 0)) fun m7 d8 =>
 asM .own m7 <|
 .mat (loopF (s_l01Fields_l3 d2) (d5, d8)) fun x => .ret (s_l01Fields_l3_out d2 x)
noncomputable def s_l01Fields_l3_L : LoopI := ⟨([0, 3, 4], [(5, 0)]), ([3], [(5, 0)]), s_l01Fields_l3_D⟩
noncomputable def s_l01Fields_A : List (Nat × LoopI) := [(3, s_l01Fields_l3_L)]
set_option maxRecDepth 100000 in
theorem s_l01Fields_l3_step : ∀ (h3_0_0 : Int) (x : (Int × (List (Int × (Int × Unit))))) (c : St → Option (Ex × St)), den s_l01Fields_V s_l01Fields_A (loopAt s_l01Fields_b 0) (s_l01Fields_l3_mk h3_0_0 x) (roundK s_l01Fields_l3_L.kp s_l01Fields_l3_L.kx c) = (s_l01Fields_l3 h3_0_0 x).run (roundR (s_l01Fields_l3_mk h3_0_0) (s_l01Fields_l3_out h3_0_0) c) := fun _ _ _ => by
 kernel_rfl
theorem s_l01Fields_l3_ok : LoopOK s_l01Fields_V s_l01Fields_A (loopAt s_l01Fields_b 0) s_l01Fields_l3_L := loopOK_of fun s e s' h => by
 generalize hs : restrict s_l01Fields_l3_L.kp s = s1 at h
 have h : (s_l01Fields_l3_D s1).run some = some (e, s') := h
 obtain ⟨d2, e1, h_0⟩ := asImmZ_spec h
 obtain ⟨e3, h_1⟩ := asRef_spec h_0
 obtain ⟨d5, e4, h_2⟩ := asImmZ_spec h_1
 obtain ⟨m7, d8, e6, h_3⟩ := asRoot_spec h_2
 obtain ⟨rfl, h_4⟩ := asM_spec h_3
 obtain ⟨y, hy, hz⟩ := mat_ret h_4
 refine ⟨_, _, s_l01Fields_l3_mk d2, s_l01Fields_l3_out d2, s_l01Fields_l3 d2, (d5, d8), y, ?_, hy, ?_, s_l01Fields_l3_step d2⟩
 ·subst hs; exact restrict_eq (T := [(0, (.imm true (.int .i64) d2)), (3, (.ref (5, 0) [])), (4, (.imm true (.int .i64) d5))]) (U := [((5, 0), some ⟨false, (.sl kField), .own, d8⟩)]) rfl rfl ⟨e1, e3, e4, trivial⟩ ⟨e6, trivial⟩
 ·exact Option.some.inj hz
noncomputable def s_l01Fields_I : FnI := ⟨s_l01Fields_b, Try.f133.results.toList, Try.f133.resultTypes.toList, s_l01Fields_A⟩
noncomputable def s_l01Fields_out (_p0 : Int) : (List (Int × (Int × Unit))) → CallOut := fun r => ⟨(.ref (1, 0) []), [], [⟨false, (.sl kField), .own, r⟩]⟩
set_option maxRecDepth 100000 in
theorem s_l01Fields_eq : ∀ (p0 : Int), denFn s_l01Fields_V s_l01Fields_I ⟨[(.imm true (.int .i64) p0)], []⟩ = (s_l01Fields p0).run fun r => some (s_l01Fields_out p0 r) := fun _ => by kernel_rfl
noncomputable def s_l01Fields_G (av : List AV) (rs : List Root) : Tre CallOut :=
 asCons av fun a0_ av0 =>
 asEnd av0 <|
 asEnd rs <|
 asImmZ true (.int .i64) a0_ fun d1 =>
 .mat (s_l01Fields_F d1) fun r => .ret (s_l01Fields_out d1 r)
noncomputable def s_l01Fields_c : Ctr := ⟨[], fun ci => s_l01Fields_G ci.args ci.roots, false⟩
theorem s_l01Fields_env : EnvOK Try.prog .none s_l01Fields_V := (envOK_cons s_l01Irreducible_ok ent160 envOK_nil)
set_option maxRecDepth 100000 in
theorem s_l01Fields_ok : Contract Try.prog .none 133 s_l01Fields_c := by
 have hl : LoopsOK s_l01Fields_V s_l01Fields_A s_l01Fields_b := (loopsOK_all (n := 1) (by kernel_rfl) fun k hk => by
   match k, hk with
   | 0, _ => exact loopOK_at (id := 3) (L := s_l01Fields_l3_L) (by kernel_rfl) (by kernel_rfl) s_l01Fields_l3_ok)
 refine (contract_of (F := s_l01Fields_I) tau_tys s_l01Fields_env Try.func133 (by kernel_rfl) (by kernel_rfl) (by kernel_rfl) hl []).weaken ?_
 rintro ⟨av, rs⟩ co h
 have h : (s_l01Fields_G av rs).run some = some co := h
 obtain ⟨a0_, av0, rfl, h_0⟩ := asCons_spec h
 obtain ⟨rfl, h_1⟩ := asEnd_spec h_0
 obtain ⟨rfl, h_2⟩ := asEnd_spec h_1
 obtain ⟨d1, rfl, h_3⟩ := asImmZ_spec h_2
 exact fin_mat (s_l01Fields_eq d1) h_3
end Go.Proofs.Ytkgekgfmnhccmaa

namespace Go.Proofs.Ytkgekgfmnhccmaa
open Go Go.Abs Go.Proofs
noncomputable def s_l00Src_one_9f69 (p0 : Int) (p1 : TL00Src) : Tre (Bool × TL00Src) :=
 .mat (s_l00Src_pick_9f69_F p0 p1) fun r1 =>
 .ret (decide (r1.1 = 0), r1.2)
noncomputable def s_l00Src_one_9f69_F (p0 : Int) (p1 : TL00Src) : Option (Bool × TL00Src) := (s_l00Src_one_9f69 p0 p1).run some
noncomputable def s_l00Src_one_9f69_V : Env := ⟨tau, [(39, s_l00Src_pick_9f69_c)], []⟩
noncomputable def s_l00Src_one_9f69_b : Code := (Try.f85.body).getD .skip
noncomputable def s_l00Src_one_9f69_I : FnI := ⟨s_l00Src_one_9f69_b, Try.f85.results.toList, Try.f85.resultTypes.toList, []⟩
noncomputable def s_l00Src_one_9f69_out (zp0 : Bool) (_p0 : Int) (_p1 : TL00Src) : (Bool × TL00Src) → CallOut := fun r => ⟨(.imm true .bool r.1), [⟨true, kL00Src, (.imm zp0), r.2⟩], []⟩
set_option maxRecDepth 100000 in
theorem s_l00Src_one_9f69_eq : ∀ (zp0 : Bool) (p0 : Int) (p1 : TL00Src), denFn s_l00Src_one_9f69_V s_l00Src_one_9f69_I ⟨[(.ptr (0, 0) []), (.imm true (.int .i64) p0)], [⟨true, kL00Src, (.imm zp0), p1⟩]⟩ = (s_l00Src_one_9f69 p0 p1).run fun r => some (s_l00Src_one_9f69_out zp0 p0 p1 r) := fun _ _ _ => by kernel_rfl
noncomputable def s_l00Src_one_9f69_G (av : List AV) (rs : List Root) : Tre CallOut :=
 asCons av fun a0_ av0 =>
 asCons av0 fun a1_ av1 =>
 asEnd av1 <|
 asCons rs fun r0_ rs0 =>
 asEnd rs0 <|
 asPtr (0, 0) [] a0_ <|
 asImmZ true (.int .i64) a1_ fun d1 =>
 asRt true kL00Src r0_ fun m2 d3 =>
 asMImm m2 fun z4 =>
 .mat (s_l00Src_one_9f69_F d1 d3) fun r => .ret (s_l00Src_one_9f69_out z4 d1 d3 r)
noncomputable def s_l00Src_one_9f69_c : Ctr := ⟨[], fun ci => s_l00Src_one_9f69_G ci.args ci.roots, false⟩
theorem s_l00Src_one_9f69_env : EnvOK Try.prog .none s_l00Src_one_9f69_V := (envOK_cons s_l00Src_pick_9f69_ok ent39 envOK_nil)
set_option maxRecDepth 100000 in
theorem s_l00Src_one_9f69_ok : Contract Try.prog .none 85 s_l00Src_one_9f69_c := by
 have hl : LoopsOK s_l00Src_one_9f69_V [] s_l00Src_one_9f69_b := loopsOK_nil (by kernel_rfl)
 refine (contract_of (F := s_l00Src_one_9f69_I) tau_tys s_l00Src_one_9f69_env Try.func85 (by kernel_rfl) (by kernel_rfl) (by kernel_rfl) hl []).weaken ?_
 rintro ⟨av, rs⟩ co h
 have h : (s_l00Src_one_9f69_G av rs).run some = some co := h
 obtain ⟨a0_, av0, rfl, h_0⟩ := asCons_spec h
 obtain ⟨a1_, av1, rfl, h_1⟩ := asCons_spec h_0
 obtain ⟨rfl, h_2⟩ := asEnd_spec h_1
 obtain ⟨r0_, rs0, rfl, h_3⟩ := asCons_spec h_2
 obtain ⟨rfl, h_4⟩ := asEnd_spec h_3
 obtain ⟨rfl, h_5⟩ := asPtr_spec h_4
 obtain ⟨d1, rfl, h_6⟩ := asImmZ_spec h_5
 obtain ⟨m2, d3, rfl, h_7⟩ := asRt_spec h_6
 obtain ⟨z4, rfl, h_8⟩ := asMImm_spec h_7
 exact fin_mat (s_l00Src_one_9f69_eq z4 d1 d3) h_8
end Go.Proofs.Ytkgekgfmnhccmaa

namespace Go.Proofs.Ytkgekgfmnhccmaa
open Go Go.Abs Go.Proofs
-- shared
def Fine {α : Type} (t : Tre α) (Q : α → Prop) : Prop := ∃ a, t.run some = some a ∧ Q a
theorem Fine.ret {α : Type} {a : α} {Q : α → Prop} (h : Q a) : Fine (.ret a) Q := ⟨a, rfl, h⟩
theorem Fine.cond {α : Type} {b : Bool} {t f : Tre α} {Q : α → Prop} (ht : b = true → Fine t Q) (hf : b = false → Fine f Q) : Fine (.cond b t f) Q := by
 cases b
 ·exact hf rfl
 ·exact ht rfl
theorem Fine.condp {α : Type} {p : Prop} [Decidable p] {t f : Tre α} {Q : α → Prop} (ht : p → Fine t Q) (hf : ¬ p → Fine f Q) : Fine (.cond (decide p) t f) Q :=
 Fine.cond (fun h => ht (of_decide_eq_true h)) (fun h => hf (of_decide_eq_false h))
theorem Fine.ite {α : Type} {p : Prop} [h : Decidable p] {t : Tre α} {Q : α → Prop} (hp : p) (ht : p → Fine t Q) : Fine (.ite p t) Q := by
 obtain ⟨a, h1, h2⟩ := ht hp
 exact ⟨a, by rw [Tre.run_ite, if_pos hp]; exact h1, h2⟩
theorem Fine.ifn {α : Type} {p : Prop} [h : Decidable p] {t : Tre α} {Q : α → Prop} (hp : ¬ p) (ht : Fine t Q) : Fine (.ifn p t) Q := by
 obtain ⟨a, h1, h2⟩ := ht
 exact ⟨a, by rw [Tre.run_ifn, if_neg hp]; exact h1, h2⟩
theorem Fine.mat {α β : Type} {o : Option β} {k : β → Tre α} {P : β → Prop} {Q : α → Prop} (h : ∃ x, o = some x ∧ P x) (hk : ∀ x, P x → Fine (k x) Q) : Fine (.mat o k) Q := by
 obtain ⟨x, rfl, hx⟩ := h
 exact hk x hx
theorem Fine.get {α β : Type} {o : Option β} {x : β} {k : β → Tre α} {Q : α → Prop} (h : o = some x) (hk : Fine (k x) Q) : Fine (.mat o k) Q := by
 subst h; exact hk
theorem Fine.at {α β : Type} {xs : List β} {i : Int} {k : β → Tre α} {Q : α → Prop} (hi : 0 ≤ i ∧ i < (xs.length : Int)) (hk : ∀ x, x ∈ xs → Fine (k x) Q) : Fine (.mat xs[i.toNat]? k) Q := by
 have hl : i.toNat < xs.length := by omega
 exact .get (List.getElem?_eq_getElem hl) (hk _ (List.getElem_mem hl))
theorem Fine.at0 {α β : Type} {xs : List β} {k : β → Tre α} {Q : α → Prop} (hi : 0 < xs.length) (hk : ∀ x, x ∈ xs → Fine (k x) Q) : Fine (.mat xs[0]? k) Q :=
 .get (List.getElem?_eq_getElem hi) (hk _ (List.getElem_mem hi))
theorem Fine.run {α : Type} {t : Tre α} {Q : α → Prop} (h : Fine t Q) : ∃ a, t.run some = some a ∧ Q a := h
abbrev Src := List Int × Int × Int × Unit
def srcOK (c : Nat) (s : Src) : Prop := s.1.length ≤ 5000 ∧ (∀ x ∈ s.1, 0 ≤ x ∧ x ≤ 255) ∧ 0 ≤ s.2.1 ∧ s.2.1 ≤ (c : Int)
theorem srcOK.mono {c c' : Nat} {s : Src} (h : srcOK c s) (hc : c ≤ c') : srcOK c' s := ⟨h.1, h.2.1, h.2.2.1, by have := h.2.2.2; omega⟩
theorem and255 (a : Int) : 0 ≤ iand .u64 a 255 ∧ iand .u64 a 255 ≤ 255 := by
 have h : (BitVec.ofInt 64 a &&& BitVec.ofInt 64 255).toNat ≤ 255 := by
  rw [BitVec.toNat_and]
  exact Nat.le_trans Nat.and_le_right (by decide)
 unfold iand
 show 0 ≤ iwrap .u64 (((BitVec.ofInt 64 a &&& BitVec.ofInt 64 255).toNat : Nat) : Int) ∧ iwrap .u64 (((BitVec.ofInt 64 a &&& BitVec.ofInt 64 255).toNat : Nat) : Int) ≤ 255
 rw [iwrap_u64 (by omega) (by omega)]
 omega
theorem next_ok {c : Nat} {s : Src} (h : srcOK c s) (hc : c ≤ 100000) : ∃ r, s_l00Src_next_6913_F s = some r ∧ ((0 ≤ r.1 ∧ r.1 ≤ 255) ∧ srcOK (c + 1) r.2) := by
 obtain ⟨h1, h2, h3, h4⟩ := h
 have hw : iwrap .i64 (s.2.1 + 1) = s.2.1 + 1 := iwrap_i64 (by omega) (by omega)
 have hsrc : ∀ v : Int, srcOK (c + 1) (s.1, iwrap .i64 (s.2.1 + 1), v, s.2.2.2) := fun v => ⟨h1, h2, by show 0 ≤ iwrap .i64 (s.2.1 + 1); omega, by show iwrap .i64 (s.2.1 + 1) ≤ ((c + 1 : Nat) : Int); omega⟩
 have hand : ∀ a : Int, 0 ≤ iwrap .i64 (iand .u64 a 255) ∧ iwrap .i64 (iand .u64 a 255) ≤ 255 := fun a => by
  have := and255 a
  rw [iwrap_i64 (by omega) (by omega)]; exact this
 unfold s_l00Src_next_6913_F s_l00Src_next_6913
 refine Fine.run (Fine.condp (fun hlt => Fine.ite ⟨h3, hlt⟩ fun hi => Fine.at hi fun x hx => ?_) (fun _ => ?_))
 ·have hb := h2 x hx
  have hx1 : iwrap .i64 x = x := iwrap_i64 (by omega) (by omega)
  exact Fine.condp (fun _ => .ret ⟨by rw [hx1]; exact hb, hsrc _⟩) (fun _ => .ret ⟨hand _, hsrc _⟩)
 ·exact Fine.condp (fun _ => .ret ⟨⟨Int.le_refl 0, by show (0 : Int) ≤ 255; omega⟩, hsrc _⟩) (fun _ => .ret ⟨hand _, hsrc _⟩)
theorem tmod_rng {x n : Int} (hx : 0 ≤ x) (hn : 0 < n) : 0 ≤ Int.tmod x n ∧ Int.tmod x n < n := ⟨Int.tmod_nonneg n hx, Int.tmod_lt_of_pos x hn⟩
theorem pick_ok {n : Int} {c : Nat} {s : Src} (h : srcOK c s) (hc : c ≤ 90000) : ∃ r, s_l00Src_pick_9f69_F n s = some r ∧ ((0 ≤ r.1 ∧ (r.1 = 0 ∨ r.1 < n)) ∧ srcOK (c + 2) r.2) := by
 unfold s_l00Src_pick_9f69_F s_l00Src_pick_9f69
 refine Fine.run (Fine.condp (fun _ => .ret ⟨⟨Int.le_refl _, .inl rfl⟩, h.mono (by omega)⟩) (fun hn => Fine.mat (next_ok h (by omega)) fun x hx => Fine.condp (fun _ => Fine.mat (next_ok hx.2 (by omega)) fun y hy => ?_) (fun _ => ?_)))
 ·refine Fine.ifn (by omega) (.ret ⟨?_, hy.2⟩)
  have h1 : iwrap .i64 (x.1 * 256) = x.1 * 256 := iwrap_i64 (by omega) (by omega)
  have h2 : iwrap .i64 (iwrap .i64 (x.1 * 256) + y.1) = x.1 * 256 + y.1 := by rw [h1]; exact iwrap_i64 (by omega) (by omega)
  show 0 ≤ Int.tmod (iwrap .i64 (iwrap .i64 (x.1 * 256) + y.1)) n ∧ (Int.tmod (iwrap .i64 (iwrap .i64 (x.1 * 256) + y.1)) n = 0 ∨ Int.tmod (iwrap .i64 (iwrap .i64 (x.1 * 256) + y.1)) n < n)
  rw [h2]
  have := tmod_rng (x := x.1 * 256 + y.1) (n := n) (by omega) (by omega)
  exact ⟨this.1, .inr this.2⟩
 ·refine Fine.ifn (by omega) (.ret ⟨?_, hx.2.mono (by omega)⟩)
  have := tmod_rng (x := x.1) (n := n) (by omega) (by omega)
  exact ⟨this.1, .inr this.2⟩
theorem one_ok {n : Int} {c : Nat} {s : Src} (h : srcOK c s) (hc : c ≤ 90000) : ∃ r, s_l00Src_one_9f69_F n s = some r ∧ srcOK (c + 2) r.2 := by
 unfold s_l00Src_one_9f69_F s_l00Src_one_9f69
 exact Fine.run (Fine.mat (pick_ok h hc) fun x hx => .ret hx.2)
end Go.Proofs.Ytkgekgfmnhccmaa

namespace Go.Proofs.Ytkgekgfmnhccmaa
open Go Go.Abs Go.Proofs
noncomputable def s_l04DrawField_9f69 (p0 : Int) (p1 : TL00Src) : Tre ((Int × (Int × Unit)) × TL00Src) :=
 .mat (s_l00Src_pick_9f69_F p0 p1) fun r1 =>
 .mat (s_l01Fields_F (iwrap .i64 (1 + r1.1))) fun r2 =>
 .mat (s_l00Src_pick_9f69_F (r2.length : Int) r1.2) fun r3 =>
 .ite (0 ≤ r3.1 ∧ r3.1 < (r2.length : Int)) <|
 .mat (r2[r3.1.toNat]?) fun x4 =>
 .ret (x4, r3.2)
noncomputable def s_l04DrawField_9f69_F (p0 : Int) (p1 : TL00Src) : Option ((Int × (Int × Unit)) × TL00Src) := (s_l04DrawField_9f69 p0 p1).run some
-- more
theorem drawField_ok {m : Nat} (h1 : 1 ≤ m) (h2 : m ≤ 5) {c : Nat} {s : Src} (h : srcOK c s) (hc : c ≤ 80000) : ∃ r, s_l04DrawField_9f69_F (m : Int) s = some r ∧ ((fieldOk r.1 = true ∧ 1 ≤ r.1.1 ∧ r.1.1 ≤ (m : Int)) ∧ srcOK (c + 4) r.2) := by
 unfold s_l04DrawField_9f69_F s_l04DrawField_9f69
 refine Fine.run (Fine.mat (pick_ok h (by omega)) fun a ha => ?_)
 obtain ⟨d, hd⟩ : ∃ d : Nat, a.1 = (d : Int) := ⟨a.1.toNat, by omega⟩
 have hw : iwrap .i64 (1 + a.1) = ((d + 1 : Nat) : Int) := by rw [iwrap_i64 (by omega) (by omega)]; omega
 have hf := fieldsV_ok (d := d + 1) (by omega) (by omega)
 rw [hw]
 refine Fine.get (fields_is (by omega) (by omega)) (Fine.mat (pick_ok ha.2 (by omega)) fun b hb => Fine.ite ⟨hb.1.1, by omega⟩ fun hi => Fine.at hi fun x hx => .ret ?_)
 have := hf.2.2 x hx
 exact ⟨⟨this.1, by show 1 ≤ x.1; omega, by show x.1 ≤ _; omega⟩, hb.2⟩
noncomputable def s_l04DrawField_9f69_V : Env := ⟨tau, [(39, s_l00Src_pick_9f69_c), (133, s_l01Fields_c)], []⟩
noncomputable def s_l04DrawField_9f69_b : Code := (Try.f84.body).getD .skip
noncomputable def s_l04DrawField_9f69_I : FnI := ⟨s_l04DrawField_9f69_b, Try.f84.results.toList, Try.f84.resultTypes.toList, []⟩
noncomputable def s_l04DrawField_9f69_out (zp0 : Bool) (_p0 : Int) (_p1 : TL00Src) : ((Int × (Int × Unit)) × TL00Src) → CallOut := fun r => ⟨(.imm true kField r.1), [⟨true, kL00Src, (.imm zp0), r.2⟩], []⟩
set_option maxRecDepth 100000 in
theorem s_l04DrawField_9f69_eq : ∀ (zp0 : Bool) (p0 : Int) (p1 : TL00Src), denFn s_l04DrawField_9f69_V s_l04DrawField_9f69_I ⟨[(.ptr (0, 0) []), (.imm true (.int .i64) p0)], [⟨true, kL00Src, (.imm zp0), p1⟩]⟩ = (s_l04DrawField_9f69 p0 p1).run fun r => some (s_l04DrawField_9f69_out zp0 p0 p1 r) := fun _ _ _ => by kernel_rfl
noncomputable def s_l04DrawField_9f69_G (av : List AV) (rs : List Root) : Tre CallOut :=
 asCons av fun a0_ av0 =>
 asCons av0 fun a1_ av1 =>
 asEnd av1 <|
 asCons rs fun r0_ rs0 =>
 asEnd rs0 <|
 asPtr (0, 0) [] a0_ <|
 asImmZ true (.int .i64) a1_ fun d1 =>
 asRt true kL00Src r0_ fun m2 d3 =>
 asMImm m2 fun z4 =>
 .mat (s_l04DrawField_9f69_F d1 d3) fun r => .ret (s_l04DrawField_9f69_out z4 d1 d3 r)
noncomputable def s_l04DrawField_9f69_c : Ctr := ⟨[], fun ci => s_l04DrawField_9f69_G ci.args ci.roots, false⟩
theorem s_l04DrawField_9f69_env : EnvOK Try.prog .none s_l04DrawField_9f69_V := (envOK_cons s_l00Src_pick_9f69_ok ent39 (envOK_cons s_l01Fields_ok ent133 envOK_nil))
set_option maxRecDepth 100000 in
theorem s_l04DrawField_9f69_ok : Contract Try.prog .none 84 s_l04DrawField_9f69_c := by
 have hl : LoopsOK s_l04DrawField_9f69_V [] s_l04DrawField_9f69_b := loopsOK_nil (by kernel_rfl)
 refine (contract_of (F := s_l04DrawField_9f69_I) tau_tys s_l04DrawField_9f69_env Try.func84 (by kernel_rfl) (by kernel_rfl) (by kernel_rfl) hl []).weaken ?_
 rintro ⟨av, rs⟩ co h
 have h : (s_l04DrawField_9f69_G av rs).run some = some co := h
 obtain ⟨a0_, av0, rfl, h_0⟩ := asCons_spec h
 obtain ⟨a1_, av1, rfl, h_1⟩ := asCons_spec h_0
 obtain ⟨rfl, h_2⟩ := asEnd_spec h_1
 obtain ⟨r0_, rs0, rfl, h_3⟩ := asCons_spec h_2
 obtain ⟨rfl, h_4⟩ := asEnd_spec h_3
 obtain ⟨rfl, h_5⟩ := asPtr_spec h_4
 obtain ⟨d1, rfl, h_6⟩ := asImmZ_spec h_5
 obtain ⟨m2, d3, rfl, h_7⟩ := asRt_spec h_6
 obtain ⟨z4, rfl, h_8⟩ := asMImm_spec h_7
 exact fin_mat (s_l04DrawField_9f69_eq z4 d1 d3) h_8
end Go.Proofs.Ytkgekgfmnhccmaa

namespace Go.Proofs.Ytkgekgfmnhccmaa
open Go Go.Abs Go.Proofs
-- shared
abbrev TN6 := TF3 × Int × Int × List (List Int) × List (List Int) × Unit
def e0 (e : List Int) : Int := e.getD 0 0
def e1 (e : List Int) : Int := e.getD 1 0
def edgeOk (N : Int) (es : List (List Int)) (i : Nat) (e : List Int) : Bool :=
 decide (e.length = 2) && ((inR (e0 e) 0 (N - 1) && (inR (e1 e) 0 (N - 1) && decide (e0 e < e1 e))) && (decide (i = 0) || decide (e0 (es.getD (i - 1) []) ≤ e0 e)))
theorem edgeOk_len {N : Int} {es : List (List Int)} {i : Nat} {e : List Int} (h : edgeOk N es i e = true) : e.length = 2 := by
 unfold edgeOk at h
 rw [Bool.and_eq_true] at h
 exact of_decide_eq_true h.1
def intoV (es : List (List Int)) (node : Int) : List Int := pickI (fun i e => if e1 e = node then some (i : Int) else none) 0 es
def hasV (n : TN6) (node : Int) : Int := if node = 0 then n.2.2.1 else ((intoV n.2.2.2.1 node).length : Int)
def topF (f : TF3) : Int := 2 ^ f.1.toNat - 1
theorem topF_is {f : TF3} (h : fieldOk f = true) : iwrap .i64 (ishl .i64 1 (iwrap .u64 f.1) - 1) = topF f := by
 obtain ⟨h1, h2⟩ := fieldOk_deg h
 obtain ⟨n, hn⟩ := Int.eq_ofNat_of_zero_le (show 0 ≤ f.1 by omega)
 unfold topF
 rw [hn]
 have : ∀ n : Nat, n < 6 → iwrap .i64 (ishl .i64 1 (iwrap .u64 (n : Int)) - 1) = 2 ^ (n : Int).toNat - 1 := by decide
 exact this n (by omega)
theorem topF_is' {f : TF3} (h : fieldOk f = true) : iwrap .i64 (ishl .i64 1 f.1 - 1) = topF f := by
 obtain ⟨h1, h2⟩ := fieldOk_deg h
 have := topF_is h
 rw [iwrap_u64 (by omega) (by omega)] at this
 exact this
theorem topF_le {f : TF3} (h : fieldOk f = true) : 1 ≤ topF f ∧ topF f ≤ 31 := by
 obtain ⟨h1, h2⟩ := fieldOk_deg h
 obtain ⟨n, hn⟩ := Int.eq_ofNat_of_zero_le (show 0 ≤ f.1 by omega)
 unfold topF
 rw [hn]
 have : ∀ n : Nat, n < 6 → 1 ≤ n → (1 : Int) ≤ 2 ^ (n : Int).toNat - 1 ∧ (2 : Int) ^ (n : Int).toNat - 1 ≤ 31 := by decide
 exact this n (by omega) (by omega)
def elsOk (f : TF3) (c : List Int) : Bool := c.all fun x => inR x 0 (topF f)
def coefOk (n : TN6) (i : Nat) (c : List Int) : Bool := decide ((c.length : Int) = hasV n (e0 (n.2.2.2.1.getD i []))) && elsOk n.1 c
def netOk (n : TN6) : Bool := fieldOk n.1 && (inR n.2.1 2 8 && (inR n.2.2.1 1 3 && (decide (n.2.2.2.1.length ≤ 14) && (decide (n.2.2.2.2.1.length = n.2.2.2.1.length) && (allI (edgeOk n.2.1 n.2.2.2.1) 0 n.2.2.2.1 && allI (coefOk n) 0 n.2.2.2.2.1)))))
structure NetP (n : TN6) : Prop where
 field : fieldOk n.1 = true
 nodes : 2 ≤ n.2.1 ∧ n.2.1 ≤ 8
 mess : 1 ≤ n.2.2.1 ∧ n.2.2.1 ≤ 3
 len : n.2.2.2.1.length ≤ 14
 clen : n.2.2.2.2.1.length = n.2.2.2.1.length
 edges : ∀ i e, n.2.2.2.1[i]? = some e → edgeOk n.2.1 n.2.2.2.1 i e = true
 coefs : ∀ i c, n.2.2.2.2.1[i]? = some c → coefOk n i c = true
theorem netOk_iff {n : TN6} : netOk n = true ↔ NetP n := by
 simp only [netOk, Bool.and_eq_true, inR_iff, allI_iff, decide_eq_true_eq, Nat.zero_add]
 constructor
 ·rintro ⟨a, b, c, d, e, f, g⟩; exact ⟨a, b, c, d, e, f, g⟩
 ·rintro ⟨a, b, c, d, e, f, g⟩; exact ⟨a, b, c, d, e, f, g⟩
theorem NetP.two {n : TN6} (h : NetP n) {i : Nat} {e : List Int} (he : n.2.2.2.1[i]? = some e) : ∃ a b, e = [a, b] ∧ 0 ≤ a ∧ a < b ∧ b ≤ n.2.1 - 1 := by
 have := h.edges i e he
 obtain ⟨a, b, rfl⟩ := len2 (edgeOk_len this)
 simp only [edgeOk, Bool.and_eq_true, inR_iff, decide_eq_true_eq, e0, e1, List.getD_cons_zero, List.getD_cons_succ] at this
 exact ⟨a, b, rfl, by omega, by omega, by omega⟩
theorem getD_of {α : Type} {l : List α} {i : Nat} {x d : α} (h : l[i]? = some x) : l.getD i d = x := by
 rw [List.getD_eq_getElem?_getD, h]; rfl
theorem hasV_le (n : TN6) (hM : n.2.2.1 ≤ 3) (hl : n.2.2.2.1.length ≤ 14) (a : Int) : hasV n a ≤ 14 := by
 have := pickI_len (f := fun i e => if e1 e = a then some (i : Int) else none) n.2.2.2.1 0
 unfold hasV intoV
 split <;> omega
end Go.Proofs.Ytkgekgfmnhccmaa

namespace Go.Proofs.Ytkgekgfmnhccmaa
open Go Go.Abs Go.Proofs
noncomputable def s_l07Into_e270_l3 (h3_0_0 : TNet) (h3_0_1 : Int) : (Int × (List Int)) → Tre ((Int × (List Int)) ⊕ (List Int)) := fun s3 =>
 .cond (decide (s3.1 < (h3_0_0.2.2.2.1.length : Int)))
  (.ite (0 ≤ s3.1 ∧ s3.1 < (h3_0_0.2.2.2.1.length : Int)) <|
  .mat (h3_0_0.2.2.2.1[s3.1.toNat]?) fun x1 =>
  .ite ((0 : Int) ≤ 1 ∧ (1 : Int) < (x1.length : Int)) <|
  .mat (x1[1]?) fun x2 =>
  .cond (decide (x2 = h3_0_1))
   (.ite ((s3.2.length + 1) * 8 ≤ appendMax ∧ 1 ≤ 8) <|
   .ret (.inl (iwrap .i64 (s3.1 + 1), s3.2 ++ ([s3.1]))))
   (.ret (.inl (iwrap .i64 (s3.1 + 1), s3.2))))
  (.ret (.inr s3.2))
noncomputable def s_l07Into_e270 (p0 : TNet) (p1 : Int) : Tre (List Int) :=
 .mat (loopF (s_l07Into_e270_l3 p0 p1) (0, [])) fun l3 =>
 .ret l3
noncomputable def s_l07Into_e270_F (p0 : TNet) (p1 : Int) : Option (List Int) := (s_l07Into_e270 p0 p1).run some
-- more
theorem s_l07Into_is (n : TN6) (hl : n.2.2.2.1.length ≤ 14) (h2 : ∀ e ∈ n.2.2.2.1, e.length = 2) (node : Int) : s_l07Into_e270_F n node = some (intoV n.2.2.2.1 node) := by
 unfold s_l07Into_e270_F s_l07Into_e270
 rw [run_some_mat (pick_loop (xs := n.2.2.2.1) (fun i e => if e1 e = node then some (i : Int) else none) ?_ ?_)]
 ·rfl
 ·intro i acc e he hacc
  have hi : i < n.2.2.2.1.length := (List.getElem?_eq_some_iff.1 he).1
  obtain ⟨a, b, rfl⟩ := len2 (h2 e (List.mem_of_getElem? he))
  unfold s_l07Into_e270_l3
  rw [run_inb he, Tre.run_ite, if_pos ⟨by decide, by simp⟩, Tre.run_mat]
  dsimp only
  simp only [List.getElem?_cons_succ, List.getElem?_cons_zero, Option.bind_some]
  rw [Tre.run_cond, show e1 [a, b] = b from rfl, iwrap_succ (by omega)]
  by_cases h : b = node
  ·rw [decide_eq_true h, cond_true, Tre.run_ite, if_pos ⟨by unfold appendMax; omega, by decide⟩, if_pos h]; rfl
  ·rw [decide_eq_false h, cond_false, if_neg h]; simp [Tre.run_ret]
 ·intro acc
  unfold s_l07Into_e270_l3
  exact run_out
noncomputable def s_l07Into_e270_V : Env := ⟨tau, [], []⟩
noncomputable def s_l07Into_e270_b : Code := (Try.f47.body).getD .skip
noncomputable def s_l07Into_e270_l3_mk (z3_0 : Bool) (h3_0_0 : TNet) (h3_0_1 : Int) : (Int × (List Int)) → St := fun x => stOf [(0, (.iptr z3_0 (.sl kNet) ([h3_0_0]) [.idx 0])), (1, (.imm true (.int .i64) h3_0_1)), (5, (.ref (7, 0) [])), (6, (.imm true (.int .i64) x.1))] [((7, 0), some ⟨false, (.sl (.int .i64)), .own, x.2⟩)]
noncomputable def s_l07Into_e270_l3_out (_z3_0 : Bool) (_h3_0_0 : TNet) (_h3_0_1 : Int) : (List Int) → Ex × St := fun x => (.exit 0, stOf [(5, (.ref (7, 0) []))] [((7, 0), some ⟨false, (.sl (.int .i64)), .own, x⟩)])
noncomputable def s_l07Into_e270_l3_D (s : St) : Tre (Ex × St) :=
 asIptr kNet (s.tmps 0) fun z2 d3 =>
 asImmZ true (.int .i64) (s.tmps 1) fun d5 =>
 asRef (7, 0) [] (s.tmps 5) <|
 asImmZ true (.int .i64) (s.tmps 6) fun d8 =>
 asRoot false (.sl (.int .i64)) (s.roots (7, 0)) fun m10 d11 =>
 asM .own m10 <|
 .mat (loopF (s_l07Into_e270_l3 d3 d5) (d8, d11)) fun x => .ret (s_l07Into_e270_l3_out z2 d3 d5 x)
noncomputable def s_l07Into_e270_l3_L : LoopI := ⟨([0, 1, 5, 6], [(7, 0)]), ([5], [(7, 0)]), s_l07Into_e270_l3_D⟩
noncomputable def s_l07Into_e270_A : List (Nat × LoopI) := [(3, s_l07Into_e270_l3_L)]
set_option maxRecDepth 100000 in
theorem s_l07Into_e270_l3_step : ∀ (z3_0 : Bool) (h3_0_0 : TNet) (h3_0_1 : Int) (x : (Int × (List Int))) (c : St → Option (Ex × St)), den s_l07Into_e270_V s_l07Into_e270_A (loopAt s_l07Into_e270_b 0) (s_l07Into_e270_l3_mk z3_0 h3_0_0 h3_0_1 x) (roundK s_l07Into_e270_l3_L.kp s_l07Into_e270_l3_L.kx c) = (s_l07Into_e270_l3 h3_0_0 h3_0_1 x).run (roundR (s_l07Into_e270_l3_mk z3_0 h3_0_0 h3_0_1) (s_l07Into_e270_l3_out z3_0 h3_0_0 h3_0_1) c) := fun _ _ _ _ _ => by
 kernel_rfl
theorem s_l07Into_e270_l3_ok : LoopOK s_l07Into_e270_V s_l07Into_e270_A (loopAt s_l07Into_e270_b 0) s_l07Into_e270_l3_L := loopOK_of fun s e s' h => by
 generalize hs : restrict s_l07Into_e270_l3_L.kp s = s1 at h
 have h : (s_l07Into_e270_l3_D s1).run some = some (e, s') := h
 obtain ⟨z2, d3, e1, h_0⟩ := asIptr_spec h
 obtain ⟨d5, e4, h_1⟩ := asImmZ_spec h_0
 obtain ⟨e6, h_2⟩ := asRef_spec h_1
 obtain ⟨d8, e7, h_3⟩ := asImmZ_spec h_2
 obtain ⟨m10, d11, e9, h_4⟩ := asRoot_spec h_3
 obtain ⟨rfl, h_5⟩ := asM_spec h_4
 obtain ⟨y, hy, hz⟩ := mat_ret h_5
 refine ⟨_, _, s_l07Into_e270_l3_mk z2 d3 d5, s_l07Into_e270_l3_out z2 d3 d5, s_l07Into_e270_l3 d3 d5, (d8, d11), y, ?_, hy, ?_, s_l07Into_e270_l3_step z2 d3 d5⟩
 ·subst hs; exact restrict_eq (T := [(0, (.iptr z2 (.sl kNet) ([d3]) [.idx 0])), (1, (.imm true (.int .i64) d5)), (5, (.ref (7, 0) [])), (6, (.imm true (.int .i64) d8))]) (U := [((7, 0), some ⟨false, (.sl (.int .i64)), .own, d11⟩)]) rfl rfl ⟨e1, e4, e6, e7, trivial⟩ ⟨e9, trivial⟩
 ·exact Option.some.inj hz
noncomputable def s_l07Into_e270_I : FnI := ⟨s_l07Into_e270_b, Try.f47.results.toList, Try.f47.resultTypes.toList, s_l07Into_e270_A⟩
noncomputable def s_l07Into_e270_out (_zp0 : Bool) (_p0 : TNet) (_p1 : Int) : (List Int) → CallOut := fun r => ⟨(.ref (1, 0) []), [], [⟨false, (.sl (.int .i64)), .own, r⟩]⟩
set_option maxRecDepth 100000 in
theorem s_l07Into_e270_eq : ∀ (zp0 : Bool) (p0 : TNet) (p1 : Int), denFn s_l07Into_e270_V s_l07Into_e270_I ⟨[(.iptr zp0 (.sl kNet) ([p0]) [.idx 0]), (.imm true (.int .i64) p1)], []⟩ = (s_l07Into_e270 p0 p1).run fun r => some (s_l07Into_e270_out zp0 p0 p1 r) := fun _ _ _ => by kernel_rfl
noncomputable def s_l07Into_e270_G (av : List AV) (rs : List Root) : Tre CallOut :=
 asCons av fun a0_ av0 =>
 asCons av0 fun a1_ av1 =>
 asEnd av1 <|
 asEnd rs <|
 asIptr kNet a0_ fun z1 d2 =>
 asImmZ true (.int .i64) a1_ fun d3 =>
 .mat (s_l07Into_e270_F d2 d3) fun r => .ret (s_l07Into_e270_out z1 d2 d3 r)
noncomputable def s_l07Into_e270_c : Ctr := ⟨[0], fun ci => s_l07Into_e270_G ci.args ci.roots, false⟩
theorem s_l07Into_e270_env : EnvOK Try.prog .none s_l07Into_e270_V := envOK_nil
set_option maxRecDepth 100000 in
theorem s_l07Into_e270_ok : Contract Try.prog .none 47 s_l07Into_e270_c := by
 have hl : LoopsOK s_l07Into_e270_V s_l07Into_e270_A s_l07Into_e270_b := (loopsOK_all (n := 1) (by kernel_rfl) fun k hk => by
   match k, hk with
   | 0, _ => exact loopOK_at (id := 3) (L := s_l07Into_e270_l3_L) (by kernel_rfl) (by kernel_rfl) s_l07Into_e270_l3_ok)
 refine (contract_of (F := s_l07Into_e270_I) tau_tys s_l07Into_e270_env Try.func47 (by kernel_rfl) (by kernel_rfl) (by kernel_rfl) hl [0]).weaken ?_
 rintro ⟨av, rs⟩ co h
 have h : (s_l07Into_e270_G av rs).run some = some co := h
 obtain ⟨a0_, av0, rfl, h_0⟩ := asCons_spec h
 obtain ⟨a1_, av1, rfl, h_1⟩ := asCons_spec h_0
 obtain ⟨rfl, h_2⟩ := asEnd_spec h_1
 obtain ⟨rfl, h_3⟩ := asEnd_spec h_2
 obtain ⟨z1, d2, rfl, h_4⟩ := asIptr_spec h_3
 obtain ⟨d3, rfl, h_5⟩ := asImmZ_spec h_4
 exact fin_mat (s_l07Into_e270_eq z1 d2 d3) h_5
end Go.Proofs.Ytkgekgfmnhccmaa

namespace Go.Proofs.Ytkgekgfmnhccmaa
open Go Go.Abs Go.Proofs
noncomputable def s_l07Has_e270 (p0 : TNet) (p1 : Int) : Tre Int :=
 .cond (decide (p1 = 0))
  (.ret p0.2.2.1)
  (.mat (s_l07Into_e270_F p0 p1) fun r1 =>
  .ret (r1.length : Int))
noncomputable def s_l07Has_e270_F (p0 : TNet) (p1 : Int) : Option Int := (s_l07Has_e270 p0 p1).run some
-- more
theorem s_l07Has_is (n : TN6) (hl : n.2.2.2.1.length ≤ 14) (h2 : ∀ e ∈ n.2.2.2.1, e.length = 2) (node : Int) : s_l07Has_e270_F n node = some (hasV n node) := by
 unfold s_l07Has_e270_F s_l07Has_e270 hasV
 rw [Tre.run_cond, run_some_mat (s_l07Into_is n hl h2 node)]
 by_cases h : node = 0
 ·rw [decide_eq_true h, if_pos h]; rfl
 ·rw [decide_eq_false h, if_neg h]; rfl
noncomputable def s_l07Has_e270_V : Env := ⟨tau, [(47, s_l07Into_e270_c)], []⟩
noncomputable def s_l07Has_e270_b : Code := (Try.f60.body).getD .skip
noncomputable def s_l07Has_e270_I : FnI := ⟨s_l07Has_e270_b, Try.f60.results.toList, Try.f60.resultTypes.toList, []⟩
noncomputable def s_l07Has_e270_out (_zp0 : Bool) (_p0 : TNet) (_p1 : Int) : Int → CallOut := fun r => ⟨(.imm true (.int .i64) r), [], []⟩
set_option maxRecDepth 100000 in
theorem s_l07Has_e270_eq : ∀ (zp0 : Bool) (p0 : TNet) (p1 : Int), denFn s_l07Has_e270_V s_l07Has_e270_I ⟨[(.iptr zp0 (.sl kNet) ([p0]) [.idx 0]), (.imm true (.int .i64) p1)], []⟩ = (s_l07Has_e270 p0 p1).run fun r => some (s_l07Has_e270_out zp0 p0 p1 r) := fun _ _ _ => by kernel_rfl
noncomputable def s_l07Has_e270_G (av : List AV) (rs : List Root) : Tre CallOut :=
 asCons av fun a0_ av0 =>
 asCons av0 fun a1_ av1 =>
 asEnd av1 <|
 asEnd rs <|
 asIptr kNet a0_ fun z1 d2 =>
 asImmZ true (.int .i64) a1_ fun d3 =>
 .mat (s_l07Has_e270_F d2 d3) fun r => .ret (s_l07Has_e270_out z1 d2 d3 r)
noncomputable def s_l07Has_e270_c : Ctr := ⟨[0], fun ci => s_l07Has_e270_G ci.args ci.roots, false⟩
theorem s_l07Has_e270_env : EnvOK Try.prog .none s_l07Has_e270_V := (envOK_cons s_l07Into_e270_ok ent47 envOK_nil)
set_option maxRecDepth 100000 in
theorem s_l07Has_e270_ok : Contract Try.prog .none 60 s_l07Has_e270_c := by
 have hl : LoopsOK s_l07Has_e270_V [] s_l07Has_e270_b := loopsOK_nil (by kernel_rfl)
 refine (contract_of (F := s_l07Has_e270_I) tau_tys s_l07Has_e270_env Try.func60 (by kernel_rfl) (by kernel_rfl) (by kernel_rfl) hl [0]).weaken ?_
 rintro ⟨av, rs⟩ co h
 have h : (s_l07Has_e270_G av rs).run some = some co := h
 obtain ⟨a0_, av0, rfl, h_0⟩ := asCons_spec h
 obtain ⟨a1_, av1, rfl, h_1⟩ := asCons_spec h_0
 obtain ⟨rfl, h_2⟩ := asEnd_spec h_1
 obtain ⟨rfl, h_3⟩ := asEnd_spec h_2
 obtain ⟨z1, d2, rfl, h_4⟩ := asIptr_spec h_3
 obtain ⟨d3, rfl, h_5⟩ := asImmZ_spec h_4
 exact fin_mat (s_l07Has_e270_eq z1 d2 d3) h_5
end Go.Proofs.Ytkgekgfmnhccmaa

namespace Go.Proofs.Ytkgekgfmnhccmaa
open Go Go.Abs Go.Proofs
noncomputable def s_l01Size (p0 : (Int × (Int × Unit))) : Tre Int :=
 .ite (0 ≤ iwrap .u64 p0.1) <|
 let v1 := ishl .i64 1 (iwrap .u64 p0.1)
 .ret v1
noncomputable def s_l01Size_F (p0 : (Int × (Int × Unit))) : Option Int := (s_l01Size p0).run some
noncomputable def s_l01Size_V : Env := ⟨tau, [], []⟩
noncomputable def s_l01Size_b : Code := (Try.f86.body).getD .skip
noncomputable def s_l01Size_I : FnI := ⟨s_l01Size_b, Try.f86.results.toList, Try.f86.resultTypes.toList, []⟩
noncomputable def s_l01Size_out (_p0 : (Int × (Int × Unit))) : Int → CallOut := fun r => ⟨(.imm true (.int .i64) r), [], []⟩
set_option maxRecDepth 100000 in
theorem s_l01Size_eq : ∀ (p0 : (Int × (Int × Unit))), denFn s_l01Size_V s_l01Size_I ⟨[(.imm true kField p0)], []⟩ = (s_l01Size p0).run fun r => some (s_l01Size_out p0 r) := fun _ => by kernel_rfl
noncomputable def s_l01Size_G (av : List AV) (rs : List Root) : Tre CallOut :=
 asCons av fun a0_ av0 =>
 asEnd av0 <|
 asEnd rs <|
 asImmZ true kField a0_ fun d1 =>
 .mat (s_l01Size_F d1) fun r => .ret (s_l01Size_out d1 r)
noncomputable def s_l01Size_c : Ctr := ⟨[], fun ci => s_l01Size_G ci.args ci.roots, false⟩
theorem s_l01Size_env : EnvOK Try.prog .none s_l01Size_V := envOK_nil
set_option maxRecDepth 100000 in
theorem s_l01Size_ok : Contract Try.prog .none 86 s_l01Size_c := by
 have hl : LoopsOK s_l01Size_V [] s_l01Size_b := loopsOK_nil (by kernel_rfl)
 refine (contract_of (F := s_l01Size_I) tau_tys s_l01Size_env Try.func86 (by kernel_rfl) (by kernel_rfl) (by kernel_rfl) hl []).weaken ?_
 rintro ⟨av, rs⟩ co h
 have h : (s_l01Size_G av rs).run some = some co := h
 obtain ⟨a0_, av0, rfl, h_0⟩ := asCons_spec h
 obtain ⟨rfl, h_1⟩ := asEnd_spec h_0
 obtain ⟨rfl, h_2⟩ := asEnd_spec h_1
 obtain ⟨d1, rfl, h_3⟩ := asImmZ_spec h_2
 exact fin_mat (s_l01Size_eq d1) h_3
end Go.Proofs.Ytkgekgfmnhccmaa

namespace Go.Proofs.Ytkgekgfmnhccmaa
open Go Go.Abs Go.Proofs
noncomputable def s_l07Draw_2176_l10 (h10_0_1 : Int) (h10_0_2 : Int) : (TL00Src × TNet) → Tre ((TL00Src × TNet) ⊕ (TL00Src × TNet)) := fun s10 =>
 .mat (s_l00Src_one_9f69_F 2 s10.1) fun r6 =>
 .cond r6.1
  (.cond (decide ((s10.2.2.2.2.1.length : Int) < 12))
   (.ite ((s10.2.2.2.2.1.length + 1) * 24 ≤ appendMax ∧ 1 ≤ 24) <|
   let v7 := s10.2.2.2.2.1 ++ ([[h10_0_1, h10_0_2]])
   .mat (s_l00Src_one_9f69_F 3 r6.2) fun r8 =>
   .cond (!r8.1)
    (.ret (.inr (r8.2, (s10.2.1, (s10.2.2.1, (s10.2.2.2.1, (v7, s10.2.2.2.2.2)))))))
    (.ret (.inl (r8.2, (s10.2.1, (s10.2.2.1, (s10.2.2.2.1, (v7, s10.2.2.2.2.2))))))))
   (.ret (.inr (r6.2, s10.2))))
  (.ret (.inr (r6.2, s10.2)))
noncomputable def s_l07Draw_2176_l8 (h8_0_1 : Int) : (Int × TL00Src × TNet) → Tre ((Int × TL00Src × TNet) ⊕ (TL00Src × TNet)) := fun s8 =>
 .cond (decide (s8.1 < s8.2.2.2.1))
  (.mat (loopF (s_l07Draw_2176_l10 h8_0_1 s8.1) (s8.2.1, s8.2.2)) fun l9 =>
  .ret (.inl (iwrap .i64 (s8.1 + 1), l9.1, l9.2)))
  (.ret (.inr (s8.2.1, s8.2.2)))
noncomputable def s_l07Draw_2176_l5 : (Int × TL00Src × TNet) → Tre ((Int × TL00Src × TNet) ⊕ (TL00Src × TNet)) := fun s5 =>
 let v5 := iwrap .i64 (s5.2.2.2.1 - 1)
 .cond (decide (s5.1 < v5))
  (.mat (loopF (s_l07Draw_2176_l8 s5.1) (iwrap .i64 (s5.1 + 1), s5.2.1, s5.2.2)) fun l10 =>
  .ret (.inl (iwrap .i64 (s5.1 + 1), l10.1, l10.2)))
  (.ret (.inr (s5.2.1, s5.2.2)))
noncomputable def s_l07Draw_2176_l18 (h18_0_0 : Bool) (h18_0_5 : TNet) : (Int × TL00Src × (List Int)) → Tre ((Int × TL00Src × (List Int)) ⊕ (TL00Src × (List Int))) := fun s18 =>
 .cond (decide (s18.1 > 0))
  (.cond h18_0_0
   (.mat (s_l00Src_pick_9f69_F 2 s18.2.1) fun r17 =>
   .ite ((s18.2.2.length + 1) * 8 ≤ appendMax ∧ 1 ≤ 8) <|
   .ret (.inl (iwrap .i64 (s18.1 - 1), r17.2, s18.2.2 ++ ([r17.1]))))
   (.mat (s_l01Size_F h18_0_5.1) fun r18 =>
   .mat (s_l00Src_pick_9f69_F r18 s18.2.1) fun r19 =>
   .ite ((s18.2.2.length + 1) * 8 ≤ appendMax ∧ 1 ≤ 8) <|
   .ret (.inl (iwrap .i64 (s18.1 - 1), r19.2, s18.2.2 ++ ([r19.1])))))
  (.ret (.inr (s18.2.1, s18.2.2)))
noncomputable def s_l07Draw_2176_l14 (h14_0_0 : Bool) : (Int × TL00Src × TNet) → Tre ((Int × TL00Src × TNet) ⊕ (TL00Src × TNet)) := fun s14 =>
 .cond (decide (s14.1 < (s14.2.2.2.2.2.1.length : Int)))
  (.ite (0 ≤ s14.1 ∧ s14.1 < (s14.2.2.2.2.2.1.length : Int)) <|
  .mat (s14.2.2.2.2.2.1[s14.1.toNat]?) fun _ =>
  .mat (s14.2.2.2.2.2.1[s14.1.toNat]?) fun x13 =>
  .ite (0 ≤ (0 : Int) ∧ (0 : Int) < (x13.length : Int)) <|
  .mat (s14.2.2.2.2.2.1[s14.1.toNat]?) fun x14 =>
  .mat (x14[0]?) fun x15 =>
  .mat (s_l07Has_e270_F s14.2.2 x15) fun r16 =>
  .mat (loopF (s_l07Draw_2176_l18 h14_0_0 s14.2.2) (r16, s14.2.1, [])) fun l20 =>
  .ite ((s14.2.2.2.2.2.2.1.length + 1) * 24 ≤ appendMax ∧ 1 ≤ 24) <|
  let v21 := s14.2.2.2.2.2.2.1 ++ ([l20.2])
  .ret (.inl (iwrap .i64 (s14.1 + 1), l20.1, (s14.2.2.1, (s14.2.2.2.1, (s14.2.2.2.2.1, (s14.2.2.2.2.2.1, (v21, s14.2.2.2.2.2.2.2))))))))
  (.ret (.inr (s14.2.1, s14.2.2)))
noncomputable def s_l07Draw_2176 (p0 : Bool) (p1 : TL00Src) : Tre ((Int × (Int × Unit)) × Int × Int × TL00Src × (List (List Int)) × (List (List Int))) :=
 .mat (s_l04DrawField_9f69_F 3 p1) fun r1 =>
 .mat (s_l00Src_pick_9f69_F 4 r1.2) fun r2 =>
 .mat (s_l00Src_pick_9f69_F 3 r2.2) fun r3 =>
 .cond p0
  (.mat (s_l04DrawField_9f69_F 4 r3.2) fun r4 =>
  .mat (loopF s_l07Draw_2176_l5 (0, r4.2, (r4.1, (iwrap .i64 (3 + r2.1), (iwrap .i64 (1 + r3.1), ([], ([], ()))))))) fun l11 =>
  .mat (loopF (s_l07Draw_2176_l14 p0) (0, l11.1, l11.2)) fun l22 =>
  .ret (l22.2.1, l22.2.2.1, l22.2.2.2.1, l22.1, l22.2.2.2.2.1, l22.2.2.2.2.2.1))
  (.mat (loopF s_l07Draw_2176_l5 (0, r3.2, (r1.1, (iwrap .i64 (3 + r2.1), (iwrap .i64 (1 + r3.1), ([], ([], ()))))))) fun l23 =>
  .mat (loopF (s_l07Draw_2176_l14 p0) (0, l23.1, l23.2)) fun l24 =>
  .ret (l24.2.1, l24.2.2.1, l24.2.2.2.1, l24.1, l24.2.2.2.2.1, l24.2.2.2.2.2.1))
noncomputable def s_l07Draw_2176_F (p0 : Bool) (p1 : TL00Src) : Option ((Int × (Int × Unit)) × Int × Int × TL00Src × (List (List Int)) × (List (List Int))) := (s_l07Draw_2176 p0 p1).run some
noncomputable def s_l07Draw_2176_V : Env := ⟨tau, [(84, s_l04DrawField_9f69_c), (39, s_l00Src_pick_9f69_c), (85, s_l00Src_one_9f69_c), (60, s_l07Has_e270_c), (86, s_l01Size_c)], []⟩
noncomputable def s_l07Draw_2176_b : Code := (Try.f37.body).getD .skip
noncomputable def s_l07Draw_2176_l10_mk (z10_0 : Bool) (h10_0_0 : Bool) (h10_0_1 : Int) (h10_0_2 : Int) (h10_0_4 : TNet) : (TL00Src × TNet) → St := fun x => stOf [(0, (.ptr (0, 0) [])), (1, (.imm true .bool h10_0_0)), (4, (.ptr (6, 0) [])), (5, (.ptr (7, 0) [])), (6, (.imm true (.int .i64) h10_0_1)), (7, (.imm true (.int .i64) h10_0_2))] [((0, 0), some ⟨true, kL00Src, (.imm z10_0), x.1⟩), ((6, 0), some ⟨true, kNet, .own, h10_0_4⟩), ((7, 0), some ⟨true, kNet, .own, x.2⟩)]
noncomputable def s_l07Draw_2176_l10_out (z10_0 : Bool) (h10_0_0 : Bool) (h10_0_1 : Int) (h10_0_2 : Int) (h10_0_4 : TNet) : (TL00Src × TNet) → Ex × St := fun x => (.exit 4, stOf [(0, (.ptr (0, 0) [])), (1, (.imm true .bool h10_0_0)), (4, (.ptr (6, 0) [])), (5, (.ptr (7, 0) [])), (6, (.imm true (.int .i64) h10_0_1)), (7, (.imm true (.int .i64) h10_0_2))] [((0, 0), some ⟨true, kL00Src, (.imm z10_0), x.1⟩), ((6, 0), some ⟨true, kNet, .own, h10_0_4⟩), ((7, 0), some ⟨true, kNet, .own, x.2⟩)])
noncomputable def s_l07Draw_2176_l10_D (s : St) : Tre (Ex × St) :=
 asPtr (0, 0) [] (s.tmps 0) <|
 asImmZ true .bool (s.tmps 1) fun d3 =>
 asPtr (6, 0) [] (s.tmps 4) <|
 asPtr (7, 0) [] (s.tmps 5) <|
 asImmZ true (.int .i64) (s.tmps 6) fun d7 =>
 asImmZ true (.int .i64) (s.tmps 7) fun d9 =>
 asRoot true kL00Src (s.roots (0, 0)) fun m11 d12 =>
 asMImm m11 fun z13 =>
 asRoot true kNet (s.roots (6, 0)) fun m15 d16 =>
 asM .own m15 <|
 asRoot true kNet (s.roots (7, 0)) fun m18 d19 =>
 asM .own m18 <|
 .mat (loopF (s_l07Draw_2176_l10 d7 d9) (d12, d19)) fun x => .ret (s_l07Draw_2176_l10_out z13 d3 d7 d9 d16 x)
noncomputable def s_l07Draw_2176_l10_L : LoopI := ⟨([0, 1, 4, 5, 6, 7], [(0, 0), (6, 0), (7, 0)]), ([0, 1, 4, 5, 6, 7], [(0, 0), (6, 0), (7, 0)]), s_l07Draw_2176_l10_D⟩
noncomputable def s_l07Draw_2176_l8_mk (z8_0 : Bool) (h8_0_0 : Bool) (h8_0_1 : Int) (h8_0_4 : TNet) : (Int × TL00Src × TNet) → St := fun x => stOf [(0, (.ptr (0, 0) [])), (1, (.imm true .bool h8_0_0)), (4, (.ptr (6, 0) [])), (5, (.ptr (7, 0) [])), (6, (.imm true (.int .i64) h8_0_1)), (7, (.imm true (.int .i64) x.1))] [((0, 0), some ⟨true, kL00Src, (.imm z8_0), x.2.1⟩), ((6, 0), some ⟨true, kNet, .own, h8_0_4⟩), ((7, 0), some ⟨true, kNet, .own, x.2.2⟩)]
noncomputable def s_l07Draw_2176_l8_out (z8_0 : Bool) (h8_0_0 : Bool) (h8_0_1 : Int) (h8_0_4 : TNet) : (TL00Src × TNet) → Ex × St := fun x => (.exit 2, stOf [(0, (.ptr (0, 0) [])), (1, (.imm true .bool h8_0_0)), (4, (.ptr (6, 0) [])), (5, (.ptr (7, 0) [])), (6, (.imm true (.int .i64) h8_0_1))] [((0, 0), some ⟨true, kL00Src, (.imm z8_0), x.1⟩), ((6, 0), some ⟨true, kNet, .own, h8_0_4⟩), ((7, 0), some ⟨true, kNet, .own, x.2⟩)])
noncomputable def s_l07Draw_2176_l8_D (s : St) : Tre (Ex × St) :=
 asPtr (0, 0) [] (s.tmps 0) <|
 asImmZ true .bool (s.tmps 1) fun d3 =>
 asPtr (6, 0) [] (s.tmps 4) <|
 asPtr (7, 0) [] (s.tmps 5) <|
 asImmZ true (.int .i64) (s.tmps 6) fun d7 =>
 asImmZ true (.int .i64) (s.tmps 7) fun d9 =>
 asRoot true kL00Src (s.roots (0, 0)) fun m11 d12 =>
 asMImm m11 fun z13 =>
 asRoot true kNet (s.roots (6, 0)) fun m15 d16 =>
 asM .own m15 <|
 asRoot true kNet (s.roots (7, 0)) fun m18 d19 =>
 asM .own m18 <|
 .mat (loopF (s_l07Draw_2176_l8 d7) (d9, d12, d19)) fun x => .ret (s_l07Draw_2176_l8_out z13 d3 d7 d16 x)
noncomputable def s_l07Draw_2176_l8_L : LoopI := ⟨([0, 1, 4, 5, 6, 7], [(0, 0), (6, 0), (7, 0)]), ([0, 1, 4, 5, 6], [(0, 0), (6, 0), (7, 0)]), s_l07Draw_2176_l8_D⟩
noncomputable def s_l07Draw_2176_l5_mk (z5_0 : Bool) (h5_0_0 : Bool) (h5_0_3 : TNet) : (Int × TL00Src × TNet) → St := fun x => stOf [(0, (.ptr (0, 0) [])), (1, (.imm true .bool h5_0_0)), (4, (.ptr (6, 0) [])), (5, (.ptr (7, 0) [])), (6, (.imm true (.int .i64) x.1))] [((0, 0), some ⟨true, kL00Src, (.imm z5_0), x.2.1⟩), ((6, 0), some ⟨true, kNet, .own, h5_0_3⟩), ((7, 0), some ⟨true, kNet, .own, x.2.2⟩)]
noncomputable def s_l07Draw_2176_l5_out (z5_0 : Bool) (h5_0_0 : Bool) (h5_0_3 : TNet) : (TL00Src × TNet) → Ex × St := fun x => (.exit 0, stOf [(0, (.ptr (0, 0) [])), (1, (.imm true .bool h5_0_0)), (4, (.ptr (6, 0) [])), (5, (.ptr (7, 0) []))] [((0, 0), some ⟨true, kL00Src, (.imm z5_0), x.1⟩), ((6, 0), some ⟨true, kNet, .own, h5_0_3⟩), ((7, 0), some ⟨true, kNet, .own, x.2⟩)])
noncomputable def s_l07Draw_2176_l5_D (s : St) : Tre (Ex × St) :=
 asPtr (0, 0) [] (s.tmps 0) <|
 asImmZ true .bool (s.tmps 1) fun d3 =>
 asPtr (6, 0) [] (s.tmps 4) <|
 asPtr (7, 0) [] (s.tmps 5) <|
 asImmZ true (.int .i64) (s.tmps 6) fun d7 =>
 asRoot true kL00Src (s.roots (0, 0)) fun m9 d10 =>
 asMImm m9 fun z11 =>
 asRoot true kNet (s.roots (6, 0)) fun m13 d14 =>
 asM .own m13 <|
 asRoot true kNet (s.roots (7, 0)) fun m16 d17 =>
 asM .own m16 <|
 .mat (loopF s_l07Draw_2176_l5 (d7, d10, d17)) fun x => .ret (s_l07Draw_2176_l5_out z11 d3 d14 x)
noncomputable def s_l07Draw_2176_l5_L : LoopI := ⟨([0, 1, 4, 5, 6], [(0, 0), (6, 0), (7, 0)]), ([0, 1, 4, 5], [(0, 0), (6, 0), (7, 0)]), s_l07Draw_2176_l5_D⟩
noncomputable def s_l07Draw_2176_l18_mk (z18_0 : Bool) (h18_0_0 : Bool) (h18_0_1 : Int) (h18_0_4 : TNet) (h18_0_5 : TNet) : (Int × TL00Src × (List Int)) → St := fun x => stOf [(0, (.ptr (0, 0) [])), (1, (.imm true .bool h18_0_0)), (4, (.ptr (6, 0) [])), (5, (.ptr (7, 0) [])), (8, (.imm true (.int .i64) h18_0_1)), (9, (.ref (11, 0) [])), (10, (.imm true (.int .i64) x.1))] [((0, 0), some ⟨true, kL00Src, (.imm z18_0), x.2.1⟩), ((6, 0), some ⟨true, kNet, .own, h18_0_4⟩), ((7, 0), some ⟨true, kNet, .own, h18_0_5⟩), ((11, 0), some ⟨false, (.sl (.int .i64)), .own, x.2.2⟩)]
noncomputable def s_l07Draw_2176_l18_out (z18_0 : Bool) (h18_0_0 : Bool) (h18_0_1 : Int) (h18_0_4 : TNet) (h18_0_5 : TNet) : (TL00Src × (List Int)) → Ex × St := fun x => (.exit 8, stOf [(0, (.ptr (0, 0) [])), (1, (.imm true .bool h18_0_0)), (4, (.ptr (6, 0) [])), (5, (.ptr (7, 0) [])), (8, (.imm true (.int .i64) h18_0_1)), (9, (.ref (11, 0) []))] [((0, 0), some ⟨true, kL00Src, (.imm z18_0), x.1⟩), ((6, 0), some ⟨true, kNet, .own, h18_0_4⟩), ((7, 0), some ⟨true, kNet, .own, h18_0_5⟩), ((11, 0), some ⟨false, (.sl (.int .i64)), .own, x.2⟩)])
noncomputable def s_l07Draw_2176_l18_D (s : St) : Tre (Ex × St) :=
 asPtr (0, 0) [] (s.tmps 0) <|
 asImmZ true .bool (s.tmps 1) fun d3 =>
 asPtr (6, 0) [] (s.tmps 4) <|
 asPtr (7, 0) [] (s.tmps 5) <|
 asImmZ true (.int .i64) (s.tmps 8) fun d7 =>
 asRef (11, 0) [] (s.tmps 9) <|
 asImmZ true (.int .i64) (s.tmps 10) fun d10 =>
 asRoot true kL00Src (s.roots (0, 0)) fun m12 d13 =>
 asMImm m12 fun z14 =>
 asRoot true kNet (s.roots (6, 0)) fun m16 d17 =>
 asM .own m16 <|
 asRoot true kNet (s.roots (7, 0)) fun m19 d20 =>
 asM .own m19 <|
 asRoot false (.sl (.int .i64)) (s.roots (11, 0)) fun m22 d23 =>
 asM .own m22 <|
 .mat (loopF (s_l07Draw_2176_l18 d3 d20) (d10, d13, d23)) fun x => .ret (s_l07Draw_2176_l18_out z14 d3 d7 d17 d20 x)
noncomputable def s_l07Draw_2176_l18_L : LoopI := ⟨([0, 1, 4, 5, 8, 9, 10], [(0, 0), (6, 0), (7, 0), (11, 0)]), ([0, 1, 4, 5, 8, 9], [(0, 0), (6, 0), (7, 0), (11, 0)]), s_l07Draw_2176_l18_D⟩
noncomputable def s_l07Draw_2176_l14_mk (z14_0 : Bool) (h14_0_0 : Bool) (h14_0_3 : TNet) : (Int × TL00Src × TNet) → St := fun x => stOf [(0, (.ptr (0, 0) [])), (1, (.imm true .bool h14_0_0)), (4, (.ptr (6, 0) [])), (5, (.ptr (7, 0) [])), (8, (.imm true (.int .i64) x.1))] [((0, 0), some ⟨true, kL00Src, (.imm z14_0), x.2.1⟩), ((6, 0), some ⟨true, kNet, .own, h14_0_3⟩), ((7, 0), some ⟨true, kNet, .own, x.2.2⟩)]
noncomputable def s_l07Draw_2176_l14_out (z14_0 : Bool) (_h14_0_0 : Bool) (h14_0_3 : TNet) : (TL00Src × TNet) → Ex × St := fun x => (.exit 6, stOf [(4, (.ptr (6, 0) [])), (5, (.ptr (7, 0) []))] [((0, 0), some ⟨true, kL00Src, (.imm z14_0), x.1⟩), ((6, 0), some ⟨true, kNet, .own, h14_0_3⟩), ((7, 0), some ⟨true, kNet, .own, x.2⟩)])
noncomputable def s_l07Draw_2176_l14_D (s : St) : Tre (Ex × St) :=
 asPtr (0, 0) [] (s.tmps 0) <|
 asImmZ true .bool (s.tmps 1) fun d3 =>
 asPtr (6, 0) [] (s.tmps 4) <|
 asPtr (7, 0) [] (s.tmps 5) <|
 asImmZ true (.int .i64) (s.tmps 8) fun d7 =>
 asRoot true kL00Src (s.roots (0, 0)) fun m9 d10 =>
 asMImm m9 fun z11 =>
 asRoot true kNet (s.roots (6, 0)) fun m13 d14 =>
 asM .own m13 <|
 asRoot true kNet (s.roots (7, 0)) fun m16 d17 =>
 asM .own m16 <|
 .mat (loopF (s_l07Draw_2176_l14 d3) (d7, d10, d17)) fun x => .ret (s_l07Draw_2176_l14_out z11 d3 d14 x)
noncomputable def s_l07Draw_2176_l14_L : LoopI := ⟨([0, 1, 4, 5, 8], [(0, 0), (6, 0), (7, 0)]), ([4, 5], [(0, 0), (6, 0), (7, 0)]), s_l07Draw_2176_l14_D⟩
noncomputable def s_l07Draw_2176_A : List (Nat × LoopI) := [(10, s_l07Draw_2176_l10_L), (8, s_l07Draw_2176_l8_L), (5, s_l07Draw_2176_l5_L), (18, s_l07Draw_2176_l18_L), (14, s_l07Draw_2176_l14_L)]
set_option maxRecDepth 100000 in
theorem s_l07Draw_2176_l10_step : ∀ (z10_0 : Bool) (h10_0_0 : Bool) (h10_0_1 : Int) (h10_0_2 : Int) (h10_0_4 : TNet) (x : (TL00Src × TNet)) (c : St → Option (Ex × St)), den s_l07Draw_2176_V s_l07Draw_2176_A (loopAt s_l07Draw_2176_b 2) (s_l07Draw_2176_l10_mk z10_0 h10_0_0 h10_0_1 h10_0_2 h10_0_4 x) (roundK s_l07Draw_2176_l10_L.kp s_l07Draw_2176_l10_L.kx c) = (s_l07Draw_2176_l10 h10_0_1 h10_0_2 x).run (roundR (s_l07Draw_2176_l10_mk z10_0 h10_0_0 h10_0_1 h10_0_2 h10_0_4) (s_l07Draw_2176_l10_out z10_0 h10_0_0 h10_0_1 h10_0_2 h10_0_4) c) := fun _ _ _ _ _ _ _ => by
 kernel_rfl
theorem s_l07Draw_2176_l10_ok : LoopOK s_l07Draw_2176_V s_l07Draw_2176_A (loopAt s_l07Draw_2176_b 2) s_l07Draw_2176_l10_L := loopOK_of fun s e s' h => by
 generalize hs : restrict s_l07Draw_2176_l10_L.kp s = s1 at h
 have h : (s_l07Draw_2176_l10_D s1).run some = some (e, s') := h
 obtain ⟨e1, h_0⟩ := asPtr_spec h
 obtain ⟨d3, e2, h_1⟩ := asImmZ_spec h_0
 obtain ⟨e4, h_2⟩ := asPtr_spec h_1
 obtain ⟨e5, h_3⟩ := asPtr_spec h_2
 obtain ⟨d7, e6, h_4⟩ := asImmZ_spec h_3
 obtain ⟨d9, e8, h_5⟩ := asImmZ_spec h_4
 obtain ⟨m11, d12, e10, h_6⟩ := asRoot_spec h_5
 obtain ⟨z13, rfl, h_7⟩ := asMImm_spec h_6
 obtain ⟨m15, d16, e14, h_8⟩ := asRoot_spec h_7
 obtain ⟨rfl, h_9⟩ := asM_spec h_8
 obtain ⟨m18, d19, e17, h_10⟩ := asRoot_spec h_9
 obtain ⟨rfl, h_11⟩ := asM_spec h_10
 obtain ⟨y, hy, hz⟩ := mat_ret h_11
 refine ⟨_, _, s_l07Draw_2176_l10_mk z13 d3 d7 d9 d16, s_l07Draw_2176_l10_out z13 d3 d7 d9 d16, s_l07Draw_2176_l10 d7 d9, (d12, d19), y, ?_, hy, ?_, s_l07Draw_2176_l10_step z13 d3 d7 d9 d16⟩
 ·subst hs; exact restrict_eq (T := [(0, (.ptr (0, 0) [])), (1, (.imm true .bool d3)), (4, (.ptr (6, 0) [])), (5, (.ptr (7, 0) [])), (6, (.imm true (.int .i64) d7)), (7, (.imm true (.int .i64) d9))]) (U := [((0, 0), some ⟨true, kL00Src, (.imm z13), d12⟩), ((6, 0), some ⟨true, kNet, .own, d16⟩), ((7, 0), some ⟨true, kNet, .own, d19⟩)]) rfl rfl ⟨e1, e2, e4, e5, e6, e8, trivial⟩ ⟨e10, e14, e17, trivial⟩
 ·exact Option.some.inj hz
set_option maxRecDepth 100000 in
theorem s_l07Draw_2176_l8_step : ∀ (z8_0 : Bool) (h8_0_0 : Bool) (h8_0_1 : Int) (h8_0_4 : TNet) (x : (Int × TL00Src × TNet)) (c : St → Option (Ex × St)), den s_l07Draw_2176_V s_l07Draw_2176_A (loopAt s_l07Draw_2176_b 1) (s_l07Draw_2176_l8_mk z8_0 h8_0_0 h8_0_1 h8_0_4 x) (roundK s_l07Draw_2176_l8_L.kp s_l07Draw_2176_l8_L.kx c) = (s_l07Draw_2176_l8 h8_0_1 x).run (roundR (s_l07Draw_2176_l8_mk z8_0 h8_0_0 h8_0_1 h8_0_4) (s_l07Draw_2176_l8_out z8_0 h8_0_0 h8_0_1 h8_0_4) c) := fun _ _ _ _ _ _ => by
 kernel_rfl
theorem s_l07Draw_2176_l8_ok : LoopOK s_l07Draw_2176_V s_l07Draw_2176_A (loopAt s_l07Draw_2176_b 1) s_l07Draw_2176_l8_L := loopOK_of fun s e s' h => by
 generalize hs : restrict s_l07Draw_2176_l8_L.kp s = s1 at h
 have h : (s_l07Draw_2176_l8_D s1).run some = some (e, s') := h
 obtain ⟨e1, h_0⟩ := asPtr_spec h
 obtain ⟨d3, e2, h_1⟩ := asImmZ_spec h_0
 obtain ⟨e4, h_2⟩ := asPtr_spec h_1
 obtain ⟨e5, h_3⟩ := asPtr_spec h_2
 obtain ⟨d7, e6, h_4⟩ := asImmZ_spec h_3
 obtain ⟨d9, e8, h_5⟩ := asImmZ_spec h_4
 obtain ⟨m11, d12, e10, h_6⟩ := asRoot_spec h_5
 obtain ⟨z13, rfl, h_7⟩ := asMImm_spec h_6
 obtain ⟨m15, d16, e14, h_8⟩ := asRoot_spec h_7
 obtain ⟨rfl, h_9⟩ := asM_spec h_8
 obtain ⟨m18, d19, e17, h_10⟩ := asRoot_spec h_9
 obtain ⟨rfl, h_11⟩ := asM_spec h_10
 obtain ⟨y, hy, hz⟩ := mat_ret h_11
 refine ⟨_, _, s_l07Draw_2176_l8_mk z13 d3 d7 d16, s_l07Draw_2176_l8_out z13 d3 d7 d16, s_l07Draw_2176_l8 d7, (d9, d12, d19), y, ?_, hy, ?_, s_l07Draw_2176_l8_step z13 d3 d7 d16⟩
 ·subst hs; exact restrict_eq (T := [(0, (.ptr (0, 0) [])), (1, (.imm true .bool d3)), (4, (.ptr (6, 0) [])), (5, (.ptr (7, 0) [])), (6, (.imm true (.int .i64) d7)), (7, (.imm true (.int .i64) d9))]) (U := [((0, 0), some ⟨true, kL00Src, (.imm z13), d12⟩), ((6, 0), some ⟨true, kNet, .own, d16⟩), ((7, 0), some ⟨true, kNet, .own, d19⟩)]) rfl rfl ⟨e1, e2, e4, e5, e6, e8, trivial⟩ ⟨e10, e14, e17, trivial⟩
 ·exact Option.some.inj hz
set_option maxRecDepth 100000 in
theorem s_l07Draw_2176_l5_step : ∀ (z5_0 : Bool) (h5_0_0 : Bool) (h5_0_3 : TNet) (x : (Int × TL00Src × TNet)) (c : St → Option (Ex × St)), den s_l07Draw_2176_V s_l07Draw_2176_A (loopAt s_l07Draw_2176_b 0) (s_l07Draw_2176_l5_mk z5_0 h5_0_0 h5_0_3 x) (roundK s_l07Draw_2176_l5_L.kp s_l07Draw_2176_l5_L.kx c) = (s_l07Draw_2176_l5 x).run (roundR (s_l07Draw_2176_l5_mk z5_0 h5_0_0 h5_0_3) (s_l07Draw_2176_l5_out z5_0 h5_0_0 h5_0_3) c) := fun _ _ _ _ _ => by
 kernel_rfl
theorem s_l07Draw_2176_l5_ok : LoopOK s_l07Draw_2176_V s_l07Draw_2176_A (loopAt s_l07Draw_2176_b 0) s_l07Draw_2176_l5_L := loopOK_of fun s e s' h => by
 generalize hs : restrict s_l07Draw_2176_l5_L.kp s = s1 at h
 have h : (s_l07Draw_2176_l5_D s1).run some = some (e, s') := h
 obtain ⟨e1, h_0⟩ := asPtr_spec h
 obtain ⟨d3, e2, h_1⟩ := asImmZ_spec h_0
 obtain ⟨e4, h_2⟩ := asPtr_spec h_1
 obtain ⟨e5, h_3⟩ := asPtr_spec h_2
 obtain ⟨d7, e6, h_4⟩ := asImmZ_spec h_3
 obtain ⟨m9, d10, e8, h_5⟩ := asRoot_spec h_4
 obtain ⟨z11, rfl, h_6⟩ := asMImm_spec h_5
 obtain ⟨m13, d14, e12, h_7⟩ := asRoot_spec h_6
 obtain ⟨rfl, h_8⟩ := asM_spec h_7
 obtain ⟨m16, d17, e15, h_9⟩ := asRoot_spec h_8
 obtain ⟨rfl, h_10⟩ := asM_spec h_9
 obtain ⟨y, hy, hz⟩ := mat_ret h_10
 refine ⟨_, _, s_l07Draw_2176_l5_mk z11 d3 d14, s_l07Draw_2176_l5_out z11 d3 d14, s_l07Draw_2176_l5, (d7, d10, d17), y, ?_, hy, ?_, s_l07Draw_2176_l5_step z11 d3 d14⟩
 ·subst hs; exact restrict_eq (T := [(0, (.ptr (0, 0) [])), (1, (.imm true .bool d3)), (4, (.ptr (6, 0) [])), (5, (.ptr (7, 0) [])), (6, (.imm true (.int .i64) d7))]) (U := [((0, 0), some ⟨true, kL00Src, (.imm z11), d10⟩), ((6, 0), some ⟨true, kNet, .own, d14⟩), ((7, 0), some ⟨true, kNet, .own, d17⟩)]) rfl rfl ⟨e1, e2, e4, e5, e6, trivial⟩ ⟨e8, e12, e15, trivial⟩
 ·exact Option.some.inj hz
set_option maxRecDepth 100000 in
theorem s_l07Draw_2176_l18_step : ∀ (z18_0 : Bool) (h18_0_0 : Bool) (h18_0_1 : Int) (h18_0_4 : TNet) (h18_0_5 : TNet) (x : (Int × TL00Src × (List Int))) (c : St → Option (Ex × St)), den s_l07Draw_2176_V s_l07Draw_2176_A (loopAt s_l07Draw_2176_b 4) (s_l07Draw_2176_l18_mk z18_0 h18_0_0 h18_0_1 h18_0_4 h18_0_5 x) (roundK s_l07Draw_2176_l18_L.kp s_l07Draw_2176_l18_L.kx c) = (s_l07Draw_2176_l18 h18_0_0 h18_0_5 x).run (roundR (s_l07Draw_2176_l18_mk z18_0 h18_0_0 h18_0_1 h18_0_4 h18_0_5) (s_l07Draw_2176_l18_out z18_0 h18_0_0 h18_0_1 h18_0_4 h18_0_5) c) := fun _ _ _ _ _ _ _ => by
 kernel_rfl
theorem s_l07Draw_2176_l18_ok : LoopOK s_l07Draw_2176_V s_l07Draw_2176_A (loopAt s_l07Draw_2176_b 4) s_l07Draw_2176_l18_L := loopOK_of fun s e s' h => by
 generalize hs : restrict s_l07Draw_2176_l18_L.kp s = s1 at h
 have h : (s_l07Draw_2176_l18_D s1).run some = some (e, s') := h
 obtain ⟨e1, h_0⟩ := asPtr_spec h
 obtain ⟨d3, e2, h_1⟩ := asImmZ_spec h_0
 obtain ⟨e4, h_2⟩ := asPtr_spec h_1
 obtain ⟨e5, h_3⟩ := asPtr_spec h_2
 obtain ⟨d7, e6, h_4⟩ := asImmZ_spec h_3
 obtain ⟨e8, h_5⟩ := asRef_spec h_4
 obtain ⟨d10, e9, h_6⟩ := asImmZ_spec h_5
 obtain ⟨m12, d13, e11, h_7⟩ := asRoot_spec h_6
 obtain ⟨z14, rfl, h_8⟩ := asMImm_spec h_7
 obtain ⟨m16, d17, e15, h_9⟩ := asRoot_spec h_8
 obtain ⟨rfl, h_10⟩ := asM_spec h_9
 obtain ⟨m19, d20, e18, h_11⟩ := asRoot_spec h_10
 obtain ⟨rfl, h_12⟩ := asM_spec h_11
 obtain ⟨m22, d23, e21, h_13⟩ := asRoot_spec h_12
 obtain ⟨rfl, h_14⟩ := asM_spec h_13
 obtain ⟨y, hy, hz⟩ := mat_ret h_14
 refine ⟨_, _, s_l07Draw_2176_l18_mk z14 d3 d7 d17 d20, s_l07Draw_2176_l18_out z14 d3 d7 d17 d20, s_l07Draw_2176_l18 d3 d20, (d10, d13, d23), y, ?_, hy, ?_, s_l07Draw_2176_l18_step z14 d3 d7 d17 d20⟩
 ·subst hs; exact restrict_eq (T := [(0, (.ptr (0, 0) [])), (1, (.imm true .bool d3)), (4, (.ptr (6, 0) [])), (5, (.ptr (7, 0) [])), (8, (.imm true (.int .i64) d7)), (9, (.ref (11, 0) [])), (10, (.imm true (.int .i64) d10))]) (U := [((0, 0), some ⟨true, kL00Src, (.imm z14), d13⟩), ((6, 0), some ⟨true, kNet, .own, d17⟩), ((7, 0), some ⟨true, kNet, .own, d20⟩), ((11, 0), some ⟨false, (.sl (.int .i64)), .own, d23⟩)]) rfl rfl ⟨e1, e2, e4, e5, e6, e8, e9, trivial⟩ ⟨e11, e15, e18, e21, trivial⟩
 ·exact Option.some.inj hz
set_option maxRecDepth 100000 in
theorem s_l07Draw_2176_l14_step : ∀ (z14_0 : Bool) (h14_0_0 : Bool) (h14_0_3 : TNet) (x : (Int × TL00Src × TNet)) (c : St → Option (Ex × St)), den s_l07Draw_2176_V s_l07Draw_2176_A (loopAt s_l07Draw_2176_b 3) (s_l07Draw_2176_l14_mk z14_0 h14_0_0 h14_0_3 x) (roundK s_l07Draw_2176_l14_L.kp s_l07Draw_2176_l14_L.kx c) = (s_l07Draw_2176_l14 h14_0_0 x).run (roundR (s_l07Draw_2176_l14_mk z14_0 h14_0_0 h14_0_3) (s_l07Draw_2176_l14_out z14_0 h14_0_0 h14_0_3) c) := fun _ _ _ _ _ => by
 kernel_rfl
theorem s_l07Draw_2176_l14_ok : LoopOK s_l07Draw_2176_V s_l07Draw_2176_A (loopAt s_l07Draw_2176_b 3) s_l07Draw_2176_l14_L := loopOK_of fun s e s' h => by
 generalize hs : restrict s_l07Draw_2176_l14_L.kp s = s1 at h
 have h : (s_l07Draw_2176_l14_D s1).run some = some (e, s') := h
 obtain ⟨e1, h_0⟩ := asPtr_spec h
 obtain ⟨d3, e2, h_1⟩ := asImmZ_spec h_0
 obtain ⟨e4, h_2⟩ := asPtr_spec h_1
 obtain ⟨e5, h_3⟩ := asPtr_spec h_2
 obtain ⟨d7, e6, h_4⟩ := asImmZ_spec h_3
 obtain ⟨m9, d10, e8, h_5⟩ := asRoot_spec h_4
 obtain ⟨z11, rfl, h_6⟩ := asMImm_spec h_5
 obtain ⟨m13, d14, e12, h_7⟩ := asRoot_spec h_6
 obtain ⟨rfl, h_8⟩ := asM_spec h_7
 obtain ⟨m16, d17, e15, h_9⟩ := asRoot_spec h_8
 obtain ⟨rfl, h_10⟩ := asM_spec h_9
 obtain ⟨y, hy, hz⟩ := mat_ret h_10
 refine ⟨_, _, s_l07Draw_2176_l14_mk z11 d3 d14, s_l07Draw_2176_l14_out z11 d3 d14, s_l07Draw_2176_l14 d3, (d7, d10, d17), y, ?_, hy, ?_, s_l07Draw_2176_l14_step z11 d3 d14⟩
 ·subst hs; exact restrict_eq (T := [(0, (.ptr (0, 0) [])), (1, (.imm true .bool d3)), (4, (.ptr (6, 0) [])), (5, (.ptr (7, 0) [])), (8, (.imm true (.int .i64) d7))]) (U := [((0, 0), some ⟨true, kL00Src, (.imm z11), d10⟩), ((6, 0), some ⟨true, kNet, .own, d14⟩), ((7, 0), some ⟨true, kNet, .own, d17⟩)]) rfl rfl ⟨e1, e2, e4, e5, e6, trivial⟩ ⟨e8, e12, e15, trivial⟩
 ·exact Option.some.inj hz
noncomputable def s_l07Draw_2176_I : FnI := ⟨s_l07Draw_2176_b, Try.f37.results.toList, Try.f37.resultTypes.toList, s_l07Draw_2176_A⟩
noncomputable def s_l07Draw_2176_out (zp0 : Bool) (_p0 : Bool) (_p1 : TL00Src) : ((Int × (Int × Unit)) × Int × Int × TL00Src × (List (List Int)) × (List (List Int))) → CallOut := fun r => ⟨(.pair (.imm true kField r.1) (.pair (.imm true (.int .i64) r.2.1) (.pair (.imm true (.int .i64) r.2.2.1) (.pair (.ref (1, 0) []) (.pair (.ref (1, 1) []) (.imm true .unit ())))))), [⟨true, kL00Src, (.imm zp0), r.2.2.2.1⟩], [⟨false, (.sl (.sl (.int .i64))), .own, r.2.2.2.2.1⟩, ⟨false, (.sl (.sl (.int .i64))), .own, r.2.2.2.2.2⟩]⟩
set_option maxRecDepth 100000 in
theorem s_l07Draw_2176_eq : ∀ (zp0 : Bool) (p0 : Bool) (p1 : TL00Src), denFn s_l07Draw_2176_V s_l07Draw_2176_I ⟨[(.ptr (0, 0) []), (.imm true .bool p0)], [⟨true, kL00Src, (.imm zp0), p1⟩]⟩ = (s_l07Draw_2176 p0 p1).run fun r => some (s_l07Draw_2176_out zp0 p0 p1 r) := fun _ _ _ => by kernel_rfl
noncomputable def s_l07Draw_2176_G (av : List AV) (rs : List Root) : Tre CallOut :=
 asCons av fun a0_ av0 =>
 asCons av0 fun a1_ av1 =>
 asEnd av1 <|
 asCons rs fun r0_ rs0 =>
 asEnd rs0 <|
 asPtr (0, 0) [] a0_ <|
 asImmZ true .bool a1_ fun d1 =>
 asRt true kL00Src r0_ fun m2 d3 =>
 asMImm m2 fun z4 =>
 .mat (s_l07Draw_2176_F d1 d3) fun r => .ret (s_l07Draw_2176_out z4 d1 d3 r)
noncomputable def s_l07Draw_2176_c : Ctr := ⟨[], fun ci => s_l07Draw_2176_G ci.args ci.roots, false⟩
theorem s_l07Draw_2176_env : EnvOK Try.prog .none s_l07Draw_2176_V := (envOK_cons s_l04DrawField_9f69_ok ent84 (envOK_cons s_l00Src_pick_9f69_ok ent39 (envOK_cons s_l00Src_one_9f69_ok ent85 (envOK_cons s_l07Has_e270_ok ent60 (envOK_cons s_l01Size_ok ent86 envOK_nil)))))
set_option maxRecDepth 100000 in
theorem s_l07Draw_2176_ok : Contract Try.prog .none 37 s_l07Draw_2176_c := by
 have hl : LoopsOK s_l07Draw_2176_V s_l07Draw_2176_A s_l07Draw_2176_b := (loopsOK_all (n := 5) (by kernel_rfl) fun k hk => by
   match k, hk with
   | 0, _ => exact loopOK_at (id := 5) (L := s_l07Draw_2176_l5_L) (by kernel_rfl) (by kernel_rfl) s_l07Draw_2176_l5_ok
   | 1, _ => exact loopOK_at (id := 8) (L := s_l07Draw_2176_l8_L) (by kernel_rfl) (by kernel_rfl) s_l07Draw_2176_l8_ok
   | 2, _ => exact loopOK_at (id := 10) (L := s_l07Draw_2176_l10_L) (by kernel_rfl) (by kernel_rfl) s_l07Draw_2176_l10_ok
   | 3, _ => exact loopOK_at (id := 14) (L := s_l07Draw_2176_l14_L) (by kernel_rfl) (by kernel_rfl) s_l07Draw_2176_l14_ok
   | 4, _ => exact loopOK_at (id := 18) (L := s_l07Draw_2176_l18_L) (by kernel_rfl) (by kernel_rfl) s_l07Draw_2176_l18_ok)
 refine (contract_of (F := s_l07Draw_2176_I) tau_tys s_l07Draw_2176_env Try.func37 (by kernel_rfl) (by kernel_rfl) (by kernel_rfl) hl []).weaken ?_
 rintro ⟨av, rs⟩ co h
 have h : (s_l07Draw_2176_G av rs).run some = some co := h
 obtain ⟨a0_, av0, rfl, h_0⟩ := asCons_spec h
 obtain ⟨a1_, av1, rfl, h_1⟩ := asCons_spec h_0
 obtain ⟨rfl, h_2⟩ := asEnd_spec h_1
 obtain ⟨r0_, rs0, rfl, h_3⟩ := asCons_spec h_2
 obtain ⟨rfl, h_4⟩ := asEnd_spec h_3
 obtain ⟨rfl, h_5⟩ := asPtr_spec h_4
 obtain ⟨d1, rfl, h_6⟩ := asImmZ_spec h_5
 obtain ⟨m2, d3, rfl, h_7⟩ := asRt_spec h_6
 obtain ⟨z4, rfl, h_8⟩ := asMImm_spec h_7
 exact fin_mat (s_l07Draw_2176_eq z4 d1 d3) h_8
end Go.Proofs.Ytkgekgfmnhccmaa

namespace Go.Proofs.Ytkgekgfmnhccmaa
open Go Go.Abs Go.Proofs
-- shared
def powN (p a : Nat) : Nat → Nat
 | 0 => 1
 | n + 1 => mulN p (powN p a n) a
def invN (d p a : Nat) : Nat := powN p a (2 ^ d - 2)
def invI (f : TF3) (a : Int) : Int := ((invN f.1.toNat f.2.1.toNat a.toNat : Nat) : Int)
def chk1 (F : TF3 → Int → Option Int) (G : Nat → Nat → Nat → Nat) (d p : Nat) : Bool := (List.range (2 ^ d)).all fun a => F ((d : Int), (p : Int), ()) (a : Int) == some ((G d p a : Nat) : Int)
theorem one_of {F : TF3 → Int → Option Int} {G : Nat → Nat → Nat → Nat} (h : ∀ q ∈ fieldN, chk1 F G q.1 q.2 = true) {f : TF3} (hf : fieldOk f = true) {a : Int} (ha : inF f a) : F f a = some ((G f.1.toNat f.2.1.toNat a.toNat : Nat) : Int) := by
 obtain ⟨d, p, hq, rfl⟩ := fieldN_of hf
 obtain ⟨ha0, ha1⟩ := ha
 simp only [Int.toNat_natCast] at ha1
 obtain ⟨m, rfl⟩ := Int.eq_ofNat_of_zero_le ha0
 have h1 := List.all_eq_true.1 (h _ hq) m (List.mem_range.2 (by exact_mod_cast ha1))
 exact eq_of_beq h1
def mulFacts (d p : Nat) : Bool := (List.range (2 ^ d)).all fun a => (List.range (2 ^ d)).all fun b => Nat.blt (mulN p a b) (2 ^ d) && Nat.beq (mulN p a b) (mulN p b a)
def invFacts (d p : Nat) : Bool := (List.range (2 ^ d)).all fun a => Nat.blt (invN d p a) (2 ^ d) && (Nat.beq a 0 || Nat.beq (mulN p a (invN d p a)) 1)
set_option maxRecDepth 100000 in
theorem mulFacts_all : (fieldN.all fun q => mulFacts q.1 q.2) = true := by kernel_rfl
set_option maxRecDepth 100000 in
theorem invFacts_all : (fieldN.all fun q => invFacts q.1 q.2) = true := by kernel_rfl
theorem mulI_facts {f : TF3} (hf : fieldOk f = true) {a b : Int} (ha : inF f a) (hb : inF f b) : inF f (mulI f a b) ∧ mulI f a b = mulI f b a := by
 obtain ⟨d, p, hq, rfl⟩ := fieldN_of hf
 obtain ⟨ha0, ha1⟩ := ha
 obtain ⟨hb0, hb1⟩ := hb
 simp only [Int.toNat_natCast] at ha1 hb1
 obtain ⟨m, rfl⟩ := Int.eq_ofNat_of_zero_le ha0
 obtain ⟨n, rfl⟩ := Int.eq_ofNat_of_zero_le hb0
 have h0 := List.all_eq_true.1 mulFacts_all _ hq
 have h1 := List.all_eq_true.1 (List.all_eq_true.1 h0 m (List.mem_range.2 (by exact_mod_cast ha1))) n (List.mem_range.2 (by exact_mod_cast hb1))
 rw [Bool.and_eq_true] at h1
 have h2 : mulN p m n < 2 ^ d := Nat.le_of_ble_eq_true h1.1
 have h3 : mulN p m n = mulN p n m := Nat.eq_of_beq_eq_true h1.2
 refine ⟨⟨Int.natCast_nonneg _, ?_⟩, ?_⟩
 ·show ((mulN p m n : Nat) : Int) < _
  simp only [Int.toNat_natCast]
  exact_mod_cast h2
 ·show ((mulN p m n : Nat) : Int) = ((mulN p n m : Nat) : Int)
  rw [h3]
theorem invI_facts {f : TF3} (hf : fieldOk f = true) {a : Int} (ha : inF f a) : inF f (invI f a) ∧ (a ≠ 0 → mulI f a (invI f a) = 1) := by
 obtain ⟨d, p, hq, rfl⟩ := fieldN_of hf
 obtain ⟨ha0, ha1⟩ := ha
 simp only [Int.toNat_natCast] at ha1
 obtain ⟨m, rfl⟩ := Int.eq_ofNat_of_zero_le ha0
 have h0 := List.all_eq_true.1 invFacts_all _ hq
 have h1 := List.all_eq_true.1 h0 m (List.mem_range.2 (by exact_mod_cast ha1))
 rw [Bool.and_eq_true, Bool.or_eq_true] at h1
 have h2 : invN d p m < 2 ^ d := Nat.le_of_ble_eq_true h1.1
 refine ⟨⟨Int.natCast_nonneg _, ?_⟩, fun hne => ?_⟩
 ·show ((invN d p m : Nat) : Int) < _
  simp only [Int.toNat_natCast]
  exact_mod_cast h2
 ·rcases h1.2 with h | h
  ·exact absurd (by rw [Nat.eq_of_beq_eq_true h]; rfl) hne
  ·show ((mulN p m (invN d p m) : Nat) : Int) = 1
   rw [Nat.eq_of_beq_eq_true h]; rfl
end Go.Proofs.Ytkgekgfmnhccmaa

namespace Go.Proofs.Ytkgekgfmnhccmaa
open Go Go.Abs Go.Proofs
-- shared
def addV (f : TF3) (u w : List Int) (x : Int) : List Int := (u.zip w).map fun p => ixor .i64 p.1 (mulI f p.2 x)
theorem foldE_app {α β γ : Type} (g : α → γ) (fin : List γ → β) : ∀ (l : List α) (i : Nat) (acc : List γ), foldE (fun _ acc x => (.inl (acc ++ [g x]) : List γ ⊕ β)) fin i acc l = fin (acc ++ l.map g) := by
 intro l
 induction l with
 | nil => intro i acc; simp only [foldE, List.map_nil, List.append_nil]
 | cons y l ih => intro i acc; simp only [foldE]; rw [ih]; simp
end Go.Proofs.Ytkgekgfmnhccmaa

namespace Go.Proofs.Ytkgekgfmnhccmaa
open Go Go.Abs Go.Proofs
-- shared
theorem fld_deg {f : TF3} (hf : fieldOk f = true) : 1 ≤ f.1.toNat ∧ f.1.toNat ≤ 5 := by
 obtain ⟨d, p, hq, rfl⟩ := fieldN_of hf
 have : ∀ q ∈ fieldN, 1 ≤ q.1 ∧ q.1 ≤ 5 := by decide
 exact this _ hq
theorem inF_nat {f : TF3} (hf : fieldOk f = true) {a : Int} (h : inF f a) : ∃ n : Nat, a = (n : Int) ∧ n < 2 ^ f.1.toNat ∧ n < 2 ^ 63 := by
 obtain ⟨h0, h1⟩ := h
 have hd := (fld_deg hf).2
 have hp : 2 ^ f.1.toNat ≤ 2 ^ 5 := Nat.pow_le_pow_right (by omega) hd
 refine ⟨a.toNat, by omega, by omega, by omega⟩
theorem inF_zero {f : TF3} : inF f 0 := ⟨Int.le_refl 0, by exact_mod_cast Nat.two_pow_pos _⟩
theorem inF_one {f : TF3} (hf : fieldOk f = true) : inF f 1 := by
 have : 2 ^ 1 ≤ 2 ^ f.1.toNat := Nat.pow_le_pow_right (by omega) (fld_deg hf).1
 exact ⟨by omega, by omega⟩
theorem inF_xor {f : TF3} (hf : fieldOk f = true) {a b : Int} (ha : inF f a) (hb : inF f b) : inF f (ixor .i64 a b) := by
 obtain ⟨m, rfl, hm, hm2⟩ := inF_nat hf ha
 obtain ⟨n, rfl, hn, hn2⟩ := inF_nat hf hb
 rw [ixor_nat hm2 hn2]
 exact ⟨Int.natCast_nonneg _, by exact_mod_cast Nat.xor_lt_two_pow hm hn⟩
theorem zero_xorF {f : TF3} (hf : fieldOk f = true) {a : Int} (ha : inF f a) : ixor .i64 0 a = a := by
 obtain ⟨m, rfl, hm, hm2⟩ := inF_nat hf ha
 have := ixor_nat (a := 0) (b := m) (by omega) hm2
 rw [show ((0 : Nat) : Int) = 0 from rfl] at this
 rw [this, Nat.zero_xor]
def GR (f : TF3) (n : Nat) (L : List (List Int)) : Prop := ∀ r ∈ L, r.length = n ∧ ∀ y ∈ r, inF f y
def nzAt (c : Nat) (r : List Int) : Bool := match r[c]? with
 | some x => !decide (x = 0)
 | none => false
def clearV (f : TF3) (c k : Nat) (own : List Int) (i : Nat) (r : List Int) : List Int := match r[c]? with
 | some x => bif decide (i = k) || decide (x = 0) then r else (r.zip own).map fun p => ixor .i64 p.1 (mulI f x p.2)
 | none => r
def scaleV (f : TF3) (c : Nat) (row : List Int) : List Int := match row[c]? with
 | some x => row.map fun y => mulI f y (invI f x)
 | none => row
def pivL (f : TF3) (c k a : Nat) (L : List (List Int)) : List (List Int) := match L[k]?, L[a]? with
 | some row, some r0 => (L.set k r0).set a (scaleV f c row)
 | _, _ => L
def clearL (f : TF3) (c a : Nat) (L : List (List Int)) : List (List Int) := match L[a]? with
 | some own => L.mapIdx (clearV f c a own)
 | none => L
def echStep (f : TF3) (c : Nat) (s : Nat × List (List Int)) : Nat × List (List Int) :=
 bif decide (idxI (nzAt c) s.1 (s.2.drop s.1) < 0) then s else (s.1 + 1, clearL f c s.1 (pivL f c (idxI (nzAt c) s.1 (s.2.drop s.1)).toNat s.1 s.2))
def echFrom (f : TF3) : Nat → Nat → Nat × List (List Int) → Nat × List (List Int)
 | _, 0, s => s
 | c, m + 1, s => echFrom f (c + 1) m (echStep f c s)
def echV (f : TF3) (n : Nat) (L : List (List Int)) : List (List Int) := (echFrom f 0 n (0, L)).2.take (echFrom f 0 n (0, L)).1
theorem nzAt_of {c : Nat} {r : List Int} (h : nzAt c r = true) : ∃ x, r[c]? = some x ∧ x ≠ 0 := by
 unfold nzAt at h
 split at h
 ·exact ⟨_, by assumption, by simpa using h⟩
 ·cases h
theorem GR_at {f : TF3} {n : Nat} {L : List (List Int)} (h : GR f n L) {i : Nat} {r : List Int} (hi : L[i]? = some r) : r.length = n ∧ ∀ y ∈ r, inF f y := h r (List.mem_of_getElem? hi)
theorem GR_set {f : TF3} {n : Nat} {L : List (List Int)} (h : GR f n L) {i : Nat} {r : List Int} (hr : r.length = n ∧ ∀ y ∈ r, inF f y) : GR f n (L.set i r) := by
 intro x hx
 rcases List.mem_or_eq_of_mem_set hx with hx | rfl
 ·exact h x hx
 ·exact hr
theorem scaleV_ok {f : TF3} (hf : fieldOk f = true) {n c : Nat} {r : List Int} (h : r.length = n ∧ ∀ y ∈ r, inF f y) : (scaleV f c r).length = n ∧ ∀ y ∈ scaleV f c r, inF f y := by
 unfold scaleV
 split
 ·rename_i x hx
  refine ⟨by simpa using h.1, fun y hy => ?_⟩
  obtain ⟨z, hz, rfl⟩ := List.mem_map.1 hy
  exact (mulI_facts hf (h.2 z hz) (invI_facts hf (h.2 x (List.mem_of_getElem? hx))).1).1
 ·exact h
theorem clearV_ok {f : TF3} (hf : fieldOk f = true) {n c k i : Nat} {own r : List Int} (ho : own.length = n ∧ ∀ y ∈ own, inF f y) (h : r.length = n ∧ ∀ y ∈ r, inF f y) : (clearV f c k own i r).length = n ∧ ∀ y ∈ clearV f c k own i r, inF f y := by
 unfold clearV
 split
 ·rename_i x hx
  cases decide (i = k) || decide (x = 0)
  ·rw [cond_false]
   refine ⟨by simp [h.1, ho.1], fun y hy => ?_⟩
   obtain ⟨p, hp, rfl⟩ := List.mem_map.1 hy
   have h1 := List.of_mem_zip (a := p.1) (b := p.2) hp
   exact inF_xor hf (h.2 _ h1.1) (mulI_facts hf (h.2 x (List.mem_of_getElem? hx)) (ho.2 _ h1.2)).1
  ·exact h
 ·exact h
theorem pivL_ok {f : TF3} (hf : fieldOk f = true) {n c k a : Nat} {L : List (List Int)} (h : GR f n L) : GR f n (pivL f c k a L) ∧ (pivL f c k a L).length = L.length := by
 unfold pivL
 split
 ·rename_i row r0 h1 h2
  exact ⟨GR_set (GR_set h (GR_at h h2)) (scaleV_ok hf (GR_at h h1)), by simp⟩
 ·exact ⟨h, rfl⟩
theorem clearL_ok {f : TF3} (hf : fieldOk f = true) {n c a : Nat} {L : List (List Int)} (h : GR f n L) : GR f n (clearL f c a L) ∧ (clearL f c a L).length = L.length := by
 unfold clearL
 split
 ·rename_i own h1
  refine ⟨fun r hr => ?_, by simp⟩
  obtain ⟨i, hi, rfl⟩ := List.mem_mapIdx.1 hr
  exact clearV_ok hf (GR_at h h1) (h _ (List.getElem_mem hi))
 ·exact ⟨h, rfl⟩
theorem echStep_ok {f : TF3} (hf : fieldOk f = true) {n c : Nat} {s : Nat × List (List Int)} (h : GR f n s.2) (ha : s.1 ≤ s.2.length) : GR f n (echStep f c s).2 ∧ (echStep f c s).2.length = s.2.length ∧ (echStep f c s).1 ≤ s.2.length := by
 unfold echStep
 rcases idxI_cases (nzAt c) (s.2.drop s.1) s.1 with ⟨h1, _⟩ | ⟨k, x, h1, _, h3⟩
 ·rw [h1]; exact ⟨h, rfl, ha⟩
 ·rw [h3, decide_eq_false (by omega), cond_false]
  have hlt := (List.getElem?_eq_some_iff.1 h1).1
  rw [List.length_drop] at hlt
  have hp := pivL_ok (c := c) (k := ((s.1 + k : Nat) : Int).toNat) (a := s.1) hf h
  have hc := clearL_ok (c := c) (a := s.1) hf hp.1
  exact ⟨hc.1, by rw [hc.2, hp.2], by show s.1 + 1 ≤ _; omega⟩
theorem echFrom_ok {f : TF3} (hf : fieldOk f = true) {n : Nat} : ∀ (m c : Nat) (s : Nat × List (List Int)), GR f n s.2 → s.1 ≤ s.2.length → GR f n (echFrom f c m s).2 ∧ (echFrom f c m s).2.length = s.2.length ∧ (echFrom f c m s).1 ≤ s.2.length := by
 intro m
 induction m with
 | zero => intro c s h ha; exact ⟨h, rfl, ha⟩
 | succ m ih =>
  intro c s h ha
  have h1 := echStep_ok (c := c) hf h ha
  have h2 := ih (c + 1) _ h1.1 (by rw [h1.2.1]; exact h1.2.2)
  rw [h1.2.1] at h2
  exact h2
theorem echV_GR {f : TF3} (hf : fieldOk f = true) {n m : Nat} {L : List (List Int)} (h : GR f n L) : GR f n (echV f m L) := fun r hr => (echFrom_ok hf m 0 (0, L) h (Nat.zero_le _)).1 r (List.mem_of_mem_take hr)
theorem echV_len {f : TF3} (hf : fieldOk f = true) {n m : Nat} {L : List (List Int)} (h : GR f n L) : (echV f m L).length = (echFrom f 0 m (0, L)).1 := by
 have := echFrom_ok hf m 0 (0, L) h (Nat.zero_le _)
 unfold echV
 rw [List.length_take, this.2.1]
 exact Nat.min_eq_left this.2.2
theorem idxI_add {α : Type} (p : α → Bool) : ∀ (l : List α) (i j : Nat), idxI p (i + j) l = if idxI p j l < 0 then -1 else (i : Int) + idxI p j l := by
 intro l
 induction l with
 | nil => intro i j; rfl
 | cons x l ih =>
  intro i j
  rcases Bool.eq_false_or_eq_true (p x) with hp | hp
  ·have e1 : idxI p (i + j) (x :: l) = ((i + j : Nat) : Int) := by simp only [idxI, hp, cond_true]
   have e2 : idxI p j (x :: l) = (j : Int) := by simp only [idxI, hp, cond_true]
   rw [e1, e2, if_neg (by omega)]
   omega
  ·have e1 : idxI p (i + j) (x :: l) = idxI p (i + (j + 1)) l := by simp only [idxI, hp, cond_false]; rfl
   have e2 : idxI p j (x :: l) = idxI p (j + 1) l := by simp only [idxI, hp, cond_false]
   rw [e1, e2]
   exact ih i (j + 1)
theorem foldE_seti {α β γ : Type} (g : Nat → α → γ) (fin : List γ → β) : ∀ (l : List α) (i : Nat) (acc : List γ), acc.length = i + l.length → foldE (fun i acc x => (.inl (acc.set i (g i x)) : List γ ⊕ β)) fin i acc l = fin (acc.take i ++ l.mapIdx fun j x => g (i + j) x) := by
 intro l
 induction l with
 | nil => intro i acc h; simp only [foldE, List.mapIdx_nil, List.append_nil]; rw [List.take_of_length_le (by simp at h; omega)]
 | cons x l ih =>
  intro i acc h
  simp only [List.length_cons] at h
  simp only [foldE]
  rw [ih (i + 1) _ (by simp; omega), List.take_add_one, List.mapIdx_cons]
  simp [show i < acc.length by omega, List.take_set_of_le (Nat.le_refl i), Nat.add_assoc, Nat.add_comm 1]
end Go.Proofs.Ytkgekgfmnhccmaa

namespace Go.Proofs.Ytkgekgfmnhccmaa
open Go Go.Abs Go.Proofs
noncomputable def s_l04DrawWord_34ae_l3 (h3_0_0 : Int) (h3_0_3 : (Int × (Int × Unit))) : (Int × TL00Src × (List Int)) → Tre ((Int × TL00Src × (List Int)) ⊕ (TL00Src × (List Int))) := fun s3 =>
 .cond (decide (s3.1 < h3_0_0))
  (.mat (s_l01Size_F h3_0_3) fun r1 =>
  .mat (s_l00Src_pick_9f69_F r1 s3.2.1) fun r2 =>
  .ite ((s3.2.2.length + 1) * 8 ≤ appendMax ∧ 1 ≤ 8) <|
  .ret (.inl (iwrap .i64 (s3.1 + 1), r2.2, s3.2.2 ++ ([r2.1]))))
  (.ret (.inr (s3.2.1, s3.2.2)))
noncomputable def s_l04DrawWord_34ae (p0 : (Int × (Int × Unit))) (p1 : Int) (p2 : TL00Src) : Tre (TL00Src × (List Int)) :=
 .mat (loopF (s_l04DrawWord_34ae_l3 p1 p0) (0, p2, [])) fun l3 =>
 .cond (decide (p1 > 1))
  (.mat (s_l00Src_one_9f69_F 3 l3.1) fun r4 =>
  .cond r4.1
   (.ite (0 ≤ (0 : Int) ∧ (0 : Int) < (l3.2.length : Int)) <|
   .mat (l3.2[0]?) fun x5 =>
   .ite (0 ≤ iwrap .i64 (p1 - 1) ∧ iwrap .i64 (p1 - 1) < (l3.2.length : Int)) <|
   .mat (l3.2[(iwrap .i64 (p1 - 1)).toNat]?) fun _ =>
   let v7 := l3.2.set ((iwrap .i64 (p1 - 1)).toNat) x5
   .ret (r4.2, v7))
   (.ret (r4.2, l3.2)))
  (.ret (l3.1, l3.2))
noncomputable def s_l04DrawWord_34ae_F (p0 : (Int × (Int × Unit))) (p1 : Int) (p2 : TL00Src) : Option (TL00Src × (List Int)) := (s_l04DrawWord_34ae p0 p1 p2).run some
-- more
theorem size_is {f : TF3} (hf : fieldOk f = true) : s_l01Size_F f = some (topF f + 1) := by
 have h1 := fieldOk_deg hf
 have h2 := topF_is hf
 have h3 := topF_le hf
 have h4 : s_l01Size_F f = some (ishl .i64 1 (iwrap .u64 f.1)) := by
  unfold s_l01Size_F s_l01Size
  rw [Tre.run_ite, if_pos (iwrap_u64_nonneg _)]
  rfl
 have h5 : -9223372036854775808 ≤ ishl .i64 1 (iwrap .u64 f.1) - 1 ∧ ishl .i64 1 (iwrap .u64 f.1) - 1 ≤ 9223372036854775807 := by
  obtain ⟨n, hn⟩ := Int.eq_ofNat_of_zero_le (show 0 ≤ f.1 by omega)
  rw [hn]
  have : ∀ n : Nat, n < 6 → -9223372036854775808 ≤ ishl .i64 1 (iwrap .u64 (n : Int)) - 1 ∧ ishl .i64 1 (iwrap .u64 (n : Int)) - 1 ≤ 9223372036854775807 := by decide
  exact this n (by omega)
 rw [iwrap_i64 h5.1 h5.2] at h2
 rw [h4]
 congr 1
 omega
theorem inF_top {f : TF3} {x : Int} (h0 : 0 ≤ x) (h : x ≤ topF f) : inF f x := by
 unfold topF at h
 refine ⟨h0, ?_⟩
 push_cast
 omega
theorem drawWord_loop {f : TF3} (hf : fieldOk f = true) {M : Nat} (hM : M ≤ 1000) : ∀ (m i : Nat) {c : Nat} {s : Src} {l : List Int}, i + m = M → srcOK c s → c + 2 * m ≤ 80000 → l.length = i → (∀ x ∈ l, inF f x) →
  ∃ r, loopF (s_l04DrawWord_34ae_l3 (M : Int) f) ((i : Int), s, l) = some r ∧ (srcOK (c + 2 * m) r.1 ∧ r.2.length = M ∧ ∀ x ∈ r.2, inF f x) := by
 intro m
 have ht := topF_le hf
 induction m with
 | zero =>
  intro i c s l hi hs _ hl ha
  have hi : i = M := hi
  refine ⟨(s, l), loopF_done ?_, hs, by show l.length = M; omega, ha⟩
  subst hi
  unfold s_l04DrawWord_34ae_l3
  rw [Tre.run_cond, decide_eq_false (by omega), cond_false, Tre.run_ret]
 | succ m ih =>
  intro i c s l hi hs hc hl ha
  obtain ⟨r, hr, ⟨hr0, hr1⟩, hr2⟩ := pick_ok (n := topF f + 1) hs (by omega)
  have hstep : (s_l04DrawWord_34ae_l3 (M : Int) f ((i : Int), s, l)).run some = some (.inl (((i + 1 : Nat) : Int), r.2, l ++ [r.1])) := by
   unfold s_l04DrawWord_34ae_l3
   rw [Tre.run_cond, decide_eq_true (by show (i : Int) < (M : Int); omega), cond_true, run_some_mat (size_is hf)]
   dsimp only
   rw [run_some_mat hr, Tre.run_ite, if_pos (by unfold appendMax; omega), Tre.run_ret, iwrap_succ (by omega)]
  rw [loopF_step hstep]
  obtain ⟨q, hq1, hq2, hq3⟩ := ih (i + 1) (l := l ++ [r.1]) (by omega) hr2 (by omega) (by simp; omega) (fun x hx => by
   rcases List.mem_append.1 hx with hx | hx
   ·exact ha x hx
   ·simp only [List.mem_singleton] at hx; subst hx; exact inF_top hr0 (by omega))
  exact ⟨q, hq1, hq2.mono (by omega), hq3⟩
theorem drawWord_ok {f : TF3} (hf : fieldOk f = true) {M : Nat} (h1 : 1 ≤ M) (hM : M ≤ 1000) {c : Nat} {s : Src} (hs : srcOK c s) (hc : c + 2 * M ≤ 70000) : ∃ r, s_l04DrawWord_34ae_F f (M : Int) s = some r ∧ (srcOK (c + 2 * M + 2) r.1 ∧ r.2.length = M ∧ ∀ x ∈ r.2, inF f x) := by
 obtain ⟨r, hr, h2, h3, h4⟩ := drawWord_loop hf hM M 0 (l := []) (by omega) hs (by omega) rfl (fun x hx => by cases hx)
 unfold s_l04DrawWord_34ae_F s_l04DrawWord_34ae
 have hr : loopF (s_l04DrawWord_34ae_l3 (M : Int) f) (0, s, []) = some r := hr
 refine Fine.run (Fine.get hr (Fine.condp (fun hgt => Fine.mat (one_ok h2 (by omega)) fun b hb => Fine.cond (fun _ => Fine.ite ⟨Int.le_refl _, by omega⟩ fun _ => Fine.at0 (by omega) fun x hx => ?_) (fun _ => .ret ⟨hb, h3, h4⟩)) (fun _ => .ret ⟨h2.mono (by omega), h3, h4⟩)))
 have hw : iwrap .i64 ((M : Int) - 1) = (M : Int) - 1 := iwrap_i64 (by omega) (by omega)
 rw [hw]
 refine Fine.ite (by omega) fun hi => Fine.at hi fun y hy => .ret ⟨hb, by simp [h3], fun z hz => ?_⟩
 rcases List.mem_or_eq_of_mem_set hz with hz | rfl
 ·exact h4 z hz
 ·exact h4 _ hx
noncomputable def s_l04DrawWord_34ae_V : Env := ⟨tau, [(86, s_l01Size_c), (39, s_l00Src_pick_9f69_c), (85, s_l00Src_one_9f69_c)], []⟩
noncomputable def s_l04DrawWord_34ae_b : Code := (Try.f40.body).getD .skip
noncomputable def s_l04DrawWord_34ae_l3_mk (z3_0 : Bool) (h3_0_0 : Int) (h3_0_3 : (Int × (Int × Unit))) : (Int × TL00Src × (List Int)) → St := fun x => stOf [(0, (.ptr (0, 0) [])), (2, (.imm true (.int .i64) h3_0_0)), (4, (.ptr (6, 0) [])), (7, (.ref (9, 0) [])), (8, (.imm true (.int .i64) x.1))] [((0, 0), some ⟨true, kL00Src, (.imm z3_0), x.2.1⟩), ((6, 0), some ⟨true, kField, .own, h3_0_3⟩), ((9, 0), some ⟨false, (.sl (.int .i64)), .own, x.2.2⟩)]
noncomputable def s_l04DrawWord_34ae_l3_out (z3_0 : Bool) (h3_0_0 : Int) (_h3_0_3 : (Int × (Int × Unit))) : (TL00Src × (List Int)) → Ex × St := fun x => (.exit 0, stOf [(0, (.ptr (0, 0) [])), (2, (.imm true (.int .i64) h3_0_0)), (7, (.ref (9, 0) []))] [((0, 0), some ⟨true, kL00Src, (.imm z3_0), x.1⟩), ((9, 0), some ⟨false, (.sl (.int .i64)), .own, x.2⟩)])
noncomputable def s_l04DrawWord_34ae_l3_D (s : St) : Tre (Ex × St) :=
 asPtr (0, 0) [] (s.tmps 0) <|
 asImmZ true (.int .i64) (s.tmps 2) fun d3 =>
 asPtr (6, 0) [] (s.tmps 4) <|
 asRef (9, 0) [] (s.tmps 7) <|
 asImmZ true (.int .i64) (s.tmps 8) fun d7 =>
 asRoot true kL00Src (s.roots (0, 0)) fun m9 d10 =>
 asMImm m9 fun z11 =>
 asRoot true kField (s.roots (6, 0)) fun m13 d14 =>
 asM .own m13 <|
 asRoot false (.sl (.int .i64)) (s.roots (9, 0)) fun m16 d17 =>
 asM .own m16 <|
 .mat (loopF (s_l04DrawWord_34ae_l3 d3 d14) (d7, d10, d17)) fun x => .ret (s_l04DrawWord_34ae_l3_out z11 d3 d14 x)
noncomputable def s_l04DrawWord_34ae_l3_L : LoopI := ⟨([0, 2, 4, 7, 8], [(0, 0), (6, 0), (9, 0)]), ([0, 2, 7], [(0, 0), (9, 0)]), s_l04DrawWord_34ae_l3_D⟩
noncomputable def s_l04DrawWord_34ae_A : List (Nat × LoopI) := [(3, s_l04DrawWord_34ae_l3_L)]
set_option maxRecDepth 100000 in
theorem s_l04DrawWord_34ae_l3_step : ∀ (z3_0 : Bool) (h3_0_0 : Int) (h3_0_3 : (Int × (Int × Unit))) (x : (Int × TL00Src × (List Int))) (c : St → Option (Ex × St)), den s_l04DrawWord_34ae_V s_l04DrawWord_34ae_A (loopAt s_l04DrawWord_34ae_b 0) (s_l04DrawWord_34ae_l3_mk z3_0 h3_0_0 h3_0_3 x) (roundK s_l04DrawWord_34ae_l3_L.kp s_l04DrawWord_34ae_l3_L.kx c) = (s_l04DrawWord_34ae_l3 h3_0_0 h3_0_3 x).run (roundR (s_l04DrawWord_34ae_l3_mk z3_0 h3_0_0 h3_0_3) (s_l04DrawWord_34ae_l3_out z3_0 h3_0_0 h3_0_3) c) := fun _ _ _ _ _ => by
 kernel_rfl
theorem s_l04DrawWord_34ae_l3_ok : LoopOK s_l04DrawWord_34ae_V s_l04DrawWord_34ae_A (loopAt s_l04DrawWord_34ae_b 0) s_l04DrawWord_34ae_l3_L := loopOK_of fun s e s' h => by
 generalize hs : restrict s_l04DrawWord_34ae_l3_L.kp s = s1 at h
 have h : (s_l04DrawWord_34ae_l3_D s1).run some = some (e, s') := h
 obtain ⟨e1, h_0⟩ := asPtr_spec h
 obtain ⟨d3, e2, h_1⟩ := asImmZ_spec h_0
 obtain ⟨e4, h_2⟩ := asPtr_spec h_1
 obtain ⟨e5, h_3⟩ := asRef_spec h_2
 obtain ⟨d7, e6, h_4⟩ := asImmZ_spec h_3
 obtain ⟨m9, d10, e8, h_5⟩ := asRoot_spec h_4
 obtain ⟨z11, rfl, h_6⟩ := asMImm_spec h_5
 obtain ⟨m13, d14, e12, h_7⟩ := asRoot_spec h_6
 obtain ⟨rfl, h_8⟩ := asM_spec h_7
 obtain ⟨m16, d17, e15, h_9⟩ := asRoot_spec h_8
 obtain ⟨rfl, h_10⟩ := asM_spec h_9
 obtain ⟨y, hy, hz⟩ := mat_ret h_10
 refine ⟨_, _, s_l04DrawWord_34ae_l3_mk z11 d3 d14, s_l04DrawWord_34ae_l3_out z11 d3 d14, s_l04DrawWord_34ae_l3 d3 d14, (d7, d10, d17), y, ?_, hy, ?_, s_l04DrawWord_34ae_l3_step z11 d3 d14⟩
 ·subst hs; exact restrict_eq (T := [(0, (.ptr (0, 0) [])), (2, (.imm true (.int .i64) d3)), (4, (.ptr (6, 0) [])), (7, (.ref (9, 0) [])), (8, (.imm true (.int .i64) d7))]) (U := [((0, 0), some ⟨true, kL00Src, (.imm z11), d10⟩), ((6, 0), some ⟨true, kField, .own, d14⟩), ((9, 0), some ⟨false, (.sl (.int .i64)), .own, d17⟩)]) rfl rfl ⟨e1, e2, e4, e5, e6, trivial⟩ ⟨e8, e12, e15, trivial⟩
 ·exact Option.some.inj hz
noncomputable def s_l04DrawWord_34ae_I : FnI := ⟨s_l04DrawWord_34ae_b, Try.f40.results.toList, Try.f40.resultTypes.toList, s_l04DrawWord_34ae_A⟩
noncomputable def s_l04DrawWord_34ae_out (zp0 : Bool) (_p0 : (Int × (Int × Unit))) (_p1 : Int) (_p2 : TL00Src) : (TL00Src × (List Int)) → CallOut := fun r => ⟨(.ref (1, 0) []), [⟨true, kL00Src, (.imm zp0), r.1⟩], [⟨false, (.sl (.int .i64)), .own, r.2⟩]⟩
set_option maxRecDepth 100000 in
theorem s_l04DrawWord_34ae_eq : ∀ (zp0 : Bool) (p0 : (Int × (Int × Unit))) (p1 : Int) (p2 : TL00Src), denFn s_l04DrawWord_34ae_V s_l04DrawWord_34ae_I ⟨[(.ptr (0, 0) []), (.imm true kField p0), (.imm true (.int .i64) p1)], [⟨true, kL00Src, (.imm zp0), p2⟩]⟩ = (s_l04DrawWord_34ae p0 p1 p2).run fun r => some (s_l04DrawWord_34ae_out zp0 p0 p1 p2 r) := fun _ _ _ _ => by kernel_rfl
noncomputable def s_l04DrawWord_34ae_G (av : List AV) (rs : List Root) : Tre CallOut :=
 asCons av fun a0_ av0 =>
 asCons av0 fun a1_ av1 =>
 asCons av1 fun a2_ av2 =>
 asEnd av2 <|
 asCons rs fun r0_ rs0 =>
 asEnd rs0 <|
 asPtr (0, 0) [] a0_ <|
 asImmZ true kField a1_ fun d1 =>
 asImmZ true (.int .i64) a2_ fun d2 =>
 asRt true kL00Src r0_ fun m3 d4 =>
 asMImm m3 fun z5 =>
 .mat (s_l04DrawWord_34ae_F d1 d2 d4) fun r => .ret (s_l04DrawWord_34ae_out z5 d1 d2 d4 r)
noncomputable def s_l04DrawWord_34ae_c : Ctr := ⟨[], fun ci => s_l04DrawWord_34ae_G ci.args ci.roots, false⟩
theorem s_l04DrawWord_34ae_env : EnvOK Try.prog .none s_l04DrawWord_34ae_V := (envOK_cons s_l01Size_ok ent86 (envOK_cons s_l00Src_pick_9f69_ok ent39 (envOK_cons s_l00Src_one_9f69_ok ent85 envOK_nil)))
set_option maxRecDepth 100000 in
theorem s_l04DrawWord_34ae_ok : Contract Try.prog .none 40 s_l04DrawWord_34ae_c := by
 have hl : LoopsOK s_l04DrawWord_34ae_V s_l04DrawWord_34ae_A s_l04DrawWord_34ae_b := (loopsOK_all (n := 1) (by kernel_rfl) fun k hk => by
   match k, hk with
   | 0, _ => exact loopOK_at (id := 3) (L := s_l04DrawWord_34ae_l3_L) (by kernel_rfl) (by kernel_rfl) s_l04DrawWord_34ae_l3_ok)
 refine (contract_of (F := s_l04DrawWord_34ae_I) tau_tys s_l04DrawWord_34ae_env Try.func40 (by kernel_rfl) (by kernel_rfl) (by kernel_rfl) hl []).weaken ?_
 rintro ⟨av, rs⟩ co h
 have h : (s_l04DrawWord_34ae_G av rs).run some = some co := h
 obtain ⟨a0_, av0, rfl, h_0⟩ := asCons_spec h
 obtain ⟨a1_, av1, rfl, h_1⟩ := asCons_spec h_0
 obtain ⟨a2_, av2, rfl, h_2⟩ := asCons_spec h_1
 obtain ⟨rfl, h_3⟩ := asEnd_spec h_2
 obtain ⟨r0_, rs0, rfl, h_4⟩ := asCons_spec h_3
 obtain ⟨rfl, h_5⟩ := asEnd_spec h_4
 obtain ⟨rfl, h_6⟩ := asPtr_spec h_5
 obtain ⟨d1, rfl, h_7⟩ := asImmZ_spec h_6
 obtain ⟨d2, rfl, h_8⟩ := asImmZ_spec h_7
 obtain ⟨m3, d4, rfl, h_9⟩ := asRt_spec h_8
 obtain ⟨z5, rfl, h_10⟩ := asMImm_spec h_9
 exact fin_mat (s_l04DrawWord_34ae_eq z5 d1 d2 d4) h_10
end Go.Proofs.Ytkgekgfmnhccmaa

namespace Go.Proofs.Ytkgekgfmnhccmaa
open Go Go.Abs Go.Proofs
noncomputable def s_P6Net (p0 : (List Int)) (p1 : Bool) : Tre ((Int × (Int × Unit)) × Int × Int × (List (List Int)) × (List (List Int))) :=
 .mat (s_l07Draw_2176_F p1 (p0, (0, (0, ())))) fun r1 =>
 .ret (r1.1, r1.2.1, r1.2.2.1, r1.2.2.2.2.1, r1.2.2.2.2.2)
noncomputable def s_P6Net_F (p0 : (List Int)) (p1 : Bool) : Option ((Int × (Int × Unit)) × Int × Int × (List (List Int)) × (List (List Int))) := (s_P6Net p0 p1).run some
-- more
def EdInv (N a : Int) (es : List (List Int)) : Prop := (∀ e ∈ es, ∃ x y, e = [x, y] ∧ 0 ≤ x ∧ x < y ∧ y ≤ N - 1 ∧ x < a) ∧ es.Pairwise (fun u v => e0 u ≤ e0 v) ∧ es.length ≤ 12
theorem EdInv.mono {N a a' : Int} {es : List (List Int)} (h : EdInv N a es) (ha : a ≤ a') : EdInv N a' es := by
 refine ⟨fun e he => ?_, h.2⟩
 obtain ⟨x, y, h1, h2, h3, h4, h5⟩ := h.1 e he
 exact ⟨x, y, h1, h2, h3, h4, by omega⟩
theorem EdInv.add {N a b : Int} {es : List (List Int)} (h : EdInv N (a + 1) es) (h0 : 0 ≤ a) (hab : a < b) (hb : b < N) (hl : es.length < 12) : EdInv N (a + 1) (es ++ [[a, b]]) := by
 refine ⟨fun e he => ?_, ?_, by simp; omega⟩
 ·rcases List.mem_append.1 he with he | he
  ·exact h.1 e he
  ·rw [List.mem_singleton.1 he]; exact ⟨a, b, rfl, h0, hab, by omega, by omega⟩
 ·refine List.pairwise_append.2 ⟨h.2.1, List.pairwise_singleton _ _, fun u hu v hv => ?_⟩
  rw [List.mem_singleton.1 hv]
  obtain ⟨x, y, rfl, _, _, _, h5⟩ := h.1 u hu
  show x ≤ a
  omega
theorem draw_many {N a b : Int} {f : TF3} {M : Int} {cs : List (List Int)} (h0 : 0 ≤ a) (hab : a < b) (hb : b < N) : ∀ (k : Nat) {c : Nat} {s : Src} {es : List (List Int)}, es.length + k = 12 → srcOK c s → c + 4 * (k + 1) ≤ 60000 → EdInv N (a + 1) es →
  ∃ r, loopF (s_l07Draw_2176_l10 a b) (s, (f, N, M, es, cs, ())) = some r ∧ (srcOK (c + 4 * (k + 1)) r.1 ∧ ∃ es', r.2 = (f, N, M, es', cs, ()) ∧ EdInv N (a + 1) es') := by
 intro k
 induction k with
 | zero =>
  intro c s es hl hs hc he
  obtain ⟨r, hr, hr2⟩ := one_ok (n := 2) hs (by omega)
  refine ⟨(r.2, (f, N, M, es, cs, ())), loopF_done ?_, hr2.mono (by omega), es, rfl, he⟩
  unfold s_l07Draw_2176_l10
  dsimp only
  rw [run_some_mat hr, Tre.run_cond]
  cases r.1
  ·rfl
  ·rw [cond_true, Tre.run_cond, decide_eq_false (by omega), cond_false]; rfl
 | succ k ih =>
  intro c s es hl hs hc he
  obtain ⟨r, hr, hr2⟩ := one_ok (n := 2) hs (by omega)
  rcases Bool.eq_false_or_eq_true r.1 with hb1 | hb1
  ·obtain ⟨q, hq, hq2⟩ := one_ok (n := 3) hr2 (by omega)
   have he2 := he.add h0 hab hb (by omega)
   rcases Bool.eq_false_or_eq_true q.1 with hb2 | hb2
   ·have hstep : (s_l07Draw_2176_l10 a b (s, (f, N, M, es, cs, ()))).run some = some (.inl (q.2, (f, N, M, es ++ [[a, b]], cs, ()))) := by
     unfold s_l07Draw_2176_l10
     dsimp only
     rw [run_some_mat hr, Tre.run_cond, hb1, cond_true, Tre.run_cond, decide_eq_true (by omega), cond_true, Tre.run_ite, if_pos (by unfold appendMax; omega), run_some_mat hq, Tre.run_cond, hb2]
     rfl
    rw [loopF_step hstep]
    obtain ⟨w, hw1, hw2, hw3⟩ := ih (es := es ++ [[a, b]]) (by simp; omega) hq2 (by omega) he2
    exact ⟨w, hw1, hw2.mono (by omega), hw3⟩
   ·refine ⟨(q.2, (f, N, M, es ++ [[a, b]], cs, ())), loopF_done ?_, hq2.mono (by omega), _, rfl, he2⟩
    unfold s_l07Draw_2176_l10
    dsimp only
    rw [run_some_mat hr, Tre.run_cond, hb1, cond_true, Tre.run_cond, decide_eq_true (by omega), cond_true, Tre.run_ite, if_pos (by unfold appendMax; omega), run_some_mat hq, Tre.run_cond, hb2]
    rfl
  ·refine ⟨(r.2, (f, N, M, es, cs, ())), loopF_done ?_, hr2.mono (by omega), es, rfl, he⟩
   unfold s_l07Draw_2176_l10
   dsimp only
   rw [run_some_mat hr, Tre.run_cond, hb1]
   rfl
theorem draw_to {N : Nat} {a : Int} {f : TF3} {M : Int} {cs : List (List Int)} (h0 : 0 ≤ a) (hN : N ≤ 6) : ∀ (m b : Nat) {c : Nat} {s : Src} {es : List (List Int)}, b + m = N → a < (b : Int) → srcOK c s → c + 60 * m ≤ 50000 → EdInv (N : Int) (a + 1) es →
  ∃ r, loopF (s_l07Draw_2176_l8 a) ((b : Int), s, (f, (N : Int), M, es, cs, ())) = some r ∧ (srcOK (c + 60 * m) r.1 ∧ ∃ es', r.2 = (f, (N : Int), M, es', cs, ()) ∧ EdInv (N : Int) (a + 1) es') := by
 intro m
 induction m with
 | zero =>
  intro b c s es hb _ hs _ he
  have hb : b = N := hb
  refine ⟨(s, (f, (N : Int), M, es, cs, ())), loopF_done ?_, hs, es, rfl, he⟩
  unfold s_l07Draw_2176_l8
  dsimp only
  rw [Tre.run_cond, decide_eq_false (by omega), cond_false]
  rfl
 | succ m ih =>
  intro b c s es hb hab hs hc he
  obtain ⟨r, hr, hr1, es', hr2, he'⟩ := draw_many (f := f) (M := M) (cs := cs) h0 hab (show (b : Int) < (N : Int) by omega) (12 - es.length) (by have := he.2.2; omega) hs (by omega) he
  have hstep : (s_l07Draw_2176_l8 a ((b : Int), s, (f, (N : Int), M, es, cs, ()))).run some = some (.inl (((b + 1 : Nat) : Int), r.1, (f, (N : Int), M, es', cs, ()))) := by
   unfold s_l07Draw_2176_l8
   dsimp only
   rw [Tre.run_cond, decide_eq_true (by omega), cond_true, run_some_mat hr, Tre.run_ret, iwrap_succ (by omega), hr2]
  rw [loopF_step hstep]
  obtain ⟨w, hw1, hw2, hw3⟩ := ih (b + 1) (by omega) (by omega) (hr1.mono (c' := c + 60) (by omega)) (by omega) he'
  exact ⟨w, hw1, hw2.mono (by omega), hw3⟩
theorem draw_edges {N : Nat} {f : TF3} {M : Int} {cs : List (List Int)} (h1 : 1 ≤ N) (hN : N ≤ 6) : ∀ (m a : Nat) {c : Nat} {s : Src} {es : List (List Int)}, a + m = N - 1 → srcOK c s → c + 360 * m ≤ 40000 → EdInv (N : Int) (a : Int) es →
  ∃ r, loopF s_l07Draw_2176_l5 ((a : Int), s, (f, (N : Int), M, es, cs, ())) = some r ∧ (srcOK (c + 360 * m) r.1 ∧ ∃ es', r.2 = (f, (N : Int), M, es', cs, ()) ∧ EdInv (N : Int) (N : Int) es') := by
 intro m
 have hw : iwrap .i64 ((N : Int) - 1) = (N : Int) - 1 := iwrap_i64 (by omega) (by omega)
 induction m with
 | zero =>
  intro a c s es ha hs _ he
  have ha : a = N - 1 := ha
  refine ⟨(s, (f, (N : Int), M, es, cs, ())), loopF_done ?_, hs, es, rfl, he.mono (by omega)⟩
  unfold s_l07Draw_2176_l5
  dsimp only
  rw [hw, Tre.run_cond, decide_eq_false (by omega), cond_false]
  rfl
 | succ m ih =>
  intro a c s es ha hs hc he
  obtain ⟨r, hr, hr1, es', hr2, he'⟩ := draw_to (N := N) (a := (a : Int)) (f := f) (M := M) (cs := cs) (by omega) hN (N - (a + 1)) (a + 1) (by omega) (by omega) hs (by omega) (he.mono (by omega))
  have hstep : (s_l07Draw_2176_l5 ((a : Int), s, (f, (N : Int), M, es, cs, ()))).run some = some (.inl (((a + 1 : Nat) : Int), r.1, (f, (N : Int), M, es', cs, ()))) := by
   unfold s_l07Draw_2176_l5
   dsimp only
   rw [hw, Tre.run_cond, decide_eq_true (by omega), cond_true, iwrap_succ (by omega), run_some_mat hr, Tre.run_ret, hr2]
  rw [loopF_step hstep]
  obtain ⟨w, hw1, hw2, hw3⟩ := ih (a + 1) (by omega) (hr1.mono (c' := c + 360) (by omega)) (by omega) (by rw [show ((a + 1 : Nat) : Int) = (a : Int) + 1 by omega]; exact he')
  exact ⟨w, hw1, hw2.mono (by omega), hw3⟩
theorem draw_list {n : TN6} (hf : fieldOk n.1 = true) {H : Nat} (hH : H ≤ 100) : ∀ (m : Nat) {c : Nat} {s : Src} {l : List Int}, l.length + m = H → srcOK c s → c + 2 * m ≤ 60000 → (∀ x ∈ l, inF n.1 x) →
  ∃ r, loopF (s_l07Draw_2176_l18 false n) ((m : Int), s, l) = some r ∧ (srcOK (c + 2 * m) r.1 ∧ r.2.length = H ∧ ∀ x ∈ r.2, inF n.1 x) := by
 intro m
 induction m with
 | zero =>
  intro c s l hl hs _ ha
  refine ⟨(s, l), loopF_done ?_, hs, hl, ha⟩
  unfold s_l07Draw_2176_l18
  dsimp only
  rw [Tre.run_cond, decide_eq_false (by omega), cond_false]
  rfl
 | succ m ih =>
  intro c s l hl hs hc ha
  obtain ⟨r, hr, ⟨hr0, hr1⟩, hr2⟩ := pick_ok (n := topF n.1 + 1) hs (by omega)
  have ht := topF_le hf
  have hstep : (s_l07Draw_2176_l18 false n (((m + 1 : Nat) : Int), s, l)).run some = some (.inl ((m : Int), r.2, l ++ [r.1])) := by
   unfold s_l07Draw_2176_l18
   dsimp only
   rw [Tre.run_cond, decide_eq_true (by omega), cond_true, Tre.run_cond, cond_false, run_some_mat (size_is hf), run_some_mat hr, Tre.run_ite, if_pos (by unfold appendMax; omega), Tre.run_ret, iwrap_i64 (by omega) (by omega)]
   rw [show ((m + 1 : Nat) : Int) - 1 = (m : Int) by omega]
  rw [loopF_step hstep]
  obtain ⟨w, hw1, hw2, hw3⟩ := ih (l := l ++ [r.1]) (by simp; omega) hr2 (by omega) (fun x hx => by
   rcases List.mem_append.1 hx with hx | hx
   ·exact ha x hx
   ·rw [List.mem_singleton.1 hx]; exact inF_top hr0 (by omega))
  exact ⟨w, hw1, hw2.mono (by omega), hw3⟩
def CoInv (f : TF3) (N M : Int) (es cs : List (List Int)) : Prop := ∀ i c, cs[i]? = some c → (c.length : Int) = hasV (f, N, M, es, cs, ()) (e0 (es.getD i [])) ∧ ∀ x ∈ c, inF f x
theorem draw_coefs {f : TF3} {N M : Int} {es : List (List Int)} (hf : fieldOk f = true) (hM : 0 ≤ M ∧ M ≤ 3) (hl : es.length ≤ 12) (h2 : ∀ e ∈ es, e.length = 2) : ∀ (m i : Nat) {c : Nat} {s : Src} {cs : List (List Int)}, i + m = es.length → cs.length = i → srcOK c s → c + 40 * m ≤ 50000 → CoInv f N M es cs →
  ∃ r, loopF (s_l07Draw_2176_l14 false) ((i : Int), s, (f, N, M, es, cs, ())) = some r ∧ ∃ cs', r.2 = (f, N, M, es, cs', ()) ∧ cs'.length = es.length ∧ CoInv f N M es cs' := by
 intro m
 induction m with
 | zero =>
  intro i c s cs hi hc hs _ hI
  have hi : i = es.length := hi
  refine ⟨(s, (f, N, M, es, cs, ())), loopF_done ?_, cs, rfl, by omega, hI⟩
  unfold s_l07Draw_2176_l14
  dsimp only
  rw [Tre.run_cond, decide_eq_false (by omega), cond_false]
  rfl
 | succ m ih =>
  intro i c s cs hi hc hs hcc hI
  have he := List.getElem?_eq_getElem (show i < es.length by omega)
  obtain ⟨x, y, hxy⟩ := len2 (h2 _ (List.mem_of_getElem? he))
  have hx0 : es[i][0]? = some (e0 es[i]) := by rw [hxy]; rfl
  have hH := hasV_le (f, N, M, es, cs, ()) hM.2 (by show es.length ≤ 14; omega) (e0 es[i])
  have hH0 : 0 ≤ hasV (f, N, M, es, cs, ()) (e0 es[i]) := by
   unfold hasV
   split
   ·exact hM.1
   ·omega
  obtain ⟨H, hHe⟩ := Int.eq_ofNat_of_zero_le hH0
  obtain ⟨r, hr, hr1, hr2, hr3⟩ := draw_list (n := (f, N, M, es, cs, ())) hf (H := H) (by omega) H (l := []) (by simp) hs (by omega) (fun z hz => absurd hz List.not_mem_nil)
  have hhas := s_l07Has_is (f, N, M, es, cs, ()) (by show es.length ≤ 14; omega) h2 (e0 es[i])
  rw [hHe] at hhas
  have hstep : (s_l07Draw_2176_l14 false ((i : Int), s, (f, N, M, es, cs, ()))).run some = some (.inl (((i + 1 : Nat) : Int), r.1, (f, N, M, es, cs ++ [r.2], ()))) := by
   unfold s_l07Draw_2176_l14
   dsimp only
   rw [Tre.run_cond, decide_eq_true (by omega), cond_true, Tre.run_ite, if_pos (by omega), Int.toNat_natCast, run_some_mat he, run_some_mat he, Tre.run_ite, if_pos (by rw [hxy]; exact ⟨by decide, by simp⟩), run_some_mat he, run_some_mat hx0, run_some_mat hhas, run_some_mat hr, Tre.run_ite, if_pos (by unfold appendMax; omega), Tre.run_ret, iwrap_succ (by omega)]
  rw [loopF_step hstep]
  obtain ⟨w, hw1, hw2⟩ := ih (i + 1) (cs := cs ++ [r.2]) (by omega) (by simp; omega) (hr1.mono (c' := c + 40) (by omega)) (by omega) (by
   intro j d hj
   rw [List.getElem?_append] at hj
   by_cases hjl : j < cs.length
   ·rw [if_pos hjl] at hj
    exact hI j d hj
   ·rw [if_neg hjl] at hj
    have := (List.getElem?_eq_some_iff.1 hj).1
    simp only [List.length_cons, List.length_nil] at this
    have hji : j = i := by omega
    subst hji
    rw [hc, Nat.sub_self] at hj
    simp only [List.getElem?_cons_zero, Option.some.injEq] at hj
    subst hj
    rw [getD_of he]
    refine ⟨?_, hr3⟩
    rw [hr2]
    exact hHe.symm)
  exact ⟨w, hw1, hw2⟩
theorem elsOk_of {f : TF3} {c : List Int} (h : ∀ x ∈ c, inF f x) : elsOk f c = true := by
 refine List.all_eq_true.2 fun x hx => inR_iff.2 ?_
 have := h x hx
 unfold topF
 refine ⟨this.1, ?_⟩
 have h2 := this.2
 push_cast at h2
 omega
theorem net_ok {code : List Int} (hl : code.length ≤ 5000) (hc : ∀ x ∈ code, 0 ≤ x ∧ x ≤ 255) : ∃ r, s_P6Net_F code false = some r ∧ NetP (r.1, r.2.1, r.2.2.1, r.2.2.2.1, r.2.2.2.2, ()) := by
 have h0 : srcOK 0 (code, 0, 0, ()) := ⟨hl, hc, Int.le_refl _, Int.le_refl _⟩
 unfold s_P6Net_F s_P6Net
 refine Fine.run (Fine.mat (P := fun r => NetP (r.1, r.2.1, r.2.2.1, r.2.2.2.2.1, r.2.2.2.2.2, ())) ?_ fun r hr => .ret hr)
 unfold s_l07Draw_2176_F s_l07Draw_2176
 refine Fine.run (Fine.mat (drawField_ok (m := 3) (by omega) (by omega) h0 (by omega)) fun a ha => Fine.mat (pick_ok ha.2 (by omega)) fun b hb => Fine.mat (pick_ok hb.2 (by omega)) fun d hd => Fine.cond (fun h => by cases h) fun _ => ?_)
 have w1 : iwrap .i64 (3 + b.1) = ((3 + b.1.toNat : Nat) : Int) := by rw [iwrap_i64 (by omega) (by omega)]; omega
 have w2 : iwrap .i64 (1 + d.1) = 1 + d.1 := iwrap_i64 (by omega) (by omega)
 rw [w1, w2]
 obtain ⟨r, hr, hr1, es, hr2, he⟩ := draw_edges (N := 3 + b.1.toNat) (f := a.1) (M := 1 + d.1) (cs := []) (by omega) (by omega) (3 + b.1.toNat - 1) 0 (es := []) (by omega) hd.2 (by omega) ⟨fun e he => absurd he List.not_mem_nil, List.Pairwise.nil, by simp⟩
 have hr : loopF s_l07Draw_2176_l5 (0, d.2, (a.1, ((3 + b.1.toNat : Nat) : Int), 1 + d.1, [], [], ())) = some r := hr
 refine Fine.get hr ?_
 rw [hr2]
 have h2 : ∀ e ∈ es, e.length = 2 := by
  intro e hm
  obtain ⟨x, y, rfl, _⟩ := he.1 e hm
  rfl
 obtain ⟨q, hq, cs, hq2, hcl, hI⟩ := draw_coefs (f := a.1) (N := ((3 + b.1.toNat : Nat) : Int)) (M := 1 + d.1) (es := es) ha.1.1 (by omega) he.2.2 h2 es.length 0 (cs := []) (by omega) rfl hr1 (by have := he.2.2; omega) (fun i c h => absurd h (by simp))
 have hq : loopF (s_l07Draw_2176_l14 false) (0, r.1, (a.1, ((3 + b.1.toNat : Nat) : Int), 1 + d.1, es, [], ())) = some q := hq
 refine Fine.get hq (.ret ?_)
 rw [hq2]
 show NetP (a.1, ((3 + b.1.toNat : Nat) : Int), 1 + d.1, es, cs, ())
 refine ⟨ha.1.1, ?_, ?_, ?_, hcl, fun i e hi => ?_, fun i c hi => ?_⟩
 ·show 2 ≤ ((3 + b.1.toNat : Nat) : Int) ∧ ((3 + b.1.toNat : Nat) : Int) ≤ 8
  omega
 ·show 1 ≤ 1 + d.1 ∧ 1 + d.1 ≤ 3
  omega
 ·have := he.2.2
  show es.length ≤ 14
  omega
 ·have hi : es[i]? = some e := hi
  obtain ⟨x, y, rfl, h1, h3, h4, h5⟩ := he.1 e (List.mem_of_getElem? hi)
  have hil := (List.getElem?_eq_some_iff.1 hi).1
  show edgeOk ((3 + b.1.toNat : Nat) : Int) es i [x, y] = true
  unfold edgeOk
  simp only [Bool.and_eq_true, Bool.or_eq_true, decide_eq_true_eq, inR_iff, e0, e1, List.getD_cons_zero, List.getD_cons_succ]
  refine ⟨rfl, ⟨⟨h1, by omega⟩, ⟨by omega, h4⟩, h3⟩, ?_⟩
  by_cases hi0 : i = 0
  ·exact .inl hi0
  ·right
   have hp := List.getElem?_eq_getElem (show i - 1 < es.length by omega)
   rw [getD_of hp]
   have := List.pairwise_iff_getElem.1 he.2.1 (i - 1) i (by omega) hil (by omega)
   rw [(List.getElem?_eq_some_iff.1 hi).2] at this
   exact this
 ·have hi : cs[i]? = some c := hi
  have := hI i c hi
  show coefOk (a.1, ((3 + b.1.toNat : Nat) : Int), 1 + d.1, es, cs, ()) i c = true
  unfold coefOk
  rw [Bool.and_eq_true, decide_eq_true_eq]
  exact ⟨this.1, elsOk_of this.2⟩
noncomputable def s_P6Net_V : Env := ⟨tau, [(38, s_l00From_c), (37, s_l07Draw_2176_c)], []⟩
noncomputable def s_P6Net_b : Code := (Try.f7.body).getD .skip
noncomputable def s_P6Net_I : FnI := ⟨s_P6Net_b, Try.f7.results.toList, Try.f7.resultTypes.toList, []⟩
noncomputable def s_P6Net_out (_zp0 : Bool) (_p0 : (List Int)) (_p1 : Bool) : ((Int × (Int × Unit)) × Int × Int × (List (List Int)) × (List (List Int))) → CallOut := fun r => ⟨(.pair (.imm true kField r.1) (.pair (.imm true (.int .i64) r.2.1) (.pair (.imm true (.int .i64) r.2.2.1) (.pair (.ref (1, 0) []) (.pair (.ref (1, 1) []) (.imm true .unit ())))))), [], [⟨false, (.sl (.sl (.int .i64))), .own, r.2.2.2.1⟩, ⟨false, (.sl (.sl (.int .i64))), .own, r.2.2.2.2⟩]⟩
set_option maxRecDepth 100000 in
theorem s_P6Net_eq : ∀ (zp0 : Bool) (p0 : (List Int)) (p1 : Bool), denFn s_P6Net_V s_P6Net_I ⟨[(.imm zp0 (.sl (.int .u8)) p0), (.imm true .bool p1)], []⟩ = (s_P6Net p0 p1).run fun r => some (s_P6Net_out zp0 p0 p1 r) := fun _ _ _ => by kernel_rfl
noncomputable def s_P6Net_G (av : List AV) (rs : List Root) : Tre CallOut :=
 asCons av fun a0_ av0 =>
 asCons av0 fun a1_ av1 =>
 asEnd av1 <|
 asEnd rs <|
 asImm (.sl (.int .u8)) a0_ fun z2 d1 =>
 asImmZ true .bool a1_ fun d3 =>
 .mat (s_P6Net_F d1 d3) fun r => .ret (s_P6Net_out z2 d1 d3 r)
noncomputable def s_P6Net_c : Ctr := ⟨[], fun ci => s_P6Net_G ci.args ci.roots, false⟩
theorem s_P6Net_env : EnvOK Try.prog .none s_P6Net_V := (envOK_cons s_l00From_ok ent38 (envOK_cons s_l07Draw_2176_ok ent37 envOK_nil))
set_option maxRecDepth 100000 in
theorem s_P6Net_ok : Contract Try.prog .none 7 s_P6Net_c := by
 have hl : LoopsOK s_P6Net_V [] s_P6Net_b := loopsOK_nil (by kernel_rfl)
 refine (contract_of (F := s_P6Net_I) tau_tys s_P6Net_env Try.func7 (by kernel_rfl) (by kernel_rfl) (by kernel_rfl) hl []).weaken ?_
 rintro ⟨av, rs⟩ co h
 have h : (s_P6Net_G av rs).run some = some co := h
 obtain ⟨a0_, av0, rfl, h_0⟩ := asCons_spec h
 obtain ⟨a1_, av1, rfl, h_1⟩ := asCons_spec h_0
 obtain ⟨rfl, h_2⟩ := asEnd_spec h_1
 obtain ⟨rfl, h_3⟩ := asEnd_spec h_2
 obtain ⟨z2, d1, rfl, h_4⟩ := asImm_spec h_3
 obtain ⟨d3, rfl, h_5⟩ := asImmZ_spec h_4
 exact fin_mat (s_P6Net_eq z2 d1 d3) h_5
end Go.Proofs.Ytkgekgfmnhccmaa

namespace Go.Proofs.Ytkgekgfmnhccmaa
open Go Go.Abs Go.Proofs
noncomputable def s_P6Pick (p0 : (List Int)) (p1 : Int) : Tre Int :=
 .mat (s_l00Src_pick_9f69_F p1 (p0, (0, (0, ())))) fun r1 =>
 .ret r1.1
noncomputable def s_P6Pick_F (p0 : (List Int)) (p1 : Int) : Option Int := (s_P6Pick p0 p1).run some
-- more
theorem p6pick_ok {code : List Int} (hl : code.length ≤ 5000) (hc : ∀ x ∈ code, 0 ≤ x ∧ x ≤ 255) (n : Int) : ∃ r, s_P6Pick_F code n = some r ∧ (0 ≤ r ∧ (r = 0 ∨ r < n)) := by
 have h0 : srcOK 0 (code, 0, 0, ()) := ⟨hl, hc, Int.le_refl _, Int.le_refl _⟩
 unfold s_P6Pick_F s_P6Pick
 exact Fine.run (Fine.mat (pick_ok h0 (by omega)) fun a ha => .ret ha.1)
noncomputable def s_P6Pick_V : Env := ⟨tau, [(38, s_l00From_c), (39, s_l00Src_pick_9f69_c)], []⟩
noncomputable def s_P6Pick_b : Code := (Try.f8.body).getD .skip
noncomputable def s_P6Pick_I : FnI := ⟨s_P6Pick_b, Try.f8.results.toList, Try.f8.resultTypes.toList, []⟩
noncomputable def s_P6Pick_out (_zp0 : Bool) (_p0 : (List Int)) (_p1 : Int) : Int → CallOut := fun r => ⟨(.imm true (.int .i64) r), [], []⟩
set_option maxRecDepth 100000 in
theorem s_P6Pick_eq : ∀ (zp0 : Bool) (p0 : (List Int)) (p1 : Int), denFn s_P6Pick_V s_P6Pick_I ⟨[(.imm zp0 (.sl (.int .u8)) p0), (.imm true (.int .i64) p1)], []⟩ = (s_P6Pick p0 p1).run fun r => some (s_P6Pick_out zp0 p0 p1 r) := fun _ _ _ => by kernel_rfl
noncomputable def s_P6Pick_G (av : List AV) (rs : List Root) : Tre CallOut :=
 asCons av fun a0_ av0 =>
 asCons av0 fun a1_ av1 =>
 asEnd av1 <|
 asEnd rs <|
 asImm (.sl (.int .u8)) a0_ fun z2 d1 =>
 asImmZ true (.int .i64) a1_ fun d3 =>
 .mat (s_P6Pick_F d1 d3) fun r => .ret (s_P6Pick_out z2 d1 d3 r)
noncomputable def s_P6Pick_c : Ctr := ⟨[], fun ci => s_P6Pick_G ci.args ci.roots, false⟩
theorem s_P6Pick_env : EnvOK Try.prog .none s_P6Pick_V := (envOK_cons s_l00From_ok ent38 (envOK_cons s_l00Src_pick_9f69_ok ent39 envOK_nil))
set_option maxRecDepth 100000 in
theorem s_P6Pick_ok : Contract Try.prog .none 8 s_P6Pick_c := by
 have hl : LoopsOK s_P6Pick_V [] s_P6Pick_b := loopsOK_nil (by kernel_rfl)
 refine (contract_of (F := s_P6Pick_I) tau_tys s_P6Pick_env Try.func8 (by kernel_rfl) (by kernel_rfl) (by kernel_rfl) hl []).weaken ?_
 rintro ⟨av, rs⟩ co h
 have h : (s_P6Pick_G av rs).run some = some co := h
 obtain ⟨a0_, av0, rfl, h_0⟩ := asCons_spec h
 obtain ⟨a1_, av1, rfl, h_1⟩ := asCons_spec h_0
 obtain ⟨rfl, h_2⟩ := asEnd_spec h_1
 obtain ⟨rfl, h_3⟩ := asEnd_spec h_2
 obtain ⟨z2, d1, rfl, h_4⟩ := asImm_spec h_3
 obtain ⟨d3, rfl, h_5⟩ := asImmZ_spec h_4
 exact fin_mat (s_P6Pick_eq z2 d1 d3) h_5
end Go.Proofs.Ytkgekgfmnhccmaa

namespace Go.Proofs.Ytkgekgfmnhccmaa
open Go Go.Abs Go.Proofs
noncomputable def s_P6Word (p0 : (List Int)) (p1 : (Int × (Int × Unit))) (p2 : Int) : Tre (List Int) :=
 .mat (s_l04DrawWord_34ae_F p1 p2 (p0, (0, (0, ())))) fun r1 =>
 .ret r1.2
noncomputable def s_P6Word_F (p0 : (List Int)) (p1 : (Int × (Int × Unit))) (p2 : Int) : Option (List Int) := (s_P6Word p0 p1 p2).run some
-- more
theorem p6word_ok {code : List Int} (hl : code.length ≤ 5000) (hc : ∀ x ∈ code, 0 ≤ x ∧ x ≤ 255) {f : TF3} (hf : fieldOk f = true) {M : Nat} (h1 : 1 ≤ M) (hM : M ≤ 1000) : ∃ r, s_P6Word_F code f (M : Int) = some r ∧ (r.length = M ∧ ∀ x ∈ r, inF f x) := by
 have h0 : srcOK 0 (code, 0, 0, ()) := ⟨hl, hc, Int.le_refl _, Int.le_refl _⟩
 unfold s_P6Word_F s_P6Word
 exact Fine.run (Fine.mat (drawWord_ok hf h1 hM h0 (by omega)) fun a ha => .ret ha.2)
noncomputable def s_P6Word_V : Env := ⟨tau, [(38, s_l00From_c), (40, s_l04DrawWord_34ae_c)], []⟩
noncomputable def s_P6Word_b : Code := (Try.f9.body).getD .skip
noncomputable def s_P6Word_I : FnI := ⟨s_P6Word_b, Try.f9.results.toList, Try.f9.resultTypes.toList, []⟩
noncomputable def s_P6Word_out (_zp0 : Bool) (_p0 : (List Int)) (_p1 : (Int × (Int × Unit))) (_p2 : Int) : (List Int) → CallOut := fun r => ⟨(.ref (1, 0) []), [], [⟨false, (.sl (.int .i64)), .own, r⟩]⟩
set_option maxRecDepth 100000 in
theorem s_P6Word_eq : ∀ (zp0 : Bool) (p0 : (List Int)) (p1 : (Int × (Int × Unit))) (p2 : Int), denFn s_P6Word_V s_P6Word_I ⟨[(.imm zp0 (.sl (.int .u8)) p0), (.imm true kField p1), (.imm true (.int .i64) p2)], []⟩ = (s_P6Word p0 p1 p2).run fun r => some (s_P6Word_out zp0 p0 p1 p2 r) := fun _ _ _ _ => by kernel_rfl
noncomputable def s_P6Word_G (av : List AV) (rs : List Root) : Tre CallOut :=
 asCons av fun a0_ av0 =>
 asCons av0 fun a1_ av1 =>
 asCons av1 fun a2_ av2 =>
 asEnd av2 <|
 asEnd rs <|
 asImm (.sl (.int .u8)) a0_ fun z2 d1 =>
 asImmZ true kField a1_ fun d3 =>
 asImmZ true (.int .i64) a2_ fun d4 =>
 .mat (s_P6Word_F d1 d3 d4) fun r => .ret (s_P6Word_out z2 d1 d3 d4 r)
noncomputable def s_P6Word_c : Ctr := ⟨[], fun ci => s_P6Word_G ci.args ci.roots, false⟩
theorem s_P6Word_env : EnvOK Try.prog .none s_P6Word_V := (envOK_cons s_l00From_ok ent38 (envOK_cons s_l04DrawWord_34ae_ok ent40 envOK_nil))
set_option maxRecDepth 100000 in
theorem s_P6Word_ok : Contract Try.prog .none 9 s_P6Word_c := by
 have hl : LoopsOK s_P6Word_V [] s_P6Word_b := loopsOK_nil (by kernel_rfl)
 refine (contract_of (F := s_P6Word_I) tau_tys s_P6Word_env Try.func9 (by kernel_rfl) (by kernel_rfl) (by kernel_rfl) hl []).weaken ?_
 rintro ⟨av, rs⟩ co h
 have h : (s_P6Word_G av rs).run some = some co := h
 obtain ⟨a0_, av0, rfl, h_0⟩ := asCons_spec h
 obtain ⟨a1_, av1, rfl, h_1⟩ := asCons_spec h_0
 obtain ⟨a2_, av2, rfl, h_2⟩ := asCons_spec h_1
 obtain ⟨rfl, h_3⟩ := asEnd_spec h_2
 obtain ⟨rfl, h_4⟩ := asEnd_spec h_3
 obtain ⟨z2, d1, rfl, h_5⟩ := asImm_spec h_4
 obtain ⟨d3, rfl, h_6⟩ := asImmZ_spec h_5
 obtain ⟨d4, rfl, h_7⟩ := asImmZ_spec h_6
 exact fin_mat (s_P6Word_eq z2 d1 d3 d4) h_7
end Go.Proofs.Ytkgekgfmnhccmaa

namespace Go.Proofs.Ytkgekgfmnhccmaa
open Go Go.Abs Go.Proofs
noncomputable def i_within (p0 : Int) (p1 : Int) (p2 : Int) : Tre Bool :=
 .cond (decide (p0 ≥ p1))
  (.ret (decide (p0 ≤ p2)))
  (.ret false)
noncomputable def i_within_F (p0 : Int) (p1 : Int) (p2 : Int) : Option Bool := (i_within p0 p1 p2).run some
theorem i_within_spec (n a b : Int) : i_within_F n a b = some (inR n a b) := by
 unfold i_within_F i_within inR
 by_cases h : a ≤ n
 ·simp [Tre.run_cond, Tre.run_ret, h]
 ·simp [Tre.run_cond, Tre.run_ret, h]
noncomputable def i_within_V : Env := ⟨tau, [], []⟩
noncomputable def i_within_b : Code := (Try.f92.body).getD .skip
noncomputable def i_within_I : FnI := ⟨i_within_b, Try.f92.results.toList, Try.f92.resultTypes.toList, []⟩
noncomputable def i_within_out (_p0 : Int) (_p1 : Int) (_p2 : Int) : Bool → CallOut := fun r => ⟨(.imm true .bool r), [], []⟩
set_option maxRecDepth 100000 in
theorem i_within_eq : ∀ (p0 : Int) (p1 : Int) (p2 : Int), denFn i_within_V i_within_I ⟨[(.imm true (.int .i64) p0), (.imm true (.int .i64) p1), (.imm true (.int .i64) p2)], []⟩ = (i_within p0 p1 p2).run fun r => some (i_within_out p0 p1 p2 r) := fun _ _ _ => by kernel_rfl
noncomputable def i_within_G (av : List AV) (rs : List Root) : Tre CallOut :=
 asCons av fun a0_ av0 =>
 asCons av0 fun a1_ av1 =>
 asCons av1 fun a2_ av2 =>
 asEnd av2 <|
 asEnd rs <|
 asImmZ true (.int .i64) a0_ fun d1 =>
 asImmZ true (.int .i64) a1_ fun d2 =>
 asImmZ true (.int .i64) a2_ fun d3 =>
 .ret (i_within_out d1 d2 d3 (inR d1 d2 d3))
noncomputable def i_within_c : Ctr := ⟨[], fun ci => i_within_G ci.args ci.roots, false⟩
theorem i_within_env : EnvOK Try.prog .none i_within_V := envOK_nil
set_option maxRecDepth 100000 in
theorem i_within_ok : Contract Try.prog .none 92 i_within_c := by
 have hl : LoopsOK i_within_V [] i_within_b := loopsOK_nil (by kernel_rfl)
 refine (contract_of (F := i_within_I) tau_tys i_within_env Try.func92 (by kernel_rfl) (by kernel_rfl) (by kernel_rfl) hl []).weaken ?_
 rintro ⟨av, rs⟩ co h
 have h : (i_within_G av rs).run some = some co := h
 obtain ⟨a0_, av0, rfl, h_0⟩ := asCons_spec h
 obtain ⟨a1_, av1, rfl, h_1⟩ := asCons_spec h_0
 obtain ⟨a2_, av2, rfl, h_2⟩ := asCons_spec h_1
 obtain ⟨rfl, h_3⟩ := asEnd_spec h_2
 obtain ⟨rfl, h_4⟩ := asEnd_spec h_3
 obtain ⟨d1, rfl, h_5⟩ := asImmZ_spec h_4
 obtain ⟨d2, rfl, h_6⟩ := asImmZ_spec h_5
 obtain ⟨d3, rfl, h_7⟩ := asImmZ_spec h_6
 exact fin_ret (i_within_eq d1 d2 d3) (i_within_spec d1 d2 d3) h_7
end Go.Proofs.Ytkgekgfmnhccmaa

namespace Go.Proofs.Ytkgekgfmnhccmaa
open Go Go.Abs Go.Proofs
noncomputable def i_degreeOf_l2 : (Int × Int) → Tre ((Int × Int) ⊕ Int) := fun s2 =>
 .cond (decide (s2.1 > 0))
  (.ret (.inl (ishr .i64 s2.1 1, iwrap .i64 (s2.2 + 1))))
  (.ret (.inr s2.2))
noncomputable def i_degreeOf (p0 : Int) : Tre Int :=
 .mat (loopF i_degreeOf_l2 (p0, -1)) fun l1 =>
 .ret l1
noncomputable def i_degreeOf_F (p0 : Int) : Option Int := (i_degreeOf p0).run some
noncomputable def i_degreeOf_V : Env := ⟨tau, [], []⟩
noncomputable def i_degreeOf_b : Code := (Try.f136.body).getD .skip
noncomputable def i_degreeOf_l2_mk : (Int × Int) → St := fun x => stOf [(0, (.imm true (.int .i64) x.1)), (3, (.imm true (.int .i64) x.2))] []
noncomputable def i_degreeOf_l2_out : Int → Ex × St := fun x => (.exit 0, stOf [(3, (.imm true (.int .i64) x))] [])
noncomputable def i_degreeOf_l2_D (s : St) : Tre (Ex × St) :=
 asImmZ true (.int .i64) (s.tmps 0) fun d2 =>
 asImmZ true (.int .i64) (s.tmps 3) fun d4 =>
 .mat (loopF i_degreeOf_l2 (d2, d4)) fun x => .ret (i_degreeOf_l2_out x)
noncomputable def i_degreeOf_l2_L : LoopI := ⟨([0, 3], []), ([3], []), i_degreeOf_l2_D⟩
noncomputable def i_degreeOf_A : List (Nat × LoopI) := [(2, i_degreeOf_l2_L)]
set_option maxRecDepth 100000 in
theorem i_degreeOf_l2_step : ∀ (x : (Int × Int)) (c : St → Option (Ex × St)), den i_degreeOf_V i_degreeOf_A (loopAt i_degreeOf_b 0) (i_degreeOf_l2_mk x) (roundK i_degreeOf_l2_L.kp i_degreeOf_l2_L.kx c) = (i_degreeOf_l2 x).run (roundR (i_degreeOf_l2_mk) (i_degreeOf_l2_out) c) := fun _ _ => by
 kernel_rfl
theorem i_degreeOf_l2_ok : LoopOK i_degreeOf_V i_degreeOf_A (loopAt i_degreeOf_b 0) i_degreeOf_l2_L := loopOK_of fun s e s' h => by
 generalize hs : restrict i_degreeOf_l2_L.kp s = s1 at h
 have h : (i_degreeOf_l2_D s1).run some = some (e, s') := h
 obtain ⟨d2, e1, h_0⟩ := asImmZ_spec h
 obtain ⟨d4, e3, h_1⟩ := asImmZ_spec h_0
 obtain ⟨y, hy, hz⟩ := mat_ret h_1
 refine ⟨_, _, i_degreeOf_l2_mk, i_degreeOf_l2_out, i_degreeOf_l2, (d2, d4), y, ?_, hy, ?_, i_degreeOf_l2_step⟩
 ·subst hs; exact restrict_eq (T := [(0, (.imm true (.int .i64) d2)), (3, (.imm true (.int .i64) d4))]) (U := []) rfl rfl ⟨e1, e3, trivial⟩ trivial
 ·exact Option.some.inj hz
noncomputable def i_degreeOf_I : FnI := ⟨i_degreeOf_b, Try.f136.results.toList, Try.f136.resultTypes.toList, i_degreeOf_A⟩
noncomputable def i_degreeOf_out (_p0 : Int) : Int → CallOut := fun r => ⟨(.imm true (.int .i64) r), [], []⟩
set_option maxRecDepth 100000 in
theorem i_degreeOf_eq : ∀ (p0 : Int), denFn i_degreeOf_V i_degreeOf_I ⟨[(.imm true (.int .i64) p0)], []⟩ = (i_degreeOf p0).run fun r => some (i_degreeOf_out p0 r) := fun _ => by kernel_rfl
noncomputable def i_degreeOf_G (av : List AV) (rs : List Root) : Tre CallOut :=
 asCons av fun a0_ av0 =>
 asEnd av0 <|
 asEnd rs <|
 asImmZ true (.int .i64) a0_ fun d1 =>
 .mat (i_degreeOf_F d1) fun r => .ret (i_degreeOf_out d1 r)
noncomputable def i_degreeOf_c : Ctr := ⟨[], fun ci => i_degreeOf_G ci.args ci.roots, false⟩
theorem i_degreeOf_env : EnvOK Try.prog .none i_degreeOf_V := envOK_nil
set_option maxRecDepth 100000 in
theorem i_degreeOf_ok : Contract Try.prog .none 136 i_degreeOf_c := by
 have hl : LoopsOK i_degreeOf_V i_degreeOf_A i_degreeOf_b := (loopsOK_all (n := 1) (by kernel_rfl) fun k hk => by
   match k, hk with
   | 0, _ => exact loopOK_at (id := 2) (L := i_degreeOf_l2_L) (by kernel_rfl) (by kernel_rfl) i_degreeOf_l2_ok)
 refine (contract_of (F := i_degreeOf_I) tau_tys i_degreeOf_env Try.func136 (by kernel_rfl) (by kernel_rfl) (by kernel_rfl) hl []).weaken ?_
 rintro ⟨av, rs⟩ co h
 have h : (i_degreeOf_G av rs).run some = some co := h
 obtain ⟨a0_, av0, rfl, h_0⟩ := asCons_spec h
 obtain ⟨rfl, h_1⟩ := asEnd_spec h_0
 obtain ⟨rfl, h_2⟩ := asEnd_spec h_1
 obtain ⟨d1, rfl, h_3⟩ := asImmZ_spec h_2
 exact fin_mat (i_degreeOf_eq d1) h_3
end Go.Proofs.Ytkgekgfmnhccmaa

namespace Go.Proofs.Ytkgekgfmnhccmaa
open Go Go.Abs Go.Proofs
noncomputable def i_restOf_l2 (h2_0_1 : Int) (h2_0_2 : Int) : Int → Tre (Int ⊕ Int) := fun s2 =>
 .mat (i_degreeOf_F s2) fun r2 =>
 .cond (decide (r2 ≥ h2_0_2))
  (.mat (i_degreeOf_F s2) fun r3 =>
  .ite (0 ≤ iwrap .i64 (r3 - h2_0_2)) <|
  let v4 := ishl .i64 h2_0_1 (iwrap .i64 (r3 - h2_0_2))
  .ret (.inl (ixor .i64 s2 v4)))
  (.ret (.inr s2))
noncomputable def i_restOf (p0 : Int) (p1 : Int) : Tre Int :=
 .mat (i_degreeOf_F p1) fun r1 =>
 .mat (loopF (i_restOf_l2 p1 r1) p0) fun l5 =>
 .ret l5
noncomputable def i_restOf_F (p0 : Int) (p1 : Int) : Option Int := (i_restOf p0 p1).run some
noncomputable def i_restOf_V : Env := ⟨tau, [(136, i_degreeOf_c)], []⟩
noncomputable def i_restOf_b : Code := (Try.f142.body).getD .skip
noncomputable def i_restOf_l2_mk (h2_0_1 : Int) (h2_0_2 : Int) : Int → St := fun x => stOf [(0, (.imm true (.int .i64) x)), (1, (.imm true (.int .i64) h2_0_1)), (5, (.imm true (.int .i64) h2_0_2))] []
noncomputable def i_restOf_l2_out (_h2_0_1 : Int) (_h2_0_2 : Int) : Int → Ex × St := fun x => (.exit 0, stOf [(0, (.imm true (.int .i64) x))] [])
noncomputable def i_restOf_l2_D (s : St) : Tre (Ex × St) :=
 asImmZ true (.int .i64) (s.tmps 0) fun d2 =>
 asImmZ true (.int .i64) (s.tmps 1) fun d4 =>
 asImmZ true (.int .i64) (s.tmps 5) fun d6 =>
 .mat (loopF (i_restOf_l2 d4 d6) d2) fun x => .ret (i_restOf_l2_out d4 d6 x)
noncomputable def i_restOf_l2_L : LoopI := ⟨([0, 1, 5], []), ([0], []), i_restOf_l2_D⟩
noncomputable def i_restOf_A : List (Nat × LoopI) := [(2, i_restOf_l2_L)]
set_option maxRecDepth 100000 in
theorem i_restOf_l2_step : ∀ (h2_0_1 : Int) (h2_0_2 : Int) (x : Int) (c : St → Option (Ex × St)), den i_restOf_V i_restOf_A (loopAt i_restOf_b 0) (i_restOf_l2_mk h2_0_1 h2_0_2 x) (roundK i_restOf_l2_L.kp i_restOf_l2_L.kx c) = (i_restOf_l2 h2_0_1 h2_0_2 x).run (roundR (i_restOf_l2_mk h2_0_1 h2_0_2) (i_restOf_l2_out h2_0_1 h2_0_2) c) := fun _ _ _ _ => by
 kernel_rfl
theorem i_restOf_l2_ok : LoopOK i_restOf_V i_restOf_A (loopAt i_restOf_b 0) i_restOf_l2_L := loopOK_of fun s e s' h => by
 generalize hs : restrict i_restOf_l2_L.kp s = s1 at h
 have h : (i_restOf_l2_D s1).run some = some (e, s') := h
 obtain ⟨d2, e1, h_0⟩ := asImmZ_spec h
 obtain ⟨d4, e3, h_1⟩ := asImmZ_spec h_0
 obtain ⟨d6, e5, h_2⟩ := asImmZ_spec h_1
 obtain ⟨y, hy, hz⟩ := mat_ret h_2
 refine ⟨_, _, i_restOf_l2_mk d4 d6, i_restOf_l2_out d4 d6, i_restOf_l2 d4 d6, d2, y, ?_, hy, ?_, i_restOf_l2_step d4 d6⟩
 ·subst hs; exact restrict_eq (T := [(0, (.imm true (.int .i64) d2)), (1, (.imm true (.int .i64) d4)), (5, (.imm true (.int .i64) d6))]) (U := []) rfl rfl ⟨e1, e3, e5, trivial⟩ trivial
 ·exact Option.some.inj hz
noncomputable def i_restOf_I : FnI := ⟨i_restOf_b, Try.f142.results.toList, Try.f142.resultTypes.toList, i_restOf_A⟩
noncomputable def i_restOf_out (_p0 : Int) (_p1 : Int) : Int → CallOut := fun r => ⟨(.imm true (.int .i64) r), [], []⟩
set_option maxRecDepth 100000 in
theorem i_restOf_eq : ∀ (p0 : Int) (p1 : Int), denFn i_restOf_V i_restOf_I ⟨[(.imm true (.int .i64) p0), (.imm true (.int .i64) p1)], []⟩ = (i_restOf p0 p1).run fun r => some (i_restOf_out p0 p1 r) := fun _ _ => by kernel_rfl
noncomputable def i_restOf_G (av : List AV) (rs : List Root) : Tre CallOut :=
 asCons av fun a0_ av0 =>
 asCons av0 fun a1_ av1 =>
 asEnd av1 <|
 asEnd rs <|
 asImmZ true (.int .i64) a0_ fun d1 =>
 asImmZ true (.int .i64) a1_ fun d2 =>
 .mat (i_restOf_F d1 d2) fun r => .ret (i_restOf_out d1 d2 r)
noncomputable def i_restOf_c : Ctr := ⟨[], fun ci => i_restOf_G ci.args ci.roots, false⟩
theorem i_restOf_env : EnvOK Try.prog .none i_restOf_V := (envOK_cons i_degreeOf_ok ent136 envOK_nil)
set_option maxRecDepth 100000 in
theorem i_restOf_ok : Contract Try.prog .none 142 i_restOf_c := by
 have hl : LoopsOK i_restOf_V i_restOf_A i_restOf_b := (loopsOK_all (n := 1) (by kernel_rfl) fun k hk => by
   match k, hk with
   | 0, _ => exact loopOK_at (id := 2) (L := i_restOf_l2_L) (by kernel_rfl) (by kernel_rfl) i_restOf_l2_ok)
 refine (contract_of (F := i_restOf_I) tau_tys i_restOf_env Try.func142 (by kernel_rfl) (by kernel_rfl) (by kernel_rfl) hl []).weaken ?_
 rintro ⟨av, rs⟩ co h
 have h : (i_restOf_G av rs).run some = some co := h
 obtain ⟨a0_, av0, rfl, h_0⟩ := asCons_spec h
 obtain ⟨a1_, av1, rfl, h_1⟩ := asCons_spec h_0
 obtain ⟨rfl, h_2⟩ := asEnd_spec h_1
 obtain ⟨rfl, h_3⟩ := asEnd_spec h_2
 obtain ⟨d1, rfl, h_4⟩ := asImmZ_spec h_3
 obtain ⟨d2, rfl, h_5⟩ := asImmZ_spec h_4
 exact fin_mat (i_restOf_eq d1 d2) h_5
end Go.Proofs.Ytkgekgfmnhccmaa

namespace Go.Proofs.Ytkgekgfmnhccmaa
open Go Go.Abs Go.Proofs
noncomputable def i_IsIrreducible_l4 (h4_0_0 : Int) : Int → Tre (Int ⊕ (Bool ⊕ Unit)) := fun s4 =>
 .mat (i_degreeOf_F s4) fun r1 =>
 .mat (i_degreeOf_F h4_0_0) fun r2 =>
 .cond (decide (iwrap .i64 (2 * r1) ≤ r2))
  (.mat (i_restOf_F h4_0_0 s4) fun r3 =>
  .cond (decide (r3 = 0))
   (.ret (.inr (.inl false)))
   (.ret (.inl (iwrap .i64 (s4 + 1)))))
  (.ret (.inr (.inr ())))
noncomputable def i_IsIrreducible (p0 : Int) : Tre Bool :=
 .cond (decide (p0 < 2))
  (.ret false)
  (.cond (decide (p0 ≥ 64))
   (.ret false)
   (.mat (loopF (i_IsIrreducible_l4 p0) 2) fun l4 =>
   .alt l4
    (fun a5 =>
     .ret a5)
    (fun _ =>
     .ret true)))
noncomputable def i_IsIrreducible_F (p0 : Int) : Option Bool := (i_IsIrreducible p0).run some
noncomputable def i_IsIrreducible_V : Env := ⟨tau, [(136, i_degreeOf_c), (142, i_restOf_c)], []⟩
noncomputable def i_IsIrreducible_b : Code := (Try.f135.body).getD .skip
noncomputable def i_IsIrreducible_l4_mk (h4_0_0 : Int) : Int → St := fun x => stOf [(0, (.imm true (.int .i64) h4_0_0)), (3, (.imm true (.int .i64) x))] []
noncomputable def i_IsIrreducible_l4_out (_h4_0_0 : Int) : (Bool ⊕ Unit) → Ex × St
 | .inl x => (.ret, stOf [(2, (.imm true .bool x))] [])
 | .inr _ => (.exit 0, stOf [(2, .dead)] [])
noncomputable def i_IsIrreducible_l4_D (s : St) : Tre (Ex × St) :=
 asImmZ true (.int .i64) (s.tmps 0) fun d2 =>
 asImmZ true (.int .i64) (s.tmps 3) fun d4 =>
 .mat (loopF (i_IsIrreducible_l4 d2) d4) fun x => .alt x (fun a0 => .ret (i_IsIrreducible_l4_out d2 (.inl a0))) (fun b0 => .ret (i_IsIrreducible_l4_out d2 (.inr b0)))
noncomputable def i_IsIrreducible_l4_L : LoopI := ⟨([0, 3], []), ([2], []), i_IsIrreducible_l4_D⟩
noncomputable def i_IsIrreducible_A : List (Nat × LoopI) := [(4, i_IsIrreducible_l4_L)]
set_option maxRecDepth 100000 in
theorem i_IsIrreducible_l4_step : ∀ (h4_0_0 : Int) (x : Int) (c : St → Option (Ex × St)), den i_IsIrreducible_V i_IsIrreducible_A (loopAt i_IsIrreducible_b 0) (i_IsIrreducible_l4_mk h4_0_0 x) (roundK i_IsIrreducible_l4_L.kp i_IsIrreducible_l4_L.kx c) = (i_IsIrreducible_l4 h4_0_0 x).run (roundR (i_IsIrreducible_l4_mk h4_0_0) (i_IsIrreducible_l4_out h4_0_0) c) := fun _ _ _ => by
 kernel_rfl
theorem i_IsIrreducible_l4_ok : LoopOK i_IsIrreducible_V i_IsIrreducible_A (loopAt i_IsIrreducible_b 0) i_IsIrreducible_l4_L := loopOK_of fun s e s' h => by
 generalize hs : restrict i_IsIrreducible_l4_L.kp s = s1 at h
 have h : (i_IsIrreducible_l4_D s1).run some = some (e, s') := h
 obtain ⟨d2, e1, h_0⟩ := asImmZ_spec h
 obtain ⟨d4, e3, h_1⟩ := asImmZ_spec h_0
 obtain ⟨y, hy, hz⟩ := mat_some h_1
 refine ⟨_, _, i_IsIrreducible_l4_mk d2, i_IsIrreducible_l4_out d2, i_IsIrreducible_l4 d2, d4, y, ?_, hy, ?_, i_IsIrreducible_l4_step d2⟩
 ·subst hs; exact restrict_eq (T := [(0, (.imm true (.int .i64) d2)), (3, (.imm true (.int .i64) d4))]) (U := []) rfl rfl ⟨e1, e3, trivial⟩ trivial
 ·rcases y with x | x <;> exact Option.some.inj hz
noncomputable def i_IsIrreducible_I : FnI := ⟨i_IsIrreducible_b, Try.f135.results.toList, Try.f135.resultTypes.toList, i_IsIrreducible_A⟩
noncomputable def i_IsIrreducible_out (_p0 : Int) : Bool → CallOut := fun r => ⟨(.imm true .bool r), [], []⟩
set_option maxRecDepth 100000 in
theorem i_IsIrreducible_eq : ∀ (p0 : Int), denFn i_IsIrreducible_V i_IsIrreducible_I ⟨[(.imm true (.int .i64) p0)], []⟩ = (i_IsIrreducible p0).run fun r => some (i_IsIrreducible_out p0 r) := fun _ => by kernel_rfl
noncomputable def i_IsIrreducible_G (av : List AV) (rs : List Root) : Tre CallOut :=
 asCons av fun a0_ av0 =>
 asEnd av0 <|
 asEnd rs <|
 asImmZ true (.int .i64) a0_ fun d1 =>
 .mat (i_IsIrreducible_F d1) fun r => .ret (i_IsIrreducible_out d1 r)
noncomputable def i_IsIrreducible_c : Ctr := ⟨[], fun ci => i_IsIrreducible_G ci.args ci.roots, false⟩
theorem i_IsIrreducible_env : EnvOK Try.prog .none i_IsIrreducible_V := (envOK_cons i_degreeOf_ok ent136 (envOK_cons i_restOf_ok ent142 envOK_nil))
set_option maxRecDepth 100000 in
theorem i_IsIrreducible_ok : Contract Try.prog .none 135 i_IsIrreducible_c := by
 have hl : LoopsOK i_IsIrreducible_V i_IsIrreducible_A i_IsIrreducible_b := (loopsOK_all (n := 1) (by kernel_rfl) fun k hk => by
   match k, hk with
   | 0, _ => exact loopOK_at (id := 4) (L := i_IsIrreducible_l4_L) (by kernel_rfl) (by kernel_rfl) i_IsIrreducible_l4_ok)
 refine (contract_of (F := i_IsIrreducible_I) tau_tys i_IsIrreducible_env Try.func135 (by kernel_rfl) (by kernel_rfl) (by kernel_rfl) hl []).weaken ?_
 rintro ⟨av, rs⟩ co h
 have h : (i_IsIrreducible_G av rs).run some = some co := h
 obtain ⟨a0_, av0, rfl, h_0⟩ := asCons_spec h
 obtain ⟨rfl, h_1⟩ := asEnd_spec h_0
 obtain ⟨rfl, h_2⟩ := asEnd_spec h_1
 obtain ⟨d1, rfl, h_3⟩ := asImmZ_spec h_2
 exact fin_mat (i_IsIrreducible_eq d1) h_3
end Go.Proofs.Ytkgekgfmnhccmaa

namespace Go.Proofs.Ytkgekgfmnhccmaa
open Go Go.Abs Go.Proofs
noncomputable def i_ValidField (p0 : (Int × (Int × Unit))) : Tre Bool :=
 .cond (inR p0.1 1 5)
  (.mat (i_IsIrreducible_F p0.2.1) fun r1 =>
  .cond r1
   (.mat (i_degreeOf_F p0.2.1) fun r2 =>
   .ret (decide (r2 = p0.1)))
   (.ret false))
  (.ret false)
noncomputable def i_ValidField_F (p0 : (Int × (Int × Unit))) : Option Bool := (i_ValidField p0).run some
-- more
set_option maxRecDepth 100000 in
theorem i_ValidField_is (f : Int × Int × Unit) : i_ValidField_F f = some (fieldOk f) := by
 refine field_of ?_ ?_ (by kernel_rfl) f
 ·intro f h
  unfold i_ValidField_F i_ValidField
  rw [Tre.run_cond, h]; rfl
 ·intro f h
  unfold i_ValidField_F i_ValidField
  rw [Tre.run_cond]
  have : i_IsIrreducible_F f.2.1 = some false := by
   unfold i_IsIrreducible_F i_IsIrreducible
   rw [Tre.run_cond]
   by_cases h1 : f.2.1 < 2
   ·rw [decide_eq_true h1]; rfl
   ·rw [decide_eq_false h1, cond_false, Tre.run_cond, decide_eq_true (by omega)]; rfl
  rw [run_some_mat this]
  cases inR f.1 1 5 <;> rfl
noncomputable def i_ValidField_V : Env := ⟨tau, [(92, i_within_c), (135, i_IsIrreducible_c), (136, i_degreeOf_c)], []⟩
noncomputable def i_ValidField_b : Code := (Try.f91.body).getD .skip
noncomputable def i_ValidField_I : FnI := ⟨i_ValidField_b, Try.f91.results.toList, Try.f91.resultTypes.toList, []⟩
noncomputable def i_ValidField_out (_p0 : (Int × (Int × Unit))) : Bool → CallOut := fun r => ⟨(.imm true .bool r), [], []⟩
set_option maxRecDepth 100000 in
theorem i_ValidField_eq : ∀ (p0 : (Int × (Int × Unit))), denFn i_ValidField_V i_ValidField_I ⟨[(.imm true kField p0)], []⟩ = (i_ValidField p0).run fun r => some (i_ValidField_out p0 r) := fun _ => by kernel_rfl
noncomputable def i_ValidField_G (av : List AV) (rs : List Root) : Tre CallOut :=
 asCons av fun a0_ av0 =>
 asEnd av0 <|
 asEnd rs <|
 asImmZ true kField a0_ fun d1 =>
 .mat (i_ValidField_F d1) fun r => .ret (i_ValidField_out d1 r)
noncomputable def i_ValidField_c : Ctr := ⟨[], fun ci => i_ValidField_G ci.args ci.roots, false⟩
theorem i_ValidField_env : EnvOK Try.prog .none i_ValidField_V := (envOK_cons i_within_ok ent92 (envOK_cons i_IsIrreducible_ok ent135 (envOK_cons i_degreeOf_ok ent136 envOK_nil)))
set_option maxRecDepth 100000 in
theorem i_ValidField_ok : Contract Try.prog .none 91 i_ValidField_c := by
 have hl : LoopsOK i_ValidField_V [] i_ValidField_b := loopsOK_nil (by kernel_rfl)
 refine (contract_of (F := i_ValidField_I) tau_tys i_ValidField_env Try.func91 (by kernel_rfl) (by kernel_rfl) (by kernel_rfl) hl []).weaken ?_
 rintro ⟨av, rs⟩ co h
 have h : (i_ValidField_G av rs).run some = some co := h
 obtain ⟨a0_, av0, rfl, h_0⟩ := asCons_spec h
 obtain ⟨rfl, h_1⟩ := asEnd_spec h_0
 obtain ⟨rfl, h_2⟩ := asEnd_spec h_1
 obtain ⟨d1, rfl, h_3⟩ := asImmZ_spec h_2
 exact fin_mat (i_ValidField_eq d1) h_3
end Go.Proofs.Ytkgekgfmnhccmaa

namespace Go.Proofs.Ytkgekgfmnhccmaa
open Go Go.Abs Go.Proofs
noncomputable def i_Net_isNode (p0 : TNet) (p1 : Int) : Tre Bool :=
 let v1 := inR p1 0 (iwrap .i64 (p0.2.1 - 1))
 .ret v1
noncomputable def i_Net_isNode_F (p0 : TNet) (p1 : Int) : Option Bool := (i_Net_isNode p0 p1).run some
def i_Net_isNode_S (p0 : TNet) (p1 : Int) : Bool :=
 let v1 := inR p1 0 (iwrap .i64 (p0.2.1 - 1))
 v1
theorem i_Net_isNode_spec (p0 : TNet) (p1 : Int) : i_Net_isNode_F p0 p1 = some (i_Net_isNode_S p0 p1) := rfl
noncomputable def i_Net_isNode_V : Env := ⟨tau, [(92, i_within_c)], []⟩
noncomputable def i_Net_isNode_b : Code := (Try.f93.body).getD .skip
noncomputable def i_Net_isNode_I : FnI := ⟨i_Net_isNode_b, Try.f93.results.toList, Try.f93.resultTypes.toList, []⟩
noncomputable def i_Net_isNode_out (_zp0 : Bool) (_p0 : TNet) (_p1 : Int) : Bool → CallOut := fun r => ⟨(.imm true .bool r), [], []⟩
set_option maxRecDepth 100000 in
theorem i_Net_isNode_eq : ∀ (zp0 : Bool) (p0 : TNet) (p1 : Int), denFn i_Net_isNode_V i_Net_isNode_I ⟨[(.imm zp0 kNet p0), (.imm true (.int .i64) p1)], []⟩ = (i_Net_isNode p0 p1).run fun r => some (i_Net_isNode_out zp0 p0 p1 r) := fun _ _ _ => by kernel_rfl
noncomputable def i_Net_isNode_G (av : List AV) (rs : List Root) : Tre CallOut :=
 asCons av fun a0_ av0 =>
 asCons av0 fun a1_ av1 =>
 asEnd av1 <|
 asEnd rs <|
 asImm kNet a0_ fun z2 d1 =>
 asImmZ true (.int .i64) a1_ fun d3 =>
 .ret (i_Net_isNode_out z2 d1 d3 (i_Net_isNode_S d1 d3))
noncomputable def i_Net_isNode_c : Ctr := ⟨[], fun ci => i_Net_isNode_G ci.args ci.roots, false⟩
theorem i_Net_isNode_env : EnvOK Try.prog .none i_Net_isNode_V := (envOK_cons i_within_ok ent92 envOK_nil)
set_option maxRecDepth 100000 in
theorem i_Net_isNode_ok : Contract Try.prog .none 93 i_Net_isNode_c := by
 have hl : LoopsOK i_Net_isNode_V [] i_Net_isNode_b := loopsOK_nil (by kernel_rfl)
 refine (contract_of (F := i_Net_isNode_I) tau_tys i_Net_isNode_env Try.func93 (by kernel_rfl) (by kernel_rfl) (by kernel_rfl) hl []).weaken ?_
 rintro ⟨av, rs⟩ co h
 have h : (i_Net_isNode_G av rs).run some = some co := h
 obtain ⟨a0_, av0, rfl, h_0⟩ := asCons_spec h
 obtain ⟨a1_, av1, rfl, h_1⟩ := asCons_spec h_0
 obtain ⟨rfl, h_2⟩ := asEnd_spec h_1
 obtain ⟨rfl, h_3⟩ := asEnd_spec h_2
 obtain ⟨z2, d1, rfl, h_4⟩ := asImm_spec h_3
 obtain ⟨d3, rfl, h_5⟩ := asImmZ_spec h_4
 exact fin_ret (i_Net_isNode_eq z2 d1 d3) (i_Net_isNode_spec d1 d3) h_5
end Go.Proofs.Ytkgekgfmnhccmaa

namespace Go.Proofs.Ytkgekgfmnhccmaa
open Go Go.Abs Go.Proofs
noncomputable def i_size_int64 (p0 : (List Int)) : Tre Int :=
 .ret (p0.length : Int)
noncomputable def i_size_int64_F (p0 : (List Int)) : Option Int := (i_size_int64 p0).run some
theorem i_size_int64_spec (p0 : (List Int)) : i_size_int64_F p0 = some (p0.length : Int) := rfl
noncomputable def i_size_int64_V : Env := ⟨tau, [], []⟩
noncomputable def i_size_int64_b : Code := (Try.f53.body).getD .skip
noncomputable def i_size_int64_I : FnI := ⟨i_size_int64_b, Try.f53.results.toList, Try.f53.resultTypes.toList, []⟩
noncomputable def i_size_int64_out (_zp0 : Bool) (_p0 : (List Int)) : Int → CallOut := fun r => ⟨(.imm true (.int .i64) r), [], []⟩
set_option maxRecDepth 100000 in
theorem i_size_int64_eq : ∀ (zp0 : Bool) (p0 : (List Int)), denFn i_size_int64_V i_size_int64_I ⟨[(.imm zp0 (.sl (.int .i64)) p0)], []⟩ = (i_size_int64 p0).run fun r => some (i_size_int64_out zp0 p0 r) := fun _ _ => by kernel_rfl
noncomputable def i_size_int64_G (av : List AV) (rs : List Root) : Tre CallOut :=
 asCons av fun a0_ av0 =>
 asEnd av0 <|
 asEnd rs <|
 asImm (.sl (.int .i64)) a0_ fun z2 d1 =>
 .ret (i_size_int64_out z2 d1 (d1.length : Int))
noncomputable def i_size_int64_c : Ctr := ⟨[], fun ci => i_size_int64_G ci.args ci.roots, false⟩
theorem i_size_int64_env : EnvOK Try.prog .none i_size_int64_V := envOK_nil
set_option maxRecDepth 100000 in
theorem i_size_int64_ok : Contract Try.prog .none 53 i_size_int64_c := by
 have hl : LoopsOK i_size_int64_V [] i_size_int64_b := loopsOK_nil (by kernel_rfl)
 refine (contract_of (F := i_size_int64_I) tau_tys i_size_int64_env Try.func53 (by kernel_rfl) (by kernel_rfl) (by kernel_rfl) hl []).weaken ?_
 rintro ⟨av, rs⟩ co h
 have h : (i_size_int64_G av rs).run some = some co := h
 obtain ⟨a0_, av0, rfl, h_0⟩ := asCons_spec h
 obtain ⟨rfl, h_1⟩ := asEnd_spec h_0
 obtain ⟨rfl, h_2⟩ := asEnd_spec h_1
 obtain ⟨z2, d1, rfl, h_3⟩ := asImm_spec h_2
 exact fin_ret (i_size_int64_eq z2 d1) (i_size_int64_spec d1) h_3
end Go.Proofs.Ytkgekgfmnhccmaa

namespace Go.Proofs.Ytkgekgfmnhccmaa
open Go Go.Abs Go.Proofs
noncomputable def i_Net_into_l3 (h3_0_0 : Int) (h3_0_1 : (List (List Int))) (h3_0_2 : Int) : (Int × (List Int)) → Tre ((Int × (List Int)) ⊕ (List Int)) := fun s3 =>
 .cond (decide (s3.1 < h3_0_2))
  (.ite (0 ≤ s3.1 ∧ s3.1 < (h3_0_1.length : Int)) <|
  .mat (h3_0_1[s3.1.toNat]?) fun x1 =>
  .ite ((0 : Int) ≤ 1 ∧ (1 : Int) < (x1.length : Int)) <|
  .mat (x1[1]?) fun x2 =>
  .cond (decide (x2 = h3_0_0))
   (.ite ((s3.2.length + 1) * 8 ≤ appendMax ∧ 1 ≤ 8) <|
   .ret (.inl (iwrap .i64 (s3.1 + 1), s3.2 ++ ([s3.1]))))
   (.ret (.inl (iwrap .i64 (s3.1 + 1), s3.2))))
  (.ret (.inr s3.2))
noncomputable def i_Net_into (p0 : TNet) (p1 : Int) : Tre (List Int) :=
 .mat (loopF (i_Net_into_l3 p1 p0.2.2.2.1 (p0.2.2.2.1.length : Int)) (0, [])) fun l3 =>
 .ret l3
noncomputable def i_Net_into_F (p0 : TNet) (p1 : Int) : Option (List Int) := (i_Net_into p0 p1).run some
-- more
theorem i_Net_into_is (n : TN6) (hl : n.2.2.2.1.length ≤ 14) (h2 : ∀ e ∈ n.2.2.2.1, e.length = 2) (node : Int) : i_Net_into_F n node = some (intoV n.2.2.2.1 node) := by
 unfold i_Net_into_F i_Net_into
 rw [run_some_mat (pick_loop (xs := n.2.2.2.1) (fun i e => if e1 e = node then some (i : Int) else none) ?_ ?_)]
 ·rfl
 ·intro i acc e he hacc
  have hi : i < n.2.2.2.1.length := (List.getElem?_eq_some_iff.1 he).1
  obtain ⟨a, b, rfl⟩ := len2 (h2 e (List.mem_of_getElem? he))
  unfold i_Net_into_l3
  rw [run_inb he, Tre.run_ite, if_pos ⟨by decide, by simp⟩, Tre.run_mat]
  dsimp only
  simp only [List.getElem?_cons_succ, List.getElem?_cons_zero, Option.bind_some]
  rw [Tre.run_cond, show e1 [a, b] = b from rfl, iwrap_succ (by omega)]
  by_cases h : b = node
  ·rw [decide_eq_true h, cond_true, Tre.run_ite, if_pos ⟨by unfold appendMax; omega, by decide⟩, if_pos h]; rfl
  ·rw [decide_eq_false h, cond_false, if_neg h]; simp [Tre.run_ret]
 ·intro acc
  unfold i_Net_into_l3
  exact run_out
noncomputable def i_Net_into_V : Env := ⟨tau, [], []⟩
noncomputable def i_Net_into_b : Code := (Try.f102.body).getD .skip
noncomputable def i_Net_into_l3_mk (z3_0 : Bool) (h3_0_0 : Int) (h3_0_1 : (List (List Int))) (h3_0_2 : Int) : (Int × (List Int)) → St := fun x => stOf [(1, (.imm true (.int .i64) h3_0_0)), (5, (.ref (7, 0) [])), (10, (.imm z3_0 (.sl (.sl (.int .i64))) h3_0_1)), (11, (.imm true (.int .i64) h3_0_2)), (12, (.imm true (.int .i64) x.1))] [((7, 0), some ⟨false, (.sl (.int .i64)), .own, x.2⟩)]
noncomputable def i_Net_into_l3_out (_z3_0 : Bool) (_h3_0_0 : Int) (_h3_0_1 : (List (List Int))) (_h3_0_2 : Int) : (List Int) → Ex × St := fun x => (.exit 0, stOf [(5, (.ref (7, 0) []))] [((7, 0), some ⟨false, (.sl (.int .i64)), .own, x⟩)])
noncomputable def i_Net_into_l3_D (s : St) : Tre (Ex × St) :=
 asImmZ true (.int .i64) (s.tmps 1) fun d2 =>
 asRef (7, 0) [] (s.tmps 5) <|
 asImm (.sl (.sl (.int .i64))) (s.tmps 10) fun z6 d5 =>
 asImmZ true (.int .i64) (s.tmps 11) fun d8 =>
 asImmZ true (.int .i64) (s.tmps 12) fun d10 =>
 asRoot false (.sl (.int .i64)) (s.roots (7, 0)) fun m12 d13 =>
 asM .own m12 <|
 .mat (loopF (i_Net_into_l3 d2 d5 d8) (d10, d13)) fun x => .ret (i_Net_into_l3_out z6 d2 d5 d8 x)
noncomputable def i_Net_into_l3_L : LoopI := ⟨([1, 5, 10, 11, 12], [(7, 0)]), ([5], [(7, 0)]), i_Net_into_l3_D⟩
noncomputable def i_Net_into_A : List (Nat × LoopI) := [(3, i_Net_into_l3_L)]
set_option maxRecDepth 100000 in
theorem i_Net_into_l3_step : ∀ (z3_0 : Bool) (h3_0_0 : Int) (h3_0_1 : (List (List Int))) (h3_0_2 : Int) (x : (Int × (List Int))) (c : St → Option (Ex × St)), den i_Net_into_V i_Net_into_A (loopAt i_Net_into_b 0) (i_Net_into_l3_mk z3_0 h3_0_0 h3_0_1 h3_0_2 x) (roundK i_Net_into_l3_L.kp i_Net_into_l3_L.kx c) = (i_Net_into_l3 h3_0_0 h3_0_1 h3_0_2 x).run (roundR (i_Net_into_l3_mk z3_0 h3_0_0 h3_0_1 h3_0_2) (i_Net_into_l3_out z3_0 h3_0_0 h3_0_1 h3_0_2) c) := fun _ _ _ _ _ _ => by
 kernel_rfl
theorem i_Net_into_l3_ok : LoopOK i_Net_into_V i_Net_into_A (loopAt i_Net_into_b 0) i_Net_into_l3_L := loopOK_of fun s e s' h => by
 generalize hs : restrict i_Net_into_l3_L.kp s = s1 at h
 have h : (i_Net_into_l3_D s1).run some = some (e, s') := h
 obtain ⟨d2, e1, h_0⟩ := asImmZ_spec h
 obtain ⟨e3, h_1⟩ := asRef_spec h_0
 obtain ⟨z6, d5, e4, h_2⟩ := asImm_spec h_1
 obtain ⟨d8, e7, h_3⟩ := asImmZ_spec h_2
 obtain ⟨d10, e9, h_4⟩ := asImmZ_spec h_3
 obtain ⟨m12, d13, e11, h_5⟩ := asRoot_spec h_4
 obtain ⟨rfl, h_6⟩ := asM_spec h_5
 obtain ⟨y, hy, hz⟩ := mat_ret h_6
 refine ⟨_, _, i_Net_into_l3_mk z6 d2 d5 d8, i_Net_into_l3_out z6 d2 d5 d8, i_Net_into_l3 d2 d5 d8, (d10, d13), y, ?_, hy, ?_, i_Net_into_l3_step z6 d2 d5 d8⟩
 ·subst hs; exact restrict_eq (T := [(1, (.imm true (.int .i64) d2)), (5, (.ref (7, 0) [])), (10, (.imm z6 (.sl (.sl (.int .i64))) d5)), (11, (.imm true (.int .i64) d8)), (12, (.imm true (.int .i64) d10))]) (U := [((7, 0), some ⟨false, (.sl (.int .i64)), .own, d13⟩)]) rfl rfl ⟨e1, e3, e4, e7, e9, trivial⟩ ⟨e11, trivial⟩
 ·exact Option.some.inj hz
noncomputable def i_Net_into_I : FnI := ⟨i_Net_into_b, Try.f102.results.toList, Try.f102.resultTypes.toList, i_Net_into_A⟩
noncomputable def i_Net_into_out (_zp0 : Bool) (_p0 : TNet) (_p1 : Int) : (List Int) → CallOut := fun r => ⟨(.ref (1, 0) []), [], [⟨false, (.sl (.int .i64)), .own, r⟩]⟩
set_option maxRecDepth 100000 in
theorem i_Net_into_eq : ∀ (zp0 : Bool) (p0 : TNet) (p1 : Int), denFn i_Net_into_V i_Net_into_I ⟨[(.imm zp0 kNet p0), (.imm true (.int .i64) p1)], []⟩ = (i_Net_into p0 p1).run fun r => some (i_Net_into_out zp0 p0 p1 r) := fun _ _ _ => by kernel_rfl
noncomputable def i_Net_into_G (av : List AV) (rs : List Root) : Tre CallOut :=
 asCons av fun a0_ av0 =>
 asCons av0 fun a1_ av1 =>
 asEnd av1 <|
 asEnd rs <|
 asImm kNet a0_ fun z2 d1 =>
 asImmZ true (.int .i64) a1_ fun d3 =>
 .mat (i_Net_into_F d1 d3) fun r => .ret (i_Net_into_out z2 d1 d3 r)
noncomputable def i_Net_into_c : Ctr := ⟨[], fun ci => i_Net_into_G ci.args ci.roots, false⟩
theorem i_Net_into_env : EnvOK Try.prog .none i_Net_into_V := envOK_nil
set_option maxRecDepth 100000 in
theorem i_Net_into_ok : Contract Try.prog .none 102 i_Net_into_c := by
 have hl : LoopsOK i_Net_into_V i_Net_into_A i_Net_into_b := (loopsOK_all (n := 1) (by kernel_rfl) fun k hk => by
   match k, hk with
   | 0, _ => exact loopOK_at (id := 3) (L := i_Net_into_l3_L) (by kernel_rfl) (by kernel_rfl) i_Net_into_l3_ok)
 refine (contract_of (F := i_Net_into_I) tau_tys i_Net_into_env Try.func102 (by kernel_rfl) (by kernel_rfl) (by kernel_rfl) hl []).weaken ?_
 rintro ⟨av, rs⟩ co h
 have h : (i_Net_into_G av rs).run some = some co := h
 obtain ⟨a0_, av0, rfl, h_0⟩ := asCons_spec h
 obtain ⟨a1_, av1, rfl, h_1⟩ := asCons_spec h_0
 obtain ⟨rfl, h_2⟩ := asEnd_spec h_1
 obtain ⟨rfl, h_3⟩ := asEnd_spec h_2
 obtain ⟨z2, d1, rfl, h_4⟩ := asImm_spec h_3
 obtain ⟨d3, rfl, h_5⟩ := asImmZ_spec h_4
 exact fin_mat (i_Net_into_eq z2 d1 d3) h_5
end Go.Proofs.Ytkgekgfmnhccmaa

namespace Go.Proofs.Ytkgekgfmnhccmaa
open Go Go.Abs Go.Proofs
noncomputable def i_Net_has (p0 : TNet) (p1 : Int) : Tre Int :=
 .cond (decide (p1 = 0))
  (.ret p0.2.2.1)
  (.mat (i_Net_into_F p0 p1) fun r1 =>
  .ret (r1.length : Int))
noncomputable def i_Net_has_F (p0 : TNet) (p1 : Int) : Option Int := (i_Net_has p0 p1).run some
-- more
theorem i_Net_has_is (n : TN6) (hl : n.2.2.2.1.length ≤ 14) (h2 : ∀ e ∈ n.2.2.2.1, e.length = 2) (node : Int) : i_Net_has_F n node = some (hasV n node) := by
 unfold i_Net_has_F i_Net_has hasV
 rw [Tre.run_cond, run_some_mat (i_Net_into_is n hl h2 node)]
 by_cases h : node = 0
 ·rw [decide_eq_true h, if_pos h]; rfl
 ·rw [decide_eq_false h, if_neg h]; rfl
noncomputable def i_Net_has_V : Env := ⟨tau, [(102, i_Net_into_c), (53, i_size_int64_c)], []⟩
noncomputable def i_Net_has_b : Code := (Try.f54.body).getD .skip
noncomputable def i_Net_has_I : FnI := ⟨i_Net_has_b, Try.f54.results.toList, Try.f54.resultTypes.toList, []⟩
noncomputable def i_Net_has_out (_zp0 : Bool) (_p0 : TNet) (_p1 : Int) : Int → CallOut := fun r => ⟨(.imm true (.int .i64) r), [], []⟩
set_option maxRecDepth 100000 in
theorem i_Net_has_eq : ∀ (zp0 : Bool) (p0 : TNet) (p1 : Int), denFn i_Net_has_V i_Net_has_I ⟨[(.imm zp0 kNet p0), (.imm true (.int .i64) p1)], []⟩ = (i_Net_has p0 p1).run fun r => some (i_Net_has_out zp0 p0 p1 r) := fun _ _ _ => by kernel_rfl
noncomputable def i_Net_has_G (av : List AV) (rs : List Root) : Tre CallOut :=
 asCons av fun a0_ av0 =>
 asCons av0 fun a1_ av1 =>
 asEnd av1 <|
 asEnd rs <|
 asImm kNet a0_ fun z2 d1 =>
 asImmZ true (.int .i64) a1_ fun d3 =>
 .mat (i_Net_has_F d1 d3) fun r => .ret (i_Net_has_out z2 d1 d3 r)
noncomputable def i_Net_has_c : Ctr := ⟨[], fun ci => i_Net_has_G ci.args ci.roots, false⟩
theorem i_Net_has_env : EnvOK Try.prog .none i_Net_has_V := (envOK_cons i_Net_into_ok ent102 (envOK_cons i_size_int64_ok ent53 envOK_nil))
set_option maxRecDepth 100000 in
theorem i_Net_has_ok : Contract Try.prog .none 54 i_Net_has_c := by
 have hl : LoopsOK i_Net_has_V [] i_Net_has_b := loopsOK_nil (by kernel_rfl)
 refine (contract_of (F := i_Net_has_I) tau_tys i_Net_has_env Try.func54 (by kernel_rfl) (by kernel_rfl) (by kernel_rfl) hl []).weaken ?_
 rintro ⟨av, rs⟩ co h
 have h : (i_Net_has_G av rs).run some = some co := h
 obtain ⟨a0_, av0, rfl, h_0⟩ := asCons_spec h
 obtain ⟨a1_, av1, rfl, h_1⟩ := asCons_spec h_0
 obtain ⟨rfl, h_2⟩ := asEnd_spec h_1
 obtain ⟨rfl, h_3⟩ := asEnd_spec h_2
 obtain ⟨z2, d1, rfl, h_4⟩ := asImm_spec h_3
 obtain ⟨d3, rfl, h_5⟩ := asImmZ_spec h_4
 exact fin_mat (i_Net_has_eq z2 d1 d3) h_5
end Go.Proofs.Ytkgekgfmnhccmaa

namespace Go.Proofs.Ytkgekgfmnhccmaa
open Go Go.Abs Go.Proofs
noncomputable def i_Field_count (p0 : (Int × (Int × Unit))) : Tre Int :=
 .ite (0 ≤ p0.1) <|
 .ret (ishl .i64 1 p0.1)
noncomputable def i_Field_count_F (p0 : (Int × (Int × Unit))) : Option Int := (i_Field_count p0).run some
noncomputable def i_Field_count_V : Env := ⟨tau, [], []⟩
noncomputable def i_Field_count_b : Code := (Try.f105.body).getD .skip
noncomputable def i_Field_count_I : FnI := ⟨i_Field_count_b, Try.f105.results.toList, Try.f105.resultTypes.toList, []⟩
noncomputable def i_Field_count_out (_p0 : (Int × (Int × Unit))) : Int → CallOut := fun r => ⟨(.imm true (.int .i64) r), [], []⟩
set_option maxRecDepth 100000 in
theorem i_Field_count_eq : ∀ (p0 : (Int × (Int × Unit))), denFn i_Field_count_V i_Field_count_I ⟨[(.imm true kField p0)], []⟩ = (i_Field_count p0).run fun r => some (i_Field_count_out p0 r) := fun _ => by kernel_rfl
noncomputable def i_Field_count_G (av : List AV) (rs : List Root) : Tre CallOut :=
 asCons av fun a0_ av0 =>
 asEnd av0 <|
 asEnd rs <|
 asImmZ true kField a0_ fun d1 =>
 .mat (i_Field_count_F d1) fun r => .ret (i_Field_count_out d1 r)
noncomputable def i_Field_count_c : Ctr := ⟨[], fun ci => i_Field_count_G ci.args ci.roots, false⟩
theorem i_Field_count_env : EnvOK Try.prog .none i_Field_count_V := envOK_nil
set_option maxRecDepth 100000 in
theorem i_Field_count_ok : Contract Try.prog .none 105 i_Field_count_c := by
 have hl : LoopsOK i_Field_count_V [] i_Field_count_b := loopsOK_nil (by kernel_rfl)
 refine (contract_of (F := i_Field_count_I) tau_tys i_Field_count_env Try.func105 (by kernel_rfl) (by kernel_rfl) (by kernel_rfl) hl []).weaken ?_
 rintro ⟨av, rs⟩ co h
 have h : (i_Field_count_G av rs).run some = some co := h
 obtain ⟨a0_, av0, rfl, h_0⟩ := asCons_spec h
 obtain ⟨rfl, h_1⟩ := asEnd_spec h_0
 obtain ⟨rfl, h_2⟩ := asEnd_spec h_1
 obtain ⟨d1, rfl, h_3⟩ := asImmZ_spec h_2
 exact fin_mat (i_Field_count_eq d1) h_3
end Go.Proofs.Ytkgekgfmnhccmaa

namespace Go.Proofs.Ytkgekgfmnhccmaa
open Go Go.Abs Go.Proofs
noncomputable def i_Field_hasc1_9fd3 (p0 : Int) (p1 : (Int × (Int × Unit))) : Tre Bool :=
 .mat (i_Field_count_F p1) fun r1 =>
 let v2 := inR p0 0 (iwrap .i64 (r1 - 1))
 .ret (!v2)
noncomputable def i_Field_hasc1_9fd3_F (p0 : Int) (p1 : (Int × (Int × Unit))) : Option Bool := (i_Field_hasc1_9fd3 p0 p1).run some
noncomputable def i_Field_hasc1_9fd3_V : Env := ⟨tau, [(105, i_Field_count_c), (92, i_within_c)], []⟩
noncomputable def i_Field_hasc1_9fd3_b : Code := (Try.f104.body).getD .skip
noncomputable def i_Field_hasc1_9fd3_I : FnI := ⟨i_Field_hasc1_9fd3_b, Try.f104.results.toList, Try.f104.resultTypes.toList, []⟩
noncomputable def i_Field_hasc1_9fd3_out (_p0 : Int) (p1 : (Int × (Int × Unit))) : Bool → CallOut := fun r => ⟨(.imm true .bool r), [⟨true, kField, .own, p1⟩], []⟩
set_option maxRecDepth 100000 in
theorem i_Field_hasc1_9fd3_eq : ∀ (p0 : Int) (p1 : (Int × (Int × Unit))), denFn i_Field_hasc1_9fd3_V i_Field_hasc1_9fd3_I ⟨[(.imm true (.int .i64) p0), (.ptr (0, 0) [])], [⟨true, kField, .own, p1⟩]⟩ = (i_Field_hasc1_9fd3 p0 p1).run fun r => some (i_Field_hasc1_9fd3_out p0 p1 r) := fun _ _ => by kernel_rfl
noncomputable def i_Field_hasc1_9fd3_G (av : List AV) (rs : List Root) : Tre CallOut :=
 asCons av fun a0_ av0 =>
 asCons av0 fun a1_ av1 =>
 asEnd av1 <|
 asCons rs fun r0_ rs0 =>
 asEnd rs0 <|
 asImmZ true (.int .i64) a0_ fun d1 =>
 asPtr (0, 0) [] a1_ <|
 asRt true kField r0_ fun m2 d3 =>
 asM .own m2 <|
 .mat (i_Field_hasc1_9fd3_F d1 d3) fun r => .ret (i_Field_hasc1_9fd3_out d1 d3 r)
noncomputable def i_Field_hasc1_9fd3_c : Ctr := ⟨[], fun ci => i_Field_hasc1_9fd3_G ci.args ci.roots, false⟩
theorem i_Field_hasc1_9fd3_env : EnvOK Try.prog .none i_Field_hasc1_9fd3_V := (envOK_cons i_Field_count_ok ent105 (envOK_cons i_within_ok ent92 envOK_nil))
set_option maxRecDepth 100000 in
theorem i_Field_hasc1_9fd3_ok : Contract Try.prog .none 104 i_Field_hasc1_9fd3_c := by
 have hl : LoopsOK i_Field_hasc1_9fd3_V [] i_Field_hasc1_9fd3_b := loopsOK_nil (by kernel_rfl)
 refine (contract_of (F := i_Field_hasc1_9fd3_I) tau_tys i_Field_hasc1_9fd3_env Try.func104 (by kernel_rfl) (by kernel_rfl) (by kernel_rfl) hl []).weaken ?_
 rintro ⟨av, rs⟩ co h
 have h : (i_Field_hasc1_9fd3_G av rs).run some = some co := h
 obtain ⟨a0_, av0, rfl, h_0⟩ := asCons_spec h
 obtain ⟨a1_, av1, rfl, h_1⟩ := asCons_spec h_0
 obtain ⟨rfl, h_2⟩ := asEnd_spec h_1
 obtain ⟨r0_, rs0, rfl, h_3⟩ := asCons_spec h_2
 obtain ⟨rfl, h_4⟩ := asEnd_spec h_3
 obtain ⟨d1, rfl, h_5⟩ := asImmZ_spec h_4
 obtain ⟨rfl, h_6⟩ := asPtr_spec h_5
 obtain ⟨m2, d3, rfl, h_7⟩ := asRt_spec h_6
 obtain ⟨rfl, h_8⟩ := asM_spec h_7
 exact fin_mat (i_Field_hasc1_9fd3_eq d1 d3) h_8
end Go.Proofs.Ytkgekgfmnhccmaa

namespace Go.Proofs.Ytkgekgfmnhccmaa
open Go Go.Abs Go.Proofs
noncomputable def nm2_l2 (h2_0_0 : (List Int)) (h2_0_1 : Int) (h2_0_3 : (Int × (Int × Unit))) : Int → Tre (Int ⊕ (Int ⊕ Unit)) := fun s2 =>
 .cond (decide (s2 < h2_0_1))
  (.ite (0 ≤ s2 ∧ s2 < (h2_0_0.length : Int)) <|
  .mat (h2_0_0[s2.toNat]?) fun x1 =>
  .mat (i_Field_hasc1_9fd3_F x1 h2_0_3) fun r2 =>
  .cond r2
   (.ret (.inr (.inl s2)))
   (.ret (.inl (iwrap .i64 (s2 + 1)))))
  (.ret (.inr (.inr ())))
noncomputable def nm2 (p0 : (List Int)) (p1 : (Int × (Int × Unit))) : Tre Int :=
 .mat (loopF (nm2_l2 p0 (p0.length : Int) p1) 0) fun l3 =>
 .alt l3
  (fun a4 =>
   .ret a4)
  (fun _ =>
   .ret (-1))
noncomputable def nm2_F (p0 : (List Int)) (p1 : (Int × (Int × Unit))) : Option Int := (nm2 p0 p1).run some
noncomputable def nm2_V : Env := ⟨tau, [(104, i_Field_hasc1_9fd3_c)], []⟩
noncomputable def nm2_b : Code := (Try.f140.body).getD .skip
noncomputable def nm2_l2_mk (z2_0 : Bool) (h2_0_0 : (List Int)) (h2_0_1 : Int) (h2_0_3 : (Int × (Int × Unit))) : Int → St := fun x => stOf [(0, (.imm z2_0 (.sl (.int .i64)) h2_0_0)), (1, (.fn 104 [(0, 0)])), (7, (.imm true (.int .i64) h2_0_1)), (8, (.imm true (.int .i64) x))] [((0, 0), some ⟨true, kField, .own, h2_0_3⟩)]
noncomputable def nm2_l2_out (_z2_0 : Bool) (_h2_0_0 : (List Int)) (_h2_0_1 : Int) (h2_0_3 : (Int × (Int × Unit))) : (Int ⊕ Unit) → Ex × St
 | .inl x => (.ret, stOf [(4, (.imm true (.int .i64) x))] [((0, 0), some ⟨true, kField, .own, h2_0_3⟩)])
 | .inr _ => (.exit 0, stOf [(4, .dead)] [((0, 0), some ⟨true, kField, .own, h2_0_3⟩)])
noncomputable def nm2_l2_D (s : St) : Tre (Ex × St) :=
 asImm (.sl (.int .i64)) (s.tmps 0) fun z3 d2 =>
 asFn 104 [(0, 0)] (s.tmps 1) <|
 asImmZ true (.int .i64) (s.tmps 7) fun d6 =>
 asImmZ true (.int .i64) (s.tmps 8) fun d8 =>
 asRoot true kField (s.roots (0, 0)) fun m10 d11 =>
 asM .own m10 <|
 .mat (loopF (nm2_l2 d2 d6 d11) d8) fun x => .alt x (fun a0 => .ret (nm2_l2_out z3 d2 d6 d11 (.inl a0))) (fun b0 => .ret (nm2_l2_out z3 d2 d6 d11 (.inr b0)))
noncomputable def nm2_l2_L : LoopI := ⟨([0, 1, 7, 8], [(0, 0)]), ([4], [(0, 0)]), nm2_l2_D⟩
noncomputable def nm2_A : List (Nat × LoopI) := [(2, nm2_l2_L)]
set_option maxRecDepth 100000 in
theorem nm2_l2_step : ∀ (z2_0 : Bool) (h2_0_0 : (List Int)) (h2_0_1 : Int) (h2_0_3 : (Int × (Int × Unit))) (x : Int) (c : St → Option (Ex × St)), den nm2_V nm2_A (loopAt nm2_b 0) (nm2_l2_mk z2_0 h2_0_0 h2_0_1 h2_0_3 x) (roundK nm2_l2_L.kp nm2_l2_L.kx c) = (nm2_l2 h2_0_0 h2_0_1 h2_0_3 x).run (roundR (nm2_l2_mk z2_0 h2_0_0 h2_0_1 h2_0_3) (nm2_l2_out z2_0 h2_0_0 h2_0_1 h2_0_3) c) := fun _ _ _ _ _ _ => by
 kernel_rfl
theorem nm2_l2_ok : LoopOK nm2_V nm2_A (loopAt nm2_b 0) nm2_l2_L := loopOK_of fun s e s' h => by
 generalize hs : restrict nm2_l2_L.kp s = s1 at h
 have h : (nm2_l2_D s1).run some = some (e, s') := h
 obtain ⟨z3, d2, e1, h_0⟩ := asImm_spec h
 obtain ⟨e4, h_1⟩ := asFn_spec h_0
 obtain ⟨d6, e5, h_2⟩ := asImmZ_spec h_1
 obtain ⟨d8, e7, h_3⟩ := asImmZ_spec h_2
 obtain ⟨m10, d11, e9, h_4⟩ := asRoot_spec h_3
 obtain ⟨rfl, h_5⟩ := asM_spec h_4
 obtain ⟨y, hy, hz⟩ := mat_some h_5
 refine ⟨_, _, nm2_l2_mk z3 d2 d6 d11, nm2_l2_out z3 d2 d6 d11, nm2_l2 d2 d6 d11, d8, y, ?_, hy, ?_, nm2_l2_step z3 d2 d6 d11⟩
 ·subst hs; exact restrict_eq (T := [(0, (.imm z3 (.sl (.int .i64)) d2)), (1, (.fn 104 [(0, 0)])), (7, (.imm true (.int .i64) d6)), (8, (.imm true (.int .i64) d8))]) (U := [((0, 0), some ⟨true, kField, .own, d11⟩)]) rfl rfl ⟨e1, e4, e5, e7, trivial⟩ ⟨e9, trivial⟩
 ·rcases y with x | x <;> exact Option.some.inj hz
noncomputable def nm2_I : FnI := ⟨nm2_b, Try.f140.results.toList, Try.f140.resultTypes.toList, nm2_A⟩
noncomputable def nm2_out (_zp0 : Bool) (_p0 : (List Int)) (p1 : (Int × (Int × Unit))) : Int → CallOut := fun r => ⟨(.imm true (.int .i64) r), [⟨true, kField, .own, p1⟩], []⟩
set_option maxRecDepth 100000 in
theorem nm2_eq : ∀ (zp0 : Bool) (p0 : (List Int)) (p1 : (Int × (Int × Unit))), denFn nm2_V nm2_I ⟨[(.imm zp0 (.sl (.int .i64)) p0), (.fn 104 [(0, 0)])], [⟨true, kField, .own, p1⟩]⟩ = (nm2 p0 p1).run fun r => some (nm2_out zp0 p0 p1 r) := fun _ _ _ => by kernel_rfl
noncomputable def nm2_G (av : List AV) (rs : List Root) : Tre CallOut :=
 asCons av fun a0_ av0 =>
 asCons av0 fun a1_ av1 =>
 asEnd av1 <|
 asCons rs fun r0_ rs0 =>
 asEnd rs0 <|
 asImm (.sl (.int .i64)) a0_ fun z2 d1 =>
 asFn 104 [(0, 0)] a1_ <|
 asRt true kField r0_ fun m3 d4 =>
 asM .own m3 <|
 .mat (nm2_F d1 d4) fun r => .ret (nm2_out z2 d1 d4 r)
noncomputable def nm2_c : Ctr := ⟨[], fun ci => nm2_G ci.args ci.roots, false⟩
theorem nm2_env : EnvOK Try.prog .none nm2_V := (envOK_cons i_Field_hasc1_9fd3_ok ent104 envOK_nil)
set_option maxRecDepth 100000 in
theorem nm2_ok : Contract Try.prog .none 140 nm2_c := by
 have hl : LoopsOK nm2_V nm2_A nm2_b := (loopsOK_all (n := 1) (by kernel_rfl) fun k hk => by
   match k, hk with
   | 0, _ => exact loopOK_at (id := 2) (L := nm2_l2_L) (by kernel_rfl) (by kernel_rfl) nm2_l2_ok)
 refine (contract_of (F := nm2_I) tau_tys nm2_env Try.func140 (by kernel_rfl) (by kernel_rfl) (by kernel_rfl) hl []).weaken ?_
 rintro ⟨av, rs⟩ co h
 have h : (nm2_G av rs).run some = some co := h
 obtain ⟨a0_, av0, rfl, h_0⟩ := asCons_spec h
 obtain ⟨a1_, av1, rfl, h_1⟩ := asCons_spec h_0
 obtain ⟨rfl, h_2⟩ := asEnd_spec h_1
 obtain ⟨r0_, rs0, rfl, h_3⟩ := asCons_spec h_2
 obtain ⟨rfl, h_4⟩ := asEnd_spec h_3
 obtain ⟨z2, d1, rfl, h_5⟩ := asImm_spec h_4
 obtain ⟨rfl, h_6⟩ := asFn_spec h_5
 obtain ⟨m3, d4, rfl, h_7⟩ := asRt_spec h_6
 obtain ⟨rfl, h_8⟩ := asM_spec h_7
 exact fin_mat (nm2_eq z2 d1 d4) h_8
end Go.Proofs.Ytkgekgfmnhccmaa

namespace Go.Proofs.Ytkgekgfmnhccmaa
open Go Go.Abs Go.Proofs
noncomputable def nm0 (p0 : (List Int)) (p1 : (Int × (Int × Unit))) : Tre Bool :=
 .mat (nm2_F p0 p1) fun r1 =>
 .ret (decide (r1 ≥ 0))
noncomputable def nm0_F (p0 : (List Int)) (p1 : (Int × (Int × Unit))) : Option Bool := (nm0 p0 p1).run some
noncomputable def nm0_V : Env := ⟨tau, [(140, nm2_c)], []⟩
noncomputable def nm0_b : Code := (Try.f103.body).getD .skip
noncomputable def nm0_I : FnI := ⟨nm0_b, Try.f103.results.toList, Try.f103.resultTypes.toList, []⟩
noncomputable def nm0_out (_zp0 : Bool) (_p0 : (List Int)) (p1 : (Int × (Int × Unit))) : Bool → CallOut := fun r => ⟨(.imm true .bool r), [⟨true, kField, .own, p1⟩], []⟩
set_option maxRecDepth 100000 in
theorem nm0_eq : ∀ (zp0 : Bool) (p0 : (List Int)) (p1 : (Int × (Int × Unit))), denFn nm0_V nm0_I ⟨[(.imm zp0 (.sl (.int .i64)) p0), (.fn 104 [(0, 0)])], [⟨true, kField, .own, p1⟩]⟩ = (nm0 p0 p1).run fun r => some (nm0_out zp0 p0 p1 r) := fun _ _ _ => by kernel_rfl
noncomputable def nm0_G (av : List AV) (rs : List Root) : Tre CallOut :=
 asCons av fun a0_ av0 =>
 asCons av0 fun a1_ av1 =>
 asEnd av1 <|
 asCons rs fun r0_ rs0 =>
 asEnd rs0 <|
 asImm (.sl (.int .i64)) a0_ fun z2 d1 =>
 asFn 104 [(0, 0)] a1_ <|
 asRt true kField r0_ fun m3 d4 =>
 asM .own m3 <|
 .mat (nm0_F d1 d4) fun r => .ret (nm0_out z2 d1 d4 r)
noncomputable def nm0_c : Ctr := ⟨[], fun ci => nm0_G ci.args ci.roots, false⟩
theorem nm0_env : EnvOK Try.prog .none nm0_V := (envOK_cons nm2_ok ent140 envOK_nil)
set_option maxRecDepth 100000 in
theorem nm0_ok : Contract Try.prog .none 103 nm0_c := by
 have hl : LoopsOK nm0_V [] nm0_b := loopsOK_nil (by kernel_rfl)
 refine (contract_of (F := nm0_I) tau_tys nm0_env Try.func103 (by kernel_rfl) (by kernel_rfl) (by kernel_rfl) hl []).weaken ?_
 rintro ⟨av, rs⟩ co h
 have h : (nm0_G av rs).run some = some co := h
 obtain ⟨a0_, av0, rfl, h_0⟩ := asCons_spec h
 obtain ⟨a1_, av1, rfl, h_1⟩ := asCons_spec h_0
 obtain ⟨rfl, h_2⟩ := asEnd_spec h_1
 obtain ⟨r0_, rs0, rfl, h_3⟩ := asCons_spec h_2
 obtain ⟨rfl, h_4⟩ := asEnd_spec h_3
 obtain ⟨z2, d1, rfl, h_5⟩ := asImm_spec h_4
 obtain ⟨rfl, h_6⟩ := asFn_spec h_5
 obtain ⟨m3, d4, rfl, h_7⟩ := asRt_spec h_6
 obtain ⟨rfl, h_8⟩ := asM_spec h_7
 exact fin_mat (nm0_eq z2 d1 d4) h_8
end Go.Proofs.Ytkgekgfmnhccmaa

namespace Go.Proofs.Ytkgekgfmnhccmaa
open Go Go.Abs Go.Proofs
noncomputable def i_Field_has (p0 : (Int × (Int × Unit))) (p1 : (List Int)) : Tre Bool :=
 .mat (nm0_F p1 p0) fun r1 =>
 .ret (!r1)
noncomputable def i_Field_has_F (p0 : (Int × (Int × Unit))) (p1 : (List Int)) : Option Bool := (i_Field_has p0 p1).run some
-- more
theorem i_Field_hasc1_is {f : TF3} (hf : fieldOk f = true) (x : Int) : i_Field_hasc1_9fd3_F x f = some (!inR x 0 (topF f)) := by
 have := fieldOk_deg hf
 have h1 : i_Field_count_F f = some (ishl .i64 1 f.1) := by
  unfold i_Field_count_F i_Field_count
  rw [Tre.run_ite, if_pos (by omega)]
  rfl
 unfold i_Field_hasc1_9fd3_F i_Field_hasc1_9fd3
 rw [run_some_mat h1, topF_is' hf]
 rfl
theorem i_Field_has_is {f : TF3} (hf : fieldOk f = true) (c : List Int) (hc : c.length < 4611686018427387904) : i_Field_has_F f c = some (elsOk f c) := by
 have h1 : nm2_F c f = some (idxI (fun x => !inR x 0 (topF f)) 0 c) := by
  unfold nm2_F nm2
  rw [Tre.run_mat, find_loop (xs := c) (fun i x => cond (!inR x 0 (topF f)) (some (.inl (i : Int))) none) (.inr ())]
  ·rw [Option.bind_some, ← findE_idx (p := fun x => !inR x 0 (topF f))]
   generalize findE _ _ _ _ = r
   cases r <;> rfl
  ·intro i x hx
   have hi : i < c.length := (List.getElem?_eq_some_iff.1 hx).1
   unfold nm2_l2
   rw [run_inb hx, run_some_mat (i_Field_hasc1_is hf x), Tre.run_cond]
   cases inR x 0 (topF f)
   ·rfl
   ·simp only [Bool.not_true, cond_false, Tre.run_ret, iwrap_succ (show i < 4611686018427387904 by omega)]
  ·unfold nm2_l2
   exact run_out
 have h2 : nm0_F c f = some (decide (idxI (fun x => !inR x 0 (topF f)) 0 c ≥ 0)) := by
  unfold nm0_F nm0
  rw [run_some_mat h1]
  rfl
 unfold i_Field_has_F i_Field_has elsOk
 rw [run_some_mat h2, ← idxI_all (p := fun x => inR x 0 (topF f))]
 rfl
noncomputable def i_Field_has_V : Env := ⟨tau, [(103, nm0_c)], []⟩
noncomputable def i_Field_has_b : Code := (Try.f55.body).getD .skip
noncomputable def i_Field_has_I : FnI := ⟨i_Field_has_b, Try.f55.results.toList, Try.f55.resultTypes.toList, []⟩
noncomputable def i_Field_has_out (_zp0 : Bool) (_p0 : (Int × (Int × Unit))) (_p1 : (List Int)) : Bool → CallOut := fun r => ⟨(.imm true .bool r), [], []⟩
set_option maxRecDepth 100000 in
theorem i_Field_has_eq : ∀ (zp0 : Bool) (p0 : (Int × (Int × Unit))) (p1 : (List Int)), denFn i_Field_has_V i_Field_has_I ⟨[(.imm true kField p0), (.imm zp0 (.sl (.int .i64)) p1)], []⟩ = (i_Field_has p0 p1).run fun r => some (i_Field_has_out zp0 p0 p1 r) := fun _ _ _ => by kernel_rfl
noncomputable def i_Field_has_G (av : List AV) (rs : List Root) : Tre CallOut :=
 asCons av fun a0_ av0 =>
 asCons av0 fun a1_ av1 =>
 asEnd av1 <|
 asEnd rs <|
 asImmZ true kField a0_ fun d1 =>
 asImm (.sl (.int .i64)) a1_ fun z3 d2 =>
 .mat (i_Field_has_F d1 d2) fun r => .ret (i_Field_has_out z3 d1 d2 r)
noncomputable def i_Field_has_c : Ctr := ⟨[], fun ci => i_Field_has_G ci.args ci.roots, false⟩
theorem i_Field_has_env : EnvOK Try.prog .none i_Field_has_V := (envOK_cons nm0_ok ent103 envOK_nil)
set_option maxRecDepth 100000 in
theorem i_Field_has_ok : Contract Try.prog .none 55 i_Field_has_c := by
 have hl : LoopsOK i_Field_has_V [] i_Field_has_b := loopsOK_nil (by kernel_rfl)
 refine (contract_of (F := i_Field_has_I) tau_tys i_Field_has_env Try.func55 (by kernel_rfl) (by kernel_rfl) (by kernel_rfl) hl []).weaken ?_
 rintro ⟨av, rs⟩ co h
 have h : (i_Field_has_G av rs).run some = some co := h
 obtain ⟨a0_, av0, rfl, h_0⟩ := asCons_spec h
 obtain ⟨a1_, av1, rfl, h_1⟩ := asCons_spec h_0
 obtain ⟨rfl, h_2⟩ := asEnd_spec h_1
 obtain ⟨rfl, h_3⟩ := asEnd_spec h_2
 obtain ⟨d1, rfl, h_4⟩ := asImmZ_spec h_3
 obtain ⟨z3, d2, rfl, h_5⟩ := asImm_spec h_4
 exact fin_mat (i_Field_has_eq z3 d1 d2) h_5
end Go.Proofs.Ytkgekgfmnhccmaa

namespace Go.Proofs.Ytkgekgfmnhccmaa
open Go Go.Abs Go.Proofs
noncomputable def i_ValidNet_l4 (h4_0_0 : (List (List Int))) (h4_0_1 : Int) (h4_0_3 : TNet) : Int → Tre (Int ⊕ (Bool ⊕ Unit)) := fun s4 =>
 .cond (decide (s4 < h4_0_1))
  (.ite (0 ≤ s4 ∧ s4 < (h4_0_0.length : Int)) <|
  .mat (h4_0_0[s4.toNat]?) fun x2 =>
  .cond (!decide ((x2.length : Int) = 2))
   (.ret (.inr (.inl false)))
   (.ite ((0 : Int) ≤ 0 ∧ (0 : Int) < (x2.length : Int)) <|
   .mat (x2[0]?) fun x3 =>
   .cond (!(i_Net_isNode_S h4_0_3 x3))
    (.ret (.inr (.inl false)))
    (.ite ((0 : Int) ≤ 1 ∧ (1 : Int) < (x2.length : Int)) <|
    .mat (x2[1]?) fun x4 =>
    .cond (!(i_Net_isNode_S h4_0_3 x4))
     (.ret (.inr (.inl false)))
     (.ite ((0 : Int) ≤ 0 ∧ (0 : Int) < (x2.length : Int)) <|
     .mat (x2[0]?) fun x5 =>
     .ite ((0 : Int) ≤ 1 ∧ (1 : Int) < (x2.length : Int)) <|
     .mat (x2[1]?) fun x6 =>
     .cond (decide (x5 ≥ x6))
      (.ret (.inr (.inl false)))
      (.cond (decide (s4 > 0))
       (.ite ((0 : Int) ≤ 0 ∧ (0 : Int) < (x2.length : Int)) <|
       .mat (x2[0]?) fun x7 =>
       .ite (0 ≤ iwrap .i64 (s4 - 1) ∧ iwrap .i64 (s4 - 1) < (h4_0_3.2.2.2.1.length : Int)) <|
       .mat (h4_0_3.2.2.2.1[(iwrap .i64 (s4 - 1)).toNat]?) fun x8 =>
       .ite ((0 : Int) ≤ 0 ∧ (0 : Int) < (x8.length : Int)) <|
       .mat (x8[0]?) fun x9 =>
       .cond (decide (x7 < x9))
        (.ret (.inr (.inl false)))
        (.ret (.inl (iwrap .i64 (s4 + 1)))))
       (.ret (.inl (iwrap .i64 (s4 + 1)))))))))
  (.ret (.inr (.inr ())))
noncomputable def i_ValidNet_l10 (h10_0_0 : (List (List Int))) (h10_0_1 : Int) (h10_0_3 : TNet) : Int → Tre (Int ⊕ (Bool ⊕ Unit)) := fun s10 =>
 .cond (decide (s10 < h10_0_1))
  (.ite (0 ≤ s10 ∧ s10 < (h10_0_0.length : Int)) <|
  .mat (h10_0_0[s10.toNat]?) fun x13 =>
  .ite (0 ≤ s10 ∧ s10 < (h10_0_3.2.2.2.1.length : Int)) <|
  .mat (h10_0_3.2.2.2.1[s10.toNat]?) fun x14 =>
  .ite ((0 : Int) ≤ 0 ∧ (0 : Int) < (x14.length : Int)) <|
  .mat (x14[0]?) fun x15 =>
  .mat (i_Net_has_F h10_0_3 x15) fun r16 =>
  .cond (!decide ((x13.length : Int) = r16))
   (.ret (.inr (.inl false)))
   (.mat (i_Field_has_F h10_0_3.1 x13) fun r17 =>
   .cond (!r17)
    (.ret (.inr (.inl false)))
    (.ret (.inl (iwrap .i64 (s10 + 1))))))
  (.ret (.inr (.inr ())))
noncomputable def i_ValidNet (p0 : TNet) : Tre Bool :=
 .mat (i_ValidField_F p0.1) fun r1 =>
 .cond (!r1)
  (.ret false)
  (.cond (!(inR p0.2.1 2 8))
   (.ret false)
   (.cond (!(inR p0.2.2.1 1 3))
    (.ret false)
    (.cond (decide ((p0.2.2.2.1.length : Int) > 14))
     (.ret false)
     (.cond (!decide ((p0.2.2.2.2.1.length : Int) = (p0.2.2.2.1.length : Int)))
      (.ret false)
      (.mat (loopF (i_ValidNet_l4 p0.2.2.2.1 (p0.2.2.2.1.length : Int) p0) 0) fun l10 =>
      .alt l10
       (fun a11 =>
        .ret a11)
       (fun _ =>
        .mat (loopF (i_ValidNet_l10 p0.2.2.2.2.1 (p0.2.2.2.2.1.length : Int) p0) 0) fun l18 =>
        .alt l18
         (fun a19 =>
          .ret a19)
         (fun _ =>
          .ret true)))))))
noncomputable def i_ValidNet_F (p0 : TNet) : Option Bool := (i_ValidNet p0).run some
-- more
theorem i_ValidNet_edges (n : TN6) (hN : 2 ≤ n.2.1 ∧ n.2.1 ≤ 8) (hl : n.2.2.2.1.length ≤ 14) : loopF (i_ValidNet_l4 n.2.2.2.1 (n.2.2.2.1.length : Int) n) 0 = some (cond (allI (edgeOk n.2.1 n.2.2.2.1) 0 n.2.2.2.1) (.inr ()) (.inl false)) := by
 refine all_loop (β := Bool ⊕ Unit) (edgeOk n.2.1 n.2.2.2.1) (.inl false) (.inr ()) ?_ ?_
 ·intro i e he hp
  have hi : i < n.2.2.2.1.length := (List.getElem?_eq_some_iff.1 he).1
  unfold i_ValidNet_l4
  rw [run_inb he, Tre.run_cond]
  by_cases h2 : e.length = 2
  case neg =>
   rw [decide_eq_false (by omega), show edgeOk n.2.1 n.2.2.2.1 i e = false from by unfold edgeOk; rw [decide_eq_false h2]; rfl]
   rfl
  obtain ⟨a, b, rfl⟩ := len2 h2
  rw [show (!decide ((([a, b] : List Int).length : Int) = 2)) = false from rfl, cond_false]
  have k0 : ∀ (k : Int → Tre (Int ⊕ (Bool ⊕ Unit))), (Tre.ite ((0 : Int) ≤ 0 ∧ (0 : Int) < (([a, b] : List Int).length : Int)) (.mat ([a, b] : List Int)[0]? k)).run some = (k a).run some := fun k => by rw [Tre.run_ite, if_pos ⟨by decide, by simp⟩]; rfl
  have k1 : ∀ (k : Int → Tre (Int ⊕ (Bool ⊕ Unit))), (Tre.ite ((0 : Int) ≤ 1 ∧ (1 : Int) < (([a, b] : List Int).length : Int)) (.mat ([a, b] : List Int)[1]? k)).run some = (k b).run some := fun k => by rw [Tre.run_ite, if_pos ⟨by decide, by simp⟩]; rfl
  rw [show edgeOk n.2.1 n.2.2.2.1 i [a, b] = (inR a 0 (n.2.1 - 1) && (inR b 0 (n.2.1 - 1) && (decide (a < b) && (decide (i = 0) || decide (e0 (n.2.2.2.1.getD (i - 1) []) ≤ a))))) from by
   show (true && ((inR a 0 (n.2.1 - 1) && (inR b 0 (n.2.1 - 1) && decide (a < b))) && (decide (i = 0) || decide (e0 (n.2.2.2.1.getD (i - 1) []) ≤ a)))) = _
   rw [Bool.true_and, Bool.and_assoc, Bool.and_assoc]]
  have hS : ∀ x, i_Net_isNode_S n x = inR x 0 (n.2.1 - 1) := fun x => by unfold i_Net_isNode_S; dsimp only; rw [iwrap_i64 (by omega) (by omega)]
  rw [k0, Tre.run_cond, hS]
  cases inR a 0 (n.2.1 - 1)
  ·rfl
  rw [Bool.not_true, cond_false, k1, Tre.run_cond, hS, Bool.true_and]
  cases inR b 0 (n.2.1 - 1)
  ·rfl
  rw [Bool.not_true, cond_false, k0, k1, Tre.run_cond, Bool.true_and]
  by_cases hab : a < b
  case neg => rw [decide_eq_true (by omega), decide_eq_false hab]; rfl
  rw [decide_eq_false (by omega), decide_eq_true hab, cond_false, Tre.run_cond, Bool.true_and]
  by_cases h0 : i = 0
  ·subst h0; rfl
  obtain ⟨q, hq⟩ : ∃ q, n.2.2.2.1[i - 1]? = some q := ⟨_, List.getElem?_eq_getElem (by omega)⟩
  obtain ⟨c, d, rfl⟩ := len2 (edgeOk_len (hp (i - 1) q (by omega) hq))
  rw [decide_eq_true (by omega), cond_true, k0, iwrap_pred (by omega) (by omega), run_at hq, Tre.run_ite, if_pos ⟨by decide, by simp⟩, Tre.run_mat]
  simp only [List.getElem?_cons_zero, Option.bind_some]
  rw [Tre.run_cond, getD_of hq, decide_eq_false h0, Bool.false_or, show e0 [c, d] = c from rfl]
  by_cases h3 : c ≤ a
  ·rw [decide_eq_false (by omega), decide_eq_true h3, cond_false, cond_true, Tre.run_ret, iwrap_succ (by omega)]
  ·rw [decide_eq_true (by omega), decide_eq_false h3]; rfl
 ·unfold i_ValidNet_l4
  exact run_out
theorem i_ValidNet_coefs (n : TN6) (hf : fieldOk n.1 = true) (hM : n.2.2.1 ≤ 3) (hl : n.2.2.2.1.length ≤ 14) (hc : n.2.2.2.2.1.length = n.2.2.2.1.length) (h2 : ∀ e ∈ n.2.2.2.1, e.length = 2) : loopF (i_ValidNet_l10 n.2.2.2.2.1 (n.2.2.2.2.1.length : Int) n) 0 = some (cond (allI (coefOk n) 0 n.2.2.2.2.1) (.inr ()) (.inl false)) := by
 refine all_loop (β := Bool ⊕ Unit) (coefOk n) (.inl false) (.inr ()) ?_ ?_
 ·intro i x hx _
  have hi : i < n.2.2.2.2.1.length := (List.getElem?_eq_some_iff.1 hx).1
  obtain ⟨e, he⟩ : ∃ e, n.2.2.2.1[i]? = some e := ⟨_, List.getElem?_eq_getElem (by omega)⟩
  obtain ⟨a, b, rfl⟩ := len2 (h2 e (List.mem_of_getElem? he))
  unfold i_ValidNet_l10 coefOk
  rw [getD_of he, show e0 [a, b] = a from rfl, run_inb hx, run_at he, Tre.run_ite, if_pos ⟨by decide, by simp⟩, Tre.run_mat]
  simp only [List.getElem?_cons_zero, Option.bind_some]
  rw [run_some_mat (i_Net_has_is n hl h2 a), Tre.run_cond]
  by_cases h : (x.length : Int) = hasV n a
  ·rw [decide_eq_true h, Bool.not_true, cond_false, run_some_mat (i_Field_has_is hf x ?_), Tre.run_cond]
   ·cases elsOk n.1 x
    ·rfl
    ·simp only [Bool.not_true, Bool.true_and, cond_false, cond_true, Tre.run_ret, iwrap_succ (show i < 4611686018427387904 by omega)]
   ·have := hasV_le n hM hl a; omega
  ·rw [decide_eq_false h]; rfl
 ·unfold i_ValidNet_l10
  exact run_out
theorem i_ValidNet_is (n : TN6) : i_ValidNet_F n = some (netOk n) := by
 unfold i_ValidNet_F i_ValidNet netOk
 rw [run_some_mat (i_ValidField_is n.1), Tre.run_cond]
 cases hf : fieldOk n.1
 ·rfl
 rw [Bool.not_true, cond_false, Tre.run_cond, Bool.true_and]
 cases hN : inR n.2.1 2 8
 ·rfl
 rw [Bool.not_true, cond_false, Tre.run_cond, Bool.true_and]
 cases hM : inR n.2.2.1 1 3
 ·rfl
 rw [Bool.not_true, cond_false, Tre.run_cond, Bool.true_and]
 by_cases hl : n.2.2.2.1.length ≤ 14
 case neg => rw [decide_eq_true (by omega), decide_eq_false hl]; rfl
 rw [decide_eq_false (by omega), decide_eq_true hl, cond_false, Tre.run_cond, Bool.true_and]
 by_cases hc : n.2.2.2.2.1.length = n.2.2.2.1.length
 case neg => rw [decide_eq_false (by omega), decide_eq_false hc]; rfl
 rw [decide_eq_true (by omega), decide_eq_true hc, Bool.not_true, cond_false, run_some_mat (i_ValidNet_edges n (inR_iff.1 hN) hl), Bool.true_and]
 cases he : allI (edgeOk n.2.1 n.2.2.2.1) 0 n.2.2.2.1
 ·rfl
 rw [cond_true, Tre.run_inr, run_some_mat (i_ValidNet_coefs n hf (inR_iff.1 hM).2 hl hc ?_)]
 ·cases allI (coefOk n) 0 n.2.2.2.2.1 <;> rfl
 ·intro e hm
  obtain ⟨i, hi⟩ := List.mem_iff_getElem?.1 hm
  have := (allI_iff _ 0).1 he i e hi
  rw [Nat.zero_add] at this
  exact edgeOk_len this
noncomputable def i_ValidNet_V : Env := ⟨tau, [(91, i_ValidField_c), (92, i_within_c), (93, i_Net_isNode_c), (53, i_size_int64_c), (54, i_Net_has_c), (55, i_Field_has_c)], []⟩
noncomputable def i_ValidNet_b : Code := (Try.f42.body).getD .skip
noncomputable def i_ValidNet_l4_mk (z4_0 : Bool) (z4_1 : Bool) (h4_0_0 : (List (List Int))) (h4_0_1 : Int) (h4_0_3 : TNet) : Int → St := fun x => stOf [(1, (.ptr (3, 0) [])), (39, (.imm z4_0 (.sl (.sl (.int .i64))) h4_0_0)), (40, (.imm true (.int .i64) h4_0_1)), (41, (.imm true (.int .i64) x))] [((3, 0), some ⟨true, kNet, (.imm z4_1), h4_0_3⟩)]
noncomputable def i_ValidNet_l4_out (_z4_0 : Bool) (z4_1 : Bool) (_h4_0_0 : (List (List Int))) (_h4_0_1 : Int) (h4_0_3 : TNet) : (Bool ⊕ Unit) → Ex × St
 | .inl x => (.ret, stOf [(1, (.ptr (3, 0) [])), (2, (.imm true .bool x))] [((3, 0), some ⟨true, kNet, (.imm z4_1), h4_0_3⟩)])
 | .inr _ => (.exit 0, stOf [(1, (.ptr (3, 0) [])), (2, .dead)] [((3, 0), some ⟨true, kNet, (.imm z4_1), h4_0_3⟩)])
noncomputable def i_ValidNet_l4_D (s : St) : Tre (Ex × St) :=
 asPtr (3, 0) [] (s.tmps 1) <|
 asImm (.sl (.sl (.int .i64))) (s.tmps 39) fun z4 d3 =>
 asImmZ true (.int .i64) (s.tmps 40) fun d6 =>
 asImmZ true (.int .i64) (s.tmps 41) fun d8 =>
 asRoot true kNet (s.roots (3, 0)) fun m10 d11 =>
 asMImm m10 fun z12 =>
 .mat (loopF (i_ValidNet_l4 d3 d6 d11) d8) fun x => .alt x (fun a0 => .ret (i_ValidNet_l4_out z4 z12 d3 d6 d11 (.inl a0))) (fun b0 => .ret (i_ValidNet_l4_out z4 z12 d3 d6 d11 (.inr b0)))
noncomputable def i_ValidNet_l4_L : LoopI := ⟨([1, 39, 40, 41], [(3, 0)]), ([1, 2], [(3, 0)]), i_ValidNet_l4_D⟩
noncomputable def i_ValidNet_l10_mk (z10_0 : Bool) (z10_1 : Bool) (h10_0_0 : (List (List Int))) (h10_0_1 : Int) (h10_0_3 : TNet) : Int → St := fun x => stOf [(1, (.ptr (3, 0) [])), (94, (.imm z10_0 (.sl (.sl (.int .i64))) h10_0_0)), (95, (.imm true (.int .i64) h10_0_1)), (96, (.imm true (.int .i64) x))] [((3, 0), some ⟨true, kNet, (.imm z10_1), h10_0_3⟩)]
noncomputable def i_ValidNet_l10_out (_z10_0 : Bool) (_z10_1 : Bool) (_h10_0_0 : (List (List Int))) (_h10_0_1 : Int) (_h10_0_3 : TNet) : (Bool ⊕ Unit) → Ex × St
 | .inl x => (.ret, stOf [(2, (.imm true .bool x))] [])
 | .inr _ => (.exit 2, stOf [(2, .dead)] [])
noncomputable def i_ValidNet_l10_D (s : St) : Tre (Ex × St) :=
 asPtr (3, 0) [] (s.tmps 1) <|
 asImm (.sl (.sl (.int .i64))) (s.tmps 94) fun z4 d3 =>
 asImmZ true (.int .i64) (s.tmps 95) fun d6 =>
 asImmZ true (.int .i64) (s.tmps 96) fun d8 =>
 asRoot true kNet (s.roots (3, 0)) fun m10 d11 =>
 asMImm m10 fun z12 =>
 .mat (loopF (i_ValidNet_l10 d3 d6 d11) d8) fun x => .alt x (fun a0 => .ret (i_ValidNet_l10_out z4 z12 d3 d6 d11 (.inl a0))) (fun b0 => .ret (i_ValidNet_l10_out z4 z12 d3 d6 d11 (.inr b0)))
noncomputable def i_ValidNet_l10_L : LoopI := ⟨([1, 94, 95, 96], [(3, 0)]), ([2], []), i_ValidNet_l10_D⟩
noncomputable def i_ValidNet_A : List (Nat × LoopI) := [(4, i_ValidNet_l4_L), (10, i_ValidNet_l10_L)]
set_option maxRecDepth 100000 in
theorem i_ValidNet_l4_step : ∀ (z4_0 : Bool) (z4_1 : Bool) (h4_0_0 : (List (List Int))) (h4_0_1 : Int) (h4_0_3 : TNet) (x : Int) (c : St → Option (Ex × St)), den i_ValidNet_V i_ValidNet_A (loopAt i_ValidNet_b 0) (i_ValidNet_l4_mk z4_0 z4_1 h4_0_0 h4_0_1 h4_0_3 x) (roundK i_ValidNet_l4_L.kp i_ValidNet_l4_L.kx c) = (i_ValidNet_l4 h4_0_0 h4_0_1 h4_0_3 x).run (roundR (i_ValidNet_l4_mk z4_0 z4_1 h4_0_0 h4_0_1 h4_0_3) (i_ValidNet_l4_out z4_0 z4_1 h4_0_0 h4_0_1 h4_0_3) c) := fun _ _ _ _ _ _ _ => by
 kernel_rfl
theorem i_ValidNet_l4_ok : LoopOK i_ValidNet_V i_ValidNet_A (loopAt i_ValidNet_b 0) i_ValidNet_l4_L := loopOK_of fun s e s' h => by
 generalize hs : restrict i_ValidNet_l4_L.kp s = s1 at h
 have h : (i_ValidNet_l4_D s1).run some = some (e, s') := h
 obtain ⟨e1, h_0⟩ := asPtr_spec h
 obtain ⟨z4, d3, e2, h_1⟩ := asImm_spec h_0
 obtain ⟨d6, e5, h_2⟩ := asImmZ_spec h_1
 obtain ⟨d8, e7, h_3⟩ := asImmZ_spec h_2
 obtain ⟨m10, d11, e9, h_4⟩ := asRoot_spec h_3
 obtain ⟨z12, rfl, h_5⟩ := asMImm_spec h_4
 obtain ⟨y, hy, hz⟩ := mat_some h_5
 refine ⟨_, _, i_ValidNet_l4_mk z4 z12 d3 d6 d11, i_ValidNet_l4_out z4 z12 d3 d6 d11, i_ValidNet_l4 d3 d6 d11, d8, y, ?_, hy, ?_, i_ValidNet_l4_step z4 z12 d3 d6 d11⟩
 ·subst hs; exact restrict_eq (T := [(1, (.ptr (3, 0) [])), (39, (.imm z4 (.sl (.sl (.int .i64))) d3)), (40, (.imm true (.int .i64) d6)), (41, (.imm true (.int .i64) d8))]) (U := [((3, 0), some ⟨true, kNet, (.imm z12), d11⟩)]) rfl rfl ⟨e1, e2, e5, e7, trivial⟩ ⟨e9, trivial⟩
 ·rcases y with x | x <;> exact Option.some.inj hz
set_option maxRecDepth 100000 in
theorem i_ValidNet_l10_step : ∀ (z10_0 : Bool) (z10_1 : Bool) (h10_0_0 : (List (List Int))) (h10_0_1 : Int) (h10_0_3 : TNet) (x : Int) (c : St → Option (Ex × St)), den i_ValidNet_V i_ValidNet_A (loopAt i_ValidNet_b 1) (i_ValidNet_l10_mk z10_0 z10_1 h10_0_0 h10_0_1 h10_0_3 x) (roundK i_ValidNet_l10_L.kp i_ValidNet_l10_L.kx c) = (i_ValidNet_l10 h10_0_0 h10_0_1 h10_0_3 x).run (roundR (i_ValidNet_l10_mk z10_0 z10_1 h10_0_0 h10_0_1 h10_0_3) (i_ValidNet_l10_out z10_0 z10_1 h10_0_0 h10_0_1 h10_0_3) c) := fun _ _ _ _ _ _ _ => by
 kernel_rfl
theorem i_ValidNet_l10_ok : LoopOK i_ValidNet_V i_ValidNet_A (loopAt i_ValidNet_b 1) i_ValidNet_l10_L := loopOK_of fun s e s' h => by
 generalize hs : restrict i_ValidNet_l10_L.kp s = s1 at h
 have h : (i_ValidNet_l10_D s1).run some = some (e, s') := h
 obtain ⟨e1, h_0⟩ := asPtr_spec h
 obtain ⟨z4, d3, e2, h_1⟩ := asImm_spec h_0
 obtain ⟨d6, e5, h_2⟩ := asImmZ_spec h_1
 obtain ⟨d8, e7, h_3⟩ := asImmZ_spec h_2
 obtain ⟨m10, d11, e9, h_4⟩ := asRoot_spec h_3
 obtain ⟨z12, rfl, h_5⟩ := asMImm_spec h_4
 obtain ⟨y, hy, hz⟩ := mat_some h_5
 refine ⟨_, _, i_ValidNet_l10_mk z4 z12 d3 d6 d11, i_ValidNet_l10_out z4 z12 d3 d6 d11, i_ValidNet_l10 d3 d6 d11, d8, y, ?_, hy, ?_, i_ValidNet_l10_step z4 z12 d3 d6 d11⟩
 ·subst hs; exact restrict_eq (T := [(1, (.ptr (3, 0) [])), (94, (.imm z4 (.sl (.sl (.int .i64))) d3)), (95, (.imm true (.int .i64) d6)), (96, (.imm true (.int .i64) d8))]) (U := [((3, 0), some ⟨true, kNet, (.imm z12), d11⟩)]) rfl rfl ⟨e1, e2, e5, e7, trivial⟩ ⟨e9, trivial⟩
 ·rcases y with x | x <;> exact Option.some.inj hz
noncomputable def i_ValidNet_I : FnI := ⟨i_ValidNet_b, Try.f42.results.toList, Try.f42.resultTypes.toList, i_ValidNet_A⟩
noncomputable def i_ValidNet_out (_zp0 : Bool) (_p0 : TNet) : Bool → CallOut := fun r => ⟨(.imm true .bool r), [], []⟩
set_option maxRecDepth 100000 in
theorem i_ValidNet_eq : ∀ (zp0 : Bool) (p0 : TNet), denFn i_ValidNet_V i_ValidNet_I ⟨[(.imm zp0 kNet p0)], []⟩ = (i_ValidNet p0).run fun r => some (i_ValidNet_out zp0 p0 r) := fun _ _ => by kernel_rfl
noncomputable def i_ValidNet_G (av : List AV) (rs : List Root) : Tre CallOut :=
 asCons av fun a0_ av0 =>
 asEnd av0 <|
 asEnd rs <|
 asImm kNet a0_ fun z2 d1 =>
 .mat (i_ValidNet_F d1) fun r => .ret (i_ValidNet_out z2 d1 r)
noncomputable def i_ValidNet_c : Ctr := ⟨[], fun ci => i_ValidNet_G ci.args ci.roots, false⟩
theorem i_ValidNet_env : EnvOK Try.prog .none i_ValidNet_V := (envOK_cons i_ValidField_ok ent91 (envOK_cons i_within_ok ent92 (envOK_cons i_Net_isNode_ok ent93 (envOK_cons i_size_int64_ok ent53 (envOK_cons i_Net_has_ok ent54 (envOK_cons i_Field_has_ok ent55 envOK_nil))))))
set_option maxRecDepth 100000 in
theorem i_ValidNet_ok : Contract Try.prog .none 42 i_ValidNet_c := by
 have hl : LoopsOK i_ValidNet_V i_ValidNet_A i_ValidNet_b := (loopsOK_all (n := 2) (by kernel_rfl) fun k hk => by
   match k, hk with
   | 0, _ => exact loopOK_at (id := 4) (L := i_ValidNet_l4_L) (by kernel_rfl) (by kernel_rfl) i_ValidNet_l4_ok
   | 1, _ => exact loopOK_at (id := 10) (L := i_ValidNet_l10_L) (by kernel_rfl) (by kernel_rfl) i_ValidNet_l10_ok)
 refine (contract_of (F := i_ValidNet_I) tau_tys i_ValidNet_env Try.func42 (by kernel_rfl) (by kernel_rfl) (by kernel_rfl) hl []).weaken ?_
 rintro ⟨av, rs⟩ co h
 have h : (i_ValidNet_G av rs).run some = some co := h
 obtain ⟨a0_, av0, rfl, h_0⟩ := asCons_spec h
 obtain ⟨rfl, h_1⟩ := asEnd_spec h_0
 obtain ⟨rfl, h_2⟩ := asEnd_spec h_1
 obtain ⟨z2, d1, rfl, h_3⟩ := asImm_spec h_2
 exact fin_mat (i_ValidNet_eq z2 d1) h_3
end Go.Proofs.Ytkgekgfmnhccmaa

namespace Go.Proofs.Ytkgekgfmnhccmaa
open Go Go.Abs Go.Proofs
noncomputable def i_DeliveredWithc1_3688 (p0 : (List Int)) (p1 : TNet) (p2 : (List Int)) : Tre Bool :=
 .cond (decide ((p0.length : Int) = p1.2.2.1))
  (.mat (i_Field_has_F p1.1 p0) fun r1 =>
  .cond r1
   (.cond (decide ((p2.length : Int) = (p1.2.2.2.1.length : Int)))
    (.mat (i_Field_has_F p1.1 p2) fun r2 =>
    .ret r2)
    (.ret false))
   (.ret false))
  (.ret false)
noncomputable def i_DeliveredWithc1_3688_F (p0 : (List Int)) (p1 : TNet) (p2 : (List Int)) : Option Bool := (i_DeliveredWithc1_3688 p0 p1 p2).run some
noncomputable def i_DeliveredWithc1_3688_V : Env := ⟨tau, [(53, i_size_int64_c), (55, i_Field_has_c)], []⟩
noncomputable def i_DeliveredWithc1_3688_b : Code := (Try.f88.body).getD .skip
noncomputable def i_DeliveredWithc1_3688_I : FnI := ⟨i_DeliveredWithc1_3688_b, Try.f88.results.toList, Try.f88.resultTypes.toList, []⟩
noncomputable def i_DeliveredWithc1_3688_out (zp0 : Bool) (zp1 : Bool) (zp2 : Bool) (p0 : (List Int)) (p1 : TNet) (p2 : (List Int)) : Bool → CallOut := fun r => ⟨(.imm true .bool r), [⟨true, (.sl (.int .i64)), (.imm zp0), p0⟩, ⟨true, kNet, (.imm zp1), p1⟩, ⟨true, (.sl (.int .i64)), (.imm zp2), p2⟩], []⟩
set_option maxRecDepth 100000 in
theorem i_DeliveredWithc1_3688_eq : ∀ (zp0 : Bool) (zp1 : Bool) (zp2 : Bool) (p0 : (List Int)) (p1 : TNet) (p2 : (List Int)), denFn i_DeliveredWithc1_3688_V i_DeliveredWithc1_3688_I ⟨[(.ptr (0, 0) []), (.ptr (0, 1) []), (.ptr (0, 2) [])], [⟨true, (.sl (.int .i64)), (.imm zp0), p0⟩, ⟨true, kNet, (.imm zp1), p1⟩, ⟨true, (.sl (.int .i64)), (.imm zp2), p2⟩]⟩ = (i_DeliveredWithc1_3688 p0 p1 p2).run fun r => some (i_DeliveredWithc1_3688_out zp0 zp1 zp2 p0 p1 p2 r) := fun _ _ _ _ _ _ => by kernel_rfl
noncomputable def i_DeliveredWithc1_3688_G (av : List AV) (rs : List Root) : Tre CallOut :=
 asCons av fun a0_ av0 =>
 asCons av0 fun a1_ av1 =>
 asCons av1 fun a2_ av2 =>
 asEnd av2 <|
 asCons rs fun r0_ rs0 =>
 asCons rs0 fun r1_ rs1 =>
 asCons rs1 fun r2_ rs2 =>
 asEnd rs2 <|
 asPtr (0, 0) [] a0_ <|
 asPtr (0, 1) [] a1_ <|
 asPtr (0, 2) [] a2_ <|
 asRt true (.sl (.int .i64)) r0_ fun m1 d2 =>
 asMImm m1 fun z3 =>
 asRt true kNet r1_ fun m4 d5 =>
 asMImm m4 fun z6 =>
 asRt true (.sl (.int .i64)) r2_ fun m7 d8 =>
 asMImm m7 fun z9 =>
 .mat (i_DeliveredWithc1_3688_F d2 d5 d8) fun r => .ret (i_DeliveredWithc1_3688_out z3 z6 z9 d2 d5 d8 r)
noncomputable def i_DeliveredWithc1_3688_c : Ctr := ⟨[], fun ci => i_DeliveredWithc1_3688_G ci.args ci.roots, false⟩
theorem i_DeliveredWithc1_3688_env : EnvOK Try.prog .none i_DeliveredWithc1_3688_V := (envOK_cons i_size_int64_ok ent53 (envOK_cons i_Field_has_ok ent55 envOK_nil))
set_option maxRecDepth 100000 in
theorem i_DeliveredWithc1_3688_ok : Contract Try.prog .none 88 i_DeliveredWithc1_3688_c := by
 have hl : LoopsOK i_DeliveredWithc1_3688_V [] i_DeliveredWithc1_3688_b := loopsOK_nil (by kernel_rfl)
 refine (contract_of (F := i_DeliveredWithc1_3688_I) tau_tys i_DeliveredWithc1_3688_env Try.func88 (by kernel_rfl) (by kernel_rfl) (by kernel_rfl) hl []).weaken ?_
 rintro ⟨av, rs⟩ co h
 have h : (i_DeliveredWithc1_3688_G av rs).run some = some co := h
 obtain ⟨a0_, av0, rfl, h_0⟩ := asCons_spec h
 obtain ⟨a1_, av1, rfl, h_1⟩ := asCons_spec h_0
 obtain ⟨a2_, av2, rfl, h_2⟩ := asCons_spec h_1
 obtain ⟨rfl, h_3⟩ := asEnd_spec h_2
 obtain ⟨r0_, rs0, rfl, h_4⟩ := asCons_spec h_3
 obtain ⟨r1_, rs1, rfl, h_5⟩ := asCons_spec h_4
 obtain ⟨r2_, rs2, rfl, h_6⟩ := asCons_spec h_5
 obtain ⟨rfl, h_7⟩ := asEnd_spec h_6
 obtain ⟨rfl, h_8⟩ := asPtr_spec h_7
 obtain ⟨rfl, h_9⟩ := asPtr_spec h_8
 obtain ⟨rfl, h_10⟩ := asPtr_spec h_9
 obtain ⟨m1, d2, rfl, h_11⟩ := asRt_spec h_10
 obtain ⟨z3, rfl, h_12⟩ := asMImm_spec h_11
 obtain ⟨m4, d5, rfl, h_13⟩ := asRt_spec h_12
 obtain ⟨z6, rfl, h_14⟩ := asMImm_spec h_13
 obtain ⟨m7, d8, rfl, h_15⟩ := asRt_spec h_14
 obtain ⟨z9, rfl, h_16⟩ := asMImm_spec h_15
 exact fin_mat (i_DeliveredWithc1_3688_eq z3 z6 z9 d2 d5 d8) h_16
end Go.Proofs.Ytkgekgfmnhccmaa

namespace Go.Proofs.Ytkgekgfmnhccmaa
open Go Go.Abs Go.Proofs
-- shared
theorem split2 {n d : Nat} (h0 : n ≠ 0) (hn : n < 2 ^ d) : ∃ i m, i < d ∧ m < n ∧ n = m ^^^ 2 ^ i := by
 have hl := Nat.log2_lt (n := n) (k := d) h0 |>.2 hn
 have hself := Nat.log2_self_le h0
 have hup := Nat.lt_log2_self (n := n)
 have hb1 : n ^^^ 2 ^ n.log2 < 2 ^ n.log2 := by
  apply Nat.lt_pow_two_of_testBit
  intro i hi
  rw [Nat.testBit_xor, Nat.testBit_two_pow]
  by_cases hi2 : n.log2 = i
  ·subst hi2
   rw [Nat.testBit_log2 h0]
   simp
  ·have : n.testBit i = false := Nat.testBit_lt_two_pow (Nat.lt_of_lt_of_le hup (Nat.pow_le_pow_right (by omega) (by omega)))
   rw [this]
   simp [hi2]
 exact ⟨n.log2, n ^^^ 2 ^ n.log2, hl, by omega, by rw [Nat.xor_assoc, Nat.xor_self, Nat.xor_zero]⟩
def AddN (d : Nat) (g : Nat → Nat) : Prop := ∀ a b, a < 2 ^ d → b < 2 ^ d → g (a ^^^ b) = g a ^^^ g b
theorem AddN.zero {d : Nat} {g : Nat → Nat} (h : AddN d g) : g 0 = 0 := by
 have e1 := h 0 0 (Nat.two_pow_pos d) (Nat.two_pow_pos d)
 rw [Nat.xor_self] at e1
 rw [Nat.xor_self] at e1
 exact e1
theorem add_of {d : Nat} {g : Nat → Nat} (h0 : g 0 = 0) (h : ∀ b i, b < 2 ^ d → i < d → g (b ^^^ 2 ^ i) = g b ^^^ g (2 ^ i)) : AddN d g := by
 intro b c
 induction c using Nat.strongRecOn generalizing b with
 | ind c ih =>
  intro hb hc
  by_cases hz : c = 0
  ·subst hz; rw [Nat.xor_zero, h0, Nat.xor_zero]
  ·obtain ⟨i, m, hi, hm, he⟩ := split2 hz hc
   have hp : 2 ^ i < 2 ^ d := Nat.pow_lt_pow_right (by omega) hi
   have hm2 : m < 2 ^ d := by omega
   rw [he, ← Nat.xor_assoc, h _ _ (Nat.xor_lt_two_pow hb hm2) hi, ih m hm b hb hm2, h _ _ hm2 hi, Nat.xor_assoc]
theorem lin_ext {d : Nat} {g h : Nat → Nat} (hg : AddN d g) (hh : AddN d h) (hb : ∀ i, i < d → g (2 ^ i) = h (2 ^ i)) : ∀ n, n < 2 ^ d → g n = h n := by
 intro n
 induction n using Nat.strongRecOn with
 | ind n ih =>
  intro hn
  by_cases h0 : n = 0
  ·subst h0; rw [hg.zero, hh.zero]
  ·obtain ⟨i, m, hi, hm, he⟩ := split2 h0 hn
   have hp : 2 ^ i < 2 ^ d := Nat.pow_lt_pow_right (by omega) hi
   rw [he, hg _ _ (by omega) hp, hh _ _ (by omega) hp, ih m hm (by omega), hb i hi]
def distN (d p : Nat) : Bool := (List.range (2 ^ d)).all fun a => (List.range (2 ^ d)).all fun b => (List.range d).all fun i => Nat.beq (mulN p a (Nat.xor b (2 ^ i))) (Nat.xor (mulN p a b) (mulN p a (2 ^ i)))
def assocN (d p : Nat) : Bool := (List.range (2 ^ d)).all fun a => (List.range d).all fun j => (List.range d).all fun i => Nat.beq (mulN p (mulN p a (2 ^ j)) (2 ^ i)) (mulN p a (mulN p (2 ^ j) (2 ^ i)))
def oneN (d p : Nat) : Bool := (List.range (2 ^ d)).all fun a => Nat.beq (mulN p a 1) a && Nat.beq (mulN p a 0) 0
set_option maxRecDepth 100000 in
theorem distN_all : (fieldN.all fun q => distN q.1 q.2) = true := by kernel_rfl
set_option maxRecDepth 100000 in
theorem assocN_all : (fieldN.all fun q => assocN q.1 q.2) = true := by kernel_rfl
set_option maxRecDepth 100000 in
theorem oneN_all : (fieldN.all fun q => oneN q.1 q.2) = true := by kernel_rfl
theorem mulN_lt {d p a b : Nat} (hq : (d, p) ∈ fieldN) (ha : a < 2 ^ d) (hb : b < 2 ^ d) : mulN p a b < 2 ^ d ∧ mulN p a b = mulN p b a := by
 have h1 := List.all_eq_true.1 (List.all_eq_true.1 (List.all_eq_true.1 mulFacts_all _ hq) a (List.mem_range.2 ha)) b (List.mem_range.2 hb)
 rw [Bool.and_eq_true] at h1
 exact ⟨Nat.le_of_ble_eq_true h1.1, Nat.eq_of_beq_eq_true h1.2⟩
theorem mulN_one {d p a : Nat} (hq : (d, p) ∈ fieldN) (ha : a < 2 ^ d) : mulN p a 1 = a ∧ mulN p a 0 = 0 := by
 have h1 := List.all_eq_true.1 (List.all_eq_true.1 oneN_all _ hq) a (List.mem_range.2 ha)
 rw [Bool.and_eq_true] at h1
 exact ⟨Nat.eq_of_beq_eq_true h1.1, Nat.eq_of_beq_eq_true h1.2⟩
theorem mulN_add {d p a : Nat} (hq : (d, p) ∈ fieldN) (ha : a < 2 ^ d) : AddN d (mulN p a) := by
 refine add_of (mulN_one hq ha).2 fun b i hb hi => ?_
 have h1 := List.all_eq_true.1 (List.all_eq_true.1 (List.all_eq_true.1 (List.all_eq_true.1 distN_all _ hq) a (List.mem_range.2 ha)) b (List.mem_range.2 hb)) i (List.mem_range.2 hi)
 exact Nat.eq_of_beq_eq_true h1
theorem mulN_add_left {d p b : Nat} (hq : (d, p) ∈ fieldN) (hb : b < 2 ^ d) : AddN d (fun a => mulN p a b) := by
 intro x y hx hy
 show mulN p (x ^^^ y) b = mulN p x b ^^^ mulN p y b
 rw [(mulN_lt hq (Nat.xor_lt_two_pow hx hy) hb).2, mulN_add hq hb x y hx hy, (mulN_lt hq hx hb).2, (mulN_lt hq hy hb).2]
theorem mulN_assoc {d p a b c : Nat} (hq : (d, p) ∈ fieldN) (ha : a < 2 ^ d) (hb : b < 2 ^ d) (hc : c < 2 ^ d) : mulN p (mulN p a b) c = mulN p a (mulN p b c) := by
 have hpow : ∀ i, i < d → 2 ^ i < 2 ^ d := fun i hi => Nat.pow_lt_pow_right (by omega) hi
 have k1 : ∀ i, i < d → ∀ b, b < 2 ^ d → mulN p (mulN p a b) (2 ^ i) = mulN p a (mulN p b (2 ^ i)) := by
  intro i hi
  refine lin_ext (g := fun b => mulN p (mulN p a b) (2 ^ i)) (h := fun b => mulN p a (mulN p b (2 ^ i))) ?_ ?_ ?_
  ·intro x y hx hy
   show mulN p (mulN p a (x ^^^ y)) (2 ^ i) = _
   rw [mulN_add hq ha x y hx hy]
   exact mulN_add_left hq (hpow i hi) _ _ (mulN_lt hq ha hx).1 (mulN_lt hq ha hy).1
  ·intro x y hx hy
   show mulN p a (mulN p (x ^^^ y) (2 ^ i)) = _
   rw [show mulN p (x ^^^ y) (2 ^ i) = _ from mulN_add_left hq (hpow i hi) x y hx hy]
   exact mulN_add hq ha _ _ (mulN_lt hq hx (hpow i hi)).1 (mulN_lt hq hy (hpow i hi)).1
  ·intro j hj
   have h1 := List.all_eq_true.1 (List.all_eq_true.1 (List.all_eq_true.1 (List.all_eq_true.1 assocN_all _ hq) a (List.mem_range.2 ha)) j (List.mem_range.2 hj)) i (List.mem_range.2 hi)
   exact Nat.eq_of_beq_eq_true h1
 refine lin_ext (g := fun c => mulN p (mulN p a b) c) (h := fun c => mulN p a (mulN p b c)) ?_ ?_ (fun i hi => k1 i hi b hb) c hc
 ·exact mulN_add hq (mulN_lt hq ha hb).1
 ·intro x y hx hy
  show mulN p a (mulN p b (x ^^^ y)) = _
  rw [mulN_add hq hb x y hx hy]
  exact mulN_add hq ha _ _ (mulN_lt hq hb hx).1 (mulN_lt hq hb hy).1
theorem inF_of {f : TF3} (hf : fieldOk f = true) : ∃ d p : Nat, (d, p) ∈ fieldN ∧ f = ((d : Int), (p : Int), ()) ∧ ∀ a, inF f a → ∃ m : Nat, a = (m : Int) ∧ m < 2 ^ d ∧ m < 2 ^ 63 := by
 obtain ⟨d, p, hq, rfl⟩ := fieldN_of hf
 refine ⟨d, p, hq, rfl, fun a ha => ?_⟩
 obtain ⟨m, e, h1, h2⟩ := inF_nat hf ha
 exact ⟨m, e, by simpa using h1, h2⟩
theorem mulI_nat {d p m n : Nat} : mulI ((d : Int), (p : Int), ()) (m : Int) (n : Int) = ((mulN p m n : Nat) : Int) := by
 unfold mulI
 simp only [Int.toNat_natCast]
theorem mulI_in {f : TF3} (hf : fieldOk f = true) {a b : Int} (ha : inF f a) (hb : inF f b) : inF f (mulI f a b) := (mulI_facts hf ha hb).1
theorem mulI_comm {f : TF3} (hf : fieldOk f = true) {a b : Int} (ha : inF f a) (hb : inF f b) : mulI f a b = mulI f b a := (mulI_facts hf ha hb).2
theorem pow63 {d p : Nat} (hq : (d, p) ∈ fieldN) {x : Nat} (h : x < 2 ^ d) : x < 2 ^ 63 := by
 have : ∀ q ∈ fieldN, q.1 ≤ 5 := by decide
 have h5 := this _ hq
 have : 2 ^ d ≤ 2 ^ 5 := Nat.pow_le_pow_right (by omega) h5
 omega
theorem mulI_xor {f : TF3} (hf : fieldOk f = true) {a b c : Int} (ha : inF f a) (hb : inF f b) (hc : inF f c) : mulI f a (ixor .i64 b c) = ixor .i64 (mulI f a b) (mulI f a c) := by
 obtain ⟨d, p, hq, rfl, hn⟩ := inF_of hf
 obtain ⟨x, rfl, hx, hx6⟩ := hn a ha
 obtain ⟨y, rfl, hy, hy6⟩ := hn b hb
 obtain ⟨z, rfl, hz, hz6⟩ := hn c hc
 rw [ixor_nat hy6 hz6, mulI_nat, mulI_nat, mulI_nat, ixor_nat (pow63 hq (mulN_lt hq hx hy).1) (pow63 hq (mulN_lt hq hx hz).1), mulN_add hq hx y z hy hz]
theorem mulI_assoc {f : TF3} (hf : fieldOk f = true) {a b c : Int} (ha : inF f a) (hb : inF f b) (hc : inF f c) : mulI f (mulI f a b) c = mulI f a (mulI f b c) := by
 obtain ⟨d, p, hq, rfl, hn⟩ := inF_of hf
 obtain ⟨x, rfl, hx, hx6⟩ := hn a ha
 obtain ⟨y, rfl, hy, hy6⟩ := hn b hb
 obtain ⟨z, rfl, hz, hz6⟩ := hn c hc
 rw [mulI_nat, mulI_nat, mulI_nat, mulI_nat, mulN_assoc hq hx hy hz]
theorem mulI_one {f : TF3} (hf : fieldOk f = true) {a : Int} (ha : inF f a) : mulI f a 1 = a := by
 obtain ⟨d, p, hq, rfl, hn⟩ := inF_of hf
 obtain ⟨x, rfl, hx, hx6⟩ := hn a ha
 rw [show (1 : Int) = ((1 : Nat) : Int) from rfl, mulI_nat, (mulN_one hq hx).1]
theorem mulI_zero {f : TF3} (hf : fieldOk f = true) {a : Int} (ha : inF f a) : mulI f a 0 = 0 := by
 obtain ⟨d, p, hq, rfl, hn⟩ := inF_of hf
 obtain ⟨x, rfl, hx, hx6⟩ := hn a ha
 rw [show (0 : Int) = ((0 : Nat) : Int) from rfl, mulI_nat, (mulN_one hq hx).2]
theorem xorF_comm {f : TF3} (hf : fieldOk f = true) {a b : Int} (ha : inF f a) (hb : inF f b) : ixor .i64 a b = ixor .i64 b a := by
 obtain ⟨x, rfl, _, hx⟩ := inF_nat hf ha
 obtain ⟨y, rfl, _, hy⟩ := inF_nat hf hb
 rw [ixor_nat hx hy, ixor_nat hy hx, Nat.xor_comm]
theorem xorF_assoc {f : TF3} (hf : fieldOk f = true) {a b c : Int} (ha : inF f a) (hb : inF f b) (hc : inF f c) : ixor .i64 (ixor .i64 a b) c = ixor .i64 a (ixor .i64 b c) := by
 obtain ⟨x, rfl, hx1, hx⟩ := inF_nat hf ha
 obtain ⟨y, rfl, hy1, hy⟩ := inF_nat hf hb
 obtain ⟨z, rfl, hz1, hz⟩ := inF_nat hf hc
 rw [ixor_nat hx hy, ixor_nat hy hz, ixor_nat (Nat.xor_lt_two_pow hx hy) hz, ixor_nat hx (Nat.xor_lt_two_pow hy hz), Nat.xor_assoc]
theorem xorF_zero {f : TF3} (hf : fieldOk f = true) {a : Int} (ha : inF f a) : ixor .i64 a 0 = a := by
 rw [xorF_comm hf ha inF_zero, zero_xorF hf ha]
theorem xorF_self {f : TF3} (hf : fieldOk f = true) {a : Int} (ha : inF f a) : ixor .i64 a a = 0 := by
 obtain ⟨x, rfl, _, hx⟩ := inF_nat hf ha
 rw [ixor_nat hx hx, Nat.xor_self]
 rfl
end Go.Proofs.Ytkgekgfmnhccmaa
