/- Part 3 of the proof of FnExactSolveAt. -/
import Derived.WalkKit
import Derived.Deep.RegionLaw
import Derived.Test.YtkgekgfmnhccmaaProg
import Derived.Test.YtkgekgfmnhccmaaPs2
namespace Go.Abs
theorem iwrap_nat {n : Nat} (h : n < 9223372036854775808) : iwrap .i64 (n : Int) = n := iwrap_i64 (by omega) (by omega)
theorem ofInt_nat {n : Nat} (h : n < 18446744073709551616) : (BitVec.ofInt 64 (n : Int)).toNat = n := by
 rw [BitVec.ofInt_natCast, BitVec.toNat_ofNat, Nat.mod_eq_of_lt h]
theorem ixor_nat {a b : Nat} (ha : a < 2 ^ 63) (hb : b < 2 ^ 63) : ixor .i64 (a : Int) (b : Int) = ((a ^^^ b : Nat) : Int) := by
 have hx : a ^^^ b < 2 ^ 63 := Nat.xor_lt_two_pow ha hb
 have : (BitVec.ofInt 64 (a : Int) ^^^ BitVec.ofInt 64 (b : Int)).toNat = a ^^^ b := by
  rw [BitVec.toNat_xor, ofInt_nat (by omega), ofInt_nat (by omega)]
 unfold ixor
 show iwrap .i64 (((BitVec.ofInt 64 (a : Int) ^^^ BitVec.ofInt 64 (b : Int)).toNat : Nat) : Int) = _
 rw [this, iwrap_nat (by omega)]
inductive Sp (l : List Nat) : Nat → Prop
 | zero : Sp l 0
 | add {r v : Nat} : r ∈ l → Sp l v → Sp l (r ^^^ v)
theorem Sp.mem {l : List Nat} {r : Nat} (h : r ∈ l) : Sp l r := by
 have := Sp.add h (Sp.zero)
 rwa [Nat.xor_zero] at this
theorem Sp.xor {l : List Nat} {a b : Nat} (ha : Sp l a) (hb : Sp l b) : Sp l (a ^^^ b) := by
 induction ha with
 | zero => rwa [Nat.zero_xor]
 | add h _ ih => rw [Nat.xor_assoc]; exact .add h ih
theorem Sp.trans {l l' : List Nat} (h : ∀ r ∈ l, Sp l' r) {v : Nat} (hv : Sp l v) : Sp l' v := by
 induction hv with
 | zero => exact .zero
 | add hr _ ih => exact (h _ hr).xor ih
def Lo (r p : Nat) : Prop := r.testBit p = true ∧ ∀ q, q < p → r.testBit q = false
theorem Lo.uniq {r p q : Nat} (h1 : Lo r p) (h2 : Lo r q) : p = q := by
 rcases Nat.lt_trichotomy p q with h | h | h
 ·have := h2.2 p h; rw [h1.1] at this; cases this
 ·exact h
 ·have := h1.2 q h; rw [h2.1] at this; cases this
def Red (c : Nat) (E : List (Nat × Nat)) : Prop := (∀ a ∈ E, a.1 < c ∧ Lo a.2 a.1) ∧ E.Pairwise fun a b => a.1 < b.1 ∧ a.2.testBit b.1 = false
def comb (f : Nat → Bool) : List (Nat × Nat) → Nat
 | [] => 0
 | a :: l => cond (f a.1) (a.2 ^^^ comb f l) (comb f l)
theorem comb_xor (f g : Nat → Bool) : ∀ l : List (Nat × Nat), comb (fun x => f x ^^ g x) l = comb f l ^^^ comb g l := by
 intro l
 induction l with
 | nil => exact (Nat.xor_self 0).symm
 | cons a l ih =>
  simp only [comb, ih]
  cases f a.1 <;> cases g a.1 <;> simp only [Bool.false_xor, Bool.true_xor, Bool.not_true, Bool.not_false, cond_true, cond_false]
  ·rw [← Nat.xor_assoc, ← Nat.xor_assoc, Nat.xor_comm a.2]
  ·rw [Nat.xor_assoc]
  ·rw [Nat.xor_assoc a.2, Nat.xor_comm (comb f l) (a.2 ^^^ comb g l), ← Nat.xor_assoc, ← Nat.xor_assoc, Nat.xor_self, Nat.zero_xor, Nat.xor_comm]
theorem comb_none (f : Nat → Bool) : ∀ l : List (Nat × Nat), (∀ a ∈ l, f a.1 = false) → comb f l = 0 := by
 intro l h
 induction l with
 | nil => rfl
 | cons a l ih => simp only [comb, h a (.head _), cond_false]; exact ih fun x hx => h x (.tail _ hx)
theorem comb_clear (f : Nat → Bool) {p : Nat} : ∀ l : List (Nat × Nat), (∀ a ∈ l, a.2.testBit p = false) → (comb f l).testBit p = false := by
 intro l h
 induction l with
 | nil => simp [comb]
 | cons a l ih =>
  have := ih fun x hx => h x (.tail _ hx)
  simp only [comb]
  cases f a.1
  ·exact this
  ·simp [Nat.testBit_xor, this, h a (.head _)]
theorem Red.tail {c : Nat} {a : Nat × Nat} {l : List (Nat × Nat)} (h : Red c (a :: l)) : Red c l := ⟨fun x hx => h.1 x (.tail _ hx), (List.pairwise_cons.1 h.2).2⟩
theorem comb_one {c : Nat} : ∀ (E : List (Nat × Nat)), Red c E → ∀ a ∈ E, comb (fun p => p == a.1) E = a.2 := by
 intro E
 induction E with
 | nil => intro _ a ha; cases ha
 | cons b l ih =>
  intro h a ha
  have hp := (List.pairwise_cons.1 h.2).1
  simp only [comb]
  cases ha with
  | head =>
   rw [comb_none _ l fun x hx => by have := (hp x hx).1; simp; omega]
   simp
  | tail _ ha =>
   have : (b.1 == a.1) = false := by have := (hp a ha).1; simp; omega
   rw [this]
   exact ih h.tail a ha
theorem Sp.comb {c : Nat} {E : List (Nat × Nat)} (h : Red c E) {v : Nat} (hv : Sp (E.map (·.2)) v) : ∃ f, v = Abs.comb f E := by
 induction hv with
 | zero => exact ⟨fun _ => false, (comb_none _ _ fun _ _ => rfl).symm⟩
 | add hr _ ih =>
  obtain ⟨f, rfl⟩ := ih
  obtain ⟨a, ha, rfl⟩ := List.mem_map.1 hr
  exact ⟨_, by rw [comb_xor (fun p => p == a.1) f, comb_one E h a ha]⟩
theorem comb_bit {c : Nat} (f : Nat → Bool) : ∀ (E : List (Nat × Nat)), Red c E → ∀ a ∈ E, (comb f E).testBit a.1 = f a.1 := by
 intro E
 induction E with
 | nil => intro _ a ha; cases ha
 | cons b l ih =>
  intro h a ha
  have hp := (List.pairwise_cons.1 h.2).1
  simp only [comb]
  cases ha with
  | head =>
   have h0 : (comb f l).testBit b.1 = false := comb_clear f l fun x hx => (h.1 x (.tail _ hx)).2.2 _ (hp x hx).1
   cases hf : f b.1
   ·exact h0
   ·simp [Nat.testBit_xor, h0, (h.1 b (.head _)).2.1]
  | tail _ ha =>
   have hb := (hp a ha).2
   have := ih h.tail a ha
   cases f b.1
   ·exact this
   ·simp [Nat.testBit_xor, this, hb]
theorem comb_low {c : Nat} (f : Nat → Bool) : ∀ (E : List (Nat × Nat)), Red c E → comb f E = 0 ∨ ∃ a ∈ E, Lo (comb f E) a.1 := by
 intro E
 induction E with
 | nil => intro _; exact .inl rfl
 | cons b l ih =>
  intro h
  have hp := (List.pairwise_cons.1 h.2).1
  have hb := (h.1 b (.head _)).2
  simp only [comb]
  cases f b.1
  ·rcases ih h.tail with h0 | ⟨a, ha, hl⟩
   ·exact .inl h0
   ·exact .inr ⟨a, .tail _ ha, hl⟩
  ·refine .inr ⟨b, .head _, ?_, fun q hq => ?_⟩
   ·have h0 : (comb f l).testBit b.1 = false := comb_clear f l fun x hx => (h.1 x (.tail _ hx)).2.2 _ (hp x hx).1
    simp [Nat.testBit_xor, h0, hb.1]
   ·have h0 : (comb f l).testBit q = false := comb_clear f l fun x hx => (h.1 x (.tail _ hx)).2.2 _ (Nat.lt_trans hq (hp x hx).1)
    simp [Nat.testBit_xor, h0, hb.2 q hq]
theorem Red.apart {c : Nat} : ∀ {E : List (Nat × Nat)}, Red c E → ∀ {a b : Nat × Nat}, a ∈ E → b ∈ E → a.1 ≠ b.1 → a.2.testBit b.1 = false := by
 intro E
 induction E with
 | nil => intro _ a b ha; cases ha
 | cons x l ih =>
  intro h a b ha hb hne
  have hp := (List.pairwise_cons.1 h.2).1
  cases ha with
  | head =>
   cases hb with
   | head => exact absurd rfl hne
   | tail _ hb => exact (hp b hb).2
  | tail _ ha =>
   cases hb with
   | head => exact (h.1 a (.tail _ ha)).2.2 _ (hp a ha).1
   | tail _ hb => exact ih h.tail ha hb hne
theorem Red.find {c : Nat} {E : List (Nat × Nat)} (h : Red c E) {v p : Nat} (hv : Sp (E.map (·.2)) v) (hl : Lo v p) : ∃ a ∈ E, a.1 = p := by
 obtain ⟨f, rfl⟩ := hv.comb h
 rcases comb_low f E h with h0 | ⟨a, ha, hl'⟩
 ·rw [h0] at hl; have := hl.1; simp at this
 ·exact ⟨a, ha, hl'.uniq hl⟩
theorem Red.sub {c c' : Nat} {E E' : List (Nat × Nat)} (h : Red c E) (h' : Red c' E') (hs : ∀ v, Sp (E.map (·.2)) v ↔ Sp (E'.map (·.2)) v) : ∀ a ∈ E, a ∈ E' := by
 intro a ha
 have ha1 := (h.1 a ha).2
 have hin : ∀ b ∈ E, ∃ b' ∈ E', b'.1 = b.1 := fun b hb => h'.find ((hs _).1 (.mem (List.mem_map.2 ⟨b, hb, rfl⟩))) (h.1 b hb).2
 obtain ⟨a', ha', he⟩ := hin a ha
 have ha1' := (h'.1 a' ha').2
 have hw : Sp (E.map (·.2)) (a.2 ^^^ a'.2) := (Sp.mem (List.mem_map.2 ⟨a, ha, rfl⟩)).xor ((hs _).2 (.mem (List.mem_map.2 ⟨a', ha', rfl⟩)))
 obtain ⟨g, hg⟩ := hw.comb h
 have hz : ∀ b ∈ E, g b.1 = false := by
  intro b hb
  rw [← comb_bit g E h b hb, ← hg, Nat.testBit_xor]
  by_cases hab : a.1 = b.1
  ·rw [← hab, ha1.1, ← he, ha1'.1]; rfl
  ·obtain ⟨b', hb', he'⟩ := hin b hb
   rw [h.apart ha hb hab, ← he', h'.apart ha' hb' (by rw [he, he']; exact hab)]; rfl
 rw [comb_none g E hz] at hg
 have h2 : a.2 = a'.2 := by
  have h3 := congrArg (· ^^^ a'.2) hg
  simp only [Nat.xor_assoc, Nat.xor_self, Nat.xor_zero, Nat.zero_xor] at h3
  exact h3
 have : a = a' := Prod.ext he.symm h2
 rw [this]
 exact ha'
theorem sorted_eq : ∀ (E E' : List (Nat × Nat)), (E.Pairwise fun a b => a.1 < b.1) → (E'.Pairwise fun a b => a.1 < b.1) → (∀ a ∈ E, a ∈ E') → (∀ a ∈ E', a ∈ E) → E = E' := by
 intro E
 induction E with
 | nil =>
  intro E' _ _ _ h
  cases E' with
  | nil => rfl
  | cons b l => have := h b (.head _); cases this
 | cons a l ih =>
  intro E' hE hE' h1 h2
  cases E' with
  | nil => have := h1 a (.head _); cases this
  | cons b l' =>
   have hp := List.pairwise_cons.1 hE
   have hp' := List.pairwise_cons.1 hE'
   have hab : a = b := by
    have i1 := h1 a (.head _)
    have i2 := h2 b (.head _)
    cases i1 with
    | head => rfl
    | tail _ i1 =>
     cases i2 with
     | head => rfl
     | tail _ i2 => have := hp'.1 a i1; have := hp.1 b i2; omega
   subst hab
   congr 1
   refine ih l' hp.2 hp'.2 (fun x hx => ?_) (fun x hx => ?_)
   ·have := h1 x (.tail _ hx)
    cases this with
    | head => have := hp.1 _ hx; omega
    | tail _ h => exact h
   ·have := h2 x (.tail _ hx)
    cases this with
    | head => have := hp'.1 _ hx; omega
    | tail _ h => exact h
theorem Red.uniq {c c' : Nat} {E E' : List (Nat × Nat)} (h : Red c E) (h' : Red c' E') (hs : ∀ v, Sp (E.map (·.2)) v ↔ Sp (E'.map (·.2)) v) : E = E' :=
 sorted_eq E E' (h.2.imp fun h => h.1) (h'.2.imp fun h => h.1) (h.sub h' hs) (h'.sub h fun v => (hs v).symm)
def IsEch (rows E : List Nat) : Prop := ∃ P c, Red c P ∧ P.map (·.2) = E ∧ ∀ v, Sp rows v ↔ Sp E v
def elimB (c r x : Nat) : Nat := cond (x.testBit c) (x ^^^ r) x
theorem elimB_bit {c r x : Nat} (hr : r.testBit c = true) : (elimB c r x).testBit c = false := by
 unfold elimB
 cases h : x.testBit c
 ·exact h
 ·simp [Nat.testBit_xor, h, hr]
theorem elimB_low {c r x q : Nat} (hr : r.testBit q = false) : (elimB c r x).testBit q = x.testBit q := by
 unfold elimB
 cases x.testBit c
 ·rfl
 ·simp [Nat.testBit_xor, hr]
structure Inv (orig : List Nat) (c : Nat) (E : List (Nat × Nat)) (R : List Nat) : Prop where
 red : Red c E
 low : ∀ x ∈ R, ∀ q, q < c → x.testBit q = false
 span : ∀ v, Sp orig v ↔ Sp (E.map (·.2) ++ R) v
theorem Inv.skip {orig : List Nat} {c : Nat} {E : List (Nat × Nat)} {R : List Nat} (h : Inv orig c E R) (hc : ∀ x ∈ R, x.testBit c = false) : Inv orig (c + 1) E R :=
 ⟨⟨fun a ha => ⟨Nat.lt_succ_of_lt (h.red.1 a ha).1, (h.red.1 a ha).2⟩, h.red.2⟩, fun x hx q hq => by
  rcases Nat.lt_succ_iff_lt_or_eq.1 hq with h1 | rfl
  ·exact h.low x hx q h1
  ·exact hc x hx, h.span⟩
theorem Inv.step {orig : List Nat} {c : Nat} {E : List (Nat × Nat)} {R R' : List Nat} {r : Nat} (h : Inv orig c E R) (hr : r ∈ R) (hb : r.testBit c = true)
  (h1 : ∀ y ∈ R', y = 0 ∨ ∃ x ∈ R, y = elimB c r x) (h2 : ∀ x ∈ R, x = r ∨ elimB c r x ∈ R') : Inv orig (c + 1) (E.map (fun a => (a.1, elimB c r a.2)) ++ [(c, r)]) R' := by
 have hlow := h.low r hr
 refine ⟨⟨?_, ?_⟩, ?_, ?_⟩
 ·intro a ha
  rcases List.mem_append.1 ha with ha | ha
  ·obtain ⟨b, hb', rfl⟩ := List.mem_map.1 ha
   obtain ⟨i1, i2⟩ := h.red.1 b hb'
   refine ⟨Nat.lt_succ_of_lt i1, ?_, fun q hq => ?_⟩
   ·dsimp only; rw [elimB_low (hlow _ i1)]; exact i2.1
   ·dsimp only at hq ⊢; rw [elimB_low (hlow _ (Nat.lt_trans hq i1))]; exact i2.2 q hq
  ·simp only [List.mem_singleton] at ha
   subst ha
   exact ⟨Nat.lt_succ_self _, hb, hlow⟩
 ·refine List.pairwise_append.2 ⟨?_, List.pairwise_singleton _ _, ?_⟩
  ·refine List.pairwise_map.2 ((List.pairwise_iff_forall_sublist.2 ?_))
   intro a b hs
   have hmem : a ∈ E ∧ b ∈ E := ⟨hs.subset (.head _), hs.subset (.tail _ (.head _))⟩
   have := List.pairwise_iff_forall_sublist.1 h.red.2 hs
   exact ⟨this.1, by dsimp only; rw [elimB_low (hlow _ (h.red.1 b hmem.2).1)]; exact this.2⟩
  ·intro a ha b hb'
   simp only [List.mem_singleton] at hb'
   subst hb'
   obtain ⟨x, hx, rfl⟩ := List.mem_map.1 ha
   exact ⟨(h.red.1 x hx).1, elimB_bit hb⟩
 ·intro y hy q hq
  rcases h1 y hy with rfl | ⟨x, hx, rfl⟩
  ·simp
  ·rcases Nat.lt_succ_iff_lt_or_eq.1 hq with h3 | rfl
   ·rw [elimB_low (hlow _ h3)]; exact h.low x hx q h3
   ·exact elimB_bit hb
 ·have hr1 : Sp (E.map (·.2) ++ R) r := .mem (List.mem_append_right _ hr)
  have key : ∀ {L : List Nat} {x : Nat}, Sp L r → Sp L x → Sp L (elimB c r x) := by
   intro L x i1 i2
   unfold elimB
   cases x.testBit c
   ·exact i2
   ·exact i2.xor i1
  have key2 : ∀ {L : List Nat} {x : Nat}, Sp L r → Sp L (elimB c r x) → Sp L x := by
   intro L x i1 i2
   unfold elimB at i2
   cases hx : x.testBit c
   ·rw [hx] at i2; exact i2
   ·rw [hx] at i2
    have := Sp.xor i2 i1
    simp only [cond_true] at this
    rwa [Nat.xor_assoc, Nat.xor_self, Nat.xor_zero] at this
  have hmap : (E.map (fun a => (a.1, elimB c r a.2)) ++ [(c, r)]).map (·.2) = E.map (fun a => elimB c r a.2) ++ [r] := by simp [List.map_map, Function.comp_def]
  rw [hmap]
  intro v
  rw [h.span v]
  have hr2 : Sp (E.map (fun a => elimB c r a.2) ++ [r] ++ R') r := .mem (by simp)
  constructor
  ·refine Sp.trans fun x hx => ?_
   rcases List.mem_append.1 hx with hx | hx
   ·obtain ⟨a, ha, rfl⟩ := List.mem_map.1 hx
    exact key2 hr2 (.mem (List.mem_append_left _ (List.mem_append_left _ (List.mem_map.2 ⟨a, ha, rfl⟩))))
   ·rcases h2 x hx with rfl | h3
    ·exact hr2
    ·exact key2 hr2 (.mem (List.mem_append_right _ h3))
  ·refine Sp.trans fun x hx => ?_
   rcases List.mem_append.1 hx with hx | hx
   ·rcases List.mem_append.1 hx with hx | hx
    ·obtain ⟨a, ha, rfl⟩ := List.mem_map.1 hx
     exact key hr1 (.mem (List.mem_append_left _ (List.mem_map.2 ⟨a, ha, rfl⟩)))
    ·simp only [List.mem_singleton] at hx
     subst hx
     exact hr1
   ·rcases h1 x hx with rfl | ⟨y, hy, rfl⟩
    ·exact .zero
    ·exact key hr1 (.mem (List.mem_append_right _ hy))
theorem Inv.done {orig : List Nat} {c : Nat} {E : List (Nat × Nat)} {R : List Nat} (h : Inv orig c E R) (hz : ∀ x ∈ R, x = 0) : IsEch orig (E.map (·.2)) := by
 refine ⟨E, c, h.red, rfl, fun v => (h.span v).trans ⟨?_, ?_⟩⟩
 ·refine Sp.trans fun x hx => ?_
  rcases List.mem_append.1 hx with hx | hx
  ·exact .mem hx
  ·rw [hz x hx]; exact .zero
 ·exact Sp.trans fun x hx => .mem (List.mem_append_left _ hx)
theorem Inv.start (orig : List Nat) : Inv orig 0 [] orig := ⟨⟨fun a ha => by (cases ha), .nil⟩, fun _ _ q hq => absurd hq (Nat.not_lt_zero q), fun _ => Iff.rfl⟩
abbrev up (l : List Nat) : List Int := l.map fun n : Nat => (n : Int)
theorem idxI_cases {α : Type} (p : α → Bool) : ∀ (l : List α) (i : Nat), (idxI p i l = -1 ∧ ∀ x ∈ l, p x = false) ∨ ∃ k x, l[k]? = some x ∧ p x = true ∧ idxI p i l = ((i + k : Nat) : Int) := by
 intro l
 induction l with
 | nil => intro i; exact .inl ⟨rfl, fun x hx => by cases hx⟩
 | cons a l ih =>
  intro i
  simp only [idxI]
  cases ha : p a
  ·rcases ih (i + 1) with ⟨h1, h2⟩ | ⟨k, x, h1, h2, h3⟩
   ·exact .inl ⟨h1, fun x hx => by
     cases hx with
     | head => exact ha
     | tail _ hx => exact h2 x hx⟩
   ·exact .inr ⟨k + 1, x, h1, h2, by rw [cond_false, h3]; congr 1; omega⟩
  ·exact .inr ⟨0, a, rfl, ha, rfl⟩
def marks (k : Int) (n : Nat) : List Int := (List.range' 0 n).map fun i : Nat => k + (i : Int)
theorem foldE_marks {α β : Type} (k : Int) (fin : List Int → β) : ∀ (l : List α) (i : Nat) (acc : List Int), acc.length = i + l.length → foldE (fun i acc _ => (.inl (acc.set i (k + (i : Int))) : List Int ⊕ β)) fin i acc l = fin (acc.take i ++ (List.range' i l.length).map fun i : Nat => k + (i : Int)) := by
 intro l
 induction l with
 | nil => intro i acc h; simp only [foldE, List.length_nil, List.range'_zero, List.map_nil, List.append_nil]; rw [List.take_of_length_le (by simp at h; omega)]
 | cons x l ih =>
  intro i acc h
  simp only [foldE]
  simp only [List.length_cons] at h
  rw [ih (i + 1) (acc.set i (k + (i : Int))) (by simp; omega)]
  congr 1
  rw [List.take_set, List.take_add_one]
  have hi : i < acc.length := by omega
  rw [List.getElem?_eq_getElem hi, List.set_append, List.length_cons, List.range'_succ]
  simp [List.length_take, Nat.min_eq_left (Nat.le_of_lt hi)]
end Go.Abs

namespace Go.Abs
end Go.Abs

namespace Go.Abs
end Go.Abs

namespace Go.Abs
def sumsOf : List Nat → List Nat
 | [] => [0]
 | x :: l => sumsOf l ++ (sumsOf l).map (x ^^^ ·)
theorem sumsOf_len : ∀ l : List Nat, (sumsOf l).length = 2 ^ l.length := by
 intro l
 induction l with
 | nil => rfl
 | cons x l ih => simp only [sumsOf, List.length_append, List.length_map, ih, List.length_cons, Nat.pow_succ]; omega
theorem sumsOf_zero : ∀ l : List Nat, 0 ∈ sumsOf l := by
 intro l
 induction l with
 | nil => simp [sumsOf]
 | cons x l ih => exact List.mem_append.2 (.inl ih)
theorem xor_cancel (a b : Nat) : a ^^^ (a ^^^ b) = b := by rw [← Nat.xor_assoc, Nat.xor_self, Nat.zero_xor]
theorem sumsOf_add : ∀ {l : List Nat} {r v : Nat}, r ∈ l → v ∈ sumsOf l → r ^^^ v ∈ sumsOf l := by
 intro l
 induction l with
 | nil => intro r v hr; cases hr
 | cons x l ih =>
  intro r v hr hv
  simp only [sumsOf, List.mem_append, List.mem_map] at hv ⊢
  cases hr with
  | head =>
   rcases hv with hv | ⟨w, hw, rfl⟩
   ·exact .inr ⟨v, hv, rfl⟩
   ·exact .inl (by rw [xor_cancel]; exact hw)
  | tail _ hr =>
   rcases hv with hv | ⟨w, hw, rfl⟩
   ·exact .inl (ih hr hv)
   ·exact .inr ⟨r ^^^ w, ih hr hw, by rw [← Nat.xor_assoc, Nat.xor_comm x r, Nat.xor_assoc]⟩
theorem Sp.sums {l : List Nat} {v : Nat} (h : Sp l v) : v ∈ sumsOf l := by
 induction h with
 | zero => exact sumsOf_zero l
 | add hr _ ih => exact sumsOf_add hr ih
theorem sums_Sp : ∀ {l : List Nat} {v : Nat}, v ∈ sumsOf l → Sp l v := by
 intro l
 induction l with
 | nil => intro v hv; simp only [sumsOf, List.mem_singleton] at hv; subst hv; exact .zero
 | cons x l ih =>
  intro v hv
  simp only [sumsOf, List.mem_append, List.mem_map] at hv
  have hs : ∀ {w}, Sp l w → Sp (x :: l) w := fun h => h.trans fun r hr => Sp.mem (.tail _ hr)
  rcases hv with hv | ⟨w, hw, rfl⟩
  ·exact hs (ih hv)
  ·exact .add (.head _) (hs (ih hw))
theorem sums_bit {p : Nat} : ∀ {l : List Nat} {v : Nat}, (∀ r ∈ l, r.testBit p = false) → v ∈ sumsOf l → v.testBit p = false := by
 intro l
 induction l with
 | nil => intro v _ hv; simp only [sumsOf, List.mem_singleton] at hv; subst hv; simp
 | cons x l ih =>
  intro v h hv
  simp only [sumsOf, List.mem_append, List.mem_map] at hv
  rcases hv with hv | ⟨w, hw, rfl⟩
  ·exact ih (fun r hr => h r (.tail _ hr)) hv
  ·rw [Nat.testBit_xor, h x (.head _), ih (fun r hr => h r (.tail _ hr)) hw]; rfl
theorem Red.nodup {c : Nat} : ∀ {E : List (Nat × Nat)}, Red c E → (sumsOf (E.map (·.2))).Nodup := by
 intro E
 induction E with
 | nil => intro _; simp [sumsOf]
 | cons a l ih =>
  intro h
  have hp := (List.pairwise_cons.1 h.2).1
  have hl : ∀ r ∈ l.map (·.2), r.testBit a.1 = false := by
   intro r hr
   obtain ⟨b, hb, rfl⟩ := List.mem_map.1 hr
   exact ((h.1 b (.tail _ hb)).2).2 a.1 (hp b hb).1
  have ha : a.2.testBit a.1 = true := (h.1 a (.head _)).2.1
  simp only [List.map_cons, sumsOf]
  rw [List.nodup_append]
  refine ⟨ih h.tail, ?_, ?_⟩
  ·rw [List.nodup_iff_pairwise_ne]
   refine List.pairwise_map.2 ((List.nodup_iff_pairwise_ne.1 (ih h.tail)).imp ?_)
   intro x y hxy hne
   exact hxy (by rw [← xor_cancel a.2 x, hne, xor_cancel])
  ·intro x hx y hy hxy
   obtain ⟨w, hw, rfl⟩ := List.mem_map.1 hy
   have h1 := sums_bit hl hx
   have h2 := sums_bit hl hw
   rw [hxy, Nat.testBit_xor, ha, h2] at h1
   cases h1
theorem nodup_le {α : Type} [DecidableEq α] : ∀ {l l' : List α}, l.Nodup → (∀ x ∈ l, x ∈ l') → l.length ≤ l'.length := by
 intro l
 induction l with
 | nil => intro l' _ _; exact Nat.zero_le _
 | cons x l ih =>
  intro l' hn hs
  rw [List.nodup_cons] at hn
  have hx := hs x (.head _)
  have := ih (l' := l'.erase x) hn.2 (fun y hy => by
   have hne : y ≠ x := by rintro rfl; exact hn.1 hy
   exact (List.mem_erase_of_ne hne).2 (hs y (.tail _ hy)))
  rw [List.length_erase_of_mem hx] at this
  have hpos : 0 < l'.length := List.length_pos_of_mem hx
  simp only [List.length_cons]
  omega
theorem IsEch.le {rows E : List Nat} (h : IsEch rows E) : E.length ≤ rows.length := by
 obtain ⟨P, c, hr, rfl, hs⟩ := h
 have := nodup_le hr.nodup (fun x hx => ((hs x).2 (sums_Sp hx)).sums)
 rw [sumsOf_len, sumsOf_len] at this
 exact (Nat.pow_le_pow_iff_right (by decide)).1 this
theorem Sp.map {rows : List Nat} {f : Nat → Nat} (h0 : f 0 = 0) (hf : ∀ a b, f (a ^^^ b) = f a ^^^ f b) {v : Nat} (h : Sp rows v) : Sp (rows.map f) (f v) := by
 induction h with
 | zero => rw [h0]; exact .zero
 | add hr _ ih => rw [hf]; exact .add (List.mem_map.2 ⟨_, hr, rfl⟩) ih
end Go.Abs

namespace Go.Abs
def selN (h : Nat) : Nat → List Nat → Nat
 | _, [] => 0
 | i, x :: l => cond (h.testBit i) x 0 ^^^ selN h (i + 1) l
theorem selN_none {h : Nat} : ∀ (l : List Nat) (i : Nat), (∀ q, i ≤ q → h.testBit q = false) → selN h i l = 0 := by
 intro l
 induction l with
 | nil => intro i _; rfl
 | cons x l ih =>
  intro i hq
  simp only [selN]
  rw [hq i (Nat.le_refl i), ih (i + 1) fun q h => hq q (by omega), cond_false, Nat.xor_self]
theorem selN_zero (l : List Nat) (i : Nat) : selN 0 i l = 0 := selN_none l i fun q _ => Nat.zero_testBit q
theorem xor_four (x a b : Nat) : a ^^^ b = (x ^^^ a) ^^^ (x ^^^ b) := by
 rw [Nat.xor_comm x a, Nat.xor_assoc, ← Nat.xor_assoc x x b, Nat.xor_self, Nat.zero_xor]
theorem selN_xor (a b : Nat) : ∀ (l : List Nat) (i : Nat), selN (a ^^^ b) i l = selN a i l ^^^ selN b i l := by
 intro l
 induction l with
 | nil => intro i; exact (Nat.xor_self 0).symm
 | cons x l ih =>
  intro i
  simp only [selN]
  rw [ih, Nat.testBit_xor]
  cases a.testBit i <;> cases b.testBit i
  ·simp only [Bool.xor_false, cond_false, Nat.zero_xor]
  ·simp only [Bool.false_xor, cond_true, cond_false, Nat.zero_xor]
   rw [Nat.xor_comm, Nat.xor_assoc, Nat.xor_comm (selN b (i + 1) l)]
  ·simp only [Bool.xor_false, cond_true, cond_false, Nat.zero_xor]
   rw [Nat.xor_assoc]
  ·simp only [Bool.xor_self, cond_true, cond_false, Nat.zero_xor]
   exact xor_four x _ _
theorem selN_pow : ∀ (l : List Nat) (i j : Nat) {x : Nat}, l[j]? = some x → selN (2 ^ (i + j)) i l = x := by
 intro l
 induction l with
 | nil => intro i j x h; simp at h
 | cons y l ih =>
  intro i j x h
  simp only [selN]
  cases j with
  | zero =>
   simp only [List.getElem?_cons_zero, Option.some.injEq] at h
   subst h
   rw [Nat.add_zero, Nat.testBit_two_pow_self, cond_true, selN_none l (i + 1) fun q hq => by rw [Nat.testBit_two_pow]; exact decide_eq_false (by omega), Nat.xor_zero]
  | succ j =>
   simp only [List.getElem?_cons_succ] at h
   rw [Nat.testBit_two_pow, decide_eq_false (by omega), cond_false, Nat.zero_xor, show i + (j + 1) = i + 1 + j by omega]
   exact ih (i + 1) j h
structure Heads (N : Nat) (S : List Nat) : Prop where
 len : S.length = N
 head : ∀ i x, S[i]? = some x → x &&& (2 ^ N - 1) = 2 ^ i
theorem Heads.back {N : Nat} {S : List Nat} (h : Heads N S) {v : Nat} (hv : Sp S v) : selN (v &&& (2 ^ N - 1)) 0 S = v := by
 induction hv with
 | zero => rw [Nat.zero_and, selN_zero]
 | add hr _ ih =>
  obtain ⟨i, hi⟩ := List.getElem?_of_mem hr
  rw [Nat.and_xor_distrib_right, selN_xor, ih, h.head i _ hi]
  have := selN_pow S 0 i hi
  rw [Nat.zero_add] at this
  rw [this]
theorem sorted_len : ∀ (l : List (Nat × Nat)) (lo b : Nat), (l.Pairwise fun a b => a.1 < b.1) → (∀ a ∈ l, lo ≤ a.1 ∧ a.1 < b) → l.length ≤ b - lo := by
 intro l
 induction l with
 | nil => intro lo b _ _; exact Nat.zero_le _
 | cons a l ih =>
  intro lo b h hb
  obtain ⟨h1, h2⟩ := List.pairwise_cons.1 h
  have := ih (a.1 + 1) b h2 fun x hx => ⟨h1 x hx, (hb x (.tail _ hx)).2⟩
  have h0 := hb a (.head _)
  simp only [List.length_cons]
  omega
theorem sorted_range : ∀ (l : List (Nat × Nat)) (lo : Nat), (l.Pairwise fun a b => a.1 < b.1) → (∀ a ∈ l, lo ≤ a.1 ∧ a.1 < lo + l.length) → ∀ (i : Nat) (a : Nat × Nat), l[i]? = some a → a.1 = lo + i := by
 intro l
 induction l with
 | nil => intro lo _ _ i a h; simp at h
 | cons b l ih =>
  intro lo h hb i a ha
  obtain ⟨h1, h2⟩ := List.pairwise_cons.1 h
  simp only [List.length_cons] at hb
  have h0 := hb b (.head _)
  have hl := sorted_len l (b.1 + 1) (lo + (l.length + 1)) h2 fun x hx => ⟨h1 x hx, (hb x (.tail _ hx)).2⟩
  have hb0 : b.1 = lo := by omega
  cases i with
  | zero => simp only [List.getElem?_cons_zero, Option.some.injEq] at ha; subst ha; exact hb0
  | succ i =>
   simp only [List.getElem?_cons_succ] at ha
   rw [ih (lo + 1) h2 (fun x hx => ⟨by have := h1 x hx; omega, by have := (hb x (.tail _ hx)).2; omega⟩) i a ha]
   omega
theorem IsEch.heads {N : Nat} {rows E A : List Nat} (h : IsEch rows E) (hA : IsEch (rows.map (· &&& (2 ^ N - 1))) A) (hE : E.length = N) (hAl : A.length = N) : Heads N E := by
 obtain ⟨P, c, hr, rfl, hs⟩ := h
 rw [List.length_map] at hE
 have hlow : ∀ a ∈ P, a.1 < N := by
  intro a ha
  refine Decidable.byContradiction fun hn => ?_
  have hz : ∀ q, q < N → a.2.testBit q = false := fun q hq => (hr.1 a ha).2.2 q (by omega)
  have hza : a.2 &&& (2 ^ N - 1) = 0 := by
   refine Nat.eq_of_testBit_eq fun q => ?_
   rw [Nat.testBit_and, Nat.testBit_two_pow_sub_one, Nat.zero_testBit]
   by_cases hq : q < N
   ·rw [hz q hq]; rfl
   ·simp [hq]
  have hA2 : IsEch (((P.erase a).map (·.2)).map (· &&& (2 ^ N - 1))) A := by
   obtain ⟨Q, d, h1, h2, h3⟩ := hA
   refine ⟨Q, d, h1, h2, fun v => Iff.trans ⟨fun hv => ?_, fun hv => ?_⟩ (h3 v)⟩
   ·refine Sp.trans (fun x hx => ?_) hv
    obtain ⟨y, hy, rfl⟩ := List.mem_map.1 hx
    obtain ⟨b, hb, rfl⟩ := List.mem_map.1 hy
    have := ((hs b.2).2 (Sp.mem (List.mem_map.2 ⟨b, List.mem_of_mem_erase hb, rfl⟩))).map (f := (· &&& (2 ^ N - 1))) (Nat.zero_and _) (fun a b => Nat.and_xor_distrib_right)
    exact this
   ·have key : ∀ w, Sp (P.map (·.2)) w → Sp (((P.erase a).map (·.2)).map (· &&& (2 ^ N - 1))) (w &&& (2 ^ N - 1)) := by
     intro w hw
     induction hw with
     | zero => rw [Nat.zero_and]; exact .zero
     | add hx _ ih =>
      obtain ⟨b, hb, rfl⟩ := List.mem_map.1 hx
      rw [Nat.and_xor_distrib_right]
      by_cases hba : b = a
      ·rw [hba, hza, Nat.zero_xor]; exact ih
      ·exact .add (List.mem_map.2 ⟨b.2, List.mem_map.2 ⟨b, (List.mem_erase_of_ne hba).2 hb, rfl⟩, rfl⟩) ih
    refine Sp.trans (fun x hx => ?_) hv
    obtain ⟨r, hr2, rfl⟩ := List.mem_map.1 hx
    exact key r ((hs r).1 (Sp.mem hr2))
  have := hA2.le
  rw [List.length_map, List.length_map, List.length_erase_of_mem ha] at this
  have := List.length_pos_of_mem ha
  omega
 have hsort := hr.2.imp (S := fun a b : Nat × Nat => a.1 < b.1) fun h => h.1
 have hat := sorted_range P 0 hsort fun a ha => ⟨Nat.zero_le _, by have := hlow a ha; omega⟩
 refine ⟨by rw [List.length_map]; exact hE, fun i x hx => ?_⟩
 rw [List.getElem?_map] at hx
 obtain ⟨a, ha, rfl⟩ := Option.map_eq_some_iff.1 hx
 have hai := hat i a ha
 have ham := List.mem_of_getElem? ha
 have hiN := hlow a ham
 refine Nat.eq_of_testBit_eq fun q => ?_
 rw [Nat.testBit_and, Nat.testBit_two_pow_sub_one, Nat.testBit_two_pow]
 by_cases hq : q < N
 ·obtain ⟨b, hb⟩ : ∃ b, P[q]? = some b := ⟨_, List.getElem?_eq_getElem (by omega)⟩
  have hbq := hat q b hb
  by_cases hiq : i = q
  ·subst hiq
   have := (hr.1 a ham).2.1
   rw [show a.1 = i by omega] at this
   simp [this, hq]
  ·have := hr.apart ham (List.mem_of_getElem? hb) (by omega)
   rw [show b.1 = q by omega] at this
   simp [this, hiq]
 ·have : i ≠ q := by omega
  simp [hq, this]
end Go.Abs

namespace Go.Abs
theorem put_sound {m0 : Mask} {w : World} {θ : RName → Nat} {Z S : BS} {e : K} (hbd : ∀ b, Z b ∨ S b → b < w.heap.size) :
  ∀ (p : Path) {k : K} {m : Mask} {d : k.den} {vs : List Value} {F : BS} {base : Option (Nat × Nat)} {d0 : List e.den},
   Enc w θ Z S k m d vs F → (∀ b, F b → b < w.heap.size ∧ ¬ Z b ∧ ¬ S b) →
   getP k d m p (fun k d m => some ((⟨k, d⟩ : Σ k : K, k.den), m)) = some (⟨.sl e, d0⟩, m0) →
   ∃ (v : Value) (b1 : Option (Nat × Nat)) (Gi : BS), locv w k vs base p = some ([v], b1) ∧ Enc w θ Z S (.sl e) m0 d0 [v] Gi ∧ Sub Gi F ∧
    ∀ (w' : World) (Z' G' : BS) (d1 : List e.den) (d2 : k.den) (m2 : Mask), Sub Z Z' → (∀ b, b < w.heap.size → ¬ Gi b → w'.heap[b]? = w.heap[b]?) → (∀ b, G' b → Gi b ∨ w.heap.size ≤ b) →
     Enc w' θ Z' S (.sl e) m0 d1 [v] G' → setP k d m p (.sl e) d1 m0 (fun d m => some (d, m)) = some (d2, m2) →
     Enc w' θ Z' S k m2 d2 vs (fun b => (F b ∧ ¬ Gi b) ∨ G' b) ∧ Stays w w' k d d2 m m2 vs vs base (.sl e) (p ++ [.idx 0]) := by
 intro p
 induction p with
 | nil =>
  intro k m d vs F base d0 he hF hg
  have hg' : some ((⟨k, d⟩ : Σ k : K, k.den), m) = some (⟨.sl e, d0⟩, m0) := by rw [← hg]; cases k <;> rfl
  simp only [Option.some.injEq, Prod.mk.injEq, Sigma.mk.injEq] at hg'
  obtain ⟨⟨rfl, hd⟩, rfl⟩ := hg'
  cases hd
  obtain ⟨v, rfl⟩ : ∃ v, vs = [v] := by
   have := he.len
   match vs, this with
   | [v], _ => exact ⟨v, rfl⟩
  refine ⟨v, base, F, rfl, he, .refl _, fun w' Z' G' d1 d2 m2 hZ hk hG' hnew hs => ?_⟩
  have hs' : some (d1, m) = some (d2, m2) := by
   rw [← hs]
   simp [setP, K.flat]
  simp only [Option.some.injEq, Prod.mk.injEq] at hs'
  obtain ⟨rfl, rfl⟩ := hs'
  refine ⟨hnew.mono (.refl _) (.refl _) (fun _ h => .inr h) (fun _ _ => rfl) (fun _ _ => rfl), fun q k' cs b1 hk' hcg hlc => ?_⟩
  cases q with
  | nil => exact ⟨fun _ => ⟨trivial, cs, hlc⟩, fun _ _ => ⟨trivial, hlc⟩⟩
  | cons st q =>
   cases st with
   | idx j =>
    refine ⟨fun hfl => ?_, fun _ hfl => ?_⟩
    ·rcases hfl with hfl | hfl
     ·cases hfl
     ·simp [under, hasIdx] at hfl
    ·rcases hfl with hfl | hfl
     ·cases hfl
     ·simp [under] at hfl
   | fst => simp [K.at] at hk'
   | snd => simp [K.at] at hk'
 | cons s p ih =>
  intro k m d vs F base d0 he hF hg
  cases s with
  | fst =>
   cases k with
   | pair ka kb =>
    obtain ⟨v1, v2, Fa, Fb, rfl, s1, s2, dj, h1, h2⟩ := he
    have l1 := h1.len
    obtain ⟨v, b1, Gi, g1, g2, g3, g4⟩ := ih (k := ka) (base := base) h1 (fun b hb => hF b (s1 b hb)) hg
    refine ⟨v, b1, Gi, by simp only [locv]; rw [← l1, List.take_left]; exact g1, g2, g3.trans s1, fun w' Z' G' d1 d2 m2 hZ hk hG' hnew hs => ?_⟩
    obtain ⟨t, ht, hs2⟩ := Option.bind_eq_some_iff.1 ((setP_nat (fun t : ka.den × Mask => some (((t.1, d.2) : ka.den × kb.den), m.putFst (K.sl e).flat t.2)) p (fun d m => some (d, m))).trans hs)
    obtain ⟨x, mx⟩ := t
    simp only [Option.some.injEq, Prod.mk.injEq] at hs2
    obtain ⟨rfl, rfl⟩ := hs2
    obtain ⟨k1, k2⟩ := g4 w' Z' G' d1 x mx hZ hk hG' hnew ht
    have hm0 : (m.putFst (K.sl e).flat mx).fst = mx ∧ (m.putFst (K.sl e).flat mx).snd = m.snd := ⟨setP_sound.mkPair_fst _ _, setP_sound.mkPair_snd _ _⟩
    have hsame : ∀ b, Fb b ∨ Z b ∨ S b → w'.heap[b]? = w.heap[b]? := fun b hb => hb.elim (fun hb => hk b (hF b (s2 b hb)).1 fun hg => dj b (g3 b hg) hb) fun hb => hk b (hbd b hb) fun hg => hb.elim (hF b (s1 b (g3 b hg))).2.1 (hF b (s1 b (g3 b hg))).2.2
    refine ⟨⟨v1, v2, fun b => (Fa b ∧ ¬ Gi b) ∨ G' b, Fb, rfl, fun b hb => hb.imp (fun h => ⟨s1 b h.1, h.2⟩) id, fun b hb => .inl ⟨s2 b hb, fun hg => dj b (g3 b hg) hb⟩, ?_, by rw [hm0.1]; exact k1, by rw [hm0.2]; exact h2.mono hZ (.refl _) (.refl _) hsame (fun _ _ => rfl)⟩, ?_⟩
    ·rintro b (hb | hb) hb2
     ·exact dj b hb.1 hb2
     ·rcases hG' b hb with hb | hb
      ·exact dj b (g3 b hb) hb2
      ·have := (hF b (s2 b hb2)).1; omega
    ·intro q k' cs b2 hk' hcg hlc
     cases q with
     | nil =>
      refine ⟨fun _ => ⟨trivial, cs, hlc⟩, fun ⟨e', hke⟩ => ?_⟩
      have : some (ka.pair kb) = some k' := hk'
      rw [hke] at this; cases this
     | cons st q =>
      cases st with
      | fst =>
       simp only [locv] at hlc ⊢
       rw [← l1, List.take_left] at hlc ⊢
       obtain ⟨x1, x2⟩ := k2 q k' cs b2 hk' hcg hlc
       refine ⟨fun hfl => ?_, fun he hfl => ?_⟩
       ·obtain ⟨y1, y2⟩ := x1 (by simpa [under, hasIdx] using hfl)
        exact ⟨by show canGet ka x (m.putFst (K.sl e).flat mx).fst q; rw [hm0.1]; exact y1, y2⟩
       ·obtain ⟨y1, y2⟩ := x2 he (by simpa [under] using hfl)
        exact ⟨by show canGet ka x (m.putFst (K.sl e).flat mx).fst q; rw [hm0.1]; exact y1, y2⟩
      | snd =>
       have hcg' : canGet kb d.2 m.snd q := hcg
       have hcg2 : canGet kb d.2 (m.putFst (K.sl e).flat mx).snd q := by rw [hm0.2]; exact hcg'
       obtain ⟨_, _, _, hgp⟩ := canGet_getP q hcg'
       have hfr := locv_frame (w' := w') (base := base.map fun x => (x.1, x.2 + ka.size)) q h2 hsame ⟨Unit, (), fun _ _ _ => some (), by rw [hgp]⟩
       simp only [locv] at hlc ⊢
       rw [← l1, List.drop_left, l1] at hlc ⊢
       rw [hfr]
       exact ⟨fun _ => ⟨hcg2, cs, hlc⟩, fun _ _ => ⟨hcg2, hlc⟩⟩
      | idx i => simp [K.at] at hk'
   | _ => simp [getP] at hg
  | snd =>
   cases k with
   | pair ka kb =>
    obtain ⟨v1, v2, Fa, Fb, rfl, s1, s2, dj, h1, h2⟩ := he
    have l1 := h1.len
    obtain ⟨v, b1, Gi, g1, g2, g3, g4⟩ := ih (k := kb) (base := base.map fun x => (x.1, x.2 + ka.size)) h2 (fun b hb => hF b (s2 b hb)) hg
    refine ⟨v, b1, Gi, by simp only [locv]; rw [← l1, List.drop_left, l1]; exact g1, g2, g3.trans s2, fun w' Z' G' d1 d2 m2 hZ hk hG' hnew hs => ?_⟩
    obtain ⟨t, ht, hs2⟩ := Option.bind_eq_some_iff.1 ((setP_nat (fun t : kb.den × Mask => some (((d.1, t.1) : ka.den × kb.den), m.putSnd (K.sl e).flat t.2)) p (fun d m => some (d, m))).trans hs)
    obtain ⟨x, mx⟩ := t
    simp only [Option.some.injEq, Prod.mk.injEq] at hs2
    obtain ⟨rfl, rfl⟩ := hs2
    obtain ⟨k1, k2⟩ := g4 w' Z' G' d1 x mx hZ hk hG' hnew ht
    have hm0 : (m.putSnd (K.sl e).flat mx).fst = m.fst ∧ (m.putSnd (K.sl e).flat mx).snd = mx := ⟨setP_sound.mkPair_fst _ _, setP_sound.mkPair_snd _ _⟩
    have hsame : ∀ b, Fa b ∨ Z b ∨ S b → w'.heap[b]? = w.heap[b]? := fun b hb => hb.elim (fun hb => hk b (hF b (s1 b hb)).1 fun hg => dj b hb (g3 b hg)) fun hb => hk b (hbd b hb) fun hg => hb.elim (hF b (s2 b (g3 b hg))).2.1 (hF b (s2 b (g3 b hg))).2.2
    refine ⟨⟨v1, v2, Fa, fun b => (Fb b ∧ ¬ Gi b) ∨ G' b, rfl, fun b hb => .inl ⟨s1 b hb, fun hg => dj b hb (g3 b hg)⟩, fun b hb => hb.imp (fun h => ⟨s2 b h.1, h.2⟩) id, ?_, by rw [hm0.1]; exact h1.mono hZ (.refl _) (.refl _) hsame (fun _ _ => rfl), by rw [hm0.2]; exact k1⟩, ?_⟩
    ·rintro b hb2 (hb | hb)
     ·exact dj b hb2 hb.1
     ·rcases hG' b hb with hb | hb
      ·exact dj b hb2 (g3 b hb)
      ·have := (hF b (s1 b hb2)).1; omega
    ·intro q k' cs b2 hk' hcg hlc
     cases q with
     | nil =>
      refine ⟨fun _ => ⟨trivial, cs, hlc⟩, fun ⟨e', hke⟩ => ?_⟩
      have : some (ka.pair kb) = some k' := hk'
      rw [hke] at this; cases this
     | cons st q =>
      cases st with
      | snd =>
       simp only [locv] at hlc ⊢
       rw [← l1, List.drop_left, l1] at hlc ⊢
       obtain ⟨x1, x2⟩ := k2 q k' cs b2 hk' hcg hlc
       refine ⟨fun hfl => ?_, fun he hfl => ?_⟩
       ·obtain ⟨y1, y2⟩ := x1 (by simpa [under, hasIdx] using hfl)
        exact ⟨by show canGet kb x (m.putSnd (K.sl e).flat mx).snd q; rw [hm0.2]; exact y1, y2⟩
       ·obtain ⟨y1, y2⟩ := x2 he (by simpa [under] using hfl)
        exact ⟨by show canGet kb x (m.putSnd (K.sl e).flat mx).snd q; rw [hm0.2]; exact y1, y2⟩
      | fst =>
       have hcg' : canGet ka d.1 m.fst q := hcg
       have hcg2 : canGet ka d.1 (m.putSnd (K.sl e).flat mx).fst q := by rw [hm0.1]; exact hcg'
       obtain ⟨_, _, _, hgp⟩ := canGet_getP q hcg'
       have hfr := locv_frame (w' := w') (base := base) q h1 hsame ⟨Unit, (), fun _ _ _ => some (), by rw [hgp]⟩
       simp only [locv] at hlc ⊢
       rw [← l1, List.take_left] at hlc ⊢
       rw [hfr]
       exact ⟨fun _ => ⟨hcg2, cs, hlc⟩, fun _ _ => ⟨hcg2, hlc⟩⟩
      | idx i => simp [K.at] at hk'
   | _ => simp [getP] at hg
  | idx i =>
   cases k with
   | sl e' =>
    simp only [getP] at hg
    split at hg
    case h_2 => simp at hg
    case h_1 y hy =>
    have hi : i < List.length d := (List.getElem?_eq_some_iff.1 hy).1
    rcases he with ⟨rfl, _⟩ | ⟨_, rfl, _⟩ | ⟨hgone, b', off', cap, cs, T, fz, rfl, hc, hle, hs0, hok, G, hG, hdj, hel⟩
    ·simp at hg
    ·simp at hy
    ·have hg' : getP e' y m.elem p (fun k d m => some ((⟨k, d⟩ : Σ k : K, k.den), m)) = some (⟨.sl e, d0⟩, m0) := by
      cases m <;> first | exact hg | exact absurd rfl hgone
     obtain ⟨v, b1, Gi, g1, g2, g3, g4⟩ := ih (k := e') (base := some (b', off' + i * e'.size)) (hel i y hy) (fun b hb => hF b ((hG i).1 b hb)) hg'
     refine ⟨v, b1, Gi, by simp only [locv, cellsAt, hc]; exact g1, g2, g3.trans (hG i).1, fun w' Z' G' d1 d2 m2 hZ hk hG' hnew hs => ?_⟩
     simp only [setP, hy] at hs
     cases hown : m.isOwn with
     | false => simp [hown] at hs
     | true =>
     simp only [hown, cond_true] at hs
     have hbF' : F b' ∧ fz = (0, 0) := by cases m <;> simp_all [Mask.isOwn, slOk]
     obtain ⟨t, ht, hs2⟩ := Option.bind_eq_some_iff.1 ((setP_nat (fun t : e'.den × Mask => if t.2 = m.elem then some (List.set d i t.1, m) else none) p (fun d m => some (d, m))).trans hs)
     obtain ⟨x', mx⟩ := t
     simp only at hs2
     split at hs2
     case isFalse => simp at hs2
     case isTrue hmx =>
     simp only [Option.some.injEq, Prod.mk.injEq] at hs2
     obtain ⟨rfl, rfl⟩ := hs2
     obtain ⟨k1, k2⟩ := g4 w' Z' G' d1 x' mx hZ hk hG' hnew ht
     have hnb : ¬ Gi b' := fun h => (hG i).2 (g3 b' h)
     have hc' : w'.heap[b']? = some (.cells cs T fz) := by rw [hk b' (hF b' hbF'.1).1 hnb]; exact hc
     have hsame : ∀ j, j ≠ i → ∀ b, G j b ∨ Z b ∨ S b → w'.heap[b]? = w.heap[b]? := fun j hj b hb => hb.elim (fun hb => hk b (hF b ((hG j).1 b hb)).1 fun hg => hdj j i hj b hb (g3 b hg)) fun hb => hk b (hbd b hb) fun hg => hb.elim (hF b ((hG i).1 b (g3 b hg))).2.1 (hF b ((hG i).1 b (g3 b hg))).2.2
     refine ⟨.inr (.inr ⟨hgone, b', off', cap, cs, T, fz, by simp, hc', by simpa using hle, hs0, ?_, fun j => if j = i then (fun b => (G i b ∧ ¬ Gi b) ∨ G' b) else G j, ?_, ?_, ?_⟩), ?_⟩
     ·rw [hbF'.2]
      have : slOk Z S F b' (0, 0) m := by rw [← hbF'.2]; exact hok
      cases m with
      | own => exact ⟨.inl ⟨hbF'.1, hnb⟩, rfl⟩
      | sl _ => exact ⟨.inl ⟨hbF'.1, hnb⟩, rfl⟩
      | _ => simp [Mask.isOwn] at hown
     ·intro j
      by_cases hj : j = i
      ·subst hj
       simp only [if_true]
       refine ⟨fun b hb => hb.imp (fun h => ⟨(hG j).1 b h.1, h.2⟩) id, ?_⟩
       rintro (hb | hb)
       ·exact (hG j).2 hb.1
       ·rcases hG' b' hb with hb | hb
        ·exact hnb hb
        ·have := (hF b' hbF'.1).1; omega
      ·simp only [if_neg hj]
       exact ⟨fun b hb => .inl ⟨(hG j).1 b hb, fun hg => hdj j i hj b hb (g3 b hg)⟩, (hG j).2⟩
     ·have hone : ∀ j, j ≠ i → Disj (fun b => (G i b ∧ ¬ Gi b) ∨ G' b) (G j) := by
       rintro j hj b (hb | hb) hb2
       ·exact hdj i j (fun h => hj h.symm) b hb.1 hb2
       ·rcases hG' b hb with hb | hb
        ·exact hdj i j (fun h => hj h.symm) b (g3 b hb) hb2
        ·have := (hF b ((hG j).1 b hb2)).1; omega
      intro j j' hjj
      by_cases hj : j = i
      ·have hj' : j' ≠ i := fun h => hjj (hj.trans h.symm)
       simp only [if_pos hj, if_neg hj']
       exact hone j' hj'
      ·by_cases hj' : j' = i
       ·simp only [if_neg hj, if_pos hj']
        exact (hone j hj).symm
       ·simp only [if_neg hj, if_neg hj']
        exact hdj j j' hjj
     ·intro j z hz
      by_cases hj : j = i
      ·subst hj
       rw [List.getElem?_set_self hi] at hz
       simp only [Option.some.injEq] at hz
       subst hz
       simp only [if_true]
       rw [← hmx]
       exact k1
      ·rw [List.getElem?_set_ne (fun h => hj h.symm)] at hz
       simp only [if_neg hj]
       exact (hel j z hz).mono hZ (.refl _) (.refl _) (hsame j hj) (fun _ _ => rfl)
     ·intro q k' ccs b2 hk' hcg hlc
      cases q with
      | nil => exact ⟨fun _ => ⟨trivial, _, hlc⟩, fun _ _ => ⟨trivial, hlc⟩⟩
      | cons st q =>
       cases st with
       | idx j =>
        obtain ⟨hmg, z, hz, hcg'⟩ := hcg
        have hk2 : e'.at q = some k' := hk'
        simp only [locv, cellsAt, hc, hc'] at hlc ⊢
        by_cases hj : j = i
        ·subst hj
         have hzy : z = y := by rw [hy] at hz; exact (Option.some.inj hz).symm
         subst hzy
         obtain ⟨x1, x2⟩ := k2 q k' ccs b2 hk2 hcg' hlc
         refine ⟨fun hfl => ?_, fun he hfl => ?_⟩
         ·obtain ⟨y1, y2⟩ := x1 (hfl.imp id (fun h => by simp [under, hasIdx] at h; simp [h]))
          exact ⟨⟨hmg, x', List.getElem?_set_self hi, by rw [← hmx]; exact y1⟩, y2⟩
         ·obtain ⟨y1, y2⟩ := x2 he (by simpa [under] using hfl)
          exact ⟨⟨hmg, x', List.getElem?_set_self hi, by rw [← hmx]; exact y1⟩, y2⟩
        ·obtain ⟨_, _, _, hgp⟩ := canGet_getP q hcg'
         have hfr := locv_frame (w' := w') (base := some (b', off' + j * e'.size)) q (hel j z hz) (hsame j hj) ⟨Unit, (), fun _ _ _ => some (), by rw [hgp]⟩
         rw [hfr]
         have hcg2 : canGet (.sl e') (List.set d i x') m (.idx j :: q) := ⟨hmg, z, by rw [List.getElem?_set_ne (fun h => hj h.symm)]; exact hz, hcg'⟩
         exact ⟨fun _ => ⟨hcg2, ccs, hlc⟩, fun _ _ => ⟨hcg2, hlc⟩⟩
       | fst => simp [K.at] at hk'
       | snd => simp [K.at] at hk'
   | _ => simp [getP] at hg
theorem Contract.soften {P : Program} {Γ : Glb} {f : FuncId} {q : Ctr} {e : K} (hpl : e.plain = true) (h : Contract P Γ f q) {rw : List Nat} {G : CallIn → Tre CallOut}
  (hG : ∀ ci co, (G ci).run some = some co → ∃ (p : Path) (l : List AV) (m0 : Mask) (x : Root) (d d1 : List e.den) (d2 : x.k.den) (m2 : Mask) (av0 : AV),
   ci = ⟨.ref (0, 0) p :: l, [x]⟩ ∧ x.k.plain = true ∧ (∀ a ∈ l, (∃ z k d, a = .imm z k d) ∨ ∃ g, a = .fn g []) ∧ ((∃ k r, av0 = .imm true k r) ∨ av0 = .tnil) ∧ getP x.k x.d x.m p (fun k d m => some ((⟨k, d⟩ : Σ k : K, k.den), m)) = some (⟨.sl e, d⟩, m0) ∧
   setP x.k x.d x.m p (.sl e) d1 m0 (fun d m => some (d, m)) = some (d2, m2) ∧ (q.G ⟨.ref (0, 0) [] :: l, [⟨false, .sl e, m0, d⟩]⟩).run some = some ⟨av0, [⟨false, .sl e, m0, d1⟩], []⟩ ∧
   co = ⟨av0, [⟨x.mem, x.k, m2, d2⟩], []⟩) : Contract P Γ f ⟨rw, G, true⟩ := by
 intro w C ci co vals hM hptr hsz hvals hgl hrun
 obtain ⟨p, l, m0, x, d, d1, d2, m2, av0, rfl, hxp, hl, hres, hget, hset, hin, rfl⟩ := hG ci co hrun
 have hx : rsIn [x] (par 0) = some x := rfl
 have hone : ∀ {y : Root} {q : RName} {z : Root}, rsIn [y] q = some z → q = par 0 ∧ z = y := by
  rintro y ⟨a, b⟩ z hz
  match a, b, hz with
  | 0, 0, hz => exact ⟨rfl, (Option.some.inj hz).symm⟩
  | 0, b + 1, hz => cases hz
  | a + 1, _, hz => cases hz
 obtain ⟨G0, he, hG0, hmem⟩ := hM.ok _ _ hx
 obtain ⟨v, b1, Gi, g1, g2, g3, g4⟩ := put_sound (fun b hb => hM.ro b hb) p (base := baseOf C (par 0) x) he (fun b hb => by have := hM.apart _ _ b hx (hG0 b hb); exact ⟨this.2.2, this.1, this.2.1⟩) hget
 obtain ⟨v0, hv0⟩ : ∃ v, vals[0]? = some v := ⟨_, Array.getElem?_eq_getElem (by rw [hsz]; simp)⟩
 have ha0 := hvals 0 v0 _ hv0 rfl
 obtain ⟨hA, hcl⟩ := ha0.cell (by simp) rfl (by simp) (by simp)
 have hvv : v0 = v := by
  obtain ⟨v', h1, h2⟩ := hA
  simp only [List.cons.injEq, and_true] at h1
  subst h1
  obtain ⟨_, _, _, _, h3⟩ := h2 x hx
  rw [g1] at h3
  simp only [Option.some.injEq, Prod.mk.injEq, List.cons.injEq, and_true] at h3
  exact h3.1.symm
 subst hvv
 have hGiF : Sub Gi (C.F (par 0)) := g3.trans hG0
 let C1 : Ctx := ⟨C.θ, fun _ => [v0], fun _ => Gi, C.Z, C.S⟩
 have hM1 : Mem w C1 (rsIn [⟨false, .sl e, m0, d⟩]) := by
  refine ⟨fun q y hy => ?_, fun q q' y y' hy hy' hne => ?_, fun q y b hy hb => hM.apart _ _ b hx (hGiF b hb), hM.ro, fun q y hy p' hp' => ?_⟩
  ·obtain ⟨rfl, rfl⟩ := hone hy
   exact ⟨Gi, g2, .refl _, fun h => by cases h⟩
  ·obtain ⟨rfl, _⟩ := hone hy
   obtain ⟨rfl, _⟩ := hone hy'
   exact absurd rfl hne
  ·obtain ⟨rfl, rfl⟩ := hone hy
   have : ptrsOf (.sl e) d = [] := ptrsOf_plain (k := .sl e) d hpl
   rw [this] at hp'
   cases hp'
 have hcall := h w C1 ⟨.ref (0, 0) [] :: l, [⟨false, .sl e, m0, d⟩]⟩ _ vals hM1 (fun y hy p' hp' => by
   simp only [List.mem_singleton] at hy
   subst hy
   have : ptrsOf (.sl e) d = [] := ptrsOf_plain (k := .sl e) d hpl
   rw [this] at hp'
   cases hp') hsz (fun i v a hv ha => by
   cases i with
   | zero =>
    simp only [List.getElem?_cons_zero, Option.some.injEq] at ha
    subst ha
    rw [hv0] at hv
    cases hv
    refine .inl (.inr (.inr ⟨rfl, ⟨v0, rfl, fun y hy => ?_⟩, hcl⟩))
    obtain ⟨_, rfl⟩ := hone hy
    exact ⟨e, _, rfl, trivial, rfl⟩
   | succ i =>
    have ha' : l[i]? = some a := by simpa using ha
    have hva := hvals (i + 1) v a hv (by simpa using ha')
    rcases hl a (List.mem_of_getElem? ha') with ⟨z, k', d', rfl⟩ | ⟨g, rfl⟩
    ·rcases hva with h1 | ⟨vs, _, h2⟩
     ·refine .inl ?_
      rcases h1 with h1 | ⟨h1, vs, h2, h3⟩ | ⟨h1, h2, h3⟩
      ·cases h1
      ·exact .inr (.inl ⟨h1, vs, h2, h3⟩)
      ·exact .inr (.inr ⟨h1, h2, h3⟩)
     ·exact h2.elim
    rcases hva with h1 | ⟨vs, _, h2⟩
    ·refine .inl ?_
     rcases h1 with h1 | ⟨h1, vs, h2, h3⟩ | ⟨h1, h2, h3⟩
     ·cases h1
     ·cases h1
     ·exact .inr (.inr ⟨h1, ⟨h2.1, fun q hq => by cases hq⟩, h3⟩)
    ·exact h2.elim) hgl hin
 refine hcall.mono fun e' w' hp => ?_
 cases e' with
 | panicked _ => exact hp
 | outgrown => exact hp
 | returned v' =>
 obtain ⟨C1', Po, _⟩ := hp
 have hmw : ∀ b, mayWrite C1 [⟨false, .sl e, m0, d⟩] b → Gi b := fun b ⟨_, _, _, h⟩ => h
 have hmwi : ∀ b, Gi b → mayWrite C [x] b := fun b hb => ⟨0, x, rfl, hGiF b hb⟩
 have hy1 : rsOut ⟨av0, [⟨false, .sl e, m0, d1⟩], []⟩ (par 0) = some ⟨false, .sl e, m0, d1⟩ := rfl
 obtain ⟨G1, e1, e2, _⟩ := Po.mem.ok _ _ hy1
 have hρ1 : C1'.ρ (par 0) = [v0] := Po.ρ 0 ⟨false, .sl e, m0, d1⟩ rfl rfl
 have hfoot : ∀ b, C1'.F (par 0) b → Gi b ∨ w.heap.size ≤ b := fun b hb => (Po.foot _ _ b hy1 hb).elim .inr fun h => .inl (hmw b h)
 have hsame : ∀ b, b < w.heap.size → ¬ Gi b → w'.heap[b]? = w.heap[b]? := fun b hb hg => Po.kept.block b hb fun h => hg (hmw b h)
 have hS : C1'.S = C.S := Po.S
 have hfl : Enc w' C.θ C1'.Z C.S (.sl e) m0 d1 [v0] G1 := by
  have e1' : Enc w' C1'.θ C1'.Z C1'.S (.sl e) m0 d1 (C1'.ρ (par 0)) G1 := e1
  rw [hρ1, hS] at e1'
  exact e1'.mono (.refl _) (.refl _) (.refl _) (fun _ _ => rfl) (fun p hp => by rw [ptrsOf_plain (k := .sl e) d1 hpl] at hp; cases hp)
 obtain ⟨k1, k2⟩ := g4 w' C1'.Z G1 d1 d2 m2 Po.Z hsame (fun b hb => hfoot b (e2 b hb)) hfl hset
 let C' : Ctx := ⟨C.θ, C.ρ, fun q b => (C.F q b ∧ ¬ Gi b) ∨ C1'.F (par 0) b, C1'.Z, C.S⟩
 have hout : ∀ {q : RName} {z : Root}, rsOut ⟨av0, [⟨x.mem, x.k, m2, d2⟩], []⟩ q = some z → q = par 0 ∧ z = ⟨x.mem, x.k, m2, d2⟩ := by
  rintro ⟨a, b⟩ z hz
  match a, b, hz with
  | 0, 0, hz => exact ⟨rfl, (Option.some.inj hz).symm⟩
  | 0, b + 1, hz => cases hz
  | 1, b, hz => cases hz
  | a + 2, _, hz => cases hz
 have hlt : ∀ b, C.F (par 0) b → b < w.heap.size ∧ ¬ C.Z b ∧ ¬ C.S b := fun b hb => by have := hM.apart _ _ b hx hb; exact ⟨this.2.2, this.1, this.2.1⟩
 refine ⟨C', ⟨Po.Z, rfl, fun _ => rfl, ⟨fun q z hz => ?_, fun q q' z z' hz hz' hne => ?_, fun q z b hz hb => ?_, fun b hb => ?_, fun q z hz p' hp' => ?_⟩, ?_, fun i z hz hm => rfl, ?_, fun q z b hz hb => ?_, fun b hb => ?_⟩, fun _ p' l' x' ha hx' => ?_⟩
 ·obtain ⟨rfl, rfl⟩ := hout hz
  refine ⟨_, k1, ?_, fun hm => ?_⟩
  ·rintro b (hb | hb)
   ·exact .inl ⟨hG0 b hb.1, hb.2⟩
   ·exact .inr (e2 b hb)
  ·obtain ⟨m1, m3, T, m4⟩ := hmem hm
   have hng : ¬ Gi (C.θ (par 0)) := fun hg => m1 (g3 _ hg)
   refine ⟨?_, .inl ⟨m3, hng⟩, T, ?_⟩
   ·rintro (hb | hb)
    ·exact m1 hb.1
    ·rcases hfoot _ (e2 _ hb) with hb | hb
     ·exact hng hb
     ·have h8 := (hlt _ m3).1
      have hb : w.heap.size ≤ C.θ (par 0) := hb
      omega
   ·show w'.heap[C.θ (par 0)]? = _
    rw [hsame _ (hlt _ m3).1 hng]
    exact m4
 ·obtain ⟨rfl, _⟩ := hout hz
  obtain ⟨rfl, _⟩ := hout hz'
  exact absurd rfl hne
 ·obtain ⟨rfl, _⟩ := hout hz
  rcases hb with ⟨hb, hg⟩ | hb
  ·obtain ⟨h1, h2, h3⟩ := hlt b hb
   refine ⟨fun hz2 => ?_, h3, Nat.lt_of_lt_of_le h1 Po.kept.size⟩
   rcases Po.zn b hz2 with h | h | h
   ·exact h2 h
   ·omega
   ·exact hg (hmw b h)
  ·have := Po.mem.apart _ _ b hy1 hb
   rw [hS] at this
   exact this
 ·have := Po.mem.ro b
  rw [hS] at this
  exact this hb
 ·obtain ⟨rfl, rfl⟩ := hout hz
  rw [ptrsOf_plain d2 hxp] at hp'
  cases hp'
 ·have hv := Po.val
  rcases hres with ⟨k, r, rfl⟩ | rfl
  ·have conv : ∀ vs, AVC w' C1' (rsOut ⟨.imm true k r, [⟨false, .sl e, m0, d1⟩], []⟩) (.imm true k r) vs → AVC w' C' (rsOut ⟨.imm true k r, [⟨x.mem, x.k, m2, d2⟩], []⟩) (.imm true k r) vs := fun vs h => by
    have h2 : Enc w' C1'.θ C1'.Z C1'.S k (.imm true) r vs noB := h.2
    rw [hS] at h2
    exact ⟨h.1, h2.mono (.refl _) (.refl _) (.refl _) (fun _ _ => rfl) (fun p hp => by rw [ptrsOf_plain r h.1] at hp; cases hp)⟩
   rcases hv with h1 | ⟨vs, _, h2⟩
   ·rcases h1 with h1 | ⟨h1, vs, h2, h3⟩ | ⟨h1, h2, h3⟩
    ·cases h1
    ·exact .inl (.inr (.inl ⟨h1, vs, h2, conv vs h3⟩))
    ·exact .inl (.inr (.inr ⟨h1, conv _ h2, h3⟩))
   ·exact h2.elim
  ·rcases hv with h1 | ⟨vs, h1, h2⟩
   ·rcases h1 with h1 | ⟨h1, vs, h2, h3⟩ | ⟨h1, h2, h3⟩
    ·cases h1
    ·exact h3.elim
    ·exact h2.elim
   ·exact .inr ⟨vs, h1, h2⟩
 ·exact ⟨Po.kept.os, Po.kept.tape, Po.kept.output, Po.kept.size, fun b hb hm => Po.kept.block b hb fun h => hm (hmwi b (hmw b h))⟩
 ·obtain ⟨rfl, _⟩ := hout hz
  rcases hb with ⟨hb, _⟩ | hb
  ·exact .inr ⟨0, x, rfl, hb⟩
  ·rcases hfoot b hb with hb | hb
   ·exact .inr (hmwi b hb)
   ·exact .inl hb
 ·rcases Po.zn b hb with h | h | h
  ·exact .inl h
  ·exact .inr (.inl h)
  ·exact .inr (.inr (hmwi b (hmw b h)))
 ·simp only [List.cons.injEq, AV.ref.injEq, and_true] at ha hx'
  obtain ⟨⟨_, rfl⟩, _⟩ := ha
  subst hx'
  exact ⟨d2, m2, e, rfl, k2⟩
noncomputable def softOr (t : Path) (c1 c2 : Ctr) : Ctr := ⟨[0], fun ci => match ci.args with
 | .ref _ p :: _ => bif under t p && under p t then c1.G ci else c2.G ci
 | _ => .fail, true⟩
theorem softOr_ok {P : Program} {Γ : Glb} {f : FuncId} {t : Path} {c1 c2 : Ctr} (h1 : Contract P Γ f c1) (h2 : Contract P Γ f c2) (s1 : c1.soft = true := by rfl) (s2 : c2.soft = true := by rfl) : Contract P Γ f (softOr t c1 c2) := by
 intro w C ci co vals hM hptr hsz hvals hgl hG
 have conv : ∀ {c : Ctr}, c.soft = true → Contract P Γ f c → (c.G ci).run some = some co → Calls P f vals w fun e w' => match e with
   | .returned v => ∃ C', CallPost w C ci co v w' C' ∧ (true = true → SoftPost w C ci co w' C')
   | _ => False := fun {c} hs h hg => (h w C ci co vals hM hptr hsz hvals hgl hg).mono fun e w' k => by
  cases e with
  | returned v => obtain ⟨C', k1, k2⟩ := k; exact ⟨C', k1, fun _ => k2 hs⟩
  | _ => exact k
 simp only [softOr] at hG
 split at hG
 ·rename_i r p l ha
  cases hb : (under t p && under p t) with
  | true => rw [hb] at hG; exact conv s1 h1 hG
  | false => rw [hb] at hG; exact conv s2 h2 hG
 ·cases hG
end Go.Abs

namespace Go.Proofs.Ytkgekgfmnhccmaa
open Go Go.Abs Go.Proofs
abbrev kField : K := (.pair (.int .i64) (.pair (.int .i64) .unit))
abbrev kStation : K := (.pair (.sl (.int .i64)) (.pair (.sl (.int .i64)) .unit))
abbrev kL00Src : K := (.pair (.sl (.int .u8)) (.pair (.int .i64) (.pair (.int .u64) .unit)))
abbrev kDeed : K := (.pair (.int .i64) (.pair (.int .i64) (.pair (.int .i64) (.pair (.int .i64) .unit))))
abbrev kGather : K := (.pair (.int .i64) (.pair (.int .i64) (.pair (.sl (.int .i64)) (.pair (.int .i64) (.pair (.int .i64) .unit)))))
abbrev kL08Plan : K := (.pair .ptr (.pair (.sl kDeed) .unit))
abbrev kPlant : K := (.pair (.sl kStation) (.pair (.sl kField) .unit))
abbrev kNet : K := (.pair kField (.pair (.int .i64) (.pair (.int .i64) (.pair (.sl (.sl (.int .i64))) (.pair (.sl (.sl (.int .i64))) .unit)))))
abbrev kL08Run : K := (.pair .ptr (.pair kPlant .unit))
abbrev kWorks : K := (.pair kPlant (.pair kGather .unit))
def tau : List (Nat × TI) := [(31, ⟨(.sl (.int .i64)), 24, 2⟩), (2, ⟨(.int .i64), 8, 0⟩), (28, ⟨kNet, 80, 0⟩), (26, ⟨(.sl (.sl (.int .i64))), 24, 31⟩), (25, ⟨kField, 16, 0⟩), (48, ⟨kNet, 80, 0⟩), (46, ⟨kField, 16, 0⟩), (1, ⟨.fn, 8, 0⟩), (3, ⟨(.int .i64), 8, 0⟩), (4, ⟨.bool, 1, 0⟩), (5, ⟨(.int .u8), 1, 0⟩), (9, ⟨.str, 16, 0⟩), (12, ⟨(.int .u64), 8, 0⟩), (13, ⟨(.pair .str (.pair (.int .u64) .unit)), 24, 0⟩), (21, ⟨(.int .i32), 4, 0⟩), (22, ⟨(.sl (.int .u8)), 24, 5⟩), (23, ⟨.fn, 8, 0⟩), (24, ⟨kField, 16, 0⟩), (27, ⟨kNet, 80, 0⟩), (29, ⟨.fn, 8, 0⟩), (30, ⟨.fn, 8, 0⟩), (32, ⟨.fn, 8, 0⟩), (34, ⟨.fn, 8, 0⟩), (35, ⟨.fn, 8, 0⟩), (37, ⟨.fn, 8, 0⟩), (38, ⟨.fn, 8, 0⟩), (40, ⟨.fn, 8, 0⟩), (41, ⟨.fn, 8, 0⟩), (42, ⟨.fn, 8, 0⟩), (43, ⟨.fn, 8, 0⟩), (44, ⟨.fn, 8, 0⟩), (45, ⟨.fn, 8, 0⟩), (47, ⟨kNet, 80, 0⟩), (49, ⟨.fn, 8, 0⟩), (50, ⟨.fn, 8, 0⟩), (51, ⟨.fn, 8, 0⟩), (52, ⟨.fn, 8, 0⟩), (53, ⟨.fn, 8, 0⟩), (54, ⟨.fn, 8, 0⟩), (55, ⟨.fn, 8, 0⟩), (56, ⟨kGather, 56, 0⟩), (57, ⟨kGather, 56, 0⟩), (58, ⟨.fn, 8, 0⟩), (59, ⟨(.sl kDeed), 24, 111⟩), (60, ⟨.fn, 8, 0⟩), (62, ⟨.fn, 8, 0⟩), (63, ⟨(.sl kStation), 24, 107⟩), (64, ⟨(.sl kField), 24, 128⟩), (65, ⟨kPlant, 48, 0⟩), (66, ⟨kPlant, 48, 0⟩), (68, ⟨.fn, 8, 0⟩), (69, ⟨.fn, 8, 0⟩), (70, ⟨.fn, 8, 0⟩), (71, ⟨.ptr, 8, 0⟩), (72, ⟨.fn, 8, 0⟩), (73, ⟨.fn, 8, 0⟩), (74, ⟨.fn, 8, 0⟩), (75, ⟨.fn, 8, 0⟩), (76, ⟨.fn, 8, 0⟩), (77, ⟨.fn, 8, 0⟩), (78, ⟨.fn, 8, 0⟩), (79, ⟨.ptr, 8, 0⟩), (80, ⟨.fn, 8, 0⟩), (81, ⟨.fn, 8, 0⟩), (82, ⟨.fn, 8, 0⟩), (83, ⟨.fn, 8, 0⟩), (84, ⟨.fn, 8, 0⟩), (85, ⟨.fn, 8, 0⟩), (86, ⟨.fn, 8, 0⟩), (87, ⟨.fn, 8, 0⟩), (88, ⟨.fn, 8, 0⟩), (89, ⟨.fn, 8, 0⟩), (90, ⟨.fn, 8, 0⟩), (91, ⟨.fn, 8, 0⟩), (92, ⟨.fn, 8, 0⟩), (93, ⟨.fn, 8, 0⟩), (94, ⟨.fn, 8, 0⟩), (95, ⟨.fn, 8, 0⟩), (96, ⟨.fn, 8, 0⟩), (97, ⟨.fn, 8, 0⟩), (98, ⟨.fn, 8, 0⟩), (99, ⟨.fn, 8, 0⟩), (100, ⟨.fn, 8, 0⟩), (101, ⟨.ptr, 8, 0⟩), (102, ⟨.fn, 8, 0⟩), (103, ⟨.ptr, 8, 0⟩), (105, ⟨.fn, 8, 0⟩), (106, ⟨kStation, 48, 0⟩), (107, ⟨kStation, 48, 0⟩), (108, ⟨kWorks, 104, 0⟩), (109, ⟨kWorks, 104, 0⟩), (110, ⟨kDeed, 32, 0⟩), (111, ⟨kDeed, 32, 0⟩), (112, ⟨.fn, 8, 0⟩), (113, ⟨.fn, 8, 0⟩), (114, ⟨.fn, 8, 0⟩), (115, ⟨.ptr, 8, 0⟩), (117, ⟨.fn, 8, 0⟩), (118, ⟨kL08Run, 56, 0⟩), (119, ⟨kL08Run, 56, 0⟩), (120, ⟨.ptr, 8, 0⟩), (121, ⟨kL08Plan, 32, 0⟩), (122, ⟨kL08Plan, 32, 0⟩), (123, ⟨.fn, 8, 0⟩), (124, ⟨.fn, 8, 0⟩), (125, ⟨(.int .u64), 8, 0⟩), (126, ⟨.fn, 8, 0⟩), (127, ⟨kField, 16, 0⟩), (128, ⟨kField, 16, 0⟩), (129, ⟨.fn, 8, 0⟩), (130, ⟨.fn, 8, 0⟩), (131, ⟨.fn, 8, 0⟩), (132, ⟨(.int .u64), 8, 0⟩), (133, ⟨kL00Src, 40, 0⟩), (134, ⟨kL00Src, 40, 0⟩), (135, ⟨.fn, 8, 0⟩), (136, ⟨.fn, 8, 0⟩), (137, ⟨.fn, 8, 0⟩), (138, ⟨.fn, 8, 0⟩), (139, ⟨.fn, 8, 0⟩), (140, ⟨.fn, 8, 0⟩), (141, ⟨.fn, 8, 0⟩), (142, ⟨.fn, 8, 0⟩), (143, ⟨.fn, 8, 0⟩), (144, ⟨.fn, 8, 0⟩), (145, ⟨.fn, 8, 0⟩), (146, ⟨.fn, 8, 0⟩), (147, ⟨.fn, 8, 0⟩), (148, ⟨.fn, 8, 0⟩), (149, ⟨.fn, 8, 0⟩), (150, ⟨.fn, 8, 0⟩), (151, ⟨.fn, 8, 0⟩), (152, ⟨.fn, 8, 0⟩), (153, ⟨.fn, 8, 0⟩), (154, ⟨.fn, 8, 0⟩), (155, ⟨.fn, 8, 0⟩), (156, ⟨.fn, 8, 0⟩), (157, ⟨.fn, 8, 0⟩), (158, ⟨.fn, 8, 0⟩), (159, ⟨.fn, 8, 0⟩), (160, ⟨(.sl kField), 24, 25⟩), (161, ⟨.fn, 8, 0⟩), (162, ⟨.fn, 8, 0⟩), (163, ⟨.fn, 8, 0⟩), (164, ⟨.fn, 8, 0⟩), (165, ⟨.ptr, 8, 0⟩), (166, ⟨.fn, 8, 0⟩), (168, ⟨.fn, 8, 0⟩), (169, ⟨.fn, 8, 0⟩), (170, ⟨(.sl .str), 24, 9⟩), (171, ⟨(.sl (.int .i64)), 24, 3⟩), (173, ⟨.fn, 8, 0⟩), (174, ⟨.fn, 8, 0⟩), (175, ⟨.fn, 8, 0⟩), (176, ⟨.fn, 8, 0⟩), (177, ⟨.fn, 8, 0⟩), (178, ⟨.fn, 8, 0⟩), (179, ⟨.fn, 8, 0⟩), (185, ⟨.fn, 8, 0⟩), (186, ⟨(.int .u32), 4, 0⟩), (189, ⟨.fn, 8, 0⟩), (190, ⟨.ptr, 8, 0⟩), (195, ⟨.fn, 8, 0⟩)]
set_option maxRecDepth 100000 in
theorem tau_tys {E : List (Nat × Ctr)} {Z : List (Nat × List Frz)} : TysOK Try.prog ⟨tau, E, Z⟩ := tysOK_of (tysB_env (by kernel_rfl)) (by kernel_rfl)
theorem ent19 : Go.Abs.Enters Try.prog 19 := ⟨Try.f19, Try.func19, by kernel_rfl, by kernel_rfl⟩
theorem ent20 : Go.Abs.Enters Try.prog 20 := ⟨Try.f20, Try.func20, by kernel_rfl, by kernel_rfl⟩
theorem ent21 : Go.Abs.Enters Try.prog 21 := ⟨Try.f21, Try.func21, by kernel_rfl, by kernel_rfl⟩
theorem ent22 : Go.Abs.Enters Try.prog 22 := ⟨Try.f22, Try.func22, by kernel_rfl, by kernel_rfl⟩
theorem ent23 : Go.Abs.Enters Try.prog 23 := ⟨Try.f23, Try.func23, by kernel_rfl, by kernel_rfl⟩
theorem ent24 : Go.Abs.Enters Try.prog 24 := ⟨Try.f24, Try.func24, by kernel_rfl, by kernel_rfl⟩
theorem ent25 : Go.Abs.Enters Try.prog 25 := ⟨Try.f25, Try.func25, by kernel_rfl, by kernel_rfl⟩
theorem ent26 : Go.Abs.Enters Try.prog 26 := ⟨Try.f26, Try.func26, by kernel_rfl, by kernel_rfl⟩
theorem ent27 : Go.Abs.Enters Try.prog 27 := ⟨Try.f27, Try.func27, by kernel_rfl, by kernel_rfl⟩
theorem ent28 : Go.Abs.Enters Try.prog 28 := ⟨Try.f28, Try.func28, by kernel_rfl, by kernel_rfl⟩
theorem ent42 : Go.Abs.Enters Try.prog 42 := ⟨Try.f42, Try.func42, by kernel_rfl, by kernel_rfl⟩
theorem ent43 : Go.Abs.Enters Try.prog 43 := ⟨Try.f43, Try.func43, by kernel_rfl, by kernel_rfl⟩
theorem ent44 : Go.Abs.Enters Try.prog 44 := ⟨Try.f44, Try.func44, by kernel_rfl, by kernel_rfl⟩
theorem ent45 : Go.Abs.Enters Try.prog 45 := ⟨Try.f45, Try.func45, by kernel_rfl, by kernel_rfl⟩
theorem ent46 : Go.Abs.Enters Try.prog 46 := ⟨Try.f46, Try.func46, by kernel_rfl, by kernel_rfl⟩
theorem ent47 : Go.Abs.Enters Try.prog 47 := ⟨Try.f47, Try.func47, by kernel_rfl, by kernel_rfl⟩
theorem ent48 : Go.Abs.Enters Try.prog 48 := ⟨Try.f48, Try.func48, by kernel_rfl, by kernel_rfl⟩
theorem ent50 : Go.Abs.Enters Try.prog 50 := ⟨Try.f50, Try.func50, by kernel_rfl, by kernel_rfl⟩
theorem ent52 : Go.Abs.Enters Try.prog 52 := ⟨Try.f52, Try.func52, by kernel_rfl, by kernel_rfl⟩
theorem ent53 : Go.Abs.Enters Try.prog 53 := ⟨Try.f53, Try.func53, by kernel_rfl, by kernel_rfl⟩
theorem ent54 : Go.Abs.Enters Try.prog 54 := ⟨Try.f54, Try.func54, by kernel_rfl, by kernel_rfl⟩
theorem ent55 : Go.Abs.Enters Try.prog 55 := ⟨Try.f55, Try.func55, by kernel_rfl, by kernel_rfl⟩
theorem ent56 : Go.Abs.Enters Try.prog 56 := ⟨Try.f56, Try.func56, by kernel_rfl, by kernel_rfl⟩
theorem ent57 : Go.Abs.Enters Try.prog 57 := ⟨Try.f57, Try.func57, by kernel_rfl, by kernel_rfl⟩
theorem ent58 : Go.Abs.Enters Try.prog 58 := ⟨Try.f58, Try.func58, by kernel_rfl, by kernel_rfl⟩
theorem ent59 : Go.Abs.Enters Try.prog 59 := ⟨Try.f59, Try.func59, by kernel_rfl, by kernel_rfl⟩
theorem ent60 : Go.Abs.Enters Try.prog 60 := ⟨Try.f60, Try.func60, by kernel_rfl, by kernel_rfl⟩
theorem ent61 : Go.Abs.Enters Try.prog 61 := ⟨Try.f61, Try.func61, by kernel_rfl, by kernel_rfl⟩
theorem ent62 : Go.Abs.Enters Try.prog 62 := ⟨Try.f62, Try.func62, by kernel_rfl, by kernel_rfl⟩
theorem ent63 : Go.Abs.Enters Try.prog 63 := ⟨Try.f63, Try.func63, by kernel_rfl, by kernel_rfl⟩
theorem ent64 : Go.Abs.Enters Try.prog 64 := ⟨Try.f64, Try.func64, by kernel_rfl, by kernel_rfl⟩
theorem ent65 : Go.Abs.Enters Try.prog 65 := ⟨Try.f65, Try.func65, by kernel_rfl, by kernel_rfl⟩
theorem ent66 : Go.Abs.Enters Try.prog 66 := ⟨Try.f66, Try.func66, by kernel_rfl, by kernel_rfl⟩
theorem ent67 : Go.Abs.Enters Try.prog 67 := ⟨Try.f67, Try.func67, by kernel_rfl, by kernel_rfl⟩
theorem ent68 : Go.Abs.Enters Try.prog 68 := ⟨Try.f68, Try.func68, by kernel_rfl, by kernel_rfl⟩
theorem ent69 : Go.Abs.Enters Try.prog 69 := ⟨Try.f69, Try.func69, by kernel_rfl, by kernel_rfl⟩
theorem ent70 : Go.Abs.Enters Try.prog 70 := ⟨Try.f70, Try.func70, by kernel_rfl, by kernel_rfl⟩
theorem ent86 : Go.Abs.Enters Try.prog 86 := ⟨Try.f86, Try.func86, by kernel_rfl, by kernel_rfl⟩
theorem ent89 : Go.Abs.Enters Try.prog 89 := ⟨Try.f89, Try.func89, by kernel_rfl, by kernel_rfl⟩
theorem ent90 : Go.Abs.Enters Try.prog 90 := ⟨Try.f90, Try.func90, by kernel_rfl, by kernel_rfl⟩
theorem ent91 : Go.Abs.Enters Try.prog 91 := ⟨Try.f91, Try.func91, by kernel_rfl, by kernel_rfl⟩
theorem ent92 : Go.Abs.Enters Try.prog 92 := ⟨Try.f92, Try.func92, by kernel_rfl, by kernel_rfl⟩
theorem ent93 : Go.Abs.Enters Try.prog 93 := ⟨Try.f93, Try.func93, by kernel_rfl, by kernel_rfl⟩
theorem ent94 : Go.Abs.Enters Try.prog 94 := ⟨Try.f94, Try.func94, by kernel_rfl, by kernel_rfl⟩
theorem ent95 : Go.Abs.Enters Try.prog 95 := ⟨Try.f95, Try.func95, by kernel_rfl, by kernel_rfl⟩
theorem ent96 : Go.Abs.Enters Try.prog 96 := ⟨Try.f96, Try.func96, by kernel_rfl, by kernel_rfl⟩
theorem ent97 : Go.Abs.Enters Try.prog 97 := ⟨Try.f97, Try.func97, by kernel_rfl, by kernel_rfl⟩
theorem ent98 : Go.Abs.Enters Try.prog 98 := ⟨Try.f98, Try.func98, by kernel_rfl, by kernel_rfl⟩
theorem ent99 : Go.Abs.Enters Try.prog 99 := ⟨Try.f99, Try.func99, by kernel_rfl, by kernel_rfl⟩
theorem ent101 : Go.Abs.Enters Try.prog 101 := ⟨Try.f101, Try.func101, by kernel_rfl, by kernel_rfl⟩
theorem ent102 : Go.Abs.Enters Try.prog 102 := ⟨Try.f102, Try.func102, by kernel_rfl, by kernel_rfl⟩
theorem ent103 : Go.Abs.Enters Try.prog 103 := ⟨Try.f103, Try.func103, by kernel_rfl, by kernel_rfl⟩
theorem ent104 : Go.Abs.Enters Try.prog 104 := ⟨Try.f104, Try.func104, by kernel_rfl, by kernel_rfl⟩
theorem ent105 : Go.Abs.Enters Try.prog 105 := ⟨Try.f105, Try.func105, by kernel_rfl, by kernel_rfl⟩
theorem ent106 : Go.Abs.Enters Try.prog 106 := ⟨Try.f106, Try.func106, by kernel_rfl, by kernel_rfl⟩
theorem ent107 : Go.Abs.Enters Try.prog 107 := ⟨Try.f107, Try.func107, by kernel_rfl, by kernel_rfl⟩
theorem ent108 : Go.Abs.Enters Try.prog 108 := ⟨Try.f108, Try.func108, by kernel_rfl, by kernel_rfl⟩
theorem ent109 : Go.Abs.Enters Try.prog 109 := ⟨Try.f109, Try.func109, by kernel_rfl, by kernel_rfl⟩
theorem ent110 : Go.Abs.Enters Try.prog 110 := ⟨Try.f110, Try.func110, by kernel_rfl, by kernel_rfl⟩
theorem ent111 : Go.Abs.Enters Try.prog 111 := ⟨Try.f111, Try.func111, by kernel_rfl, by kernel_rfl⟩
theorem ent112 : Go.Abs.Enters Try.prog 112 := ⟨Try.f112, Try.func112, by kernel_rfl, by kernel_rfl⟩
theorem ent113 : Go.Abs.Enters Try.prog 113 := ⟨Try.f113, Try.func113, by kernel_rfl, by kernel_rfl⟩
theorem ent134 : Go.Abs.Enters Try.prog 134 := ⟨Try.f134, Try.func134, by kernel_rfl, by kernel_rfl⟩
theorem ent135 : Go.Abs.Enters Try.prog 135 := ⟨Try.f135, Try.func135, by kernel_rfl, by kernel_rfl⟩
theorem ent136 : Go.Abs.Enters Try.prog 136 := ⟨Try.f136, Try.func136, by kernel_rfl, by kernel_rfl⟩
theorem ent137 : Go.Abs.Enters Try.prog 137 := ⟨Try.f137, Try.func137, by kernel_rfl, by kernel_rfl⟩
theorem ent138 : Go.Abs.Enters Try.prog 138 := ⟨Try.f138, Try.func138, by kernel_rfl, by kernel_rfl⟩
theorem ent139 : Go.Abs.Enters Try.prog 139 := ⟨Try.f139, Try.func139, by kernel_rfl, by kernel_rfl⟩
theorem ent140 : Go.Abs.Enters Try.prog 140 := ⟨Try.f140, Try.func140, by kernel_rfl, by kernel_rfl⟩
theorem ent141 : Go.Abs.Enters Try.prog 141 := ⟨Try.f141, Try.func141, by kernel_rfl, by kernel_rfl⟩
theorem ent142 : Go.Abs.Enters Try.prog 142 := ⟨Try.f142, Try.func142, by kernel_rfl, by kernel_rfl⟩
theorem ent143 : Go.Abs.Enters Try.prog 143 := ⟨Try.f143, Try.func143, by kernel_rfl, by kernel_rfl⟩
theorem ent144 : Go.Abs.Enters Try.prog 144 := ⟨Try.f144, Try.func144, by kernel_rfl, by kernel_rfl⟩
theorem ent160 : Go.Abs.Enters Try.prog 160 := ⟨Try.f160, Try.func160, by kernel_rfl, by kernel_rfl⟩
abbrev TNet := ((Int × (Int × Unit)) × (Int × (Int × ((List (List Int)) × ((List (List Int)) × Unit)))))
end Go.Proofs.Ytkgekgfmnhccmaa

namespace Go.Proofs.Ytkgekgfmnhccmaa
open Go Go.Abs Go.Proofs
noncomputable def l_szInt64S (p0 : (List Int)) (p1 : Int) : Tre Int :=
 let v1 := iwrap .i64 (p1 - (p0.length : Int))
 .cond (decide (v1 < 0))
  (.ret (-1))
  (.ret v1)
noncomputable def l_szInt64S_F (p0 : (List Int)) (p1 : Int) : Option Int := (l_szInt64S p0 p1).run some
def l_szInt64S_S (p0 : (List Int)) (p1 : Int) : Int :=
 let v1 := iwrap .i64 (p1 - (p0.length : Int))
 cond (decide (v1 < 0))
  (-1)
  (v1)
theorem l_szInt64S_spec (p0 : (List Int)) (p1 : Int) : l_szInt64S_F p0 p1 = some (l_szInt64S_S p0 p1) := (run_cond_some rfl rfl)
-- more
noncomputable def l_szInt64S_V : Env := ⟨tau, [], []⟩
noncomputable def l_szInt64S_b : Code := (Try.f110.body).getD .skip
noncomputable def l_szInt64S_I : FnI := ⟨l_szInt64S_b, Try.f110.results.toList, Try.f110.resultTypes.toList, []⟩
noncomputable def l_szInt64S_out (_zp0 : Bool) (_p0 : (List Int)) (_p1 : Int) : Int → CallOut := fun r => ⟨(.imm true (.int .i64) r), [], []⟩
set_option maxRecDepth 100000 in
theorem l_szInt64S_eq : ∀ (zp0 : Bool) (p0 : (List Int)) (p1 : Int), denFn l_szInt64S_V l_szInt64S_I ⟨[(.imm zp0 (.sl (.int .i64)) p0), (.imm true (.int .i64) p1)], []⟩ = (l_szInt64S p0 p1).run fun r => some (l_szInt64S_out zp0 p0 p1 r) := fun _ _ _ => by kernel_rfl
noncomputable def l_szInt64S_G (av : List AV) (rs : List Root) : Tre CallOut :=
 asCons av fun a0_ av0 =>
 asCons av0 fun a1_ av1 =>
 asEnd av1 <|
 asEnd rs <|
 asImm (.sl (.int .i64)) a0_ fun z2 d1 =>
 asImmZ true (.int .i64) a1_ fun d3 =>
 .ret (l_szInt64S_out z2 d1 d3 (l_szInt64S_S d1 d3))
noncomputable def l_szInt64S_c : Ctr := ⟨[], fun ci => l_szInt64S_G ci.args ci.roots, false⟩
theorem l_szInt64S_env : EnvOK Try.prog .none l_szInt64S_V := envOK_nil
set_option maxRecDepth 100000 in
theorem l_szInt64S_ok : Contract Try.prog .none 110 l_szInt64S_c := by
 have hl : LoopsOK l_szInt64S_V [] l_szInt64S_b := loopsOK_nil (by kernel_rfl)
 refine (contract_of (F := l_szInt64S_I) tau_tys l_szInt64S_env Try.func110 (by kernel_rfl) (by kernel_rfl) (by kernel_rfl) hl []).weaken ?_
 rintro ⟨av, rs⟩ co h
 have h : (l_szInt64S_G av rs).run some = some co := h
 obtain ⟨a0_, av0, rfl, h_0⟩ := asCons_spec h
 obtain ⟨a1_, av1, rfl, h_1⟩ := asCons_spec h_0
 obtain ⟨rfl, h_2⟩ := asEnd_spec h_1
 obtain ⟨rfl, h_3⟩ := asEnd_spec h_2
 obtain ⟨z2, d1, rfl, h_4⟩ := asImm_spec h_3
 obtain ⟨d3, rfl, h_5⟩ := asImmZ_spec h_4
 exact fin_ret (l_szInt64S_eq z2 d1 d3) (l_szInt64S_spec d1 d3) h_5
end Go.Proofs.Ytkgekgfmnhccmaa

namespace Go.Proofs.Ytkgekgfmnhccmaa
open Go Go.Abs Go.Proofs
-- shared
def allI {α : Type} (p : Nat → α → Bool) : Nat → List α → Bool
 | _, [] => true
 | i, x :: l => p i x && allI p (i + 1) l
theorem allI_iff {α : Type} {p : Nat → α → Bool} : ∀ (l : List α) (i : Nat), allI p i l = true ↔ ∀ j x, l[j]? = some x → p (i + j) x = true := by
 intro l
 induction l with
 | nil => intro i; simp [allI]
 | cons x l ih =>
  intro i
  simp only [allI, Bool.and_eq_true, ih (i + 1)]
  constructor
  ·rintro ⟨h1, h2⟩ j y hj
   cases j with
   | zero => simp only [List.getElem?_cons_zero, Option.some.injEq] at hj; subst hj; exact h1
   | succ j => simp only [List.getElem?_cons_succ] at hj; have := h2 j y hj; rw [show i + 1 + j = i + (j + 1) by omega] at this; exact this
  ·intro h
   refine ⟨h 0 x rfl, fun j y hj => ?_⟩
   have := h (j + 1) y (by simpa using hj)
   rw [show i + 1 + j = i + (j + 1) by omega]; exact this
theorem allI_const {α : Type} {p : α → Bool} : ∀ (l : List α) (i : Nat), allI (fun _ x => p x) i l = l.all p := by
 intro l
 induction l with
 | nil => intro i; rfl
 | cons x l ih => intro i; simp only [allI, List.all_cons, ih]
theorem foldE_allI {α β : Type} {p : Nat → α → Bool} {b0 b1 : β} : ∀ (l : List α) (i : Nat), foldE (γ := Unit) (fun i _ x => cond (p i x) (.inl ()) (.inr b0)) (fun _ => b1) i () l = cond (allI p i l) b1 b0 := by
 intro l
 induction l with
 | nil => intro i; rfl
 | cons x l ih =>
  intro i
  simp only [foldE, allI]
  cases p i x with
  | true => simp only [cond_true, Bool.true_and]; exact ih _
  | false => rfl
theorem all_loop {α β : Type} {step : Int → Tre (Int ⊕ β)} {xs : List α} (p : Nat → α → Bool) (b0 b1 : β)
  (hs : ∀ i x, xs[i]? = some x → (∀ j y, j < i → xs[j]? = some y → p j y = true) → (step (i : Int)).run some = some (cond (p i x) (.inl ((i + 1 : Nat) : Int)) (.inr b0)))
  (he : (step (xs.length : Int)).run some = some (.inr b1)) : loopF step 0 = some (cond (allI p 0 xs) b1 b0) := by
 have := fold_loop (xs := xs) (step := step) (γ := Unit) (fun i _ => (i : Int)) (fun i _ x => cond (p i x) (.inl ()) (.inr b0)) (fun _ => b1) (fun i _ => ∀ j y, j < i → xs[j]? = some y → p j y = true)
  (by
   intro i acc x hx hI
   refine ⟨?_, ?_⟩
   ·rw [hs i x hx hI]
    cases p i x <;> rfl
   ·intro a ha j y hj hy
    cases hp : p i x with
    | false => rw [hp] at ha; cases ha
    | true =>
     by_cases hji : j = i
     ·subst hji; rw [hx] at hy; cases hy; exact hp
     ·exact hI j y (by omega) hy)
  (fun _ _ => he) xs 0 () rfl (Nat.zero_le _) (by intro j y h; omega)
 rw [← foldE_allI xs 0]
 exact this
theorem all_loop' {α β : Type} {step : Int → Tre (Int ⊕ β)} {xs : List α} (p : α → Bool) (b0 b1 : β)
  (hs : ∀ (i : Nat) x, xs[i]? = some x → (step (i : Int)).run some = some (cond (p x) (.inl ((i + 1 : Nat) : Int)) (.inr b0)))
  (he : (step (xs.length : Int)).run some = some (.inr b1)) : loopF step 0 = some (cond (xs.all p) b1 b0) := by
 rw [← allI_const xs 0]
 exact all_loop (fun _ x => p x) b0 b1 (fun i x hx _ => hs i x hx) he
theorem idxI_all {α : Type} {p : α → Bool} (l : List α) : (!decide (idxI (fun x => !p x) 0 l ≥ 0)) = l.all p := by
 rw [idxI_any]
 induction l with
 | nil => rfl
 | cons x l ih => simp only [List.any_cons, List.all_cons, ← ih, Bool.not_or, Bool.not_not]
def pickI {α β : Type} (f : Nat → α → Option β) : Nat → List α → List β
 | _, [] => []
 | i, x :: l => match f i x with
  | some y => y :: pickI f (i + 1) l
  | none => pickI f (i + 1) l
theorem pickI_len {α β : Type} {f : Nat → α → Option β} : ∀ (l : List α) (i : Nat), (pickI f i l).length ≤ l.length := by
 intro l
 induction l with
 | nil => intro i; exact Nat.le_refl _
 | cons x l ih =>
  intro i
  simp only [pickI]
  cases f i x with
  | none => exact Nat.le_succ_of_le (ih _)
  | some y => exact Nat.succ_le_succ (ih _)
theorem mem_pickI {α β : Type} {f : Nat → α → Option β} {y : β} : ∀ (l : List α) (i : Nat), y ∈ pickI f i l ↔ ∃ j x, l[j]? = some x ∧ f (i + j) x = some y := by
 intro l
 induction l with
 | nil => intro i; simp [pickI]
 | cons x l ih =>
  intro i
  have key : (∃ j z, (x :: l)[j]? = some z ∧ f (i + j) z = some y) ↔ f i x = some y ∨ ∃ j z, l[j]? = some z ∧ f (i + 1 + j) z = some y := by
   constructor
   ·rintro ⟨j, z, h1, h2⟩
    cases j with
    | zero => simp only [List.getElem?_cons_zero, Option.some.injEq] at h1; subst h1; exact .inl h2
    | succ j => exact .inr ⟨j, z, by simpa using h1, by rw [show i + 1 + j = i + (j + 1) by omega]; exact h2⟩
   ·rintro (h | ⟨j, z, h1, h2⟩)
    ·exact ⟨0, x, rfl, h⟩
    ·exact ⟨j + 1, z, by simpa using h1, by rw [show i + (j + 1) = i + 1 + j by omega]; exact h2⟩
  rw [key, ← ih]
  simp only [pickI]
  cases hf : f i x with
  | none => simp
  | some z => simp only [List.mem_cons, Option.some.injEq]; constructor <;> (rintro (h | h) <;> first | exact .inl h.symm | exact .inr h)
theorem pick_loop {α β : Type} {step : Int × List β → Tre ((Int × List β) ⊕ List β)} {xs : List α} (f : Nat → α → Option β)
  (hs : ∀ (i : Nat) acc x, xs[i]? = some x → acc.length ≤ i → (step ((i : Int), acc)).run some = some (.inl (((i + 1 : Nat) : Int), acc ++ (f i x).toList)))
  (he : ∀ acc, (step ((xs.length : Int), acc)).run some = some (.inr acc)) : loopF step (0, []) = some (pickI f 0 xs) := by
 have h := fold_loop (xs := xs) (step := step) (γ := List β) (fun i acc => ((i : Int), acc)) (fun i acc x => .inl (acc ++ (f i x).toList)) id (fun i acc => acc.length ≤ i)
  (by
   intro i acc x hx hI
   refine ⟨hs i acc x hx hI, ?_⟩
   intro a ha
   cases ha
   rw [List.length_append]
   cases f i x <;> simp <;> omega)
  (fun acc _ => he acc) xs 0 [] rfl (Nat.zero_le _) (Nat.le_refl _)
 have key : ∀ (l : List α) (i : Nat) (acc : List β), foldE (β := List β) (fun i acc x => .inl (acc ++ (f i x).toList)) id i acc l = acc ++ pickI f i l := by
  intro l
  induction l with
  | nil => intro i acc; simp [foldE, pickI]
  | cons x l ih =>
   intro i acc
   simp only [foldE, pickI]
   rw [ih]
   cases f i x <;> simp
 rw [key] at h
 exact h
def sizeSS (l : List (List Int)) : Nat := l.length + (l.map List.length).sum
theorem sizeSS_mem {l : List (List Int)} {x : List Int} (h : x ∈ l) : x.length + 1 ≤ sizeSS l := by
 unfold sizeSS
 induction l with
 | nil => cases h
 | cons y l ih =>
  simp only [List.length_cons, List.map_cons, List.sum_cons]
  rcases List.mem_cons.1 h with rfl | h
  ·omega
  ·have := ih h; omega
theorem iwrap_pred {i : Nat} (h0 : 0 < i) (h : i < 4611686018427387904) : iwrap .i64 ((i : Int) - 1) = ((i - 1 : Nat) : Int) := by
 rw [iwrap_i64 (by omega) (by omega)]; omega
theorem len2 {e : List Int} (h : e.length = 2) : ∃ a b, e = [a, b] := by
 match e, h with
 | [a, b], _ => exact ⟨a, b, rfl⟩
end Go.Proofs.Ytkgekgfmnhccmaa

namespace Go.Proofs.Ytkgekgfmnhccmaa
open Go Go.Abs Go.Proofs
noncomputable def l_szInt64SS_l5 (h5_0_0 : (List (List Int))) : (Int × Int) → Tre ((Int × Int) ⊕ ((Int × Int) ⊕ Int)) := fun s5 =>
 .cond (decide (s5.2 < (h5_0_0.length : Int)))
  (.ite (0 ≤ s5.2 ∧ s5.2 < (h5_0_0.length : Int)) <|
  .mat (h5_0_0[s5.2.toNat]?) fun x2 =>
  .cond (decide ((l_szInt64S_S x2 s5.1) < 0))
   (.ret (.inr (.inl ((l_szInt64S_S x2 s5.1), -1))))
   (.ret (.inl ((l_szInt64S_S x2 s5.1), iwrap .i64 (s5.2 + 1)))))
  (.ret (.inr (.inr s5.1)))
noncomputable def l_szInt64SS (p0 : (List (List Int))) (p1 : Int) : Tre Int :=
 let v1 := iwrap .i64 (p1 - (p0.length : Int))
 .cond (decide (v1 < 0))
  (.ret (-1))
  (.mat (loopF (l_szInt64SS_l5 p0) (v1, 0)) fun l3 =>
  .alt l3
   (fun a4 =>
    .ret a4.2)
   (fun b5 =>
    .ret b5))
noncomputable def l_szInt64SS_F (p0 : (List (List Int))) (p1 : Int) : Option Int := (l_szInt64SS p0 p1).run some
-- more
theorem szS_is (x : List Int) (n : Int) (h0 : 0 ≤ n) (h1 : n ≤ 1048576) (hl : x.length ≤ maxLen) : l_szInt64S_S x n = if n - (x.length : Int) < 0 then -1 else n - (x.length : Int) := by
 unfold maxLen at hl
 unfold l_szInt64S_S
 dsimp only
 rw [iwrap_i64 (by omega) (by omega)]
 by_cases h2 : n - (x.length : Int) < 0
 ·rw [decide_eq_true h2, if_pos h2]; rfl
 ·rw [decide_eq_false h2, if_neg h2]; rfl
theorem szSS_fold : ∀ (l : List (List Int)) (i : Nat) (acc : Int), 0 ≤ acc → acc ≤ 1048576 → (∀ x ∈ l, x.length ≤ maxLen) →
  (∃ a : Int, foldE (β := (Int × Int) ⊕ Int) (fun _ acc x => cond (decide (l_szInt64S_S x acc < 0)) (.inr (.inl (l_szInt64S_S x acc, -1))) (.inl (l_szInt64S_S x acc))) (.inr) i acc l = .inl (a, -1)) ∨
  (foldE (β := (Int × Int) ⊕ Int) (fun _ acc x => cond (decide (l_szInt64S_S x acc < 0)) (.inr (.inl (l_szInt64S_S x acc, -1))) (.inl (l_szInt64S_S x acc))) (.inr) i acc l = .inr (acc - ((l.map List.length).sum : Int)) ∧ 0 ≤ acc - ((l.map List.length).sum : Int)) := by
 intro l
 induction l with
 | nil => intro i acc h0 _ _; exact .inr ⟨by simp [foldE], by simpa using h0⟩
 | cons x l ih =>
  intro i acc h0 h1 hl
  simp only [foldE]
  rw [szS_is x acc h0 h1 (hl x (.head _))]
  by_cases h : acc - (x.length : Int) < 0
  ·rw [if_pos h]; exact .inl ⟨_, rfl⟩
  ·rw [if_neg h, decide_eq_false h, cond_false]
   rcases ih (i + 1) (acc - (x.length : Int)) (by omega) (by omega) fun y hy => hl y (.tail _ hy) with ⟨a, ha⟩ | ⟨ha, hb⟩
   ·exact .inl ⟨a, ha⟩
   ·refine .inr ⟨?_, ?_⟩
    ·dsimp only at ha ⊢
     rw [ha]; congr 1; simp only [List.map_cons, List.sum_cons]; push_cast; omega
    ·simp only [List.map_cons, List.sum_cons]; push_cast; omega
theorem l_szInt64SS_is (ss : List (List Int)) (hl : ss.length ≤ maxLen) (hm : ∀ x ∈ ss, x.length ≤ maxLen) (n : Int) (h0 : 0 ≤ n) (h1 : n ≤ 1048576) : ∃ r, l_szInt64SS_F ss n = some r ∧ (¬ r < 0 → r = n - (sizeSS ss : Int)) := by
 unfold l_szInt64SS_F l_szInt64SS
 unfold maxLen at hl
 dsimp only
 rw [iwrap_i64 (by omega) (by omega), Tre.run_cond]
 by_cases h : n - (ss.length : Int) < 0
 ·rw [decide_eq_true h]; exact ⟨-1, rfl, fun h => absurd (by decide) h⟩
 rw [decide_eq_false h, cond_false, Tre.run_mat]
 have := fold_loop' (xs := ss) (step := l_szInt64SS_l5 ss) (fun i acc => (acc, (i : Int))) (fun _ acc x => cond (decide (l_szInt64S_S x acc < 0)) (.inr (.inl (l_szInt64S_S x acc, -1))) (.inl (l_szInt64S_S x acc))) (.inr) (by
  intro i acc x hx
  have hi : i < ss.length := (List.getElem?_eq_some_iff.1 hx).1
  unfold l_szInt64SS_l5
  rw [run_inb hx, Tre.run_cond]
  dsimp only
  cases decide (l_szInt64S_S x acc < 0)
  ·rw [cond_false, cond_false, Tre.run_ret, iwrap_succ (by omega)]
  ·rfl)
  (by
  intro acc
  unfold l_szInt64SS_l5
  exact run_out) (n - (ss.length : Int))
 rw [show ((n - (ss.length : Int)), (0 : Int)) = ((n - (ss.length : Int)), ((0 : Nat) : Int)) from rfl, this]
 rcases szSS_fold ss 0 (n - (ss.length : Int)) (by omega) (by omega) hm with ⟨a, ha⟩ | ⟨ha, hb⟩
 ·rw [ha]; exact ⟨-1, rfl, fun h => absurd (by decide) h⟩
 ·rw [ha]; exact ⟨_, rfl, fun _ => by unfold sizeSS; push_cast; omega⟩
noncomputable def l_szInt64SS_V : Env := ⟨tau, [(110, l_szInt64S_c)], []⟩
noncomputable def l_szInt64SS_b : Code := (Try.f59.body).getD .skip
noncomputable def l_szInt64SS_l5_mk (z5_0 : Bool) (h5_0_0 : (List (List Int))) : (Int × Int) → St := fun x => stOf [(0, (.imm z5_0 (.sl (.sl (.int .i64))) h5_0_0)), (1, (.imm true (.int .i64) x.1)), (5, (.imm true (.int .i64) x.2))] []
noncomputable def l_szInt64SS_l5_out (_z5_0 : Bool) (_h5_0_0 : (List (List Int))) : ((Int × Int) ⊕ Int) → Ex × St
 | .inl x => (.ret, stOf [(1, (.imm true (.int .i64) x.1)), (4, (.imm true (.int .i64) x.2))] [])
 | .inr x => (.exit 0, stOf [(1, (.imm true (.int .i64) x)), (4, .dead)] [])
noncomputable def l_szInt64SS_l5_D (s : St) : Tre (Ex × St) :=
 asImm (.sl (.sl (.int .i64))) (s.tmps 0) fun z3 d2 =>
 asImmZ true (.int .i64) (s.tmps 1) fun d5 =>
 asImmZ true (.int .i64) (s.tmps 5) fun d7 =>
 .mat (loopF (l_szInt64SS_l5 d2) (d5, d7)) fun x => .alt x (fun a0 => .ret (l_szInt64SS_l5_out z3 d2 (.inl a0))) (fun b0 => .ret (l_szInt64SS_l5_out z3 d2 (.inr b0)))
noncomputable def l_szInt64SS_l5_L : LoopI := ⟨([0, 1, 5], []), ([1, 4], []), l_szInt64SS_l5_D⟩
noncomputable def l_szInt64SS_A : List (Nat × LoopI) := [(5, l_szInt64SS_l5_L)]
set_option maxRecDepth 100000 in
theorem l_szInt64SS_l5_step : ∀ (z5_0 : Bool) (h5_0_0 : (List (List Int))) (x : (Int × Int)) (c : St → Option (Ex × St)), den l_szInt64SS_V l_szInt64SS_A (loopAt l_szInt64SS_b 0) (l_szInt64SS_l5_mk z5_0 h5_0_0 x) (roundK l_szInt64SS_l5_L.kp l_szInt64SS_l5_L.kx c) = (l_szInt64SS_l5 h5_0_0 x).run (roundR (l_szInt64SS_l5_mk z5_0 h5_0_0) (l_szInt64SS_l5_out z5_0 h5_0_0) c) := fun _ _ _ _ => by
 kernel_rfl
theorem l_szInt64SS_l5_ok : LoopOK l_szInt64SS_V l_szInt64SS_A (loopAt l_szInt64SS_b 0) l_szInt64SS_l5_L := loopOK_of fun s e s' h => by
 generalize hs : restrict l_szInt64SS_l5_L.kp s = s1 at h
 have h : (l_szInt64SS_l5_D s1).run some = some (e, s') := h
 obtain ⟨z3, d2, e1, h_0⟩ := asImm_spec h
 obtain ⟨d5, e4, h_1⟩ := asImmZ_spec h_0
 obtain ⟨d7, e6, h_2⟩ := asImmZ_spec h_1
 obtain ⟨y, hy, hz⟩ := mat_some h_2
 refine ⟨_, _, l_szInt64SS_l5_mk z3 d2, l_szInt64SS_l5_out z3 d2, l_szInt64SS_l5 d2, (d5, d7), y, ?_, hy, ?_, l_szInt64SS_l5_step z3 d2⟩
 ·subst hs; exact restrict_eq (T := [(0, (.imm z3 (.sl (.sl (.int .i64))) d2)), (1, (.imm true (.int .i64) d5)), (5, (.imm true (.int .i64) d7))]) (U := []) rfl rfl ⟨e1, e4, e6, trivial⟩ trivial
 ·rcases y with x | x <;> exact Option.some.inj hz
noncomputable def l_szInt64SS_I : FnI := ⟨l_szInt64SS_b, Try.f59.results.toList, Try.f59.resultTypes.toList, l_szInt64SS_A⟩
noncomputable def l_szInt64SS_out (_zp0 : Bool) (_p0 : (List (List Int))) (_p1 : Int) : Int → CallOut := fun r => ⟨(.imm true (.int .i64) r), [], []⟩
set_option maxRecDepth 100000 in
theorem l_szInt64SS_eq : ∀ (zp0 : Bool) (p0 : (List (List Int))) (p1 : Int), denFn l_szInt64SS_V l_szInt64SS_I ⟨[(.imm zp0 (.sl (.sl (.int .i64))) p0), (.imm true (.int .i64) p1)], []⟩ = (l_szInt64SS p0 p1).run fun r => some (l_szInt64SS_out zp0 p0 p1 r) := fun _ _ _ => by kernel_rfl
noncomputable def l_szInt64SS_G (av : List AV) (rs : List Root) : Tre CallOut :=
 asCons av fun a0_ av0 =>
 asCons av0 fun a1_ av1 =>
 asEnd av1 <|
 asEnd rs <|
 asImm (.sl (.sl (.int .i64))) a0_ fun z2 d1 =>
 asImmZ true (.int .i64) a1_ fun d3 =>
 .mat (l_szInt64SS_F d1 d3) fun r => .ret (l_szInt64SS_out z2 d1 d3 r)
noncomputable def l_szInt64SS_c : Ctr := ⟨[], fun ci => l_szInt64SS_G ci.args ci.roots, false⟩
theorem l_szInt64SS_env : EnvOK Try.prog .none l_szInt64SS_V := (envOK_cons l_szInt64S_ok ent110 envOK_nil)
set_option maxRecDepth 100000 in
theorem l_szInt64SS_ok : Contract Try.prog .none 59 l_szInt64SS_c := by
 have hl : LoopsOK l_szInt64SS_V l_szInt64SS_A l_szInt64SS_b := (loopsOK_all (n := 1) (by kernel_rfl) fun k hk => by
   match k, hk with
   | 0, _ => exact loopOK_at (id := 5) (L := l_szInt64SS_l5_L) (by kernel_rfl) (by kernel_rfl) l_szInt64SS_l5_ok)
 refine (contract_of (F := l_szInt64SS_I) tau_tys l_szInt64SS_env Try.func59 (by kernel_rfl) (by kernel_rfl) (by kernel_rfl) hl []).weaken ?_
 rintro ⟨av, rs⟩ co h
 have h : (l_szInt64SS_G av rs).run some = some co := h
 obtain ⟨a0_, av0, rfl, h_0⟩ := asCons_spec h
 obtain ⟨a1_, av1, rfl, h_1⟩ := asCons_spec h_0
 obtain ⟨rfl, h_2⟩ := asEnd_spec h_1
 obtain ⟨rfl, h_3⟩ := asEnd_spec h_2
 obtain ⟨z2, d1, rfl, h_4⟩ := asImm_spec h_3
 obtain ⟨d3, rfl, h_5⟩ := asImmZ_spec h_4
 exact fin_mat (l_szInt64SS_eq z2 d1 d3) h_5
end Go.Proofs.Ytkgekgfmnhccmaa

namespace Go.Proofs.Ytkgekgfmnhccmaa
open Go Go.Abs Go.Proofs
-- shared
abbrev TF3 := Int × Int × Unit
def fieldT : List (Int × Int) := [(1, 2), (1, 3), (2, 7), (3, 11), (3, 13), (4, 19), (4, 25), (4, 31), (5, 37), (5, 41), (5, 47), (5, 55), (5, 59), (5, 61)]
def fieldOk (f : TF3) : Bool := fieldT.contains (f.1, f.2.1)
theorem fieldOk_mem {f : TF3} (h : fieldOk f = true) : (f.1, f.2.1) ∈ fieldT := by simpa [fieldOk] using h
theorem fieldOk_deg {f : TF3} (h : fieldOk f = true) : 1 ≤ f.1 ∧ f.1 ≤ 5 := by
 have h := fieldOk_mem h
 have : ∀ x ∈ fieldT, 1 ≤ x.1 ∧ x.1 ≤ 5 := by decide
 exact this _ h
theorem fieldOk_poly {f : TF3} (h : fieldOk f = true) : 2 ≤ f.2.1 ∧ f.2.1 ≤ 61 := by
 have h := fieldOk_mem h
 have : ∀ x ∈ fieldT, 2 ≤ x.2 ∧ x.2 ≤ 61 := by decide
 exact this _ h
theorem field_of {F : TF3 → Option Bool} {I D : Int → Option Bool} (hd : ∀ f : TF3, inR f.1 1 5 = false → F f = some false)
  (hb : ∀ f : TF3, (f.2.1 < 0 ∨ 64 ≤ f.2.1) → F f = some false)
  (hk : ((List.range' 1 5).all fun d => (List.range 64).all fun p => F ((d : Int), (p : Int), ()) == some (fieldOk ((d : Int), (p : Int), ()))) = true) (f : TF3) : F f = some (fieldOk f) := by
 have hno : ∀ g : TF3, (¬ (1 ≤ g.1 ∧ g.1 ≤ 5) ∨ ¬ (0 ≤ g.2.1 ∧ g.2.1 < 64)) → fieldOk g = false := by
  intro g hg
  cases h : fieldOk g with
  | false => rfl
  | true =>
   have h1 := fieldOk_deg h
   have h2 := fieldOk_poly h
   omega
 obtain ⟨d, p, ⟨⟩⟩ := f
 by_cases h1 : 1 ≤ d ∧ d ≤ 5
 ·by_cases h2 : 0 ≤ p ∧ p < 64
  ·obtain ⟨n, rfl⟩ := Int.eq_ofNat_of_zero_le (show 0 ≤ d by omega)
   obtain ⟨m, rfl⟩ := Int.eq_ofNat_of_zero_le h2.1
   have h3 := List.all_eq_true.1 (List.all_eq_true.1 hk n (List.mem_range'_1.2 (by omega))) m (List.mem_range.2 (by omega))
   exact eq_of_beq h3
  ·rw [hb _ (by show p < 0 ∨ 64 ≤ p; omega), hno _ (.inr h2)]
 ·rw [hd _ (inR_false.2 (by show d < 1 ∨ 5 < d; omega)), hno _ (.inl h1)]
end Go.Proofs.Ytkgekgfmnhccmaa

namespace Go.Proofs.Ytkgekgfmnhccmaa
open Go Go.Abs Go.Proofs
-- shared
abbrev TN6 := TF3 × Int × Int × List (List Int) × List (List Int) × Unit
def e0 (e : List Int) : Int := e.getD 0 0
def e1 (e : List Int) : Int := e.getD 1 0
def edgeOk (N : Int) (es : List (List Int)) (i : Nat) (e : List Int) : Bool :=
 decide (e.length = 2) && ((inR (e0 e) 0 (N - 1) && (inR (e1 e) 0 (N - 1) && decide (e0 e < e1 e))) && (decide (i = 0) || decide (e0 (es.getD (i - 1) []) ≤ e0 e)))
theorem edgeOk_len {N : Int} {es : List (List Int)} {i : Nat} {e : List Int} (h : edgeOk N es i e = true) : e.length = 2 := by
 unfold edgeOk at h
 rw [Bool.and_eq_true] at h
 exact of_decide_eq_true h.1
def intoV (es : List (List Int)) (node : Int) : List Int := pickI (fun i e => if e1 e = node then some (i : Int) else none) 0 es
def hasV (n : TN6) (node : Int) : Int := if node = 0 then n.2.2.1 else ((intoV n.2.2.2.1 node).length : Int)
def topF (f : TF3) : Int := 2 ^ f.1.toNat - 1
theorem topF_is {f : TF3} (h : fieldOk f = true) : iwrap .i64 (ishl .i64 1 (iwrap .u64 f.1) - 1) = topF f := by
 obtain ⟨h1, h2⟩ := fieldOk_deg h
 obtain ⟨n, hn⟩ := Int.eq_ofNat_of_zero_le (show 0 ≤ f.1 by omega)
 unfold topF
 rw [hn]
 have : ∀ n : Nat, n < 6 → iwrap .i64 (ishl .i64 1 (iwrap .u64 (n : Int)) - 1) = 2 ^ (n : Int).toNat - 1 := by decide
 exact this n (by omega)
theorem topF_is' {f : TF3} (h : fieldOk f = true) : iwrap .i64 (ishl .i64 1 f.1 - 1) = topF f := by
 obtain ⟨h1, h2⟩ := fieldOk_deg h
 have := topF_is h
 rw [iwrap_u64 (by omega) (by omega)] at this
 exact this
def elsOk (f : TF3) (c : List Int) : Bool := c.all fun x => inR x 0 (topF f)
def coefOk (n : TN6) (i : Nat) (c : List Int) : Bool := decide ((c.length : Int) = hasV n (e0 (n.2.2.2.1.getD i []))) && elsOk n.1 c
def netOk (n : TN6) : Bool := fieldOk n.1 && (inR n.2.1 2 8 && (inR n.2.2.1 1 3 && (decide (n.2.2.2.1.length ≤ 14) && (decide (n.2.2.2.2.1.length = n.2.2.2.1.length) && (allI (edgeOk n.2.1 n.2.2.2.1) 0 n.2.2.2.1 && allI (coefOk n) 0 n.2.2.2.2.1)))))
structure NetP (n : TN6) : Prop where
 field : fieldOk n.1 = true
 nodes : 2 ≤ n.2.1 ∧ n.2.1 ≤ 8
 mess : 1 ≤ n.2.2.1 ∧ n.2.2.1 ≤ 3
 len : n.2.2.2.1.length ≤ 14
 clen : n.2.2.2.2.1.length = n.2.2.2.1.length
 edges : ∀ i e, n.2.2.2.1[i]? = some e → edgeOk n.2.1 n.2.2.2.1 i e = true
 coefs : ∀ i c, n.2.2.2.2.1[i]? = some c → coefOk n i c = true
theorem netOk_iff {n : TN6} : netOk n = true ↔ NetP n := by
 simp only [netOk, Bool.and_eq_true, inR_iff, allI_iff, decide_eq_true_eq, Nat.zero_add]
 constructor
 ·rintro ⟨a, b, c, d, e, f, g⟩; exact ⟨a, b, c, d, e, f, g⟩
 ·rintro ⟨a, b, c, d, e, f, g⟩; exact ⟨a, b, c, d, e, f, g⟩
theorem NetP.two {n : TN6} (h : NetP n) {i : Nat} {e : List Int} (he : n.2.2.2.1[i]? = some e) : ∃ a b, e = [a, b] ∧ 0 ≤ a ∧ a < b ∧ b ≤ n.2.1 - 1 := by
 have := h.edges i e he
 obtain ⟨a, b, rfl⟩ := len2 (edgeOk_len this)
 simp only [edgeOk, Bool.and_eq_true, inR_iff, decide_eq_true_eq, e0, e1, List.getD_cons_zero, List.getD_cons_succ] at this
 exact ⟨a, b, rfl, by omega, by omega, by omega⟩
theorem getD_of {α : Type} {l : List α} {i : Nat} {x d : α} (h : l[i]? = some x) : l.getD i d = x := by
 rw [List.getD_eq_getElem?_getD, h]; rfl
theorem hasV_le (n : TN6) (hM : n.2.2.1 ≤ 3) (hl : n.2.2.2.1.length ≤ 14) (a : Int) : hasV n a ≤ 14 := by
 have := pickI_len (f := fun i e => if e1 e = a then some (i : Int) else none) n.2.2.2.1 0
 unfold hasV intoV
 split <;> omega
end Go.Proofs.Ytkgekgfmnhccmaa

namespace Go.Proofs.Ytkgekgfmnhccmaa
open Go Go.Abs Go.Proofs
noncomputable def l_szNet (p0 : TNet) (p1 : Int) : Tre Int :=
 .mat (l_szInt64SS_F p0.2.2.2.1 p1) fun r1 =>
 .cond (decide (r1 < 0))
  (.ret (-1))
  (.mat (l_szInt64SS_F p0.2.2.2.2.1 r1) fun r2 =>
  .cond (decide (r2 < 0))
   (.ret (-1))
   (.ret r2))
noncomputable def l_szNet_F (p0 : TNet) (p1 : Int) : Option Int := (l_szNet p0 p1).run some
-- more
def sizeNet (n : TN6) : Nat := sizeSS n.2.2.2.1 + sizeSS n.2.2.2.2.1
theorem l_szNet_is (n : TN6) (h1 : n.2.2.2.1.length ≤ maxLen ∧ ∀ x ∈ n.2.2.2.1, x.length ≤ maxLen) (h2 : n.2.2.2.2.1.length ≤ maxLen ∧ ∀ x ∈ n.2.2.2.2.1, x.length ≤ maxLen) : ∃ r, l_szNet_F n 1048576 = some r ∧ (¬ r < 0 → r = 1048576 - (sizeNet n : Int)) := by
 unfold l_szNet_F l_szNet sizeNet
 obtain ⟨r, hr, hs⟩ := l_szInt64SS_is _ h1.1 h1.2 1048576 (by decide) (by decide)
 rw [run_some_mat hr, Tre.run_cond]
 by_cases h : r < 0
 ·rw [decide_eq_true h]; exact ⟨_, rfl, fun h => absurd (by decide) h⟩
 have hs := hs h
 rw [decide_eq_false h, cond_false]
 obtain ⟨r', hr', hs'⟩ := l_szInt64SS_is _ h2.1 h2.2 r (by omega) (by omega)
 rw [run_some_mat hr', Tre.run_cond]
 by_cases h' : r' < 0
 ·rw [decide_eq_true h']; exact ⟨_, rfl, fun h => absurd (by decide) h⟩
 have hs' := hs' h'
 rw [decide_eq_false h', cond_false]
 exact ⟨_, rfl, fun _ => by push_cast; omega⟩
noncomputable def l_szNet_V : Env := ⟨tau, [(59, l_szInt64SS_c)], []⟩
noncomputable def l_szNet_b : Code := (Try.f20.body).getD .skip
noncomputable def l_szNet_I : FnI := ⟨l_szNet_b, Try.f20.results.toList, Try.f20.resultTypes.toList, []⟩
noncomputable def l_szNet_out (_zp0 : Bool) (_p0 : TNet) (_p1 : Int) : Int → CallOut := fun r => ⟨(.imm true (.int .i64) r), [], []⟩
set_option maxRecDepth 100000 in
theorem l_szNet_eq : ∀ (zp0 : Bool) (p0 : TNet) (p1 : Int), denFn l_szNet_V l_szNet_I ⟨[(.imm zp0 kNet p0), (.imm true (.int .i64) p1)], []⟩ = (l_szNet p0 p1).run fun r => some (l_szNet_out zp0 p0 p1 r) := fun _ _ _ => by kernel_rfl
noncomputable def l_szNet_G (av : List AV) (rs : List Root) : Tre CallOut :=
 asCons av fun a0_ av0 =>
 asCons av0 fun a1_ av1 =>
 asEnd av1 <|
 asEnd rs <|
 asImm kNet a0_ fun z2 d1 =>
 asImmZ true (.int .i64) a1_ fun d3 =>
 .mat (l_szNet_F d1 d3) fun r => .ret (l_szNet_out z2 d1 d3 r)
noncomputable def l_szNet_c : Ctr := ⟨[], fun ci => l_szNet_G ci.args ci.roots, false⟩
theorem l_szNet_env : EnvOK Try.prog .none l_szNet_V := (envOK_cons l_szInt64SS_ok ent59 envOK_nil)
set_option maxRecDepth 100000 in
theorem l_szNet_ok : Contract Try.prog .none 20 l_szNet_c := by
 have hl : LoopsOK l_szNet_V [] l_szNet_b := loopsOK_nil (by kernel_rfl)
 refine (contract_of (F := l_szNet_I) tau_tys l_szNet_env Try.func20 (by kernel_rfl) (by kernel_rfl) (by kernel_rfl) hl []).weaken ?_
 rintro ⟨av, rs⟩ co h
 have h : (l_szNet_G av rs).run some = some co := h
 obtain ⟨a0_, av0, rfl, h_0⟩ := asCons_spec h
 obtain ⟨a1_, av1, rfl, h_1⟩ := asCons_spec h_0
 obtain ⟨rfl, h_2⟩ := asEnd_spec h_1
 obtain ⟨rfl, h_3⟩ := asEnd_spec h_2
 obtain ⟨z2, d1, rfl, h_4⟩ := asImm_spec h_3
 obtain ⟨d3, rfl, h_5⟩ := asImmZ_spec h_4
 exact fin_mat (l_szNet_eq z2 d1 d3) h_5
end Go.Proofs.Ytkgekgfmnhccmaa

namespace Go.Proofs.Ytkgekgfmnhccmaa
open Go Go.Abs Go.Proofs
noncomputable def l_toField (_p0 : (Int × (Int × Unit))) : Tre Unit :=
 .ret ()
noncomputable def l_toField_F (p0 : (Int × (Int × Unit))) : Option Unit := (l_toField p0).run some
theorem l_toField_spec (p0 : (Int × (Int × Unit))) : l_toField_F p0 = some () := rfl
noncomputable def l_toField_V : Env := ⟨tau, [], []⟩
noncomputable def l_toField_b : Code := (Try.f66.body).getD .skip
noncomputable def l_toField_I : FnI := ⟨l_toField_b, Try.f66.results.toList, Try.f66.resultTypes.toList, []⟩
noncomputable def l_toField_out (p0 : (Int × (Int × Unit))) : Unit → CallOut := fun _ => ⟨(.imm true kField p0), [], []⟩
set_option maxRecDepth 100000 in
theorem l_toField_eq : ∀ (p0 : (Int × (Int × Unit))), denFn l_toField_V l_toField_I ⟨[(.imm true kField p0)], []⟩ = (l_toField p0).run fun r => some (l_toField_out p0 r) := fun _ => by kernel_rfl
noncomputable def l_toField_G (av : List AV) (rs : List Root) : Tre CallOut :=
 asCons av fun a0_ av0 =>
 asEnd av0 <|
 asEnd rs <|
 asImmZ true kField a0_ fun d1 =>
 .ret (l_toField_out d1 ())
noncomputable def l_toField_c : Ctr := ⟨[], fun ci => l_toField_G ci.args ci.roots, false⟩
theorem l_toField_env : EnvOK Try.prog .none l_toField_V := envOK_nil
set_option maxRecDepth 100000 in
theorem l_toField_ok : Contract Try.prog .none 66 l_toField_c := by
 have hl : LoopsOK l_toField_V [] l_toField_b := loopsOK_nil (by kernel_rfl)
 refine (contract_of (F := l_toField_I) tau_tys l_toField_env Try.func66 (by kernel_rfl) (by kernel_rfl) (by kernel_rfl) hl []).weaken ?_
 rintro ⟨av, rs⟩ co h
 have h : (l_toField_G av rs).run some = some co := h
 obtain ⟨a0_, av0, rfl, h_0⟩ := asCons_spec h
 obtain ⟨rfl, h_1⟩ := asEnd_spec h_0
 obtain ⟨rfl, h_2⟩ := asEnd_spec h_1
 obtain ⟨d1, rfl, h_3⟩ := asImmZ_spec h_2
 exact fin_ret (l_toField_eq d1) (l_toField_spec d1) h_3
end Go.Proofs.Ytkgekgfmnhccmaa

namespace Go.Proofs.Ytkgekgfmnhccmaa
open Go Go.Abs Go.Proofs
noncomputable def l_toInt64S_l3 (h3_0_0 : (List Int)) : (Int × (List Int)) → Tre ((Int × (List Int)) ⊕ (List Int)) := fun s3 =>
 .cond (decide (s3.1 < (h3_0_0.length : Int)))
  (.ite (0 ≤ s3.1 ∧ s3.1 < (h3_0_0.length : Int)) <|
  .mat (h3_0_0[s3.1.toNat]?) fun x1 =>
  .ite (0 ≤ s3.1 ∧ s3.1 < (s3.2.length : Int)) <|
  .mat (s3.2[s3.1.toNat]?) fun _ =>
  let v3 := s3.2.set s3.1.toNat x1
  .ret (.inl (iwrap .i64 (s3.1 + 1), v3)))
  (.ret (.inr s3.2))
noncomputable def l_toInt64S (p0 : (List Int)) : Tre (List Int) :=
 .ite (((.int .i64) : K) = (.int .i64) ∧ 0 ≤ (p0.length : Int) ∧ (p0.length : Int) = (p0.length : Int) ∧ (p0.length : Int) * (8 : Nat) ≤ 140737488355328 ∧ 1 ≤ 8) <|
 .mat (loopF (l_toInt64S_l3 p0) (0, List.replicate (p0.length : Int).toNat (0 : Int))) fun l4 =>
 .ret l4
noncomputable def l_toInt64S_F (p0 : (List Int)) : Option (List Int) := (l_toInt64S p0).run some
theorem l_toInt64S_spec (p0 : List Int) (y : List Int) (h : cloneR p0 = some y) : l_toInt64S_F p0 = some y := by
 obtain ⟨hl, rfl⟩ := lim_some h
 unfold l_toInt64S_F l_toInt64S
 rw [Tre.run_ite, if_pos ⟨rfl, by omega, rfl, by omega, by omega⟩, Tre.run_mat]
 have := fold_loop (xs := p0) (step := l_toInt64S_l3 p0) (fun i acc => ((i : Int), acc)) (fun i acc x => .inl (acc.set i x)) id (fun i acc => acc.length = p0.length) (by
  intro i acc x hx hI
  have hi : i < p0.length := (List.getElem?_eq_some_iff.1 hx).1
  refine ⟨?_, fun a ha => by cases ha; simpa using hI⟩
  unfold l_toInt64S_l3
  rw [run_inb hx]
  rw [show acc.length = p0.length from hI]
  rw [Tre.run_ite, if_pos ⟨by dsimp only; omega, by dsimp only; omega⟩, Tre.run_mat]
  dsimp only
  rw [Int.toNat_natCast, List.getElem?_eq_getElem (by omega : i < acc.length), Option.bind_some, Tre.run_ret, iwrap_succ (by omega)])
  (by
  intro acc hI
  unfold l_toInt64S_l3
  exact run_out)
  p0 0 (List.replicate p0.length 0) rfl (Nat.zero_le _) (by simp)
 rw [Int.toNat_natCast]
 rw [show ((0 : Int), List.replicate p0.length (0 : Int)) = (((0 : Nat) : Int), List.replicate p0.length 0) from rfl, this, foldE_set _ _ _ _ (by simp)]
 simp [Tre.run_ret]
noncomputable def l_toInt64S_V : Env := ⟨tau, [], []⟩
noncomputable def l_toInt64S_b : Code := (Try.f23.body).getD .skip
noncomputable def l_toInt64S_l3_mk (z3_0 : Bool) (h3_0_0 : (List Int)) : (Int × (List Int)) → St := fun x => stOf [(0, (.imm z3_0 (.sl (.int .i64)) h3_0_0)), (3, (.ref (5, 0) [])), (4, (.imm true (.int .i64) x.1))] [((5, 0), some ⟨false, (.sl (.int .i64)), .own, x.2⟩)]
noncomputable def l_toInt64S_l3_out (_z3_0 : Bool) (_h3_0_0 : (List Int)) : (List Int) → Ex × St := fun x => (.exit 0, stOf [(3, (.ref (5, 0) []))] [((5, 0), some ⟨false, (.sl (.int .i64)), .own, x⟩)])
noncomputable def l_toInt64S_l3_D (s : St) : Tre (Ex × St) :=
 asImm (.sl (.int .i64)) (s.tmps 0) fun z3 d2 =>
 asRef (5, 0) [] (s.tmps 3) <|
 asImmZ true (.int .i64) (s.tmps 4) fun d6 =>
 asRoot false (.sl (.int .i64)) (s.roots (5, 0)) fun m8 d9 =>
 asM .own m8 <|
 .mat (loopF (l_toInt64S_l3 d2) (d6, d9)) fun x => .ret (l_toInt64S_l3_out z3 d2 x)
noncomputable def l_toInt64S_l3_L : LoopI := ⟨([0, 3, 4], [(5, 0)]), ([3], [(5, 0)]), l_toInt64S_l3_D⟩
noncomputable def l_toInt64S_A : List (Nat × LoopI) := [(3, l_toInt64S_l3_L)]
set_option maxRecDepth 100000 in
theorem l_toInt64S_l3_step : ∀ (z3_0 : Bool) (h3_0_0 : (List Int)) (x : (Int × (List Int))) (c : St → Option (Ex × St)), den l_toInt64S_V l_toInt64S_A (loopAt l_toInt64S_b 0) (l_toInt64S_l3_mk z3_0 h3_0_0 x) (roundK l_toInt64S_l3_L.kp l_toInt64S_l3_L.kx c) = (l_toInt64S_l3 h3_0_0 x).run (roundR (l_toInt64S_l3_mk z3_0 h3_0_0) (l_toInt64S_l3_out z3_0 h3_0_0) c) := fun _ _ _ _ => by
 kernel_rfl
theorem l_toInt64S_l3_ok : LoopOK l_toInt64S_V l_toInt64S_A (loopAt l_toInt64S_b 0) l_toInt64S_l3_L := loopOK_of fun s e s' h => by
 generalize hs : restrict l_toInt64S_l3_L.kp s = s1 at h
 have h : (l_toInt64S_l3_D s1).run some = some (e, s') := h
 obtain ⟨z3, d2, e1, h_0⟩ := asImm_spec h
 obtain ⟨e4, h_1⟩ := asRef_spec h_0
 obtain ⟨d6, e5, h_2⟩ := asImmZ_spec h_1
 obtain ⟨m8, d9, e7, h_3⟩ := asRoot_spec h_2
 obtain ⟨rfl, h_4⟩ := asM_spec h_3
 obtain ⟨y, hy, hz⟩ := mat_ret h_4
 refine ⟨_, _, l_toInt64S_l3_mk z3 d2, l_toInt64S_l3_out z3 d2, l_toInt64S_l3 d2, (d6, d9), y, ?_, hy, ?_, l_toInt64S_l3_step z3 d2⟩
 ·subst hs; exact restrict_eq (T := [(0, (.imm z3 (.sl (.int .i64)) d2)), (3, (.ref (5, 0) [])), (4, (.imm true (.int .i64) d6))]) (U := [((5, 0), some ⟨false, (.sl (.int .i64)), .own, d9⟩)]) rfl rfl ⟨e1, e4, e5, trivial⟩ ⟨e7, trivial⟩
 ·exact Option.some.inj hz
noncomputable def l_toInt64S_I : FnI := ⟨l_toInt64S_b, Try.f23.results.toList, Try.f23.resultTypes.toList, l_toInt64S_A⟩
noncomputable def l_toInt64S_out (_zp0 : Bool) (_p0 : (List Int)) : (List Int) → CallOut := fun r => ⟨(.ref (1, 0) []), [], [⟨false, (.sl (.int .i64)), .own, r⟩]⟩
set_option maxRecDepth 100000 in
theorem l_toInt64S_eq : ∀ (zp0 : Bool) (p0 : (List Int)), denFn l_toInt64S_V l_toInt64S_I ⟨[(.imm zp0 (.sl (.int .i64)) p0)], []⟩ = (l_toInt64S p0).run fun r => some (l_toInt64S_out zp0 p0 r) := fun _ _ => by kernel_rfl
noncomputable def l_toInt64S_G (av : List AV) (rs : List Root) : Tre CallOut :=
 asCons av fun a0_ av0 =>
 asEnd av0 <|
 asEnd rs <|
 asImm (.sl (.int .i64)) a0_ fun z2 d1 =>
 .mat (cloneR d1) fun r => .ret (l_toInt64S_out z2 d1 r)
noncomputable def l_toInt64S_c : Ctr := ⟨[], fun ci => l_toInt64S_G ci.args ci.roots, false⟩
theorem l_toInt64S_env : EnvOK Try.prog .none l_toInt64S_V := envOK_nil
set_option maxRecDepth 100000 in
theorem l_toInt64S_ok : Contract Try.prog .none 23 l_toInt64S_c := by
 have hl : LoopsOK l_toInt64S_V l_toInt64S_A l_toInt64S_b := (loopsOK_all (n := 1) (by kernel_rfl) fun k hk => by
   match k, hk with
   | 0, _ => exact loopOK_at (id := 3) (L := l_toInt64S_l3_L) (by kernel_rfl) (by kernel_rfl) l_toInt64S_l3_ok)
 refine (contract_of (F := l_toInt64S_I) tau_tys l_toInt64S_env Try.func23 (by kernel_rfl) (by kernel_rfl) (by kernel_rfl) hl []).weaken ?_
 rintro ⟨av, rs⟩ co h
 have h : (l_toInt64S_G av rs).run some = some co := h
 obtain ⟨a0_, av0, rfl, h_0⟩ := asCons_spec h
 obtain ⟨rfl, h_1⟩ := asEnd_spec h_0
 obtain ⟨rfl, h_2⟩ := asEnd_spec h_1
 obtain ⟨z2, d1, rfl, h_3⟩ := asImm_spec h_2
 exact fin_opt (l_toInt64S_eq z2 d1) (l_toInt64S_spec d1) h_3
end Go.Proofs.Ytkgekgfmnhccmaa

namespace Go.Proofs.Ytkgekgfmnhccmaa
open Go Go.Abs Go.Proofs
noncomputable def l_toInt64SS_l3 (h3_0_0 : (List (List Int))) : (Int × (List (List Int))) → Tre ((Int × (List (List Int))) ⊕ (List (List Int))) := fun s3 =>
 .cond (decide (s3.1 < (h3_0_0.length : Int)))
  (.ite (0 ≤ s3.1 ∧ s3.1 < (h3_0_0.length : Int)) <|
  .mat (h3_0_0[s3.1.toNat]?) fun x1 =>
  .mat (cloneR x1) fun r2 =>
  .ite (0 ≤ s3.1 ∧ s3.1 < (s3.2.length : Int)) <|
  .mat (s3.2[s3.1.toNat]?) fun _ =>
  let v4 := s3.2.set s3.1.toNat r2
  .ret (.inl (iwrap .i64 (s3.1 + 1), v4)))
  (.ret (.inr s3.2))
noncomputable def l_toInt64SS (p0 : (List (List Int))) : Tre (List (List Int)) :=
 .ite (((.sl (.int .i64)) : K) = (.sl (.int .i64)) ∧ 0 ≤ (p0.length : Int) ∧ (p0.length : Int) = (p0.length : Int) ∧ (p0.length : Int) * (24 : Nat) ≤ 140737488355328 ∧ 1 ≤ 24) <|
 .mat (loopF (l_toInt64SS_l3 p0) (0, List.replicate (p0.length : Int).toNat ([] : (List Int)))) fun l5 =>
 .ret l5
noncomputable def l_toInt64SS_F (p0 : (List (List Int))) : Option (List (List Int)) := (l_toInt64SS p0).run some
-- more
theorem l_toInt64SS_is (p0 : List (List Int)) (h : sizeSS p0 ≤ 1048576) : l_toInt64SS_F p0 = some p0 := by
 have hl : p0.length ≤ 1048576 := by unfold sizeSS at h; omega
 unfold l_toInt64SS_F l_toInt64SS
 rw [Tre.run_ite, if_pos ⟨rfl, by omega, rfl, by omega, by omega⟩, Tre.run_mat]
 have := fold_loop (xs := p0) (step := l_toInt64SS_l3 p0) (fun i acc => ((i : Int), acc)) (fun i acc x => .inl (acc.set i x)) id (fun i acc => acc.length = p0.length) (by
  intro i acc x hx hI
  have hi : i < p0.length := (List.getElem?_eq_some_iff.1 hx).1
  refine ⟨?_, fun a ha => by cases ha; simpa using hI⟩
  unfold l_toInt64SS_l3
  rw [run_inb hx, run_some_mat (show cloneR x = _ from lim_of (by have := sizeSS_mem (List.mem_of_getElem? hx); omega))]
  rw [show acc.length = p0.length from hI]
  rw [Tre.run_ite, if_pos ⟨by dsimp only; omega, by dsimp only; omega⟩, Tre.run_mat]
  dsimp only
  rw [Int.toNat_natCast, List.getElem?_eq_getElem (by omega : i < acc.length), Option.bind_some, Tre.run_ret, iwrap_succ (by omega)])
  (by
  intro acc hI
  unfold l_toInt64SS_l3
  exact run_out)
  p0 0 (List.replicate p0.length []) rfl (Nat.zero_le _) (by simp)
 rw [Int.toNat_natCast]
 rw [show ((0 : Int), List.replicate p0.length ([] : List Int)) = (((0 : Nat) : Int), List.replicate p0.length []) from rfl, this, foldE_set _ _ _ _ (by simp)]
 simp [Tre.run_ret]
noncomputable def l_toInt64SS_V : Env := ⟨tau, [(23, l_toInt64S_c)], []⟩
noncomputable def l_toInt64SS_b : Code := (Try.f67.body).getD .skip
noncomputable def l_toInt64SS_l3_mk (z3_0 : Bool) (h3_0_0 : (List (List Int))) : (Int × (List (List Int))) → St := fun x => stOf [(0, (.imm z3_0 (.sl (.sl (.int .i64))) h3_0_0)), (3, (.ref (5, 0) [])), (4, (.imm true (.int .i64) x.1))] [((5, 0), some ⟨false, (.sl (.sl (.int .i64))), .own, x.2⟩)]
noncomputable def l_toInt64SS_l3_out (_z3_0 : Bool) (_h3_0_0 : (List (List Int))) : (List (List Int)) → Ex × St := fun x => (.exit 0, stOf [(3, (.ref (5, 0) []))] [((5, 0), some ⟨false, (.sl (.sl (.int .i64))), .own, x⟩)])
noncomputable def l_toInt64SS_l3_D (s : St) : Tre (Ex × St) :=
 asImm (.sl (.sl (.int .i64))) (s.tmps 0) fun z3 d2 =>
 asRef (5, 0) [] (s.tmps 3) <|
 asImmZ true (.int .i64) (s.tmps 4) fun d6 =>
 asRoot false (.sl (.sl (.int .i64))) (s.roots (5, 0)) fun m8 d9 =>
 asM .own m8 <|
 .mat (loopF (l_toInt64SS_l3 d2) (d6, d9)) fun x => .ret (l_toInt64SS_l3_out z3 d2 x)
noncomputable def l_toInt64SS_l3_L : LoopI := ⟨([0, 3, 4], [(5, 0)]), ([3], [(5, 0)]), l_toInt64SS_l3_D⟩
noncomputable def l_toInt64SS_A : List (Nat × LoopI) := [(3, l_toInt64SS_l3_L)]
set_option maxRecDepth 100000 in
theorem l_toInt64SS_l3_step : ∀ (z3_0 : Bool) (h3_0_0 : (List (List Int))) (x : (Int × (List (List Int)))) (c : St → Option (Ex × St)), den l_toInt64SS_V l_toInt64SS_A (loopAt l_toInt64SS_b 0) (l_toInt64SS_l3_mk z3_0 h3_0_0 x) (roundK l_toInt64SS_l3_L.kp l_toInt64SS_l3_L.kx c) = (l_toInt64SS_l3 h3_0_0 x).run (roundR (l_toInt64SS_l3_mk z3_0 h3_0_0) (l_toInt64SS_l3_out z3_0 h3_0_0) c) := fun _ _ _ _ => by
 kernel_rfl
theorem l_toInt64SS_l3_ok : LoopOK l_toInt64SS_V l_toInt64SS_A (loopAt l_toInt64SS_b 0) l_toInt64SS_l3_L := loopOK_of fun s e s' h => by
 generalize hs : restrict l_toInt64SS_l3_L.kp s = s1 at h
 have h : (l_toInt64SS_l3_D s1).run some = some (e, s') := h
 obtain ⟨z3, d2, e1, h_0⟩ := asImm_spec h
 obtain ⟨e4, h_1⟩ := asRef_spec h_0
 obtain ⟨d6, e5, h_2⟩ := asImmZ_spec h_1
 obtain ⟨m8, d9, e7, h_3⟩ := asRoot_spec h_2
 obtain ⟨rfl, h_4⟩ := asM_spec h_3
 obtain ⟨y, hy, hz⟩ := mat_ret h_4
 refine ⟨_, _, l_toInt64SS_l3_mk z3 d2, l_toInt64SS_l3_out z3 d2, l_toInt64SS_l3 d2, (d6, d9), y, ?_, hy, ?_, l_toInt64SS_l3_step z3 d2⟩
 ·subst hs; exact restrict_eq (T := [(0, (.imm z3 (.sl (.sl (.int .i64))) d2)), (3, (.ref (5, 0) [])), (4, (.imm true (.int .i64) d6))]) (U := [((5, 0), some ⟨false, (.sl (.sl (.int .i64))), .own, d9⟩)]) rfl rfl ⟨e1, e4, e5, trivial⟩ ⟨e7, trivial⟩
 ·exact Option.some.inj hz
noncomputable def l_toInt64SS_I : FnI := ⟨l_toInt64SS_b, Try.f67.results.toList, Try.f67.resultTypes.toList, l_toInt64SS_A⟩
noncomputable def l_toInt64SS_out (_zp0 : Bool) (_p0 : (List (List Int))) : (List (List Int)) → CallOut := fun r => ⟨(.ref (1, 0) []), [], [⟨false, (.sl (.sl (.int .i64))), .own, r⟩]⟩
set_option maxRecDepth 100000 in
theorem l_toInt64SS_eq : ∀ (zp0 : Bool) (p0 : (List (List Int))), denFn l_toInt64SS_V l_toInt64SS_I ⟨[(.imm zp0 (.sl (.sl (.int .i64))) p0)], []⟩ = (l_toInt64SS p0).run fun r => some (l_toInt64SS_out zp0 p0 r) := fun _ _ => by kernel_rfl
noncomputable def l_toInt64SS_G (av : List AV) (rs : List Root) : Tre CallOut :=
 asCons av fun a0_ av0 =>
 asEnd av0 <|
 asEnd rs <|
 asImm (.sl (.sl (.int .i64))) a0_ fun z2 d1 =>
 .mat (l_toInt64SS_F d1) fun r => .ret (l_toInt64SS_out z2 d1 r)
noncomputable def l_toInt64SS_c : Ctr := ⟨[], fun ci => l_toInt64SS_G ci.args ci.roots, false⟩
theorem l_toInt64SS_env : EnvOK Try.prog .none l_toInt64SS_V := (envOK_cons l_toInt64S_ok ent23 envOK_nil)
set_option maxRecDepth 100000 in
theorem l_toInt64SS_ok : Contract Try.prog .none 67 l_toInt64SS_c := by
 have hl : LoopsOK l_toInt64SS_V l_toInt64SS_A l_toInt64SS_b := (loopsOK_all (n := 1) (by kernel_rfl) fun k hk => by
   match k, hk with
   | 0, _ => exact loopOK_at (id := 3) (L := l_toInt64SS_l3_L) (by kernel_rfl) (by kernel_rfl) l_toInt64SS_l3_ok)
 refine (contract_of (F := l_toInt64SS_I) tau_tys l_toInt64SS_env Try.func67 (by kernel_rfl) (by kernel_rfl) (by kernel_rfl) hl []).weaken ?_
 rintro ⟨av, rs⟩ co h
 have h : (l_toInt64SS_G av rs).run some = some co := h
 obtain ⟨a0_, av0, rfl, h_0⟩ := asCons_spec h
 obtain ⟨rfl, h_1⟩ := asEnd_spec h_0
 obtain ⟨rfl, h_2⟩ := asEnd_spec h_1
 obtain ⟨z2, d1, rfl, h_3⟩ := asImm_spec h_2
 exact fin_mat (l_toInt64SS_eq z2 d1) h_3
end Go.Proofs.Ytkgekgfmnhccmaa

namespace Go.Proofs.Ytkgekgfmnhccmaa
open Go Go.Abs Go.Proofs
noncomputable def l_toNet (p0 : TNet) : Tre ((Int × (Int × Unit)) × Int × Int × (List (List Int)) × (List (List Int))) :=
 .mat (l_toInt64SS_F p0.2.2.2.1) fun r1 =>
 .mat (l_toInt64SS_F p0.2.2.2.2.1) fun r2 =>
 .ret (p0.1, p0.2.1, p0.2.2.1, r1, r2)
noncomputable def l_toNet_F (p0 : TNet) : Option ((Int × (Int × Unit)) × Int × Int × (List (List Int)) × (List (List Int))) := (l_toNet p0).run some
-- more
theorem l_toNet_is (n : TN6) (h : sizeSS n.2.2.2.1 ≤ 1048576) (h' : sizeSS n.2.2.2.2.1 ≤ 1048576) : l_toNet_F n = some (n.1, n.2.1, n.2.2.1, n.2.2.2.1, n.2.2.2.2.1) := by
 unfold l_toNet_F l_toNet
 rw [run_some_mat (l_toInt64SS_is _ h), run_some_mat (l_toInt64SS_is _ h')]
 rfl
noncomputable def l_toNet_V : Env := ⟨tau, [(66, l_toField_c), (67, l_toInt64SS_c)], []⟩
noncomputable def l_toNet_b : Code := (Try.f22.body).getD .skip
noncomputable def l_toNet_I : FnI := ⟨l_toNet_b, Try.f22.results.toList, Try.f22.resultTypes.toList, []⟩
noncomputable def l_toNet_out (_zp0 : Bool) (_p0 : TNet) : ((Int × (Int × Unit)) × Int × Int × (List (List Int)) × (List (List Int))) → CallOut := fun r => ⟨(.pair (.imm true kField r.1) (.pair (.imm true (.int .i64) r.2.1) (.pair (.imm true (.int .i64) r.2.2.1) (.pair (.ref (1, 0) []) (.pair (.ref (1, 1) []) (.imm true .unit ())))))), [], [⟨false, (.sl (.sl (.int .i64))), .own, r.2.2.2.1⟩, ⟨false, (.sl (.sl (.int .i64))), .own, r.2.2.2.2⟩]⟩
set_option maxRecDepth 100000 in
theorem l_toNet_eq : ∀ (zp0 : Bool) (p0 : TNet), denFn l_toNet_V l_toNet_I ⟨[(.imm zp0 kNet p0)], []⟩ = (l_toNet p0).run fun r => some (l_toNet_out zp0 p0 r) := fun _ _ => by kernel_rfl
noncomputable def l_toNet_G (av : List AV) (rs : List Root) : Tre CallOut :=
 asCons av fun a0_ av0 =>
 asEnd av0 <|
 asEnd rs <|
 asImm kNet a0_ fun z2 d1 =>
 .mat (l_toNet_F d1) fun r => .ret (l_toNet_out z2 d1 r)
noncomputable def l_toNet_c : Ctr := ⟨[], fun ci => l_toNet_G ci.args ci.roots, false⟩
theorem l_toNet_env : EnvOK Try.prog .none l_toNet_V := (envOK_cons l_toField_ok ent66 (envOK_cons l_toInt64SS_ok ent67 envOK_nil))
set_option maxRecDepth 100000 in
theorem l_toNet_ok : Contract Try.prog .none 22 l_toNet_c := by
 have hl : LoopsOK l_toNet_V [] l_toNet_b := loopsOK_nil (by kernel_rfl)
 refine (contract_of (F := l_toNet_I) tau_tys l_toNet_env Try.func22 (by kernel_rfl) (by kernel_rfl) (by kernel_rfl) hl []).weaken ?_
 rintro ⟨av, rs⟩ co h
 have h : (l_toNet_G av rs).run some = some co := h
 obtain ⟨a0_, av0, rfl, h_0⟩ := asCons_spec h
 obtain ⟨rfl, h_1⟩ := asEnd_spec h_0
 obtain ⟨rfl, h_2⟩ := asEnd_spec h_1
 obtain ⟨z2, d1, rfl, h_3⟩ := asImm_spec h_2
 exact fin_mat (l_toNet_eq z2 d1) h_3
end Go.Proofs.Ytkgekgfmnhccmaa

namespace Go.Proofs.Ytkgekgfmnhccmaa
open Go Go.Abs Go.Proofs
noncomputable def s_l00In (p0 : Int) (p1 : Int) (p2 : Int) : Tre Bool :=
 .cond (decide (p0 ≥ p1))
  (.ret (decide (p0 ≤ p2)))
  (.ret false)
noncomputable def s_l00In_F (p0 : Int) (p1 : Int) (p2 : Int) : Option Bool := (s_l00In p0 p1 p2).run some
theorem s_l00In_spec (n a b : Int) : s_l00In_F n a b = some (inR n a b) := by
 unfold s_l00In_F s_l00In inR
 by_cases h : a ≤ n
 ·simp [Tre.run_cond, Tre.run_ret, h]
 ·simp [Tre.run_cond, Tre.run_ret, h]
noncomputable def s_l00In_V : Env := ⟨tau, [], []⟩
noncomputable def s_l00In_b : Code := (Try.f96.body).getD .skip
noncomputable def s_l00In_I : FnI := ⟨s_l00In_b, Try.f96.results.toList, Try.f96.resultTypes.toList, []⟩
noncomputable def s_l00In_out (_p0 : Int) (_p1 : Int) (_p2 : Int) : Bool → CallOut := fun r => ⟨(.imm true .bool r), [], []⟩
set_option maxRecDepth 100000 in
theorem s_l00In_eq : ∀ (p0 : Int) (p1 : Int) (p2 : Int), denFn s_l00In_V s_l00In_I ⟨[(.imm true (.int .i64) p0), (.imm true (.int .i64) p1), (.imm true (.int .i64) p2)], []⟩ = (s_l00In p0 p1 p2).run fun r => some (s_l00In_out p0 p1 p2 r) := fun _ _ _ => by kernel_rfl
noncomputable def s_l00In_G (av : List AV) (rs : List Root) : Tre CallOut :=
 asCons av fun a0_ av0 =>
 asCons av0 fun a1_ av1 =>
 asCons av1 fun a2_ av2 =>
 asEnd av2 <|
 asEnd rs <|
 asImmZ true (.int .i64) a0_ fun d1 =>
 asImmZ true (.int .i64) a1_ fun d2 =>
 asImmZ true (.int .i64) a2_ fun d3 =>
 .ret (s_l00In_out d1 d2 d3 (inR d1 d2 d3))
noncomputable def s_l00In_c : Ctr := ⟨[], fun ci => s_l00In_G ci.args ci.roots, false⟩
theorem s_l00In_env : EnvOK Try.prog .none s_l00In_V := envOK_nil
set_option maxRecDepth 100000 in
theorem s_l00In_ok : Contract Try.prog .none 96 s_l00In_c := by
 have hl : LoopsOK s_l00In_V [] s_l00In_b := loopsOK_nil (by kernel_rfl)
 refine (contract_of (F := s_l00In_I) tau_tys s_l00In_env Try.func96 (by kernel_rfl) (by kernel_rfl) (by kernel_rfl) hl []).weaken ?_
 rintro ⟨av, rs⟩ co h
 have h : (s_l00In_G av rs).run some = some co := h
 obtain ⟨a0_, av0, rfl, h_0⟩ := asCons_spec h
 obtain ⟨a1_, av1, rfl, h_1⟩ := asCons_spec h_0
 obtain ⟨a2_, av2, rfl, h_2⟩ := asCons_spec h_1
 obtain ⟨rfl, h_3⟩ := asEnd_spec h_2
 obtain ⟨rfl, h_4⟩ := asEnd_spec h_3
 obtain ⟨d1, rfl, h_5⟩ := asImmZ_spec h_4
 obtain ⟨d2, rfl, h_6⟩ := asImmZ_spec h_5
 obtain ⟨d3, rfl, h_7⟩ := asImmZ_spec h_6
 exact fin_ret (s_l00In_eq d1 d2 d3) (s_l00In_spec d1 d2 d3) h_7
end Go.Proofs.Ytkgekgfmnhccmaa

namespace Go.Proofs.Ytkgekgfmnhccmaa
open Go Go.Abs Go.Proofs
noncomputable def s_l01Degree_l2 : (Int × Int) → Tre ((Int × Int) ⊕ Int) := fun s2 =>
 .cond (decide (s2.1 > 0))
  (let v1 := iwrap .i64 (Int.tdiv s2.1 2)
  .ret (.inl (v1, iwrap .i64 (s2.2 + 1))))
  (.ret (.inr s2.2))
noncomputable def s_l01Degree (p0 : Int) : Tre Int :=
 .mat (loopF s_l01Degree_l2 (p0, -1)) fun l2 =>
 .ret l2
noncomputable def s_l01Degree_F (p0 : Int) : Option Int := (s_l01Degree p0).run some
noncomputable def s_l01Degree_V : Env := ⟨tau, [], []⟩
noncomputable def s_l01Degree_b : Code := (Try.f138.body).getD .skip
noncomputable def s_l01Degree_l2_mk : (Int × Int) → St := fun x => stOf [(0, (.imm true (.int .i64) x.1)), (3, (.imm true (.int .i64) x.2))] []
noncomputable def s_l01Degree_l2_out : Int → Ex × St := fun x => (.exit 0, stOf [(3, (.imm true (.int .i64) x))] [])
noncomputable def s_l01Degree_l2_D (s : St) : Tre (Ex × St) :=
 asImmZ true (.int .i64) (s.tmps 0) fun d2 =>
 asImmZ true (.int .i64) (s.tmps 3) fun d4 =>
 .mat (loopF s_l01Degree_l2 (d2, d4)) fun x => .ret (s_l01Degree_l2_out x)
noncomputable def s_l01Degree_l2_L : LoopI := ⟨([0, 3], []), ([3], []), s_l01Degree_l2_D⟩
noncomputable def s_l01Degree_A : List (Nat × LoopI) := [(2, s_l01Degree_l2_L)]
set_option maxRecDepth 100000 in
theorem s_l01Degree_l2_step : ∀ (x : (Int × Int)) (c : St → Option (Ex × St)), den s_l01Degree_V s_l01Degree_A (loopAt s_l01Degree_b 0) (s_l01Degree_l2_mk x) (roundK s_l01Degree_l2_L.kp s_l01Degree_l2_L.kx c) = (s_l01Degree_l2 x).run (roundR (s_l01Degree_l2_mk) (s_l01Degree_l2_out) c) := fun _ _ => by
 kernel_rfl
theorem s_l01Degree_l2_ok : LoopOK s_l01Degree_V s_l01Degree_A (loopAt s_l01Degree_b 0) s_l01Degree_l2_L := loopOK_of fun s e s' h => by
 generalize hs : restrict s_l01Degree_l2_L.kp s = s1 at h
 have h : (s_l01Degree_l2_D s1).run some = some (e, s') := h
 obtain ⟨d2, e1, h_0⟩ := asImmZ_spec h
 obtain ⟨d4, e3, h_1⟩ := asImmZ_spec h_0
 obtain ⟨y, hy, hz⟩ := mat_ret h_1
 refine ⟨_, _, s_l01Degree_l2_mk, s_l01Degree_l2_out, s_l01Degree_l2, (d2, d4), y, ?_, hy, ?_, s_l01Degree_l2_step⟩
 ·subst hs; exact restrict_eq (T := [(0, (.imm true (.int .i64) d2)), (3, (.imm true (.int .i64) d4))]) (U := []) rfl rfl ⟨e1, e3, trivial⟩ trivial
 ·exact Option.some.inj hz
noncomputable def s_l01Degree_I : FnI := ⟨s_l01Degree_b, Try.f138.results.toList, Try.f138.resultTypes.toList, s_l01Degree_A⟩
noncomputable def s_l01Degree_out (_p0 : Int) : Int → CallOut := fun r => ⟨(.imm true (.int .i64) r), [], []⟩
set_option maxRecDepth 100000 in
theorem s_l01Degree_eq : ∀ (p0 : Int), denFn s_l01Degree_V s_l01Degree_I ⟨[(.imm true (.int .i64) p0)], []⟩ = (s_l01Degree p0).run fun r => some (s_l01Degree_out p0 r) := fun _ => by kernel_rfl
noncomputable def s_l01Degree_G (av : List AV) (rs : List Root) : Tre CallOut :=
 asCons av fun a0_ av0 =>
 asEnd av0 <|
 asEnd rs <|
 asImmZ true (.int .i64) a0_ fun d1 =>
 .mat (s_l01Degree_F d1) fun r => .ret (s_l01Degree_out d1 r)
noncomputable def s_l01Degree_c : Ctr := ⟨[], fun ci => s_l01Degree_G ci.args ci.roots, false⟩
theorem s_l01Degree_env : EnvOK Try.prog .none s_l01Degree_V := envOK_nil
set_option maxRecDepth 100000 in
theorem s_l01Degree_ok : Contract Try.prog .none 138 s_l01Degree_c := by
 have hl : LoopsOK s_l01Degree_V s_l01Degree_A s_l01Degree_b := (loopsOK_all (n := 1) (by kernel_rfl) fun k hk => by
   match k, hk with
   | 0, _ => exact loopOK_at (id := 2) (L := s_l01Degree_l2_L) (by kernel_rfl) (by kernel_rfl) s_l01Degree_l2_ok)
 refine (contract_of (F := s_l01Degree_I) tau_tys s_l01Degree_env Try.func138 (by kernel_rfl) (by kernel_rfl) (by kernel_rfl) hl []).weaken ?_
 rintro ⟨av, rs⟩ co h
 have h : (s_l01Degree_G av rs).run some = some co := h
 obtain ⟨a0_, av0, rfl, h_0⟩ := asCons_spec h
 obtain ⟨rfl, h_1⟩ := asEnd_spec h_0
 obtain ⟨rfl, h_2⟩ := asEnd_spec h_1
 obtain ⟨d1, rfl, h_3⟩ := asImmZ_spec h_2
 exact fin_mat (s_l01Degree_eq d1) h_3
end Go.Proofs.Ytkgekgfmnhccmaa

namespace Go.Proofs.Ytkgekgfmnhccmaa
open Go Go.Abs Go.Proofs
noncomputable def s_l01Rest_l2 (h2_0_1 : Int) (h2_0_2 : Int) : Int → Tre (Int ⊕ Int) := fun s2 =>
 .mat (s_l01Degree_F s2) fun r2 =>
 .cond (decide (r2 ≥ h2_0_2))
  (.mat (s_l01Degree_F s2) fun r3 =>
  let v4 := iwrap .u64 (iwrap .i64 (r3 - h2_0_2))
  .ite (0 ≤ v4) <|
  let v5 := ixor .i64 s2 (ishl .i64 h2_0_1 v4)
  .ret (.inl v5))
  (.ret (.inr s2))
noncomputable def s_l01Rest (p0 : Int) (p1 : Int) : Tre Int :=
 .mat (s_l01Degree_F p1) fun r1 =>
 .mat (loopF (s_l01Rest_l2 p1 r1) p0) fun l6 =>
 .ret l6
noncomputable def s_l01Rest_F (p0 : Int) (p1 : Int) : Option Int := (s_l01Rest p0 p1).run some
noncomputable def s_l01Rest_V : Env := ⟨tau, [(138, s_l01Degree_c)], []⟩
noncomputable def s_l01Rest_b : Code := (Try.f139.body).getD .skip
noncomputable def s_l01Rest_l2_mk (h2_0_1 : Int) (h2_0_2 : Int) : Int → St := fun x => stOf [(0, (.imm true (.int .i64) x)), (1, (.imm true (.int .i64) h2_0_1)), (5, (.imm true (.int .i64) h2_0_2))] []
noncomputable def s_l01Rest_l2_out (_h2_0_1 : Int) (_h2_0_2 : Int) : Int → Ex × St := fun x => (.exit 0, stOf [(0, (.imm true (.int .i64) x))] [])
noncomputable def s_l01Rest_l2_D (s : St) : Tre (Ex × St) :=
 asImmZ true (.int .i64) (s.tmps 0) fun d2 =>
 asImmZ true (.int .i64) (s.tmps 1) fun d4 =>
 asImmZ true (.int .i64) (s.tmps 5) fun d6 =>
 .mat (loopF (s_l01Rest_l2 d4 d6) d2) fun x => .ret (s_l01Rest_l2_out d4 d6 x)
noncomputable def s_l01Rest_l2_L : LoopI := ⟨([0, 1, 5], []), ([0], []), s_l01Rest_l2_D⟩
noncomputable def s_l01Rest_A : List (Nat × LoopI) := [(2, s_l01Rest_l2_L)]
set_option maxRecDepth 100000 in
theorem s_l01Rest_l2_step : ∀ (h2_0_1 : Int) (h2_0_2 : Int) (x : Int) (c : St → Option (Ex × St)), den s_l01Rest_V s_l01Rest_A (loopAt s_l01Rest_b 0) (s_l01Rest_l2_mk h2_0_1 h2_0_2 x) (roundK s_l01Rest_l2_L.kp s_l01Rest_l2_L.kx c) = (s_l01Rest_l2 h2_0_1 h2_0_2 x).run (roundR (s_l01Rest_l2_mk h2_0_1 h2_0_2) (s_l01Rest_l2_out h2_0_1 h2_0_2) c) := fun _ _ _ _ => by
 kernel_rfl
theorem s_l01Rest_l2_ok : LoopOK s_l01Rest_V s_l01Rest_A (loopAt s_l01Rest_b 0) s_l01Rest_l2_L := loopOK_of fun s e s' h => by
 generalize hs : restrict s_l01Rest_l2_L.kp s = s1 at h
 have h : (s_l01Rest_l2_D s1).run some = some (e, s') := h
 obtain ⟨d2, e1, h_0⟩ := asImmZ_spec h
 obtain ⟨d4, e3, h_1⟩ := asImmZ_spec h_0
 obtain ⟨d6, e5, h_2⟩ := asImmZ_spec h_1
 obtain ⟨y, hy, hz⟩ := mat_ret h_2
 refine ⟨_, _, s_l01Rest_l2_mk d4 d6, s_l01Rest_l2_out d4 d6, s_l01Rest_l2 d4 d6, d2, y, ?_, hy, ?_, s_l01Rest_l2_step d4 d6⟩
 ·subst hs; exact restrict_eq (T := [(0, (.imm true (.int .i64) d2)), (1, (.imm true (.int .i64) d4)), (5, (.imm true (.int .i64) d6))]) (U := []) rfl rfl ⟨e1, e3, e5, trivial⟩ trivial
 ·exact Option.some.inj hz
noncomputable def s_l01Rest_I : FnI := ⟨s_l01Rest_b, Try.f139.results.toList, Try.f139.resultTypes.toList, s_l01Rest_A⟩
noncomputable def s_l01Rest_out (_p0 : Int) (_p1 : Int) : Int → CallOut := fun r => ⟨(.imm true (.int .i64) r), [], []⟩
set_option maxRecDepth 100000 in
theorem s_l01Rest_eq : ∀ (p0 : Int) (p1 : Int), denFn s_l01Rest_V s_l01Rest_I ⟨[(.imm true (.int .i64) p0), (.imm true (.int .i64) p1)], []⟩ = (s_l01Rest p0 p1).run fun r => some (s_l01Rest_out p0 p1 r) := fun _ _ => by kernel_rfl
noncomputable def s_l01Rest_G (av : List AV) (rs : List Root) : Tre CallOut :=
 asCons av fun a0_ av0 =>
 asCons av0 fun a1_ av1 =>
 asEnd av1 <|
 asEnd rs <|
 asImmZ true (.int .i64) a0_ fun d1 =>
 asImmZ true (.int .i64) a1_ fun d2 =>
 .mat (s_l01Rest_F d1 d2) fun r => .ret (s_l01Rest_out d1 d2 r)
noncomputable def s_l01Rest_c : Ctr := ⟨[], fun ci => s_l01Rest_G ci.args ci.roots, false⟩
theorem s_l01Rest_env : EnvOK Try.prog .none s_l01Rest_V := (envOK_cons s_l01Degree_ok ent138 envOK_nil)
set_option maxRecDepth 100000 in
theorem s_l01Rest_ok : Contract Try.prog .none 139 s_l01Rest_c := by
 have hl : LoopsOK s_l01Rest_V s_l01Rest_A s_l01Rest_b := (loopsOK_all (n := 1) (by kernel_rfl) fun k hk => by
   match k, hk with
   | 0, _ => exact loopOK_at (id := 2) (L := s_l01Rest_l2_L) (by kernel_rfl) (by kernel_rfl) s_l01Rest_l2_ok)
 refine (contract_of (F := s_l01Rest_I) tau_tys s_l01Rest_env Try.func139 (by kernel_rfl) (by kernel_rfl) (by kernel_rfl) hl []).weaken ?_
 rintro ⟨av, rs⟩ co h
 have h : (s_l01Rest_G av rs).run some = some co := h
 obtain ⟨a0_, av0, rfl, h_0⟩ := asCons_spec h
 obtain ⟨a1_, av1, rfl, h_1⟩ := asCons_spec h_0
 obtain ⟨rfl, h_2⟩ := asEnd_spec h_1
 obtain ⟨rfl, h_3⟩ := asEnd_spec h_2
 obtain ⟨d1, rfl, h_4⟩ := asImmZ_spec h_3
 obtain ⟨d2, rfl, h_5⟩ := asImmZ_spec h_4
 exact fin_mat (s_l01Rest_eq d1 d2) h_5
end Go.Proofs.Ytkgekgfmnhccmaa

namespace Go.Proofs.Ytkgekgfmnhccmaa
open Go Go.Abs Go.Proofs
noncomputable def s_l01Irreducible_l5 (h5_0_0 : Int) (h5_0_1 : Int) : Int → Tre (Int ⊕ (Bool ⊕ Unit)) := fun s5 =>
 .mat (s_l01Degree_F s5) fun r2 =>
 .cond (decide (r2 < h5_0_1))
  (.mat (s_l01Rest_F h5_0_0 s5) fun r3 =>
  .cond (decide (r3 = 0))
   (.ret (.inr (.inl false)))
   (.ret (.inl (iwrap .i64 (s5 + 1)))))
  (.ret (.inr (.inr ())))
noncomputable def s_l01Irreducible (p0 : Int) : Tre Bool :=
 .mat (s_l01Degree_F p0) fun r1 =>
 .cond (decide (r1 < 1))
  (.ret false)
  (.cond (decide (r1 > 5))
   (.ret false)
   (.mat (loopF (s_l01Irreducible_l5 p0 r1) 2) fun l4 =>
   .alt l4
    (fun a5 =>
     .ret a5)
    (fun _ =>
     .ret true)))
noncomputable def s_l01Irreducible_F (p0 : Int) : Option Bool := (s_l01Irreducible p0).run some
noncomputable def s_l01Irreducible_V : Env := ⟨tau, [(138, s_l01Degree_c), (139, s_l01Rest_c)], []⟩
noncomputable def s_l01Irreducible_b : Code := (Try.f160.body).getD .skip
noncomputable def s_l01Irreducible_l5_mk (h5_0_0 : Int) (h5_0_1 : Int) : Int → St := fun x => stOf [(0, (.imm true (.int .i64) h5_0_0)), (3, (.imm true (.int .i64) h5_0_1)), (4, (.imm true (.int .i64) x))] []
noncomputable def s_l01Irreducible_l5_out (_h5_0_0 : Int) (_h5_0_1 : Int) : (Bool ⊕ Unit) → Ex × St
 | .inl x => (.ret, stOf [(2, (.imm true .bool x))] [])
 | .inr x => (.exit 0, stOf [(2, .dead)] [])
noncomputable def s_l01Irreducible_l5_D (s : St) : Tre (Ex × St) :=
 asImmZ true (.int .i64) (s.tmps 0) fun d2 =>
 asImmZ true (.int .i64) (s.tmps 3) fun d4 =>
 asImmZ true (.int .i64) (s.tmps 4) fun d6 =>
 .mat (loopF (s_l01Irreducible_l5 d2 d4) d6) fun x => .alt x (fun a0 => .ret (s_l01Irreducible_l5_out d2 d4 (.inl a0))) (fun b0 => .ret (s_l01Irreducible_l5_out d2 d4 (.inr b0)))
noncomputable def s_l01Irreducible_l5_L : LoopI := ⟨([0, 3, 4], []), ([2], []), s_l01Irreducible_l5_D⟩
noncomputable def s_l01Irreducible_A : List (Nat × LoopI) := [(5, s_l01Irreducible_l5_L)]
set_option maxRecDepth 100000 in
theorem s_l01Irreducible_l5_step : ∀ (h5_0_0 : Int) (h5_0_1 : Int) (x : Int) (c : St → Option (Ex × St)), den s_l01Irreducible_V s_l01Irreducible_A (loopAt s_l01Irreducible_b 0) (s_l01Irreducible_l5_mk h5_0_0 h5_0_1 x) (roundK s_l01Irreducible_l5_L.kp s_l01Irreducible_l5_L.kx c) = (s_l01Irreducible_l5 h5_0_0 h5_0_1 x).run (roundR (s_l01Irreducible_l5_mk h5_0_0 h5_0_1) (s_l01Irreducible_l5_out h5_0_0 h5_0_1) c) := fun _ _ _ _ => by
 kernel_rfl
theorem s_l01Irreducible_l5_ok : LoopOK s_l01Irreducible_V s_l01Irreducible_A (loopAt s_l01Irreducible_b 0) s_l01Irreducible_l5_L := loopOK_of fun s e s' h => by
 generalize hs : restrict s_l01Irreducible_l5_L.kp s = s1 at h
 have h : (s_l01Irreducible_l5_D s1).run some = some (e, s') := h
 obtain ⟨d2, e1, h_0⟩ := asImmZ_spec h
 obtain ⟨d4, e3, h_1⟩ := asImmZ_spec h_0
 obtain ⟨d6, e5, h_2⟩ := asImmZ_spec h_1
 obtain ⟨y, hy, hz⟩ := mat_some h_2
 refine ⟨_, _, s_l01Irreducible_l5_mk d2 d4, s_l01Irreducible_l5_out d2 d4, s_l01Irreducible_l5 d2 d4, d6, y, ?_, hy, ?_, s_l01Irreducible_l5_step d2 d4⟩
 ·subst hs; exact restrict_eq (T := [(0, (.imm true (.int .i64) d2)), (3, (.imm true (.int .i64) d4)), (4, (.imm true (.int .i64) d6))]) (U := []) rfl rfl ⟨e1, e3, e5, trivial⟩ trivial
 ·rcases y with x | x <;> exact Option.some.inj hz
noncomputable def s_l01Irreducible_I : FnI := ⟨s_l01Irreducible_b, Try.f160.results.toList, Try.f160.resultTypes.toList, s_l01Irreducible_A⟩
noncomputable def s_l01Irreducible_out (_p0 : Int) : Bool → CallOut := fun r => ⟨(.imm true .bool r), [], []⟩
set_option maxRecDepth 100000 in
theorem s_l01Irreducible_eq : ∀ (p0 : Int), denFn s_l01Irreducible_V s_l01Irreducible_I ⟨[(.imm true (.int .i64) p0)], []⟩ = (s_l01Irreducible p0).run fun r => some (s_l01Irreducible_out p0 r) := fun _ => by kernel_rfl
noncomputable def s_l01Irreducible_G (av : List AV) (rs : List Root) : Tre CallOut :=
 asCons av fun a0_ av0 =>
 asEnd av0 <|
 asEnd rs <|
 asImmZ true (.int .i64) a0_ fun d1 =>
 .mat (s_l01Irreducible_F d1) fun r => .ret (s_l01Irreducible_out d1 r)
noncomputable def s_l01Irreducible_c : Ctr := ⟨[], fun ci => s_l01Irreducible_G ci.args ci.roots, false⟩
theorem s_l01Irreducible_env : EnvOK Try.prog .none s_l01Irreducible_V := (envOK_cons s_l01Degree_ok ent138 (envOK_cons s_l01Rest_ok ent139 envOK_nil))
set_option maxRecDepth 100000 in
theorem s_l01Irreducible_ok : Contract Try.prog .none 160 s_l01Irreducible_c := by
 have hl : LoopsOK s_l01Irreducible_V s_l01Irreducible_A s_l01Irreducible_b := (loopsOK_all (n := 1) (by kernel_rfl) fun k hk => by
   match k, hk with
   | 0, _ => exact loopOK_at (id := 5) (L := s_l01Irreducible_l5_L) (by kernel_rfl) (by kernel_rfl) s_l01Irreducible_l5_ok)
 refine (contract_of (F := s_l01Irreducible_I) tau_tys s_l01Irreducible_env Try.func160 (by kernel_rfl) (by kernel_rfl) (by kernel_rfl) hl []).weaken ?_
 rintro ⟨av, rs⟩ co h
 have h : (s_l01Irreducible_G av rs).run some = some co := h
 obtain ⟨a0_, av0, rfl, h_0⟩ := asCons_spec h
 obtain ⟨rfl, h_1⟩ := asEnd_spec h_0
 obtain ⟨rfl, h_2⟩ := asEnd_spec h_1
 obtain ⟨d1, rfl, h_3⟩ := asImmZ_spec h_2
 exact fin_mat (s_l01Irreducible_eq d1) h_3
end Go.Proofs.Ytkgekgfmnhccmaa

namespace Go.Proofs.Ytkgekgfmnhccmaa
open Go Go.Abs Go.Proofs
noncomputable def s_IsIrreducible (p0 : Int) : Tre Bool :=
 .cond (decide (p0 > 0))
  (.cond (decide (p0 < 64))
   (.mat (s_l01Irreducible_F p0) fun r1 =>
   .ret r1)
   (.ret false))
  (.ret false)
noncomputable def s_IsIrreducible_F (p0 : Int) : Option Bool := (s_IsIrreducible p0).run some
noncomputable def s_IsIrreducible_V : Env := ⟨tau, [(160, s_l01Irreducible_c)], []⟩
noncomputable def s_IsIrreducible_b : Code := (Try.f137.body).getD .skip
noncomputable def s_IsIrreducible_I : FnI := ⟨s_IsIrreducible_b, Try.f137.results.toList, Try.f137.resultTypes.toList, []⟩
noncomputable def s_IsIrreducible_out (_p0 : Int) : Bool → CallOut := fun r => ⟨(.imm true .bool r), [], []⟩
set_option maxRecDepth 100000 in
theorem s_IsIrreducible_eq : ∀ (p0 : Int), denFn s_IsIrreducible_V s_IsIrreducible_I ⟨[(.imm true (.int .i64) p0)], []⟩ = (s_IsIrreducible p0).run fun r => some (s_IsIrreducible_out p0 r) := fun _ => by kernel_rfl
noncomputable def s_IsIrreducible_G (av : List AV) (rs : List Root) : Tre CallOut :=
 asCons av fun a0_ av0 =>
 asEnd av0 <|
 asEnd rs <|
 asImmZ true (.int .i64) a0_ fun d1 =>
 .mat (s_IsIrreducible_F d1) fun r => .ret (s_IsIrreducible_out d1 r)
noncomputable def s_IsIrreducible_c : Ctr := ⟨[], fun ci => s_IsIrreducible_G ci.args ci.roots, false⟩
theorem s_IsIrreducible_env : EnvOK Try.prog .none s_IsIrreducible_V := (envOK_cons s_l01Irreducible_ok ent160 envOK_nil)
set_option maxRecDepth 100000 in
theorem s_IsIrreducible_ok : Contract Try.prog .none 137 s_IsIrreducible_c := by
 have hl : LoopsOK s_IsIrreducible_V [] s_IsIrreducible_b := loopsOK_nil (by kernel_rfl)
 refine (contract_of (F := s_IsIrreducible_I) tau_tys s_IsIrreducible_env Try.func137 (by kernel_rfl) (by kernel_rfl) (by kernel_rfl) hl []).weaken ?_
 rintro ⟨av, rs⟩ co h
 have h : (s_IsIrreducible_G av rs).run some = some co := h
 obtain ⟨a0_, av0, rfl, h_0⟩ := asCons_spec h
 obtain ⟨rfl, h_1⟩ := asEnd_spec h_0
 obtain ⟨rfl, h_2⟩ := asEnd_spec h_1
 obtain ⟨d1, rfl, h_3⟩ := asImmZ_spec h_2
 exact fin_mat (s_IsIrreducible_eq d1) h_3
end Go.Proofs.Ytkgekgfmnhccmaa

namespace Go.Proofs.Ytkgekgfmnhccmaa
open Go Go.Abs Go.Proofs
noncomputable def s_l01Ok (p0 : (Int × (Int × Unit))) : Tre Bool :=
 .cond (inR p0.1 1 5)
  (.mat (s_IsIrreducible_F p0.2.1) fun r1 =>
  .cond r1
   (.mat (s_l01Degree_F p0.2.1) fun r2 =>
   .ret (decide (r2 = p0.1)))
   (.ret false))
  (.ret false)
noncomputable def s_l01Ok_F (p0 : (Int × (Int × Unit))) : Option Bool := (s_l01Ok p0).run some
-- more
set_option maxRecDepth 100000 in
theorem s_l01Ok_is (f : Int × Int × Unit) : s_l01Ok_F f = some (fieldOk f) := by
 refine field_of (I := fun _ => none) (D := fun _ => none) ?_ ?_ (by kernel_rfl) f
 ·intro f h
  unfold s_l01Ok_F s_l01Ok
  rw [Tre.run_cond, h]; rfl
 ·intro f h
  unfold s_l01Ok_F s_l01Ok
  rw [Tre.run_cond]
  have : s_IsIrreducible_F f.2.1 = some false := by
   unfold s_IsIrreducible_F s_IsIrreducible
   rw [Tre.run_cond]
   by_cases h1 : f.2.1 > 0
   ·rw [decide_eq_true h1, cond_true, Tre.run_cond, decide_eq_false (by omega)]; rfl
   ·rw [decide_eq_false h1]; rfl
  rw [run_some_mat this]
  cases inR f.1 1 5 <;> rfl
noncomputable def s_l01Ok_V : Env := ⟨tau, [(96, s_l00In_c), (137, s_IsIrreducible_c), (138, s_l01Degree_c)], []⟩
noncomputable def s_l01Ok_b : Code := (Try.f95.body).getD .skip
noncomputable def s_l01Ok_I : FnI := ⟨s_l01Ok_b, Try.f95.results.toList, Try.f95.resultTypes.toList, []⟩
noncomputable def s_l01Ok_out (_p0 : (Int × (Int × Unit))) : Bool → CallOut := fun r => ⟨(.imm true .bool r), [], []⟩
set_option maxRecDepth 100000 in
theorem s_l01Ok_eq : ∀ (p0 : (Int × (Int × Unit))), denFn s_l01Ok_V s_l01Ok_I ⟨[(.imm true kField p0)], []⟩ = (s_l01Ok p0).run fun r => some (s_l01Ok_out p0 r) := fun _ => by kernel_rfl
noncomputable def s_l01Ok_G (av : List AV) (rs : List Root) : Tre CallOut :=
 asCons av fun a0_ av0 =>
 asEnd av0 <|
 asEnd rs <|
 asImmZ true kField a0_ fun d1 =>
 .mat (s_l01Ok_F d1) fun r => .ret (s_l01Ok_out d1 r)
noncomputable def s_l01Ok_c : Ctr := ⟨[], fun ci => s_l01Ok_G ci.args ci.roots, false⟩
theorem s_l01Ok_env : EnvOK Try.prog .none s_l01Ok_V := (envOK_cons s_l00In_ok ent96 (envOK_cons s_IsIrreducible_ok ent137 (envOK_cons s_l01Degree_ok ent138 envOK_nil)))
set_option maxRecDepth 100000 in
theorem s_l01Ok_ok : Contract Try.prog .none 95 s_l01Ok_c := by
 have hl : LoopsOK s_l01Ok_V [] s_l01Ok_b := loopsOK_nil (by kernel_rfl)
 refine (contract_of (F := s_l01Ok_I) tau_tys s_l01Ok_env Try.func95 (by kernel_rfl) (by kernel_rfl) (by kernel_rfl) hl []).weaken ?_
 rintro ⟨av, rs⟩ co h
 have h : (s_l01Ok_G av rs).run some = some co := h
 obtain ⟨a0_, av0, rfl, h_0⟩ := asCons_spec h
 obtain ⟨rfl, h_1⟩ := asEnd_spec h_0
 obtain ⟨rfl, h_2⟩ := asEnd_spec h_1
 obtain ⟨d1, rfl, h_3⟩ := asImmZ_spec h_2
 exact fin_mat (s_l01Ok_eq d1) h_3
end Go.Proofs.Ytkgekgfmnhccmaa

namespace Go.Proofs.Ytkgekgfmnhccmaa
open Go Go.Abs Go.Proofs
noncomputable def s_l00Rises_l2 (h2_0_0 : (List Int)) (h2_0_1 : Int) (h2_0_2 : Int) : Int → Tre (Int ⊕ (Bool ⊕ Unit)) := fun s2 =>
 .cond (decide (s2 < (h2_0_0.length : Int)))
  (.ite (0 ≤ s2 ∧ s2 < (h2_0_0.length : Int)) <|
  .mat (h2_0_0[s2.toNat]?) fun x1 =>
  .cond (!(inR x1 h2_0_1 h2_0_2))
   (.ret (.inr (.inl false)))
   (.cond (decide (s2 > 0))
    (.ite (0 ≤ iwrap .i64 (s2 - 1) ∧ iwrap .i64 (s2 - 1) < (h2_0_0.length : Int)) <|
    .mat (h2_0_0[(iwrap .i64 (s2 - 1)).toNat]?) fun x2 =>
    .ite (0 ≤ s2 ∧ s2 < (h2_0_0.length : Int)) <|
    .mat (h2_0_0[s2.toNat]?) fun x3 =>
    .cond (decide (x2 ≥ x3))
     (.ret (.inr (.inl false)))
     (.ret (.inl (iwrap .i64 (s2 + 1)))))
    (.ret (.inl (iwrap .i64 (s2 + 1))))))
  (.ret (.inr (.inr ())))
noncomputable def s_l00Rises (p0 : (List Int)) (p1 : Int) (p2 : Int) : Tre Bool :=
 .mat (loopF (s_l00Rises_l2 p0 p1 p2) 0) fun l4 =>
 .alt l4
  (fun a5 =>
   .ret a5)
  (fun _ =>
   .ret true)
noncomputable def s_l00Rises_F (p0 : (List Int)) (p1 : Int) (p2 : Int) : Option Bool := (s_l00Rises p0 p1 p2).run some
-- more
theorem s_l00Rises_two (a b lo hi : Int) : s_l00Rises_F [a, b] lo hi = some (inR a lo hi && (inR b lo hi && decide (a < b))) := by
 unfold s_l00Rises_F s_l00Rises
 rw [Tre.run_mat, all_loop (xs := [a, b]) (fun i x => inR x lo hi && (decide (i = 0) || decide (a < x))) (.inl false) (.inr ())]
 ·simp only [allI, Nat.zero_add, decide_true, Bool.true_or, Bool.and_true, show decide (1 = 0) = false from rfl, Bool.false_or]
  generalize (inR a lo hi && (inR b lo hi && decide (a < b))) = z
  cases z <;> rfl
 ·intro i x hx _
  unfold s_l00Rises_l2
  rw [run_inb hx, Tre.run_cond]
  cases inR x lo hi
  ·rfl
  rw [Bool.not_true, cond_false, Tre.run_cond]
  match i, hx with
  | 0, _ => rfl
  | 1, hx =>
   rw [decide_eq_true (by decide), cond_true, show iwrap .i64 ((1 : Nat) - 1 : Int) = ((0 : Nat) : Int) from by decide, run_at (x := a) rfl, run_at hx, Tre.run_cond]
   by_cases h : a < x
   ·rw [decide_eq_false (by omega), decide_eq_true h]; rfl
   ·rw [decide_eq_true (by omega), decide_eq_false h]; rfl
 ·unfold s_l00Rises_l2
  exact run_out
noncomputable def s_l00Rises_V : Env := ⟨tau, [(96, s_l00In_c)], []⟩
noncomputable def s_l00Rises_b : Code := (Try.f97.body).getD .skip
noncomputable def s_l00Rises_l2_mk (z2_0 : Bool) (h2_0_0 : (List Int)) (h2_0_1 : Int) (h2_0_2 : Int) : Int → St := fun x => stOf [(0, (.imm z2_0 (.sl (.int .i64)) h2_0_0)), (1, (.imm true (.int .i64) h2_0_1)), (2, (.imm true (.int .i64) h2_0_2)), (7, (.imm true (.int .i64) x))] []
noncomputable def s_l00Rises_l2_out (_z2_0 : Bool) (_h2_0_0 : (List Int)) (_h2_0_1 : Int) (_h2_0_2 : Int) : (Bool ⊕ Unit) → Ex × St
 | .inl x => (.ret, stOf [(6, (.imm true .bool x))] [])
 | .inr x => (.exit 0, stOf [(6, .dead)] [])
noncomputable def s_l00Rises_l2_D (s : St) : Tre (Ex × St) :=
 asImm (.sl (.int .i64)) (s.tmps 0) fun z3 d2 =>
 asImmZ true (.int .i64) (s.tmps 1) fun d5 =>
 asImmZ true (.int .i64) (s.tmps 2) fun d7 =>
 asImmZ true (.int .i64) (s.tmps 7) fun d9 =>
 .mat (loopF (s_l00Rises_l2 d2 d5 d7) d9) fun x => .alt x (fun a0 => .ret (s_l00Rises_l2_out z3 d2 d5 d7 (.inl a0))) (fun b0 => .ret (s_l00Rises_l2_out z3 d2 d5 d7 (.inr b0)))
noncomputable def s_l00Rises_l2_L : LoopI := ⟨([0, 1, 2, 7], []), ([6], []), s_l00Rises_l2_D⟩
noncomputable def s_l00Rises_A : List (Nat × LoopI) := [(2, s_l00Rises_l2_L)]
set_option maxRecDepth 100000 in
theorem s_l00Rises_l2_step : ∀ (z2_0 : Bool) (h2_0_0 : (List Int)) (h2_0_1 : Int) (h2_0_2 : Int) (x : Int) (c : St → Option (Ex × St)), den s_l00Rises_V s_l00Rises_A (loopAt s_l00Rises_b 0) (s_l00Rises_l2_mk z2_0 h2_0_0 h2_0_1 h2_0_2 x) (roundK s_l00Rises_l2_L.kp s_l00Rises_l2_L.kx c) = (s_l00Rises_l2 h2_0_0 h2_0_1 h2_0_2 x).run (roundR (s_l00Rises_l2_mk z2_0 h2_0_0 h2_0_1 h2_0_2) (s_l00Rises_l2_out z2_0 h2_0_0 h2_0_1 h2_0_2) c) := fun _ _ _ _ _ _ => by
 kernel_rfl
theorem s_l00Rises_l2_ok : LoopOK s_l00Rises_V s_l00Rises_A (loopAt s_l00Rises_b 0) s_l00Rises_l2_L := loopOK_of fun s e s' h => by
 generalize hs : restrict s_l00Rises_l2_L.kp s = s1 at h
 have h : (s_l00Rises_l2_D s1).run some = some (e, s') := h
 obtain ⟨z3, d2, e1, h_0⟩ := asImm_spec h
 obtain ⟨d5, e4, h_1⟩ := asImmZ_spec h_0
 obtain ⟨d7, e6, h_2⟩ := asImmZ_spec h_1
 obtain ⟨d9, e8, h_3⟩ := asImmZ_spec h_2
 obtain ⟨y, hy, hz⟩ := mat_some h_3
 refine ⟨_, _, s_l00Rises_l2_mk z3 d2 d5 d7, s_l00Rises_l2_out z3 d2 d5 d7, s_l00Rises_l2 d2 d5 d7, d9, y, ?_, hy, ?_, s_l00Rises_l2_step z3 d2 d5 d7⟩
 ·subst hs; exact restrict_eq (T := [(0, (.imm z3 (.sl (.int .i64)) d2)), (1, (.imm true (.int .i64) d5)), (2, (.imm true (.int .i64) d7)), (7, (.imm true (.int .i64) d9))]) (U := []) rfl rfl ⟨e1, e4, e6, e8, trivial⟩ trivial
 ·rcases y with x | x <;> exact Option.some.inj hz
noncomputable def s_l00Rises_I : FnI := ⟨s_l00Rises_b, Try.f97.results.toList, Try.f97.resultTypes.toList, s_l00Rises_A⟩
noncomputable def s_l00Rises_out (_zp0 : Bool) (_p0 : (List Int)) (_p1 : Int) (_p2 : Int) : Bool → CallOut := fun r => ⟨(.imm true .bool r), [], []⟩
set_option maxRecDepth 100000 in
theorem s_l00Rises_eq : ∀ (zp0 : Bool) (p0 : (List Int)) (p1 : Int) (p2 : Int), denFn s_l00Rises_V s_l00Rises_I ⟨[(.imm zp0 (.sl (.int .i64)) p0), (.imm true (.int .i64) p1), (.imm true (.int .i64) p2)], []⟩ = (s_l00Rises p0 p1 p2).run fun r => some (s_l00Rises_out zp0 p0 p1 p2 r) := fun _ _ _ _ => by kernel_rfl
noncomputable def s_l00Rises_G (av : List AV) (rs : List Root) : Tre CallOut :=
 asCons av fun a0_ av0 =>
 asCons av0 fun a1_ av1 =>
 asCons av1 fun a2_ av2 =>
 asEnd av2 <|
 asEnd rs <|
 asImm (.sl (.int .i64)) a0_ fun z2 d1 =>
 asImmZ true (.int .i64) a1_ fun d3 =>
 asImmZ true (.int .i64) a2_ fun d4 =>
 .mat (s_l00Rises_F d1 d3 d4) fun r => .ret (s_l00Rises_out z2 d1 d3 d4 r)
noncomputable def s_l00Rises_c : Ctr := ⟨[], fun ci => s_l00Rises_G ci.args ci.roots, false⟩
theorem s_l00Rises_env : EnvOK Try.prog .none s_l00Rises_V := (envOK_cons s_l00In_ok ent96 envOK_nil)
set_option maxRecDepth 100000 in
theorem s_l00Rises_ok : Contract Try.prog .none 97 s_l00Rises_c := by
 have hl : LoopsOK s_l00Rises_V s_l00Rises_A s_l00Rises_b := (loopsOK_all (n := 1) (by kernel_rfl) fun k hk => by
   match k, hk with
   | 0, _ => exact loopOK_at (id := 2) (L := s_l00Rises_l2_L) (by kernel_rfl) (by kernel_rfl) s_l00Rises_l2_ok)
 refine (contract_of (F := s_l00Rises_I) tau_tys s_l00Rises_env Try.func97 (by kernel_rfl) (by kernel_rfl) (by kernel_rfl) hl []).weaken ?_
 rintro ⟨av, rs⟩ co h
 have h : (s_l00Rises_G av rs).run some = some co := h
 obtain ⟨a0_, av0, rfl, h_0⟩ := asCons_spec h
 obtain ⟨a1_, av1, rfl, h_1⟩ := asCons_spec h_0
 obtain ⟨a2_, av2, rfl, h_2⟩ := asCons_spec h_1
 obtain ⟨rfl, h_3⟩ := asEnd_spec h_2
 obtain ⟨rfl, h_4⟩ := asEnd_spec h_3
 obtain ⟨z2, d1, rfl, h_5⟩ := asImm_spec h_4
 obtain ⟨d3, rfl, h_6⟩ := asImmZ_spec h_5
 obtain ⟨d4, rfl, h_7⟩ := asImmZ_spec h_6
 exact fin_mat (s_l00Rises_eq z2 d1 d3 d4) h_7
end Go.Proofs.Ytkgekgfmnhccmaa

namespace Go.Proofs.Ytkgekgfmnhccmaa
open Go Go.Abs Go.Proofs
noncomputable def s_l07Into_e270_l3 (h3_0_0 : TNet) (h3_0_1 : Int) : (Int × (List Int)) → Tre ((Int × (List Int)) ⊕ (List Int)) := fun s3 =>
 .cond (decide (s3.1 < (h3_0_0.2.2.2.1.length : Int)))
  (.ite (0 ≤ s3.1 ∧ s3.1 < (h3_0_0.2.2.2.1.length : Int)) <|
  .mat (h3_0_0.2.2.2.1[s3.1.toNat]?) fun x1 =>
  .ite ((0 : Int) ≤ 1 ∧ (1 : Int) < (x1.length : Int)) <|
  .mat (x1[1]?) fun x2 =>
  .cond (decide (x2 = h3_0_1))
   (.ite ((s3.2.length + 1) * 8 ≤ appendMax ∧ 1 ≤ 8) <|
   .ret (.inl (iwrap .i64 (s3.1 + 1), s3.2 ++ ([s3.1]))))
   (.ret (.inl (iwrap .i64 (s3.1 + 1), s3.2))))
  (.ret (.inr s3.2))
noncomputable def s_l07Into_e270 (p0 : TNet) (p1 : Int) : Tre (List Int) :=
 .mat (loopF (s_l07Into_e270_l3 p0 p1) (0, [])) fun l3 =>
 .ret l3
noncomputable def s_l07Into_e270_F (p0 : TNet) (p1 : Int) : Option (List Int) := (s_l07Into_e270 p0 p1).run some
-- more
theorem s_l07Into_is (n : TN6) (hl : n.2.2.2.1.length ≤ 14) (h2 : ∀ e ∈ n.2.2.2.1, e.length = 2) (node : Int) : s_l07Into_e270_F n node = some (intoV n.2.2.2.1 node) := by
 unfold s_l07Into_e270_F s_l07Into_e270
 rw [run_some_mat (pick_loop (xs := n.2.2.2.1) (fun i e => if e1 e = node then some (i : Int) else none) ?_ ?_)]
 ·rfl
 ·intro i acc e he hacc
  have hi : i < n.2.2.2.1.length := (List.getElem?_eq_some_iff.1 he).1
  obtain ⟨a, b, rfl⟩ := len2 (h2 e (List.mem_of_getElem? he))
  unfold s_l07Into_e270_l3
  rw [run_inb he, Tre.run_ite, if_pos ⟨by decide, by simp⟩, Tre.run_mat]
  dsimp only
  simp only [List.getElem?_cons_succ, List.getElem?_cons_zero, Option.bind_some]
  rw [Tre.run_cond, show e1 [a, b] = b from rfl, iwrap_succ (by omega)]
  by_cases h : b = node
  ·rw [decide_eq_true h, cond_true, Tre.run_ite, if_pos ⟨by unfold appendMax; omega, by decide⟩, if_pos h]; rfl
  ·rw [decide_eq_false h, cond_false, if_neg h]; simp [Tre.run_ret]
 ·intro acc
  unfold s_l07Into_e270_l3
  exact run_out
noncomputable def s_l07Into_e270_V : Env := ⟨tau, [], []⟩
noncomputable def s_l07Into_e270_b : Code := (Try.f47.body).getD .skip
noncomputable def s_l07Into_e270_l3_mk (z3_0 : Bool) (h3_0_0 : TNet) (h3_0_1 : Int) : (Int × (List Int)) → St := fun x => stOf [(0, (.iptr z3_0 (.sl kNet) ([h3_0_0]) [.idx 0])), (1, (.imm true (.int .i64) h3_0_1)), (5, (.ref (7, 0) [])), (6, (.imm true (.int .i64) x.1))] [((7, 0), some ⟨false, (.sl (.int .i64)), .own, x.2⟩)]
noncomputable def s_l07Into_e270_l3_out (_z3_0 : Bool) (_h3_0_0 : TNet) (_h3_0_1 : Int) : (List Int) → Ex × St := fun x => (.exit 0, stOf [(5, (.ref (7, 0) []))] [((7, 0), some ⟨false, (.sl (.int .i64)), .own, x⟩)])
noncomputable def s_l07Into_e270_l3_D (s : St) : Tre (Ex × St) :=
 asIptr kNet (s.tmps 0) fun z2 d3 =>
 asImmZ true (.int .i64) (s.tmps 1) fun d5 =>
 asRef (7, 0) [] (s.tmps 5) <|
 asImmZ true (.int .i64) (s.tmps 6) fun d8 =>
 asRoot false (.sl (.int .i64)) (s.roots (7, 0)) fun m10 d11 =>
 asM .own m10 <|
 .mat (loopF (s_l07Into_e270_l3 d3 d5) (d8, d11)) fun x => .ret (s_l07Into_e270_l3_out z2 d3 d5 x)
noncomputable def s_l07Into_e270_l3_L : LoopI := ⟨([0, 1, 5, 6], [(7, 0)]), ([5], [(7, 0)]), s_l07Into_e270_l3_D⟩
noncomputable def s_l07Into_e270_A : List (Nat × LoopI) := [(3, s_l07Into_e270_l3_L)]
set_option maxRecDepth 100000 in
theorem s_l07Into_e270_l3_step : ∀ (z3_0 : Bool) (h3_0_0 : TNet) (h3_0_1 : Int) (x : (Int × (List Int))) (c : St → Option (Ex × St)), den s_l07Into_e270_V s_l07Into_e270_A (loopAt s_l07Into_e270_b 0) (s_l07Into_e270_l3_mk z3_0 h3_0_0 h3_0_1 x) (roundK s_l07Into_e270_l3_L.kp s_l07Into_e270_l3_L.kx c) = (s_l07Into_e270_l3 h3_0_0 h3_0_1 x).run (roundR (s_l07Into_e270_l3_mk z3_0 h3_0_0 h3_0_1) (s_l07Into_e270_l3_out z3_0 h3_0_0 h3_0_1) c) := fun _ _ _ _ _ => by
 kernel_rfl
theorem s_l07Into_e270_l3_ok : LoopOK s_l07Into_e270_V s_l07Into_e270_A (loopAt s_l07Into_e270_b 0) s_l07Into_e270_l3_L := loopOK_of fun s e s' h => by
 generalize hs : restrict s_l07Into_e270_l3_L.kp s = s1 at h
 have h : (s_l07Into_e270_l3_D s1).run some = some (e, s') := h
 obtain ⟨z2, d3, e1, h_0⟩ := asIptr_spec h
 obtain ⟨d5, e4, h_1⟩ := asImmZ_spec h_0
 obtain ⟨e6, h_2⟩ := asRef_spec h_1
 obtain ⟨d8, e7, h_3⟩ := asImmZ_spec h_2
 obtain ⟨m10, d11, e9, h_4⟩ := asRoot_spec h_3
 obtain ⟨rfl, h_5⟩ := asM_spec h_4
 obtain ⟨y, hy, hz⟩ := mat_ret h_5
 refine ⟨_, _, s_l07Into_e270_l3_mk z2 d3 d5, s_l07Into_e270_l3_out z2 d3 d5, s_l07Into_e270_l3 d3 d5, (d8, d11), y, ?_, hy, ?_, s_l07Into_e270_l3_step z2 d3 d5⟩
 ·subst hs; exact restrict_eq (T := [(0, (.iptr z2 (.sl kNet) ([d3]) [.idx 0])), (1, (.imm true (.int .i64) d5)), (5, (.ref (7, 0) [])), (6, (.imm true (.int .i64) d8))]) (U := [((7, 0), some ⟨false, (.sl (.int .i64)), .own, d11⟩)]) rfl rfl ⟨e1, e4, e6, e7, trivial⟩ ⟨e9, trivial⟩
 ·exact Option.some.inj hz
noncomputable def s_l07Into_e270_I : FnI := ⟨s_l07Into_e270_b, Try.f47.results.toList, Try.f47.resultTypes.toList, s_l07Into_e270_A⟩
noncomputable def s_l07Into_e270_out (_zp0 : Bool) (_p0 : TNet) (_p1 : Int) : (List Int) → CallOut := fun r => ⟨(.ref (1, 0) []), [], [⟨false, (.sl (.int .i64)), .own, r⟩]⟩
set_option maxRecDepth 100000 in
theorem s_l07Into_e270_eq : ∀ (zp0 : Bool) (p0 : TNet) (p1 : Int), denFn s_l07Into_e270_V s_l07Into_e270_I ⟨[(.iptr zp0 (.sl kNet) ([p0]) [.idx 0]), (.imm true (.int .i64) p1)], []⟩ = (s_l07Into_e270 p0 p1).run fun r => some (s_l07Into_e270_out zp0 p0 p1 r) := fun _ _ _ => by kernel_rfl
noncomputable def s_l07Into_e270_G (av : List AV) (rs : List Root) : Tre CallOut :=
 asCons av fun a0_ av0 =>
 asCons av0 fun a1_ av1 =>
 asEnd av1 <|
 asEnd rs <|
 asIptr kNet a0_ fun z1 d2 =>
 asImmZ true (.int .i64) a1_ fun d3 =>
 .mat (s_l07Into_e270_F d2 d3) fun r => .ret (s_l07Into_e270_out z1 d2 d3 r)
noncomputable def s_l07Into_e270_c : Ctr := ⟨[0], fun ci => s_l07Into_e270_G ci.args ci.roots, false⟩
theorem s_l07Into_e270_env : EnvOK Try.prog .none s_l07Into_e270_V := envOK_nil
set_option maxRecDepth 100000 in
theorem s_l07Into_e270_ok : Contract Try.prog .none 47 s_l07Into_e270_c := by
 have hl : LoopsOK s_l07Into_e270_V s_l07Into_e270_A s_l07Into_e270_b := (loopsOK_all (n := 1) (by kernel_rfl) fun k hk => by
   match k, hk with
   | 0, _ => exact loopOK_at (id := 3) (L := s_l07Into_e270_l3_L) (by kernel_rfl) (by kernel_rfl) s_l07Into_e270_l3_ok)
 refine (contract_of (F := s_l07Into_e270_I) tau_tys s_l07Into_e270_env Try.func47 (by kernel_rfl) (by kernel_rfl) (by kernel_rfl) hl [0]).weaken ?_
 rintro ⟨av, rs⟩ co h
 have h : (s_l07Into_e270_G av rs).run some = some co := h
 obtain ⟨a0_, av0, rfl, h_0⟩ := asCons_spec h
 obtain ⟨a1_, av1, rfl, h_1⟩ := asCons_spec h_0
 obtain ⟨rfl, h_2⟩ := asEnd_spec h_1
 obtain ⟨rfl, h_3⟩ := asEnd_spec h_2
 obtain ⟨z1, d2, rfl, h_4⟩ := asIptr_spec h_3
 obtain ⟨d3, rfl, h_5⟩ := asImmZ_spec h_4
 exact fin_mat (s_l07Into_e270_eq z1 d2 d3) h_5
end Go.Proofs.Ytkgekgfmnhccmaa

namespace Go.Proofs.Ytkgekgfmnhccmaa
open Go Go.Abs Go.Proofs
noncomputable def s_l07Has_e270 (p0 : TNet) (p1 : Int) : Tre Int :=
 .cond (decide (p1 = 0))
  (.ret p0.2.2.1)
  (.mat (s_l07Into_e270_F p0 p1) fun r1 =>
  .ret (r1.length : Int))
noncomputable def s_l07Has_e270_F (p0 : TNet) (p1 : Int) : Option Int := (s_l07Has_e270 p0 p1).run some
-- more
theorem s_l07Has_is (n : TN6) (hl : n.2.2.2.1.length ≤ 14) (h2 : ∀ e ∈ n.2.2.2.1, e.length = 2) (node : Int) : s_l07Has_e270_F n node = some (hasV n node) := by
 unfold s_l07Has_e270_F s_l07Has_e270 hasV
 rw [Tre.run_cond, run_some_mat (s_l07Into_is n hl h2 node)]
 by_cases h : node = 0
 ·rw [decide_eq_true h, if_pos h]; rfl
 ·rw [decide_eq_false h, if_neg h]; rfl
noncomputable def s_l07Has_e270_V : Env := ⟨tau, [(47, s_l07Into_e270_c)], []⟩
noncomputable def s_l07Has_e270_b : Code := (Try.f60.body).getD .skip
noncomputable def s_l07Has_e270_I : FnI := ⟨s_l07Has_e270_b, Try.f60.results.toList, Try.f60.resultTypes.toList, []⟩
noncomputable def s_l07Has_e270_out (_zp0 : Bool) (_p0 : TNet) (_p1 : Int) : Int → CallOut := fun r => ⟨(.imm true (.int .i64) r), [], []⟩
set_option maxRecDepth 100000 in
theorem s_l07Has_e270_eq : ∀ (zp0 : Bool) (p0 : TNet) (p1 : Int), denFn s_l07Has_e270_V s_l07Has_e270_I ⟨[(.iptr zp0 (.sl kNet) ([p0]) [.idx 0]), (.imm true (.int .i64) p1)], []⟩ = (s_l07Has_e270 p0 p1).run fun r => some (s_l07Has_e270_out zp0 p0 p1 r) := fun _ _ _ => by kernel_rfl
noncomputable def s_l07Has_e270_G (av : List AV) (rs : List Root) : Tre CallOut :=
 asCons av fun a0_ av0 =>
 asCons av0 fun a1_ av1 =>
 asEnd av1 <|
 asEnd rs <|
 asIptr kNet a0_ fun z1 d2 =>
 asImmZ true (.int .i64) a1_ fun d3 =>
 .mat (s_l07Has_e270_F d2 d3) fun r => .ret (s_l07Has_e270_out z1 d2 d3 r)
noncomputable def s_l07Has_e270_c : Ctr := ⟨[0], fun ci => s_l07Has_e270_G ci.args ci.roots, false⟩
theorem s_l07Has_e270_env : EnvOK Try.prog .none s_l07Has_e270_V := (envOK_cons s_l07Into_e270_ok ent47 envOK_nil)
set_option maxRecDepth 100000 in
theorem s_l07Has_e270_ok : Contract Try.prog .none 60 s_l07Has_e270_c := by
 have hl : LoopsOK s_l07Has_e270_V [] s_l07Has_e270_b := loopsOK_nil (by kernel_rfl)
 refine (contract_of (F := s_l07Has_e270_I) tau_tys s_l07Has_e270_env Try.func60 (by kernel_rfl) (by kernel_rfl) (by kernel_rfl) hl [0]).weaken ?_
 rintro ⟨av, rs⟩ co h
 have h : (s_l07Has_e270_G av rs).run some = some co := h
 obtain ⟨a0_, av0, rfl, h_0⟩ := asCons_spec h
 obtain ⟨a1_, av1, rfl, h_1⟩ := asCons_spec h_0
 obtain ⟨rfl, h_2⟩ := asEnd_spec h_1
 obtain ⟨rfl, h_3⟩ := asEnd_spec h_2
 obtain ⟨z1, d2, rfl, h_4⟩ := asIptr_spec h_3
 obtain ⟨d3, rfl, h_5⟩ := asImmZ_spec h_4
 exact fin_mat (s_l07Has_e270_eq z1 d2 d3) h_5
end Go.Proofs.Ytkgekgfmnhccmaa

namespace Go.Proofs.Ytkgekgfmnhccmaa
open Go Go.Abs Go.Proofs
noncomputable def s_l01Size (p0 : (Int × (Int × Unit))) : Tre Int :=
 .ite (0 ≤ iwrap .u64 p0.1) <|
 let v1 := ishl .i64 1 (iwrap .u64 p0.1)
 .ret v1
noncomputable def s_l01Size_F (p0 : (Int × (Int × Unit))) : Option Int := (s_l01Size p0).run some
noncomputable def s_l01Size_V : Env := ⟨tau, [], []⟩
noncomputable def s_l01Size_b : Code := (Try.f86.body).getD .skip
noncomputable def s_l01Size_I : FnI := ⟨s_l01Size_b, Try.f86.results.toList, Try.f86.resultTypes.toList, []⟩
noncomputable def s_l01Size_out (_p0 : (Int × (Int × Unit))) : Int → CallOut := fun r => ⟨(.imm true (.int .i64) r), [], []⟩
set_option maxRecDepth 100000 in
theorem s_l01Size_eq : ∀ (p0 : (Int × (Int × Unit))), denFn s_l01Size_V s_l01Size_I ⟨[(.imm true kField p0)], []⟩ = (s_l01Size p0).run fun r => some (s_l01Size_out p0 r) := fun _ => by kernel_rfl
noncomputable def s_l01Size_G (av : List AV) (rs : List Root) : Tre CallOut :=
 asCons av fun a0_ av0 =>
 asEnd av0 <|
 asEnd rs <|
 asImmZ true kField a0_ fun d1 =>
 .mat (s_l01Size_F d1) fun r => .ret (s_l01Size_out d1 r)
noncomputable def s_l01Size_c : Ctr := ⟨[], fun ci => s_l01Size_G ci.args ci.roots, false⟩
theorem s_l01Size_env : EnvOK Try.prog .none s_l01Size_V := envOK_nil
set_option maxRecDepth 100000 in
theorem s_l01Size_ok : Contract Try.prog .none 86 s_l01Size_c := by
 have hl : LoopsOK s_l01Size_V [] s_l01Size_b := loopsOK_nil (by kernel_rfl)
 refine (contract_of (F := s_l01Size_I) tau_tys s_l01Size_env Try.func86 (by kernel_rfl) (by kernel_rfl) (by kernel_rfl) hl []).weaken ?_
 rintro ⟨av, rs⟩ co h
 have h : (s_l01Size_G av rs).run some = some co := h
 obtain ⟨a0_, av0, rfl, h_0⟩ := asCons_spec h
 obtain ⟨rfl, h_1⟩ := asEnd_spec h_0
 obtain ⟨rfl, h_2⟩ := asEnd_spec h_1
 obtain ⟨d1, rfl, h_3⟩ := asImmZ_spec h_2
 exact fin_mat (s_l01Size_eq d1) h_3
end Go.Proofs.Ytkgekgfmnhccmaa

namespace Go.Proofs.Ytkgekgfmnhccmaa
open Go Go.Abs Go.Proofs
noncomputable def s_l04Elements_l2 (h2_0_0 : (List Int)) (h2_0_2 : (Int × (Int × Unit))) : Int → Tre (Int ⊕ (Bool ⊕ Unit)) := fun s2 =>
 .cond (decide (s2 < (h2_0_0.length : Int)))
  (.ite (0 ≤ s2 ∧ s2 < (h2_0_0.length : Int)) <|
  .mat (h2_0_0[s2.toNat]?) fun x1 =>
  .mat (s_l01Size_F h2_0_2) fun r2 =>
  let v3 := inR x1 0 (iwrap .i64 (r2 - 1))
  .cond (!v3)
   (.ret (.inr (.inl false)))
   (.ret (.inl (iwrap .i64 (s2 + 1)))))
  (.ret (.inr (.inr ())))
noncomputable def s_l04Elements (p0 : (Int × (Int × Unit))) (p1 : (List Int)) : Tre Bool :=
 .mat (loopF (s_l04Elements_l2 p1 p0) 0) fun l4 =>
 .alt l4
  (fun a5 =>
   .ret a5)
  (fun _ =>
   .ret true)
noncomputable def s_l04Elements_F (p0 : (Int × (Int × Unit))) (p1 : (List Int)) : Option Bool := (s_l04Elements p0 p1).run some
-- more
theorem s_l01Size_is {f : TF3} (hf : fieldOk f = true) : s_l01Size_F f = some (ishl .i64 1 (iwrap .u64 f.1)) := by
 have := fieldOk_deg hf
 unfold s_l01Size_F s_l01Size
 rw [Tre.run_ite, if_pos (iwrap_u64_nonneg _)]
 rfl
theorem s_l04Elements_is {f : TF3} (hf : fieldOk f = true) (c : List Int) (hc : c.length < 4611686018427387904) : s_l04Elements_F f c = some (elsOk f c) := by
 unfold s_l04Elements_F s_l04Elements elsOk
 rw [Tre.run_mat, all_loop' (xs := c) (fun x => inR x 0 (topF f)) (.inl false) (.inr ())]
 ·generalize List.all _ _ = z
  cases z <;> rfl
 ·intro i x hx
  have hi : i < c.length := (List.getElem?_eq_some_iff.1 hx).1
  unfold s_l04Elements_l2
  rw [run_inb hx, run_some_mat (s_l01Size_is hf), topF_is hf]
  dsimp only
  rw [Tre.run_cond]
  cases inR x 0 (topF f)
  ·rfl
  ·simp only [Bool.not_true, cond_false, cond_true, Tre.run_ret, iwrap_succ (show i < 4611686018427387904 by omega)]
 ·unfold s_l04Elements_l2
  exact run_out
noncomputable def s_l04Elements_V : Env := ⟨tau, [(86, s_l01Size_c), (96, s_l00In_c)], []⟩
noncomputable def s_l04Elements_b : Code := (Try.f61.body).getD .skip
noncomputable def s_l04Elements_l2_mk (z2_0 : Bool) (h2_0_0 : (List Int)) (h2_0_2 : (Int × (Int × Unit))) : Int → St := fun x => stOf [(1, (.imm z2_0 (.sl (.int .i64)) h2_0_0)), (2, (.ptr (4, 0) [])), (5, (.imm true (.int .i64) x))] [((4, 0), some ⟨true, kField, .own, h2_0_2⟩)]
noncomputable def s_l04Elements_l2_out (_z2_0 : Bool) (_h2_0_0 : (List Int)) (_h2_0_2 : (Int × (Int × Unit))) : (Bool ⊕ Unit) → Ex × St
 | .inl x => (.ret, stOf [(4, (.imm true .bool x))] [])
 | .inr x => (.exit 0, stOf [(4, .dead)] [])
noncomputable def s_l04Elements_l2_D (s : St) : Tre (Ex × St) :=
 asImm (.sl (.int .i64)) (s.tmps 1) fun z3 d2 =>
 asPtr (4, 0) [] (s.tmps 2) <|
 asImmZ true (.int .i64) (s.tmps 5) fun d6 =>
 asRoot true kField (s.roots (4, 0)) fun m8 d9 =>
 asM .own m8 <|
 .mat (loopF (s_l04Elements_l2 d2 d9) d6) fun x => .alt x (fun a0 => .ret (s_l04Elements_l2_out z3 d2 d9 (.inl a0))) (fun b0 => .ret (s_l04Elements_l2_out z3 d2 d9 (.inr b0)))
noncomputable def s_l04Elements_l2_L : LoopI := ⟨([1, 2, 5], [(4, 0)]), ([4], []), s_l04Elements_l2_D⟩
noncomputable def s_l04Elements_A : List (Nat × LoopI) := [(2, s_l04Elements_l2_L)]
set_option maxRecDepth 100000 in
theorem s_l04Elements_l2_step : ∀ (z2_0 : Bool) (h2_0_0 : (List Int)) (h2_0_2 : (Int × (Int × Unit))) (x : Int) (c : St → Option (Ex × St)), den s_l04Elements_V s_l04Elements_A (loopAt s_l04Elements_b 0) (s_l04Elements_l2_mk z2_0 h2_0_0 h2_0_2 x) (roundK s_l04Elements_l2_L.kp s_l04Elements_l2_L.kx c) = (s_l04Elements_l2 h2_0_0 h2_0_2 x).run (roundR (s_l04Elements_l2_mk z2_0 h2_0_0 h2_0_2) (s_l04Elements_l2_out z2_0 h2_0_0 h2_0_2) c) := fun _ _ _ _ _ => by
 kernel_rfl
theorem s_l04Elements_l2_ok : LoopOK s_l04Elements_V s_l04Elements_A (loopAt s_l04Elements_b 0) s_l04Elements_l2_L := loopOK_of fun s e s' h => by
 generalize hs : restrict s_l04Elements_l2_L.kp s = s1 at h
 have h : (s_l04Elements_l2_D s1).run some = some (e, s') := h
 obtain ⟨z3, d2, e1, h_0⟩ := asImm_spec h
 obtain ⟨e4, h_1⟩ := asPtr_spec h_0
 obtain ⟨d6, e5, h_2⟩ := asImmZ_spec h_1
 obtain ⟨m8, d9, e7, h_3⟩ := asRoot_spec h_2
 obtain ⟨rfl, h_4⟩ := asM_spec h_3
 obtain ⟨y, hy, hz⟩ := mat_some h_4
 refine ⟨_, _, s_l04Elements_l2_mk z3 d2 d9, s_l04Elements_l2_out z3 d2 d9, s_l04Elements_l2 d2 d9, d6, y, ?_, hy, ?_, s_l04Elements_l2_step z3 d2 d9⟩
 ·subst hs; exact restrict_eq (T := [(1, (.imm z3 (.sl (.int .i64)) d2)), (2, (.ptr (4, 0) [])), (5, (.imm true (.int .i64) d6))]) (U := [((4, 0), some ⟨true, kField, .own, d9⟩)]) rfl rfl ⟨e1, e4, e5, trivial⟩ ⟨e7, trivial⟩
 ·rcases y with x | x <;> exact Option.some.inj hz
noncomputable def s_l04Elements_I : FnI := ⟨s_l04Elements_b, Try.f61.results.toList, Try.f61.resultTypes.toList, s_l04Elements_A⟩
noncomputable def s_l04Elements_out (_zp0 : Bool) (_p0 : (Int × (Int × Unit))) (_p1 : (List Int)) : Bool → CallOut := fun r => ⟨(.imm true .bool r), [], []⟩
set_option maxRecDepth 100000 in
theorem s_l04Elements_eq : ∀ (zp0 : Bool) (p0 : (Int × (Int × Unit))) (p1 : (List Int)), denFn s_l04Elements_V s_l04Elements_I ⟨[(.imm true kField p0), (.imm zp0 (.sl (.int .i64)) p1)], []⟩ = (s_l04Elements p0 p1).run fun r => some (s_l04Elements_out zp0 p0 p1 r) := fun _ _ _ => by kernel_rfl
noncomputable def s_l04Elements_G (av : List AV) (rs : List Root) : Tre CallOut :=
 asCons av fun a0_ av0 =>
 asCons av0 fun a1_ av1 =>
 asEnd av1 <|
 asEnd rs <|
 asImmZ true kField a0_ fun d1 =>
 asImm (.sl (.int .i64)) a1_ fun z3 d2 =>
 .mat (s_l04Elements_F d1 d2) fun r => .ret (s_l04Elements_out z3 d1 d2 r)
noncomputable def s_l04Elements_c : Ctr := ⟨[], fun ci => s_l04Elements_G ci.args ci.roots, false⟩
theorem s_l04Elements_env : EnvOK Try.prog .none s_l04Elements_V := (envOK_cons s_l01Size_ok ent86 (envOK_cons s_l00In_ok ent96 envOK_nil))
set_option maxRecDepth 100000 in
theorem s_l04Elements_ok : Contract Try.prog .none 61 s_l04Elements_c := by
 have hl : LoopsOK s_l04Elements_V s_l04Elements_A s_l04Elements_b := (loopsOK_all (n := 1) (by kernel_rfl) fun k hk => by
   match k, hk with
   | 0, _ => exact loopOK_at (id := 2) (L := s_l04Elements_l2_L) (by kernel_rfl) (by kernel_rfl) s_l04Elements_l2_ok)
 refine (contract_of (F := s_l04Elements_I) tau_tys s_l04Elements_env Try.func61 (by kernel_rfl) (by kernel_rfl) (by kernel_rfl) hl []).weaken ?_
 rintro ⟨av, rs⟩ co h
 have h : (s_l04Elements_G av rs).run some = some co := h
 obtain ⟨a0_, av0, rfl, h_0⟩ := asCons_spec h
 obtain ⟨a1_, av1, rfl, h_1⟩ := asCons_spec h_0
 obtain ⟨rfl, h_2⟩ := asEnd_spec h_1
 obtain ⟨rfl, h_3⟩ := asEnd_spec h_2
 obtain ⟨d1, rfl, h_4⟩ := asImmZ_spec h_3
 obtain ⟨z3, d2, rfl, h_5⟩ := asImm_spec h_4
 exact fin_mat (s_l04Elements_eq z3 d1 d2) h_5
end Go.Proofs.Ytkgekgfmnhccmaa

namespace Go.Proofs.Ytkgekgfmnhccmaa
open Go Go.Abs Go.Proofs
noncomputable def s_l07Ok_d9f5_l4 (h4_0_1 : TNet) : Int → Tre (Int ⊕ (Bool ⊕ Unit)) := fun s4 =>
 .cond (decide (s4 < (h4_0_1.2.2.2.1.length : Int)))
  (.ite (0 ≤ s4 ∧ s4 < (h4_0_1.2.2.2.1.length : Int)) <|
  .mat (h4_0_1.2.2.2.1[s4.toNat]?) fun x2 =>
  .cond (!decide ((x2.length : Int) = 2))
   (.ret (.inr (.inl false)))
   (.ite (0 ≤ s4 ∧ s4 < (h4_0_1.2.2.2.1.length : Int)) <|
   .mat (h4_0_1.2.2.2.1[s4.toNat]?) fun x3 =>
   let v4 := iwrap .i64 (h4_0_1.2.1 - 1)
   .mat (s_l00Rises_F x3 0 v4) fun r5 =>
   .cond (!r5)
    (.ret (.inr (.inl false)))
    (.cond (decide (s4 > 0))
     (.ite (0 ≤ iwrap .i64 (s4 - 1) ∧ iwrap .i64 (s4 - 1) < (h4_0_1.2.2.2.1.length : Int)) <|
     .mat (h4_0_1.2.2.2.1[(iwrap .i64 (s4 - 1)).toNat]?) fun x6 =>
     .ite ((0 : Int) ≤ 0 ∧ (0 : Int) < (x6.length : Int)) <|
     .mat (x6[0]?) fun x7 =>
     .ite (0 ≤ s4 ∧ s4 < (h4_0_1.2.2.2.1.length : Int)) <|
     .mat (h4_0_1.2.2.2.1[s4.toNat]?) fun x8 =>
     .ite ((0 : Int) ≤ 0 ∧ (0 : Int) < (x8.length : Int)) <|
     .mat (x8[0]?) fun x9 =>
     .cond (decide (x7 > x9))
      (.ret (.inr (.inl false)))
      (.ret (.inl (iwrap .i64 (s4 + 1)))))
     (.ret (.inl (iwrap .i64 (s4 + 1)))))))
  (.ret (.inr (.inr ())))
noncomputable def s_l07Ok_d9f5_l9 (h9_0_1 : TNet) : Int → Tre (Int ⊕ (Bool ⊕ Unit)) := fun s9 =>
 .cond (decide (s9 < (h9_0_1.2.2.2.2.1.length : Int)))
  (.ite (0 ≤ s9 ∧ s9 < (h9_0_1.2.2.2.2.1.length : Int)) <|
  .mat (h9_0_1.2.2.2.2.1[s9.toNat]?) fun x13 =>
  .ite (0 ≤ s9 ∧ s9 < (h9_0_1.2.2.2.1.length : Int)) <|
  .mat (h9_0_1.2.2.2.1[s9.toNat]?) fun x14 =>
  .ite ((0 : Int) ≤ 0 ∧ (0 : Int) < (x14.length : Int)) <|
  .mat (x14[0]?) fun x15 =>
  .mat (s_l07Has_e270_F h9_0_1 x15) fun r16 =>
  .cond (!decide ((x13.length : Int) = r16))
   (.ret (.inr (.inl false)))
   (.ite (0 ≤ s9 ∧ s9 < (h9_0_1.2.2.2.2.1.length : Int)) <|
   .mat (h9_0_1.2.2.2.2.1[s9.toNat]?) fun x17 =>
   .mat (s_l04Elements_F h9_0_1.1 x17) fun r18 =>
   .cond (!r18)
    (.ret (.inr (.inl false)))
    (.ret (.inl (iwrap .i64 (s9 + 1))))))
  (.ret (.inr (.inr ())))
noncomputable def s_l07Ok_d9f5 (p0 : TNet) : Tre Bool :=
 .mat (s_l01Ok_F p0.1) fun r1 =>
 .cond (!r1)
  (.ret false)
  (.cond (!(inR p0.2.1 2 8))
   (.ret false)
   (.cond (!(inR p0.2.2.1 1 3))
    (.ret false)
    (.cond (decide ((p0.2.2.2.1.length : Int) > 14))
     (.ret false)
     (.cond (!decide ((p0.2.2.2.2.1.length : Int) = (p0.2.2.2.1.length : Int)))
      (.ret false)
      (.mat (loopF (s_l07Ok_d9f5_l4 p0) 0) fun l10 =>
      .alt l10
       (fun a11 =>
        .ret a11)
       (fun _ =>
        .mat (loopF (s_l07Ok_d9f5_l9 p0) 0) fun l19 =>
        .alt l19
         (fun a20 =>
          .ret a20)
         (fun _ =>
          .ret true)))))))
noncomputable def s_l07Ok_d9f5_F (p0 : TNet) : Option Bool := (s_l07Ok_d9f5 p0).run some
-- more
theorem s_l07Ok_edges (n : TN6) (hN : 2 ≤ n.2.1 ∧ n.2.1 ≤ 8) (hl : n.2.2.2.1.length ≤ 14) : loopF (s_l07Ok_d9f5_l4 n) 0 = some (cond (allI (edgeOk n.2.1 n.2.2.2.1) 0 n.2.2.2.1) (.inr ()) (.inl false)) := by
 refine all_loop (β := Bool ⊕ Unit) (edgeOk n.2.1 n.2.2.2.1) (.inl false) (.inr ()) ?_ ?_
 ·intro i e he hp
  have hi : i < n.2.2.2.1.length := (List.getElem?_eq_some_iff.1 he).1
  unfold s_l07Ok_d9f5_l4
  rw [run_inb he, Tre.run_cond]
  by_cases h2 : e.length = 2
  case neg =>
   rw [decide_eq_false (by omega), show edgeOk n.2.1 n.2.2.2.1 i e = false from by unfold edgeOk; rw [decide_eq_false h2]; rfl]
   rfl
  obtain ⟨a, b, rfl⟩ := len2 h2
  rw [show (!decide ((([a, b] : List Int).length : Int) = 2)) = false from rfl, cond_false, run_at he]
  dsimp only
  rw [run_some_mat (s_l00Rises_two a b 0 _), Tre.run_cond, iwrap_i64 (by omega) (by omega)]
  rw [show edgeOk n.2.1 n.2.2.2.1 i [a, b] = ((inR a 0 (n.2.1 - 1) && (inR b 0 (n.2.1 - 1) && decide (a < b))) && (decide (i = 0) || decide (e0 (n.2.2.2.1.getD (i - 1) []) ≤ a))) from by unfold edgeOk; rfl]
  generalize (inR a 0 (n.2.1 - 1) && (inR b 0 (n.2.1 - 1) && decide (a < b))) = z
  cases z
  ·rfl
  rw [Bool.not_true, cond_false, Tre.run_cond, Bool.true_and]
  by_cases h0 : i = 0
  ·subst h0; rfl
  obtain ⟨q, hq⟩ : ∃ q, n.2.2.2.1[i - 1]? = some q := ⟨_, List.getElem?_eq_getElem (by omega)⟩
  obtain ⟨c, d, rfl⟩ := len2 (edgeOk_len (hp (i - 1) q (by omega) hq))
  rw [decide_eq_true (by omega), cond_true, iwrap_pred (by omega) (by omega), run_at hq, Tre.run_ite, if_pos ⟨by decide, by simp⟩, Tre.run_mat]
  simp only [List.getElem?_cons_zero, Option.bind_some]
  rw [run_at he, Tre.run_ite, if_pos ⟨by decide, by simp⟩, Tre.run_mat]
  simp only [List.getElem?_cons_zero, Option.bind_some]
  rw [Tre.run_cond, getD_of hq, decide_eq_false h0, Bool.false_or, show e0 [c, d] = c from rfl]
  by_cases h3 : c ≤ a
  ·rw [decide_eq_false (by omega), decide_eq_true h3, cond_false, cond_true, Tre.run_ret, iwrap_succ (by omega)]
  ·rw [decide_eq_true (by omega), decide_eq_false h3]; rfl
 ·unfold s_l07Ok_d9f5_l4
  exact run_out
theorem s_l07Ok_coefs (n : TN6) (hf : fieldOk n.1 = true) (hM : n.2.2.1 ≤ 3) (hl : n.2.2.2.1.length ≤ 14) (hc : n.2.2.2.2.1.length = n.2.2.2.1.length) (h2 : ∀ e ∈ n.2.2.2.1, e.length = 2) : loopF (s_l07Ok_d9f5_l9 n) 0 = some (cond (allI (coefOk n) 0 n.2.2.2.2.1) (.inr ()) (.inl false)) := by
 refine all_loop (β := Bool ⊕ Unit) (coefOk n) (.inl false) (.inr ()) ?_ ?_
 ·intro i x hx _
  have hi : i < n.2.2.2.2.1.length := (List.getElem?_eq_some_iff.1 hx).1
  obtain ⟨e, he⟩ : ∃ e, n.2.2.2.1[i]? = some e := ⟨_, List.getElem?_eq_getElem (by omega)⟩
  obtain ⟨a, b, rfl⟩ := len2 (h2 e (List.mem_of_getElem? he))
  unfold s_l07Ok_d9f5_l9 coefOk
  rw [getD_of he, show e0 [a, b] = a from rfl, run_inb hx, run_at he, Tre.run_ite, if_pos ⟨by decide, by simp⟩, Tre.run_mat]
  simp only [List.getElem?_cons_zero, Option.bind_some]
  rw [run_some_mat (s_l07Has_is n hl h2 a), Tre.run_cond]
  by_cases h : (x.length : Int) = hasV n a
  ·rw [decide_eq_true h, Bool.not_true, cond_false, run_at hx, run_some_mat (s_l04Elements_is hf x ?_), Tre.run_cond]
   ·cases elsOk n.1 x
    ·rfl
    ·simp only [Bool.not_true, Bool.true_and, cond_false, cond_true, Tre.run_ret, iwrap_succ (show i < 4611686018427387904 by omega)]
   ·have := hasV_le n hM hl a; omega
  ·rw [decide_eq_false h]; rfl
 ·unfold s_l07Ok_d9f5_l9
  exact run_out
theorem s_l07Ok_is (n : TN6) : s_l07Ok_d9f5_F n = some (netOk n) := by
 unfold s_l07Ok_d9f5_F s_l07Ok_d9f5 netOk
 rw [run_some_mat (s_l01Ok_is n.1), Tre.run_cond]
 cases hf : fieldOk n.1
 ·rfl
 rw [Bool.not_true, cond_false, Tre.run_cond, Bool.true_and]
 cases hN : inR n.2.1 2 8
 ·rfl
 rw [Bool.not_true, cond_false, Tre.run_cond, Bool.true_and]
 cases hM : inR n.2.2.1 1 3
 ·rfl
 rw [Bool.not_true, cond_false, Tre.run_cond, Bool.true_and]
 by_cases hl : n.2.2.2.1.length ≤ 14
 case neg => rw [decide_eq_true (by omega), decide_eq_false hl]; rfl
 rw [decide_eq_false (by omega), decide_eq_true hl, cond_false, Tre.run_cond, Bool.true_and]
 by_cases hc : n.2.2.2.2.1.length = n.2.2.2.1.length
 case neg => rw [decide_eq_false (by omega), decide_eq_false hc]; rfl
 rw [decide_eq_true (by omega), decide_eq_true hc, Bool.not_true, cond_false, run_some_mat (s_l07Ok_edges n (inR_iff.1 hN) hl), Bool.true_and]
 cases he : allI (edgeOk n.2.1 n.2.2.2.1) 0 n.2.2.2.1
 ·rfl
 rw [cond_true, Tre.run_inr, run_some_mat (s_l07Ok_coefs n hf (inR_iff.1 hM).2 hl hc ?_)]
 ·cases allI (coefOk n) 0 n.2.2.2.2.1 <;> rfl
 ·intro e hm
  obtain ⟨i, hi⟩ := List.mem_iff_getElem?.1 hm
  have := (allI_iff _ 0).1 he i e hi
  rw [Nat.zero_add] at this
  exact edgeOk_len this
noncomputable def s_l07Ok_d9f5_V : Env := ⟨tau, [(95, s_l01Ok_c), (96, s_l00In_c), (97, s_l00Rises_c), (60, s_l07Has_e270_c), (61, s_l04Elements_c)], []⟩
noncomputable def s_l07Ok_d9f5_b : Code := (Try.f44.body).getD .skip
noncomputable def s_l07Ok_d9f5_l4_mk (z4_0 : Bool) (h4_0_1 : TNet) : Int → St := fun x => stOf [(0, (.ptr (0, 0) [])), (3, (.imm true (.int .i64) x))] [((0, 0), some ⟨true, kNet, (.imm z4_0), h4_0_1⟩)]
noncomputable def s_l07Ok_d9f5_l4_out (z4_0 : Bool) (h4_0_1 : TNet) : (Bool ⊕ Unit) → Ex × St
 | .inl x => (.ret, stOf [(0, (.ptr (0, 0) [])), (2, (.imm true .bool x))] [((0, 0), some ⟨true, kNet, (.imm z4_0), h4_0_1⟩)])
 | .inr x => (.exit 0, stOf [(0, (.ptr (0, 0) [])), (2, .dead)] [((0, 0), some ⟨true, kNet, (.imm z4_0), h4_0_1⟩)])
noncomputable def s_l07Ok_d9f5_l4_D (s : St) : Tre (Ex × St) :=
 asPtr (0, 0) [] (s.tmps 0) <|
 asImmZ true (.int .i64) (s.tmps 3) fun d3 =>
 asRoot true kNet (s.roots (0, 0)) fun m5 d6 =>
 asMImm m5 fun z7 =>
 .mat (loopF (s_l07Ok_d9f5_l4 d6) d3) fun x => .alt x (fun a0 => .ret (s_l07Ok_d9f5_l4_out z7 d6 (.inl a0))) (fun b0 => .ret (s_l07Ok_d9f5_l4_out z7 d6 (.inr b0)))
noncomputable def s_l07Ok_d9f5_l4_L : LoopI := ⟨([0, 3], [(0, 0)]), ([0, 2], [(0, 0)]), s_l07Ok_d9f5_l4_D⟩
noncomputable def s_l07Ok_d9f5_l9_mk (z9_0 : Bool) (h9_0_1 : TNet) : Int → St := fun x => stOf [(0, (.ptr (0, 0) [])), (4, (.imm true (.int .i64) x))] [((0, 0), some ⟨true, kNet, (.imm z9_0), h9_0_1⟩)]
noncomputable def s_l07Ok_d9f5_l9_out (z9_0 : Bool) (h9_0_1 : TNet) : (Bool ⊕ Unit) → Ex × St
 | .inl x => (.ret, stOf [(2, (.imm true .bool x))] [((0, 0), some ⟨true, kNet, (.imm z9_0), h9_0_1⟩)])
 | .inr x => (.exit 2, stOf [(2, .dead)] [((0, 0), some ⟨true, kNet, (.imm z9_0), h9_0_1⟩)])
noncomputable def s_l07Ok_d9f5_l9_D (s : St) : Tre (Ex × St) :=
 asPtr (0, 0) [] (s.tmps 0) <|
 asImmZ true (.int .i64) (s.tmps 4) fun d3 =>
 asRoot true kNet (s.roots (0, 0)) fun m5 d6 =>
 asMImm m5 fun z7 =>
 .mat (loopF (s_l07Ok_d9f5_l9 d6) d3) fun x => .alt x (fun a0 => .ret (s_l07Ok_d9f5_l9_out z7 d6 (.inl a0))) (fun b0 => .ret (s_l07Ok_d9f5_l9_out z7 d6 (.inr b0)))
noncomputable def s_l07Ok_d9f5_l9_L : LoopI := ⟨([0, 4], [(0, 0)]), ([2], [(0, 0)]), s_l07Ok_d9f5_l9_D⟩
noncomputable def s_l07Ok_d9f5_A : List (Nat × LoopI) := [(4, s_l07Ok_d9f5_l4_L), (9, s_l07Ok_d9f5_l9_L)]
set_option maxRecDepth 100000 in
theorem s_l07Ok_d9f5_l4_step : ∀ (z4_0 : Bool) (h4_0_1 : TNet) (x : Int) (c : St → Option (Ex × St)), den s_l07Ok_d9f5_V s_l07Ok_d9f5_A (loopAt s_l07Ok_d9f5_b 0) (s_l07Ok_d9f5_l4_mk z4_0 h4_0_1 x) (roundK s_l07Ok_d9f5_l4_L.kp s_l07Ok_d9f5_l4_L.kx c) = (s_l07Ok_d9f5_l4 h4_0_1 x).run (roundR (s_l07Ok_d9f5_l4_mk z4_0 h4_0_1) (s_l07Ok_d9f5_l4_out z4_0 h4_0_1) c) := fun _ _ _ _ => by
 kernel_rfl
theorem s_l07Ok_d9f5_l4_ok : LoopOK s_l07Ok_d9f5_V s_l07Ok_d9f5_A (loopAt s_l07Ok_d9f5_b 0) s_l07Ok_d9f5_l4_L := loopOK_of fun s e s' h => by
 generalize hs : restrict s_l07Ok_d9f5_l4_L.kp s = s1 at h
 have h : (s_l07Ok_d9f5_l4_D s1).run some = some (e, s') := h
 obtain ⟨e1, h_0⟩ := asPtr_spec h
 obtain ⟨d3, e2, h_1⟩ := asImmZ_spec h_0
 obtain ⟨m5, d6, e4, h_2⟩ := asRoot_spec h_1
 obtain ⟨z7, rfl, h_3⟩ := asMImm_spec h_2
 obtain ⟨y, hy, hz⟩ := mat_some h_3
 refine ⟨_, _, s_l07Ok_d9f5_l4_mk z7 d6, s_l07Ok_d9f5_l4_out z7 d6, s_l07Ok_d9f5_l4 d6, d3, y, ?_, hy, ?_, s_l07Ok_d9f5_l4_step z7 d6⟩
 ·subst hs; exact restrict_eq (T := [(0, (.ptr (0, 0) [])), (3, (.imm true (.int .i64) d3))]) (U := [((0, 0), some ⟨true, kNet, (.imm z7), d6⟩)]) rfl rfl ⟨e1, e2, trivial⟩ ⟨e4, trivial⟩
 ·rcases y with x | x <;> exact Option.some.inj hz
set_option maxRecDepth 100000 in
theorem s_l07Ok_d9f5_l9_step : ∀ (z9_0 : Bool) (h9_0_1 : TNet) (x : Int) (c : St → Option (Ex × St)), den s_l07Ok_d9f5_V s_l07Ok_d9f5_A (loopAt s_l07Ok_d9f5_b 1) (s_l07Ok_d9f5_l9_mk z9_0 h9_0_1 x) (roundK s_l07Ok_d9f5_l9_L.kp s_l07Ok_d9f5_l9_L.kx c) = (s_l07Ok_d9f5_l9 h9_0_1 x).run (roundR (s_l07Ok_d9f5_l9_mk z9_0 h9_0_1) (s_l07Ok_d9f5_l9_out z9_0 h9_0_1) c) := fun _ _ _ _ => by
 kernel_rfl
theorem s_l07Ok_d9f5_l9_ok : LoopOK s_l07Ok_d9f5_V s_l07Ok_d9f5_A (loopAt s_l07Ok_d9f5_b 1) s_l07Ok_d9f5_l9_L := loopOK_of fun s e s' h => by
 generalize hs : restrict s_l07Ok_d9f5_l9_L.kp s = s1 at h
 have h : (s_l07Ok_d9f5_l9_D s1).run some = some (e, s') := h
 obtain ⟨e1, h_0⟩ := asPtr_spec h
 obtain ⟨d3, e2, h_1⟩ := asImmZ_spec h_0
 obtain ⟨m5, d6, e4, h_2⟩ := asRoot_spec h_1
 obtain ⟨z7, rfl, h_3⟩ := asMImm_spec h_2
 obtain ⟨y, hy, hz⟩ := mat_some h_3
 refine ⟨_, _, s_l07Ok_d9f5_l9_mk z7 d6, s_l07Ok_d9f5_l9_out z7 d6, s_l07Ok_d9f5_l9 d6, d3, y, ?_, hy, ?_, s_l07Ok_d9f5_l9_step z7 d6⟩
 ·subst hs; exact restrict_eq (T := [(0, (.ptr (0, 0) [])), (4, (.imm true (.int .i64) d3))]) (U := [((0, 0), some ⟨true, kNet, (.imm z7), d6⟩)]) rfl rfl ⟨e1, e2, trivial⟩ ⟨e4, trivial⟩
 ·rcases y with x | x <;> exact Option.some.inj hz
noncomputable def s_l07Ok_d9f5_I : FnI := ⟨s_l07Ok_d9f5_b, Try.f44.results.toList, Try.f44.resultTypes.toList, s_l07Ok_d9f5_A⟩
noncomputable def s_l07Ok_d9f5_out (zp0 : Bool) (p0 : TNet) : Bool → CallOut := fun r => ⟨(.imm true .bool r), [⟨true, kNet, (.imm zp0), p0⟩], []⟩
set_option maxRecDepth 100000 in
theorem s_l07Ok_d9f5_eq : ∀ (zp0 : Bool) (p0 : TNet), denFn s_l07Ok_d9f5_V s_l07Ok_d9f5_I ⟨[(.ptr (0, 0) [])], [⟨true, kNet, (.imm zp0), p0⟩]⟩ = (s_l07Ok_d9f5 p0).run fun r => some (s_l07Ok_d9f5_out zp0 p0 r) := fun _ _ => by kernel_rfl
noncomputable def s_l07Ok_d9f5_G (av : List AV) (rs : List Root) : Tre CallOut :=
 asCons av fun a0_ av0 =>
 asEnd av0 <|
 asCons rs fun r0_ rs0 =>
 asEnd rs0 <|
 asPtr (0, 0) [] a0_ <|
 asRt true kNet r0_ fun m1 d2 =>
 asMImm m1 fun z3 =>
 .mat (s_l07Ok_d9f5_F d2) fun r => .ret (s_l07Ok_d9f5_out z3 d2 r)
noncomputable def s_l07Ok_d9f5_c : Ctr := ⟨[], fun ci => s_l07Ok_d9f5_G ci.args ci.roots, false⟩
theorem s_l07Ok_d9f5_env : EnvOK Try.prog .none s_l07Ok_d9f5_V := (envOK_cons s_l01Ok_ok ent95 (envOK_cons s_l00In_ok ent96 (envOK_cons s_l00Rises_ok ent97 (envOK_cons s_l07Has_e270_ok ent60 (envOK_cons s_l04Elements_ok ent61 envOK_nil)))))
set_option maxRecDepth 100000 in
theorem s_l07Ok_d9f5_ok : Contract Try.prog .none 44 s_l07Ok_d9f5_c := by
 have hl : LoopsOK s_l07Ok_d9f5_V s_l07Ok_d9f5_A s_l07Ok_d9f5_b := (loopsOK_all (n := 2) (by kernel_rfl) fun k hk => by
   match k, hk with
   | 0, _ => exact loopOK_at (id := 4) (L := s_l07Ok_d9f5_l4_L) (by kernel_rfl) (by kernel_rfl) s_l07Ok_d9f5_l4_ok
   | 1, _ => exact loopOK_at (id := 9) (L := s_l07Ok_d9f5_l9_L) (by kernel_rfl) (by kernel_rfl) s_l07Ok_d9f5_l9_ok)
 refine (contract_of (F := s_l07Ok_d9f5_I) tau_tys s_l07Ok_d9f5_env Try.func44 (by kernel_rfl) (by kernel_rfl) (by kernel_rfl) hl []).weaken ?_
 rintro ⟨av, rs⟩ co h
 have h : (s_l07Ok_d9f5_G av rs).run some = some co := h
 obtain ⟨a0_, av0, rfl, h_0⟩ := asCons_spec h
 obtain ⟨rfl, h_1⟩ := asEnd_spec h_0
 obtain ⟨r0_, rs0, rfl, h_2⟩ := asCons_spec h_1
 obtain ⟨rfl, h_3⟩ := asEnd_spec h_2
 obtain ⟨rfl, h_4⟩ := asPtr_spec h_3
 obtain ⟨m1, d2, rfl, h_5⟩ := asRt_spec h_4
 obtain ⟨z3, rfl, h_6⟩ := asMImm_spec h_5
 exact fin_mat (s_l07Ok_d9f5_eq z3 d2) h_6
end Go.Proofs.Ytkgekgfmnhccmaa

namespace Go.Proofs.Ytkgekgfmnhccmaa
open Go Go.Abs Go.Proofs
-- shared
def nodeC (n : TN6) (node k : Int) : Int := if netOk n = true then (if inR node k (n.2.1 - 1) = true then 0 else 2) else 1
theorem nodeC_net {n : TN6} {node k : Int} (h : nodeC n node k = 0) : NetP n ∧ k ≤ node ∧ node ≤ n.2.1 - 1 := by
 unfold nodeC at h
 split at h
 ·rename_i h1
  split at h
  ·rename_i h2; exact ⟨netOk_iff.1 h1, inR_iff.1 h2⟩
  ·cases h
 ·cases h
end Go.Proofs.Ytkgekgfmnhccmaa

namespace Go.Proofs.Ytkgekgfmnhccmaa
open Go Go.Abs Go.Proofs
noncomputable def s_l07Node_4c46 (p0 : Int) (p1 : Int) (p2 : TNet) : Tre Int :=
 .mat (s_l07Ok_d9f5_F p2) fun r1 =>
 .cond (!r1)
  (.ret 1)
  (let v2 := inR p0 p1 (iwrap .i64 (p2.2.1 - 1))
  .cond (!v2)
   (.ret 2)
   (.ret 0))
noncomputable def s_l07Node_4c46_F (p0 : Int) (p1 : Int) (p2 : TNet) : Option Int := (s_l07Node_4c46 p0 p1 p2).run some
-- more
theorem snode_is (n : TN6) (node k : Int) : s_l07Node_4c46_F node k n = some (nodeC n node k) := by
 unfold s_l07Node_4c46_F s_l07Node_4c46 nodeC
 rw [run_some_mat (s_l07Ok_is n), Tre.run_cond]
 rcases Bool.eq_false_or_eq_true (netOk n) with h | h
 ·have hn := (netOk_iff.1 h).nodes
  rw [h, Bool.not_true, cond_false, if_pos rfl, iwrap_i64 (by omega) (by omega)]
  dsimp only
  rw [Tre.run_cond]
  cases inR node k (n.2.1 - 1)
  ·rfl
  ·rfl
 ·rw [h]; rfl
noncomputable def s_l07Node_4c46_V : Env := ⟨tau, [(44, s_l07Ok_d9f5_c), (96, s_l00In_c)], []⟩
noncomputable def s_l07Node_4c46_b : Code := (Try.f46.body).getD .skip
noncomputable def s_l07Node_4c46_I : FnI := ⟨s_l07Node_4c46_b, Try.f46.results.toList, Try.f46.resultTypes.toList, []⟩
noncomputable def s_l07Node_4c46_out (zp0 : Bool) (_p0 : Int) (_p1 : Int) (p2 : TNet) : Int → CallOut := fun r => ⟨(.imm true (.int .i64) r), [⟨true, kNet, (.imm zp0), p2⟩], []⟩
set_option maxRecDepth 100000 in
theorem s_l07Node_4c46_eq : ∀ (zp0 : Bool) (p0 : Int) (p1 : Int) (p2 : TNet), denFn s_l07Node_4c46_V s_l07Node_4c46_I ⟨[(.ptr (0, 0) []), (.imm true (.int .i64) p0), (.imm true (.int .i64) p1)], [⟨true, kNet, (.imm zp0), p2⟩]⟩ = (s_l07Node_4c46 p0 p1 p2).run fun r => some (s_l07Node_4c46_out zp0 p0 p1 p2 r) := fun _ _ _ _ => by kernel_rfl
noncomputable def s_l07Node_4c46_G (av : List AV) (rs : List Root) : Tre CallOut :=
 asCons av fun a0_ av0 =>
 asCons av0 fun a1_ av1 =>
 asCons av1 fun a2_ av2 =>
 asEnd av2 <|
 asCons rs fun r0_ rs0 =>
 asEnd rs0 <|
 asPtr (0, 0) [] a0_ <|
 asImmZ true (.int .i64) a1_ fun d1 =>
 asImmZ true (.int .i64) a2_ fun d2 =>
 asRt true kNet r0_ fun m3 d4 =>
 asMImm m3 fun z5 =>
 .mat (s_l07Node_4c46_F d1 d2 d4) fun r => .ret (s_l07Node_4c46_out z5 d1 d2 d4 r)
noncomputable def s_l07Node_4c46_c : Ctr := ⟨[], fun ci => s_l07Node_4c46_G ci.args ci.roots, false⟩
theorem s_l07Node_4c46_env : EnvOK Try.prog .none s_l07Node_4c46_V := (envOK_cons s_l07Ok_d9f5_ok ent44 (envOK_cons s_l00In_ok ent96 envOK_nil))
set_option maxRecDepth 100000 in
theorem s_l07Node_4c46_ok : Contract Try.prog .none 46 s_l07Node_4c46_c := by
 have hl : LoopsOK s_l07Node_4c46_V [] s_l07Node_4c46_b := loopsOK_nil (by kernel_rfl)
 refine (contract_of (F := s_l07Node_4c46_I) tau_tys s_l07Node_4c46_env Try.func46 (by kernel_rfl) (by kernel_rfl) (by kernel_rfl) hl []).weaken ?_
 rintro ⟨av, rs⟩ co h
 have h : (s_l07Node_4c46_G av rs).run some = some co := h
 obtain ⟨a0_, av0, rfl, h_0⟩ := asCons_spec h
 obtain ⟨a1_, av1, rfl, h_1⟩ := asCons_spec h_0
 obtain ⟨a2_, av2, rfl, h_2⟩ := asCons_spec h_1
 obtain ⟨rfl, h_3⟩ := asEnd_spec h_2
 obtain ⟨r0_, rs0, rfl, h_4⟩ := asCons_spec h_3
 obtain ⟨rfl, h_5⟩ := asEnd_spec h_4
 obtain ⟨rfl, h_6⟩ := asPtr_spec h_5
 obtain ⟨d1, rfl, h_7⟩ := asImmZ_spec h_6
 obtain ⟨d2, rfl, h_8⟩ := asImmZ_spec h_7
 obtain ⟨m3, d4, rfl, h_9⟩ := asRt_spec h_8
 obtain ⟨z5, rfl, h_10⟩ := asMImm_spec h_9
 exact fin_mat (s_l07Node_4c46_eq z5 d1 d2 d4) h_10
end Go.Proofs.Ytkgekgfmnhccmaa

namespace Go.Proofs.Ytkgekgfmnhccmaa
open Go Go.Abs Go.Proofs
-- shared
def clmN : Nat → Nat → Nat → Nat
 | 0, _, _ => 0
 | n + 1, a, b => Nat.xor (bif Nat.beq (b % 2) 1 then a else 0) (clmN n (2 * a) (b / 2))
def restN : Nat → Nat → Nat → Nat
 | 0, c, _ => c
 | n + 1, c, p => bif Nat.ble (Nat.log2 p) (Nat.log2 c) then restN n (Nat.xor c (Nat.shiftLeft p (Nat.log2 c - Nat.log2 p))) p else c
def mulN (p a b : Nat) : Nat := restN 6 (clmN 6 a b) p
def mulI (f : TF3) (a b : Int) : Int := ((mulN f.2.1.toNat a.toNat b.toNat : Nat) : Int)
def inF (f : TF3) (a : Int) : Prop := 0 ≤ a ∧ a < ((2 ^ f.1.toNat : Nat) : Int)
def fieldN : List (Nat × Nat) := [(1, 2), (1, 3), (2, 7), (3, 11), (3, 13), (4, 19), (4, 25), (4, 31), (5, 37), (5, 41), (5, 47), (5, 55), (5, 59), (5, 61)]
def chk2 (F : TF3 → Int → Int → Option Int) (G : Nat → Nat → Nat → Nat) (d p : Nat) : Bool := (List.range (2 ^ d)).all fun a => (List.range (2 ^ d)).all fun b => F ((d : Int), (p : Int), ()) (a : Int) (b : Int) == some ((G p a b : Nat) : Int)
theorem fieldN_of {f : TF3} (h : fieldOk f = true) : ∃ d p : Nat, (d, p) ∈ fieldN ∧ f = ((d : Int), (p : Int), ()) := by
 have h1 := fieldOk_mem h
 obtain ⟨a, b, ⟨⟩⟩ := f
 have key : ∀ x ∈ fieldT, ∃ q ∈ fieldN, x = ((q.1 : Int), (q.2 : Int)) := by decide
 obtain ⟨q, h2, h3⟩ := key _ h1
 simp only [Prod.mk.injEq] at h3
 exact ⟨q.1, q.2, h2, by rw [h3.1, h3.2]⟩
theorem two_of {F : TF3 → Int → Int → Option Int} {G : Nat → Nat → Nat → Nat} (h : ∀ q ∈ fieldN, chk2 F G q.1 q.2 = true) {f : TF3} (hf : fieldOk f = true) {a b : Int} (ha : inF f a) (hb : inF f b) : F f a b = some ((G f.2.1.toNat a.toNat b.toNat : Nat) : Int) := by
 obtain ⟨d, p, hq, rfl⟩ := fieldN_of hf
 obtain ⟨ha0, ha1⟩ := ha
 obtain ⟨hb0, hb1⟩ := hb
 simp only [Int.toNat_natCast] at ha1 hb1
 obtain ⟨m, rfl⟩ := Int.eq_ofNat_of_zero_le ha0
 obtain ⟨n, rfl⟩ := Int.eq_ofNat_of_zero_le hb0
 have h1 := List.all_eq_true.1 (List.all_eq_true.1 (h _ hq) m (List.mem_range.2 (by exact_mod_cast ha1))) n (List.mem_range.2 (by exact_mod_cast hb1))
 exact eq_of_beq h1
end Go.Proofs.Ytkgekgfmnhccmaa

namespace Go.Proofs.Ytkgekgfmnhccmaa
open Go Go.Abs Go.Proofs
-- shared
def powN (p a : Nat) : Nat → Nat
 | 0 => 1
 | n + 1 => mulN p (powN p a n) a
def invN (d p a : Nat) : Nat := powN p a (2 ^ d - 2)
def invI (f : TF3) (a : Int) : Int := ((invN f.1.toNat f.2.1.toNat a.toNat : Nat) : Int)
def chk1 (F : TF3 → Int → Option Int) (G : Nat → Nat → Nat → Nat) (d p : Nat) : Bool := (List.range (2 ^ d)).all fun a => F ((d : Int), (p : Int), ()) (a : Int) == some ((G d p a : Nat) : Int)
theorem one_of {F : TF3 → Int → Option Int} {G : Nat → Nat → Nat → Nat} (h : ∀ q ∈ fieldN, chk1 F G q.1 q.2 = true) {f : TF3} (hf : fieldOk f = true) {a : Int} (ha : inF f a) : F f a = some ((G f.1.toNat f.2.1.toNat a.toNat : Nat) : Int) := by
 obtain ⟨d, p, hq, rfl⟩ := fieldN_of hf
 obtain ⟨ha0, ha1⟩ := ha
 simp only [Int.toNat_natCast] at ha1
 obtain ⟨m, rfl⟩ := Int.eq_ofNat_of_zero_le ha0
 have h1 := List.all_eq_true.1 (h _ hq) m (List.mem_range.2 (by exact_mod_cast ha1))
 exact eq_of_beq h1
def mulFacts (d p : Nat) : Bool := (List.range (2 ^ d)).all fun a => (List.range (2 ^ d)).all fun b => Nat.blt (mulN p a b) (2 ^ d) && Nat.beq (mulN p a b) (mulN p b a)
def invFacts (d p : Nat) : Bool := (List.range (2 ^ d)).all fun a => Nat.blt (invN d p a) (2 ^ d) && (Nat.beq a 0 || Nat.beq (mulN p a (invN d p a)) 1)
set_option maxRecDepth 100000 in
theorem mulFacts_all : (fieldN.all fun q => mulFacts q.1 q.2) = true := by kernel_rfl
set_option maxRecDepth 100000 in
theorem invFacts_all : (fieldN.all fun q => invFacts q.1 q.2) = true := by kernel_rfl
theorem mulI_facts {f : TF3} (hf : fieldOk f = true) {a b : Int} (ha : inF f a) (hb : inF f b) : inF f (mulI f a b) ∧ mulI f a b = mulI f b a := by
 obtain ⟨d, p, hq, rfl⟩ := fieldN_of hf
 obtain ⟨ha0, ha1⟩ := ha
 obtain ⟨hb0, hb1⟩ := hb
 simp only [Int.toNat_natCast] at ha1 hb1
 obtain ⟨m, rfl⟩ := Int.eq_ofNat_of_zero_le ha0
 obtain ⟨n, rfl⟩ := Int.eq_ofNat_of_zero_le hb0
 have h0 := List.all_eq_true.1 mulFacts_all _ hq
 have h1 := List.all_eq_true.1 (List.all_eq_true.1 h0 m (List.mem_range.2 (by exact_mod_cast ha1))) n (List.mem_range.2 (by exact_mod_cast hb1))
 rw [Bool.and_eq_true] at h1
 have h2 : mulN p m n < 2 ^ d := Nat.le_of_ble_eq_true h1.1
 have h3 : mulN p m n = mulN p n m := Nat.eq_of_beq_eq_true h1.2
 refine ⟨⟨Int.natCast_nonneg _, ?_⟩, ?_⟩
 ·show ((mulN p m n : Nat) : Int) < _
  simp only [Int.toNat_natCast]
  exact_mod_cast h2
 ·show ((mulN p m n : Nat) : Int) = ((mulN p n m : Nat) : Int)
  rw [h3]
theorem invI_facts {f : TF3} (hf : fieldOk f = true) {a : Int} (ha : inF f a) : inF f (invI f a) ∧ (a ≠ 0 → mulI f a (invI f a) = 1) := by
 obtain ⟨d, p, hq, rfl⟩ := fieldN_of hf
 obtain ⟨ha0, ha1⟩ := ha
 simp only [Int.toNat_natCast] at ha1
 obtain ⟨m, rfl⟩ := Int.eq_ofNat_of_zero_le ha0
 have h0 := List.all_eq_true.1 invFacts_all _ hq
 have h1 := List.all_eq_true.1 h0 m (List.mem_range.2 (by exact_mod_cast ha1))
 rw [Bool.and_eq_true, Bool.or_eq_true] at h1
 have h2 : invN d p m < 2 ^ d := Nat.le_of_ble_eq_true h1.1
 refine ⟨⟨Int.natCast_nonneg _, ?_⟩, fun hne => ?_⟩
 ·show ((invN d p m : Nat) : Int) < _
  simp only [Int.toNat_natCast]
  exact_mod_cast h2
 ·rcases h1.2 with h | h
  ·exact absurd (by rw [Nat.eq_of_beq_eq_true h]; rfl) hne
  ·show ((mulN p m (invN d p m) : Nat) : Int) = 1
   rw [Nat.eq_of_beq_eq_true h]; rfl
end Go.Proofs.Ytkgekgfmnhccmaa

namespace Go.Proofs.Ytkgekgfmnhccmaa
open Go Go.Abs Go.Proofs
-- shared
def addV (f : TF3) (u w : List Int) (x : Int) : List Int := (u.zip w).map fun p => ixor .i64 p.1 (mulI f p.2 x)
theorem foldE_app {α β γ : Type} (g : α → γ) (fin : List γ → β) : ∀ (l : List α) (i : Nat) (acc : List γ), foldE (fun _ acc x => (.inl (acc ++ [g x]) : List γ ⊕ β)) fin i acc l = fin (acc ++ l.map g) := by
 intro l
 induction l with
 | nil => intro i acc; simp only [foldE, List.map_nil, List.append_nil]
 | cons y l ih => intro i acc; simp only [foldE]; rw [ih]; simp
end Go.Proofs.Ytkgekgfmnhccmaa

namespace Go.Proofs.Ytkgekgfmnhccmaa
open Go Go.Abs Go.Proofs
-- shared
theorem fld_deg {f : TF3} (hf : fieldOk f = true) : 1 ≤ f.1.toNat ∧ f.1.toNat ≤ 5 := by
 obtain ⟨d, p, hq, rfl⟩ := fieldN_of hf
 have : ∀ q ∈ fieldN, 1 ≤ q.1 ∧ q.1 ≤ 5 := by decide
 exact this _ hq
theorem inF_nat {f : TF3} (hf : fieldOk f = true) {a : Int} (h : inF f a) : ∃ n : Nat, a = (n : Int) ∧ n < 2 ^ f.1.toNat ∧ n < 2 ^ 63 := by
 obtain ⟨h0, h1⟩ := h
 have hd := (fld_deg hf).2
 have hp : 2 ^ f.1.toNat ≤ 2 ^ 5 := Nat.pow_le_pow_right (by omega) hd
 refine ⟨a.toNat, by omega, by omega, by omega⟩
theorem inF_zero {f : TF3} : inF f 0 := ⟨Int.le_refl 0, by exact_mod_cast Nat.two_pow_pos _⟩
theorem inF_one {f : TF3} (hf : fieldOk f = true) : inF f 1 := by
 have : 2 ^ 1 ≤ 2 ^ f.1.toNat := Nat.pow_le_pow_right (by omega) (fld_deg hf).1
 exact ⟨by omega, by omega⟩
theorem inF_xor {f : TF3} (hf : fieldOk f = true) {a b : Int} (ha : inF f a) (hb : inF f b) : inF f (ixor .i64 a b) := by
 obtain ⟨m, rfl, hm, hm2⟩ := inF_nat hf ha
 obtain ⟨n, rfl, hn, hn2⟩ := inF_nat hf hb
 rw [ixor_nat hm2 hn2]
 exact ⟨Int.natCast_nonneg _, by exact_mod_cast Nat.xor_lt_two_pow hm hn⟩
theorem zero_xorF {f : TF3} (hf : fieldOk f = true) {a : Int} (ha : inF f a) : ixor .i64 0 a = a := by
 obtain ⟨m, rfl, hm, hm2⟩ := inF_nat hf ha
 have := ixor_nat (a := 0) (b := m) (by omega) hm2
 rw [show ((0 : Nat) : Int) = 0 from rfl] at this
 rw [this, Nat.zero_xor]
def GR (f : TF3) (n : Nat) (L : List (List Int)) : Prop := ∀ r ∈ L, r.length = n ∧ ∀ y ∈ r, inF f y
def nzAt (c : Nat) (r : List Int) : Bool := match r[c]? with
 | some x => !decide (x = 0)
 | none => false
def clearV (f : TF3) (c k : Nat) (own : List Int) (i : Nat) (r : List Int) : List Int := match r[c]? with
 | some x => bif decide (i = k) || decide (x = 0) then r else (r.zip own).map fun p => ixor .i64 p.1 (mulI f x p.2)
 | none => r
def scaleV (f : TF3) (c : Nat) (row : List Int) : List Int := match row[c]? with
 | some x => row.map fun y => mulI f y (invI f x)
 | none => row
def pivL (f : TF3) (c k a : Nat) (L : List (List Int)) : List (List Int) := match L[k]?, L[a]? with
 | some row, some r0 => (L.set k r0).set a (scaleV f c row)
 | _, _ => L
def clearL (f : TF3) (c a : Nat) (L : List (List Int)) : List (List Int) := match L[a]? with
 | some own => L.mapIdx (clearV f c a own)
 | none => L
def echStep (f : TF3) (c : Nat) (s : Nat × List (List Int)) : Nat × List (List Int) :=
 bif decide (idxI (nzAt c) s.1 (s.2.drop s.1) < 0) then s else (s.1 + 1, clearL f c s.1 (pivL f c (idxI (nzAt c) s.1 (s.2.drop s.1)).toNat s.1 s.2))
def echFrom (f : TF3) : Nat → Nat → Nat × List (List Int) → Nat × List (List Int)
 | _, 0, s => s
 | c, m + 1, s => echFrom f (c + 1) m (echStep f c s)
def echV (f : TF3) (n : Nat) (L : List (List Int)) : List (List Int) := (echFrom f 0 n (0, L)).2.take (echFrom f 0 n (0, L)).1
theorem nzAt_of {c : Nat} {r : List Int} (h : nzAt c r = true) : ∃ x, r[c]? = some x ∧ x ≠ 0 := by
 unfold nzAt at h
 split at h
 ·exact ⟨_, by assumption, by simpa using h⟩
 ·cases h
theorem GR_at {f : TF3} {n : Nat} {L : List (List Int)} (h : GR f n L) {i : Nat} {r : List Int} (hi : L[i]? = some r) : r.length = n ∧ ∀ y ∈ r, inF f y := h r (List.mem_of_getElem? hi)
theorem GR_set {f : TF3} {n : Nat} {L : List (List Int)} (h : GR f n L) {i : Nat} {r : List Int} (hr : r.length = n ∧ ∀ y ∈ r, inF f y) : GR f n (L.set i r) := by
 intro x hx
 rcases List.mem_or_eq_of_mem_set hx with hx | rfl
 ·exact h x hx
 ·exact hr
theorem scaleV_ok {f : TF3} (hf : fieldOk f = true) {n c : Nat} {r : List Int} (h : r.length = n ∧ ∀ y ∈ r, inF f y) : (scaleV f c r).length = n ∧ ∀ y ∈ scaleV f c r, inF f y := by
 unfold scaleV
 split
 ·rename_i x hx
  refine ⟨by simpa using h.1, fun y hy => ?_⟩
  obtain ⟨z, hz, rfl⟩ := List.mem_map.1 hy
  exact (mulI_facts hf (h.2 z hz) (invI_facts hf (h.2 x (List.mem_of_getElem? hx))).1).1
 ·exact h
theorem clearV_ok {f : TF3} (hf : fieldOk f = true) {n c k i : Nat} {own r : List Int} (ho : own.length = n ∧ ∀ y ∈ own, inF f y) (h : r.length = n ∧ ∀ y ∈ r, inF f y) : (clearV f c k own i r).length = n ∧ ∀ y ∈ clearV f c k own i r, inF f y := by
 unfold clearV
 split
 ·rename_i x hx
  cases decide (i = k) || decide (x = 0)
  ·rw [cond_false]
   refine ⟨by simp [h.1, ho.1], fun y hy => ?_⟩
   obtain ⟨p, hp, rfl⟩ := List.mem_map.1 hy
   have h1 := List.of_mem_zip (a := p.1) (b := p.2) hp
   exact inF_xor hf (h.2 _ h1.1) (mulI_facts hf (h.2 x (List.mem_of_getElem? hx)) (ho.2 _ h1.2)).1
  ·exact h
 ·exact h
theorem pivL_ok {f : TF3} (hf : fieldOk f = true) {n c k a : Nat} {L : List (List Int)} (h : GR f n L) : GR f n (pivL f c k a L) ∧ (pivL f c k a L).length = L.length := by
 unfold pivL
 split
 ·rename_i row r0 h1 h2
  exact ⟨GR_set (GR_set h (GR_at h h2)) (scaleV_ok hf (GR_at h h1)), by simp⟩
 ·exact ⟨h, rfl⟩
theorem clearL_ok {f : TF3} (hf : fieldOk f = true) {n c a : Nat} {L : List (List Int)} (h : GR f n L) : GR f n (clearL f c a L) ∧ (clearL f c a L).length = L.length := by
 unfold clearL
 split
 ·rename_i own h1
  refine ⟨fun r hr => ?_, by simp⟩
  obtain ⟨i, hi, rfl⟩ := List.mem_mapIdx.1 hr
  exact clearV_ok hf (GR_at h h1) (h _ (List.getElem_mem hi))
 ·exact ⟨h, rfl⟩
theorem echStep_ok {f : TF3} (hf : fieldOk f = true) {n c : Nat} {s : Nat × List (List Int)} (h : GR f n s.2) (ha : s.1 ≤ s.2.length) : GR f n (echStep f c s).2 ∧ (echStep f c s).2.length = s.2.length ∧ (echStep f c s).1 ≤ s.2.length := by
 unfold echStep
 rcases idxI_cases (nzAt c) (s.2.drop s.1) s.1 with ⟨h1, _⟩ | ⟨k, x, h1, _, h3⟩
 ·rw [h1]; exact ⟨h, rfl, ha⟩
 ·rw [h3, decide_eq_false (by omega), cond_false]
  have hlt := (List.getElem?_eq_some_iff.1 h1).1
  rw [List.length_drop] at hlt
  have hp := pivL_ok (c := c) (k := ((s.1 + k : Nat) : Int).toNat) (a := s.1) hf h
  have hc := clearL_ok (c := c) (a := s.1) hf hp.1
  exact ⟨hc.1, by rw [hc.2, hp.2], by show s.1 + 1 ≤ _; omega⟩
theorem echFrom_ok {f : TF3} (hf : fieldOk f = true) {n : Nat} : ∀ (m c : Nat) (s : Nat × List (List Int)), GR f n s.2 → s.1 ≤ s.2.length → GR f n (echFrom f c m s).2 ∧ (echFrom f c m s).2.length = s.2.length ∧ (echFrom f c m s).1 ≤ s.2.length := by
 intro m
 induction m with
 | zero => intro c s h ha; exact ⟨h, rfl, ha⟩
 | succ m ih =>
  intro c s h ha
  have h1 := echStep_ok (c := c) hf h ha
  have h2 := ih (c + 1) _ h1.1 (by rw [h1.2.1]; exact h1.2.2)
  rw [h1.2.1] at h2
  exact h2
theorem echV_GR {f : TF3} (hf : fieldOk f = true) {n m : Nat} {L : List (List Int)} (h : GR f n L) : GR f n (echV f m L) := fun r hr => (echFrom_ok hf m 0 (0, L) h (Nat.zero_le _)).1 r (List.mem_of_mem_take hr)
theorem echV_len {f : TF3} (hf : fieldOk f = true) {n m : Nat} {L : List (List Int)} (h : GR f n L) : (echV f m L).length = (echFrom f 0 m (0, L)).1 := by
 have := echFrom_ok hf m 0 (0, L) h (Nat.zero_le _)
 unfold echV
 rw [List.length_take, this.2.1]
 exact Nat.min_eq_left this.2.2
theorem idxI_add {α : Type} (p : α → Bool) : ∀ (l : List α) (i j : Nat), idxI p (i + j) l = if idxI p j l < 0 then -1 else (i : Int) + idxI p j l := by
 intro l
 induction l with
 | nil => intro i j; rfl
 | cons x l ih =>
  intro i j
  rcases Bool.eq_false_or_eq_true (p x) with hp | hp
  ·have e1 : idxI p (i + j) (x :: l) = ((i + j : Nat) : Int) := by simp only [idxI, hp, cond_true]
   have e2 : idxI p j (x :: l) = (j : Int) := by simp only [idxI, hp, cond_true]
   rw [e1, e2, if_neg (by omega)]
   omega
  ·have e1 : idxI p (i + j) (x :: l) = idxI p (i + (j + 1)) l := by simp only [idxI, hp, cond_false]; rfl
   have e2 : idxI p j (x :: l) = idxI p (j + 1) l := by simp only [idxI, hp, cond_false]
   rw [e1, e2]
   exact ih i (j + 1)
theorem foldE_seti {α β γ : Type} (g : Nat → α → γ) (fin : List γ → β) : ∀ (l : List α) (i : Nat) (acc : List γ), acc.length = i + l.length → foldE (fun i acc x => (.inl (acc.set i (g i x)) : List γ ⊕ β)) fin i acc l = fin (acc.take i ++ l.mapIdx fun j x => g (i + j) x) := by
 intro l
 induction l with
 | nil => intro i acc h; simp only [foldE, List.mapIdx_nil, List.append_nil]; rw [List.take_of_length_le (by simp at h; omega)]
 | cons x l ih =>
  intro i acc h
  simp only [List.length_cons] at h
  simp only [foldE]
  rw [ih (i + 1) _ (by simp; omega), List.take_add_one, List.mapIdx_cons]
  simp [show i < acc.length by omega, List.take_set_of_le (Nat.le_refl i), Nat.add_assoc, Nat.add_comm 1]
end Go.Proofs.Ytkgekgfmnhccmaa

namespace Go.Proofs.Ytkgekgfmnhccmaa
open Go Go.Abs Go.Proofs
-- shared
theorem split2 {n d : Nat} (h0 : n ≠ 0) (hn : n < 2 ^ d) : ∃ i m, i < d ∧ m < n ∧ n = m ^^^ 2 ^ i := by
 have hl := Nat.log2_lt (n := n) (k := d) h0 |>.2 hn
 have hself := Nat.log2_self_le h0
 have hup := Nat.lt_log2_self (n := n)
 have hb1 : n ^^^ 2 ^ n.log2 < 2 ^ n.log2 := by
  apply Nat.lt_pow_two_of_testBit
  intro i hi
  rw [Nat.testBit_xor, Nat.testBit_two_pow]
  by_cases hi2 : n.log2 = i
  ·subst hi2
   rw [Nat.testBit_log2 h0]
   simp
  ·have : n.testBit i = false := Nat.testBit_lt_two_pow (Nat.lt_of_lt_of_le hup (Nat.pow_le_pow_right (by omega) (by omega)))
   rw [this]
   simp [hi2]
 exact ⟨n.log2, n ^^^ 2 ^ n.log2, hl, by omega, by rw [Nat.xor_assoc, Nat.xor_self, Nat.xor_zero]⟩
def AddN (d : Nat) (g : Nat → Nat) : Prop := ∀ a b, a < 2 ^ d → b < 2 ^ d → g (a ^^^ b) = g a ^^^ g b
theorem AddN.zero {d : Nat} {g : Nat → Nat} (h : AddN d g) : g 0 = 0 := by
 have e1 := h 0 0 (Nat.two_pow_pos d) (Nat.two_pow_pos d)
 rw [Nat.xor_self] at e1
 rw [Nat.xor_self] at e1
 exact e1
theorem add_of {d : Nat} {g : Nat → Nat} (h0 : g 0 = 0) (h : ∀ b i, b < 2 ^ d → i < d → g (b ^^^ 2 ^ i) = g b ^^^ g (2 ^ i)) : AddN d g := by
 intro b c
 induction c using Nat.strongRecOn generalizing b with
 | ind c ih =>
  intro hb hc
  by_cases hz : c = 0
  ·subst hz; rw [Nat.xor_zero, h0, Nat.xor_zero]
  ·obtain ⟨i, m, hi, hm, he⟩ := split2 hz hc
   have hp : 2 ^ i < 2 ^ d := Nat.pow_lt_pow_right (by omega) hi
   have hm2 : m < 2 ^ d := by omega
   rw [he, ← Nat.xor_assoc, h _ _ (Nat.xor_lt_two_pow hb hm2) hi, ih m hm b hb hm2, h _ _ hm2 hi, Nat.xor_assoc]
theorem lin_ext {d : Nat} {g h : Nat → Nat} (hg : AddN d g) (hh : AddN d h) (hb : ∀ i, i < d → g (2 ^ i) = h (2 ^ i)) : ∀ n, n < 2 ^ d → g n = h n := by
 intro n
 induction n using Nat.strongRecOn with
 | ind n ih =>
  intro hn
  by_cases h0 : n = 0
  ·subst h0; rw [hg.zero, hh.zero]
  ·obtain ⟨i, m, hi, hm, he⟩ := split2 h0 hn
   have hp : 2 ^ i < 2 ^ d := Nat.pow_lt_pow_right (by omega) hi
   rw [he, hg _ _ (by omega) hp, hh _ _ (by omega) hp, ih m hm (by omega), hb i hi]
def distN (d p : Nat) : Bool := (List.range (2 ^ d)).all fun a => (List.range (2 ^ d)).all fun b => (List.range d).all fun i => Nat.beq (mulN p a (Nat.xor b (2 ^ i))) (Nat.xor (mulN p a b) (mulN p a (2 ^ i)))
def assocN (d p : Nat) : Bool := (List.range (2 ^ d)).all fun a => (List.range d).all fun j => (List.range d).all fun i => Nat.beq (mulN p (mulN p a (2 ^ j)) (2 ^ i)) (mulN p a (mulN p (2 ^ j) (2 ^ i)))
def oneN (d p : Nat) : Bool := (List.range (2 ^ d)).all fun a => Nat.beq (mulN p a 1) a && Nat.beq (mulN p a 0) 0
set_option maxRecDepth 100000 in
theorem distN_all : (fieldN.all fun q => distN q.1 q.2) = true := by kernel_rfl
set_option maxRecDepth 100000 in
theorem assocN_all : (fieldN.all fun q => assocN q.1 q.2) = true := by kernel_rfl
set_option maxRecDepth 100000 in
theorem oneN_all : (fieldN.all fun q => oneN q.1 q.2) = true := by kernel_rfl
theorem mulN_lt {d p a b : Nat} (hq : (d, p) ∈ fieldN) (ha : a < 2 ^ d) (hb : b < 2 ^ d) : mulN p a b < 2 ^ d ∧ mulN p a b = mulN p b a := by
 have h1 := List.all_eq_true.1 (List.all_eq_true.1 (List.all_eq_true.1 mulFacts_all _ hq) a (List.mem_range.2 ha)) b (List.mem_range.2 hb)
 rw [Bool.and_eq_true] at h1
 exact ⟨Nat.le_of_ble_eq_true h1.1, Nat.eq_of_beq_eq_true h1.2⟩
theorem mulN_one {d p a : Nat} (hq : (d, p) ∈ fieldN) (ha : a < 2 ^ d) : mulN p a 1 = a ∧ mulN p a 0 = 0 := by
 have h1 := List.all_eq_true.1 (List.all_eq_true.1 oneN_all _ hq) a (List.mem_range.2 ha)
 rw [Bool.and_eq_true] at h1
 exact ⟨Nat.eq_of_beq_eq_true h1.1, Nat.eq_of_beq_eq_true h1.2⟩
theorem mulN_add {d p a : Nat} (hq : (d, p) ∈ fieldN) (ha : a < 2 ^ d) : AddN d (mulN p a) := by
 refine add_of (mulN_one hq ha).2 fun b i hb hi => ?_
 have h1 := List.all_eq_true.1 (List.all_eq_true.1 (List.all_eq_true.1 (List.all_eq_true.1 distN_all _ hq) a (List.mem_range.2 ha)) b (List.mem_range.2 hb)) i (List.mem_range.2 hi)
 exact Nat.eq_of_beq_eq_true h1
theorem mulN_add_left {d p b : Nat} (hq : (d, p) ∈ fieldN) (hb : b < 2 ^ d) : AddN d (fun a => mulN p a b) := by
 intro x y hx hy
 show mulN p (x ^^^ y) b = mulN p x b ^^^ mulN p y b
 rw [(mulN_lt hq (Nat.xor_lt_two_pow hx hy) hb).2, mulN_add hq hb x y hx hy, (mulN_lt hq hx hb).2, (mulN_lt hq hy hb).2]
theorem mulN_assoc {d p a b c : Nat} (hq : (d, p) ∈ fieldN) (ha : a < 2 ^ d) (hb : b < 2 ^ d) (hc : c < 2 ^ d) : mulN p (mulN p a b) c = mulN p a (mulN p b c) := by
 have hpow : ∀ i, i < d → 2 ^ i < 2 ^ d := fun i hi => Nat.pow_lt_pow_right (by omega) hi
 have k1 : ∀ i, i < d → ∀ b, b < 2 ^ d → mulN p (mulN p a b) (2 ^ i) = mulN p a (mulN p b (2 ^ i)) := by
  intro i hi
  refine lin_ext (g := fun b => mulN p (mulN p a b) (2 ^ i)) (h := fun b => mulN p a (mulN p b (2 ^ i))) ?_ ?_ ?_
  ·intro x y hx hy
   show mulN p (mulN p a (x ^^^ y)) (2 ^ i) = _
   rw [mulN_add hq ha x y hx hy]
   exact mulN_add_left hq (hpow i hi) _ _ (mulN_lt hq ha hx).1 (mulN_lt hq ha hy).1
  ·intro x y hx hy
   show mulN p a (mulN p (x ^^^ y) (2 ^ i)) = _
   rw [show mulN p (x ^^^ y) (2 ^ i) = _ from mulN_add_left hq (hpow i hi) x y hx hy]
   exact mulN_add hq ha _ _ (mulN_lt hq hx (hpow i hi)).1 (mulN_lt hq hy (hpow i hi)).1
  ·intro j hj
   have h1 := List.all_eq_true.1 (List.all_eq_true.1 (List.all_eq_true.1 (List.all_eq_true.1 assocN_all _ hq) a (List.mem_range.2 ha)) j (List.mem_range.2 hj)) i (List.mem_range.2 hi)
   exact Nat.eq_of_beq_eq_true h1
 refine lin_ext (g := fun c => mulN p (mulN p a b) c) (h := fun c => mulN p a (mulN p b c)) ?_ ?_ (fun i hi => k1 i hi b hb) c hc
 ·exact mulN_add hq (mulN_lt hq ha hb).1
 ·intro x y hx hy
  show mulN p a (mulN p b (x ^^^ y)) = _
  rw [mulN_add hq hb x y hx hy]
  exact mulN_add hq ha _ _ (mulN_lt hq hb hx).1 (mulN_lt hq hb hy).1
theorem inF_of {f : TF3} (hf : fieldOk f = true) : ∃ d p : Nat, (d, p) ∈ fieldN ∧ f = ((d : Int), (p : Int), ()) ∧ ∀ a, inF f a → ∃ m : Nat, a = (m : Int) ∧ m < 2 ^ d ∧ m < 2 ^ 63 := by
 obtain ⟨d, p, hq, rfl⟩ := fieldN_of hf
 refine ⟨d, p, hq, rfl, fun a ha => ?_⟩
 obtain ⟨m, e, h1, h2⟩ := inF_nat hf ha
 exact ⟨m, e, by simpa using h1, h2⟩
theorem mulI_nat {d p m n : Nat} : mulI ((d : Int), (p : Int), ()) (m : Int) (n : Int) = ((mulN p m n : Nat) : Int) := by
 unfold mulI
 simp only [Int.toNat_natCast]
theorem mulI_in {f : TF3} (hf : fieldOk f = true) {a b : Int} (ha : inF f a) (hb : inF f b) : inF f (mulI f a b) := (mulI_facts hf ha hb).1
theorem mulI_comm {f : TF3} (hf : fieldOk f = true) {a b : Int} (ha : inF f a) (hb : inF f b) : mulI f a b = mulI f b a := (mulI_facts hf ha hb).2
theorem pow63 {d p : Nat} (hq : (d, p) ∈ fieldN) {x : Nat} (h : x < 2 ^ d) : x < 2 ^ 63 := by
 have : ∀ q ∈ fieldN, q.1 ≤ 5 := by decide
 have h5 := this _ hq
 have : 2 ^ d ≤ 2 ^ 5 := Nat.pow_le_pow_right (by omega) h5
 omega
theorem mulI_xor {f : TF3} (hf : fieldOk f = true) {a b c : Int} (ha : inF f a) (hb : inF f b) (hc : inF f c) : mulI f a (ixor .i64 b c) = ixor .i64 (mulI f a b) (mulI f a c) := by
 obtain ⟨d, p, hq, rfl, hn⟩ := inF_of hf
 obtain ⟨x, rfl, hx, hx6⟩ := hn a ha
 obtain ⟨y, rfl, hy, hy6⟩ := hn b hb
 obtain ⟨z, rfl, hz, hz6⟩ := hn c hc
 rw [ixor_nat hy6 hz6, mulI_nat, mulI_nat, mulI_nat, ixor_nat (pow63 hq (mulN_lt hq hx hy).1) (pow63 hq (mulN_lt hq hx hz).1), mulN_add hq hx y z hy hz]
theorem mulI_assoc {f : TF3} (hf : fieldOk f = true) {a b c : Int} (ha : inF f a) (hb : inF f b) (hc : inF f c) : mulI f (mulI f a b) c = mulI f a (mulI f b c) := by
 obtain ⟨d, p, hq, rfl, hn⟩ := inF_of hf
 obtain ⟨x, rfl, hx, hx6⟩ := hn a ha
 obtain ⟨y, rfl, hy, hy6⟩ := hn b hb
 obtain ⟨z, rfl, hz, hz6⟩ := hn c hc
 rw [mulI_nat, mulI_nat, mulI_nat, mulI_nat, mulN_assoc hq hx hy hz]
theorem mulI_one {f : TF3} (hf : fieldOk f = true) {a : Int} (ha : inF f a) : mulI f a 1 = a := by
 obtain ⟨d, p, hq, rfl, hn⟩ := inF_of hf
 obtain ⟨x, rfl, hx, hx6⟩ := hn a ha
 rw [show (1 : Int) = ((1 : Nat) : Int) from rfl, mulI_nat, (mulN_one hq hx).1]
theorem mulI_zero {f : TF3} (hf : fieldOk f = true) {a : Int} (ha : inF f a) : mulI f a 0 = 0 := by
 obtain ⟨d, p, hq, rfl, hn⟩ := inF_of hf
 obtain ⟨x, rfl, hx, hx6⟩ := hn a ha
 rw [show (0 : Int) = ((0 : Nat) : Int) from rfl, mulI_nat, (mulN_one hq hx).2]
theorem xorF_comm {f : TF3} (hf : fieldOk f = true) {a b : Int} (ha : inF f a) (hb : inF f b) : ixor .i64 a b = ixor .i64 b a := by
 obtain ⟨x, rfl, _, hx⟩ := inF_nat hf ha
 obtain ⟨y, rfl, _, hy⟩ := inF_nat hf hb
 rw [ixor_nat hx hy, ixor_nat hy hx, Nat.xor_comm]
theorem xorF_assoc {f : TF3} (hf : fieldOk f = true) {a b c : Int} (ha : inF f a) (hb : inF f b) (hc : inF f c) : ixor .i64 (ixor .i64 a b) c = ixor .i64 a (ixor .i64 b c) := by
 obtain ⟨x, rfl, hx1, hx⟩ := inF_nat hf ha
 obtain ⟨y, rfl, hy1, hy⟩ := inF_nat hf hb
 obtain ⟨z, rfl, hz1, hz⟩ := inF_nat hf hc
 rw [ixor_nat hx hy, ixor_nat hy hz, ixor_nat (Nat.xor_lt_two_pow hx hy) hz, ixor_nat hx (Nat.xor_lt_two_pow hy hz), Nat.xor_assoc]
theorem xorF_zero {f : TF3} (hf : fieldOk f = true) {a : Int} (ha : inF f a) : ixor .i64 a 0 = a := by
 rw [xorF_comm hf ha inF_zero, zero_xorF hf ha]
end Go.Proofs.Ytkgekgfmnhccmaa

namespace Go.Proofs.Ytkgekgfmnhccmaa
open Go Go.Abs Go.Proofs
-- shared
theorem into_lt {n : TN6} (h : NetP n) {i : Nat} {e : List Int} (he : n.2.2.2.1[i]? = some e) {x : Int} (hx : x ∈ intoV n.2.2.2.1 (e0 e)) : ∃ j : Nat, x = (j : Int) ∧ j < i := by
 obtain ⟨j, q, hq, hj⟩ := (mem_pickI _ 0).1 hx
 rw [Nat.zero_add] at hj
 split at hj
 case isFalse => cases hj
 rename_i h1
 refine ⟨j, (Option.some.inj hj).symm, ?_⟩
 obtain ⟨a, b, rfl, ha, hab, hb⟩ := h.two hq
 have mono : ∀ d k : Nat, ∀ p r : List Int, n.2.2.2.1[k]? = some p → n.2.2.2.1[k + d]? = some r → e0 p ≤ e0 r := by
  intro d
  induction d with
  | zero => intro k p r hp hr; rw [Nat.add_zero, hp] at hr; cases hr; exact Int.le_refl _
  | succ d ih =>
   intro k p r hp hr
   obtain ⟨s, hs⟩ : ∃ s, n.2.2.2.1[k + d]? = some s := ⟨_, List.getElem?_eq_getElem (by have := (List.getElem?_eq_some_iff.1 hr).1; omega)⟩
   have h2 := h.edges _ _ hr
   unfold edgeOk at h2
   rw [Bool.and_eq_true, Bool.and_eq_true] at h2
   have h3 := h2.2.2
   rw [Bool.or_eq_true, decide_eq_true_eq, decide_eq_true_eq, show k + (d + 1) - 1 = k + d by omega, getD_of hs] at h3
   have := ih k p s hp hs
   omega
 rcases Nat.lt_or_ge j i with hlt | hge
 ·exact hlt
 ·obtain ⟨d, rfl⟩ : ∃ d, j = i + d := ⟨j - i, by omega⟩
  have h2 := mono d i e [a, b] he hq
  simp only [e0, e1, List.getD_cons_zero, List.getD_cons_succ] at h1 h2
  omega
def unitV (M k : Nat) : List Int := (List.replicate M 0).set k 1
def okV (f : TF3) (M : Nat) (r : List Int) : Prop := r.length = M ∧ ∀ y ∈ r, inF f y
theorem unitV_ok {f : TF3} (hf : fieldOk f = true) (M k : Nat) : okV f M (unitV M k) := by
 refine ⟨by simp [unitV], fun y hy => ?_⟩
 rcases List.mem_or_eq_of_mem_set hy with h | rfl
 ·rw [(List.mem_replicate.1 h).2]; exact inF_zero
 ·exact inF_one hf
theorem zeroV_ok {f : TF3} (M : Nat) : okV f M (List.replicate M 0) := ⟨by simp, fun y hy => by rw [(List.mem_replicate.1 hy).2]; exact inF_zero⟩
theorem addV_ok {f : TF3} (hf : fieldOk f = true) {M : Nat} {u w : List Int} {x : Int} (hu : okV f M u) (hw : okV f M w) (hx : inF f x) : okV f M (addV f u w x) := by
 unfold addV
 refine ⟨by simp [hu.1, hw.1], fun y hy => ?_⟩
 obtain ⟨p, hp, rfl⟩ := List.mem_map.1 hy
 have h1 := List.of_mem_zip (a := p.1) (b := p.2) hp
 exact inF_xor hf (hu.2 _ h1.1) (mulI_in hf (hw.2 _ h1.2) hx)
def combV (f : TF3) (src : Nat → List Int) : Nat → List Int → List Int → List Int
 | _, acc, [] => acc
 | k, acc, x :: cs => combV f src (k + 1) (addV f acc (src k) x) cs
theorem combV_ok {f : TF3} (hf : fieldOk f = true) {M : Nat} {src : Nat → List Int} : ∀ (cs : List Int) (k : Nat) (acc : List Int), okV f M acc → (∀ x ∈ cs, inF f x) → (∀ j, k ≤ j → j < k + cs.length → okV f M (src j)) → okV f M (combV f src k acc cs) := by
 intro cs
 induction cs with
 | nil => intro k acc h _ _; exact h
 | cons x cs ih =>
  intro k acc h hx hs
  exact ih (k + 1) _ (addV_ok hf h (hs k (Nat.le_refl _) (by simp)) (hx x (List.mem_cons_self ..))) (fun y hy => hx y (List.mem_cons_of_mem _ hy)) fun j h1 h2 => hs j (by omega) (by simp; omega)
def srcV (M : Nat) (vs : List (List Int)) (a : Int) (into : List Int) (k : Nat) : List Int := if a = 0 then unitV M k else vs.getD (into.getD k 0).toNat []
def edgeA (n : TN6) (i : Nat) : Int := e0 (n.2.2.2.1.getD i [])
def edgeC (n : TN6) (i : Nat) : List Int := n.2.2.2.2.1.getD i []
def messN (n : TN6) : Nat := n.2.2.1.toNat
def vecV (n : TN6) (vs : List (List Int)) (i : Nat) : List Int := combV n.1 (srcV (messN n) vs (edgeA n i) (intoV n.2.2.2.1 (edgeA n i))) 0 (List.replicate (messN n) 0) (edgeC n i)
def vecsV (n : TN6) : Nat → List (List Int)
 | 0 => []
 | i + 1 => vecsV n i ++ [vecV n (vecsV n i) i]
def vectorsV (n : TN6) : List (List Int) := vecsV n n.2.2.2.1.length
theorem vecsV_len (n : TN6) : ∀ i, (vecsV n i).length = i := by
 intro i
 induction i with
 | zero => rfl
 | succ i ih => simp [vecsV, ih]
theorem vecsV_get (n : TN6) : ∀ i j, j < i → (vecsV n i)[j]? = some (vecV n (vecsV n j) j) := by
 intro i
 induction i with
 | zero => intro j h; omega
 | succ i ih =>
  intro j h
  rw [show vecsV n (i + 1) = vecsV n i ++ [vecV n (vecsV n i) i] from rfl, List.getElem?_append, vecsV_len]
  by_cases hj : j < i
  ·rw [if_pos hj]; exact ih j hj
  ·have : j = i := by omega
   subst this
   rw [if_neg hj, Nat.sub_self]; rfl
theorem elsOk_in {f : TF3} (hf : fieldOk f = true) {c : List Int} (h : elsOk f c = true) : ∀ x ∈ c, inF f x := by
 intro x hx
 have := inR_iff.1 (List.all_eq_true.1 h x hx)
 unfold topF at this
 refine ⟨this.1, ?_⟩
 push_cast
 omega
theorem edgeC_ok {n : TN6} (h : NetP n) {i : Nat} (hi : i < n.2.2.2.1.length) : n.2.2.2.2.1[i]? = some (edgeC n i) ∧ ((edgeC n i).length : Int) = hasV n (edgeA n i) ∧ ∀ x ∈ edgeC n i, inF n.1 x := by
 have hc : n.2.2.2.2.1[i]? = some (edgeC n i) := by
  unfold edgeC
  rw [List.getD_eq_getElem?_getD, List.getElem?_eq_getElem (by rw [h.clen]; exact hi)]
  rfl
 have := h.coefs i _ hc
 unfold coefOk at this
 rw [Bool.and_eq_true, decide_eq_true_eq] at this
 exact ⟨hc, this.1, elsOk_in h.field this.2⟩
theorem edgeA_ok {n : TN6} (h : NetP n) {i : Nat} (hi : i < n.2.2.2.1.length) : ∃ e, n.2.2.2.1[i]? = some e ∧ edgeA n i = e0 e ∧ e[0]? = some (e0 e) ∧ e.length = 2 := by
 have he := List.getElem?_eq_getElem hi
 obtain ⟨a, b, hab, _⟩ := h.two he
 refine ⟨_, he, ?_, ?_, ?_⟩
 ·unfold edgeA; rw [getD_of he]
 ·rw [hab]; rfl
 ·rw [hab]; rfl
theorem mess_ok {n : TN6} (h : NetP n) : n.2.2.1 = (messN n : Int) ∧ 1 ≤ messN n ∧ messN n ≤ 3 := by
 have := h.mess
 unfold messN
 omega
theorem into_get {n : TN6} (h : NetP n) {i : Nat} (hi : i < n.2.2.2.1.length) {k : Nat} (hk : k < (intoV n.2.2.2.1 (edgeA n i)).length) : ∃ j : Nat, (intoV n.2.2.2.1 (edgeA n i))[k]? = some (j : Int) ∧ j < i := by
 obtain ⟨e, he, ha, _⟩ := edgeA_ok h hi
 obtain ⟨x, hx⟩ : ∃ x, (intoV n.2.2.2.1 (edgeA n i))[k]? = some x := ⟨_, List.getElem?_eq_getElem hk⟩
 rw [ha] at hx ⊢
 obtain ⟨j, hj, hlt⟩ := into_lt h he (List.mem_of_getElem? hx)
 rw [hj] at hx
 exact ⟨j, hx, hlt⟩
theorem srcV_ok {n : TN6} (h : NetP n) {i : Nat} (hi : i < n.2.2.2.1.length) {vs : List (List Int)} (hv : ∀ j, j < i → ∃ v, vs[j]? = some v ∧ okV n.1 (messN n) v) {k : Nat} (hk : k < (edgeC n i).length) : okV n.1 (messN n) (srcV (messN n) vs (edgeA n i) (intoV n.2.2.2.1 (edgeA n i)) k) := by
 have hl := (edgeC_ok h hi).2.1
 unfold srcV
 split
 ·exact unitV_ok h.field _ _
 ·rename_i h0
  unfold hasV at hl
  rw [if_neg h0] at hl
  obtain ⟨j, h1, h2⟩ := into_get h hi (k := k) (by omega)
  obtain ⟨v, hv1, hv2⟩ := hv j h2
  rw [getD_of h1, Int.toNat_natCast, getD_of hv1]
  exact hv2
theorem vecsV_ok {n : TN6} (h : NetP n) : ∀ i, i ≤ n.2.2.2.1.length → ∀ j, j < i → ∃ v, (vecsV n i)[j]? = some v ∧ okV n.1 (messN n) v := by
 intro i
 induction i using Nat.strongRecOn with
 | ind i ih =>
  intro hi j hj
  refine ⟨_, vecsV_get n i j hj, ?_⟩
  have hj2 : j < n.2.2.2.1.length := by omega
  exact combV_ok h.field _ 0 _ (zeroV_ok _) (edgeC_ok h hj2).2.2 fun k _ hk => srcV_ok h hj2 (ih j hj (by omega)) (by omega)
theorem vectorsV_ok {n : TN6} (h : NetP n) {j : Nat} (hj : j < n.2.2.2.1.length) : ∃ v, (vectorsV n)[j]? = some v ∧ okV n.1 (messN n) v := vecsV_ok h _ (Nat.le_refl _) j hj
theorem vectorsV_len (n : TN6) : (vectorsV n).length = n.2.2.2.1.length := vecsV_len n _
theorem into_all {n : TN6} (h : NetP n) {a x : Int} (hx : x ∈ intoV n.2.2.2.1 a) : ∃ j : Nat, x = (j : Int) ∧ j < n.2.2.2.1.length := by
 obtain ⟨j, q, hq, hj⟩ := (mem_pickI _ 0).1 hx
 rw [Nat.zero_add] at hj
 split at hj
 ·exact ⟨j, (Option.some.inj hj).symm, (List.getElem?_eq_some_iff.1 hq).1⟩
 ·cases hj
def rowsV (n : TN6) (node : Int) : List (List Int) := if node = 0 then (List.range (messN n)).map (unitV (messN n)) else (intoV n.2.2.2.1 node).map fun x => (vectorsV n).getD x.toNat []
theorem rowsV_GR {n : TN6} (h : NetP n) (node : Int) : GR n.1 (messN n) (rowsV n node) := by
 intro r hr
 unfold rowsV at hr
 split at hr
 ·obtain ⟨k, _, rfl⟩ := List.mem_map.1 hr
  exact unitV_ok h.field _ _
 ·obtain ⟨x, hx, rfl⟩ := List.mem_map.1 hr
  obtain ⟨j, rfl, hj⟩ := into_all h hx
  obtain ⟨v, hv, hok⟩ := vectorsV_ok h hj
  rw [Int.toNat_natCast, getD_of hv]
  exact hok
theorem rowsV_len {n : TN6} (h : NetP n) (node : Int) : (rowsV n node).length ≤ 14 := by
 have := pickI_len (f := fun i e => if e1 e = node then some (i : Int) else none) n.2.2.2.1 0
 have h2 := (mess_ok h).2.2
 have h3 := h.len
 unfold rowsV
 split
 ·simp; omega
 ·rw [List.length_map]; unfold intoV; omega
def dotV (f : TF3) : List Int → List Int → Int
 | x :: u, y :: w => ixor .i64 (mulI f x y) (dotV f u w)
 | _, _ => 0
theorem dotV_in {f : TF3} (hf : fieldOk f = true) : ∀ {u w : List Int}, (∀ x ∈ u, inF f x) → (∀ x ∈ w, inF f x) → inF f (dotV f u w) := by
 intro u
 induction u with
 | nil => intro w _ _; exact inF_zero
 | cons x u ih =>
  intro w hu hw
  cases w with
  | nil => exact inF_zero
  | cons y w => exact inF_xor hf (mulI_in hf (hu x (List.mem_cons_self ..)) (hw y (List.mem_cons_self ..))) (ih (fun z hz => hu z (List.mem_cons_of_mem _ hz)) fun z hz => hw z (List.mem_cons_of_mem _ hz))
theorem dotV_comm {f : TF3} (hf : fieldOk f = true) : ∀ {u w : List Int}, (∀ x ∈ u, inF f x) → (∀ x ∈ w, inF f x) → dotV f u w = dotV f w u := by
 intro u
 induction u with
 | nil => intro w _ _; cases w <;> rfl
 | cons x u ih =>
  intro w hu hw
  cases w with
  | nil => rfl
  | cons y w =>
   simp only [dotV]
   rw [mulI_comm hf (hu x (List.mem_cons_self ..)) (hw y (List.mem_cons_self ..)), ih (fun z hz => hu z (List.mem_cons_of_mem _ hz)) fun z hz => hw z (List.mem_cons_of_mem _ hz)]
theorem xor4 {f : TF3} (hf : fieldOk f = true) {a b c d : Int} (ha : inF f a) (hb : inF f b) (hc : inF f c) (hd : inF f d) : ixor .i64 (ixor .i64 a b) (ixor .i64 c d) = ixor .i64 (ixor .i64 a c) (ixor .i64 b d) := by
 rw [xorF_assoc hf ha hb (inF_xor hf hc hd), ← xorF_assoc hf hb hc hd, xorF_comm hf hb hc, xorF_assoc hf hc hb hd, ← xorF_assoc hf ha hc (inF_xor hf hb hd)]
theorem dotV_addV {f : TF3} (hf : fieldOk f = true) {c : Int} (hc : inF f c) : ∀ {u v w : List Int}, u.length = v.length → (∀ x ∈ u, inF f x) → (∀ x ∈ v, inF f x) → (∀ x ∈ w, inF f x) → dotV f (addV f u v c) w = ixor .i64 (dotV f u w) (mulI f c (dotV f v w)) := by
 intro u
 induction u with
 | nil =>
  intro v w hl _ _ _
  cases v with
  | nil => simp only [addV, List.zip_nil_left, List.map_nil, dotV]; rw [mulI_zero hf hc, zero_xorF hf inF_zero]
  | cons y v => simp at hl
 | cons x u ih =>
  intro v w hl hu hv hw
  cases v with
  | nil => simp at hl
  | cons y v =>
   cases w with
   | nil => simp only [dotV, addV, List.zip_cons_cons, List.map_cons]; rw [mulI_zero hf hc, zero_xorF hf inF_zero]
   | cons z w =>
    have hx := hu x (List.mem_cons_self ..)
    have hy := hv y (List.mem_cons_self ..)
    have hz := hw z (List.mem_cons_self ..)
    have hu2 : ∀ x ∈ u, inF f x := fun z hz => hu z (List.mem_cons_of_mem _ hz)
    have hv2 : ∀ x ∈ v, inF f x := fun z hz => hv z (List.mem_cons_of_mem _ hz)
    have hw2 : ∀ x ∈ w, inF f x := fun z hz => hw z (List.mem_cons_of_mem _ hz)
    have := ih (by simpa using hl) hu2 hv2 hw2
    unfold addV at this
    simp only [addV, List.zip_cons_cons, List.map_cons, dotV]
    rw [this]
    have hd1 := dotV_in hf hu2 hw2
    have hd2 := dotV_in hf hv2 hw2
    have hyc := mulI_in hf hy hc
    rw [mulI_xor hf hc (mulI_in hf hy hz) hd2]
    rw [mulI_comm hf (inF_xor hf hx hyc) hz, mulI_xor hf hz hx hyc, mulI_comm hf hz hx]
    rw [show mulI f z (mulI f y c) = mulI f c (mulI f y z) from by
     rw [mulI_comm hf hy hc, ← mulI_assoc hf hz hc hy, mulI_comm hf hz hc, mulI_assoc hf hc hz hy, mulI_comm hf hz hy]]
    exact xor4 hf (mulI_in hf hx hz) (mulI_in hf hc (mulI_in hf hy hz)) hd1 (mulI_in hf hc hd2)
theorem dotV_zero {f : TF3} (hf : fieldOk f = true) : ∀ {w : List Int} (n : Nat), (∀ x ∈ w, inF f x) → dotV f (List.replicate n 0) w = 0 := by
 intro w n
 induction n generalizing w with
 | zero => intro _; rfl
 | succ n ih =>
  intro hw
  cases w with
  | nil => rfl
  | cons y w =>
   simp only [List.replicate_succ, dotV]
   rw [ih fun z hz => hw z (List.mem_cons_of_mem _ hz), mulI_comm hf inF_zero (hw y (List.mem_cons_self ..)), mulI_zero hf (hw y (List.mem_cons_self ..)), zero_xorF hf inF_zero]
theorem dotV_unit {f : TF3} (hf : fieldOk f = true) : ∀ {w : List Int} (n k : Nat), (∀ x ∈ w, inF f x) → n = w.length → k < n → dotV f (unitV n k) w = w.getD k 0 := by
 intro w
 induction w with
 | nil => intro n k _ h1 h2; simp at h1; omega
 | cons y w ih =>
  intro n k hw h1 h2
  simp only [List.length_cons] at h1
  subst h1
  have hy := hw y (List.mem_cons_self ..)
  have hw2 : ∀ x ∈ w, inF f x := fun z hz => hw z (List.mem_cons_of_mem _ hz)
  cases k with
  | zero =>
   simp only [unitV, List.replicate_succ, List.set_cons_zero, dotV, List.getD_cons_zero]
   rw [dotV_zero hf _ hw2, mulI_comm hf (inF_one hf) hy, mulI_one hf hy, xorF_zero hf hy]
  | succ k =>
   have := ih w.length k hw2 rfl (by omega)
   unfold unitV at this
   simp only [unitV, List.replicate_succ, List.set_cons_succ, dotV, List.getD_cons_succ]
   rw [this, mulI_comm hf inF_zero hy, mulI_zero hf hy]
   refine zero_xorF hf ?_
   rw [List.getD_eq_getElem?_getD, List.getElem?_eq_getElem (by omega)]
   exact hw2 _ (List.getElem_mem _)
theorem dotV_combV {f : TF3} (hf : fieldOk f = true) {M : Nat} {src : Nat → List Int} {w : List Int} (hw : ∀ x ∈ w, inF f x) : ∀ (cs : List Int) (k : Nat) (acc : List Int), okV f M acc → (∀ x ∈ cs, inF f x) → (∀ j, k ≤ j → j < k + cs.length → okV f M (src j)) →
  dotV f (combV f src k acc cs) w = ixor .i64 (dotV f acc w) (dotV f cs ((List.range' k cs.length).map fun j => dotV f (src j) w)) := by
 intro cs
 induction cs with
 | nil => intro k acc h _ _; simp only [combV, dotV]; rw [xorF_zero hf (dotV_in hf h.2 hw)]
 | cons x cs ih =>
  intro k acc h hx hs
  have hk := hs k (Nat.le_refl _) (by simp)
  have hx0 := hx x (List.mem_cons_self ..)
  have hx2 : ∀ y ∈ cs, inF f y := fun y hy => hx y (List.mem_cons_of_mem _ hy)
  have hs2 : ∀ j, k + 1 ≤ j → j < k + 1 + cs.length → okV f M (src j) := fun j h1 h2 => hs j (by omega) (by simp; omega)
  have hd : ∀ y ∈ (List.range' (k + 1) cs.length).map (fun j => dotV f (src j) w), inF f y := by
   intro y hy
   obtain ⟨j, hj, rfl⟩ := List.mem_map.1 hy
   have := List.mem_range'_1.1 hj
   exact dotV_in hf (hs2 j (by omega) (by omega)).2 hw
  unfold combV
  rw [ih (k + 1) _ (addV_ok hf h hk hx0) hx2 hs2, dotV_addV hf hx0 (by rw [h.1, hk.1]) h.2 hk.2 hw]
  simp only [List.length_cons, List.range'_succ, List.map_cons, dotV]
  exact xorF_assoc hf (dotV_in hf h.2 hw) (mulI_in hf hx0 (dotV_in hf hk.2 hw)) (dotV_in hf hx2 hd)
def atV (n : TN6) (node : Int) (ms car : List Int) : List Int := if node = 0 then ms else (intoV n.2.2.2.1 node).map fun x => car.getD x.toNat 0
def carV (n : TN6) (ms es : List Int) : Nat → List Int
 | 0 => []
 | i + 1 => carV n ms es i ++ [ixor .i64 (dotV n.1 (edgeC n i) (atV n (edgeA n i) ms (carV n ms es i))) (es.getD i 0)]
def carriedV (n : TN6) (ms es : List Int) : List Int := carV n ms es n.2.2.2.1.length
theorem carV_len (n : TN6) (ms es : List Int) : ∀ i, (carV n ms es i).length = i := by
 intro i
 induction i with
 | zero => rfl
 | succ i ih => simp [carV, ih]
theorem carV_get (n : TN6) (ms es : List Int) : ∀ i j, j < i → (carV n ms es i)[j]? = some (ixor .i64 (dotV n.1 (edgeC n j) (atV n (edgeA n j) ms (carV n ms es j))) (es.getD j 0)) := by
 intro i
 induction i with
 | zero => intro j h; omega
 | succ i ih =>
  intro j h
  rw [show carV n ms es (i + 1) = carV n ms es i ++ [ixor .i64 (dotV n.1 (edgeC n i) (atV n (edgeA n i) ms (carV n ms es i))) (es.getD i 0)] from rfl, List.getElem?_append, carV_len]
  by_cases hj : j < i
  ·rw [if_pos hj]; exact ih j hj
  ·have : j = i := by omega
   subst this
   rw [if_neg hj, Nat.sub_self]; rfl
theorem car_lin {n : TN6} (h : NetP n) {ms : List Int} (hm : okV n.1 (messN n) ms) : ∀ j, j < n.2.2.2.1.length → ∀ i, j < i → (carV n ms (List.replicate n.2.2.2.1.length 0) i)[j]? = some (dotV n.1 (vecV n (vecsV n j) j) ms) := by
 intro j
 induction j using Nat.strongRecOn with
 | ind j ih =>
  intro hj i hi
  have hf := h.field
  obtain ⟨hc1, hc2, hc3⟩ := edgeC_ok h hj
  have hvs := vecsV_ok h j (by omega)
  have hsrc : ∀ k, 0 ≤ k → k < 0 + (edgeC n j).length → okV n.1 (messN n) (srcV (messN n) (vecsV n j) (edgeA n j) (intoV n.2.2.2.1 (edgeA n j)) k) := fun k _ hk => srcV_ok h hj hvs (by omega)
  have hd := dotV_combV hf (w := ms) hm.2 (edgeC n j) 0 (List.replicate (messN n) 0) (zeroV_ok _) hc3 hsrc
  rw [carV_get n ms _ i j hi]
  unfold vecV
  rw [hd, dotV_zero hf _ hm.2]
  have e0 : (List.replicate n.2.2.2.1.length (0 : Int)).getD j 0 = 0 := by
   rw [List.getD_eq_getElem?_getD, List.getElem?_replicate]; split <;> rfl
  have hat : atV n (edgeA n j) ms (carV n ms (List.replicate n.2.2.2.1.length 0) j) = (List.range' 0 (edgeC n j).length).map fun k => dotV n.1 (srcV (messN n) (vecsV n j) (edgeA n j) (intoV n.2.2.2.1 (edgeA n j)) k) ms := by
   unfold hasV at hc2
   unfold atV srcV
   by_cases h0 : edgeA n j = 0
   ·rw [if_pos h0] at hc2 ⊢
    have hl : (edgeC n j).length = messN n := by have := (mess_ok h).1; omega
    apply List.ext_getElem?
    intro k
    rw [List.getElem?_map, hl]
    by_cases hk : k < messN n
    ·rw [List.getElem?_range' hk]
     simp only [Option.map_some, h0, if_true]
     rw [dotV_unit hf (messN n) _ hm.2 hm.1.symm (by omega), List.getD_eq_getElem?_getD]
     simp [List.getElem?_eq_getElem (show k < ms.length by rw [hm.1]; exact hk)]
    ·rw [List.getElem?_eq_none (by rw [hm.1]; omega), List.getElem?_eq_none (by simp; omega)]; rfl
   ·rw [if_neg h0] at hc2 ⊢
    have hl : (edgeC n j).length = (intoV n.2.2.2.1 (edgeA n j)).length := by omega
    apply List.ext_getElem?
    intro k
    rw [List.getElem?_map, List.getElem?_map, hl]
    by_cases hk : k < (intoV n.2.2.2.1 (edgeA n j)).length
    ·rw [List.getElem?_range' hk]
     obtain ⟨x, hx, hlt⟩ := into_get h hj hk
     simp only [Option.map_some, h0, if_false, Nat.zero_add, Nat.one_mul]
     rw [hx, getD_of hx, Int.toNat_natCast]
     rw [getD_of (vecsV_get n j x hlt), Option.map_some, Int.toNat_natCast, getD_of (ih x hlt (by omega) j hlt)]
    ·rw [List.getElem?_eq_none (by omega), List.getElem?_eq_none (by simp; omega)]; rfl
  rw [e0, hat]
  have hin : inF n.1 (dotV n.1 (edgeC n j) ((List.range' 0 (edgeC n j).length).map fun k => dotV n.1 (srcV (messN n) (vecsV n j) (edgeA n j) (intoV n.2.2.2.1 (edgeA n j)) k) ms)) := by
   refine dotV_in hf hc3 fun y hy => ?_
   obtain ⟨k, hk, rfl⟩ := List.mem_map.1 hy
   have := List.mem_range'_1.1 hk
   exact dotV_in hf (hsrc k (by omega) (by omega)).2 hm.2
  rw [xorF_zero hf hin, zero_xorF hf hin]
end Go.Proofs.Ytkgekgfmnhccmaa

namespace Go.Proofs.Ytkgekgfmnhccmaa
open Go Go.Abs Go.Proofs
noncomputable def s_l07Unit (p0 : Int) (p1 : Int) : Tre (List Int) :=
 .ite (((.int .i64) : K) = (.int .i64) ∧ 0 ≤ p0 ∧ p0 = p0 ∧ p0 * (8 : Nat) ≤ 140737488355328 ∧ 1 ≤ 8) <|
 .ite (0 ≤ p1 ∧ p1 < ((List.replicate p0.toNat (0 : Int)).length : Int)) <|
 .mat ((List.replicate p0.toNat (0 : Int))[p1.toNat]?) fun _ =>
 let v2 := (List.replicate p0.toNat (0 : Int)).set p1.toNat 1
 .ret v2
noncomputable def s_l07Unit_F (p0 : Int) (p1 : Int) : Option (List Int) := (s_l07Unit p0 p1).run some
-- more
theorem sunit_is {M k : Nat} (hk : k < M) (hM : M ≤ 1000000) : s_l07Unit_F (M : Int) (k : Int) = some (unitV M k) := by
 have hg : (List.replicate M (0 : Int))[k]? = some 0 := by rw [List.getElem?_replicate, if_pos hk]
 unfold s_l07Unit_F s_l07Unit
 rw [Tre.run_ite, if_pos ⟨rfl, by omega, rfl, by omega, by decide⟩, Int.toNat_natCast, Int.toNat_natCast, Tre.run_ite, if_pos (by rw [List.length_replicate]; omega), run_some_mat hg]
 rfl
noncomputable def s_l07Unit_V : Env := ⟨tau, [], []⟩
noncomputable def s_l07Unit_b : Code := (Try.f111.body).getD .skip
noncomputable def s_l07Unit_I : FnI := ⟨s_l07Unit_b, Try.f111.results.toList, Try.f111.resultTypes.toList, []⟩
noncomputable def s_l07Unit_out (_p0 : Int) (_p1 : Int) : (List Int) → CallOut := fun r => ⟨(.ref (1, 0) []), [], [⟨false, (.sl (.int .i64)), .own, r⟩]⟩
set_option maxRecDepth 100000 in
theorem s_l07Unit_eq : ∀ (p0 : Int) (p1 : Int), denFn s_l07Unit_V s_l07Unit_I ⟨[(.imm true (.int .i64) p0), (.imm true (.int .i64) p1)], []⟩ = (s_l07Unit p0 p1).run fun r => some (s_l07Unit_out p0 p1 r) := fun _ _ => by kernel_rfl
noncomputable def s_l07Unit_G (av : List AV) (rs : List Root) : Tre CallOut :=
 asCons av fun a0_ av0 =>
 asCons av0 fun a1_ av1 =>
 asEnd av1 <|
 asEnd rs <|
 asImmZ true (.int .i64) a0_ fun d1 =>
 asImmZ true (.int .i64) a1_ fun d2 =>
 .mat (s_l07Unit_F d1 d2) fun r => .ret (s_l07Unit_out d1 d2 r)
noncomputable def s_l07Unit_c : Ctr := ⟨[], fun ci => s_l07Unit_G ci.args ci.roots, false⟩
theorem s_l07Unit_env : EnvOK Try.prog .none s_l07Unit_V := envOK_nil
set_option maxRecDepth 100000 in
theorem s_l07Unit_ok : Contract Try.prog .none 111 s_l07Unit_c := by
 have hl : LoopsOK s_l07Unit_V [] s_l07Unit_b := loopsOK_nil (by kernel_rfl)
 refine (contract_of (F := s_l07Unit_I) tau_tys s_l07Unit_env Try.func111 (by kernel_rfl) (by kernel_rfl) (by kernel_rfl) hl []).weaken ?_
 rintro ⟨av, rs⟩ co h
 have h : (s_l07Unit_G av rs).run some = some co := h
 obtain ⟨a0_, av0, rfl, h_0⟩ := asCons_spec h
 obtain ⟨a1_, av1, rfl, h_1⟩ := asCons_spec h_0
 obtain ⟨rfl, h_2⟩ := asEnd_spec h_1
 obtain ⟨rfl, h_3⟩ := asEnd_spec h_2
 obtain ⟨d1, rfl, h_4⟩ := asImmZ_spec h_3
 obtain ⟨d2, rfl, h_5⟩ := asImmZ_spec h_4
 exact fin_mat (s_l07Unit_eq d1 d2) h_5
end Go.Proofs.Ytkgekgfmnhccmaa

namespace Go.Proofs.Ytkgekgfmnhccmaa
open Go Go.Abs Go.Proofs
noncomputable def s_l01Mul_l3 (h3_0_0 : Int) (h3_0_1 : Int) (h3_0_4 : (Int × (Int × Unit))) : (Int × Int) → Tre ((Int × Int) ⊕ Int) := fun s3 =>
 .cond (decide (s3.2 < h3_0_4.1))
  (.ite (0 ≤ iwrap .u64 s3.2) <|
  let v1 := ishr .i64 h3_0_1 (iwrap .u64 s3.2)
  .cond (decide (iand .i64 v1 1 = 1))
   (.ite (0 ≤ iwrap .u64 s3.2) <|
   let v2 := ishl .i64 h3_0_0 (iwrap .u64 s3.2)
   .ret (.inl (ixor .i64 s3.1 v2, iwrap .i64 (s3.2 + 1))))
   (.ret (.inl (s3.1, iwrap .i64 (s3.2 + 1)))))
  (.ret (.inr s3.1))
noncomputable def s_l01Mul (p0 : (Int × (Int × Unit))) (p1 : Int) (p2 : Int) : Tre Int :=
 .mat (loopF (s_l01Mul_l3 p1 p2 p0) (0, 0)) fun l3 =>
 .mat (s_l01Rest_F l3 p0.2.1) fun r4 =>
 .ret r4
noncomputable def s_l01Mul_F (p0 : (Int × (Int × Unit))) (p1 : Int) (p2 : Int) : Option Int := (s_l01Mul p0 p1 p2).run some
-- more
set_option maxRecDepth 100000
theorem smul_2 : chk2 s_l01Mul_F mulN 1 2 = true := by kernel_rfl
theorem smul_3 : chk2 s_l01Mul_F mulN 1 3 = true := by kernel_rfl
theorem smul_7 : chk2 s_l01Mul_F mulN 2 7 = true := by kernel_rfl
theorem smul_11 : chk2 s_l01Mul_F mulN 3 11 = true := by kernel_rfl
theorem smul_13 : chk2 s_l01Mul_F mulN 3 13 = true := by kernel_rfl
theorem smul_19 : chk2 s_l01Mul_F mulN 4 19 = true := by kernel_rfl
theorem smul_25 : chk2 s_l01Mul_F mulN 4 25 = true := by kernel_rfl
theorem smul_31 : chk2 s_l01Mul_F mulN 4 31 = true := by kernel_rfl
theorem smul_37 : chk2 s_l01Mul_F mulN 5 37 = true := by kernel_rfl
theorem smul_41 : chk2 s_l01Mul_F mulN 5 41 = true := by kernel_rfl
theorem smul_47 : chk2 s_l01Mul_F mulN 5 47 = true := by kernel_rfl
theorem smul_55 : chk2 s_l01Mul_F mulN 5 55 = true := by kernel_rfl
theorem smul_59 : chk2 s_l01Mul_F mulN 5 59 = true := by kernel_rfl
theorem smul_61 : chk2 s_l01Mul_F mulN 5 61 = true := by kernel_rfl
theorem smul_is {f : TF3} (hf : fieldOk f = true) {a b : Int} (ha : inF f a) (hb : inF f b) : s_l01Mul_F f a b = some (mulI f a b) := by
 refine two_of (fun q hq => ?_) hf ha hb
 simp only [fieldN, List.mem_cons, List.not_mem_nil, or_false] at hq
 rcases hq with rfl | rfl | rfl | rfl | rfl | rfl | rfl | rfl | rfl | rfl | rfl | rfl | rfl | rfl
 ·exact smul_2
 ·exact smul_3
 ·exact smul_7
 ·exact smul_11
 ·exact smul_13
 ·exact smul_19
 ·exact smul_25
 ·exact smul_31
 ·exact smul_37
 ·exact smul_41
 ·exact smul_47
 ·exact smul_55
 ·exact smul_59
 ·exact smul_61
noncomputable def s_l01Mul_V : Env := ⟨tau, [(139, s_l01Rest_c)], []⟩
noncomputable def s_l01Mul_b : Code := (Try.f101.body).getD .skip
noncomputable def s_l01Mul_l3_mk (h3_0_0 : Int) (h3_0_1 : Int) (h3_0_4 : (Int × (Int × Unit))) : (Int × Int) → St := fun x => stOf [(1, (.imm true (.int .i64) h3_0_0)), (2, (.imm true (.int .i64) h3_0_1)), (3, (.ptr (5, 0) [])), (7, (.imm true (.int .i64) x.1)), (8, (.imm true (.int .i64) x.2))] [((5, 0), some ⟨true, kField, .own, h3_0_4⟩)]
noncomputable def s_l01Mul_l3_out (_h3_0_0 : Int) (_h3_0_1 : Int) (h3_0_4 : (Int × (Int × Unit))) : Int → Ex × St := fun x => (.exit 0, stOf [(3, (.ptr (5, 0) [])), (7, (.imm true (.int .i64) x))] [((5, 0), some ⟨true, kField, .own, h3_0_4⟩)])
noncomputable def s_l01Mul_l3_D (s : St) : Tre (Ex × St) :=
 asImmZ true (.int .i64) (s.tmps 1) fun d2 =>
 asImmZ true (.int .i64) (s.tmps 2) fun d4 =>
 asPtr (5, 0) [] (s.tmps 3) <|
 asImmZ true (.int .i64) (s.tmps 7) fun d7 =>
 asImmZ true (.int .i64) (s.tmps 8) fun d9 =>
 asRoot true kField (s.roots (5, 0)) fun m11 d12 =>
 asM .own m11 <|
 .mat (loopF (s_l01Mul_l3 d2 d4 d12) (d7, d9)) fun x => .ret (s_l01Mul_l3_out d2 d4 d12 x)
noncomputable def s_l01Mul_l3_L : LoopI := ⟨([1, 2, 3, 7, 8], [(5, 0)]), ([3, 7], [(5, 0)]), s_l01Mul_l3_D⟩
noncomputable def s_l01Mul_A : List (Nat × LoopI) := [(3, s_l01Mul_l3_L)]
set_option maxRecDepth 100000 in
theorem s_l01Mul_l3_step : ∀ (h3_0_0 : Int) (h3_0_1 : Int) (h3_0_4 : (Int × (Int × Unit))) (x : (Int × Int)) (c : St → Option (Ex × St)), den s_l01Mul_V s_l01Mul_A (loopAt s_l01Mul_b 0) (s_l01Mul_l3_mk h3_0_0 h3_0_1 h3_0_4 x) (roundK s_l01Mul_l3_L.kp s_l01Mul_l3_L.kx c) = (s_l01Mul_l3 h3_0_0 h3_0_1 h3_0_4 x).run (roundR (s_l01Mul_l3_mk h3_0_0 h3_0_1 h3_0_4) (s_l01Mul_l3_out h3_0_0 h3_0_1 h3_0_4) c) := fun _ _ _ _ _ => by
 kernel_rfl
theorem s_l01Mul_l3_ok : LoopOK s_l01Mul_V s_l01Mul_A (loopAt s_l01Mul_b 0) s_l01Mul_l3_L := loopOK_of fun s e s' h => by
 generalize hs : restrict s_l01Mul_l3_L.kp s = s1 at h
 have h : (s_l01Mul_l3_D s1).run some = some (e, s') := h
 obtain ⟨d2, e1, h_0⟩ := asImmZ_spec h
 obtain ⟨d4, e3, h_1⟩ := asImmZ_spec h_0
 obtain ⟨e5, h_2⟩ := asPtr_spec h_1
 obtain ⟨d7, e6, h_3⟩ := asImmZ_spec h_2
 obtain ⟨d9, e8, h_4⟩ := asImmZ_spec h_3
 obtain ⟨m11, d12, e10, h_5⟩ := asRoot_spec h_4
 obtain ⟨rfl, h_6⟩ := asM_spec h_5
 obtain ⟨y, hy, hz⟩ := mat_ret h_6
 refine ⟨_, _, s_l01Mul_l3_mk d2 d4 d12, s_l01Mul_l3_out d2 d4 d12, s_l01Mul_l3 d2 d4 d12, (d7, d9), y, ?_, hy, ?_, s_l01Mul_l3_step d2 d4 d12⟩
 ·subst hs; exact restrict_eq (T := [(1, (.imm true (.int .i64) d2)), (2, (.imm true (.int .i64) d4)), (3, (.ptr (5, 0) [])), (7, (.imm true (.int .i64) d7)), (8, (.imm true (.int .i64) d9))]) (U := [((5, 0), some ⟨true, kField, .own, d12⟩)]) rfl rfl ⟨e1, e3, e5, e6, e8, trivial⟩ ⟨e10, trivial⟩
 ·exact Option.some.inj hz
noncomputable def s_l01Mul_I : FnI := ⟨s_l01Mul_b, Try.f101.results.toList, Try.f101.resultTypes.toList, s_l01Mul_A⟩
noncomputable def s_l01Mul_out (_p0 : (Int × (Int × Unit))) (_p1 : Int) (_p2 : Int) : Int → CallOut := fun r => ⟨(.imm true (.int .i64) r), [], []⟩
set_option maxRecDepth 100000 in
theorem s_l01Mul_eq : ∀ (p0 : (Int × (Int × Unit))) (p1 : Int) (p2 : Int), denFn s_l01Mul_V s_l01Mul_I ⟨[(.imm true kField p0), (.imm true (.int .i64) p1), (.imm true (.int .i64) p2)], []⟩ = (s_l01Mul p0 p1 p2).run fun r => some (s_l01Mul_out p0 p1 p2 r) := fun _ _ _ => by kernel_rfl
noncomputable def s_l01Mul_G (av : List AV) (rs : List Root) : Tre CallOut :=
 asCons av fun a0_ av0 =>
 asCons av0 fun a1_ av1 =>
 asCons av1 fun a2_ av2 =>
 asEnd av2 <|
 asEnd rs <|
 asImmZ true kField a0_ fun d1 =>
 asImmZ true (.int .i64) a1_ fun d2 =>
 asImmZ true (.int .i64) a2_ fun d3 =>
 .mat (s_l01Mul_F d1 d2 d3) fun r => .ret (s_l01Mul_out d1 d2 d3 r)
noncomputable def s_l01Mul_c : Ctr := ⟨[], fun ci => s_l01Mul_G ci.args ci.roots, false⟩
theorem s_l01Mul_env : EnvOK Try.prog .none s_l01Mul_V := (envOK_cons s_l01Rest_ok ent139 envOK_nil)
set_option maxRecDepth 100000 in
theorem s_l01Mul_ok : Contract Try.prog .none 101 s_l01Mul_c := by
 have hl : LoopsOK s_l01Mul_V s_l01Mul_A s_l01Mul_b := (loopsOK_all (n := 1) (by kernel_rfl) fun k hk => by
   match k, hk with
   | 0, _ => exact loopOK_at (id := 3) (L := s_l01Mul_l3_L) (by kernel_rfl) (by kernel_rfl) s_l01Mul_l3_ok)
 refine (contract_of (F := s_l01Mul_I) tau_tys s_l01Mul_env Try.func101 (by kernel_rfl) (by kernel_rfl) (by kernel_rfl) hl []).weaken ?_
 rintro ⟨av, rs⟩ co h
 have h : (s_l01Mul_G av rs).run some = some co := h
 obtain ⟨a0_, av0, rfl, h_0⟩ := asCons_spec h
 obtain ⟨a1_, av1, rfl, h_1⟩ := asCons_spec h_0
 obtain ⟨a2_, av2, rfl, h_2⟩ := asCons_spec h_1
 obtain ⟨rfl, h_3⟩ := asEnd_spec h_2
 obtain ⟨rfl, h_4⟩ := asEnd_spec h_3
 obtain ⟨d1, rfl, h_5⟩ := asImmZ_spec h_4
 obtain ⟨d2, rfl, h_6⟩ := asImmZ_spec h_5
 obtain ⟨d3, rfl, h_7⟩ := asImmZ_spec h_6
 exact fin_mat (s_l01Mul_eq d1 d2 d3) h_7
end Go.Proofs.Ytkgekgfmnhccmaa

namespace Go.Proofs.Ytkgekgfmnhccmaa
open Go Go.Abs Go.Proofs
noncomputable def s_l04Add_l3 (h3_0_0 : (List Int)) (h3_0_1 : (List Int)) (h3_0_2 : Int) (h3_0_4 : (Int × (Int × Unit))) : (Int × (List Int)) → Tre ((Int × (List Int)) ⊕ (List Int)) := fun s3 =>
 .cond (decide (s3.1 < (h3_0_0.length : Int)))
  (.ite (0 ≤ s3.1 ∧ s3.1 < (h3_0_0.length : Int)) <|
  .mat (h3_0_0[s3.1.toNat]?) fun x1 =>
  .ite (0 ≤ s3.1 ∧ s3.1 < (h3_0_1.length : Int)) <|
  .mat (h3_0_1[s3.1.toNat]?) fun x2 =>
  .mat (s_l01Mul_F h3_0_4 x2 h3_0_2) fun r3 =>
  .ite ((s3.2.length + 1) * 8 ≤ appendMax ∧ 1 ≤ 8) <|
  let v4 := s3.2 ++ ([ixor .i64 x1 r3])
  .ret (.inl (iwrap .i64 (s3.1 + 1), v4)))
  (.ret (.inr s3.2))
noncomputable def s_l04Add (p0 : (Int × (Int × Unit))) (p1 : (List Int)) (p2 : (List Int)) (p3 : Int) : Tre (List Int) :=
 .mat (loopF (s_l04Add_l3 p1 p2 p3 p0) (0, [])) fun l5 =>
 .ret l5
noncomputable def s_l04Add_F (p0 : (Int × (Int × Unit))) (p1 : (List Int)) (p2 : (List Int)) (p3 : Int) : Option (List Int) := (s_l04Add p0 p1 p2 p3).run some
-- more
theorem s_l04Add_is {f : TF3} (hf : fieldOk f = true) {u w : List Int} (hl : u.length = w.length) (hs : u.length ≤ 1000000) (hw : ∀ y ∈ w, inF f y) {x : Int} (hx : inF f x) : s_l04Add_F f u w x = some (addV f u w x) := by
 have key := fold_loop (xs := u.zip w) (step := s_l04Add_l3 u w x f) (fun (i : Nat) (acc : List Int) => ((i : Int), acc)) (fun _ acc p => .inl (acc ++ [ixor .i64 p.1 (mulI f p.2 x)])) id (fun i acc => acc.length = i) (by
  intro i acc p hp hi
  have hlt := (List.getElem?_eq_some_iff.1 hp).1
  rw [List.length_zip] at hlt
  obtain ⟨p1, p2⟩ := p
  rw [List.getElem?_zip_eq_some] at hp
  obtain ⟨h1, h2⟩ := hp
  refine ⟨?_, fun a ha => ?_⟩
  ·unfold s_l04Add_l3
   dsimp only
   rw [Tre.run_cond, decide_eq_true (by omega), cond_true, Tre.run_ite, if_pos (by omega), Int.toNat_natCast, run_some_mat h1, Tre.run_ite, if_pos (by omega), run_some_mat h2, run_some_mat (smul_is hf (hw _ (List.mem_of_getElem? h2)) hx), Tre.run_ite, if_pos (by unfold appendMax; omega), Tre.run_ret, iwrap_succ (by omega)]
  ·cases ha; simp [hi]) (by
  intro acc _
  unfold s_l04Add_l3
  dsimp only
  rw [Tre.run_cond, decide_eq_false (by rw [List.length_zip]; omega), cond_false]
  rfl) (u.zip w) 0 [] rfl (Nat.zero_le _) rfl
 rw [foldE_app] at key
 have key : loopF (s_l04Add_l3 u w x f) (0, []) = some (addV f u w x) := key
 unfold s_l04Add_F s_l04Add
 rw [run_some_mat key]
 rfl
noncomputable def s_l04Add_V : Env := ⟨tau, [(101, s_l01Mul_c)], []⟩
noncomputable def s_l04Add_b : Code := (Try.f112.body).getD .skip
noncomputable def s_l04Add_l3_mk (z3_0 : Bool) (z3_1 : Bool) (h3_0_0 : (List Int)) (h3_0_1 : (List Int)) (h3_0_2 : Int) (h3_0_4 : (Int × (Int × Unit))) : (Int × (List Int)) → St := fun x => stOf [(1, (.imm z3_0 (.sl (.int .i64)) h3_0_0)), (2, (.imm z3_1 (.sl (.int .i64)) h3_0_1)), (3, (.imm true (.int .i64) h3_0_2)), (4, (.ptr (6, 0) [])), (9, (.ref (11, 0) [])), (10, (.imm true (.int .i64) x.1))] [((6, 0), some ⟨true, kField, .own, h3_0_4⟩), ((11, 0), some ⟨false, (.sl (.int .i64)), .own, x.2⟩)]
noncomputable def s_l04Add_l3_out (_z3_0 : Bool) (_z3_1 : Bool) (_h3_0_0 : (List Int)) (_h3_0_1 : (List Int)) (_h3_0_2 : Int) (_h3_0_4 : (Int × (Int × Unit))) : (List Int) → Ex × St := fun x => (.exit 0, stOf [(9, (.ref (11, 0) []))] [((11, 0), some ⟨false, (.sl (.int .i64)), .own, x⟩)])
noncomputable def s_l04Add_l3_D (s : St) : Tre (Ex × St) :=
 asImm (.sl (.int .i64)) (s.tmps 1) fun z3 d2 =>
 asImm (.sl (.int .i64)) (s.tmps 2) fun z6 d5 =>
 asImmZ true (.int .i64) (s.tmps 3) fun d8 =>
 asPtr (6, 0) [] (s.tmps 4) <|
 asRef (11, 0) [] (s.tmps 9) <|
 asImmZ true (.int .i64) (s.tmps 10) fun d12 =>
 asRoot true kField (s.roots (6, 0)) fun m14 d15 =>
 asM .own m14 <|
 asRoot false (.sl (.int .i64)) (s.roots (11, 0)) fun m17 d18 =>
 asM .own m17 <|
 .mat (loopF (s_l04Add_l3 d2 d5 d8 d15) (d12, d18)) fun x => .ret (s_l04Add_l3_out z3 z6 d2 d5 d8 d15 x)
noncomputable def s_l04Add_l3_L : LoopI := ⟨([1, 2, 3, 4, 9, 10], [(6, 0), (11, 0)]), ([9], [(11, 0)]), s_l04Add_l3_D⟩
noncomputable def s_l04Add_A : List (Nat × LoopI) := [(3, s_l04Add_l3_L)]
set_option maxRecDepth 100000 in
theorem s_l04Add_l3_step : ∀ (z3_0 : Bool) (z3_1 : Bool) (h3_0_0 : (List Int)) (h3_0_1 : (List Int)) (h3_0_2 : Int) (h3_0_4 : (Int × (Int × Unit))) (x : (Int × (List Int))) (c : St → Option (Ex × St)), den s_l04Add_V s_l04Add_A (loopAt s_l04Add_b 0) (s_l04Add_l3_mk z3_0 z3_1 h3_0_0 h3_0_1 h3_0_2 h3_0_4 x) (roundK s_l04Add_l3_L.kp s_l04Add_l3_L.kx c) = (s_l04Add_l3 h3_0_0 h3_0_1 h3_0_2 h3_0_4 x).run (roundR (s_l04Add_l3_mk z3_0 z3_1 h3_0_0 h3_0_1 h3_0_2 h3_0_4) (s_l04Add_l3_out z3_0 z3_1 h3_0_0 h3_0_1 h3_0_2 h3_0_4) c) := fun _ _ _ _ _ _ _ _ => by
 kernel_rfl
theorem s_l04Add_l3_ok : LoopOK s_l04Add_V s_l04Add_A (loopAt s_l04Add_b 0) s_l04Add_l3_L := loopOK_of fun s e s' h => by
 generalize hs : restrict s_l04Add_l3_L.kp s = s1 at h
 have h : (s_l04Add_l3_D s1).run some = some (e, s') := h
 obtain ⟨z3, d2, e1, h_0⟩ := asImm_spec h
 obtain ⟨z6, d5, e4, h_1⟩ := asImm_spec h_0
 obtain ⟨d8, e7, h_2⟩ := asImmZ_spec h_1
 obtain ⟨e9, h_3⟩ := asPtr_spec h_2
 obtain ⟨e10, h_4⟩ := asRef_spec h_3
 obtain ⟨d12, e11, h_5⟩ := asImmZ_spec h_4
 obtain ⟨m14, d15, e13, h_6⟩ := asRoot_spec h_5
 obtain ⟨rfl, h_7⟩ := asM_spec h_6
 obtain ⟨m17, d18, e16, h_8⟩ := asRoot_spec h_7
 obtain ⟨rfl, h_9⟩ := asM_spec h_8
 obtain ⟨y, hy, hz⟩ := mat_ret h_9
 refine ⟨_, _, s_l04Add_l3_mk z3 z6 d2 d5 d8 d15, s_l04Add_l3_out z3 z6 d2 d5 d8 d15, s_l04Add_l3 d2 d5 d8 d15, (d12, d18), y, ?_, hy, ?_, s_l04Add_l3_step z3 z6 d2 d5 d8 d15⟩
 ·subst hs; exact restrict_eq (T := [(1, (.imm z3 (.sl (.int .i64)) d2)), (2, (.imm z6 (.sl (.int .i64)) d5)), (3, (.imm true (.int .i64) d8)), (4, (.ptr (6, 0) [])), (9, (.ref (11, 0) [])), (10, (.imm true (.int .i64) d12))]) (U := [((6, 0), some ⟨true, kField, .own, d15⟩), ((11, 0), some ⟨false, (.sl (.int .i64)), .own, d18⟩)]) rfl rfl ⟨e1, e4, e7, e9, e10, e11, trivial⟩ ⟨e13, e16, trivial⟩
 ·exact Option.some.inj hz
noncomputable def s_l04Add_I : FnI := ⟨s_l04Add_b, Try.f112.results.toList, Try.f112.resultTypes.toList, s_l04Add_A⟩
noncomputable def s_l04Add_out (_zp0 : Bool) (_zp1 : Bool) (_p0 : (Int × (Int × Unit))) (_p1 : (List Int)) (_p2 : (List Int)) (_p3 : Int) : (List Int) → CallOut := fun r => ⟨(.ref (1, 0) []), [], [⟨false, (.sl (.int .i64)), .own, r⟩]⟩
set_option maxRecDepth 100000 in
theorem s_l04Add_eq : ∀ (zp0 : Bool) (zp1 : Bool) (p0 : (Int × (Int × Unit))) (p1 : (List Int)) (p2 : (List Int)) (p3 : Int), denFn s_l04Add_V s_l04Add_I ⟨[(.imm true kField p0), (.imm zp0 (.sl (.int .i64)) p1), (.imm zp1 (.sl (.int .i64)) p2), (.imm true (.int .i64) p3)], []⟩ = (s_l04Add p0 p1 p2 p3).run fun r => some (s_l04Add_out zp0 zp1 p0 p1 p2 p3 r) := fun _ _ _ _ _ _ => by kernel_rfl
noncomputable def s_l04Add_G (av : List AV) (rs : List Root) : Tre CallOut :=
 asCons av fun a0_ av0 =>
 asCons av0 fun a1_ av1 =>
 asCons av1 fun a2_ av2 =>
 asCons av2 fun a3_ av3 =>
 asEnd av3 <|
 asEnd rs <|
 asImmZ true kField a0_ fun d1 =>
 asImm (.sl (.int .i64)) a1_ fun z3 d2 =>
 asImm (.sl (.int .i64)) a2_ fun z5 d4 =>
 asImmZ true (.int .i64) a3_ fun d6 =>
 .mat (s_l04Add_F d1 d2 d4 d6) fun r => .ret (s_l04Add_out z3 z5 d1 d2 d4 d6 r)
noncomputable def s_l04Add_c : Ctr := ⟨[], fun ci => s_l04Add_G ci.args ci.roots, false⟩
theorem s_l04Add_env : EnvOK Try.prog .none s_l04Add_V := (envOK_cons s_l01Mul_ok ent101 envOK_nil)
set_option maxRecDepth 100000 in
theorem s_l04Add_ok : Contract Try.prog .none 112 s_l04Add_c := by
 have hl : LoopsOK s_l04Add_V s_l04Add_A s_l04Add_b := (loopsOK_all (n := 1) (by kernel_rfl) fun k hk => by
   match k, hk with
   | 0, _ => exact loopOK_at (id := 3) (L := s_l04Add_l3_L) (by kernel_rfl) (by kernel_rfl) s_l04Add_l3_ok)
 refine (contract_of (F := s_l04Add_I) tau_tys s_l04Add_env Try.func112 (by kernel_rfl) (by kernel_rfl) (by kernel_rfl) hl []).weaken ?_
 rintro ⟨av, rs⟩ co h
 have h : (s_l04Add_G av rs).run some = some co := h
 obtain ⟨a0_, av0, rfl, h_0⟩ := asCons_spec h
 obtain ⟨a1_, av1, rfl, h_1⟩ := asCons_spec h_0
 obtain ⟨a2_, av2, rfl, h_2⟩ := asCons_spec h_1
 obtain ⟨a3_, av3, rfl, h_3⟩ := asCons_spec h_2
 obtain ⟨rfl, h_4⟩ := asEnd_spec h_3
 obtain ⟨rfl, h_5⟩ := asEnd_spec h_4
 obtain ⟨d1, rfl, h_6⟩ := asImmZ_spec h_5
 obtain ⟨z3, d2, rfl, h_7⟩ := asImm_spec h_6
 obtain ⟨z5, d4, rfl, h_8⟩ := asImm_spec h_7
 obtain ⟨d6, rfl, h_9⟩ := asImmZ_spec h_8
 exact fin_mat (s_l04Add_eq z3 z5 d1 d2 d4 d6) h_9
end Go.Proofs.Ytkgekgfmnhccmaa

namespace Go.Proofs.Ytkgekgfmnhccmaa
open Go Go.Abs Go.Proofs
noncomputable def s_l07Vector_9419_l5 (h5_0_0 : TNet) (h5_0_1 : (List (List Int))) (h5_0_2 : (List Int)) (h5_0_3 : Int) (h5_0_6 : (List Int)) : (Int × (List Int)) → Tre ((Int × (List Int)) ⊕ (List Int)) := fun s5 =>
 .cond (decide (s5.1 < (h5_0_2.length : Int)))
  (.cond (decide (h5_0_3 = 0))
   (.mat (s_l07Unit_F h5_0_0.2.2.1 s5.1) fun r4 =>
   .ite (0 ≤ s5.1 ∧ s5.1 < (h5_0_2.length : Int)) <|
   .mat (h5_0_2[s5.1.toNat]?) fun x5 =>
   .mat (s_l04Add_F h5_0_0.1 s5.2 r4 x5) fun r6 =>
   .ret (.inl (iwrap .i64 (s5.1 + 1), r6)))
   (.ite (0 ≤ s5.1 ∧ s5.1 < (h5_0_6.length : Int)) <|
   .mat (h5_0_6[s5.1.toNat]?) fun x7 =>
   .ite (0 ≤ x7 ∧ x7 < (h5_0_1.length : Int)) <|
   .mat (h5_0_1[x7.toNat]?) fun x8 =>
   .ite (0 ≤ s5.1 ∧ s5.1 < (h5_0_2.length : Int)) <|
   .mat (h5_0_2[s5.1.toNat]?) fun x9 =>
   .mat (s_l04Add_F h5_0_0.1 s5.2 x8 x9) fun r10 =>
   .ret (.inl (iwrap .i64 (s5.1 + 1), r10))))
  (.ret (.inr s5.2))
noncomputable def s_l07Vector_9419 (p0 : TNet) (p1 : (List (List Int))) (p2 : Int) (p3 : (List Int)) : Tre (List Int) :=
 .ite (((.int .i64) : K) = (.int .i64) ∧ 0 ≤ p0.2.2.1 ∧ p0.2.2.1 = p0.2.2.1 ∧ p0.2.2.1 * (8 : Nat) ≤ 140737488355328 ∧ 1 ≤ 8) <|
 .ite (0 ≤ p2 ∧ p2 < (p0.2.2.2.1.length : Int)) <|
 .mat (p0.2.2.2.1[p2.toNat]?) fun x1 =>
 .ite ((0 : Int) ≤ 0 ∧ (0 : Int) < (x1.length : Int)) <|
 .mat (x1[0]?) fun x2 =>
 .mat (s_l07Into_e270_F p0 x2) fun r3 =>
 .mat (loopF (s_l07Vector_9419_l5 p0 p1 p3 x2 r3) (0, List.replicate p0.2.2.1.toNat (0 : Int))) fun l11 =>
 .ret l11
noncomputable def s_l07Vector_9419_F (p0 : TNet) (p1 : (List (List Int))) (p2 : Int) (p3 : (List Int)) : Option (List Int) := (s_l07Vector_9419 p0 p1 p2 p3).run some
-- more
theorem NetP.two3 {n : TN6} (h : NetP n) : ∀ e ∈ n.2.2.2.1, e.length = 2 := by
 intro e he
 obtain ⟨i, hi⟩ := List.mem_iff_getElem?.1 he
 exact edgeOk_len (h.edges i e hi)
theorem foldE_comb {f : TF3} {src : Nat → List Int} : ∀ (cs : List Int) (k : Nat) (acc : List Int), foldE (γ := List Int) (β := List Int) (fun k acc x => .inl (addV f acc (src k) x)) id k acc cs = combV f src k acc cs := by
 intro cs
 induction cs with
 | nil => intro k acc; rfl
 | cons x cs ih => intro k acc; simp only [foldE, combV]; exact ih _ _
theorem svec_is {n : TN6} (h : NetP n) {i : Nat} (hi : i < n.2.2.2.1.length) : s_l07Vector_9419_F n (vecsV n i) (i : Int) (edgeC n i) = some (vecV n (vecsV n i) i) := by
 have hE := h.len
 obtain ⟨hm1, hm2, hm3⟩ := mess_ok h
 obtain ⟨e, he1, ha, he0, hel2⟩ := edgeA_ok h hi
 obtain ⟨hc1, hc2, hc3⟩ := edgeC_ok h hi
 have hvs := vecsV_ok h i (by omega)
 have hcl : (edgeC n i).length ≤ 14 := by have := hasV_le n h.mess.2 h.len (edgeA n i); omega
 have hlen := vecsV_len n i
 have key := fold_loop (xs := edgeC n i) (step := s_l07Vector_9419_l5 n (vecsV n i) (edgeC n i) (edgeA n i) (intoV n.2.2.2.1 (edgeA n i))) (γ := List Int) (fun (k : Nat) acc => ((k : Int), acc)) (fun k acc x => .inl (addV n.1 acc (srcV (messN n) (vecsV n i) (edgeA n i) (intoV n.2.2.2.1 (edgeA n i)) k) x)) id (fun _ acc => okV n.1 (messN n) acc) (by
  intro k acc x hx hacc
  have hlt := (List.getElem?_eq_some_iff.1 hx).1
  have hxf := hc3 x (List.mem_of_getElem? hx)
  have hso := srcV_ok h hi hvs hlt
  refine ⟨?_, fun a hb => ?_⟩
  ·unfold s_l07Vector_9419_l5
   dsimp only
   rw [Tre.run_cond, decide_eq_true (by omega), cond_true, Tre.run_cond]
   unfold hasV at hc2
   by_cases h0 : edgeA n i = 0
   ·rw [if_pos h0] at hc2
    rw [decide_eq_true h0, cond_true, hm1, run_some_mat (sunit_is (by omega) (by omega)), Tre.run_ite, if_pos (by omega), Int.toNat_natCast, run_some_mat hx]
    unfold srcV at hso ⊢
    rw [if_pos h0] at hso ⊢
    rw [run_some_mat (s_l04Add_is h.field (by rw [hacc.1, hso.1]) (by rw [hacc.1]; omega) hso.2 hxf), Tre.run_ret, iwrap_succ (by omega)]
   ·rw [if_neg h0] at hc2
    obtain ⟨j, hj1, hj2⟩ := into_get h hi (k := k) (by omega)
    obtain ⟨v, hv1, hv2⟩ := hvs j hj2
    rw [decide_eq_false h0, cond_false, Tre.run_ite, if_pos (by omega), Int.toNat_natCast, run_some_mat hj1, Tre.run_ite, if_pos (by omega), Int.toNat_natCast, run_some_mat hv1, Tre.run_ite, if_pos (by omega), run_some_mat hx]
    unfold srcV at hso ⊢
    rw [if_neg h0] at hso ⊢
    rw [getD_of hj1, Int.toNat_natCast, getD_of hv1] at hso ⊢
    rw [run_some_mat (s_l04Add_is h.field (by rw [hacc.1, hso.1]) (by rw [hacc.1]; omega) hso.2 hxf), Tre.run_ret, iwrap_succ (by omega)]
  ·cases hb
   exact addV_ok h.field hacc hso hxf) (by
  intro acc _
  unfold s_l07Vector_9419_l5
  dsimp only
  rw [Tre.run_cond, decide_eq_false (by omega), cond_false]
  rfl) _ 0 (List.replicate (messN n) 0) rfl (Nat.zero_le _) (zeroV_ok _)
 rw [foldE_comb] at key
 have key : loopF (s_l07Vector_9419_l5 n (vecsV n i) (edgeC n i) (edgeA n i) (intoV n.2.2.2.1 (edgeA n i))) (0, List.replicate n.2.2.1.toNat 0) = some (vecV n (vecsV n i) i) := key
 unfold s_l07Vector_9419_F s_l07Vector_9419
 rw [Tre.run_ite, if_pos ⟨rfl, by omega, rfl, by omega, by decide⟩, Tre.run_ite, if_pos (by omega), Int.toNat_natCast, run_some_mat he1, Tre.run_ite, if_pos (by omega), run_some_mat he0, ← ha, run_some_mat (s_l07Into_is n h.len h.two3 _), run_some_mat key]
 rfl
noncomputable def s_l07Vector_9419_V : Env := ⟨tau, [(47, s_l07Into_e270_c), (111, s_l07Unit_c), (112, s_l04Add_c)], []⟩
noncomputable def s_l07Vector_9419_b : Code := (Try.f98.body).getD .skip
noncomputable def s_l07Vector_9419_l5_mk (z5_0 : Bool) (z5_1 : Bool) (z5_2 : Bool) (h5_0_0 : TNet) (h5_0_1 : (List (List Int))) (h5_0_2 : (List Int)) (h5_0_3 : Int) (h5_0_6 : (List Int)) : (Int × (List Int)) → St := fun x => stOf [(0, (.iptr z5_0 (.sl kNet) ([h5_0_0]) [.idx 0])), (1, (.imm z5_1 (.sl (.sl (.int .i64))) h5_0_1)), (3, (.imm z5_2 (.sl (.int .i64)) h5_0_2)), (9, (.ref (11, 0) [])), (10, (.imm true (.int .i64) h5_0_3)), (11, (.ref (13, 0) [])), (12, (.imm true (.int .i64) x.1))] [((11, 0), some ⟨false, (.sl (.int .i64)), .own, x.2⟩), ((13, 0), some ⟨false, (.sl (.int .i64)), .own, h5_0_6⟩)]
noncomputable def s_l07Vector_9419_l5_out (_z5_0 : Bool) (_z5_1 : Bool) (_z5_2 : Bool) (_h5_0_0 : TNet) (_h5_0_1 : (List (List Int))) (_h5_0_2 : (List Int)) (_h5_0_3 : Int) (_h5_0_6 : (List Int)) : (List Int) → Ex × St := fun x => (.exit 0, stOf [(9, (.ref (11, 0) []))] [((11, 0), some ⟨false, (.sl (.int .i64)), .own, x⟩)])
noncomputable def s_l07Vector_9419_l5_D (s : St) : Tre (Ex × St) :=
 asIptr kNet (s.tmps 0) fun z2 d3 =>
 asImm (.sl (.sl (.int .i64))) (s.tmps 1) fun z6 d5 =>
 asImm (.sl (.int .i64)) (s.tmps 3) fun z9 d8 =>
 asRef (11, 0) [] (s.tmps 9) <|
 asImmZ true (.int .i64) (s.tmps 10) fun d12 =>
 asRef (13, 0) [] (s.tmps 11) <|
 asImmZ true (.int .i64) (s.tmps 12) fun d15 =>
 asRoot false (.sl (.int .i64)) (s.roots (11, 0)) fun m17 d18 =>
 asM .own m17 <|
 asRoot false (.sl (.int .i64)) (s.roots (13, 0)) fun m20 d21 =>
 asM .own m20 <|
 .mat (loopF (s_l07Vector_9419_l5 d3 d5 d8 d12 d21) (d15, d18)) fun x => .ret (s_l07Vector_9419_l5_out z2 z6 z9 d3 d5 d8 d12 d21 x)
noncomputable def s_l07Vector_9419_l5_L : LoopI := ⟨([0, 1, 3, 9, 10, 11, 12], [(11, 0), (13, 0)]), ([9], [(11, 0)]), s_l07Vector_9419_l5_D⟩
noncomputable def s_l07Vector_9419_A : List (Nat × LoopI) := [(5, s_l07Vector_9419_l5_L)]
set_option maxRecDepth 100000 in
theorem s_l07Vector_9419_l5_step : ∀ (z5_0 : Bool) (z5_1 : Bool) (z5_2 : Bool) (h5_0_0 : TNet) (h5_0_1 : (List (List Int))) (h5_0_2 : (List Int)) (h5_0_3 : Int) (h5_0_6 : (List Int)) (x : (Int × (List Int))) (c : St → Option (Ex × St)), den s_l07Vector_9419_V s_l07Vector_9419_A (loopAt s_l07Vector_9419_b 0) (s_l07Vector_9419_l5_mk z5_0 z5_1 z5_2 h5_0_0 h5_0_1 h5_0_2 h5_0_3 h5_0_6 x) (roundK s_l07Vector_9419_l5_L.kp s_l07Vector_9419_l5_L.kx c) = (s_l07Vector_9419_l5 h5_0_0 h5_0_1 h5_0_2 h5_0_3 h5_0_6 x).run (roundR (s_l07Vector_9419_l5_mk z5_0 z5_1 z5_2 h5_0_0 h5_0_1 h5_0_2 h5_0_3 h5_0_6) (s_l07Vector_9419_l5_out z5_0 z5_1 z5_2 h5_0_0 h5_0_1 h5_0_2 h5_0_3 h5_0_6) c) := fun _ _ _ _ _ _ _ _ _ _ => by
 kernel_rfl
theorem s_l07Vector_9419_l5_ok : LoopOK s_l07Vector_9419_V s_l07Vector_9419_A (loopAt s_l07Vector_9419_b 0) s_l07Vector_9419_l5_L := loopOK_of fun s e s' h => by
 generalize hs : restrict s_l07Vector_9419_l5_L.kp s = s1 at h
 have h : (s_l07Vector_9419_l5_D s1).run some = some (e, s') := h
 obtain ⟨z2, d3, e1, h_0⟩ := asIptr_spec h
 obtain ⟨z6, d5, e4, h_1⟩ := asImm_spec h_0
 obtain ⟨z9, d8, e7, h_2⟩ := asImm_spec h_1
 obtain ⟨e10, h_3⟩ := asRef_spec h_2
 obtain ⟨d12, e11, h_4⟩ := asImmZ_spec h_3
 obtain ⟨e13, h_5⟩ := asRef_spec h_4
 obtain ⟨d15, e14, h_6⟩ := asImmZ_spec h_5
 obtain ⟨m17, d18, e16, h_7⟩ := asRoot_spec h_6
 obtain ⟨rfl, h_8⟩ := asM_spec h_7
 obtain ⟨m20, d21, e19, h_9⟩ := asRoot_spec h_8
 obtain ⟨rfl, h_10⟩ := asM_spec h_9
 obtain ⟨y, hy, hz⟩ := mat_ret h_10
 refine ⟨_, _, s_l07Vector_9419_l5_mk z2 z6 z9 d3 d5 d8 d12 d21, s_l07Vector_9419_l5_out z2 z6 z9 d3 d5 d8 d12 d21, s_l07Vector_9419_l5 d3 d5 d8 d12 d21, (d15, d18), y, ?_, hy, ?_, s_l07Vector_9419_l5_step z2 z6 z9 d3 d5 d8 d12 d21⟩
 ·subst hs; exact restrict_eq (T := [(0, (.iptr z2 (.sl kNet) ([d3]) [.idx 0])), (1, (.imm z6 (.sl (.sl (.int .i64))) d5)), (3, (.imm z9 (.sl (.int .i64)) d8)), (9, (.ref (11, 0) [])), (10, (.imm true (.int .i64) d12)), (11, (.ref (13, 0) [])), (12, (.imm true (.int .i64) d15))]) (U := [((11, 0), some ⟨false, (.sl (.int .i64)), .own, d18⟩), ((13, 0), some ⟨false, (.sl (.int .i64)), .own, d21⟩)]) rfl rfl ⟨e1, e4, e7, e10, e11, e13, e14, trivial⟩ ⟨e16, e19, trivial⟩
 ·exact Option.some.inj hz
noncomputable def s_l07Vector_9419_I : FnI := ⟨s_l07Vector_9419_b, Try.f98.results.toList, Try.f98.resultTypes.toList, s_l07Vector_9419_A⟩
noncomputable def s_l07Vector_9419_out (_zp0 : Bool) (_zp1 : Bool) (_zp2 : Bool) (_p0 : TNet) (_p1 : (List (List Int))) (_p2 : Int) (_p3 : (List Int)) : (List Int) → CallOut := fun r => ⟨(.ref (1, 0) []), [], [⟨false, (.sl (.int .i64)), .own, r⟩]⟩
set_option maxRecDepth 100000 in
theorem s_l07Vector_9419_eq : ∀ (zp0 : Bool) (zp1 : Bool) (zp2 : Bool) (p0 : TNet) (p1 : (List (List Int))) (p2 : Int) (p3 : (List Int)), denFn s_l07Vector_9419_V s_l07Vector_9419_I ⟨[(.iptr zp0 (.sl kNet) ([p0]) [.idx 0]), (.imm zp1 (.sl (.sl (.int .i64))) p1), (.imm true (.int .i64) p2), (.imm zp2 (.sl (.int .i64)) p3)], []⟩ = (s_l07Vector_9419 p0 p1 p2 p3).run fun r => some (s_l07Vector_9419_out zp0 zp1 zp2 p0 p1 p2 p3 r) := fun _ _ _ _ _ _ _ => by kernel_rfl
noncomputable def s_l07Vector_9419_G (av : List AV) (rs : List Root) : Tre CallOut :=
 asCons av fun a0_ av0 =>
 asCons av0 fun a1_ av1 =>
 asCons av1 fun a2_ av2 =>
 asCons av2 fun a3_ av3 =>
 asEnd av3 <|
 asEnd rs <|
 asIptr kNet a0_ fun z1 d2 =>
 asImm (.sl (.sl (.int .i64))) a1_ fun z4 d3 =>
 asImmZ true (.int .i64) a2_ fun d5 =>
 asImm (.sl (.int .i64)) a3_ fun z7 d6 =>
 .mat (s_l07Vector_9419_F d2 d3 d5 d6) fun r => .ret (s_l07Vector_9419_out z1 z4 z7 d2 d3 d5 d6 r)
noncomputable def s_l07Vector_9419_c : Ctr := ⟨[0], fun ci => s_l07Vector_9419_G ci.args ci.roots, false⟩
theorem s_l07Vector_9419_env : EnvOK Try.prog .none s_l07Vector_9419_V := (envOK_cons s_l07Into_e270_ok ent47 (envOK_cons s_l07Unit_ok ent111 (envOK_cons s_l04Add_ok ent112 envOK_nil)))
set_option maxRecDepth 100000 in
theorem s_l07Vector_9419_ok : Contract Try.prog .none 98 s_l07Vector_9419_c := by
 have hl : LoopsOK s_l07Vector_9419_V s_l07Vector_9419_A s_l07Vector_9419_b := (loopsOK_all (n := 1) (by kernel_rfl) fun k hk => by
   match k, hk with
   | 0, _ => exact loopOK_at (id := 5) (L := s_l07Vector_9419_l5_L) (by kernel_rfl) (by kernel_rfl) s_l07Vector_9419_l5_ok)
 refine (contract_of (F := s_l07Vector_9419_I) tau_tys s_l07Vector_9419_env Try.func98 (by kernel_rfl) (by kernel_rfl) (by kernel_rfl) hl [0]).weaken ?_
 rintro ⟨av, rs⟩ co h
 have h : (s_l07Vector_9419_G av rs).run some = some co := h
 obtain ⟨a0_, av0, rfl, h_0⟩ := asCons_spec h
 obtain ⟨a1_, av1, rfl, h_1⟩ := asCons_spec h_0
 obtain ⟨a2_, av2, rfl, h_2⟩ := asCons_spec h_1
 obtain ⟨a3_, av3, rfl, h_3⟩ := asCons_spec h_2
 obtain ⟨rfl, h_4⟩ := asEnd_spec h_3
 obtain ⟨rfl, h_5⟩ := asEnd_spec h_4
 obtain ⟨z1, d2, rfl, h_6⟩ := asIptr_spec h_5
 obtain ⟨z4, d3, rfl, h_7⟩ := asImm_spec h_6
 obtain ⟨d5, rfl, h_8⟩ := asImmZ_spec h_7
 obtain ⟨z7, d6, rfl, h_9⟩ := asImm_spec h_8
 exact fin_mat (s_l07Vector_9419_eq z1 z4 z7 d2 d3 d5 d6) h_9
end Go.Proofs.Ytkgekgfmnhccmaa

namespace Go.Proofs.Ytkgekgfmnhccmaa
open Go Go.Abs Go.Proofs
noncomputable def s_l07Vectors_d9f5_l3 (h3_0_1 : TNet) : (Int × (List (List Int))) → Tre ((Int × (List (List Int))) ⊕ (List (List Int))) := fun s3 =>
 .cond (decide (s3.1 < (h3_0_1.2.2.2.1.length : Int)))
  (.ite (0 ≤ s3.1 ∧ s3.1 < (h3_0_1.2.2.2.2.1.length : Int)) <|
  .mat (h3_0_1.2.2.2.2.1[s3.1.toNat]?) fun x1 =>
  .mat (s_l07Vector_9419_F h3_0_1 s3.2 s3.1 x1) fun r2 =>
  .ite ((s3.2.length + 1) * 24 ≤ appendMax ∧ 1 ≤ 24) <|
  .ret (.inl (iwrap .i64 (s3.1 + 1), s3.2 ++ ([r2]))))
  (.ret (.inr s3.2))
noncomputable def s_l07Vectors_d9f5 (p0 : TNet) : Tre (List (List Int)) :=
 .mat (loopF (s_l07Vectors_d9f5_l3 p0) (0, [])) fun l3 =>
 .ret l3
noncomputable def s_l07Vectors_d9f5_F (p0 : TNet) : Option (List (List Int)) := (s_l07Vectors_d9f5 p0).run some
-- more
theorem svecs_loop {n : TN6} (h : NetP n) : ∀ m i, i + m = n.2.2.2.1.length → loopF (s_l07Vectors_d9f5_l3 n) ((i : Int), vecsV n i) = some (vectorsV n) := by
 have hE := h.len
 intro m
 induction m with
 | zero =>
  intro i hi
  have hi : i = n.2.2.2.1.length := hi
  subst hi
  refine loopF_done ?_
  unfold s_l07Vectors_d9f5_l3
  exact run_out
 | succ m ih =>
  intro i hi
  rw [← ih (i + 1) (by omega)]
  refine loopF_step ?_
  obtain ⟨hc1, hc2, hc3⟩ := edgeC_ok h (i := i) (by omega)
  unfold s_l07Vectors_d9f5_l3
  dsimp only
  rw [Tre.run_cond, decide_eq_true (by omega), cond_true, Tre.run_ite, if_pos (by rw [h.clen]; omega), Int.toNat_natCast, run_some_mat hc1, run_some_mat (svec_is h (by omega)), Tre.run_ite, if_pos (by rw [vecsV_len]; unfold appendMax; omega), Tre.run_ret, iwrap_succ (by omega)]
  rfl
theorem svecs_is {n : TN6} (h : NetP n) : s_l07Vectors_d9f5_F n = some (vectorsV n) := by
 have hl := svecs_loop h n.2.2.2.1.length 0 (by omega)
 have hl : loopF (s_l07Vectors_d9f5_l3 n) (0, []) = some (vectorsV n) := hl
 unfold s_l07Vectors_d9f5_F s_l07Vectors_d9f5
 rw [run_some_mat hl]
 rfl
noncomputable def s_l07Vectors_d9f5_V : Env := ⟨tau, [(98, s_l07Vector_9419_c)], []⟩
noncomputable def s_l07Vectors_d9f5_b : Code := (Try.f45.body).getD .skip
noncomputable def s_l07Vectors_d9f5_l3_mk (z3_0 : Bool) (h3_0_1 : TNet) : (Int × (List (List Int))) → St := fun x => stOf [(0, (.ptr (0, 0) [])), (3, (.ref (5, 0) [])), (4, (.imm true (.int .i64) x.1))] [((0, 0), some ⟨true, kNet, (.imm z3_0), h3_0_1⟩), ((5, 0), some ⟨false, (.sl (.sl (.int .i64))), .own, x.2⟩)]
noncomputable def s_l07Vectors_d9f5_l3_out (z3_0 : Bool) (h3_0_1 : TNet) : (List (List Int)) → Ex × St := fun x => (.exit 0, stOf [(3, (.ref (5, 0) []))] [((0, 0), some ⟨true, kNet, (.imm z3_0), h3_0_1⟩), ((5, 0), some ⟨false, (.sl (.sl (.int .i64))), .own, x⟩)])
noncomputable def s_l07Vectors_d9f5_l3_D (s : St) : Tre (Ex × St) :=
 asPtr (0, 0) [] (s.tmps 0) <|
 asRef (5, 0) [] (s.tmps 3) <|
 asImmZ true (.int .i64) (s.tmps 4) fun d4 =>
 asRoot true kNet (s.roots (0, 0)) fun m6 d7 =>
 asMImm m6 fun z8 =>
 asRoot false (.sl (.sl (.int .i64))) (s.roots (5, 0)) fun m10 d11 =>
 asM .own m10 <|
 .mat (loopF (s_l07Vectors_d9f5_l3 d7) (d4, d11)) fun x => .ret (s_l07Vectors_d9f5_l3_out z8 d7 x)
noncomputable def s_l07Vectors_d9f5_l3_L : LoopI := ⟨([0, 3, 4], [(0, 0), (5, 0)]), ([3], [(0, 0), (5, 0)]), s_l07Vectors_d9f5_l3_D⟩
noncomputable def s_l07Vectors_d9f5_A : List (Nat × LoopI) := [(3, s_l07Vectors_d9f5_l3_L)]
set_option maxRecDepth 100000 in
theorem s_l07Vectors_d9f5_l3_step : ∀ (z3_0 : Bool) (h3_0_1 : TNet) (x : (Int × (List (List Int)))) (c : St → Option (Ex × St)), den s_l07Vectors_d9f5_V s_l07Vectors_d9f5_A (loopAt s_l07Vectors_d9f5_b 0) (s_l07Vectors_d9f5_l3_mk z3_0 h3_0_1 x) (roundK s_l07Vectors_d9f5_l3_L.kp s_l07Vectors_d9f5_l3_L.kx c) = (s_l07Vectors_d9f5_l3 h3_0_1 x).run (roundR (s_l07Vectors_d9f5_l3_mk z3_0 h3_0_1) (s_l07Vectors_d9f5_l3_out z3_0 h3_0_1) c) := fun _ _ _ _ => by
 kernel_rfl
theorem s_l07Vectors_d9f5_l3_ok : LoopOK s_l07Vectors_d9f5_V s_l07Vectors_d9f5_A (loopAt s_l07Vectors_d9f5_b 0) s_l07Vectors_d9f5_l3_L := loopOK_of fun s e s' h => by
 generalize hs : restrict s_l07Vectors_d9f5_l3_L.kp s = s1 at h
 have h : (s_l07Vectors_d9f5_l3_D s1).run some = some (e, s') := h
 obtain ⟨e1, h_0⟩ := asPtr_spec h
 obtain ⟨e2, h_1⟩ := asRef_spec h_0
 obtain ⟨d4, e3, h_2⟩ := asImmZ_spec h_1
 obtain ⟨m6, d7, e5, h_3⟩ := asRoot_spec h_2
 obtain ⟨z8, rfl, h_4⟩ := asMImm_spec h_3
 obtain ⟨m10, d11, e9, h_5⟩ := asRoot_spec h_4
 obtain ⟨rfl, h_6⟩ := asM_spec h_5
 obtain ⟨y, hy, hz⟩ := mat_ret h_6
 refine ⟨_, _, s_l07Vectors_d9f5_l3_mk z8 d7, s_l07Vectors_d9f5_l3_out z8 d7, s_l07Vectors_d9f5_l3 d7, (d4, d11), y, ?_, hy, ?_, s_l07Vectors_d9f5_l3_step z8 d7⟩
 ·subst hs; exact restrict_eq (T := [(0, (.ptr (0, 0) [])), (3, (.ref (5, 0) [])), (4, (.imm true (.int .i64) d4))]) (U := [((0, 0), some ⟨true, kNet, (.imm z8), d7⟩), ((5, 0), some ⟨false, (.sl (.sl (.int .i64))), .own, d11⟩)]) rfl rfl ⟨e1, e2, e3, trivial⟩ ⟨e5, e9, trivial⟩
 ·exact Option.some.inj hz
noncomputable def s_l07Vectors_d9f5_I : FnI := ⟨s_l07Vectors_d9f5_b, Try.f45.results.toList, Try.f45.resultTypes.toList, s_l07Vectors_d9f5_A⟩
noncomputable def s_l07Vectors_d9f5_out (zp0 : Bool) (p0 : TNet) : (List (List Int)) → CallOut := fun r => ⟨(.ref (1, 0) []), [⟨true, kNet, (.imm zp0), p0⟩], [⟨false, (.sl (.sl (.int .i64))), .own, r⟩]⟩
set_option maxRecDepth 100000 in
theorem s_l07Vectors_d9f5_eq : ∀ (zp0 : Bool) (p0 : TNet), denFn s_l07Vectors_d9f5_V s_l07Vectors_d9f5_I ⟨[(.ptr (0, 0) [])], [⟨true, kNet, (.imm zp0), p0⟩]⟩ = (s_l07Vectors_d9f5 p0).run fun r => some (s_l07Vectors_d9f5_out zp0 p0 r) := fun _ _ => by kernel_rfl
noncomputable def s_l07Vectors_d9f5_G (av : List AV) (rs : List Root) : Tre CallOut :=
 asCons av fun a0_ av0 =>
 asEnd av0 <|
 asCons rs fun r0_ rs0 =>
 asEnd rs0 <|
 asPtr (0, 0) [] a0_ <|
 asRt true kNet r0_ fun m1 d2 =>
 asMImm m1 fun z3 =>
 .mat (s_l07Vectors_d9f5_F d2) fun r => .ret (s_l07Vectors_d9f5_out z3 d2 r)
noncomputable def s_l07Vectors_d9f5_c : Ctr := ⟨[], fun ci => s_l07Vectors_d9f5_G ci.args ci.roots, false⟩
theorem s_l07Vectors_d9f5_env : EnvOK Try.prog .none s_l07Vectors_d9f5_V := (envOK_cons s_l07Vector_9419_ok ent98 envOK_nil)
set_option maxRecDepth 100000 in
theorem s_l07Vectors_d9f5_ok : Contract Try.prog .none 45 s_l07Vectors_d9f5_c := by
 have hl : LoopsOK s_l07Vectors_d9f5_V s_l07Vectors_d9f5_A s_l07Vectors_d9f5_b := (loopsOK_all (n := 1) (by kernel_rfl) fun k hk => by
   match k, hk with
   | 0, _ => exact loopOK_at (id := 3) (L := s_l07Vectors_d9f5_l3_L) (by kernel_rfl) (by kernel_rfl) s_l07Vectors_d9f5_l3_ok)
 refine (contract_of (F := s_l07Vectors_d9f5_I) tau_tys s_l07Vectors_d9f5_env Try.func45 (by kernel_rfl) (by kernel_rfl) (by kernel_rfl) hl []).weaken ?_
 rintro ⟨av, rs⟩ co h
 have h : (s_l07Vectors_d9f5_G av rs).run some = some co := h
 obtain ⟨a0_, av0, rfl, h_0⟩ := asCons_spec h
 obtain ⟨rfl, h_1⟩ := asEnd_spec h_0
 obtain ⟨r0_, rs0, rfl, h_2⟩ := asCons_spec h_1
 obtain ⟨rfl, h_3⟩ := asEnd_spec h_2
 obtain ⟨rfl, h_4⟩ := asPtr_spec h_3
 obtain ⟨m1, d2, rfl, h_5⟩ := asRt_spec h_4
 obtain ⟨z3, rfl, h_6⟩ := asMImm_spec h_5
 exact fin_mat (s_l07Vectors_d9f5_eq z3 d2) h_6
end Go.Proofs.Ytkgekgfmnhccmaa
