/- Part 2 of the proof of FnDelivered. -/
import Derived.WalkKit
import Derived.ProofKit
import Derived.OpenShut
import Derived.ShutString
import Derived.ChangeOld
import Derived.Below
import Derived.SizedLaws
import Derived.Carry
import Derived.IntWalk
import Derived.Test.YtkgekgfmnhccmaaPd1
namespace Go.Abs
variable {Γ : Glb}
section
variable {P : Program} {V : Env} {w0 w : World} {M0 : BS} {n : Nat} {C0 C : Ctx} {s : St} {a : Act}
variable {R' : Type} {r : R'} {o : Oper}
theorem does_op (hT : TysOK P V) (hE : EnvG P Γ V w0 M0 C0) (R : Rel w0 M0 n C0 C s a w) {c : Del → Option R'} (h : denOp V o s.tmps s.roots c = some r) : ∃ x, c x = some r ∧ Does P w0 M0 n C0 s a w o x := by
 cases ho : o.op with
 | move x => exact does_move R ho h
 | assign x => exact does_assign R ho h
 | pick x y z => exact does_pick R ho h
 | alloc t => exact does_alloc hT R ho h
 | box t x => exact does_box R ho h
 | build t ps => exact does_build hT R ho h
 | buildSlice t k ps => exact does_buildSlice hT R ho h
 | load t x => exact does_load hT R ho h
 | store t x y => exact does_store hT R ho h
 | nilCheck x => exact does_nilCheck R ho h
 | binOp op t x y ty => exact does_binOp hT R ho h
 | unOp op t x => exact does_unOp R ho h
 | convert t1 t2 x => exact does_convert hT R ho h
 | makeFunc f f1 cs => exact does_makeFunc R ho h
 | makeSlice t l cp => exact does_makeSlice hT R ho h
 | slice t x lo hi mx => exact does_slice hT R ho h
 | field t x f => exact does_field hT R ho h
 | fieldAddr t x f => exact does_fieldAddr hT R ho h
 | indexAddr t x i => exact does_indexAddr hT R ho h
 | index t x i => exact does_index hT R ho h
 | extract x i => exact does_extract R ho h
 | call cl =>
  obtain ⟨cal, args, ts⟩ := cl
  cases cal with
  | value f => exact does_call hE R ho h
  | builtin b =>
   cases b with
   | len => exact does_len hT R ho h
   | append => exact does_append hT R ho h
   | cap => exact does_cap hT R ho h
   | min => exact does_min R ho h
   | _ => simp [denOp, ho, denBuiltin] at h
  | invoke _ _ => simp [denOp, ho] at h
 | _ => simp [denOp, ho] at h
theorem Rel.setT (R : Rel w0 M0 n C0 C s a w) {t : Nat} {z b : Bool} (h : s.tmps t = .imm z .bool b) : Rel w0 M0 n C0 C (setT t (.imm z .bool b) s) a w where
 ext := R.ext
 mem := R.mem
 tm := by
  intro t'
  simp only [Go.Abs.setT]
  by_cases ht : t' = t
  ·rw [beq_iff.2 ht, ht]
   have hv := R.tm t
   rw [h] at hv
   rw [hv.bool]
   exact VRel.mkBool b
  ·rw [beq_ne ht]; exact R.tm t'
 kept := R.kept
 foot := R.foot
 pins := R.pins
 defers := R.defers
 room := R.room
 parρ := R.parρ
 zn := R.zn
theorem VRel.undef {v : Value} {rs : RF} (h : VRel w C rs v .tnil) : v = undef := by
 rcases h with (h | ⟨h, _⟩ | ⟨_, h, _⟩) | ⟨vs, h, h2⟩
 ·cases h
 ·cases h
 ·exact h.elim
 ·have : vs = [] := h2
  subst this; exact h
theorem Rel.skip (R : Rel w0 M0 n C0 C s a w) (hd : ∀ d, o.dst = some d → d < n) : Rel w0 M0 n C0 C (skipOp o s) (a.put o.dst undef) w where
 ext := R.ext
 mem := R.mem
 tm := by
  intro t
  simp only [skipOp]
  cases ho : o.dst with
  | none => exact R.tm t
  | some d =>
   rw [getD_put (by rw [R.room]; exact hd d ho)]
   by_cases ht : t = d
   ·rw [if_pos ht]
    simp only [beq_iff.2 ht, cond_true]
    exact .inr ⟨[], rfl, rfl⟩
   ·rw [if_neg ht]
    simp only [beq_ne ht, cond_false]
    exact R.tm t
 kept := R.kept
 foot := R.foot
 pins := R.pins
 defers := by cases ho : o.dst <;> exact R.defers
 room := by cases ho : o.dst <;> simp [Act.put, R.room]
 parρ := R.parρ
 zn := R.zn
theorem Rel2.setT2 (R : Rel2 w0 M0 n C0 C s a w) {t : Nat} {z b : Bool} (h : s.tmps t = .imm z .bool b) : Rel2 w0 M0 n C0 C (setT t (.imm z .bool b) s) a w := by
 obtain ⟨w1, R1, hu⟩ := R
 exact ⟨w1, R1.setT h, hu⟩
theorem Rel2.skip2 (R : Rel2 w0 M0 n C0 C s a w) (hd : ∀ d, o.dst = some d → d < n) : Rel2 w0 M0 n C0 C (skipOp o s) (a.put o.dst undef) w := by
 obtain ⟨w1, R1, hu⟩ := R
 exact ⟨w1, R1.skip hd, hu⟩
theorem runOp_sound (hT : TysOK P V) (hE : EnvG P Γ V w0 M0 C0) (R : Rel2 w0 M0 n C0 C s a w) (hd : ∀ d, o.dst = some d → d < n) {c : St → Tr → Option R'} (h : runOp V o s c = some r) :
  ∃ s' tr, c s' tr = some r ∧ ∀ (next : Act → World → Prop) (Q : Exit → Act → World → Prop), (∀ a' w' C', Rel2 w0 M0 n C0 C' s' a' w' → next a' w') → o.wp P a w next Q := by
 unfold runOp at h
 obtain ⟨x, h, hx⟩ := does_opS_of hT R (fun R' h' => does_op hT hE R' h') h
 cases hal : allowedS s o.dst x with
 | false => rw [hal] at h; simp at h
 | true =>
 rw [hal] at h
 exact ⟨_, _, h, fun next Q hn => hx hd hal next Q hn⟩
theorem denGuard_sound (hT : TysOK P V) (hE : EnvG P Γ V w0 M0 C0) {ops : Array Oper} {i : Nat} (hi : ops[i]? = some o) (R : Rel2 w0 M0 n C0 C s a w) (hd : ∀ d, o.dst = some d → d < n) {c : St → Tr → Option R'} (h : denGuard V ops.toList o s c = some r) :
  ∃ s' tr, c s' tr = some r ∧ ∀ (next : Act → World → Prop) (Q : Exit → Act → World → Prop), (∀ a' w' C', Rel2 w0 M0 n C0 C' s' a' w' → next a' w') → wpOp P ops Q i next a w := by
 unfold denGuard at h
 split at h
 ·rename_i hg
  obtain ⟨s', tr, h1, h2⟩ := runOp_sound hT hE R hd h
  refine ⟨s', tr, h1, fun next Q hn => ?_⟩
  unfold wpOp
  simp only [hi, Region.wanted, hg, if_true]
  exact .inl (h2 next Q hn)
 ·rename_i j want hg
  split at h
  ·simp at h
  ·rename_i t ht
   split at h
   case h_3 => simp at h
   case h_2 hb =>
    have hy : yielded ops a.tmps j = none := by
     unfold yielded
     rw [Array.getElem?_toList] at ht
     rw [ht]
     simp only [Option.bind_some]
     obtain ⟨_, R1, _⟩ := id R
     have hv := R1.tm t
     rw [hb] at hv
     have hvu := VRel.undef hv
     rw [Array.getD_eq_getD_getElem?] at hvu
     cases hh : a.tmps[t]? with
     | none => rfl
     | some v => rw [hh] at hvu; simp only [Option.getD_some] at hvu; subst hvu; rfl
    refine ⟨_, _, h, fun next Q hn => ?_⟩
    unfold wpOp
    simp only [hi, Region.wanted, hg, hy, show ((none : Option Bool) == some want) = false from rfl]
    exact hn _ _ C (R.skip2 hd)
   case h_1 z b hb =>
   obtain ⟨_, R1, _⟩ := id R
   have hv := R1.tm t
   rw [hb] at hv
   have hvb := hv.bool
   have hy : yielded ops a.tmps j = some b := by
    unfold yielded
    rw [Array.getElem?_toList] at ht
    rw [ht]
    simp only [Option.bind_some]
    have : a.tmps[t]? = some (.bool b) := by
     rw [Array.getD_eq_getD_getElem?] at hvb
     cases hh : a.tmps[t]? with
     | none => rw [hh] at hvb; cases hvb
     | some v => rw [hh] at hvb; simp only [Option.getD_some] at hvb; rw [hvb]
    rw [this]
   have run : ∀ bb : Bool, b = bb → want = bb → ∀ {c' : St → Tr → Option R'}, runOp V o (setT t (.imm z .bool bb) s) c' = some r →
     ∃ s' tr, c' s' tr = some r ∧ ∀ (next : Act → World → Prop) (Q : Exit → Act → World → Prop), (∀ a' w' C', Rel2 w0 M0 n C0 C' s' a' w' → next a' w') → wpOp P ops Q i next a w := by
    intro bb hb1 hb2 c' hc
    subst hb1
    subst hb2
    obtain ⟨s', tr, h1, h2⟩ := runOp_sound hT hE (R.setT2 hb) hd hc
    refine ⟨s', tr, h1, fun next Q hn => ?_⟩
    unfold wpOp
    simp only [hi, Region.wanted, hg, hy, beq_self_eq_true, if_true]
    exact .inl (h2 next Q hn)
   have skp : ∀ bb : Bool, b = bb → want ≠ bb → ∀ (tr : Tr) {c' : St → Tr → Option R'}, c' (skipOp o (setT t (.imm z .bool bb) s)) tr = some r →
     ∃ s' tr, c' s' tr = some r ∧ ∀ (next : Act → World → Prop) (Q : Exit → Act → World → Prop), (∀ a' w' C', Rel2 w0 M0 n C0 C' s' a' w' → next a' w') → wpOp P ops Q i next a w := by
    intro bb hb1 hb2 tr c' hc
    subst hb1
    refine ⟨_, tr, hc, fun next Q hn => ?_⟩
    unfold wpOp
    have hne : (some b == some want) = false := by cases b <;> cases want <;> first | rfl | exact absurd rfl hb2
    simp only [hi, Region.wanted, hg, hy, hne]
    exact hn _ _ C ((R.setT2 hb).skip2 hd)
   cases want <;> cases b
   ·exact run false rfl rfl h
   ·exact skp true rfl (by simp) _ h
   ·exact skp false rfl (by simp) _ h
   ·exact run true rfl rfl h
theorem denOps_sound (hT : TysOK P V) (hE : EnvG P Γ V w0 M0 C0) {ops : Array Oper} (hd : ∀ o ∈ ops.toList, ∀ d, o.dst = some d → d < n) {c : St → List Tr → Option R'} {Q : Exit → Act → World → Prop}
  (hq : ∀ s' accs' a' w' C', c s' accs' = some r → Rel2 w0 M0 n C0 C' s' a' w' → Q .normal a' w') : ∀ (l : List Oper) (k : Nat), ops.toList.drop k = l → ∀ {C : Ctx} {s : St} {a : Act} {w : World} (_ : Rel2 w0 M0 n C0 C s a w) {accs : List Tr},
  denOps V ops.toList l s accs c = some r → wpOps P ops Q (List.range' k l.length) a w := by
 intro l
 induction l with
 | nil =>
  intro k hk C s a w R accs h
  exact hq s accs a w C h R
 | cons o l ih =>
  intro k hk C s a w R accs h
  have hok : ops[k]? = some o := by
   rw [← Array.getElem?_toList]
   have := congrArg (·[0]?) hk
   simpa using this
  have hk' : ops.toList.drop (k + 1) = l := by
   rw [← List.drop_drop, hk]; rfl
  simp only [denOps] at h
  obtain ⟨s1, tr, h1, h2⟩ := denGuard_sound hT hE hok R (hd o (List.mem_of_getElem? (by rw [Array.getElem?_toList]; exact hok))) h
  rw [show List.range' k (o :: l).length = k :: List.range' (k + 1) l.length from rfl, wpOps_cons]
  exact h2 _ Q (fun a' w' C' R' => ih (k + 1) hk' R' h1)
theorem wp_seqRegion (hT : TysOK P V) (hE : EnvG P Γ V w0 M0 C0) {id : Nat} {ops : Array Oper} (hd : ∀ o ∈ ops.toList, ∀ d, o.dst = some d → d < n) {c : St → Option R'} {Q : Exit → Act → World → Prop}
  (hq : ∀ s' a' w' C', c s' = some r → Rel w0 M0 n C0 C' s' a' w' → Q .normal a' w') (R : Rel w0 M0 n C0 C s a w) (h : denRegion V ops.toList false s c = some r) : (Code.region id ops false).wp P Q a w := by
 refine wp_region ?_
 unfold denRegion at h
 split at h
 ·simp at h
 rename_i hn
 have := denOps_sound hT hE hd (Q := Q) (fun s' _ a' w' C' h R => by
  split at h
  ·simp at h
  ·rename_i hn'
   exact hq s' a' w' C' h (R.one hn')) ops.toList 0 rfl (R.two hn) h
 rw [List.range_eq_range']
 simpa using this
theorem tofL_keep (tm : TF) : ∀ (l : List Nat) (t : Nat), tofL (keepT tm l) t = tm t ∨ tofL (keepT tm l) t = .dead := by
 intro l
 induction l with
 | nil => intro t; exact .inr rfl
 | cons x l ih =>
  intro t
  simp only [keepT, tofL]
  by_cases h : t = x
  ·rw [beq_iff.2 h, h]; exact .inl rfl
  ·rw [beq_ne h]; exact ih t
theorem rofL_keep (rs : RF) : ∀ (l : List RName) (q : RName) (y : Root), rofL (keepR rs l) q = some y → rs q = some y ∧ q ∈ l := by
 intro l
 induction l with
 | nil => intro q y h; cases h
 | cons x l ih =>
  intro q y h
  simp only [keepR, rofL] at h
  by_cases hq : q = x
  ·rw [req_iff.2 hq] at h; subst hq; exact ⟨h, by simp⟩
  ·rw [req_ne hq] at h
   obtain ⟨h1, h2⟩ := ih q y h
   exact ⟨h1, by simp [h2]⟩
theorem pinsOf_mem {rs : RF} {q p : RName} {y : Root} (hy : rs q = some y) (hp : p ∈ ptrsOf y.k y.d) : ∀ (l : List RName), q ∈ l → pinsOf rs l p.1 = true := by
 intro l
 induction l with
 | nil => intro h; cases h
 | cons x l ih =>
  intro h
  simp only [pinsOf, Bool.or_eq_true]
  rcases List.mem_cons.1 h with rfl | h
  ·left
   rw [hy]
   simp only
   cases hpl : y.k.plain with
   | true => rw [ptrsOf_plain _ hpl] at hp; cases hp
   | false => simp only [cond_false, List.any_eq_true]; exact ⟨p, hp, beq_iff.2 rfl⟩
  ·exact .inr (ih h)
theorem Rel.restrict (R : Rel w0 M0 n C0 C s a w) (kp : Keep) : Rel w0 M0 n C0 C (Go.Abs.restrict kp s) a w := by
 have hr : ∀ q y, (Go.Abs.restrict kp s).roots q = some y → s.roots q = some y ∧ q ∈ kp.2 := fun q y h => rofL_keep _ _ q y h
 refine ⟨R.ext, ⟨fun q y h => R.mem.ok q y (hr q y h).1, fun q q' y y' h h' => R.mem.disj q q' y y' (hr q y h).1 (hr q' y' h').1, fun q y b h => R.mem.apart q y b (hr q y h).1, R.mem.ro, fun q y h p hp z hz => R.mem.ptr q y (hr q y h).1 p hp z (hr p z hz).1⟩,
  fun t => ?_, R.kept, fun q y b h => R.foot q y b (hr q y h).1, fun q y h p hp h2 => pinsOf_mem (hr q y h).1 hp _ (hr q y h).2, R.defers, R.room, fun i y h hm => R.parρ i y (hr _ y h).1 hm, R.zn⟩
 show VRel w C _ _ (tofL (keepT s.tmps kp.1) t)
 rcases tofL_keep s.tmps kp.1 t with h | h
 ·rw [h, ← kills_nil (s.tmps t)]
  exact (R.tm t).step fun av vs hl _ hav => leaf_keep R.mem (fun _ => False) rfl rfl (fun _ _ => rfl) (fun _ _ => rfl) (fun q y _ hy => (hr q y hy).1) (fun _ _ => rfl) hl (fun _ _ h => h) hav
 ·rw [h]; exact VRel.dead
end
end Go.Abs

namespace Go.Abs
section
variable {R R' : Type}
theorem cond_bind (b : Bool) (x y : Option R) (g : R → Option R') : (bif b then x else y).bind g = bif b then x.bind g else y.bind g := by cases b <;> rfl
theorem getP_nat (g : R → Option R') : ∀ (p : Path) {k : K} {d : k.den} {m : Mask} (c : (k' : K) → k'.den → Mask → Option R), (getP k d m p c).bind g = getP k d m p fun k' d' m' => (c k' d' m').bind g := by
 intro p
 induction p with
 | nil => intro k d m c; cases k <;> rfl
 | cons s p ih =>
  intro k d m c
  cases s <;> cases k <;> first | rfl | exact ih _ | skip
  simp only [getP]
  split
  ·split
   ·rfl
   ·exact ih _
  ·rfl
theorem setP_nat (g : R → Option R') {k1 : K} {d1 : k1.den} {m1 : Mask} : ∀ (p : Path) {k : K} {d : k.den} {m : Mask} (c : k.den → Mask → Option R), (setP k d m p k1 d1 m1 c).bind g = setP k d m p k1 d1 m1 fun d' m' => (c d' m').bind g := by
 intro p
 induction p with
 | nil =>
  intro k d m c
  have h : ∀ {R : Type} (c : k.den → Mask → Option R), setP k d m [] k1 d1 m1 c = if h : k1 = k then c (h ▸ d1) (bif k.flat then m else m1) else none := by intro R c; cases k <;> rfl
  rw [h, h]
  split <;> rfl
 | cons s p ih =>
  intro k d m c
  cases s <;> cases k <;> first | rfl | exact ih _ | skip
  simp only [setP]
  split
  ·cases m.isOwn with
   | false => rfl
   | true =>
    simp only [cond_true]
    rw [ih]
    congr 1
    funext d' m'
    split <;> rfl
  ·rfl
theorem takeAt_nat {r0 : RName} (g : R → Option R') : ∀ (av : AV) {k : K} {p : Path} {d : k.den} {m : Mask} (c : k.den → Mask → Option R), (takeAt r0 av k p d m c).bind g = takeAt r0 av k p d m fun d m => (c d m).bind g := by
 intro av
 induction av with
 | pair a b iha ihb =>
  intro k p d m c
  cases k <;> first | rfl | skip
  simp only [takeAt]
  rw [iha]
  congr 1
  funext d m
  rw [ihb]
 | imm z k d =>
  intro k p d m c
  cases k <;> simp only [takeAt] <;> split <;> rfl
 | ref q p' =>
  intro k p d m c
  cases k <;> first | rfl | skip
  simp only [takeAt]
  split <;> rfl
 | _ => intro k p d m c; cases k <;> rfl
theorem absorb_nat {rs : RF} (g : R → Option R') : ∀ (av : AV) {k : K} {u : U} (c : k.den → Mask → U → List RName → List RName → Option R), (absorb rs av k u c).bind g = absorb rs av k u fun d m u e q => (c d m u e q).bind g := by
 intro av
 induction av with
 | pair a b iha ihb =>
  intro k u c
  cases k <;> first | rfl | skip
  simp only [absorb]
  split
  ·split
   ·split
    ·rw [takeAt_nat]
    ·rfl
   ·rfl
  ·rw [iha]
   congr 1
   funext d m u e q
   rw [ihb]
 | imm z k d =>
  intro k u c
  cases k <;> simp only [absorb] <;> split <;> rfl
 | ref q p =>
  intro k u c
  cases p with
  | cons _ _ => cases k <;> rfl
  | nil =>
   cases k <;> simp only [absorb] <;> split <;> first | rfl | skip
   all_goals
    rename_i x _
    cases x.mem <;> simp only [cond_true, cond_false] <;> first | rfl | (split <;> first | rfl | (cases x.roZ <;> rfl))
 | slc q p lo n =>
  intro k u c
  cases p with
  | cons _ _ => cases k <;> rfl
  | nil =>
   cases k <;> first | rfl | skip
   simp only [absorb]
   split
   ·rename_i x _
    cases (x.mem || !x.m.isOwn) <;> simp only [cond_true, cond_false] <;> first | rfl | (split <;> rfl)
   ·rfl
 | ptr q p => intro k u c; cases p <;> cases k <;> rfl
 | _ => intro k u c; cases k <;> rfl
theorem absorbs_nat {rs : RF} {e : K} (g : R → Option R') : ∀ (l : List AV) {u : U} {m : Option Mask} (c : List e.den → Option Mask → U → List RName → List RName → Option R), (absorbs rs e l u m c).bind g = absorbs rs e l u m fun d m u e q => (c d m u e q).bind g := by
 intro l
 induction l with
 | nil => intro u m c; rfl
 | cons a l ih =>
  intro u m c
  simp only [absorbs]
  rw [absorb_nat]
  congr 1
  funext d ma u1 e1 q1
  cases m with
  | none => exact ih _
  | some m0 =>
   simp only
   split
   ·exact ih _
   ·rfl
theorem absorbsI_nat {rs : RF} {e : K} (g : R → Option R') (l : List AV) (c : List e.den → Option Mask → U → List RName → List RName → Option R) : (absorbsI rs e l c).bind g = absorbsI rs e l fun d m u e q => (c d m u e q).bind g := by
 unfold absorbsI
 split
 ·rfl
 ·rw [absorbs_nat]
theorem readSl_nat {rs : RF} {u : U} {e : K} {av : AV} (g : R → Option R') (c : List e.den → Mask → Option R) : (readSl rs u e av c).bind g = readSl rs u e av fun xs m => (c xs m).bind g := by
 cases av <;> first | rfl | skip
 ·simp only [readSl]; split <;> rfl
 ·simp only [readSl]; split <;> rfl
 ·simp only [readSl]
  split
  ·rfl
  ·rw [getP_nat]
   congr 1
   funext k d m
   split
   ·cases m.live <;> rfl
   ·rfl
 ·simp only [readSl]
  split
  ·rfl
  ·rw [getP_nat]
   congr 1
   funext k d m
   split
   ·cases m.live <;> rfl
   ·rfl
theorem takeIn_nat {r : RName} {u : U} {e : K} {x : Root} {p : Path} (g : R → Option R') (c : List e.den → Mask → U → List Kill → List RName → Option R) : (takeIn r e u x p c).bind g = takeIn r e u x p fun xs m u k n => (c xs m u k n).bind g := by
 unfold takeIn
 rw [getP_nat]
 congr 1
 funext k d m
 split
 ·cases m.isOwn with
  | false => rfl
  | true => simp only [cond_true]; rw [setP_nat]
 ·rfl
theorem takeDst_nat {rs : RF} {u : U} {e : K} {av : AV} (g : R → Option R') (c : List e.den → Mask → U → List Kill → List RName → Option R) : (takeDst rs e u av c).bind g = takeDst rs e u av fun xs m u k n => (c xs m u k n).bind g := by
 cases av with
 | ref q p =>
  simp only [takeDst]
  split
  ·rfl
  ·rename_i x _
   split
   ·cases (x.mem || Nat.beq q.1 0) with
    | true => simp only [cond_true]; exact takeIn_nat g c
    | false =>
     simp only [cond_false]
     split
     ·cases x.m.isOwn <;> rfl
     ·rfl
   ·cases hasIdx p with
    | true => rfl
    | false => simp only [cond_false]; exact takeIn_nat g c
 | slc q p lo n =>
  cases p with
  | cons => rfl
  | nil =>
   simp only [takeDst]
   split
   ·rfl
   ·rename_i x _
    cases x.mem with
    | true => rfl
    | false =>
     simp only [cond_false]
     split
     ·cases x.m.isOwn <;> rfl
     ·rfl
 | _ => rfl
theorem takeSrc_nat {rs : RF} {u : U} {e : K} {av : AV} (g : R → Option R') (c : List e.den → Mask → U → List Kill → List RName → Option R) : (takeSrc rs e u av c).bind g = takeSrc rs e u av fun xs m u k n => (c xs m u k n).bind g := by
 cases av with
 | imm z k d => simp only [takeSrc]; split <;> rfl
 | _ => simp only [takeSrc]; exact takeDst_nat (rs := rs) (u := u) (e := e) g c
theorem arith_nat {op : BinOp} {k : IntKind} {x y : Int} (g : R → Option R') (c : AV → Option R) : (arith op k x y c).bind g = arith op k x y fun v => (c v).bind g := by
 cases op <;> simp only [arith] <;> first | rfl | (split <;> rfl)
theorem binAV_nat {kt : Option K} {op : BinOp} {a b : AV} (g : R → Option R') (c : AV → Option R) : (binAV kt op a b c).bind g = binAV kt op a b fun v => (c v).bind g := by
 unfold binAV
 split
 ·cases isShift op with
  | true => exact arith_nat g c
  | false =>
   simp only [cond_false]
   split
   ·exact arith_nat g c
   ·rfl
 ·split <;> rfl
 ·split <;> first | rfl | (split <;> rfl)
 ·split <;> rfl
 ·split <;> rfl
 ·rename_i k1 k2 _ _ k' _
  by_cases h : k' = K.pair k1 k2
  ·rw [dif_pos h, dif_pos h]
   cases (K.pair k1 k2).ints && decide (kt = some (K.pair k1 k2))
   ·rfl
   ·simp only [cond_true]; split <;> rfl
  ·rw [dif_neg h, dif_neg h]; rfl
 ·rfl
theorem unAV_nat {op : UnOp} {a : AV} (g : R → Option R') (c : AV → Option R) : (unAV op a c).bind g = unAV op a fun v => (c v).bind g := by
 unfold unAV; split <;> rfl
theorem convAV_nat {s d : Option K} {a : AV} (g : R → Option R') (c : AV → Option R) : (convAV s d a c).bind g = convAV s d a fun v => (c v).bind g := by
 unfold convAV; split <;> rfl
theorem boundAV_nat {a : Option AV} {d : Int} (g : R → Option R') (c : Int → Option R) : (boundAV a d c).bind g = boundAV a d fun v => (c v).bind g := by
 unfold boundAV; split <;> rfl
theorem indexAV_nat {rs : RF} {e : K} {a : AV} {i : Int} (g : R → Option R') (c : AV → Option R) : (indexAV rs e a i c).bind g = indexAV rs e a i fun v => (c v).bind g := by
 unfold indexAV
 split
 ·split
  ·split <;> rfl
  ·rfl
 ·rw [readSl_nat]; congr 1; funext xs m; split <;> rfl
 ·rw [readSl_nat]; congr 1; funext xs m; split <;> rfl
 ·rfl
theorem lenAV_nat {rs : RF} {e : K} {a : AV} (g : R → Option R') (c : Nat → Option R) : (lenAV rs e a c).bind g = lenAV rs e a fun v => (c v).bind g := by
 unfold lenAV
 split
 ·split <;> rfl
 ·rw [readSl_nat]
theorem sliceAV_nat {V : Env} {t : Nat} {rs : RF} {a : AV} {lo hi mx : Option AV} (g : R → Option R') (c : AV → Option R) : (sliceAV V t rs a lo hi mx c).bind g = sliceAV V t rs a lo hi mx fun v => (c v).bind g := by
 unfold sliceAV
 split
 ·split
  ·split
   ·rw [readSl_nat]; congr 1; funext xs m; split <;> rfl
   ·rfl
  ·split
   ·rw [readSl_nat]; congr 1; funext xs m; split <;> rfl
   ·rfl
  ·rfl
 ·rfl
 ·split
  ·split
   ·rw [boundAV_nat]; congr 1; funext l; rw [boundAV_nat]; congr 1; funext h; split <;> rfl
   ·rfl
  ·split
   ·rw [boundAV_nat]; congr 1; funext l; rw [boundAV_nat]; congr 1; funext h; split <;> rfl
   ·split
    ·rw [boundAV_nat]; congr 1; funext l; rw [boundAV_nat]; congr 1; funext h; split <;> rfl
    ·rfl
   ·rw [readSl_nat]; congr 1; funext xs m; rw [boundAV_nat]; congr 1; funext l; rw [boundAV_nat]; congr 1; funext h; split <;> rfl
   ·rw [readSl_nat]; congr 1; funext xs m; rw [boundAV_nat]; congr 1; funext l; rw [boundAV_nat]; congr 1; funext h; split <;> rfl
   ·rfl
  ·rfl
theorem iptrArg_nat {R R' : Type} {z : Bool} {k : K} {d : k.den} {p : Path} (g : R → Option R') (c : AV → Option R) : (iptrArg z k d p c).bind g = iptrArg z k d p fun a => (c a).bind g := by
 unfold iptrArg
 split
 ·split <;> rfl
 ·rfl
theorem argOf_nat {rs : RF} {rw : Bool} (g : R → Option R') : ∀ (av : AV) {kind : Option K} {sn : List RName} {gg : Reg} (c : AV → List RName → Reg → Option R), (argOf rs rw kind av sn gg c).bind g = argOf rs rw kind av sn gg fun a s r => (c a s r).bind g := by
 intro av
 induction av with
 | pair a b iha ihb =>
  intro kind sn gg c
  simp only [argOf]
  rw [iha]
  congr 1
  funext a s r
  rw [ihb]
 | nil => intro kind sn gg c; simp only [argOf]; split <;> first | rfl | (rename_i e; cases e.plain <;> cases rw <;> rfl)
 | emp => intro kind sn gg c; simp only [argOf]; split <;> first | rfl | (rename_i e; cases e.plain <;> rfl)
 | ptr q p =>
  intro kind sn gg c
  cases p with
  | cons st p =>
   simp only [argOf]
   cases rw with
   | false => rfl
   | true =>
    simp only [cond_true]
    split
    ·rfl
    ·rw [getP_nat]
     congr 1
     funext k d m
     cases (m.live && k.plain) <;> rfl
  | nil =>
   simp only [argOf]
   cases rw with
   | false => rfl
   | true =>
    simp only [cond_true]
    split
    ·rfl
    ·rename_i x _
     cases (x.mem && (x.m.live && x.k.plain)) <;> rfl
 | iptr z k d p =>
  intro kind sn gg c
  simp only [argOf]
  exact iptrArg_nat g _
 | ref q p =>
  intro kind sn gg c
  simp only [argOf]
  split
  ·rfl
  ·cases rw with
   | true =>
    simp only [cond_true]
    split
    ·cases memR q gg <;> rfl
    ·rfl
   | false =>
    simp only [cond_false]
    rw [getP_nat]
    congr 1
    funext k d m
    cases (m.live && k.plain) with
    | false => rfl
    | true => cases m <;> rfl
 | slc q p lo n =>
  intro kind sn gg c
  simp only [argOf]
  split
  ·rfl
  ·cases rw with
   | true => rfl
   | false =>
    simp only [cond_false]
    rw [getP_nat]
    congr 1
    funext k d m
    cases (m.live && k.plain) with
    | false => rfl
    | true => simp only [cond_true]; split <;> rfl
 | _ => intro kind sn gg c; rfl
theorem argsOf_nat {rs : RF} {rw : List Nat} (g : R → Option R') : ∀ (l : List AV) {kinds : List (Option K)} {i : Nat} {sn : List RName} {gg : Reg} (c : List AV → List RName → Reg → Option R), (argsOf rs rw kinds i l sn gg c).bind g = argsOf rs rw kinds i l sn gg fun a s r => (c a s r).bind g := by
 intro l
 induction l with
 | nil => intro kinds i sn gg c; rfl
 | cons a l ih =>
  intro kinds i sn gg c
  simp only [argsOf]
  rw [argOf_nat]
  congr 1
  funext a s r
  rw [ih]
theorem denCall_nat {V : Env} {f : Nat} {args : List AV} {kinds : List (Option K)} {dst : Nat} {rs : RF} (g : R → Option R') (c : Del → Option R) : (denCall V f args kinds dst rs c).bind g = denCall V f args kinds dst rs fun x => (c x).bind g := by
 unfold denCall
 split
 ·rfl
 ·rw [argsOf_nat]
  congr 1
  funext args' sn gg
  split
  ·rfl
  ·rename_i g2 _
   cases (anyR sn g2 || !closedReg rs g2 g2 || anySlot (dst + 2) g2 || !Nat.blt g2.length 1000000) with
   | true => rfl
   | false =>
    simp only [cond_false]
    split
    ·rfl
    ·rw [Tre.run_nat]
     congr 1
     funext co
     cases (ptrsOk g2.length co.fresh.length co.roots && ptrsOk g2.length co.fresh.length co.fresh && (sn.isEmpty || (rootsDone co.roots && rootsDone co.fresh && co.res.done))) with
     | false => rfl
     | true => simp only [cond_true]; split <;> rfl
theorem denBuiltin_nat {V : Env} {b : Builtin} {ts : Array TypeId} {dst : Nat} {args : List AV} {rs : RF} (g : R → Option R') (c : Del → Option R) : (denBuiltin V b ts dst args rs c).bind g = denBuiltin V b ts dst args rs fun x => (c x).bind g := by
 unfold denBuiltin
 split
 ·split
  ·rw [lenAV_nat]
  ·split <;> rfl
  ·rfl
 ·split
  ·cases notRow (ts[1]?.bind V.k) with
   | true => simp only [cond_true]; unfold appendMake; (repeat' split) <;> rfl
   | false =>
    simp only [cond_false]
    split
    ·rfl
    ·split
     ·rw [takeDst_nat]
      congr 1
      funext xs ma u1 k1 g1
      split
      ·split
       ·split <;> rfl
       ·rfl
      ·rw [readSl_nat]
       congr 1
       funext ys m
       split
       ·rw [cond_bind]
        congr 1
        rw [cond_bind]
        congr 1
        rw [takeSrc_nat]
        congr 1
        funext ys' mb' u2 k2 g2
        split
        ·rw [cond_bind]; rfl
        ·rfl
       ·rfl
     ·rfl
  ·rfl
 ·split <;> rfl
 ·split <;> rfl
 ·rfl
theorem cellAV_nat {rs : RF} {k : K} {v : AV} (g : R → Option R') (c : Del → Option R) : (cellAV rs k v c).bind g = cellAV rs k v fun x => (c x).bind g := by
 unfold cellAV
 split
 ·rw [cond_bind]; rfl
 ·rw [readSl_nat]
 ·rfl
theorem denOp_nat {V : Env} {o : Oper} {tm : TF} {rs : RF} (g : R → Option R') (c : Del → Option R) : (denOp V o tm rs c).bind g = denOp V o tm rs fun x => (c x).bind g := by
 unfold denOp
 dsimp only
 split
 ·rfl
 ·split
  ·rw [cond_bind]; congr 1
   split
   ·rfl
   ·rw [cond_bind]
  ·rfl
 ·split
  ·rw [cond_bind]
  ·rfl
 ·split <;> rfl
 ·split
  ·split
   ·rfl
   ·rw [absorb_nat]
  ·rfl
 ·split
  ·rw [cond_bind]; rfl
  ·rfl
 ·split
  ·split
   ·rfl
   ·rw [cond_bind]; congr 1; rw [absorbsI_nat]
  ·rfl
 ·split
  ·rfl
  ·split
   ·split
    ·rfl
    ·rw [getP_nat]; congr 1; funext k d m; split <;> rfl
   ·rw [getP_nat]; congr 1; funext k d m; split <;> rfl
   ·split
    ·rfl
    ·split
     ·rw [getP_nat]; congr 1; funext k d m; split <;> rfl
     ·split
      ·rfl
      ·split
       ·rw [getP_nat]; congr 1; funext k d m
        split
        ·rw [cond_bind]; rfl
        ·rfl
       ·rfl
   ·rfl
 ·split
  ·rfl
  ·split
   ·rw [absorb_nat]; congr 1; funext d m u e q; rw [cond_bind]; congr 1
    split
    ·rfl
    ·rw [setP_nat]
   ·rfl
 ·split <;> rfl
 ·rw [binAV_nat]
 ·rw [unAV_nat]
 ·rw [convAV_nat]
 ·split <;> rfl
 ·split
  ·split
   ·split <;> rfl
   ·rfl
  ·rfl
 ·rw [sliceAV_nat]
 ·split
  ·split
   ·rfl
   ·split <;> rfl
  ·split <;> rfl
  ·split
   ·rfl
   ·split <;> rfl
  ·rfl
 ·split
  ·rw [indexAV_nat]
  ·rfl
 ·split
  ·split
   ·split <;> rfl
   ·rfl
  ·rfl
 ·split
  ·rw [cond_bind, cellAV_nat]; rfl
  ·rfl
 ·rw [cond_bind]; rfl
 ·rw [denBuiltin_nat]
 ·unfold callee
  split
  ·rw [denCall_nat]
  ·rfl
 ·rfl
theorem denHead_nat {V : Env} {x : TypeId × RName × Nat × Nat} {rs : RF} (g : R → Option R') (c : Del → Option R) : (denHead V x rs c).bind g = denHead V x rs fun y => (c y).bind g := by
 unfold denHead
 split
 ·split
  ·rfl
  ·split
   ·rw [cond_bind]
    congr 1
    split
    ·rfl
    ·split
     ·rw [cond_bind]
      congr 1
      split <;> rfl
     ·rfl
   ·rfl
 ·rfl
theorem denOpS_nat {V : Env} {o : Oper} {tm : TF} {rs : RF} (g : R → Option R') (c : Del → Option R) : (denOpS V o tm rs c).bind g = denOpS V o tm rs fun x => (c x).bind g := by
 unfold denOpS
 split
 ·exact denHead_nat g c
 ·rw [cond_bind, denOp_nat]
  congr 1
  split
  ·rw [denOp_nat]
   congr 1
   funext x
   split <;> rfl
  ·rfl
noncomputable def denD0 (V : Env) (o : Oper) (tm : TF) (rs : RF) : Option Del := denOp V o tm rs some
theorem denOp_denD0 {V : Env} {o : Oper} {tm : TF} {rs : RF} (c : Del → Option R) : denOp V o tm rs c = (denD0 V o tm rs).bind c := (denOp_nat c some).symm
theorem denOp_note {V : Env} {o : Oper} {tm : TF} {rs : RF} {x : Del} : (denOp V o tm rs fun x => match lookU pendR x.u with
  | none => some x
  | some _ => none) = some x ↔ denD0 V o tm rs = some x ∧ lookU pendR x.u = none := by
 rw [denOp_denD0, Option.bind_eq_some_iff]
 constructor
 ·rintro ⟨y, h1, h2⟩
  split at h2
  ·rename_i h3; cases h2; exact ⟨h1, h3⟩
  ·cases h2
 ·rintro ⟨h1, h2⟩
  exact ⟨x, h1, by rw [h2]⟩
noncomputable def denD (V : Env) (o : Oper) (tm : TF) (rs : RF) : Option Del := denOpS V o tm rs some
theorem denOp_denD {V : Env} {o : Oper} {tm : TF} {rs : RF} (c : Del → Option R) : denOpS V o tm rs c = (denD V o tm rs).bind c := (denOpS_nat c some).symm
end
end Go.Abs

namespace Go.Abs
section
variable {R : Type} {rs rs' : RF}
theorem look_congr {u : U} {q : RName} (h : rs' q = rs q) : look rs' u q = look rs u q := by
 unfold look; rw [h]
theorem wholeAt_names : ∀ (a : AV) (p : Path) {r0 : RName}, wholeAt a p = some r0 → r0 ∈ a.names := by
 intro a
 induction a with
 | ref q p' =>
  intro p r0 h
  simp only [wholeAt] at h
  split at h
  ·cases h; simp [AV.names]
  ·cases h
 | pair a b iha ihb =>
  intro p r0 h
  simp only [wholeAt] at h
  split at h
  ·rename_i r1 h1
   cases h
   simp [AV.names, iha _ h1]
  ·simp [AV.names, ihb _ h]
 | _ => intro p r0 h; simp [wholeAt] at h
theorem absorb_congr : ∀ (av : AV) {k : K} {u : U} (_ : ∀ q ∈ av.names, rs' q = rs q) (c : k.den → Mask → U → List RName → List RName → Option R), absorb rs' av k u c = absorb rs av k u c := by
 intro av
 induction av with
 | pair a b iha ihb =>
  intro k u h c
  cases k <;> first | rfl | skip
  simp only [absorb]
  split
  ·rename_i r0 h0
   rw [look_congr (u := u) (h r0 (wholeAt_names _ _ h0))]
  ·rw [iha (fun q hq => h q (by simp [AV.names, hq]))]
   congr 1
   funext d m u1 e1 q1
   rw [ihb (fun q hq => h q (by simp [AV.names, hq]))]
 | ref q p =>
  intro k u h c
  have hq := look_congr (u := u) (h q (by simp [AV.names]))
  cases p with
  | nil => cases k <;> simp only [absorb, hq]
  | cons => cases k <;> rfl
 | slc q p lo n =>
  intro k u h c
  have hq := look_congr (u := u) (h q (by simp [AV.names]))
  cases p with
  | nil => cases k <;> first | rfl | simp only [absorb, hq]
  | cons => cases k <;> rfl
 | ptr q p => intro k u h c; cases p <;> cases k <;> rfl
 | _ => intro k u h c; cases k <;> rfl
theorem namesAll_mem {q : RName} : ∀ {l : List AV} {a : AV}, a ∈ l → q ∈ a.names → q ∈ namesAll l := by
 intro l
 induction l with
 | nil => intro a h; cases h
 | cons x l ih =>
  intro a h hq
  simp only [namesAll, List.mem_append]
  rcases List.mem_cons.1 h with rfl | h
  ·exact .inl hq
  ·exact .inr (ih h hq)
theorem absorbs_congr {e : K} : ∀ (l : List AV) {u : U} {m : Option Mask} (_ : ∀ q ∈ namesAll l, rs' q = rs q) (c : List e.den → Option Mask → U → List RName → List RName → Option R), absorbs rs' e l u m c = absorbs rs e l u m c := by
 intro l
 induction l with
 | nil => intro u m _ c; rfl
 | cons a l ih =>
  intro u m h c
  simp only [absorbs]
  rw [absorb_congr a (fun q hq => h q (by simp [namesAll, hq]))]
  congr 1
  funext d ma u1 e1 q1
  cases m with
  | none => simp only; rw [ih (fun q hq => h q (by simp [namesAll, hq]))]
  | some m0 =>
   simp only
   split
   ·rw [ih (fun q hq => h q (by simp [namesAll, hq]))]
   ·rfl
theorem absorbsI_congr {e : K} (l : List AV) (h : ∀ q ∈ namesAll l, rs' q = rs q) (c : List e.den → Option Mask → U → List RName → List RName → Option R) : absorbsI rs' e l c = absorbsI rs e l c := by
 unfold absorbsI
 split
 ·rfl
 ·exact absorbs_congr l h c
theorem readSl_congr {u : U} {e : K} {av : AV} (h : ∀ q ∈ av.names, rs' q = rs q) (c : List e.den → Mask → Option R) : readSl rs' u e av c = readSl rs u e av c := by
 cases av <;> first | rfl | skip
 ·rename_i q p
  simp only [readSl, look_congr (u := u) (h q (by simp [AV.names]))]
 ·rename_i q p lo n
  simp only [readSl, look_congr (u := u) (h q (by simp [AV.names]))]
theorem takeDst_congr' {u : U} {k : K} {av : AV} (h : ∀ q ∈ av.names, rs' q = rs q) (c : List k.den → Mask → U → List Kill → List RName → Option R) : takeDst rs' k u av c = takeDst rs k u av c := by
 cases av with
 | ref q p => simp only [takeDst, look_congr (u := u) (h q (by simp [AV.names]))]
 | slc q p lo n =>
  cases p with
  | nil => simp only [takeDst, look_congr (u := u) (h q (by simp [AV.names]))]
  | cons => rfl
 | _ => rfl
theorem takeSrc_congr {u : U} {k : K} {av : AV} (h : ∀ q ∈ av.names, rs' q = rs q) (c : List k.den → Mask → U → List Kill → List RName → Option R) : takeSrc rs' k u av c = takeSrc rs k u av c := by
 cases av with
 | imm z k d => rfl
 | _ => simp only [takeSrc]; exact takeDst_congr' h c
theorem lenAV_congr {e : K} {a : AV} (h : ∀ q ∈ a.names, rs' q = rs q) (c : Nat → Option R) : lenAV rs' e a c = lenAV rs e a c := by
 cases a with
 | slc q p lo n => simp only [lenAV, h q (by simp [AV.names])]
 | _ => simp only [lenAV]; exact readSl_congr h _
theorem indexAV_congr {e : K} {a : AV} {i : Int} (h : ∀ q ∈ a.names, rs' q = rs q) (c : AV → Option R) : indexAV rs' e a i c = indexAV rs e a i c := by
 cases a with
 | ref q p => simp only [indexAV]; exact readSl_congr (av := .ref q p) (by simpa [AV.names] using h) _
 | slc q p lo n => simp only [indexAV]; exact readSl_congr (av := .ref q p) (by simpa [AV.names] using h) _
 | _ => rfl
theorem argOf_congr {rw : Bool} : ∀ (av : AV) {kind : Option K} {sn : List RName} {g : Reg} (_ : ∀ q ∈ av.names, rs' q = rs q) (c : AV → List RName → Reg → Option R), argOf rs' rw kind av sn g c = argOf rs rw kind av sn g c := by
 intro av
 induction av with
 | pair a b iha ihb =>
  intro kind sn g h c
  simp only [argOf]
  rw [iha (fun q hq => h q (by simp [AV.names, hq]))]
  congr 1
  funext d m u1
  rw [ihb (fun q hq => h q (by simp [AV.names, hq]))]
 | ref q p => intro kind sn g h c; simp only [argOf, h q (by simp [AV.names])]
 | slc q p lo n => intro kind sn g h c; simp only [argOf, h q (by simp [AV.names])]
 | ptr q p => intro kind sn g h c; cases p <;> simp only [argOf, h q (by simp [AV.names])]
 | _ => intro kind sn g h c; rfl
theorem argsOf_congr {rw : List Nat} : ∀ (l : List AV) {kinds : List (Option K)} {i : Nat} {sn : List RName} {g : Reg} (_ : ∀ q ∈ namesAll l, rs' q = rs q) (c : List AV → List RName → Reg → Option R), argsOf rs' rw kinds i l sn g c = argsOf rs rw kinds i l sn g c := by
 intro l
 induction l with
 | nil => intro kinds i sn g h c; rfl
 | cons a l ih =>
  intro kinds i sn g h c
  simp only [argsOf]
  rw [argOf_congr a (fun q hq => h q (by simp [namesAll, hq]))]
  congr 1
  funext d m u1
  rw [ih (fun q hq => h q (by simp [namesAll, hq]))]
theorem closeReg_congr : ∀ (n i : Nat) {g g' : Reg}, closeReg rs n i g = some g' → (∀ q ∈ g', rs' q = rs q) → closeReg rs' n i g = some g' := by
 intro n
 induction n with
 | zero => intro i g g' h; simp [closeReg] at h
 | succ n ih =>
  intro i g g' h hg
  simp only [closeReg] at h ⊢
  split at h
  ·simpa using h
  ·rename_i q hq
   have hmem : q ∈ g' := by
    have key : ∀ {n i : Nat} {g g' : Reg}, closeReg rs n i g = some g' → ∀ p ∈ g, p ∈ g' := by
     intro n i g g' h p hp
     obtain ⟨⟨t, rfl⟩, _⟩ := closeReg_spec n i h
     simp [hp]
    split at h
    ·simp at h
    ·rename_i x hx
     cases hp : x.k.plain with
     | true => rw [hp] at h; exact key h q (List.mem_of_getElem? hq)
     | false =>
      rw [hp] at h
      simp only [cond_false] at h
      generalize hps : Reg.puts (ptrsOf x.k x.d) g = pr at h
      obtain ⟨l, g2⟩ := pr
      obtain ⟨⟨t, rfl⟩, _⟩ := puts_spec _ hps
      exact key h q (by simp [List.mem_of_getElem? hq])
   rw [hg q hmem]
   split at h
   ·simp at h
   ·rename_i x hx
    cases hp : x.k.plain with
    | true => rw [hp] at h; exact ih _ h hg
    | false => rw [hp] at h; exact ih _ h hg
theorem closedReg_congr {g : Reg} : ∀ (l : List RName), (∀ q ∈ l, rs' q = rs q) → closedReg rs' g l = closedReg rs g l := by
 intro l
 induction l with
 | nil => intro _; rfl
 | cons q l ih => intro h; simp only [closedReg, h q (by simp), ih (fun q hq => h q (by simp [hq]))]
theorem rootsFor_congr {g : Reg} : ∀ (l : List RName), (∀ q ∈ l, rs' q = rs q) → rootsFor rs' g l = rootsFor rs g l := by
 intro l
 induction l with
 | nil => intro _; rfl
 | cons q l ih => intro h; simp only [rootsFor, h q (by simp), ih (fun q hq => h q (by simp [hq]))]
theorem rootsBack_congr {g : Reg} {dst : Nat} : ∀ (l : List RName) (ys : List Root), (∀ q ∈ l, rs' q = rs q) → rootsBack rs' g dst l ys = rootsBack rs g dst l ys := by
 intro l
 induction l with
 | nil => intro ys _; cases ys <;> rfl
 | cons q l ih =>
  intro ys h
  cases ys with
  | nil => rfl
  | cons y ys => simp only [rootsBack, h q (by simp), ih ys (fun q hq => h q (by simp [hq]))]
theorem regKills_congr : ∀ (l : List RName), (∀ q ∈ l, rs' q = rs q) → regKills rs' l = regKills rs l := by
 intro l
 induction l with
 | nil => intro _; rfl
 | cons q l ih => intro h; simp only [regKills, h q (by simp), ih (fun q hq => h q (by simp [hq]))]
theorem callKills_congr {sf : Bool} {args : List AV} {l : List RName} (h : ∀ q ∈ l, rs' q = rs q) : callKills sf rs' args l = callKills sf rs args l := by
 unfold callKills softKills
 rw [regKills_congr l h]
theorem argsOf_pack {rw : List Nat} {l : List AV} {kinds : List (Option K)} {i : Nat} {sn : List RName} {g : Reg} (c : List AV → List RName → Reg → Option R) :
  argsOf rs rw kinds i l sn g c = (argsOf rs rw kinds i l sn g fun a s r => some (a, s, r)).bind fun t => c t.1 t.2.1 t.2.2 :=
 (argsOf_nat (fun t : List AV × List RName × Reg => c t.1 t.2.1 t.2.2) l fun a s r => some (a, s, r)).symm
theorem denCall_congr {V : Env} {f : Nat} {args : List AV} {kinds : List (Option K)} {dst : Nat} {x : Del} (h : denCall V f args kinds dst rs some = some x) (ha : ∀ q ∈ namesAll args, rs' q = rs q) (hw : ∀ q ∈ x.wr, rs' q = rs q) :
  denCall V f args kinds dst rs' some = some x := by
 unfold denCall at h ⊢
 split at h
 ·simp at h
 ·rename_i q hq
  rw [argsOf_congr (rs := rs) args ha]
  rw [argsOf_pack] at h ⊢
  cases hp : (argsOf rs q.rw kinds 0 args [] [] fun a s r => some (a, s, r)) with
  | none => rw [hp] at h; simp at h
  | some t =>
   rw [hp] at h
   simp only [Option.bind_some] at h ⊢
   obtain ⟨args', sn, g0⟩ := t
   simp only at h ⊢
   split at h
   ·simp at h
   ·rename_i g hg
    have hgw : ∀ p ∈ g, rs' p = rs p := by
     cases hc : (anyR sn g || !closedReg rs g g || anySlot (dst + 2) g || !Nat.blt g.length 1000000) with
     | true => rw [hc] at h; simp at h
     | false =>
      rw [hc] at h
      simp only [cond_false] at h
      split at h
      ·simp at h
      ·obtain ⟨co, _, h⟩ := Tre.run_some h
       ·cases hc2 : (ptrsOk g.length co.fresh.length co.roots && ptrsOk g.length co.fresh.length co.fresh && (sn.isEmpty || (rootsDone co.roots && rootsDone co.fresh && co.res.done))) with
        | false => rw [hc2] at h; simp at h
        | true =>
         rw [hc2] at h
         simp only [cond_true] at h
         split at h
         ·simp at h
         ·simp only [Option.some.injEq] at h
          subst h
          exact hw
    rw [closeReg_congr 24 0 hg hgw]
    simp only
    rw [closedReg_congr g hgw, rootsFor_congr g hgw, callKills_congr hgw]
    rw [← h]
    congr 1
    split
    ·rfl
    ·congr 1
     funext co
     rw [rootsBack_congr g _ hgw]
theorem namesAll_append : ∀ (l l' : List AV), namesAll (l ++ l') = namesAll l ++ namesAll l' := by
 intro l l'
 induction l with
 | nil => rfl
 | cons a l ih => simp only [List.cons_append, namesAll, ih, List.append_assoc]
theorem namesAll_ptrs : ∀ (l : List RName), namesAll (ptrs l) = l := by
 intro l
 induction l with
 | nil => rfl
 | cons a l ih => simp only [ptrs, namesAll, AV.names, ih, List.cons_append, List.nil_append]
theorem sliceAV_congr {V : Env} {t : Nat} {a : AV} {lo hi mx : Option AV} (h : ∀ q ∈ a.names, rs' q = rs q) (c : AV → Option R) : sliceAV V t rs' a lo hi mx c = sliceAV V t rs a lo hi mx c := by
 unfold sliceAV
 split
 ·split
  ·split
   ·rw [readSl_congr h]
   ·rfl
  ·split
   ·rw [readSl_congr h]
   ·rfl
  ·rfl
 ·rfl
 ·split
  ·rfl
  ·split
   ·rfl
   ·rfl
   ·rw [readSl_congr h]
   ·rename_i q p lo0 n
    rw [readSl_congr (av := .ref q p) (by simpa [AV.names] using h)]
   ·rfl
  ·rfl
theorem cellAV_congr {k : K} {v : AV} (h : ∀ q ∈ v.names, rs' q = rs q) (c : Del → Option R) : cellAV rs' k v c = cellAV rs k v c := by
 unfold cellAV
 split
 ·rfl
 ·exact readSl_congr h _
 ·rfl
theorem fieldAV_names : ∀ (n : Nat) (a : AV) {x : AV × Nat}, fieldAV a n = some x → ∀ q ∈ x.1.names, q ∈ a.names := by
 intro n
 induction n with
 | zero =>
  intro a x h q hq
  cases a with
  | pair a b => simp only [fieldAV, Option.some.injEq] at h; subst h; simp [AV.names, hq]
  | imm z k d => cases k <;> simp only [fieldAV, Option.some.injEq] at h <;> first | (simp at h; done) | (subst h; simp [AV.names] at hq)
  | _ => simp [fieldAV] at h
 | succ n ih =>
  intro a x h q hq
  cases a with
  | pair a b =>
   simp only [fieldAV] at h
   split at h
   ·rename_i h1 h2
    simp only [Option.some.injEq] at h; subst h
    have := ih b h2 q hq
    simp [AV.names, this]
   ·simp at h
  | imm z k d =>
   cases k <;> simp only [fieldAV] at h <;> first | (simp at h; done) | skip
   split at h
   ·rename_i h1
    simp only [Option.some.injEq] at h; subst h
    have := ih _ h1 q hq
    simp [AV.names] at this
   ·simp at h
  | _ => simp [fieldAV] at h
theorem denBuiltin_congr {V : Env} {b : Builtin} {ts : Array TypeId} {dst : Nat} {args : List AV} (h : ∀ q ∈ namesAll args, rs' q = rs q) (c : Del → Option R) : denBuiltin V b ts dst args rs' c = denBuiltin V b ts dst args rs c := by
 unfold denBuiltin
 split
 ·split
  ·rw [lenAV_congr (by simpa [namesAll] using h)]
  ·rfl
  ·rfl
 ·rename_i a x
  have ha : ∀ q ∈ a.names, rs' q = rs q := fun q hq => h q (by simp [namesAll, hq])
  have hx : ∀ q ∈ x.names, rs' q = rs q := fun q hq => h q (by simp [namesAll, hq])
  split
  ·congr 1
   split
   ·rfl
   ·split
    ·rw [takeDst_congr' ha]
     congr 1
     funext xs ma u1 k1 g1
     split
     ·rfl
     ·rw [readSl_congr hx]
      congr 1
      funext ys m
      split
      ·congr 1
       congr 1
       rw [takeSrc_congr hx]
      ·rfl
    ·rfl
  ·rfl
 ·rfl
 ·rfl
 ·rfl
theorem mem_namesAll : ∀ {l : List AV} {a : AV} {q : RName}, a ∈ l → q ∈ a.names → q ∈ namesAll l := by
 intro l
 induction l with
 | nil => intro a q h; cases h
 | cons b l ih =>
  intro a q h hq
  simp only [namesAll, List.mem_append]
  rcases List.mem_cons.1 h with rfl | h
  ·exact .inl hq
  ·exact .inr (ih h hq)
theorem roAV_congr {a : AV} (h : ∀ q ∈ a.names, rs' q = rs q) : roAV rs' a = roAV rs a := by
 cases a with
 | ref q p =>
  cases p with
  | nil => simp only [roAV, h q (by simp [AV.names])]
  | cons _ _ => rfl
 | _ => rfl
theorem denD0_congr {V : Env} {o : Oper} {tm tm' : TF} {x : Del} (h : denD0 V o tm rs = some x) (ht : operAVs tm' o = operAVs tm o) (hr : ∀ q ∈ namesAll (operAVs tm o), rs' q = rs q) (hw : ∀ q ∈ x.wr, rs' q = rs q) :
  denD0 V o tm' rs' = some x := by
 unfold denD0 at h ⊢
 cases ho : o.op with
 | move a =>
  simp only [operAVs, ho, Op.operands, List.map_cons, List.map_nil, List.cons.injEq, and_true] at ht
  simp only [denOp, ho, ht] at h ⊢; exact h
 | assign a =>
  simp only [operAVs, ho, Op.operands, List.map_cons, List.map_nil, List.cons.injEq, and_true, namesAll, List.append_nil] at ht hr
  simp only [denOp, ho, ht] at h ⊢
  split at h
  ·rename_i d j hev
   rw [hev] at hr
   rw [hr (d + 2, j) (by simp [AV.names])]
   exact h
  ·exact h
 | pick a b c =>
  simp only [operAVs, ho, Op.operands, List.map_cons, List.map_nil, List.cons.injEq, and_true] at ht
  simp only [denOp, ho, ht.1, ht.2.1, ht.2.2] at h ⊢; exact h
 | alloc t => simp only [denOp, ho] at h ⊢; exact h
 | box t a =>
  simp only [operAVs, ho, Op.operands, List.map_cons, List.map_nil, List.cons.injEq, and_true, namesAll, List.append_nil] at ht hr
  simp only [denOp, ho, ht] at h ⊢
  split at h
  ·split at h
   ·exact h
   ·rw [absorb_congr _ hr]; exact h
  ·simp at h
 | load t a =>
  simp only [operAVs, ho, Op.operands, List.map_cons, List.map_nil, List.cons.injEq, and_true, namesAll, List.append_nil] at ht hr
  simp only [denOp, ho, ht] at h ⊢
  split at h
  ·simp at h
  ·split at h
   ·rename_i q p hev
    rw [hev] at hr
    rw [hr q (by simp [AV.names])]
    exact h
   ·exact h
   ·rename_i q p L hev
    rw [hev] at hr
    rw [hr q (by simp [AV.names])]
    split at h
    ·simp at h
    ·split at h
     ·exact h
     ·rw [hr _ (by simp only [AV.names]; exact List.mem_cons_of_mem _ (List.mem_map.2 ⟨_, .head _, rfl⟩))]
      exact h
   ·simp at h
 | store t a b =>
  simp only [operAVs, ho, Op.operands, List.map_cons, List.map_nil, List.cons.injEq, and_true, namesAll, List.append_nil] at ht hr
  simp only [denOp, ho, ht.1, ht.2] at h ⊢
  split at h
  ·simp at h
  ·split at h
   ·rename_i q p hev
    rw [hev] at hr
    rw [absorb_congr _ (fun q hq => hr q (by simp [hq]))]
    simp only [look_congr (hr q (by simp [AV.names]))]
    exact h
   ·simp at h
 | nilCheck a =>
  simp only [operAVs, ho, Op.operands, List.map_cons, List.map_nil, List.cons.injEq, and_true] at ht
  simp only [denOp, ho, ht] at h ⊢; exact h
 | binOp op t a b ty =>
  simp only [operAVs, ho, Op.operands, List.map_cons, List.map_nil, List.cons.injEq, and_true] at ht
  simp only [denOp, ho, ht.1, ht.2] at h ⊢; exact h
 | unOp op t a =>
  simp only [operAVs, ho, Op.operands, List.map_cons, List.map_nil, List.cons.injEq, and_true] at ht
  simp only [denOp, ho, ht] at h ⊢; exact h
 | convert t1 t2 a =>
  simp only [operAVs, ho, Op.operands, List.map_cons, List.map_nil, List.cons.injEq, and_true] at ht
  simp only [denOp, ho, ht] at h ⊢; exact h
 | extract a i =>
  simp only [operAVs, ho, Op.operands, List.map_cons, List.map_nil, List.cons.injEq, and_true] at ht
  simp only [denOp, ho, ht] at h ⊢; exact h
 | field t a f =>
  simp only [operAVs, ho, Op.operands, List.map_cons, List.map_nil, List.cons.injEq, and_true, namesAll, List.append_nil] at ht hr
  simp only [denOp, ho, ht] at h ⊢
  split at h
  ·rename_i k v e1 e2
   rw [cellAV_congr (fun q hq => hr q (fieldAV_names _ _ e2 q hq))]; exact h
  ·simp at h
 | fieldAddr t a f =>
  simp only [operAVs, ho, Op.operands, List.map_cons, List.map_nil, List.cons.injEq, and_true, namesAll, List.append_nil] at ht hr
  simp only [denOp, ho, ht] at h ⊢
  split at h
  ·rename_i k q p _ hev
   rw [hev] at hr
   rw [hr q (by simp [AV.names])]
   exact h
  ·exact h
  ·rename_i k q p L _ hev
   rw [hev] at hr
   rw [hr q (by simp [AV.names])]
   exact h
  ·simp at h
 | indexAddr t a i =>
  simp only [operAVs, ho, Op.operands, List.map_cons, List.map_nil, List.cons.injEq, and_true, namesAll, List.append_nil] at ht hr
  simp only [denOp, ho, ht.1, ht.2] at h ⊢
  split at h
  ·rw [indexAV_congr (fun q hq => hr q (by simp [hq]))]; exact h
  ·simp at h
 | index t a i =>
  simp only [operAVs, ho, Op.operands, List.map_cons, List.map_nil, List.cons.injEq, and_true] at ht
  simp only [denOp, ho, ht.1, ht.2] at h ⊢; exact h
 | makeSlice t l cp =>
  simp only [operAVs, ho, Op.operands, List.map_cons, List.map_nil, List.cons.injEq, and_true] at ht
  simp only [denOp, ho, ht.1, ht.2] at h ⊢; exact h
 | build t ps =>
  simp only [operAVs, ho, Op.operands, List.map_map] at ht hr
  have he : ∀ y ∈ ps.toList, evalAV tm' y.2 = evalAV tm y.2 := fun y hy => by simpa using List.map_inj_left.1 ht y hy
  have h1 : (ps.toList.map fun y => (y.1, roAV rs' (evalAV tm' y.2))) = ps.toList.map fun y => (y.1, roAV rs (evalAV tm y.2)) := List.map_congr_left fun y hy => by
   rw [he y hy]
   exact congrArg (Prod.mk y.1) (roAV_congr (a := evalAV tm y.2) fun q hq => hr q (mem_namesAll (List.mem_map.2 ⟨y, hy, rfl⟩) hq))
  have h2 : (ps.toList.map fun y => evalAV tm' y.2) = ps.toList.map fun y => evalAV tm y.2 := List.map_congr_left fun y hy => by rw [he y hy]
  simp only [denOp, ho, h1, h2] at h ⊢; exact h
 | buildSlice t k ps =>
  simp only [operAVs, ho, Op.operands, List.map_map] at ht hr
  have he : ∀ y ∈ ps.toList, evalAV tm' y.2 = evalAV tm y.2 := fun y hy => by simpa using List.map_inj_left.1 ht y hy
  have h2 : (ps.toList.map fun y => evalAV tm' y.2) = ps.toList.map fun y => evalAV tm y.2 := List.map_congr_left fun y hy => by rw [he y hy]
  simp only [denOp, ho, h2] at h ⊢
  split at h
  ·split at h
   ·simp at h
   ·rw [absorbsI_congr _ (by simpa [Function.comp_def] using hr)]; exact h
  ·simp at h
 | makeFunc f f1 cs =>
  simp only [operAVs, ho, Op.operands, Array.toList_append, List.map_append] at ht
  have hlen : (f1.toList.map (evalAV tm')).length = (f1.toList.map (evalAV tm)).length := by simp
  have h2 := (List.append_inj ht hlen).2
  cases f <;> simp only [denOp, ho, h2] at h ⊢ <;> exact h
 | slice t a lo hi mx =>
  simp only [operAVs, ho, Op.operands] at ht hr
  have key : evalAV tm' a = evalAV tm a ∧ lo.map (evalAV tm') = lo.map (evalAV tm) ∧ hi.map (evalAV tm') = hi.map (evalAV tm) ∧ mx.map (evalAV tm') = mx.map (evalAV tm) := by
   cases lo <;> cases hi <;> cases mx <;> simp at ht ⊢ <;> simp [ht]
  simp only [denOp, ho, key.1, key.2.1, key.2.2.1, key.2.2.2] at h ⊢
  rw [sliceAV_congr (fun q hq => hr q (by simp [namesAll, hq]))]; exact h
 | call cl =>
  obtain ⟨cal, args, ts⟩ := cl
  cases cal with
  | invoke _ _ => simp [denOp, ho] at h
  | value f =>
   simp only [operAVs, ho, Op.operands, Call.operands, Array.toList_append, List.map_append, List.map_cons, List.map_nil, List.cons_append, List.nil_append, List.cons.injEq, namesAll] at ht hr
   simp only [denOp, ho, callee, ht.1, ht.2] at h ⊢
   split at h
   ·rename_i fid caps hev
    rw [hev] at hr
    refine denCall_congr h (fun q hq => ?_) hw
    rw [namesAll_append] at hq
    rcases List.mem_append.1 hq with hq | hq
    ·exact hr q (by simp [hq])
    ·rw [namesAll_ptrs] at hq; exact hr q (by simp [AV.names, hq])
   ·simp at h
  | builtin b =>
   simp only [operAVs, ho, Op.operands, Call.operands, Array.toList_append, List.map_append, List.map_nil, List.nil_append] at ht hr
   simp only [denOp, ho, ht] at h ⊢
   rw [denBuiltin_congr hr]; exact h
 | _ => simp [denOp, ho] at h
theorem headStore_congr {o : Oper} {tm tm' : TF} (ht : operAVs tm' o = operAVs tm o) : headStore o tm' = headStore o tm := by
 unfold headStore
 cases ho : o.op with
 | store t a x =>
  simp only [operAVs, ho, Op.operands, List.map_cons, List.map_nil, List.cons.injEq, and_true] at ht
  simp only [ht.1, ht.2]
 | _ => rfl
theorem denHead_congr {R : Type} {V : Env} {x : TypeId × RName × Nat × Nat} (h1 : rs' x.2.1 = rs x.2.1) (h2 : rs' pendR = rs pendR) (c : Del → Option R) : denHead V x rs' c = denHead V x rs c := by
 unfold denHead
 rw [h1, h2]
theorem denD_congr {V : Env} {o : Oper} {tm tm' : TF} {x : Del} (h : denD V o tm rs = some x) (ht : operAVs tm' o = operAVs tm o) (hr : ∀ q ∈ namesAll (operAVs tm o), rs' q = rs q) (hw : ∀ q ∈ x.wr, rs' q = rs q) (hp : rs' pendR = rs pendR) :
  denD V o tm' rs' = some x := by
 unfold denD denOpS at h ⊢
 rw [headStore_congr ht]
 split at h
 ·rename_i y hy
  obtain ⟨a, b, ho, e1, e2⟩ := headStore_mem hy
  rw [denHead_congr (hr _ ?_) hp]; exact h
  refine namesAll_mem (a := evalAV tm a) ?_ (by rw [e1]; simp [AV.names])
  simp [operAVs, ho, Op.operands]
 ·cases hc : calmOp o with
  | true => rw [hc, cond_true] at h; exact denD0_congr h ht hr hw
  | false =>
   rw [hc, cond_false] at h
   rw [cond_false, hp]
   split at h
   ·have h := denOp_note.1 h
    exact denOp_note.2 ⟨denD0_congr h.1 ht hr hw, h.2⟩
   ·simp at h
end
end Go.Abs

namespace Go.Abs
section
def Touch (d : Option Nat) (x : Del) (q : RName) : Prop := q ∈ x.wr ∨ (x.make = true ∧ q.1 = d.getD 0 + 2)
structure DelOK (d : Option Nat) (x : Del) : Prop where
 ren : x.ren = none
 keys : ∀ q, lookU q x.u ≠ none → Touch d x q
 kills : ∀ av : AV, av.isLeaf = true → hit (killList (d.getD 0) x) av = true → ∃ q ∈ av.names, Touch d x q
theorem kills_two (k1 k2 : List Kill) (a : AV) (h : a.isLeaf = true) : AV.kills k1 (AV.kills k2 a) = bif hit k1 a || hit k2 a then .dead else a := by
 rw [kills_leaf k2 a h]
 cases h2 : hit k2 a with
 | true => simp only [cond_true, Bool.or_true]; exact kills_dead k1
 | false => simp only [cond_false, Bool.or_false]; exact kills_leaf k1 a h
theorem kills_comm (k1 k2 : List Kill) : ∀ (a : AV), AV.kills k1 (AV.kills k2 a) = AV.kills k2 (AV.kills k1 a) := by
 intro a
 induction a with
 | pair a b iha ihb => simp only [kills_pair, iha, ihb]
 | tcons a b iha ihb => simp only [kills_tcons, iha, ihb]
 | _ => rw [kills_two _ _ _ rfl, kills_two _ _ _ rfl, Bool.or_comm]
theorem kills_id {d : Option Nat} {x : Del} (hx : DelOK d x) : ∀ (a : AV), (∀ q ∈ a.names, ¬ Touch d x q) → AV.kills (killList (d.getD 0) x) a = a := by
 intro a
 induction a with
 | pair a b iha ihb => intro h; rw [kills_pair, iha (fun q hq => h q (by simp [AV.names, hq])), ihb (fun q hq => h q (by simp [AV.names, hq]))]
 | tcons a b iha ihb => intro h; rw [kills_tcons, iha (fun q hq => h q (by simp [AV.names, hq])), ihb (fun q hq => h q (by simp [AV.names, hq]))]
 | _ =>
  intro h
  rw [kills_leaf _ _ rfl]
  cases hh : hit (killList (d.getD 0) x) _ with
  | false => rfl
  | true =>
   obtain ⟨q, hq, ht⟩ := hx.kills _ rfl hh
   exact absurd ht (h q hq)
theorem kills_alive (ks : List Kill) : ∀ (a : AV), (AV.kills ks a).alive = true → AV.kills ks a = a := by
 intro a
 induction a with
 | pair a b iha ihb => intro h; rw [kills_pair] at h ⊢; simp only [AV.alive, Bool.and_eq_true] at h; rw [iha h.1, ihb h.2]
 | tcons a b iha ihb => intro h; rw [kills_tcons] at h ⊢; simp only [AV.alive, Bool.and_eq_true] at h; rw [iha h.1, ihb h.2]
 | _ =>
  intro h
  rw [kills_leaf _ _ rfl] at h ⊢
  cases hh : hit ks _ with
  | false => rfl
  | true => rw [hh] at h; cases h
theorem St.ext' {s s' : St} (h1 : ∀ t, s.tmps t = s'.tmps t) (h2 : ∀ q, s.roots q = s'.roots q) (h3 : ∀ n, s.pins n = s'.pins n) : s = s' := by
 cases s; cases s'
 simp only [St.mk.injEq]
 exact ⟨funext h1, funext h2, funext h3⟩
theorem after_comm {s : St} {di dj : Option Nat} {xi xj : Del} (hi : DelOK di xi) (hj : DelOK dj xj) (hd : ∀ a, di = some a → dj ≠ some a)
  (hvi : ∀ q ∈ xi.v.names, ¬ Touch dj xj q) (hvj : ∀ q ∈ xj.v.names, ¬ Touch di xi q) (ht : ∀ q, Touch di xi q → ¬ Touch dj xj q) :
  (s.after di xi).after dj xj = (s.after dj xj).after di xi := by
 have hki := kills_id hi
 have hkj := kills_id hj
 refine St.ext' (fun t => ?_) (fun q => ?_) (fun n => ?_)
 ·simp only [St.after, hi.ren, hj.ren, renAV]
  cases di with
  | none =>
   cases dj with
   | none => exact kills_comm _ _ _
   | some b =>
    by_cases hb : t = b
    ·simp only [beq_iff.2 hb, cond_true, cond_false]; exact (hki _ hvj).symm
    ·simp only [beq_ne hb, cond_false]; exact kills_comm _ _ _
  | some a =>
   cases dj with
   | none =>
    by_cases ha : t = a
    ·simp only [beq_iff.2 ha, cond_true, cond_false]; exact hkj _ hvi
    ·simp only [beq_ne ha, cond_false]; exact kills_comm _ _ _
   | some b =>
    by_cases ha : t = a
    ·have hb : t ≠ b := by rintro rfl; exact hd a rfl (by rw [ha])
     simp only [beq_iff.2 ha, beq_ne hb, cond_true, cond_false]; exact hkj _ hvi
    ·by_cases hb : t = b
     ·simp only [beq_iff.2 hb, beq_ne ha, cond_true, cond_false]; exact (hki _ hvj).symm
     ·simp only [beq_ne ha, beq_ne hb, cond_false]; exact kills_comm _ _ _
 ·simp only [St.after]
  have hmi : (xi.make && Nat.beq q.1 (di.getD 0 + 2)) = true → Touch di xi q := by
   intro h; simp only [Bool.and_eq_true] at h; exact .inr ⟨h.1, beq_iff.1 h.2⟩
  have hmj : (xj.make && Nat.beq q.1 (dj.getD 0 + 2)) = true → Touch dj xj q := by
   intro h; simp only [Bool.and_eq_true] at h; exact .inr ⟨h.1, beq_iff.1 h.2⟩
  have ki := hi.keys q
  have kj := hj.keys q
  cases h1 : lookU q xi.u with
  | some y =>
   have t1 := ki (by rw [h1]; simp)
   cases h2 : lookU q xj.u with
   | some z => exact absurd (kj (by rw [h2]; simp)) (ht q t1)
   | none =>
    cases h3 : (xj.make && Nat.beq q.1 (dj.getD 0 + 2)) with
    | true => exact absurd (hmj h3) (ht q t1)
    | false => rfl
  | none =>
   cases h2 : lookU q xj.u with
   | some z =>
    have t2 := kj (by rw [h2]; simp)
    cases h3 : (xi.make && Nat.beq q.1 (di.getD 0 + 2)) with
    | true => exact absurd t2 (ht q (hmi h3))
    | false => rfl
   | none =>
    simp only
    cases (xi.make && Nat.beq q.1 (di.getD 0 + 2)) <;> cases (xj.make && Nat.beq q.1 (dj.getD 0 + 2)) <;> rfl
 ·simp only [St.after]
  rw [Bool.or_assoc, Bool.or_assoc]
  congr 1
  exact Bool.or_comm _ _
end
end Go.Abs

namespace Go.Abs
section
variable {R : Type} {r : R} {rs : RF}
theorem hits_vw_some {x : Kill} {r : RName} {p : Path} {L : List (Path × Nat × Path)} (h : x.hits (.vw r p L) = true) : ∃ b : AV, b.isVw = false ∧ x.hits b = true ∧ ∀ q ∈ b.names, q ∈ (AV.vw r p L).names := by
 rw [hits_vw, Bool.or_eq_true, List.any_eq_true] at h
 rcases h with h | ⟨e, he, h⟩
 ·exact ⟨_, rfl, h, fun q hq => by simp only [AV.names, List.mem_singleton] at hq; rw [hq]; simp [AV.names]⟩
 ·rw [Bool.or_eq_true] at h
  rcases h with h | h
  ·exact ⟨_, rfl, h, fun q hq => by simp only [AV.names, List.mem_singleton] at hq; rw [hq]; simp [AV.names]⟩
  ·exact ⟨_, rfl, h, fun q hq => by
    simp only [AV.names, List.mem_singleton] at hq
    rw [hq]
    simp only [AV.names]
    exact List.mem_cons_of_mem _ (List.mem_map.2 ⟨e, he, rfl⟩)⟩
theorem hits_of {q : RName} {av : AV} (h : (Kill.of q).hits av = true) : q ∈ av.names := by
 have key : ∀ av : AV, av.isVw = false → (Kill.of q).hits av = true → q ∈ av.names := by
  intro av hv h
  cases av <;> simp only [Kill.hits] at h <;> first
   | (cases h; done)
   | (cases hv; done)
   | (simp only [AV.names, List.mem_singleton]; exact req_iff.1 h)
   | (simp only [AV.names]; exact memR_iff.1 h)
 cases av with
 | vw r p L => obtain ⟨b, h1, h2, h3⟩ := hits_vw_some h; exact h3 _ (key b h1 h2)
 | _ => exact key _ rfl h
theorem hits_at {q : RName} {p : Path} {av : AV} (h : (Kill.at q p).hits av = true) : q ∈ av.names := by
 have key : ∀ av : AV, av.isVw = false → (Kill.at q p).hits av = true → q ∈ av.names := by
  intro av hv h
  cases av <;> simp only [Kill.hits, Bool.and_eq_true] at h <;> first
   | (cases h; done)
   | (cases hv; done)
   | (simp only [AV.names, List.mem_singleton]; exact req_iff.1 h.1)
   | (simp only [AV.names, List.mem_singleton]; exact req_iff.1 h.1.1)
 cases av with
 | vw r p L => obtain ⟨b, h1, h2, h3⟩ := hits_vw_some h; exact h3 _ (key b h1 h2)
 | _ => exact key _ rfl h
theorem hits_inn {q : RName} {av : AV} (h : (Kill.inn q).hits av = true) : q ∈ av.names := by
 have key : ∀ av : AV, av.isVw = false → (Kill.inn q).hits av = true → q ∈ av.names := by
  intro av hv h
  cases av <;> simp only [Kill.hits, Bool.and_eq_true] at h <;> first
   | (cases h; done)
   | (cases hv; done)
   | (simp only [AV.names, List.mem_singleton]; exact req_iff.1 h.1)
 cases av with
 | vw r p L => obtain ⟨b, h1, h2, h3⟩ := hits_vw_some h; exact h3 _ (key b h1 h2)
 | _ => exact key _ rfl h
theorem hits_dst {d : Nat} {av : AV} (h : (Kill.dst d).hits av = true) : ∃ q ∈ av.names, q.1 = d + 2 := by
 have key : ∀ av : AV, av.isVw = false → (Kill.dst d).hits av = true → ∃ q ∈ av.names, q.1 = d + 2 := by
  intro av hv h
  cases av <;> simp only [Kill.hits] at h <;> first
   | (cases h; done)
   | (cases hv; done)
   | exact ⟨_, by simp [AV.names], beq_iff.1 h⟩
   | (simp only [List.any_eq_true] at h; obtain ⟨q, h1, h2⟩ := h; exact ⟨q, by simpa [AV.names] using h1, beq_iff.1 h2⟩)
 cases av with
 | vw r p L => obtain ⟨b, h1, h2, h3⟩ := hits_vw_some h; obtain ⟨q, h4, h5⟩ := key b h1 h2; exact ⟨q, h3 _ h4, h5⟩
 | _ => exact key _ rfl h
def KillsIn (ks : List Kill) (l : List RName) : Prop := ∀ av : AV, hit ks av = true → ∃ q ∈ av.names, q ∈ l
theorem KillsIn.ofs (e : List RName) : KillsIn (ofs e) e := by
 intro av h
 simp only [hit, List.any_eq_true] at h
 obtain ⟨x, hx, h⟩ := h
 have : ∃ q ∈ e, x = .of q := by
  clear h
  induction e with
  | nil => cases hx
  | cons q e ih =>
   simp only [Go.Abs.ofs, List.mem_cons] at hx
   rcases hx with rfl | hx
   ·exact ⟨q, by simp, rfl⟩
   ·obtain ⟨q', h1, h2⟩ := ih hx; exact ⟨q', by simp [h1], h2⟩
 obtain ⟨q, hq, rfl⟩ := this
 exact ⟨q, hits_of h, hq⟩
theorem KillsIn.nil : KillsIn [] [] := by intro av h; cases h
theorem KillsIn.append {k1 k2 : List Kill} {l1 l2 : List RName} (h1 : KillsIn k1 l1) (h2 : KillsIn k2 l2) : KillsIn (k1 ++ k2) (l1 ++ l2) := by
 intro av h
 rw [hit_append, Bool.or_eq_true] at h
 rcases h with h | h
 ·obtain ⟨q, a, b⟩ := h1 av h; exact ⟨q, a, by simp [b]⟩
 ·obtain ⟨q, a, b⟩ := h2 av h; exact ⟨q, a, by simp [b]⟩
theorem killList_touch {d : Option Nat} {x : Del} (hk : KillsIn x.kills x.wr) (av : AV) (h : hit (killList (d.getD 0) x) av = true) : ∃ q ∈ av.names, Touch d x q := by
 unfold killList at h
 cases hm : x.make with
 | false =>
  rw [hm] at h
  obtain ⟨q, a, b⟩ := hk av h
  exact ⟨q, a, .inl b⟩
 | true =>
  rw [hm] at h
  simp only [cond_true, hit, List.any_cons, Bool.or_eq_true] at h
  rcases h with h | h
  ·obtain ⟨q, a, b⟩ := hits_dst h; exact ⟨q, a, .inr ⟨hm, b⟩⟩
  ·obtain ⟨q, a, b⟩ := hk av h; exact ⟨q, a, .inl b⟩
def KeysIn (u u' : U) (l : List RName) : Prop := ∀ q, lookU q u' ≠ none → lookU q u ≠ none ∨ q ∈ l
theorem KeysIn.refl (u : U) : KeysIn u u [] := fun _ h => .inl h
theorem KeysIn.cons {u u' : U} {l : List RName} (h : KeysIn u u' l) (q0 : RName) (x : Option Root) : KeysIn u ((q0, x) :: u') (q0 :: l) := by
 intro q hq
 simp only [lookU] at hq
 by_cases he : q = q0
 ·exact .inr (by simp [he])
 ·rw [req_ne he] at hq
  exact (h q hq).imp id (fun h => by simp [h])
theorem takeAt_some {r0 : RName} : ∀ (av : AV) {k : K} {p : Path} {d : k.den} {m : Mask} {c : k.den → Mask → Option R}, takeAt r0 av k p d m c = some r → ∃ d' m', c d' m' = some r := by
 intro av
 induction av with
 | pair a b iha ihb =>
  intro k p d m c h
  cases k <;> simp only [takeAt] at h <;> first | (simp at h; done) | skip
  obtain ⟨_, _, h⟩ := iha h
  obtain ⟨_, _, h⟩ := ihb h
  exact ⟨_, _, h⟩
 | imm z k' d' =>
  intro k p d m c h
  simp only [takeAt] at h
  split at h
  ·exact ⟨_, _, h⟩
  ·cases h
 | ref q p' =>
  intro k p d m c h
  cases k <;> simp only [takeAt] at h <;> first | (simp at h; done) | skip
  split at h
  ·exact ⟨_, _, h⟩
  ·cases h
 | _ => intro k p d m c h; cases k <;> simp [takeAt] at h
theorem absorb_keys : ∀ (av : AV) {k : K} {u : U} {c : k.den → Mask → U → List RName → List RName → Option R}, absorb rs av k u c = some r → ∃ d m u' e q, c d m u' e q = some r ∧ KeysIn u u' e := by
 intro av
 induction av with
 | pair a b iha ihb =>
  intro k u c h
  cases k <;> simp only [absorb] at h <;> first | (simp at h; done) | skip
  split at h
  case h_1 =>
   split at h
   case h_2 => simp at h
   case h_1 =>
   split at h
   case isFalse => simp at h
   case isTrue =>
   obtain ⟨_, _, h⟩ := takeAt_some _ h
   exact ⟨_, _, _, _, _, h, (KeysIn.refl u).cons _ _⟩
  case h_2 =>
  obtain ⟨d, m, u1, e1, q1, h, h1⟩ := iha h
  obtain ⟨d2, m2, u2, e2, q2, h, h2⟩ := ihb h
  refine ⟨_, _, _, _, _, h, fun q hq => ?_⟩
  rcases h2 q hq with h | h
  ·exact (h1 q h).imp id (fun h => by simp [h])
  ·exact .inr (by simp [h])
 | imm z k' d =>
  intro k u c h
  cases k <;> simp only [absorb] at h <;> split at h <;> first | (simp at h; done) | exact ⟨_, _, _, _, _, h, .refl _⟩
 | ref q p =>
  intro k u c h
  cases p with
  | cons _ _ => cases k <;> simp [absorb] at h
  | nil =>
   cases k <;> simp only [absorb] at h <;> split at h <;> first | (simp at h; done) | skip
   all_goals
    rename_i x _
    cases hm : x.mem <;> rw [hm] at h <;> simp only [cond_true, cond_false] at h <;> first | (simp at h; done) | skip
    split at h <;> first | (simp at h; done) | skip
    split at h <;> first | exact ⟨_, _, _, _, _, h, .refl _⟩ | exact ⟨_, _, _, _, _, h, (KeysIn.refl u).cons _ _⟩
 | slc q p lo n =>
  intro k u c h
  cases p with
  | cons _ _ => cases k <;> simp [absorb] at h
  | nil =>
   cases k <;> simp only [absorb] at h <;> first | (simp at h; done) | skip
   split at h
   ·rename_i x _
    cases hm : (x.mem || !x.m.isOwn) <;> rw [hm] at h <;> simp only [cond_true, cond_false] at h <;> first | (simp at h; done) | skip
    split at h <;> first | (simp at h; done) | exact ⟨_, _, _, _, _, h, (KeysIn.refl u).cons _ _⟩
   ·simp at h
 | ptr q p =>
  intro k u c h
  cases p <;> cases k <;> simp only [absorb] at h <;> first | (simp at h; done) | exact ⟨_, _, _, _, _, h, .refl _⟩
 | _ =>
  intro k u c h
  cases k <;> simp only [absorb] at h <;> first | (simp at h; done) | exact ⟨_, _, _, _, _, h, .refl _⟩
theorem absorbs_keys {e : K} : ∀ (l : List AV) {u : U} {m : Option Mask} {c : List e.den → Option Mask → U → List RName → List RName → Option R}, absorbs rs e l u m c = some r → ∃ d m' u' ee q, c d m' u' ee q = some r ∧ KeysIn u u' ee := by
 intro l
 induction l with
 | nil => intro u m c h; exact ⟨_, _, _, _, _, h, .refl _⟩
 | cons a l ih =>
  intro u m c h
  simp only [absorbs] at h
  obtain ⟨d, ma, u1, e1, q1, h, h1⟩ := absorb_keys a h
  have go : ∀ {m0 : Option Mask} {c' : List e.den → Option Mask → U → List RName → List RName → Option R}, absorbs rs e l u1 m0 (fun ds m' u2 e2 q2 => c' (d :: ds) m' u2 (e1 ++ e2) (q1 ++ q2)) = some r → ∃ d m' u' ee q, c' d m' u' ee q = some r ∧ KeysIn u u' ee := by
   intro m0 c' h
   obtain ⟨ds, m', u2, e2, q2, h, h2⟩ := ih h
   refine ⟨_, _, _, _, _, h, fun q hq => ?_⟩
   rcases h2 q hq with h | h
   ·exact (h1 q h).imp id (fun h => by simp [h])
   ·exact .inr (by simp [h])
  cases m with
  | none => exact go h
  | some m0 =>
   simp only at h
   split at h
   ·exact go h
   ·simp at h
theorem absorbsI_keys {e : K} (l : List AV) {c : List e.den → Option Mask → U → List RName → List RName → Option R} (h : absorbsI rs e l c = some r) : ∃ d m' u' ee q, c d m' u' ee q = some r ∧ KeysIn [] u' ee := by
 unfold absorbsI at h
 split at h
 ·exact ⟨_, _, _, _, _, h, .refl _⟩
 ·exact absorbs_keys l h
theorem setP_some {k k1 : K} {d : k.den} {m : Mask} {p : Path} {d1 : k1.den} {m1 : Mask} {c : k.den → Mask → Option R} (h : setP k d m p k1 d1 m1 c = some r) : ∃ d' m', c d' m' = some r := by
 have hn := setP_nat (fun t : k.den × Mask => c t.1 t.2) (k1 := k1) (d1 := d1) (m1 := m1) p (k := k) (d := d) (m := m) fun d m => some (d, m)
 have h2 := hn.trans h
 obtain ⟨t, _, h3⟩ := Option.bind_eq_some_iff.1 h2
 exact ⟨t.1, t.2, h3⟩
theorem takeIn_keys {q : RName} {e : K} {u : U} {x : Root} {p : Path} {c : List e.den → Mask → U → List Kill → List RName → Option R} (h : takeIn q e u x p c = some r) : ∃ xs m u' ks l, c xs m u' ks l = some r ∧ KeysIn u u' l ∧ KillsIn ks l := by
 have two : KillsIn [Kill.at q p] [q] := by
  intro av h
  simp only [hit, List.any_cons, List.any_nil, Bool.or_false] at h
  exact ⟨q, hits_at h, by simp⟩
 unfold takeIn at h
 obtain ⟨k', d', m', hc⟩ := canGet_getP p (getP_canGet p h)
 rw [hc] at h
 split at h
 ·cases ho : m'.isOwn with
  | false => rw [ho] at h; simp at h
  | true =>
   rw [ho] at h
   simp only [cond_true] at h
   obtain ⟨d2, m2, h⟩ := setP_some h
   exact ⟨_, _, _, _, _, h, (KeysIn.refl u).cons _ _, two⟩
 ·simp at h
theorem takeDst_keys {e : K} {u : U} {av : AV} {c : List e.den → Mask → U → List Kill → List RName → Option R} (h : takeDst rs e u av c = some r) : ∃ xs m u' ks l, c xs m u' ks l = some r ∧ KeysIn u u' l ∧ KillsIn ks l := by
 have one : ∀ q, KillsIn [Kill.of q] [q] := fun q => KillsIn.ofs [q]
 cases av with
 | nil => exact ⟨_, _, _, _, _, h, .refl _, .nil⟩
 | emp => exact ⟨_, _, _, _, _, h, .refl _, .nil⟩
 | ref q p =>
  simp only [takeDst] at h
  split at h
  ·simp at h
  ·rename_i x _
   split at h
   ·cases hm : (x.mem || Nat.beq q.1 0) with
    | true => rw [hm] at h; exact takeIn_keys h
    | false =>
     rw [hm] at h
     simp only [cond_false] at h
     split at h
     ·cases ho : x.m.isOwn with
      | false => rw [ho] at h; simp at h
      | true => rw [ho] at h; exact ⟨_, _, _, _, _, h, (KeysIn.refl u).cons _ _, one q⟩
     ·simp at h
   ·cases hi : hasIdx p with
    | true => rw [hi] at h; simp at h
    | false =>
     rw [hi] at h
     exact takeIn_keys h
 | slc q p lo n =>
  cases p with
  | cons => simp [takeDst] at h
  | nil =>
   simp only [takeDst] at h
   split at h
   ·simp at h
   ·rename_i x _
    cases hm : x.mem with
    | true => rw [hm] at h; simp at h
    | false =>
     rw [hm] at h
     simp only [cond_false] at h
     split at h
     ·cases ho : x.m.isOwn with
      | false => rw [ho] at h; simp at h
      | true => rw [ho] at h; exact ⟨_, _, _, _, _, h, (KeysIn.refl u).cons _ _, one q⟩
     ·simp at h
 | _ => simp [takeDst] at h
theorem takeSrc_keys {e : K} {u : U} {av : AV} {c : List e.den → Mask → U → List Kill → List RName → Option R} (h : takeSrc rs e u av c = some r) : ∃ xs m u' ks l, c xs m u' ks l = some r ∧ KeysIn u u' l ∧ KillsIn ks l := by
 cases av with
 | imm z k d =>
  simp only [takeSrc] at h
  split at h
  ·exact ⟨_, _, _, _, _, h, .refl _, .nil⟩
  ·simp at h
 | _ => simp only [takeSrc] at h; exact takeDst_keys h
theorem DelOK.plain (d : Option Nat) (v : AV) (rd : List RName) : DelOK d (plainD v rd) := ⟨rfl, fun q h => absurd rfl h, fun av _ h => by cases h⟩
theorem DelOK.make {d : Option Nat} {x : Del} {j : Nat} {y : Option Root} {u' : U} (hr : x.ren = none) (hu : x.u = (loc (d.getD 0) j, y) :: u') (hm : x.make = true) (hk : KeysIn [] u' x.wr) (hks : KillsIn x.kills x.wr) : DelOK d x := by
 refine ⟨hr, fun q h => ?_, fun av _ h => killList_touch hks av h⟩
 rw [hu] at h
 simp only [lookU] at h
 by_cases he : q = loc (d.getD 0) j
 ·exact .inr ⟨hm, by rw [he]⟩
 ·rw [req_ne he] at h
  exact (hk q h).elim (fun h => absurd rfl h) .inl
theorem lenAV_some {e : K} {a : AV} {c : Nat → Option R} (h : lenAV rs e a c = some r) : ∃ n, c n = some r := by
 have hn := lenAV_nat (rs := rs) (e := e) (a := a) (fun n => c n) some
 obtain ⟨n, _, h3⟩ := Option.bind_eq_some_iff.1 (hn.trans h)
 exact ⟨n, h3⟩
theorem readSl_some {u : U} {e : K} {a : AV} {c : List e.den → Mask → Option R} (h : readSl rs u e a c = some r) : ∃ xs m, c xs m = some r := by
 have hn := readSl_nat (rs := rs) (u := u) (av := a) (fun t : List e.den × Mask => c t.1 t.2) fun xs m => some (xs, m)
 obtain ⟨t, _, h3⟩ := Option.bind_eq_some_iff.1 (hn.trans h)
 exact ⟨t.1, t.2, h3⟩
theorem getP_some {k : K} {d : k.den} {m : Mask} {p : Path} {c : (k' : K) → k'.den → Mask → Option R} (h : getP k d m p c = some r) : ∃ k' d' m', c k' d' m' = some r := by
 obtain ⟨k', d', m', hc⟩ := canGet_getP p (getP_canGet p h)
 exact ⟨k', d', m', (hc c).symm.trans h⟩
theorem av_some {f : (AV → Option R) → Option R} {f0 : Option AV} {c : AV → Option R} (hn : f0.bind c = f c) (h : f c = some r) : ∃ v, c v = some r := by
 obtain ⟨v, _, h3⟩ := Option.bind_eq_some_iff.1 (hn.trans h)
 exact ⟨v, h3⟩
theorem some_plain {d : Option Nat} {v : AV} {rd : List RName} {x : Del} (h : some (plainD v rd) = some x) : DelOK d x := by
 cases h; exact .plain d v rd
theorem rootsFresh_keys {g : Reg} {dst : Nat} (ys : List Root) (u : U) (l : List RName) (h : ∀ q, lookU q u ≠ none → q ∈ l) : ∀ q, lookU q (u ++ freshBack g dst 0 ys) ≠ none → q ∈ l ∨ q.1 = dst + 2 := by
 intro q hq
 rw [lookU_append] at hq
 cases h1 : lookU q u with
 | some z => exact .inl (h q (by rw [h1]; simp))
 | none =>
  rw [h1] at hq
  simp only at hq
  cases h2 : lookU q (freshBack g dst 0 ys) with
  | none => exact absurd h2 hq
  | some z =>
   obtain ⟨j, _, rfl, _⟩ := freshBack_spec _ _ _ _ h2
   exact .inr rfl
theorem regKills_in : ∀ (l : List RName), KillsIn (regKills rs l) l := by
 intro l
 induction l with
 | nil => exact .nil
 | cons q l ih =>
  intro av h
  simp only [regKills, hit, List.any_cons, Bool.or_eq_true] at h
  rcases h with h | h
  ·refine ⟨q, ?_, by simp⟩
   cases hx : rs q with
   | none => rw [hx] at h; exact hits_of h
   | some x =>
    rw [hx] at h
    simp only at h
    cases hm : x.mem with
    | true => rw [hm] at h; exact hits_at h
    | false => rw [hm] at h; exact hits_inn h
  ·obtain ⟨q', a, b⟩ := ih av h
   exact ⟨q', a, by simp [b]⟩
theorem callKills_in {sf : Bool} {args : List AV} {l : List RName} : KillsIn (callKills sf rs args l) l := by
 unfold callKills
 cases sf with
 | false => exact regKills_in l
 | true =>
  simp only [cond_true]
  unfold softKills
  split
  ·rename_i r p _ q
   cases req r (0, 0) with
   | false => exact regKills_in _
   | true =>
    intro av h
    simp only [cond_true, hit, List.any_cons, List.any_nil, Bool.or_false] at h
    exact ⟨q, hits_at h, by simp⟩
  ·exact regKills_in _
theorem denCall_ok {V : Env} {f : Nat} {args : List AV} {kinds : List (Option K)} {d : Option Nat} {x : Del} (h : denCall V f args kinds (d.getD 0) rs some = some x) : DelOK d x := by
 unfold denCall at h
 split at h
 ·simp at h
 ·rename_i q hq
  rw [argsOf_pack] at h
  obtain ⟨t, _, h⟩ := Option.bind_eq_some_iff.1 h
  split at h
  ·simp at h
  ·rename_i g hg
   rw [cond_eq_ite] at h
   split at h
   ·simp at h
   ·split at h
    ·simp at h
    ·obtain ⟨co, _, h⟩ := Tre.run_some h
     ·rw [cond_eq_ite] at h
      split at h
      ·split at h
       ·simp at h
       ·rename_i u hu
        simp only [Option.some.injEq] at h
        subst h
        obtain ⟨_, h1, _⟩ := rootsBack_spec _ hu
        refine ⟨rfl, fun q hq => ?_, fun av _ h => killList_touch callKills_in av h⟩
        rcases rootsFresh_keys _ u g (fun q hq => by
         cases hz : lookU q u with
         | none => exact absurd hz hq
         | some z => obtain ⟨i, _, _, k1, _⟩ := h1 q z hz; exact List.mem_of_getElem? k1) q hq with h | h
        ·exact .inl h
        ·exact .inr ⟨rfl, h⟩
      ·simp at h
theorem denBuiltin_ok {V : Env} {b : Builtin} {ts : Array TypeId} {args : List AV} {d : Option Nat} {x : Del} (h : denBuiltin V b ts (d.getD 0) args rs some = some x) : DelOK d x := by
 unfold denBuiltin at h
 split at h
 ·split at h
  ·obtain ⟨v, h⟩ := lenAV_some h
   exact some_plain h
  ·split at h
   ·exact some_plain h
   ·simp at h
  ·simp at h
 ·split at h
  ·rw [cond_eq_ite] at h
   split at h
   ·unfold appendMake at h
    split at h
    ·split at h
     ·simp at h
     ·split at h
      ·simp only [Option.some.injEq] at h
       subst h
       exact .make rfl rfl rfl (.refl _) .nil
      ·simp at h
    ·simp at h
   ·split at h
    ·simp at h
    ·split at h
     ·obtain ⟨xs, ma, u1, k1, l1, h, hk1, hs1⟩ := takeDst_keys h
      split at h
      ·split at h
       ·split at h
        ·simp only [Option.some.injEq] at h
         subst h
         exact .make rfl rfl rfl hk1 hs1
        ·simp at h
       ·simp at h
      ·obtain ⟨ys, mb, h⟩ := readSl_some h
       split at h
       ·rw [cond_eq_ite] at h
        split at h
        ·simp only [Option.some.injEq] at h
         subst h
         exact .make rfl rfl rfl hk1 hs1
        ·rw [cond_eq_ite] at h
         split at h
         ·obtain ⟨ys', mb', u2, k2, l2, h, hk2, hs2⟩ := takeSrc_keys h
          split at h
          ·rw [cond_eq_ite] at h
           split at h
           ·simp at h
           ·simp only [Option.some.injEq] at h
            subst h
            refine .make rfl rfl rfl (fun q hq => ?_) (hs1.append hs2)
            rcases hk2 q hq with h | h
            ·exact (hk1 q h).imp id (fun h => List.mem_append.2 (.inl h))
            ·exact .inr (List.mem_append.2 (.inr h))
          ·simp at h
         ·simp at h
       ·simp at h
     ·simp at h
  ·simp at h
 ·split at h
  ·exact some_plain h
  ·simp at h
 ·split at h
  ·exact some_plain h
  ·simp at h
 ·simp at h
theorem denD0_ok {V : Env} {o : Oper} {tm : TF} {x : Del} (h : denD0 V o tm rs = some x) (hb : x.bar = false) : DelOK o.dst x := by
 unfold denD0 at h
 cases ho : o.op with
 | move a => simp only [denOp, ho] at h; exact some_plain h
 | assign a =>
  simp only [denOp, ho] at h
  split at h
  ·rw [cond_eq_ite] at h
   split at h
   ·cases h; cases hb
   ·split at h
    ·simp at h
    ·rw [cond_eq_ite] at h
     split at h
     ·exact some_plain h
     ·cases h; cases hb
  ·exact some_plain h
 | pick a b c =>
  simp only [denOp, ho] at h
  split at h
  ·rw [cond_eq_ite] at h
   split at h <;> exact some_plain h
  ·simp at h
 | alloc t =>
  simp only [denOp, ho] at h
  split at h
  ·simp only [Option.some.injEq] at h; subst h; exact .make rfl rfl rfl (.refl _) .nil
  ·simp at h
 | box t a =>
  simp only [denOp, ho] at h
  split at h
  ·split at h
   ·simp only [Option.some.injEq] at h; subst h; exact .make rfl rfl rfl (.refl _) .nil
   ·obtain ⟨d, m, u', e, q, h, hk⟩ := absorb_keys _ h
    simp only [Option.some.injEq] at h; subst h; exact .make rfl rfl rfl hk (.ofs e)
  ·simp at h
 | build t ps =>
  simp only [denOp, ho] at h
  split at h
  ·rw [cond_eq_ite] at h
   split at h
   ·exact some_plain h
   ·simp at h
  ·simp at h
 | buildSlice t k ps =>
  simp only [denOp, ho] at h
  split at h
  ·split at h
   ·simp at h
   ·rw [cond_eq_ite] at h
    split at h
    ·obtain ⟨d, m, u', e, q, h, hk⟩ := absorbsI_keys _ h
     simp only [Option.some.injEq] at h; subst h; exact .make rfl rfl rfl hk (.ofs e)
    ·simp at h
  ·simp at h
 | load t a =>
  simp only [denOp, ho] at h
  split at h
  ·simp at h
  ·split at h
   ·split at h
    ·simp at h
    ·obtain ⟨k', d', m', h⟩ := getP_some h
     split at h
     ·exact some_plain h
     ·simp at h
   ·obtain ⟨k', d', m', h⟩ := getP_some h
    split at h
    ·exact some_plain h
    ·simp at h
   ·split at h
    ·simp at h
    ·split at h
     ·obtain ⟨k', d', m', h⟩ := getP_some h
      split at h
      ·exact some_plain h
      ·simp at h
     ·split at h
      ·simp at h
      ·split at h
       ·obtain ⟨k', d', m', h⟩ := getP_some h
        split at h
        ·rw [cond_eq_ite] at h
         split at h
         ·exact some_plain h
         ·simp at h
        ·simp at h
       ·simp at h
   ·simp at h
 | store t a b =>
  simp only [denOp, ho] at h
  split at h
  ·simp at h
  ·split at h
   ·obtain ⟨d, m, u', e, q, h, hk⟩ := absorb_keys _ h
    rw [cond_eq_ite] at h
    split at h
    ·simp at h
    ·split at h
     ·simp at h
     ·obtain ⟨d', m', h⟩ := setP_some h
      cases h; cases hb
   ·simp at h
 | nilCheck a => simp only [denOp, ho] at h; split at h <;> first | exact some_plain h | (simp at h; done)
 | binOp op t a b ty => simp only [denOp, ho] at h; obtain ⟨v, h⟩ := av_some (f := fun c => binAV _ op _ _ c) (f0 := binAV _ op _ _ some) (binAV_nat _ some) h; exact some_plain h
 | unOp op t a => simp only [denOp, ho] at h; obtain ⟨v, h⟩ := av_some (f := fun c => unAV op _ c) (f0 := unAV op _ some) (unAV_nat _ some) h; exact some_plain h
 | convert t1 t2 a => simp only [denOp, ho] at h; obtain ⟨v, h⟩ := av_some (f := fun c => convAV _ _ _ c) (f0 := convAV _ _ _ some) (convAV_nat _ some) h; exact some_plain h
 | makeFunc f f1 cs =>
  cases f <;> simp only [denOp, ho] at h <;> first | (simp at h; done) | skip
  split at h
  ·exact some_plain h
  ·simp at h
 | makeSlice t l cp =>
  simp only [denOp, ho] at h
  split at h
  ·split at h
   ·split at h
    ·simp only [Option.some.injEq] at h; subst h; exact .make rfl rfl rfl (.refl _) .nil
    ·simp at h
   ·simp at h
  ·simp at h
 | slice t a lo hi mx => simp only [denOp, ho] at h; obtain ⟨v, h⟩ := av_some (f := fun c => sliceAV V t rs _ _ _ _ c) (f0 := sliceAV V t rs _ _ _ _ some) (sliceAV_nat _ some) h; exact some_plain h
 | fieldAddr t a f =>
  simp only [denOp, ho] at h
  split at h
  ·split at h
   ·simp at h
   ·split at h
    ·exact some_plain h
    ·simp at h
  ·split at h
   ·exact some_plain h
   ·simp at h
  ·split at h
   ·simp at h
   ·split at h
    ·exact some_plain h
    ·simp at h
  ·simp at h
 | indexAddr t a i =>
  simp only [denOp, ho] at h
  split at h
  ·obtain ⟨v, h⟩ := av_some (f := fun c => indexAV rs _ _ _ c) (f0 := indexAV rs _ _ _ some) (indexAV_nat _ some) h; exact some_plain h
  ·simp at h
 | index t a i =>
  simp only [denOp, ho] at h
  split at h
  ·split at h
   ·split at h
    ·exact some_plain h
    ·simp at h
   ·simp at h
  ·simp at h
 | field t a f =>
  simp only [denOp, ho] at h
  split at h
  ·rw [cond_eq_ite] at h
   split at h
   ·unfold cellAV at h
    split at h
    ·rw [cond_eq_ite] at h
     split at h
     ·simp at h
     ·exact some_plain h
    ·obtain ⟨_, _, h⟩ := readSl_some h; exact some_plain h
    ·simp at h
   ·simp at h
  ·simp at h
 | extract a i =>
  simp only [denOp, ho] at h
  rw [cond_eq_ite] at h
  split at h
  ·simp at h
  ·exact some_plain h
 | call cl =>
  obtain ⟨cal, args, ts⟩ := cl
  cases cal with
  | invoke _ _ => simp [denOp, ho] at h
  | value f =>
   simp only [denOp, ho, callee] at h
   split at h
   ·exact denCall_ok h
   ·simp at h
  | builtin b => simp only [denOp, ho] at h; exact denBuiltin_ok h
 | _ => simp [denOp, ho] at h
theorem denHead_bar {V : Env} {y : TypeId × RName × Nat × Nat} {x : Del} (h : denHead V y rs some = some x) : x.bar = true := by
 unfold denHead at h
 split at h
 ·split at h
  ·simp at h
  ·split at h
   ·rw [cond_eq_ite] at h
    split at h
    ·simp at h
    ·split at h
     ·simp only [Option.some.injEq] at h; subst h; rfl
     ·split at h
      ·rw [cond_eq_ite] at h
       split at h
       ·split at h
        ·simp only [Option.some.injEq] at h; subst h; rfl
        ·simp at h
       ·simp at h
      ·simp at h
   ·simp at h
 ·simp at h
theorem denD_ok {V : Env} {o : Oper} {tm : TF} {x : Del} (h : denD V o tm rs = some x) (hb : x.bar = false) : DelOK o.dst x := by
 unfold denD denOpS at h
 split at h
 ·rw [denHead_bar h] at hb; cases hb
 ·cases hc : calmOp o with
  | true => rw [hc, cond_true] at h; exact denD0_ok h hb
  | false =>
   rw [hc, cond_false] at h
   split at h
   ·exact denD0_ok (denOp_note.1 h).1 hb
   ·simp at h
end
end Go.Abs

namespace Go.Abs
variable {Γ : Glb}
section
variable {V : Env} {ops : Array Oper}
def trOf (o : Oper) (s : St) (x : Del) : Tr := ⟨pendR :: (namesAll (operAVs s.tmps o) ++ (x.rd ++ x.v.names)), x.wr ++ x.pins, bif x.make then o.dst else none, x.bar, allAlive (operAVs s.tmps o), quietD o.dst x, killList (o.dst.getD 0) x, x.v :: operAVs s.tmps o, x.ren.isSome⟩
def Runs1 (V : Env) (o : Oper) (s s' : St) (tr : Tr) : Prop := ∃ x, denD V o s.tmps s.roots = some x ∧ allowedS s o.dst x = true ∧ s' = s.after o.dst x ∧ tr = trOf o s x
def gv : AV → Option (Option Bool)
 | .imm _ .bool b => some (some b)
 | .tnil => some none
 | _ => none
def Stp (V : Env) (ops : Array Oper) (o : Oper) (s s' : St) (tr : Tr) : Prop :=
 match o.guard with
 | none => Runs1 V o s s' tr
 | some (j, want) => ∃ t b, (ops[j]?).bind (·.dst) = some t ∧ gv (s.tmps t) = some b ∧ ((b = some want ∧ Runs1 V o s s' tr) ∨ (b ≠ some want ∧ s' = skipOp o s ∧ tr = ⟨[], [], none, false, true, false, [], [], false⟩))
theorem setT_same {s : St} {t : Nat} {z b : Bool} (h : s.tmps t = .imm z .bool b) : setT t (.imm z .bool b) s = s := by
 refine St.ext' (fun t' => ?_) (fun _ => rfl) (fun _ => rfl)
 simp only [setT]
 by_cases ht : t' = t
 ·rw [beq_iff.2 ht, ht, h]; rfl
 ·rw [beq_ne ht]; rfl
theorem runOp_step {R : Type} {r : R} {o : Oper} {s : St} {c : St → Tr → Option R} (h : runOp V o s c = some r) : ∃ s' tr, c s' tr = some r ∧ Runs1 V o s s' tr := by
 unfold runOp at h
 rw [denOp_denD] at h
 obtain ⟨x, hx, h⟩ := Option.bind_eq_some_iff.1 h
 cases hal : allowedS s o.dst x with
 | false => rw [hal] at h; simp at h
 | true =>
  rw [hal] at h
  exact ⟨_, _, h, x, hx, hal, rfl, rfl⟩
theorem denGuard_step {R : Type} {r : R} {o : Oper} {s : St} {c : St → Tr → Option R} (h : denGuard V ops.toList o s c = some r) : ∃ s' tr, c s' tr = some r ∧ Stp V ops o s s' tr := by
 unfold denGuard at h
 unfold Stp
 split at h
 ·rename_i hg
  obtain ⟨s', tr, h1, h2⟩ := runOp_step h
  exact ⟨s', tr, h1, by rw [hg]; exact h2⟩
 ·rename_i j want hg
  split at h
  ·simp at h
  ·rename_i t ht
   rw [Array.getElem?_toList] at ht
   split at h
   case h_3 => simp at h
   case h_2 hb => exact ⟨_, _, h, by rw [hg]; exact ⟨t, none, ht, by rw [hb]; rfl, .inr ⟨by simp, rfl, rfl⟩⟩⟩
   case h_1 z b hb =>
   have run : ∀ bb : Bool, b = bb → want = bb → runOp V o (setT t (.imm z .bool bb) s) c = some r → ∃ s' tr, c s' tr = some r ∧ Runs1 V o s s' tr := by
    intro bb h1 h2 h3
    subst h1
    rw [setT_same hb] at h3
    exact runOp_step h3
   cases want <;> cases b
   ·obtain ⟨s', tr, h1, h2⟩ := run false rfl rfl h
    exact ⟨s', tr, h1, by rw [hg]; exact ⟨t, some false, ht, by rw [hb]; rfl, .inl ⟨rfl, h2⟩⟩⟩
   ·have h : c (skipOp o (setT t (.imm z .bool true) s)) ⟨[], [], none, false, true, false, [], [], false⟩ = some r := h
    rw [setT_same hb] at h
    exact ⟨_, _, h, by rw [hg]; exact ⟨t, some true, ht, by rw [hb]; rfl, .inr ⟨by simp, rfl, rfl⟩⟩⟩
   ·have h : c (skipOp o (setT t (.imm z .bool false) s)) ⟨[], [], none, false, true, false, [], [], false⟩ = some r := h
    rw [setT_same hb] at h
    exact ⟨_, _, h, by rw [hg]; exact ⟨t, some false, ht, by rw [hb]; rfl, .inr ⟨by simp, rfl, rfl⟩⟩⟩
   ·obtain ⟨s', tr, h1, h2⟩ := run true rfl rfl h
    exact ⟨s', tr, h1, by rw [hg]; exact ⟨t, some true, ht, by rw [hb]; rfl, .inl ⟨rfl, h2⟩⟩⟩
theorem stp_sound {P : Program} {w0 w : World} {M0 : BS} {n : Nat} {C0 C : Ctx} {s s' : St} {a : Act} {o : Oper} {tr : Tr} (hT : TysOK P V) (hE : EnvG P Γ V w0 M0 C0) {i : Nat} (hi : ops[i]? = some o) (R : Rel2 w0 M0 n C0 C s a w)
  (hd : ∀ d, o.dst = some d → d < n) (h : Stp V ops o s s' tr) (next : Act → World → Prop) (Q : Exit → Act → World → Prop) (hn : ∀ a' w' C', Rel2 w0 M0 n C0 C' s' a' w' → next a' w') : wpOp P ops Q i next a w := by
 have run : Runs1 V o s s' tr → o.wp P a w next Q := by
  rintro ⟨x, hx, hal, rfl, _⟩
  obtain ⟨x', h1, h2⟩ := does_opS_of hT R (fun R' h' => does_op hT hE R' h') hx
  cases h1
  exact h2 hd hal next Q hn
 unfold Stp at h
 split at h
 ·rename_i hg
  unfold wpOp
  simp only [hi, Region.wanted, hg, if_true]
  exact .inl (run h)
 ·rename_i j want hg
  obtain ⟨t, b, ht, hb, h⟩ := h
  obtain ⟨_, R1, _⟩ := id R
  have hv := R1.tm t
  have hy : yielded ops a.tmps j = b := by
   unfold yielded
   rw [ht]
   simp only [Option.bind_some]
   unfold gv at hb
   split at hb
   ·rename_i z b' hb'
    rw [hb'] at hv
    have hvb := hv.bool
    cases hb
    have : a.tmps[t]? = some (.bool b') := by
     rw [Array.getD_eq_getD_getElem?] at hvb
     cases hh : a.tmps[t]? with
     | none => rw [hh] at hvb; cases hvb
     | some v => rw [hh] at hvb; simp only [Option.getD_some] at hvb; rw [hvb]
    rw [this]
   ·rename_i hb'
    rw [hb'] at hv
    have hvu := VRel.undef hv
    cases hb
    rw [Array.getD_eq_getD_getElem?] at hvu
    cases hh : a.tmps[t]? with
    | none => rfl
    | some v => rw [hh] at hvu; simp only [Option.getD_some] at hvu; subst hvu; rfl
   ·cases hb
  unfold wpOp
  rcases h with ⟨rfl, h⟩ | ⟨hne, rfl, _⟩
  ·simp only [hi, Region.wanted, hg, hy, beq_self_eq_true, if_true]
   exact .inl (run h)
  ·have hne' : (b == some want) = false := by rcases b with _ | b <;> cases want <;> first | rfl | exact absurd rfl hne | (cases b <;> first | rfl | exact absurd rfl hne)
   simp only [hi, Region.wanted, hg, hy, hne']
   exact hn _ _ C (R.skip2 hd)
inductive RunsL (V : Env) (ops : Array Oper) : List (Nat × Tr) → St → St → Prop
 | nil (s : St) : RunsL V ops [] s s
 | cons {i : Nat} {o : Oper} {tr : Tr} {l : List (Nat × Tr)} {s s1 s2 : St} (hi : ops[i]? = some o) (h : Stp V ops o s s1 tr) (t : RunsL V ops l s1 s2) : RunsL V ops ((i, tr) :: l) s s2
end
end Go.Abs

namespace Go.Abs
section
variable {V : Env} {ops : Array Oper}
theorem kills_const (ks : List Kill) (v : Value) : AV.kills ks (constAV v) = constAV v := by
 have h : ∀ a : AV, a.isLeaf = true → a.names = [] → AV.kills ks a = a := by
  intro a hl hn
  rw [kills_leaf _ _ hl]
  cases hh : hit ks a with
  | false => rfl
  | true =>
   simp only [hit, List.any_eq_true] at hh
   obtain ⟨x, _, hx⟩ := hh
   exfalso
   cases x with
   | of q => have := hits_of hx; rw [hn] at this; cases this
   | «at» q p => have := hits_at hx; rw [hn] at this; cases this
   | inn q => have := hits_inn hx; rw [hn] at this; cases this
   | dst d => obtain ⟨q, h1, _⟩ := hits_dst hx; rw [hn] at h1; cases h1
 unfold constAV
 split <;> exact h _ rfl rfl
theorem kills_names_nil (ks : List Kill) (a : AV) (hl : a.isLeaf = true) (hn : a.names = []) : AV.kills ks a = a := by
 rw [kills_leaf _ _ hl]
 cases hh : hit ks a with
 | false => rfl
 | true =>
  simp only [hit, List.any_eq_true] at hh
  obtain ⟨x, _, hx⟩ := hh
  exfalso
  cases x with
  | of q => have := hits_of hx; rw [hn] at this; cases this
  | «at» q p => have := hits_at hx; rw [hn] at this; cases this
  | inn q => have := hits_inn hx; rw [hn] at this; cases this
  | dst d => obtain ⟨q, h1, _⟩ := hits_dst hx; rw [hn] at h1; cases h1
theorem eval_after {s : St} {d : Option Nat} {x : Del} (hr : x.ren = none) (y : Operand) (hy : ∀ t, d = some t → y ≠ .tmp t) : evalAV (s.after d x).tmps y = AV.kills (killList (d.getD 0) x) (evalAV s.tmps y) := by
 cases y with
 | tmp t =>
  simp only [evalAV, St.after, hr, renAV]
  cases d with
  | none => rfl
  | some d =>
   have : t ≠ d := by rintro rfl; exact hy t rfl rfl
   simp only [beq_ne this, cond_false]
 | const v => simp only [evalAV]; exact (kills_const _ v).symm
 | func f => simp only [evalAV]; exact (kills_names_nil _ _ rfl rfl).symm
 | global g => simp only [evalAV]; exact (kills_dead _).symm
theorem nthT_kills (ks : List Kill) : ∀ (i : Nat) (a : AV), nthT (AV.kills ks a) i = AV.kills ks (nthT a i) := by
 have hleaf : ∀ (i : Nat) (a : AV), (∀ x y, a ≠ .tcons x y) → nthT a i = .dead := fun i a h => by
  cases a <;> first | (cases i <;> rfl) | exact absurd rfl (h _ _)
 have hk : ∀ a : AV, (∀ x y, a ≠ .tcons x y) → ∀ x y, AV.kills ks a ≠ .tcons x y := fun a h => by
  cases a <;> first
   | exact absurd rfl (h _ _)
   | (rw [kills_pair]; intro x y hh; cases hh)
   | (rw [kills_leaf _ _ rfl]; intro x y hh; cases hc : hit ks _ <;> rw [hc] at hh <;> cases hh)
 intro i
 induction i with
 | zero =>
  intro a
  cases a <;> first
   | (rw [kills_tcons]; rfl)
   | (rw [hleaf _ _ (hk _ (by simp)), hleaf _ _ (by simp), kills_dead])
 | succ i ih =>
  intro a
  cases a <;> first
   | (rw [kills_tcons]; exact ih _)
   | (rw [hleaf _ _ (hk _ (by simp)), hleaf _ _ (by simp), kills_dead])
theorem operAVs_after {s : St} {d : Option Nat} {x : Del} (hr : x.ren = none) (o : Oper) (ho : ∀ t, d = some t → .tmp t ∉ o.op.operands.toList) : operAVs (s.after d x).tmps o = (operAVs s.tmps o).map (AV.kills (killList (d.getD 0) x)) := by
 unfold operAVs
 split
 ·rename_i y i hop
  rw [eval_after hr y fun t ht he => ho t ht (by rw [hop, he]; simp [Op.operands]), nthT_kills]
  rfl
 ·rw [List.map_map]
  exact List.map_congr_left fun y hy => eval_after hr y fun t ht he => ho t ht (he ▸ hy)
theorem allAlive_kills (ks : List Kill) : ∀ (l : List AV), allAlive (l.map (AV.kills ks)) = true → l.map (AV.kills ks) = l := by
 intro l
 induction l with
 | nil => intro _; rfl
 | cons a l ih =>
  intro h
  simp only [List.map_cons, allAlive, Bool.and_eq_true] at h
  rw [List.map_cons, kills_alive ks a h.1, ih h.2]
theorem memAny_false {l l' : List RName} (h : memAny l l' = false) : ∀ q ∈ l, q ∉ l' := by
 induction l with
 | nil => intro q hq; cases hq
 | cons x l ih =>
  simp only [memAny, Bool.or_eq_false_iff] at h
  intro q hq hq'
  rcases List.mem_cons.1 hq with rfl | hq
  ·rw [memR_iff.2 hq'] at h; cases h.1
  ·exact ih h.2 q hq hq'
theorem mkIn_false {d : Nat} {l : List RName} (h : mkIn (some d) l = false) : ∀ q ∈ l, q.1 ≠ d + 2 := by
 intro q hq he
 simp only [mkIn, List.any_eq_false] at h
 exact h q hq (beq_iff.2 he)
theorem touch_free {o : Oper} {s : St} {x : Del} {tr : Tr} (hal : allowed s o.dst x = true) (hw : memAny (trOf o s x).wr tr.rd = false) (hw2 : memAny (trOf o s x).wr tr.wr = false) (hm : mkIn (trOf o s x).mak tr.rd = false) (hm2 : mkIn (trOf o s x).mak tr.wr = false)
  {q : RName} (h : Touch o.dst x q) : q ∉ tr.rd ∧ q ∉ tr.wr := by
 rcases h with h | ⟨h1, h2⟩
 ·exact ⟨memAny_false hw q (by simp [trOf, h]), memAny_false hw2 q (by simp [trOf, h])⟩
 ·obtain ⟨d, hd⟩ := dst_some hal h1
  simp only [trOf, h1, cond_true, hd] at hm hm2
  rw [hd] at h2
  simp only [Option.getD_some] at h2
  exact ⟨fun h => mkIn_false hm q h h2, fun h => mkIn_false hm2 q h h2⟩
theorem after_roots_free {s : St} {d : Option Nat} {x : Del} (hx : DelOK d x) {q : RName} (h : ¬ Touch d x q) : (s.after d x).roots q = s.roots q := by
 simp only [St.after]
 cases h1 : lookU q x.u with
 | some y => exact absurd (hx.keys q (by rw [h1]; simp)) h
 | none =>
  simp only
  cases h2 : (x.make && Nat.beq q.1 (d.getD 0 + 2)) with
  | false => rfl
  | true =>
   simp only [Bool.and_eq_true] at h2
   exact absurd (.inr ⟨h2.1, beq_iff.1 h2.2⟩) h
theorem allowed_of {s : St} {d : Option Nat} {x : Del} (h : allowedS s d x = true) : allowed s d x = true := by
 unfold allowedS at h
 rw [Bool.and_eq_true] at h
 exact h.1
theorem swap_runs {oi oj : Oper} {s s1 s2 : St} {tri trj : Tr} (hi : Runs1 V oi s s1 tri) (hj : Runs1 V oj s1 s2 trj) (hc : clash tri trj = false) (hlive : trj.live = true)
  (hdst : ∀ t, oi.dst = some t → oj.dst ≠ some t) (hoj : ∀ t, oi.dst = some t → .tmp t ∉ oj.op.operands.toList) (hoi : ∀ t, oj.dst = some t → .tmp t ∉ oi.op.operands.toList) :
  ∃ s1', Runs1 V oj s s1' trj ∧ Runs1 V oi s1' s2 tri := by
 obtain ⟨xi, di, ai, rfl, rfl⟩ := hi
 obtain ⟨xj, dj, aj, rfl, rfl⟩ := hj
 have ai := allowed_of ai
 have aj := allowed_of aj
 simp only [clash, Bool.or_eq_false_iff] at hc
 obtain ⟨⟨⟨⟨⟨⟨⟨⟨hbi, hbj⟩, c1⟩, c2⟩, c3⟩, c4⟩, c5⟩, c6⟩, c7⟩ := hc
 have ki := denD_ok di hbi
 have kj := denD_ok dj hbj
 -- the later one's operands are as they were
 have hopj : operAVs (s.after oi.dst xi).tmps oj = operAVs s.tmps oj := by
  have h1 := operAVs_after (s := s) ki.ren oj hoj
  have h2 : allAlive (operAVs (s.after oi.dst xi).tmps oj) = true := hlive
  rw [h1] at h2 ⊢
  exact allAlive_kills _ _ h2
 have hti : ∀ q, Touch oi.dst xi q → q ∉ (trOf oj (s.after oi.dst xi) xj).rd ∧ q ∉ (trOf oj (s.after oi.dst xi) xj).wr := fun q h => touch_free ai c1 c2 c4 c5 h
 have c2' : memAny (trOf oj (s.after oi.dst xi) xj).wr (trOf oi s xi).wr = false := by
  cases h : memAny (trOf oj (s.after oi.dst xi) xj).wr (trOf oi s xi).wr with
  | false => rfl
  | true =>
   exfalso
   have key : ∀ (l l' : List RName), memAny l l' = true → ∃ q ∈ l, q ∈ l' := by
    intro l l'
    induction l with
    | nil => intro h; cases h
    | cons x l ih =>
     intro h
     simp only [memAny, Bool.or_eq_true] at h
     rcases h with h | h
     ·exact ⟨x, by simp, memR_iff.1 h⟩
     ·obtain ⟨q, a, b⟩ := ih h; exact ⟨q, by simp [a], b⟩
   obtain ⟨q, a, b⟩ := key _ _ h
   exact memAny_false c2 q b a
 have htj : ∀ q, Touch oj.dst xj q → q ∉ (trOf oi s xi).rd ∧ q ∉ (trOf oi s xi).wr := fun q h => touch_free aj c3 c2' c6 c7 h
 have hrd : ∀ q ∈ namesAll (operAVs s.tmps oj), q ∈ (trOf oj (s.after oi.dst xi) xj).rd := by
  intro q hq
  simp only [trOf, hopj, List.mem_cons, List.mem_append]
  exact .inr (.inl hq)
 -- the later one does first what it did
 have dj' : denD V oj s.tmps s.roots = some xj := by
  refine denD_congr dj hopj.symm (fun q hq => ?_) (fun q hq => ?_) (after_roots_free ki fun ht => (hti _ ht).1 (by simp [trOf])).symm
  ·rw [hopj] at hq
   exact (after_roots_free ki fun ht => (hti q ht).1 (hrd q hq)).symm
  ·exact (after_roots_free ki fun ht => (hti q ht).2 (by simp [trOf, hq])).symm
 have hopi : operAVs (s.after oj.dst xj).tmps oi = operAVs s.tmps oi := by
  rw [operAVs_after kj.ren oi hoi]
  conv => rhs; rw [← List.map_id (operAVs s.tmps oi)]
  refine List.map_congr_left fun y hy => ?_
  exact kills_id kj y fun q hq ht => (htj q ht).1 (by simp only [trOf, List.mem_cons, List.mem_append]; exact .inr (.inl (namesAll_mem hy hq)))
 have di' : denD V oi (s.after oj.dst xj).tmps (s.after oj.dst xj).roots = some xi := by
  refine denD_congr di hopi (fun q hq => ?_) (fun q hq => ?_) (after_roots_free kj fun ht => (htj _ ht).1 (by simp [trOf]))
  ·exact after_roots_free kj fun ht => (htj q ht).1 (by simp only [trOf, List.mem_cons, List.mem_append]; exact .inr (.inl hq))
  ·exact after_roots_free kj fun ht => (htj q ht).2 (by simp [trOf, hq])
 have hnw : ∀ {st : St} {d : Option Nat} {x : Del}, pendR ∉ x.wr → allowed st d x = true → allowedS st d x = true := by
  intro st d x h h2
  unfold allowedS
  rw [h2, show memR pendR x.wr = false from Bool.eq_false_iff.2 fun hm => h (memR_iff.1 hm)]
  rfl
 have wj : pendR ∉ xj.wr := fun hm => (htj pendR (.inl hm)).1 (by simp [trOf])
 have wi : pendR ∉ xi.wr := fun hm => (hti pendR (.inl hm)).1 (by simp [trOf])
 have aj' : allowed s oj.dst xj = true := by
  unfold allowed at aj ⊢
  simp only [Bool.or_eq_true] at aj ⊢
  refine aj.imp id fun h => ?_
  cases hd : oj.dst with
  | none => rw [hd] at h; cases h
  | some d =>
   rw [hd] at h
   simp only [Bool.and_eq_true, Bool.not_eq_true'] at h ⊢
   refine ⟨?_, h.2⟩
   have h1 := h.1
   simp only [St.after, Bool.or_eq_false_iff] at h1
   exact h1.1
 have ai' : allowed (s.after oj.dst xj) oi.dst xi = true := by
  unfold allowed at ai ⊢
  cases hm : xi.make with
  | false => simp [ki.ren]
  | true =>
   rw [hm] at ai
   simp only [Bool.not_true, Bool.false_and, Bool.false_or] at ai ⊢
   cases hd : oi.dst with
   | none => rw [hd] at ai; cases ai
   | some d =>
    rw [hd] at ai
    simp only [Bool.and_eq_true, Bool.not_eq_true'] at ai ⊢
    refine ⟨?_, ai.2⟩
    simp only [St.after, Bool.or_eq_false_iff]
    refine ⟨ai.1, ?_⟩
    rw [List.any_eq_false]
    intro q hq hqd
    simp only [trOf, hm, cond_true, hd] at c5
    exact mkIn_false c5 q (by simp [hq]) (beq_iff.1 hqd).symm
 have hdisj : ∀ q, Touch oi.dst xi q → ¬ Touch oj.dst xj q := by
  intro q h1 h2
  rcases h1 with h1 | ⟨m1, e1⟩
  ·exact (htj q h2).2 (by simp [trOf, h1])
  ·rcases h2 with h2 | ⟨m2, e2⟩
   ·exact (hti q (.inr ⟨m1, e1⟩)).2 (by simp [trOf, h2])
   ·obtain ⟨d1, hd1⟩ := dst_some ai m1
    obtain ⟨d2, hd2⟩ := dst_some aj m2
    rw [hd1] at e1
    rw [hd2] at e2
    simp only [Option.getD_some] at e1 e2
    exact hdst d1 hd1 (by rw [hd2]; exact congrArg some (Nat.add_right_cancel (e2.symm.trans e1)))
 refine ⟨s.after oj.dst xj, ⟨xj, dj', hnw wj aj', rfl, by simp only [trOf, hopj]⟩, ⟨xi, di', hnw wi ai', ?_, by simp only [trOf, hopi]⟩⟩
 exact after_comm ki kj hdst (fun q hq ht => (htj q ht).1 (by simp [trOf, hq])) (fun q hq ht => (hti q ht).1 (by simp [trOf, hq])) hdisj
end
end Go.Abs

namespace Go.Abs
section
variable {V : Env} {ops : Array Oper}
theorem eval_skip {s : St} {o : Oper} (y : Operand) (hy : ∀ t, o.dst = some t → y ≠ .tmp t) : evalAV (skipOp o s).tmps y = evalAV s.tmps y := by
 cases y with
 | tmp t =>
  simp only [evalAV, skipOp]
  cases hd : o.dst with
  | none => rfl
  | some d =>
   have : t ≠ d := by rintro rfl; exact hy t hd rfl
   simp only [beq_ne this, cond_false]
 | _ => rfl
theorem operAVs_skip {s : St} {o o2 : Oper} (h : ∀ t, o.dst = some t → .tmp t ∉ o2.op.operands.toList) : operAVs (skipOp o s).tmps o2 = operAVs s.tmps o2 := by
 unfold operAVs
 split
 ·rename_i y i hop
  rw [eval_skip y fun t ht he => h t ht (by rw [hop, he]; simp [Op.operands])]
 ·exact List.map_congr_left fun y hy => eval_skip y fun t ht he => h t ht (he ▸ hy)
theorem skip_after {s : St} {o : Oper} {d : Option Nat} {x : Del} (hr : x.ren = none) (h : ∀ t, d = some t → o.dst ≠ some t) : skipOp o (s.after d x) = (skipOp o s).after d x := by
 refine St.ext' (fun t => ?_) (fun _ => rfl) (fun _ => rfl)
 simp only [skipOp, St.after, hr, renAV]
 cases ho : o.dst with
 | none => rfl
 | some b =>
  cases d with
  | none =>
   by_cases hb : t = b
   ·simp only [beq_iff.2 hb, cond_true, cond_false]; exact (kills_names_nil _ .tnil rfl rfl).symm
   ·simp only [beq_ne hb, cond_false]
  | some a =>
   by_cases hb : t = b
   ·have ha : t ≠ a := by rintro rfl; exact h t rfl (by rw [ho, hb])
    simp only [beq_iff.2 hb, beq_ne ha, cond_true, cond_false]; exact (kills_names_nil _ .tnil rfl rfl).symm
   ·simp only [beq_ne hb, cond_false]
theorem skip_skip {s : St} {o o2 : Oper} : skipOp o (skipOp o2 s) = skipOp o2 (skipOp o s) := by
 refine St.ext' (fun t => ?_) (fun _ => rfl) (fun _ => rfl)
 simp only [skipOp]
 cases o.dst <;> cases o2.dst <;> simp only [cond_false]
 rename_i a b
 cases Nat.beq t a <;> cases Nat.beq t b <;> rfl
theorem runs_skip {oi oj : Oper} {s s1 : St} {tri : Tr} (hb : tri.bar = false) (h : Runs1 V oi s s1 tri) (hdst : ∀ t, oi.dst = some t → oj.dst ≠ some t) (hoi : ∀ t, oj.dst = some t → .tmp t ∉ oi.op.operands.toList) :
  Runs1 V oi (skipOp oj s) (skipOp oj s1) tri := by
 obtain ⟨x, hx, hal, rfl, rfl⟩ := h
 have ho := operAVs_skip (s := s) (o := oj) (o2 := oi) hoi
 have kx := denD_ok hx hb
 exact ⟨x, denD_congr hx ho (fun _ _ => rfl) (fun _ _ => rfl) rfl, hal, skip_after kx.ren hdst, by simp only [trOf, ho]⟩
def idle : Tr := ⟨[], [], none, false, true, false, [], [], false⟩
def SameG (ops : Array Oper) (o : Oper) (s s' : St) : Prop := ∀ j want t, o.guard = some (j, want) → (ops[j]?).bind (·.dst) = some t → ∀ b, gv (s.tmps t) = some b → gv (s'.tmps t) = some b
theorem stp_cases {o : Oper} {s s1 : St} {tr : Tr} (h : Stp V ops o s s1 tr) :
  (Runs1 V o s s1 tr ∧ ∀ s' s1' tr', SameG ops o s s' → Runs1 V o s' s1' tr' → Stp V ops o s' s1' tr') ∨
  (s1 = skipOp o s ∧ tr = idle ∧ ∀ s', SameG ops o s s' → Stp V ops o s' (skipOp o s') idle) := by
 unfold Stp at h
 split at h
 ·rename_i hg
  refine .inl ⟨h, fun s' s1' tr' _ h' => ?_⟩
  unfold Stp; rw [hg]; exact h'
 ·rename_i j want hg
  obtain ⟨t, b, ht, hb, h⟩ := h
  rcases h with ⟨he, h⟩ | ⟨hne, h1, h2⟩
  ·refine .inl ⟨h, fun s' s1' tr' hs h' => ?_⟩
   unfold Stp; rw [hg]
   exact ⟨t, b, ht, hs j want t hg ht b hb, .inl ⟨he, h'⟩⟩
  ·refine .inr ⟨h1, h2, fun s' hs => ?_⟩
   unfold Stp; rw [hg]
   exact ⟨t, b, ht, hs j want t hg ht b hb, .inr ⟨hne, rfl, rfl⟩⟩
theorem imm_after {s : St} {d : Option Nat} {x : Del} (hr : x.ren = none) {t : Nat} (h : ∀ a, d = some a → t ≠ a) {b : Option Bool} : gv ((s.after d x).tmps t) = some b ↔ gv (s.tmps t) = some b := by
 have he : (s.after d x).tmps t = AV.kills (killList (d.getD 0) x) (s.tmps t) := by
  simp only [St.after, hr, renAV]
  cases d with
  | none => rfl
  | some a => simp only [beq_ne (h a rfl), cond_false]
 rw [he]
 constructor
 ·intro hk
  have := kills_alive (killList (d.getD 0) x) (s.tmps t) (by
   revert hk
   generalize AV.kills (killList (d.getD 0) x) (s.tmps t) = a
   intro hk
   unfold gv at hk
   split at hk <;> first | rfl | cases hk)
  rw [← this]; exact hk
 ·intro hk
  have : AV.kills (killList (d.getD 0) x) (s.tmps t) = s.tmps t := by
   revert hk
   generalize s.tmps t = a
   intro hk
   unfold gv at hk
   split at hk <;> first | exact kills_names_nil _ _ rfl rfl | cases hk
  rw [this]; exact hk
theorem imm_skip {s : St} {o : Oper} {t : Nat} (h : ∀ a, o.dst = some a → t ≠ a) : (skipOp o s).tmps t = s.tmps t := by
 simp only [skipOp]
 cases hd : o.dst with
 | none => rfl
 | some a => simp only [beq_ne (h a hd), cond_false]
def NoGuard (ops : Array Oper) (d : Option Nat) (o : Oper) : Prop := ∀ j want t, o.guard = some (j, want) → (ops[j]?).bind (·.dst) = some t → d ≠ some t
theorem swap_stp {oi oj : Oper} {s s1 s2 : St} {tri trj : Tr} (hi : Stp V ops oi s s1 tri) (hj : Stp V ops oj s1 s2 trj) (hc : clash tri trj = false) (hlive : trj.live = true)
  (hdst : ∀ t, oi.dst = some t → oj.dst ≠ some t) (hoj : ∀ t, oi.dst = some t → .tmp t ∉ oj.op.operands.toList) (hoi : ∀ t, oj.dst = some t → .tmp t ∉ oi.op.operands.toList)
  (hgj : NoGuard ops oi.dst oj) (hgi : NoGuard ops oj.dst oi) : ∃ s1', Stp V ops oj s s1' trj ∧ Stp V ops oi s1' s2 tri := by
 have hdst' : ∀ t, oj.dst = some t → oi.dst ≠ some t := fun t h1 h2 => hdst t h2 h1
 have hbars : tri.bar = false ∧ trj.bar = false := by
  simp only [clash, Bool.or_eq_false_iff] at hc
  exact hc.1.1.1.1.1.1.1
 rcases stp_cases hi with ⟨ri, gi⟩ | ⟨rfl, rfl, gi⟩ <;> rcases stp_cases hj with ⟨rj, gj⟩ | ⟨rfl, rfl, gj⟩
 ·obtain ⟨s1', a, b⟩ := swap_runs ri rj hc hlive hdst hoj hoi
  have a0 := a
  obtain ⟨xj, dj, _, rfl, ej⟩ := a0
  obtain ⟨xi, di, _, rfl, ei⟩ := ri
  have ki := denD_ok di (by have h := hbars.1; rw [ei] at h; exact h)
  have kj := denD_ok dj (by have h := hbars.2; rw [ej] at h; exact h)
  refine ⟨_, gj _ _ _ (fun j want t hg ht b h => (imm_after ki.ren fun a ha => ?_).1 h) a, gi _ _ _ (fun j want t hg ht b h => (imm_after kj.ren fun a ha => ?_).2 h) b⟩
  ·rintro rfl; exact hgj j want _ hg ht ha
  ·rintro rfl; exact hgi j want _ hg ht ha
 ·have ri0 := ri
  obtain ⟨xi, di, _, rfl, ei⟩ := ri0
  have ki := denD_ok di (by have h := hbars.1; rw [ei] at h; exact h)
  refine ⟨_, gj s (fun j want t hg ht b h => (imm_after ki.ren fun a ha => ?_).1 h), gi _ _ _ (fun j want t hg ht b h => ?_) (runs_skip hbars.1 ri hdst hoi)⟩
  ·rintro rfl; exact hgj j want _ hg ht ha
  ·rw [imm_skip (fun a ha => by rintro rfl; exact hgi j want _ hg ht ha)]; exact h
 ·obtain ⟨xj, dj, al, rfl, ej⟩ := rj
  have kj := denD_ok dj (by have h := hbars.2; rw [ej] at h; exact h)
  have ho := operAVs_skip (s := s) (o := oi) (o2 := oj) hoj
  have dj' : denD V oj s.tmps s.roots = some xj := denD_congr dj ho.symm (fun _ _ => rfl) (fun _ _ => rfl) rfl
  refine ⟨_, gj s _ _ (fun j want t hg ht b h => ?_) ⟨xj, dj', al, rfl, by rw [ej]; simp only [trOf, ho]⟩, ?_⟩
  ·rw [imm_skip (fun a ha => by rintro rfl; exact hgj j want _ hg ht ha)] at h; exact h
  ·rw [← skip_after kj.ren hdst']
   exact gi _ (fun j want t hg ht b h => (imm_after kj.ren fun a ha => by rintro rfl; exact hgi j want _ hg ht ha).2 h)
 ·refine ⟨_, gj s (fun j want t hg ht b h => ?_), ?_⟩
  ·rw [imm_skip (fun a ha => by rintro rfl; exact hgj j want _ hg ht ha)] at h; exact h
  ·rw [skip_skip]
   exact gi _ (fun j want t hg ht b h => by rw [imm_skip (fun a ha => by rintro rfl; exact hgi j want _ hg ht ha)]; exact h)
def putT (d : Option Nat) (v : AV) (s : St) : St := ⟨fun t => bif (match d with | some d => Nat.beq t d | none => false) then v else s.tmps t, s.roots, s.pins⟩
theorem after_plain' (s : St) (d : Option Nat) (v : AV) (rd : List RName) : s.after d (plainD v rd) = putT d v s := by
 refine St.ext' (fun t => ?_) (fun q => ?_) (fun n => ?_)
 ·simp only [St.after, putT, plainD, killList, renAV, cond_false, AV.kills]
  cases d <;> rfl
 ·simp only [St.after, putT, plainD, lookU, Bool.false_and, cond_false]
 ·simp only [St.after, putT, plainD, List.any_nil, Bool.or_false]
theorem blind_denD {o : Oper} (hb : blindOp o = true) (tm : TF) (rs : RF) : denD V o tm rs = denD0 V o tm rs := by
 unfold denD denOpS denD0 headStore calmOp
 unfold blindOp at hb
 cases ho : o.op <;> rw [ho] at hb <;> first | (cases hb; done) | rfl
theorem blind_den {o : Oper} (hb : blindOp o = true) {tm : TF} {rs : RF} {x : Del} (h : denD V o tm rs = some x) : (∃ v rd, x = plainD v rd) ∧ ∀ rs', denD V o tm rs' = some x := by
 have hx : ∀ rs', denD V o tm rs' = denD V o tm rs := by
  intro rs'
  rw [blind_denD hb, blind_denD hb]
  unfold denD0
  unfold blindOp at hb
  cases ho : o.op <;> rw [ho] at hb <;> first | (cases hb; done) | skip
  all_goals simp only [denOp, ho]
 refine ⟨?_, fun rs' => by rw [hx rs']; exact h⟩
 rw [blind_denD hb] at h
 unfold denD0 at h
 unfold blindOp at hb
 cases ho : o.op <;> rw [ho] at hb <;> first | (cases hb; done) | skip
 all_goals simp only [denOp, ho] at h
 ·cases h; exact ⟨_, _, rfl⟩
 ·split at h
  ·rename_i z t _
   cases t with
   | true => cases h; exact ⟨_, _, rfl⟩
   | false => cases h; exact ⟨_, _, rfl⟩
  ·cases h
 ·obtain ⟨v, h⟩ := av_some (f := fun c => binAV _ _ _ _ c) (f0 := binAV _ _ _ _ some) (binAV_nat _ some) h
  cases h; exact ⟨_, _, rfl⟩
 ·obtain ⟨v, h⟩ := av_some (f := fun c => unAV _ _ c) (f0 := unAV _ _ some) (unAV_nat _ some) h
  cases h; exact ⟨_, _, rfl⟩
 ·obtain ⟨v, h⟩ := av_some (f := fun c => convAV _ _ _ c) (f0 := convAV _ _ _ some) (convAV_nat _ some) h
  cases h; exact ⟨_, _, rfl⟩
 ·rename_i y i
  cases hd : (nthT (evalAV tm y) i).isDead <;> rw [hd] at h
  ·cases h; exact ⟨_, _, rfl⟩
  ·cases h
theorem blind_runs {o : Oper} (hb : blindOp o = true) {s s1 : St} {tr : Tr} (h : Runs1 V o s s1 tr) : ∃ v, s1 = putT o.dst v s ∧ ∀ s', operAVs s'.tmps o = operAVs s.tmps o → Runs1 V o s' (putT o.dst v s') tr := by
 obtain ⟨x, hx, hal, rfl, rfl⟩ := h
 obtain ⟨⟨v, rd, rfl⟩, hrs⟩ := blind_den hb hx
 refine ⟨v, after_plain' _ _ _ _, fun s' hs' => ⟨plainD v rd, denD_congr (hrs s'.roots) hs' (fun _ _ => rfl) (fun _ _ => rfl) rfl, by simp [allowedS, allowed, plainD, memR], (after_plain' _ _ _ _).symm, by simp only [trOf, hs']⟩⟩
theorem blind_stp {o : Oper} (hb : blindOp o = true) {s s1 : St} {tr : Tr} (h : Stp V ops o s s1 tr) : ∃ v, s1 = putT o.dst v s ∧ ∀ s', operAVs s'.tmps o = operAVs s.tmps o → SameG ops o s s' → Stp V ops o s' (putT o.dst v s') tr := by
 rcases stp_cases h with ⟨r, g⟩ | ⟨rfl, rfl, g⟩
 ·obtain ⟨v, h1, h2⟩ := blind_runs hb r
  exact ⟨v, h1, fun s' hs' hg => g s' _ _ hg (h2 s' hs')⟩
 ·exact ⟨.tnil, rfl, fun s' _ hg => g s' hg⟩
def uRoots (u : U) (rs : RF) : RF := fun q => match lookU q u with
 | some y => y
 | none => rs q
theorem quiet_stp {o : Oper} {s s1 : St} {tr : Tr} (hq : tr.qt = true) (h : Stp V ops o s s1 tr) : ∃ u : U, s1 = ⟨s.tmps, uRoots u s.roots, s.pins⟩ ∧ o.dst = none ∧ ∀ s', operAVs s'.tmps o = operAVs s.tmps o → s'.roots = s.roots → SameG ops o s s' → Stp V ops o s' ⟨s'.tmps, uRoots u s'.roots, s'.pins⟩ tr := by
 rcases stp_cases h with ⟨r, g⟩ | ⟨rfl, rfl, g⟩
 ·obtain ⟨x, hx, hal, rfl, rfl⟩ := r
  have hq : quietD o.dst x = true := hq
  simp only [quietD, Bool.and_eq_true, Bool.not_eq_true', Option.isNone_iff_eq_none, List.isEmpty_iff] at hq
  obtain ⟨⟨⟨⟨⟨h1, h2⟩, h3⟩, h4⟩, h5⟩, h6⟩ := hq
  have haft : ∀ s' : St, s'.after o.dst x = ⟨s'.tmps, uRoots x.u s'.roots, s'.pins⟩ := by
   intro s'
   refine St.ext' (fun t => ?_) (fun q => ?_) (fun n => ?_)
   ·simp only [St.after, h1, h2, h3, h4, killList, renAV, cond_false, AV.kills]
   ·simp only [St.after, uRoots, h3, Bool.false_and, cond_false]; rfl
   ·simp only [St.after, h5, List.any_nil, Bool.or_false]
  refine ⟨x.u, haft s, h1, fun s' ho hr hg => ?_⟩
  refine g s' _ _ hg ⟨x, ?_, by simp [allowedS, allowed, h3, h4, h6], (haft s').symm, by simp only [trOf, ho]⟩
  exact denD_congr hx ho (fun q _ => by rw [hr]) (fun q _ => by rw [hr]) (by rw [hr])
 ·cases hq
theorem put_gv {s : St} {d : Option Nat} {v : AV} {t : Nat} (h : d ≠ some t) : (putT d v s).tmps t = s.tmps t := by
 simp only [putT]
 cases d with
 | none => rfl
 | some a =>
  have : t ≠ a := by rintro rfl; exact h rfl
  simp only [beq_ne this, cond_false]
theorem put_opers {s : St} {d : Option Nat} {v : AV} {o : Oper} (h : ∀ t, d = some t → .tmp t ∉ o.op.operands.toList) : operAVs (putT d v s).tmps o = operAVs s.tmps o := by
 have key : ∀ y ∈ o.op.operands.toList, evalAV (putT d v s).tmps y = evalAV s.tmps y := fun y hy => by
  cases y with
  | tmp t =>
   simp only [evalAV]
   exact put_gv fun hd => h t hd hy
  | _ => rfl
 unfold operAVs
 split
 ·rename_i y i hop
  rw [key y (by rw [hop]; simp [Op.operands])]
 ·exact List.map_congr_left key
theorem swap_q {oi oj : Oper} {s s1 s2 : St} {tri trj : Tr} (hi : Stp V ops oi s s1 tri) (hj : Stp V ops oj s1 s2 trj) (hq : (blindOp oi = true ∧ trj.qt = true) ∨ (tri.qt = true ∧ blindOp oj = true))
  (hoj : ∀ t, oi.dst = some t → .tmp t ∉ oj.op.operands.toList) (hoi : ∀ t, oj.dst = some t → .tmp t ∉ oi.op.operands.toList) (hgj : NoGuard ops oi.dst oj) (hgi : NoGuard ops oj.dst oi) :
  ∃ s1', Stp V ops oj s s1' trj ∧ Stp V ops oi s1' s2 tri := by
 rcases hq with ⟨hb, hq⟩ | ⟨hq, hb⟩
 ·obtain ⟨v, rfl, g1⟩ := blind_stp hb hi
  obtain ⟨u, rfl, hd, g2⟩ := quiet_stp hq hj
  refine ⟨_, g2 s (put_opers hoj).symm rfl (fun j want t hg ht b h => ?_), ?_⟩
  ·rw [put_gv (hgj j want t hg ht)] at h; exact h
  ·exact g1 ⟨s.tmps, uRoots u s.roots, s.pins⟩ rfl (fun j want t hg ht b h => h)
 ·obtain ⟨u, rfl, hd, g1⟩ := quiet_stp hq hi
  obtain ⟨v, rfl, g2⟩ := blind_stp hb hj
  refine ⟨_, g2 s rfl (fun j want t hg ht b h => h), ?_⟩
  exact g1 (putT oj.dst v s) (put_opers hoi) rfl (fun j want t hg ht b h => by rw [put_gv (hgi j want t hg ht)]; exact h)
theorem still_kills {ks : List Kill} : ∀ {a : AV}, a.still ks = true → AV.kills ks a = a := by
 intro a
 induction a with
 | pair a b iha ihb => intro h; simp only [AV.still, Bool.and_eq_true] at h; rw [kills_pair, iha h.1, ihb h.2]
 | tcons a b iha ihb => intro h; simp only [AV.still, Bool.and_eq_true] at h; rw [kills_tcons, iha h.1, ihb h.2]
 | _ =>
  intro h
  simp only [AV.still, Bool.not_eq_true'] at h
  rw [kills_leaf _ _ rfl, h]; rfl
theorem stillAll_mem {ks : List Kill} : ∀ {l : List AV}, stillAll ks l = true → ∀ a ∈ l, a.still ks = true := by
 intro l
 induction l with
 | nil => intro _ a ha; cases ha
 | cons b l ih =>
  intro h a ha
  simp only [stillAll, Bool.and_eq_true] at h
  rcases List.mem_cons.1 ha with rfl | ha
  ·exact h.1
  ·exact ih h.2 a ha
theorem blind_stp2 {o : Oper} (hb : blindOp o = true) {s s1 : St} {tr : Tr} {ks : List Kill} (L : Prop) (hl : L → tr.live = true) (hst : stillAll ks tr.av = true) (h : Stp V ops o s s1 tr) :
  ∃ v, s1 = putT o.dst v s ∧ AV.kills ks v = v ∧ ∀ s', ((operAVs s.tmps o).map (AV.kills ks) = operAVs s.tmps o → (L → allAlive (operAVs s.tmps o) = true) → operAVs s'.tmps o = operAVs s.tmps o) → SameG ops o s s' → Stp V ops o s' (putT o.dst v s') tr := by
 rcases stp_cases h with ⟨r, g⟩ | ⟨rfl, rfl, g⟩
 ·obtain ⟨x, hx, hal, rfl, rfl⟩ := r
  obtain ⟨⟨v, rd, rfl⟩, hrs⟩ := blind_den hb hx
  have hmem := stillAll_mem hst
  refine ⟨v, after_plain' _ _ _ _, still_kills (hmem v (by simp [trOf, plainD])), fun s' hs' hg => ?_⟩
  have hop : operAVs s'.tmps o = operAVs s.tmps o := hs' ((List.map_congr_left fun a ha => still_kills (hmem a (by simp only [trOf, List.mem_cons]; exact .inr ha))).trans (List.map_id _)) fun hL => hl hL
  exact g s' _ _ hg ⟨plainD v rd, denD_congr (hrs s'.roots) hop (fun _ _ => rfl) (fun _ _ => rfl) rfl, by simp [allowedS, allowed, plainD, memR], (after_plain' _ _ _ _).symm, by simp only [trOf, hop]⟩
 ·exact ⟨.tnil, rfl, kills_names_nil _ _ rfl rfl, fun s' _ hg => g s' hg⟩
theorem put_after {s : St} {d d2 : Option Nat} {x : Del} {v : AV} (hr : x.ren = none) (hv : AV.kills (killList (d2.getD 0) x) v = v) (hdst : ∀ t, d = some t → d2 ≠ some t) :
  (putT d v s).after d2 x = putT d v (s.after d2 x) := by
 refine St.ext' (fun t => ?_) (fun q => rfl) (fun n => rfl)
 by_cases hti : d = some t
 ·have htj := hdst t hti
  have h1 : (putT d v (s.after d2 x)).tmps t = v := by simp only [putT, hti, beq_iff.2 rfl, cond_true]
  have h2 : (putT d v s).tmps t = v := by simp only [putT, hti, beq_iff.2 rfl, cond_true]
  rw [h1]
  simp only [St.after, hr, renAV, h2]
  cases hd : d2 with
  | none => simp only [cond_false]; rw [hd] at hv; exact hv
  | some b =>
   have : t ≠ b := by rintro rfl; exact htj hd
   simp only [beq_ne this, cond_false]; rw [hd] at hv; exact hv
 ·rw [put_gv hti]
  simp only [St.after, put_gv hti]
theorem put_skip {s : St} {d : Option Nat} {o : Oper} {v : AV} (hdst : ∀ t, d = some t → o.dst ≠ some t) : skipOp o (putT d v s) = putT d v (skipOp o s) := by
 refine St.ext' (fun t => ?_) (fun q => rfl) (fun n => rfl)
 simp only [skipOp, putT]
 cases hd : d <;> cases hd2 : o.dst <;> simp only [cond_false]
 rename_i a b
 by_cases ha : t = a
 ·have : t ≠ b := by rintro rfl; exact hdst t (by rw [hd, ha]) hd2
  simp only [beq_ne this, cond_false]
 ·simp only [beq_ne ha, cond_false]
theorem swap_b {oi oj : Oper} {s s1 s2 : St} {tri trj : Tr} (hi : Stp V ops oi s s1 tri) (hj : Stp V ops oj s1 s2 trj) (hb : blindOp oi = true) (hbar : trj.rn = false) (hst : stillAll trj.ks tri.av = true)
  (hdst : ∀ t, oi.dst = some t → oj.dst ≠ some t) (hoj : ∀ t, oi.dst = some t → .tmp t ∉ oj.op.operands.toList) (hoi : ∀ t, oj.dst = some t → .tmp t ∉ oi.op.operands.toList) (hgj : NoGuard ops oi.dst oj) (hgi : NoGuard ops oj.dst oi) :
  ∃ s1', Stp V ops oj s s1' trj ∧ Stp V ops oi s1' s2 tri := by
 obtain ⟨v, rfl, hv, g1⟩ := blind_stp2 hb False (fun h => h.elim) hst hi
 have hback : SameG ops oj (putT oi.dst v s) s := fun j want t hg ht b h => by
  rw [put_gv (hgj j want t hg ht)] at h; exact h
 have hopj : operAVs (putT oi.dst v s).tmps oj = operAVs s.tmps oj := put_opers hoj
 rcases stp_cases hj with ⟨rj, gj⟩ | ⟨rfl, rfl, gj⟩
 ·obtain ⟨x, hx, hal, rfl, rfl⟩ := rj
  have kj : x.ren = none := Option.isNone_iff_eq_none.1 (by have h : x.ren.isSome = false := hbar; simpa using h)
  have hv : AV.kills (killList (oj.dst.getD 0) x) v = v := hv
  have hx' : denD V oj s.tmps s.roots = some x := denD_congr hx hopj.symm (fun _ _ => rfl) (fun _ _ => rfl) rfl
  have hslot : ∀ t, oj.dst ≠ some t → (s.after oj.dst x).tmps t = AV.kills (killList (oj.dst.getD 0) x) (s.tmps t) := by
   intro t ht
   simp only [St.after, kj, renAV]
   cases hd : oj.dst with
   | none => rfl
   | some d =>
    have : t ≠ d := by rintro rfl; exact ht hd
    simp only [beq_ne this, cond_false]
  refine ⟨s.after oj.dst x, gj s _ _ hback ⟨x, hx', hal, rfl, by simp only [trOf, hopj]⟩, ?_⟩
  have hfin := put_after (s := s) kj hv hdst
  rw [hfin]
  refine g1 _ (fun hk _ => by rw [operAVs_after kj oi hoi]; exact hk) (fun j want t hg ht b h => ?_)
  ·exact (imm_after kj fun a ha => by rintro rfl; exact hgi j want _ hg ht ha).2 h
 ·refine ⟨skipOp oj s, gj s hback, ?_⟩
  have hfin := put_skip (s := s) (v := v) hdst
  rw [hfin]
  refine g1 _ (fun _ _ => operAVs_skip hoi) (fun j want t hg ht b h => ?_)
  rw [imm_skip (fun a ha => by rintro rfl; exact hgi j want _ hg ht ha)]; exact h
theorem swap_b2 {oi oj : Oper} {s s1 s2 : St} {tri trj : Tr} (hi : Stp V ops oi s s1 tri) (hj : Stp V ops oj s1 s2 trj) (hb : blindOp oj = true) (hbar : tri.rn = false) (hlive : trj.live = true) (hst : stillAll tri.ks trj.av = true)
  (hdst : ∀ t, oi.dst = some t → oj.dst ≠ some t) (hoj : ∀ t, oi.dst = some t → .tmp t ∉ oj.op.operands.toList) (hoi : ∀ t, oj.dst = some t → .tmp t ∉ oi.op.operands.toList) (hgj : NoGuard ops oi.dst oj) (hgi : NoGuard ops oj.dst oi) :
  ∃ s1', Stp V ops oj s s1' trj ∧ Stp V ops oi s1' s2 tri := by
 have hdst' : ∀ t, oj.dst = some t → oi.dst ≠ some t := fun t h1 h2 => hdst t h2 h1
 obtain ⟨v, rfl, hv, g1⟩ := blind_stp2 hb True (fun _ => hlive) hst hj
 rcases stp_cases hi with ⟨ri, gi⟩ | ⟨rfl, rfl, gi⟩
 ·obtain ⟨x, hx, hal, rfl, rfl⟩ := ri
  have ki : x.ren = none := Option.isNone_iff_eq_none.1 (by have h : x.ren.isSome = false := hbar; simpa using h)
  have hv : AV.kills (killList (oi.dst.getD 0) x) v = v := hv
  refine ⟨putT oj.dst v s, g1 s (fun _ ha => ?_) (fun j want t hg ht b h => ?_), ?_⟩
  ·have ha := ha trivial
   rw [operAVs_after ki oj hoj] at ha ⊢
   exact (allAlive_kills _ _ ha).symm
  ·exact (imm_after ki fun a ha => by rintro rfl; exact hgj j want _ hg ht ha).1 h
  ·rw [← put_after ki hv hdst']
   have hop : operAVs (putT oj.dst v s).tmps oi = operAVs s.tmps oi := put_opers hoi
   exact gi _ _ _ (fun j want t hg ht b h => by rw [put_gv (hgi j want t hg ht)]; exact h) ⟨x, denD_congr hx hop (fun _ _ => rfl) (fun _ _ => rfl) rfl, hal, rfl, by simp only [trOf, hop]⟩
 ·refine ⟨putT oj.dst v s, g1 s (fun _ _ => (operAVs_skip hoj).symm) (fun j want t hg ht b h => ?_), ?_⟩
  ·rw [imm_skip (fun a ha => by rintro rfl; exact hgj j want _ hg ht ha)] at h; exact h
  ·rw [← put_skip hdst']
   exact gi _ (fun j want t hg ht b h => by rw [put_gv (hgi j want t hg ht)]; exact h)
end
end Go.Abs

namespace Go.Abs
section
variable {V : Env} {ops : Array Oper}
structure Free2 (ops : Array Oper) (ok oi : Oper) (trk tri : Tr) : Prop where
 how : (clash trk tri = false ∧ tri.live = true) ∨ (blindOp ok = true ∧ tri.qt = true) ∨ (trk.qt = true ∧ blindOp oi = true) ∨ (blindOp ok = true ∧ tri.rn = false ∧ stillAll tri.ks trk.av = true) ∨ (blindOp oi = true ∧ trk.rn = false ∧ tri.live = true ∧ stillAll trk.ks tri.av = true)
 dst : ∀ t, ok.dst = some t → oi.dst ≠ some t
 opj : ∀ t, ok.dst = some t → .tmp t ∉ oi.op.operands.toList
 opi : ∀ t, oi.dst = some t → .tmp t ∉ ok.op.operands.toList
 gj : NoGuard ops ok.dst oi
 gi : NoGuard ops oi.dst ok
theorem bubble {i : Nat} {tri : Tr} {post : List (Nat × Tr)} {s' : St} : ∀ (pre : List (Nat × Tr)) {s : St}, (∀ x ∈ pre, ∀ ok oi, ops[x.1]? = some ok → ops[i]? = some oi → Free2 ops ok oi x.2 tri) → RunsL V ops (pre ++ (i, tri) :: post) s s' → RunsL V ops ((i, tri) :: (pre ++ post)) s s' := by
 intro pre
 induction pre with
 | nil => intro s _ h; exact h
 | cons x pre ih =>
  intro s hf h
  obtain ⟨k, trk⟩ := x
  rw [List.cons_append] at h
  cases h with
  | cons hk h1 ht =>
   have h2 := ih (fun x hx => hf x (by simp [hx])) ht
   cases h2 with
   | cons hi h3 ht2 =>
    have F := hf (k, trk) (by simp) _ _ hk hi
    obtain ⟨s1', a, b⟩ : ∃ s1', Stp V ops _ _ s1' _ ∧ Stp V ops _ s1' _ _ := by
     rcases F.how with ⟨c1, c2⟩ | hq | hq | ⟨c1, c2, c3⟩ | ⟨c1, c2, c3, c4⟩
     ·exact swap_stp h1 h3 c1 c2 F.dst F.opj F.opi F.gj F.gi
     ·exact swap_q h1 h3 (.inl hq) F.opj F.opi F.gj F.gi
     ·exact swap_q h1 h3 (.inr hq) F.opj F.opi F.gj F.gi
     ·exact swap_b h1 h3 c1 c2 c3 F.dst F.opj F.opi F.gj F.gi
     ·exact swap_b2 h1 h3 c1 c2 c3 c4 F.dst F.opj F.opi F.gj F.gi
    exact .cons hi a (.cons hk b ht2)
theorem denOps_runs {R : Type} {r : R} {c : St → List Tr → Option R} : ∀ (l : List Oper) (k : Nat), ops.toList.drop k = l → ∀ {s : St} {accs : List Tr}, denOps V ops.toList l s accs c = some r →
  ∃ s' trs, trs.length = l.length ∧ c s' (trs.reverse ++ accs) = some r ∧ RunsL V ops ((List.range' k l.length).zip trs) s s' := by
 intro l
 induction l with
 | nil => intro k _ s accs h; exact ⟨s, [], rfl, h, .nil s⟩
 | cons o l ih =>
  intro k hk s accs h
  have hok : ops[k]? = some o := by
   rw [← Array.getElem?_toList]
   have := congrArg (·[0]?) hk
   simpa using this
  have hk' : ops.toList.drop (k + 1) = l := by
   rw [← List.drop_drop, hk]; rfl
  simp only [denOps] at h
  obtain ⟨s1, tr, h1, h2⟩ := denGuard_step h
  obtain ⟨s', trs, h3, h4, h5⟩ := ih (k + 1) hk' h1
  refine ⟨s', tr :: trs, by simp [h3], by simpa using h4, ?_⟩
  exact .cons hok h2 h5
theorem Rel.drawn {w0 w : World} {M0 : BS} {n : Nat} {C0 C : Ctx} {s : St} {a : Act} (R : Rel w0 M0 n C0 C s a w) (k : Nat) : Rel w0 M0 n C0 C s a { w with drawn := k } where
 ext := R.ext
 mem := ⟨fun q y h => (R.mem.ok q y h).keep rfl rfl rfl rfl rfl (fun _ _ => rfl) (fun _ _ => rfl), R.mem.disj, R.mem.apart, R.mem.ro, R.mem.ptr⟩
 tm := fun t => by
  rw [← kills_nil (s.tmps t)]
  exact VRel.step (w' := { w with drawn := k }) (xs := []) (fun av vs hl _ hav => leaf_keep (w' := { w with drawn := k }) R.mem (fun _ => False) rfl rfl (fun _ _ => rfl) (fun _ _ => rfl) (fun q y _ hy => hy) (fun _ _ => rfl) hl (fun _ _ h => h) hav) (R.tm t)
 kept := ⟨R.kept.os, R.kept.tape, R.kept.output, R.kept.size, R.kept.block⟩
 foot := R.foot
 pins := R.pins
 defers := R.defers
 room := R.room
 parρ := R.parρ
 zn := R.zn
end
end Go.Abs

namespace Go.Abs
variable {Γ : Glb}
section
variable {V : Env} {ops : Array Oper}
theorem below_iff {n : Nat} : ∀ {l : List Nat}, below n l = true ↔ ∀ k ∈ l, k < n := by
 intro l
 induction l with
 | nil => simp [below]
 | cons x l ih =>
  simp only [below, Bool.and_eq_true, ih, List.forall_mem_cons]
  constructor
  ·rintro ⟨h, h2⟩; exact ⟨Nat.le_of_ble_eq_true h, h2⟩
  ·rintro ⟨h, h2⟩; exact ⟨Nat.ble_eq_true_of_le h, h2⟩
theorem predsOk_spec : ∀ (l : List Oper) (k : Nat), predsOk l k = true → ∀ i o, l[i]? = some o → ∀ p ∈ preds o, p < k + i := by
 intro l
 induction l with
 | nil => intro k _ i o h; simp at h
 | cons x l ih =>
  intro k h i o ho p hp
  simp only [predsOk, Bool.and_eq_true] at h
  cases i with
  | zero => simp only [List.getElem?_cons_zero, Option.some.injEq] at ho; subst ho; simpa using below_iff.1 h.1 p hp
  | succ i => have := ih (k + 1) h.2 i o (by simpa using ho) p hp; omega
def Closed (ops : List Oper) (S : Nat → Prop) : Prop := ∀ j o, ops[j]? = some o → S j → ∀ p ∈ preds o, S p
theorem hasBit_eq (n m : Nat) : hasBit n m = m.testBit n := by
 have h : Nat.land (Nat.shiftRight m n) 1 = (m >>> n) &&& 1 := rfl
 unfold hasBit Nat.testBit
 rw [h, Nat.and_comm 1]
 have : (m >>> n) &&& 1 = (m >>> n) % 2 := Nat.and_one_is_mod _
 rw [this]
 rcases Nat.mod_two_eq_zero_or_one (m >>> n) with h | h <;> rw [h] <;> rfl
theorem hasBit_zero (n : Nat) : hasBit n 0 = false := by rw [hasBit_eq]; simp
theorem hasBit_lor (n a b : Nat) : hasBit n (Nat.lor a b) = (hasBit n a || hasBit n b) := by
 simp only [hasBit_eq]
 exact Nat.testBit_or a b n
theorem hasBit_shl {n k : Nat} (h : hasBit n (Nat.shiftLeft 1 k) = true) : n = k := by
 rw [hasBit_eq, show Nat.shiftLeft 1 k = 2 ^ k by rw [show Nat.shiftLeft 1 k = 1 <<< k from rfl, Nat.one_shiftLeft], Nat.testBit_two_pow] at h
 exact (of_decide_eq_true h).symm
theorem ancOf_spec {S : Nat → Prop} {t : List Nat} (ht : ∀ j, S j → ∀ k, hasBit k (t.getD j 0) = true → S k) : ∀ (l : List Nat), (∀ p ∈ l, S p) → ∀ k, hasBit k (ancOf t l) = true → S k := by
 intro l
 induction l with
 | nil => intro _ k h; simp only [ancOf, hasBit_zero] at h; cases h
 | cons x l ih =>
  intro hl k hk
  simp only [ancOf, hasBit_lor, Bool.or_eq_true] at hk
  rcases hk with (hk | hk) | hk
  ·rw [hasBit_shl hk]; exact hl _ (by simp)
  ·exact ht x (hl x (by simp)) k hk
  ·exact ih (fun p hp => hl p (by simp [hp])) k hk
theorem ancs_spec {all : List Oper} {S : Nat → Prop} (hS : Closed all S) : ∀ (l : List Oper) (t : List Nat), all.drop t.length = l → (∀ j o, all[j]? = some o → (∀ p ∈ preds o, S p) → ∀ k, hasBit k (t.getD j 0) = true → S k) →
  ∀ j o, all[j]? = some o → (∀ p ∈ preds o, S p) → ∀ k, hasBit k ((ancs l t).getD j 0) = true → S k := by
 intro l
 induction l with
 | nil => intro t _ ht; exact ht
 | cons o l ih =>
  intro t hl ht
  have hot : all[t.length]? = some o := by
   have := congrArg (·[0]?) hl
   simpa using this
  refine ih _ (by rw [List.length_append]; show all.drop (t.length + 1) = l; rw [← List.drop_drop, hl]; rfl) (fun j oj hoj hpj k hk => ?_)
  rw [List.getD_eq_getElem?_getD] at hk
  rcases Nat.lt_trichotomy j t.length with h | h | h
  ·rw [List.getElem?_append_left h] at hk
   exact ht j oj hoj hpj k (by rw [List.getD_eq_getElem?_getD]; exact hk)
  ·subst h
   rw [hot] at hoj
   cases hoj
   simp only [List.length_append, Nat.lt_irrefl, not_false_eq_true, List.getElem?_append_right (Nat.le_refl _), Nat.sub_self, List.getElem?_cons_zero, Option.getD_some] at hk
   refine ancOf_spec (S := S) (fun j hj k hk => ?_) _ hpj k hk
   cases haj : all[j]? with
   | some oj => exact ht j oj haj (hS j oj haj hj) k hk
   | none =>
    have h1 : t.length ≤ j := by
     have h2 := List.getElem?_eq_none_iff.1 haj
     have h3 := (List.getElem?_eq_some_iff.1 hot).1
     omega
    rw [List.getD_eq_getElem?_getD, List.getElem?_eq_none h1, Option.getD_none, hasBit_zero] at hk
    cases hk
  ·rw [List.getElem?_eq_none (by simp; omega), Option.getD_none, hasBit_zero] at hk
   cases hk
theorem apartT_spec {x y : Oper} (h : apartT ops x y = true) : (∀ t, x.dst = some t → y.dst ≠ some t) ∧ (∀ t, x.dst = some t → .tmp t ∉ y.op.operands.toList) ∧ NoGuard ops x.dst y := by
 unfold apartT at h
 cases hx : x.dst with
 | none => exact ⟨by simp, by simp, fun j want t _ _ h => by cases h⟩
 | some d =>
  rw [hx] at h
  simp only [Bool.and_eq_true, Bool.not_eq_true', bne_iff_ne, ne_eq] at h
  obtain ⟨h1, h2⟩ := h
  have h1 : d ∉ looksAt' ops y := by intro hm; rw [List.contains_iff_mem.2 hm] at h1; cases h1
  unfold looksAt' at h1
  rw [List.mem_append, not_or] at h1
  refine ⟨fun t ht => by cases ht; exact h2, fun t ht hm => ?_, fun j want t hg ht h => ?_⟩
  ·cases ht
   exact h1.1 (List.mem_filterMap.2 ⟨.tmp d, hm, rfl⟩)
  ·cases h
   refine h1.2 ?_
   rw [hg]
   simp [ht]
theorem freeWith_spec {o : Oper} {a : Tr} {anc : Nat} : ∀ (l : List (Oper × Tr)) (k : Nat), freeWith ops o a anc l k = true → ∀ j x, l[j]? = some x → hasBit (k + j) anc = false → Free2 ops x.1 o x.2 a := by
 intro l
 induction l with
 | nil => intro k _ j x h; simp at h
 | cons y l ih =>
  intro k h j x hx hn
  obtain ⟨o', a'⟩ := y
  simp only [freeWith, Bool.and_eq_true, Bool.or_eq_true, Bool.not_eq_true'] at h
  cases j with
  | succ j => exact ih (k + 1) h.2 j x (by simpa using hx) (by rw [show k + 1 + j = k + (j + 1) by omega]; exact hn)
  | zero =>
   simp only [List.getElem?_cons_zero, Option.some.injEq] at hx
   subst hx
   rcases h.1 with h1 | ⟨⟨h1, h2⟩, h3⟩
   ·rw [Nat.add_zero, h1] at hn; cases hn
   ·obtain ⟨p1, p2, p3⟩ := apartT_spec h2
    obtain ⟨_, q2, q3⟩ := apartT_spec h3
    refine ⟨?_, p1, p2, q2, p3, q3⟩
    rcases h1 with (((⟨c1, c2⟩ | ⟨c1, c2⟩) | ⟨c1, c2⟩) | ⟨c1, c2, c3⟩) | ⟨c1, c2, c3, c4⟩
    ·exact .inl ⟨c1, c2⟩
    ·exact .inr (.inl ⟨c1, c2⟩)
    ·exact .inr (.inr (.inl ⟨c1, c2⟩))
    ·exact .inr (.inr (.inr (.inl ⟨c1, c2, c3⟩)))
    ·exact .inr (.inr (.inr (.inr ⟨c1, c2, c3, c4⟩)))
theorem freeAll_spec {anc : List Nat} : ∀ (l done : List (Oper × Tr)), freeAll ops anc l done done.length = true → ∀ i j x y, (done ++ l)[i]? = some x → done.length ≤ i → j < i → (done ++ l)[j]? = some y → hasBit j (anc.getD i 0) = false → Free2 ops y.1 x.1 y.2 x.2 := by
 intro l
 induction l with
 | nil => intro done _ i j x y hx hi; rw [List.append_nil] at hx; rw [List.getElem?_eq_none hi] at hx; cases hx
 | cons z l ih =>
  intro done h i j x y hx hi hj hy hn
  obtain ⟨o, a⟩ := z
  simp only [freeAll, Bool.and_eq_true] at h
  by_cases he : i = done.length
  ·subst he
   rw [List.getElem?_append_right (Nat.le_refl _)] at hx
   simp only [Nat.sub_self, List.getElem?_cons_zero, Option.some.injEq] at hx
   subst hx
   rw [List.getElem?_append_left hj] at hy
   exact freeWith_spec done 0 h.1 j y hy (by rw [Nat.zero_add]; exact hn)
  ·refine ih (done ++ [(o, a)]) (by rw [List.length_append]; exact h.2) i j x y (by rw [List.append_assoc]; exact hx) (by simp; omega) hj (by rw [List.append_assoc]; exact hy) hn
theorem mem_preds {o : Oper} {p : Nat} : p ∈ preds o ↔ ∃ e ∈ o.after, Region.binds .any e = true ∧ e.on = p := by
 unfold preds
 simp only [List.mem_map, List.mem_filter, Array.mem_toList_iff]
 constructor
 ·rintro ⟨e, ⟨h1, h2⟩, h3⟩; exact ⟨e, h1, h2, h3⟩
 ·rintro ⟨e, h1, h2, h3⟩; exact ⟨e, ⟨h1, h2⟩, h3⟩
variable {P : Program} {w0 : World} {M0 : BS} {n : Nat} {C0 : Ctx}
theorem runs_any (hT : TysOK P V) (hE : EnvG P Γ V w0 M0 C0) (hd : ∀ o ∈ ops.toList, ∀ d, o.dst = some d → d < n) (hpo : predsOk ops.toList 0 = true) {Q : Exit → Act → World → Prop} {sf : St}
  (hQ : ∀ a' w' C', Rel2 w0 M0 n C0 C' sf a' w' → Q .normal a' w') : ∀ (fuel : Nat) (L : List (Nat × Tr)) (s : St) (listed : Array Bool) (a : Act) (w : World) (C : Ctx), L.length = fuel → RunsL V ops L s sf →
  (L.map (·.1)).Pairwise (· < ·) → listed.size = ops.size → (∀ j, j < ops.size → (listed.getD j true = false ↔ j ∈ L.map (·.1))) →
  (∀ i o, ops[i]? = some o → listed.getD i true = true → ∀ p ∈ preds o, listed.getD p true = true) →
  (∀ i j tri trj oi oj, (i, tri) ∈ L → (j, trj) ∈ L → j < i → ops[i]? = some oi → ops[j]? = some oj → hasBit j ((ancs ops.toList []).getD i 0) = false → Free2 ops oj oi trj tri) →
  Rel2 w0 M0 n C0 C s a w → wpAny P .any ops Q fuel listed a w := by
 intro fuel
 induction fuel with
 | zero =>
  intro L s listed a w C hlen hR hp hsz hl hc hf R
  have hL : L = [] := List.eq_nil_of_length_eq_zero hlen
  subst hL
  cases hR
  refine ⟨?_, hQ _ _ _ R⟩
  rw [List.eq_nil_iff_forall_not_mem]
  intro j hj
  rw [mem_ready] at hj
  obtain ⟨h0, o, ho, _⟩ := hj
  have := (hl j (Array.getElem?_eq_some_iff.1 ho).1).1 h0
  simp at this
 | succ fuel ih =>
  intro L s listed a w C hlen hR hp hsz hl hc hf R
  -- which are ready
  have hgd : ∀ p, p < ops.size → listed.getD p false = listed.getD p true := by
   intro p hp
   simp [hsz, hp]
  refine ⟨fun hnil => ?_, fun i hi => ?_⟩
  ·-- the first one is
   exfalso
   cases L with
   | nil => simp at hlen
   | cons x L =>
    obtain ⟨i, tr⟩ := x
    cases hR with
    | cons hi h1 ht =>
     have hlt := (Array.getElem?_eq_some_iff.1 hi).1
     have : i ∈ Region.ready .any ops listed := by
      rw [mem_ready]
      refine ⟨(hl i hlt).2 (by simp), _, hi, fun e he hb => ?_⟩
      have hpl := predsOk_spec _ 0 hpo i _ (by rw [Array.getElem?_toList]; exact hi) e.on (mem_preds.2 ⟨e, he, hb, rfl⟩)
      rw [Nat.zero_add] at hpl
      rw [hgd _ (by omega)]
      cases hh : listed.getD e.on true with
      | true => rfl
      | false =>
       have := (hl e.on (by omega)).1 hh
       simp only [List.map_cons, List.mem_cons] at this
       rcases this with h | h
       ·omega
       ·have := List.rel_of_pairwise_cons hp h
        simp at this; omega
     rw [hnil] at this
     cases this
  ·have hi0 := mem_ready.1 hi
   obtain ⟨h0, oi, hoi, hall⟩ := hi0
   have hlt := (Array.getElem?_eq_some_iff.1 hoi).1
   obtain ⟨x, hx, hxi⟩ := List.mem_map.1 ((hl i hlt).1 h0)
   obtain ⟨i', tri⟩ := x
   cases hxi
   obtain ⟨pre, post, rfl⟩ := List.append_of_mem hx
   have hpreds : ∀ p ∈ preds oi, listed.getD p true = true := by
    intro p hp
    obtain ⟨e, he, hb, rfl⟩ := mem_preds.1 hp
    have hpl := predsOk_spec _ 0 hpo i' _ (by rw [Array.getElem?_toList]; exact hoi) e.on hp
    have := hall e he hb
    rw [hgd _ (by omega)] at this
    exact this
   have hanc : ∀ k, hasBit k ((ancs ops.toList []).getD i' 0) = true → listed.getD k true = true :=
    ancs_spec (all := ops.toList) (S := fun k => listed.getD k true = true) (fun j o ho hs p hp => hc j o (by rw [← Array.getElem?_toList]; exact ho) hs p hp) ops.toList [] (by simp) (fun j o _ _ k hk => by simp [hasBit_zero] at hk) i' oi (by rw [Array.getElem?_toList]; exact hoi) hpreds
   have hpw := hp
   rw [List.map_append, List.map_cons, List.pairwise_append] at hp
   have hb := bubble pre (fun x hx ok oi' hok hoi' => by
    obtain ⟨k, trk⟩ := x
    have hk : k ∈ (pre ++ (i', tri) :: post).map (·.1) := List.mem_map.2 ⟨(k, trk), by simp [hx], rfl⟩
    refine hf i' k tri trk oi' ok (by simp) (by simp [hx]) (hp.2.2 k (List.mem_map.2 ⟨_, hx, rfl⟩) i' (by simp)) hoi' hok (Bool.eq_false_iff.2 fun hm => ?_)
    have h1 := hanc k hm
    rw [(hl k (Array.getElem?_eq_some_iff.1 hok).1).2 hk] at h1
    cases h1) hR
   cases hb with
   | cons hi1 hst hrest =>
    rw [hoi] at hi1
    cases hi1
    have hnot : i' ∉ (pre ++ post).map (·.1) := by
     intro hm
     rw [List.map_append, List.mem_append] at hm
     rcases hm with hm | hm
     ·have := hp.2.2 i' hm i' (by simp); omega
     ·have := List.rel_of_pairwise_cons hp.2.1 hm; omega
    refine stp_sound hT hE hoi R (hd oi (List.mem_of_getElem? (by rw [Array.getElem?_toList]; exact hoi))) hst _ Q (fun a' w' C' R' => ?_)
    refine ih (pre ++ post) _ _ a' w' C' (by simp at hlen ⊢; omega) hrest ?_ (by simp [hsz]) (fun j hj => ?_) (fun j oj hoj hs p hpp => ?_) (fun i2 j2 tr2 trj2 o2 oj2 h1 h2 => hf i2 j2 tr2 trj2 o2 oj2 ?_ ?_) R'
    ·exact hpw.sublist (List.Sublist.map _ (List.Sublist.append (List.Sublist.refl _) (List.sublist_cons_self _ _)))
    ·by_cases he : j = i'
     ·subst he
      constructor
      ·intro h; simp [hsz, hj] at h
      ·intro h; exact absurd h hnot
     ·rw [getD_set_ne true (Ne.symm he), hl j hj]
      simp only [List.map_append, List.map_cons, List.mem_append, List.mem_cons]
      constructor
      ·rintro (h | h | h) <;> first | exact .inl h | exact .inr h | exact absurd h he
      ·rintro (h | h) <;> first | exact .inl h | exact .inr (.inr h)
    ·have key : listed.getD p true = true → (listed.setIfInBounds i' true).getD p true = true := by
      intro h
      by_cases he : p = i'
      ·subst he; simp [hsz, hlt]
      ·rw [getD_set_ne true (Ne.symm he)]; exact h
     by_cases he : j = i'
     ·subst he
      rw [hoi] at hoj
      cases hoj
      exact key (hpreds p hpp)
     ·rw [getD_set_ne true (Ne.symm he)] at hs
      exact key (hc j oj hoj hs p hpp)
    ·rcases List.mem_append.1 h1 with h | h <;> simp [h]
    ·rcases List.mem_append.1 h2 with h | h <;> simp [h]
theorem wp_drawRegion (hT : TysOK P V) (hE : EnvG P Γ V w0 M0 C0) {id : Nat} (hd : ∀ o ∈ ops.toList, ∀ d, o.dst = some d → d < n) {R' : Type} {r : R'} {c : St → Option R'} {Q : Exit → Act → World → Prop}
  (hq : ∀ s' a' w' C', c s' = some r → Rel w0 M0 n C0 C' s' a' w' → Q .normal a' w') {C : Ctx} {s : St} {a : Act} {w : World} (R : Rel w0 M0 n C0 C s a w) (h : denRegion V ops.toList true s c = some r) : (Code.region id ops true).wp P Q a w := by
 unfold denRegion at h
 split at h
 ·simp at h
 rename_i hn0
 obtain ⟨s', trs, h1, h2, h3⟩ := denOps_runs (ops := ops) ops.toList 0 rfl h
 split at h2
 ·simp at h2
 rename_i hn1
 simp only [List.append_nil, List.reverse_reverse, cond_true] at h2
 cases hfo : freeOrder ops.toList trs with
 | false => rw [hfo] at h2; simp at h2
 | true =>
  rw [hfo] at h2
  simp only [cond_true] at h2
  simp only [freeOrder, Bool.and_eq_true] at hfo
  obtain ⟨hpo, hfa⟩ := hfo
  have hlen : ((List.range' 0 ops.toList.length).zip trs).length = ops.size := by simp [h1]
  refine wp_region_any hT.mixed ?_
  refine runs_any hT hE hd hpo (fun a' w' C' R' => hq s' a' w' C' h2 (R'.one hn1)) ops.size _ s _ a _ C hlen h3 ?_ (by simp) (fun j hj => ?_) (fun i o ho hs p hp => ?_) (fun i j tri trj oi oj hi hj hji hoi hoj hn => ?_) ((R.drawn _).two hn0)
  ·rw [List.map_fst_zip (by simp [h1])]
   exact List.pairwise_lt_range'
  ·rw [List.map_fst_zip (by simp [h1])]
   simp [hj]
  ·have hlt := (Array.getElem?_eq_some_iff.1 ho).1
   simp [hlt] at hs
  ·have hget : ∀ {i : Nat} {tr : Tr}, (i, tr) ∈ (List.range' 0 ops.toList.length).zip trs → trs[i]? = some tr := by
    intro i tr hm
    obtain ⟨k, hk⟩ := List.mem_iff_getElem?.1 hm
    rw [List.getElem?_zip_eq_some] at hk
    obtain ⟨g1, g2⟩ := hk
    have := (List.getElem?_eq_some_iff.1 g1)
    obtain ⟨g3, g4⟩ := this
    simp at g4
    subst g4
    exact g2
   have gi := hget hi
   have gj := hget hj
   refine freeAll_spec (ops.toList.zip trs) [] (by rw [Array.toArray_toList] at hfa; exact hfa) i j (oi, tri) (oj, trj) ?_ (Nat.zero_le _) hji ?_ hn
   ·rw [List.nil_append, List.getElem?_zip_eq_some]; exact ⟨by rw [Array.getElem?_toList]; exact hoi, gi⟩
   ·rw [List.nil_append, List.getElem?_zip_eq_some]; exact ⟨by rw [Array.getElem?_toList]; exact hoj, gj⟩
end
end Go.Abs

namespace Go.Abs
theorem Mask.done_fst {m : Mask} (h : m.done = true) : m.fst.done = true := by
 cases m <;> simp_all [Mask.done, Mask.fst]
theorem Mask.done_snd {m : Mask} (h : m.done = true) : m.snd.done = true := by
 cases m <;> simp_all [Mask.done, Mask.snd]
theorem Mask.done_elem {m : Mask} (h : m.done = true) : m.elem.done = true := by
 cases m <;> simp_all [Mask.done, Mask.elem]
theorem Enc.toZ {w : World} {θ : RName → Nat} {Z S : BS} : ∀ {k : K} {m : Mask} {d : k.den} {vs : List Value} {F Z' : BS}, Enc w θ Z S k m d vs F → m.done = true → Sub Z Z' → Sub F Z' → Enc w θ Z' S k (.imm true) d vs noB := by
 intro k
 induction k with
 | pair a b iha ihb =>
  intro m d vs F Z' h hd hZ hF
  obtain ⟨v1, v2, F1, F2, rfl, s1, s2, dj, h1, h2⟩ := h
  exact ⟨v1, v2, noB, noB, rfl, fun _ x => x.elim, fun _ x => x.elim, fun _ x => x.elim, iha h1 (Mask.done_fst hd) hZ (s1.trans hF), ihb h2 (Mask.done_snd hd) hZ (s2.trans hF)⟩
 | sl e ih =>
  intro m d vs F Z' h hd hZ hF
  rcases h with ⟨rfl, _⟩ | ⟨_, h⟩ | ⟨hm, b, off, cap, c, T, fz, rfl, hc, hle, hs, hok, G', hG, hdj, he⟩
  ·simp [Mask.done] at hd
  ·exact .inr (.inl ⟨by simp, h⟩)
  ·refine .inr (.inr ⟨by simp, b, off, cap, c, T, fz, rfl, hc, hle, hs, ?_, fun _ => noB, fun _ => ⟨fun _ x => x.elim, fun x => x⟩, fun _ _ _ _ x => x.elim, fun i x hx => ?_⟩)
   ·refine .inl ?_
    cases m with
    | own => exact hF _ hok.1
    | sl _ => exact hF _ hok.1
    | imm z =>
     simp only [Mask.done] at hd
     subst hd
     rcases hok with h | h
     ·exact hZ _ h
     ·cases h.1
    | gone => exact hok.elim
    | pair _ _ => exact hok.elim
   ·exact ih (he i x hx) (Mask.done_elem hd) hZ ((hG i).1.trans hF)
 | _ => intro m d vs F Z' h _ _ _; exact h
theorem canGet_imm {z : Bool} : ∀ (q : Path) {k : K} {d : k.den} {m : Mask}, canGet k d m q → canGet k d (.imm z) q := by
 intro q
 induction q with
 | nil => intro k d m _; exact canGet_nil _ _ _
 | cons st q ih =>
  intro k d m h
  cases st with
  | fst =>
   cases k with
   | pair a b => exact ih (k := a) (m := m.fst) h
   | _ => exact h.elim
  | snd =>
   cases k with
   | pair a b => exact ih (k := b) (m := m.snd) h
   | _ => exact h.elim
  | idx i =>
   cases k with
   | sl e =>
    obtain ⟨_, x, hx, h⟩ := h
    exact ⟨by simp, x, hx, ih (k := e) (m := m.elem) h⟩
   | _ => exact h.elim
theorem Enc.frz {w : World} {θ : RName → Nat} {Z S : BS} {el : Bool} : ∀ (p : Path) {k : K} {m m' : Mask} {d : k.den} {vs : List Value} {F : BS}, frzM k m p el = some m' → Enc w θ Z S k m d vs F →
  ∃ F' FZ : BS, Sub F' F ∧ Sub FZ F ∧ Disj F' FZ ∧ (∀ Z' : BS, Sub Z Z' → Sub FZ Z' → Enc w θ Z' S k m' d vs F') ∧ ∀ q, canGet k d m q → canGet k d m' q := by
 intro p
 induction p with
 | nil =>
  intro k m m' d vs F h he
  have hid : (some m = some m') → ∃ F' FZ : BS, Sub F' F ∧ Sub FZ F ∧ Disj F' FZ ∧ (∀ Z' : BS, Sub Z Z' → Sub FZ Z' → Enc w θ Z' S k m' d vs F') ∧ ∀ q, canGet k d m q → canGet k d m' q := by
   intro h
   simp only [Option.some.injEq] at h
   subst h
   exact ⟨F, noB, .refl _, fun _ h => h.elim, fun _ _ h => h, fun Z' hZ _ => he.mono hZ (.refl _) (.refl _) (fun _ _ => rfl) (fun _ _ => rfl), fun _ h => h⟩
  cases el with
  | false =>
   have h' : (bif m.done then some (bif k.flat then m else .imm true) else none) = some m' := by cases k <;> exact h
   cases hd : m.done with
   | false => rw [hd] at h'; cases h'
   | true =>
    rw [hd, cond_true] at h'
    cases hf : k.flat with
    | true => rw [hf, cond_true] at h'; exact hid h'
    | false =>
     rw [hf, cond_false, Option.some.injEq] at h'
     subst h'
     exact ⟨noB, F, fun _ h => h.elim, .refl _, fun _ h => h.elim, fun Z' hZ hF => he.toZ hd hZ hF, fun q h => canGet_imm q h⟩
  | true =>
   cases k with
   | sl e =>
    simp only [frzM] at h
    cases hd : (m.isOwn && m.elem.done) with
    | false => rw [hd] at h; cases h
    | true =>
     rw [hd, cond_true] at h
     cases hf : e.flat with
     | true => rw [hf, cond_true] at h; exact hid h
     | false =>
      rw [hf, cond_false, Option.some.injEq] at h
      subst h
      simp only [Bool.and_eq_true] at hd
      have hcg : ∀ q, canGet (.sl e) d m q → canGet (.sl e) d (Mask.mkSl (.imm true)) q := by
       intro q hq
       cases q with
       | nil => exact canGet_nil _ _ _
       | cons st q =>
        cases st with
        | idx i =>
         obtain ⟨_, x, hx, hq⟩ := hq
         exact ⟨by simp [Mask.mkSl], x, hx, canGet_imm q hq⟩
        | fst => exact hq.elim
        | snd => exact hq.elim
      rcases he with ⟨rfl, _⟩ | ⟨hm, h⟩ | ⟨hm, b, off, cap, c, T, fz, rfl, hc, hle, hs, hok, G', hG, hdj, hel⟩
      ·simp [Mask.isOwn] at hd
      ·exact ⟨noB, noB, fun _ h => h.elim, fun _ h => h.elim, fun _ h => h.elim, fun Z' _ _ => .inr (.inl ⟨by simp [Mask.mkSl], h⟩), hcg⟩
      ·have hb : F b ∧ fz = (0, 0) := by cases m <;> simp_all [Mask.isOwn, slOk]
       refine ⟨fun x => x = b, fun x => ∃ i, G' i x, fun x hx => by rw [hx]; exact hb.1, fun x ⟨i, hx⟩ => (hG i).1 x hx, fun x hx ⟨i, hy⟩ => (hG i).2 (by rw [← hx]; exact hy), fun Z' hZ hF => ?_, hcg⟩
       refine .inr (.inr ⟨by simp [Mask.mkSl], b, off, cap, c, T, fz, rfl, hc, hle, hs, ⟨rfl, hb.2⟩, fun _ => noB, fun _ => ⟨fun _ x => x.elim, fun x => x⟩, fun _ _ _ _ x => x.elim, fun i x hx => ?_⟩)
       exact (hel i x hx).toZ hd.2 hZ (fun y hy => hF y ⟨i, hy⟩)
   | _ => cases h
 | cons st p ih =>
  intro k m m' d vs F h he
  cases st with
  | fst =>
   cases k with
   | pair a b =>
    simp only [frzM, Option.map_eq_some_iff] at h
    obtain ⟨m1, h, rfl⟩ := h
    obtain ⟨v1, v2, F1, F2, rfl, s1, s2, dj, h1, h2⟩ := he
    obtain ⟨F', FZ, g1, g2, g3, g4, g5⟩ := ih h h1
    have hm0 : (m.setFst m1).fst = m1 ∧ (m.setFst m1).snd = m.snd := ⟨mkPair_fst' _ _, mkPair_snd' _ _⟩
    refine ⟨fun x => F' x ∨ F2 x, FZ, fun x hx => hx.elim (fun h => s1 x (g1 x h)) (s2 x), g2.trans s1, fun x hx hz => hx.elim (fun h => g3 x h hz) (fun h => dj x (g2 x hz) h), fun Z' hZ hF => ?_, fun q hq => ?_⟩
    ·exact ⟨v1, v2, F', F2, rfl, fun _ => .inl, fun _ => .inr, dj.sub g1 (.refl _), by rw [hm0.1]; exact g4 Z' hZ hF, by rw [hm0.2]; exact h2.mono hZ (.refl _) (.refl _) (fun _ _ => rfl) (fun _ _ => rfl)⟩
    ·cases q with
     | nil => trivial
     | cons st q =>
      cases st with
      | fst => show canGet a d.1 (m.setFst m1).fst q; rw [hm0.1]; exact g5 q hq
      | snd => show canGet b d.2 (m.setFst m1).snd q; rw [hm0.2]; exact hq
      | idx i => exact hq.elim
   | _ => cases h
  | snd =>
   cases k with
   | pair a b =>
    simp only [frzM, Option.map_eq_some_iff] at h
    obtain ⟨m1, h, rfl⟩ := h
    obtain ⟨v1, v2, F1, F2, rfl, s1, s2, dj, h1, h2⟩ := he
    obtain ⟨F', FZ, g1, g2, g3, g4, g5⟩ := ih h h2
    have hm0 : (m.setSnd m1).fst = m.fst ∧ (m.setSnd m1).snd = m1 := ⟨mkPair_fst' _ _, mkPair_snd' _ _⟩
    refine ⟨fun x => F1 x ∨ F' x, FZ, fun x hx => hx.elim (s1 x) (fun h => s2 x (g1 x h)), g2.trans s2, fun x hx hz => hx.elim (fun h => dj x h (g2 x hz)) (fun h => g3 x h hz), fun Z' hZ hF => ?_, fun q hq => ?_⟩
    ·exact ⟨v1, v2, F1, F', rfl, fun _ => .inl, fun _ => .inr, dj.sub (.refl _) g1, by rw [hm0.1]; exact h1.mono hZ (.refl _) (.refl _) (fun _ _ => rfl) (fun _ _ => rfl), by rw [hm0.2]; exact g4 Z' hZ hF⟩
    ·cases q with
     | nil => trivial
     | cons st q =>
      cases st with
      | fst => show canGet a d.1 (m.setSnd m1).fst q; rw [hm0.1]; exact hq
      | snd => show canGet b d.2 (m.setSnd m1).snd q; rw [hm0.2]; exact g5 q hq
      | idx i => exact hq.elim
   | _ => cases h
  | idx i => cases k <;> cases h
theorem AVC.remask {w : World} {C C' : Ctx} {rs rs' : RF} (hZ : Sub C.Z C'.Z) (hS : C'.S = C.S) (hθ : C'.θ = C.θ) (hρ : C'.ρ = C.ρ)
  (hrs : ∀ q y, rs' q = some y → ∃ x m', rs q = some x ∧ y = ⟨x.mem, x.k, m', x.d⟩ ∧ ∀ p, canGet x.k x.d x.m p → canGet x.k x.d m' p) :
  ∀ (av : AV) (vs : List Value), AVC w C rs av vs → AVC w C' rs' av vs := by
 have himm : ∀ {z : Bool} {k : K} {d : k.den} {vs : List Value} {F : BS}, Enc w C.θ C.Z C.S k (.imm z) d vs F → Enc w C'.θ C'.Z C'.S k (.imm z) d vs F := by
  intro z k d vs F h
  rw [hS, hθ]
  exact h.mono hZ (.refl _) (.refl _) (fun _ _ => rfl) (fun _ _ => rfl)
 have hbase : ∀ q (x : Root) m', baseOf C' q ⟨x.mem, x.k, m', x.d⟩ = baseOf C q x := by intro q x m'; unfold baseOf; rw [hθ]
 have href : ∀ r p (vs : List Value), AVC w C rs (.ref r p) vs → AVC w C' rs' (.ref r p) vs := by
  rintro r p vs ⟨v, rfl, h⟩
  refine ⟨v, rfl, fun y hy => ?_⟩
  obtain ⟨x, m', hx, rfl, hc⟩ := hrs r y hy
  obtain ⟨e, base, g1, g2, g3⟩ := h x hx
  exact ⟨e, base, g1, hc p g2, by rw [hρ, hbase]; exact g3⟩
 have hptr : ∀ r p (vs : List Value), AVC w C rs (.ptr r p) vs → AVC w C' rs' (.ptr r p) vs := by
  rintro r p vs ⟨b, off, rfl, h0, h⟩
  refine ⟨b, off, rfl, fun hp => by rw [hθ]; exact h0 hp, fun y hy => ?_⟩
  obtain ⟨x, m', hx, rfl, hc⟩ := hrs r y hy
  obtain ⟨k', cs, g1, g2, g3⟩ := h x hx
  exact ⟨k', cs, g1, hc p g2, by rw [hρ, hbase]; exact g3⟩
 intro av
 induction av with
 | dead => intro vs _; trivial
 | imm z k d => intro vs h; exact ⟨h.1, himm h.2⟩
 | nn z e d => intro vs h; exact ⟨h.1, himm h.2.1, h.2.2⟩
 | nil => intro vs h; exact h
 | emp => intro vs h; exact h
 | nilp => intro vs h; exact h
 | ptr r p => intro vs h; exact hptr r p vs h
 | ref r p => intro vs h; exact href r p vs h
 | vw r p L => intro vs h; exact AVC.vw_map (fun i => hptr _ _ _ i) (fun e _ v => ⟨fun i => href _ _ _ i, fun i => href _ _ _ i⟩) h
 | iptr z k d p =>
  rintro vs ⟨vs0, b, off, cs, k', h1, h2, h3⟩
  exact ⟨vs0, b, off, cs, k', h1, himm h2, h3⟩
 | slc r p lo n =>
  rintro vs ⟨v, v0, rfl, h⟩
  refine ⟨v, v0, rfl, fun y hy => ?_⟩
  obtain ⟨x, m', hx, rfl, hc⟩ := hrs r y hy
  obtain ⟨e, base, g1, g2, g3, g4⟩ := h x hx
  exact ⟨e, base, g1, hc p g2, by rw [hρ, hbase]; exact g3, g4⟩
 | pair a b iha ihb =>
  rintro vs ⟨v1, v2, rfl, h1, h2⟩
  exact ⟨v1, v2, rfl, iha v1 h1, ihb v2 h2⟩
 | fn f caps =>
  rintro vs ⟨rfl, hc⟩
  refine ⟨by rw [hθ], fun q hq y hy => ?_⟩
  obtain ⟨x, m', hx, rfl, _⟩ := hrs q y hy
  exact hc q hq x hx
 | tnil => intro vs h; exact h.elim
 | tcons a b _ _ => intro vs h; exact h.elim
section
variable {w0 w : World} {M0 : BS} {n : Nat} {C0 C : Ctx} {s s' : St} {a : Act}
theorem Rel.frz1 (R : Rel w0 M0 n C0 C s a w) {q : RName} {x : Root} {p : Path} {el : Bool} {m' : Mask} (hx : s.roots q = some x) (hm : frzM x.k x.m p el = some m') :
  ∃ C', Rel w0 M0 n C0 C' ⟨s.tmps, fun r => bif req r q then some ⟨x.mem, x.k, m', x.d⟩ else s.roots r, s.pins⟩ a w := by
 obtain ⟨G, hG, hGs, hGm⟩ := R.mem.ok q x hx
 obtain ⟨F', FZ, s1, s2, dj, henc, hcg⟩ := hG.frz p hm
 have hFZ : ∀ b, FZ b → C.F q b := fun b hb => hGs b (s2 b hb)
 have hrs : ∀ r y, (bif req r q then some (⟨x.mem, x.k, m', x.d⟩ : Root) else s.roots r) = some y → (r = q ∧ y = ⟨x.mem, x.k, m', x.d⟩) ∨ (r ≠ q ∧ s.roots r = some y) := by
  intro r y hy
  by_cases h : r = q
  ·rw [req_iff.2 h] at hy; exact .inl ⟨h, (Option.some.inj hy).symm⟩
  ·rw [req_ne h] at hy; exact .inr ⟨h, hy⟩
 have hZ : Sub C.Z (fun b => C.Z b ∨ FZ b) := fun _ => .inl
 let C' : Ctx := ⟨C.θ, C.ρ, fun r => if r = q then (fun b => F' b ∨ (x.mem = true ∧ b = C.θ q)) else C.F r, fun b => C.Z b ∨ FZ b, C.S⟩
 have hFq : C'.F q = fun b => F' b ∨ (x.mem = true ∧ b = C.θ q) := if_pos rfl
 have hFr : ∀ r, r ≠ q → C'.F r = C.F r := fun r h => if_neg h
 have hFsub : ∀ b, C'.F q b → C.F q b := by
  intro b hb
  rw [hFq] at hb
  rcases hb with hb | ⟨hmem, rfl⟩
  ·exact hGs b (s1 b hb)
  ·exact (hGm hmem).2.1
 have hFall : ∀ r b, C'.F r b → C.F r b := by
  intro r b hb
  by_cases h : r = q
  ·subst h; exact hFsub b hb
  ·rw [hFr r h] at hb; exact hb
 have hother : ∀ r y, r ≠ q → s.roots r = some y → ∀ b, C.F r b → ¬ FZ b := fun r y h hy b hb hz => R.mem.disj r q y x hy hx h b hb (hFZ b hz)
 have hM : Mem w C' (fun r => bif req r q then some ⟨x.mem, x.k, m', x.d⟩ else s.roots r) := by
  refine ⟨?_, ?_, ?_, ?_, ?_⟩
  ·intro r y hr
   rcases hrs r y hr with ⟨rfl, rfl⟩ | ⟨h1, h2⟩
   ·refine ⟨F', henc _ hZ (fun _ => .inr), fun b hb => by rw [hFq]; exact .inl hb, fun hmem => ?_⟩
    obtain ⟨k1, k2, k3⟩ := hGm hmem
    exact ⟨fun h => k1 (s1 _ h), by rw [hFq]; exact .inr ⟨hmem, rfl⟩, k3⟩
   ·exact (R.mem.ok r y h2).keepZ hZ rfl rfl rfl (hFr r h1) (fun _ _ => rfl) (fun _ _ => rfl)
  ·intro r r' y y' hr hr' hne b hb hb'
   have h1 : ∃ z, s.roots r = some z := by rcases hrs r y hr with ⟨rfl, _⟩ | ⟨_, h⟩ <;> exact ⟨_, by assumption⟩
   have h2 : ∃ z, s.roots r' = some z := by rcases hrs r' y' hr' with ⟨rfl, _⟩ | ⟨_, h⟩ <;> exact ⟨_, by assumption⟩
   obtain ⟨z, hz⟩ := h1
   obtain ⟨z', hz'⟩ := h2
   exact R.mem.disj r r' z z' hz hz' hne b (hFall r b hb) (hFall r' b hb')
  ·intro r y b hr hb
   rcases hrs r y hr with ⟨rfl, rfl⟩ | ⟨h1, h2⟩
   ·have h := R.mem.apart r x b hx (hFsub b hb)
    refine ⟨fun hz => hz.elim h.1 fun hz => ?_, h.2.1, h.2.2⟩
    rw [hFq] at hb
    rcases hb with hb | ⟨hmem, rfl⟩
    ·exact dj b hb hz
    ·exact (hGm hmem).1 (s2 _ hz)
   ·rw [hFr r h1] at hb
    have h := R.mem.apart r y b h2 hb
    exact ⟨fun hz => hz.elim h.1 (hother r y h1 h2 b hb), h.2.1, h.2.2⟩
  ·intro b hb
   rcases hb with (hb | hb) | hb
   ·exact R.mem.ro b (.inl hb)
   ·exact (R.mem.apart q x b hx (hFZ b hb)).2.2
   ·exact R.mem.ro b (.inr hb)
  ·intro r y hr p' hp' y2 hr2
   have h1 : ∃ z, s.roots r = some z ∧ p' ∈ ptrsOf z.k z.d := by
    rcases hrs r y hr with ⟨rfl, rfl⟩ | ⟨_, h⟩
    ·exact ⟨x, hx, hp'⟩
    ·exact ⟨y, h, hp'⟩
   obtain ⟨z, hz, hp2⟩ := h1
   rcases hrs p' y2 hr2 with ⟨rfl, rfl⟩ | ⟨_, h⟩
   ·exact R.mem.ptr r z hz p' hp2 x hx
   ·exact R.mem.ptr r z hz p' hp2 y2 h
 refine ⟨C', ⟨fun b hb => .inl (R.ext.Z b hb), R.ext.S, R.ext.θ⟩, hM, fun t => ?_, R.kept, ?_, ?_, R.defers, R.room, ?_, ?_⟩
 ·show VRel w C' _ (a.tmps.getD t undef) (s.tmps t)
  rw [← kills_nil (s.tmps t)]
  refine VRel.step (C' := C') (xs := []) (fun av vs _ _ hav => AVC.remask (C' := C') hZ rfl rfl rfl (fun r y hr => ?_) av vs hav) (R.tm t)
  rcases hrs r y hr with ⟨rfl, rfl⟩ | ⟨_, h⟩
  ·exact ⟨x, m', hx, rfl, hcg⟩
  ·exact ⟨y, y.m, h, rfl, fun _ h => h⟩
 ·intro r y b hr hb
  have hb2 := hFall r b hb
  rcases hrs r y hr with ⟨rfl, rfl⟩ | ⟨_, h⟩
  ·exact R.foot r x b hx hb2
  ·exact R.foot r y b h hb2
 ·intro r y hr p' hp' h2
  rcases hrs r y hr with ⟨rfl, rfl⟩ | ⟨_, h⟩
  ·exact R.pins r x hx p' hp' h2
  ·exact R.pins r y h p' hp' h2
 ·intro i y hr hmem
  rcases hrs (0, i) y hr with ⟨h1, rfl⟩ | ⟨_, h⟩
  ·exact R.parρ i x (by rw [h1]; exact hx) hmem
  ·exact R.parρ i y h hmem
 ·intro b hb
  rcases hb with hb | hb
  ·exact R.zn b hb
  ·exact .inr (R.foot q x b hx (hFZ b hb))
theorem Rel.frzAll : ∀ (l : List Frz) {C : Ctx} {s : St}, Rel w0 M0 n C0 C s a w → ∃ C', Rel w0 M0 n C0 C' (frzSt l s) a w := by
 intro l
 induction l with
 | nil => intro C s R; exact ⟨C, R⟩
 | cons f l ih =>
  intro C s R
  obtain ⟨q, p, el⟩ := f
  simp only [frzSt]
  split
  ·exact ih R
  ·rename_i x hx
   split
   ·exact ih R
   ·rename_i m' hm
    obtain ⟨C1, R1⟩ := R.frz1 hx hm
    exact ih R1
end
end Go.Abs

namespace Go.Abs
variable {Γ : Glb}
section
variable {P : Program} {V : Env} {w0 w : World} {M0 : BS} {n : Nat} {C0 C : Ctx} {s : St} {a : Act}
variable {R' : Type} {r : R'} {o : Oper}
def dstOk (n : Nat) : Code → Bool
 | .region _ ops _ => ops.toList.all fun o => match o.dst with
  | some d => Nat.blt d n
  | none => true
 | .seq a b => dstOk n a && dstOk n b
 | .cond _ a b => dstOk n a && dstOk n b
 | .block _ a => dstOk n a
 | .loop a => dstOk n a
 | _ => true
def LoopOK (V : Env) (A : List (Nat × LoopI)) (a : Code) (L : LoopI) : Prop :=
 ∀ s e s', (L.sm (restrict L.kp s)).run some = some (e, s') → ∃ m, iter L (fun s (c : Ex → St → Option (Ex × St)) => den V A a s c) m (restrict L.kp s) (fun e s' => some (e, s')) = some (e, s')
def LoopsOK (V : Env) (A : List (Nat × LoopI)) : Code → Prop
 | .seq a b => LoopsOK V A a ∧ LoopsOK V A b
 | .cond _ a b => LoopsOK V A a ∧ LoopsOK V A b
 | .block _ a => LoopsOK V A a
 | .loop a => LoopsOK V A a ∧ ∀ i L, firstRegion a = some i → assocN i A = some L → LoopOK V A a L
 | _ => True
def Ex.exit' : Ex → Exit
 | .normal => .normal
 | .exit id => .exit id
 | .ret => .ret
theorem den_sound (hT : TysOK P V) (hE : EnvG P Γ V w0 M0 C0) {A : List (Nat × LoopI)} : ∀ (cd : Code), dstOk n cd = true → LoopsOK V A cd → ∀ {R' : Type} {r : R'} {c : Ex → St → Option R'} {Q : Exit → Act → World → Prop},
  (∀ e s' a' w' C', c e s' = some r → Rel w0 M0 n C0 C' s' a' w' → Q e.exit' a' w') → ∀ {C : Ctx} {s : St} {a : Act} {w : World}, Rel w0 M0 n C0 C s a w → den V A cd s c = some r → cd.wp P Q a w := by
 intro cd
 induction cd with
 | skip => intro _ _ R' r c Q hq C s a w R h; exact wp_skip (hq .normal s a w C h R)
 | label l => intro _ _ R' r c Q hq C s a w R h; exact wp_label (hq .normal s a w C h R)
 | region id ops draw =>
  intro hd _ R' r c Q hq C s a w R h
  simp only [dstOk, List.all_eq_true] at hd
  have hd' : ∀ o ∈ ops.toList, ∀ d, o.dst = some d → d < n := fun o ho d hod => by
   have h2 := hd o ho
   rw [hod] at h2
   have h3 : Nat.blt d n = true := h2
   exact Nat.le_of_ble_eq_true h3
  have go : ∀ {C : Ctx} {s : St}, Rel w0 M0 n C0 C s a w → denRegion V ops.toList draw s (fun s' => c .normal s') = some r → (Code.region id ops draw).wp P Q a w := by
   intro C s R h
   cases draw with
   | false => exact wp_seqRegion hT hE hd' (fun s' a' w' C' h R => hq .normal s' a' w' C' h R) R h
   | true => exact wp_drawRegion hT hE hd' (fun s' a' w' C' h R => hq .normal s' a' w' C' h R) R h
  unfold den at h
  split at h
  ·exact go R h
  ·obtain ⟨C1, R1⟩ := Rel.frzAll _ R
   exact go R1 h
 | seq x y ihx ihy =>
  intro hd hL R' r c Q hq C s a w R h
  simp only [dstOk, Bool.and_eq_true] at hd
  refine wp_seq (ihx hd.1 hL.1 (fun e s' a' w' C' hc R' => ?_) R h)
  cases e with
  | normal => exact ihy hd.2 hL.2 hq R' hc
  | exit id => exact hq (.exit id) s' a' w' C' hc R'
  | ret => exact hq .ret s' a' w' C' hc R'
 | cond x y z ihy ihz =>
  intro hd hL R' r c Q hq C s a w R h
  simp only [dstOk, Bool.and_eq_true] at hd
  simp only [den] at h
  split at h
  case h_2 => simp at h
  case h_1 zz t ht =>
  have hv := R.eval x
  rw [ht] at hv
  refine wp_cond hv.bool ?_
  cases t with
  | true => exact ihy hd.1 hL.1 hq R h
  | false => exact ihz hd.2 hL.2 hq R h
 | block id x ih =>
  intro hd hL R' r c Q hq C s a w R h
  refine wp_block (ih hd hL (fun e s' a' w' C' hc R' => ?_) R h)
  cases e with
  | normal => exact hq .normal s' a' w' C' hc R'
  | exit i =>
   simp only [Ex.exit', Exit.inBlock]
   by_cases hi : i = id
   ·rw [if_pos hi]
    simp only [beq_iff.2 hi, cond_true] at hc
    exact hq .normal s' a' w' C' hc R'
   ·rw [if_neg hi]
    simp only [beq_ne hi, cond_false] at hc
    exact hq (.exit i) s' a' w' C' hc R'
  | ret => exact hq .ret s' a' w' C' hc R'
 | loop x ih =>
  intro hd hL R' r c Q hq C s a w R h
  simp only [den] at h
  split at h
  case h_2 => simp at h
  case h_1 L hfl =>
  obtain ⟨⟨e, s'⟩, hsm, h⟩ := Tre.run_some h
  have hfl' : ∃ i, firstRegion x = some i ∧ assocN i A = some L := by
   cases hf : firstRegion x with
   | none => rw [hf] at hfl; simp at hfl
   | some i => rw [hf] at hfl; exact ⟨i, rfl, hfl⟩
  obtain ⟨i, hi1, hi2⟩ := hfl'
  obtain ⟨m, hm⟩ := hL.2 i L hi1 hi2 _ _ _ hsm
  refine wp_loop_rounds m ?_
  have key : ∀ (m : Nat) {C : Ctx} {s1 : St} {a : Act} {w : World}, Rel w0 M0 n C0 C s1 a w → iter L (fun s (c : Ex → St → Option (Ex × St)) => den V A x s c) m s1 (fun e s' => some (e, s')) = some (e, s') → Code.rounds P x Q m a w := by
   intro m
   induction m with
   | zero => intro C s1 a w _ h; simp [iter] at h
   | succ m ihm =>
    intro C s1 a w R1 h1
    rw [rounds_succ]
    simp only [iter] at h1
    refine ih hd hL.1 (fun e1 s2 a' w' C' hc R' => ?_) R1 h1
    cases e1 with
    | normal => exact ihm (R'.restrict L.kp) hc
    | exit id =>
     simp only [Option.some.injEq, Prod.mk.injEq] at hc
     refine hq (.exit id) s' a' w' C' ?_ (by rw [← hc.2]; exact R'.restrict L.kx)
     rw [hc.1]; exact h
    | ret =>
     simp only [Option.some.injEq, Prod.mk.injEq] at hc
     refine hq .ret s' a' w' C' ?_ (by rw [← hc.2]; exact R'.restrict L.kx)
     rw [hc.1]; exact h
  exact key m (R.restrict L.kp) hm
 | exit id => intro _ _ R' r c Q hq C s a w R h; exact wp_exit (hq (.exit id) s a w C h R)
 | ret => intro _ _ R' r c Q hq C s a w R h; exact wp_ret (hq .ret s a w C h R)
 | _ => intro _ _ R' r c Q hq C s a w R h; simp [den] at h
end
end Go.Abs

namespace Go.Abs
def cmb (rs : RF) (fs : List Root) : RF := fun q => if q.1 = 1 then fs[q.2]? else rs q
structure Moved (w : World) (C0 : Ctx) (rs0 : RF) (C : Ctx) (rs : RF) (fs : List Root) (ks : List Kill) : Prop where
 Z : C.Z = C0.Z
 S : C.S = C0.S
 pars : ∀ i, C.θ (par i) = C0.θ (par i) ∧ C.ρ (par i) = C0.ρ (par i)
 mem : Mem w C (cmb rs fs)
 leaf : ∀ b vs, b.isLeaf = true → hit ks b = false → (∀ q ∈ b.names, q.1 ≠ 1) → AVC w C0 rs0 b vs → AVC w C (cmb rs fs) b vs
 foot : ∀ q y b, cmb rs fs q = some y → C.F q b → ∃ q0 y0, rs0 q0 = some y0 ∧ C0.F q0 b
 ptr1 : ∀ q y, cmb rs fs q = some y → ∀ p ∈ ptrsOf y.k y.d, p.1 ≠ 1
 rs1 : ∀ i, rs (par i) = rs0 (par i)
structure Stage (w : World) (C : Ctx) (rs : RF) (fs : List Root) (ks : List Kill) (C' : Ctx) (rs' : RF) (fs' : List Root) (ks' : List Kill) : Prop where
 leaf : ∀ b vs, b.isLeaf = true → hit ks' b = false → (∀ q ∈ b.names, q.1 = 1 → q.2 < fs.length) → AVC w C (cmb rs fs) b vs → AVC w C' (cmb rs' fs') b vs
 grow : fs.length ≤ fs'.length
 ks : ∀ b, hit ks' b = false → hit ks b = false
section
variable {P : Program} {V : Env} {w : World} {C0 C : Ctx} {rs0 rs : RF} {fs : List Root} {ks : List Kill}
variable {R' : Type} {r : R'}
theorem Stage.refl : Stage w C rs fs ks C rs fs ks := ⟨fun _ _ _ _ _ h => h, Nat.le_refl _, fun _ h => h⟩
theorem Stage.trans {C1 C2 : Ctx} {rs1 rs2 : RF} {fs1 fs2 : List Root} {k1 k2 : List Kill} (h : Stage w C rs fs ks C1 rs1 fs1 k1) (k : Stage w C1 rs1 fs1 k1 C2 rs2 fs2 k2) : Stage w C rs fs ks C2 rs2 fs2 k2 :=
 ⟨fun b vs hl hh hn hb => k.leaf b vs hl hh (fun q hq h1 => Nat.lt_of_lt_of_le (hn q hq h1) h.grow) (h.leaf b vs hl (k.ks b hh) hn hb), Nat.le_trans h.grow k.grow, fun b hb => h.ks b (k.ks b hb)⟩
theorem kills_names (xs : List Kill) : ∀ (a : AV), ∀ q ∈ (AV.kills xs a).names, q ∈ a.names := by
 intro a
 induction a with
 | pair a b iha ihb =>
  intro q hq
  rw [kills_pair] at hq
  simp only [AV.names, List.mem_append] at hq ⊢
  exact hq.imp (iha q) (ihb q)
 | tcons a b iha ihb =>
  intro q hq
  rw [kills_tcons] at hq
  simp only [AV.names, List.mem_append] at hq ⊢
  exact hq.imp (iha q) (ihb q)
 | _ =>
  intro q hq
  rw [kills_leaf _ _ rfl] at hq
  cases hh : hit xs _ with
  | true => rw [hh] at hq; cases hq
  | false => rw [hh] at hq; exact hq
theorem AVC.stepN {w' : World} {C C' : Ctx} {rs rs' : RF} {xs : List Kill} {N : RName → Prop}
  (h : ∀ a vs, a.isLeaf = true → hit xs a = false → (∀ q ∈ a.names, N q) → AVC w C rs a vs → AVC w' C' rs' a vs) : ∀ (a : AV) (vs : List Value), (∀ q ∈ a.names, N q) → AVC w C rs a vs → AVC w' C' rs' (AV.kills xs a) vs := by
 intro a
 induction a with
 | pair a b iha ihb =>
  intro vs hn hv
  obtain ⟨v1, v2, rfl, h1, h2⟩ := hv
  rw [kills_pair]
  exact ⟨v1, v2, rfl, iha _ (fun q hq => hn q (by simp [AV.names, hq])) h1, ihb _ (fun q hq => hn q (by simp [AV.names, hq])) h2⟩
 | tcons a b => intro vs _ hv; exact hv.elim
 | _ =>
  intro vs hn hv
  rw [kills_leaf _ _ rfl]
  cases hx : hit xs _ with
  | true => trivial
  | false => exact h _ _ rfl hx hn hv
theorem VRel1.stepN {w' : World} {C C' : Ctx} {rs rs' : RF} {xs : List Kill} {N : RName → Prop}
  (h : ∀ a vs, a.isLeaf = true → hit xs a = false → (∀ q ∈ a.names, N q) → AVC w C rs a vs → AVC w' C' rs' a vs) {v : Value} {a : AV} (hn : ∀ q ∈ a.names, N q) (hv : VRel1 w C rs v a) : VRel1 w' C' rs' v (AV.kills xs a) := by
 rcases hv with rfl | ⟨ha, vs, rfl, hv⟩ | ⟨ha, hv, hc⟩
 ·left; exact kills_dead xs
 ·right; left
  refine ⟨?_, vs, rfl, AVC.stepN h _ _ hn hv⟩
  cases a with
  | pair a b => rw [kills_pair]; rfl
  | imm z k d =>
   rw [kills_leaf _ _ rfl]
   have : hit xs (.imm z k d) = false := by simp only [hit, List.any_eq_false]; intro x _; cases x <;> simp [Kill.hits]
   rw [this]; exact ha
  | _ => simp [AV.agg] at ha
 ·have hl : a.isLeaf = true := by cases a <;> first | rfl | exact hv.elim | (simp [AV.agg] at ha; done)
  rw [kills_leaf _ _ hl]
  cases hx : hit xs a with
  | true => left; rfl
  | false => right; right; exact ⟨ha, h _ _ hl hx hn hv, hc⟩
theorem takeDst_congr {rs rs' : RF} {k : K} {av : AV} (h : ∀ q ∈ av.names, rs' q = rs q) (c : List k.den → Mask → U → List Kill → List RName → Option R') : takeDst rs' k [] av c = takeDst rs k [] av c := by
 cases av with
 | ref q p =>
  have : look rs' [] q = look rs [] q := h q (by simp [AV.names])
  simp only [takeDst, this]
 | slc q p lo n =>
  have hq : look rs' [] q = look rs [] q := h q (by simp [AV.names])
  cases p with
  | nil => simp only [takeDst, hq]
  | cons => rfl
 | _ => rfl
theorem res_take (M : Moved w C0 rs0 C rs fs ks) {k : K} {av : AV} {v : Value} (hl : av.isLeaf = true) (hloc : av.isLocal = true) (hh : hit ks av = false) (hn : ∀ q ∈ av.names, q.1 ≠ 1) (hv : AVC w C0 rs0 av [v])
  {c : List k.den → Mask → U → List Kill → List RName → Option R'} (h : takeDst rs k [] av c = some r) :
  ∃ xs m u' k1 g1 C', c xs m u' k1 g1 = some r ∧ Moved w C0 rs0 C' (look rs u') (fs ++ [⟨false, .sl k, m, xs⟩]) (ks ++ k1) ∧ Stage w C rs fs ks C' (look rs u') (fs ++ [⟨false, .sl k, m, xs⟩]) (ks ++ k1) ∧
   AVC w C' (cmb (look rs u') (fs ++ [⟨false, .sl k, m, xs⟩])) (.ref (fr fs.length) []) [v] := by
 have hcur := M.leaf av [v] hl hh hn hv
 have hcmb : ∀ q, q.1 ≠ 1 → cmb rs fs q = rs q := fun q hq => if_neg hq
 rw [← takeDst_congr (rs' := cmb rs fs) (fun q hq => hcmb q (hn q hq)) c] at h
 have hlook0 : look (cmb rs fs) [] = cmb rs fs := rfl
 obtain ⟨xs, m, u', k1, g1, C2, G, g, hown, Fd, henc, hkeys, hptr⟩ := takeDst_sound (rs := cmb rs fs) (u := []) M.mem hcur h
 rw [hlook0] at Fd hptr
 have hnames : ∀ q ∈ av.names, 2 ≤ q.1 := by
  intro q hq
  cases av with
  | ref q0 p =>
   simp only [AV.names, List.mem_singleton] at hq
   subst hq
   obtain ⟨q1, q2⟩ := q
   match q1, hloc with
   | q1 + 2, _ => simp
  | slc q0 p lo n =>
   simp only [AV.names, List.mem_singleton] at hq
   subst hq
   obtain ⟨q1, q2⟩ := q
   match q1, hloc with
   | q1 + 2, _ => simp
  | nil => cases hq
  | emp => cases hq
  | _ => simp [AV.isLocal] at hloc
 have hu0 : ∀ q : RName, q.1 < 2 → lookU q u' = none := fun q hq => hkeys q (fun h => by have := hnames q h; omega)
 have hrs1 : ∀ q, q.1 ≠ 1 → look (cmb rs fs) u' q = look rs u' q := by
  intro q hq
  unfold look
  cases lookU q u' with
  | some z => rfl
  | none => exact hcmb q hq
 have hrs2 : ∀ j, look (cmb rs fs) u' (fr j) = fs[j]? := by
  intro j
  unfold look
  rw [hu0 (fr j) (by simp)]
  rfl
 let C' : Ctx := C2.with (fr fs.length) 0 [v] G
 have hcase : ∀ {q : RName} {z : Root}, cmb (look rs u') (fs ++ [⟨false, .sl k, m, xs⟩]) q = some z → (q = fr fs.length ∧ z = ⟨false, .sl k, m, xs⟩) ∨ (q ≠ fr fs.length ∧ look (cmb rs fs) u' q = some z) := by
  rintro ⟨q1, q2⟩ z hz
  unfold cmb at hz
  by_cases h1 : q1 = 1
  ·subst h1
   simp only [if_true] at hz
   by_cases h2 : q2 = fs.length
   ·subst h2
    simp only [List.getElem?_append_right (Nat.le_refl _), Nat.sub_self, List.getElem?_cons_zero, Option.some.injEq] at hz
    exact .inl ⟨rfl, hz.symm⟩
   ·have hlt : q2 < fs.length := by
     have := (List.getElem?_eq_some_iff.1 hz).1
     simp at this; omega
    rw [List.getElem?_append_left hlt] at hz
    exact .inr ⟨by intro h; cases h; exact h2 rfl, by rw [show ((1, q2) : RName) = fr q2 from rfl, hrs2]; exact hz⟩
  ·rw [if_neg h1] at hz
   exact .inr ⟨by intro h; cases h; exact h1 rfl, by rw [hrs1 _ h1]; exact hz⟩
 have hptr1 : ∀ q z, cmb (look rs u') (fs ++ [⟨false, .sl k, m, xs⟩]) q = some z → ∀ p ∈ ptrsOf z.k z.d, p.1 ≠ 1 := by
  intro q z hz p hp
  rcases hcase hz with ⟨rfl, rfl⟩ | ⟨_, h2⟩
  ·obtain ⟨q0, x, hx, hp0⟩ := hptr p hp
   exact M.ptr1 q0 x hx p hp0
  ·obtain ⟨z0, hz0, _, _, hp0⟩ := Fd.was q z h2
   exact M.ptr1 q z0 hz0 p (hp0 p hp)
 have hneF : ∀ {p : RName}, p.1 ≠ 1 → p ≠ fr fs.length := by rintro p hp rfl; exact hp rfl
 have hGfree : ∀ {b : Nat}, G b → ¬ C.Z b ∧ ¬ C.S b ∧ b < w.heap.size := fun hb => Fd.free M.mem hb
 have hmem : Mem w C' (cmb (look rs u') (fs ++ [⟨false, .sl k, m, xs⟩])) := by
  refine ⟨?_, ?_, ?_, ?_, ?_⟩
  ·intro q z hz
   rcases hcase hz with ⟨rfl, rfl⟩ | ⟨h1, h2⟩
   ·refine ⟨G, ?_, by rw [Ctx.with_F0]; exact .refl _, fun h => by cases h⟩
    rw [Ctx.with_ρ0]
    show Enc w C'.θ C2.Z C2.S (.sl k) m xs [v] G
    rw [Fd.Z, Fd.S]
    exact henc.mono (.refl _) (.refl _) (.refl _) (fun _ _ => rfl) (fun p hp => by rw [Ctx.with_θ (hneF (hptr1 _ _ hz p hp)), Fd.θ])
   ·exact (Fd.mem.ok q z h2).keep rfl rfl (Ctx.with_θ h1) (Ctx.with_ρ h1) (Ctx.with_F h1) (fun p hp => Ctx.with_θ (hneF (hptr1 _ _ hz p hp))) (fun _ _ => rfl)
  ·intro q q' z z' hz hz' hne
   rcases hcase hz with ⟨rfl, rfl⟩ | ⟨h1, h2⟩ <;> rcases hcase hz' with ⟨rfl, rfl⟩ | ⟨k1, k2⟩
   ·exact absurd rfl hne
   ·rw [Ctx.with_F0, Ctx.with_F k1]; exact Fd.gdisj q' z' k2
   ·rw [Ctx.with_F0, Ctx.with_F h1]; exact (Fd.gdisj q z h2).symm
   ·rw [Ctx.with_F h1, Ctx.with_F k1]; exact Fd.mem.disj q q' z z' h2 k2 hne
  ·intro q z b hz hb
   show ¬ C2.Z b ∧ ¬ C2.S b ∧ _
   rcases hcase hz with ⟨rfl, rfl⟩ | ⟨h1, h2⟩
   ·rw [Ctx.with_F0] at hb; rw [Fd.Z, Fd.S]; exact hGfree hb
   ·rw [Ctx.with_F h1] at hb; exact Fd.mem.apart q z b h2 hb
  ·exact Fd.mem.ro
  ·intro q z hz p hp z2 hz2
   rcases hcase hz2 with ⟨rfl, rfl⟩ | ⟨k1, k2⟩
   ·exact absurd rfl (hptr1 q z hz _ hp)
   ·rcases hcase hz with ⟨rfl, rfl⟩ | ⟨h1, h2⟩
    ·obtain ⟨q0, x, hx, hp0⟩ := hptr p hp
     obtain ⟨z0, hz0, _, hm0, _⟩ := Fd.was p z2 k2
     rw [hm0]; exact M.mem.ptr q0 x hx p hp0 z0 hz0
    ·exact Fd.mem.ptr q z h2 p hp z2 k2
 have hstage : ∀ b vs, b.isLeaf = true → hit k1 b = false → (∀ q ∈ b.names, q.1 = 1 → q.2 < fs.length) → AVC w C (cmb rs fs) b vs → AVC w C' (cmb (look rs u') (fs ++ [⟨false, .sl k, m, xs⟩])) b vs := by
  intro b vs hl hh hn hb
  refine leaf_keep (C' := C') Fd.mem (fun q => q = fr fs.length) rfl rfl (fun q hq => Ctx.with_θ hq) (fun q hq => Ctx.with_ρ hq) ?_ (fun _ _ => rfl) hl (fun q hq h => by
   have := hn q hq (by rw [h]); rw [h] at this; simp at this) (Fd.leaf b vs hl hh hb)
  intro q z hq hz
  rcases hcase hz with ⟨h, _⟩ | ⟨_, h2⟩
  ·exact absurd h hq
  ·exact h2
 refine ⟨xs, m, u', k1, g1, C', g, ⟨Fd.Z.trans M.Z, Fd.S.trans M.S, fun i => ?_, hmem, ?_, ?_, hptr1, fun i => ?_⟩, ⟨fun b vs hl hh hn hb => ?_, by simp, fun b hb => ?_⟩, ?_⟩
 ·rw [Ctx.with_θ (by intro h; cases h), Ctx.with_ρ (by intro h; cases h), Fd.θ, Fd.ρ]; exact M.pars i
 ·intro b vs hl hh hn hb
  rw [hit_append, Bool.or_eq_false_iff] at hh
  exact hstage b vs hl hh.2 (fun q hq h1 => absurd h1 (hn q hq)) (M.leaf b vs hl hh.1 hn hb)
 ·intro q z b hz hb
  rcases hcase hz with ⟨rfl, rfl⟩ | ⟨h1, h2⟩
  ·rw [Ctx.with_F0] at hb
   obtain ⟨q0, y0, hy0, hb0⟩ := Fd.gfoot b hb
   exact M.foot q0 y0 b hy0 hb0
  ·rw [Ctx.with_F h1] at hb
   obtain ⟨z0, hz0, hs0, _⟩ := Fd.was q z h2
   exact M.foot q z0 b hz0 (hs0 b hb)
 ·unfold look
  rw [hu0 (par i) (by simp)]
  exact M.rs1 i
 ·rw [hit_append, Bool.or_eq_false_iff] at hh
  exact hstage b vs hl hh.2 hn hb
 ·rw [hit_append, Bool.or_eq_false_iff] at hb; exact hb.1
 ·refine ⟨v, rfl, fun z hz => ?_⟩
  rcases hcase hz with ⟨_, rfl⟩ | ⟨h, _⟩
  ·exact ⟨k, none, rfl, trivial, by rw [locv_nil, Ctx.with_ρ0]; rfl⟩
  ·exact absurd rfl h
theorem avc_one {w : World} {C : Ctx} {rs : RF} {av : AV} {vs : List Value} (h : AVC w C rs av vs) (hl : av.isLocal = true) : ∃ v, vs = [v] := by
 cases av with
 | nil => exact ⟨_, h⟩
 | emp => obtain ⟨a, h⟩ := h; exact ⟨_, h⟩
 | ref => obtain ⟨v, h, _⟩ := h; exact ⟨v, h⟩
 | slc => obtain ⟨v, _, h, _⟩ := h; exact ⟨v, h⟩
 | _ => cases hl
structure ResOK (w : World) (C0 : Ctx) (rs0 : RF) (C : Ctx) (rs : RF) (fs : List Root) (ks : List Kill) (av a' : AV) (rs' : RF) (fs' : List Root) (ks' : List Kill) (C' : Ctx) (vs : List Value) : Prop where
 moved : Moved w C0 rs0 C' rs' fs' ks'
 stage : Stage w C rs fs ks C' rs' fs' ks'
 val : AVC w C' (cmb rs' fs') a' vs
 names : ∀ q ∈ a'.names, q.1 = 1 → q.2 < fs'.length
 agg : a'.agg = av.agg
theorem res_ptr (M : Moved w C0 rs0 C rs fs ks) {q : RName} (hq : 2 ≤ q.1) (hh : hit ks (.ptr q []) = false) {x : Root} (hx : rs q = some x) (hxm : x.mem = true) {vs : List Value} (hv : AVC w C0 rs0 (.ptr q []) vs) :
  ∃ C', Moved w C0 rs0 C' (look rs [(q, none)]) (fs ++ [x]) ks ∧ Stage w C rs fs ks C' (look rs [(q, none)]) (fs ++ [x]) ks ∧ AVC w C' (cmb (look rs [(q, none)]) (fs ++ [x])) (.ptr (fr fs.length) []) vs := by
 have hcur := M.leaf (.ptr q []) vs rfl hh (by intro p hp; simp only [AV.names, List.mem_singleton] at hp; subst hp; omega) hv
 have hx0 : cmb rs fs q = some x := by unfold cmb; rw [if_neg (by omega)]; exact hx
 let C' : Ctx := C.with (fr fs.length) (C.θ q) (C.ρ q) (C.F q)
 have hcase : ∀ {p : RName} {z : Root}, cmb (look rs [(q, none)]) (fs ++ [x]) p = some z → (p = fr fs.length ∧ z = x) ∨ (p ≠ fr fs.length ∧ p ≠ q ∧ cmb rs fs p = some z) := by
  rintro ⟨q1, q2⟩ z hz
  unfold cmb at hz
  by_cases h1 : q1 = 1
  ·subst h1
   simp only [if_true] at hz
   by_cases h2 : q2 = fs.length
   ·subst h2
    simp only [List.getElem?_append_right (Nat.le_refl _), Nat.sub_self, List.getElem?_cons_zero, Option.some.injEq] at hz
    exact .inl ⟨rfl, hz.symm⟩
   ·have hlt : q2 < fs.length := by
     have := (List.getElem?_eq_some_iff.1 hz).1
     simp at this; omega
    rw [List.getElem?_append_left hlt] at hz
    refine .inr ⟨by intro h; cases h; exact h2 rfl, by rintro rfl; simp at hq, ?_⟩
    unfold cmb; rw [if_pos rfl]; exact hz
  ·rw [if_neg h1] at hz
   unfold look at hz
   simp only [lookU] at hz
   by_cases hqq : ((q1, q2) : RName) = q
   ·rw [req_iff.2 hqq] at hz; cases hz
   ·rw [req_ne hqq] at hz
    refine .inr ⟨by intro h; cases h; exact h1 rfl, hqq, ?_⟩
    unfold cmb; rw [if_neg h1]; exact hz
 have hptr1 : ∀ p z, cmb (look rs [(q, none)]) (fs ++ [x]) p = some z → ∀ t ∈ ptrsOf z.k z.d, t.1 ≠ 1 := by
  intro p z hz t ht
  rcases hcase hz with ⟨rfl, rfl⟩ | ⟨_, _, h2⟩
  ·exact M.ptr1 q z hx0 t ht
  ·exact M.ptr1 p z h2 t ht
 have hneF : ∀ {p : RName}, p.1 ≠ 1 → p ≠ fr fs.length := by rintro p hp rfl; exact hp rfl
 have hmem : Mem w C' (cmb (look rs [(q, none)]) (fs ++ [x])) := by
  refine ⟨?_, ?_, ?_, ?_, ?_⟩
  ·intro p z hz
   rcases hcase hz with ⟨rfl, rfl⟩ | ⟨h1, _, h2⟩
   ·obtain ⟨G, g1, g2, g3⟩ := M.mem.ok q z hx0
    refine ⟨G, ?_, by rw [Ctx.with_F0]; exact g2, fun hm => by rw [Ctx.with_θ0, Ctx.with_F0, Ctx.with_ρ0]; exact g3 hm⟩
    rw [Ctx.with_ρ0]
    exact g1.mono (.refl _) (.refl _) (.refl _) (fun _ _ => rfl) (fun t ht => by rw [Ctx.with_θ (hneF (hptr1 _ _ hz t ht))])
   ·exact (M.mem.ok p z h2).keep rfl rfl (Ctx.with_θ h1) (Ctx.with_ρ h1) (Ctx.with_F h1) (fun t ht => Ctx.with_θ (hneF (hptr1 _ _ hz t ht))) (fun _ _ => rfl)
  ·intro p p' z z' hz hz' hne
   rcases hcase hz with ⟨rfl, rfl⟩ | ⟨h1, h1', h2⟩ <;> rcases hcase hz' with ⟨rfl, rfl⟩ | ⟨k1, k1', k2⟩
   ·exact absurd rfl hne
   ·rw [Ctx.with_F0, Ctx.with_F k1]; exact M.mem.disj q p' z z' hx0 k2 (Ne.symm k1')
   ·rw [Ctx.with_F0, Ctx.with_F h1]; exact M.mem.disj p q z z' h2 hx0 h1'
   ·rw [Ctx.with_F h1, Ctx.with_F k1]; exact M.mem.disj p p' z z' h2 k2 hne
  ·intro p z b hz hb
   rcases hcase hz with ⟨rfl, rfl⟩ | ⟨h1, _, h2⟩
   ·rw [Ctx.with_F0] at hb; exact M.mem.apart q z b hx0 hb
   ·rw [Ctx.with_F h1] at hb; exact M.mem.apart p z b h2 hb
  ·exact M.mem.ro
  ·intro p z hz t ht z2 hz2
   rcases hcase hz2 with ⟨rfl, rfl⟩ | ⟨k1, _, k2⟩
   ·exact absurd rfl (hptr1 p z hz _ ht)
   ·rcases hcase hz with ⟨rfl, rfl⟩ | ⟨_, _, h2⟩
    ·exact M.mem.ptr q z hx0 t ht z2 k2
    ·exact M.mem.ptr p z h2 t ht z2 k2
 have hstage : ∀ b vs, b.isLeaf = true → (∀ t ∈ b.names, t.1 = 1 → t.2 < fs.length) → AVC w C (cmb rs fs) b vs → AVC w C' (cmb (look rs [(q, none)]) (fs ++ [x])) b vs := by
  intro b vs hl hn hb
  refine leaf_keep (C' := C') M.mem (fun t => t = fr fs.length) rfl rfl (fun t ht => Ctx.with_θ ht) (fun t ht => Ctx.with_ρ ht) ?_ (fun _ _ => rfl) hl (fun t ht h => by
   have := hn t ht (by rw [h]); rw [h] at this; simp at this) hb
  intro t z ht hz
  rcases hcase hz with ⟨h, _⟩ | ⟨_, _, h2⟩
  ·exact absurd h ht
  ·exact h2
 refine ⟨C', ⟨M.Z, M.S, fun i => ?_, hmem, ?_, ?_, hptr1, fun i => ?_⟩, ⟨fun b vs hl _ hn hb => hstage b vs hl hn hb, by simp, fun b hb => hb⟩, ?_⟩
 ·rw [Ctx.with_θ (by intro h; cases h), Ctx.with_ρ (by intro h; cases h)]; exact M.pars i
 ·intro b vs hl hh hn hb
  exact hstage b vs hl (fun t ht h1 => absurd h1 (hn t ht)) (M.leaf b vs hl hh hn hb)
 ·intro p z b hz hb
  rcases hcase hz with ⟨rfl, rfl⟩ | ⟨h1, _, h2⟩
  ·rw [Ctx.with_F0] at hb; exact M.foot q z b hx0 hb
  ·rw [Ctx.with_F h1] at hb; exact M.foot p z b h2 hb
 ·unfold look
  simp only [lookU]
  rw [req_ne (by rintro rfl; simp at hq)]
  exact M.rs1 i
 ·obtain ⟨b, off, rfl, h0, hroot⟩ := hcur
  obtain ⟨rfl, rfl⟩ := h0 rfl
  refine ⟨_, _, rfl, fun _ => ⟨by rw [Ctx.with_θ0], rfl⟩, fun z hz => ?_⟩
  rcases hcase hz with ⟨_, rfl⟩ | ⟨h, _⟩
  ·refine ⟨z.k, C.ρ q, at_nil _, canGet_nil _ _ _, ?_⟩
   rw [locv_nil, Ctx.with_ρ0]
   unfold baseOf
   rw [if_pos hxm, Ctx.with_θ0]
  ·exact absurd rfl h
theorem frozenRes_some {rs : RF} {av b : AV} (h : frozenRes rs av = some b) : ∃ q x z, av = .ref q [] ∧ q.1 ≠ 1 ∧ rs q = some x ∧ x.mem = false ∧ x.m = .imm z ∧ x.k.plain = true ∧ b = .imm z x.k x.d := by
 unfold frozenRes at h
 split at h
 case h_2 => cases h
 case h_1 d j =>
 split at h
 case h_2 => cases h
 case h_1 x hx =>
 cases hm : x.mem with
 | true => rw [hm] at h; cases h
 | false =>
 rw [hm] at h
 simp only [cond_false] at h
 split at h
 case h_2 => cases h
 case h_1 z hz =>
 cases hp : x.k.plain with
 | false => rw [hp] at h; cases h
 | true =>
 rw [hp] at h
 simp only [cond_true, Option.some.injEq] at h
 exact ⟨(d + 2, j), x, z, rfl, by simp, hx, hm, hz, hp, h.symm⟩
theorem res_leaf (M : Moved w C0 rs0 C rs fs ks) {e : Option K} {av : AV} (hl : av.isLeaf = true) (hg : av.agg = false) (hn : ∀ q ∈ av.names, q.1 ≠ 1) {vs : List Value} (hv : AVC w C0 rs0 av vs)
  {c : AV → RF → List Root → List Kill → Option R'}
  (h : (bif hit ks av then none else match frozenRes rs av with
   | some b => c b rs fs ks
   | none => bif av.isLocal then (match e with
   | some (.sl k) => takeDst rs k [] av fun xs m u' k1 _ => c (.ref (fr fs.length) []) (look rs u') (fs ++ [⟨false, .sl k, m, xs⟩]) (ks ++ k1)
   | _ => none) else resHere av ks rs fs c) = some r) :
  ∃ a' rs' fs' ks' C', c a' rs' fs' ks' = some r ∧ ResOK w C0 rs0 C rs fs ks av a' rs' fs' ks' C' vs := by
 cases hh : hit ks av with
 | true => rw [hh] at h; simp at h
 | false =>
 rw [hh] at h
 simp only [cond_false] at h
 cases hfz : frozenRes rs av with
 | some b =>
  rw [hfz] at h
  have hcur := M.leaf av vs hl hh hn hv
  obtain ⟨q, x, z, rfl, hq1, hx, hxm, hmk, hpl, rfl⟩ := frozenRes_some hfz
  obtain ⟨v, rfl, hroot⟩ := hcur
  have hx' : cmb rs fs q = some x := by unfold cmb; rw [if_neg hq1]; exact hx
  obtain ⟨e', base, hat, _, hloc⟩ := hroot x hx'
  rw [at_nil] at hat
  rw [locv_nil] at hloc
  simp only [Option.some.injEq, Prod.mk.injEq] at hloc hat
  obtain ⟨G, hE, _, _⟩ := M.mem.ok q x hx'
  rw [hmk, hloc.1] at hE
  refine ⟨_, _, _, _, C, h, M, .refl, ⟨hpl, hE.imm0⟩, fun q hq => (by cases hq), ?_⟩
  show x.k.isAgg = false
  rw [hat]; rfl
 | none =>
 rw [hfz] at h
 dsimp only at h
 cases hloc : av.isLocal with
 | true =>
  rw [hloc] at h
  simp only [cond_true] at h
  split at h
  case h_2 => simp at h
  case h_1 k =>
  obtain ⟨v, rfl⟩ := avc_one hv hloc
  obtain ⟨xs, m, u', k1, g1, C', g, h1, h2, h3⟩ := res_take M hl hloc hh hn hv h
  refine ⟨_, _, _, _, C', g, h1, h2, h3, fun q hq _ => ?_, hg.symm⟩
  simp only [AV.names, List.mem_singleton] at hq
  subst hq
  simp
 | false =>
  rw [hloc] at h
  simp only [cond_false] at h
  have hcur := M.leaf av vs hl hh hn hv
  unfold resHere at h
  split at h
  ·exact ⟨_, _, _, _, C, h, M, .refl, hcur, fun q hq h1 => absurd h1 (hn q hq), rfl⟩
  ·exact ⟨_, _, _, _, C, h, M, .refl, hcur, fun q hq h1 => absurd h1 (hn q hq), rfl⟩
  ·exact ⟨_, _, _, _, C, h, M, .refl, hcur, fun q hq h1 => absurd h1 (hn q hq), rfl⟩
  ·split at h
   case h_2 => simp at h
   case h_1 x hx =>
   cases hxm : x.mem with
   | false => rw [hxm] at h; simp at h
   | true =>
   rw [hxm] at h
   simp only [cond_true] at h
   obtain ⟨C', h1, h2, h3⟩ := res_ptr M (by simp) hh hx hxm hv
   refine ⟨_, _, _, _, C', h, h1, h2, h3, fun q hq _ => ?_, rfl⟩
   simp only [AV.names, List.mem_singleton] at hq
   subst hq
   simp
  ·simp at h
theorem hit_none {ks : List Kill} {av : AV} (h : ∀ x : Kill, x.hits av = false) : hit ks av = false := by
 simp only [hit, List.any_eq_false]
 intro x _
 rw [h x]; simp
theorem flatten_names (a b : AV) : ∀ q ∈ (AV.flatten a b).names, q ∈ a.names ∨ q ∈ b.names := by
 intro q hq
 unfold AV.flatten at hq
 split at hq
 ·cases hq
 ·simpa [AV.names] using hq
theorem resAV_sound : ∀ (av : AV) {e : Option K} {C : Ctx} {rs : RF} {fs : List Root} {ks : List Kill} {c : AV → RF → List Root → List Kill → Option R'} {vs : List Value}, Moved w C0 rs0 C rs fs ks → (∀ q ∈ av.names, q.1 ≠ 1) → AVC w C0 rs0 av vs →
  resAV e av ks rs fs c = some r → ∃ a' rs' fs' ks' C', c a' rs' fs' ks' = some r ∧ ResOK w C0 rs0 C rs fs ks av a' rs' fs' ks' C' vs := by
 intro av
 induction av with
 | imm z k d =>
  intro e C rs fs ks c vs M hn hv h
  exact ⟨_, _, _, _, C, h, M, .refl, M.leaf _ _ rfl (hit_none fun x => by cases x <;> rfl) hn hv, fun q hq => (by cases hq), rfl⟩
 | nilp =>
  intro e C rs fs ks c vs M hn hv h
  exact ⟨_, _, _, _, C, h, M, .refl, M.leaf _ _ rfl (hit_none fun x => by cases x <;> rfl) hn hv, fun q hq => (by cases hq), rfl⟩
 | pair a b iha ihb =>
  intro e C rs fs ks c vs M hn hv h
  simp only [resAV] at h
  split at h
  case h_2 => simp at h
  case h_1 ka kb =>
  obtain ⟨v1, v2, rfl, h1, h2⟩ := hv
  obtain ⟨a', rs1, fs1, ks1, C1, h, A⟩ := iha M (fun q hq => hn q (by simp [AV.names, hq])) h1 h
  obtain ⟨b', rs2, fs2, ks2, C2, h, B⟩ := ihb A.moved (fun q hq => hn q (by simp [AV.names, hq])) h2 h
  refine ⟨_, _, _, _, C2, h, B.moved, A.stage.trans B.stage, AVC.flatten (AVC.stepN (fun b vs hl hh hn hb => B.stage.leaf b vs hl hh hn hb) _ _ A.names A.val) B.val, fun q hq h1 => ?_, by rw [flatten_agg]; rfl⟩
  rcases flatten_names _ _ q hq with hq | hq
  ·exact Nat.lt_of_lt_of_le (A.names q (kills_names _ _ q hq) h1) B.stage.grow
  ·exact B.names q hq h1
 | tcons a b _ _ => intro e C rs fs ks c vs M hn hv h; exact hv.elim
 | tnil => intro e C rs fs ks c vs M hn hv h; exact hv.elim
 | dead =>
  intro e C rs fs ks c vs M hn hv h
  exact res_leaf M rfl rfl hn hv h
 | nil => intro e C rs fs ks c vs M hn hv h; exact res_leaf M rfl rfl hn hv h
 | emp => intro e C rs fs ks c vs M hn hv h; exact res_leaf M rfl rfl hn hv h
 | ref q p => intro e C rs fs ks c vs M hn hv h; exact res_leaf M rfl rfl hn hv h
 | slc q p lo k0 => intro e C rs fs ks c vs M hn hv h; exact res_leaf M rfl rfl hn hv h
 | ptr q p => intro e C rs fs ks c vs M hn hv h; exact res_leaf M rfl rfl hn hv h
 | iptr z k d p => intro e C rs fs ks c vs M hn hv h; exact res_leaf M rfl rfl hn hv h
 | nn z k d => intro e C rs fs ks c vs M hn hv h; exact res_leaf M rfl rfl hn hv h
 | vw q p L => intro e C rs fs ks c vs M hn hv h; exact res_leaf M rfl rfl hn hv h
 | fn f caps => intro e C rs fs ks c vs M hn hv h; exact res_leaf M rfl rfl hn hv h
theorem resVal_sound {av : AV} {e : Option K} (M : Moved w C0 rs0 C rs fs ks) (hn : ∀ q ∈ av.names, q.1 ≠ 1) {v : Value} (hv : VRel w C0 rs0 v av) {c : AV → RF → List Root → List Kill → Option R'} (h : resAV e av ks rs fs c = some r) :
  ∃ a' rs' fs' ks' C', c a' rs' fs' ks' = some r ∧ Moved w C0 rs0 C' rs' fs' ks' ∧ Stage w C rs fs ks C' rs' fs' ks' ∧ VRel1 w C' (cmb rs' fs') v a' ∧ ∀ q ∈ a'.names, q.1 = 1 → q.2 < fs'.length := by
 rcases hv with (rfl | ⟨hg, vs, rfl, hA⟩ | ⟨hg, hA, hc⟩) | ⟨vs, _, ht⟩
 ·simp only [resAV] at h
  rw [hit_none fun x => by cases x <;> rfl] at h
  simp [AV.isLocal, resHere, frozenRes] at h
 ·obtain ⟨a', rs', fs', ks', C', h, A⟩ := resAV_sound av M hn hA h
  exact ⟨a', rs', fs', ks', C', h, A.moved, A.stage, .inr (.inl ⟨by rw [A.agg]; exact hg, vs, rfl, A.val⟩), A.names⟩
 ·obtain ⟨a', rs', fs', ks', C', h, A⟩ := resAV_sound av M hn hA h
  exact ⟨a', rs', fs', ks', C', h, A.moved, A.stage, .inr (.inr ⟨by rw [A.agg]; exact hg, A.val, hc⟩), A.names⟩
 ·cases av with
  | tnil => simp only [resAV] at h; rw [hit_none fun x => by cases x <;> rfl] at h; simp [AV.isLocal, resHere, frozenRes] at h
  | tcons a b => simp only [resAV] at h; cases hh : hit ks (.tcons a b) <;> rw [hh] at h <;> simp [AV.isLocal, resHere, frozenRes] at h
  | _ => exact ht.elim
theorem resList_sound : ∀ (l : List (AV × Option K)) (vals : List Value) {C : Ctx} {rs : RF} {fs : List Root} {ks : List Kill} {c : AV → RF → List Root → List Kill → Option R'}, Moved w C0 rs0 C rs fs ks → anyFr l = false → l.length = vals.length →
  (∀ (i : Nat) (x : AV × Option K) (v : Value), l[i]? = some x → vals[i]? = some v → VRel w C0 rs0 v x.1) → resList l ks rs fs c = some r →
  ∃ t rs' fs' ks' C', c t rs' fs' ks' = some r ∧ Moved w C0 rs0 C' rs' fs' ks' ∧ Stage w C rs fs ks C' rs' fs' ks' ∧ TRel w C' (cmb rs' fs') t vals := by
 intro l
 induction l with
 | nil =>
  intro vals C rs fs ks c M _ hlen _ h
  have : vals = [] := List.eq_nil_of_length_eq_zero hlen.symm
  subst this
  exact ⟨_, _, _, _, C, h, M, .refl, rfl⟩
 | cons x l ih =>
  intro vals C rs fs ks c M hfr hlen hv h
  obtain ⟨a, k⟩ := x
  cases vals with
  | nil => simp at hlen
  | cons v vals =>
  simp only [anyFr, Bool.or_eq_false_iff] at hfr
  have hn : ∀ q ∈ a.names, q.1 ≠ 1 := by
   intro q hq h1
   have := hfr.1
   simp only [hasFr, List.any_eq_false] at this
   exact this q hq (beq_iff.2 h1)
  simp only [resList] at h
  obtain ⟨a', rs1, fs1, ks1, C1, h, M1, S1, V1, N1⟩ := resVal_sound M hn (hv 0 (a, k) v rfl rfl) h
  obtain ⟨t, rs2, fs2, ks2, C2, h, M2, S2, T2⟩ := ih vals M1 hfr.2 (by simpa using hlen) (fun i x v hx hvv => hv (i + 1) x v (by simpa using hx) (by simpa using hvv)) h
  exact ⟨_, _, _, _, C2, h, M2, S1.trans S2, v, vals, rfl, VRel1.stepN (fun b vs hl hh hn hb => S2.leaf b vs hl hh hn hb) N1 V1, T2⟩
end
end Go.Abs

namespace Go.Abs
section
variable {P : Program} {V : Env}
theorem tofL_init : ∀ (l : List AV) (k t : Nat), tofL (initT k l) t = if k ≤ t then (l[t - k]?).getD .dead else .dead := by
 intro l
 induction l with
 | nil => intro k t; simp [initT, tofL]
 | cons a l ih =>
  intro k t
  simp only [initT, tofL]
  by_cases h : t = k
  ·rw [beq_iff.2 h]; subst h; simp
  ·rw [beq_ne h]
   simp only [cond_false, ih]
   by_cases h2 : k ≤ t
   ·rw [if_pos (by omega), if_pos h2, show t - k = (t - (k + 1)) + 1 by omega]; simp
   ·rw [if_neg (by omega), if_neg h2]
theorem rofL_init : ∀ (l : List Root) (k : Nat) (q : RName), rofL (initR k l) q = if q.1 = 0 ∧ k ≤ q.2 then l[q.2 - k]? else none := by
 intro l
 induction l with
 | nil => intro k q; simp [initR, rofL]
 | cons a l ih =>
  intro k q
  simp only [initR, rofL]
  by_cases h : q = par k
  ·rw [req_iff.2 h]; subst h; simp
  ·rw [req_ne h]
   simp only [cond_false, ih]
   obtain ⟨q1, q2⟩ := q
   by_cases h2 : q1 = 0 ∧ k ≤ q2
   ·have hne : q2 ≠ k := by rintro rfl; exact h (by rw [h2.1])
    rw [if_pos ⟨h2.1, by simp; omega⟩, if_pos h2]
    simp only
    rw [show q2 - k = (q2 - (k + 1)) + 1 by omega]; simp
   ·rw [if_neg h2, if_neg (fun h3 => h2 ⟨h3.1, by have := h3.2; simp at this; omega⟩)]
theorem init_roots (l : List Root) : rofL (initR 0 l) = rsIn l := by
 funext q
 rw [rofL_init]
 obtain ⟨q1, q2⟩ := q
 match q1 with
 | 0 => simp [rsIn]
 | q1 + 1 => simp [rsIn]
theorem dstOk_mono {m n : Nat} (hmn : m ≤ n) : ∀ (c : Code), dstOk m c = true → dstOk n c = true := by
 intro c
 induction c with
 | region id ops draw =>
  intro h
  simp only [dstOk, List.all_eq_true] at h ⊢
  refine fun o ho => ?_
  have h2 := h o ho
  cases hd : o.dst with
  | none => rfl
  | some d =>
   rw [hd] at h2
   have h3 : Nat.blt d m = true := h2
   have h4 : d + 1 ≤ m := Nat.le_of_ble_eq_true h3
   show Nat.ble (d + 1) n = true
   exact Nat.ble_eq_true_of_le (Nat.le_trans h4 hmn)
 | seq a b iha ihb => intro h; simp only [dstOk, Bool.and_eq_true] at h ⊢; exact ⟨iha h.1, ihb h.2⟩
 | cond x a b iha ihb => intro h; simp only [dstOk, Bool.and_eq_true] at h ⊢; exact ⟨iha h.1, ihb h.2⟩
 | block id a ih => intro h; exact ih h
 | loop a ih => intro h; exact ih h
 | _ => intro _; rfl
theorem parRoots_spec {rs : RF} : ∀ (n i : Nat) {ps : List Root}, parRoots rs i n = some ps → ps.length = n ∧ ∀ (j : Nat) (x : Root), ps[j]? = some x → rs (par (i + j)) = some x := by
 intro n
 induction n with
 | zero => intro i ps h; simp only [parRoots, Option.some.injEq] at h; subst h; exact ⟨rfl, by simp⟩
 | succ n ih =>
  intro i ps h
  simp only [parRoots] at h
  split at h
  case h_2 => simp at h
  case h_1 x hx =>
  cases hr : parRoots rs (i + 1) n with
  | none => rw [hr] at h; simp at h
  | some ps' =>
   rw [hr] at h
   simp only [Option.map_some, Option.some.injEq] at h
   subst h
   obtain ⟨h1, h2⟩ := ih _ hr
   refine ⟨by simp [h1], fun j y hj => ?_⟩
   cases j with
   | zero => simp only [List.getElem?_cons_zero, Option.some.injEq] at hj; subst hj; exact hx
   | succ j => have := h2 j y (by simpa using hj); rw [show i + (j + 1) = i + 1 + j by omega]; exact this
theorem getP_nil {R : Type} (k : K) (d : k.den) (m : Mask) (c : (k' : K) → k'.den → Mask → Option R) : getP k d m [] c = c k d m := by cases k <;> rfl
theorem resVals_run {w0 w : World} {M0 : BS} {n : Nat} {C0 C : Ctx} {st : St} {a : Act} (hT : TysOK P V) (R : Rel w0 M0 n C0 C st a w) : ∀ (l : List ResultVar) (ts : List TypeId) {vals : List (AV × Option K)}, resVals V st.tmps st.roots l ts = some vals →
  ∃ vs : List Value, vs.length = vals.length ∧ (∀ (i : Nat) (x : AV × Option K) (v : Value), vals[i]? = some x → vs[i]? = some v → VRel w C st.roots v x.1) ∧ ∀ (g : ResultVar → Sem Value), (∀ t, g (.tmp t) = pure (a.tmps.getD t undef)) → (∀ t T, g (.cell t T) = (do loadVar T (← asAddr (a.tmps.getD t undef)))) → (List.mapM g l).run P w = .ok vs w := by
 intro l
 induction l with
 | nil => intro ts vals h; simp only [resVals, Option.some.injEq] at h; subst h; exact ⟨[], rfl, by simp, fun _ _ _ => rfl⟩
 | cons r l ih =>
  intro ts vals h
  have step : ∀ (x : AV × Option K) (v : Value), (resVals V st.tmps st.roots l ts.tail).map (x :: ·) = some vals → VRel w C st.roots v x.1 → (∀ (g : ResultVar → Sem Value), (∀ t, g (.tmp t) = pure (a.tmps.getD t undef)) → (∀ t T, g (.cell t T) = (do loadVar T (← asAddr (a.tmps.getD t undef)))) → (g r).run P w = .ok v w) →
    ∃ vs : List Value, vs.length = vals.length ∧ (∀ (i : Nat) (x : AV × Option K) (v : Value), vals[i]? = some x → vs[i]? = some v → VRel w C st.roots v x.1) ∧ ∀ (g : ResultVar → Sem Value), (∀ t, g (.tmp t) = pure (a.tmps.getD t undef)) → (∀ t T, g (.cell t T) = (do loadVar T (← asAddr (a.tmps.getD t undef)))) → (List.mapM g (r :: l)).run P w = .ok vs w := by
   intro x v hm hv hrun
   cases hr : resVals V st.tmps st.roots l ts.tail with
   | none => rw [hr] at hm; simp at hm
   | some vals' =>
    rw [hr] at hm
    simp only [Option.map_some, Option.some.injEq] at hm
    subst hm
    obtain ⟨vs, h1, h2, h3⟩ := ih _ hr
    refine ⟨v :: vs, by simp [h1], fun i y u hy hu => ?_, fun g hg hg2 => by simp only [List.mapM_cons, Sem.run_bind, hrun g hg hg2, Result.andThen_ok, h3 g hg hg2, Sem.run_pure]⟩
    cases i with
    | zero => simp only [List.getElem?_cons_zero, Option.some.injEq] at hy hu; subst hy; subst hu; exact hv
    | succ i => exact h2 i y u (by simpa using hy) (by simpa using hu)
  cases r with
  | tmp t =>
   simp only [resVals] at h
   exact step _ _ h (R.tm t) (fun g hg _ => by rw [hg]; rfl)
  | cell t T =>
   simp only [resVals] at h
   split at h
   case h_2 => simp at h
   case h_1 k q hk e1 =>
   split at h
   case h_2 => simp at h
   case h_1 y hy =>
   split at h
   case isFalse => simp at h
   case isTrue hc =>
   obtain ⟨hmem, hkk⟩ := hc
   obtain ⟨ti, hti, hki⟩ := Env.k_ti hk
   have hty := hT.ty _ _ hti
   have hx := R.tm t
   rw [e1] at hx
   obtain ⟨⟨b, off, hv, hbo, hroot⟩, _⟩ := hx.cell (by simp) rfl (by simp) (by simp)
   simp only [List.cons.injEq, and_true] at hv
   obtain ⟨rfl, rfl⟩ := hbo rfl
   obtain ⟨k', d, m, vs, b1, hp, hc2⟩ := place_get (p := []) (c := fun k' d m => some ((⟨k', d⟩ : Σ k : K, k.den), m)) (R.mem.ok _ _ hy) (getP_nil _ _ _ _)
   simp only [Option.some.injEq, Prod.mk.injEq, Sigma.mk.injEq] at hc2
   obtain ⟨⟨rfl, hd⟩, rfl⟩ := hc2
   cases hd
   obtain ⟨k2, cs, g1, g2, g3⟩ := hroot y hy
   rw [hp.lc] at g3
   simp only [Option.some.injEq, Prod.mk.injEq] at g3
   obtain ⟨rfl, rfl⟩ := g3
   obtain ⟨F, he⟩ := hp.enc
   have hr := avAt_rel R.mem hy hp
   have hm : y.k.isAgg = false → avAt q y.k [] y.d y.m ≠ .dead → (valOf y.k vs).cells = #[valOf y.k vs] := fun hg hd => he.cellV (avAt_gone hd) hg
   refine step _ (valOf y.k vs) h (VRel.val hr.1 he.len hr.2 hm) ?_
   have hki : ti.k = y.k := hki.trans hkk.symm
   have hrun := run_loadAt (P := P) hty hp.lies (by rw [hki]; exact he.len) (v := valOf y.k vs) (by rw [hki]; exact valOf_spec he.len)
   intro g _ hg2
   rw [hg2, hv]
   simpa [Instr.loadAt, Instr.sureAddr, asAddr] using hrun
theorem run_results {fn : Func} {w0 w : World} {M0 : BS} {n : Nat} {C0 C : Ctx} {st : St} {a : Act} (hT : TysOK P V) (R : Rel w0 M0 n C0 C st a w) {ts : List TypeId} {vals : List (AV × Option K)} (h : resVals V st.tmps st.roots fn.results.toList ts = some vals) :
  ∃ vs : List Value, vs.length = vals.length ∧ (∀ (i : Nat) (x : AV × Option K) (v : Value), vals[i]? = some x → vs[i]? = some v → VRel w C st.roots v x.1) ∧
   (results fn a.tmps).run P w = .ok (match vs with | [v] => v | vs => .tuple vs.toArray) w := by
 obtain ⟨vs, h1, h2, h3⟩ := resVals_run hT R _ _ h
 refine ⟨vs, h1, h2, ?_⟩
 unfold results
 have he : fn.results = fn.results.toList.toArray := by simp
 rw [he, List.mapM_toArray]
 simp only [Sem.run_bind, Sem.run_map]
 rw [h3 _ (fun t => rfl) (fun t T => rfl)]
 simp only [Result.andThen_ok, Sem.run_pure]
 cases vs with
 | nil => rfl
 | cons v vl =>
  cases vl with
  | nil => rfl
  | cons v2 vl => simp
theorem Rel.endSt {w0 w : World} {M0 : BS} {n : Nat} {C0 C : Ctx} {s : St} {a : Act} {V : Env} (h : Rel w0 M0 n C0 C s a w) : ∃ C', Rel w0 M0 n C0 C' (endSt V s) a w := by
 unfold Go.Abs.endSt
 split
 ·exact ⟨C, h⟩
 ·exact Rel.frzAll _ h
theorem contract_of {Γ : Glb} (hT : TysOK P V) (hE : EnvOK P Γ V) {f : FuncId} {fn : Func} {F : FnI} (hf : P.funcs[f]? = some fn) (hb : fn.body = some F.body) (hres : fn.results.toList = F.results)
  (hdst : dstOk fn.ntmps F.body = true) (hL : LoopsOK V F.loops F.body) (rw : List Nat) : Contract P Γ f ⟨rw, fun ci => .mat (denFn V F ci) .ret, false⟩ := by
 intro w C ci co vals hM hptr hsz hvals hgl hG
 have hE : EnvG P Γ V w (mayWrite C ci.roots) C := ⟨hE, fun b hb => ⟨hgl.1 b hb, fun ⟨i, x, hx, hF⟩ => (hM.apart (par i) x b hx hF).1 (hgl.1 b hb), hM.ro b (.inl (hgl.1 b hb))⟩, hgl.2⟩
 suffices hold : Calls P f vals w fun e w' => match e with
   | .returned v => ∃ C', CallPost w C ci co v w' C'
   | _ => False from hold.mono fun e w' h => by
  cases e with
  | returned v => obtain ⟨C', h⟩ := h; exact ⟨C', h, fun h => nomatch h⟩
  | _ => exact h
 refine calls_of_wp hf hb ?_
 have hG : denFn V F ci = some co := by
  obtain ⟨o, ho⟩ : ∃ o, denFn V F ci = o := ⟨_, rfl⟩
  have hG : (Tre.mat (denFn V F ci) Tre.ret).run some = some co := hG
  rw [ho] at hG ⊢
  cases o with
  | none => cases hG
  | some x => exact hG
 unfold denFn at hG
 have hn : fn.ntmps ≤ (vals ++ Array.replicate (fn.ntmps - vals.size) undef).size := by simp; omega
 have hinit : Rel w (mayWrite C ci.roots) (vals ++ Array.replicate (fn.ntmps - vals.size) undef).size C C (initS ci) { tmps := vals ++ Array.replicate (fn.ntmps - vals.size) undef, defers := [] } w := by
  have hroots : (initS ci).roots = rsIn ci.roots := init_roots _
  refine ⟨⟨.refl _, rfl, fun _ => rfl⟩, by rw [hroots]; exact hM, fun t => ?_, .refl _ _, fun q x b hq hb => ?_, fun q x hq p hp h1 => ?_, rfl, rfl, fun _ _ _ _ => rfl, fun b hb => .inl hb⟩
  ·rw [hroots]
   show VRel w C _ _ (tofL (initT 0 ci.args) t)
   rw [tofL_init]
   simp only [Nat.zero_le, if_true, Nat.sub_zero]
   cases ht : ci.args[t]? with
   | none => exact VRel.dead
   | some av =>
    simp only [Option.getD_some]
    have hlt : t < vals.size := by rw [hsz]; exact (List.getElem?_eq_some_iff.1 ht).1
    have : (vals ++ Array.replicate (fn.ntmps - vals.size) undef).getD t undef = vals[t] := by
     rw [Array.getD_eq_getD_getElem?, Array.getElem?_append_left hlt, Array.getElem?_eq_getElem hlt]; rfl
    rw [this]
    exact hvals t _ av (Array.getElem?_eq_getElem hlt) ht
  ·rw [hroots] at hq
   obtain ⟨q1, q2⟩ := q
   match q1, hq with
   | 0, hq => exact .inr ⟨q2, x, hq, hb⟩
   | q1 + 1, hq => cases hq
  ·rw [hroots] at hq
   obtain ⟨q1, q2⟩ := q
   match q1, hq with
   | 0, hq => have := hptr x (List.mem_of_getElem? hq) p hp; omega
   | q1 + 1, hq => cases hq
 refine den_sound hT hE F.body (dstOk_mono hn _ hdst) hL (fun e s' a' w' C' hc R' => ?_) hinit hG
 have hfin : (match resVals V (endSt V s').tmps (endSt V s').roots F.results F.types with
   | none => none
   | some vals => bif (endSt V s').pins 1 || anyFr vals then none else
    resList vals [] (endSt V s').roots [] fun r rs fs _ => match parRoots rs 0 ci.roots.length with
     | none => none
     | some ps => bif ptrsOk ps.length fs.length ps && ptrsOk ps.length fs.length fs then some (⟨one r, ps, fs⟩ : CallOut) else none) = some co → bodyPost P fn (fun e w' => match e with
   | .returned v => ∃ C', CallPost w C ci co v w' C'
   | _ => False) .ret a' w' := by
  clear hc
  obtain ⟨C', R'⟩ := R'.endSt
  generalize endSt V s' = s' at R'
  intro hc
  split at hc
  case h_1 => simp at hc
  case h_2 _ rv hrv =>
  cases hchk : (s'.pins 1 || anyFr rv) with
  | true => rw [hchk] at hc; simp at hc
  | false =>
  rw [hchk] at hc
  simp only [cond_false] at hc
  simp only [Bool.or_eq_false_iff] at hchk
  rw [← hres] at hrv
  obtain ⟨vl, hsl1, hsl2, hsl3⟩ := run_results hT R' hrv
  refine ⟨R'.defers, _, hsl3, ?_⟩
  -- the state as the start of the results' way
  have hp1 : ∀ q y, s'.roots q = some y → ∀ p ∈ ptrsOf y.k y.d, p.1 ≠ 1 := by
   intro q y hy p hp h1
   have := R'.pins q y hy p hp (by omega)
   rw [h1, hchk.1] at this; cases this
  have hsub : ∀ q y, cmb s'.roots [] q = some y → s'.roots q = some y := by
   intro q y h
   unfold cmb at h
   split at h
   ·simp at h
   ·exact h
  have hM0 : Moved w' C' s'.roots C' s'.roots [] [] := by
   refine ⟨rfl, rfl, fun _ => ⟨rfl, rfl⟩, ⟨fun q y h => R'.mem.ok q y (hsub q y h), fun q q' y y' h h' => R'.mem.disj q q' y y' (hsub q y h) (hsub q' y' h'), fun q y b h => R'.mem.apart q y b (hsub q y h), R'.mem.ro, fun q y h p hp z hz => R'.mem.ptr q y (hsub q y h) p hp z (hsub p z hz)⟩,
    fun b vs hl _ _ hb => leaf_keep R'.mem (fun _ => False) rfl rfl (fun _ _ => rfl) (fun _ _ => rfl) (fun q y _ h => hsub q y h) (fun _ _ => rfl) hl (fun _ _ h => h) hb,
    fun q y b h hb => ⟨q, y, hsub q y h, hb⟩, fun q y h => hp1 q y (hsub q y h), fun _ => rfl⟩
  obtain ⟨tv, rs2, fs2, ks2, C2, hc, M2, S2, T2⟩ := resList_sound rv vl hM0 hchk.2 hsl1.symm hsl2 hc
  split at hc
  case h_1 => simp at hc
  case h_2 _ ps hps =>
  obtain ⟨hpl, hps2⟩ := parRoots_spec _ _ hps
  cases hchk3 : (ptrsOk ps.length fs2.length ps && ptrsOk ps.length fs2.length fs2) with
  | false => rw [hchk3] at hc; simp at hc
  | true =>
  rw [hchk3] at hc
  simp only [cond_true, Option.some.injEq] at hc
  subst hc
  have hout : ∀ q y, rsOut ⟨one tv, ps, fs2⟩ q = some y → cmb rs2 fs2 q = some y := by
   rintro ⟨q1, q2⟩ y hq
   match q1, hq with
   | 0, hq => have := hps2 q2 y hq; rw [Nat.zero_add] at this; exact this
   | 1, hq => exact hq
   | q1 + 2, hq => cases hq
  have hval : ∀ b vs, b.isLeaf = true → hit [] b = false → AVC w' C2 (cmb rs2 fs2) b vs → AVC w' C2 (rsOut ⟨one tv, ps, fs2⟩) b vs :=
   fun b vs hl _ hb => leaf_keep M2.mem (fun _ => False) rfl rfl (fun _ _ => rfl) (fun _ _ => rfl) (fun q y _ h => hout q y h) (fun _ _ => rfl) hl (fun _ _ h => h) hb
  refine ⟨C2, fun b hb => (by rw [M2.Z]; exact R'.ext.Z b hb), M2.S.trans R'.ext.S, fun i => (M2.pars i).1.trans (R'.ext.θ i),
   ⟨fun q y h => M2.mem.ok q y (hout q y h), fun q q' y y' h h' => M2.mem.disj q q' y y' (hout q y h) (hout q' y' h'), fun q y b h => M2.mem.apart q y b (hout q y h), M2.mem.ro, fun q y h p hp z hz => M2.mem.ptr q y (hout q y h) p hp z (hout p z hz)⟩,
   ?_, fun i x hx hm => ?_, R'.kept, fun q y b hq hb => ?_, fun b hb => R'.zn b (by rw [← M2.Z]; exact hb)⟩
  ·have hT2 := TRel.step hval _ _ T2
   rw [kills_nil] at hT2
   show VRel w' C2 _ _ (one tv)
   cases tv with
   | tnil =>
    have : vl = [] := hT2
    subst this
    exact .inr ⟨[], rfl, rfl⟩
   | tcons x y =>
    obtain ⟨v, l, rfl, h1, h2⟩ := hT2
    cases y with
    | tnil =>
     have : l = [] := h2
     subst this
     exact .inl h1
    | tcons x2 y2 =>
     obtain ⟨v2, l2, rfl, h3, h4⟩ := h2
     exact .inr ⟨v :: v2 :: l2, rfl, v, _, rfl, h1, v2, l2, rfl, h3, h4⟩
    | _ => exact h2.elim
   | _ => exact hT2.elim
  ·have h1 := hps2 i x hx
   rw [Nat.zero_add, M2.rs1 i] at h1
   rw [(M2.pars i).2]
   exact R'.parρ i x h1 hm
  ·obtain ⟨q0, y0, h1, h2⟩ := M2.foot q y b (hout q y hq) hb
   exact R'.foot q0 y0 b h1 h2
 cases e with
 | exit _ => simp at hc
 | normal => exact hfin hc
 | ret => exact hfin hc
end
end Go.Abs

namespace Go.Abs
def zeroB : K → List Value → Option (List Value)
 | .int ik, .int k n :: l => bif decide (k = ik) && decide (n = 0) then some l else none
 | .bool, .bool false :: l => some l
 | .str, .string ⟨⟨[]⟩⟩ :: l => some l
 | .ptr, .pointer none :: l => some l
 | .fn, .nilFunc :: l => some l
 | .sl _, .slice none 0 0 :: l => some l
 | .unit, l => some l
 | .pair a b, l => match zeroB a l with
  | some l => zeroB b l
  | none => none
 | _, _ => none
theorem zeroB_spec : ∀ {k : K} {l l' : List Value}, zeroB k l = some l' → l = k.zeroCells ++ l' := by
 intro k
 induction k with
 | pair a b iha ihb =>
  intro l l' h
  simp only [zeroB] at h
  split at h
  ·rename_i m hm
   rw [iha hm, ihb h]; simp [K.zeroCells]
  ·cases h
 | int ik =>
  intro l l' h
  unfold zeroB at h
  split at h <;> first | (cases h; done) | skip
  all_goals try (rename_i heq; cases heq)
  cases hc : (decide (_ = ik) && decide (_ = (0 : Int))) with
  | false => rw [hc] at h; cases h
  | true =>
   rw [hc] at h
   simp only [cond_true, Option.some.injEq] at h
   simp only [Bool.and_eq_true, decide_eq_true_eq] at hc
   obtain ⟨rfl, rfl⟩ := hc
   subst h
   rfl
 | unit => intro l l' h; cases h; rfl
 | _ =>
  intro l l' h
  unfold zeroB at h
  split at h <;> first | (cases h; done) | skip
  all_goals try (rename_i heq; cases heq)
  all_goals (cases h; first | rfl | simp [K.zeroCells])
def fieldsB (P : Program) : List Field → K → Nat → Bool
 | [], .unit, _ => true
 | f :: fs, .pair a b, off => Nat.beq f.offset off && !Nat.beq a.size 0 && (match P.info? f.type with
  | some i => Nat.beq i.size a.size && decide (aggOf P f.type = some a.isAgg)
  | none => false) && fieldsB P fs b (off + a.size)
 | _, _, _ => false
theorem fieldsB_spec {P : Program} : ∀ (fs : List Field) {k : K} {off : Nat}, fieldsB P fs k off = true → FieldsOK P fs k off := by
 intro fs
 induction fs with
 | nil => intro k off h; cases k <;> first | trivial | cases h
 | cons f fs ih =>
  intro k off h
  cases k <;> first | (cases h; done) | skip
  rename_i a b
  simp only [fieldsB, Bool.and_eq_true, Bool.not_eq_true'] at h
  obtain ⟨⟨⟨h1, h2⟩, h3⟩, h4⟩ := h
  refine ⟨Nat.eq_of_beq_eq_true h1, (fun h0 => by rw [h0] at h2; cases h2), ?_, ih h4⟩
  split at h3
  ·rename_i i hi; simp only [Bool.and_eq_true, decide_eq_true_eq] at h3; exact ⟨i, hi, Nat.eq_of_beq_eq_true h3.1, h3.2⟩
  ·cases h3
def descB (P : Program) (V : Env) (ti : TI) (d : TypeDesc) : Bool :=
 match ti.k, d with
 | .int ik, .int k => decide (k = ik)
 | .bool, .bool => true
 | .str, .string => true
 | .ptr, .pointer _ => true
 | .fn, .func .. => true
 | .sl e, .slice t => Nat.beq t ti.elem && (match V.ti ti.elem with
  | some te => decide (te.k = e) && !Nat.beq te.k.size 0
  | none => false)
 | .unit, .struct fs => fieldsB P fs.toList .unit 0
 | .pair a b, .struct fs => fieldsB P fs.toList (.pair a b) 0
 | _, _ => false
theorem descB_spec {P : Program} {V : Env} {ti : TI} {d : TypeDesc} (h : descB P V ti d = true) : DOK P V ti d := by
 unfold descB at h
 unfold DOK
 cases hk : ti.k <;> simp only [hk] at h ⊢ <;> cases d <;> simp only [] at h <;> first | (cases h; done) | skip
 ·rw [of_decide_eq_true h]
 ·rfl
 ·rfl
 ·exact ⟨_, rfl⟩
 ·exact ⟨_, _, _, rfl⟩
 ·simp only [Bool.and_eq_true] at h
  obtain ⟨h1, h2⟩ := h
  refine ⟨by rw [Nat.eq_of_beq_eq_true h1], ?_⟩
  split at h2
  ·rename_i te hte
   simp only [Bool.and_eq_true, decide_eq_true_eq, Bool.not_eq_true'] at h2
   exact ⟨te, hte, h2.1, (fun h0 => by rw [h0] at h2; cases h2.2)⟩
  ·cases h2
 ·exact ⟨_, rfl, fieldsB_spec _ h⟩
 ·exact ⟨_, rfl, fieldsB_spec _ h⟩
def eqFB (P : Program) : List Field → K → Nat → Bool
 | [], .unit, _ => true
 | f :: fs, .pair (.int k) b, off => !(f.name == "_") && Nat.beq f.offset off && (match P.underlying f.type with
  | some (.int k') => decide (k' = k)
  | _ => false) && eqFB P fs b (off + 1)
 | _, _, _ => false
theorem eqFB_spec {P : Program} : ∀ (fs : List Field) {k : K} {off : Nat}, eqFB P fs k off = true → EqF P fs k off := by
 intro fs
 induction fs with
 | nil => intro k off h; cases k <;> first | trivial | cases h
 | cons f fs ih =>
  intro k off h
  cases k <;> first | (cases h; done) | skip
  rename_i a b
  cases a <;> first | (cases h; done) | skip
  simp only [eqFB, Bool.and_eq_true, Bool.not_eq_true'] at h
  obtain ⟨⟨⟨h1, h2⟩, h3⟩, h4⟩ := h
  refine ⟨by simpa using h1, Nat.eq_of_beq_eq_true h2, ?_, ih h4⟩
  split at h3
  ·rename_i k' hk'; rw [hk', of_decide_eq_true h3]
  ·cases h3
def eqB (P : Program) (T : Nat) (k : K) : Bool := !k.ints || ((match P.underlying T with
 | some (.struct fs) => eqFB P fs.toList k 0
 | _ => false) && !P.stoodInHeld T && !P.eqGuardType P.depth T)
theorem eqB_spec {P : Program} {T : Nat} {k : K} (h : eqB P T k = true) (hk : k.ints = true) : EqOK P T k := by
 unfold eqB at h
 rw [hk, Bool.not_true, Bool.false_or] at h
 simp only [Bool.and_eq_true, Bool.not_eq_true'] at h
 obtain ⟨⟨h1, h2⟩, h3⟩ := h
 refine ⟨?_, h2, h3⟩
 split at h1
 ·rename_i fs hfs; exact ⟨fs, hfs, eqFB_spec _ h1⟩
 ·cases h1
def tyB (P : Program) (V : Env) (T : Nat) (ti : TI) : Bool :=
 match P.info? T, P.underlying T with
 | some i, some d => Nat.beq i.size ti.k.size && Nat.beq i.bytes ti.bytes && (match i.zero with
  | some z => (match zeroB ti.k z.cells.toList with
   | some [] => true
   | _ => false)
  | none => false) && descB P V ti d && eqB P T ti.k
 | _, _ => false
theorem tyB_spec {P : Program} {V : Env} {T : Nat} {ti : TI} (h : tyB P V T ti = true) : TyOK P V T ti := by
 unfold tyB at h
 split at h
 ·rename_i i d hi hd
  simp only [Bool.and_eq_true] at h
  obtain ⟨⟨⟨⟨h1, h2⟩, h3⟩, h4⟩, h5⟩ := h
  split at h3
  ·rename_i z hz
   split at h3
   ·rename_i hz2
    have := zeroB_spec hz2
    rw [List.append_nil] at this
    exact ⟨⟨i, z, hi, Nat.eq_of_beq_eq_true h1, Nat.eq_of_beq_eq_true h2, hz, this⟩, ⟨d, hd, descB_spec h4⟩, eqB_spec h5⟩
   ·cases h3
  ·cases h3
 ·cases h
def tysB (P : Program) (V : Env) : List (Nat × TI) → Bool
 | [] => true
 | (t, ti) :: l => tyB P V t ti && tysB P V l
theorem assocN_mem {α : Type} {t : Nat} {x : α} : ∀ (l : List (Nat × α)), assocN t l = some x → (t, x) ∈ l := by
 intro l
 induction l with
 | nil => intro h; cases h
 | cons y l ih =>
  intro h
  obtain ⟨t', y⟩ := y
  simp only [assocN] at h
  by_cases ht : t = t'
  ·rw [beq_iff.2 ht] at h
   simp only [cond_true, Option.some.injEq] at h
   subst h; subst ht; simp
  ·rw [beq_ne ht] at h
   exact List.mem_cons_of_mem _ (ih h)
theorem tysB_spec {P : Program} {V : Env} : ∀ (l : List (Nat × TI)), tysB P V l = true → ∀ t ti, (t, ti) ∈ l → TyOK P V t ti := by
 intro l
 induction l with
 | nil => intro _ t ti h; cases h
 | cons x l ih =>
  intro h t ti hm
  obtain ⟨t0, ti0⟩ := x
  simp only [tysB, Bool.and_eq_true] at h
  rcases List.mem_cons.1 hm with he | hm
  ·cases he; exact tyB_spec h.1
  ·exact ih h.2 t ti hm
theorem tysOK_of {P : Program} {V : Env} (h : tysB P V V.τ = true) (hm : P.follows .mixedOrders = true) : TysOK P V :=
 ⟨fun _ _ hti => tysB_spec _ h _ _ (assocN_mem _ hti), hm⟩
theorem tyB_env {P : Program} {τ : List (Nat × TI)} {E E' : List (Nat × Ctr)} {Z Z' : List (Nat × List Frz)} {t : Nat} {ti : TI} (h : tyB P ⟨τ, E, Z⟩ t ti = true) : tyB P ⟨τ, E', Z'⟩ t ti = true := h
theorem tysB_env {P : Program} {τ : List (Nat × TI)} {E : List (Nat × Ctr)} {Z : List (Nat × List Frz)} (h : tysB P ⟨τ, [], []⟩ τ = true) : tysB P ⟨τ, E, Z⟩ τ = true := by
 have key : ∀ l, tysB P ⟨τ, [], []⟩ l = true → tysB P ⟨τ, E, Z⟩ l = true := by
  intro l
  induction l with
  | nil => intro _; rfl
  | cons x l ih =>
   intro h
   obtain ⟨t, ti⟩ := x
   simp only [tysB, Bool.and_eq_true] at h ⊢
   exact ⟨tyB_env h.1, ih h.2⟩
 exact key τ h
theorem envOK_nil {P : Program} {Γ : Glb} {τ : List (Nat × TI)} {Z : List (Nat × List Frz)} : EnvOK P Γ ⟨τ, [], Z⟩ := fun f q h => by cases h
theorem envOK_cons {P : Program} {Γ : Glb} {τ : List (Nat × TI)} {E : List (Nat × Ctr)} {Z : List (Nat × List Frz)} {f : Nat} {q : Ctr} (h : Contract P Γ f q) (he : Enters P f) (hE : EnvOK P Γ ⟨τ, E, Z⟩) : EnvOK P Γ ⟨τ, (f, q) :: E, Z⟩ := by
 intro g q' hg
 simp only [Env.ctr, assocN] at hg
 by_cases hfg : g = f
 ·rw [beq_iff.2 hfg] at hg
  simp only [cond_true, Option.some.injEq] at hg
  subst hg; subst hfg; exact ⟨h, he⟩
 ·rw [beq_ne hfg] at hg
  exact hE g q' hg
theorem Contract.weaken {P : Program} {Γ : Glb} {f : FuncId} {q q' : Ctr} (h : Contract P Γ f q) (hq : ∀ ci co, (q'.G ci).run some = some co → (q.G ci).run some = some co) (hs : q'.soft = false := by rfl) : Contract P Γ f q' :=
 fun w C ci co vals h1 h2 h3 h4 hg h5 => (h w C ci co vals h1 h2 h3 h4 hg (hq ci co h5)).mono fun e w' k => by
  cases e with
  | returned v => obtain ⟨C', k, _⟩ := k; exact ⟨C', k, fun h => by rw [hs] at h; cases h⟩
  | _ => exact k
end Go.Abs

namespace Go.Abs
open Go.ChangeShapes Go.WideShapes Go.RowKit
def K.wf : (k : K) → k.den → Prop
 | .int ik, n => (Lit.int ik n).wf = true
 | .str, s => s.size ≤ maxLen
 | .sl e, xs => xs.length ≤ maxLen ∧ ∀ x ∈ xs, e.wf x
 | .pair a b, d => a.wf d.1 ∧ b.wf d.2
 | _, _ => True
def readB (P : Program) : K → TypeId ⊕ (List Field × Nat) → Bool
 | .int ik, .inl T => match P.underlying T with
  | some (.int k) => decide (k = ik)
  | _ => false
 | .bool, .inl T => match P.underlying T with
  | some .bool => true
  | _ => false
 | .str, .inl T => match P.underlying T with
  | some .string => true
  | _ => false
 | .sl e, .inl T => match P.underlying T with
  | some (.slice t) => Nat.beq (P.cellsOf t) e.size && Nat.blt 0 e.size && readB P e (.inl t)
  | _ => false
 | .pair a b, .inl T => match P.underlying T with
  | some (.struct fs) => Nat.beq (P.cellsOf T) (K.pair a b).size && (match fs.toList with
   | f :: l => Nat.beq f.offset 0 && Nat.beq (P.cellsOf f.type) a.size && readB P a (.inl f.type) && readB P b (.inr (l, a.size))
   | [] => false)
  | _ => false
 | .pair a b, .inr (f :: l, off) => Nat.beq f.offset off && Nat.beq (P.cellsOf f.type) a.size && readB P a (.inl f.type) && readB P b (.inr (l, off + a.size))
 | .unit, .inr ([], _) => true
 | _, _ => false
section
variable {P : Program} {w : World} {H : Type} {enc : TypeId × Value → H} {held : Bool} {θ : RName → Nat} {S : BS}
theorem cells_block {a : Addr} {n : Nat} {cs : List Value} (h : w.cells? 0 a n = some cs) (hn : 0 < n) : ∃ c T fz, w.heap[a.block]? = some (.cells c T fz) ∧ a.spot = none ∧ a.off + n ≤ c.size ∧ cs = sub c a.off n := by
 obtain ⟨_, hl, hc⟩ := World.cells?_some h
 have h0 := hc 0 hn
 have e0 : a.add 0 = a := by simp [Addr.add]
 rw [e0] at h0
 have hsome : ∃ v, cs[0]? = some v := ⟨cs[0]'(by omega), List.getElem?_eq_getElem _⟩
 obtain ⟨v0, hv0⟩ := hsome
 rw [hv0] at h0
 unfold World.cell? at h0
 split at h0
 case h_2 => cases h0
 case h_1 c T fz hb =>
 split at h0
 ·cases h0
 ·rename_i hs
  have hs : a.spot = none := by cases hh : a.spot with
   | none => rfl
   | some x => rw [hh] at hs; exact absurd rfl hs
  have hget : ∀ i, i < n → c[a.off + i]? = cs[i]? := by
   intro i hi
   have := hc i hi
   rw [← this]
   unfold World.cell?
   have hblk : (a.add i).block = a.block := by unfold Addr.add; split <;> rfl
   have hsp : (a.add i).spot = none := by unfold Addr.add; split <;> first | exact hs | rfl
   have hoff : (a.add i).off = a.off + i := by unfold Addr.add; split <;> simp_all
   rw [hblk, hb]
   simp only [hsp, hoff, Option.isSome_none, Bool.false_eq_true, if_false]
  have hsize : a.off + n ≤ c.size := by
   have := hget (n - 1) (by omega)
   rw [List.getElem?_eq_getElem (by omega)] at this
   have := (Array.getElem?_eq_some_iff.1 this).1
   omega
  refine ⟨c, T, fz, hb, hs, hsize, ?_⟩
  apply List.ext_getElem?
  intro i
  by_cases hi : i < n
  ·rw [← hget i hi]
   unfold sub
   rw [List.getElem?_take_of_lt hi, List.getElem?_drop, Array.getElem?_toList]
  ·rw [List.getElem?_eq_none (by omega), List.getElem?_eq_none (by rw [sub_length hsize]; omega)]
theorem trod_enc : ∀ (k : K),
  (∀ (T : TypeId) (n : Nat) (cs : List Value) (x : DataW H × List MemPlace), readB P k (.inl T) = true → DataW.trod enc P w 0 (fun _ => true) held n T cs = some x →
   ∃ d : k.den, Enc w θ (fun b => b < w.heap.size) S k (.imm true) d cs noB ∧ k.wf d) ∧
  (∀ (fs : List Field) (off n : Nat) (cs : List Value), readB P k (.inr (fs, off)) = true → cs.length = off + k.size →
   (∀ f ∈ fs, ∃ x, DataW.trod enc P w 0 (fun _ => true) held n f.type ((cs.drop f.offset).take (P.cellsOf f.type)) = some x) →
   ∃ d : k.den, Enc w θ (fun b => b < w.heap.size) S k (.imm true) d (cs.drop off) noB ∧ k.wf d) := by
 intro k
 induction k with
 | int ik =>
  refine ⟨fun T n cs x h ht => ?_, fun fs off n cs h => by simp [readB] at h⟩
  simp only [readB] at h
  split at h
  ·rename_i k hu
   have := of_decide_eq_true h
   subst this
   obtain ⟨n, rfl, _, hw⟩ := DataW.trod_int hu ht
   exact ⟨n, rfl, hw⟩
  ·cases h
 | bool =>
  refine ⟨fun T n cs x h ht => ?_, fun fs off n cs h => by simp [readB] at h⟩
  simp only [readB] at h
  split at h
  ·rename_i hu
   obtain ⟨b, rfl, _⟩ := DataW.trod_bool hu ht
   exact ⟨b, rfl, trivial⟩
  ·cases h
 | str =>
  refine ⟨fun T n cs x h ht => ?_, fun fs off n cs h => by simp [readB] at h⟩
  simp only [readB] at h
  split at h
  ·rename_i hu
   obtain ⟨s, rfl, _, hw⟩ := DataW.trod_string hu ht
   exact ⟨s, rfl, hw⟩
  ·cases h
 | ptr => exact ⟨fun T n cs x h => by simp [readB] at h, fun fs off n cs h => by simp [readB] at h⟩
 | fn => exact ⟨fun T n cs x h => by simp [readB] at h, fun fs off n cs h => by simp [readB] at h⟩
 | unit =>
  refine ⟨fun T n cs x h => by simp [readB] at h, fun fs off n cs h hl _ => ?_⟩
  refine ⟨(), ?_, trivial⟩
  show cs.drop off = []
  have : cs.length = off := hl
  exact List.drop_eq_nil_of_le (by omega)
 | sl e ih =>
  refine ⟨fun T n cs x h ht => ?_, fun fs off n cs h => by simp [readB] at h⟩
  simp only [readB] at h
  split at h
  case h_2 => cases h
  case h_1 t hu =>
  simp only [Bool.and_eq_true] at h
  obtain ⟨⟨h1, h2⟩, h3⟩ := h
  have h1 := Nat.eq_of_beq_eq_true h1
  have h2 : 0 < e.size := Nat.le_of_ble_eq_true h2
  rcases DataW.trod_slice hu ht with ⟨rfl, _⟩ | ⟨a, len, cap, elems, rest, m, rfl, rfl, _, _, hlc, hcm, hel, helem, hsp, _⟩
  ·exact ⟨[], .inr (.inl ⟨by simp, rfl, none, rfl⟩), by show (0 : Nat) ≤ maxLen; unfold maxLen; omega, by simp⟩
  ·obtain ⟨hrl, hrest⟩ := hsp rfl
   by_cases hc0 : cap = 0
   ·have hl0 : len = 0 := by omega
    subst hc0; subst hl0
    exact ⟨[], .inr (.inl ⟨by simp, rfl, some a, rfl⟩), by show (0 : Nat) ≤ maxLen; unfold maxLen; omega, by simp⟩
   ·-- every cell up to the capacity
    have hall : ∀ i, i < cap → ∃ cs' x', w.cells? 0 (a.add (i * e.size)) e.size = some cs' ∧ DataW.trod enc P w 0 (fun _ => true) held m t cs' = some x' := by
     intro i hi
     have key : ∃ x', (w.cells? 0 (a.add (i * P.cellsOf t)) (P.cellsOf t)).bind (DataW.trod enc P w 0 (fun _ => true) held m t) = some x' := by
      by_cases hil : i < len
      ·rw [helem i hil]
       exact ⟨elems[i]'(by omega), List.getElem?_eq_getElem _⟩
      ·have := hrest (i - len) (by omega)
       rw [show len + (i - len) = i by omega] at this
       rw [this]
       exact ⟨rest[i - len]'(by omega), List.getElem?_eq_getElem _⟩
     obtain ⟨x', hx'⟩ := key
     rw [h1] at hx'
     cases hcs : w.cells? 0 (a.add (i * e.size)) e.size with
     | none => rw [hcs] at hx'; cases hx'
     | some cs' => rw [hcs] at hx'; exact ⟨cs', x', rfl, hx'⟩
    have hblk : ∀ i, (a.add i).block = a.block := fun i => by unfold Addr.add; split <;> rfl
    obtain ⟨cs0, x0, hc0', _⟩ := hall 0 (by omega)
    rw [Nat.zero_mul, show a.add 0 = a by simp [Addr.add]] at hc0'
    obtain ⟨c, U, fz, hb, hspot, _, _⟩ := cells_block hc0' h2
    have hoff : ∀ i, (a.add i).off = a.off + i := fun i => by unfold Addr.add; split <;> simp_all
    have hcell : ∀ i, i < cap → a.off + i * e.size + e.size ≤ c.size ∧ ∃ x', DataW.trod enc P w 0 (fun _ => true) held m t (sub c (a.off + i * e.size) e.size) = some x' := by
     intro i hi
     obtain ⟨cs', x', g1, g2⟩ := hall i hi
     obtain ⟨c', U', fz', hb', _, hs', rfl⟩ := cells_block g1 h2
     rw [hblk, hb] at hb'
     cases hb'
     rw [hoff] at hs' g2
     exact ⟨hs', x', g2⟩
    have hd : ∀ i, i < len → ∃ d : e.den, Enc w θ (fun b => b < w.heap.size) S e (.imm true) d (sub c (a.off + i * e.size) e.size) noB ∧ e.wf d := by
     intro i hi
     obtain ⟨_, x', hx'⟩ := hcell i (by omega)
     exact ih.1 t m _ x' h3 hx'
    have hlist : ∃ ds : List e.den, ds.length = len ∧ ∀ i d, ds[i]? = some d → Enc w θ (fun b => b < w.heap.size) S e (.imm true) d (sub c (a.off + i * e.size) e.size) noB ∧ e.wf d := by
     refine ⟨List.ofFn fun i : Fin len => (hd i.1 i.2).choose, by simp, fun i d hi => ?_⟩
     rw [List.getElem?_ofFn] at hi
     split at hi
     ·rename_i hil
      cases hi
      exact (hd i hil).choose_spec
     ·cases hi
    obtain ⟨ds, hdl, hds⟩ := hlist
    have hlast := (hcell (cap - 1) (by omega)).1
    refine ⟨ds, .inr (.inr ⟨by simp, a.block, a.off, cap, c, U, fz, ?_, hb, by omega, ?_, .inl (by have := (Array.getElem?_eq_some_iff.1 hb).1; exact this), fun _ => noB, fun i => ⟨fun _ h => h.elim, fun h => h⟩, fun _ _ _ _ h => h.elim, fun i d hi => (hds i d hi).1⟩), by show ds.length ≤ maxLen; omega, fun d hd' => ?_⟩
    ·rw [hdl]
     obtain ⟨ab, ao, asp⟩ := a
     simp only at hspot
     subst hspot
     rfl
    ·have : cap = (cap - 1) + 1 := by omega
     rw [this, Nat.add_mul, Nat.one_mul]
     omega
    ·obtain ⟨i, hi⟩ := List.mem_iff_getElem?.1 hd'
     exact (hds i d hi).2
 | pair a b iha ihb =>
  have tail : ∀ (f : Field) (l : List Field) (off n : Nat) (cs : List Value), f.offset = off → P.cellsOf f.type = a.size → readB P a (.inl f.type) = true → readB P b (.inr (l, off + a.size)) = true → cs.length = off + (a.size + b.size) →
    (∀ g ∈ f :: l, ∃ x, DataW.trod enc P w 0 (fun _ => true) held n g.type ((cs.drop g.offset).take (P.cellsOf g.type)) = some x) →
    ∃ d : (K.pair a b).den, Enc w θ (fun b => b < w.heap.size) S (.pair a b) (.imm true) d (cs.drop off) noB ∧ (K.pair a b).wf d := by
   intro f l off n cs h1 h2 h3 h4 hl hf
   obtain ⟨x, hx⟩ := hf f (by simp)
   rw [h1, h2] at hx
   obtain ⟨d1, e1, w1⟩ := iha.1 _ _ _ _ h3 hx
   obtain ⟨d2, e2, w2⟩ := ihb.2 l (off + a.size) n cs h4 (by omega) (fun g hg => hf g (by simp [hg]))
   refine ⟨(d1, d2), ⟨(cs.drop off).take a.size, (cs.drop off).drop a.size, noB, noB, (List.take_append_drop _ _).symm, fun _ h => h, fun _ h => h, fun _ h => h.elim, e1, ?_⟩, w1, w2⟩
   rw [List.drop_drop]
   exact e2
  refine ⟨fun T n cs x h ht => ?_, fun fs off n cs h hl hf => ?_⟩
  ·simp only [readB] at h
   split at h
   case h_2 => cases h
   case h_1 fs hu =>
   simp only [Bool.and_eq_true] at h
   obtain ⟨h1, h2⟩ := h
   have h1 := Nat.eq_of_beq_eq_true h1
   split at h2
   case h_2 => cases h2
   case h_1 f l hfl =>
   simp only [Bool.and_eq_true] at h2
   obtain ⟨⟨⟨g1, g2⟩, g3⟩, g4⟩ := h2
   obtain ⟨xs, m, rfl, _, hcl, hxl, hall⟩ := DataW.trod_struct hu ht
   have := tail f l 0 m cs (Nat.eq_of_beq_eq_true g1) (Nat.eq_of_beq_eq_true g2) g3 (by rw [Nat.zero_add]; exact g4) (by rw [hcl, h1]; simp [K.size]) (fun g hg => ?_)
   ·rw [List.drop_zero] at this
    exact this
   ·rw [← hfl] at hg
    obtain ⟨i, hi⟩ := List.mem_iff_getElem?.1 hg
    rw [Array.getElem?_toList] at hi
    have hlt := (Array.getElem?_eq_some_iff.1 hi).1
    rw [hall i g hi]
    exact ⟨xs[i]'(by omega), List.getElem?_eq_getElem _⟩
  ·cases fs with
   | nil => simp [readB] at h
   | cons f l =>
    simp only [readB, Bool.and_eq_true] at h
    obtain ⟨⟨⟨g1, g2⟩, g3⟩, g4⟩ := h
    exact tail f l off n cs (Nat.eq_of_beq_eq_true g1) (Nat.eq_of_beq_eq_true g2) g3 g4 (by rw [hl]; simp [K.size]) hf
end
abbrev Args : List K → Type
 | [] => Unit
 | k :: l => k.den × Args l
def avs : (l : List K) → Args l → List AV
 | [], _ => []
 | k :: l, d => .imm true k d.1 :: avs l d.2
def wfs : (l : List K) → Args l → Prop
 | [], _ => True
 | k :: l, d => k.wf d.1 ∧ wfs l d.2
theorem avs_length : ∀ (l : List K) (d : Args l), (avs l d).length = l.length := by
 intro l
 induction l with
 | nil => intro d; rfl
 | cons k l ih => intro d; simp only [avs, List.length_cons, ih]
section
variable {P : Program} {H : Type} {enc : TypeId × Value → H}
def paramB (P : Program) (x : TypeId × K) : Bool := readB P x.2 (.inl x.1) && x.2.plain && P.readableRec x.1 && decide (x.1 < P.types.size)
theorem trod_vrel {W : World} {C : Ctx} {rs : RF} (hZ : C.Z = fun b => b < W.heap.size) {base : Nat} {k : K} {T : TypeId} {v : Value} {d : DataW H} {p : List MemPlace} (hr : readB P k (.inl T) = true) (hp : k.plain = true) (hok : Value.okWide P W .any base T v)
  (h : DataW.Trod enc P W 0 (fun _ => true) true T v d p) : ∃ dd : k.den, VRel W C rs v (.imm true k dd) ∧ k.wf dd := by
 obtain ⟨n, hn⟩ := h
 obtain ⟨dd, he, hw⟩ := (trod_enc (θ := C.θ) (S := C.S) k).1 T n _ _ hr hn
 refine ⟨dd, ?_, hw⟩
 rw [← hZ] at he
 cases k with
 | pair a b =>
  simp only [readB] at hr
  split at hr
  case h_2 => cases hr
  case h_1 fs hu =>
  simp only [Value.okWide, hu] at hok
  obtain ⟨cs, rfl, _⟩ := hok
  exact .inl (.inr (.inl ⟨rfl, cs.toList, by simp, hp, he⟩))
 | unit => simp [readB] at hr
 | ptr => simp [readB] at hr
 | fn => simp [readB] at hr
 | int ik =>
  have hv : ∃ n, v = .int ik n := by
   simp only [readB] at hr
   split at hr
   ·rename_i k hu; have := of_decide_eq_true hr; subst this; exact okWide_int hu hok
   ·cases hr
  obtain ⟨n, rfl⟩ := hv
  exact .inl (.inr (.inr ⟨rfl, ⟨hp, by simpa [Value.cells] using he⟩, rfl⟩))
 | bool =>
  have hv : ∃ n, v = .bool n := by
   simp only [readB] at hr
   split at hr
   ·rename_i hu; exact okWide_bool hu hok
   ·cases hr
  obtain ⟨n, rfl⟩ := hv
  exact .inl (.inr (.inr ⟨rfl, ⟨hp, by simpa [Value.cells] using he⟩, rfl⟩))
 | str =>
  have hv : ∃ n, v = .string n := by
   simp only [readB] at hr
   split at hr
   ·rename_i hu; exact okWide_string hu hok
   ·cases hr
  obtain ⟨n, rfl⟩ := hv
  exact .inl (.inr (.inr ⟨rfl, ⟨hp, by simpa [Value.cells] using he⟩, rfl⟩))
 | sl e =>
  have hv : ∃ a l c, v = .slice a l c := by
   simp only [readB] at hr
   split at hr
   ·rename_i hu; exact okWide_slice hu hok
   ·cases hr
  obtain ⟨a, l, c, rfl⟩ := hv
  exact .inl (.inr (.inr ⟨rfl, ⟨hp, by simpa [Value.cells] using he⟩, rfl⟩))
theorem trodAll_back (laid : laidOutB P = true) {W W' : World} (hb : Below W.heap.size W W') : ∀ (ks : List (TypeId × K)), ks.all (paramB P) = true → ∀ {vs : List Value} {ds : List (DataW H)} {p : List MemPlace}, (∀ x ∈ p, x.block < W.heap.size) →
  DataW.TrodAll enc P W 0 (fun _ => true) true (ks.map (·.1)) vs ds p → DataW.TrodAll enc P W' 0 (fun b => decide (b < W.heap.size)) true (ks.map (·.1)) vs ds p ∧ ds.length = ks.length := by
 intro ks
 induction ks with
 | nil => intro _ vs ds p _ h; obtain ⟨rfl, rfl, rfl⟩ := trodAll_nil h; exact ⟨rfl, rfl⟩
 | cons x ks ih =>
  intro hk vs ds p hlt h
  rw [List.all_cons, Bool.and_eq_true] at hk
  obtain ⟨v, vs', d, ds', p1, q1, rfl, rfl, rfl, h1, h2⟩ := trodAll_cons h
  have hx := hk.1
  simp only [paramB, Bool.and_eq_true, decide_eq_true_eq] at hx
  obtain ⟨g1, g2⟩ := ih hk.2 (fun y hy => hlt y (by simp [hy])) h2
  exact ⟨⟨p1, q1, Below.trod laid hx.1.2 hx.2 h1 hb (fun y hy => hlt y (by simp [hy])), g1, rfl⟩, by simp [g2]⟩
theorem trodAll_vrel {W : World} {C : Ctx} {rs : RF} (hZ : C.Z = fun b => b < W.heap.size) {base : Nat} : ∀ (ks : List (TypeId × K)), ks.all (paramB P) = true → ∀ {vs : List Value} {ds : List (DataW H)} {p : List MemPlace},
  (∀ (j : Nat) t v, (ks.map (·.1))[j]? = some t → vs[j]? = some v → Value.okWide P W .any base t v) → DataW.TrodAll enc P W 0 (fun _ => true) true (ks.map (·.1)) vs ds p →
  vs.length = ks.length ∧ ∃ dd : Args (ks.map (·.2)), wfs _ dd ∧ ∀ (i : Nat) (v : Value) (a : AV), vs[i]? = some v → (avs _ dd)[i]? = some a → VRel W C rs v a := by
 intro ks
 induction ks with
 | nil =>
  intro _ vs ds p _ h
  obtain ⟨rfl, rfl, rfl⟩ := trodAll_nil h
  exact ⟨rfl, (), trivial, fun i v a h => by simp at h⟩
 | cons x ks ih =>
  intro hk vs ds p hok h
  rw [List.all_cons, Bool.and_eq_true] at hk
  obtain ⟨v, vs', d, ds', p1, q1, rfl, rfl, rfl, h1, h2⟩ := trodAll_cons h
  have hx := hk.1
  simp only [paramB, Bool.and_eq_true, decide_eq_true_eq] at hx
  obtain ⟨g1, dd, g2, g3⟩ := ih hk.2 (fun j t v ht hv => hok (j + 1) t v (by simpa using ht) (by simpa using hv)) h2
  obtain ⟨d0, e1, e2⟩ := trod_vrel (rs := rs) hZ hx.1.1.1 hx.1.1.2 (hok 0 x.1 v rfl rfl) h1
  refine ⟨by simp [g1], (d0, dd), ⟨e2, g2⟩, fun i v' a hv ha => ?_⟩
  cases i with
  | zero =>
   simp only [List.getElem?_cons_zero, Option.some.injEq] at hv
   subst hv
   have ha : some (AV.imm true x.2 d0) = some a := ha
   cases ha
   exact e1
  | succ i => exact g3 i v' a (by simpa using hv) ha
theorem row_calls {Γ : Glb} {f : FuncId} {fn : Func} {rw : List Nat} {G : CallIn → Tre CallOut} {sf : Bool} (hc : Contract P Γ f ⟨rw, G, sf⟩) (laid : laidOutB P = true) (ks : List (TypeId × K)) (hp : fn.params.toList = ks.map (·.1)) (hk : ks.all (paramB P) = true) {rt : TypeId}
  (hr : fn.resultTypes = #[rt]) (hrt : P.underlying rt = some .bool) {s : ChangeSpec} (hv : s.vars = []) (hs : ∀ ds : List (DataW H), ds.length = ks.length → s.fn H ds = ⟨[.lit (.bool true)], ds, []⟩)
  (hG : ∀ dd : Args (ks.map (·.2)), wfs _ dd → ∃ z, (G ⟨avs _ dd, []⟩).run some = some ⟨.imm z .bool true, [], []⟩) {W : World} {base : Nat} {args : Array Value} {ds gs : List (DataW H)} {before : List MemPlace}
  (hok : ∀ (j : Nat) t v, fn.params[j]? = some t → args[j]? = some v → Value.okWide P W .any base t v) (hW : DataW.Whole enc P fn.params.toList s.vars false W args.toList ds gs before) (hg0 : (∀ b ∈ Γ.blocks, b < W.heap.size) ∧ Γ.holds W) :
  Calls P f args W fun e W' => ∃ v, e = .returned v ∧ s.post enc P fn false true false false W args v W' := by
 have hW' := hW
 obtain ⟨p, q, hA, hV, rfl, hfz, hnd⟩ := hW
 rw [hv] at hV
 obtain ⟨rfl, rfl⟩ := trodVars_none hV
 rw [hp] at hA
 have hlt : ∀ x ∈ p, x.block < W.heap.size := fun x hx => hW'.lt x (by simp [hx])
 have C0 : Ctx := ⟨fun _ => 0, fun _ => [], fun _ => noB, fun b => b < W.heap.size, noB⟩
 have hok' : ∀ (j : Nat) t v, (ks.map (·.1))[j]? = some t → args.toList[j]? = some v → Value.okWide P W .any base t v := fun j t v ht hv => hok j t v (by rw [← hp] at ht; rw [← Array.getElem?_toList]; exact ht) (by rw [← Array.getElem?_toList]; exact hv)
 obtain ⟨hlen, dd, hwf, hval⟩ := trodAll_vrel (C := ⟨fun _ => 0, fun _ => [], fun _ => noB, fun b => b < W.heap.size, noB⟩) (rs := rsIn []) rfl ks hk hok' hA
 obtain ⟨z, hg⟩ := hG dd hwf
 refine (hc W ⟨fun _ => 0, fun _ => [], fun _ => noB, fun b => b < W.heap.size, noB⟩ ⟨avs _ dd, []⟩ _ args ?_ (by simp) (by rw [avs_length, List.length_map, ← hlen, Array.length_toList]) (fun i v a hv ha => hval i v a (by rw [Array.getElem?_toList]; exact hv) ha) hg0 hg).mono fun e W' he => ?_
 ·have hno : ∀ q : RName, rsIn [] q = none := by rintro ⟨q1, q2⟩; match q1 with
   | 0 => simp [rsIn]
   | q1 + 1 => rfl
  exact ⟨(fun q y h => by rw [hno] at h; cases h), (fun q q' y y' h => by rw [hno] at h; cases h), (fun q y b h => by rw [hno] at h; cases h), (fun b h => h.elim id fun h => h.elim), (fun q y h => by rw [hno] at h; cases h)⟩
 ·cases e with
  | returned v =>
   obtain ⟨C', hpost, _⟩ := he
   have hvb := hpost.val.bool
   subst hvb
   have hb : Below W.heap.size W W' := ⟨hpost.kept.os, hpost.kept.tape, hpost.kept.output, hpost.kept.size, fun b hb => hpost.kept.block b hb (fun ⟨i, x, h, _⟩ => by simp at h)⟩
   obtain ⟨hback, hdl⟩ := trodAll_back laid hb ks hk hlt hA
   refine ⟨_, rfl, ds, [], p ++ [], [], p, [], hW', ?_, ?_, ?_, hb.frame _, fun h => by cases h⟩
   ·rw [List.append_nil, hs ds hdl, hr]
    exact trodAll_mk1 (shut_bool hrt _)
   ·rw [List.append_nil, hs ds hdl, hp]
    exact hback
   ·rw [List.append_nil, hs ds hdl, hv]
    rfl
  | _ => exact he.elim
end
end Go.Abs

namespace Go.Abs
section
variable {R R' : Type} {r : R'} {g : R → Option R'}
def asImm (k : K) (a : AV) (c : Bool → k.den → Tre R) : Tre R := match a with
 | .imm z k' d => if h : k' = k then c z (h ▸ d) else .fail
 | _ => .fail
theorem asImm_spec {k : K} {a : AV} {c : Bool → k.den → Tre R} (h : (asImm k a c).run g = some r) : ∃ z d, a = .imm z k d ∧ (c z d).run g = some r := by
 unfold asImm at h
 split at h
 ·split at h
  ·rename_i hk; subst hk; exact ⟨_, _, rfl, h⟩
  ·cases h
 ·cases h
def asIptr (k : K) (a : AV) (c : Bool → k.den → Tre R) : Tre R := match a with
 | .iptr z k' d [.idx 0] => if h : k' = .sl k then (match (h ▸ d : (K.sl k).den) with
   | [x] => c z x
   | _ => .fail) else .fail
 | _ => .fail
theorem asIptr_spec {k : K} {a : AV} {c : Bool → k.den → Tre R} (h : (asIptr k a c).run g = some r) : ∃ z d, a = .iptr z (.sl k) [d] [.idx 0] ∧ (c z d).run g = some r := by
 unfold asIptr at h
 split at h
 ·split at h
  ·rename_i hk; subst hk
   split at h
   ·rename_i x hx
    exact ⟨_, x, by rw [← hx], h⟩
   ·cases h
  ·cases h
 ·cases h
def asImmZ (z0 : Bool) (k : K) (a : AV) (c : k.den → Tre R) : Tre R := match a with
 | .imm z k' d => if h : k' = k then (if z = z0 then c (h ▸ d) else .fail) else .fail
 | _ => .fail
theorem asImmZ_spec {z0 : Bool} {k : K} {a : AV} {c : k.den → Tre R} (h : (asImmZ z0 k a c).run g = some r) : ∃ d, a = .imm z0 k d ∧ (c d).run g = some r := by
 unfold asImmZ at h
 split at h
 ·split at h
  ·rename_i hk
   subst hk
   split at h
   ·rename_i hz; subst hz; exact ⟨_, rfl, h⟩
   ·cases h
  ·cases h
 ·cases h
def asNn (e : K) (a : AV) (c : Bool → List e.den → Tre R) : Tre R := match a with
 | .nn z e' d => if h : e' = e then c z (h ▸ d) else .fail
 | _ => .fail
theorem asNn_spec {e : K} {a : AV} {c : Bool → List e.den → Tre R} (h : (asNn e a c).run g = some r) : ∃ z d, a = .nn z e d ∧ (c z d).run g = some r := by
 unfold asNn at h
 split at h
 ·split at h
  ·rename_i hk; subst hk; exact ⟨_, _, rfl, h⟩
  ·cases h
 ·cases h
def asRef (q : RName) (p : Path) (a : AV) (c : Tre R) : Tre R := match a with
 | .ref q' p' => if q' = q ∧ p' = p then c else .fail
 | _ => .fail
theorem asRef_spec {q : RName} {p : Path} {a : AV} {c : Tre R} (h : (asRef q p a c).run g = some r) : a = .ref q p ∧ c.run g = some r := by
 unfold asRef at h
 split at h
 ·split at h
  ·rename_i hk; obtain ⟨rfl, rfl⟩ := hk; exact ⟨rfl, h⟩
  ·cases h
 ·cases h
def firstIdx : Path → Nat
 | .idx n :: _ => n
 | _ :: p => firstIdx p
 | [] => 0
def like0 : Path → Path → Bool
 | [], [] => true
 | .fst :: t, .fst :: p => like0 t p
 | .snd :: t, .snd :: p => like0 t p
 | _, _ => false
def like1 : Path → Path → Bool
 | .fst :: t, .fst :: p => like1 t p
 | .snd :: t, .snd :: p => like1 t p
 | .idx _ :: t, .idx _ :: p => like0 t p
 | _, _ => false
def fill1 : Path → Nat → Path
 | .idx _ :: t, n => .idx n :: t
 | s :: t, n => s :: fill1 t n
 | [], _ => []
theorem like0_eq : ∀ (t p : Path), like0 t p = true → p = t
 | [], [], _ => rfl
 | .fst :: t, .fst :: p, h => by rw [like0_eq t p h]
 | .snd :: t, .snd :: p, h => by rw [like0_eq t p h]
theorem like1_eq : ∀ (t p : Path), like1 t p = true → p = fill1 t (firstIdx p)
 | .fst :: t, .fst :: p, h => congrArg (Step.fst :: ·) (like1_eq t p h)
 | .snd :: t, .snd :: p, h => congrArg (Step.snd :: ·) (like1_eq t p h)
 | .idx _ :: t, .idx n :: p, h => congrArg (Step.idx n :: ·) (like0_eq t p h)
def asRef1 (q : RName) (t : Path) (a : AV) (c : Nat → Tre R) : Tre R := match a with
 | .ref r p => bif req r q && like1 t p then c (firstIdx p) else .fail
 | _ => .fail
theorem asRef1_spec {q : RName} {t : Path} {a : AV} {c : Nat → Tre R} (h : (asRef1 q t a c).run g = some r) : ∃ n, a = .ref q (fill1 t n) ∧ (c n).run g = some r := by
 unfold asRef1 at h
 split at h
 case h_2 => cases h
 rename_i r' p'
 cases hk : (req r' q && like1 t p') with
 | false => rw [hk] at h; cases h
 | true =>
  rw [hk] at h
  simp only [Bool.and_eq_true] at hk
  have hr := req_iff.1 hk.1
  subst hr
  exact ⟨_, congrArg (AV.ref r') (like1_eq t p' hk.2), h⟩
def asPtr (q : RName) (p : Path) (a : AV) (c : Tre R) : Tre R := match a with
 | .ptr q' p' => if q' = q ∧ p' = p then c else .fail
 | _ => .fail
theorem asPtr_spec {q : RName} {p : Path} {a : AV} {c : Tre R} (h : (asPtr q p a c).run g = some r) : a = .ptr q p ∧ c.run g = some r := by
 unfold asPtr at h
 split at h
 ·split at h
  ·rename_i hk; obtain ⟨rfl, rfl⟩ := hk; exact ⟨rfl, h⟩
  ·cases h
 ·cases h
def asFn (f : Nat) (caps : List RName) (a : AV) (c : Tre R) : Tre R := match a with
 | .fn f' caps' => if f' = f ∧ caps' = caps then c else .fail
 | _ => .fail
theorem asFn_spec {f : Nat} {caps : List RName} {a : AV} {c : Tre R} (h : (asFn f caps a c).run g = some r) : a = .fn f caps ∧ c.run g = some r := by
 unfold asFn at h
 split at h
 ·split at h
  ·rename_i hk; obtain ⟨rfl, rfl⟩ := hk; exact ⟨rfl, h⟩
  ·cases h
 ·cases h
def asNil (a : AV) (c : Tre R) : Tre R := match a with
 | .nil => c
 | _ => .fail
theorem asNil_spec {a : AV} {c : Tre R} (h : (asNil a c).run g = some r) : a = .nil ∧ c.run g = some r := by
 unfold asNil at h
 split at h
 ·exact ⟨rfl, h⟩
 ·cases h
def asCons {α : Type} (l : List α) (c : α → List α → Tre R) : Tre R := match l with
 | x :: y => c x y
 | _ => .fail
theorem asCons_spec {α : Type} {l : List α} {c : α → List α → Tre R} (h : (asCons l c).run g = some r) : ∃ x y, l = x :: y ∧ (c x y).run g = some r := by
 unfold asCons at h
 split at h
 ·exact ⟨_, _, rfl, h⟩
 ·cases h
def asEnd {α : Type} (l : List α) (c : Tre R) : Tre R := match l with
 | [] => c
 | _ => .fail
theorem asEnd_spec {α : Type} {l : List α} {c : Tre R} (h : (asEnd l c).run g = some r) : l = [] ∧ c.run g = some r := by
 unfold asEnd at h
 split at h
 ·exact ⟨rfl, h⟩
 ·cases h
def asRt (mem : Bool) (k : K) (x : Root) (c : Mask → k.den → Tre R) : Tre R :=
 if h : x.k = k then (bif Bool.beq x.mem mem then c x.m (h ▸ x.d) else .fail) else .fail
 where Bool.beq : Bool → Bool → Bool
 | true, b => b
 | false, b => !b
theorem asRt_spec {mem : Bool} {k : K} {x : Root} {c : Mask → k.den → Tre R} (h : (asRt mem k x c).run g = some r) : ∃ m d, x = ⟨mem, k, m, d⟩ ∧ (c m d).run g = some r := by
 obtain ⟨mem', k', m', d'⟩ := x
 unfold asRt at h
 split at h
 ·rename_i hk
  have hk : k' = k := hk
  subst hk
  cases mem' <;> cases mem <;> first | exact ⟨_, _, rfl, h⟩ | cases h
 ·cases h
def asRoot (mem : Bool) (k : K) (o : Option Root) (c : Mask → k.den → Tre R) : Tre R := match o with
 | some x => asRt mem k x c
 | none => .fail
theorem asRoot_spec {mem : Bool} {k : K} {o : Option Root} {c : Mask → k.den → Tre R} (h : (asRoot mem k o c).run g = some r) : ∃ m d, o = some ⟨mem, k, m, d⟩ ∧ (c m d).run g = some r := by
 unfold asRoot at h
 split at h
 ·obtain ⟨m, d, hx, h2⟩ := asRt_spec h; exact ⟨m, d, by rw [hx], h2⟩
 ·cases h
def asM (m0 m : Mask) (c : Tre R) : Tre R := if m = m0 then c else .fail
theorem asM_spec {m0 m : Mask} {c : Tre R} (h : (asM m0 m c).run g = some r) : m = m0 ∧ c.run g = some r := by
 unfold asM at h
 split at h
 ·exact ⟨‹_›, h⟩
 ·cases h
def asMImm (m : Mask) (c : Bool → Tre R) : Tre R := match m with
 | .imm z => c z
 | _ => .fail
theorem asMImm_spec {m : Mask} {c : Bool → Tre R} (h : (asMImm m c).run g = some r) : ∃ z, m = .imm z ∧ (c z).run g = some r := by
 unfold asMImm at h
 split at h
 ·exact ⟨_, rfl, h⟩
 ·cases h
end
section
variable {σ β : Type}
noncomputable def runN (step : σ → Tre (σ ⊕ β)) : Nat → σ → Option β
 | 0, _ => none
 | n + 1, x => (step x).run fun
  | .inl y => runN step n y
  | .inr b => some b
theorem runN_succ (step : σ → Tre (σ ⊕ β)) (n : Nat) (x : σ) : runN step (n + 1) x = ((step x).run some).bind fun
  | .inl y => runN step n y
  | .inr b => some b := Tre.run_bind _ _
theorem runN_mono (step : σ → Tre (σ ⊕ β)) : ∀ (n : Nat) (x : σ) (b : β), runN step n x = some b → runN step (n + 1) x = some b := by
 intro n
 induction n with
 | zero => intro x b h; cases h
 | succ n ih =>
  intro x b h
  rw [runN_succ] at h ⊢
  cases hs : (step x).run some with
  | none => rw [hs] at h; cases h
  | some y =>
   rw [hs] at h
   cases y with
   | inl y => exact ih y b h
   | inr y => exact h
theorem runN_le (step : σ → Tre (σ ⊕ β)) {n m : Nat} (hnm : n ≤ m) {x : σ} {b : β} (h : runN step n x = some b) : runN step m x = some b := by
 induction hnm with
 | refl => exact h
 | step _ ih => exact runN_mono step _ _ _ ih
open Classical in
noncomputable def loopF (step : σ → Tre (σ ⊕ β)) (x : σ) : Option β :=
 match runN step 1000000000000 x with
 | some b => some b
 | none => if h : ∃ b, ∃ n, runN step n x = some b then some (Classical.choose h) else none
theorem loopF_iff {step : σ → Tre (σ ⊕ β)} {x : σ} {b : β} : loopF step x = some b ↔ ∃ n, runN step n x = some b := by
 unfold loopF
 generalize hN : (1000000000000 : Nat) = N
 cases hr : runN step N x with
 | some b' =>
  constructor
  ·intro h; cases h; exact ⟨N, hr⟩
  ·rintro ⟨n, hn⟩
   have h1 := runN_le step (Nat.le_max_left n N) hn
   have h2 := runN_le step (Nat.le_max_right n N) hr
   rw [h1] at h2
   exact h2.symm
 | none =>
  constructor
  ·intro h
   dsimp only at h
   split at h
   ·rename_i hx
    simp only [Option.some.injEq] at h
    rw [← h]
    exact Classical.choose_spec hx
   ·cases h
  ·rintro ⟨n, hn⟩
   have hx : ∃ b, ∃ n, runN step n x = some b := ⟨b, n, hn⟩
   dsimp only
   rw [dif_pos hx]
   obtain ⟨m, hm⟩ := Classical.choose_spec hx
   have h1 := runN_le step (Nat.le_max_left n m) hn
   have h2 := runN_le step (Nat.le_max_right n m) hm
   rw [h1] at h2
   exact h2.symm
theorem loopF_eq (step : σ → Tre (σ ⊕ β)) (x : σ) : loopF step x = ((step x).run some).bind fun
  | .inl y => loopF step y
  | .inr b => some b := by
 apply Option.ext
 intro b
 rw [loopF_iff]
 constructor
 ·rintro ⟨n, hn⟩
  cases n with
  | zero => cases hn
  | succ n =>
   rw [runN_succ] at hn
   cases hs : (step x).run some with
   | none => rw [hs] at hn; cases hn
   | some y =>
    rw [hs] at hn
    cases y with
    | inl y => exact loopF_iff.2 ⟨n, hn⟩
    | inr y => exact hn
 ·intro h
  cases hs : (step x).run some with
  | none => rw [hs] at h; cases h
  | some y =>
   rw [hs] at h
   cases y with
   | inl y =>
    obtain ⟨n, hn⟩ := loopF_iff.1 h
    exact ⟨n + 1, by rw [runN_succ, hs]; exact hn⟩
   | inr y => exact ⟨1, by rw [runN_succ, hs]; exact h⟩
variable {V : Env} {A : List (Nat × LoopI)}
def roundK (kp kx : Keep) (c : St → Option (Ex × St)) (e : Ex) (s : St) : Option (Ex × St) := match e with
 | .normal => c (restrict kp s)
 | e => some (e, restrict kx s)
def roundR (mk : σ → St) (out : β → Ex × St) (c : St → Option (Ex × St)) : σ ⊕ β → Option (Ex × St)
 | .inl y => c (mk y)
 | .inr b => some (out b)
theorem iter_loop {L : LoopI} {body : Code} {mk : σ → St} {out : β → Ex × St} {step : σ → Tre (σ ⊕ β)}
  (hstep : ∀ (x : σ) (c : St → Option (Ex × St)), den V A body (mk x) (roundK L.kp L.kx c) = (step x).run (roundR mk out c)) : ∀ (n : Nat) (x : σ) (b : β), runN step n x = some b → iter L (fun s (c : Ex → St → Option (Ex × St)) => den V A body s c) n (mk x) (fun e s' => some (e, s')) = some (out b) := by
 intro n
 induction n with
 | zero => intro x b h; cases h
 | succ n ih =>
  intro x b h
  rw [runN_succ] at h
  have h1 := hstep x fun s => iter L (fun s (c : Ex → St → Option (Ex × St)) => den V A body s c) n s (fun e s' => some (e, s'))
  rw [Tre.run_bind] at h1
  refine Eq.trans (Eq.trans ?_ h1) ?_
  ·rfl
  cases hs : (step x).run some with
  | none => rw [hs] at h; cases h
  | some y =>
   rw [hs] at h
   cases y with
   | inl y => exact ih y b h
   | inr y => cases h; rfl
noncomputable def stOf (T : List (Nat × AV)) (U : List (RName × Option Root)) : St := ⟨tofL T, rofL U, pinsOf (rofL U) (U.map (·.1))⟩
def allT (tm : TF) : List (Nat × AV) → Prop
 | [] => True
 | (t, v) :: l => tm t = v ∧ allT tm l
def allU (rs : RF) : List (RName × Option Root) → Prop
 | [] => True
 | (q, x) :: l => rs q = x ∧ allU rs l
theorem tofL_map {tm : TF} : ∀ (l : List Nat) (t : Nat), t ∈ l → tofL (keepT tm l) t = tm t := by
 intro l
 induction l with
 | nil => intro t h; cases h
 | cons x l ih =>
  intro t h
  simp only [keepT, tofL]
  by_cases he : t = x
  ·rw [beq_iff.2 he]; subst he; rfl
  ·rw [beq_ne he]
   exact ih t ((List.mem_cons.1 h).resolve_left he)
theorem rofL_map {rs : RF} : ∀ (l : List RName) (q : RName), q ∈ l → rofL (keepR rs l) q = rs q := by
 intro l
 induction l with
 | nil => intro t h; cases h
 | cons x l ih =>
  intro t h
  simp only [keepR, rofL]
  by_cases he : t = x
  ·rw [req_iff.2 he]; subst he; rfl
  ·rw [req_ne he]
   exact ih t ((List.mem_cons.1 h).resolve_left he)
theorem keepT_all {tm : TF} : ∀ (T : List (Nat × AV)), allT tm T → keepT tm (T.map (·.1)) = T := by
 intro T
 induction T with
 | nil => intro _; rfl
 | cons x T ih => intro h; obtain ⟨t, v⟩ := x; obtain ⟨h1, h2⟩ := h; simp only [List.map_cons, keepT, ih h2, h1]
theorem keepR_all {rs : RF} : ∀ (U : List (RName × Option Root)), allU rs U → keepR rs (U.map (·.1)) = U := by
 intro U
 induction U with
 | nil => intro _; rfl
 | cons x U ih => intro h; obtain ⟨t, v⟩ := x; obtain ⟨h1, h2⟩ := h; simp only [List.map_cons, keepR, ih h2, h1]
theorem pinsOf_congr {rs rs' : RF} : ∀ (l : List RName), (∀ q ∈ l, rs' q = rs q) → pinsOf rs' l = pinsOf rs l := by
 intro l
 induction l with
 | nil => intro _; rfl
 | cons x l ih =>
  intro h
  funext n
  simp only [pinsOf]
  rw [h x (by simp), ih fun q hq => h q (by simp [hq])]
theorem allT_restrict {kp : Keep} {s : St} : ∀ (T : List (Nat × AV)), (∀ t ∈ T.map (·.1), t ∈ kp.1) → allT (restrict kp s).tmps T → allT s.tmps T := by
 intro T
 induction T with
 | nil => intro _ _; trivial
 | cons x T ih =>
  intro hm h
  obtain ⟨t, v⟩ := x
  refine ⟨?_, ih (fun u hu => hm u (by simp at hu ⊢; exact .inr hu)) h.2⟩
  rw [← h.1]
  exact (tofL_map _ t (hm t (by simp))).symm
theorem allU_restrict {kp : Keep} {s : St} : ∀ (U : List (RName × Option Root)), (∀ q ∈ U.map (·.1), q ∈ kp.2) → allU (restrict kp s).roots U → allU s.roots U := by
 intro U
 induction U with
 | nil => intro _ _; trivial
 | cons x U ih =>
  intro hm h
  obtain ⟨t, v⟩ := x
  refine ⟨?_, ih (fun u hu => hm u (by simp at hu ⊢; exact .inr hu)) h.2⟩
  rw [← h.1]
  exact (rofL_map _ t (hm t (by simp))).symm
theorem restrict_eq {kp : Keep} {s : St} {T : List (Nat × AV)} {U : List (RName × Option Root)} (h1 : kp.1 = T.map (·.1)) (h2 : kp.2 = U.map (·.1)) (hT : allT (restrict kp s).tmps T) (hU : allU (restrict kp s).roots U) : restrict kp s = stOf T U := by
 have hT' := allT_restrict T (by rw [h1]; exact fun _ h => h) hT
 have hU' := allU_restrict U (by rw [h2]; exact fun _ h => h) hU
 unfold restrict stOf
 rw [h1, h2, keepT_all T hT', keepR_all U hU']
 have : pinsOf s.roots (U.map (·.1)) = pinsOf (rofL U) (U.map (·.1)) := by
  refine pinsOf_congr _ fun q hq => ?_
  have h3 := keepR_all U hU'
  rw [← rofL_map (rs := s.roots) (U.map (·.1)) q hq, h3]
 rw [this]
def loopBodies : Code → List Code
 | .seq a b => loopBodies a ++ loopBodies b
 | .cond _ a b => loopBodies a ++ loopBodies b
 | .block _ a => loopBodies a
 | .loop a => a :: loopBodies a
 | _ => []
theorem loopsOK_of : ∀ (c : Code), (∀ a ∈ loopBodies c, ∀ i L, firstRegion a = some i → assocN i A = some L → LoopOK V A a L) → LoopsOK V A c := by
 intro c
 induction c with
 | seq a b iha ihb => intro h; exact ⟨iha fun x hx => h x (by simp [loopBodies, hx]), ihb fun x hx => h x (by simp [loopBodies, hx])⟩
 | cond x a b iha ihb => intro h; exact ⟨iha fun x hx => h x (by simp [loopBodies, hx]), ihb fun x hx => h x (by simp [loopBodies, hx])⟩
 | block id a ih => intro h; exact ih h
 | loop a ih => intro h; exact ⟨ih fun x hx => h x (by simp [loopBodies, hx]), h a (by simp [loopBodies])⟩
 | _ => intro _; trivial
def loopAt (c : Code) (n : Nat) : Code := (loopBodies c).getD n .skip
theorem loopsOK_nil {c : Code} (h : (loopBodies c).length = 0) : LoopsOK V A c := loopsOK_of c fun a ha => by rw [List.eq_nil_of_length_eq_zero h] at ha; cases ha
theorem loopsOK_all {c : Code} {n : Nat} (hn : (loopBodies c).length = n) (h : ∀ k, k < n → ∀ i L, firstRegion (loopAt c k) = some i → assocN i A = some L → LoopOK V A (loopAt c k) L) : LoopsOK V A c := by
 refine loopsOK_of c fun a ha => ?_
 obtain ⟨k, hk, rfl⟩ := List.mem_iff_getElem.1 ha
 have := h k (by omega)
 unfold loopAt at this
 rw [List.getD_eq_getElem?_getD, List.getElem?_eq_getElem hk] at this
 exact this
theorem loopOK_at {a : Code} {id : Nat} {L : LoopI} (h1 : firstRegion a = some id) (h2 : assocN id A = some L) (h : LoopOK V A a L) : ∀ i L', firstRegion a = some i → assocN i A = some L' → LoopOK V A a L' := by
 intro i L' h3 h4
 rw [h1] at h3
 cases h3
 rw [h2] at h4
 cases h4
 exact h
theorem loopOK_of {a : Code} {L : LoopI} (h : ∀ (s : St) (e : Ex) (s' : St), (L.sm (restrict L.kp s)).run some = some (e, s') →
  ∃ (σ β : Type) (mk : σ → St) (out : β → Ex × St) (step : σ → Tre (σ ⊕ β)) (x : σ) (b : β), restrict L.kp s = mk x ∧ loopF step x = some b ∧ out b = (e, s') ∧
   ∀ (x : σ) (c : St → Option (Ex × St)), den V A a (mk x) (roundK L.kp L.kx c) = (step x).run (roundR mk out c)) : LoopOK V A a L := by
 intro s e s' hs
 obtain ⟨σ, β, mk, out, step, x, b, h1, h2, h3, h4⟩ := h s e s' hs
 obtain ⟨n, hn⟩ := loopF_iff.1 h2
 refine ⟨n, ?_⟩
 rw [h1, ← h3]
 exact iter_loop h4 n x b hn
theorem mat_ret {ρ γ δ : Type} {o : Option ρ} {out : ρ → γ} {x : δ} {c : γ → Option δ} (h : (Tre.mat o fun y => Tre.ret (out y)).run c = some x) : ∃ y, o = some y ∧ c (out y) = some x := by
 rw [Tre.run_mat] at h
 cases o with
 | none => cases h
 | some y => exact ⟨y, rfl, h⟩
theorem mat_some {β δ α : Type} {o : Option β} {k : β → Tre α} {x : δ} {c : α → Option δ} (h : (Tre.mat o k).run c = some x) : ∃ y, o = some y ∧ (k y).run c = some x := by
 rw [Tre.run_mat] at h
 cases o with
 | none => cases h
 | some y => exact ⟨y, rfl, h⟩
theorem fin_mat {ρ : Type} {t : Tre ρ} {out : ρ → CallOut} {d : Option CallOut} {co : CallOut} (hd : d = t.run fun y => some (out y)) (h : (Tre.mat (t.run some) fun y => Tre.ret (out y)).run some = some co) : (Tre.mat d Tre.ret).run some = some co := by
 obtain ⟨y, h1, h2⟩ := mat_ret h
 rw [hd, Tre.run_bind t, h1]
 exact h2
theorem fin_ret {ρ : Type} {t : Tre ρ} {out : ρ → CallOut} {d : Option CallOut} {co : CallOut} {y : ρ} (hd : d = t.run fun y => some (out y)) (hs : t.run some = some y) (h : (Tre.ret (out y) : Tre CallOut).run some = some co) : (Tre.mat d Tre.ret).run some = some co := by
 rw [hd, Tre.run_bind t, hs]
 exact h
theorem fin_opt {ρ : Type} {t : Tre ρ} {out : ρ → CallOut} {d : Option CallOut} {co : CallOut} {o : Option ρ} (hd : d = t.run fun y => some (out y)) (hs : ∀ y, o = some y → t.run some = some y) (h : (Tre.mat o fun y => Tre.ret (out y)).run some = some co) : (Tre.mat d Tre.ret).run some = some co := by
 obtain ⟨y, h1, h2⟩ := mat_ret h
 exact fin_ret hd (hs y h1) h2
theorem fin_mats {ρ : Type} {t : Tre ρ} {out : ρ → CallOut} {k : ρ → Tre CallOut} {d : Option CallOut} {co : CallOut} (hd : d = t.run fun y => some (out y)) (h : (Tre.mat (t.run some) k).run some = some co) (hk : ∀ x, (k x).run some = some (out x)) : (Tre.mat d Tre.ret).run some = some co := by
 obtain ⟨y, h1, h2⟩ := mat_some h
 rw [hk] at h2
 rw [hd, Tre.run_bind t, h1]
 exact h2
theorem contract_nil {P : Program} {Γ : Glb} {f : FuncId} {q0 q1 q : Ctr} {e : K} (h0 : Contract P Γ f q0) (h1 : Contract P Γ f q1) (hq : ∀ ci co, (q.G ci).run some = some co → ∃ z d, ci = ⟨[.imm z (.sl e) d], []⟩ ∧
  (q1.G ⟨[.nn z e d], []⟩).run some = some co ∧ (d = [] → (q0.G ⟨[.nil], []⟩).run some = some co)) (hs : q.soft = false := by rfl) : Contract P Γ f q := by
 intro w C ci co vals hM hptr hsz hvals hgl hG
 obtain ⟨z, d, rfl, g1, g0⟩ := hq ci co hG
 obtain ⟨v, rfl⟩ : ∃ v, vals = #[v] := by
  match vals, hsz with
  | ⟨[v]⟩, _ => exact ⟨v, rfl⟩
 have hv := hvals 0 v _ rfl rfl
 obtain ⟨hA, hc⟩ := hv.cell (by simp) rfl (by simp) (by simp)
 have key : (v = .slice none 0 0 ∧ d = []) ∨ ∃ a n c, v = .slice (some a) n c := by
  rcases hA.2 with ⟨h, _⟩ | ⟨_, rfl, a, h⟩ | ⟨_, b, off, cap, c, T, fz, h, _⟩
  ·cases h
  ·simp only [List.cons.injEq, and_true] at h
   cases a with
   | none => exact .inl ⟨h, rfl⟩
   | some a => exact .inr ⟨a, _, _, h⟩
  ·simp only [List.cons.injEq, and_true] at h
   exact .inr ⟨_, _, _, h⟩
 have one : ∀ {av : AV}, VRel w C (rsIn []) v av → ∀ (i : Nat) (v' : Value) (a : AV), (#[v] : Array Value)[i]? = some v' → [av][i]? = some a → VRel w C (rsIn []) v' a := by
  intro av hav i v' a h1 h2
  cases i with
  | zero => simp only [List.getElem?_cons_zero, Option.some.injEq] at h2; subst h2; simp at h1; subst h1; exact hav
  | succ i => simp at h2
 have conv : ∀ {args : List AV} {sf : Bool} {e' : Ending} {w' : World}, (match e' with
   | .returned v => ∃ C', CallPost w C ⟨args, []⟩ co v w' C' ∧ (sf = true → SoftPost w C ⟨args, []⟩ co w' C')
   | _ => False) → (match e' with
   | .returned v => ∃ C', CallPost w C ⟨[.imm z (.sl e) d], []⟩ co v w' C' ∧ (q.soft = true → SoftPost w C ⟨[.imm z (.sl e) d], []⟩ co w' C')
   | _ => False) := by
  intro args sf e' w' h
  cases e' with
  | returned v => obtain ⟨C', hp, _⟩ := h; exact ⟨C', ⟨hp.Z, hp.S, hp.θ, hp.mem, hp.val, hp.ρ, hp.kept, hp.foot, hp.zn⟩, fun h => by rw [hs] at h; cases h⟩
  | _ => exact h
 rcases key with ⟨rfl, hd⟩ | ⟨a, n, c, rfl⟩
 ·refine Calls.mono ?_ (fun e' w' h => conv (args := [.nil]) (sf := q0.soft) h)
  exact h0 w C ⟨[.nil], []⟩ co #[.slice none 0 0] hM (by simp) rfl (one (.inl (.inr (.inr ⟨rfl, rfl, rfl⟩)))) hgl (g0 hd)
 ·refine Calls.mono ?_ (fun e' w' h => conv (args := [.nn z e d]) (sf := q1.soft) h)
  exact h1 w C ⟨[.nn z e d], []⟩ co #[.slice (some a) n c] hM (by simp) rfl (one (.inl (.inr (.inr ⟨rfl, ⟨hA.1, hA.2, a, n, c, rfl⟩, rfl⟩)))) hgl g1
end
end Go.Abs

namespace Go.Abs
theorem iwrap_i64 {n : Int} (h1 : -9223372036854775808 ≤ n) (h2 : n ≤ 9223372036854775807) : iwrap .i64 n = n := Go.IntWalk.i64_in n ⟨h1, h2⟩
theorem iwrap_succ {i : Nat} (h : i < 4611686018427387904) : iwrap .i64 ((i : Int) + 1) = ((i + 1 : Nat) : Int) := by
 rw [iwrap_i64 (by omega) (by omega)]; rfl
theorem iwrap_u64 {n : Int} (h1 : 0 ≤ n) (h2 : n ≤ 18446744073709551615) : iwrap .u64 n = n := by
 unfold iwrap IntKind.wrap
 simp only [IntKind.signed, IntKind.bits, Bool.false_and, Bool.false_eq_true, if_false]
 exact Int.emod_eq_of_lt h1 (by omega)
theorem iwrap_u64_nonneg (n : Int) : 0 ≤ iwrap .u64 n := by
 unfold iwrap IntKind.wrap
 simp only [IntKind.signed, IntKind.bits, Bool.false_and, Bool.false_eq_true, if_false]
 exact Int.emod_nonneg _ (by decide)
def inR (n a b : Int) : Bool := decide (a ≤ n) && decide (n ≤ b)
theorem inR_iff {n a b : Int} : inR n a b = true ↔ a ≤ n ∧ n ≤ b := by simp [inR]
theorem inR_false {n a b : Int} : inR n a b = false ↔ n < a ∨ b < n := by
 cases h : inR n a b with
 | true => rw [inR_iff] at h; simp; omega
 | false =>
  simp only [true_iff]
  have : ¬ (a ≤ n ∧ n ≤ b) := fun h2 => by rw [inR_iff.2 h2] at h; cases h
  omega
def lim {α : Type} (n : Nat) (x : α) : Option α := if n ≤ 1048576 then some x else none
theorem lim_some {α : Type} {n : Nat} {x y : α} (h : lim n x = some y) : n ≤ 1048576 ∧ x = y := by
 unfold lim at h
 split at h
 ·exact ⟨‹_›, Option.some.inj h⟩
 ·cases h
theorem lim_of {α : Type} {n : Nat} {x : α} (h : n ≤ 1048576) : lim n x = some x := if_pos h
abbrev cloneR {α : Type} (xs : List α) : Option (List α) := lim xs.length xs
section
variable {σ β α γ ρ R : Type} {step : σ → Tre (σ ⊕ β)}
theorem loopF_step {x y : σ} (h : (step x).run some = some (.inl y)) : loopF step x = loopF step y := by rw [loopF_eq, h]; rfl
theorem loopF_done {x : σ} {b : β} (h : (step x).run some = some (.inr b)) : loopF step x = some b := by rw [loopF_eq, h]; rfl
theorem run_inb {xs : List α} {i : Nat} {x : α} {k : α → Tre ρ} {e : Tre ρ} {c : ρ → Option R} (h : xs[i]? = some x) :
  (Tre.cond (decide ((i : Int) < (xs.length : Int))) (.ite (0 ≤ (i : Int) ∧ (i : Int) < (xs.length : Int)) (.mat xs[(i : Int).toNat]? k)) e).run c = (k x).run c := by
 have hi : i < xs.length := (List.getElem?_eq_some_iff.1 h).1
 rw [Tre.run_cond, show decide ((i : Int) < (xs.length : Int)) = true from by simp; omega, cond_true, Tre.run_ite, if_pos ⟨by omega, by omega⟩, Tre.run_mat, Int.toNat_natCast, h]
 rfl
theorem run_at {xs : List α} {i : Nat} {x : α} {k : α → Tre ρ} {c : ρ → Option R} (h : xs[i]? = some x) :
  (Tre.ite (0 ≤ (i : Int) ∧ (i : Int) < (xs.length : Int)) (.mat xs[(i : Int).toNat]? k)).run c = (k x).run c := by
 have hi : i < xs.length := (List.getElem?_eq_some_iff.1 h).1
 rw [Tre.run_ite, if_pos ⟨by omega, by omega⟩, Tre.run_mat, Int.toNat_natCast, h]
 rfl
theorem run_out {n : Int} {t e : Tre ρ} {c : ρ → Option R} : (Tre.cond (decide (n < n)) t e).run c = e.run c := by
 rw [Tre.run_cond, show decide (n < n) = false from by simp]; rfl
theorem run_some_mat {o : Option α} {x : α} {k : α → Tre ρ} {c : ρ → Option R} (h : o = some x) : (Tre.mat o k).run c = (k x).run c := by rw [Tre.run_mat, h]; rfl
def foldE (f : Nat → γ → α → γ ⊕ β) (fin : γ → β) : Nat → γ → List α → β
 | _, acc, [] => fin acc
 | i, acc, x :: l => match f i acc x with
  | .inl a => foldE f fin (i + 1) a l
  | .inr b => b
theorem fold_loop {xs : List α} (st : Nat → γ → σ) (f : Nat → γ → α → γ ⊕ β) (fin : γ → β) (I : Nat → γ → Prop)
  (hs : ∀ i acc x, xs[i]? = some x → I i acc → (step (st i acc)).run some = some (match f i acc x with
   | .inl a => .inl (st (i + 1) a)
   | .inr b => .inr b) ∧ ∀ a, f i acc x = .inl a → I (i + 1) a)
  (he : ∀ acc, I xs.length acc → (step (st xs.length acc)).run some = some (.inr (fin acc))) : ∀ (l : List α) (i : Nat) (acc : γ), xs.drop i = l → i ≤ xs.length → I i acc → loopF step (st i acc) = some (foldE f fin i acc l) := by
 intro l
 induction l with
 | nil =>
  intro i acc hl hi hI
  have : i = xs.length := by have := List.drop_eq_nil_iff.1 hl; omega
  subst this
  exact loopF_done (he acc hI)
 | cons x l ih =>
  intro i acc hl hi hI
  have hx : xs[i]? = some x := by
   have := congrArg (·[0]?) hl
   simpa using this
  have hi' : i < xs.length := (List.getElem?_eq_some_iff.1 hx).1
  obtain ⟨h1, h2⟩ := hs i acc x hx hI
  simp only [foldE]
  cases hf : f i acc x with
  | inl a =>
   rw [hf] at h1
   rw [loopF_step h1]
   exact ih (i + 1) a (by rw [← List.drop_drop, hl]; rfl) (by omega) (h2 a hf)
  | inr b =>
   rw [hf] at h1
   exact loopF_done h1
def findE (f : Nat → α → Option β) (fin : β) : Nat → List α → β
 | _, [] => fin
 | i, x :: l => match f i x with
  | some b => b
  | none => findE f fin (i + 1) l
theorem find_loop {step : Int → Tre (Int ⊕ β)} {xs : List α} (f : Nat → α → Option β) (fin : β)
  (hs : ∀ (i : Nat) x, xs[i]? = some x → (step (i : Int)).run some = some (match f i x with
   | none => .inl ((i + 1 : Nat) : Int)
   | some b => .inr b)) (he : (step (xs.length : Int)).run some = some (.inr fin)) : loopF step 0 = some (findE f fin 0 xs) := by
 have key : ∀ (l : List α) (i : Nat), xs.drop i = l → i ≤ xs.length → loopF step (i : Int) = some (findE f fin i l) := by
  intro l
  induction l with
  | nil =>
   intro i hl hi
   have : i = xs.length := by have := List.drop_eq_nil_iff.1 hl; omega
   subst this
   exact loopF_done he
  | cons x l ih =>
   intro i hl hi
   have hx : xs[i]? = some x := by
    have := congrArg (·[0]?) hl
    simpa using this
   have hi' : i < xs.length := (List.getElem?_eq_some_iff.1 hx).1
   have h1 := hs i x hx
   simp only [findE]
   cases hf : f i x with
   | none =>
    rw [hf] at h1
    rw [loopF_step h1]
    exact ih (i + 1) (by rw [← List.drop_drop, hl]; rfl) (by omega)
   | some b =>
    rw [hf] at h1
    exact loopF_done h1
 exact key xs 0 rfl (Nat.zero_le _)
def idxI (p : α → Bool) : Nat → List α → Int
 | _, [] => -1
 | i, x :: l => cond (p x) (i : Int) (idxI p (i + 1) l)
theorem findE_idx {p : α → Bool} : ∀ (l : List α) (i : Nat), (match findE (β := Int ⊕ Unit) (fun i x => cond (p x) (some (.inl (i : Int))) none) (.inr ()) i l with
  | .inl n => n
  | .inr _ => -1) = idxI p i l := by
 intro l
 induction l with
 | nil => intro i; rfl
 | cons x l ih =>
  intro i
  simp only [findE, idxI]
  cases p x with
  | true => rfl
  | false => exact ih _
theorem idxI_any {p : α → Bool} : ∀ (l : List α) (i : Nat), decide (idxI p i l ≥ 0) = l.any p := by
 intro l
 induction l with
 | nil => intro i; rfl
 | cons x l ih =>
  intro i
  simp only [idxI, List.any_cons]
  rcases Bool.eq_false_or_eq_true (p x) with hp | hp
  ·simp [hp]
  ·have := ih (i + 1)
   simp only [hp, cond_false, Bool.false_or]
   exact this
end
end Go.Abs
