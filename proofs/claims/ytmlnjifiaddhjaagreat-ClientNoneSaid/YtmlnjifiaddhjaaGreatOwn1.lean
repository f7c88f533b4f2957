/- Texts of a proof over the given program: contracts of its functions, each proved by a walk through its code, and the plain facts that they need. -/
import Derived.Orders
import Derived.Tactics
import Derived.Laws.World
import Derived.WalkKit
import Derived.Handy
import Derived.WalkLawsBesides
import Derived.Deep.MidRow
import Derived.Test.YtmlnjifiaddhjaaGreatProg
import Derived.ProofKit
import Derived.OpenShut
import Derived.Lib.SmallJoins
section
namespace Go.Fw
open Go

/-- No way out but the plain one. -/
def Bot : Exit → Act → World → Prop := fun _ _ _ => False

/-- Two frames alike in all slots but those that are named. -/
structure Alike (D : List Tmp) (a b : Act) : Prop where
  defers : a.defers = b.defers
  size : a.tmps.size = b.tmps.size
  slot : ∀ t, t ∉ D → a.tmps[t]? = b.tmps[t]?

/-- Two frames alike in what an operation looks at. -/
structure Looks (ops : Array Oper) (o : Oper) (a b : Act) : Prop where
  size : a.tmps.size = b.tmps.size
  slot : ∀ t, t ∈ o.looksAt ops → a.tmps[t]? = b.tmps[t]?

variable {P : Program} {ops : Array Oper} {Q : Exit → Act → World → Prop}

theorem Alike.looks {D : List Tmp} {a b : Act} (h : Alike D a b) {o : Oper} (hl : ∀ t ∈ o.looksAt ops, t ∉ D) : Looks ops o a b :=
  ⟨h.size, fun t ht => h.slot t (hl t ht)⟩

theorem Looks.trans {o : Oper} {a b c : Act} (h : Looks ops o a b) (k : Looks ops o b c) : Looks ops o a c :=
  ⟨h.size.trans k.size, fun t ht => (h.slot t ht).trans (k.slot t ht)⟩

theorem Looks.symm {o : Oper} {a b : Act} (h : Looks ops o a b) : Looks ops o b a := ⟨h.size.symm, fun t ht => (h.slot t ht).symm⟩

theorem Looks.exec {o : Oper} {a b : Act} (h : Looks ops o a b) (hs : ∀ cs c, o.op ≠ .select cs c) : execOp a.eval o = execOp b.eval o :=
  execOp_congr o hs fun x hx => by
    cases x with
    | tmp t =>
      have ht : t ∈ o.looksAt ops := List.mem_append_left _ (List.mem_filterMap.2 ⟨.tmp t, by simpa using hx, rfl⟩)
      have e := h.slot t ht
      simp only [Act.eval, Array.getD_eq_getD_getElem?, e]
    | _ => rfl

theorem Looks.wanted {o : Oper} {a b : Act} (h : Looks ops o a b) : Region.wanted o (yielded ops a.tmps) = Region.wanted o (yielded ops b.tmps) := by
  unfold Region.wanted
  cases hg : o.guard with
  | none => rfl
  | some gw =>
    obtain ⟨g, want⟩ := gw
    have hy : yielded ops a.tmps g = yielded ops b.tmps g := by
      unfold yielded
      cases ht : (ops[g]?).bind (·.dst) with
      | none => rfl
      | some t =>
        have hm : t ∈ o.looksAt ops := by simp [Oper.looksAt, hg, ht]
        have e := h.slot t hm
        simp only [Option.bind_some, e]
    simp only [hy]

theorem size_put (a : Act) (d : Option Tmp) (v : Value) : (a.put d v).tmps.size = a.tmps.size := by cases d <;> simp [Act.put]
theorem defers_put (a : Act) (d : Option Tmp) (v : Value) : (a.put d v).defers = a.defers := by cases d <;> simp [Act.put]
theorem slot_put_ne (a : Act) {d : Option Tmp} (v : Value) {t : Tmp} (h : d ≠ some t) : (a.put d v).tmps[t]? = a.tmps[t]? := by
  cases d with
  | none => rfl
  | some d => simp only [Act.put]; rw [Array.getElem?_setIfInBounds_ne (fun e => h (by rw [e]))]
theorem slot_put_eq (a : Act) (v : Value) {t : Tmp} (h : t < a.tmps.size) : (a.put (some t) v).tmps[t]? = some v := by
  simp [Act.put, h]

theorem Alike.put_both {D : List Tmp} {a b : Act} (h : Alike D a b) (d : Option Tmp) (v : Value) : Alike D (a.put d v) (b.put d v) :=
  ⟨by rw [defers_put, defers_put, h.defers], by rw [size_put, size_put, h.size], fun t ht => by
    by_cases e : d = some t
    · subst e
      by_cases hlt : t < a.tmps.size
      · rw [slot_put_eq a v hlt, slot_put_eq b v (h.size ▸ hlt)]
      · rw [Array.getElem?_eq_none (by rw [size_put]; exact Nat.le_of_not_lt hlt), Array.getElem?_eq_none (by rw [size_put, ← h.size]; exact Nat.le_of_not_lt hlt)]
    · rw [slot_put_ne a v e, slot_put_ne b v e, h.slot t ht]⟩

theorem Alike.with_defers {D : List Tmp} {a b : Act} (h : Alike D a b) (ds : List Deferred) : Alike D { a with defers := ds } { b with defers := ds } :=
  ⟨rfl, h.size, h.slot⟩

theorem Alike.eq {a b : Act} (h : Alike [] a b) : a = b := by
  obtain ⟨ta, da⟩ := a
  obtain ⟨tb, db⟩ := b
  have h1 := h.defers
  have h2 : ta = tb := Array.ext_getElem? fun t => h.slot t (by simp)
  simp only at h1
  rw [h1, h2]

/-- An operation in two frames that are alike in what it looks at. -/
theorem wpOp_looks {i : Nat} {o : Oper} {a b : Act} {w : World} {K K' : Act → World → Prop} (hi : ops[i]? = some o) (hs : ∀ cs c, o.op ≠ .select cs c)
    (h : Looks ops o a b) (hb : wpOp P ops (Exit.then K Bot) i K b w)
    (hK : ∀ pre v w', K (({ b with defers := pre ++ b.defers } : Act).put o.dst v) w' → K' (({ a with defers := pre ++ a.defers } : Act).put o.dst v) w') : wpOp P ops Q i K' a w := by
  have hK0 : ∀ v w', K (b.put o.dst v) w' → K' (a.put o.dst v) w' := fun v w' hk => hK [] v w' hk
  unfold wpOp at *
  simp only [hi] at *
  rw [h.wanted]
  split
  · rename_i hw
    simp only [hw, if_true] at hb
    rcases hb with hb | ⟨_, a0, w0, hl⟩
    · refine .inl ?_
      unfold Oper.wp at *
      rw [h.exec hs]
      generalize (execOp b.eval o).run P w = r at *
      cases r with
      | ok n w' =>
        cases n <;> simp only [Oper.upon] at hb ⊢
        case value u => exact hK0 _ _ hb
        case skip => exact hK0 _ _ hb
        case defer d => exact hK [d] undef w' hb
        case enter f args =>
          refine Calls.mono hb fun e w'' he => ?_
          cases e with
          | returned u => exact hK0 _ _ he
          | panicked c => exact he.elim
          | outgrown => obtain ⟨a1, w1, h1⟩ := he; exact h1.elim
        case row row args => exact Rows.mono hb fun u w'' he => hK0 _ _ he
      | halt x w' =>
        cases x <;> simp only [Oper.upon] at hb ⊢
        case panic u => exact hb.elim
    · exact hl.elim
  · rename_i hw
    simp only [hw] at hb
    exact hK0 _ _ hb

theorem wpOp_of_single {i : Nat} {o : Oper} {a : Act} {w : World} {R : Act → World → Prop} (hi : ops[i]? = some o)
    (h : wpList P ops (Exit.then R Bot) [o] a w) : wpOp P ops (Exit.then R Bot) i R a w := by
  unfold wpList at h
  unfold wpOp
  simp only [hi]
  exact h

/-! ### What a region's order must be -/

def deps (o : Oper) : List Nat := (o.after.toList.filter (Region.binds .any)).map (·.on)

theorem mem_deps {o : Oper} {e : Edge} (he : e ∈ o.after) (hb : Region.binds .any e = true) : e.on ∈ deps o :=
  List.mem_map.2 ⟨e, List.mem_filter.2 ⟨by simpa using he, hb⟩, rfl⟩

theorem of_mem_deps {o : Oper} {j : Nat} (h : j ∈ deps o) : ∃ e ∈ o.after, Region.binds .any e = true ∧ e.on = j := by
  obtain ⟨e, he, rfl⟩ := List.mem_map.1 h
  obtain ⟨h1, h2⟩ := List.mem_filter.1 he
  exact ⟨e, by simpa using h1, h2, rfl⟩

/-- All that an operation waits for, as bits. -/
def maskOf (ms : List Nat) (o : Oper) : Nat := (deps o).foldl (fun m j => m ||| 2 ^ j ||| ms.getD j 0) 0
def masksGo : List Oper → List Nat → List Nat
  | [], ms => ms
  | o :: l, ms => masksGo l (ms ++ [maskOf ms o])
def masks (l : List Oper) : List Nat := masksGo l []

/-- The masks say no more than what is waited for. -/
def masksOk (l : List Oper) (ms : List Nat) : Bool :=
  l.zipIdx.all fun (o, k) => (ms.getD k 0) &&& (maskOf ms o) == ms.getD k 0

def isSelect (o : Oper) : Bool := match o.op with | .select .. => true | _ => false
def clash (l : List Oper) (x y : Oper) : Bool :=     -- x writes what y looks at, or writes
  match x.dst with
  | none => false
  | some d => (y.looksAt l.toArray).contains d || y.dst == some d

def strictOf (ms : List Nat) : List Nat → Nat → Bool
  | [], _ => false
  | m :: _, i => !(ms.getD m 0).testBit i


def opAt (l : List Oper) (i : Nat) : Oper := l.getD i default

/-- Among H: what comes later writes nothing that an earlier one looks at or writes. -/
def headOk (l : List Oper) : List Nat → Bool
  | [] => true
  | i :: is => (is.all fun j => !clash l (opAt l j) (opAt l i)) && !clash l (opAt l i) { opAt l i with dst := none } && headOk l is

/-- Who looks at what another writes waits for him. -/
def waitOk (l : List Oper) (ms : List Nat) : List Nat → Bool
  | [] => true
  | i :: is => (is.all fun j => !clash l (opAt l i) (opAt l j) || (ms.getD j 0).testBit i) && waitOk l ms is

/-- Each waits for none but those before it. -/
def topOk (l : List Oper) : List Nat → List Nat → Bool
  | _, [] => true
  | b, i :: is => ((deps (opAt l i)).all fun j => b.contains j) && topOk l (b ++ [i]) is

/-- Each waits for all before it. -/
def chainOk (ms : List Nat) : List Nat → List Nat → Bool
  | _, [] => true
  | b, i :: is => (b.all fun j => (ms.getD i 0).testBit j) && chainOk ms (b ++ [i]) is

/-- The order: H first (each yields one value), M (a chain), then all from n on (a chain behind all). -/
def orderOk (l : List Oper) (H M : List Nat) (n : Nat) : Bool :=
  let ms := masks l
  masksOk l ms && l.all (fun o => !isSelect o) && decide (n ≤ l.length) && (decide (H ++ M).Nodup) &&
  ((H ++ M).all fun i => decide (i < n)) && ((List.range n).all fun i => (H ++ M).contains i) &&
  headOk l H && waitOk l ms H && topOk l [] H && topOk l H M && chainOk ms [] M &&
  ((List.range' n (l.length - n)).all fun i => ((List.range i).all fun j => (ms.getD i 0).testBit j) && (deps (opAt l i)).all fun j => decide (j < i)) &&
  (H.all fun i => M.all fun m => (ms.getD m 0).testBit i || (!clash l (opAt l i) (opAt l m) && !clash l (opAt l m) (opAt l i)))

structure Ok (l : List Oper) (H M : List Nat) (n : Nat) : Prop where
  masks : masksOk l (masks l) = true
  sel : ∀ o ∈ l, ∀ cs c, o.op ≠ .select cs c
  le : n ≤ l.length
  nodup : (H ++ M).Nodup
  lt : ∀ i, i ∈ H ∨ i ∈ M → i < n
  cover : ∀ i, i < n → i ∈ H ∨ i ∈ M
  head : headOk l H = true
  wait : waitOk l (Fw.masks l) H = true
  topH : topOk l [] H = true
  topM : topOk l H M = true
  chain : chainOk (Fw.masks l) [] M = true
  tail : ∀ i, n ≤ i → i < l.length → (∀ j, j < i → ((Fw.masks l).getD i 0).testBit j = true) ∧ ∀ j ∈ deps (opAt l i), j < i
  hm : ∀ i ∈ H, ∀ m ∈ M, ((Fw.masks l).getD m 0).testBit i = true ∨ (clash l (opAt l i) (opAt l m) = false ∧ clash l (opAt l m) (opAt l i) = false)

theorem ok_of {l : List Oper} {H M : List Nat} {n : Nat} (h : orderOk l H M n = true) : Ok l H M n := by
  simp only [orderOk, Bool.and_eq_true, decide_eq_true_eq, List.all_eq_true, Bool.or_eq_true, Bool.not_eq_true', List.mem_append, List.contains_iff_mem, List.mem_range] at h
  obtain ⟨⟨⟨⟨⟨⟨⟨⟨⟨⟨⟨⟨h1, h2⟩, h3⟩, h4⟩, h5⟩, h6⟩, h7⟩, h7'⟩, h8⟩, h9⟩, h10⟩, h11⟩, h12⟩ := h
  exact {
    masks := h1
    sel := fun o ho cs c e => by have := h2 o ho; simp [isSelect, e] at this
    le := h3
    nodup := h4
    lt := h5
    cover := h6
    head := h7
    wait := h7'
    topH := h8
    topM := h9
    chain := h10
    tail := fun i h h' => h11 i (by rw [List.mem_range'_1]; omega)
    hm := h12 }

theorem opAt_of {l : List Oper} {i : Nat} {o : Oper} (h : l.toArray[i]? = some o) : opAt l i = o := by
  have : l[i]? = some o := by simpa using h
  simp [opAt, this]

theorem opAt_some {l : List Oper} {i : Nat} (h : i < l.length) : l.toArray[i]? = some (opAt l i) := by
  simp [opAt, h]

theorem Ok.sel' {l : List Oper} {H M : List Nat} {n : Nat} (h : Ok l H M n) {i : Nat} (hi : i < l.length) : ∀ cs c, (opAt l i).op ≠ .select cs c :=
  h.sel _ (by have := opAt_some hi; simp only [List.getElem?_toArray] at this; exact List.mem_of_getElem? this)

/-- Who has come up has all behind him that he waits for. -/
def Down (l : List Oper) (listed : Array Bool) : Prop :=
  ∀ j, listed.getD j false = true → ∀ t, ((masks l).getD j 0).testBit t = true → listed.getD t false = true

theorem masks_bit {l : List Oper} (h : masksOk l (masks l) = true) {k : Nat} {o : Oper} (ho : l.toArray[k]? = some o) {t : Nat}
    (ht : ((masks l).getD k 0).testBit t = true) : ∃ j ∈ deps o, t = j ∨ ((masks l).getD j 0).testBit t = true := by
  have hk : l[k]? = some o := by simpa using ho
  have h1 := (List.all_eq_true.1 h) (o, k) (by
    rw [List.mem_zipIdx_iff_getElem?]; exact hk)
  simp only [beq_iff_eq] at h1
  rw [← h1, Nat.testBit_and, Bool.and_eq_true] at ht
  have h2 := ht.2
  unfold maskOf at h2
  have key : ∀ (js : List Nat) (m : Nat), (js.foldl (fun m j => m ||| 2 ^ j ||| (masks l).getD j 0) m).testBit t = true →
      m.testBit t = true ∨ ∃ j ∈ js, t = j ∨ ((masks l).getD j 0).testBit t = true := by
    intro js
    induction js with
    | nil => intro m hm; exact .inl hm
    | cons j js ih =>
      intro m hm
      rcases ih _ hm with h | ⟨j', hj', h⟩
      · simp only [Nat.testBit_or, Bool.or_eq_true, Nat.testBit_two_pow, decide_eq_true_eq] at h
        rcases h with (h | h) | h
        · exact .inl h
        · exact .inr ⟨j, by simp, .inl h.symm⟩
        · exact .inr ⟨j, by simp, .inr h⟩
      · exact .inr ⟨j', by simp [hj'], h⟩
  rcases key _ _ h2 with h | h
  · simp at h
  · exact h

theorem getD_set (listed : Array Bool) (i j : Nat) (hi : i < listed.size) : (listed.setIfInBounds i true).getD j false = (decide (i = j) || listed.getD j false) := by
  by_cases h : i = j
  · subst h; simp [hi]
  · rw [getD_set_ne false h]; simp [h]

theorem ready_bits {l : List Oper} (hm : masksOk l (masks l) = true) {listed : Array Bool} (hd : Down l listed) {i : Nat}
    (hr : i ∈ Region.ready .any l.toArray listed) {t : Nat} (ht : ((masks l).getD i 0).testBit t = true) : listed.getD t false = true := by
  obtain ⟨_, o, ho, hall⟩ := mem_ready.1 hr
  obtain ⟨j, hj, h⟩ := masks_bit hm ho ht
  obtain ⟨e, he, hb, rfl⟩ := of_mem_deps hj
  have hdone := hall e he hb
  rcases h with rfl | h
  · exact hdone
  · exact hd _ hdone _ h

theorem Down.set {l : List Oper} (hm : masksOk l (masks l) = true) {listed : Array Bool} (hd : Down l listed) {i : Nat}
    (hr : i ∈ Region.ready .any l.toArray listed) : Down l (listed.setIfInBounds i true) := by
  intro j hj t ht
  by_cases h : i = j
  · subst h; exact getD_set_true (ready_bits hm hd hr ht)
  · rw [getD_set_ne false h] at hj
    exact getD_set_true (hd j hj t ht)

theorem ready_lt {l : List Oper} {listed : Array Bool} {i : Nat} (hr : i ∈ Region.ready .any l.toArray listed) : i < l.length := by
  obtain ⟨_, o, ho, _⟩ := mem_ready.1 hr
  have := (Array.getElem?_eq_some_iff.1 ho).1
  simpa using this

theorem ready_undone {l : List Oper} {listed : Array Bool} (hs : listed.size = l.length) {i : Nat} (hr : i ∈ Region.ready .any l.toArray listed) : listed.getD i false = false := by
  have hlt := ready_lt hr
  obtain ⟨h0, _⟩ := mem_ready.1 hr
  have : i < listed.size := by omega
  simpa [this] using h0

theorem ready_of {l : List Oper} {listed : Array Bool} (hs : listed.size = l.length) {i : Nat} (hi : i < l.length) (hu : listed.getD i false = false)
    (hall : ∀ j ∈ deps (opAt l i), listed.getD j false = true) : i ∈ Region.ready .any l.toArray listed := by
  refine mem_ready.2 ⟨?_, opAt l i, opAt_some hi, fun e he hb => hall _ (mem_deps he hb)⟩
  have : i < listed.size := by omega
  simpa [this] using hu

/-! ### The tail: all before k have come up -/

theorem simB {l : List Oper} {H M : List Nat} {n : Nat} (ok : Ok l H M n) (hQ : True) : ∀ (m k : Nat) (listed : Array Bool) (a : Act) (W : World), n ≤ k → k + m = l.length →
    listed.size = l.length → (∀ j, j < l.length → (listed.getD j false = true ↔ j < k)) → Down l listed →
    wpList P l.toArray Q (l.drop k) a W → wpAny P .any l.toArray Q m listed a W
  | 0, k, listed, a, W, hk, hm, hs, hd, _, h => by
    have hnil : Region.ready .any l.toArray listed = [] := by
      rw [List.eq_nil_iff_forall_not_mem]
      intro j hj
      have h1 := ready_undone hs hj
      have h2 := ready_lt hj
      have := (hd j h2).2 (by omega)
      rw [h1] at this; cases this
    refine ⟨hnil, ?_⟩
    rw [List.drop_eq_nil_of_le (by omega)] at h
    exact h
  | m + 1, k, listed, a, W, hk, hm, hs, hd, hdown, h => by
    have hklt : k < l.length := by omega
    have hundone : listed.getD k false = false := by
      cases e : listed.getD k false with
      | false => rfl
      | true => have := (hd k hklt).1 e; omega
    have hready : k ∈ Region.ready .any l.toArray listed := ready_of hs hklt hundone fun j hj => by
      have := (ok.tail k hk hklt).2 j hj
      exact (hd j (by omega)).2 this
    refine ⟨fun e => (by rw [e] at hready; cases hready), fun i hi => ?_⟩
    have hil := ready_lt hi
    have hiu := ready_undone hs hi
    have hik : i = k := by
      rcases Nat.lt_trichotomy i k with hlt | heq | hgt
      · have := (hd i hil).2 hlt; rw [hiu] at this; cases this
      · exact heq
      · have hb := (ok.tail i (by omega) hil).1 k hgt
        have := ready_bits ok.masks hdown hi hb
        rw [hundone] at this; cases this
    subst hik
    rw [List.drop_eq_getElem_cons hil] at h
    have ho : l.toArray[i]? = some l[i] := by simp [hil]
    unfold wpOp
    simp only [ho]
    unfold wpList at h
    have next : ∀ a' W', wpList P l.toArray Q (l.drop (i + 1)) a' W' → wpAny P .any l.toArray Q m (listed.setIfInBounds i true) a' W' := fun a' W' h' =>
      simB ok hQ m (i + 1) _ a' W' (by omega) (by omega) (by simpa using hs) (fun j hj => by
        rw [getD_set listed i j (by omega), Bool.or_eq_true, decide_eq_true_eq, hd j hj]; omega) (hdown.set ok.masks hi) h'
    split at h
    · rename_i hw
      rw [if_pos hw]
      exact h.imp (Oper.wp_mono next) id
    · rename_i hw
      rw [if_neg hw]
      exact next _ _ h


/-! ### The head and the chain behind it -/

/-- Operation after operation of H: each yields one value, in whatever world of the class. -/
def HeadOK (P : Program) (l : List Oper) (C : World → Prop) (strict : Nat → Bool) : List Nat → Act → (Act → Prop) → Prop
  | [], a, K => K a
  | i :: is, a, K => ∃ o v, l.toArray[i]? = some o ∧
      (∀ W, C W → wpList P l.toArray (Exit.then (fun a' W' => a' = a.put o.dst v ∧ C W' ∧ (strict i = true → W' = W)) Bot) [o] a W) ∧
      HeadOK P l C strict is (a.put o.dst v) K

/-- The chain M, each leaving a world of the class; then what stands behind. -/
def Mid (P : Program) (l : List Oper) (C : World → Prop) (Q : Exit → Act → World → Prop) (n : Nat) : List Nat → Act → World → Prop
  | [], a, W => wpList P l.toArray Q (l.drop n) a W
  | m :: ms, a, W => ∃ o, l.toArray[m]? = some o ∧ wpList P l.toArray (Exit.then (fun a' W' => C W' ∧ Mid P l C Q n ms a' W') Bot) [o] a W

/-- What is known of an operation of H that has not come up yet: b bears its value. -/
def Good (P : Program) (l : List Oper) (C : World → Prop) (strict : Nat → Bool) (i : Nat) (b : Act) : Prop :=
  ∃ v, (∀ d, (opAt l i).dst = some d → d < b.tmps.size → b.tmps[d]? = some v) ∧
    ∀ a Q, Looks l.toArray (opAt l i) a b → ∀ W, C W → ∀ K : Act → World → Prop, (∀ W', C W' → (strict i = true → W' = W) → K (a.put (opAt l i).dst v) W') →
      wpOp P l.toArray Q i K a W

def dsts (l : List Oper) (is : List Nat) : List Tmp := is.filterMap fun i => (opAt l i).dst

theorem not_clash {l : List Oper} {x y : Oper} (h : clash l x y = false) {d : Tmp} (hd : x.dst = some d) : d ∉ y.looksAt l.toArray ∧ y.dst ≠ some d := by
  simp only [clash, hd, Bool.or_eq_false_iff] at h
  refine ⟨fun hm => ?_, fun e => ?_⟩
  · have := List.contains_iff_mem.2 hm; rw [h.1] at this; cases this
  · simp [e] at h

theorem headOk_good {l : List Oper} {C : World → Prop} {strict : Nat → Bool} : ∀ (is : List Nat) (a : Act) (K : Act → Prop), headOk l is = true →
    (∀ i ∈ is, ∀ cs c, (opAt l i).op ≠ .select cs c) → HeadOK P l C strict is a K →
    ∃ b, K b ∧ Alike (dsts l is) a b ∧ ∀ i ∈ is, Good P l C strict i b
  | [], a, K, _, _, h => ⟨a, h, ⟨rfl, rfl, fun _ _ => rfl⟩, fun i hi => by cases hi⟩
  | i :: is, a, K, hok, hsel, h => by
    obtain ⟨o, v, ho, hrun, hrest⟩ := h
    have hop := opAt_of ho
    simp only [headOk, Bool.and_eq_true, List.all_eq_true, Bool.not_eq_true'] at hok
    obtain ⟨⟨hlater, hself⟩, hok'⟩ := hok
    obtain ⟨b, hK, hal, hgood⟩ := headOk_good is (a.put o.dst v) K hok' (fun j hj => hsel j (List.mem_cons_of_mem _ hj)) hrest
    have hdst : ∀ d, (opAt l i).dst = some d → d ∉ dsts l is := fun d hd hm => by
      obtain ⟨j, hj, hjd⟩ := List.mem_filterMap.1 hm
      exact (not_clash (hlater j hj) hjd).2 hd
    have hlooks : ∀ t ∈ (opAt l i).looksAt l.toArray, t ∉ dsts l is := fun t ht hm => by
      obtain ⟨j, hj, hjd⟩ := List.mem_filterMap.1 hm
      exact (not_clash (hlater j hj) hjd).1 ht
    have hself' : ∀ d, (opAt l i).dst = some d → d ∉ (opAt l i).looksAt l.toArray := fun d hd => by
      have := (not_clash hself hd).1
      exact this
    have hab : Looks l.toArray (opAt l i) a b := by
      refine ⟨?_, fun t ht => ?_⟩
      · have := hal.size; rwa [size_put] at this
      · have := hal.slot t (hlooks t ht)
        rwa [slot_put_ne a v (fun e => hself' t (by rw [hop]; exact e) ht)] at this
    refine ⟨b, hK, ⟨by have := hal.defers; rwa [defers_put] at this, by have := hal.size; rwa [size_put] at this, fun t ht => ?_⟩, fun j hj => ?_⟩
    · have ht' : t ∉ dsts l is := fun hm => ht (by
        obtain ⟨j, hj, hjd⟩ := List.mem_filterMap.1 hm
        exact List.mem_filterMap.2 ⟨j, List.mem_cons_of_mem _ hj, hjd⟩)
      have hne : o.dst ≠ some t := fun e => ht (List.mem_filterMap.2 ⟨i, by simp, by rw [hop]; exact e⟩)
      have := hal.slot t ht'
      rwa [slot_put_ne a v hne] at this
    · rcases List.mem_cons.1 hj with rfl | hj
      · refine ⟨v, fun d hd hlt => ?_, fun a' Q hl W hW K hK' => ?_⟩
        · rw [← hal.slot d (hdst d hd)]
          rw [hop] at hd
          rw [hd]
          exact slot_put_eq a v (by have h := hal.size; rw [size_put] at h; rw [h]; exact hlt)
        · have hs := hsel j (by simp)
          have h1 := wpOp_of_single ho (hrun W hW)
          rw [hop] at hs hl hab hK'
          refine wpOp_looks ho hs (hl.trans hab.symm) (b := a) h1 fun pre u W' hk => ?_
          obtain ⟨he, hC, hst⟩ := hk
          have hpre : pre = [] := by have := congrArg Act.defers he; rw [defers_put, defers_put] at this; simpa using this
          subst hpre
          have hda : ({ a' with defers := [] ++ a'.defers } : Act) = a' := rfl
          have hda' : ({ a with defers := [] ++ a.defers } : Act) = a := rfl
          rw [hda]
          rw [hda'] at he
          have hput : a'.put o.dst u = a'.put o.dst v := by
            cases hd : o.dst with
            | none => rfl
            | some d =>
              by_cases hlt : d < a.tmps.size
              · have e1 := congrArg (fun x : Act => x.tmps[d]?) he
                simp only [hd] at e1
                rw [slot_put_eq _ u hlt, slot_put_eq _ v hlt] at e1
                cases e1; rfl
              · have hlt' : ¬ d < a'.tmps.size := by rw [hl.size, ← hab.size]; exact hlt
                simp [Act.put, Array.setIfInBounds, hlt']
          rw [hput]
          exact hK' W' hC hst
      · exact hgood j hj

theorem Good.put {l : List Oper} {C : World → Prop} {strict : Nat → Bool} {i : Nat} {b : Act} (h : Good P l C strict i b) {x : Oper} (hc : clash l x (opAt l i) = false) (u : Value)
    : Good P l C strict i (b.put x.dst u) := by
  obtain ⟨v, h1, h2⟩ := h
  refine ⟨v, fun d hd hlt => ?_, fun a Q hl W hW K hK => h2 a Q ⟨hl.size.trans (size_put ..), fun t ht => ?_⟩ W hW K hK⟩
  · have hne : x.dst ≠ some d := fun e => (not_clash hc e).2 hd
    rw [slot_put_ne b u hne]
    exact h1 d hd (by rwa [size_put] at hlt)
  · have hne : x.dst ≠ some t := fun e => (not_clash hc e).1 ht
    rw [hl.slot t ht, slot_put_ne b u hne]

theorem top_ready {l : List Oper} : ∀ (b is Pd : List Nat), topOk l b is = true → (∀ j ∈ b, j ∉ Pd) → (∀ j ∈ Pd, j ∈ is) → Pd ≠ [] →
    ∃ i ∈ Pd, ∀ j ∈ deps (opAt l i), j ∉ Pd ∧ (j ∈ b ∨ j ∈ is)
  | b, [], Pd, _, _, hsub, hne => by
    cases Pd with
    | nil => exact absurd rfl hne
    | cons x xs => cases hsub x (by simp)
  | b, i :: is, Pd, h, hb, hsub, hne => by
    simp only [topOk, Bool.and_eq_true, List.all_eq_true, List.contains_iff_mem] at h
    by_cases hi : i ∈ Pd
    · exact ⟨i, hi, fun j hj => ⟨hb j (h.1 j hj), .inl (h.1 j hj)⟩⟩
    · obtain ⟨k, hk, hall⟩ := top_ready (b ++ [i]) is Pd h.2 (fun j hj => by
        rcases List.mem_append.1 hj with hj | hj
        · exact hb j hj
        · rw [List.mem_singleton.1 hj]; exact hi) (fun j hj => by
        rcases List.mem_cons.1 (hsub j hj) with rfl | h'
        · exact absurd hj hi
        · exact h') hne
      refine ⟨k, hk, fun j hj => ⟨(hall j hj).1, ?_⟩⟩
      rcases (hall j hj).2 with h' | h'
      · rcases List.mem_append.1 h' with h' | h'
        · exact .inl h'
        · exact .inr (by rw [List.mem_singleton.1 h']; simp)
      · exact .inr (List.mem_cons_of_mem _ h')

theorem top_at {l : List Oper} : ∀ (b xs ys : List Nat) (m : Nat), topOk l b (xs ++ m :: ys) = true → ∀ j ∈ deps (opAt l m), j ∈ b ∨ j ∈ xs
  | b, [], ys, m, h, j, hj => by
    simp only [List.nil_append, topOk, Bool.and_eq_true, List.all_eq_true, List.contains_iff_mem] at h
    exact .inl (h.1 j hj)
  | b, x :: xs, ys, m, h, j, hj => by
    simp only [List.cons_append, topOk, Bool.and_eq_true] at h
    rcases top_at (b ++ [x]) xs ys m h.2 j hj with h' | h'
    · rcases List.mem_append.1 h' with h' | h'
      · exact .inl h'
      · exact .inr (by rw [List.mem_singleton.1 h']; simp)
    · exact .inr (List.mem_cons_of_mem _ h')

theorem chain_at {ms : List Nat} : ∀ (b xs ys : List Nat) (m : Nat), chainOk ms b (xs ++ m :: ys) = true → ∀ j, j ∈ b ∨ j ∈ xs → (ms.getD m 0).testBit j = true
  | b, [], ys, m, h, j, hj => by
    simp only [List.nil_append, chainOk, Bool.and_eq_true, List.all_eq_true] at h
    rcases hj with hj | hj
    · exact h.1 j hj
    · cases hj
  | b, x :: xs, ys, m, h, j, hj => by
    simp only [List.cons_append, chainOk, Bool.and_eq_true] at h
    refine chain_at (b ++ [x]) xs ys m h.2 j ?_
    rcases hj with hj | hj
    · exact .inl (List.mem_append_left _ hj)
    · rcases List.mem_cons.1 hj with rfl | hj
      · exact .inl (List.mem_append_right _ (by simp))
      · exact .inr hj

theorem dsts_erase {l : List Oper} {Pd : List Nat} {i : Nat} {t : Tmp} (ht : t ∉ dsts l (Pd.erase i)) (hne : (opAt l i).dst ≠ some t) : t ∉ dsts l Pd := fun hm => by
  obtain ⟨j, hj, hjd⟩ := List.mem_filterMap.1 hm
  by_cases hji : j = i
  · subst hji; exact hne hjd
  · exact ht (List.mem_filterMap.2 ⟨j, (List.mem_erase_of_ne hji).2 hj, hjd⟩)

theorem clash_of {l : List Oper} {x y : Oper} {d : Tmp} (hd : x.dst = some d) (h : d ∈ y.looksAt l.toArray) : clash l x y = true := by
  simp [clash, hd, h]

theorem head_waits {l : List Oper} {ms : List Nat} : ∀ (is : List Nat), headOk l is = true → waitOk l ms is = true → ∀ i ∈ is, ∀ j ∈ is, j ≠ i →
    ∀ d, (opAt l j).dst = some d → d ∈ (opAt l i).looksAt l.toArray → (ms.getD i 0).testBit j = true
  | [], _, _, i, hi, _, _, _, _, _, _ => by cases hi
  | x :: is, h, hw, i, hi, j, hj, hne, d, hd, hm => by
    simp only [headOk, Bool.and_eq_true, List.all_eq_true, Bool.not_eq_true'] at h
    simp only [waitOk, Bool.and_eq_true, List.all_eq_true, Bool.or_eq_true, Bool.not_eq_true'] at hw
    have hc := clash_of hd hm
    rcases List.mem_cons.1 hi with hix | hi
    · rcases List.mem_cons.1 hj with hjx | hj
      · exact absurd (hjx.trans hix.symm) hne
      · have := h.1.1 j hj
        rw [← hix, hc] at this; cases this
    · rcases List.mem_cons.1 hj with hjx | hj
      · rcases hw.1 i hi with h' | h'
        · rw [← hjx, hc] at h'; cases h'
        · rw [hjx]; exact h'
      · exact head_waits is h.2 hw.2 i hi j hj hne d hd hm

/-- What is known on the way, some of H and some of M being still to come. -/
structure Inv (P : Program) (l : List Oper) (H M : List Nat) (n : Nat) (C : World → Prop) (Q : Exit → Act → World → Prop)
    (listed : Array Bool) (a aF : Act) (W : World) (Pd Md Ms : List Nat) : Prop where
  hM : M = Md ++ Ms
  hs : listed.size = l.length
  hd : ∀ j, j < l.length → (listed.getD j false = false ↔ j ∈ Pd ∨ j ∈ Ms ∨ n ≤ j)
  down : Down l listed
  nd : Pd.Nodup
  sub : ∀ j ∈ Pd, j ∈ H
  al : Alike (dsts l Pd) a aF
  good : ∀ i ∈ Pd, Good P l C (strictOf (masks l) M) i aF
  hC : C W
  cont : if Md = [] then ∀ W', C W' → Mid P l C Q n Ms aF W' else Mid P l C Q n Ms aF W ∧ ∀ i ∈ Pd, strictOf (masks l) M i = true

theorem simA0 {l : List Oper} {H M : List Nat} {n : Nat} {C : World → Prop} (ok : Ok l H M n) {listed : Array Bool} {a aF : Act} {W : World} {Md : List Nat}
    (inv : Inv P l H M n C Q listed a aF W [] Md []) : wpAny P .any l.toArray Q (l.length - n) listed a W := by
  have haF : a = aF := Alike.eq (by simpa [dsts] using inv.al)
  subst haF
  have hmid : wpList P l.toArray Q (l.drop n) a W := by
    have hcont := inv.cont
    by_cases h0 : Md = []
    · rw [if_pos h0] at hcont; exact hcont W inv.hC
    · rw [if_neg h0] at hcont; exact hcont.1
  exact simB ok trivial (l.length - n) n listed a W (Nat.le_refl _) (by have := ok.le; omega) inv.hs (fun j hj => by
    have := inv.hd j hj
    simp only [List.not_mem_nil, false_or] at this
    cases e : listed.getD j false with
    | false => simp only [Bool.false_eq_true, false_iff]; have := this.1 e; omega
    | true => simp only [true_iff]; rw [e] at this; simp at this; omega) inv.down hmid

theorem simA {l : List Oper} {H M : List Nat} {n : Nat} {C : World → Prop} (ok : Ok l H M n) : ∀ (fuel : Nat) (listed : Array Bool) (a aF : Act) (W : World) (Pd Md Ms : List Nat),
    fuel = Pd.length + Ms.length → Inv P l H M n C Q listed a aF W Pd Md Ms → wpAny P .any l.toArray Q (fuel + (l.length - n)) listed a W := by
  intro fuel
  induction fuel with
  | zero =>
    intro listed a aF W Pd Md Ms hfuel inv
    have h1 : Pd = [] := List.eq_nil_of_length_eq_zero (by omega)
    have h2 : Ms = [] := List.eq_nil_of_length_eq_zero (by omega)
    subst h1; subst h2
    rw [Nat.zero_add]
    exact simA0 ok inv
  | succ fuel ih =>
    intro listed a aF W Pd Md Ms hfuel inv
    have hM := inv.hM
    have hs := inv.hs
    have hd := inv.hd
    have hsub := inv.sub
    rw [show fuel + 1 + (l.length - n) = (fuel + (l.length - n)) + 1 by omega]
    have hMs : ∀ j ∈ Ms, j ∈ M := fun j hj => hM ▸ List.mem_append_right _ hj
    have hMd : ∀ j ∈ Md, j ∈ M := fun j hj => hM ▸ List.mem_append_left _ hj
    have hltH : ∀ j ∈ H, j < l.length := fun j hj => Nat.lt_of_lt_of_le (ok.lt j (.inl hj)) ok.le
    have hltM : ∀ j ∈ M, j < l.length := fun j hj => Nat.lt_of_lt_of_le (ok.lt j (.inr hj)) ok.le
    have hnodup := ok.nodup
    have hHM : ∀ j ∈ H, j ∉ M := fun j hj hm => (List.nodup_append.1 hnodup).2.2 j hj j hm rfl
    have hMnd : M.Nodup := (List.nodup_append.1 hnodup).2.1
    have hMdMs : ∀ j ∈ Md, j ∉ Ms := by rw [hM] at hMnd; exact fun j hj hm => (List.nodup_append.1 hMnd).2.2 j hj j hm rfl
    have doneOf : ∀ j, j < l.length → j ∉ Pd → j ∉ Ms → j < n → listed.getD j false = true := fun j hj h1 h2 h3 => by
      cases e : listed.getD j false with
      | true => rfl
      | false => rcases (hd j hj).1 e with h | h | h
                 · exact absurd h h1
                 · exact absurd h h2
                 · omega
    have pending : ∀ j ∈ Pd, listed.getD j false = false := fun j hj => (hd j (hltH j (hsub j hj))).2 (.inl hj)
    refine ⟨fun hnil => ?_, fun i hi => ?_⟩
    · exfalso
      by_cases hp : Pd = []
      · cases hms : Ms with
        | nil => rw [hp, hms] at hfuel; simp at hfuel
        | cons m ms =>
          have hmM : m ∈ M := hMs m (by rw [hms]; simp)
          have hr : m ∈ Region.ready .any l.toArray listed := ready_of hs (hltM m hmM) ((hd m (hltM m hmM)).2 (.inr (.inl (by rw [hms]; simp)))) fun j hj => by
            have htop := ok.topM
            rw [hM, hms] at htop
            rcases top_at H Md ms m htop j hj with h | h
            · exact doneOf j (hltH j h) (by rw [hp]; simp) (fun hm => hHM j h (hMs j hm)) (ok.lt j (.inl h))
            · exact doneOf j (hltM j (hMd j h)) (by rw [hp]; simp) (hMdMs j h) (ok.lt j (.inr (hMd j h)))
          rw [hnil] at hr; cases hr
      · obtain ⟨k, hk, hall⟩ := top_ready [] H Pd ok.topH (fun j hj => by cases hj) hsub hp
        have hkH := hsub k hk
        have hr : k ∈ Region.ready .any l.toArray listed := ready_of hs (hltH k hkH) (pending k hk) fun j hj => by
          obtain ⟨h1, h2⟩ := hall j hj
          rcases h2 with h2 | h2
          · cases h2
          · exact doneOf j (hltH j h2) h1 (fun hm => hHM j h2 (hMs j hm)) (ok.lt j (.inl h2))
        rw [hnil] at hr; cases hr
    · have hil := ready_lt hi
      have hiu := ready_undone hs hi
      have hdown' := inv.down.set ok.masks hi
      have hs' : (listed.setIfInBounds i true).size = l.length := by simpa using hs
      have hseti : ∀ j, (listed.setIfInBounds i true).getD j false = (decide (i = j) || listed.getD j false) := fun j => getD_set listed i j (by omega)
      rcases (hd i hil).1 hiu with hip | him | hit
      · -- one of H
        obtain ⟨v, hv, hrun⟩ := inv.good i hip
        have hiH := hsub i hip
        have hnotM : i ∉ M := hHM i hiH
        have hlooks : Looks l.toArray (opAt l i) a aF := by
          refine ⟨inv.al.size, fun t ht => ?_⟩
          by_cases hm : t ∈ dsts l Pd
          · exfalso
            obtain ⟨j, hj, hjd⟩ := List.mem_filterMap.1 hm
            by_cases hji : j = i
            · subst hji
              have key : ∀ (is : List Nat), headOk l is = true → j ∈ is → False := by
                intro is
                induction is with
                | nil => intro _ h; cases h
                | cons x xs ihx =>
                  intro h hj
                  simp only [headOk, Bool.and_eq_true, Bool.not_eq_true'] at h
                  rcases List.mem_cons.1 hj with rfl | hj
                  · exact (not_clash h.1.2 hjd).1 ht
                  · exact ihx h.2 hj
              exact key H ok.head hiH
            · have hb := head_waits H ok.head ok.wait i hiH j (hsub j hj) hji t hjd ht
              have := ready_bits ok.masks inv.down hi hb
              rw [pending j hj] at this; cases this
          · exact inv.al.slot t hm
        refine hrun a Q hlooks W inv.hC _ fun W' hC' hstrict => ?_
        have hdstne : ∀ j ∈ Pd.erase i, (opAt l j).dst ≠ (opAt l i).dst ∨ (opAt l i).dst = none := by
          intro j hj
          have hjP := List.mem_of_mem_erase hj
          have hji : j ≠ i := fun e => by subst e; exact (inv.nd.not_mem_erase) hj
          cases hdi : (opAt l i).dst with
          | none => exact .inr rfl
          | some d =>
            refine .inl fun hdj => ?_
            have key : ∀ (is : List Nat), headOk l is = true → i ∈ is → j ∈ is → False := by
              intro is
              induction is with
              | nil => intro _ h; cases h
              | cons x xs ihx =>
                intro h hi hj
                simp only [headOk, Bool.and_eq_true, List.all_eq_true, Bool.not_eq_true'] at h
                rcases List.mem_cons.1 hi with hix | hi'
                · rcases List.mem_cons.1 hj with hjx | hj'
                  · exact hji (hjx.trans hix.symm)
                  · have := h.1.1 j hj'
                    rw [← hix] at this
                    exact (not_clash this hdj).2 hdi
                · rcases List.mem_cons.1 hj with hjx | hj'
                  · have := h.1.1 i hi'
                    rw [← hjx] at this
                    exact (not_clash this hdi).2 hdj
                  · exact ihx h.2 hi' hj'
            exact key H ok.head hiH (hsub j hjP)
        refine ih _ _ aF W' (Pd.erase i) Md Ms (by rw [List.length_erase_of_mem hip]; have := List.length_pos_of_mem hip; omega) {
          hM := hM
          hs := hs'
          hd := fun j hj => by
            rw [hseti j]
            have hnotMs : i ∉ Ms := fun h => hnotM (hMs i h)
            have hin : i < n := ok.lt i (.inl hiH)
            by_cases hij : i = j
            · subst hij
              simp only [decide_true, Bool.true_or, Bool.true_eq_false, false_iff, not_or]
              exact ⟨fun h => inv.nd.not_mem_erase h, hnotMs, by omega⟩
            · simp only [hij, decide_false, Bool.false_or]
              rw [hd j hj, List.mem_erase_of_ne (Ne.symm hij)]
          down := hdown'
          nd := inv.nd.erase _
          sub := fun j hj => hsub j (List.mem_of_mem_erase hj)
          al := ⟨by rw [defers_put]; exact inv.al.defers, by rw [size_put]; exact inv.al.size, fun t ht => by
            by_cases hdi : (opAt l i).dst = some t
            · rw [hdi]
              by_cases hlt : t < a.tmps.size
              · rw [slot_put_eq a v hlt]
                exact (hv t hdi (inv.al.size ▸ hlt)).symm
              · rw [Array.getElem?_eq_none (by rw [size_put]; exact Nat.le_of_not_lt hlt), Array.getElem?_eq_none (by rw [← inv.al.size]; exact Nat.le_of_not_lt hlt)]
            · rw [slot_put_ne a v hdi]
              exact inv.al.slot t (dsts_erase ht hdi)⟩
          good := fun j hj => inv.good j (List.mem_of_mem_erase hj)
          hC := hC'
          cont := by
            have hcont := inv.cont
            by_cases h0 : Md = []
            · rw [if_pos h0] at hcont ⊢; exact hcont
            · rw [if_neg h0] at hcont ⊢
              rw [hstrict (hcont.2 i hip)]
              exact ⟨hcont.1, fun j hj => hcont.2 j (List.mem_of_mem_erase hj)⟩ }
      · -- the next of M
        obtain ⟨m, ms, rfl⟩ : ∃ m ms, Ms = m :: ms := by cases Ms with | nil => cases him | cons m ms => exact ⟨m, ms, rfl⟩
        have hmM : m ∈ M := hMs m (by simp)
        have him' : i = m := by
          rcases List.mem_cons.1 him with h | h
          · exact h
          · exfalso
            obtain ⟨xs, ys, hxy⟩ := List.append_of_mem h
            have hch := ok.chain
            rw [hM, hxy, show Md ++ m :: (xs ++ i :: ys) = (Md ++ m :: xs) ++ i :: ys by simp] at hch
            have hb := chain_at [] (Md ++ m :: xs) ys i hch m (.inr (by simp))
            have := ready_bits ok.masks inv.down hi hb
            rw [(hd m (hltM m hmM)).2 (.inr (.inl (by simp)))] at this; cases this
        subst him'
        have hms : i ∉ ms := by
          have := hMnd; rw [hM] at this
          have h2 := (List.nodup_append.1 this).2.1
          exact (List.nodup_cons.1 h2).1
        have hiPd : i ∉ Pd := fun h => hHM i (hsub i h) hmM
        have hmid : Mid P l C Q n (i :: ms) aF W := by
          have hcont := inv.cont
          by_cases h0 : Md = []
          · rw [if_pos h0] at hcont; exact hcont W inv.hC
          · rw [if_neg h0] at hcont; exact hcont.1
        obtain ⟨o, ho, hrun⟩ := hmid
        have hop := opAt_of ho
        have unwaited : ∀ j ∈ Pd, ((masks l).getD i 0).testBit j = false := fun j hj => by
          cases e : ((masks l).getD i 0).testBit j with
          | false => rfl
          | true => have := ready_bits ok.masks inv.down hi e; rw [pending j hj] at this; cases this
        have noclash : ∀ j ∈ Pd, clash l (opAt l j) (opAt l i) = false ∧ clash l (opAt l i) (opAt l j) = false := fun j hj => by
          rcases ok.hm j (hsub j hj) i hmM with h | h
          · rw [unwaited j hj] at h; cases h
          · exact h
        have hlooks : Looks l.toArray (opAt l i) a aF := by
          refine inv.al.looks fun t ht hm => ?_
          obtain ⟨j, hj, hjd⟩ := List.mem_filterMap.1 hm
          exact (not_clash (noclash j hj).1 hjd).1 ht
        have hstrictAll : ∀ j ∈ Pd, strictOf (masks l) M j = true := by
          have hcont := inv.cont
          by_cases h0 : Md = []
          · intro j hj
            have : M = i :: ms := by rw [hM, h0]; rfl
            rw [this]
            simp only [strictOf, Bool.not_eq_true']
            exact unwaited j hj
          · rw [if_neg h0] at hcont; exact hcont.2
        have h1 := wpOp_of_single ho hrun
        rw [hop] at hlooks
        refine wpOp_looks ho (by rw [← hop]; exact ok.sel' hil) hlooks h1 fun pre u W' hk => ?_
        obtain ⟨hC', hmid'⟩ := hk
        -- defers are as they were or both the new ones: alike
        refine ih _ _ (({ aF with defers := pre ++ aF.defers } : Act).put o.dst u) W' Pd (Md ++ [i]) ms (by simp at hfuel; omega) {
          hM := by rw [hM]; simp
          hs := hs'
          hd := fun j hj => by
            rw [hseti j]
            have hin : i < n := ok.lt i (.inr hmM)
            by_cases hij : i = j
            · subst hij
              simp only [decide_true, Bool.true_or, Bool.true_eq_false, false_iff, not_or]
              exact ⟨hiPd, hms, by omega⟩
            · simp only [hij, decide_false, Bool.false_or]
              rw [hd j hj, List.mem_cons]
              constructor
              · rintro (h | (h | h) | h)
                · exact .inl h
                · exact absurd h.symm hij
                · exact .inr (.inl h)
                · exact .inr (.inr h)
              · rintro (h | h | h)
                · exact .inl h
                · exact .inr (.inl (.inr h))
                · exact .inr (.inr h)
          down := hdown'
          nd := inv.nd
          sub := hsub
          al := by
            have := inv.al.with_defers (pre ++ aF.defers)
            rw [inv.al.defers]
            exact this.put_both _ _
          good := fun j hj => by
            have hg : Good P l C (strictOf (masks l) M) j { aF with defers := pre ++ aF.defers } := by
              obtain ⟨v, h1, h2⟩ := inv.good j hj
              exact ⟨v, h1, fun a' Q' hl => h2 a' Q' ⟨hl.size, hl.slot⟩⟩
            have := hg.put (noclash j hj).2 u
            rwa [hop] at this
          hC := hC'
          cont := by
            rw [if_neg (by simp)]
            exact ⟨hmid', hstrictAll⟩ }
      · -- none behind all: they wait
        exfalso
        have hall := (ok.tail i hit hil).1
        have hne : Pd ≠ [] ∨ Ms ≠ [] := by
          by_cases h : Pd = []
          · refine .inr fun h2 => ?_
            rw [h, h2] at hfuel; simp at hfuel
          · exact .inl h
        rcases hne with h | h
        · obtain ⟨x, hx⟩ := List.exists_mem_of_ne_nil _ h
          have := ready_bits ok.masks inv.down hi (hall x (Nat.lt_of_lt_of_le (ok.lt x (.inl (hsub x hx))) hit))
          rw [pending x hx] at this; cases this
        · obtain ⟨x, hx⟩ := List.exists_mem_of_ne_nil _ h
          have hxM := hMs x hx
          have := ready_bits ok.masks inv.down hi (hall x (Nat.lt_of_lt_of_le (ok.lt x (.inr hxM)) hit))
          rw [(hd x (hltM x hxM)).2 (.inr (.inl hx))] at this; cases this


/-- **A region that draws its order.** H: each yields one value in whatever world of the class C; M: a chain, each leaving a world of the class (those of H that may come behind its first do nothing to the world); all from n on waits for all before it. -/
theorem wp_region_order {l : List Oper} (H M : List Nat) (n : Nat) {C : World → Prop} {id : Nat} {a : Act} {w : World} (hm : P.follows .mixedOrders = true)
    (hB : orderOk l H M n = true) (hC : C { w with drawn := w.drawn + 1 })
    (h : HeadOK P l C (strictOf (masks l) M) H a (fun a' => ∀ W, C W → Mid P l C Q n M a' W)) : (Code.region id l.toArray true).wp P Q a w := by
  have ok := ok_of hB
  obtain ⟨b, hK, hal, hgood⟩ := headOk_good H a _ ok.head (fun i hi => ok.sel' (Nat.lt_of_lt_of_le (ok.lt i (.inl hi)) ok.le)) h
  refine wp_region_any hm ?_
  have hnd := (List.nodup_append.1 ok.nodup)
  have hcount : H.length + M.length = n := by
    have h1 : (H ++ M).Perm (List.range n) := by
      rw [List.perm_ext_iff_of_nodup ok.nodup List.nodup_range]
      intro i
      rw [List.mem_append, List.mem_range]
      exact ⟨ok.lt i, ok.cover i⟩
    have := h1.length_eq
    simpa using this
  have := simA (Q := Q) ok (H.length + M.length) (Array.replicate l.toArray.size false) a b { w with drawn := w.drawn + 1 } H [] M rfl {
    hM := rfl
    hs := by simp
    hd := fun j hj => by
      have : (Array.replicate l.toArray.size false).getD j false = false := by
        simp only [Array.getD_eq_getD_getElem?, Array.getElem?_replicate]; split <;> rfl
      simp only [this, true_iff]
      by_cases hjn : j < n
      · rcases ok.cover j hjn with h | h
        · exact .inl h
        · exact .inr (.inl h)
      · exact .inr (.inr (by omega))
    down := fun j hj => by
      have : (Array.replicate l.toArray.size false).getD j false = false := by
        simp only [Array.getD_eq_getD_getElem?, Array.getElem?_replicate]; split <;> rfl
      rw [this] at hj; cases hj
    nd := hnd.1
    sub := fun j hj => hj
    al := hal
    good := hgood
    hC := hC
    cont := by rw [if_pos rfl]; exact hK }
  have e : H.length + M.length + (l.length - n) = l.toArray.size := by have := ok.le; simp; omega
  rwa [e] at this


/-! ### Moves -/

def slotOf (a : Act) : Option Tmp → Value
  | some d => a.tmps.getD d undef
  | none => undef

/-- H, each operation in whatever world of the class. -/
def Head (P : Program) (l : List Oper) (C : World → Prop) : List Nat → Act → (Act → Prop) → Prop
  | [], a, K => K a
  | i :: is, a, K => ∃ o a1, l.toArray[i]? = some o ∧ a1 = a.put o.dst (slotOf a1 o.dst) ∧
      (∀ W, C W → wpList P l.toArray (Exit.then (fun a' W' => a' = a1 ∧ C W') Bot) [o] a W) ∧ Head P l C is a1 K

/-- H, each operation in the one world w, which it leaves alone. -/
def Head0 (P : Program) (l : List Oper) (w : World) : List Nat → Act → (Act → Prop) → Prop
  | [], a, K => K a
  | i :: is, a, K => ∃ o a1, l.toArray[i]? = some o ∧ a1 = a.put o.dst (slotOf a1 o.dst) ∧
      wpList P l.toArray (Exit.then (fun a' W' => a' = a1 ∧ W' = w) Bot) [o] a w ∧ Head0 P l w is a1 K

/-- H, each operation in whatever world of the class, which it leaves alone. -/
def HeadS (P : Program) (l : List Oper) (C : World → Prop) : List Nat → Act → (Act → Prop) → Prop
  | [], a, K => K a
  | i :: is, a, K => ∃ o a1, l.toArray[i]? = some o ∧ a1 = a.put o.dst (slotOf a1 o.dst) ∧
      (∀ W, C W → wpList P l.toArray (Exit.then (fun a' W' => a' = a1 ∧ W' = W) Bot) [o] a W) ∧ HeadS P l C is a1 K

theorem head_nil {l : List Oper} {C : World → Prop} {a : Act} {K : Act → Prop} (h : K a) : Head P l C [] a K := h
theorem head0_nil {l : List Oper} {w : World} {a : Act} {K : Act → Prop} (h : K a) : Head0 P l w [] a K := h
theorem headS_nil {l : List Oper} {C : World → Prop} {a : Act} {K : Act → Prop} (h : K a) : HeadS P l C [] a K := h
theorem head_cons {l : List Oper} {C : World → Prop} {i : Nat} {is : List Nat} {a a1 : Act} {K : Act → Prop} {o : Oper} (ho : l.toArray[i]? = some o)
    (h : ∀ W, C W → wpList P l.toArray (Exit.then (fun a' W' => a' = a1 ∧ C W') Bot) [o] a W) (hp : a1 = a.put o.dst (slotOf a1 o.dst))
    (hk : Head P l C is a1 K) : Head P l C (i :: is) a K := ⟨o, a1, ho, hp, h, hk⟩
theorem head0_cons {l : List Oper} {w : World} {i : Nat} {is : List Nat} {a a1 : Act} {K : Act → Prop} {o : Oper} (ho : l.toArray[i]? = some o)
    (h : wpList P l.toArray (Exit.then (fun a' W' => a' = a1 ∧ W' = w) Bot) [o] a w) (hp : a1 = a.put o.dst (slotOf a1 o.dst))
    (hk : Head0 P l w is a1 K) : Head0 P l w (i :: is) a K := ⟨o, a1, ho, hp, h, hk⟩
theorem headS_cons {l : List Oper} {C : World → Prop} {i : Nat} {is : List Nat} {a a1 : Act} {K : Act → Prop} {o : Oper} (ho : l.toArray[i]? = some o)
    (h : ∀ W, C W → wpList P l.toArray (Exit.then (fun a' W' => a' = a1 ∧ W' = W) Bot) [o] a W) (hp : a1 = a.put o.dst (slotOf a1 o.dst))
    (hk : HeadS P l C is a1 K) : HeadS P l C (i :: is) a K := ⟨o, a1, ho, hp, h, hk⟩

theorem wpList_single_mono {l : List Oper} {R R' : Act → World → Prop} {o : Oper} {a : Act} {w : World} (h : wpList P l.toArray (Exit.then R Bot) [o] a w) (hr : ∀ a w, R a w → R' a w) :
    wpList P l.toArray (Exit.then R' Bot) [o] a w := by
  unfold wpList at *
  split
  · rename_i hw
    rw [if_pos hw] at h
    rcases h with h | ⟨_, a0, w0, hl⟩
    · refine .inl ?_
      unfold Oper.wp at *
      generalize (execOp a.eval o).run P w = r at *
      cases r with
      | ok n w' =>
        cases n <;> simp only [Oper.upon] at h ⊢
        case value u => exact hr _ _ h
        case skip => exact hr _ _ h
        case defer d => exact hr _ _ h
        case enter f args =>
          refine Calls.mono h fun e w'' he => ?_
          cases e with
          | returned u => exact hr _ _ he
          | panicked c => exact he.elim
          | outgrown => obtain ⟨a1, w1, h1⟩ := he; exact h1.elim
        case row row args => exact Rows.mono h fun u w'' he => hr _ _ he
      | halt x w' =>
        cases x <;> simp only [Oper.upon] at h ⊢
        case panic u => exact h.elim
    · exact hl.elim
  · rename_i hw
    rw [if_neg hw] at h
    exact hr _ _ h

theorem Head.ok {l : List Oper} {C : World → Prop} {strict : Nat → Bool} (hst : ∀ i, strict i = false) : ∀ (is : List Nat) (a : Act) (K : Act → Prop), Head P l C is a K → HeadOK P l C strict is a K
  | [], _, _, h => h
  | i :: is, a, K, h => by
    obtain ⟨o, a1, ho, hp, hr, hk⟩ := h
    refine ⟨o, slotOf a1 o.dst, ho, fun W hW => wpList_single_mono (hr W hW) fun a' W' h' => ⟨h'.1.trans hp, h'.2, fun e => by rw [hst] at e; cases e⟩, ?_⟩
    rw [← hp]
    exact Head.ok hst is a1 K hk

theorem HeadS.ok {l : List Oper} {C : World → Prop} {strict : Nat → Bool} : ∀ (is : List Nat) (a : Act) (K : Act → Prop), HeadS P l C is a K → HeadOK P l C strict is a K
  | [], _, _, h => h
  | i :: is, a, K, h => by
    obtain ⟨o, a1, ho, hp, hr, hk⟩ := h
    refine ⟨o, slotOf a1 o.dst, ho, fun W hW => wpList_single_mono (hr W hW) fun a' W' h' => ⟨h'.1.trans hp, by rw [h'.2]; exact hW, fun _ => h'.2⟩, ?_⟩
    rw [← hp]
    exact HeadS.ok is a1 K hk

theorem Head0.ok {l : List Oper} {w : World} {strict : Nat → Bool} : ∀ (is : List Nat) (a : Act) (K : Act → Prop), Head0 P l w is a K → HeadOK P l (fun W => W = w) strict is a K
  | [], _, _, h => h
  | i :: is, a, K, h => by
    obtain ⟨o, a1, ho, hp, hr, hk⟩ := h
    refine ⟨o, slotOf a1 o.dst, ho, fun W hW => by subst hW; exact wpList_single_mono hr fun a' W' h' => ⟨h'.1.trans hp, h'.2, fun _ => h'.2⟩, ?_⟩
    rw [← hp]
    exact Head0.ok is a1 K hk

/-- **All that does not end the region leaves the world alone.** H in an order that may be, then from n on, in the text's order. -/
theorem region0 {l : List Oper} (H : List Nat) (n : Nat) {id : Nat} {a : Act} {w : World} (hm : P.follows .mixedOrders = true) (hB : orderOk l H [] n = true)
    (h : Head0 P l w.drew H a (fun a' => wpList P l.toArray Q (l.drop n) a' w.drew)) : (Code.region id l.toArray true).wp P Q a w :=
  wp_region_order (C := fun W => W = w.drew) H [] n hm hB rfl (by
    have := Head0.ok (strict := strictOf (masks l) []) H a _ h
    revert this
    suffices ∀ is a, HeadOK P l (fun W => W = w.drew) (strictOf (masks l) []) is a (fun a' => wpList P l.toArray Q (l.drop n) a' w.drew) → HeadOK P l (fun W => W = w.drew) (strictOf (masks l) []) is a (fun a' => ∀ W, W = w.drew → Mid P l (fun W => W = w.drew) Q n [] a' W) from this H a
    intro is
    induction is with
    | nil => intro a h W hW; subst hW; exact h
    | cons i is ih => intro a ⟨o, v, h1, h2, h3⟩; exact ⟨o, v, h1, h2, ih _ h3⟩)

/-- All that does not end the region leaves the world in a class. -/
theorem region1 {l : List Oper} (C : World → Prop) (H : List Nat) (n : Nat) {id : Nat} {a : Act} {w : World} (hm : P.follows .mixedOrders = true) (hB : orderOk l H [] n = true) (hC : C w.drew)
    (h : Head P l C H a (fun a' => ∀ W, C W → wpList P l.toArray Q (l.drop n) a' W)) : (Code.region id l.toArray true).wp P Q a w :=
  wp_region_order (C := C) H [] n hm hB hC (Head.ok (fun _ => rfl) H a _ h)

/-- Reads, then a chain that leaves the world in a class in which they read the same, then what ends the region. -/
theorem region2 {l : List Oper} (C : World → Prop) (H M : List Nat) (n : Nat) {id : Nat} {a : Act} {w : World} (hm : P.follows .mixedOrders = true) (hB : orderOk l H M n = true) (hC : C w.drew)
    (h : HeadS P l C H a (fun a' => ∀ W, C W → Mid P l C Q n M a' W)) : (Code.region id l.toArray true).wp P Q a w :=
  wp_region_order (C := C) H M n hm hB hC (HeadS.ok H a _ h)

theorem mid_nil {l : List Oper} {C : World → Prop} {n : Nat} {a : Act} {W : World} (h : wpList P l.toArray Q (l.drop n) a W) : Mid P l C Q n [] a W := h
theorem mid_cons {l : List Oper} {C : World → Prop} {n m : Nat} {ms : List Nat} {a : Act} {W : World} {o : Oper} (ho : l.toArray[m]? = some o)
    (h : ∀ K : Act → World → Prop, (∀ a' W', C W' → Mid P l C Q n ms a' W' → K a' W') → wpList P l.toArray (Exit.then K Bot) [o] a W) : Mid P l C Q n (m :: ms) a W :=
  ⟨o, ho, h _ fun _ _ h1 h2 => ⟨h1, h2⟩⟩


/-! ### Reads behind the chain, too -/

/-- A chain; behind each of its operations reads that wait for it. -/
def MidG (P : Program) (l : List Oper) (C : World → Prop) (Q : Exit → Act → World → Prop) (n : Nat) : List (Nat × List Nat) → Act → World → Prop
  | [], a, W => wpList P l.toArray Q (l.drop n) a W
  | (m, qs) :: ms, a, W => ∃ o, l.toArray[m]? = some o ∧
      wpList P l.toArray (Exit.then (fun a' W' => C W' ∧ HeadS P l C qs a' (fun b => MidG P l C Q n ms b W')) Bot) [o] a W

def mids (M : List (Nat × List Nat)) : List Nat := M.map Prod.fst
def reads (M : List (Nat × List Nat)) : List Nat := M.flatMap Prod.snd
def flat : List (Nat × List Nat) → List Nat
  | [] => []
  | (m, qs) :: ms => m :: (qs ++ flat ms)

def readsWait (ms : List Nat) (M : List (Nat × List Nat)) : Bool := M.all fun (m, qs) => qs.all fun q => (ms.getD q 0).testBit m

def orderOkG (l : List Oper) (H : List Nat) (M : List (Nat × List Nat)) (n : Nat) : Bool :=
  let ms := masks l
  let R := H ++ reads M
  masksOk l ms && l.all (fun o => !isSelect o) && decide (n ≤ l.length) && decide (H ++ flat M).Nodup &&
  ((H ++ flat M).all fun i => decide (i < n)) && ((List.range n).all fun i => (H ++ flat M).contains i) &&
  headOk l R && waitOk l ms R && topOk l [] (H ++ flat M) && chainOk ms [] (mids M) && readsWait ms M &&
  ((List.range' n (l.length - n)).all fun i => ((List.range i).all fun j => (ms.getD i 0).testBit j) && (deps (opAt l i)).all fun j => decide (j < i)) &&
  (R.all fun i => (mids M).all fun m => (ms.getD m 0).testBit i || (ms.getD i 0).testBit m || (!clash l (opAt l i) (opAt l m) && !clash l (opAt l m) (opAt l i)))

structure OkG (l : List Oper) (H : List Nat) (M : List (Nat × List Nat)) (n : Nat) : Prop where
  masks : masksOk l (masks l) = true
  sel : ∀ o ∈ l, ∀ cs c, o.op ≠ .select cs c
  le : n ≤ l.length
  nodup : (H ++ flat M).Nodup
  lt : ∀ i ∈ H ++ flat M, i < n
  cover : ∀ i, i < n → i ∈ H ++ flat M
  head : headOk l (H ++ reads M) = true
  wait : waitOk l (Fw.masks l) (H ++ reads M) = true
  top : topOk l [] (H ++ flat M) = true
  chain : chainOk (Fw.masks l) [] (mids M) = true
  rw : ∀ m qs, (m, qs) ∈ M → ∀ q ∈ qs, ((Fw.masks l).getD q 0).testBit m = true
  tail : ∀ i, n ≤ i → i < l.length → (∀ j, j < i → ((Fw.masks l).getD i 0).testBit j = true) ∧ ∀ j ∈ deps (opAt l i), j < i
  hm : ∀ i ∈ H ++ reads M, ∀ m ∈ mids M, ((Fw.masks l).getD m 0).testBit i = true ∨ ((Fw.masks l).getD i 0).testBit m = true ∨ (clash l (opAt l i) (opAt l m) = false ∧ clash l (opAt l m) (opAt l i) = false)

theorem okG_of {l : List Oper} {H : List Nat} {M : List (Nat × List Nat)} {n : Nat} (h : orderOkG l H M n = true) : OkG l H M n := by
  simp only [orderOkG, Bool.and_eq_true, decide_eq_true_eq, List.all_eq_true, Bool.or_eq_true, Bool.not_eq_true', List.contains_iff_mem, List.mem_range] at h
  obtain ⟨⟨⟨⟨⟨⟨⟨⟨⟨⟨⟨⟨h1, h2⟩, h3⟩, h4⟩, h5⟩, h6⟩, h7⟩, h7'⟩, h8⟩, h9⟩, h10⟩, h11⟩, h12⟩ := h
  exact {
    masks := h1
    sel := fun o ho cs c e => by have := h2 o ho; simp [isSelect, e] at this
    le := h3
    nodup := h4
    lt := h5
    cover := h6
    head := h7
    wait := h7'
    top := h8
    chain := h9
    rw := fun m qs hm q hq => by
      simp only [readsWait, List.all_eq_true] at h10
      exact h10 (m, qs) hm q hq
    tail := fun i h h' => h11 i (by rw [List.mem_range'_1]; omega)
    hm := fun i hi m hm => by
      rcases h12 i hi m hm with (h | h) | h
      · exact .inl h
      · exact .inr (.inl h)
      · exact .inr (.inr h) }

theorem mem_flat {M : List (Nat × List Nat)} {i : Nat} : i ∈ flat M ↔ i ∈ mids M ∨ i ∈ reads M := by
  induction M with
  | nil => simp [flat, mids, reads]
  | cons x M ih =>
    obtain ⟨m, qs⟩ := x
    simp only [flat, mids, reads, List.map_cons, List.flatMap_cons, List.mem_cons, List.mem_append] at ih ⊢
    rw [ih]
    constructor
    · rintro (h | h | h | h)
      · exact .inl (.inl h)
      · exact .inr (.inl h)
      · exact .inl (.inr h)
      · exact .inr (.inr h)
    · rintro ((h | h) | (h | h))
      · exact .inl h
      · exact .inr (.inr (.inl h))
      · exact .inr (.inl h)
      · exact .inr (.inr (.inr h))

theorem flat_append (A B : List (Nat × List Nat)) : flat (A ++ B) = flat A ++ flat B := by
  induction A with
  | nil => rfl
  | cons x A ih => obtain ⟨m, qs⟩ := x; simp [flat, ih]

/-- In a list that is in order, none but what has come up waits to come up first. -/
theorem top_first {l : List Oper} : ∀ (b is U : List Nat), topOk l b is = true → (∀ j ∈ b, j ∉ U) → (∃ j ∈ is, j ∈ U) →
    ∃ i ∈ U, i ∈ is ∧ ∀ j ∈ deps (opAt l i), j ∉ U ∧ (j ∈ b ∨ j ∈ is)
  | b, [], U, _, _, h => by obtain ⟨j, hj, _⟩ := h; cases hj
  | b, i :: is, U, h, hb, hex => by
    simp only [topOk, Bool.and_eq_true, List.all_eq_true, List.contains_iff_mem] at h
    by_cases hi : i ∈ U
    · exact ⟨i, hi, by simp, fun j hj => ⟨hb j (h.1 j hj), .inl (h.1 j hj)⟩⟩
    · obtain ⟨j, hj, hjU⟩ := hex
      have hj' : j ∈ is := by
        rcases List.mem_cons.1 hj with rfl | h'
        · exact absurd hjU hi
        · exact h'
      obtain ⟨k, hk, hkm, hall⟩ := top_first (b ++ [i]) is U h.2 (fun j hj => by
        rcases List.mem_append.1 hj with hj | hj
        · exact hb j hj
        · rw [List.mem_singleton.1 hj]; exact hi) ⟨j, hj', hjU⟩
      refine ⟨k, hk, List.mem_cons_of_mem _ hkm, fun j hj => ⟨(hall j hj).1, ?_⟩⟩
      rcases (hall j hj).2 with h' | h'
      · rcases List.mem_append.1 h' with h' | h'
        · exact .inl h'
        · exact .inr (by rw [List.mem_singleton.1 h']; simp)
      · exact .inr (List.mem_cons_of_mem _ h')

theorem headOk_self {l : List Oper} : ∀ (is : List Nat), headOk l is = true → ∀ j ∈ is, ∀ d, (opAt l j).dst = some d → d ∉ (opAt l j).looksAt l.toArray
  | [], _, j, hj, _, _ => by cases hj
  | x :: xs, h, j, hj, d, hd => by
    simp only [headOk, Bool.and_eq_true, Bool.not_eq_true'] at h
    rcases List.mem_cons.1 hj with rfl | hj
    · exact (not_clash h.1.2 hd).1
    · exact headOk_self xs h.2 j hj d hd

theorem headOk_dst {l : List Oper} : ∀ (is : List Nat), headOk l is = true → ∀ i ∈ is, ∀ j ∈ is, j ≠ i → ∀ d, (opAt l i).dst = some d → (opAt l j).dst ≠ some d
  | [], _, i, hi, _, _, _, _, _ => by cases hi
  | x :: xs, h, i, hi, j, hj, hji, d, hdi => by
    simp only [headOk, Bool.and_eq_true, List.all_eq_true, Bool.not_eq_true'] at h
    intro hdj
    rcases List.mem_cons.1 hi with hix | hi'
    · rcases List.mem_cons.1 hj with hjx | hj'
      · exact hji (hjx.trans hix.symm)
      · have := h.1.1 j hj'
        rw [← hix] at this
        exact (not_clash this hdj).2 hdi
    · rcases List.mem_cons.1 hj with hjx | hj'
      · have := h.1.1 i hi'
        rw [← hjx] at this
        exact (not_clash this hdi).2 hdj
      · exact headOk_dst xs h.2 i hi' j hj' hji d hdi hdj

theorem headOk_append {l : List Oper} : ∀ (A B : List Nat), headOk l (A ++ B) = true → headOk l A = true ∧ headOk l B = true ∧ ∀ i ∈ A, ∀ j ∈ B, clash l (opAt l j) (opAt l i) = false
  | [], B, h => ⟨rfl, h, fun i hi => by cases hi⟩
  | x :: A, B, h => by
    simp only [List.cons_append, headOk, Bool.and_eq_true, List.all_eq_true, Bool.not_eq_true', List.mem_append] at h
    obtain ⟨hA, hB, hAB⟩ := headOk_append A B h.2
    refine ⟨?_, hB, fun i hi j hj => ?_⟩
    · simp only [headOk, Bool.and_eq_true, List.all_eq_true, Bool.not_eq_true']
      exact ⟨⟨fun j hj => h.1.1 j (.inl hj), h.1.2⟩, hA⟩
    · rcases List.mem_cons.1 hi with rfl | hi
      · exact h.1.1 j (.inr hj)
      · exact hAB i hi j hj

structure InvG (P : Program) (l : List Oper) (H : List Nat) (M : List (Nat × List Nat)) (n : Nat) (C : World → Prop) (Q : Exit → Act → World → Prop)
    (listed : Array Bool) (a aF : Act) (W : World) (Pd : List Nat) (Md Ms : List (Nat × List Nat)) : Prop where
  hM : M = Md ++ Ms
  hs : listed.size = l.length
  hd : ∀ j, j < l.length → (listed.getD j false = false ↔ j ∈ Pd ∨ j ∈ flat Ms ∨ n ≤ j)
  down : Down l listed
  nd : Pd.Nodup
  sub : ∀ j ∈ Pd, j ∈ H ++ reads Md
  al : Alike (dsts l Pd) a aF
  good : ∀ i ∈ Pd, Good P l C (fun _ => true) i aF
  hC : C W
  cont : MidG P l C Q n Ms aF W

theorem simG {l : List Oper} {H : List Nat} {M : List (Nat × List Nat)} {n : Nat} {C : World → Prop} (ok : OkG l H M n) : ∀ (fuel : Nat) (listed : Array Bool) (a aF : Act) (W : World) (Pd : List Nat) (Md Ms : List (Nat × List Nat)),
    fuel = Pd.length + (flat Ms).length → InvG P l H M n C Q listed a aF W Pd Md Ms → wpAny P .any l.toArray Q (fuel + (l.length - n)) listed a W := by
  intro fuel
  induction fuel with
  | zero =>
    intro listed a aF W Pd Md Ms hfuel inv
    have h1 : Pd = [] := List.eq_nil_of_length_eq_zero (by omega)
    have h2 : Ms = [] := by
      cases Ms with
      | nil => rfl
      | cons x Ms => obtain ⟨m, qs⟩ := x; simp [flat] at hfuel
    subst h1; subst h2
    rw [Nat.zero_add]
    have haF : a = aF := Alike.eq (by simpa [dsts] using inv.al)
    subst haF
    -- all before n has come up: the tail
    have key : ∀ (m k : Nat) (listed : Array Bool) (a : Act) (W : World), n ≤ k → k + m = l.length →
        listed.size = l.length → (∀ j, j < l.length → (listed.getD j false = true ↔ j < k)) → Down l listed →
        wpList P l.toArray Q (l.drop k) a W → wpAny P .any l.toArray Q m listed a W := by
      intro m
      induction m with
      | zero =>
        intro k listed a W hk hm hs hd _ h
        have hnil : Region.ready .any l.toArray listed = [] := by
          rw [List.eq_nil_iff_forall_not_mem]
          intro j hj
          have h1 := ready_undone hs hj
          have h2 := ready_lt hj
          have := (hd j h2).2 (by omega)
          rw [h1] at this; cases this
        refine ⟨hnil, ?_⟩
        rw [List.drop_eq_nil_of_le (by omega)] at h
        exact h
      | succ m ih =>
        intro k listed a W hk hm hs hd hdown h
        have hklt : k < l.length := by omega
        have hundone : listed.getD k false = false := by
          cases e : listed.getD k false with
          | false => rfl
          | true => have := (hd k hklt).1 e; omega
        have hready : k ∈ Region.ready .any l.toArray listed := ready_of hs hklt hundone fun j hj => by
          have := (ok.tail k hk hklt).2 j hj
          exact (hd j (by omega)).2 this
        refine ⟨fun e => (by rw [e] at hready; cases hready), fun i hi => ?_⟩
        have hil := ready_lt hi
        have hiu := ready_undone hs hi
        have hik : i = k := by
          rcases Nat.lt_trichotomy i k with hlt | heq | hgt
          · have := (hd i hil).2 hlt; rw [hiu] at this; cases this
          · exact heq
          · have hb := (ok.tail i (by omega) hil).1 k hgt
            have := ready_bits ok.masks hdown hi hb
            rw [hundone] at this; cases this
        subst hik
        rw [List.drop_eq_getElem_cons hil] at h
        have ho : l.toArray[i]? = some l[i] := by simp [hil]
        unfold wpOp
        simp only [ho]
        unfold wpList at h
        have next : ∀ a' W', wpList P l.toArray Q (l.drop (i + 1)) a' W' → wpAny P .any l.toArray Q m (listed.setIfInBounds i true) a' W' := fun a' W' h' =>
          ih (i + 1) _ a' W' (by omega) (by omega) (by simpa using hs) (fun j hj => by
            rw [getD_set listed i j (by omega), Bool.or_eq_true, decide_eq_true_eq, hd j hj]; omega) (hdown.set ok.masks hi) h'
        split at h
        · rename_i hw
          rw [if_pos hw]
          exact h.imp (Oper.wp_mono next) id
        · rename_i hw
          rw [if_neg hw]
          exact next _ _ h
    exact key (l.length - n) n listed a W (Nat.le_refl _) (by have := ok.le; omega) inv.hs (fun j hj => by
      have := inv.hd j hj
      simp only [List.not_mem_nil, false_or, flat] at this
      cases e : listed.getD j false with
      | false => simp only [Bool.false_eq_true, false_iff]; have := this.1 e; omega
      | true => simp only [true_iff]; rw [e] at this; simp at this; omega) inv.down inv.cont
  | succ fuel ih =>
    intro listed a aF W Pd Md Ms hfuel inv
    have hM := inv.hM
    have hs := inv.hs
    have hd := inv.hd
    have hsub := inv.sub
    rw [show fuel + 1 + (l.length - n) = (fuel + (l.length - n)) + 1 by omega]
    have hflat : flat M = flat Md ++ flat Ms := by rw [hM, flat_append]
    have hreads : reads M = reads Md ++ reads Ms := by rw [hM]; simp [reads]
    have hmids : mids M = mids Md ++ mids Ms := by rw [hM]; simp [mids]
    have hall_lt : ∀ j ∈ H ++ flat M, j < l.length := fun j hj => Nat.lt_of_lt_of_le (ok.lt j hj) ok.le
    have inAll : ∀ j ∈ H ++ reads Md, j ∈ H ++ flat M := fun j hj => by
      rcases List.mem_append.1 hj with h | h
      · exact List.mem_append_left _ h
      · exact List.mem_append_right _ (by rw [hflat]; exact List.mem_append_left _ (mem_flat.2 (.inr h)))
    have inR : ∀ j ∈ H ++ reads Md, j ∈ H ++ reads M := fun j hj => by
      rcases List.mem_append.1 hj with h | h
      · exact List.mem_append_left _ h
      · exact List.mem_append_right _ (by rw [hreads]; exact List.mem_append_left _ h)
    have msAll : ∀ j ∈ flat Ms, j ∈ H ++ flat M := fun j hj => List.mem_append_right _ (by rw [hflat]; exact List.mem_append_right _ hj)
    have hnd := ok.nodup
    have pdMs : ∀ j ∈ Pd, j ∉ flat Ms := fun j hj hm => by
      have hj' := hsub j hj
      rw [hflat, ← List.append_assoc] at hnd
      have := (List.nodup_append.1 hnd).2.2 j (by
        rcases List.mem_append.1 hj' with h | h
        · exact List.mem_append_left _ h
        · exact List.mem_append_right _ (mem_flat.2 (.inr h))) j hm
      exact this rfl
    have doneOf : ∀ j, j < l.length → j ∉ Pd → j ∉ flat Ms → j < n → listed.getD j false = true := fun j hj h1 h2 h3 => by
      cases e : listed.getD j false with
      | true => rfl
      | false => rcases (hd j hj).1 e with h | h | h
                 · exact absurd h h1
                 · exact absurd h h2
                 · omega
    have pending : ∀ j ∈ Pd, listed.getD j false = false := fun j hj => (hd j (hall_lt j (inAll j (hsub j hj)))).2 (.inl hj)
    have coming : ∀ j ∈ flat Ms, listed.getD j false = false := fun j hj => (hd j (hall_lt j (msAll j hj))).2 (.inr (.inl hj))
    refine ⟨fun hnil => ?_, fun i hi => ?_⟩
    · exfalso
      have hex : ∃ j ∈ H ++ flat M, j ∈ Pd ++ flat Ms := by
        cases hp : Pd with
        | cons x xs => exact ⟨x, inAll x (hsub x (by rw [hp]; simp)), by simp⟩
        | nil =>
          cases hms : Ms with
          | nil => rw [hp, hms] at hfuel; simp [flat] at hfuel
          | cons y ys =>
            obtain ⟨m, qs⟩ := y
            exact ⟨m, msAll m (by rw [hms]; simp [flat]), by simp [flat]⟩
      obtain ⟨k, hkU, hk, hall⟩ := top_first [] (H ++ flat M) (Pd ++ flat Ms) ok.top (fun j hj => by cases hj) hex
      have hr : k ∈ Region.ready .any l.toArray listed := ready_of hs (hall_lt k hk) (by
        rcases List.mem_append.1 hkU with h | h
        · exact pending k h
        · exact coming k h) fun j hj => by
        obtain ⟨h1, h2⟩ := hall j hj
        rcases h2 with h2 | h2
        · cases h2
        · exact doneOf j (hall_lt j h2) (fun h => h1 (List.mem_append_left _ h)) (fun h => h1 (List.mem_append_right _ h)) (ok.lt j h2)
      rw [hnil] at hr; cases hr
    · have hil := ready_lt hi
      have hiu := ready_undone hs hi
      have hdown' := inv.down.set ok.masks hi
      have hs' : (listed.setIfInBounds i true).size = l.length := by simpa using hs
      have hseti : ∀ j, (listed.setIfInBounds i true).getD j false = (decide (i = j) || listed.getD j false) := fun j => getD_set listed i j (by omega)
      have notdone : ∀ j, listed.getD j false = false → ((masks l).getD i 0).testBit j = false := fun j hj => by
        cases e : ((masks l).getD i 0).testBit j with
        | false => rfl
        | true => have := ready_bits ok.masks inv.down hi e; rw [hj] at this; cases this
      rcases (hd i hil).1 hiu with hip | him | hit
      · -- a read that is pending
        obtain ⟨v, hv, hrun⟩ := inv.good i hip
        have hiR := inR i (hsub i hip)
        have hin : i < n := ok.lt i (inAll i (hsub i hip))
        have hlooks : Looks l.toArray (opAt l i) a aF := by
          refine ⟨inv.al.size, fun t ht => ?_⟩
          by_cases hm : t ∈ dsts l Pd
          · exfalso
            obtain ⟨j, hj, hjd⟩ := List.mem_filterMap.1 hm
            by_cases hji : j = i
            · subst hji
              exact headOk_self _ ok.head j hiR t hjd ht
            · have hb := head_waits _ ok.head ok.wait i hiR j (inR j (hsub j hj)) hji t hjd ht
              rw [notdone j (pending j hj)] at hb; cases hb
          · exact inv.al.slot t hm
        refine hrun a Q hlooks W inv.hC _ fun W' hC' hstrict => ?_
        rw [hstrict rfl]
        refine ih _ _ aF W (Pd.erase i) Md Ms (by rw [List.length_erase_of_mem hip]; have := List.length_pos_of_mem hip; omega) {
          hM := hM
          hs := hs'
          hd := fun j hj => by
            rw [hseti j]
            by_cases hij : i = j
            · subst hij
              simp only [decide_true, Bool.true_or, Bool.true_eq_false, false_iff, not_or]
              exact ⟨fun h => inv.nd.not_mem_erase h, pdMs i hip, by omega⟩
            · simp only [hij, decide_false, Bool.false_or]
              rw [hd j hj, List.mem_erase_of_ne (Ne.symm hij)]
          down := hdown'
          nd := inv.nd.erase _
          sub := fun j hj => hsub j (List.mem_of_mem_erase hj)
          al := ⟨by rw [defers_put]; exact inv.al.defers, by rw [size_put]; exact inv.al.size, fun t ht => by
            by_cases hdi : (opAt l i).dst = some t
            · rw [hdi]
              by_cases hlt : t < a.tmps.size
              · rw [slot_put_eq a v hlt]
                exact (hv t hdi (inv.al.size ▸ hlt)).symm
              · rw [Array.getElem?_eq_none (by rw [size_put]; exact Nat.le_of_not_lt hlt), Array.getElem?_eq_none (by rw [← inv.al.size]; exact Nat.le_of_not_lt hlt)]
            · rw [slot_put_ne a v hdi]
              exact inv.al.slot t (dsts_erase ht hdi)⟩
          good := fun j hj => inv.good j (List.mem_of_mem_erase hj)
          hC := inv.hC
          cont := inv.cont }
      · -- the next of the chain
        obtain ⟨m, qs, ms, rfl⟩ : ∃ m qs ms, Ms = (m, qs) :: ms := by
          cases Ms with
          | nil => simp [flat] at him
          | cons x ms => obtain ⟨m, qs⟩ := x; exact ⟨m, qs, ms, rfl⟩
        have hmM : m ∈ mids M := by rw [hmids]; simp [mids]
        have hmund : listed.getD m false = false := coming m (by simp [flat])
        have him' : i = m := by
          rcases mem_flat.1 him with h | h
          · simp only [mids, List.map_cons, List.mem_cons] at h
            rcases h with h | h
            · exact h
            · exfalso
              obtain ⟨xs, ys, hxy⟩ := List.append_of_mem h
              have hch := ok.chain
              have e : mids M = (mids Md ++ m :: xs) ++ i :: ys := by rw [hmids]; simp [mids, hxy]
              rw [e] at hch
              have hb := chain_at [] (mids Md ++ m :: xs) ys i hch m (.inr (by simp))
              rw [notdone m hmund] at hb; cases hb
          · exfalso
            simp only [reads, List.flatMap_cons, List.mem_append, List.mem_flatMap] at h
            rcases h with h | ⟨⟨m', qs'⟩, hx, hq⟩
            · have hb := ok.rw m qs (by rw [hM]; simp) i h
              rw [notdone m hmund] at hb; cases hb
            · have hb := ok.rw m' qs' (by rw [hM]; simp [hx]) i hq
              have hm'und : listed.getD m' false = false := coming m' (mem_flat.2 (.inl (List.mem_cons_of_mem _ (List.mem_map_of_mem hx))))
              rw [notdone m' hm'und] at hb; cases hb
        subst him'
        have hiPd : i ∉ Pd := fun h => pdMs i h (by simp [flat])
        obtain ⟨o, ho, hrun⟩ := inv.cont
        have hop := opAt_of ho
        have noclash : ∀ j ∈ H ++ reads M, listed.getD j false = false → ((masks l).getD j 0).testBit i = false → clash l (opAt l j) (opAt l i) = false ∧ clash l (opAt l i) (opAt l j) = false := fun j hj h1 h2 => by
          rcases ok.hm j hj i hmM with h | h | h
          · rw [notdone j h1] at h; cases h
          · rw [h2] at h; cases h
          · exact h
        -- a pending read does not wait for what has not come up
        have pdFree : ∀ j ∈ Pd, ((masks l).getD j 0).testBit i = false := fun j hj => by
          cases e : ((masks l).getD j 0).testBit i with
          | false => rfl
          | true =>
            exfalso
            -- j stands before i in the order, and all that it waits for stands before it
            have key : ∀ (is b : List Nat), topOk l b is = true → j ∈ is → (∀ x ∈ b, ∀ t, ((masks l).getD x 0).testBit t = true → t ∈ b) → (b ++ is).Nodup →
                ∃ xs ys, is = xs ++ j :: ys ∧ ∀ t, ((masks l).getD j 0).testBit t = true → t ∈ b ++ xs := by
              intro is
              induction is with
              | nil => intro b _ h; cases h
              | cons x xs ihx =>
                intro b htop hj hb hnd
                have htop0 := htop
                simp only [topOk, Bool.and_eq_true, List.all_eq_true, List.contains_iff_mem] at htop
                have hx : ∀ t, ((masks l).getD x 0).testBit t = true → t ∈ b := by
                  intro t ht
                  by_cases hxl : x < l.length
                  · obtain ⟨j', hj', h⟩ := masks_bit ok.masks (opAt_some hxl) ht
                    have := htop.1 j' hj'
                    rcases h with rfl | h
                    · exact this
                    · exact hb j' this t h
                  · -- no such operation: no mask
                    have hlen : ∀ (k : List Oper) (acc : List Nat), (masksGo k acc).length = acc.length + k.length := by
                      intro k
                      induction k with
                      | nil => intro acc; rfl
                      | cons y k ihk => intro acc; simp only [masksGo]; rw [ihk]; simp; omega
                    have : (masks l).getD x 0 = 0 := by
                      have h2 : (masks l).length = l.length := by unfold masks; rw [hlen]; simp
                      simp [List.getElem?_eq_none (show (masks l).length ≤ x by omega)]
                    rw [this] at ht; simp at ht
                rcases List.mem_cons.1 hj with rfl | hj'
                · exact ⟨[], xs, rfl, fun t ht => by simpa using hx t ht⟩
                · obtain ⟨us, vs, e1, e2⟩ := ihx (b ++ [x]) htop.2 hj' (fun y hy t ht => by
                    rcases List.mem_append.1 hy with hy | hy
                    · exact List.mem_append_left _ (hb y hy t ht)
                    · rw [List.mem_singleton.1 hy] at ht
                      exact List.mem_append_left _ (hx t ht)) (by simpa using hnd)
                  refine ⟨x :: us, vs, by rw [e1]; rfl, fun t ht => ?_⟩
                  have := e2 t ht
                  simpa using this
            obtain ⟨xs, ys, e1, e2⟩ := key (H ++ flat M) [] ok.top (inAll j (hsub j hj)) (fun x hx => by cases hx) (by simpa using ok.nodup)
            have hi1 : i ∈ xs := by simpa using e2 i e
            -- but j stands before i
            have hjpre : j ∈ H ++ flat Md := by
              rcases List.mem_append.1 (hsub j hj) with h | h
              · exact List.mem_append_left _ h
              · exact List.mem_append_right _ (mem_flat.2 (.inr h))
            have e3 : H ++ flat M = (H ++ flat Md) ++ (i :: (qs ++ flat ms)) := by rw [hflat]; simp [flat]
            obtain ⟨us, vs, e4⟩ := List.append_of_mem hjpre
            have e5 : xs ++ j :: ys = us ++ j :: (vs ++ (i :: (qs ++ flat ms))) := by rw [← e1, e3, e4]; simp
            have hndj : (xs ++ j :: ys).Nodup := by rw [← e1]; exact ok.nodup
            have exs : xs = us := by
              have gen : ∀ (xs us ys zs : List Nat), (xs ++ j :: ys).Nodup → xs ++ j :: ys = us ++ j :: zs → xs = us := by
                intro xs
                induction xs with
                | nil =>
                  intro us ys zs hnd he
                  cases us with
                  | nil => rfl
                  | cons u us =>
                    simp only [List.nil_append, List.cons_append, List.cons.injEq] at he
                    obtain ⟨rfl, he⟩ := he
                    simp only [List.nil_append, List.nodup_cons] at hnd
                    exact absurd (by rw [he]; simp) hnd.1
                | cons x xs ihx =>
                  intro us ys zs hnd he
                  cases us with
                  | nil =>
                    simp only [List.nil_append, List.cons_append, List.cons.injEq] at he
                    obtain ⟨rfl, he⟩ := he
                    simp only [List.cons_append, List.nodup_cons] at hnd
                    exact absurd (by simp) hnd.1
                  | cons u us =>
                    simp only [List.cons_append, List.cons.injEq] at he
                    obtain ⟨rfl, he⟩ := he
                    simp only [List.cons_append, List.nodup_cons] at hnd
                    rw [ihx us ys zs hnd.2 he]
              exact gen xs us ys _ hndj e5
            have hi2 : i ∈ us := exs ▸ hi1
            have hnd2 := ok.nodup
            rw [e3] at hnd2
            exact (List.nodup_append.1 hnd2).2.2 i (by rw [e4]; exact List.mem_append_left _ hi2) i (by simp) rfl
        have hlooks : Looks l.toArray (opAt l i) a aF := by
          refine inv.al.looks fun t ht hm => ?_
          obtain ⟨j, hj, hjd⟩ := List.mem_filterMap.1 hm
          exact (not_clash (noclash j (inR j (hsub j hj)) (pending j hj) (pdFree j hj)).1 hjd).1 ht
        have h1 := wpOp_of_single ho hrun
        rw [hop] at hlooks
        have hsel : ∀ cs c, (opAt l i).op ≠ .select cs c := ok.sel _ (by have := opAt_some hil; simp only [List.getElem?_toArray] at this; exact List.mem_of_getElem? this)
        refine wpOp_looks ho (by rw [← hop]; exact hsel) hlooks h1 fun pre u W' hk => ?_
        obtain ⟨hC', hhead⟩ := hk
        -- the reads behind it
        have hheadR := ok.head
        rw [hreads, ← List.append_assoc] at hheadR
        obtain ⟨_, hOkMs, hcross⟩ := headOk_append _ _ hheadR
        have hqsOk : headOk l qs = true := by
          have e : reads ((i, qs) :: ms) = qs ++ reads ms := by simp [reads]
          rw [e] at hOkMs
          exact (headOk_append _ _ hOkMs).1
        have hqsSel : ∀ q ∈ qs, ∀ cs c, (opAt l q).op ≠ .select cs c := fun q hq => by
          have hql := hall_lt q (msAll q (by simp [flat, hq]))
          have := opAt_some hql
          simp only [List.getElem?_toArray] at this
          exact ok.sel _ (List.mem_of_getElem? this)
        obtain ⟨b, hKb, halb, hgoodb⟩ := headOk_good qs _ _ hqsOk hqsSel (HeadS.ok (strict := fun _ => true) qs _ _ hhead)
        refine ih _ _ b W' (Pd ++ qs) (Md ++ [(i, qs)]) ms (by simp [flat] at hfuel ⊢; omega) {
          hM := by rw [hM]; simp
          hs := hs'
          hd := fun j hj => by
            rw [hseti j]
            have hin : i < n := ok.lt i (msAll i (by simp [flat]))
            have hndM := ok.nodup
            rw [hflat] at hndM
            simp only [flat] at hndM
            have hnd3 := (List.nodup_append.1 (List.nodup_append.1 hndM).2.1).2.1
            rw [List.nodup_cons] at hnd3
            by_cases hij : i = j
            · subst hij
              simp only [decide_true, Bool.true_or, Bool.true_eq_false, false_iff, not_or, List.mem_append]
              exact ⟨⟨hiPd, fun h => hnd3.1 (List.mem_append_left _ h)⟩, fun h => hnd3.1 (List.mem_append_right _ h), by omega⟩
            · simp only [hij, decide_false, Bool.false_or]
              rw [hd j hj]
              simp only [flat, List.mem_cons, List.mem_append]
              constructor
              · rintro (h | (h | h | h) | h)
                · exact .inl (.inl h)
                · exact absurd h.symm hij
                · exact .inl (.inr h)
                · exact .inr (.inl h)
                · exact .inr (.inr h)
              · rintro ((h | h) | h | h)
                · exact .inl h
                · exact .inr (.inl (.inr (.inl h)))
                · exact .inr (.inl (.inr (.inr h)))
                · exact .inr (.inr h)
          down := hdown'
          nd := by
            refine List.nodup_append.2 ⟨inv.nd, ?_, fun x hx y hy e => ?_⟩
            · have hndM := ok.nodup
              rw [hflat] at hndM
              simp only [flat] at hndM
              have h3 := (List.nodup_append.1 (List.nodup_append.1 hndM).2.1).2.1
              rw [List.nodup_cons] at h3
              exact (List.nodup_append.1 h3.2).1
            · subst e; exact pdMs x hx (by simp [flat, hy])
          sub := fun j hj => by
            rcases List.mem_append.1 hj with h | h
            · rcases List.mem_append.1 (hsub j h) with h' | h'
              · exact List.mem_append_left _ h'
              · exact List.mem_append_right _ (by simp only [reads, List.flatMap_append, List.mem_append]; exact .inl h')
            · exact List.mem_append_right _ (by simp [reads, h])
          al := by
            have h2 := inv.al.with_defers (pre ++ aF.defers)
            rw [inv.al.defers]
            have h3 := h2.put_both o.dst u
            refine ⟨h3.defers.trans halb.defers, h3.size.trans halb.size, fun t ht => ?_⟩
            have e : dsts l (Pd ++ qs) = dsts l Pd ++ dsts l qs := by simp [dsts]
            rw [e, List.mem_append, not_or] at ht
            exact (h3.slot t ht.1).trans (halb.slot t ht.2)
          good := fun j hj => by
            rcases List.mem_append.1 hj with h | h
            · have hg : Good P l C (fun _ => true) j { aF with defers := pre ++ aF.defers } := by
                obtain ⟨v, h1, h2⟩ := inv.good j h
                exact ⟨v, h1, fun a' Q' hl => h2 a' Q' ⟨hl.size, hl.slot⟩⟩
              have hg1 := hg.put (noclash j (inR j (hsub j h)) (pending j h) (pdFree j h)).2 u
              rw [hop] at hg1
              -- b differs from there in what the reads of qs write alone
              obtain ⟨v, h1, h2⟩ := hg1
              have hjq : ∀ q ∈ qs, clash l (opAt l q) (opAt l j) = false := fun q hq => hcross j (hsub j h) q (by simp [reads, hq])
              have hnotin : ∀ t, (t ∈ (opAt l j).looksAt l.toArray ∨ (opAt l j).dst = some t) → t ∉ dsts l qs := fun t ht hm => by
                obtain ⟨q, hq, hqd⟩ := List.mem_filterMap.1 hm
                have := not_clash (hjq q hq) hqd
                rcases ht with ht | ht
                · exact this.1 ht
                · exact this.2 ht
              refine ⟨v, fun d hd hlt => ?_, fun a' Q' hl => h2 a' Q' ⟨hl.size.trans halb.size.symm, fun t ht => ?_⟩⟩
              · rw [← halb.slot d (hnotin d (.inr hd))]
                exact h1 d hd (by rw [halb.size]; exact hlt)
              · rw [hl.slot t ht, halb.slot t (hnotin t (.inl ht))]
            · exact hgoodb j h
          hC := hC'
          cont := hKb }
      · exfalso
        have hall := (ok.tail i hit hil).1
        have hne : ∃ j, j ∈ H ++ flat M ∧ listed.getD j false = false := by
          cases hp : Pd with
          | cons x xs => exact ⟨x, inAll x (hsub x (by rw [hp]; simp)), pending x (by rw [hp]; simp)⟩
          | nil =>
            cases hms : Ms with
            | nil => rw [hp, hms] at hfuel; simp [flat] at hfuel
            | cons y ys =>
              obtain ⟨m, qs⟩ := y
              exact ⟨m, msAll m (by rw [hms]; simp [flat]), coming m (by rw [hms]; simp [flat])⟩
        obtain ⟨x, hx, hxu⟩ := hne
        have := hall x (Nat.lt_of_lt_of_le (ok.lt x hx) hit)
        rw [notdone x hxu] at this; cases this

/-- Reads, then a chain that leaves the world in a class in which they read the same, with reads behind its operations; then what ends the region. -/
theorem region3 {l : List Oper} (C : World → Prop) (H : List Nat) (M : List (Nat × List Nat)) (n : Nat) {id : Nat} {a : Act} {w : World} (hm : P.follows .mixedOrders = true)
    (hB : orderOkG l H M n = true) (hC : C w.drew) (h : HeadS P l C H a (fun b => MidG P l C Q n M b w.drew)) : (Code.region id l.toArray true).wp P Q a w := by
  have ok := okG_of hB
  have hsel : ∀ i ∈ H, ∀ cs c, (opAt l i).op ≠ .select cs c := fun i hi => by
    have hlt : i < l.length := Nat.lt_of_lt_of_le (ok.lt i (List.mem_append_left _ hi)) ok.le
    have h0 : l.toArray[i]? = some (opAt l i) := opAt_some hlt
    exact ok.sel _ (List.mem_of_getElem? (by simpa using h0))
  obtain ⟨b, hK, hal, hgood⟩ := headOk_good H a _ (headOk_append _ _ ok.head).1 hsel (HeadS.ok (strict := fun _ => true) H a _ h)
  refine wp_region_any hm ?_
  have hcount : H.length + (flat M).length = n := by
    have h1 : (H ++ flat M).Perm (List.range n) := by
      rw [List.perm_ext_iff_of_nodup ok.nodup List.nodup_range]
      intro i
      rw [List.mem_range]
      exact ⟨ok.lt i, ok.cover i⟩
    have := h1.length_eq
    simpa using this
  have rep : ∀ j, (Array.replicate l.toArray.size false).getD j false = false := fun j => by
    simp only [Array.getD_eq_getD_getElem?, Array.getElem?_replicate]; split <;> rfl
  have := simG (Q := Q) ok (H.length + (flat M).length) (Array.replicate l.toArray.size false) a b w.drew H [] M rfl {
    hM := rfl
    hs := by simp
    hd := fun j hj => by
      simp only [rep j, true_iff]
      by_cases hjn : j < n
      · rcases List.mem_append.1 (ok.cover j hjn) with h | h
        · exact .inl h
        · exact .inr (.inl h)
      · exact .inr (.inr (by omega))
    down := fun j hj => by rw [rep j] at hj; cases hj
    nd := (List.nodup_append.1 ok.nodup).1
    sub := fun j hj => List.mem_append_left _ hj
    al := hal
    good := hgood
    hC := hC
    cont := hK }
  have e : H.length + (flat M).length + (l.length - n) = l.toArray.size := by have := ok.le; simp; omega
  rw [e] at this
  exact this

theorem midG_nil {l : List Oper} {C : World → Prop} {n : Nat} {a : Act} {W : World} (h : wpList P l.toArray Q (l.drop n) a W) : MidG P l C Q n [] a W := h
theorem midG_cons {l : List Oper} {C : World → Prop} {n m : Nat} {qs : List Nat} {ms : List (Nat × List Nat)} {a : Act} {W : World} {o : Oper} (ho : l.toArray[m]? = some o)
    (h : ∀ K : Act → World → Prop, (∀ a' W', C W' → HeadS P l C qs a' (fun b => MidG P l C Q n ms b W') → K a' W') → wpList P l.toArray (Exit.then K Bot) [o] a W) : MidG P l C Q n ((m, qs) :: ms) a W :=
  ⟨o, ho, h _ fun _ _ h1 h2 => ⟨h1, h2⟩⟩

end Go.Fw
end
section
namespace Go.Fw
open Go Go.RowKit

theorem hid {p : Prop} (h : p) : Hid p := h

theorem retI {k : IntKind} {a b : Int} (h : a = b) : Ending.returned (.int k a) = .returned (.int k b) := by rw [h]
theorem retB {a b : Bool} (h : a = b) : Ending.returned (.bool a) = .returned (.bool b) := by rw [h]

/-- No error, or this one. -/
def okE (b : Bool) (e : Int) : Int := match b with | true => 0 | false => e
theorem okE_true (e : Int) : okE true e = 0 := rfl
theorem okE_false (e : Int) : okE false e = e := rfl

/-! ### Blocks -/

/-- Block b holds the row c; none of it is frozen. -/
def Blk (w : World) (b : Nat) (c : Array Value) (t : TypeId) : Prop := w.heap[b]? = some (.cells c t (0, 0))

theorem Blk.lt {w : World} {b : Nat} {c : Array Value} {t : TypeId} (h : Blk w b c t) : b < w.heap.size := (Array.getElem?_eq_some_iff.1 h).1
theorem Blk.cell {w : World} {b : Nat} {c : Array Value} {t : TypeId} (h : Blk w b c t) (o : Nat) : w.cell? ⟨b, o, none⟩ = c[o]? := by
  unfold Blk at h; simp [World.cell?, h]
theorem Blk.frozen {w : World} {b : Nat} {c : Array Value} {t : TypeId} (h : Blk w b c t) (o : Nat) : w.frozen? ⟨b, o, none⟩ = false := by
  unfold Blk at h; simp [World.frozen?, h]
theorem Blk.new (w : World) (c : Array Value) (t : TypeId) : Blk (w.alloc (.cells c t)) w.heap.size c t := heap_alloc_new w _
theorem Blk.alloc {w : World} {b : Nat} {c : Array Value} {t : TypeId} (h : Blk w b c t) (o : Obj) : Blk (w.alloc o) b c t := by
  unfold Blk at *
  rw [Below.heap_alloc _ _ _ (Array.getElem?_eq_some_iff.1 h).1]; exact h
theorem Blk.drew {w : World} {b : Nat} {c : Array Value} {t : TypeId} (h : Blk w b c t) : Blk w.drew b c t := h
theorem Blk.drewN {w : World} {b : Nat} {c : Array Value} {t : TypeId} (h : Blk w b c t) (n : Nat) : Blk (w.drewN n) b c t := h
theorem Blk.set {w : World} {b : Nat} {c : Array Value} {t : TypeId} (h : Blk w b c t) (o : Nat) (v : Value) : Blk (w.setCell ⟨b, o, none⟩ v) b (c.setIfInBounds o v) t := by
  unfold Blk at *
  simp only [World.setCell, Array.getElem?_modify, if_true, h, Option.map_some]
  simp
theorem Blk.set_other {w : World} {b : Nat} {c : Array Value} {t : TypeId} (h : Blk w b c t) {p : Addr} (hp : p.block ≠ b) (v : Value) : Blk (w.setCell p v) b c t := by
  unfold Blk at *
  rw [Below.heap_setCell _ _ _ _ (Ne.symm hp)]; exact h

/-! ### What may have changed -/

/-- From w to w': new blocks; of the old ones those in S alone may have changed. -/
structure Upd (S : Nat → Prop) (w w' : World) : Prop where
  os : w'.os = w.os
  tape : w'.tape = w.tape
  output : w'.output = w.output
  size : w.heap.size ≤ w'.heap.size
  block : ∀ k, k < w.heap.size → ¬ S k → w'.heap[k]? = w.heap[k]?

def Non : Nat → Prop := fun _ => False

theorem Upd.refl (S : Nat → Prop) (w : World) : Upd S w w := ⟨rfl, rfl, rfl, Nat.le_refl _, fun _ _ _ => rfl⟩
theorem Upd.trans {S : Nat → Prop} {a b c : World} (h : Upd S a b) (k : Upd S b c) : Upd S a c :=
  ⟨k.os.trans h.os, k.tape.trans h.tape, k.output.trans h.output, Nat.le_trans h.size k.size, fun i hi hs => (k.block i (Nat.lt_of_lt_of_le hi h.size) hs).trans (h.block i hi hs)⟩
theorem Upd.mono {S S' : Nat → Prop} {w w' : World} (h : Upd S w w') (hS : ∀ k, k < w.heap.size → S k → S' k) : Upd S' w w' :=
  ⟨h.os, h.tape, h.output, h.size, fun i hi hs => h.block i hi fun x => hs (hS i hi x)⟩
theorem Upd.non {S : Nat → Prop} {w w' : World} (h : Upd Non w w') : Upd S w w' := h.mono fun _ _ x => x.elim
theorem Upd.then {S : Nat → Prop} {a b c : World} (h : Upd S a b) (k : Upd Non b c) : Upd S a c := h.trans k.non
theorem Upd.step {S S' : Nat → Prop} {a b c : World} (h : Upd S a b) (k : Upd S' b c) (hS : ∀ k, k < a.heap.size → S' k → S k) : Upd S a c :=
  ⟨k.os.trans h.os, k.tape.trans h.tape, k.output.trans h.output, Nat.le_trans h.size k.size, fun i hi hs => (k.block i (Nat.lt_of_lt_of_le hi h.size) (fun x => hs (hS i hi x))).trans (h.block i hi hs)⟩
theorem Upd.drew {S : Nat → Prop} {w w' : World} (h : Upd S w w') : Upd S w w'.drew := ⟨h.os, h.tape, h.output, h.size, h.block⟩
theorem Upd.drewN {S : Nat → Prop} {w w' : World} (h : Upd S w w') (n : Nat) : Upd S w (w'.drewN n) := ⟨h.os, h.tape, h.output, h.size, h.block⟩
theorem Upd.alloc {S : Nat → Prop} {w w' : World} (h : Upd S w w') (o : Obj) : Upd S w (w'.alloc o) :=
  h.trans ⟨rfl, rfl, rfl, by simp, fun k hk _ => Below.heap_alloc _ _ _ hk⟩
theorem Upd.setCell {S : Nat → Prop} {w w' : World} (h : Upd S w w') {p : Addr} (hp : w.heap.size ≤ p.block ∨ S p.block) (v : Value) : Upd S w (w'.setCell p v) :=
  ⟨h.os, h.tape, h.output, by simpa [World.setCell] using h.size, fun k hk hs => by
    have hne : k ≠ p.block := fun e => by
      rcases hp with hp | hp
      · omega
      · exact hs (e ▸ hp)
    rw [Below.heap_setCell _ _ _ _ hne]
    exact h.block k hk hs⟩
theorem Upd.setCells {S : Nat → Prop} {w : World} (b : Nat) (hp : w.heap.size ≤ b ∨ S b) : ∀ (vs : List Value) (o : Nat) (w' : World), Upd S w w' → Upd S w (w'.setCells b o vs)
  | [], _, _, h => h
  | v :: vs, o, _, h => Upd.setCells b hp vs (o + 1) _ (h.setCell (p := ⟨b, o, none⟩) hp v)
theorem Upd.of_below {w w' : World} (h : Below w.heap.size w w') : Upd Non w w' := ⟨h.os, h.tape, h.output, h.size, fun k hk _ => h.block k hk⟩
theorem Upd.below {w w' : World} (h : Upd Non w w') : Below w.heap.size w w' := ⟨h.os, h.tape, h.output, h.size, fun k hk => h.block k hk fun x => x⟩
theorem Upd.of_grown {w w' : World} {row : Option Nat} (h : w.grownBy w' row) : Upd (fun k => row = some k) w w' :=
  ⟨h.os, h.tape, h.output, h.size, fun k hk hs => h.block k hk fun e => hs e.symm⟩
theorem Upd.heap {S : Nat → Prop} {w w' : World} (h : Upd S w w') {b : Nat} {o : Obj} (hb : w.heap[b]? = some o) (hs : ¬ S b) : w'.heap[b]? = some o := by
  rw [h.block b (Array.getElem?_eq_some_iff.1 hb).1 hs]; exact hb
theorem Upd.blk {S : Nat → Prop} {w w' : World} (h : Upd S w w') {b : Nat} {c : Array Value} {t : TypeId} (hb : Blk w b c t) (hs : ¬ S b) : Blk w' b c t := h.heap hb hs
theorem Upd.cell {S : Nat → Prop} {w w' : World} (h : Upd S w w') {a : Addr} {v : Value} (hc : w.cell? a = some v) (hs : ¬ S a.block) : w'.cell? a = some v := by
  rw [World.cell?_of_block (h.block a.block (World.block_lt_of_cell? w a hc) hs)]; exact hc
theorem Upd.lt {S : Nat → Prop} {w w' : World} (h : Upd S w w') {b : Nat} (hb : b < w.heap.size) : b < w'.heap.size := Nat.lt_of_lt_of_le hb h.size

/-- What the walk needs of a contract's world, as facts that rewrite. -/
theorem Upd.keep {w w' : World} (h : Upd Non w w') : (∀ b o, b < w.heap.size → w'.cell? ⟨b, o, none⟩ = w.cell? ⟨b, o, none⟩) ∧
    (∀ b o, b < w.heap.size → w'.frozen? ⟨b, o, none⟩ = w.frozen? ⟨b, o, none⟩) ∧ (∀ b, b < w.heap.size → b < w'.heap.size) := by
  refine ⟨fun b o hb => ?_, fun b o hb => ?_, fun b hb => h.lt hb⟩
  · exact World.cell?_of_block (h.block b hb fun x => x)
  · simp only [World.frozen?, h.block b hb fun x => x]
theorem Upd.keepS {S : Nat → Prop} {w w' : World} (h : Upd S w w') : (∀ b o, b < w.heap.size → ¬ S b → w'.cell? ⟨b, o, none⟩ = w.cell? ⟨b, o, none⟩) ∧
    (∀ b o, b < w.heap.size → ¬ S b → w'.frozen? ⟨b, o, none⟩ = w.frozen? ⟨b, o, none⟩) ∧ (∀ b, b < w.heap.size → b < w'.heap.size) := by
  refine ⟨fun b o hb hs => ?_, fun b o hb hs => ?_, fun b hb => h.lt hb⟩
  · exact World.cell?_of_block (h.block b hb hs)
  · simp only [World.frozen?, h.block b hb hs]

/-! ### A string gone through by runes, in whatever world -/

theorem next_ascii {P : Program} {w : World} {b : Nat} {s : ByteArray} {pos : Nat} (hb : w.heap[b]? = some (.stringIter s pos)) (h : pos < s.size) (ha : (s[pos]'h).toNat < 128) :
    ∃ w', (∀ ty, (Instr.next (.pointer (some ⟨b, 0, none⟩)) true ty).run P w = .ok (.tuple #[.bool true, .int .i64 pos, .int .i32 (s[pos]'h).toNat]) w') ∧
      w'.heap[b]? = some (.stringIter s (pos + 1)) ∧ w'.heap.size = w.heap.size ∧ Upd (fun k => k = b) w w' := by
  have hlt : b < w.heap.size := (Array.getElem?_eq_some_iff.1 hb).1
  refine ⟨{ w with heap := w.heap.setIfInBounds b (.stringIter s (pos + 1)) }, fun ty => ?_, ?_, by simp, ⟨rfl, rfl, rfl, by simp, fun k hk hs => ?_⟩⟩
  · simp only [Instr.next, getObj, setObj, Sem.run_bind, Sem.run, hb, Result.andThen, h, if_true, decode_ascii s pos h ha]
    simp [goInt]
  · simp [hlt]
  · simp only; rw [Array.getElem?_setIfInBounds_ne (Ne.symm hs)]

theorem next_end {P : Program} {w : World} {b : Nat} {s : ByteArray} {pos : Nat} (hb : w.heap[b]? = some (.stringIter s pos)) (h : ¬ pos < s.size) (ty : TypeId) :
    (Instr.next (.pointer (some ⟨b, 0, none⟩)) true ty).run P w = .ok (.tuple #[.bool false]) w := by
  simp [Instr.next, getObj, Sem.run, hb, h]

theorem Blk.cast {w : World} {b : Nat} {c c' : Array Value} {t : TypeId} (h : Blk w b c t) (e : c = c') : Blk w b c' t := e ▸ h
theorem iterPos_eq {w : World} {k : Nat} {s : ByteArray} {p : Nat} (h : w.heap[k]? = some (.stringIter s p)) : w.iterPos k = p := by simp [World.iterPos, h]
theorem heap_setCell_ne {w : World} {p : Addr} {v : Value} {k : Nat} {o : Obj} (h : w.heap[k]? = some o) (hne : k ≠ p.block) : (w.setCell p v).heap[k]? = some o := by
  rw [Below.heap_setCell _ _ _ _ hne]; exact h

end Go.Fw
end
section
namespace Go.Fw
open Go Go.RowKit

/-! ### A row in a block, written in part -/

def splice (l : List Value) (o : Nat) (vs : List Value) : List Value := l.take o ++ vs ++ l.drop (o + vs.length)

theorem splice_length (l : List Value) (o : Nat) (vs : List Value) (h : o + vs.length ≤ l.length) : (splice l o vs).length = l.length := by
  simp [splice]; omega

theorem splice_cons (l : List Value) (o : Nat) (v : Value) (vs : List Value) (h : o + (vs.length + 1) ≤ l.length) : splice (l.set o v) (o + 1) vs = splice l o (v :: vs) := by
  unfold splice
  have h1 : (l.set o v).take (o + 1) = l.take o ++ [v] := by
    rw [List.take_set, List.take_succ_eq_append_getElem (by omega), List.set_append_right _ _ (by rw [List.length_take]; omega)]
    have e0 : min o l.length = o := by omega
    simp only [List.length_take, e0, Nat.sub_self, List.set_cons_zero]
  have h2 : (l.set o v).drop (o + 1 + vs.length) = l.drop (o + (vs.length + 1)) := by
    rw [List.drop_set_of_lt (by omega), show o + 1 + vs.length = o + (vs.length + 1) by omega]
  rw [h1, h2]; simp

theorem Blk.setCells {b : Nat} {t : TypeId} : ∀ (vs : List Value) (o : Nat) (w : World) (c : Array Value), Blk w b c t → o + vs.length ≤ c.size →
    Blk (w.setCells b o vs) b (splice c.toList o vs).toArray t
  | [], o, w, c, h, _ => by simpa [World.setCells, splice] using h
  | v :: vs, o, w, c, h, hle => by
    have h1 := Blk.setCells vs (o + 1) (w.setCell ⟨b, o, none⟩ v) (c.setIfInBounds o v) (h.set o v) (by simp at hle ⊢; omega)
    rw [World.setCells]
    have e : splice (c.setIfInBounds o v).toList (o + 1) vs = splice c.toList o (v :: vs) := by
      rw [Array.toList_setIfInBounds]
      exact splice_cons _ _ _ _ (by simpa using hle)
    rw [e] at h1; exact h1

theorem Blk.setCells_other {b b' : Nat} {t : TypeId} (hne : b ≠ b') : ∀ (vs : List Value) (o : Nat) (w : World) (c : Array Value), Blk w b' c t → Blk (w.setCells b o vs) b' c t
  | [], _, _, _, h => h
  | v :: vs, o, _, c, h => Blk.setCells_other hne vs (o + 1) _ c (h.set_other (p := ⟨b, o, none⟩) hne v)

/-! ### Slices -/

/-- v is a slice of n elements of k cells each; cs: their cells one after the other; ob: the block of its array, if it has one. -/
def Slc (w : World) (t : TypeId) (k : Nat) (v : Value) (cs : List Value) (n : Nat) (ob : Option Nat) : Prop :=
  cs.length = n * k ∧
  ((v = .slice none 0 0 ∧ n = 0 ∧ ob = none) ∨
   ∃ b off cap arr, v = .slice (some ⟨b, off, none⟩) n cap ∧ ob = some b ∧ Blk w b arr t ∧ n ≤ cap ∧ cap ≤ maxLen ∧ off + cap * k ≤ arr.size ∧ (arr.toList.drop off).take (n * k) = cs)

theorem Slc.nil (w : World) (t : TypeId) (k : Nat) : Slc w t k (.slice none 0 0) [] 0 none := ⟨by simp, .inl ⟨rfl, rfl, rfl⟩⟩

theorem Slc.lt {w : World} {t : TypeId} {k : Nat} {v : Value} {cs : List Value} {n b : Nat} (h : Slc w t k v cs n (some b)) : b < w.heap.size := by
  obtain ⟨_, ⟨_, _, h⟩ | ⟨b', off, cap, arr, _, e, hb, _⟩⟩ := h
  · cases h
  · cases e; exact hb.lt

theorem Slc.upd {w w' : World} {S : Nat → Prop} {t : TypeId} {k : Nat} {v : Value} {cs : List Value} {n : Nat} {ob : Option Nat} (h : Slc w t k v cs n ob) (hu : Upd S w w')
    (hs : ∀ b, ob = some b → ¬ S b) : Slc w' t k v cs n ob := by
  obtain ⟨hl, h | ⟨b, off, cap, arr, hv, e, hb, h1, h2, h3, h4⟩⟩ := h
  · exact ⟨hl, .inl h⟩
  · exact ⟨hl, .inr ⟨b, off, cap, arr, hv, e, hu.blk hb (hs b e), h1, h2, h3, h4⟩⟩

theorem Slc.drewN {w : World} {t : TypeId} {k : Nat} {v : Value} {cs : List Value} {n : Nat} {ob : Option Nat} (h : Slc w t k v cs n ob) (m : Nat) : Slc (w.drewN m) t k v cs n ob :=
  h.upd ((Upd.refl Non w).drewN m) fun _ _ x => x

theorem Slc.form {w : World} {t : TypeId} {k : Nat} {v : Value} {cs : List Value} {n : Nat} {ob : Option Nat} (h : Slc w t k v cs n ob) (hn : 0 < n) :
    ∃ b off cap, v = .slice (some ⟨b, off, none⟩) n cap ∧ ob = some b ∧ n ≤ cap ∧ cap ≤ maxLen ∧ b < w.heap.size ∧
      ∀ i j, i < n → j < k → w.cell? ⟨b, off + i * k + j, none⟩ = cs[i * k + j]? := by
  obtain ⟨hl, ⟨_, h, _⟩ | ⟨b, off, cap, arr, hv, e, hb, h1, h2, h3, h4⟩⟩ := h
  · omega
  · refine ⟨b, off, cap, hv, e, h1, h2, hb.lt, fun i j hi hj => ?_⟩
    have hij : i * k + j < n * k := by
      have : (i + 1) * k ≤ n * k := Nat.mul_le_mul_right k hi
      rw [Nat.add_mul] at this; omega
    rw [hb.cell, ← h4, List.getElem?_take_of_lt hij, List.getElem?_drop]
    simp [Nat.add_assoc]

theorem Slc.val {w : World} {t : TypeId} {k : Nat} {v : Value} {cs : List Value} {n : Nat} {ob : Option Nat} (h : Slc w t k v cs n ob) :
    ∃ a cap, v = .slice a n cap ∧ n ≤ cap ∧ cap ≤ maxLen ∧ (ob = none → a = none ∧ n = 0 ∧ cap = 0) := by
  obtain ⟨hl, ⟨hv, h, e⟩ | ⟨b, off, cap, arr, hv, e, hb, h1, h2, h3, h4⟩⟩ := h
  · subst h; exact ⟨none, 0, hv, Nat.le_refl _, Nat.zero_le _, fun _ => ⟨rfl, rfl, rfl⟩⟩
  · exact ⟨_, cap, hv, h1, h2, fun e' => by rw [e] at e'; cases e'⟩

/-- A slice whose array is a block of its own, as 'buildSlice' makes it. -/
theorem Slc.of_blk {w : World} {t : TypeId} {k b : Nat} {arr : Array Value} {n : Nat} (h : Blk w b arr t) (hs : arr.size = n * k) (hm : n ≤ maxLen) :
    Slc w t k (.slice (some ⟨b, 0, none⟩) n n) arr.toList n (some b) :=
  ⟨by simpa using hs, .inr ⟨b, 0, n, arr, rfl, rfl, h, Nat.le_refl _, hm, by omega, by rw [← hs, List.drop_zero, ← Array.length_toList, List.take_length]⟩⟩

theorem Slc.of_owns {w : World} {base : Nat} {e : TypeId} {k : Nat} {v : Value} {n : Nat} {xs : List Value} (h : w.ownsRow base e k v n xs) :
    ∃ ob, Slc w e k v xs n ob ∧ ∀ b, ob = some b → base ≤ b := by
  obtain ⟨hl, ⟨rfl, rfl⟩ | ⟨g, cap, cur, rfl, hb, hg, h1, h2, h3, h4⟩⟩ := h
  · exact ⟨none, ⟨hl, .inl ⟨rfl, rfl, rfl⟩⟩, fun b e => by cases e⟩
  · exact ⟨some g, ⟨hl, .inr ⟨g, 0, cap, cur, rfl, rfl, hg, h1, h2, by omega, by simpa using h4⟩⟩, fun b e => by cases e; exact hb⟩

section
variable {P : Program}

/-- append, of the elements of a slice, whether there is room or not. -/
theorem run_append_slc {w : World} (t ty e : TypeId) (i : TypeInfo) (z : Value) (k bytes : Nat) (ht : P.underlying t = some (.slice e)) (hi : P.info? e = some i) (hz : i.zero = some z)
    (hsize : i.size = k) (hby : i.bytes = bytes) (hzs : z.cells.size = k) (hk : 0 < k)
    {v : Value} {cs : List Value} {n : Nat} {ob : Option Nat} (h : Slc w e k v cs n ob) {x : Value} {news : List Value} {m : Nat} {ox : Option Nat} (hx : Slc w e k x news m ox)
    (h1 : ∀ u ∈ news, u.oneCell' = true) (hm : n + m ≤ maxLen) (hb : (n + m) * bytes ≤ 140737488355328) :
    ∃ v' w' ob', (Builtin.append_ #[t, t] ty #[v, x]).run P w = .ok v' w' ∧ Slc w' e k v' (cs ++ news) (n + m) ob' ∧ Upd (fun b => ob = some b) w w' ∧
      (∀ b, ob' = some b → ob = some b ∨ w.heap.size ≤ b) := by
  obtain ⟨hl, hv⟩ := h
  obtain ⟨hlx, hvx⟩ := hx
  rcases hvx with ⟨rfl, rfl, rfl⟩ | ⟨bx, offx, capx, arrx, rfl, rfl, hbx, hnx, hmx, hsx, htx⟩
  · -- nothing is appended
    have hnews : news = [] := List.eq_nil_of_length_eq_zero (by simpa using hlx)
    subst hnews
    rcases hv with ⟨rfl, rfl, rfl⟩ | ⟨b, off, cap, arr, rfl, rfl, hbk, h2, h3, h4, h5⟩
    · refine ⟨.slice none 0 0, w, none, ?_, ⟨by simpa using hl, .inl ⟨rfl, rfl, rfl⟩⟩, Upd.refl _ _, fun b e => by cases e⟩
      simp [Builtin.append_, run_underlying ht, sizeOf, typeInfo, hi, Builtin.lenOf, Builtin.firstCells]
    · refine ⟨.slice (some ⟨b, off, none⟩) n cap, w, some b, ?_, ⟨by simpa using hl, .inr ⟨b, off, cap, arr, rfl, rfl, hbk, h2, h3, h4, by simpa using h5⟩⟩, Upd.refl _ _, fun b e => .inl e⟩
      simp [Builtin.append_, run_underlying ht, sizeOf, typeInfo, hi, Builtin.lenOf, Builtin.firstCells, h2, storeCells]
  · have hnews : ∀ j u, news[j]? = some u → w.cell? ((⟨bx, offx, none⟩ : Addr).add j) = some u := fun j u hj => by
      have hjl : j < m * k := by rw [← hlx]; exact (List.getElem?_eq_some_iff.1 hj).1
      rw [Addr.add_lit, hbx.cell]
      rw [← htx, List.getElem?_take_of_lt hjl, List.getElem?_drop] at hj
      simpa using hj
    by_cases hroom : ∃ b off cap arr, v = .slice (some ⟨b, off, none⟩) n cap ∧ ob = some b ∧ Blk w b arr e ∧ n + m ≤ cap ∧ cap ≤ maxLen ∧ off + cap * k ≤ arr.size ∧ (arr.toList.drop off).take (n * k) = cs
    · obtain ⟨b, off, cap, arr, rfl, rfl, hbk, h2, h3, h4, h5⟩ := hroom
      have hfit : off + n * k + news.length ≤ arr.size := by
        rw [hlx]
        have : (n + m) * k ≤ cap * k := Nat.mul_le_mul_right k h2
        rw [Nat.add_mul] at this; omega
      have hr := run_append_room_cells (P := P) w t ty e i ht hi b off n cap ⟨bx, offx, none⟩ m capx news (by rw [hsize]; exact hlx) hnews h1 h2
        (fun j hj => by rw [hbk.cell, hsize, Option.isSome_iff_exists]; exact ⟨_, Array.getElem?_eq_getElem (by omega)⟩) (fun j hj => hbk.frozen _)
      rw [hsize] at hr
      have hbk' := Blk.setCells news (off + n * k) w arr hbk hfit
      refine ⟨_, _, some b, hr, ⟨by simp [hl, hlx, Nat.add_mul], .inr ⟨b, off, cap, _, rfl, rfl, hbk', h2, h3, ?_, ?_⟩⟩, Upd.setCells (S := fun x => some b = some x) b (.inr rfl) _ _ _ (Upd.refl _ _), fun b' e' => .inl e'⟩
      · have := splice_length arr.toList (off + n * k) news (by simpa using hfit)
        simp only [List.size_toArray, this, Array.length_toList]; exact h4
      · simp only [splice]
        have hl1 : (arr.toList.take (off + n * k)).length = off + n * k := by simp; omega
        rw [List.append_assoc, List.drop_append_of_le_length (by omega), List.take_append]
        have hA : (arr.toList.take (off + n * k)).drop off = cs := by
          rw [← h5, List.drop_take, show off + n * k - off = n * k by omega]
        rw [hA, hl]
        have hB : (n + m) * k - n * k = news.length := by rw [hlx, Nat.add_mul]; omega
        rw [hB, List.take_append_of_le_length (Nat.le_refl _), List.take_length, List.take_of_length_le (by rw [hl, Nat.add_mul]; omega)]
    · -- a new array
      have hgrow : ∃ v' w', (Builtin.append_ #[t, t] ty #[v, .slice (some ⟨bx, offx, none⟩) m capx]).run P w = .ok v' w' ∧ w'.ownsRow w.heap.size e k v' (n + m) (cs ++ news) ∧ w.grownBy w' none ∨ False := by
        rcases hv with ⟨rfl, rfl, rfl⟩ | ⟨b, off, cap, arr, rfl, rfl, hbk, h2, h3, h4, h5⟩
        · have hcs : cs = [] := List.eq_nil_of_length_eq_zero (by simpa using hl)
          subst hcs
          obtain ⟨v', w', hr, ho, hg, _⟩ := run_append_own (P := P) w w.heap.size t ty e i z k bytes ht hi hz hsize hby hzs hk (.slice none 0 0) 0 [] (World.ownsRow_nil _ _ _ _) ⟨bx, offx, none⟩ m capx news hlx hnews h1 (by simpa using hm) (by simpa using hb) (Nat.le_refl _)
          exact ⟨v', w', .inl ⟨hr, ho, hg⟩⟩
        · have hc : cap < n + m := by
            rcases Nat.lt_or_ge cap (n + m) with h | h
            · exact h
            · exact absurd ⟨b, off, cap, arr, rfl, rfl, hbk, h, h3, h4, h5⟩ hroom
          obtain ⟨v', w', hr, ho, hg⟩ := run_append_arg_grows (P := P) w t ty e i z k bytes ht hi hz hsize hby hzs hk ⟨b, off, none⟩ n cap cs hl (fun j u hj => by
            have hjl : j < n * k := by rw [← hl]; exact (List.getElem?_eq_some_iff.1 hj).1
            rw [Addr.add_lit, hbk.cell]
            rw [← h5, List.getElem?_take_of_lt hjl, List.getElem?_drop] at hj
            simpa using hj) ⟨bx, offx, none⟩ m capx news hlx hnews hc hm hb
          exact ⟨v', w', .inl ⟨hr, ho, hg⟩⟩
      obtain ⟨v', w', ⟨hr, ho, hg⟩ | hf⟩ := hgrow
      · obtain ⟨ob', hs, hbase⟩ := Slc.of_owns ho
        exact ⟨v', w', ob', hr, hs, (Upd.of_grown hg).mono (fun b _ e => by cases e), fun b e => Or.inr (hbase b e)⟩
      · exact hf.elim

/-- The same for the walk. -/
theorem wpList_append_slc {w : World} {ops : Array Oper} {rest : List Oper} {o : Oper} {a : Act} {Q : Exit → Act → World → Prop} (hg : o.guard = none) (s x : Operand) (t : TypeId)
    (hop : o.op = Op.call { callee := Callee.builtin Builtin.append, args := #[s, x], argTypes := #[t, t] })
    (e : TypeId) (i : TypeInfo) (z : Value) (k bytes : Nat) (ht : P.underlying t = some (.slice e)) (hi : P.info? e = some i) (hz : i.zero = some z)
    (hsize : i.size = k) (hby : i.bytes = bytes) (hzs : z.cells.size = k) (hk : 0 < k)
    {cs : List Value} {n : Nat} {ob : Option Nat} (h : Slc w e k (a.eval s) cs n ob) {news : List Value} {m : Nat} {ox : Option Nat} (hx : Slc w e k (a.eval x) news m ox)
    (h1 : ∀ u ∈ news, u.oneCell' = true) (hm : n + m ≤ maxLen) (hb : (n + m) * bytes ≤ 140737488355328)
    (hgo : ∀ v' w' ob', Slc w' e k v' (cs ++ news) (n + m) ob' → Upd (fun b => ob = some b) w w' → (∀ b, ob' = some b → ob = some b ∨ w.heap.size ≤ b) → wpList P ops Q rest (a.put o.dst v') w') :
    wpList P ops Q (o :: rest) a w := by
  obtain ⟨v', w', ob', hrun, r1, r2, r3⟩ := run_append_slc (P := P) t o.type e i z k bytes ht hi hz hsize hby hzs hk h hx h1 hm hb
  refine wpList_plain hg fun K hK' => ?_
  unfold Oper.wp
  simp [execOp, hop, resolve, invoke, builtin, hrun, Result.andThen]
  exact hK' _ _ (hgo v' w' ob' r1 r2 r3)
end


/-- A slice type and its elements. -/
structure El (P : Program) (t e : TypeId) (k bytes : Nat) : Prop where
  und : P.underlying t = some (.slice e)
  info : ∃ i z, P.info? e = some i ∧ i.zero = some z ∧ i.size = k ∧ i.bytes = bytes ∧ z.cells.size = k
  pos : 0 < k

theorem El.of {P : Program} {t e : TypeId} {k bytes : Nat} (h : P.underlying t = some (.slice e)) (h2 : (P.info? e).map (fun i => (i.size, i.bytes, i.zero.map (·.cells.size))) = some (k, bytes, some k)) (hk : 0 < k) :
    El P t e k bytes := by
  refine ⟨h, ?_, hk⟩
  cases hi : P.info? e with
  | none => rw [hi] at h2; cases h2
  | some i =>
    rw [hi] at h2
    simp only [Option.map_some, Option.some.injEq, Prod.mk.injEq] at h2
    obtain ⟨h3, h4, h5⟩ := h2
    cases hz : i.zero with
    | none => rw [hz] at h5; cases h5
    | some z =>
      rw [hz] at h5
      simp only [Option.map_some, Option.some.injEq] at h5
      exact ⟨i, z, rfl, hz, h3, h4, h5⟩

theorem wpList_append {P : Program} {t e : TypeId} {k bytes : Nat} (E : El P t e k bytes) {w : World} {ops : Array Oper} {rest : List Oper} {o : Oper} {a : Act} {Q : Exit → Act → World → Prop} (hg : o.guard = none) (s x : Operand)
    (hop : o.op = Op.call { callee := Callee.builtin Builtin.append, args := #[s, x], argTypes := #[t, t] })
    {v1 v2 : Value} (hv1 : a.eval s = v1) (hv2 : a.eval x = v2)
    {cs : List Value} {n : Nat} {ob : Option Nat} (h : Slc w e k v1 cs n ob) {news : List Value} {m : Nat} {ox : Option Nat} (hx : Slc w e k v2 news m ox)
    (h1 : ∀ u ∈ news, u.oneCell' = true) (hm : n + m ≤ maxLen) (hb : (n + m) * bytes ≤ 140737488355328)
    (hgo : ∀ v' w' ob', Slc w' e k v' (cs ++ news) (n + m) ob' → Upd (fun b => ob = some b) w w' → (∀ b, ob' = some b → ob = some b ∨ w.heap.size ≤ b) → wpList P ops Q rest (a.put o.dst v') w') :
    wpList P ops Q (o :: rest) a w := by
  obtain ⟨hu, ⟨i, z, hi, hz, h2, h3, h4⟩, hk⟩ := E
  subst hv1; subst hv2
  exact wpList_append_slc hg s x t hop e i z k bytes hu hi hz h2 h3 h4 hk h hx h1 hm hb hgo

end Go.Fw
end
section
namespace Go.Fw
open Go Go.RowKit

/-! ### Structs in a block, loaded and stored whole -/
/-- A struct type of n cells. -/
structure Ag (P : Program) (ty : TypeId) (n : Nat) : Prop where
  und : ∃ fs, P.underlying ty = some (.struct fs)
  size : (P.info? ty).map (·.size) = some n

theorem Ag.of {P : Program} {ty : TypeId} {n : Nat} (h : (match P.underlying ty with | some (.struct _) => true | _ => false) = true) (hs : (P.info? ty).map (·.size) = some n) : Ag P ty n := by
  refine ⟨?_, hs⟩
  cases hu : P.underlying ty with
  | none => rw [hu] at h; cases h
  | some d => rw [hu] at h; cases d <;> first | exact ⟨_, rfl⟩ | cases h

/-- The cells of a part of a block. -/
def part (c : Array Value) (o n : Nat) : Array Value := ((c.toList.drop o).take n).toArray
theorem part_size {c : Array Value} {o n : Nat} (h : o + n ≤ c.size) : (part c o n).size = n := by simp [part]; omega
theorem part_get {c : Array Value} {o n i : Nat} (hi : i < n) : (part c o n)[i]? = c[o + i]? := by
  simp [part, hi]
theorem part_all (c : Array Value) : part c 0 c.size = c := by
  have : c.toList.take c.size = c.toList := List.take_of_length_le (by simp)
  simp [part, this]

section
variable {P : Program}

theorem run_load_agg {ty : TypeId} {n : Nat} (A : Ag P ty n) {w : World} {b o : Nat} {c : Array Value} {t : TypeId} (hb : Blk w b c t) (hs : o + n ≤ c.size) :
    (loadVar ty ⟨b, o, none⟩).run P w = .ok (.agg (part c o n)) w := by
  obtain ⟨⟨fs, hu⟩, hi⟩ := A
  have hlen : ((c.toList.drop o).take n).length = n := by simp; omega
  have hl : (loadCells ⟨b, o, none⟩ ((c.toList.drop o).take n).length).run P w = .ok ((c.toList.drop o).take n).toArray w :=
    run_loadCells_list (P := P) w ⟨b, o, none⟩ _ (fun j v hv => by
      rw [Addr.add_lit, hb.cell]
      have hj : j < n := by
        have := (List.getElem?_eq_some_iff.1 hv).1
        omega
      rw [List.getElem?_take_of_lt hj, List.getElem?_drop] at hv
      simpa using hv)
  rw [hlen] at hl
  cases hq : P.info? ty with
  | none => simp [hq] at hi
  | some i =>
    have hsz : i.size = n := by simpa [hq] using hi
    have hagg : (isAgg ty).run P w = .ok true w := by
      unfold isAgg
      rw [Sem.run_bind, run_underlying hu w]
      simp
    simp [loadVar, Sem.run_bind, hagg, sizeOf, typeInfo, hq, hsz, hl, part]

theorem wpList_load_agg {ty : TypeId} {n : Nat} (A : Ag P ty n) {ops : Array Oper} {rest : List Oper} {op : Oper} {a : Act} {w : World} {Q : Exit → Act → World → Prop} (hgd : op.guard = none) (x : Operand) (ho : op.op = .load ty x)
    {b o : Nat} (hx : a.eval x = .pointer (some ⟨b, o, none⟩)) {c : Array Value} {t : TypeId} (hb : Blk w b c t) (hs : o + n ≤ c.size)
    (h : wpList P ops Q rest (a.put op.dst (.agg (part c o n))) w) : wpList P ops Q (op :: rest) a w := by
  refine wpList_plain hgd fun K hK => ?_
  unfold Oper.wp execOp
  simp only [ho, hx, Instr.loadAt, Instr.sureAddr, Sem.run_bind, Sem.run_pure, Result.andThen_ok, run_load_agg A hb hs]
  exact hK _ _ h

theorem run_store_agg {ty : TypeId} {n : Nat} (A : Ag P ty n) {w : World} {b o : Nat} {c cs : Array Value} {t : TypeId} (hb : Blk w b c t) (hn : cs.size = n) (hs : o + n ≤ c.size) (h1 : ∀ v ∈ cs.toList, v.oneCell' = true) :
    (storeVar ty ⟨b, o, none⟩ (.agg cs)).run P w = .ok () (w.setCells b o cs.toList) := by
  obtain ⟨_, hi⟩ := A
  have hlen : cs.toList.length = n := by simpa using hn
  have hst := run_storeCells_cells (P := P) b o cs.toList 0 w (fun j hj => by
    rw [hb.cell, Nat.add_zero, Option.isSome_iff_exists]
    exact ⟨_, Array.getElem?_eq_getElem (by omega)⟩) (fun j hj => hb.frozen _) h1
  cases hq : P.info? ty with
  | none => simp [hq] at hi
  | some i =>
    have hsz : cs.size = i.size := by rw [hq] at hi; simp at hi; omega
    simp [storeVar, sizeOf, typeInfo, hq, Value.cells, hsz, hst]

theorem wpList_store_agg {ty : TypeId} {n : Nat} (A : Ag P ty n) {ops : Array Oper} {rest : List Oper} {op : Oper} {a : Act} {w : World} {Q : Exit → Act → World → Prop} (hgd : op.guard = none) (x y : Operand) (ho : op.op = .store ty x y)
    {b o : Nat} (hx : a.eval x = .pointer (some ⟨b, o, none⟩)) {cs : Array Value} (hy : a.eval y = .agg cs) {c : Array Value} {t : TypeId} (hb : Blk w b c t) (hn : cs.size = n) (hs : o + n ≤ c.size) (h1 : ∀ v ∈ cs.toList, v.oneCell' = true)
    (h : ∀ w', Blk w' b (splice c.toList o cs.toList).toArray t → Upd (fun x => x = b) w w' → wpList P ops Q rest (a.put op.dst undef) w') : wpList P ops Q (op :: rest) a w := by
  refine wpList_plain hgd fun K hK => ?_
  unfold Oper.wp execOp
  simp only [ho, hx, hy, Instr.storeAt, Instr.sureAddr, Sem.run_bind, Sem.run_pure, Result.andThen_ok, run_store_agg A hb hn hs h1]
  exact hK _ _ (h _ (Blk.setCells cs.toList o w c hb (by simp; omega)) (Upd.setCells (S := fun x => x = b) b (.inr rfl) _ _ _ (Upd.refl _ _)))
end
end Go.Fw
end
section
namespace Go.Fw
open Go Go.RowKit

/-! ### Assertions: what holds of some blocks of a world -/

structure As where
  on : World → (Nat → Prop) → Prop
  lt : ∀ {w : World} {F : Nat → Prop} {k : Nat}, on w F → F k → k < w.heap.size
  ext : ∀ {w w' : World} {F : Nat → Prop}, on w F → (∀ k, F k → w'.heap[k]? = w.heap[k]?) → on w' F

def Sts : List As → World → (Nat → Prop) → Prop
  | [], _, _ => True
  | A :: L, w, F => ∃ G, A.on w G ∧ (∀ k, G k → F k) ∧ Sts L w fun k => F k ∧ ¬ G k

theorem Sts.mono : ∀ {L : List As} {w : World} {F F' : Nat → Prop}, Sts L w F → (∀ k, F k → F' k) → Sts L w F'
  | [], _, _, _, _, _ => trivial
  | _ :: _, _, _, _, ⟨G, a, b, c⟩, h => ⟨G, a, fun k hk => h k (b k hk), c.mono fun k hk => ⟨h k hk.1, hk.2⟩⟩

theorem Sts.ext : ∀ {L : List As} {w w' : World} {F : Nat → Prop}, Sts L w F → (∀ k, k < w.heap.size → F k → w'.heap[k]? = w.heap[k]?) → Sts L w' F
  | [], _, _, _, _, _ => trivial
  | A :: _, _, _, _, ⟨G, a, b, c⟩, h => ⟨G, A.ext a fun k hk => h k (A.lt a hk) (b k hk), b, c.ext fun k hk hf => h k hk hf.1⟩

theorem Sts.bounded {w : World} : ∀ {L : List As} {E : Nat → Prop}, Sts L w E → Sts L w fun k => E k ∧ k < w.heap.size
  | [], _, _ => trivial
  | A :: _, _, ⟨G, a, b, c⟩ => ⟨G, a, fun k hk => ⟨b k hk, A.lt a hk⟩, c.bounded.mono fun k hk => ⟨⟨hk.1.1, hk.2⟩, hk.1.2⟩⟩

theorem Sts.swap {A B : As} {L : List As} {w : World} {F : Nat → Prop} : Sts (A :: B :: L) w F → Sts (B :: A :: L) w F
  | ⟨G, a, b, G2, c, d, e⟩ => ⟨G2, c, fun k hk => (d k hk).1, G, a, fun k hk => ⟨b k hk, fun h2 => (d k h2).2 hk⟩, e.mono fun _ hk => ⟨⟨hk.1.1, hk.2⟩, hk.1.2⟩⟩

theorem Sts.cons_mono {A : As} {L L' : List As} {w : World} (h : ∀ F, Sts L w F → Sts L' w F) {F : Nat → Prop} : Sts (A :: L) w F → Sts (A :: L') w F
  | ⟨G, a, b, c⟩ => ⟨G, a, b, h _ c⟩

theorem Sts.perm {L L' : List As} (h : L.Perm L') {w : World} : ∀ {F : Nat → Prop}, Sts L w F → Sts L' w F := by
  induction h with
  | nil => exact id
  | cons x _ ih => intro F; exact Sts.cons_mono fun F => ih
  | swap x y l => intro F; exact Sts.swap
  | trans _ _ h1 h2 => intro F h; exact h2 (h1 h)

theorem Sts.append : ∀ {L L' : List As} {w : World} {F : Nat → Prop}, Sts (L ++ L') w F ↔ ∃ G, (∀ k, G k → F k) ∧ Sts L w G ∧ Sts L' w (fun k => F k ∧ ¬ G k)
  | [], L', w, F => ⟨fun h => ⟨fun _ => False, fun _ h => h.elim, trivial, h.mono fun _ hk => ⟨hk, id⟩⟩, fun ⟨_, _, _, h⟩ => h.mono fun _ hk => hk.1⟩
  | A :: L, L', w, F => by
    constructor
    · rintro ⟨G, a, b, c⟩
      obtain ⟨G2, d, e, f⟩ := Sts.append.1 c
      refine ⟨fun k => G k ∨ G2 k, fun k hk => ?_, ⟨G, a, fun k hk => .inl hk, e.mono fun k hk => ⟨.inr hk, (d k hk).2⟩⟩, f.mono fun k hk => ⟨hk.1.1, ?_⟩⟩
      · rcases hk with hk | hk
        · exact b k hk
        · exact (d k hk).1
      · rintro (h | h)
        · exact hk.1.2 h
        · exact hk.2 h
    · rintro ⟨G, a, ⟨G2, b, c, d⟩, e⟩
      refine ⟨G2, b, fun k hk => a k (c k hk), Sts.append.2 ⟨fun k => G k ∧ ¬ G2 k, fun k hk => ⟨a k hk.1, hk.2⟩, d, e.mono fun k hk => ⟨⟨hk.1, fun h => hk.2 (c k h)⟩, fun h => hk.2 h.1⟩⟩⟩

/-- From w0 to w: new blocks, and of the old ones those of F alone may have changed; behind it all of L holds, apart from each other, of blocks of F or new ones. -/
structure Run (w0 : World) (F : Nat → Prop) (w : World) (L : List As) : Prop where
  upd : Upd F w0 w
  has : ∃ G, (∀ k, G k → F k ∨ w0.heap.size ≤ k) ∧ Sts L w G

theorem Run.start {A : As} {w : World} {F : Nat → Prop} (h : A.on w F) : Run w F w [A] := ⟨Upd.refl _ _, F, fun _ hk => .inl hk, F, h, fun _ hk => hk, trivial⟩
theorem Run.nil (w : World) (F : Nat → Prop) : Run w F w [] := ⟨Upd.refl _ _, F, fun _ hk => .inl hk, trivial⟩
theorem Run.perm {w0 w : World} {F : Nat → Prop} {L L' : List As} (h : Run w0 F w L) (hp : L.Perm L') : Run w0 F w L' :=
  ⟨h.upd, let ⟨G, a, b⟩ := h.has; ⟨G, a, b.perm hp⟩⟩
theorem Run.mono {w0 w : World} {F : Nat → Prop} {L L' : List As} (h : Run w0 F w L) (hp : ∀ G, Sts L w G → Sts L' w G) : Run w0 F w L' :=
  ⟨h.upd, let ⟨G, a, b⟩ := h.has; ⟨G, a, hp G b⟩⟩
theorem pull_perm {α : Type} : ∀ (L : List α) (i : Nat) (hi : i < L.length), L.Perm (L[i] :: L.eraseIdx i)
  | [], i, hi => absurd hi (Nat.not_lt_zero _)
  | _ :: _, 0, _ => .refl _
  | a :: L, i + 1, hi => ((pull_perm L i (by simpa using hi)).cons a).trans (by simpa using List.Perm.swap _ _ _)
/-- The i-th one in front. -/
theorem Run.pull {w0 w : World} {F : Nat → Prop} {L : List As} (h : Run w0 F w L) (i : Nat) (hi : i < L.length := by simp) : Run w0 F w (L[i] :: L.eraseIdx i) :=
  h.perm (pull_perm L i hi)
theorem Run.drop {w0 w : World} {F : Nat → Prop} {A : As} {L : List As} (h : Run w0 F w (A :: L)) : Run w0 F w L :=
  ⟨h.upd, let ⟨G, a, _, _, _, d⟩ := h.has; ⟨G, a, d.mono fun _ hk => hk.1⟩⟩
theorem Run.get {w0 w : World} {F : Nat → Prop} {A : As} {L : List As} (h : Run w0 F w (A :: L)) : ∃ G, A.on w G :=
  let ⟨_, _, G, b, _, _⟩ := h.has; ⟨G, b⟩
theorem Run.put {w0 w : World} {F : Nat → Prop} {A B : As} {L : List As} (h : Run w0 F w (A :: L)) (hp : ∀ G, A.on w G → B.on w G) : Run w0 F w (B :: L) :=
  h.mono fun _ ⟨G2, a, b, c⟩ => ⟨G2, hp _ a, b, c⟩

/-- A call that needs the first one. -/
theorem Run.use {w0 w : World} {F : Nat → Prop} {A : As} {L : List As} (h : Run w0 F w (A :: L)) : ∃ G, A.on w G ∧ ∀ w' L', Run w G w' L' → Run w0 F w' (L' ++ L) := by
  obtain ⟨hu, F1, h1, G, h2, h3, h4⟩ := h
  refine ⟨G, h2, fun w' L' ⟨hu', F2, h5, h6⟩ => ⟨hu.step hu' fun k hk hg => ?_, fun k => F2 k ∨ (F1 k ∧ ¬ G k), fun k hk => ?_, Sts.append.2 ⟨F2, fun k hk => .inl hk, h6, ?_⟩⟩⟩
  · rcases h1 k (h3 k hg) with h | h
    · exact h
    · omega
  · rcases hk with hk | hk
    · rcases h5 k hk with h | h
      · exact h1 k (h3 k h)
      · exact .inr (Nat.le_trans hu.size h)
    · exact h1 k hk.1
  · refine Sts.mono (F := fun k => (F1 k ∧ ¬ G k) ∧ k < w.heap.size) ?_ fun k hk => ⟨.inr hk.1, fun h => ?_⟩
    · have h4' : Sts L w fun k => (F1 k ∧ ¬ G k) ∧ k < w.heap.size := by
        exact h4.bounded
      exact h4'.ext fun k hk hf => hu'.block k hk hf.1.2
    · rcases h5 k h with h | h
      · exact hk.1.2 h
      · exact absurd hk.2 (by omega)

theorem Run.ro {w0 w w' : World} {F : Nat → Prop} {L : List As} (h : Run w0 F w L) (hu : Upd Non w w') : Run w0 F w' L :=
  ⟨h.upd.then hu, let ⟨G, a, b⟩ := h.has; ⟨G, a, b.ext fun k hk _ => hu.block k hk fun x => x⟩⟩
/-- A call that needs nothing, and makes something. -/
theorem Run.new {w0 w w' : World} {F : Nat → Prop} {L L' : List As} (h : Run w0 F w L) (k : Run w Non w' L') : Run w0 F w' (L' ++ L) := by
  obtain ⟨hu, F1, h1, h2⟩ := h
  obtain ⟨hu', F2, h3, h4⟩ := k
  refine ⟨hu.then hu', fun k => F2 k ∨ (F1 k ∧ k < w.heap.size), fun k hk => ?_, Sts.append.2 ⟨F2, fun k hk => .inl hk, h4, ?_⟩⟩
  · rcases hk with hk | hk
    · rcases h3 k hk with h | h
      · exact h.elim
      · exact .inr (Nat.le_trans hu.size h)
    · exact h1 k hk.1
  · refine (h2.bounded.ext fun k hk _ => hu'.block k hk fun x => x).mono fun k hk => ⟨.inr hk, fun h => ?_⟩
    rcases h3 k h with h | h
    · exact h
    · exact absurd hk.2 (by omega)

theorem Run.drew {w0 w : World} {F : Nat → Prop} {L : List As} (h : Run w0 F w L) : Run w0 F w.drew L := h.ro (Upd.refl _ _).drew
theorem Run.drewN {w0 w : World} {F : Nat → Prop} {L : List As} (h : Run w0 F w L) (n : Nat) : Run w0 F (w.drewN n) L := h.ro ((Upd.refl _ _).drewN n)
theorem Run.alloc {w0 w : World} {F : Nat → Prop} {L : List As} (h : Run w0 F w L) (o : Obj) : Run w0 F (w.alloc o) L := h.ro ((Upd.refl _ _).alloc o)

/-! ### Kinds of assertions -/

theorem lt_of_get {w w' : World} {k : Nat} (h : k < w.heap.size) (e : w'.heap[k]? = w.heap[k]?) : k < w'.heap.size := by
  rw [Array.getElem?_eq_getElem h] at e
  exact (Array.getElem?_eq_some_iff.1 e).1

/-- One block, with these cells. -/
def blk (b : Nat) (c : Array Value) (t : TypeId) : As where
  on w F := F b ∧ Blk w b c t ∧ ∀ k, F k → k < w.heap.size
  lt h hk := h.2.2 _ hk
  ext h he := ⟨h.1, (he _ h.1).trans h.2.1, fun k hk => lt_of_get (h.2.2 k hk) (he k hk)⟩

def prop (p : Prop) : As where
  on w F := p ∧ ∀ k, F k → k < w.heap.size
  lt h hk := h.2 _ hk
  ext h he := ⟨h.1, fun k hk => lt_of_get (h.2 k hk) (he k hk)⟩

def exs {α : Type} (f : α → As) : As where
  on w F := ∃ x, (f x).on w F
  lt h hk := let ⟨x, hx⟩ := h; (f x).lt hx hk
  ext h he := let ⟨x, hx⟩ := h; ⟨x, (f x).ext hx he⟩

def all (L : List As) : As where
  on w F := Sts L w F ∧ ∀ k, F k → k < w.heap.size
  lt h hk := h.2 _ hk
  ext h he := ⟨h.1.ext fun k _ hf => he k hf, fun k hk => lt_of_get (h.2 k hk) (he k hk)⟩

/-- A slice that is owned, with the whole of its array. -/
def slc (t : TypeId) (k : Nat) (v : Value) (cs : List Value) (n : Nat) : As where
  on w F := (∃ ob, Slc w t k v cs n ob ∧ ∀ b, ob = some b → F b) ∧ ∀ k, F k → k < w.heap.size
  lt h hk := h.2 _ hk
  ext := by
    rintro w w' F ⟨⟨ob, h1, h2⟩, h3⟩ he
    refine ⟨⟨ob, ?_, h2⟩, fun k hk => lt_of_get (h3 k hk) (he k hk)⟩
    obtain ⟨hl, h | ⟨b, off, cap, arr, hv, e, hb, h4, h5, h6, h7⟩⟩ := h1
    · exact ⟨hl, .inl h⟩
    · exact ⟨hl, .inr ⟨b, off, cap, arr, hv, e, (he b (h2 b e)).trans hb, h4, h5, h6, h7⟩⟩

theorem Run.join {w0 w : World} {F : Nat → Prop} {L L' : List As} : Run w0 F w (L ++ L') ↔ Run w0 F w (all L :: L') := by
  constructor
  · rintro ⟨hu, G, a, b⟩
    refine ⟨hu, G, a, ?_⟩
    obtain ⟨G2, c, d, e⟩ := Sts.append.1 b
    exact ⟨fun k => G2 k ∧ k < w.heap.size, ⟨d.bounded, fun k hk => hk.2⟩, fun k hk => c k hk.1, e.mono fun k hk => ⟨hk.1, fun h => hk.2 h.1⟩⟩
  · rintro ⟨hu, G, a, G2, b, c, d⟩
    exact ⟨hu, G, a, Sts.append.2 ⟨G2, c, b.1, d⟩⟩
theorem Run.open {w0 w : World} {F : Nat → Prop} {L L' : List As} (h : Run w0 F w (all L :: L')) : Run w0 F w (L ++ L') := Run.join.2 h
theorem Run.shut {w0 w : World} {F : Nat → Prop} {L L' : List As} (h : Run w0 F w (L ++ L')) : Run w0 F w (all L :: L') := Run.join.1 h
theorem Run.exs {α : Type} {w0 w : World} {F : Nat → Prop} {f : α → As} {L : List As} (h : Run w0 F w (exs f :: L)) : ∃ x, Run w0 F w (f x :: L) := by
  obtain ⟨hu, G, a, G2, ⟨x, b⟩, c, d⟩ := h
  exact ⟨x, hu, G, a, G2, b, c, d⟩
theorem Run.ex {α : Type} {w0 w : World} {F : Nat → Prop} {f : α → As} {L : List As} (x : α) (h : Run w0 F w (f x :: L)) : Run w0 F w (Go.Fw.exs f :: L) :=
  h.put fun _ hx => ⟨x, hx⟩
theorem Run.prop {w0 w : World} {F : Nat → Prop} {p : Prop} {L : List As} (h : Run w0 F w (Go.Fw.prop p :: L)) : p ∧ Run w0 F w L := ⟨let ⟨_, hp⟩ := h.get; hp.1, h.drop⟩
theorem Run.fact {w0 w : World} {F : Nat → Prop} {p : Prop} {L : List As} (h : Run w0 F w L) (hp : p) : Run w0 F w (Go.Fw.prop p :: L) :=
  h.mono fun G hs => ⟨fun _ => False, ⟨hp, fun _ h => h.elim⟩, fun _ h => h.elim, hs.mono fun _ hk => ⟨hk, id⟩⟩
theorem Run.blk {w0 w : World} {F : Nat → Prop} {b : Nat} {c : Array Value} {t : TypeId} {L : List As} (h : Run w0 F w (Go.Fw.blk b c t :: L)) : Blk w b c t := let ⟨_, hb⟩ := h.get; hb.2.1
theorem Run.slc {w0 w : World} {F : Nat → Prop} {t : TypeId} {k : Nat} {v : Value} {cs : List Value} {n : Nat} {L : List As} (h : Run w0 F w (Go.Fw.slc t k v cs n :: L)) : ∃ ob, Slc w t k v cs n ob :=
  let ⟨_, ⟨ob, hb, _⟩, _⟩ := h.get; ⟨ob, hb⟩
/-- A new block. -/
theorem Run.box {w0 w : World} {F : Nat → Prop} {L : List As} (h : Run w0 F w L) (c : Array Value) (t : TypeId) : Run w0 F (w.alloc (.cells c t)) (Go.Fw.blk w.heap.size c t :: L) := by
  refine h.new (L' := [Go.Fw.blk w.heap.size c t]) ⟨(Upd.refl _ _).alloc _, fun k => k = w.heap.size, fun k hk => .inr (Nat.le_of_eq hk.symm), fun k => k = w.heap.size, ⟨rfl, Blk.new _ _ _, fun k hk => ?_⟩, fun _ hk => hk, trivial⟩
  subst hk; simp
/-- A cell of a block is written. -/
theorem Run.set {w0 w : World} {F : Nat → Prop} {b : Nat} {c : Array Value} {t : TypeId} {L : List As} (h : Run w0 F w (Go.Fw.blk b c t :: L)) (o : Nat) (v : Value) :
    Run w0 F (w.setCell ⟨b, o, none⟩ v) (Go.Fw.blk b (c.setIfInBounds o v) t :: L) := by
  obtain ⟨G, ⟨h1, h2, h3⟩, h4⟩ := h.use
  refine h4 _ [_] ⟨(Upd.refl _ _).setCell (.inr h1) _, G, fun _ hk => .inl hk, G, ⟨h1, h2.set o v, fun k hk => ?_⟩, fun _ hk => hk, trivial⟩
  have := h3 k hk
  simpa [World.setCell] using this
theorem Run.rot {w0 w : World} {F : Nat → Prop} {A B C : As} {L1 L : List As} (h : Run w0 F w (A :: B :: C :: (L1 ++ L))) : Run w0 F w (A :: B :: C :: (L ++ L1)) := h.perm (((List.perm_append_comm.cons C).cons B).cons A)
/-- Something is done to the first one. -/
theorem Run.did {w0 w w' : World} {F : Nat → Prop} {A B : As} {L : List As} (h : Run w0 F w (A :: L)) (hp : ∀ G, A.on w G → Upd G w w' ∧ ∃ G', (∀ k, G' k → G k ∨ w.heap.size ≤ k) ∧ B.on w' G') : Run w0 F w' (B :: L) := by
  obtain ⟨G, h1, h2⟩ := h.use
  obtain ⟨hu, G', h3, h4⟩ := hp G h1
  exact h2 w' [B] ⟨hu, G', h3, G', h4, fun _ h => h, trivial⟩
theorem Run.into {w0 w : World} {F : Nat → Prop} {A B : As} {L : List As} (h : Run w0 F w (A :: L)) (hp : ∀ {w0 : World} {F : Nat → Prop} {L : List As}, Run w0 F w (A :: L) → Run w0 F w (B :: L)) : Run w0 F w (B :: L) := hp h

theorem Slc.ob_eq {w w2 : World} {t t2 : TypeId} {k k2 : Nat} {v : Value} {cs cs2 : List Value} {n n2 : Nat} {ob ob2 : Option Nat} (h : Slc w t k v cs n ob) (h2 : Slc w2 t2 k2 v cs2 n2 ob2) : ob = ob2 := by
  obtain ⟨_, ⟨rfl, _, rfl⟩ | ⟨b, off, cap, arr, rfl, rfl, _⟩⟩ := h
  · obtain ⟨_, ⟨_, _, rfl⟩ | ⟨b, off, cap, arr, e, _⟩⟩ := h2
    · rfl
    · cases e
  · obtain ⟨_, ⟨e, _⟩ | ⟨b', off', cap', arr', e, rfl, _⟩⟩ := h2
    · cases e
    · cases e; rfl

theorem Run.blk_did {w0 w w' : World} {F : Nat → Prop} {b : Nat} {c c' : Array Value} {t t' : TypeId} {L : List As} (h : Run w0 F w (Go.Fw.blk b c t :: L)) (hb : Blk w' b c' t') (hu : Upd (fun x => x = b) w w') : Run w0 F w' (Go.Fw.blk b c' t' :: L) :=
  h.did fun G hG => ⟨hu.mono fun k _ e => by subst e; exact hG.1, fun k => k = b, fun k e => by subst e; exact .inl hG.1, rfl, hb, fun k e => by subst e; exact hb.lt⟩
theorem Run.slc_did {w0 w w' : World} {F : Nat → Prop} {t t' : TypeId} {k k' : Nat} {v v' : Value} {cs cs' : List Value} {n n' : Nat} {ob ob' : Option Nat} {L : List As} (h : Run w0 F w (Go.Fw.slc t k v cs n :: L)) (hs : Slc w t k v cs n ob)
    (h2 : Slc w' t' k' v' cs' n' ob') (hu : Upd (fun b => ob = some b) w w') (hf : ∀ b, ob' = some b → ob = some b ∨ w.heap.size ≤ b) : Run w0 F w' (Go.Fw.slc t' k' v' cs' n' :: L) := by
  refine h.did fun G ⟨⟨ob1, h1, hb1⟩, hG⟩ => ?_
  obtain rfl := h1.ob_eq hs
  refine ⟨hu.mono fun k _ e => hb1 k e, fun k => ob' = some k, fun k e => ?_, ⟨ob', h2, fun b e => e⟩, fun k e => Slc.lt (e ▸ h2)⟩
  rcases hf k e with h | h
  · exact .inl (hb1 k h)
  · exact .inr h

/-- A slice that is new. -/
theorem Run.slc_new {w0 w w' : World} {F : Nat → Prop} {t : TypeId} {k : Nat} {v : Value} {cs : List Value} {n : Nat} {ob : Option Nat} {L : List As} (h : Run w0 F w L) (hs : Slc w' t k v cs n ob) (hu : Upd Non w w') (hf : ∀ b, ob = some b → w.heap.size ≤ b) :
    Run w0 F w' (Go.Fw.slc t k v cs n :: L) :=
  h.new (L' := [Go.Fw.slc t k v cs n]) ⟨hu, fun k => ob = some k, fun k e => .inr (hf k e), fun k => ob = some k, ⟨⟨ob, hs, fun b e => e⟩, fun k e => Slc.lt (e ▸ hs)⟩, fun _ e => e, trivial⟩
theorem Run.slc_nil {w0 w : World} {F : Nat → Prop} (t : TypeId) (k : Nat) {L : List As} (h : Run w0 F w L) : Run w0 F w (Go.Fw.slc t k (.slice none 0 0) [] 0 :: L) :=
  h.slc_new (Slc.nil w t k) (Upd.refl _ _) fun b e => by cases e

theorem Run.blk_new {w0 w w' : World} {F : Nat → Prop} {b : Nat} {c : Array Value} {t : TypeId} {L : List As} (h : Run w0 F w L) (hb : Blk w' b c t) (hu : Upd Non w w') (hf : w.heap.size ≤ b) : Run w0 F w' (Go.Fw.blk b c t :: L) :=
  h.new (L' := [Go.Fw.blk b c t]) ⟨hu, fun k => b = k, fun k e => .inr (by omega), fun k => b = k, ⟨rfl, hb, fun k e => by have := hb.lt; omega⟩, fun _ e => e, trivial⟩

/-- A block and a slice that are changed at once. -/
theorem Run.did2 {w0 w w' : World} {F : Nat → Prop} {b : Nat} {c c' : Array Value} {ty ty' t t' : TypeId} {k k' : Nat} {v v' : Value} {cs cs' : List Value} {n n' : Nat} {ob ob' : Option Nat} {L : List As}
    (h : Run w0 F w (Go.Fw.blk b c ty :: Go.Fw.slc t k v cs n :: L)) (hs : Slc w t k v cs n ob)
    (h1 : Blk w' b c' ty') (h2 : Slc w' t' k' v' cs' n' ob') (hu : Upd (fun x => x = b ∨ ob = some x) w w') (hf : ∀ x, ob' = some x → ob = some x ∨ w.heap.size ≤ x) (hne : ob' ≠ some b) :
    Run w0 F w' (Go.Fw.blk b c' ty' :: Go.Fw.slc t' k' v' cs' n' :: L) := by
  have hj : Run w0 F w (Go.Fw.all [Go.Fw.blk b c ty, Go.Fw.slc t k v cs n] :: L) := Run.join.1 h
  refine Run.open (L := [Go.Fw.blk b c' ty', Go.Fw.slc t' k' v' cs' n']) (hj.did fun G ⟨⟨G1, ⟨g1, g2, g3⟩, g4, G2, ⟨⟨ob1, h3, hb1⟩, g5⟩, g6, _⟩, hG⟩ => ?_)
  obtain rfl := h3.ob_eq hs
  refine ⟨hu.mono fun x _ e => ?_, fun x => x = b ∨ ob' = some x, fun x e => ?_, ⟨fun x => x = b, ⟨rfl, h1, fun x e => by subst e; exact h1.lt⟩, fun x e => .inl e, fun x => ob' = some x, ⟨⟨ob', h2, fun b e => e⟩, fun x e => Slc.lt (e ▸ h2)⟩, fun x e => ⟨.inr e, fun e' => ?_⟩, trivial⟩, fun x e => ?_⟩
  · rcases e with e | e
    · subst e; exact g4 _ g1
    · exact (g6 x (hb1 x e)).1
  · rcases e with e | e
    · subst e; exact .inl (g4 _ g1)
    · rcases hf x e with h | h
      · exact .inl (g6 x (hb1 x h)).1
      · exact .inr h
  · subst e'; exact hne e
  · rcases e with e | e
    · subst e; exact h1.lt
    · exact Slc.lt (e ▸ h2)
/-- What is apart. -/
theorem Run.blk_slc {w0 w : World} {F : Nat → Prop} {b : Nat} {c : Array Value} {ty t : TypeId} {k : Nat} {v : Value} {cs : List Value} {n : Nat} {L : List As}
    (h : Run w0 F w (Go.Fw.blk b c ty :: Go.Fw.slc t k v cs n :: L)) : ∃ ob, Slc w t k v cs n ob ∧ ob ≠ some b := by
  obtain ⟨_, G, _, G1, ⟨g1, _, _⟩, _, G2, ⟨⟨ob, h3, hb⟩, _⟩, g6, _⟩ := h
  refine ⟨ob, h3, fun e => ?_⟩
  exact (g6 b (hb b e)).2 g1
theorem Run.blk_blk {w0 w : World} {F : Nat → Prop} {b b' : Nat} {c c' : Array Value} {t t' : TypeId} {L : List As}
    (h : Run w0 F w (Go.Fw.blk b c t :: Go.Fw.blk b' c' t' :: L)) : b ≠ b' := by
  obtain ⟨_, G, _, G1, ⟨g1, _, _⟩, _, G2, ⟨g2, _⟩, g6, _⟩ := h
  intro e; subst e
  exact (g6 b g2).2 g1

/-- What may be put in the place of what. -/
def Wand (A B : List As) : Prop := ∀ (w0 w : World) (F : Nat → Prop), Run w0 F w A → Run w0 F w B
theorem Wand.do {A B : List As} (h : Wand A B) {w0 w : World} {F : Nat → Prop} (k : Run w0 F w A) : Run w0 F w B := h w0 w F k

/-! ### Places -/
theorem Run.at1 {w0 w : World} {F : Nat → Prop} {A B : As} {L : List As} (h : Run w0 F w (A :: B :: L)) : Run w0 F w (B :: A :: L) := h.perm (pull_perm (A :: B :: L) 1 (by simp only [List.length_cons]; omega))
theorem Run.to1 {w0 w : World} {F : Nat → Prop} {A B : As} {L : List As} (h : Run w0 F w (B :: A :: L)) : Run w0 F w (A :: B :: L) := h.perm (pull_perm (A :: B :: L) 1 (by simp only [List.length_cons]; omega)).symm
theorem Run.at2 {w0 w : World} {F : Nat → Prop} {A B C : As} {L : List As} (h : Run w0 F w (A :: B :: C :: L)) : Run w0 F w (C :: A :: B :: L) := h.perm (pull_perm (A :: B :: C :: L) 2 (by simp only [List.length_cons]; omega))
theorem Run.to2 {w0 w : World} {F : Nat → Prop} {A B C : As} {L : List As} (h : Run w0 F w (C :: A :: B :: L)) : Run w0 F w (A :: B :: C :: L) := h.perm (pull_perm (A :: B :: C :: L) 2 (by simp only [List.length_cons]; omega)).symm
theorem Run.at3 {w0 w : World} {F : Nat → Prop} {A B C D : As} {L : List As} (h : Run w0 F w (A :: B :: C :: D :: L)) : Run w0 F w (D :: A :: B :: C :: L) := h.perm (pull_perm (A :: B :: C :: D :: L) 3 (by simp only [List.length_cons]; omega))
theorem Run.to3 {w0 w : World} {F : Nat → Prop} {A B C D : As} {L : List As} (h : Run w0 F w (D :: A :: B :: C :: L)) : Run w0 F w (A :: B :: C :: D :: L) := h.perm (pull_perm (A :: B :: C :: D :: L) 3 (by simp only [List.length_cons]; omega)).symm
theorem Run.at4 {w0 w : World} {F : Nat → Prop} {A B C D E : As} {L : List As} (h : Run w0 F w (A :: B :: C :: D :: E :: L)) : Run w0 F w (E :: A :: B :: C :: D :: L) := h.perm (pull_perm (A :: B :: C :: D :: E :: L) 4 (by simp only [List.length_cons]; omega))
theorem Run.to4 {w0 w : World} {F : Nat → Prop} {A B C D E : As} {L : List As} (h : Run w0 F w (E :: A :: B :: C :: D :: L)) : Run w0 F w (A :: B :: C :: D :: E :: L) := h.perm (pull_perm (A :: B :: C :: D :: E :: L) 4 (by simp only [List.length_cons]; omega)).symm
theorem Run.at5 {w0 w : World} {F : Nat → Prop} {A B C D E G : As} {L : List As} (h : Run w0 F w (A :: B :: C :: D :: E :: G :: L)) : Run w0 F w (G :: A :: B :: C :: D :: E :: L) := h.perm (pull_perm (A :: B :: C :: D :: E :: G :: L) 5 (by simp only [List.length_cons]; omega))
theorem Run.to5 {w0 w : World} {F : Nat → Prop} {A B C D E G : As} {L : List As} (h : Run w0 F w (G :: A :: B :: C :: D :: E :: L)) : Run w0 F w (A :: B :: C :: D :: E :: G :: L) := h.perm (pull_perm (A :: B :: C :: D :: E :: G :: L) 5 (by simp only [List.length_cons]; omega)).symm
theorem Run.at6 {w0 w : World} {F : Nat → Prop} {A B C D E G H : As} {L : List As} (h : Run w0 F w (A :: B :: C :: D :: E :: G :: H :: L)) : Run w0 F w (H :: A :: B :: C :: D :: E :: G :: L) := h.perm (pull_perm (A :: B :: C :: D :: E :: G :: H :: L) 6 (by simp only [List.length_cons]; omega))
theorem Run.to6 {w0 w : World} {F : Nat → Prop} {A B C D E G H : As} {L : List As} (h : Run w0 F w (H :: A :: B :: C :: D :: E :: G :: L)) : Run w0 F w (A :: B :: C :: D :: E :: G :: H :: L) := h.perm (pull_perm (A :: B :: C :: D :: E :: G :: H :: L) 6 (by simp only [List.length_cons]; omega)).symm
theorem Run.at7 {w0 w : World} {F : Nat → Prop} {A B C D E G H I : As} {L : List As} (h : Run w0 F w (A :: B :: C :: D :: E :: G :: H :: I :: L)) : Run w0 F w (I :: A :: B :: C :: D :: E :: G :: H :: L) := h.perm (pull_perm (A :: B :: C :: D :: E :: G :: H :: I :: L) 7 (by simp only [List.length_cons]; omega))
theorem Run.to7 {w0 w : World} {F : Nat → Prop} {A B C D E G H I : As} {L : List As} (h : Run w0 F w (I :: A :: B :: C :: D :: E :: G :: H :: L)) : Run w0 F w (A :: B :: C :: D :: E :: G :: H :: I :: L) := h.perm (pull_perm (A :: B :: C :: D :: E :: G :: H :: I :: L) 7 (by simp only [List.length_cons]; omega)).symm
theorem Run.at8 {w0 w : World} {F : Nat → Prop} {A B C D E G H I J : As} {L : List As} (h : Run w0 F w (A :: B :: C :: D :: E :: G :: H :: I :: J :: L)) : Run w0 F w (J :: A :: B :: C :: D :: E :: G :: H :: I :: L) := h.perm (pull_perm (A :: B :: C :: D :: E :: G :: H :: I :: J :: L) 8 (by simp only [List.length_cons]; omega))
theorem Run.to8 {w0 w : World} {F : Nat → Prop} {A B C D E G H I J : As} {L : List As} (h : Run w0 F w (J :: A :: B :: C :: D :: E :: G :: H :: I :: L)) : Run w0 F w (A :: B :: C :: D :: E :: G :: H :: I :: J :: L) := h.perm (pull_perm (A :: B :: C :: D :: E :: G :: H :: I :: J :: L) 8 (by simp only [List.length_cons]; omega)).symm

theorem Run.drop1 {w0 w : World} {F : Nat → Prop} {A B : As} {L : List As} (h : Run w0 F w (A :: B :: L)) : Run w0 F w (A :: L) := h.at1.drop
theorem Run.drop2 {w0 w : World} {F : Nat → Prop} {A B C : As} {L : List As} (h : Run w0 F w (A :: B :: C :: L)) : Run w0 F w (A :: B :: L) := h.at2.drop
theorem Run.drop3 {w0 w : World} {F : Nat → Prop} {A B C D : As} {L : List As} (h : Run w0 F w (A :: B :: C :: D :: L)) : Run w0 F w (A :: B :: C :: L) := h.at3.drop
theorem Run.drop4 {w0 w : World} {F : Nat → Prop} {A B C D E : As} {L : List As} (h : Run w0 F w (A :: B :: C :: D :: E :: L)) : Run w0 F w (A :: B :: C :: D :: L) := h.at4.drop
theorem Run.drop5 {w0 w : World} {F : Nat → Prop} {A B C D E G : As} {L : List As} (h : Run w0 F w (A :: B :: C :: D :: E :: G :: L)) : Run w0 F w (A :: B :: C :: D :: E :: L) := h.at5.drop
theorem Run.drop6 {w0 w : World} {F : Nat → Prop} {A B C D E G H : As} {L : List As} (h : Run w0 F w (A :: B :: C :: D :: E :: G :: H :: L)) : Run w0 F w (A :: B :: C :: D :: E :: G :: L) := h.at6.drop
theorem Run.drop7 {w0 w : World} {F : Nat → Prop} {A B C D E G H I : As} {L : List As} (h : Run w0 F w (A :: B :: C :: D :: E :: G :: H :: I :: L)) : Run w0 F w (A :: B :: C :: D :: E :: G :: H :: L) := h.at7.drop
theorem Run.drop8 {w0 w : World} {F : Nat → Prop} {A B C D E G H I J : As} {L : List As} (h : Run w0 F w (A :: B :: C :: D :: E :: G :: H :: I :: J :: L)) : Run w0 F w (A :: B :: C :: D :: E :: G :: H :: I :: L) := h.at8.drop

theorem Run.sw {w0 w : World} {F : Nat → Prop} {A B C D E G : As} {L : List As} (h : Run w0 F w (A :: B :: C :: D :: E :: G :: L)) : Run w0 F w (A :: B :: E :: G :: C :: D :: L) := h.at5.at5.at3.at3

/-- One assertion for each of some numbers. -/
def sep (f : Nat → As) (bs : List Nat) : As := all (bs.map f)
theorem Run.pick {w0 w : World} {F : Nat → Prop} {f : Nat → As} {bs : List Nat} {i : Nat} {L : List As} (h : Run w0 F w (sep f bs :: L)) (hi : i ∈ bs) : Run w0 F w (f i :: sep f (bs.erase i) :: L) := by
  have h1 : Run w0 F w (bs.map f ++ L) := h.open
  have h2 : Run w0 F w ((f i :: (bs.erase i).map f) ++ L) := h1.perm (((List.perm_cons_erase hi).map f).append_right L)
  exact Run.to1 (Run.shut (Run.perm h2 ((List.perm_middle (l₁ := (bs.erase i).map f) (l₂ := L) (a := f i)).symm)))
theorem Run.unpick {w0 w : World} {F : Nat → Prop} {f g : Nat → As} {bs : List Nat} {i : Nat} {L : List As} (hi : i ∈ bs) (hn : bs.Nodup) (hfg : ∀ j ∈ bs, j ≠ i → g j = f j) (h : Run w0 F w (g i :: sep f (bs.erase i) :: L)) : Run w0 F w (sep g bs :: L) := by
  have e : (bs.erase i).map f = (bs.erase i).map g := List.map_congr_left fun j hj => by
    have h1 := List.mem_of_mem_erase hj
    have h2 : j ≠ i := fun e => by subst e; exact (hn.not_mem_erase) hj
    exact (hfg j h1 h2).symm
  unfold sep at h
  rw [e] at h
  have h1 : Run w0 F w (((bs.erase i).map g) ++ g i :: L) := (Run.at1 h).open
  have h2 : Run w0 F w ((g i :: (bs.erase i).map g) ++ L) := h1.perm List.perm_middle
  exact Run.shut (h2.perm ((((List.perm_cons_erase hi).map g).symm).append_right L))
theorem Run.sep_cons {w0 w : World} {F : Nat → Prop} {f : Nat → As} {bs : List Nat} {i : Nat} {L : List As} (h : Run w0 F w (f i :: sep f bs :: L)) : Run w0 F w (sep f (i :: bs) :: L) := by
  have h1 : Run w0 F w (bs.map f ++ f i :: L) := (Run.at1 h).open
  exact Run.shut (L := f i :: bs.map f) (h1.perm List.perm_middle)
theorem Run.sep_congr {w0 w : World} {F : Nat → Prop} {f g : Nat → As} {bs : List Nat} {L : List As} (h : Run w0 F w (sep f bs :: L)) (hfg : ∀ j ∈ bs, g j = f j) : Run w0 F w (sep g bs :: L) := by
  unfold sep at *; rw [List.map_congr_left hfg]; exact h
end Go.Fw
end
section
open Go Go.RowKit Go.Fw
namespace Go.Proofs.YtmlnjifiaddhjaaGreat
set_option maxRecDepth 100000
theorem follows : Tryz.prog.follows .mixedOrders = true := by kernel_rfl

/-! ### ident -/
def codeV (c : Int) : Int :=
  if c = 45 then 1 else if c = 46 then 2 else if 48 ≤ c ∧ c ≤ 57 then c - 45 else if c = 95 then 13 else if 97 ≤ c ∧ c ≤ 122 then c - 83 else 0

theorem codeV_bd (c : Int) : 0 ≤ codeV c ∧ codeV c ≤ 39 := by unfold codeV; omega
theorem codeV_high {c : Int} (h : 128 ≤ c) : codeV c = 0 := by unfold codeV; omega

set_option maxHeartbeats 400000 in
theorem code_calls (c : Int) (w : World) (h0 : 0 ≤ c) (h1 : c ≤ 2147483647) :
    Calls Tryz.prog 129 #[.int .i32 c] w fun e w' => e = .returned (.int .u64 (codeV c)) ∧ w = w' := by
  have ee : Hid (codeV c = if c = 45 then 1 else if c = 46 then 2 else if 48 ≤ c ∧ c ≤ 57 then c - 45 else if c = 95 then 13 else if 97 ≤ c ∧ c ≤ 122 then c - 83 else 0) := hid rfl
  go_enter Tryz.func129, Tryz.ntmps129
  by_cases c1 : c = 45
  · subst c1
    go_wp2; go_ret; exact ⟨rfl, rfl⟩
  by_cases c2 : c = 46
  · subst c2
    go_wp2; go_ret; exact ⟨rfl, rfl⟩
  by_cases c3 : 48 ≤ c ∧ c ≤ 57
  · obtain ⟨c3, c4⟩ := c3
    go_wp2; go_ret
    exact ⟨retI (by rw [ee.out]; simp only [c1, c2, if_false]; rw [if_pos ⟨c3, c4⟩]; omega), rfl⟩
  have c3' : c < 48 ∨ 57 < c := by omega
  clear c3
  by_cases c5 : c = 95
  · subst c5
    go_wp2; go_ret; exact ⟨rfl, rfl⟩
  by_cases c6 : 97 ≤ c ∧ c ≤ 122
  · obtain ⟨c6, c7⟩ := c6
    clear c3'
    go_wp2; go_ret
    exact ⟨retI (by rw [ee.out]; simp only [c1, c2, c5, if_false]; rw [if_neg (by omega), if_pos ⟨c6, c7⟩]; omega), rfl⟩
  have c6' : c < 97 ∨ 122 < c := by omega
  clear c6
  rcases c3' with c3 | c3 <;> rcases c6' with c6 | c6 <;> try (exfalso; omega)
  all_goals
    go_wp2; go_ret
    exact ⟨retI (by rw [ee.out]; simp only [c1, c2, c5, if_false]; rw [if_neg (by omega), if_neg (by omega)]), rfl⟩

/-- Whether a text is an id. -/
def idOk (s : ByteArray) : Bool := decide (1 ≤ s.size) && decide (s.size ≤ 20) && s.data.toList.all fun b => decide (codeV b.toNat ≠ 0)

theorem check_short (s : ByteArray) (w : World) (h : s.size < 1 ∨ 20 < s.size) (hm : s.size ≤ maxLen) :
    Calls Tryz.prog 123 #[.string s] w fun e w' => e = .returned (.int .i64 2) ∧ w = w' := by
  unfold maxLen at hm
  go_enter Tryz.func123, Tryz.ntmps123
  rcases h with h | h
  · go_wp2; go_ret; exact ⟨rfl, rfl⟩
  · have h' : ¬ s.size < 1 := by omega
    go_wp2; go_ret; exact ⟨rfl, rfl⟩

set_option maxHeartbeats 400000 in
theorem check_long (s : ByteArray) (w : World) (h1 : 1 ≤ s.size) (h2 : s.size ≤ 20) :
    Calls Tryz.prog 123 #[.string s] w fun e w' => e = .returned (.int .i64 (okE (idOk s) 2)) ∧ ∃ pos, w' = w.iter s pos := by
  have hbad : ∀ (i : Nat) (hi : i < s.size), codeV ((s[i]'hi).toNat) = 0 → idOk s = false := fun i hi he => by
    cases e : idOk s with
    | false => rfl
    | true =>
      simp only [idOk, Bool.and_eq_true, List.all_eq_true, decide_eq_true_eq] at e
      exact absurd he (e.2 _ (by
        have : s[i] = s.data.toList[i]'(by simpa using hi) := rfl
        rw [this]; exact List.getElem_mem _))
  have HB := hid hbad
  clear hbad
  have hgood : (∀ i (hi : i < s.size), codeV ((s[i]'hi).toNat) ≠ 0) → idOk s = true := fun h => by
    simp only [idOk, Bool.and_eq_true, List.all_eq_true, decide_eq_true_eq]
    refine ⟨⟨h1, h2⟩, fun b hb => ?_⟩
    obtain ⟨i, hi, rfl⟩ := List.getElem_of_mem hb
    exact h i (by simpa using hi)
  have HG := hid hgood
  clear hgood
  go_enter Tryz.func123, Tryz.ntmps123
  go_wp2
  go_loopw [4] (fun _ w' => ∃ pos : Nat, pos ≤ s.size ∧ w' = w.iter s pos ∧ ∀ i (hi : i < s.size), i < pos → codeV ((s[i]'hi).toNat) ≠ 0) (fun _ w' => s.size - w'.iterPos w.heap.size)
  case atStart => exact ⟨0, Nat.zero_le _, rfl, fun i hi h => by omega⟩
  case round =>
    obtain ⟨pos, hle, rfl, hall⟩ := hrel
    have HA := hid hall
    clear hall
    by_cases hp : pos < s.size
    · by_cases ha : (s[pos]'hp).toNat < 128
      · have hnx : ∀ ty, (Instr.next (.pointer (some ⟨w.heap.size, 0, none⟩)) true ty).run Tryz.prog (w.iter s pos) = _ := fun ty => run_next_ascii w s pos ty hp ha
        have hb1 : (0 : Int) ≤ ((s[pos]'hp).toNat : Int) := by omega
        have hb2 : ((s[pos]'hp).toNat : Int) ≤ 2147483647 := by omega
        by_cases hz : codeV ((s[pos]'hp).toNat) = 0
        · have hz' : (codeV ((s[pos]'hp).toNat) == 0) = true := by simpa using hz
          have HZ := hid hz
          clear hz
          go_wp2_with (go_at_call 129; refine (code_calls _ _ (by omega) (by omega)).mono ?_; rintro e w' ⟨rfl, rfl⟩)
          go_ret
          exact ⟨retI (by rw [HB.out pos hp HZ.out]; rfl), _, rfl⟩
        · have hz' : (codeV ((s[pos]'hp).toNat) == 0) = false := by simpa using hz
          have HZ := hid hz
          clear hz
          go_wp2_with (go_at_call 129; refine (code_calls _ _ (by omega) (by omega)).mono ?_; rintro e w' ⟨rfl, rfl⟩)
          go_roundw
          case rel => exact ⟨pos + 1, by omega, rfl, fun i hi hlt => by
            by_cases hi' : i = pos
            · subst hi'; exact HZ.out
            · exact HA.out i hi (by omega)⟩
          case measure => simp; omega
      · have hd := decode_high s pos hp (by omega)
        have hdl := decode_le s pos
        have hnx : ∀ ty, (Instr.next (.pointer (some ⟨w.heap.size, 0, none⟩)) true ty).run Tryz.prog (w.iter s pos) = _ := fun ty => run_next_any w s pos ty hp
        have hz : codeV (Utf8.decode s pos).1 = 0 := codeV_high (by omega)
        have hz' : (codeV (Utf8.decode s pos).1 == 0) = true := by simpa using hz
        have hz2 : codeV ((s[pos]'hp).toNat) = 0 := codeV_high (by omega)
        have HZ := hid hz2
        clear hz hz2
        have hb1 : (0 : Int) ≤ (Utf8.decode s pos).1 := by omega
        have hb2 : (Utf8.decode s pos).1 ≤ 2147483647 := by omega
        go_wp2_with (go_at_call 129; refine (code_calls _ _ (by omega) (by omega)).mono ?_; rintro e w' ⟨rfl, rfl⟩)
        go_ret
        exact ⟨retI (by rw [HB.out pos hp HZ.out]; rfl), _, rfl⟩
    · have hnx : ∀ ty, (Instr.next (.pointer (some ⟨w.heap.size, 0, none⟩)) true ty).run Tryz.prog (w.iter s pos) = _ := fun ty => run_next_end w s pos ty hp
      go_wp2
      go_ret
      exact ⟨retI (by rw [HG.out fun i hi => HA.out i hi (by omega)]; rfl), _, rfl⟩

theorem check_calls (s : ByteArray) (w : World) (hm : s.size ≤ maxLen) :
    Calls Tryz.prog 123 #[.string s] w fun e w' => e = .returned (.int .i64 (okE (idOk s) 2)) ∧ Upd Non w w' := by
  by_cases h : 1 ≤ s.size ∧ s.size ≤ 20
  · exact (check_long s w h.1 h.2).mono fun e w' ⟨he, pos, hw⟩ => ⟨he, by subst hw; exact (Upd.refl _ _).alloc _⟩
  · have e : idOk s = false := by
      cases e : idOk s with
      | false => rfl
      | true => simp only [idOk, Bool.and_eq_true, decide_eq_true_eq] at e; exact absurd ⟨e.1.1, e.1.2⟩ h
    exact (check_short s w (by omega) hm).mono fun e' w' ⟨he, hw⟩ => ⟨by rw [he, e]; rfl, hw ▸ Upd.refl _ _⟩
end Go.Proofs.YtmlnjifiaddhjaaGreat
end
section
open Go Go.RowKit Go.Fw
namespace Go.Proofs.YtmlnjifiaddhjaaGreat
set_option maxRecDepth 100000

def shlU (a : Int) (n : Nat) : Int := IntKind.u64.wrap (a * 2 ^ n)
/-- One letter more. -/
def packStep (k : Int × Int) (i : Nat) (c : Int) : Int × Int :=
  if i < 10 then (bits .or .u64 k.1 (shlU (codeV c) (6 * (9 - i % 10))), k.2) else (k.1, bits .or .u64 k.2 (shlU (codeV c) (6 * (9 - i % 10))))
def packTo (s : ByteArray) : Nat → Int × Int
  | 0 => (0, 0)
  | n + 1 => packStep (packTo s n) n (s.data.toList.getD n 0).toNat
def keyOf (s : ByteArray) : Int × Int := packTo s s.size

theorem pack_no (s : ByteArray) (w : World) (hm : s.size ≤ maxLen) (hb : idOk s = false) :
    Calls Tryz.prog 86 #[.string s] w fun e w' => e = .returned (.tuple #[.agg #[.int .u64 0, .int .u64 0], .int .i64 2]) ∧ Upd Non w w' := by
  go_enter Tryz.func86, Tryz.ntmps86
  go_wp2_with (go_at_call 123; refine (check_calls _ _ (by assumption)).mono ?_; rw [hb, okE_false]; rintro e w1 ⟨rfl, hw1⟩; have hb1 := hw1.blk (Blk.new _ _ _) (fun x => x); have hc1 := hb1.cell; have hf1 := hb1.frozen; have hl1 := hb1.lt)
  refine bodyPost_ret (v := .tuple #[.agg #[.int .u64 0, .int .u64 0], .int .i64 2]) (by simp [results, Tryz.results86, go_sem, hc1]) rfl ⟨rfl, ?_⟩
  exact ((((Upd.refl _ _).alloc _).then hw1).setCell (.inl (Nat.le_refl _)) _).setCell (.inl (Nat.le_refl _)) _

set_option maxHeartbeats 800000 in
theorem pack_yes (s : ByteArray) (w : World) (hm : s.size ≤ maxLen) (hb : idOk s = true) :
    Calls Tryz.prog 86 #[.string s] w fun e w' => e = .returned (.tuple #[.agg #[.int .u64 (keyOf s).1, .int .u64 (keyOf s).2], .int .i64 0]) ∧ Upd Non w w' := by
  have hall : s.size ≤ 20 ∧ ∀ (i : Nat) (hi : i < s.size), (s[i]'hi).toNat < 128 := by
    simp only [idOk, Bool.and_eq_true, List.all_eq_true, decide_eq_true_eq] at hb
    refine ⟨hb.1.2, fun i hi => ?_⟩
    have := hb.2 _ (show s[i] ∈ s.data.toList by
      have : s[i] = s.data.toList[i]'(by simpa using hi) := rfl
      rw [this]; exact List.getElem_mem _)
    by_cases h : (s[i]'hi).toNat < 128
    · exact h
    · exact absurd (codeV_high (by omega)) this
  obtain ⟨h20, hasc⟩ := hall
  have HA := hid hasc
  clear hasc
  go_enter Tryz.func86, Tryz.ntmps86
  go_wp2_with (go_at_call 123; refine (check_calls _ _ (by assumption)).mono ?_; rw [hb, okE_true]; rintro e w1 ⟨rfl, hw1⟩; have hb1 := hw1.blk (Blk.new _ _ _) (fun x => x); have hc1 := hb1.cell; have hf1 := hb1.frozen; have hl1 := hb1.lt)
  have hz1 : w.heap.size < w1.heap.size := hl1
  go_loopw [8] (fun _ wr => ∃ n : Nat, n ≤ s.size ∧ wr.heap[w1.heap.size + 1]? = some (.stringIter s n) ∧ Blk wr w1.heap.size #[.int .u64 (packTo s n).1, .int .u64 (packTo s n).2] 51 ∧ Blk wr w.heap.size #[.int .u64 0, .int .u64 0] 51 ∧ Upd Non w wr) (fun _ wr => s.size - wr.iterPos (w1.heap.size + 1))
  case atStart =>
    refine ⟨0, Nat.zero_le _, ?_, ((Blk.new _ _ _).alloc _), (hb1.alloc _).alloc _, ((((Upd.refl _ _).alloc _).then hw1).alloc _).alloc _⟩
    have := World.iter_heap (w1.alloc (Obj.cells #[Value.int IntKind.u64 0, Value.int IntKind.u64 0] 51)) s 0
    rw [World.size_alloc] at this
    exact this
  case round =>
    obtain ⟨n, hle, hit, hbk, hbr, hU⟩ := hrel
    by_cases hp : n < s.size
    · have ha := HA.out n hp
      obtain ⟨W1, hnx, hit1, hsz1, hU1⟩ := next_ascii (P := Tryz.prog) hit hp ha
      have hbk1 := hU1.blk hbk (by simp)
      have hbr1 := hU1.blk hbr (by omega)
      have hck := hbk1.cell
      have hfk := hbk1.frozen
      have hn20 : (n : Int) < 20 := by omega
      have hc1 : (0 : Int) ≤ ((s[n]'hp).toNat : Int) := by omega
      have hc2 : ((s[n]'hp).toNat : Int) ≤ 2147483647 := by omega
      by_cases h10 : (n : Int) < 10
      · go_wp2
        refine region0 [0, 1, 2, 3, 4, 5] 6 follows (by kernel_rfl) ?_
        repeat (apply head0_cons rfl; (next => (go_wp2_with (go_at_call 129; refine (code_calls _ _ (by omega) (by omega)).mono ?_; rintro e w' ⟨rfl, rfl⟩); first | exact ⟨rfl, rfl⟩ | exact ⟨rfl, trivial⟩)); (next => kernel_rfl))
        refine head0_nil ?_
        simp only [List.drop_succ_cons, List.drop_zero]
        go_wp2
        go_roundw
        case rel =>
          refine ⟨n + 1, by omega, heap_setCell_ne hit1 (by simp), (hbk1.set 0 _).cast ?_, hbr1.set_other (by simp; omega) _, ((hU.step hU1 fun k hk e => by omega).setCell (.inl (by simp; omega)) _).drew⟩
          have e1 : s.data.toList.getD n 0 = s[n] := by
            have h2 : n < s.data.toList.length := by simpa using hp
            rw [List.getD_eq_getElem?_getD, List.getElem?_eq_getElem h2]; rfl
          have hlt : n < 10 := by omega
          simp only [packTo, packStep, if_pos hlt, e1, shlU]
          rfl
        case measure =>
          rw [iterPos_eq hit, show ∀ v, (W1.setCell ⟨w1.heap.size, 0, none⟩ v).drew.iterPos (w1.heap.size + 1) = n + 1 from fun v => iterPos_eq (heap_setCell_ne hit1 (by simp))]
          omega
      · have h10' : (10 : Int) ≤ (n : Int) := by omega
        clear h10
        go_wp2
        refine region0 [0, 1, 2, 3, 4, 5] 6 follows (by kernel_rfl) ?_
        repeat (apply head0_cons rfl; (next => (go_wp2_with (go_at_call 129; refine (code_calls _ _ (by omega) (by omega)).mono ?_; rintro e w' ⟨rfl, rfl⟩); first | exact ⟨rfl, rfl⟩ | exact ⟨rfl, trivial⟩)); (next => kernel_rfl))
        refine head0_nil ?_
        simp only [List.drop_succ_cons, List.drop_zero]
        go_wp2
        go_roundw
        case rel =>
          refine ⟨n + 1, by omega, heap_setCell_ne hit1 (by simp), (hbk1.set 1 _).cast ?_, hbr1.set_other (by simp; omega) _, ((hU.step hU1 fun k hk e => by omega).setCell (.inl (by simp; omega)) _).drew⟩
          have e1 : s.data.toList.getD n 0 = s[n] := by
            have h2 : n < s.data.toList.length := by simpa using hp
            rw [List.getD_eq_getElem?_getD, List.getElem?_eq_getElem h2]; rfl
          have hlt : ¬ n < 10 := by omega
          simp only [packTo, packStep, if_neg hlt, e1, shlU]
          rfl
        case measure =>
          rw [iterPos_eq hit, show ∀ v, (W1.setCell ⟨w1.heap.size, 1, none⟩ v).drew.iterPos (w1.heap.size + 1) = n + 1 from fun v => iterPos_eq (heap_setCell_ne hit1 (by simp))]
          omega
    · have hnx := next_end (P := Tryz.prog) hit hp
      have hcr := hbr.cell
      have hfr := hbr.frozen
      have hck := hbk.cell
      obtain rfl : n = s.size := by omega
      go_wp2
      refine bodyPost_ret (v := .tuple #[.agg #[.int .u64 (packTo s s.size).1, .int .u64 (packTo s s.size).2], .int .i64 0]) (by simp [results, Tryz.results86, go_sem, hcr]) rfl ⟨rfl, ?_⟩
      exact (hU.setCell (.inl (Nat.le_refl _)) _).setCell (.inl (Nat.le_refl _)) _
end Go.Proofs.YtmlnjifiaddhjaaGreat
end
section
open Go Go.RowKit Go.Fw
namespace Go.Proofs.YtmlnjifiaddhjaaGreat
set_option maxRecDepth 100000

/-! ### route -/
def rightB (n : Int) : Bool := decide (1 ≤ n) && decide (n ≤ 64) && decide (bits .and .i64 n (n - 1) = 0)
theorem rightB_bd {n : Int} (h : rightB n = true) : 1 ≤ n ∧ n ≤ 64 := by
  simp only [rightB, Bool.and_eq_true, decide_eq_true_eq] at h; exact h.1

theorem right_calls (n : Int) (w : World) (h0 : -9223372036854775808 ≤ n) (h1 : n ≤ 9223372036854775807) :
    Calls Tryz.prog 62 #[.int .i64 n] w fun e w' => e = .returned (.bool (rightB n)) ∧ w = w' := by
  have HE : Hid (rightB n = (decide (1 ≤ n) && decide (n ≤ 64) && decide (bits .and .i64 n (n - 1) = 0))) := hid rfl
  by_cases a : n < 1
  · have e : rightB n = false := by simp [rightB]; omega
    have E := hid e
    clear e
    go_enter Tryz.func62, Tryz.ntmps62
    go_wp2; go_ret
    exact ⟨retB (by rw [E.out]), rfl⟩
  by_cases b : 64 < n
  · have e : rightB n = false := by simp [rightB]; omega
    have E := hid e
    clear e
    go_enter Tryz.func62, Tryz.ntmps62
    go_wp2; go_ret
    exact ⟨retB (by rw [E.out]), rfl⟩
  · go_enter Tryz.func62, Tryz.ntmps62
    go_wp2; go_ret
    refine ⟨retB ?_, rfl⟩
    rw [HE.out, decide_eq_true (show 1 ≤ n by omega), decide_eq_true (show n ≤ 64 by omega)]
    rfl

def sumStep (h : Int) (b : Int) : Int := IntKind.u64.wrap (bits .xor .u64 h (IntKind.u64.wrap b) * 1099511628211)
def sum64 (l : List UInt8) : Int := l.foldl (fun h b => sumStep h b.toNat) 14695981039346656037
theorem take_snoc (s : ByteArray) (k : Nat) (h : k < s.size) : s.data.toList.take (k + 1) = s.data.toList.take k ++ [s[k]] := by
  rw [List.take_succ_eq_append_getElem (by simpa using h)]; rfl
theorem sum64_snoc (l : List UInt8) (b : UInt8) : sum64 (l ++ [b]) = sumStep (sum64 l) b.toNat := by simp [sum64]

theorem sum64_calls (s : ByteArray) (w : World) (hs : s.size ≤ maxLen) :
    Calls Tryz.prog 211 #[.string s] w fun e w' => e = .returned (.int .u64 (sum64 s.data.toList)) ∧ w = w' := by
  unfold maxLen at hs
  go_enter Tryz.func211, Tryz.ntmps211
  go_wp2
  go_loop [3, 7] (fun h i => ∃ k : Nat, k ≤ s.size ∧ i = .int .i64 k ∧ h = .int .u64 (sum64 (s.data.toList.take k))) (fun _ i => s.size - (intOf i).toNat)
  case atStart => exact ⟨0, Nat.zero_le _, rfl, rfl⟩
  case round =>
    obtain ⟨k, hk, rfl, rfl⟩ := hrel
    by_cases hlt : k < s.size
    · have HS : Hid (sum64 (s.data.toList.take (k + 1)) = sumStep (sum64 (s.data.toList.take k)) s[k].toNat) := by
        rw [take_snoc s k hlt]; exact sum64_snoc _ _
      go_wp2
      go_round
      case rel => exact ⟨k + 1, by omega, by go_num, by rw [HS.out]; rfl⟩
      case measure => simp [intOf]; omega
    · go_wp2
      go_ret
      exact ⟨retI (congrArg sum64 (List.take_of_length_le (by rw [Array.length_toList]; exact Nat.le_of_not_lt hlt))), rfl⟩

def foldV (h : Int) (b : Int) : Int := bits .and .u64 (bits .xor .u64 h (h / 2 ^ b.toNat)) (IntKind.u64.wrap (IntKind.u64.wrap (2 ^ b.toNat) - 1))
theorem fold_calls (h b : Int) (w : World) (hb : 1 ≤ b) (hb2 : b ≤ 32) :
    Calls Tryz.prog 181 #[.int .u64 h, .int .i64 b] w fun e w' => e = .returned (.int .u64 (foldV h b)) ∧ w = w' := by
  go_enter Tryz.func181, Tryz.ntmps181
  go_wp2; go_ret
  exact ⟨rfl, rfl⟩
theorem fold_zero (h b : Int) (w : World) (hb : b < 1) :
    Calls Tryz.prog 181 #[.int .u64 h, .int .i64 b] w fun e w' => e = .returned (.int .u64 0) ∧ w = w' := by
  go_enter Tryz.func181, Tryz.ntmps181
  go_wp2; go_ret
  exact ⟨rfl, rfl⟩

/-- How often n can be halved. -/
def bitsV (n : Int) : Int := if n ≤ 1 then 0 else if n ≤ 2 then 1 else if n ≤ 4 then 2 else if n ≤ 8 then 3 else if n ≤ 16 then 4 else if n ≤ 32 then 5 else 6
theorem right_cases {n : Int} (h : rightB n = true) : n = 1 ∨ n = 2 ∨ n = 4 ∨ n = 8 ∨ n = 16 ∨ n = 32 ∨ n = 64 := by
  have hb := rightB_bd h
  obtain ⟨m, rfl⟩ := Int.eq_ofNat_of_zero_le (show 0 ≤ n by omega)
  have hm : m < 65 := by omega
  have key : ∀ m : Fin 65, rightB (m.val : Int) = true → m.val = 1 ∨ m.val = 2 ∨ m.val = 4 ∨ m.val = 8 ∨ m.val = 16 ∨ m.val = 32 ∨ m.val = 64 := by decide +kernel
  have := key ⟨m, hm⟩ h
  simp only at this
  omega

theorem bits_calls (n : Int) (w : World) (h : rightB n = true) :
    Calls Tryz.prog 183 #[.int .i64 n] w fun e w' => e = .returned (.int .i64 (bitsV n)) ∧ w = w' := by
  rcases right_cases h with rfl | rfl | rfl | rfl | rfl | rfl | rfl
  all_goals
    go_enter Tryz.func183, Tryz.ntmps183
    go_wp2_with (go_at_call 62; refine (right_calls _ _ (by omega) (by omega)).mono ?_; rw [h]; rintro e w' ⟨rfl, rfl⟩)
    go_rounds 8
    go_ret
    exact ⟨rfl, rfl⟩

end Go.Proofs.YtmlnjifiaddhjaaGreat
end
section
open Go Go.RowKit Go.Fw
namespace Go.Proofs.YtmlnjifiaddhjaaGreat
set_option maxRecDepth 100000

/-! ### fnv.bytes: a key's sixteen bytes -/
def bytesV (hi lo : Int) : Array Value :=
  #[.int .u8 (hi / 72057594037927936), .int .u8 (hi / 281474976710656 % 256), .int .u8 (hi / 1099511627776 % 256), .int .u8 (hi / 4294967296 % 256), .int .u8 (hi / 16777216 % 256), .int .u8 (hi / 65536 % 256), .int .u8 (hi / 256 % 256), .int .u8 (hi % 256),
    .int .u8 (lo / 72057594037927936), .int .u8 (lo / 281474976710656 % 256), .int .u8 (lo / 1099511627776 % 256), .int .u8 (lo / 4294967296 % 256), .int .u8 (lo / 16777216 % 256), .int .u8 (lo / 65536 % 256), .int .u8 (lo / 256 % 256), .int .u8 (lo % 256)]

set_option maxHeartbeats 1000000 in
theorem bytes_calls (hi lo : Int) (w : World) (h0 : 0 ≤ hi) (h1 : hi < 18446744073709551616) (h2 : 0 ≤ lo) (h3 : lo < 18446744073709551616) :
    Calls Tryz.prog 210 #[.agg #[.int .u64 hi, .int .u64 lo]] w fun e w' => e = .returned (.agg (bytesV hi lo)) ∧ Upd Non w w' := by
  go_enter Tryz.func210, Tryz.ntmps210
  go_wp2
  go_rounds 9
  refine bodyPost_ret (v := .agg (bytesV hi lo)) ?_ rfl ⟨rfl, (((Upd.refl _ _).alloc _).alloc _).alloc _⟩
  simp [results, Tryz.results210, go_sem]
  rfl
end Go.Proofs.YtmlnjifiaddhjaaGreat
end
section
open Go Go.RowKit Go.Fw
namespace Go.Proofs.YtmlnjifiaddhjaaGreat
set_option maxRecDepth 100000

def bytesI (hi lo : Int) : List Int :=
  [hi / 72057594037927936, hi / 281474976710656 % 256, hi / 1099511627776 % 256, hi / 4294967296 % 256, hi / 16777216 % 256, hi / 65536 % 256, hi / 256 % 256, hi % 256, lo / 72057594037927936, lo / 281474976710656 % 256, lo / 1099511627776 % 256, lo / 4294967296 % 256, lo / 16777216 % 256, lo / 65536 % 256, lo / 256 % 256, lo % 256]
theorem bytesV_eq (hi lo : Int) : bytesV hi lo = ((bytesI hi lo).map (Value.int .u8)).toArray := rfl
/-- A key's sum. -/
def keySum (hi lo : Int) : Int := sum64 ((bytesI hi lo).map fun n => UInt8.ofNat n.toNat)

theorem key_calls (hi lo : Int) (w : World) (h0 : 0 ≤ hi) (h1 : hi < 18446744073709551616) (h2 : 0 ≤ lo) (h3 : lo < 18446744073709551616) :
    Calls Tryz.prog 182 #[.agg #[.int .u64 hi, .int .u64 lo]] w fun e w' => e = .returned (.int .u64 (keySum hi lo)) ∧ Upd Non w w' := by
  have hconv : ∀ (W : World), (convert 337 9 (.slice (some ⟨W.heap.size, 0, none⟩) 16 16)).run Tryz.prog (W.alloc (.cells (bytesV hi lo) 334)) = .ok (.string (strOfNums (bytesI hi lo))) (W.alloc (.cells (bytesV hi lo) 334)) := fun W =>
    run_convert_bytes_arg _ 337 5 (by kernel_rfl) (by kernel_rfl) W.heap.size 0 16 16 (bytesI hi lo) rfl (fun i hi' => by
      rw [(Blk.new _ _ _).cell, bytesV_eq]
      have hl : 0 + i < (bytesI hi lo).length := by simpa [bytesI] using hi'
      rw [List.getElem?_toArray, List.getElem?_map, List.getElem?_eq_getElem hl]
      simp [List.getD, List.getElem?_eq_getElem (show i < (bytesI hi lo).length by simpa using hl)]) 9 (by kernel_rfl)
  have hsz : (strOfNums (bytesI hi lo)).size ≤ maxLen := by rw [strOfNums_size]; simp [bytesI, maxLen]
  have HK : Hid (sum64 (strOfNums (bytesI hi lo)).data.toList = keySum hi lo) := hid (by rw [strOfNums_data]; rfl)
  go_enter Tryz.func182, Tryz.ntmps182
  go_wp2_with (first | (go_at_call 210; refine (bytes_calls _ _ _ (by assumption) (by assumption) (by assumption) (by assumption)).mono ?_; rintro e w1 ⟨rfl, hw1⟩; have hcv := hconv w1; unfold bytesV at hcv ⊢) | (go_at_call 211; refine (sum64_calls _ _ (by assumption)).mono ?_; rintro e w2 ⟨rfl, rfl⟩))
  go_ret
  exact ⟨retI (by rw [HK.out]), (((Upd.refl _ _).alloc _).then hw1).alloc _⟩
end Go.Proofs.YtmlnjifiaddhjaaGreat
end
section
open Go Go.RowKit Go.Fw
namespace Go.Proofs.YtmlnjifiaddhjaaGreat
set_option maxRecDepth 100000

def isI64 (n : Int) : Prop := -9223372036854775808 ≤ n ∧ n ≤ 9223372036854775807

/-! ### node.Right -/
structure Cfg where
  st : Int
  sa : Int
  lo : Int
  hi : Int
def Cfg.v (c : Cfg) : Value := .agg #[.int .i64 c.st, .int .i64 c.sa, .int .i64 c.lo, .int .i64 c.hi]
def Cfg.cs (c : Cfg) : Array Value := #[.int .i64 c.st, .int .i64 c.sa, .int .i64 c.lo, .int .i64 c.hi]
def Cfg.ok (c : Cfg) : Bool := rightB c.st && decide (1 ≤ c.sa) && decide (c.sa ≤ 256) && decide (1 ≤ c.lo) && decide (c.lo ≤ 256) && decide (1 ≤ c.hi) && decide (c.hi ≤ 64)
structure Cfg.wf (c : Cfg) : Prop where
  st : isI64 c.st
  sa : isI64 c.sa
  lo : isI64 c.lo
  hi : isI64 c.hi

set_option maxHeartbeats 1000000 in
theorem nright_calls (c : Cfg) (w : World) (hwf : c.wf) :
    Calls Tryz.prog 26 #[c.v] w fun e w' => e = .returned (.int .i64 (okE c.ok 1)) ∧ w' = w.alloc (.cells c.cs 23) := by
  obtain ⟨st, sa, lo, hi⟩ := c
  obtain ⟨⟨s1, s2⟩, _, _, _⟩ := hwf
  simp only at s1 s2
  have HE : Hid (Cfg.ok ⟨st, sa, lo, hi⟩ = (rightB st && decide (1 ≤ sa) && decide (sa ≤ 256) && decide (1 ≤ lo) && decide (lo ≤ 256) && decide (1 ≤ hi) && decide (hi ≤ 64))) := hid rfl
  simp only [Cfg.v, Cfg.cs]
  have B : Hid ((rightB st && decide (1 ≤ sa) && decide (sa ≤ 256) && decide (1 ≤ lo) && decide (lo ≤ 256) && decide (1 ≤ hi) && decide (hi ≤ 64)) = false → okE (Cfg.ok ⟨st, sa, lo, hi⟩) 1 = 1) := hid fun h => by rw [HE.out, h]; rfl
  have G : Hid ((rightB st && decide (1 ≤ sa) && decide (sa ≤ 256) && decide (1 ≤ lo) && decide (lo ≤ 256) && decide (1 ≤ hi) && decide (hi ≤ 64)) = true → okE (Cfg.ok ⟨st, sa, lo, hi⟩) 1 = 0) := hid fun h => by rw [HE.out, h]; rfl
  cases h0 : rightB st with
  | false =>
    go_enter Tryz.func26, Tryz.ntmps26
    go_wp2_with (go_at_call 62; refine (right_calls _ _ (by assumption) (by assumption)).mono ?_; rw [h0]; rintro e w' ⟨rfl, rfl⟩)
    go_ret
    exact ⟨retI (B.out (by rw [h0]; rfl)).symm, rfl⟩
  | true =>
    go_enter Tryz.func26, Tryz.ntmps26
    go_wp2_with (go_at_call 62; refine (right_calls _ _ (by assumption) (by assumption)).mono ?_; rw [h0]; rintro e w' ⟨rfl, rfl⟩)
    all_goals
      go_ret
      refine ⟨retI ?_, rfl⟩
      first
        | exact (B.out (by rw [h0]; simp; omega)).symm
        | exact (G.out (by rw [h0]; simp; omega)).symm
end Go.Proofs.YtmlnjifiaddhjaaGreat
end
section
open Go Go.RowKit Go.Fw
namespace Go.Proofs.YtmlnjifiaddhjaaGreat
set_option maxRecDepth 100000

/-! ### calls -/
def opCells (l : List (Int × Int)) : List Value := l.flatMap fun o => [.int .i64 o.1, .int .i64 o.2]
theorem opCells_append (a b : List (Int × Int)) : opCells (a ++ b) = opCells a ++ opCells b := by simp [opCells]
theorem opCells_one (l : List (Int × Int)) : ∀ u ∈ opCells l, u.oneCell' = true := by
  intro u hu
  simp only [opCells, List.mem_flatMap, List.mem_cons, List.not_mem_nil, or_false] at hu
  obtain ⟨o, _, rfl | rfl⟩ := hu <;> rfl
/-- A list of steps, in memory. -/
def Ops (w : World) (v : Value) (l : List (Int × Int)) (ob : Option Nat) : Prop := Slc w 137 2 v (opCells l) l.length ob
theorem elOp : El Tryz.prog 131 137 2 16 := El.of (by kernel_rfl) (by kernel_rfl) (by decide)

theorem line_calls (c : Cfg) (w : World) (h0 : 0 ≤ c.st) (h1 : c.st ≤ 1000) :
    Calls Tryz.prog 28 #[c.v] w fun e w' => e = .returned (.int .i64 (c.st + 1)) ∧ w' = w.alloc (.cells c.cs 23) := by
  obtain ⟨st, sa, lo, hi⟩ := c
  simp only [Cfg.v, Cfg.cs] at *
  go_enter Tryz.func28, Tryz.ntmps28
  go_wp2; go_ret
  exact ⟨rfl, rfl⟩
theorem cuts_calls (c : Cfg) (w : World) :
    Calls Tryz.prog 53 #[c.v] w fun e w' => e = .returned (.int .i64 c.st) ∧ w' = w.alloc (.cells c.cs 23) := by
  obtain ⟨st, sa, lo, hi⟩ := c
  simp only [Cfg.v, Cfg.cs] at *
  go_enter Tryz.func53, Tryz.ntmps53
  go_wp2; go_ret
  exact ⟨rfl, rfl⟩

def oneL (kind lock : Int) : List (Int × Int) := [(kind, lock), (4, 0), (5, lock)]
theorem one_calls (kind lock : Int) (w : World) :
    Calls Tryz.prog 126 #[.int .i64 kind, .int .i64 lock] w fun e w' => ∃ v b, e = .returned v ∧ Ops w' v (oneL kind lock) (some b) ∧ w.heap.size ≤ b ∧ Upd Non w w' := by
  go_enter Tryz.func126, Tryz.ntmps126
  go_wp2
  go_ret
  exact ⟨_, _, rfl, Slc.of_blk (Blk.new _ _ _) rfl (by unfold maxLen; omega), Nat.le_refl _, (Upd.refl _ _).alloc _⟩

def allL (kind : Int) (n : Nat) : List (Int × Int) := (List.range n).map fun (i : Nat) => (kind, (i : Int))
theorem allL_succ (kind : Int) (n : Nat) : allL kind (n + 1) = allL kind n ++ [(kind, (n : Int))] := by simp [allL, List.range_succ]
theorem allL_length (kind : Int) (n : Nat) : (allL kind n).length = n := by simp [allL]

set_option maxHeartbeats 400000 in
theorem all_calls (c : Cfg) (kind : Int) (w : World) (h0 : 0 ≤ c.st) (h1 : c.st ≤ 1000) :
    Calls Tryz.prog 128 #[c.v, .int .i64 kind] w fun e w' => ∃ v ob, e = .returned v ∧ Ops w' v (allL kind c.st.toNat) ob ∧ (∀ b, ob = some b → w.heap.size ≤ b) ∧ Upd Non w w' := by
  obtain ⟨st, sa, lo, hi⟩ := c
  simp only [Cfg.v] at *
  obtain ⟨m, rfl⟩ := Int.eq_ofNat_of_zero_le h0
  have hm : m ≤ 1000 := by omega
  clear h0 h1
  go_enter Tryz.func128, Tryz.ntmps128
  go_wp2
  go_loopw [5, 9] (fun v i wr => ∃ (k : Nat) (ob : Option Nat), k ≤ m ∧ i = .int .i64 k ∧ Ops wr v (allL kind k) ob ∧ (∀ b, ob = some b → w.heap.size < b) ∧ w.heap.size < wr.heap.size ∧ Upd Non w wr) (fun _ i _ => m - (intOf i).toNat)
  case atStart => exact ⟨0, none, Nat.zero_le _, rfl, Slc.nil _ _ _, (fun b e => by cases e), by rw [World.size_alloc]; omega, (Upd.refl _ _).alloc _⟩
  case round =>
    obtain ⟨k, ob, hk, rfl, hops, hob, hsz, hU⟩ := hrel
    by_cases hlt : k < m
    · go_wp2_with (at_builtin; go_loud (refine wpList_append elOp rfl _ _ rfl rfl rfl (Slc.upd hops ((Upd.refl Non _).alloc _) fun _ _ x => x) (Slc.of_blk (Blk.new _ _ _) rfl (by unfold maxLen; omega)) (by simp [Value.oneCell']) (by rw [allL_length]; unfold maxLen; omega) (by rw [allL_length]; omega) ?_); intro v' w' ob' hs hu hb)
      go_roundw
      case rel =>
        refine ⟨k + 1, ob', by omega, by go_num, ?_, fun b e => ?_, ?_, ?_⟩
        · unfold Ops; rw [allL_succ, opCells_append, List.length_append]; exact hs
        · rcases hb b e with h | h
          · exact hob b h
          · rw [World.size_alloc] at h; omega
        · have := hu.size; rw [World.size_alloc] at this; omega
        · refine ((hU.alloc _).step hu fun b _ e => ?_)
          have := hob b e; omega
      case measure => simp [intOf]; omega
    · obtain rfl : k = m := by omega
      go_wp2
      go_ret
      exact ⟨_, ob, rfl, hops, fun b e => Nat.le_of_lt (hob b e), hU⟩
end Go.Proofs.YtmlnjifiaddhjaaGreat
end
section
open Go Go.RowKit Go.Fw
namespace Go.Proofs.YtmlnjifiaddhjaaGreat
set_option maxRecDepth 100000

/-! ### series.Right, policy.Check -/
def tickE (tick value : Int) : Int := if tick < 0 then 3 else if value < 0 then 4 else 0
theorem sright_calls (tick value : Int) (w : World) :
    Calls Tryz.prog 124 #[.int .i64 tick, .int .i64 value] w fun e w' => e = .returned (.int .i64 (tickE tick value)) ∧ w = w' := by
  have E : Hid (∀ t v : Int, tickE t v = if t < 0 then 3 else if v < 0 then 4 else 0) := hid fun _ _ => rfl
  by_cases h : tick < 0
  · have e := hid (show tickE tick value = 3 by simp [tickE, h])
    go_enter Tryz.func124, Tryz.ntmps124
    go_wp2; go_ret; exact ⟨retI e.out.symm, rfl⟩
  by_cases h2 : value < 0
  · have e := hid (show tickE tick value = 4 by simp [tickE, h, h2])
    go_enter Tryz.func124, Tryz.ntmps124
    go_wp2; go_ret; exact ⟨retI e.out.symm, rfl⟩
  · have e := hid (show tickE tick value = 0 by simp [tickE, h, h2])
    go_enter Tryz.func124, Tryz.ntmps124
    go_wp2; go_ret; exact ⟨retI e.out.symm, rfl⟩

structure Pol where
  mn : Int
  mx : Int
  tg : Int
  tol : Int
  win : Int
  hold : Int
def Pol.cs (p : Pol) : List Value := [.int .i64 p.mn, .int .i64 p.mx, .int .i64 p.tg, .int .i64 p.tol, .int .i64 p.win, .int .i64 p.hold]
def Pol.v (p : Pol) : Value := .agg #[.int .i64 p.mn, .int .i64 p.mx, .int .i64 p.tg, .int .i64 p.tol, .int .i64 p.win, .int .i64 p.hold]
def Pol.ok (p : Pol) : Bool := decide (0 ≤ p.mn) && decide (1 ≤ p.mx) && decide (p.mn ≤ p.mx) && decide (p.mx ≤ 1073741824) && decide (1 ≤ p.tg) && decide (0 ≤ p.tol) && decide (p.tol ≤ 999) && decide (1 ≤ p.win) && decide (0 ≤ p.hold)

set_option maxHeartbeats 1000000 in
theorem pcheck_calls (p : Pol) (w : World) :
    Calls Tryz.prog 125 #[p.v] w fun e w' => e = .returned (.int .i64 (okE p.ok 7)) ∧ Upd Non w w' := by
  obtain ⟨mn, mx, tg, tol, win, hold⟩ := p
  have B : Hid ((decide (0 ≤ mn) && decide (1 ≤ mx) && decide (mn ≤ mx) && decide (mx ≤ 1073741824) && decide (1 ≤ tg) && decide (0 ≤ tol) && decide (tol ≤ 999) && decide (1 ≤ win) && decide (0 ≤ hold)) = false → okE (Pol.ok ⟨mn, mx, tg, tol, win, hold⟩) 7 = 7) := hid fun h => by unfold Pol.ok; rw [h]; rfl
  have G : Hid ((decide (0 ≤ mn) && decide (1 ≤ mx) && decide (mn ≤ mx) && decide (mx ≤ 1073741824) && decide (1 ≤ tg) && decide (0 ≤ tol) && decide (tol ≤ 999) && decide (1 ≤ win) && decide (0 ≤ hold)) = true → okE (Pol.ok ⟨mn, mx, tg, tol, win, hold⟩) 7 = 0) := hid fun h => by unfold Pol.ok; rw [h]; rfl
  simp only [Pol.v]
  go_enter Tryz.func125, Tryz.ntmps125
  go_wp2
  all_goals
    go_ret
    refine ⟨retI ?_, (Upd.refl _ _).alloc _⟩
    first
      | exact (B.out (by simp; omega)).symm
      | exact (G.out (by simp; omega)).symm

structure Cal where
  kind : Int
  id : ByteArray
  tick : Int
  value : Int
  handle : Int
  pol : Pol
def Cal.cs (c : Cal) : Array Value := #[.int .i64 c.kind, .string c.id, .int .i64 c.tick, .int .i64 c.value, .int .i64 c.handle, .int .i64 c.pol.mn, .int .i64 c.pol.mx, .int .i64 c.pol.tg, .int .i64 c.pol.tol, .int .i64 c.pol.win, .int .i64 c.pol.hold]
def Cal.v (c : Cal) : Value := .agg c.cs
/-- What is wrong with a call, without any store. -/
def Cal.err (c : Cal) : Int :=
  if c.kind = 1 then (if idOk c.id then tickE c.tick c.value else 2)
  else if c.kind = 2 then tickE c.tick 0
  else if c.kind = 6 then (if idOk c.id then okE c.pol.ok 7 else 2)
  else if c.kind = 5 ∨ c.kind = 7 then okE (idOk c.id) 2
  else if c.kind = 3 ∨ c.kind = 4 ∨ c.kind = 8 then 0 else 14

set_option maxHeartbeats 1000000 in
theorem scheck_calls (c : Cal) (w : World) (hm : c.id.size ≤ maxLen) :
    Calls Tryz.prog 84 #[c.v] w fun e w' => e = .returned (.int .i64 c.err) ∧ Upd Non w w' := by
  obtain ⟨kind, id, tick, value, handle, pol⟩ := c
  have E : Hid (Cal.err ⟨kind, id, tick, value, handle, pol⟩ = if kind = 1 then (if idOk id then tickE tick value else 2)
    else if kind = 2 then tickE tick 0
    else if kind = 6 then (if idOk id then okE pol.ok 7 else 2)
    else if kind = 5 ∨ kind = 7 then okE (idOk id) 2
    else if kind = 3 ∨ kind = 4 ∨ kind = 8 then 0 else 14) := hid rfl
  simp only at hm
  simp only [Cal.v, Cal.cs]
  cases hi : idOk id with
  | true =>
    by_cases k1 : kind = 1
    · subst k1
      go_enter Tryz.func84, Tryz.ntmps84
      go_wp2
      refine region1 (Upd Non _) [0, 1, 2, 3, 4, 5, 6] 7 follows (by kernel_rfl) (Upd.refl _ _).drew ?_
      repeat (apply head_cons rfl; (next => (intro W hW; have hbx := hW.blk (Blk.new _ _ _) (fun x => x); have hcx := hbx.cell; go_wp2_with (first | (go_at_call 123; refine (check_calls _ _ (by assumption)).mono ?_; rw [hi]; (first | rw [okE_true] | rw [okE_false]); rintro e w' ⟨rfl, hu⟩) | (go_at_call 124; refine (sright_calls _ _ _).mono ?_; rintro e w' ⟨rfl, rfl⟩) | (go_at_call 125; refine (pcheck_calls pol _).mono ?_; rintro e w' ⟨rfl, hu⟩)); first | exact ⟨rfl, hW⟩ | exact ⟨rfl, hW.then (by assumption)⟩)); (next => kernel_rfl))
      refine head_nil ?_
      intro W hW
      have hbx := hW.blk (Blk.new _ _ _) (fun x => x)
      have hcx := hbx.cell
      simp only [List.drop_succ_cons, List.drop_zero]
      go_wp2_with (first | (go_at_call 123; refine (check_calls _ _ (by assumption)).mono ?_; rw [hi]; (first | rw [okE_true] | rw [okE_false]); rintro e w' ⟨rfl, hu⟩) | (go_at_call 124; refine (sright_calls _ _ _).mono ?_; rintro e w' ⟨rfl, rfl⟩) | (go_at_call 125; refine (pcheck_calls pol _).mono ?_; rintro e w' ⟨rfl, hu⟩))
      all_goals
        go_ret
        exact ⟨retI (by rw [E.out]; simp [hi]), by first | exact ((Upd.refl _ _).alloc _).then hW | exact (((Upd.refl _ _).alloc _).then hW).then (by assumption)⟩
    by_cases k2 : kind = 2
    · subst k2
      go_enter Tryz.func84, Tryz.ntmps84
      go_wp2_with (first | (go_at_call 123; refine (check_calls _ _ (by assumption)).mono ?_; rw [hi]; (first | rw [okE_true] | rw [okE_false]); rintro e w' ⟨rfl, hu⟩) | (go_at_call 124; refine (sright_calls _ _ _).mono ?_; rintro e w' ⟨rfl, rfl⟩) | (go_at_call 125; refine (pcheck_calls pol _).mono ?_; rintro e w' ⟨rfl, hu⟩))
      go_ret
      exact ⟨retI (by rw [E.out]; simp), (Upd.refl _ _).alloc _⟩
    by_cases k6 : kind = 6
    · subst k6
      go_enter Tryz.func84, Tryz.ntmps84
      go_wp2
      refine region1 (Upd Non _) [0, 1, 2, 3, 4] 5 follows (by kernel_rfl) (Upd.refl _ _).drew ?_
      repeat (apply head_cons rfl; (next => (intro W hW; have hbx := hW.blk (Blk.new _ _ _) (fun x => x); have hcx := hbx.cell; go_wp2_with (first | (go_at_call 123; refine (check_calls _ _ (by assumption)).mono ?_; rw [hi]; (first | rw [okE_true] | rw [okE_false]); rintro e w' ⟨rfl, hu⟩) | (go_at_call 124; refine (sright_calls _ _ _).mono ?_; rintro e w' ⟨rfl, rfl⟩) | (go_at_call 125; refine (pcheck_calls pol _).mono ?_; rintro e w' ⟨rfl, hu⟩)); first | exact ⟨rfl, hW⟩ | exact ⟨rfl, hW.then (by assumption)⟩)); (next => kernel_rfl))
      refine head_nil ?_
      intro W hW
      have hbx := hW.blk (Blk.new _ _ _) (fun x => x)
      have hcx := hbx.cell
      simp only [List.drop_succ_cons, List.drop_zero]
      go_wp2_with (first | (go_at_call 123; refine (check_calls _ _ (by assumption)).mono ?_; rw [hi]; (first | rw [okE_true] | rw [okE_false]); rintro e w' ⟨rfl, hu⟩) | (go_at_call 124; refine (sright_calls _ _ _).mono ?_; rintro e w' ⟨rfl, rfl⟩) | (go_at_call 125; refine (pcheck_calls pol _).mono ?_; rintro e w' ⟨rfl, hu⟩))
      all_goals
        go_ret
        exact ⟨retI (by rw [E.out]; simp [hi]), by first | exact ((Upd.refl _ _).alloc _).then hW | exact (((Upd.refl _ _).alloc _).then hW).then (by assumption)⟩
    by_cases k5 : kind = 5
    · subst k5
      go_enter Tryz.func84, Tryz.ntmps84
      go_wp2_with (first | (go_at_call 123; refine (check_calls _ _ (by assumption)).mono ?_; rw [hi]; (first | rw [okE_true] | rw [okE_false]); rintro e w' ⟨rfl, hu⟩) | (go_at_call 124; refine (sright_calls _ _ _).mono ?_; rintro e w' ⟨rfl, rfl⟩) | (go_at_call 125; refine (pcheck_calls pol _).mono ?_; rintro e w' ⟨rfl, hu⟩))
      go_ret
      exact ⟨retI (by rw [E.out]; simp [hi, okE_true, okE_false]), ((Upd.refl _ _).alloc _).then (by assumption)⟩
    by_cases k7 : kind = 7
    · subst k7
      go_enter Tryz.func84, Tryz.ntmps84
      go_wp2_with (first | (go_at_call 123; refine (check_calls _ _ (by assumption)).mono ?_; rw [hi]; (first | rw [okE_true] | rw [okE_false]); rintro e w' ⟨rfl, hu⟩) | (go_at_call 124; refine (sright_calls _ _ _).mono ?_; rintro e w' ⟨rfl, rfl⟩) | (go_at_call 125; refine (pcheck_calls pol _).mono ?_; rintro e w' ⟨rfl, hu⟩))
      go_ret
      exact ⟨retI (by rw [E.out]; simp [hi, okE_true, okE_false]), ((Upd.refl _ _).alloc _).then (by assumption)⟩
    by_cases k3 : kind = 3
    · subst k3
      go_enter Tryz.func84, Tryz.ntmps84
      go_wp2_with (first | (go_at_call 123; refine (check_calls _ _ (by assumption)).mono ?_; rw [hi]; (first | rw [okE_true] | rw [okE_false]); rintro e w' ⟨rfl, hu⟩) | (go_at_call 124; refine (sright_calls _ _ _).mono ?_; rintro e w' ⟨rfl, rfl⟩) | (go_at_call 125; refine (pcheck_calls pol _).mono ?_; rintro e w' ⟨rfl, hu⟩))
      go_ret
      exact ⟨retI (by rw [E.out]; simp), (Upd.refl _ _).alloc _⟩
    by_cases k4 : kind = 4
    · subst k4
      go_enter Tryz.func84, Tryz.ntmps84
      go_wp2_with (first | (go_at_call 123; refine (check_calls _ _ (by assumption)).mono ?_; rw [hi]; (first | rw [okE_true] | rw [okE_false]); rintro e w' ⟨rfl, hu⟩) | (go_at_call 124; refine (sright_calls _ _ _).mono ?_; rintro e w' ⟨rfl, rfl⟩) | (go_at_call 125; refine (pcheck_calls pol _).mono ?_; rintro e w' ⟨rfl, hu⟩))
      go_ret
      exact ⟨retI (by rw [E.out]; simp), (Upd.refl _ _).alloc _⟩
    by_cases k8 : kind = 8
    · subst k8
      go_enter Tryz.func84, Tryz.ntmps84
      go_wp2_with (first | (go_at_call 123; refine (check_calls _ _ (by assumption)).mono ?_; rw [hi]; (first | rw [okE_true] | rw [okE_false]); rintro e w' ⟨rfl, hu⟩) | (go_at_call 124; refine (sright_calls _ _ _).mono ?_; rintro e w' ⟨rfl, rfl⟩) | (go_at_call 125; refine (pcheck_calls pol _).mono ?_; rintro e w' ⟨rfl, hu⟩))
      go_ret
      exact ⟨retI (by rw [E.out]; simp), (Upd.refl _ _).alloc _⟩
    · go_enter Tryz.func84, Tryz.ntmps84
      go_wp2
      go_ret
      exact ⟨retI (by rw [E.out]; simp [k1, k2, k3, k4, k5, k6, k7, k8]), (Upd.refl _ _).alloc _⟩
  | false =>
    by_cases k1 : kind = 1
    · subst k1
      go_enter Tryz.func84, Tryz.ntmps84
      go_wp2
      refine region1 (Upd Non _) [0, 1, 2, 3, 4, 5, 6] 7 follows (by kernel_rfl) (Upd.refl _ _).drew ?_
      repeat (apply head_cons rfl; (next => (intro W hW; have hbx := hW.blk (Blk.new _ _ _) (fun x => x); have hcx := hbx.cell; go_wp2_with (first | (go_at_call 123; refine (check_calls _ _ (by assumption)).mono ?_; rw [hi]; (first | rw [okE_true] | rw [okE_false]); rintro e w' ⟨rfl, hu⟩) | (go_at_call 124; refine (sright_calls _ _ _).mono ?_; rintro e w' ⟨rfl, rfl⟩) | (go_at_call 125; refine (pcheck_calls pol _).mono ?_; rintro e w' ⟨rfl, hu⟩)); first | exact ⟨rfl, hW⟩ | exact ⟨rfl, hW.then (by assumption)⟩)); (next => kernel_rfl))
      refine head_nil ?_
      intro W hW
      have hbx := hW.blk (Blk.new _ _ _) (fun x => x)
      have hcx := hbx.cell
      simp only [List.drop_succ_cons, List.drop_zero]
      go_wp2_with (first | (go_at_call 123; refine (check_calls _ _ (by assumption)).mono ?_; rw [hi]; (first | rw [okE_true] | rw [okE_false]); rintro e w' ⟨rfl, hu⟩) | (go_at_call 124; refine (sright_calls _ _ _).mono ?_; rintro e w' ⟨rfl, rfl⟩) | (go_at_call 125; refine (pcheck_calls pol _).mono ?_; rintro e w' ⟨rfl, hu⟩))
      all_goals
        go_ret
        exact ⟨retI (by rw [E.out]; simp [hi]), by first | exact ((Upd.refl _ _).alloc _).then hW | exact (((Upd.refl _ _).alloc _).then hW).then (by assumption)⟩
    by_cases k2 : kind = 2
    · subst k2
      go_enter Tryz.func84, Tryz.ntmps84
      go_wp2_with (first | (go_at_call 123; refine (check_calls _ _ (by assumption)).mono ?_; rw [hi]; (first | rw [okE_true] | rw [okE_false]); rintro e w' ⟨rfl, hu⟩) | (go_at_call 124; refine (sright_calls _ _ _).mono ?_; rintro e w' ⟨rfl, rfl⟩) | (go_at_call 125; refine (pcheck_calls pol _).mono ?_; rintro e w' ⟨rfl, hu⟩))
      go_ret
      exact ⟨retI (by rw [E.out]; simp), (Upd.refl _ _).alloc _⟩
    by_cases k6 : kind = 6
    · subst k6
      go_enter Tryz.func84, Tryz.ntmps84
      go_wp2
      refine region1 (Upd Non _) [0, 1, 2, 3, 4] 5 follows (by kernel_rfl) (Upd.refl _ _).drew ?_
      repeat (apply head_cons rfl; (next => (intro W hW; have hbx := hW.blk (Blk.new _ _ _) (fun x => x); have hcx := hbx.cell; go_wp2_with (first | (go_at_call 123; refine (check_calls _ _ (by assumption)).mono ?_; rw [hi]; (first | rw [okE_true] | rw [okE_false]); rintro e w' ⟨rfl, hu⟩) | (go_at_call 124; refine (sright_calls _ _ _).mono ?_; rintro e w' ⟨rfl, rfl⟩) | (go_at_call 125; refine (pcheck_calls pol _).mono ?_; rintro e w' ⟨rfl, hu⟩)); first | exact ⟨rfl, hW⟩ | exact ⟨rfl, hW.then (by assumption)⟩)); (next => kernel_rfl))
      refine head_nil ?_
      intro W hW
      have hbx := hW.blk (Blk.new _ _ _) (fun x => x)
      have hcx := hbx.cell
      simp only [List.drop_succ_cons, List.drop_zero]
      go_wp2_with (first | (go_at_call 123; refine (check_calls _ _ (by assumption)).mono ?_; rw [hi]; (first | rw [okE_true] | rw [okE_false]); rintro e w' ⟨rfl, hu⟩) | (go_at_call 124; refine (sright_calls _ _ _).mono ?_; rintro e w' ⟨rfl, rfl⟩) | (go_at_call 125; refine (pcheck_calls pol _).mono ?_; rintro e w' ⟨rfl, hu⟩))
      all_goals
        go_ret
        exact ⟨retI (by rw [E.out]; simp [hi]), by first | exact ((Upd.refl _ _).alloc _).then hW | exact (((Upd.refl _ _).alloc _).then hW).then (by assumption)⟩
    by_cases k5 : kind = 5
    · subst k5
      go_enter Tryz.func84, Tryz.ntmps84
      go_wp2_with (first | (go_at_call 123; refine (check_calls _ _ (by assumption)).mono ?_; rw [hi]; (first | rw [okE_true] | rw [okE_false]); rintro e w' ⟨rfl, hu⟩) | (go_at_call 124; refine (sright_calls _ _ _).mono ?_; rintro e w' ⟨rfl, rfl⟩) | (go_at_call 125; refine (pcheck_calls pol _).mono ?_; rintro e w' ⟨rfl, hu⟩))
      go_ret
      exact ⟨retI (by rw [E.out]; simp [hi, okE_true, okE_false]), ((Upd.refl _ _).alloc _).then (by assumption)⟩
    by_cases k7 : kind = 7
    · subst k7
      go_enter Tryz.func84, Tryz.ntmps84
      go_wp2_with (first | (go_at_call 123; refine (check_calls _ _ (by assumption)).mono ?_; rw [hi]; (first | rw [okE_true] | rw [okE_false]); rintro e w' ⟨rfl, hu⟩) | (go_at_call 124; refine (sright_calls _ _ _).mono ?_; rintro e w' ⟨rfl, rfl⟩) | (go_at_call 125; refine (pcheck_calls pol _).mono ?_; rintro e w' ⟨rfl, hu⟩))
      go_ret
      exact ⟨retI (by rw [E.out]; simp [hi, okE_true, okE_false]), ((Upd.refl _ _).alloc _).then (by assumption)⟩
    by_cases k3 : kind = 3
    · subst k3
      go_enter Tryz.func84, Tryz.ntmps84
      go_wp2_with (first | (go_at_call 123; refine (check_calls _ _ (by assumption)).mono ?_; rw [hi]; (first | rw [okE_true] | rw [okE_false]); rintro e w' ⟨rfl, hu⟩) | (go_at_call 124; refine (sright_calls _ _ _).mono ?_; rintro e w' ⟨rfl, rfl⟩) | (go_at_call 125; refine (pcheck_calls pol _).mono ?_; rintro e w' ⟨rfl, hu⟩))
      go_ret
      exact ⟨retI (by rw [E.out]; simp), (Upd.refl _ _).alloc _⟩
    by_cases k4 : kind = 4
    · subst k4
      go_enter Tryz.func84, Tryz.ntmps84
      go_wp2_with (first | (go_at_call 123; refine (check_calls _ _ (by assumption)).mono ?_; rw [hi]; (first | rw [okE_true] | rw [okE_false]); rintro e w' ⟨rfl, hu⟩) | (go_at_call 124; refine (sright_calls _ _ _).mono ?_; rintro e w' ⟨rfl, rfl⟩) | (go_at_call 125; refine (pcheck_calls pol _).mono ?_; rintro e w' ⟨rfl, hu⟩))
      go_ret
      exact ⟨retI (by rw [E.out]; simp), (Upd.refl _ _).alloc _⟩
    by_cases k8 : kind = 8
    · subst k8
      go_enter Tryz.func84, Tryz.ntmps84
      go_wp2_with (first | (go_at_call 123; refine (check_calls _ _ (by assumption)).mono ?_; rw [hi]; (first | rw [okE_true] | rw [okE_false]); rintro e w' ⟨rfl, hu⟩) | (go_at_call 124; refine (sright_calls _ _ _).mono ?_; rintro e w' ⟨rfl, rfl⟩) | (go_at_call 125; refine (pcheck_calls pol _).mono ?_; rintro e w' ⟨rfl, hu⟩))
      go_ret
      exact ⟨retI (by rw [E.out]; simp), (Upd.refl _ _).alloc _⟩
    · go_enter Tryz.func84, Tryz.ntmps84
      go_wp2
      go_ret
      exact ⟨retI (by rw [E.out]; simp [k1, k2, k3, k4, k5, k6, k7, k8]), (Upd.refl _ _).alloc _⟩
end Go.Proofs.YtmlnjifiaddhjaaGreat
end
section
open Go Go.RowKit Go.Fw
namespace Go.Proofs.YtmlnjifiaddhjaaGreat
set_option maxRecDepth 100000

/-! ### route.Of, calls.Home -/
theorem wrap_u64_bd (x : Int) : 0 ≤ IntKind.u64.wrap x ∧ IntKind.u64.wrap x < 18446744073709551616 := by
  rw [IntKind.wrap_u64]; omega
theorem bits_u64_bd (op : BinOp) (a b : Int) : 0 ≤ bits op .u64 a b ∧ bits op .u64 a b < 18446744073709551616 := by
  unfold bits; exact wrap_u64_bd _
theorem sum64_bd (l : List UInt8) : 0 ≤ sum64 l ∧ sum64 l < 18446744073709551616 := by
  rcases List.eq_nil_or_concat l with rfl | ⟨l', b, rfl⟩
  · unfold sum64; simp only [List.foldl_nil]; omega
  · rw [List.concat_eq_append, sum64_snoc]; exact wrap_u64_bd _
theorem packTo_bd (s : ByteArray) : ∀ n, (0 ≤ (packTo s n).1 ∧ (packTo s n).1 < 18446744073709551616) ∧ (0 ≤ (packTo s n).2 ∧ (packTo s n).2 < 18446744073709551616)
  | 0 => ⟨by simp [packTo], by simp [packTo]⟩
  | n + 1 => by
    have ih := packTo_bd s n
    have e : packTo s (n + 1) = packStep (packTo s n) n (s.data.toList.getD n 0).toNat := rfl
    rw [e]; unfold packStep
    split
    · refine ⟨?_, ih.2⟩; dsimp only; exact bits_u64_bd _ _ _
    · refine ⟨ih.1, ?_⟩; dsimp only; exact bits_u64_bd _ _ _
theorem keyOf_bd (s : ByteArray) : (0 ≤ (keyOf s).1 ∧ (keyOf s).1 < 18446744073709551616) ∧ (0 ≤ (keyOf s).2 ∧ (keyOf s).2 < 18446744073709551616) := packTo_bd s _

/-- The stripe of a key. -/
def routeOf (hi lo n : Int) : Int := if n = 1 then 0 else foldV (keySum hi lo) (bitsV n)
theorem routeOf_bd (hi lo : Int) {n : Int} (h : rightB n = true) : 0 ≤ routeOf hi lo n ∧ routeOf hi lo n < n := by
  unfold routeOf
  split
  · omega
  · unfold foldV
    have hx := bits_u64_bd .xor (keySum hi lo) (keySum hi lo / 2 ^ (bitsV n).toNat)
    generalize bits .xor .u64 (keySum hi lo) (keySum hi lo / 2 ^ (bitsV n).toNat) = x at hx
    have e : IntKind.u64.wrap (IntKind.u64.wrap (2 ^ (bitsV n).toNat) - 1) = n - 1 := by
      rcases right_cases h with rfl | rfl | rfl | rfl | rfl | rfl | rfl <;> first | (exfalso; omega) | rfl
    rw [e]
    have hn := rightB_bd h
    rw [u64_and x (n - 1) hx.1 hx.2 (by omega) (by omega)]
    have := Nat.and_le_right (n := x.toNat) (m := (n - 1).toNat)
    omega

theorem of_calls (hi lo n : Int) (w : World) (h0 : 0 ≤ hi) (h1 : hi < 18446744073709551616) (h2 : 0 ≤ lo) (h3 : lo < 18446744073709551616) (hn : rightB n = true) :
    Calls Tryz.prog 151 #[.agg #[.int .u64 hi, .int .u64 lo], .int .i64 n] w fun e w' => e = .returned (.int .i64 (routeOf hi lo n)) ∧ Upd Non w w' := by
  have hb := rightB_bd hn
  have hr := routeOf_bd hi lo hn
  obtain ⟨hb1, hb2⟩ := hb
  obtain ⟨hr1, hr2⟩ := hr
  have E := hid (show routeOf hi lo n = if n = 1 then 0 else foldV (keySum hi lo) (bitsV n) from rfl)
  by_cases hn1 : n = 1
  · subst hn1
    go_enter Tryz.func151, Tryz.ntmps151
    go_wp2_with (first | (go_at_call 62; refine (right_calls _ _ (by omega) (by omega)).mono ?_; rw [hn]; rintro e w' ⟨rfl, rfl⟩) | (go_at_call 182; refine (key_calls _ _ _ (by assumption) (by assumption) (by assumption) (by assumption)).mono ?_; rintro e w2 ⟨rfl, hu⟩) | (go_at_call 183; refine (bits_calls _ _ (by assumption)).mono ?_; rw [show bitsV 1 = 0 from rfl]; rintro e w' ⟨rfl, rfl⟩) | (go_at_call 181; refine (fold_zero _ _ _ (by omega)).mono ?_; rintro e w' ⟨rfl, rfl⟩))
    go_ret
    exact ⟨retI (by rw [E.out]; rfl), ((Upd.refl _ _).alloc _).then (by assumption)⟩
  · have hbits : 1 ≤ bitsV n ∧ bitsV n ≤ 32 := by
      rcases right_cases hn with rfl | rfl | rfl | rfl | rfl | rfl | rfl <;> first | (exfalso; omega) | (unfold bitsV; omega)
    obtain ⟨hbits1, hbits2⟩ := hbits
    have E2 := hid (show foldV (keySum hi lo) (bitsV n) = routeOf hi lo n by rw [E.out, if_neg hn1])
    go_enter Tryz.func151, Tryz.ntmps151
    go_wp2_with (first | (go_at_call 62; refine (right_calls _ _ (by omega) (by omega)).mono ?_; rw [hn]; rintro e w' ⟨rfl, rfl⟩) | (go_at_call 182; refine (key_calls _ _ _ (by assumption) (by assumption) (by assumption) (by assumption)).mono ?_; rintro e w2 ⟨rfl, hu⟩) | (go_at_call 183; refine (bits_calls _ _ (by assumption)).mono ?_; rintro e w' ⟨rfl, rfl⟩) | (go_at_call 181; refine (fold_calls _ _ _ (by omega) (by omega)).mono ?_; rw [E2.out]; rintro e w' ⟨rfl, rfl⟩))
    go_ret
    exact ⟨retI rfl, ((Upd.refl _ _).alloc _).then (by assumption)⟩

theorem home_calls (c : Cfg) (s : ByteArray) (w : World) (hn : rightB c.st = true) (hs : idOk s = true) (hm : s.size ≤ maxLen) :
    Calls Tryz.prog 127 #[c.v, .string s] w fun e w' => e = .returned (.int .i64 (routeOf (keyOf s).1 (keyOf s).2 c.st)) ∧ Upd Non w w' := by
  obtain ⟨st, sa, lo, hi⟩ := c
  simp only [Cfg.v] at *
  obtain ⟨⟨k1, k2⟩, k3, k4⟩ := keyOf_bd s
  go_enter Tryz.func127, Tryz.ntmps127
  go_wp2_with (first | (go_at_call 86; refine (pack_yes _ _ (by assumption) (by assumption)).mono ?_; rintro e w1 ⟨rfl, hw1⟩; have hb1 := hw1.blk (Blk.new _ _ _) (fun x => x); have hc1 := fun o => (hb1.alloc o).cell) | (go_at_call 151; refine (of_calls _ _ _ _ (by assumption) (by assumption) (by assumption) (by assumption) (by assumption)).mono ?_; rintro e w2 ⟨rfl, hu⟩))
  go_ret
  exact ⟨rfl, ((((Upd.refl _ _).alloc _).then hw1).alloc _).then hu⟩
end Go.Proofs.YtmlnjifiaddhjaaGreat
end
section
open Go Go.RowKit Go.Fw
namespace Go.Proofs.YtmlnjifiaddhjaaGreat
set_option maxRecDepth 100000

/-! ### calls.Ops -/
theorem oneL_length (a b : Int) : (oneL a b).length = 3 := rfl

/-- What a call does between its beginning and its end. -/
def innerL (c : Cfg) (x : Cal) : List (Int × Int) :=
  let h := routeOf (keyOf x.id).1 (keyOf x.id).2 c.st
  if x.kind = 1 ∨ x.kind = 6 then oneL 3 h ++ [(3, c.st + 1), (6, 0), (5, c.st + 1)]
  else if x.kind = 2 then allL 3 c.st.toNat ++ [(4, 0)] ++ allL 5 c.st.toNat
  else if x.kind = 3 then allL 2 c.st.toNat ++ oneL 3 c.st ++ allL 5 c.st.toNat
  else if x.kind = 4 then oneL 3 c.st
  else if x.kind = 5 then oneL 2 c.st
  else if x.kind = 7 then oneL 2 h
  else oneL 3 (c.st + 1)

set_option maxHeartbeats 1000000 in
theorem inner_one (c : Cfg) (x : Cal) (w : World) (h0 : 0 ≤ c.st) (h1 : c.st ≤ 1000) (hn : rightB c.st = true) (hm : x.id.size ≤ maxLen)
    (hk : x.kind = 4 ∨ x.kind = 5 ∨ (x.kind = 7 ∧ idOk x.id = true) ∨ x.kind = 8) :
    Calls Tryz.prog 85 #[c.v, x.v] w fun e w' => ∃ v b, e = .returned v ∧ Ops w' v (innerL c x) (some b) ∧ w.heap.size ≤ b ∧ Upd Non w w' := by
  obtain ⟨st, sa, lo, hi⟩ := c
  obtain ⟨kind, id, tick, value, handle, pol⟩ := x
  have E : Hid (∀ k, k = 4 ∨ k = 5 ∨ (k = 7 ∧ idOk id = true) ∨ k = 8 → innerL ⟨st, sa, lo, hi⟩ ⟨k, id, tick, value, handle, pol⟩ = if k = 4 then oneL 3 st else if k = 5 then oneL 2 st else if k = 7 then oneL 2 (routeOf (keyOf id).1 (keyOf id).2 st) else oneL 3 (st + 1)) := hid fun k hk => by
    rcases hk with rfl | rfl | ⟨rfl, _⟩ | rfl <;> simp [innerL]
  simp only at h0 h1 hn hm hk
  have e0 := E.out kind hk
  simp only [Cfg.v, Cal.v, Cal.cs]
  rcases hk with rfl | rfl | ⟨rfl, hid⟩ | rfl
  all_goals (try simp only [if_true, (by decide : ¬ ((5:Int) = 4)), (by decide : ¬ ((7:Int) = 4)), (by decide : ¬ ((7:Int) = 5)), (by decide : ¬ ((8:Int) = 4)), (by decide : ¬ ((8:Int) = 5)), (by decide : ¬ ((8:Int) = 7)), if_false] at e0)
  all_goals
    go_enter Tryz.func85, Tryz.ntmps85
    go_wp2_with (first | (go_at_call 53; refine (cuts_calls ⟨st, sa, lo, hi⟩ _).mono ?_; rintro e w' ⟨rfl, rfl⟩) | (go_at_call 28; refine (line_calls ⟨st, sa, lo, hi⟩ _ (by assumption) (by assumption)).mono ?_; rintro e w' ⟨rfl, rfl⟩) | (go_at_call 127; refine (home_calls ⟨st, sa, lo, hi⟩ _ _ (by assumption) (by assumption) (by assumption)).mono ?_; rintro e w' ⟨rfl, huh⟩) | (go_at_call 126; refine (one_calls _ _ _).mono ?_; rintro e w' ⟨v, b, rfl, ho, hb, hu⟩))
    go_ret
    try simp only [World.size_alloc] at hb
    refine ⟨v, b, rfl, by rw [e0]; exact ho, ?_, ?_⟩
    · first | omega | (have := huh.size; simp only [World.size_alloc] at this; omega)
    · first | exact ((((Upd.refl _ _).alloc _).alloc _).alloc _).then hu | exact ((((Upd.refl _ _).alloc _).alloc _).then huh).then hu

def InnerOk (c : Cfg) (x : Cal) : Prop := ∀ w, Calls Tryz.prog 85 #[c.v, x.v] w fun e w' => ∃ v ob, e = .returned v ∧ Ops w' v (innerL c x) ob ∧ (∀ b, ob = some b → w.heap.size ≤ b) ∧ Upd Non w w'
theorem innerOk_one (c : Cfg) (x : Cal) (h0 : 0 ≤ c.st) (h1 : c.st ≤ 1000) (hn : rightB c.st = true) (hm : x.id.size ≤ maxLen)
    (hk : x.kind = 4 ∨ x.kind = 5 ∨ (x.kind = 7 ∧ idOk x.id = true) ∨ x.kind = 8) : InnerOk c x := fun w =>
  (inner_one c x w h0 h1 hn hm hk).mono fun e w' ⟨v, b, h1, h2, h3, h4⟩ => ⟨v, some b, h1, h2, (fun _ e => by cases e; exact h3), h4⟩

/-- The steps of a call. -/
def opsL (c : Cfg) (x : Cal) : List (Int × Int) := [(1, 0)] ++ (if x.err = 0 then innerL c x else []) ++ [(7, 0)]

theorem allL_le (k : Int) (n : Nat) : (allL k n).length = n := allL_length k n
theorem innerL_len (c : Cfg) (x : Cal) (h1 : c.st ≤ 1000) : (innerL c x).length ≤ 2100 := by
  unfold innerL
  simp only
  split
  · simp [oneL]
  split
  · simp [allL_length]; omega
  split
  · simp [allL_length, oneL]; omega
  split
  · simp [oneL]
  split
  · simp [oneL]
  split <;> simp [oneL]

set_option maxHeartbeats 1000000 in
theorem ops_calls (c : Cfg) (x : Cal) (w : World) (hwf : c.wf) (hok : c.ok = true) (h1 : c.st ≤ 1000) (hm : x.id.size ≤ maxLen) (hin : x.err = 0 → InnerOk c x) :
    Calls Tryz.prog 48 #[c.v, x.v] w fun e w' => ∃ v ob, e = .returned v ∧ Ops w' v (opsL c x) ob ∧ (∀ b, ob = some b → w.heap.size ≤ b) ∧ Upd Non w w' := by
  have hlen := innerL_len c x h1
  have hright : Hid (okE c.ok 1 = 0) := hid (by rw [hok]; rfl)
  have EO := hid (show opsL c x = [(1, 0)] ++ (if x.err = 0 then innerL c x else []) ++ [(7, 0)] from rfl)
  by_cases he : x.err = 0
  · have hinner := hin he
    have EO2 : Hid (opsL c x = [((1 : Int), (0 : Int))] ++ innerL c x ++ [(7, 0)]) := hid (by rw [EO.out, if_pos he])
    unfold InnerOk at hinner
    generalize innerL c x = il at *
    obtain ⟨st, sa, lo, hi⟩ := c
    obtain ⟨kind, id, tick, value, handle, pol⟩ := x
    have hch := fun w => scheck_calls ⟨kind, id, tick, value, handle, pol⟩ w hm
    rw [he] at hch
    simp only [Cfg.v, Cal.v, Cal.cs] at *
    go_enter Tryz.func48, Tryz.ntmps48
    go_wp2_with (first | (go_at_call 26; refine (nright_calls ⟨st, sa, lo, hi⟩ _ hwf).mono ?_; rw [hright.out]; rintro e w' ⟨rfl, rfl⟩) | (go_at_call 84; refine (hch _).mono ?_; rintro e w2 ⟨rfl, hu2⟩; obtain ⟨q1, q2, q3⟩ := hu2.keep) | (go_at_call 85; refine (hinner _).mono ?_; rintro e w3 ⟨v3, ob3, rfl, ho3, hb3, hu3⟩; obtain ⟨r1, r2, r3⟩ := hu3.keep) | (at_builtin; have hA := Slc.upd (Slc.upd (Slc.of_blk (n := 1) (k := 2) (Blk.new _ _ _) rfl (by unfold maxLen; omega)) hu2 (fun _ _ x => x)) hu3 (fun _ _ x => x); simp only [World.size_alloc] at hA; go_loud (refine wpList_append elOp rfl _ _ rfl rfl rfl hA ho3 (opCells_one _) (by unfold maxLen; omega) (by omega) ?_); intro v4 w4 ob4 hs4 hu4 hb4) | (at_builtin; go_loud (refine wpList_append elOp rfl _ _ rfl rfl rfl (Slc.upd hs4 ((Upd.refl Non _).alloc _) (fun _ _ x => x)) (Slc.of_blk (Blk.new _ _ _) rfl (by unfold maxLen; omega)) (by simp [Value.oneCell']) (by unfold maxLen; omega) (by omega) ?_); intro v5 w5 ob5 hs5 hu5 hb5))
    go_ret
    have s2 := hu2.size
    have s3 := hu3.size
    have s4 := hu4.size
    simp only [World.size_alloc] at s2 s3 s4
    refine ⟨_, rfl, ob5, ?_, fun b e => ?_, ?_⟩
    · unfold Ops; rw [EO2.out, opCells_append, opCells_append, List.length_append, List.length_append]; exact hs5
    · rcases hb5 b e with h | h
      · rcases hb4 b h with h | h
        · cases h; omega
        · omega
      · simp only [World.size_alloc] at h; omega
    · have u2 := Upd.then (((((Upd.refl Non _).alloc _).alloc _).alloc _).alloc _) hu2
      refine Upd.step (Upd.alloc (Upd.step (u2.then hu3) hu4 fun b hb e => ?_) _) hu5 fun b hb e => ?_
      · cases e; omega
      · rcases hb4 b e with h | h
        · cases h; omega
        · omega
  · have EO2 : Hid (opsL c x = [((1 : Int), (0 : Int))] ++ [(7, 0)]) := hid (by rw [EO.out, if_neg he]; rfl)
    obtain ⟨st, sa, lo, hi⟩ := c
    obtain ⟨kind, id, tick, value, handle, pol⟩ := x
    have hch := fun w => scheck_calls ⟨kind, id, tick, value, handle, pol⟩ w hm
    generalize Cal.err ⟨kind, id, tick, value, handle, pol⟩ = er at *
    simp only [Cfg.v, Cal.v, Cal.cs] at *
    go_enter Tryz.func48, Tryz.ntmps48
    go_wp2_with (first | (go_at_call 26; refine (nright_calls ⟨st, sa, lo, hi⟩ _ hwf).mono ?_; rw [hright.out]; rintro e w' ⟨rfl, rfl⟩) | (go_at_call 84; refine (hch _).mono ?_; rintro e w2 ⟨rfl, hu2⟩; obtain ⟨q1, q2, q3⟩ := hu2.keep) | (at_builtin; have hA := Slc.upd (Slc.of_blk (n := 1) (k := 2) (Blk.new _ _ _) rfl (by unfold maxLen; omega)) hu2 (fun _ _ x => x); simp only [World.size_alloc] at hA; go_loud (refine wpList_append elOp rfl _ _ rfl rfl rfl (Slc.upd hA ((Upd.refl Non _).alloc _) (fun _ _ x => x)) (Slc.of_blk (Blk.new _ _ _) rfl (by unfold maxLen; omega)) (by simp [Value.oneCell']) (by unfold maxLen; omega) (by omega) ?_); intro v5 w5 ob5 hs5 hu5 hb5))
    go_ret
    have s2 := hu2.size
    simp only [World.size_alloc] at s2
    refine ⟨_, rfl, ob5, ?_, fun b e => ?_, ?_⟩
    · unfold Ops; rw [EO2.out, opCells_append, List.length_append]; exact hs5
    · rcases hb5 b e with h | h
      · cases h; omega
      · simp only [World.size_alloc] at h; omega
    · have u2 := Upd.then (((((Upd.refl Non _).alloc _).alloc _).alloc _).alloc _) hu2
      refine Upd.step (Upd.alloc u2 _) hu5 fun b hb e => ?_
      cases e; omega
end Go.Proofs.YtmlnjifiaddhjaaGreat
end
section
open Go Go.RowKit Go.Fw
namespace Go.Proofs.YtmlnjifiaddhjaaGreat
set_option maxRecDepth 100000

/-! ### rwlock -/
def bitV (t : Int) : Int := if t < 0 ∨ 32 ≤ t then 0 else 2 ^ t.toNat
theorem bit_calls (t : Int) (w : World) :
    Calls Tryz.prog 83 #[.int .i64 t] w fun e w' => e = .returned (.int .u32 (bitV t)) ∧ w = w' := by
  by_cases h1 : t < 0
  · go_enter Tryz.func83, Tryz.ntmps83
    go_wp2
    go_ret
    exact ⟨by simp [bitV, h1], rfl⟩
  by_cases h2 : 32 ≤ t
  · go_enter Tryz.func83, Tryz.ntmps83
    go_wp2
    go_ret
    exact ⟨by simp [bitV, h2], rfl⟩
  · go_enter Tryz.func83, Tryz.ntmps83
    go_wp2
    go_ret
    have e : (2:Int) ^ t.toNat % 4294967296 = bitV t := by
      unfold bitV; rw [if_neg (by omega)]
      refine Int.emod_eq_of_lt (by exact Int.pow_nonneg (by omega)) ?_
      have : (2:Int) ^ t.toNat < 2 ^ 32 := Int.pow_lt_pow_of_lt (by omega) (by omega)
      simpa using this
    exact ⟨by simp [e], rfl⟩

/-- A lock: its readers' bits, its writer's, and who waits. -/
structure Lk where
  rd : Int
  wr : Int
  line : List (Int × Bool)
def heldV (rd wr t : Int) : Int := if bitV t = 0 then 0 else if bits .and .u32 wr (bitV t) = 0 then (if bits .and .u32 rd (bitV t) = 0 then 0 else 1) else 2

theorem held_nil (t : Int) (w : World) : Calls Tryz.prog 47 #[.pointer none, .int .i64 t] w fun e w' => e = .returned (.int .i64 0) ∧ w = w' := by
  go_enter Tryz.func47, Tryz.ntmps47
  go_wp2_with (go_at_call 83; refine (bit_calls _ _).mono ?_; rintro e w' ⟨rfl, rfl⟩)
  go_ret
  exact ⟨rfl, rfl⟩
theorem held_calls (b o : Nat) (t : Int) (w : World) (rd wr : Int) (h0 : w.cell? ⟨b, o, none⟩ = some (.int .u32 rd)) (h1 : w.cell? ⟨b, o + 1, none⟩ = some (.int .u32 wr)) :
    Calls Tryz.prog 47 #[.pointer (some ⟨b, o, none⟩), .int .i64 t] w fun e w' => e = .returned (.int .i64 (heldV rd wr t)) ∧ w = w' := by
  have E := hid (show heldV rd wr t = if bitV t = 0 then 0 else if bits .and .u32 wr (bitV t) = 0 then (if bits .and .u32 rd (bitV t) = 0 then 0 else 1) else 2 from rfl)
  have hb := bit_calls t
  generalize heldV rd wr t = r at E
  generalize bitV t = m at E hb
  by_cases c1 : m = 0
  · go_enter Tryz.func47, Tryz.ntmps47
    go_wp2_with (go_at_call 83; refine (hb _).mono ?_; rintro e w' ⟨rfl, rfl⟩)
    go_ret
    exact ⟨retI (by rw [E.out, if_pos c1]), rfl⟩
  by_cases c2 : bits .and .u32 wr m = 0
  · by_cases c3 : bits .and .u32 rd m = 0
    · go_enter Tryz.func47, Tryz.ntmps47
      go_wp2_with (go_at_call 83; refine (hb _).mono ?_; rintro e w' ⟨rfl, rfl⟩)
      go_ret
      exact ⟨retI (by rw [E.out, if_neg c1, if_pos c2, if_pos c3]), rfl⟩
    · go_enter Tryz.func47, Tryz.ntmps47
      go_wp2_with (go_at_call 83; refine (hb _).mono ?_; rintro e w' ⟨rfl, rfl⟩)
      go_ret
      exact ⟨retI (by rw [E.out, if_neg c1, if_pos c2, if_neg c3]), rfl⟩
  · go_enter Tryz.func47, Tryz.ntmps47
    go_wp2_with (go_at_call 83; refine (hb _).mono ?_; rintro e w' ⟨rfl, rfl⟩)
    go_ret
    exact ⟨retI (by rw [E.out, if_neg c1, if_neg c2]), rfl⟩

/-! ### slices.Contains over ints -/
def intCells (l : List Int) : List Value := l.map fun x => .int .i64 x
theorem intCells_append (a b : List Int) : intCells (a ++ b) = intCells a ++ intCells b := by simp [intCells]
def Ints (w : World) (v : Value) (l : List Int) (ob : Option Nat) : Prop := Slc w 3 1 v (intCells l) l.length ob
theorem elInt : El Tryz.prog 36 3 1 8 := El.of (by kernel_rfl) (by kernel_rfl) (by decide)

theorem index_calls (v : Value) (l : List Int) (ob : Option Nat) (t : Int) (w : World) (h : Ints w v l ob) :
    Calls Tryz.prog 130 #[v, .int .i64 t] w fun e w' => ∃ n, e = .returned (.int .i64 n) ∧ (0 ≤ n ↔ t ∈ l) ∧ w = w' := by
  obtain ⟨a, cap, rfl, hcap, hmax, hnil⟩ := Slc.val h
  have hbig : l.length ≤ 9223372036854775807 := by unfold maxLen at hmax; omega
  go_enter Tryz.func130, Tryz.ntmps130
  go_wp2
  go_loop [8] (fun i => ∃ k : Nat, k ≤ l.length ∧ i = .int .i64 k ∧ ∀ j, j < k → l[j]? ≠ some t) (fun i => l.length - (intOf i).toNat)
  case atStart => exact ⟨0, Nat.zero_le _, rfl, fun j hj => absurd hj (Nat.not_lt_zero _)⟩
  case round =>
    obtain ⟨k, hk, rfl, hno⟩ := hrel
    by_cases hlt : k < l.length
    · obtain ⟨b, off, cap', hv, _, _, _, _, hcell⟩ := Slc.form h (by omega)
      obtain ⟨rfl, rfl⟩ : a = some ⟨b, off, none⟩ ∧ cap = cap' := by cases hv; exact ⟨rfl, rfl⟩
      have hc := hcell k 0 hlt (by decide)
      simp only [Nat.mul_one, Nat.add_zero, intCells, List.getElem?_map, List.getElem?_eq_getElem hlt, Option.map_some] at hc
      by_cases he : t = l[k]
      · go_wp2
        go_ret
        exact ⟨_, rfl, Int.natCast_nonneg _, rfl⟩
      · go_wp2
        go_round
        case rel =>
          refine ⟨k + 1, by omega, by go_num, fun j hj => ?_⟩
          rcases Nat.lt_succ_iff_lt_or_eq.1 hj with h | rfl
          · exact hno j h
          · rw [List.getElem?_eq_getElem hlt]; intro e; exact he (by injection e with e; exact e.symm)
        case measure => simp [intOf]; omega
    · obtain rfl : k = l.length := by omega
      go_wp2
      go_ret
      refine ⟨_, rfl, ⟨fun h => absurd h (by decide), fun h => ?_⟩, rfl⟩
      obtain ⟨j, hj, e⟩ := List.getElem_of_mem h
      exact absurd (by rw [List.getElem?_eq_getElem hj, e]) (hno j hj)
theorem contains_calls (v : Value) (l : List Int) (ob : Option Nat) (t : Int) (w : World) (h : Ints w v l ob) :
    Calls Tryz.prog 87 #[v, .int .i64 t] w fun e w' => e = .returned (.bool (decide (t ∈ l))) ∧ w = w' := by
  have hi := index_calls v l ob t w h
  by_cases hm : t ∈ l
  · go_enter Tryz.func87, Tryz.ntmps87
    go_wp2_with (go_at_call 130; refine hi.mono ?_; rintro e w' ⟨n, rfl, hn, rfl⟩; have hn' := hn.2 hm)
    go_ret
    exact ⟨by simp [hm], rfl⟩
  · go_enter Tryz.func87, Tryz.ntmps87
    go_wp2_with (go_at_call 130; refine hi.mono ?_; rintro e w' ⟨n, rfl, hn, rfl⟩; have hn' : ¬ 0 ≤ n := fun h => hm (hn.1 h))
    go_ret
    exact ⟨by simp [hm], rfl⟩
end Go.Proofs.YtmlnjifiaddhjaaGreat
end
section
open Go Go.RowKit Go.Fw
namespace Go.Proofs.YtmlnjifiaddhjaaGreat
set_option maxRecDepth 100000

theorem Slc.fresh {w : World} {t : TypeId} {k b : Nat} {arr : Array Value} {n : Nat} (hb : b = w.heap.size) (hs : arr.size = n * k) (hm : n ≤ maxLen) :
    Slc (w.alloc (.cells arr t)) t k (.slice (some ⟨b, 0, none⟩) n n) arr.toList n (some b) := by
  subst hb; exact Slc.of_blk (Blk.new _ _ _) hs hm

def fitsV (rd wr : Int) (write : Bool) : Bool := decide (wr = 0) && (!write || decide (rd = 0))
theorem fits_calls (b o : Nat) (write : Bool) (w : World) (rd wr : Int) (h0 : w.cell? ⟨b, o, none⟩ = some (.int .u32 rd)) (h1 : w.cell? ⟨b, o + 1, none⟩ = some (.int .u32 wr)) :
    Calls Tryz.prog 88 #[.pointer (some ⟨b, o, none⟩), .bool write] w fun e w' => e = .returned (.bool (fitsV rd wr write)) ∧ w = w' := by
  have E := hid (show fitsV rd wr write = (decide (wr = 0) && (!write || decide (rd = 0))) from rfl)
  generalize fitsV rd wr write = r at E
  by_cases c1 : wr = 0
  · cases write
    · go_enter Tryz.func88, Tryz.ntmps88
      go_wp2; go_ret
      exact ⟨by rw [E.out]; simp [c1], rfl⟩
    · by_cases c2 : rd = 0
      · go_enter Tryz.func88, Tryz.ntmps88
        go_wp2; go_ret
        exact ⟨by rw [E.out]; simp [c1, c2], rfl⟩
      · go_enter Tryz.func88, Tryz.ntmps88
        go_wp2; go_ret
        exact ⟨by rw [E.out]; simp [c1, c2], rfl⟩
  · go_enter Tryz.func88, Tryz.ntmps88
    go_wp2; go_ret
    exact ⟨by rw [E.out]; simp [c1], rfl⟩

/-- The cells of a lock that is given: to one who writes, or to one more that reads. -/
def giveC (c : Array Value) (o : Nat) (rd wr : Int) (t : Int) (write : Bool) : Array Value :=
  if write then c.setIfInBounds (o + 1) (.int .u32 (bits .or .u32 wr (bitV t))) else c.setIfInBounds o (.int .u32 (bits .or .u32 rd (bitV t)))

theorem give_calls (b o : Nat) (c : Array Value) (ty : TypeId) (t : Int) (write : Bool) (w : World) (rd wr : Int) (hb : Blk w b c ty) (h0 : c[o]? = some (.int .u32 rd)) (h1 : c[o + 1]? = some (.int .u32 wr)) :
    Calls Tryz.prog 89 #[.pointer (some ⟨b, o, none⟩), .agg #[.int .i64 t, .bool write]] w fun e w' => e = .returned (.tuple #[]) ∧ Blk w' b (giveC c o rd wr t write) ty ∧ Upd (fun x => x = b) w w' := by
  have hc := hb.cell
  have hf := hb.frozen
  have hl := hb.lt
  cases write
  · have E := hid (show giveC c o rd wr t false = c.setIfInBounds o (.int .u32 (bits .or .u32 rd (bitV t))) from rfl)
    go_enter Tryz.func89, Tryz.ntmps89
    go_wp2
    refine region0 [0, 1, 2, 3, 4, 5, 6] 7 follows (by kernel_rfl) ?_
    repeat (apply head0_cons rfl; (next => (go_wp2_with (go_at_call 83; refine (bit_calls _ _).mono ?_; rintro e w' ⟨rfl, rfl⟩); first | exact ⟨rfl, rfl⟩ | exact ⟨rfl, trivial⟩)); (next => kernel_rfl))
    refine head0_nil ?_; simp only [List.drop_succ_cons, List.drop_zero]
    go_wp2
    refine bodyPost_end (results_none rfl _ _ _) rfl ⟨rfl, ?_, ?_⟩
    · rw [E.out]; exact ((hb.set _ _).alloc _).drew
    · exact (((Upd.refl (fun x => x = b) _).setCell (.inr rfl) _).alloc _).drew
  · have E := hid (show giveC c o rd wr t true = c.setIfInBounds (o + 1) (.int .u32 (bits .or .u32 wr (bitV t))) from rfl)
    go_enter Tryz.func89, Tryz.ntmps89
    go_wp2
    refine region0 [0, 1, 2, 3, 4, 5, 6] 7 follows (by kernel_rfl) ?_
    repeat (apply head0_cons rfl; (next => (go_wp2_with (go_at_call 83; refine (bit_calls _ _).mono ?_; rintro e w' ⟨rfl, rfl⟩); first | exact ⟨rfl, rfl⟩ | exact ⟨rfl, trivial⟩)); (next => kernel_rfl))
    refine head0_nil ?_; simp only [List.drop_succ_cons, List.drop_zero]
    go_wp2
    refine bodyPost_end (results_none rfl _ _ _) rfl ⟨rfl, ?_, ?_⟩
    · rw [E.out]; exact ((hb.set _ _).alloc _).drew
    · exact (((Upd.refl (fun x => x = b) _).setCell (.inr rfl) _).alloc _).drew

/-! ### Waiting -/
def lineCells (l : List (Int × Bool)) : List Value := l.flatMap fun x => [.int .i64 x.1, .bool x.2]
theorem lineCells_append (a b : List (Int × Bool)) : lineCells (a ++ b) = lineCells a ++ lineCells b := by simp [lineCells]
theorem lineCells_one (l : List (Int × Bool)) : ∀ u ∈ lineCells l, u.oneCell' = true := by
  intro u hu
  simp only [lineCells, List.mem_flatMap, List.mem_cons, List.not_mem_nil, or_false] at hu
  obtain ⟨o, _, rfl | rfl⟩ := hu <;> rfl
theorem lineCells_get (l : List (Int × Bool)) : ∀ (k : Nat) (h : k < l.length), (lineCells l)[k * 2]? = some (.int .i64 l[k].1) ∧ (lineCells l)[k * 2 + 1]? = some (.bool l[k].2) := by
  induction l with
  | nil => intro k h; exact absurd h (Nat.not_lt_zero _)
  | cons x l ih =>
    intro k h
    have e : lineCells (x :: l) = .int .i64 x.1 :: .bool x.2 :: lineCells l := rfl
    cases k with
    | zero => rw [e]; exact ⟨rfl, rfl⟩
    | succ k =>
      rw [e, show (k + 1) * 2 = k * 2 + 1 + 1 by omega, show k * 2 + 1 + 1 + 1 = k * 2 + 1 + 1 + 1 from rfl]
      simp only [List.getElem?_cons_succ, List.getElem_cons_succ]
      exact ih k (by simpa using h)
def LineS (w : World) (v : Value) (l : List (Int × Bool)) (ob : Option Nat) : Prop := Slc w 180 2 v (lineCells l) l.length ob
theorem elLine : El Tryz.prog 96 180 2 16 := El.of (by kernel_rfl) (by kernel_rfl) (by decide)

theorem waiting_nil (w : World) : Calls Tryz.prog 46 #[.pointer none] w fun e w' => e = .returned (.slice none 0 0) ∧ w = w' := by
  go_enter Tryz.func46, Tryz.ntmps46
  go_wp2; go_ret
  exact ⟨rfl, rfl⟩

theorem waiting_calls (b o : Nat) (lv : Value) (l : List (Int × Bool)) (ob : Option Nat) (w : World) (h2 : w.cell? ⟨b, o + 2, none⟩ = some lv) (hl : LineS w lv l ob) (hm : l.length ≤ 1000000) :
    Calls Tryz.prog 46 #[.pointer (some ⟨b, o, none⟩)] w fun e w' => ∃ v ob', e = .returned v ∧ Ints w' v (l.map (·.1)) ob' ∧ (∀ x, ob' = some x → w.heap.size ≤ x) ∧ Upd Non w w' := by
  obtain ⟨a, cap, rfl, hcap, hmax, hnil⟩ := Slc.val hl
  go_enter Tryz.func46, Tryz.ntmps46
  go_wp2
  go_loopw [3, 13] (fun v i wr => ∃ (k : Nat) (ob' : Option Nat), k ≤ l.length ∧ i = .int .i64 k ∧ Ints wr v ((l.take k).map (·.1)) ob' ∧ (∀ b, ob' = some b → w.heap.size ≤ b) ∧ Upd Non w wr) (fun _ i _ => l.length - (intOf i).toNat)
  case atStart => exact ⟨0, none, Nat.zero_le _, rfl, Slc.nil _ _ _, (fun b e => by cases e), Upd.refl _ _⟩
  case round =>
    obtain ⟨k, ob', hk, rfl, hi, hob, hU⟩ := hrel
    by_cases hlt : k < l.length
    · obtain ⟨b', off, cap', hv, _, _, _, hlt', hcell⟩ := Slc.form (Slc.upd hl hU fun _ _ x => x) (by omega)
      obtain ⟨rfl, rfl⟩ : a = some ⟨b', off, none⟩ ∧ cap = cap' := by cases hv; exact ⟨rfl, rfl⟩
      have hc0 := hcell k 0 hlt (by decide)
      have hc1 := hcell k 1 hlt (by decide)
      simp only [Nat.add_zero, (lineCells_get l k hlt).1, (lineCells_get l k hlt).2] at hc0 hc1
      clear hcell
      have hln : ((l.take k).map (·.1)).length = k := by simp; omega
      have hi' : Slc wr 3 1 u3 (intCells ((l.take k).map (·.1))) k ob' := by have := hi; unfold Ints at this; rw [hln] at this; exact this
      go_wp2_with (at_builtin; go_loud (refine wpList_append elInt rfl _ _ rfl rfl rfl (Slc.upd hi' (((Upd.refl Non _).alloc _).alloc _) fun _ _ x => x) (Slc.fresh (by simp only [World.size_alloc]) rfl (by unfold maxLen; omega)) (by simp [Value.oneCell']) (by unfold maxLen; omega) (by omega) ?_); intro v' w' ob2 hs hu hb)
      go_roundw
      case rel =>
        refine ⟨k + 1, ob2, by omega, by go_num, ?_, fun b e => ?_, ?_⟩
        · unfold Ints
          rw [List.take_succ_eq_append_getElem hlt, List.map_append, intCells_append, List.length_append, hln]; exact hs
        · have hz := hU.size
          rcases hb b e with h | h
          · exact hob b h
          · simp only [World.size_alloc] at h; omega
        · refine Upd.step ((hU.alloc _).alloc _) hu fun b hb' e => ?_
          have := hob b e; omega
      case measure => simp [intOf]; omega
    · obtain rfl : k = l.length := by omega
      rw [List.take_length] at hi
      go_wp2
      go_ret
      exact ⟨_, ob', rfl, hi, hob, hU⟩
end Go.Proofs.YtmlnjifiaddhjaaGreat
end
section
open Go Go.RowKit Go.Fw
namespace Go.Proofs.YtmlnjifiaddhjaaGreat
set_option maxRecDepth 100000

/-- The cells of a lock. -/
def lkC (c : Array Value) (o : Nat) (k : Lk) (lv : Value) : Array Value := ((c.setIfInBounds o (.int .u32 k.rd)).setIfInBounds (o + 1) (.int .u32 k.wr)).setIfInBounds (o + 2) lv
theorem lkC_get (c : Array Value) (o : Nat) (k : Lk) (lv : Value) (i : Nat) : (lkC c o k lv)[i]? = if i = o + 2 then (if i < c.size then some lv else none) else if i = o + 1 then (if i < c.size then some (.int .u32 k.wr) else none) else if i = o then (if i < c.size then some (.int .u32 k.rd) else none) else c[i]? := by
  unfold lkC
  simp only [Array.getElem?_setIfInBounds, Array.size_setIfInBounds]
  by_cases e2 : i = o + 2
  · subst e2; simp
  by_cases e1 : i = o + 1
  · subst e1; simp
  by_cases e0 : i = o
  · subst e0; simp
  · simp [Ne.symm e2, Ne.symm e1, Ne.symm e0, e0, e1, e2]
structure LkAt (c : Array Value) (o : Nat) (k : Lk) (lv : Value) : Prop where
  rd : c[o]? = some (.int .u32 k.rd)
  wr : c[o + 1]? = some (.int .u32 k.wr)
  ln : c[o + 2]? = some lv
theorem LkAt.lt {c : Array Value} {o : Nat} {k : Lk} {lv : Value} (h : LkAt c o k lv) : o + 2 < c.size := (Array.getElem?_eq_some_iff.1 h.ln).1
theorem LkAt.self {c : Array Value} {o : Nat} {k : Lk} {lv : Value} (h : LkAt c o k lv) : lkC c o k lv = c := by
  apply Array.ext_getElem?
  intro i
  have hl := h.lt
  rw [lkC_get]
  split
  · subst i; rw [if_pos hl, h.ln]
  split
  · subst i; rw [if_pos (by omega), h.wr]
  split
  · subst i; rw [if_pos (by omega), h.rd]
  · rfl
theorem LkAt.of {c : Array Value} {o : Nat} (hl : o + 2 < c.size) (k : Lk) (lv : Value) : LkAt (lkC c o k lv) o k lv := by
  refine ⟨?_, ?_, ?_⟩ <;> rw [lkC_get] <;> simp <;> omega
def Lk.give (k : Lk) (t : Int) (write : Bool) : Lk := if write then { k with wr := bits .or .u32 k.wr (bitV t) } else { k with rd := bits .or .u32 k.rd (bitV t) }
theorem Lk.give_line (k : Lk) (t : Int) (write : Bool) : (k.give t write).line = k.line := by unfold Lk.give; split <;> rfl
theorem LkAt.gives {c : Array Value} {o : Nat} {k : Lk} {lv : Value} (h : LkAt c o k lv) (t : Int) (write : Bool) : giveC c o k.rd k.wr t write = lkC c o (k.give t write) lv := by
  apply Array.ext_getElem?
  intro i
  have hl := h.lt
  rw [lkC_get]
  unfold giveC Lk.give
  cases write
  · simp only [Bool.false_eq_true, if_false, Array.getElem?_setIfInBounds]
    by_cases e2 : i = o + 2
    · subst e2; have hln := h.ln; simp [hl] at hln ⊢; exact hln
    by_cases e1 : i = o + 1
    · subst e1; simp [h.wr]; omega
    by_cases e0 : i = o
    · subst e0; simp
    · simp [Ne.symm e0, e0, e1, e2]
  · simp only [if_true, Array.getElem?_setIfInBounds]
    by_cases e2 : i = o + 2
    · subst e2; have hln := h.ln; simp [hl] at hln ⊢; exact hln
    by_cases e1 : i = o + 1
    · subst e1; simp
    by_cases e0 : i = o
    · subst e0; simp [h.rd]; omega
    · simp [Ne.symm e1, e0, e1, e2]
theorem lkC_setLine {c : Array Value} {o : Nat} {k : Lk} {lv : Value} (h : LkAt c o k lv) (lv' : Value) (l : List (Int × Bool)) : c.setIfInBounds (o + 2) lv' = lkC c o { k with line := l } lv' := by
  apply Array.ext_getElem?
  intro i
  have hl := h.lt
  rw [lkC_get, Array.getElem?_setIfInBounds]
  by_cases e2 : i = o + 2
  · subst e2; simp
  by_cases e1 : i = o + 1
  · subst e1; simp [h.wr]; omega
  by_cases e0 : i = o
  · subst e0; simp [h.rd]; omega
  · simp [Ne.symm e2, e0, e1, e2]

/-- What asking comes to: is it given, the error, the lock. -/
def askR (k : Lk) (t : Int) (write : Bool) : Bool × Int × Lk :=
  if bitV t = 0 then (false, 1, k)
  else if heldV k.rd k.wr t ≠ 0 ∨ t ∈ k.line.map (·.1) then (false, 15, k)
  else if k.line.length = 0 ∧ fitsV k.rd k.wr write = true then (true, 0, k.give t write)
  else (false, 0, { k with line := k.line ++ [(t, write)] })

theorem ask_nil (t : Int) (write : Bool) (w : World) : Calls Tryz.prog 60 #[.pointer none, .int .i64 t, .bool write] w fun e w' => e = .returned (.tuple #[.bool false, .int .i64 1]) ∧ w = w' := by
  go_enter Tryz.func60, Tryz.ntmps60
  go_wp2_with (go_at_call 83; refine (bit_calls _ _).mono ?_; rintro e w' ⟨rfl, rfl⟩)
  go_ret2
  exact ⟨rfl, rfl⟩

set_option maxHeartbeats 1000000 in
theorem ask_calls (b o : Nat) (c : Array Value) (ty : TypeId) (k : Lk) (lv : Value) (ob : Option Nat) (t : Int) (write : Bool) (w : World)
    (hb : Blk w b c ty) (hk : LkAt c o k lv) (hl : LineS w lv k.line ob) (hne : ob ≠ some b) (hm : k.line.length ≤ 1000) :
    Calls Tryz.prog 60 #[.pointer (some ⟨b, o, none⟩), .int .i64 t, .bool write] w fun e w' => ∃ lv' ob', e = .returned (.tuple #[.bool (askR k t write).1, .int .i64 (askR k t write).2.1]) ∧
      Blk w' b (lkC c o (askR k t write).2.2 lv') ty ∧ LineS w' lv' (askR k t write).2.2.line ob' ∧ (∀ x, ob' = some x → ob = some x ∨ w.heap.size ≤ x) ∧ Upd (fun x => x = b ∨ ob = some x) w w' := by
  have hc := hb.cell
  have hf := hb.frozen
  have hlt := hb.lt
  obtain ⟨h0, h1, h2⟩ := id hk
  obtain ⟨rd, wr, line⟩ := k
  simp only at h0 h1 h2 hl hm
  have hbit := bit_calls t
  have hheld := fun w h0 h1 => held_calls b o t w rd wr h0 h1
  have E := hid (show askR ⟨rd, wr, line⟩ t write = if bitV t = 0 then (false, 1, ⟨rd, wr, line⟩)
    else if heldV rd wr t ≠ 0 ∨ t ∈ line.map (·.1) then (false, 15, ⟨rd, wr, line⟩)
    else if line.length = 0 ∧ fitsV rd wr write = true then (true, 0, Lk.give ⟨rd, wr, line⟩ t write)
    else (false, 0, ⟨rd, wr, line ++ [(t, write)]⟩) from rfl)
  have hself := hid hk.self
  by_cases c1 : bitV t = 0
  · have E1 := hid (show askR ⟨rd, wr, line⟩ t write = (false, 1, ⟨rd, wr, line⟩) by rw [E.out, if_pos c1])
    go_enter Tryz.func60, Tryz.ntmps60
    go_wp2_with (go_at_call 83; refine (hbit _).mono ?_; rw [c1]; rintro e w' ⟨rfl, rfl⟩)
    go_ret2
    rw [E1.out]
    exact ⟨lv, ob, rfl, by rw [hself.out]; exact hb, hl, fun x e => .inl e, Upd.refl _ _⟩
  have hc0 := (hc o).trans h0
  have hc1 := (hc (o + 1)).trans h1
  have hc2 := (hc (o + 2)).trans h2
  by_cases c2 : heldV rd wr t = 0
  · rw [c2] at hheld
    by_cases c3 : t ∈ line.map (·.1)
    · have E1 := hid (show askR ⟨rd, wr, line⟩ t write = (false, 15, ⟨rd, wr, line⟩) by rw [E.out, if_neg c1, if_pos (.inr c3)])
      have hd : decide (t ∈ line.map (·.1)) = true := by simpa using c3
      generalize bitV t = m at *
      go_enter Tryz.func60, Tryz.ntmps60
      go_wp2_with (first | (go_at_call 83; refine (hbit _).mono ?_; rintro e w' ⟨rfl, rfl⟩) | (go_at_call 47; refine (hheld _ hc0 hc1).mono ?_; rintro e w' ⟨rfl, rfl⟩) | (go_at_call 46; refine (waiting_calls b o lv line ob _ hc2 hl (by omega)).mono ?_; rintro e w2 ⟨v2, ob2, rfl, hi2, hob2, hu2⟩) | (go_at_call 87; refine (contains_calls _ _ _ t _ hi2).mono ?_; rw [hd]; rintro e w3 ⟨rfl, rfl⟩))
      go_ret2
      rw [E1.out]
      exact ⟨lv, ob, rfl, by rw [hself.out]; exact hu2.blk hb (fun x => x), Slc.upd hl hu2 (fun _ _ x => x), fun x e => .inl e, hu2.non⟩
    · have hd : decide (t ∈ line.map (·.1)) = false := by simpa using c3
      by_cases c4 : line.length = 0 ∧ fitsV rd wr write = true
      · have E1 := hid (show askR ⟨rd, wr, line⟩ t write = (true, 0, Lk.give ⟨rd, wr, line⟩ t write) by rw [E.out, if_neg c1, if_neg (not_or.2 ⟨fun h => h c2, c3⟩), if_pos c4])
        obtain ⟨c5, c6⟩ := c4
        obtain ⟨a, cap, hlv, _, _, _⟩ := Slc.val hl
        have hgives := hid (hk.gives t write)
        have hgl := hid (Lk.give_line ⟨rd, wr, line⟩ t write)
        generalize bitV t = m at *
        rw [c5] at hlv
        go_enter Tryz.func60, Tryz.ntmps60
        go_wp2_with (first | (go_at_call 83; refine (hbit _).mono ?_; rintro e w' ⟨rfl, rfl⟩) | (go_at_call 47; refine (hheld _ hc0 hc1).mono ?_; rintro e w' ⟨rfl, rfl⟩) | (go_at_call 46; refine (waiting_calls b o lv line ob _ hc2 hl (by omega)).mono ?_; rintro e w2 ⟨v2, ob2, rfl, hi2, hob2, hu2⟩; obtain ⟨q1, q2, q3⟩ := hu2.keep) | (go_at_call 87; refine (contains_calls _ _ _ t _ hi2).mono ?_; rw [hd]; rintro e w3 ⟨rfl, rfl⟩) | (go_at_call 88; refine (fits_calls b o write _ rd wr ((((hu2.blk hb (fun x => x)).alloc _).cell o).trans h0) ((((hu2.blk hb (fun x => x)).alloc _).cell (o + 1)).trans h1)).mono ?_; rw [c6]; rintro e w4 ⟨rfl, rfl⟩) | (go_at_call 89; refine (give_calls b o c ty t write _ rd wr ((hu2.blk hb (fun x => x)).alloc _) h0 h1).mono ?_; rintro e w5 ⟨rfl, hb5, hu5⟩))
        go_ret2
        rw [E1.out]
        refine ⟨lv, ob, rfl, by rw [← hgives.out]; exact hb5, ?_, fun x e => .inl e, ?_⟩
        · rw [hgl.out]; exact Slc.upd (Slc.upd hl (hu2.alloc _) (fun _ _ x => x)) hu5 (fun x e e' => hne (by rw [e, e']))
        · exact (hu2.alloc _).non.step hu5 fun x _ e => .inl e
      · have E1 := hid (show askR ⟨rd, wr, line⟩ t write = (false, 0, ⟨rd, wr, line ++ [(t, write)]⟩) by rw [E.out, if_neg c1, if_neg (not_or.2 ⟨fun h => h c2, c3⟩), if_neg c4])
        have hset := fun lv' => hid (lkC_setLine hk lv' (line ++ [(t, write)]))
        generalize bitV t = m at *
        obtain ⟨a, cap, hlv, _, _, _⟩ := Slc.val hl
        by_cases c5 : line.length = 0
        · have c6 : fitsV rd wr write = false := by
            cases hh : fitsV rd wr write with
            | true => exact absurd ⟨c5, hh⟩ c4
            | false => rfl
          rw [c5] at hlv
          go_enter Tryz.func60, Tryz.ntmps60
          go_wp2_with (first | (go_at_call 83; refine (hbit _).mono ?_; rintro e w' ⟨rfl, rfl⟩) | (go_at_call 47; refine (hheld _ hc0 hc1).mono ?_; rintro e w' ⟨rfl, rfl⟩) | (go_at_call 46; refine (waiting_calls b o lv line ob _ hc2 hl (by omega)).mono ?_; rintro e w2 ⟨v2, ob2, rfl, hi2, hob2, hu2⟩; obtain ⟨q1, q2, q3⟩ := hu2.keep) | (go_at_call 87; refine (contains_calls _ _ _ t _ hi2).mono ?_; rw [hd]; rintro e w3 ⟨rfl, rfl⟩) | (go_at_call 88; refine (fits_calls b o write _ rd wr ((((hu2.blk hb (fun x => x)).alloc _).cell o).trans h0) ((((hu2.blk hb (fun x => x)).alloc _).cell (o + 1)).trans h1)).mono ?_; rw [c6]; rintro e w4 ⟨rfl, rfl⟩))
          have hb2 := (hu2.blk hb (fun x => x)).alloc (.cells #[Value.int IntKind.i64 t, Value.bool write] 180)
          have hl2 := Slc.upd hl (hu2.alloc (.cells #[Value.int IntKind.i64 t, Value.bool write] 180)) (fun _ _ x => x)
          have ht2 := Blk.new w2 #[Value.int IntKind.i64 t, Value.bool write] 180
          have hz2 := hu2.size
          have hlt2 : b < w2.heap.size := q3 b hlt
          refine region3 (Upd (fun x => ob = some x) _) [0, 1, 2, 3, 4, 5] [(6, []), (7, [])] 8 follows (by kernel_rfl) (Upd.refl _ _).drew ?_
          have hn2 : ¬ ob = some w2.heap.size := fun e => by have := Slc.lt (e ▸ hl); omega
          have hcl := fun W (hW : Upd (fun x => ob = some x) (w2.alloc (.cells #[Value.int IntKind.i64 t, Value.bool write] 180)) W) => (hW.blk hb2 hne).cell (o + 2)
          repeat (apply headS_cons rfl; (next => (intro W hW; have hbx := (hcl W hW).trans h2; have htx := (hW.blk ht2 hn2).cell; go_wp2; first | exact ⟨rfl, rfl⟩ | exact ⟨rfl, trivial⟩)); (next => kernel_rfl))
          refine headS_nil ?_
          refine midG_cons rfl fun K hK => ?_
          go_wp2
          refine hK _ _ ((Upd.refl _ _).drew.alloc _) (headS_nil ?_)
          refine midG_cons rfl fun K hK => ?_
          have hl3 := hl2
          rw [hlv] at hl3
          refine wpList_append elLine rfl _ _ rfl rfl rfl (Slc.upd hl3 ((Upd.refl Non _).drew.alloc _) fun _ _ x => x) (Slc.fresh (by simp only [World.size_alloc]) rfl (by unfold maxLen; omega)) (by simp [Value.oneCell']) (by unfold maxLen; omega) (by omega) ?_
          intro v5 w5 ob5 hs5 hu5 hb5
          clear c5
          obtain ⟨a5, cap5, rfl, _, _, _⟩ := Slc.val hs5
          go_wp2
          have hn5 : ¬ ob = some b := hne
          have hb5' := hu5.blk (Blk.drew (Blk.alloc hb2 _)) hn5
          have hc5 := hb5'.cell
          have hf5 := hb5'.frozen
          have hl5 := hb5'.lt
          refine hK _ _ (((Upd.refl _ _).drew.alloc _).step hu5 fun x _ e => e) (headS_nil (midG_nil ?_))
          simp only [List.drop_succ_cons, List.drop_zero]
          go_wp2
          go_ret2
          rw [E1.out]
          have hs5' : LineS w5 (.slice a5 (line.length + 1) cap5) (line ++ [(t, write)]) ob5 := by
            unfold LineS; rw [lineCells_append, List.length_append]; exact hs5
          refine ⟨.slice a5 (line.length + 1) cap5, ob5, rfl, ?_, ?_, ?_, ?_⟩
          · rw [← (hset _).out]; exact hb5'.set _ _
          · refine Slc.upd hs5' ((Upd.refl (fun x => x = b) _).setCell (.inr rfl) _) fun x e e' => ?_
            rcases hb5 x e with h | h
            · exact hne (by rw [h, e'])
            · subst e'; simp only [World.size_drew, World.size_alloc] at h; omega
          · intro x e
            rcases hb5 x e with h | h
            · exact .inl h
            · refine .inr ?_; simp only [World.size_drew, World.size_alloc] at h; omega
          · have hu6 : Upd (fun x => x = b ∨ ob = some x) w _ := (((hu2.alloc _).drew.alloc _).non).step hu5 fun x _ e => .inr e
            exact hu6.setCell (.inr (.inl rfl)) _
        · go_enter Tryz.func60, Tryz.ntmps60
          go_wp2_with (first | (go_at_call 83; refine (hbit _).mono ?_; rintro e w' ⟨rfl, rfl⟩) | (go_at_call 47; refine (hheld _ hc0 hc1).mono ?_; rintro e w' ⟨rfl, rfl⟩) | (go_at_call 46; refine (waiting_calls b o lv line ob _ hc2 hl (by omega)).mono ?_; rintro e w2 ⟨v2, ob2, rfl, hi2, hob2, hu2⟩; obtain ⟨q1, q2, q3⟩ := hu2.keep) | (go_at_call 87; refine (contains_calls _ _ _ t _ hi2).mono ?_; rw [hd]; rintro e w3 ⟨rfl, rfl⟩) | (go_at_call 88; refine (fits_calls b o write _ rd wr ((((hu2.blk hb (fun x => x)).alloc _).cell o).trans h0) ((((hu2.blk hb (fun x => x)).alloc _).cell (o + 1)).trans h1)).mono ?_; rw [c6]; rintro e w4 ⟨rfl, rfl⟩))
          have hb2 := (hu2.blk hb (fun x => x)).alloc (.cells #[Value.int IntKind.i64 t, Value.bool write] 180)
          have hl2 := Slc.upd hl (hu2.alloc (.cells #[Value.int IntKind.i64 t, Value.bool write] 180)) (fun _ _ x => x)
          have ht2 := Blk.new w2 #[Value.int IntKind.i64 t, Value.bool write] 180
          have hz2 := hu2.size
          have hlt2 : b < w2.heap.size := q3 b hlt
          refine region3 (Upd (fun x => ob = some x) _) [0, 1, 2, 3, 4, 5] [(6, []), (7, [])] 8 follows (by kernel_rfl) (Upd.refl _ _).drew ?_
          have hn2 : ¬ ob = some w2.heap.size := fun e => by have := Slc.lt (e ▸ hl); omega
          have hcl := fun W (hW : Upd (fun x => ob = some x) (w2.alloc (.cells #[Value.int IntKind.i64 t, Value.bool write] 180)) W) => (hW.blk hb2 hne).cell (o + 2)
          repeat (apply headS_cons rfl; (next => (intro W hW; have hbx := (hcl W hW).trans h2; have htx := (hW.blk ht2 hn2).cell; go_wp2; first | exact ⟨rfl, rfl⟩ | exact ⟨rfl, trivial⟩)); (next => kernel_rfl))
          refine headS_nil ?_
          refine midG_cons rfl fun K hK => ?_
          go_wp2
          refine hK _ _ ((Upd.refl _ _).drew.alloc _) (headS_nil ?_)
          refine midG_cons rfl fun K hK => ?_
          have hl3 := hl2
          rw [hlv] at hl3
          refine wpList_append elLine rfl _ _ rfl rfl rfl (Slc.upd hl3 ((Upd.refl Non _).drew.alloc _) fun _ _ x => x) (Slc.fresh (by simp only [World.size_alloc]) rfl (by unfold maxLen; omega)) (by simp [Value.oneCell']) (by unfold maxLen; omega) (by omega) ?_
          intro v5 w5 ob5 hs5 hu5 hb5
          clear c5
          obtain ⟨a5, cap5, rfl, _, _, _⟩ := Slc.val hs5
          go_wp2
          have hn5 : ¬ ob = some b := hne
          have hb5' := hu5.blk (Blk.drew (Blk.alloc hb2 _)) hn5
          have hc5 := hb5'.cell
          have hf5 := hb5'.frozen
          have hl5 := hb5'.lt
          refine hK _ _ (((Upd.refl _ _).drew.alloc _).step hu5 fun x _ e => e) (headS_nil (midG_nil ?_))
          simp only [List.drop_succ_cons, List.drop_zero]
          go_wp2
          go_ret2
          rw [E1.out]
          have hs5' : LineS w5 (.slice a5 (line.length + 1) cap5) (line ++ [(t, write)]) ob5 := by
            unfold LineS; rw [lineCells_append, List.length_append]; exact hs5
          refine ⟨.slice a5 (line.length + 1) cap5, ob5, rfl, ?_, ?_, ?_, ?_⟩
          · rw [← (hset _).out]; exact hb5'.set _ _
          · refine Slc.upd hs5' ((Upd.refl (fun x => x = b) _).setCell (.inr rfl) _) fun x e e' => ?_
            rcases hb5 x e with h | h
            · exact hne (by rw [h, e'])
            · subst e'; simp only [World.size_drew, World.size_alloc] at h; omega
          · intro x e
            rcases hb5 x e with h | h
            · exact .inl h
            · refine .inr ?_; simp only [World.size_drew, World.size_alloc] at h; omega
          · have hu6 : Upd (fun x => x = b ∨ ob = some x) w _ := (((hu2.alloc _).drew.alloc _).non).step hu5 fun x _ e => .inr e
            exact hu6.setCell (.inr (.inl rfl)) _
  · have E1 := hid (show askR ⟨rd, wr, line⟩ t write = (false, 15, ⟨rd, wr, line⟩) by rw [E.out, if_neg c1, if_pos (.inl c2)])
    generalize bitV t = m at *
    generalize heldV rd wr t = hv at *
    go_enter Tryz.func60, Tryz.ntmps60
    go_wp2_with (first | (go_at_call 83; refine (hbit _).mono ?_; rintro e w' ⟨rfl, rfl⟩) | (go_at_call 47; refine (hheld _ hc0 hc1).mono ?_; rintro e w' ⟨rfl, rfl⟩))
    go_ret2
    rw [E1.out]
    exact ⟨lv, ob, rfl, by rw [hself.out]; exact hb, hl, fun x e => .inl e, Upd.refl _ _⟩
end Go.Proofs.YtmlnjifiaddhjaaGreat
end
section
open Go Go.RowKit Go.Fw
namespace Go.Proofs.YtmlnjifiaddhjaaGreat
set_option maxRecDepth 100000

theorem lkC_size (c : Array Value) (o : Nat) (k : Lk) (lv : Value) : (lkC c o k lv).size = c.size := by simp [lkC]
theorem lkC_lkC (c : Array Value) (o : Nat) (k k' : Lk) (lv lv' : Value) : lkC (lkC c o k lv) o k' lv' = lkC c o k' lv' := by
  apply Array.ext_getElem?
  intro i
  rw [lkC_get, lkC_get, lkC_get, lkC_size]
  split
  · rfl
  split
  · rfl
  split
  · rfl
  · rfl
theorem lkC_setRd {c : Array Value} {o : Nat} {k : Lk} {lv : Value} (h : LkAt c o k lv) (r : Int) : c.setIfInBounds o (.int .u32 r) = lkC c o { k with rd := r } lv := by
  apply Array.ext_getElem?
  intro i
  have hl := h.lt
  rw [lkC_get, Array.getElem?_setIfInBounds]
  by_cases e2 : i = o + 2
  · subst e2; have hln := h.ln; simp [hl] at hln ⊢; exact hln
  by_cases e1 : i = o + 1
  · subst e1; simp [h.wr]; omega
  by_cases e0 : i = o
  · subst e0; simp
  · simp [Ne.symm e0, e0, e1, e2]
theorem lkC_setWr {c : Array Value} {o : Nat} {k : Lk} {lv : Value} (h : LkAt c o k lv) (r : Int) : c.setIfInBounds (o + 1) (.int .u32 r) = lkC c o { k with wr := r } lv := by
  apply Array.ext_getElem?
  intro i
  have hl := h.lt
  rw [lkC_get, Array.getElem?_setIfInBounds]
  by_cases e2 : i = o + 2
  · subst e2; have hln := h.ln; simp [hl] at hln ⊢; exact hln
  by_cases e1 : i = o + 1
  · subst e1; simp
  by_cases e0 : i = o
  · subst e0; simp [h.rd]; omega
  · simp [Ne.symm e1, e0, e1, e2]

/-- Who waits first is given the lock, as long as it fits. -/
def pumpL (rd wr : Int) : List (Int × Bool) → Lk
  | [] => ⟨rd, wr, []⟩
  | x :: l => if fitsV rd wr x.2 then pumpL (Lk.give ⟨rd, wr, l⟩ x.1 x.2).rd (Lk.give ⟨rd, wr, l⟩ x.1 x.2).wr l else ⟨rd, wr, x :: l⟩
def dropR (k : Lk) (t : Int) : Int × Lk :=
  if heldV k.rd k.wr t = 0 then (5, k) else (0, pumpL (bits .andNot .u32 k.rd (bitV t)) (bits .andNot .u32 k.wr (bitV t)) k.line)

/-- The length of the slice in a cell. -/
def lenAt (w : World) (b o : Nat) : Nat := match w.cell? ⟨b, o, none⟩ with
  | some (.slice _ n _) => n
  | _ => 0
theorem lenAt_eq {w : World} {b o : Nat} {a : Option Addr} {n cap : Nat} (h : w.cell? ⟨b, o, none⟩ = some (.slice a n cap)) : lenAt w b o = n := by unfold lenAt; rw [h]

theorem Slc.tail {w : World} {t : TypeId} {k b off n cap : Nat} {xs cs : List Value} {ob : Option Nat} (h : Slc w t k (.slice (some ⟨b, off, none⟩) (n + 1) cap) (xs ++ cs) (n + 1) ob) (hx : xs.length = k) :
    Slc w t k (.slice (some ⟨b, off + k, none⟩) n (cap - 1)) cs n ob := by
  obtain ⟨hl, ⟨h, _⟩ | ⟨b', off', cap', arr, hv, e, hb, h1, h2, h3, h4⟩⟩ := h
  · cases h
  · cases hv
    have hlc : cs.length = n * k := by
      rw [List.length_append, hx, Nat.add_mul] at hl; omega
    refine ⟨hlc, .inr ⟨b, off + k, cap - 1, arr, rfl, e, hb, by omega, by omega, ?_, ?_⟩⟩
    · have : (cap - 1 + 1) * k = cap * k := by rw [Nat.sub_add_cancel (by omega)]
      rw [Nat.add_mul] at this; omega
    · have h5 : (n + 1) * k = k + n * k := by rw [Nat.add_mul]; omega
      rw [h5, List.take_add, List.drop_drop] at h4
      have hsz : ((arr.toList.drop off).take k).length = k := by
        rw [List.length_take, List.length_drop, Array.length_toList]
        have : (cap - 1 + 1) * k = cap * k := by rw [Nat.sub_add_cancel (by omega)]
        rw [Nat.add_mul] at this; omega
      exact (List.append_inj h4 (by rw [hsz, hx])).2

theorem drop_nil (t : Int) (w : World) : Calls Tryz.prog 61 #[.pointer none, .int .i64 t] w fun e w' => e = .returned (.tuple #[.slice none 0 0, .int .i64 5]) ∧ w = w' := by
  go_enter Tryz.func61, Tryz.ntmps61
  go_wp2_with (go_at_call 47; refine (held_nil _ _).mono ?_; rintro e w' ⟨rfl, rfl⟩)
  go_ret2
  exact ⟨rfl, rfl⟩

set_option maxHeartbeats 1000000 in
theorem drop_calls (b o : Nat) (c : Array Value) (ty : TypeId) (k : Lk) (lv : Value) (ob : Option Nat) (t : Int) (w : World)
    (hb : Blk w b c ty) (hk : LkAt c o k lv) (hl : LineS w lv k.line ob) (hne : ob ≠ some b) (hm : k.line.length ≤ 1000) :
    Calls Tryz.prog 61 #[.pointer (some ⟨b, o, none⟩), .int .i64 t] w fun e w' => ∃ v lv', e = .returned (.tuple #[v, .int .i64 (dropR k t).1]) ∧
      Blk w' b (lkC c o (dropR k t).2 lv') ty ∧ LineS w' lv' (dropR k t).2.line ob ∧ Upd (fun x => x = b) w w' := by
  have hc := hb.cell
  have hf := hb.frozen
  have hlt := hb.lt
  obtain ⟨rd, wr, line⟩ := k
  obtain ⟨h0, h1, h2⟩ := id hk
  simp only at h0 h1 h2 hl hm
  have hbit := bit_calls t
  have hheld := fun w h0 h1 => held_calls b o t w rd wr h0 h1
  have E := hid (show dropR ⟨rd, wr, line⟩ t = if heldV rd wr t = 0 then (5, ⟨rd, wr, line⟩) else (0, pumpL (bits .andNot .u32 rd (bitV t)) (bits .andNot .u32 wr (bitV t)) line) from rfl)
  have hself := hid hk.self
  have hc0 := (hc o).trans h0
  have hc1 := (hc (o + 1)).trans h1
  by_cases c1 : heldV rd wr t = 0
  · have E1 := hid (show dropR ⟨rd, wr, line⟩ t = (5, ⟨rd, wr, line⟩) by rw [E.out, if_pos c1])
    rw [c1] at hheld
    go_enter Tryz.func61, Tryz.ntmps61
    go_wp2_with (go_at_call 47; refine (hheld _ hc0 hc1).mono ?_; rintro e w' ⟨rfl, rfl⟩)
    go_ret2
    rw [E1.out]
    exact ⟨_, lv, rfl, by rw [hself.out]; exact hb, hl, Upd.refl _ _⟩
  · have E1 := hid (show dropR ⟨rd, wr, line⟩ t = (0, pumpL (bits .andNot .u32 rd (bitV t)) (bits .andNot .u32 wr (bitV t)) line) by rw [E.out, if_neg c1])
    clear E
    have hset1 := hid (fun r => lkC_setRd hk r)
    generalize bitV t = m at *
    generalize heldV rd wr t = hv at *
    have hvb : (hv == 0) = false := by simpa using c1
    have hset2 := fun r => hid (lkC_setWr (LkAt.of hk.lt { rd := r, wr := wr, line := line } lv))
    have hlk1 := fun r => LkAt.of hk.lt { rd := r, wr := wr, line := line } lv
    have hbnd := hk.lt
    go_enter Tryz.func61, Tryz.ntmps61
    go_wp2_with (go_at_call 47; refine (hheld _ hc0 hc1).mono ?_; rintro e w' ⟨rfl, rfl⟩)
    refine region0 [0, 1, 2, 3, 4, 5] 6 follows (by kernel_rfl) ?_
    repeat (apply head0_cons rfl; (next => (go_wp2_with (go_at_call 83; refine (hbit _).mono ?_; rintro e w' ⟨rfl, rfl⟩); first | exact ⟨rfl, rfl⟩ | exact ⟨rfl, trivial⟩)); (next => kernel_rfl))
    refine head0_nil ?_; simp only [List.drop_succ_cons, List.drop_zero]
    go_wp2
    refine region0 [0, 1, 2, 3, 4, 5] 6 follows (by kernel_rfl) ?_
    repeat (apply head0_cons rfl; (next => (go_wp2_with (go_at_call 83; refine (hbit _).mono ?_; rintro e w' ⟨rfl, rfl⟩); first | exact ⟨rfl, rfl⟩ | exact ⟨rfl, trivial⟩)); (next => kernel_rfl))
    refine head0_nil ?_; simp only [List.drop_succ_cons, List.drop_zero]
    go_wp2
    have hbn := ((hb.set o (.int .u32 (bits .andNot .u32 rd m))).set (o + 1) (.int .u32 (bits .andNot .u32 wr m))).cast (show _ = lkC c o ⟨bits .andNot .u32 rd m, bits .andNot .u32 wr m, line⟩ lv by rw [hset1.out, (hset2 _).out, lkC_lkC])
    have hun : Upd (fun x => x = b) w _ := (((Upd.refl (fun x => x = b) w).setCell (p := ⟨b, o, none⟩) (.inr rfl) (.int .u32 (bits .andNot .u32 rd m))).setCell (p := ⟨b, o + 1, none⟩) (.inr rfl) (.int .u32 (bits .andNot .u32 wr m))).drew.drew
    have hne' : ∀ x, ob = some x → ¬ x = b := fun x e e' => hne (by rw [e, e'])
    generalize hfin : pumpL (bits .andNot .u32 rd m) (bits .andNot .u32 wr m) line = fin at *
    go_loopw [6] (fun v wq => ∃ k' lv' ls obo, Blk wq b (lkC c o k' lv') ty ∧ LineS wq lv' k'.line ob ∧ pumpL k'.rd k'.wr k'.line = fin ∧ ls.length + k'.line.length ≤ 1000 ∧ Ints wq v ls obo ∧ (∀ x, obo = some x → w.heap.size ≤ x) ∧ Upd (fun x => x = b) w wq) (fun _ wq => lenAt wq b (o + 2))
    case atStart => exact ⟨⟨bits .andNot .u32 rd m, bits .andNot .u32 wr m, line⟩, lv, [], none, hbn.drew.drew, Slc.upd hl hun hne', hfin, by simpa using hm, Slc.nil _ _ _, (fun b e => by cases e), hun⟩
    case round =>
      clear h0 h1 h2 hself hset1 hset2 hlk1 hc hf hc0 hc1 hheld hbn hun
      obtain ⟨⟨rd', wr', line'⟩, lv', ls, obo, hbk, hls, hpump, hlen, hints, hobo, hU⟩ := hrel
      simp only at hls hpump hlen
      have hk' := LkAt.of hbnd ⟨rd', wr', line'⟩ lv'
      have hcq := hbk.cell
      have hfq := hbk.frozen
      have hltq := hbk.lt
      have hq0 := (hcq o).trans hk'.rd
      have hq1 := (hcq (o + 1)).trans hk'.wr
      have hq2 := (hcq (o + 2)).trans hk'.ln
      clear hcq
      simp only at hq0 hq1
      cases line' with
      | nil =>
        obtain ⟨a, cap, rfl, _, _, _⟩ := Slc.val hls
        simp only [List.length_nil] at *
        go_wp2
        go_ret2
        rw [E1.out, ← hpump]
        exact ⟨_, _, rfl, hbk, hls, hU⟩
      | cons x l =>
        obtain ⟨t1, w1⟩ := x
        have hpump' := hid hpump
        clear hpump
        by_cases hfit : fitsV rd' wr' w1 = true
        · obtain ⟨b', off, cap, rfl, hob', hcap1, hcap2, hblt, hcell⟩ := Slc.form hls (by simp)
          have hx0 := hcell 0 0 (by simp) (by decide)
          have hx1 := hcell 0 1 (by simp) (by decide)
          simp only [Nat.zero_mul, Nat.add_zero, Nat.zero_add, lineCells, List.flatMap_cons, List.cons_append, List.getElem?_cons_zero, List.getElem?_cons_succ, List.nil_append] at hx0 hx1
          clear hcell
          have hbb := hne' b' hob'
          have hne9 : ¬ wr.heap.size = b := by omega
          have hno : ∀ x, obo = some x → ¬ x = b := fun x e e' => by have := hobo x e; omega
          simp only [List.length_cons] at hlen hcap1
          by_cases hcap : cap = 1
          · subst hcap
            obtain rfl : l = [] := List.eq_nil_of_length_eq_zero (by omega)
            have hnv : LineS wr (.slice (some ⟨b', off, none⟩) 0 0) [] ob := by
              obtain ⟨_, ⟨h, _⟩ | ⟨b2, off2, cap2, arr, hv2, e2, hb2, h1, h2, h3, h4⟩⟩ := hls
              · cases h
              · cases hv2
                exact ⟨rfl, .inr ⟨b', off, 0, arr, rfl, hob', hb2, Nat.le_refl _, Nat.zero_le _, by omega, by simp [lineCells]⟩⟩
            have hbg := fun ob => ((hbk.set (o + 2) (.slice (some ⟨b', off, none⟩) 0 0)).cast (show _ = lkC c o ⟨rd', wr', []⟩ (.slice (some ⟨b', off, none⟩) 0 0) by rw [lkC_setLine hk' (.slice (some ⟨b', off, none⟩) 0 0) [], lkC_lkC])).alloc ob
            have hkg := LkAt.of hbnd ⟨rd', wr', []⟩ (.slice (some ⟨b', off, none⟩) 0 0)
            have hgg := hid (hkg.gives t1 w1)
            have hu3 : Upd (fun x => x = b) wr _ := (Upd.refl (fun x => x = b) wr).setCell (p := ⟨b, o + 2, none⟩) (.inr rfl) (.slice (some ⟨b', off, none⟩) 0 0)
            clear hbk hls hk'
            go_wp2_with (first | (go_at_call 88; refine (fits_calls b o _ _ rd' wr' hq0 hq1).mono ?_; rw [hfit]; rintro e w4 ⟨rfl, rfl⟩) | (go_at_call 89; refine (give_calls b o _ ty t1 w1 _ rd' wr' (hbg _) hkg.rd hkg.wr).mono ?_; rintro e w5 ⟨rfl, hb5, hu5⟩; obtain ⟨q1, q2, q3⟩ := hu5.keepS) | (at_builtin; go_loud (refine wpList_append elInt rfl _ _ rfl rfl rfl (Slc.upd (Slc.upd (Slc.upd hints (hu3.alloc _) hno) hu5 hno) ((Upd.refl Non _).alloc _) fun _ _ x => x) (Slc.fresh (by simp only [World.size_alloc]) rfl (by unfold maxLen; omega)) (by simp [Value.oneCell']) (by unfold maxLen; omega) (by omega) ?_); intro v6 w6 ob6 hs6 hu6 hb6))
            have hb6' := (((hb5.cast (show _ = lkC c o (Lk.give ⟨rd', wr', []⟩ t1 w1) (.slice (some ⟨b', off, none⟩) 0 0) by rw [hgg.out, lkC_lkC])).alloc (.cells #[Value.int IntKind.i64 t1] 3)))
            have hb6'' := hu6.blk hb6' (fun e => hno b e rfl)
            refine ⟨⟨Lk.give ⟨rd', wr', []⟩ t1 w1, (.slice (some ⟨b', off, none⟩) 0 0), ls ++ [t1], ob6, hb6'', ?_, ?_, ?_, ?_, ?_, ?_⟩, ?_⟩
            · rw [Lk.give_line]
              refine Slc.upd (Slc.upd (Slc.upd hnv (hu3.alloc _) hne') (hu5.alloc _) hne') hu6 fun x e e' => ?_
              have h1 := Slc.lt (e ▸ hl); have h2 := hobo x e'; omega
            · have := hpump'.out
              simp only [pumpL, hfit, if_true] at this
              rw [Lk.give_line]; exact this
            · rw [Lk.give_line, List.length_append]; simp only [List.length_cons, List.length_nil]; omega
            · unfold Ints; rw [intCells_append, List.length_append]; exact hs6
            · intro x e
              have h1 := hu5.size; have h2 := hU.size
              simp only [World.size_alloc, World.size_setCell] at h1
              rcases hb6 x e with h | h
              · exact hobo x h
              · simp only [World.size_alloc] at h; omega
            · refine Upd.step (((hU.trans (hu3.alloc _)).trans hu5).alloc _) hu6 fun x hx e => ?_
              have := hobo x e; omega
            · have h6 := (hb6''.cell (o + 2)).trans (LkAt.of hbnd (Lk.give ⟨rd', wr', []⟩ t1 w1) (.slice (some ⟨b', off, none⟩) 0 0)).ln
              rw [lenAt_eq h6, lenAt_eq hq2]; simp
          · have hnv : LineS wr (.slice (some ⟨b', off + 2, none⟩) l.length (cap - 1)) l ob := Slc.tail (xs := [.int .i64 t1, .bool w1]) hls rfl
            have hbg := fun ob => ((hbk.set (o + 2) (.slice (some ⟨b', off + 2, none⟩) l.length (cap - 1))).cast (show _ = lkC c o ⟨rd', wr', l⟩ (.slice (some ⟨b', off + 2, none⟩) l.length (cap - 1)) by rw [lkC_setLine hk' (.slice (some ⟨b', off + 2, none⟩) l.length (cap - 1)) l, lkC_lkC])).alloc ob
            have hkg := LkAt.of hbnd ⟨rd', wr', l⟩ (.slice (some ⟨b', off + 2, none⟩) l.length (cap - 1))
            have hgg := hid (hkg.gives t1 w1)
            have hu3 : Upd (fun x => x = b) wr _ := (Upd.refl (fun x => x = b) wr).setCell (p := ⟨b, o + 2, none⟩) (.inr rfl) (.slice (some ⟨b', off + 2, none⟩) l.length (cap - 1))
            clear hbk hls hk'
            go_wp2_with (first | (go_at_call 88; refine (fits_calls b o _ _ rd' wr' hq0 hq1).mono ?_; rw [hfit]; rintro e w4 ⟨rfl, rfl⟩) | (go_at_call 89; refine (give_calls b o _ ty t1 w1 _ rd' wr' (hbg _) hkg.rd hkg.wr).mono ?_; rintro e w5 ⟨rfl, hb5, hu5⟩; obtain ⟨q1, q2, q3⟩ := hu5.keepS) | (at_builtin; go_loud (refine wpList_append elInt rfl _ _ rfl rfl rfl (Slc.upd (Slc.upd (Slc.upd hints (hu3.alloc _) hno) hu5 hno) ((Upd.refl Non _).alloc _) fun _ _ x => x) (Slc.fresh (by simp only [World.size_alloc]) rfl (by unfold maxLen; omega)) (by simp [Value.oneCell']) (by unfold maxLen; omega) (by omega) ?_); intro v6 w6 ob6 hs6 hu6 hb6))
            have hb6' := (((hb5.cast (show _ = lkC c o (Lk.give ⟨rd', wr', l⟩ t1 w1) (.slice (some ⟨b', off + 2, none⟩) l.length (cap - 1)) by rw [hgg.out, lkC_lkC])).alloc (.cells #[Value.int IntKind.i64 t1] 3)))
            have hb6'' := hu6.blk hb6' (fun e => hno b e rfl)
            refine ⟨⟨Lk.give ⟨rd', wr', l⟩ t1 w1, (.slice (some ⟨b', off + 2, none⟩) l.length (cap - 1)), ls ++ [t1], ob6, hb6'', ?_, ?_, ?_, ?_, ?_, ?_⟩, ?_⟩
            · rw [Lk.give_line]
              refine Slc.upd (Slc.upd (Slc.upd hnv (hu3.alloc _) hne') (hu5.alloc _) hne') hu6 fun x e e' => ?_
              have h1 := Slc.lt (e ▸ hl); have h2 := hobo x e'; omega
            · have := hpump'.out
              simp only [pumpL, hfit, if_true] at this
              rw [Lk.give_line]; exact this
            · rw [Lk.give_line, List.length_append]; simp only [List.length_cons, List.length_nil]; omega
            · unfold Ints; rw [intCells_append, List.length_append]; exact hs6
            · intro x e
              have h1 := hu5.size; have h2 := hU.size
              simp only [World.size_alloc, World.size_setCell] at h1
              rcases hb6 x e with h | h
              · exact hobo x h
              · simp only [World.size_alloc] at h; omega
            · refine Upd.step (((hU.trans (hu3.alloc _)).trans hu5).alloc _) hu6 fun x hx e => ?_
              have := hobo x e; omega
            · have h6 := (hb6''.cell (o + 2)).trans (LkAt.of hbnd (Lk.give ⟨rd', wr', l⟩ t1 w1) (.slice (some ⟨b', off + 2, none⟩) l.length (cap - 1))).ln
              rw [lenAt_eq h6, lenAt_eq hq2]; simp
        · have hfit' : fitsV rd' wr' w1 = false := by simpa using hfit
          obtain ⟨b', off, cap, rfl, hob', hcap1, hcap2, hblt, hcell⟩ := Slc.form hls (by simp)
          have hx1 := hcell 0 1 (by simp) (by decide)
          simp only [Nat.zero_mul, Nat.add_zero, Nat.zero_add, lineCells, List.flatMap_cons, List.cons_append, List.getElem?_cons_zero, List.getElem?_cons_succ, List.nil_append] at hx1
          clear hcell
          simp only [List.length_cons] at hlen hcap1
          go_wp2_with (go_at_call 88; refine (fits_calls b o _ _ rd' wr' hq0 hq1).mono ?_; rw [hfit']; rintro e w4 ⟨rfl, rfl⟩)
          go_ret2
          have hp := hpump'.out
          simp only [pumpL, hfit', Bool.false_eq_true, if_false] at hp
          rw [E1.out, ← hp]
          exact ⟨_, _, rfl, hbk, hls, hU⟩
end Go.Proofs.YtmlnjifiaddhjaaGreat
end
section
open Go Go.RowKit Go.Fw
namespace Go.Proofs.YtmlnjifiaddhjaaGreat
set_option maxRecDepth 100000

theorem hnew_calls (w : World) : Calls Tryz.prog 63 #[] w fun e w' => e = .returned (.pointer (some ⟨w.heap.size + 1, 0, none⟩)) ∧
    w' = (w.alloc (.map #[] 0)).alloc (.cells #[.map (some w.heap.size), .int .i64 1] 191) := by
  have hmm := @run_makeMap Tryz.prog
  go_enter Tryz.func63, Tryz.ntmps63
  go_wp2
  go_ret
  exact ⟨by simp, rfl⟩

/-- A stripe: its block, its map's. -/
structure StripeAt (w : World) (c : Cfg) (b m : Nat) (es : Array MapEntry) (clock : Nat) (ver : Int) : Prop where
  blk : Blk w b #[.map (some m), .int .i64 c.st, .int .i64 c.sa, .int .i64 c.lo, .int .i64 c.hi, .int .i64 ver] 194
  map : w.heap[m]? = some (.map es clock)
theorem StripeAt.upd {w w' : World} {c : Cfg} {b m : Nat} {es : Array MapEntry} {clock : Nat} {ver : Int} {S : Nat → Prop} (h : StripeAt w c b m es clock ver) (hu : Upd S w w') (h1 : ¬ S b) (h2 : ¬ S m) : StripeAt w' c b m es clock ver :=
  ⟨hu.blk h.blk h1, hu.heap h.map h2⟩
theorem heap_alloc_old {w : World} {k : Nat} {o : Obj} (h : w.heap[k]? = some o) (o' : Obj) : (w.alloc o').heap[k]? = some o := (Upd.refl Non w).alloc o' |>.heap h (fun x => x)

theorem heap_new {w : World} {b : Nat} (hb : b = w.heap.size) (o : Obj) : (w.alloc o).heap[b]? = some o := by subst hb; exact heap_alloc_new w o
theorem Blk.fresh {w : World} {b : Nat} (hb : b = w.heap.size) (c : Array Value) (t : TypeId) : Blk (w.alloc (.cells c t)) b c t := by subst hb; exact Blk.new w c t

theorem snew_calls (c : Cfg) (w : World) (hwf : c.wf) (hok : c.ok = true) : Calls Tryz.prog 64 #[c.v] w fun e w' =>
    ∃ b m, e = .returned (.pointer (some ⟨b, 0, none⟩)) ∧ StripeAt w' c b m #[] 0 0 ∧ w.heap.size ≤ m ∧ m < b ∧ Upd Non w w' := by
  have hright := hid (show okE c.ok 1 = 0 by rw [hok]; rfl)
  have hmm := @run_makeMap Tryz.prog
  obtain ⟨st, sa, lo, hi⟩ := c
  simp only [Cfg.v] at *
  go_enter Tryz.func64, Tryz.ntmps64
  go_wp2_with (go_at_call 26; refine (nright_calls ⟨st, sa, lo, hi⟩ _ hwf).mono ?_; rw [hright.out]; rintro e w' ⟨rfl, rfl⟩)
  go_ret
  refine ⟨w.heap.size + 3, w.heap.size + 2, by simp, ⟨?_, ?_⟩, by omega, by omega, ?_⟩
  · exact Blk.fresh (by simp only [World.size_alloc]) _ _
  · exact heap_alloc_old (heap_new (by simp only [World.size_alloc]) _) _
  · exact ((((Upd.refl _ _).alloc _).alloc _).alloc _).alloc _

/-- A store: its block, the stripes' blocks and maps, the table's block, what is beside. -/
def ptrs (ss : List (Nat × Nat)) : List Value := ss.map fun s => .pointer (some ⟨s.1, 0, none⟩)
theorem ptrs_append (a b : List (Nat × Nat)) : ptrs (a ++ b) = ptrs a ++ ptrs b := by simp [ptrs]
theorem elStr : El Tryz.prog 152 155 1 8 := El.of (by kernel_rfl) (by kernel_rfl) (by decide)

/-- A store that was made: nothing is in it. b: its block; bt: its table's; ob: the array of its stripes; each stripe's block and map. All of it is above base. -/
structure NewStore (w : World) (base : Nat) (c : Cfg) (n b bt mt : Nat) (sv : Value) (ss : List (Nat × Nat)) (ob : Option Nat) : Prop where
  blk : Blk w b #[sv, .pointer (some ⟨bt, 0, none⟩), .int .i64 0, .bool false] 154
  sl : Slc w 155 1 sv (ptrs ss) n ob
  len : ss.length = n
  str : ∀ s ∈ ss, StripeAt w c s.1 s.2 #[] 0 0
  tab : Blk w bt #[.map (some mt), .int .i64 1] 191
  map : w.heap[mt]? = some (.map #[] 0)
  b0 : base ≤ b
  ob0 : ∀ x, ob = some x → base ≤ x ∧ x ≠ b ∧ x ≠ bt ∧ x ≠ mt ∧ ∀ s ∈ ss, x ≠ s.1 ∧ x ≠ s.2
  ss0 : ∀ s ∈ ss, base ≤ s.1 ∧ base ≤ s.2
  tb0 : base ≤ bt ∧ base ≤ mt

set_option maxHeartbeats 1000000 in
theorem stnew_calls (c : Cfg) (w : World) (hwf : c.wf) (hok : c.ok = true) (hst0 : 0 ≤ c.st) (hst1 : c.st ≤ 1000) : Calls Tryz.prog 27 #[c.v] w fun e w' =>
    ∃ b bt mt sv ss ob, e = .returned (.tuple #[.pointer (some ⟨b, 0, none⟩), .int .i64 0]) ∧ NewStore w' w.heap.size c c.st.toNat b bt mt sv ss ob ∧ Upd Non w w' := by
  have hright := hid (show okE c.ok 1 = 0 by rw [hok]; rfl)
  have hsn := fun w => snew_calls c w hwf hok
  obtain ⟨st, sa, lo, hi⟩ := c
  simp only [Cfg.v] at *
  obtain ⟨n, rfl⟩ := Int.eq_ofNat_of_zero_le hst0
  have hn : n ≤ 1000 := by omega
  go_enter Tryz.func27, Tryz.ntmps27
  go_wp2_with (first | (go_at_call 26; refine (nright_calls ⟨n, sa, lo, hi⟩ _ hwf).mono ?_; rw [hright.out]; rintro e w' ⟨rfl, rfl⟩) | (go_at_call 63; refine (hnew_calls _).mono ?_; rintro e w' ⟨rfl, rfl⟩))
  have hB1 : ∀ o1 o2 o3 o4, Blk ((((((w.alloc (.cells #[.int .i64 n, .int .i64 sa, .int .i64 lo, .int .i64 hi] 23)).alloc o1).alloc o2).alloc o3).alloc o4)) w.heap.size #[.int .i64 n, .int .i64 sa, .int .i64 lo, .int .i64 hi] 23 := fun o1 o2 o3 o4 => ((((Blk.new w _ _).alloc o1).alloc o2).alloc o3).alloc o4
  go_loopw [16] (fun i wq => ∃ k sv ss ob, k ≤ n ∧ i = .int .i64 (k : Nat) ∧ Blk wq w.heap.size #[.int .i64 n, .int .i64 sa, .int .i64 lo, .int .i64 hi] 23 ∧ NewStore wq w.heap.size ⟨n, sa, lo, hi⟩ k (w.heap.size + 4) (w.heap.size + 3) (w.heap.size + 2) sv ss ob ∧ (∀ x, ob = some x → x ≠ w.heap.size) ∧ Upd Non w wq) (fun i _ => n - (intOf i).toNat)
  case atStart =>
    refine ⟨0, .slice none 0 0, [], none, Nat.zero_le _, rfl, hB1 _ _ _ _, ?_, (fun x e => by cases e), ((((((Upd.refl _ _).alloc _).alloc _).alloc _).alloc _).alloc _)⟩
    exact {
      blk := Blk.fresh (by simp only [World.size_alloc]) _ _
      sl := Slc.nil _ _ _
      len := rfl
      str := fun s hs => by cases hs
      tab := (Blk.fresh (by simp only [World.size_alloc]) _ _).alloc _
      map := heap_alloc_old (heap_alloc_old (heap_new (by simp only [World.size_alloc]) _) _) _
      b0 := by omega
      ob0 := fun x e => by cases e
      ss0 := fun s hs => by cases hs
      tb0 := by omega }
  case round =>
    obtain ⟨k, sv, ss, ob, hk, rfl, hcfg, hst, hob1, hU⟩ := hrel
    by_cases hlt : k < n
    · obtain ⟨a, cap, rfl, _, _, _⟩ := Slc.val hst.sl
      have hnb : ¬ ob = some (w.heap.size + 4) := fun e => (hst.ob0 _ e).2.1 rfl
      have hnc : ¬ ob = some w.heap.size := fun e => hob1 _ e rfl
      have hz0 := hU.size
      have hlb := hst.blk.lt
      go_wp2
      refine region3 (Upd (fun x => ob = some x) _) [0, 1, 2, 3, 4, 5] [(6, []), (7, []), (8, [])] 9 follows (by kernel_rfl) (Upd.refl _ _).drew ?_
      repeat (apply headS_cons rfl; (next => (intro W hW; have hbx := (hW.blk hst.blk hnb).cell; have hcx := (hW.blk hcfg hnc).cell; go_wp2; first | exact ⟨rfl, rfl⟩ | exact ⟨rfl, trivial⟩)); (next => kernel_rfl))
      refine headS_nil ?_
      refine midG_cons rfl fun K hK => ?_
      go_wp2_with (go_at_call 64; refine (hsn _).mono ?_; rintro e w3 ⟨b, m, rfl, hs, hm1, hm2, hu3⟩)
      refine hK _ _ ((Upd.refl _ _).drew.then hu3) (headS_nil ?_)
      clear hK
      refine midG_cons rfl fun K hK => ?_
      go_wp2
      refine hK _ _ (((Upd.refl _ _).drew.then hu3).alloc _) (headS_nil ?_)
      clear hK
      refine midG_cons rfl fun K hK => ?_
      refine wpList_append elStr rfl _ _ rfl rfl rfl (Slc.upd hst.sl (((Upd.refl Non _).drew.then hu3).alloc _) fun _ _ x => x) (Slc.fresh rfl rfl (by unfold maxLen; omega)) (by simp [Value.oneCell']) (by unfold maxLen; omega) (by omega) ?_
      intro v5 w5 ob5 hs5 hu5 hb5
      obtain ⟨a5, cap5, rfl, _, _, _⟩ := Slc.val hs5
      have hu35 : Upd (fun x => ob = some x) wr w5 := (((Upd.refl _ _).drew.then hu3).alloc _).step hu5 fun _ _ e => e
      have hb5' := hu35.blk hst.blk hnb
      have hc5 := hb5'.cell
      have hf5 := hb5'.frozen
      have hl5 := hb5'.lt
      go_wp2
      refine hK _ _ hu35 (headS_nil (midG_nil ?_))
      simp only [List.drop_succ_cons, List.drop_zero]
      go_wp2
      have h3z := hu3.size
      have hsb := hs.blk.lt
      have hsm : m < w3.heap.size := (Array.getElem?_eq_some_iff.1 hs.map).1
      have hset : Upd (fun x => x = w.heap.size + 4) w5 (w5.setCell ⟨w.heap.size + 1 + 1 + 1 + 1, 0, none⟩ (.slice a5 (k + 1) cap5)) := (Upd.refl (fun x => x = w.heap.size + 4) _).setCell (.inr rfl) _
      simp only [World.size_drew] at h3z hm1
      have hbt := hst.tab.lt
      have hmt : w.heap.size + 2 < wr.heap.size := (Array.getElem?_eq_some_iff.1 hst.map).1
      have hobt := fun x e => hst.ob0 x e
      refine ⟨⟨k + 1, .slice a5 (k + 1) cap5, ss ++ [(b, m)], ob5, by omega, by go_num, ?_, ?_, ?_, ?_⟩, ?_⟩
      · exact hset.blk (hu35.blk hcfg hnc) (by omega)
      · exact {
          blk := (hb5'.set 0 (.slice a5 (k + 1) cap5)).cast rfl
          sl := by rw [ptrs_append]; refine Slc.upd hs5 hset fun x e e' => ?_; rcases hb5 x e with h | h
                   · exact (hobt x h).2.1 e'
                   · simp only [World.size_alloc] at h; omega
          len := by rw [List.length_append, hst.len]; rfl
          str := fun s hs' => by
            rcases List.mem_append.1 hs' with h | h
            · have h1 := hst.str s h
              have h2 : s.1 ≠ w.heap.size + 4 := fun e => by
                have e1 := h1.blk; rw [e] at e1
                have e2 := e1.symm.trans hst.blk
                injection e2 with e2; injection e2 with e2; cases e2
              have h3 : s.2 ≠ w.heap.size + 4 := fun e => by
                have e1 := h1.map; rw [e] at e1
                have e2 := e1.symm.trans hst.blk
                injection e2 with e2; cases e2
              exact (h1.upd hu35 (fun e => ((hobt _ e).2.2.2.2 s h).1 rfl) (fun e => ((hobt _ e).2.2.2.2 s h).2 rfl)).upd hset h2 h3
            · obtain rfl := List.mem_singleton.1 h
              refine (((hs.upd ((Upd.refl Non _).alloc _) (fun x => x) (fun x => x)).upd hu5 ?_ ?_)).upd hset ?_ ?_
              · intro e; have := Slc.lt (e ▸ hst.sl); omega
              · intro e; have := Slc.lt (e ▸ hst.sl); omega
              · omega
              · omega
          tab := hset.blk (hu35.blk hst.tab fun e => (hobt _ e).2.2.1 rfl) (by omega)
          map := hset.heap (hu35.heap hst.map fun e => (hobt _ e).2.2.2.1 rfl) (by omega)
          b0 := by omega
          ob0 := fun x e => by
            rcases hb5 x e with h | h
            · obtain ⟨h1, h2, h3, h4, h5⟩ := hobt x h
              refine ⟨h1, h2, h3, h4, fun s hs' => ?_⟩
              rcases List.mem_append.1 hs' with h' | h'
              · exact h5 s h'
              · obtain rfl := List.mem_singleton.1 h'
                have := Slc.lt (h ▸ hst.sl); simp only; omega
            · simp only [World.size_alloc] at h
              refine ⟨by omega, by omega, by omega, by omega, fun s hs' => ?_⟩
              rcases List.mem_append.1 hs' with h' | h'
              · have h1 := (hst.str s h').blk.lt
                have h2 : s.2 < wr.heap.size := (Array.getElem?_eq_some_iff.1 (hst.str s h').map).1
                omega
              · obtain rfl := List.mem_singleton.1 h'
                simp only; omega
          ss0 := fun s hs' => by
            rcases List.mem_append.1 hs' with h | h
            · exact hst.ss0 s h
            · obtain rfl := List.mem_singleton.1 h; simp only; omega
          tb0 := by omega }
      · intro x e
        rcases hb5 x e with h | h
        · exact hob1 x h
        · simp only [World.size_alloc] at h; omega
      · refine Upd.step (Upd.step hU hu35 fun x hx e => ?_) hset fun x hx e => by omega
        have := (hobt x e).1; omega
      · simp [intOf]; omega
    · obtain rfl : k = n := by omega
      go_wp2
      go_ret2
      exact ⟨_, _, _, _, _, _, rfl, hst, hU⟩
end Go.Proofs.YtmlnjifiaddhjaaGreat
end
section
open Go Go.RowKit Go.Fw
namespace Go.Proofs.YtmlnjifiaddhjaaGreat
set_option maxRecDepth 100000

/-! ### A ground's world -/
/-- The cells of a world of tasks. -/
structure Raw where
  c : Cfg
  st : Nat
  bl : Nat
  n : Nat
  line : Lk
  lv : Value
  asl : Value
  fr : Value
  bk : Value
  dm : Value
  bm : Value
  over : Bool
  ev : Value
def Raw.cs (R : Raw) : Array Value := #[.int .i64 R.c.st, .int .i64 R.c.sa, .int .i64 R.c.lo, .int .i64 R.c.hi, .pointer (some ⟨R.st, 0, none⟩), .slice (some ⟨R.bl, 0, none⟩) R.n R.n,
  .int .u32 R.line.rd, .int .u32 R.line.wr, R.lv, R.asl, R.fr, R.bk, R.dm, R.bm, .bool R.over, R.ev]
def GwAt (w : World) (b : Nat) (R : Raw) : Prop := Blk w b R.cs 107
theorem GwAt.upd {w w' : World} {b : Nat} {R : Raw} {S : Nat → Prop} (h : GwAt w b R) (hu : Upd S w w') (hs : ¬ S b) : GwAt w' b R := hu.blk h hs

theorem made_nil (w : World) : Calls Tryz.prog 57 #[.pointer none] w fun e w' => e = .returned (.bool false) ∧ w = w' := by
  go_enter Tryz.func57, Tryz.ntmps57
  go_wp2; go_ret
  exact ⟨rfl, rfl⟩
theorem made_calls (b : Nat) (R : Raw) (w : World) (h : GwAt w b R) : Calls Tryz.prog 57 #[.pointer (some ⟨b, 0, none⟩)] w fun e w' => e = .returned (.bool true) ∧ w = w' := by
  have hc4 := (h.cell 4).trans (show R.cs[4]? = some (.pointer (some ⟨R.st, 0, none⟩)) from rfl)
  go_enter Tryz.func57, Tryz.ntmps57
  go_wp2; go_ret
  exact ⟨rfl, rfl⟩
theorem count_nil (w : World) : Calls Tryz.prog 24 #[.pointer none] w fun e w' => e = .returned (.int .i64 0) ∧ w = w' := by
  go_enter Tryz.func24, Tryz.ntmps24
  go_wp2_with (go_at_call 57; refine (made_nil _).mono ?_; rintro e w' ⟨rfl, rfl⟩)
  go_ret
  exact ⟨rfl, rfl⟩
theorem count_calls (b : Nat) (R : Raw) (w : World) (h : GwAt w b R) (hn : R.n ≤ 2000) : Calls Tryz.prog 24 #[.pointer (some ⟨b, 0, none⟩)] w fun e w' => e = .returned (.int .i64 (R.n + 1)) ∧ w = w' := by
  have hc5 := (h.cell 5).trans (show R.cs[5]? = some (.slice (some ⟨R.bl, 0, none⟩) R.n R.n) from rfl)
  go_enter Tryz.func24, Tryz.ntmps24
  go_wp2_with (go_at_call 57; refine (made_calls b R _ h).mono ?_; rintro e w' ⟨rfl, rfl⟩)
  go_ret
  exact ⟨by simp, rfl⟩
theorem store_calls (b : Nat) (R : Raw) (w : World) (h : GwAt w b R) : Calls Tryz.prog 81 #[.pointer (some ⟨b, 0, none⟩)] w fun e w' => e = .returned (.pointer (some ⟨R.st, 0, none⟩)) ∧ w = w' := by
  have hc4 := (h.cell 4).trans (show R.cs[4]? = some (.pointer (some ⟨R.st, 0, none⟩)) from rfl)
  go_enter Tryz.func81, Tryz.ntmps81
  go_wp2_with (go_at_call 57; refine (made_calls b R _ h).mono ?_; rintro e w' ⟨rfl, rfl⟩)
  go_ret
  exact ⟨rfl, rfl⟩
theorem config_calls (b : Nat) (R : Raw) (w : World) (h : GwAt w b R) : Calls Tryz.prog 49 #[.pointer (some ⟨b, 0, none⟩)] w fun e w' => e = .returned R.c.v ∧ Upd Non w w' := by
  have hm := made_calls b R
  have hc0 := (h.cell 0).trans (show R.cs[0]? = some (.int .i64 R.c.st) from rfl)
  have hc1 := (h.cell 1).trans (show R.cs[1]? = some (.int .i64 R.c.sa) from rfl)
  have hc2 := (h.cell 2).trans (show R.cs[2]? = some (.int .i64 R.c.lo) from rfl)
  have hc3 := (h.cell 3).trans (show R.cs[3]? = some (.int .i64 R.c.hi) from rfl)
  have hlt := h.lt
  have hE := hid (show R.c.v = .agg #[.int .i64 R.c.st, .int .i64 R.c.sa, .int .i64 R.c.lo, .int .i64 R.c.hi] from rfl)
  go_enter Tryz.func49, Tryz.ntmps49
  go_wp2_with (go_at_call 57; refine (hm _ (Blk.alloc h _)).mono ?_; rintro e w' ⟨rfl, rfl⟩)
  refine bodyPost_ret (v := .agg #[.int .i64 R.c.st, .int .i64 R.c.sa, .int .i64 R.c.lo, .int .i64 R.c.hi]) (by simp [results, Tryz.results49, go_sem]) rfl ⟨by rw [hE.out], (Upd.refl _ _).alloc _⟩

/-- Where a lock lies. -/
def lockP (R : Raw) (b : Nat) (i : Int) : Option Addr := if i < 0 ∨ (R.n + 1 : Int) ≤ i then none else if i = R.n then some ⟨b, 6, none⟩ else some ⟨R.bl, i.toNat * 3, none⟩
theorem lock_nil (i : Int) (w : World) : Calls Tryz.prog 45 #[.pointer none, .int .i64 i] w fun e w' => e = .returned (.pointer none) ∧ w = w' := by
  by_cases h : i < 0
  · go_enter Tryz.func45, Tryz.ntmps45
    go_wp2_with (go_at_call 24; refine (count_nil _).mono ?_; rintro e w' ⟨rfl, rfl⟩)
    go_ret
    exact ⟨rfl, rfl⟩
  · go_enter Tryz.func45, Tryz.ntmps45
    go_wp2_with (go_at_call 24; refine (count_nil _).mono ?_; rintro e w' ⟨rfl, rfl⟩)
    go_ret
    exact ⟨rfl, rfl⟩
theorem lock_calls (b : Nat) (R : Raw) (i : Int) (w : World) (h : GwAt w b R) (hn : R.n ≤ 2000) (hbl : R.bl < w.heap.size) :
    Calls Tryz.prog 45 #[.pointer (some ⟨b, 0, none⟩), .int .i64 i] w fun e w' => e = .returned (.pointer (lockP R b i)) ∧ w = w' := by
  have hc5 := (h.cell 5).trans (show R.cs[5]? = some (.slice (some ⟨R.bl, 0, none⟩) R.n R.n) from rfl)
  have hE := hid (show lockP R b i = if i < 0 ∨ (R.n + 1 : Int) ≤ i then none else if i = R.n then some ⟨b, 6, none⟩ else some ⟨R.bl, i.toNat * 3, none⟩ from rfl)
  by_cases h1 : i < 0
  · have e1 := hid (show lockP R b i = none by rw [hE.out, if_pos (.inl h1)])
    go_enter Tryz.func45, Tryz.ntmps45
    go_wp2_with (go_at_call 24; refine (count_calls b R _ h hn).mono ?_; rintro e w' ⟨rfl, rfl⟩)
    go_ret
    exact ⟨by rw [e1.out]; rfl, rfl⟩
  by_cases h2 : (R.n + 1 : Int) ≤ i
  · have e1 := hid (show lockP R b i = none by rw [hE.out, if_pos (.inr h2)])
    go_enter Tryz.func45, Tryz.ntmps45
    go_wp2_with (go_at_call 24; refine (count_calls b R _ h hn).mono ?_; rintro e w' ⟨rfl, rfl⟩)
    go_ret
    exact ⟨by rw [e1.out]; rfl, rfl⟩
  by_cases h3 : i = R.n
  · have e1 := hid (show lockP R b i = some ⟨b, 6, none⟩ by rw [hE.out, if_neg (by omega), if_pos h3])
    go_enter Tryz.func45, Tryz.ntmps45
    go_wp2_with (go_at_call 24; refine (count_calls b R _ h hn).mono ?_; rintro e w' ⟨rfl, rfl⟩)
    go_ret
    exact ⟨by rw [e1.out]; rfl, rfl⟩
  · obtain ⟨k, rfl⟩ := Int.eq_ofNat_of_zero_le (by omega : 0 ≤ i)
    have hk : k < R.n := by omega
    have e1 := hid (show lockP R b k = some ⟨R.bl, k * 3, none⟩ by rw [hE.out, if_neg (by omega), if_neg h3]; simp)
    go_enter Tryz.func45, Tryz.ntmps45
    go_wp2_with (go_at_call 24; refine (count_calls b R _ h hn).mono ?_; rintro e w' ⟨rfl, rfl⟩)
    go_ret
    exact ⟨by rw [e1.out]; rfl, rfl⟩
end Go.Proofs.YtmlnjifiaddhjaaGreat
end
section
open Go Go.RowKit Go.Fw
namespace Go.Proofs.YtmlnjifiaddhjaaGreat
set_option maxRecDepth 100000

/-! ### All locks of a world. role: whose a block is. 1: the world's own; 2: the locks' array; 100 and more: a line of a lock. -/
structure LocksAt (w : World) (role : Nat → Nat) (b : Nat) (R : Raw) (ks : List Lk) : Prop where
  arr : ∃ arr, Blk w R.bl arr 98 ∧ ∀ i (h : i < ks.length), ∃ lv ob, LkAt arr (i * 3) ks[i] lv ∧ LineS w lv ks[i].line ob ∧ ∀ x, ob = some x → role x = 100 + i
  len : ks.length = R.n
  line : ∃ ob, LineS w R.lv R.line.line ob ∧ ∀ x, ob = some x → role x = 100 + R.n
  rb : role b = 1
  rbl : role R.bl = 2

def lkGet (R : Raw) (ks : List Lk) (i : Int) : Lk := if i = R.n then R.line else ks.getD i.toNat ⟨0, 0, []⟩
def lkPut (R : Raw) (ks : List Lk) (i : Int) (k : Lk) (lv : Value) : Raw × List Lk := if i = R.n then ({ R with line := k, lv := lv }, ks) else (R, ks.set i.toNat k)

/-- What a step on the locks leaves alone. -/
def LkUpd (role : Nat → Nat) (w w' : World) : Prop := Upd (fun x => role x = 1 ∨ role x = 2 ∨ 100 ≤ role x) w w'

theorem LineS.upd {w w' : World} {lv : Value} {l : List (Int × Bool)} {ob : Option Nat} {S : Nat → Prop} (h : LineS w lv l ob) (hu : Upd S w w') (hs : ∀ b, ob = some b → ¬ S b) : LineS w' lv l ob := Slc.upd h hu hs
theorem LineS.lt {w : World} {lv : Value} {l : List (Int × Bool)} {b : Nat} (h : LineS w lv l (some b)) : b < w.heap.size := Slc.lt h

theorem LocksAt.focus {w : World} {role : Nat → Nat} {b : Nat} {R : Raw} {ks : List Lk} (h : GwAt w b R) (hl : LocksAt w role b R ks) (i : Int) (h0 : 0 ≤ i) (h1 : i < R.n + 1) :
    ∃ q o c ty lv ob, lockP R b i = some ⟨q, o, none⟩ ∧ Blk w q c ty ∧ LkAt c o (lkGet R ks i) lv ∧ LineS w lv (lkGet R ks i).line ob ∧ ob ≠ some q ∧
      ∀ w' k' lv' ob', Blk w' q (lkC c o k' lv') ty → LineS w' lv' k'.line ob' → (∀ x, ob' = some x → ob = some x ∨ w.heap.size ≤ x) → Upd (fun x => x = q ∨ ob = some x) w w' →
        ∃ role', (∀ x, x < w.heap.size → role' x = role x) ∧ GwAt w' b (lkPut R ks i k' lv').1 ∧ LocksAt w' role' b (lkPut R ks i k' lv').1 (lkPut R ks i k' lv').2 ∧ LkUpd role w w' := by
  obtain ⟨⟨arr, hbl, hks⟩, hlen, ⟨obl, hline, hobl⟩, hrb, hrbl⟩ := hl
  obtain ⟨i, rfl⟩ := Int.eq_ofNat_of_zero_le h0
  by_cases hi : i = R.n
  · subst hi
    have hq : obl ≠ some b := fun e => by have := hobl b e; omega
    refine ⟨b, 6, R.cs, 107, R.lv, obl, ?_, h, ?_, ?_, hq, ?_⟩
    · unfold lockP; rw [if_neg (by omega), if_pos rfl]
    · unfold lkGet; rw [if_pos rfl]; exact ⟨rfl, rfl, rfl⟩
    · unfold lkGet; rw [if_pos rfl]; exact hline
    · intro w' k' lv' ob' hb' hl' hob' hu
      refine ⟨fun x => if x < w.heap.size then role x else 100 + R.n, fun x hx => if_pos hx, ?_, ?_, hu.mono fun x _ e => ?_⟩
      · unfold lkPut; rw [if_pos rfl]; exact hb'.cast rfl
      · unfold lkPut; rw [if_pos rfl]
        have hblu : Blk w' R.bl arr 98 := hu.blk hbl fun e => by
          rcases e with e | e
          · rw [e] at hrbl; omega
          · have := hobl _ e; omega
        refine ⟨⟨arr, hblu, fun j hj => ?_⟩, hlen, ⟨ob', hl', fun x e => ?_⟩, ?_, ?_⟩
        · obtain ⟨lv, ob, hk, hls, hr⟩ := hks j hj
          refine ⟨lv, ob, hk, hls.upd hu ?_, ?_⟩
          · intro x e e'
            have h2 := hr x e
            rcases e' with e' | e'
            · subst e'; omega
            · have := hobl x e'; simp only at hj; omega
          · intro x e
            subst e
            have := LineS.lt hls
            rw [if_pos this]; exact hr x rfl
        · rcases hob' x e with e' | e'
          · subst e'
            rw [if_pos (LineS.lt hline)]; exact hobl x rfl
          · rw [if_neg (by omega)]
        · rw [if_pos h.lt]; exact hrb
        · show (if R.bl < w.heap.size then role R.bl else 100 + R.n) = 2
          rw [if_pos hbl.lt]; exact hrbl
      · rcases e with e | e
        · subst e; exact .inl hrb
        · have := hobl x e; exact .inr (.inr (by omega))
  · have hi' : i < ks.length := by rw [hlen]; omega
    obtain ⟨lv, ob, hk, hls, hr⟩ := hks i hi'
    have hq : ob ≠ some R.bl := fun e => by have := hr _ e; omega
    have hni : ¬ (i : Int) = R.n := by omega
    have hget : lkGet R ks i = ks[i] := by
      unfold lkGet; rw [if_neg hni]; simp [List.getD_eq_getElem?_getD, hi']
    refine ⟨R.bl, i * 3, arr, 98, lv, ob, ?_, hbl, by rw [hget]; exact hk, by rw [hget]; exact hls, hq, ?_⟩
    · unfold lockP; rw [if_neg (by omega), if_neg hni]; simp
    · intro w' k' lv' ob' hb' hl' hob' hu
      have hput : lkPut R ks i k' lv' = (R, ks.set i k') := by unfold lkPut; rw [if_neg hni]; simp
      rw [hput]
      have hgu : GwAt w' b R := h.upd hu fun e => by
        rcases e with e | e
        · rw [e] at hrb; omega
        · have := hr _ e; omega
      refine ⟨fun x => if x < w.heap.size then role x else 100 + i, fun x hx => if_pos hx, hgu, ?_, hu.mono fun x _ e => ?_⟩
      · refine ⟨⟨lkC arr (i * 3) k' lv', hb', fun j hj => ?_⟩, by rw [List.length_set]; exact hlen, ⟨obl, hline.upd hu ?_, fun x e => ?_⟩, ?_, ?_⟩
        · rw [List.length_set] at hj
          by_cases hji : j = i
          · subst hji
            refine ⟨lv', ob', ?_, ?_, fun x e => ?_⟩
            · rw [List.getElem_set_self]; exact LkAt.of hk.lt k' lv'
            · rw [List.getElem_set_self]; exact hl'
            · rcases hob' x e with e' | e'
              · subst e'; rw [if_pos (LineS.lt hls)]; exact hr x rfl
              · rw [if_neg (by omega)]
          · obtain ⟨lv2, ob2, hk2, hls2, hr2⟩ := hks j hj
            refine ⟨lv2, ob2, ?_, ?_, fun x e => ?_⟩
            · rw [List.getElem_set_ne (Ne.symm hji)]
              refine ⟨?_, ?_, ?_⟩
              · rw [lkC_get, if_neg (by omega), if_neg (by omega), if_neg (by omega)]; exact hk2.rd
              · rw [lkC_get, if_neg (by omega), if_neg (by omega), if_neg (by omega)]; exact hk2.wr
              · rw [lkC_get, if_neg (by omega), if_neg (by omega), if_neg (by omega)]; exact hk2.ln
            · rw [List.getElem_set_ne (Ne.symm hji)]
              refine hls2.upd hu fun x e e' => ?_
              have h2 := hr2 x e
              rcases e' with e' | e'
              · subst e'; omega
              · have := hr x e'; omega
            · subst e; rw [if_pos (LineS.lt hls2)]; exact hr2 x rfl
        · intro x e e'
          have h2 := hobl x e
          rcases e' with e' | e'
          · subst e'; omega
          · have := hr x e'; omega
        · subst e; rw [if_pos (LineS.lt hline)]; exact hobl x rfl
        · rw [if_pos h.lt]; exact hrb
        · show (if R.bl < w.heap.size then role R.bl else 100 + i) = 2
          rw [if_pos hbl.lt]; exact hrbl
      · rcases e with e | e
        · subst e; exact .inr (.inl hrbl)
        · have := hr x e; exact .inr (.inr (by omega))
end Go.Proofs.YtmlnjifiaddhjaaGreat
end
section
open Go Go.RowKit Go.Fw
namespace Go.Proofs.YtmlnjifiaddhjaaGreat
set_option maxRecDepth 100000

theorem lockP_none {R : Raw} {b : Nat} {i : Int} (h : ¬ (0 ≤ i ∧ i < R.n + 1)) : lockP R b i = none := by
  unfold lockP; rw [if_pos (by omega)]

/-- How a task holds a lock of a world. -/
def gheldV (R : Raw) (ks : List Lk) (i t : Int) : Int := if 0 ≤ i ∧ i < R.n + 1 then heldV (lkGet R ks i).rd (lkGet R ks i).wr t else 0

theorem gheld_nil (i t : Int) (w : World) : Calls Tryz.prog 12 #[.pointer none, .int .i64 i, .int .i64 t] w fun e w' => e = .returned (.int .i64 0) ∧ w = w' := by
  go_enter Tryz.func12, Tryz.ntmps12
  go_wp2_with (first | (go_at_call 45; refine (lock_nil _ _).mono ?_; rintro e w' ⟨rfl, rfl⟩) | (go_at_call 47; refine (held_nil _ _).mono ?_; rintro e w' ⟨rfl, rfl⟩))
  go_ret
  exact ⟨rfl, rfl⟩
theorem gheld_calls (b : Nat) (R : Raw) (ks : List Lk) (role : Nat → Nat) (i t : Int) (w : World) (h : GwAt w b R) (hl : LocksAt w role b R ks) (hn : R.n ≤ 2000) :
    Calls Tryz.prog 12 #[.pointer (some ⟨b, 0, none⟩), .int .i64 i, .int .i64 t] w fun e w' => e = .returned (.int .i64 (gheldV R ks i t)) ∧ w = w' := by
  have hbl : R.bl < w.heap.size := by obtain ⟨arr, h1, _⟩ := hl.arr; exact h1.lt
  have E := hid (show gheldV R ks i t = if 0 ≤ i ∧ i < R.n + 1 then heldV (lkGet R ks i).rd (lkGet R ks i).wr t else 0 from rfl)
  by_cases hi : 0 ≤ i ∧ i < R.n + 1
  · obtain ⟨q, o, c, ty, lv, ob, hp, hb, hk, _, _, _⟩ := hl.focus h i hi.1 hi.2
    have h0 := (hb.cell o).trans hk.rd
    have h1 := (hb.cell (o + 1)).trans hk.wr
    have E1 := hid (show gheldV R ks i t = heldV (lkGet R ks i).rd (lkGet R ks i).wr t by rw [E.out, if_pos hi])
    clear E
    generalize lkGet R ks i = k at *
    go_enter Tryz.func12, Tryz.ntmps12
    go_wp2_with (first | (go_at_call 45; refine (lock_calls b R i _ h hn hbl).mono ?_; rw [hp]; rintro e w' ⟨rfl, rfl⟩) | (go_at_call 47; refine (held_calls q o t _ k.rd k.wr h0 h1).mono ?_; rintro e w' ⟨rfl, rfl⟩))
    go_ret
    exact ⟨by rw [E1.out]; rfl, rfl⟩
  · have E1 := hid (show gheldV R ks i t = 0 by rw [E.out, if_neg hi])
    have hp := lockP_none (b := b) hi
    clear E
    go_enter Tryz.func12, Tryz.ntmps12
    go_wp2_with (first | (go_at_call 45; refine (lock_calls b R i _ h hn hbl).mono ?_; rw [hp]; rintro e w' ⟨rfl, rfl⟩) | (go_at_call 47; refine (held_nil _ _).mono ?_; rintro e w' ⟨rfl, rfl⟩))
    go_ret
    exact ⟨by rw [E1.out]; rfl, rfl⟩

/-- What asking for a lock of a world comes to. -/
def gaskE (R : Raw) (ks : List Lk) (i t : Int) (write : Bool) : Bool × Int := if 0 ≤ i ∧ i < R.n + 1 then ((askR (lkGet R ks i) t write).1, (askR (lkGet R ks i) t write).2.1) else (false, 1)
theorem gask_in (b : Nat) (R : Raw) (ks : List Lk) (role : Nat → Nat) (i t : Int) (write : Bool) (w : World) (h : GwAt w b R) (hl : LocksAt w role b R ks) (hn : R.n ≤ 2000)
    (h0 : 0 ≤ i) (h1 : i < R.n + 1) (hm : (lkGet R ks i).line.length ≤ 1000) :
    Calls Tryz.prog 22 #[.pointer (some ⟨b, 0, none⟩), .int .i64 i, .int .i64 t, .bool write] w fun e w' => ∃ lv role',
      e = .returned (.tuple #[.bool (askR (lkGet R ks i) t write).1, .int .i64 (askR (lkGet R ks i) t write).2.1]) ∧ (∀ x, x < w.heap.size → role' x = role x) ∧
      GwAt w' b (lkPut R ks i (askR (lkGet R ks i) t write).2.2 lv).1 ∧ LocksAt w' role' b (lkPut R ks i (askR (lkGet R ks i) t write).2.2 lv).1 (lkPut R ks i (askR (lkGet R ks i) t write).2.2 lv).2 ∧ LkUpd role w w' := by
  have hbl : R.bl < w.heap.size := by obtain ⟨arr, h1, _⟩ := hl.arr; exact h1.lt
  obtain ⟨q, o, c, ty, lv, ob, hp, hb, hk, hls, hne, hback⟩ := hl.focus h i h0 h1
  have hask := ask_calls q o c ty (lkGet R ks i) lv ob t write w hb hk hls hne hm
  generalize hres : askR (lkGet R ks i) t write = res at *
  go_enter Tryz.func22, Tryz.ntmps22
  go_wp2_with (first | (go_at_call 45; refine (lock_calls b R i _ h hn hbl).mono ?_; rw [hp]; rintro e w' ⟨rfl, rfl⟩) | (go_at_call 60; refine hask.mono ?_; rintro e w' ⟨lv', ob', rfl, hb', hl', hob', hu'⟩))
  go_ret2
  obtain ⟨role', hr1, hr2, hr3, hr4⟩ := hback _ _ _ _ hb' hl' hob' hu'
  exact ⟨_, role', rfl, hr1, hr2, hr3, hr4⟩
theorem gask_out (b : Nat) (R : Raw) (i t : Int) (write : Bool) (w : World) (h : GwAt w b R) (hn : R.n ≤ 2000) (hbl : R.bl < w.heap.size) (hi : ¬ (0 ≤ i ∧ i < R.n + 1)) :
    Calls Tryz.prog 22 #[.pointer (some ⟨b, 0, none⟩), .int .i64 i, .int .i64 t, .bool write] w fun e w' => e = .returned (.tuple #[.bool false, .int .i64 1]) ∧ w = w' := by
  have hp := lockP_none (b := b) hi
  go_enter Tryz.func22, Tryz.ntmps22
  go_wp2_with (first | (go_at_call 45; refine (lock_calls b R i _ h hn hbl).mono ?_; rw [hp]; rintro e w' ⟨rfl, rfl⟩) | (go_at_call 60; refine (ask_nil _ _ _).mono ?_; rintro e w' ⟨rfl, rfl⟩))
  go_ret2
  exact ⟨rfl, rfl⟩
theorem gdrop_in (b : Nat) (R : Raw) (ks : List Lk) (role : Nat → Nat) (i t : Int) (w : World) (h : GwAt w b R) (hl : LocksAt w role b R ks) (hn : R.n ≤ 2000)
    (h0 : 0 ≤ i) (h1 : i < R.n + 1) (hm : (lkGet R ks i).line.length ≤ 1000) :
    Calls Tryz.prog 23 #[.pointer (some ⟨b, 0, none⟩), .int .i64 i, .int .i64 t] w fun e w' => ∃ lv role',
      e = .returned (.int .i64 (dropR (lkGet R ks i) t).1) ∧ (∀ x, x < w.heap.size → role' x = role x) ∧
      GwAt w' b (lkPut R ks i (dropR (lkGet R ks i) t).2 lv).1 ∧ LocksAt w' role' b (lkPut R ks i (dropR (lkGet R ks i) t).2 lv).1 (lkPut R ks i (dropR (lkGet R ks i) t).2 lv).2 ∧ LkUpd role w w' := by
  have hbl : R.bl < w.heap.size := by obtain ⟨arr, h1, _⟩ := hl.arr; exact h1.lt
  obtain ⟨q, o, c, ty, lv, ob, hp, hb, hk, hls, hne, hback⟩ := hl.focus h i h0 h1
  have hdrop := drop_calls q o c ty (lkGet R ks i) lv ob t w hb hk hls hne hm
  generalize hres : dropR (lkGet R ks i) t = res at *
  go_enter Tryz.func23, Tryz.ntmps23
  go_wp2_with (first | (go_at_call 45; refine (lock_calls b R i _ h hn hbl).mono ?_; rw [hp]; rintro e w' ⟨rfl, rfl⟩) | (go_at_call 61; refine hdrop.mono ?_; rintro e w' ⟨v, lv', rfl, hb', hl', hu'⟩))
  go_ret
  obtain ⟨role', hr1, hr2, hr3, hr4⟩ := hback _ _ _ _ hb' hl' (fun x e => .inl e) (hu'.mono fun x _ e => .inl e)
  exact ⟨_, role', rfl, hr1, hr2, hr3, hr4⟩
theorem gdrop_out (b : Nat) (R : Raw) (i t : Int) (w : World) (h : GwAt w b R) (hn : R.n ≤ 2000) (hbl : R.bl < w.heap.size) (hi : ¬ (0 ≤ i ∧ i < R.n + 1)) :
    Calls Tryz.prog 23 #[.pointer (some ⟨b, 0, none⟩), .int .i64 i, .int .i64 t] w fun e w' => e = .returned (.int .i64 5) ∧ w = w' := by
  have hp := lockP_none (b := b) hi
  go_enter Tryz.func23, Tryz.ntmps23
  go_wp2_with (first | (go_at_call 45; refine (lock_calls b R i _ h hn hbl).mono ?_; rw [hp]; rintro e w' ⟨rfl, rfl⟩) | (go_at_call 61; refine (drop_nil _ _).mono ?_; rintro e w' ⟨rfl, rfl⟩))
  go_ret
  exact ⟨rfl, rfl⟩
end Go.Proofs.YtmlnjifiaddhjaaGreat
end
