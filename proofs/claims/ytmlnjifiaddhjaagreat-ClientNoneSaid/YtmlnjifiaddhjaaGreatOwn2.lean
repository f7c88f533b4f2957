/- Texts of a proof over the given program: contracts of its functions, each proved by a walk through its code, and the plain facts that they need. -/
import Derived.Orders
import Derived.Tactics
import Derived.Laws.World
import Derived.WalkKit
import Derived.Handy
import Derived.WalkLawsBesides
import Derived.Deep.MidRow
import Derived.Test.YtmlnjifiaddhjaaGreatProg
import Derived.Test.YtmlnjifiaddhjaaGreatRows
import Derived.ProofKit
import Derived.OpenShut
import Derived.Lib.SmallJoins
import Derived.Test.YtmlnjifiaddhjaaGreatOwn1
section
open Go Go.RowKit Go.Fw
namespace Go.Proofs.YtmlnjifiaddhjaaGreat
set_option maxRecDepth 100000

/-! ### ground.New -/
theorem infoLock : (Tryz.prog.info? 98).map (fun i => (i.size, i.bytes, i.zero)) = some (3, 32, some (.agg #[.int .u32 0, .int .u32 0, .slice none 0 0])) := by kernel_rfl
theorem undLocks : Tryz.prog.underlying 93 = some (.slice 98) := by kernel_rfl
def lockCells (n : Nat) : Array Value := madeCells #[.int .u32 0, .int .u32 0, .slice none 0 0] (n * 3)
theorem make_locks (n : Nat) (hn : n ≤ 2000) (w : World) : (Instr.makeSlice 93 (.int .i64 n) (.int .i64 n)).run Tryz.prog w =
    .ok (.slice (some ⟨w.heap.size, 0, none⟩) n n) (w.alloc (.cells (lockCells n) 98)) := by
  obtain ⟨i, hi, he⟩ := Option.map_eq_some_iff.1 infoLock
  simp only [Prod.mk.injEq] at he
  obtain ⟨h1, h2, h3⟩ := he
  have := run_make (P := Tryz.prog) w 93 98 i _ undLocks hi h3 .i64 .i64 (n : Int) (n : Int) (by omega) (by omega) (by rw [h2]; omega) (by omega)
  rw [h1] at this
  simp only [Int.toNat_natCast] at this
  exact this
theorem lockCells_at (n i : Nat) (h : i < n) : LkAt (lockCells n) (i * 3) ⟨0, 0, []⟩ (.slice none 0 0) := by
  have e0 : i * 3 % 3 = 0 := by omega
  have e1 : (i * 3 + 1) % 3 = 1 := by omega
  have e2 : (i * 3 + 2) % 3 = 2 := by omega
  have l0 : i * 3 < n * 3 := by omega
  have l1 : i * 3 + 1 < n * 3 := by omega
  have l2 : i * 3 + 2 < n * 3 := by omega
  refine ⟨?_, ?_, ?_⟩
  · unfold lockCells madeCells
    rw [Array.getElem?_map, Array.getElem?_range, if_pos l0]; simp [e0]
  · unfold lockCells madeCells
    rw [Array.getElem?_map, Array.getElem?_range, if_pos l1]; simp [e1]
  · unfold lockCells madeCells
    rw [Array.getElem?_map, Array.getElem?_range, if_pos l2]; simp [e2]

theorem NewStore.upd {w w' : World} {base : Nat} {c : Cfg} {n b bt mt : Nat} {sv : Value} {ss : List (Nat × Nat)} {ob : Option Nat} (h : NewStore w base c n b bt mt sv ss ob) (hu : Upd Non w w') : NewStore w' base c n b bt mt sv ss ob :=
  { h with
    blk := hu.blk h.blk fun x => x
    sl := Slc.upd h.sl hu fun _ _ x => x
    str := fun s hs => (h.str s hs).upd hu (fun x => x) fun x => x
    tab := hu.blk h.tab fun x => x
    map := hu.heap h.map fun x => x }

/-- A world that was made. -/
structure NewWorld (w : World) (base : Nat) (c : Cfg) (b : Nat) (R : Raw) : Prop where
  at_ : GwAt w b R
  cfg : R.c = c
  n : R.n = (c.st + 1).toNat
  bl : Blk w R.bl (lockCells R.n) 98
  line : R.line = ⟨0, 0, []⟩ ∧ R.lv = .slice none 0 0
  rest : R.asl = .slice none 0 0 ∧ R.fr = .slice none 0 0 ∧ R.bk = .slice none 0 0 ∧ R.dm = .map none ∧ R.bm = .map none ∧ R.over = false ∧ R.ev = .slice none 0 0
  st : ∃ base' bt mt sv ss ob, base ≤ base' ∧ NewStore w base' c c.st.toNat R.st bt mt sv ss ob
  lt : base ≤ R.st ∧ R.st < R.bl ∧ R.bl < b

set_option maxHeartbeats 1000000 in
theorem gnew_calls (c : Cfg) (w : World) (hwf : c.wf) (hok : c.ok = true) (hst0 : 0 ≤ c.st) (hst1 : c.st ≤ 1000) : Calls Tryz.prog 8 #[c.v] w fun e w' =>
    ∃ b R, e = .returned (.tuple #[.pointer (some ⟨b, 0, none⟩), .int .i64 0]) ∧ NewWorld w' w.heap.size c b R ∧ Upd Non w w' := by
  have hright := hid (show okE c.ok 1 = 0 by rw [hok]; rfl)
  have hsn := fun w => stnew_calls c w hwf hok hst0 hst1
  have hline := fun w => line_calls c w hst0 hst1
  obtain ⟨st, sa, lo, hi⟩ := c
  simp only [Cfg.v] at *
  obtain ⟨n, rfl⟩ := Int.eq_ofNat_of_zero_le hst0
  have hn : n ≤ 1000 := by omega
  have hmake := fun w => make_locks (n + 1) (by omega) w
  simp only [Int.natCast_add, Int.natCast_one] at hmake
  go_enter Tryz.func8, Tryz.ntmps8
  go_wp2_with (first | (go_at_call 26; refine (nright_calls ⟨n, sa, lo, hi⟩ _ hwf).mono ?_; rw [hright.out]; rintro e w' ⟨rfl, rfl⟩) | (go_at_call 27; refine (hsn _).mono ?_; rintro e w2 ⟨bs, bt, mt, sv, ss, ob, rfl, hst, hu2⟩; obtain ⟨q1, q2, q3⟩ := hu2.keep))
  have hcfg := hu2.blk ((Blk.new w #[.int .i64 n, .int .i64 sa, .int .i64 lo, .int .i64 hi] 23).alloc (.cells (Cfg.cs ⟨n, sa, lo, hi⟩) 23)) fun x => x
  refine region3 (Upd Non _) [0, 1, 2, 7] [(3, []), (4, [5]), (6, [8])] 9 follows (by kernel_rfl) (Upd.refl _ _).drew ?_
  repeat (apply headS_cons rfl; (next => (intro W hW; have hcx := (hW.blk hcfg (fun x => x)).cell; go_wp2; first | exact ⟨rfl, rfl⟩ | exact ⟨rfl, trivial⟩)); (next => kernel_rfl))
  refine headS_nil ?_
  refine midG_cons rfl fun K hK => ?_
  go_wp2_with (go_at_call 28; refine (hline _).mono ?_; rintro e w3 ⟨rfl, rfl⟩)
  refine hK _ _ ((Upd.refl _ _).drew.alloc _) (headS_nil ?_)
  clear hK
  refine midG_cons rfl fun K hK => ?_
  go_wp2
  refine hK _ _ (((Upd.refl _ _).drew.alloc _).alloc _) ?_
  clear hK
  repeat (apply headS_cons rfl; (next => (intro W hW; go_wp2; first | exact ⟨rfl, rfl⟩ | exact ⟨rfl, trivial⟩)); (next => kernel_rfl))
  refine headS_nil ?_
  refine midG_cons rfl fun K hK => ?_
  go_wp2
  refine hK _ _ ((((Upd.refl _ _).drew.alloc _).alloc _).alloc _) ?_
  clear hK
  repeat (apply headS_cons rfl; (next => (intro W hW; go_wp2; first | exact ⟨rfl, rfl⟩ | exact ⟨rfl, trivial⟩)); (next => kernel_rfl))
  refine headS_nil (midG_nil ?_)
  simp only [List.drop_succ_cons, List.drop_zero]
  go_wp2
  go_ret2
  have h2 := hu2.size
  simp only [World.size_alloc] at h2
  have hstl := hst.blk.lt
  have hstb := hst.b0
  simp only [World.size_alloc] at hstb
  refine ⟨_, ⟨⟨n, sa, lo, hi⟩, bs, w2.heap.size + 1, n + 1, ⟨0, 0, []⟩, .slice none 0 0, .slice none 0 0, .slice none 0 0, .slice none 0 0, .map none, .map none, false, .slice none 0 0⟩, rfl, ?_, ?_⟩
  · exact {
      at_ := Blk.fresh (by simp only [World.size_alloc]) _ _
      cfg := rfl
      n := by simp only; omega
      bl := (Blk.fresh (by simp only [World.size_alloc]) _ _).alloc _
      line := ⟨rfl, rfl⟩
      rest := ⟨rfl, rfl, rfl, rfl, rfl, rfl, rfl⟩
      st := by
        refine ⟨_, bt, mt, sv, ss, ob, ?_, (((hst.upd ((Upd.refl Non _).alloc _)).upd ((Upd.refl Non _).alloc _)).upd ((Upd.refl Non _).alloc _)).upd (Upd.refl Non _).drew⟩
        simp only [World.size_alloc]; omega
      lt := ⟨by simp only; omega, by simp only; omega, by simp only; omega⟩ }
  · exact ((((((Upd.refl Non _).alloc _).alloc _).then hu2).drew.alloc _).alloc _).alloc _
end Go.Proofs.YtmlnjifiaddhjaaGreat
end
section
open Go Go.RowKit Go.Fw
namespace Go.Proofs.YtmlnjifiaddhjaaGreat
set_option maxRecDepth 100000

/-! ### A client -/
structure Rep where
  err : Int
  epoch : Int
  handle : Int
  cnt : Int
  sum : Int
  least : Int
  most : Int
  mean : Int
  tick : Int
  load : Int
  want : Int
  repl : Int
  why : Int
def Rep.zero : Rep := ⟨0, 0, 0, 0, 0, 0, 0, 0, 0, 0, 0, 0, 0⟩
structure Cl where
  wb : Nat
  pv : Value
  ov : Value
  task : Int
  nth : Int
  pos : Int
  wants : Int
  rep : Rep
def Cl.cs (k : Cl) : Array Value := #[.pointer (some ⟨k.wb, 0, none⟩), k.pv, k.ov, .int .i64 k.task, .int .i64 k.nth, .int .i64 k.pos, .int .i64 k.wants,
  .int .i64 k.rep.err, .int .i64 k.rep.epoch, .int .i64 k.rep.handle, .int .i64 k.rep.cnt, .int .i64 k.rep.sum, .int .i64 k.rep.least, .int .i64 k.rep.most, .int .i64 k.rep.mean,
  .int .i64 k.rep.tick, .int .i64 k.rep.load, .int .i64 k.rep.want, .int .i64 k.rep.repl, .int .i64 k.rep.why]
def ClAt (w : World) (b : Nat) (k : Cl) : Prop := Blk w b k.cs 133
def calCells (l : List Cal) : List Value := l.flatMap fun c => c.cs.toList
def CalsS (w : World) (v : Value) (l : List Cal) (ob : Option Nat) : Prop := Slc w 55 11 v (calCells l) l.length ob
theorem elCal : El Tryz.prog 76 55 11 96 := El.of (by kernel_rfl) (by kernel_rfl) (by decide)
theorem calCells_one (l : List Cal) : ∀ u ∈ calCells l, u.oneCell' = true := by
  intro u hu
  simp only [calCells, List.mem_flatMap, Cal.cs, List.mem_cons, List.not_mem_nil, or_false] at hu
  obtain ⟨c, _, h⟩ := hu
  rcases h with rfl | rfl | rfl | rfl | rfl | rfl | rfl | rfl | rfl | rfl | rfl <;> rfl

theorem cnew_nil (t : Int) (v : Value) (w : World) : Calls Tryz.prog 14 #[.pointer none, .int .i64 t, v] w fun e w' => e = .returned (.pointer none) ∧ w = w' := by
  go_enter Tryz.func14, Tryz.ntmps14
  go_wp2_with (go_at_call 24; refine (count_nil _).mono ?_; rintro e w' ⟨rfl, rfl⟩)
  go_ret
  exact ⟨rfl, rfl⟩
theorem cnew_bad (b : Nat) (R : Raw) (t : Int) (v : Value) (w : World) (h : GwAt w b R) (hn : R.n ≤ 2000) (ht : ¬ (0 ≤ t ∧ t < 32)) :
    Calls Tryz.prog 14 #[.pointer (some ⟨b, 0, none⟩), .int .i64 t, v] w fun e w' => e = .returned (.pointer none) ∧ w = w' := by
  by_cases h1 : t < 0
  · go_enter Tryz.func14, Tryz.ntmps14
    go_wp2_with (go_at_call 24; refine (count_calls b R _ h hn).mono ?_; rintro e w' ⟨rfl, rfl⟩)
    go_ret
    exact ⟨rfl, rfl⟩
  · have h2 : 32 ≤ t := by omega
    go_enter Tryz.func14, Tryz.ntmps14
    go_wp2_with (go_at_call 24; refine (count_calls b R _ h hn).mono ?_; rintro e w' ⟨rfl, rfl⟩)
    go_ret
    exact ⟨rfl, rfl⟩
theorem cnew_calls (b : Nat) (R : Raw) (t : Int) (v : Value) (ps : List Cal) (op : Option Nat) (w : World) (h : GwAt w b R) (hn : R.n ≤ 2000) (ht : 0 ≤ t ∧ t < 32) (hp : CalsS w v ps op) (hl : ps.length ≤ 1000000) :
    Calls Tryz.prog 14 #[.pointer (some ⟨b, 0, none⟩), .int .i64 t, v] w fun e w' => ∃ cb pv ob, e = .returned (.pointer (some ⟨cb, 0, none⟩)) ∧ ClAt w' cb ⟨b, pv, .slice none 0 0, t, 0, 0, -1, Rep.zero⟩ ∧ CalsS w' pv ps ob ∧
      w.heap.size ≤ cb ∧ (∀ x, ob = some x → w.heap.size ≤ x ∧ x ≠ cb) ∧ Upd Non w w' := by
  obtain ⟨ht1, ht2⟩ := ht
  obtain ⟨a, cap, rfl, _, _, _⟩ := Slc.val hp
  have hz0 : ¬ ((R.n : Int) + 1 = 0) := by omega
  have hz1 : ((R.n : Int) + 1 == 0) = false := by simpa using hz0
  go_enter Tryz.func14, Tryz.ntmps14
  go_wp2_with (first | (go_at_call 24; refine (count_calls b R _ h hn).mono ?_; rintro e w' ⟨rfl, rfl⟩) | (at_builtin; go_loud (refine wpList_append elCal rfl _ _ rfl rfl rfl (Slc.nil _ _ _) hp (calCells_one _) (by unfold maxLen; omega) (by omega) ?_); intro v2 w2 ob2 hs2 hu2 hb2; obtain ⟨a2, cap2, rfl, _, _, _⟩ := Slc.val hs2))
  go_ret
  have hu := hu2.mono (S' := Non) fun b _ e => by cases e
  have hz := hu.size
  refine ⟨_, _, ob2, rfl, Blk.fresh rfl _ _, ?_, hz, fun x e => ?_, hu.alloc _⟩
  · simp only [List.nil_append, Nat.zero_add] at hs2 ⊢
    exact Slc.upd hs2 ((Upd.refl Non _).alloc _) (fun _ _ x => x)
  · rcases hb2 x e with h | h
    · cases h
    · have := Slc.lt (e ▸ hs2); exact ⟨h, by omega⟩

def overV (nth : Int) (n : Nat) : Bool := decide ((n : Int) ≤ nth)
theorem over_nil (w : World) : Calls Tryz.prog 15 #[.pointer none] w fun e w' => e = .returned (.bool true) ∧ Upd Non w w' := by
  go_enter Tryz.func15, Tryz.ntmps15
  go_wp2
  refine region0 [0, 1, 2, 3, 4, 5, 6, 7, 8, 9, 10, 11] 12 follows (by kernel_rfl) ?_
  repeat (apply head0_cons rfl; (next => (go_wp2; first | exact ⟨rfl, rfl⟩ | exact ⟨rfl, trivial⟩)); (next => kernel_rfl))
  refine head0_nil ?_; simp only [List.drop_succ_cons, List.drop_zero]
  go_wp2
  go_ret
  exact ⟨rfl, (Upd.refl _ _).drew⟩
theorem over_calls (b : Nat) (k : Cl) (ps : List Cal) (op : Option Nat) (w : World) (h : ClAt w b k) (hp : CalsS w k.pv ps op) :
    Calls Tryz.prog 15 #[.pointer (some ⟨b, 0, none⟩)] w fun e w' => e = .returned (.bool (overV k.nth ps.length)) ∧ Upd Non w w' := by
  obtain ⟨a, cap, hpv, _, _, _⟩ := Slc.val hp
  have hc1 := (h.cell 1).trans (show k.cs[1]? = some k.pv from rfl)
  rw [hpv] at hc1
  have hc4 := (h.cell 4).trans (show k.cs[4]? = some (.int .i64 k.nth) from rfl)
  have E := hid (show overV k.nth ps.length = decide ((ps.length : Int) ≤ k.nth) from rfl)
  by_cases hlt : (ps.length : Int) ≤ k.nth
  · have E1 := hid (show overV k.nth ps.length = true by rw [E.out]; simpa using hlt)
    go_enter Tryz.func15, Tryz.ntmps15
    go_wp2
    refine region0 [0, 1, 2, 3, 4, 5, 6, 7, 8, 9, 10, 11] 12 follows (by kernel_rfl) ?_
    repeat (apply head0_cons rfl; (next => (go_wp2; first | exact ⟨rfl, rfl⟩ | exact ⟨rfl, trivial⟩)); (next => kernel_rfl))
    refine head0_nil ?_; simp only [List.drop_succ_cons, List.drop_zero]
    go_wp2
    go_ret
    exact ⟨by rw [E1.out]; rfl, (Upd.refl _ _).drew⟩
  · have E1 := hid (show overV k.nth ps.length = false by rw [E.out]; simpa using hlt)
    have hd : decide ((ps.length : Int) ≤ k.nth) = false := by simpa using hlt
    go_enter Tryz.func15, Tryz.ntmps15
    go_wp2
    refine region0 [0, 1, 2, 3, 4, 5, 6, 7, 8, 9, 10, 11] 12 follows (by kernel_rfl) ?_
    repeat (apply head0_cons rfl; (next => (go_wp2; first | exact ⟨rfl, rfl⟩ | exact ⟨rfl, trivial⟩)); (next => kernel_rfl))
    refine head0_nil ?_; simp only [List.drop_succ_cons, List.drop_zero]
    go_wp2
    go_ret
    exact ⟨by rw [E1.out]; rfl, (Upd.refl _ _).drew⟩
theorem where_nil (w : World) : Calls Tryz.prog 17 #[.pointer none] w fun e w' => e = .returned (.tuple #[.int .i64 0, .int .i64 0]) ∧ w = w' := by
  go_enter Tryz.func17, Tryz.ntmps17
  go_wp2
  go_ret2
  exact ⟨rfl, rfl⟩
theorem ready_nil (w : World) : Calls Tryz.prog 18 #[.pointer none] w fun e w' => e = .returned (.bool false) ∧ Upd Non w w' := by
  go_enter Tryz.func18, Tryz.ntmps18
  go_wp2
  refine region1 (Upd Non _) [0, 1, 2, 3, 4, 5, 6, 7, 8, 9, 10, 11, 12, 13, 14, 15, 16, 17, 18, 19, 20, 21] 22 follows (by kernel_rfl) (Upd.refl _ _).drew ?_
  repeat (apply head_cons rfl; (next => (intro W hW; (try simp only [List.getElem_toArray, List.getElem_cons_zero, List.getElem_cons_succ]); go_wp2_with (go_at_call 15; refine (over_nil _).mono ?_; rintro e w' ⟨rfl, hu⟩); first | exact ⟨rfl, hW⟩ | exact ⟨rfl, hW.then (by assumption)⟩)); (next => kernel_rfl))
  refine head_nil ?_
  intro W hW
  simp only [List.drop_succ_cons, List.drop_zero]
  go_wp2
  go_ret
  exact ⟨rfl, hW⟩
theorem step_nil (w : World) : Calls Tryz.prog 16 #[.pointer none] w fun e w' => e = .returned (.tuple #[]) ∧ Upd Non w w' := by
  go_enter Tryz.func16, Tryz.ntmps16
  go_wp2_with (go_at_call 18; refine (ready_nil _).mono ?_; rintro e w' ⟨rfl, hu⟩)
  refine bodyPost_ret (results_none rfl _ _ _) rfl ⟨rfl, hu⟩
end Go.Proofs.YtmlnjifiaddhjaaGreat
end
section
open Go Go.RowKit Go.Fw
namespace Go.Proofs.YtmlnjifiaddhjaaGreat
set_option maxRecDepth 100000

/-! ### Events -/
theorem foldl_set_list {α : Type} : ∀ (l : List α) (k : Nat) (z : Array α), k + l.length ≤ z.size →
    ((l.zipIdx k).foldl (fun cs x => cs.setIfInBounds x.2 x.1) z).toList = z.toList.take k ++ l ++ z.toList.drop (k + l.length)
  | [], k, z, h => by simp
  | a :: l, k, z, h => by
    rw [List.zipIdx_cons, List.foldl_cons]
    rw [foldl_set_list l (k + 1) (z.setIfInBounds k a) (by simp at h ⊢; omega)]
    simp only [Array.toList_setIfInBounds, List.length_cons]
    have hk : k < z.toList.length := by simp at h ⊢; omega
    rw [List.take_set, List.take_succ_eq_append_getElem hk, List.set_append_right _ _ (by rw [List.length_take]; omega)]
    have e0 : min k z.toList.length = k := by omega
    simp only [List.length_take, e0, Nat.sub_self, List.set_cons_zero]
    rw [List.drop_set_of_lt (by omega)]
    simp [Nat.add_assoc, Nat.add_comm 1]
theorem foldl_set_full {α : Type} (xs z : Array α) (n : Nat) (hn : xs.size = n) (hz : z.size = n) :
    Array.foldl (fun cs x => cs.setIfInBounds x.snd x.fst) z xs.zipIdx 0 n = xs := by
  subst hn
  have h1 : xs.zipIdx.size = xs.size := by simp
  have : Array.foldl (fun cs x => cs.setIfInBounds x.snd x.fst) z xs.zipIdx 0 xs.size = xs.zipIdx.toList.foldl (fun cs x => cs.setIfInBounds x.snd x.fst) z := by
    rw [Array.foldl_toList, h1]
  rw [this, Array.toList_zipIdx]
  apply Array.toList_inj.1
  rw [foldl_set_list xs.toList 0 z (by simp [hz])]
  simp [hz]

structure Ev where
  kind : Int
  task : Int
  nth : Int
  call : Cal
  rep : Rep
  kh : Int
  kl : Int
  tick : Int
  load : Int
  want : Int
  repl : Int
  why : Int
def Ev.cs (e : Ev) : Array Value := (List.toArray (.int .i64 e.kind :: .int .i64 e.task :: .int .i64 e.nth :: .int .i64 e.call.kind :: .string e.call.id :: .int .i64 e.call.tick :: .int .i64 e.call.value :: .int .i64 e.call.handle :: .int .i64 e.call.pol.mn :: .int .i64 e.call.pol.mx :: .int .i64 e.call.pol.tg :: .int .i64 e.call.pol.tol :: .int .i64 e.call.pol.win :: .int .i64 e.call.pol.hold :: .int .i64 e.rep.err :: .int .i64 e.rep.epoch :: .int .i64 e.rep.handle :: .int .i64 e.rep.cnt :: .int .i64 e.rep.sum :: .int .i64 e.rep.least :: .int .i64 e.rep.most :: .int .i64 e.rep.mean :: .int .i64 e.rep.tick :: .int .i64 e.rep.load :: .int .i64 e.rep.want :: .int .i64 e.rep.repl :: .int .i64 e.rep.why :: .int .u64 e.kh :: .int .u64 e.kl :: .int .i64 e.tick :: .int .i64 e.load :: .int .i64 e.want :: .int .i64 e.repl :: .int .i64 e.why :: []))
def evCells (l : List Ev) : List Value := l.flatMap fun e => e.cs.toList
theorem evCells_append (a b : List Ev) : evCells (a ++ b) = evCells a ++ evCells b := by simp [evCells]
def EvS (w : World) (v : Value) (l : List Ev) (ob : Option Nat) : Prop := Slc w 83 34 v (evCells l) l.length ob
theorem elEv : El Tryz.prog 77 83 34 280 := El.of (by kernel_rfl) (by kernel_rfl) (by decide)

theorem Ev.size (e : Ev) : e.cs.size = 34 := rfl
theorem Ev.one (e : Ev) : ∀ u ∈ e.cs.toList, u.oneCell' = true := by
  intro u hu
  simp only [Ev.cs, List.mem_cons, List.not_mem_nil, or_false] at hu
  rcases hu with rfl | rfl | rfl | rfl | rfl | rfl | rfl | rfl | rfl | rfl | rfl | rfl | rfl | rfl | rfl | rfl | rfl | rfl | rfl | rfl | rfl | rfl | rfl | rfl | rfl | rfl | rfl | rfl | rfl | rfl | rfl | rfl | rfl | rfl <;> rfl
theorem undEv : (Tryz.prog.underlying 83).isSome = true := by kernel_rfl
theorem infEv : (Tryz.prog.info? 83).map (·.size) = some 34 := by kernel_rfl
theorem strEv : (match Tryz.prog.underlying 83 with | some (.struct _) => true | _ => false) = true := by kernel_rfl
theorem load_ev (ecs : Array Value) (hs : ecs.size = 34) {ops : Array Oper} {rest : List Oper} {o : Oper} {a : Act} {w : World} {Q : Exit → Act → World → Prop} (hgd : o.guard = none) (x : Operand) (ho : o.op = .load 83 x)
    (g : Nat) (hx : a.eval x = .pointer (some ⟨g, 0, none⟩)) (hg : Blk w g ecs 83) (h : wpList Tryz.prog ops Q rest (a.put o.dst (.agg ecs)) w) : wpList Tryz.prog ops Q (o :: rest) a w := by
  have hst := strEv
  cases hu : Tryz.prog.underlying 83 with
  | none => rw [hu] at hst; cases hst
  | some d =>
    rw [hu] at hst
    refine wpList_load_row hgd 83 x ho g hx 83 ecs (0, 0) d hg hu ?_ (by rw [infEv, hs]) h
    cases d <;> first | rfl | cases hst

set_option maxHeartbeats 1000000 in
theorem note_calls (b : Nat) (R : Raw) (l : List Ev) (oe : Option Nat) (e : Ev) (w : World) (h : GwAt w b R) (hl : EvS w R.ev l oe) (hne : oe ≠ some b) (hm : l.length ≤ 100000) :
    Calls Tryz.prog 43 #[.pointer (some ⟨b, 0, none⟩), .agg e.cs] w fun x w' => ∃ ev oe', x = .returned (.tuple #[]) ∧ GwAt w' b { R with ev := ev } ∧ EvS w' ev (l ++ [e]) oe' ∧
      (∀ x, oe' = some x → oe = some x ∨ w.heap.size ≤ x) ∧ Upd (fun x => x = b ∨ oe = some x) w w' := by
  obtain ⟨a, cap, hev, _, _, _⟩ := Slc.val hl
  have hsz := e.size
  have hone := e.one
  have happ := hid (evCells_append l [e])
  have hsing := hid (show evCells [e] = e.cs.toList by simp [evCells])
  generalize hecs : e.cs = ecs at *
  have hmade := made_calls b R
  have hlt := h.lt
  go_enter Tryz.func43, Tryz.ntmps43
  go_wp2_with (go_at_call 57; refine (hmade _ (Blk.alloc h _)).mono ?_; rintro e w' ⟨rfl, rfl⟩)
  refine region3 (Upd (fun x => oe = some x) _) [0, 1, 2, 3, 4, 5] [(6, []), (7, [])] 8 follows (by kernel_rfl) (Upd.refl _ _).drew ?_
  have hbx := Blk.alloc h (.cells ecs 83)
  have hex := Blk.new w ecs 83
  have hlx := Slc.upd hl ((Upd.refl Non w).alloc (.cells ecs 83)) (fun _ _ x => x)
  have hn2 : ¬ oe = some w.heap.size := fun e => by have := Slc.lt (e ▸ hl); omega
  have h15 := fun W (hW : Upd (fun x => oe = some x) (w.alloc (.cells ecs 83)) W) => ((hW.blk hbx hne).cell 15).trans (show R.cs[15]? = some R.ev from rfl)
  rw [hev] at h15 hlx
  repeat (apply headS_cons rfl; (next => (intro W hW; have hbx2 := h15 W hW; have hex2 := hW.blk hex hn2; go_wp2_with (refine load_ev ecs hsz rfl _ rfl _ rfl hex2 ?_); first | exact ⟨rfl, rfl⟩ | exact ⟨rfl, trivial⟩)); (next => kernel_rfl))
  refine headS_nil ?_
  refine midG_cons rfl fun K hK => ?_
  go_wp2
  rw [foldl_set_full ecs _ 34 hsz rfl]
  refine hK _ _ ((Upd.refl _ _).drew.alloc _) (headS_nil ?_)
  clear hK
  refine midG_cons rfl fun K hK => ?_
  refine wpList_append elEv rfl _ _ rfl rfl rfl (Slc.upd hlx ((Upd.refl Non _).drew.alloc _) fun _ _ x => x) (Slc.fresh (by simp only [World.size_alloc]) (by rw [hsz]) (by unfold maxLen; omega)) hone (by unfold maxLen; omega) (by omega) ?_
  intro v5 w5 ob5 hs5 hu5 hb5
  obtain ⟨a5, cap5, rfl, _, _, _⟩ := Slc.val hs5
  have hb5' := hu5.blk (Blk.drew (Blk.alloc hbx _)) hne
  have hc5 := (hb5'.cell 15).trans (show R.cs[15]? = some R.ev from rfl)
  rw [hev] at hc5
  have hf5 := hb5'.frozen
  have hl5 := hb5'.lt
  go_wp2
  refine hK _ _ (((Upd.refl _ _).drew.alloc _).step hu5 fun x _ e => e) (headS_nil (midG_nil ?_))
  clear hK
  simp only [List.drop_succ_cons, List.drop_zero]
  go_wp2
  have hset : Upd (fun x => x = b) w5 (w5.setCell ⟨b, 15, none⟩ (.slice a5 (l.length + 1) cap5)) := (Upd.refl (fun x => x = b) _).setCell (.inr rfl) _
  refine bodyPost_end (results_none rfl _ _ _) rfl ⟨.slice a5 (l.length + 1) cap5, ob5, rfl, ?_, ?_, ?_, ?_⟩
  · exact (hb5'.set 15 _).cast rfl
  · unfold EvS
    rw [happ.out, hsing.out, List.length_append]
    refine Slc.upd hs5 hset fun x e e' => ?_
    rcases hb5 x e with h' | h'
    · exact hne (by rw [h', e'])
    · simp only [World.size_drew, World.size_alloc] at h'; omega
  · intro x e
    rcases hb5 x e with h' | h'
    · exact .inl h'
    · refine .inr ?_; simp only [World.size_drew, World.size_alloc] at h'; omega
  · have hu6 : Upd (fun x => x = b ∨ oe = some x) w _ := ((((Upd.refl Non w).alloc _).drew.alloc _).non).step hu5 fun x _ e => .inr e
    exact hu6.setCell (.inr (.inl rfl)) _
end Go.Proofs.YtmlnjifiaddhjaaGreat
end
section
open Go Go.RowKit Go.Fw
namespace Go.Proofs.YtmlnjifiaddhjaaGreat
set_option maxRecDepth 100000

theorem agEv : Ag Tryz.prog 83 34 := Ag.of (by kernel_rfl) (by kernel_rfl)
theorem agCal : Ag Tryz.prog 55 11 := Ag.of (by kernel_rfl) (by kernel_rfl)
theorem agRep : Ag Tryz.prog 61 13 := Ag.of (by kernel_rfl) (by kernel_rfl)
def Rep.cs (r : Rep) : Array Value := #[.int .i64 r.err, .int .i64 r.epoch, .int .i64 r.handle, .int .i64 r.cnt, .int .i64 r.sum, .int .i64 r.least, .int .i64 r.most, .int .i64 r.mean, .int .i64 r.tick, .int .i64 r.load, .int .i64 r.want, .int .i64 r.repl, .int .i64 r.why]
def Cal.zero : Cal := ⟨0, ⟨#[]⟩, 0, 0, 0, ⟨0, 0, 0, 0, 0, 0⟩⟩
def ev0 (kind task nth : Int) : Ev := ⟨kind, task, nth, Cal.zero, Rep.zero, 0, 0, 0, 0, 0, 0, 0⟩
theorem built_ev (kind task nth : Int) : Tryz.prog.built 83 [(0, .int .i64 kind), (1, .int .i64 task), (2, .int .i64 nth)] = some (ev0 kind task nth).cs := by kernel_rfl

theorem build_ev {ops : Array Oper} {rest : List Oper} {o : Oper} {a : Act} {w : World} {Q : Exit → Act → World → Prop} (hg : o.guard = none) (parts : Array (Nat × Operand)) (ho : o.op = .build 83 parts)
    (kind task nth : Int) (hp : (parts.map fun (i, x) => (i, a.eval x)).toList = [(0, .int .i64 kind), (1, .int .i64 task), (2, .int .i64 nth)])
    (h : wpList Tryz.prog ops Q rest (a.put o.dst (.agg (ev0 kind task nth).cs)) w) : wpList Tryz.prog ops Q (o :: rest) a w := by
  refine wpList_build hg _ parts ho (by rw [hp, built_ev]; rfl) ?_
  rw [hp, built_ev]; exact h
theorem splice_all (l vs : List Value) (h : l.length = vs.length) : splice l 0 vs = vs := by
  simp [splice, h]

theorem Slc.part {w : World} {t : TypeId} {k : Nat} {v : Value} {cs : List Value} {n : Nat} {ob : Option Nat} (h : Slc w t k v cs n ob) {i : Nat} (hi : i < n) :
    ∃ b off cap arr, v = .slice (some ⟨b, off, none⟩) n cap ∧ ob = some b ∧ Blk w b arr t ∧ off + i * k + k ≤ arr.size ∧ Go.Fw.part arr (off + i * k) k = ((cs.drop (i * k)).take k).toArray := by
  obtain ⟨hl, ⟨_, h, _⟩ | ⟨b, off, cap, arr, hv, e, hb, h1, h2, h3, h4⟩⟩ := h
  · omega
  · have hm : (i + 1) * k ≤ n * k := Nat.mul_le_mul_right k hi
    have hm2 : n * k ≤ cap * k := Nat.mul_le_mul_right k h1
    rw [Nat.add_mul] at hm
    refine ⟨b, off, cap, arr, hv, e, hb, by omega, ?_⟩
    unfold Go.Fw.part
    rw [← h4, List.drop_take, List.drop_drop, List.take_take]
    congr 2
    omega
theorem calCells_part (l : List Cal) : ∀ (i : Nat) (h : i < l.length), (((calCells l).drop (i * 11)).take 11).toArray = l[i].cs := by
  induction l with
  | nil => intro i h; exact absurd h (Nat.not_lt_zero _)
  | cons c l ih =>
    intro i h
    have e : calCells (c :: l) = c.cs.toList ++ calCells l := rfl
    have hc : c.cs.toList.length = 11 := rfl
    cases i with
    | zero => rw [e]; simp only [Nat.zero_mul, List.drop_zero, List.getElem_cons_zero]; rw [List.take_append_of_le_length (by omega), ← hc, List.take_length]
    | succ i =>
      rw [e, show (i + 1) * 11 = 11 + i * 11 by omega, List.drop_append, hc]
      have h1 : List.drop (11 + i * 11) c.cs.toList = [] := List.drop_eq_nil_of_le (by omega)
      rw [h1, List.nil_append, show 11 + i * 11 - 11 = i * 11 by omega, List.getElem_cons_succ]
      exact ih i (by simpa using h)
theorem Cal.one (c : Cal) : ∀ u ∈ c.cs.toList, u.oneCell' = true := fun u hu => calCells_one [c] u (by simpa [calCells] using hu)
theorem Rep.one (r : Rep) : ∀ u ∈ r.cs.toList, u.oneCell' = true := by
  intro u hu
  simp only [Rep.cs, List.mem_cons, List.not_mem_nil, or_false] at hu
  rcases hu with rfl | rfl | rfl | rfl | rfl | rfl | rfl | rfl | rfl | rfl | rfl | rfl | rfl <;> rfl

theorem put_call (e : Ev) (x : Cal) : (splice e.cs.toList 3 x.cs.toList).toArray = ({ e with call := x } : Ev).cs := rfl
theorem put_rep (e : Ev) (x : Rep) : (splice e.cs.toList 14 x.cs.toList).toArray = ({ e with rep := x } : Ev).cs := rfl
theorem rep_of_cl (k : Cl) : Go.Fw.part k.cs 7 13 = k.rep.cs := rfl

def evOf (kind : Int) (k : Cl) (x : Cal) : Ev := { kind := kind, task := k.task, nth := k.nth, call := if kind = 3 then Cal.zero else x, rep := if kind = 1 then Rep.zero else k.rep, kh := 0, kl := 0, tick := 0, load := 0, want := 0, repl := 0, why := 0 }

/-- A client and its world, side by side. -/
structure Side (w : World) (cb b : Nat) (k : Cl) (R : Raw) (ps : List Cal) (op : Option Nat) (evs : List Ev) (oe : Option Nat) : Prop where
  cl : ClAt w cb k
  wb : k.wb = b
  gw : GwAt w b R
  ps : CalsS w k.pv ps op
  ev : EvS w R.ev evs oe
  n1 : cb ≠ b
  n2 : oe ≠ some b
  n3 : oe ≠ some cb
  n4 : op ≠ some b
  n5 : op ≠ some cb
  n6 : ∀ x, oe = some x → op ≠ some x

theorem Side.upd {w w' : World} {cb b : Nat} {k : Cl} {R : Raw} {ps : List Cal} {op : Option Nat} {evs : List Ev} {oe : Option Nat} (h : Side w cb b k R ps op evs oe) (hu : Upd Non w w') : Side w' cb b k R ps op evs oe :=
  { h with
    cl := hu.blk h.cl fun x => x
    gw := hu.blk h.gw fun x => x
    ps := Slc.upd h.ps hu fun _ _ x => x
    ev := Slc.upd h.ev hu fun _ _ x => x }

set_option maxHeartbeats 1000000 in
theorem event1 (cb b : Nat) (k : Cl) (R : Raw) (ps : List Cal) (op : Option Nat) (evs : List Ev) (oe : Option Nat) (w : World) (n : Nat) (S : Side w cb b k R ps op evs oe) (hn : k.nth = n) (hlt : n < ps.length) (hm : evs.length ≤ 100000) :
    Calls Tryz.prog 52 #[.pointer (some ⟨cb, 0, none⟩), .int .i64 1] w fun x w' => ∃ ev oe', x = .returned (.tuple #[]) ∧ GwAt w' b { R with ev := ev } ∧ EvS w' ev (evs ++ [evOf 1 k ps[n]]) oe' ∧
      (∀ x, oe' = some x → oe = some x ∨ w.heap.size ≤ x) ∧ Upd (fun x => x = b ∨ oe = some x) w w' := by
  have hwb := S.wb
  subst hwb
  have hcl := S.cl
  have hk3 := (hcl.cell 3).trans (show k.cs[3]? = some (.int .i64 k.task) from rfl)
  have hk4 := (hcl.cell 4).trans (show k.cs[4]? = some (.int .i64 k.nth) from rfl)
  go_enter Tryz.func52, Tryz.ntmps52
  go_wp2
  refine region3 (Upd Non _) [0, 1, 2, 3, 4, 5, 6, 7, 8, 9] [(10, [])] 11 follows (by kernel_rfl) (Upd.refl _ _).drew ?_
  repeat (apply headS_cons rfl; (next => (intro W hW; have h3 := ((hW.blk hcl (fun x => x)).cell 3).trans (show k.cs[3]? = some (.int .i64 k.task) from rfl); have h4 := ((hW.blk hcl (fun x => x)).cell 4).trans (show k.cs[4]? = some (.int .i64 k.nth) from rfl); (try simp only [List.getElem_toArray, List.getElem_cons_zero, List.getElem_cons_succ]); go_wp2_with (refine build_ev rfl _ rfl 1 k.task n (by simp [Act.eval]) ?_); first | exact ⟨rfl, rfl⟩ | exact ⟨rfl, trivial⟩ | exact rfl)); (next => kernel_rfl))
  refine headS_nil ?_
  refine midG_cons rfl fun K hK => ?_
  go_wp2
  refine hK _ _ ((Upd.refl _ _).drew.alloc _) (headS_nil (midG_nil ?_))
  clear hK
  simp only [List.drop_succ_cons, List.drop_zero]
  refine wpList_store_agg agEv rfl _ _ rfl rfl rfl (Blk.drew (Blk.new w _ _)) rfl (Nat.le_refl _) (Ev.one _) ?_
  intro w2 hb2 hu2
  replace hb2 : Blk w2 w.heap.size (ev0 1 k.task n).cs 83 := hb2.cast rfl
  have hU2 : Upd Non w w2 := Upd.step ((Upd.refl Non w).alloc _).drew hu2 fun x hx e => by omega
  have S2 := S.upd hU2
  have hs2 := hU2.size
  have hz2 : w.heap.size < w2.heap.size := hb2.lt
  clear hu2 hk3 hk4
  have hk3 := (S2.cl.cell 3).trans (show k.cs[3]? = some (.int .i64 k.task) from rfl)
  have hk4 := (S2.cl.cell 4).trans (show k.cs[4]? = some (.int .i64 k.nth) from rfl)
  have hk1 := (S2.cl.cell 1).trans (show k.cs[1]? = some k.pv from rfl)
  obtain ⟨pb, off, cap, arr, hpv, hop, hpb, hpl, hpart⟩ := Slc.part S2.ps hlt
  rw [calCells_part ps n hlt] at hpart
  rw [hpv] at hk1
  go_wp2
  refine region0 [0, 1, 2, 3, 4, 5, 6, 7] 8 follows (by kernel_rfl) ?_
  repeat (apply head0_cons rfl; (next => (go_wp2; first | exact ⟨rfl, rfl⟩ | exact ⟨rfl, trivial⟩ | exact rfl)); (next => kernel_rfl))
  refine head0_nil ?_; simp only [List.drop_succ_cons, List.drop_zero]
  go_wp2_with (first | (refine wpList_load_agg agCal rfl _ rfl rfl (Blk.drew hpb) hpl ?_; rw [hpart]) | (refine wpList_store_agg agCal rfl _ _ rfl rfl rfl (Blk.drew hb2) rfl (by rw [Ev.size]; decide) (Cal.one _) ?_; intro w3 hb3 hu3; replace hb3 : Blk w3 w.heap.size ({ ev0 1 k.task n with call := ps[n] } : Ev).cs 83 := hb3.cast (put_call _ _); have hU3 : Upd Non w w3 := Upd.step hU2.drew hu3 fun x hx e => by omega))
  have S3 := S.upd hU3
  have hk0 := (S3.cl.cell 0).trans (show k.cs[0]? = some (.pointer (some ⟨k.wb, 0, none⟩)) from rfl)
  have hnote := fun W (hW : Upd Non w3 W) => note_calls k.wb R evs oe ({ ev0 1 k.task n with call := ps[n] } : Ev) W ((S3.upd hW).gw) ((S3.upd hW).ev) S.n2 hm
  refine region0 [0, 1, 2, 3, 4] 5 follows (by kernel_rfl) ?_
  repeat (apply head0_cons rfl; (next => (go_wp2_with (refine load_ev _ (Ev.size _) rfl _ rfl _ rfl (Blk.drew hb3) ?_); first | exact ⟨rfl, rfl⟩ | exact ⟨rfl, trivial⟩ | exact rfl)); (next => kernel_rfl))
  refine head0_nil ?_; simp only [List.drop_succ_cons, List.drop_zero]
  go_wp2_with (go_at_call 43; refine (hnote _ (Upd.refl _ _).drew).mono ?_; rintro x w4 ⟨ev, oe', rfl, h1, h2, h3, h4⟩)
  have hev : ({ ev0 1 k.task n with call := ps[n] } : Ev) = evOf 1 k ps[n] := by unfold evOf ev0; rw [hn]; rfl
  rw [hev] at h2
  have hs3 := hU3.size
  refine bodyPost_end (results_none rfl _ _ _) rfl ⟨ev, oe', rfl, h1, h2, fun x e => ?_, ?_⟩
  · rcases h3 x e with h | h
    · exact .inl h
    · exact .inr (by simp only [World.size_drew] at h; omega)
  · exact (hU3.drew.non).step h4 fun x _ e => e
end Go.Proofs.YtmlnjifiaddhjaaGreat
end
section
open Go Go.RowKit Go.Fw
namespace Go.Proofs.YtmlnjifiaddhjaaGreat
set_option maxRecDepth 100000

set_option maxHeartbeats 1000000 in
theorem event2 (cb b : Nat) (k : Cl) (R : Raw) (ps : List Cal) (op : Option Nat) (evs : List Ev) (oe : Option Nat) (w : World) (n : Nat) (S : Side w cb b k R ps op evs oe) (hn : k.nth = n) (hlt : n < ps.length) (hm : evs.length ≤ 100000) :
    Calls Tryz.prog 52 #[.pointer (some ⟨cb, 0, none⟩), .int .i64 2] w fun x w' => ∃ ev oe', x = .returned (.tuple #[]) ∧ GwAt w' b { R with ev := ev } ∧ EvS w' ev (evs ++ [evOf 2 k ps[n]]) oe' ∧
      (∀ x, oe' = some x → oe = some x ∨ w.heap.size ≤ x) ∧ Upd (fun x => x = b ∨ oe = some x) w w' := by
  have hwb := S.wb
  subst hwb
  have hcl := S.cl
  have hk3 := (hcl.cell 3).trans (show k.cs[3]? = some (.int .i64 k.task) from rfl)
  have hk4 := (hcl.cell 4).trans (show k.cs[4]? = some (.int .i64 k.nth) from rfl)
  go_enter Tryz.func52, Tryz.ntmps52
  go_wp2
  refine region3 (Upd Non _) [0, 1, 2, 3, 4, 5, 6, 7, 8, 9] [(10, [])] 11 follows (by kernel_rfl) (Upd.refl _ _).drew ?_
  repeat (apply headS_cons rfl; (next => (intro W hW; have h3 := ((hW.blk hcl (fun x => x)).cell 3).trans (show k.cs[3]? = some (.int .i64 k.task) from rfl); have h4 := ((hW.blk hcl (fun x => x)).cell 4).trans (show k.cs[4]? = some (.int .i64 k.nth) from rfl); (try simp only [List.getElem_toArray, List.getElem_cons_zero, List.getElem_cons_succ]); go_wp2_with (refine build_ev rfl _ rfl 2 k.task n (by simp [Act.eval]) ?_); first | exact ⟨rfl, rfl⟩ | exact ⟨rfl, trivial⟩ | exact rfl)); (next => kernel_rfl))
  refine headS_nil ?_
  refine midG_cons rfl fun K hK => ?_
  go_wp2
  refine hK _ _ ((Upd.refl _ _).drew.alloc _) (headS_nil (midG_nil ?_))
  clear hK
  simp only [List.drop_succ_cons, List.drop_zero]
  refine wpList_store_agg agEv rfl _ _ rfl rfl rfl (Blk.drew (Blk.new w _ _)) rfl (Nat.le_refl _) (Ev.one _) ?_
  intro w2 hb2 hu2
  replace hb2 : Blk w2 w.heap.size (ev0 2 k.task n).cs 83 := hb2.cast rfl
  have hU2 : Upd Non w w2 := Upd.step ((Upd.refl Non w).alloc _).drew hu2 fun x hx e => by omega
  have S2 := S.upd hU2
  have hs2 := hU2.size
  have hz2 : w.heap.size < w2.heap.size := hb2.lt
  clear hu2 hk3 hk4
  have hk3 := (S2.cl.cell 3).trans (show k.cs[3]? = some (.int .i64 k.task) from rfl)
  have hk4 := (S2.cl.cell 4).trans (show k.cs[4]? = some (.int .i64 k.nth) from rfl)
  have hk1 := (S2.cl.cell 1).trans (show k.cs[1]? = some k.pv from rfl)
  obtain ⟨pb, off, cap, arr, hpv, hop, hpb, hpl, hpart⟩ := Slc.part S2.ps hlt
  rw [calCells_part ps n hlt] at hpart
  rw [hpv] at hk1
  go_wp2
  refine region0 [0, 1, 2, 3, 4, 5, 6, 7] 8 follows (by kernel_rfl) ?_
  repeat (apply head0_cons rfl; (next => (go_wp2; first | exact ⟨rfl, rfl⟩ | exact ⟨rfl, trivial⟩ | exact rfl)); (next => kernel_rfl))
  refine head0_nil ?_; simp only [List.drop_succ_cons, List.drop_zero]
  have hcd : ∀ W, Upd Non w W → Blk W cb k.cs 133 := fun W hW => hW.blk hcl fun x => x
  go_wp2_with (first | (refine wpList_load_agg agCal rfl _ rfl rfl (Blk.drew hpb) hpl ?_; rw [hpart]) | (refine wpList_store_agg agCal rfl _ _ rfl rfl rfl (Blk.drew hb2) rfl (by rw [Ev.size]; decide) (Cal.one _) ?_; intro w3 hb3 hu3; replace hb3 : Blk w3 w.heap.size ({ ev0 2 k.task n with call := ps[n] } : Ev).cs 83 := hb3.cast (put_call _ _); have hU3 : Upd Non w w3 := Upd.step hU2.drew hu3 fun x hx e => by omega) | (refine wpList_load_agg agRep rfl _ rfl rfl (hcd _ hU3) (show 7 + 13 ≤ k.cs.size from Nat.le_refl 20) ?_; rw [rep_of_cl]) | (refine wpList_store_agg agRep rfl _ _ rfl rfl rfl hb3 rfl (by rw [Ev.size]; decide) (Rep.one _) ?_; intro w5 hb5 hu5; replace hb5 : Blk w5 w.heap.size ({ { ev0 2 k.task n with call := ps[n] } with rep := k.rep } : Ev).cs 83 := hb5.cast (put_rep _ _); have hU5 : Upd Non w w5 := Upd.step hU3 hu5 fun x hx e => by omega))
  have S3 := S.upd hU5
  have hk0 := (S3.cl.cell 0).trans (show k.cs[0]? = some (.pointer (some ⟨k.wb, 0, none⟩)) from rfl)
  have hnote := fun W (hW : Upd Non w5 W) => note_calls k.wb R evs oe ({ { ev0 2 k.task n with call := ps[n] } with rep := k.rep } : Ev) W ((S3.upd hW).gw) ((S3.upd hW).ev) S.n2 hm
  refine region0 [0, 1, 2, 3, 4] 5 follows (by kernel_rfl) ?_
  repeat (apply head0_cons rfl; (next => (go_wp2_with (refine load_ev _ (Ev.size _) rfl _ rfl _ rfl (Blk.drew hb5) ?_); first | exact ⟨rfl, rfl⟩ | exact ⟨rfl, trivial⟩ | exact rfl)); (next => kernel_rfl))
  refine head0_nil ?_; simp only [List.drop_succ_cons, List.drop_zero]
  go_wp2_with (go_at_call 43; refine (hnote _ (Upd.refl _ _).drew).mono ?_; rintro x w4 ⟨ev, oe', rfl, h1, h2, h3, h4⟩)
  have hev : ({ { ev0 2 k.task n with call := ps[n] } with rep := k.rep } : Ev) = evOf 2 k ps[n] := by unfold evOf ev0; rw [hn]; rfl
  rw [hev] at h2
  have hs3 := hU5.size
  refine bodyPost_end (results_none rfl _ _ _) rfl ⟨ev, oe', rfl, h1, h2, fun x e => ?_, ?_⟩
  · rcases h3 x e with h | h
    · exact .inl h
    · exact .inr (by simp only [World.size_drew] at h; omega)
  · exact (hU5.drew.non).step h4 fun x _ e => e
set_option maxHeartbeats 1000000 in
theorem event3 (cb b : Nat) (k : Cl) (R : Raw) (ps : List Cal) (op : Option Nat) (evs : List Ev) (oe : Option Nat) (w : World) (n : Nat) (S : Side w cb b k R ps op evs oe) (hn : k.nth = n) (hlt : n < ps.length) (hm : evs.length ≤ 100000) :
    Calls Tryz.prog 52 #[.pointer (some ⟨cb, 0, none⟩), .int .i64 3] w fun x w' => ∃ ev oe', x = .returned (.tuple #[]) ∧ GwAt w' b { R with ev := ev } ∧ EvS w' ev (evs ++ [evOf 3 k ps[n]]) oe' ∧
      (∀ x, oe' = some x → oe = some x ∨ w.heap.size ≤ x) ∧ Upd (fun x => x = b ∨ oe = some x) w w' := by
  have hwb := S.wb
  subst hwb
  have hcl := S.cl
  have hk3 := (hcl.cell 3).trans (show k.cs[3]? = some (.int .i64 k.task) from rfl)
  have hk4 := (hcl.cell 4).trans (show k.cs[4]? = some (.int .i64 k.nth) from rfl)
  go_enter Tryz.func52, Tryz.ntmps52
  go_wp2
  refine region3 (Upd Non _) [0, 1, 2, 3, 4, 5, 6, 7, 8, 9] [(10, [])] 11 follows (by kernel_rfl) (Upd.refl _ _).drew ?_
  repeat (apply headS_cons rfl; (next => (intro W hW; have h3 := ((hW.blk hcl (fun x => x)).cell 3).trans (show k.cs[3]? = some (.int .i64 k.task) from rfl); have h4 := ((hW.blk hcl (fun x => x)).cell 4).trans (show k.cs[4]? = some (.int .i64 k.nth) from rfl); (try simp only [List.getElem_toArray, List.getElem_cons_zero, List.getElem_cons_succ]); go_wp2_with (refine build_ev rfl _ rfl 3 k.task n (by simp [Act.eval]) ?_); first | exact ⟨rfl, rfl⟩ | exact ⟨rfl, trivial⟩ | exact rfl)); (next => kernel_rfl))
  refine headS_nil ?_
  refine midG_cons rfl fun K hK => ?_
  go_wp2
  refine hK _ _ ((Upd.refl _ _).drew.alloc _) (headS_nil (midG_nil ?_))
  clear hK
  simp only [List.drop_succ_cons, List.drop_zero]
  refine wpList_store_agg agEv rfl _ _ rfl rfl rfl (Blk.drew (Blk.new w _ _)) rfl (Nat.le_refl _) (Ev.one _) ?_
  intro w2 hb2 hu2
  replace hb2 : Blk w2 w.heap.size (ev0 3 k.task n).cs 83 := hb2.cast rfl
  have hU2 : Upd Non w w2 := Upd.step ((Upd.refl Non w).alloc _).drew hu2 fun x hx e => by omega
  have S2 := S.upd hU2
  have hs2 := hU2.size
  have hz2 : w.heap.size < w2.heap.size := hb2.lt
  clear hu2 hk3 hk4
  have hk3 := (S2.cl.cell 3).trans (show k.cs[3]? = some (.int .i64 k.task) from rfl)
  have hk4 := (S2.cl.cell 4).trans (show k.cs[4]? = some (.int .i64 k.nth) from rfl)
  have hk1 := (S2.cl.cell 1).trans (show k.cs[1]? = some k.pv from rfl)
  have hcd : ∀ W, Upd Non w W → Blk W cb k.cs 133 := fun W hW => hW.blk hcl fun x => x
  go_wp2_with (first | (refine wpList_load_agg agRep rfl _ rfl rfl (hcd _ hU2) (show 7 + 13 ≤ k.cs.size from Nat.le_refl 20) ?_; rw [rep_of_cl]) | (refine wpList_store_agg agRep rfl _ _ rfl rfl rfl hb2 rfl (by rw [Ev.size]; decide) (Rep.one _) ?_; intro w5 hb5 hu5; replace hb5 : Blk w5 w.heap.size ({ ev0 3 k.task n with rep := k.rep } : Ev).cs 83 := hb5.cast (put_rep _ _); have hU5 : Upd Non w w5 := Upd.step hU2 hu5 fun x hx e => by omega))
  have S3 := S.upd hU5
  have hk0 := (S3.cl.cell 0).trans (show k.cs[0]? = some (.pointer (some ⟨k.wb, 0, none⟩)) from rfl)
  have hnote := fun W (hW : Upd Non w5 W) => note_calls k.wb R evs oe ({ ev0 3 k.task n with rep := k.rep } : Ev) W ((S3.upd hW).gw) ((S3.upd hW).ev) S.n2 hm
  refine region0 [0, 1, 2, 3, 4] 5 follows (by kernel_rfl) ?_
  repeat (apply head0_cons rfl; (next => (go_wp2_with (refine load_ev _ (Ev.size _) rfl _ rfl _ rfl (Blk.drew hb5) ?_); first | exact ⟨rfl, rfl⟩ | exact ⟨rfl, trivial⟩ | exact rfl)); (next => kernel_rfl))
  refine head0_nil ?_; simp only [List.drop_succ_cons, List.drop_zero]
  go_wp2_with (go_at_call 43; refine (hnote _ (Upd.refl _ _).drew).mono ?_; rintro x w4 ⟨ev, oe', rfl, h1, h2, h3, h4⟩)
  have hev : ({ ev0 3 k.task n with rep := k.rep } : Ev) = evOf 3 k ps[n] := by unfold evOf ev0; rw [hn]; rfl
  rw [hev] at h2
  have hs3 := hU5.size
  refine bodyPost_end (results_none rfl _ _ _) rfl ⟨ev, oe', rfl, h1, h2, fun x e => ?_, ?_⟩
  · rcases h3 x e with h | h
    · exact .inl h
    · exact .inr (by simp only [World.size_drew] at h; omega)
  · exact (hU5.drew.non).step h4 fun x _ e => e
end Go.Proofs.YtmlnjifiaddhjaaGreat
end
section
open Go Go.RowKit Go.Fw
namespace Go.Proofs.YtmlnjifiaddhjaaGreat
set_option maxRecDepth 100000

theorem Side.noted {w w' : World} {cb b : Nat} {k : Cl} {R : Raw} {ps : List Cal} {op : Option Nat} {evs evs' : List Ev} {oe oe' : Option Nat} {ev : Value} (S : Side w cb b k R ps op evs oe)
    (h1 : GwAt w' b { R with ev := ev }) (h2 : EvS w' ev evs' oe') (h3 : ∀ x, oe' = some x → oe = some x ∨ w.heap.size ≤ x) (h4 : Upd (fun x => x = b ∨ oe = some x) w w') : Side w' cb b k { R with ev := ev } ps op evs' oe' := by
  have hcb := S.cl.lt
  have hb := S.gw.lt
  exact {
    cl := h4.blk S.cl fun e => by
      rcases e with e | e
      · exact S.n1 e
      · exact S.n3 e
    wb := S.wb
    gw := h1
    ps := Slc.upd S.ps h4 fun x e e' => by
      rcases e' with e' | e'
      · exact S.n4 (by rw [e, e'])
      · exact S.n6 x e' e
    ev := h2
    n1 := S.n1
    n2 := fun e => by
      rcases h3 b e with h | h
      · exact S.n2 h
      · omega
    n3 := fun e => by
      rcases h3 cb e with h | h
      · exact S.n3 h
      · omega
    n4 := S.n4
    n5 := S.n5
    n6 := fun x e e' => by
      rcases h3 x e with h | h
      · exact S.n6 x h e'
      · have := Slc.lt (e' ▸ S.ps); omega }

/-- A client of which a cell is changed. -/
theorem Side.client {w w' : World} {cb b : Nat} {k k' : Cl} {R : Raw} {ps : List Cal} {op : Option Nat} {evs : List Ev} {oe : Option Nat} (S : Side w cb b k R ps op evs oe) (h : ClAt w' cb k') (hu : Upd (fun x => x = cb) w w')
    (hwb : k'.wb = k.wb) (hpv : k'.pv = k.pv) : Side w' cb b k' R ps op evs oe :=
  { S with
    cl := h
    wb := hwb.trans S.wb
    gw := hu.blk S.gw fun e => S.n1 e.symm
    ps := by rw [hpv]; exact Slc.upd S.ps hu fun x e e' => S.n5 (by rw [e, e'])
    ev := Slc.upd S.ev hu fun x e e' => S.n3 (by rw [e, e']) }

theorem built_rep (e : Int) : Tryz.prog.built 61 [(0, .int .i64 e)] = some ({ Rep.zero with err := e } : Rep).cs := by kernel_rfl
theorem build_rep {ops : Array Oper} {rest : List Oper} {o : Oper} {a : Act} {w : World} {Q : Exit → Act → World → Prop} (hg : o.guard = none) (parts : Array (Nat × Operand)) (ho : o.op = .build 61 parts)
    (e : Int) (hp : (parts.map fun (i, x) => (i, a.eval x)).toList = [(0, .int .i64 e)])
    (h : wpList Tryz.prog ops Q rest (a.put o.dst (.agg ({ Rep.zero with err := e } : Rep).cs)) w) : wpList Tryz.prog ops Q (o :: rest) a w := by
  refine wpList_build hg _ parts ho (by rw [hp, built_rep]; rfl) ?_
  rw [hp, built_rep]; exact h
theorem put_clrep (k : Cl) (r : Rep) : (splice k.cs.toList 7 r.cs.toList).toArray = ({ k with rep := r } : Cl).cs := rfl

/-- A client whose call began. -/
def begun (k : Cl) (x : Cal) : Cl := { k with rep := { Rep.zero with err := x.err } }
def begunE (k : Cl) (x : Cal) : List Ev := [evOf 1 (begun k x) x] ++ (if x.err = 0 then [] else [evOf 2 (begun k x) x])

set_option maxHeartbeats 1000000 in
theorem begin_calls (cb b : Nat) (k : Cl) (R : Raw) (ps : List Cal) (op : Option Nat) (evs : List Ev) (oe : Option Nat) (w : World) (n : Nat) (S : Side w cb b k R ps op evs oe) (hn : k.nth = n) (hlt : n < ps.length) (hm : evs.length ≤ 10000)
    (hids : (ps[n]).id.size ≤ maxLen) :
    Calls Tryz.prog 50 #[.pointer (some ⟨cb, 0, none⟩)] w fun x w' => ∃ ev oe', x = .returned (.tuple #[]) ∧ Side w' cb b (begun k ps[n]) { R with ev := ev } ps op (evs ++ begunE k ps[n]) oe' ∧
      (∀ x, oe' = some x → oe = some x ∨ w.heap.size ≤ x) ∧ Upd (fun x => x = cb ∨ x = b ∨ oe = some x) w w' := by
  have hcl := S.cl
  have hck := fun W => scheck_calls ps[n] W hids
  obtain ⟨pb, off, cap, arr, hpv, hop, hpb, hpl, hpart⟩ := Slc.part S.ps hlt
  rw [calCells_part ps n hlt] at hpart
  have hkb : k = k := rfl
  go_enter Tryz.func50, Tryz.ntmps50
  go_wp2
  refine region3 (Upd Non _) [0, 1, 2, 3, 4, 5, 6, 7, 8, 9] [(10, [])] 11 follows (by kernel_rfl) (Upd.refl _ _).drew ?_
  repeat (apply headS_cons rfl; (next => (intro W hW; have h1 := ((hW.blk hcl (fun x => x)).cell 1).trans (show k.cs[1]? = some k.pv from rfl); rw [hpv] at h1; have h4 := ((hW.blk hcl (fun x => x)).cell 4).trans (show k.cs[4]? = some (.int .i64 k.nth) from rfl); (try simp only [List.getElem_toArray, List.getElem_cons_zero, List.getElem_cons_succ]); go_wp2_with (refine wpList_load_agg agCal rfl _ rfl rfl (hW.blk hpb fun x => x) hpl ?_; rw [hpart]); first | exact ⟨rfl, rfl⟩ | exact ⟨rfl, trivial⟩ | exact rfl)); (next => kernel_rfl))
  refine headS_nil ?_
  refine midG_cons rfl fun K hK => ?_
  go_wp2
  refine hK _ _ ((Upd.refl _ _).drew.alloc _) (headS_nil (midG_nil ?_))
  clear hK
  simp only [List.drop_succ_cons, List.drop_zero]
  refine wpList_store_agg agCal rfl _ _ rfl rfl rfl (Blk.drew (Blk.new w _ _)) rfl (Nat.le_refl _) (Cal.one _) ?_
  intro w2 hb2 hu2
  replace hb2 : Blk w2 w.heap.size (ps[n]).cs 55 := hb2.cast rfl
  have hU2 : Upd Non w w2 := Upd.step ((Upd.refl Non w).alloc _).drew hu2 fun x hx e => by omega
  have hz2 := hU2.size
  by_cases herr : (ps[n]).err = 0
  · have hE := Go.Fw.hid (show begunE k ps[n] = [evOf 1 (begun k ps[n]) ps[n]] by unfold begunE; rw [if_pos herr]; rfl)
    have herrH := Go.Fw.hid herr
    clear herr
    go_wp2_with (first | (refine wpList_load_agg agCal rfl _ rfl rfl hb2 (Nat.le_refl 11) ?_; rw [show Go.Fw.part (ps[n]).cs 0 11 = (ps[n]).cs from rfl]) | (go_at_call 84; refine (hck _).mono ?_; rintro x w3 ⟨rfl, hu3⟩) | (refine build_rep rfl _ rfl (ps[n]).err (by simp [Act.eval]) ?_) | (refine wpList_store_agg agRep rfl _ _ rfl rfl rfl ((hU2.then hu3).blk hcl fun x => x) rfl (show 7 + 13 ≤ k.cs.size from Nat.le_refl 20) (Rep.one _) ?_; intro w4 hb4 hu4; have S4 : Side w4 cb b (begun k ps[n]) R ps op evs oe := (S.upd (hU2.then hu3)).client (hb4.cast (put_clrep k _)) hu4 rfl rfl) | (go_at_call 52; refine (event2 cb b (begun k ps[n]) { R with ev := ev5 } ps op _ oe5 _ n S5 hn hlt (by simp; omega)).mono ?_; rintro x w6 ⟨ev6, oe6, rfl, g6, e6, f6, u6⟩; have S6 := S5.noted g6 e6 f6 u6) | (go_at_call 52; refine (event1 cb b (begun k ps[n]) R ps op evs oe _ n S4 hn hlt (by omega)).mono ?_; rintro x w5 ⟨ev5, oe5, rfl, g5, e5, f5, u5⟩; have S5 := S4.noted g5 e5 f5 u5; have herr := herrH.out; have h7 := (S5.cl.cell 7).trans (show (begun k ps[n]).cs[7]? = some (.int .i64 (ps[n]).err) from rfl)))
    have hs4 := (hU2.then hu3).size
    have hs5 := hu4.size
    refine bodyPost_end (results_none rfl _ _ _) rfl ⟨ev5, oe5, rfl, ?_, fun x e => ?_, ?_⟩
    · rw [hE.out]; exact S5
    · rcases f5 x e with h | h
      · exact .inl h
      · exact .inr (by omega)
    · refine Upd.step (Upd.step (hU2.then hu3).non hu4 fun x _ e => .inl e) u5 fun x _ e => .inr e
  · have hE := Go.Fw.hid (show begunE k ps[n] = [evOf 1 (begun k ps[n]) ps[n]] ++ [evOf 2 (begun k ps[n]) ps[n]] by unfold begunE; rw [if_neg herr])
    have herrH := Go.Fw.hid herr
    clear herr
    go_wp2_with (first | (refine wpList_load_agg agCal rfl _ rfl rfl hb2 (Nat.le_refl 11) ?_; rw [show Go.Fw.part (ps[n]).cs 0 11 = (ps[n]).cs from rfl]) | (go_at_call 84; refine (hck _).mono ?_; rintro x w3 ⟨rfl, hu3⟩) | (refine build_rep rfl _ rfl (ps[n]).err (by simp [Act.eval]) ?_) | (refine wpList_store_agg agRep rfl _ _ rfl rfl rfl ((hU2.then hu3).blk hcl fun x => x) rfl (show 7 + 13 ≤ k.cs.size from Nat.le_refl 20) (Rep.one _) ?_; intro w4 hb4 hu4; have S4 : Side w4 cb b (begun k ps[n]) R ps op evs oe := (S.upd (hU2.then hu3)).client (hb4.cast (put_clrep k _)) hu4 rfl rfl) | (go_at_call 52; refine (event2 cb b (begun k ps[n]) { R with ev := ev5 } ps op _ oe5 _ n S5 hn hlt (by simp; omega)).mono ?_; rintro x w6 ⟨ev6, oe6, rfl, g6, e6, f6, u6⟩; have S6 := S5.noted g6 e6 f6 u6) | (go_at_call 52; refine (event1 cb b (begun k ps[n]) R ps op evs oe _ n S4 hn hlt (by omega)).mono ?_; rintro x w5 ⟨ev5, oe5, rfl, g5, e5, f5, u5⟩; have S5 := S4.noted g5 e5 f5 u5; have herr := herrH.out; have h7 := (S5.cl.cell 7).trans (show (begun k ps[n]).cs[7]? = some (.int .i64 (ps[n]).err) from rfl)))
    have hs4 := (hU2.then hu3).size
    have hs5 := hu4.size
    have hs6 := u5.size
    refine bodyPost_end (results_none rfl _ _ _) rfl ⟨ev6, oe6, rfl, ?_, fun x e => ?_, ?_⟩
    · rw [hE.out, ← List.append_assoc]; exact S6
    · rcases f6 x e with h | h
      · rcases f5 x h with h | h
        · exact .inl h
        · exact .inr (by omega)
      · exact .inr (by omega)
    · refine Upd.step (Upd.step (Upd.step (hU2.then hu3).non hu4 fun x _ e => .inl e) u5 fun x _ e => .inr e) u6 fun x hx e => ?_
      rcases e with e | e
      · exact .inr (.inl e)
      · rcases f5 x e with h | h
        · exact .inr (.inr h)
        · omega
end Go.Proofs.YtmlnjifiaddhjaaGreat
end
section
open Go Go.RowKit Go.Fw
namespace Go.Proofs.YtmlnjifiaddhjaaGreat
set_option maxRecDepth 100000

def ended (k : Cl) (n : Nat) : Cl := { k with nth := (n : Int) + 1, pos := -1, ov := .slice none 0 0 }
set_option maxHeartbeats 1000000 in
theorem end_calls (cb b : Nat) (k : Cl) (R : Raw) (ps : List Cal) (op : Option Nat) (evs : List Ev) (oe : Option Nat) (w : World) (n : Nat) (S : Side w cb b k R ps op evs oe) (hn : k.nth = n) (hlt : n < ps.length) (hm : evs.length ≤ 10000)
    (hps : ps.length ≤ 1000000) (a : Option Addr) (m cap : Nat) (hov : k.ov = .slice a m cap) :
    Calls Tryz.prog 56 #[.pointer (some ⟨cb, 0, none⟩)] w fun x w' => ∃ ev oe', x = .returned (.tuple #[]) ∧ Side w' cb b (ended k n) { R with ev := ev } ps op (evs ++ [evOf 3 k ps[n]]) oe' ∧
      (∀ x, oe' = some x → oe = some x ∨ w.heap.size ≤ x) ∧ Upd (fun x => x = cb ∨ x = b ∨ oe = some x) w w' := by
  have hev := event3 cb b k R ps op evs oe w n S hn hlt (by omega)
  go_enter Tryz.func56, Tryz.ntmps56
  go_wp2_with (go_at_call 52; refine hev.mono ?_; rintro x w5 ⟨ev5, oe5, rfl, g5, e5, f5, u5⟩; have S5 := S.noted g5 e5 f5 u5; have h4 := (S5.cl.cell 4).trans (show k.cs[4]? = some (.int .i64 k.nth) from rfl); rw [hn] at h4; have h5 := (S5.cl.cell 5).trans (show k.cs[5]? = some (.int .i64 k.pos) from rfl); have h2 := (S5.cl.cell 2).trans (show k.cs[2]? = some k.ov from rfl); rw [hov] at h2; have hf := S5.cl.frozen; have hl := S5.cl.lt)
  have hb' := ((S5.cl.set 4 (.int .i64 ((n : Int) + 1))).set 5 (.int .i64 (-1))).set 2 (.slice none 0 0)
  have hu' : Upd (fun x => x = cb) w5 _ := (((Upd.refl (fun x => x = cb) w5).setCell (p := ⟨cb, 4, none⟩) (.inr rfl) (.int .i64 ((n : Int) + 1))).setCell (p := ⟨cb, 5, none⟩) (.inr rfl) (.int .i64 (-1))).setCell (p := ⟨cb, 2, none⟩) (.inr rfl) (.slice none 0 0)
  refine bodyPost_end (results_none rfl _ _ _) rfl ⟨ev5, oe5, rfl, ?_, f5, ?_⟩
  · exact S5.client (k' := ended k n) (hb'.cast rfl) hu' rfl rfl
  · exact Upd.step (u5.mono fun x _ e => .inr e) hu' fun x _ e => .inl e
end Go.Proofs.YtmlnjifiaddhjaaGreat
end
section
open Go Go.RowKit Go.Fw
namespace Go.Proofs.YtmlnjifiaddhjaaGreat
set_option maxRecDepth 100000

theorem LocksAt.upd {w w' : World} {role role' : Nat → Nat} {b : Nat} {R : Raw} {ks : List Lk} {S : Nat → Prop} (h : LocksAt w role b R ks) (hb : b < w.heap.size) (hu : Upd S w w') (hr : ∀ x, x < w.heap.size → role' x = role x)
    (hs : ∀ x, S x → ¬ (role x = 1 ∨ role x = 2 ∨ 100 ≤ role x)) : LocksAt w' role' b R ks := by
  obtain ⟨⟨arr, hbl, hks⟩, hlen, ⟨obl, hline, hobl⟩, hrb, hrbl⟩ := h
  refine ⟨⟨arr, hu.blk hbl fun e => hs _ e (.inr (.inl hrbl)), fun i hi => ?_⟩, hlen, ⟨obl, hline.upd hu fun x e e' => hs x e' (.inr (.inr (by rw [hobl x e]; omega))), fun x e => ?_⟩, ?_, ?_⟩
  · obtain ⟨lv, ob, hk, hls, hr2⟩ := hks i hi
    refine ⟨lv, ob, hk, hls.upd hu fun x e e' => hs x e' (.inr (.inr (by rw [hr2 x e]; omega))), fun x e => ?_⟩
    rw [hr x (LineS.lt (e ▸ hls))]; exact hr2 x e
  · rw [hr x (LineS.lt (e ▸ hline))]; exact hobl x e
  · rw [hr b hb]; exact hrb
  · rw [hr _ hbl.lt]; exact hrbl

theorem lkPut_fst (R : Raw) (ks : List Lk) (i : Int) (k : Lk) (lv : Value) : (lkPut R ks i k lv).1.ev = R.ev ∧ (lkPut R ks i k lv).1.c = R.c ∧ (lkPut R ks i k lv).1.n = R.n ∧ (lkPut R ks i k lv).1.st = R.st ∧ (lkPut R ks i k lv).1.bl = R.bl := by
  unfold lkPut; split <;> exact ⟨rfl, rfl, rfl, rfl, rfl⟩

/-- The state of a client, its world and the locks. -/
structure All (w : World) (role : Nat → Nat) (cb b : Nat) (k : Cl) (R : Raw) (ks : List Lk) (ps : List Cal) (op : Option Nat) (evs : List Ev) (oe : Option Nat) : Prop where
  side : Side w cb b k R ps op evs oe
  locks : LocksAt w role b R ks
  n : R.n ≤ 2000
  rcb : role cb = 10
  rop : ∀ x, op = some x → role x = 11
  roe : ∀ x, oe = some x → role x = 8

def asked (k : Cl) (i : Int) (has : Bool) : Cl := if has then k else { k with wants := i }

set_option maxHeartbeats 1000000 in
theorem cask_calls (role : Nat → Nat) (cb b : Nat) (k : Cl) (R : Raw) (ks : List Lk) (ps : List Cal) (op : Option Nat) (evs : List Ev) (oe : Option Nat) (w : World) (A : All w role cb b k R ks ps op evs oe) (kd i : Int)
    (h0 : 0 ≤ i) (h1 : i < R.n + 1) (hm : (lkGet R ks i).line.length ≤ 1000) :
    Calls Tryz.prog 51 #[.pointer (some ⟨cb, 0, none⟩), .agg #[.int .i64 kd, .int .i64 i]] w fun x w' => ∃ lv role', x = .returned (.tuple #[]) ∧ (∀ x, x < w.heap.size → role' x = role x) ∧
      All w' role' cb b (asked k i (askR (lkGet R ks i) k.task (decide (kd = 3))).1) (lkPut R ks i (askR (lkGet R ks i) k.task (decide (kd = 3))).2.2 lv).1 (lkPut R ks i (askR (lkGet R ks i) k.task (decide (kd = 3))).2.2 lv).2 ps op evs oe ∧
      Upd (fun x => role x = 10 ∨ role x = 1 ∨ role x = 2 ∨ 100 ≤ role x) w w' := by
  obtain ⟨S, hL, hn, hrcb, hrop, hroe⟩ := A
  have hcl := S.cl
  have hwb := S.wb
  subst hwb
  have hbl := S.gw.lt
  have hcbl := hcl.lt
  let X := w.alloc (.cells #[.int .i64 kd, .int .i64 i] 137)
  let role1 : Nat → Nat := fun x => if x < w.heap.size then role x else 0
  have hrole1 : ∀ x, x < w.heap.size → role1 x = role x := fun x hx => if_pos hx
  have hUX : Upd Non w X := (Upd.refl Non w).alloc _
  have hask := gask_in k.wb R ks role1 i k.task (decide (kd = 3)) X.drew (hUX.drew.blk S.gw fun x => x) (hL.upd hbl hUX.drew hrole1 fun _ x => x.elim) hn h0 h1 hm
  have htx : Blk X w.heap.size #[.int .i64 kd, .int .i64 i] 137 := Blk.new w _ _
  have hcx : ClAt X cb k := Blk.alloc hcl _
  have hx0 : role1 w.heap.size = 0 := if_neg (Nat.lt_irrefl _)
  have hrc1 : role1 cb = 10 := (hrole1 cb hcbl).trans hrcb
  generalize hres : askR (lkGet R ks i) k.task (decide (kd = 3)) = res at *
  go_enter Tryz.func51, Tryz.ntmps51
  go_wp2
  refine region3 (Upd (fun x => role1 x = 1 ∨ role1 x = 2 ∨ 100 ≤ role1 x) _) [0, 1, 2, 3, 4, 5, 6, 7, 8, 9, 10, 11, 12] [(13, [14, 15, 16, 17])] 18 follows (by kernel_rfl) (Upd.refl _ _).drew ?_
  repeat (apply headS_cons rfl; (next => (intro W hW; have ht := (hW.blk htx (by omega)).cell; have hck := (hW.blk hcx (by omega)).cell; have hk0 := (hck 0).trans (show k.cs[0]? = some (.pointer (some ⟨k.wb, 0, none⟩)) from rfl); have hk3 := (hck 3).trans (show k.cs[3]? = some (.int .i64 k.task) from rfl); clear hck; (try simp only [List.getElem_toArray, List.getElem_cons_zero, List.getElem_cons_succ]); go_wp2; first | exact ⟨rfl, rfl⟩ | exact ⟨rfl, trivial⟩ | exact rfl)); (next => kernel_rfl))
  refine headS_nil ?_
  refine midG_cons rfl fun K hK => ?_
  go_wp2_with (go_at_call 22; refine hask.mono ?_; rintro x w3 ⟨lv, role', rfl, hr1, hr2, hr3, hr4⟩; have hu13 : Upd (fun x => role1 x = 1 ∨ role1 x = 2 ∨ 100 ≤ role1 x) X w3 := (Upd.refl _ _).drew.step hr4 fun x _ e => e; have htx3 := (hu13.blk htx (by omega)).cell; have hcx3 := hu13.blk hcx (by omega); have hc63 := (hcx3.cell 6).trans (show k.cs[6]? = some (.int .i64 k.wants) from rfl); have hcf3 := hcx3.frozen; have hcl3 := hcx3.lt)
  refine hK _ _ ((Upd.refl _ _).drew.step hr4 fun x _ e => e) ?_
  clear hK
  repeat (apply headS_cons rfl; (next => (intro W hW; (try simp only [List.getElem_toArray, List.getElem_cons_zero, List.getElem_cons_succ]); go_wp2; first | exact ⟨rfl, rfl⟩ | exact ⟨rfl, trivial⟩ | exact rfl)); (next => kernel_rfl))
  refine headS_nil (midG_nil ?_)
  simp only [List.drop_succ_cons, List.drop_zero]
  have hput := lkPut_fst R ks i res.2.2 lv
  have hU3 : Upd (fun x => role1 x = 1 ∨ role1 x = 2 ∨ 100 ≤ role1 x) w w3 := (hUX.non).step hu13 fun x _ e => e
  have hU3' : Upd (fun x => role x = 1 ∨ role x = 2 ∨ 100 ≤ role x) w w3 := hU3.mono fun x hx e => by rw [hrole1 x hx] at e; exact e
  have hS3 : Side w3 cb k.wb k (lkPut R ks i res.2.2 lv).1 ps op evs oe := {
    cl := hcx3
    wb := rfl
    gw := hr2
    ps := Slc.upd S.ps hU3' fun x e e' => by have := hrop x e; omega
    ev := by rw [hput.1]; exact Slc.upd S.ev hU3' fun x e e' => by have := hroe x e; omega
    n1 := S.n1
    n2 := S.n2
    n3 := S.n3
    n4 := S.n4
    n5 := S.n5
    n6 := S.n6 }
  have hr1' : ∀ x, x < w.heap.size → role' x = role x := fun x hx => (hr1 x (by rw [World.size_drew, World.size_alloc]; omega)).trans (hrole1 x hx)
  have hA3 : All w3 role' cb k.wb k (lkPut R ks i res.2.2 lv).1 (lkPut R ks i res.2.2 lv).2 ps op evs oe := {
    side := hS3
    locks := hr3
    n := by rw [hput.2.2.1]; exact hn
    rcb := by rw [hr1' cb hcbl]; exact hrcb
    rop := fun x e => by rw [hr1' x (Slc.lt (e ▸ S.ps))]; exact hrop x e
    roe := fun x e => by rw [hr1' x (Slc.lt (e ▸ S.ev))]; exact hroe x e }
  cases hres1 : res.1 with
  | true =>
    go_wp2
    refine bodyPost_end (results_none rfl _ _ _) rfl ⟨lv, role', rfl, hr1', ?_, hU3'.mono fun x _ e => .inr e⟩
    have hak : asked k i res.1 = k := by rw [hres1]; rfl
    rw [hak]; exact hA3
  | false =>
    go_wp2
    have hset : Upd (fun x => x = cb) w3 (w3.setCell ⟨cb, 6, none⟩ (.int .i64 i)) := (Upd.refl (fun x => x = cb) _).setCell (.inr rfl) _
    have hcb3 : role' cb = 10 := hA3.rcb
    have hak : asked k i res.1 = { k with wants := i } := by rw [hres1]; rfl
    refine bodyPost_end (results_none rfl _ _ _) rfl ⟨lv, role', rfl, hr1', ?_, ?_⟩
    · rw [hak]; exact { hA3 with
        side := hS3.client (k' := { k with wants := i }) ((hcx3.set 6 (.int .i64 i)).cast rfl) hset rfl rfl
        locks := hr3.upd hr2.lt hset (fun _ _ => rfl) fun x e e' => by subst e; omega }
    · refine Upd.step (hU3'.mono fun x _ e => .inr e) hset fun x _ e => .inl ?_
      subst e; exact hrcb
end Go.Proofs.YtmlnjifiaddhjaaGreat
end
section
open Go Go.RowKit Go.Fw
namespace Go.Proofs.YtmlnjifiaddhjaaGreat
set_option maxRecDepth 100000

/-! ### A store's stripes -/
/-- A store and the pointers to its stripes. -/
structure StrsAt (w : World) (b : Nat) (sv : Value) (rest : List Value) (ss : List (Nat × Nat)) (ob : Option Nat) : Prop where
  blk : Blk w b (sv :: rest).toArray 154
  sl : Slc w 155 1 sv (ptrs ss) ss.length ob
  pos : 0 < ss.length
  le : ss.length ≤ 1000
theorem StrsAt.upd {w w' : World} {b : Nat} {sv : Value} {rest : List Value} {ss : List (Nat × Nat)} {ob : Option Nat} {S : Nat → Prop} (h : StrsAt w b sv rest ss ob) (hu : Upd S w w') (h1 : ¬ S b) (h2 : ∀ x, ob = some x → ¬ S x) : StrsAt w' b sv rest ss ob :=
  ⟨hu.blk h.blk h1, Slc.upd h.sl hu h2, h.pos, h.le⟩

theorem smade_calls {b : Nat} {sv : Value} {rest : List Value} {ss : List (Nat × Nat)} {ob : Option Nat} {w : World} (h : StrsAt w b sv rest ss ob) : Calls Tryz.prog 113 #[.pointer (some ⟨b, 0, none⟩)] w fun e w' => e = .returned (.bool true) ∧ w = w' := by
  obtain ⟨a, cap, hsv, _, _, _⟩ := Slc.val h.sl
  have hc := (h.blk.cell 0).trans (show (sv :: rest).toArray[0]? = some sv from rfl)
  rw [hsv] at hc
  have hpos := h.pos
  go_enter Tryz.func113, Tryz.ntmps113
  go_wp2; go_ret
  exact ⟨rfl, rfl⟩
theorem scount_calls {b : Nat} {sv : Value} {rest : List Value} {ss : List (Nat × Nat)} {ob : Option Nat} {w : World} (h : StrsAt w b sv rest ss ob) : Calls Tryz.prog 150 #[.pointer (some ⟨b, 0, none⟩)] w fun e w' => e = .returned (.int .i64 ss.length) ∧ w = w' := by
  obtain ⟨a, cap, hsv, _, _, _⟩ := Slc.val h.sl
  have hc := (h.blk.cell 0).trans (show (sv :: rest).toArray[0]? = some sv from rfl)
  rw [hsv] at hc
  go_enter Tryz.func150, Tryz.ntmps150
  go_wp2_with (go_at_call 113; refine (smade_calls h).mono ?_; rintro e w' ⟨rfl, rfl⟩)
  go_ret
  exact ⟨rfl, rfl⟩
theorem sstripe_calls {b : Nat} {sv : Value} {rest : List Value} {ss : List (Nat × Nat)} {ob : Option Nat} {w : World} (h : StrsAt w b sv rest ss ob) (i : Nat) (hi : i < ss.length) :
    Calls Tryz.prog 114 #[.pointer (some ⟨b, 0, none⟩), .int .i64 i] w fun e w' => e = .returned (.pointer (some ⟨ss[i].1, 0, none⟩)) ∧ w = w' := by
  obtain ⟨b', off, cap, hsv, _, _, _, _, hcell⟩ := Slc.form h.sl h.pos
  have hc := (h.blk.cell 0).trans (show (sv :: rest).toArray[0]? = some sv from rfl)
  rw [hsv] at hc
  have hci := hcell i 0 hi (by decide)
  simp only [Nat.mul_one, Nat.add_zero, ptrs, List.getElem?_map, List.getElem?_eq_getElem hi, Option.map_some] at hci
  go_enter Tryz.func114, Tryz.ntmps114
  go_wp2_with (go_at_call 150; refine (scount_calls h).mono ?_; rintro e w' ⟨rfl, rfl⟩)
  go_ret
  exact ⟨rfl, rfl⟩
theorem shome_calls {b : Nat} {sv : Value} {rest : List Value} {ss : List (Nat × Nat)} {ob : Option Nat} {w : World} (h : StrsAt w b sv rest ss ob) (hr : rightB ss.length = true) (hi lo : Int) (k0 : 0 ≤ hi) (k1 : hi < 18446744073709551616) (k2 : 0 ≤ lo) (k3 : lo < 18446744073709551616) :
    Calls Tryz.prog 115 #[.pointer (some ⟨b, 0, none⟩), .agg #[.int .u64 hi, .int .u64 lo]] w fun e w' => e = .returned (.int .i64 (routeOf hi lo ss.length)) ∧ Upd Non w w' := by
  have hcount := fun W (hu : Upd Non w W) => scount_calls (h.upd hu (fun x => x) fun _ _ x => x)
  go_enter Tryz.func115, Tryz.ntmps115
  go_wp2
  refine region0 [0, 1, 2] 3 follows (by kernel_rfl) ?_
  have hof := fun W => of_calls hi lo ss.length W k0 k1 k2 k3 hr
  repeat (apply head0_cons rfl; (next => (go_wp2_with (go_at_call 150; refine (hcount _ ((Upd.refl Non w).alloc _).drew).mono ?_; rintro e w' ⟨rfl, rfl⟩); first | exact ⟨rfl, rfl⟩ | exact ⟨rfl, trivial⟩ | exact rfl)); (next => kernel_rfl))
  refine head0_nil ?_; simp only [List.drop_succ_cons, List.drop_zero]
  go_wp2_with (go_at_call 151; refine (hof _).mono ?_; rintro e w2 ⟨rfl, hu2⟩)
  go_ret
  exact ⟨rfl, ((Upd.refl Non w).alloc _).drew.then hu2⟩

theorem neq_map (m : Nat) (w : World) : (binOp .neq 192 (.map (some m)) (.map none)).run Tryz.prog w = .ok (.bool true) w := by kernel_rfl
theorem strmade_calls {c : Cfg} {b m : Nat} {es : Array MapEntry} {clock : Nat} {ver : Int} {w : World} (h : StripeAt w c b m es clock ver) : Calls Tryz.prog 152 #[.pointer (some ⟨b, 0, none⟩)] w fun e w' => e = .returned (.bool true) ∧ w = w' := by
  have hc := (h.blk.cell 0).trans (show _ = some (.map (some m)) from rfl)
  have hq := neq_map m
  go_enter Tryz.func152, Tryz.ntmps152
  go_wp2
  go_ret
  exact ⟨rfl, rfl⟩
theorem chk_key (hi lo : Int) (w : World) : (Instr.checkKey true 10000 51 (.agg #[.int .u64 hi, .int .u64 lo])).run Tryz.prog w = .ok () w := by kernel_rfl
theorem find_key (hi lo : Int) (w : World) : (Instr.findKey 51 (.agg #[.int .u64 hi, .int .u64 lo]) []).run Tryz.prog w = .ok none w := by kernel_rfl
theorem und_loads : Tryz.prog.underlying 192 = some (.map 51 266) := by kernel_rfl
theorem zero_node (w : World) : (zeroValue 266).run Tryz.prog w = .ok (.pointer none) w := by kernel_rfl
theorem lookup_empty (hi lo : Int) (m clock : Nat) (w : World) (h : w.heap[m]? = some (.map #[] clock)) :
    (Instr.lookup 192 (.map (some m)) (.agg #[.int .u64 hi, .int .u64 lo]) false).run Tryz.prog w = .ok (.pointer none) w := by
  have h1 := chk_key hi lo w
  have h2 := find_key hi lo w
  have h3 := zero_node w
  have hg : (getObj m).run Tryz.prog w = .ok (.map #[] clock) w := by simp [getObj, Sem.run, h]
  simp [Instr.lookup, Sem.run_bind, run_underlying und_loads w, hg, h1, h2, h3]
theorem strget_empty {c : Cfg} {b m : Nat} {clock : Nat} {ver : Int} {w : World} (h : StripeAt w c b m #[] clock ver) (hi lo : Int) :
    Calls Tryz.prog 166 #[.pointer (some ⟨b, 0, none⟩), .agg #[.int .u64 hi, .int .u64 lo]] w fun e w' => e = .returned (.pointer none) ∧ Upd Non w w' := by
  have hc := (h.blk.cell 0).trans (show _ = some (.map (some m)) from rfl)
  have hlt := h.blk.lt
  have hmp := heap_alloc_old h.map (.cells #[.int .u64 hi, .int .u64 lo] 51)
  have hmade := fun W (hu : Upd Non w W) => strmade_calls (h.upd hu (fun x => x) (fun x => x))
  have hlook := fun W (hu : Upd Non w W) => lookup_empty hi lo m clock W (hu.heap h.map fun x => x)
  have hlook' := hlook _ ((Upd.refl Non w).alloc (.cells #[.int .u64 hi, .int .u64 lo] 51)).drew
  go_enter Tryz.func166, Tryz.ntmps166
  go_wp2_with (go_at_call 152; refine (hmade _ ((Upd.refl Non w).alloc _)).mono ?_; rintro e w' ⟨rfl, rfl⟩)
  refine region0 [0, 1, 2, 3, 4] 5 follows (by kernel_rfl) ?_
  repeat (apply head0_cons rfl; (next => (go_wp2; first | exact ⟨rfl, rfl⟩ | exact ⟨rfl, trivial⟩ | exact rfl)); (next => kernel_rfl))
  refine head0_nil ?_; simp only [List.drop_succ_cons, List.drop_zero]
  go_wp2
  go_ret
  exact ⟨rfl, ((Upd.refl Non w).alloc _).drew⟩
end Go.Proofs.YtmlnjifiaddhjaaGreat
end
section
open Go Go.RowKit Go.Fw
namespace Go.Proofs.YtmlnjifiaddhjaaGreat
set_option maxRecDepth 100000

theorem results_agg {P : Program} {ty : TypeId} {n : Nat} (A : Ag P ty n) {fn : Func} {p : Tmp} (h : fn.results = #[.cell p ty]) (tmps : Array Value) (w : World) (g : Nat) (t : TypeId) (cs : Array Value)
    (hp : tmps.getD p undef = .pointer (some ⟨g, 0, none⟩)) (hg : Blk w g cs t) (hs : cs.size = n) : (results fn tmps).run P w = .ok (.agg cs) w := by
  obtain ⟨⟨fs, hu⟩, hi⟩ := A
  exact results_cell_row h tmps w g t cs (0, 0) _ hp hg hu rfl (by rw [hi, hs])
theorem agKey : Ag Tryz.prog 51 2 := Ag.of (by kernel_rfl) (by kernel_rfl)

def Rep.e (n : Int) : Rep := { Rep.zero with err := n }

set_option maxHeartbeats 1000000 in
theorem slast_empty {b : Nat} {sv : Value} {rest : List Value} {ss : List (Nat × Nat)} {ob : Option Nat} {w : World} {c : Cfg} (h : StrsAt w b sv rest ss ob) (he : ∀ s ∈ ss, StripeAt w c s.1 s.2 #[] 0 0) (hr : rightB ss.length = true)
    (hi lo : Int) (k0 : 0 ≤ hi) (k1 : hi < 18446744073709551616) (k2 : 0 ≤ lo) (k3 : lo < 18446744073709551616) :
    Calls Tryz.prog 122 #[.pointer (some ⟨b, 0, none⟩), .agg #[.int .u64 hi, .int .u64 lo]] w fun e w' => e = .returned (.agg (Rep.e 5).cs) ∧ Upd Non w w' := by
  have hrt := routeOf_bd hi lo hr
  obtain ⟨i, hie⟩ := Int.eq_ofNat_of_zero_le hrt.1
  have hil : i < ss.length := by omega
  have hse := he ss[i] (List.getElem_mem hil)
  have hkb := fun W (hW : Upd Non ((w.alloc (.cells #[.int .u64 hi, .int .u64 lo] 51))) W) => (hW.blk (Blk.new w #[.int .u64 hi, .int .u64 lo] 51) fun x => x).cell
  have hhome := fun W (hu : Upd Non w W) => shome_calls (h.upd hu (fun x => x) fun _ _ x => x) hr hi lo k0 k1 k2 k3
  have hstr := fun W (hu : Upd Non w W) => sstripe_calls (h.upd hu (fun x => x) fun _ _ x => x) i hil
  have hget := fun W (hu : Upd Non w W) => strget_empty (hse.upd hu (fun x => x) fun x => x) hi lo
  rw [hie] at hhome
  go_enter Tryz.func122, Tryz.ntmps122
  go_wp2
  refine region3 (Upd Non _) [0, 1, 2, 5] [(3, []), (4, [])] 6 follows (by kernel_rfl) (Upd.refl _ _).drew ?_
  repeat (apply headS_cons rfl; (next => (intro W hW; have hbx := hkb W (((Upd.refl Non _).alloc _).then hW); go_wp2; first | exact ⟨rfl, rfl⟩ | exact ⟨rfl, trivial⟩ | exact rfl)); (next => kernel_rfl))
  refine headS_nil ?_
  refine midG_cons rfl fun K hK => ?_
  have hX : ∀ o, Upd Non w (((w.alloc (.cells #[.int .u64 hi, .int .u64 lo] 51)).alloc o).drew) := fun o => (((Upd.refl Non w).alloc _).alloc o).drew
  go_wp2_with (go_at_call 115; refine (hhome _ (hX _)).mono ?_; rintro e w2 ⟨rfl, hu2⟩)
  refine hK _ _ ((Upd.refl _ _).drew.then hu2) (headS_nil ?_)
  clear hK
  refine midG_cons rfl fun K hK => ?_
  go_wp2_with (go_at_call 114; refine (hstr _ ((hX _).then hu2)).mono ?_; rintro e w3 ⟨rfl, rfl⟩)
  refine hK _ _ ((Upd.refl _ _).drew.then hu2) (headS_nil (midG_nil ?_))
  clear hK
  simp only [List.drop_succ_cons, List.drop_zero]
  go_wp2_with (first | (go_at_call 166; refine (hget _ ((hX _).then hu2)).mono ?_; rintro e w4 ⟨rfl, hu4⟩) | (refine build_rep rfl _ rfl 5 (by simp [Act.eval]) ?_) | (refine wpList_store_agg agRep rfl _ _ rfl rfl rfl ((((Upd.refl Non _).drew.then hu2).then hu4).blk (Blk.fresh (b := w.heap.size + 1) (by simp only [World.size_alloc]) _ _) fun x => x) rfl (Nat.le_refl 13) (Rep.one _) ?_; intro w5 hb5 hu5; have hb6 := hb5.cast (show _ = (Rep.e 5).cs from rfl)))
  have hs2 := hu2.size
  have hs4 := hu4.size
  refine bodyPost_ret (results_agg agRep rfl _ _ _ _ _ rfl hb6 rfl) rfl ⟨rfl, Upd.step ((((hX _).then hu2)).then hu4) hu5 fun x hx e => ?_⟩
  omega
end Go.Proofs.YtmlnjifiaddhjaaGreat
end
section
open Go Go.RowKit Go.Fw
namespace Go.Proofs.YtmlnjifiaddhjaaGreat
set_option maxRecDepth 100000

set_option maxHeartbeats 1000000 in
theorem sdo_read_empty {b : Nat} {sv : Value} {rest : List Value} {ss : List (Nat × Nat)} {ob : Option Nat} {w : World} {c : Cfg} (h : StrsAt w b sv rest ss ob) (he : ∀ s ∈ ss, StripeAt w c s.1 s.2 #[] 0 0) (hr : rightB ss.length = true)
    (x : Cal) (hx : x.kind = 7) (hok : idOk x.id = true) (hm : x.id.size ≤ maxLen) :
    Calls Tryz.prog 82 #[.pointer (some ⟨b, 0, none⟩), .agg x.cs] w fun e w' => e = .returned (.agg (Rep.e 5).cs) ∧ Upd Non w w' := by
  have herr : x.err = 0 := by unfold Cal.err; rw [hx]; simp [hok, okE_true]
  obtain ⟨⟨k1, k2⟩, k3, k4⟩ := keyOf_bd x.id
  have hrt := routeOf_bd (keyOf x.id).1 (keyOf x.id).2 hr
  obtain ⟨i, hie⟩ := Int.eq_ofNat_of_zero_le hrt.1
  have hil : i < ss.length := by omega
  have hcb := fun W (hu : Upd Non (w.alloc (.cells x.cs 55)) W) => hu.blk (Blk.new w x.cs 55) fun x => x
  have hck := fun W => scheck_calls x W hm
  rw [herr] at hck
  have hmade := fun W (hu : Upd Non w W) => smade_calls (h.upd hu (fun x => x) fun _ _ x => x)
  have hpack := fun W => pack_yes x.id W hm hok
  have hhome := fun W (hu : Upd Non w W) => shome_calls (h.upd hu (fun x => x) fun _ _ x => x) hr (keyOf x.id).1 (keyOf x.id).2 k1 k2 k3 k4
  rw [hie] at hhome
  have hstr := fun W (hu : Upd Non w W) => sstripe_calls (h.upd hu (fun x => x) fun _ _ x => x) i hil
  have hlast := fun W (hu : Upd Non w W) => slast_empty (h.upd hu (fun x => x) fun _ _ x => x) (fun s hs => (he s hs).upd hu (fun x => x) fun x => x) hr (keyOf x.id).1 (keyOf x.id).2 k1 k2 k3 k4
  have hX1 : ∀ o, Upd Non w ((w.alloc (.cells x.cs 55)).alloc o) := fun o => (((Upd.refl Non w).alloc _).alloc o)
  go_enter Tryz.func82, Tryz.ntmps82
  go_wp2_with (first | (refine wpList_load_agg agCal rfl _ rfl rfl (hcb _ ((Upd.refl Non _).alloc _)) (Nat.le_refl 11) ?_; rw [show Go.Fw.part x.cs 0 11 = x.cs from rfl]) | (go_at_call 84; refine (hck _).mono ?_; rintro e w2 ⟨rfl, hu2⟩; have hu02 := (hX1 _).then hu2; have hY2 := ((Upd.refl Non (w.alloc (.cells x.cs 55))).alloc _).then hu2; have hb21 := ((hcb _ hY2).cell 1).trans (show x.cs[1]? = some (.string x.id) from rfl)) | (go_at_call 113; refine (hmade _ hu02).mono ?_; rintro e w' ⟨rfl, rfl⟩) | (go_at_call 86; refine (hpack _).mono ?_; rintro e w3 ⟨rfl, hu3⟩; have hu03 := hu02.then hu3; have hY3 := hY2.then hu3) | (go_at_call 115; refine (hhome _ (hu03.alloc _)).mono ?_; rintro e w4 ⟨rfl, hu4⟩; have hu04 := (hu03.alloc _).then hu4; have hY4 := (hY3.alloc _).then hu4; have hb40 := ((hcb _ hY4).cell 0).trans (show x.cs[0]? = some (.int .i64 x.kind) from rfl); rw [hx] at hb40; have hk4 := (hu4.blk (Blk.new _ _ _) fun x => x).cell) | (go_at_call 114; refine (hstr _ hu04).mono ?_; rintro e w' ⟨rfl, rfl⟩) | (go_at_call 122; refine (hlast _ hu04).mono ?_; rintro e w5 ⟨rfl, hu5⟩) | (refine wpList_store_agg agRep rfl _ _ rfl rfl rfl (((((hu2.then hu3).alloc _).then hu4).then hu5).blk (Blk.fresh (b := w.heap.size + 1) (by simp only [World.size_alloc]) _ _) fun x => x) rfl (Nat.le_refl 13) (Rep.one _) ?_; intro w6 hb6 hu6; have hb7 := hb6.cast (show _ = (Rep.e 5).cs from rfl)))
  have hs5 := (hu04.then hu5).size
  refine bodyPost_ret (results_agg agRep rfl _ _ _ _ _ rfl hb7 rfl) rfl ⟨rfl, Upd.step (hu04.then hu5) hu6 fun x hx e => ?_⟩
  omega

set_option maxHeartbeats 1000000 in
theorem gdo_read_empty {wb : Nat} {R : Raw} {sv : Value} {rest : List Value} {ss : List (Nat × Nat)} {ob : Option Nat} {w : World} {c : Cfg} (hg : GwAt w wb R) (h : StrsAt w R.st sv rest ss ob) (he : ∀ s ∈ ss, StripeAt w c s.1 s.2 #[] 0 0) (hr : rightB ss.length = true)
    (x : Cal) (hx : x.kind = 7) (hok : idOk x.id = true) (hm : x.id.size ≤ maxLen) :
    Calls Tryz.prog 42 #[.pointer (some ⟨wb, 0, none⟩), .agg x.cs] w fun e w' => e = .returned (.agg (Rep.e 5).cs) ∧ Upd Non w w' := by
  have hxb := Blk.new w x.cs 55
  have hk0 := fun W (hu : Upd Non (w.alloc (.cells x.cs 55)) W) => ((hu.blk hxb fun x => x).cell 0).trans (show x.cs[0]? = some (.int .i64 x.kind) from rfl)
  rw [hx] at hk0
  have hX1 : ∀ o, Upd Non w ((w.alloc (.cells x.cs 55)).alloc o) := fun o => (((Upd.refl Non w).alloc _).alloc o)
  have hk00 := fun o => hk0 _ ((Upd.refl Non _).alloc o)
  have hst := fun W (hu : Upd Non w W) => store_calls wb R W (hg.upd hu fun x => x)
  have hdo := fun W (hu : Upd Non w W) => sdo_read_empty (h.upd hu (fun x => x) fun _ _ x => x) (fun s hs => (he s hs).upd hu (fun x => x) fun x => x) hr x hx hok hm
  go_enter Tryz.func42, Tryz.ntmps42
  go_wp2
  refine region3 (Upd Non _) [0, 2] [(1, [])] 3 follows (by kernel_rfl) (Upd.refl _ _).drew ?_
  repeat (apply headS_cons rfl; (next => (intro W hW; go_wp2_with (refine wpList_load_agg agCal rfl _ rfl rfl ((((Upd.refl Non _).alloc _).then hW).blk hxb fun x => x) (Nat.le_refl 11) ?_; rw [show Go.Fw.part x.cs 0 11 = x.cs from rfl]); first | exact ⟨rfl, rfl⟩ | exact ⟨rfl, trivial⟩ | exact rfl)); (next => kernel_rfl))
  refine headS_nil ?_
  refine midG_cons rfl fun K hK => ?_
  go_wp2_with (go_at_call 81; refine (hst _ (hX1 _).drew).mono ?_; rintro e w' ⟨rfl, rfl⟩)
  refine hK _ _ (Upd.refl _ _).drew (headS_nil (midG_nil ?_))
  clear hK
  simp only [List.drop_succ_cons, List.drop_zero]
  go_wp2_with (first | (go_at_call 82; refine (hdo _ (hX1 _).drew).mono ?_; rintro e w5 ⟨rfl, hu5⟩) | (refine wpList_store_agg agRep rfl _ _ rfl rfl rfl (((Upd.refl Non _).drew.then hu5).blk (Blk.fresh (b := w.heap.size + 1) (by simp only [World.size_alloc]) _ _) fun x => x) rfl (Nat.le_refl 13) (Rep.one _) ?_; intro w6 hb6 hu6; have hb7 := hb6.cast (show _ = (Rep.e 5).cs from rfl)))
  have hs5 := ((hX1 (.cells #[] 0)).drew).size
  have hs6 := hu5.size
  refine bodyPost_ret (results_agg agRep rfl _ _ _ _ _ rfl hb7 rfl) rfl ⟨rfl, Upd.step ((hX1 _).drew.then hu5) hu6 fun x hx e => ?_⟩
  omega
end Go.Proofs.YtmlnjifiaddhjaaGreat
end
section
open Go Go.RowKit Go.Fw
namespace Go.Proofs.YtmlnjifiaddhjaaGreat
set_option maxRecDepth 100000

/-- Whether a client may do a step. -/
def readyV (k : Cl) (R : Raw) (ks : List Lk) (n : Nat) : Bool := !overV k.nth n && (decide (k.wants < 0) || decide (gheldV R ks k.wants k.task ≠ 0))

set_option maxHeartbeats 1000000 in
theorem ready_calls (role : Nat → Nat) (cb b : Nat) (k : Cl) (R : Raw) (ks : List Lk) (ps : List Cal) (op : Option Nat) (evs : List Ev) (oe : Option Nat) (w : World) (A : All w role cb b k R ks ps op evs oe) :
    Calls Tryz.prog 18 #[.pointer (some ⟨cb, 0, none⟩)] w fun e w' => e = .returned (.bool (readyV k R ks ps.length)) ∧ Upd Non w w' := by
  have hwb := A.side.wb
  subst hwb
  have hcl := A.side.cl
  have hover := fun W (hu : Upd Non w W) => over_calls cb k ps op W (hu.blk hcl fun x => x) (Slc.upd A.side.ps hu fun _ _ x => x)
  have hheld := fun W (hu : Upd Non w W) => gheld_calls k.wb R ks role k.wants k.task W (hu.blk A.side.gw fun x => x) (A.locks.upd A.side.gw.lt hu (fun _ _ => rfl) fun _ x => x.elim) A.n
  have E := Go.Fw.hid (show readyV k R ks ps.length = (!overV k.nth ps.length && (decide (k.wants < 0) || decide (gheldV R ks k.wants k.task ≠ 0))) from rfl)
  cases hov : overV k.nth ps.length with
  | true =>
    rw [hov] at hover
    go_enter Tryz.func18, Tryz.ntmps18
    go_wp2
    refine region1 (Upd Non _) [0, 1, 2, 3, 4, 5, 6, 7, 8, 9, 10, 11, 12, 13, 14, 15, 16, 17, 18, 19, 20, 21] 22 follows (by kernel_rfl) (Upd.refl _ _).drew ?_
    repeat (apply head_cons rfl; (next => (intro W hW; (try simp only [List.getElem_toArray, List.getElem_cons_zero, List.getElem_cons_succ]); go_wp2_with (go_at_call 15; refine (hover _ hW).mono ?_; rintro e w' ⟨rfl, hu⟩); first | exact ⟨rfl, hW⟩ | exact ⟨rfl, hW.then (by assumption)⟩)); (next => kernel_rfl))
    refine head_nil ?_
    intro W hW
    simp only [List.drop_succ_cons, List.drop_zero]
    go_wp2
    go_ret
    exact ⟨by rw [E.out, hov]; rfl, hW⟩
  | false =>
    rw [hov] at hover
    by_cases hwt : k.wants < 0
    · go_enter Tryz.func18, Tryz.ntmps18
      go_wp2
      refine region1 (Upd Non _) [0, 1, 2, 3, 4, 5, 6, 7, 8, 9, 10, 11, 12, 13, 14, 15, 16, 17, 18, 19, 20, 21] 22 follows (by kernel_rfl) (Upd.refl _ _).drew ?_
      repeat (apply head_cons rfl; (next => (intro W hW; have hck := (hW.blk hcl fun x => x).cell; have hc6 := (hck 6).trans (show k.cs[6]? = some (.int .i64 k.wants) from rfl); clear hck; (try simp only [List.getElem_toArray, List.getElem_cons_zero, List.getElem_cons_succ]); go_wp2_with (go_at_call 15; refine (hover _ hW).mono ?_; rintro e w' ⟨rfl, hu⟩); first | exact ⟨rfl, hW⟩ | exact ⟨rfl, hW.then (by assumption)⟩)); (next => kernel_rfl))
      refine head_nil ?_
      intro W hW
      simp only [List.drop_succ_cons, List.drop_zero]
      go_wp2
      go_ret
      exact ⟨by rw [E.out, hov]; simp [hwt], hW⟩
    · by_cases hh : gheldV R ks k.wants k.task = 0
      · rw [hh] at hheld
        go_enter Tryz.func18, Tryz.ntmps18
        go_wp2
        refine region1 (Upd Non _) [0, 1, 2, 3, 4, 5, 6, 7, 8, 9, 10, 11, 12, 13, 14, 15, 16, 17, 18, 19, 20, 21] 22 follows (by kernel_rfl) (Upd.refl _ _).drew ?_
        repeat (apply head_cons rfl; (next => (intro W hW; have hck := (hW.blk hcl fun x => x).cell; have hc6 := (hck 6).trans (show k.cs[6]? = some (.int .i64 k.wants) from rfl); have hc3 := (hck 3).trans (show k.cs[3]? = some (.int .i64 k.task) from rfl); have hc0 := (hck 0).trans (show k.cs[0]? = some (.pointer (some ⟨k.wb, 0, none⟩)) from rfl); clear hck; (try simp only [List.getElem_toArray, List.getElem_cons_zero, List.getElem_cons_succ]); go_wp2_with (first | (go_at_call 15; refine (hover _ hW).mono ?_; rintro e w' ⟨rfl, hu⟩) | (go_at_call 12; refine (hheld _ hW).mono ?_; rintro e w' ⟨rfl, rfl⟩)); first | exact ⟨rfl, hW⟩ | exact ⟨rfl, hW.then (by assumption)⟩)); (next => kernel_rfl))
        refine head_nil ?_
        intro W hW
        simp only [List.drop_succ_cons, List.drop_zero]
        go_wp2_with (go_at_call 12; refine (hheld _ hW).mono ?_; rintro e w' ⟨rfl, rfl⟩)
        go_ret
        exact ⟨by rw [E.out, hov]; simp [hwt, hh], hW⟩
      · have hhb : (gheldV R ks k.wants k.task == 0) = false := by simpa using hh
        generalize hgv : gheldV R ks k.wants k.task = gv at *
        go_enter Tryz.func18, Tryz.ntmps18
        go_wp2
        refine region1 (Upd Non _) [0, 1, 2, 3, 4, 5, 6, 7, 8, 9, 10, 11, 12, 13, 14, 15, 16, 17, 18, 19, 20, 21] 22 follows (by kernel_rfl) (Upd.refl _ _).drew ?_
        repeat (apply head_cons rfl; (next => (intro W hW; have hck := (hW.blk hcl fun x => x).cell; have hc6 := (hck 6).trans (show k.cs[6]? = some (.int .i64 k.wants) from rfl); have hc3 := (hck 3).trans (show k.cs[3]? = some (.int .i64 k.task) from rfl); have hc0 := (hck 0).trans (show k.cs[0]? = some (.pointer (some ⟨k.wb, 0, none⟩)) from rfl); clear hck; (try simp only [List.getElem_toArray, List.getElem_cons_zero, List.getElem_cons_succ]); go_wp2_with (first | (go_at_call 15; refine (hover _ hW).mono ?_; rintro e w' ⟨rfl, hu⟩) | (go_at_call 12; refine (hheld _ hW).mono ?_; rintro e w' ⟨rfl, rfl⟩)); first | exact ⟨rfl, hW⟩ | exact ⟨rfl, hW.then (by assumption)⟩)); (next => kernel_rfl))
        refine head_nil ?_
        intro W hW
        simp only [List.drop_succ_cons, List.drop_zero]
        go_wp2_with (go_at_call 12; refine (hheld _ hW).mono ?_; rintro e w' ⟨rfl, rfl⟩)
        go_ret
        exact ⟨by rw [E.out, hov]; simp [hwt, hgv, hh], hW⟩
end Go.Proofs.YtmlnjifiaddhjaaGreat
end
section
open Go Go.RowKit Go.Fw
namespace Go.Proofs.YtmlnjifiaddhjaaGreat
set_option maxRecDepth 100000

theorem opCells_get (l : List (Int × Int)) : ∀ (k : Nat) (h : k < l.length), (opCells l)[k * 2]? = some (.int .i64 l[k].1) ∧ (opCells l)[k * 2 + 1]? = some (.int .i64 l[k].2) := by
  induction l with
  | nil => intro k h; exact absurd h (Nat.not_lt_zero _)
  | cons x l ih =>
    intro k h
    have e : opCells (x :: l) = .int .i64 x.1 :: .int .i64 x.2 :: opCells l := rfl
    cases k with
    | zero => rw [e]; exact ⟨rfl, rfl⟩
    | succ k =>
      rw [e, show (k + 1) * 2 = k * 2 + 1 + 1 by omega, show k * 2 + 1 + 1 + 1 = k * 2 + 1 + 1 + 1 from rfl]
      simp only [List.getElem?_cons_succ, List.getElem_cons_succ]
      exact ih k (by simpa using h)

set_option maxHeartbeats 1000000 in
theorem skip_ok (cb : Nat) (k : Cl) (w : World) (hcl : ClAt w cb k) (he : k.rep.err = 0) :
    Calls Tryz.prog 54 #[.pointer (some ⟨cb, 0, none⟩)] w fun x w' => x = .returned (.tuple #[]) ∧ w = w' := by
  have h7 := (hcl.cell 7).trans (show k.cs[7]? = some (.int .i64 k.rep.err) from rfl)
  rw [he] at h7
  go_enter Tryz.func54, Tryz.ntmps54
  go_wp2
  (try go_step3)
  go_wp2
  (try go_step3)
  go_wp2
  go_rounds 1
  rw [Exit.noGoto_normal]
  exact bodyPost_end (results_none rfl _ _ _) rfl ⟨rfl, rfl⟩

set_option maxHeartbeats 1000000 in
theorem skip_stop (cb b : Nat) (k : Cl) (R : Raw) (os : List (Int × Int)) (oo : Option Nat) (w : World) (p : Nat) (hcl : ClAt w cb k) (hwb : k.wb = b) (hgw : GwAt w b R) (he : k.rep.err ≠ 0) (ho : Ops w k.ov os oo)
    (hp : k.pos = p) (hlt : p + 1 < os.length) (hlk : os[p + 1].2 ≠ R.c.st + 1) (h0 : 0 ≤ R.c.st) (h1 : R.c.st ≤ 1000) (hlen : os.length ≤ 100000) :
    Calls Tryz.prog 54 #[.pointer (some ⟨cb, 0, none⟩)] w fun x w' => x = .returned (.tuple #[]) ∧ Upd Non w w' := by
  subst hwb
  have h7 := (hcl.cell 7).trans (show k.cs[7]? = some (.int .i64 k.rep.err) from rfl)
  obtain ⟨b', off, cap, hov, _, _, _, _, hcell⟩ := Slc.form ho (by omega)
  have hx1 := hcell (p + 1) 1 hlt (by decide)
  simp only [(opCells_get os (p + 1) hlt).2] at hx1
  clear hcell
  have hk2 := (hcl.cell 2).trans (show k.cs[2]? = some k.ov from rfl)
  rw [hov] at hk2
  have hk5 := (hcl.cell 5).trans (show k.cs[5]? = some (.int .i64 k.pos) from rfl)
  rw [hp] at hk5
  have hk0 := (hcl.cell 0).trans (show k.cs[0]? = some (.pointer (some ⟨k.wb, 0, none⟩)) from rfl)
  have hconf := fun W (hu : Upd Non w W) => config_calls k.wb R W (hgw.upd hu fun x => x)
  have hline := fun W => line_calls R.c W h0 h1
  generalize hlv : os[p + 1].2 = lk at *
  have hlb : (lk == R.c.st + 1) = false := by simpa using hlk
  have hebn : (k.rep.err != 0) = true := by simpa using he
  go_enter Tryz.func54, Tryz.ntmps54
  go_wp2
  (try go_step3)
  go_wp2
  (try go_step3)
  go_wp2
  go_rounds 1
  refine region0 [0, 1, 2, 3, 4, 5, 6, 7, 8] 9 follows (by kernel_rfl) ?_
  repeat (apply head0_cons rfl; (next => (go_wp2; first | exact ⟨rfl, rfl⟩ | exact ⟨rfl, trivial⟩ | exact rfl)); (next => kernel_rfl))
  refine head0_nil ?_; simp only [List.drop_succ_cons, List.drop_zero]
  go_wp2_with (first | (go_at_call 49; refine (hconf _ (Upd.refl _ _).drew).mono ?_; rintro x w2 ⟨rfl, hu2⟩) | (go_at_call 28; refine (hline _).mono ?_; rintro x w3 ⟨rfl, rfl⟩))
  rw [Exit.noGoto_normal]
  exact bodyPost_end (results_none rfl _ _ _) rfl ⟨rfl, ((Upd.refl Non w).drew.then hu2).alloc _⟩
end Go.Proofs.YtmlnjifiaddhjaaGreat
end
section
open Go Go.RowKit Go.Fw
namespace Go.Proofs.YtmlnjifiaddhjaaGreat
set_option maxRecDepth 100000

theorem evCells_one (l : List Ev) : ∀ u ∈ evCells l, u.oneCell' = true := by
  intro u hu
  obtain ⟨e, _, he⟩ := List.mem_flatMap.1 hu
  exact e.one u he
theorem eq_nil_ev (b off n cap : Nat) (w : World) : (binOp .eql 77 (.slice (some ⟨b, off, none⟩) n cap) (.slice none 0 0)).run Tryz.prog w = .ok (.bool false) w := by kernel_rfl
theorem eq_nil_op (b off n cap : Nat) (w : World) : (binOp .eql 131 (.slice (some ⟨b, off, none⟩) n cap) (.slice none 0 0)).run Tryz.prog w = .ok (.bool false) w := by kernel_rfl
theorem eq_nil_op0 (w : World) : (binOp .eql 131 (.slice none 0 0) (.slice none 0 0)).run Tryz.prog w = .ok (.bool true) w := by kernel_rfl
theorem clone_ev (v : Value) (l : List Ev) (ob : Option Nat) (w : World) (h : EvS w v l ob) (hl : 0 < l.length) (hm : l.length ≤ 100000) :
    Calls Tryz.prog 58 #[v] w fun e w' => ∃ v' ob', e = .returned v' ∧ EvS w' v' l ob' ∧ (∀ x, ob' = some x → w.heap.size ≤ x) ∧ Upd Non w w' := by
  obtain ⟨b, off, cap, rfl, _, _, _, _, _⟩ := Slc.form h hl
  have hq := eq_nil_ev b off l.length cap
  go_enter Tryz.func58, Tryz.ntmps58
  go_wp2_with (at_builtin; go_loud (refine wpList_append elEv rfl _ _ rfl rfl rfl (Slc.fresh (n := 0) rfl rfl (by unfold maxLen; omega)) (Slc.upd h ((Upd.refl Non _).alloc _) fun _ _ x => x) (evCells_one _) (by unfold maxLen; omega) (by omega) ?_); intro v2 w2 ob2 hs2 hu2 hb2)
  go_ret
  have hu := ((Upd.refl Non w).alloc (.cells #[] 83))
  refine ⟨_, rfl, ob2, ?_, fun x e => ?_, ?_⟩
  · unfold EvS; simpa using hs2
  · rcases hb2 x e with h | h
    · cases h; exact Nat.le_refl _
    · simp only [World.size_alloc] at h; omega
  · exact Upd.step hu hu2 fun x hx e => by cases e; omega
theorem events_calls (b : Nat) (R : Raw) (l : List Ev) (oe : Option Nat) (w : World) (h : GwAt w b R) (hev : EvS w R.ev l oe) (hl : 0 < l.length) (hm : l.length ≤ 100000) :
    Calls Tryz.prog 19 #[.pointer (some ⟨b, 0, none⟩)] w fun e w' => ∃ v' ob', e = .returned v' ∧ EvS w' v' l ob' ∧ (∀ x, ob' = some x → w.heap.size ≤ x) ∧ Upd Non w w' := by
  have hc := clone_ev R.ev l oe w hev hl hm
  have hv := (h.cell 15).trans (show R.cs[15]? = some R.ev from rfl)
  obtain ⟨a, cap, hvv, _, _, _⟩ := Slc.val hev
  rw [hvv] at hv hc
  have hmade := made_calls b R w h
  go_enter Tryz.func19, Tryz.ntmps19
  go_wp2_with (first | (go_at_call 57; refine hmade.mono ?_; rintro e w' ⟨rfl, rfl⟩) | (go_at_call 58; refine hc.mono ?_; rintro e w2 ⟨v2, ob2, rfl, h1, h2, h3⟩))
  go_ret
  exact ⟨_, ob2, rfl, h1, h2, h3⟩
end Go.Proofs.YtmlnjifiaddhjaaGreat
end
section
open Go Go.RowKit Go.Fw
namespace Go.Proofs.YtmlnjifiaddhjaaGreat
set_option maxRecDepth 100000

theorem gnew_bad (c : Cfg) (w : World) (hwf : c.wf) (hok : c.ok = false) : Calls Tryz.prog 8 #[c.v] w fun e w' => e = .returned (.tuple #[.pointer none, .int .i64 1]) ∧ Upd Non w w' := by
  have hright := hid (show okE c.ok 1 = 1 by rw [hok]; rfl)
  obtain ⟨st, sa, lo, hi⟩ := c
  simp only [Cfg.v] at *
  go_enter Tryz.func8, Tryz.ntmps8
  go_wp2_with (go_at_call 26; refine (nright_calls ⟨st, sa, lo, hi⟩ _ hwf).mono ?_; rw [hright.out]; rintro e w' ⟨rfl, rfl⟩)
  go_ret2
  exact ⟨rfl, ((Upd.refl Non w).alloc _).alloc _⟩

/-- The part of a client's Step behind its switch: one place on. -/
def moved (k : Cl) : Cl := { k with pos := k.pos + 1 }
theorem kind_split (kd : Int) : kd = kd := rfl

/-- A client with its steps, ready to do the one at its place. -/
structure Doing (w : World) (role : Nat → Nat) (cb b : Nat) (k : Cl) (R : Raw) (ks : List Lk) (ps : List Cal) (op : Option Nat) (evs : List Ev) (oe : Option Nat) (os : List (Int × Int)) (oo : Option Nat) : Prop where
  all : All w role cb b k R ks ps op evs oe
  ops : Ops w k.ov os oo
  roo : ∀ x, oo = some x → role x = 12
end Go.Proofs.YtmlnjifiaddhjaaGreat
end
section
open Go Go.RowKit Go.Fw
namespace Go.Proofs.YtmlnjifiaddhjaaGreat
set_option maxRecDepth 100000

theorem agOp : Ag Tryz.prog 137 2 := Ag.of (by kernel_rfl) (by kernel_rfl)

theorem All.upd {w w' : World} {role : Nat → Nat} {cb b : Nat} {k : Cl} {R : Raw} {ks : List Lk} {ps : List Cal} {op : Option Nat} {evs : List Ev} {oe : Option Nat} (A : All w role cb b k R ks ps op evs oe) (hu : Upd Non w w') : All w' role cb b k R ks ps op evs oe :=
  { A with
    side := A.side.upd hu
    locks := A.locks.upd A.side.gw.lt hu (fun _ _ => rfl) fun _ x => x.elim }
theorem All.client {w w' : World} {role : Nat → Nat} {cb b : Nat} {k k' : Cl} {R : Raw} {ks : List Lk} {ps : List Cal} {op : Option Nat} {evs : List Ev} {oe : Option Nat} (A : All w role cb b k R ks ps op evs oe) (h : ClAt w' cb k') (hu : Upd (fun x => x = cb) w w')
    (hwb : k'.wb = k.wb) (hpv : k'.pv = k.pv) : All w' role cb b k' R ks ps op evs oe :=
  { A with
    side := A.side.client h hu hwb hpv
    locks := A.locks.upd A.side.gw.lt hu (fun _ _ => rfl) fun x e => by subst e; have := A.rcb; omega }
theorem opCells_part (l : List (Int × Int)) (i : Nat) (h : i < l.length) : (((opCells l).drop (i * 2)).take 2).toArray = #[.int .i64 l[i].1, .int .i64 l[i].2] := by
  have h1 := opCells_get l i h
  have hlen : (opCells l).length = l.length * 2 := by
    clear h1 h
    induction l with
    | nil => rfl
    | cons x l ih =>
      have e : opCells (x :: l) = .int .i64 x.1 :: .int .i64 x.2 :: opCells l := rfl
      rw [e]; simp only [List.length_cons, ih]; omega
  have e : (opCells l).drop (i * 2) = .int .i64 l[i].1 :: .int .i64 l[i].2 :: (opCells l).drop (i * 2 + 2) := by
    rw [List.drop_eq_getElem_cons (by omega), List.drop_eq_getElem_cons (by omega)]
    obtain ⟨a, b⟩ := h1
    rw [List.getElem?_eq_getElem (by omega)] at a b
    injection a with a; injection b with b
    rw [a, b]
  rw [e]; rfl

theorem asked_pos (k : Cl) (i : Int) (h : Bool) : (asked k i h).pos = k.pos := by unfold asked; split <;> rfl
theorem asked_ov (k : Cl) (i : Int) (h : Bool) : (asked k i h).ov = k.ov := by unfold asked; split <;> rfl
set_option maxHeartbeats 2000000 in
theorem step_ask (role : Nat → Nat) (cb b : Nat) (k : Cl) (R : Raw) (ks : List Lk) (ps : List Cal) (op : Option Nat) (evs : List Ev) (oe : Option Nat) (os : List (Int × Int)) (oo : Option Nat) (w : World)
    (D : Doing w role cb b k R ks ps op evs oe os oo) (n p : Nat) (hn : k.nth = n) (hnl : n < ps.length) (hp : k.pos = p) (hpl : p < os.length) (hr : readyV k R ks ps.length = true) (hlen : os.length ≤ 100000)
    (i : Int) (ho : os[p] = (2, i)) (h0 : 0 ≤ i) (h1 : i < R.n + 1) (hm : (lkGet R ks i).line.length ≤ 1000) :
    Calls Tryz.prog 16 #[.pointer (some ⟨cb, 0, none⟩)] w fun x w' => ∃ lv role', x = .returned (.tuple #[]) ∧ (∀ x, x < w.heap.size → role' x = role x) ∧
      Doing w' role' cb b { asked { k with wants := -1 } i (askR (lkGet R ks i) k.task false).1 with pos := (p : Int) + 1 } (lkPut R ks i (askR (lkGet R ks i) k.task false).2.2 lv).1 (lkPut R ks i (askR (lkGet R ks i) k.task false).2.2 lv).2 ps op evs oe os oo ∧
      Upd (fun x => role x = 10 ∨ role x = 1 ∨ role x = 2 ∨ 100 ≤ role x) w w' := by
  have hA := D.all
  have hwb := hA.side.wb
  subst hwb
  have hcl := hA.side.cl
  have hready := ready_calls role cb k.wb k R ks ps op evs oe w hA
  rw [hr] at hready
  obtain ⟨pb, off, cap, arr, hpv, hop, hpb, hpl2, hpart⟩ := Slc.part hA.side.ps hnl
  rw [calCells_part ps n hnl] at hpart
  go_enter Tryz.func16, Tryz.ntmps16
  go_wp2_with (go_at_call 18; refine hready.mono ?_; rintro x w1 ⟨rfl, hu1⟩)
  refine region3 (Upd Non _) [0, 1, 2, 3, 4, 5, 6, 7, 8, 9] [(10, [])] 11 follows (by kernel_rfl) (Upd.refl _ _).drew ?_
  repeat (apply headS_cons rfl; (next => (intro W hW; have h1 := (((hu1.then hW).blk hcl (fun x => x)).cell 1).trans (show k.cs[1]? = some k.pv from rfl); rw [hpv] at h1; have h4 := (((hu1.then hW).blk hcl (fun x => x)).cell 4).trans (show k.cs[4]? = some (.int .i64 k.nth) from rfl); rw [hn] at h4; (try simp only [List.getElem_toArray, List.getElem_cons_zero, List.getElem_cons_succ]); go_wp2_with (refine wpList_load_agg agCal rfl _ rfl rfl ((hu1.then hW).blk hpb fun x => x) hpl2 ?_; rw [hpart]); first | exact ⟨rfl, rfl⟩ | exact ⟨rfl, trivial⟩ | exact rfl)); (next => kernel_rfl))
  refine headS_nil ?_
  refine midG_cons rfl fun K hK => ?_
  go_wp2
  refine hK _ _ ((Upd.refl _ _).drew.alloc _) (headS_nil (midG_nil ?_))
  clear hK
  simp only [List.drop_succ_cons, List.drop_zero]
  refine wpList_store_agg agCal rfl _ _ rfl rfl rfl (Blk.drew (Blk.new w1 _ _)) rfl (Nat.le_refl _) (Cal.one _) ?_
  intro w2 hb2 hu2
  replace hb2 : Blk w2 w1.heap.size (ps[n]).cs 55 := hb2.cast rfl
  have hU2 : Upd Non w w2 := Upd.step (hu1.alloc _).drew hu2 fun x hx e => by have := hu1.size; omega
  have hcl2 := hU2.blk hcl fun x => x
  have hk2 := (hcl2.cell 2).trans (show k.cs[2]? = some k.ov from rfl)
  have hk6 := (hcl2.cell 6).trans (show k.cs[6]? = some (.int .i64 k.wants) from rfl)
  have hkf := hcl2.frozen
  have hkl := hcl2.lt
  obtain ⟨b', off', cap', hov, _, _, _, _, hcell⟩ := Slc.form D.ops (by omega)
  rw [hov] at hk2
  have hqn := eq_nil_op b' off' os.length cap'
  go_wp2
  have hset6 : Upd (fun x => x = cb) w2 (w2.setCell ⟨cb, 6, none⟩ (.int .i64 (-1))) := (Upd.refl (fun x => x = cb) _).setCell (.inr rfl) _
  have A3 := (hA.upd hU2).client (k' := { k with wants := -1 }) ((hcl2.set 6 (.int .i64 (-1))).cast rfl) hset6 rfl rfl
  have D3 : Ops (w2.setCell ⟨cb, 6, none⟩ (.int .i64 (-1))) k.ov os oo := Slc.upd (Slc.upd D.ops hU2 fun _ _ x => x) hset6 fun x e e' => by have h1 := D.roo x e; have h2 := hA.rcb; rw [e'] at h1; omega
  generalize hw3 : w2.setCell ⟨cb, 6, none⟩ (.int .i64 (-1)) = w3 at *
  have hcl3 := A3.side.cl
  obtain ⟨b5, off5, cap5, arr5, hov5, hoo5, hb5, hl5, hpart5⟩ := Slc.part D3 hpl
  rw [opCells_part os p hpl, ho] at hpart5
  refine region3 (Upd Non _) [0, 1, 2, 3, 4, 5, 6, 7, 8, 9] [(10, [])] 11 follows (by kernel_rfl) (Upd.refl _ _).drew ?_
  repeat (apply headS_cons rfl; (next => (intro W hW; have h2 := ((hW.blk hcl3 (fun x => x)).cell 2).trans (show _ = some k.ov from rfl); rw [hov5] at h2; have h5 := ((hW.blk hcl3 (fun x => x)).cell 5).trans (show _ = some (.int .i64 k.pos) from rfl); rw [hp] at h5; (try simp only [List.getElem_toArray, List.getElem_cons_zero, List.getElem_cons_succ]); go_wp2_with (refine wpList_load_agg agOp rfl _ rfl rfl (hW.blk hb5 fun x => x) hl5 ?_; rw [hpart5]); first | exact ⟨rfl, rfl⟩ | exact ⟨rfl, trivial⟩ | exact rfl)); (next => kernel_rfl))
  refine headS_nil ?_
  refine midG_cons rfl fun K hK => ?_
  go_wp2
  refine hK _ _ ((Upd.refl _ _).drew.alloc _) (headS_nil (midG_nil ?_))
  clear hK
  simp only [List.drop_succ_cons, List.drop_zero]
  go_wp2_with (go_at_call 51; refine (cask_calls role cb k.wb { k with wants := -1 } R ks ps op evs oe _ (A3.upd ((Upd.refl Non _).alloc _).drew) 2 i h0 h1 hm).mono ?_; rintro x w5 ⟨lv, role', rfl, hr5, A5, hu5⟩; have hc5 := (A5.side.cl.cell 5).trans (show _ = some (.int .i64 (asked { k with wants := -1 } i (askR (lkGet R ks i) k.task (decide ((2:Int) = 3))).1).pos) from rfl); rw [asked_pos] at hc5; simp only [hp] at hc5; have hf5 := A5.side.cl.frozen; have hl5' := A5.side.cl.lt)
  have hdec : decide ((2 : Int) = 3) = false := by decide
  rw [hdec] at A5
  have hset5 : Upd (fun x => x = cb) w5 (w5.setCell ⟨cb, 5, none⟩ (.int .i64 ((p : Int) + 1))) := (Upd.refl (fun x => x = cb) _).setCell (.inr rfl) _
  have hz3 : w2.heap.size ≤ w3.heap.size := hset6.size
  have hz2 := hU2.size
  have hrcb := hA.rcb
  have hcb0 := hcl.lt
  have hr6 : ∀ x, x < w.heap.size → role' x = role x := fun x hx => hr5 x (by simp only [World.size_drew, World.size_alloc]; omega)
  have hcb' : role' cb = 10 := (hr6 cb hcb0).trans hrcb
  refine bodyPost_end (results_none rfl _ _ _) rfl ⟨lv, role', rfl, hr6, ?_, ?_⟩
  · exact {
      all := A5.client (k' := { asked { k with wants := -1 } i (askR (lkGet R ks i) k.task false).1 with pos := (p : Int) + 1 }) ((A5.side.cl.set 5 (.int .i64 ((p : Int) + 1))).cast rfl) hset5 rfl rfl
      ops := by
        rw [show ({ asked { k with wants := -1 } i (askR (lkGet R ks i) k.task false).1 with pos := (p : Int) + 1 } : Cl).ov = k.ov from asked_ov _ _ _]
        refine Slc.upd (Slc.upd (Slc.upd D3 ((Upd.refl Non _).alloc _).drew fun _ _ x => x) hu5 fun x e e' => ?_) hset5 fun x e e' => ?_
        · have := D.roo x e; omega
        · have := D.roo x e; subst e'; omega
      roo := fun x e => by rw [hr6 x (Slc.lt (e ▸ D.ops))]; exact D.roo x e }
  · have u3 : Upd (fun x => role x = 10 ∨ role x = 1 ∨ role x = 2 ∨ 100 ≤ role x) w w3 := hU2.non.step hset6 fun x _ e => by subst e; exact .inl hrcb
    exact Upd.step (Upd.step (u3.alloc _).drew hu5 fun x _ e => e) hset5 fun x _ e => by subst e; exact .inl hrcb
end Go.Proofs.YtmlnjifiaddhjaaGreat
end
section
open Go Go.RowKit Go.Fw
namespace Go.Proofs.YtmlnjifiaddhjaaGreat
set_option maxRecDepth 100000

/-! ### A client and its world, as assertions -/
abbrev clA (cb : Nat) (k : Cl) : As := Go.Fw.blk cb k.cs 133
abbrev gwA (b : Nat) (R : Raw) : As := Go.Fw.blk b R.cs 107
abbrev calA (v : Value) (ps : List Cal) : As := Go.Fw.slc 55 11 v (calCells ps) ps.length
abbrev evA (v : Value) (evs : List Ev) : As := Go.Fw.slc 83 34 v (evCells evs) evs.length
abbrev opA (v : Value) (os : List (Int × Int)) : As := Go.Fw.slc 137 2 v (opCells os) os.length
abbrev lineA (v : Value) (l : List (Int × Bool)) : As := Go.Fw.slc 180 2 v (lineCells l) l.length
abbrev intA (v : Value) (l : List Int) : As := Go.Fw.slc 3 1 v (intCells l) l.length

theorem slc_slc {w0 w : World} {F : Nat → Prop} {t t' : TypeId} {k k' : Nat} {v v' : Value} {cs cs' : List Value} {n n' : Nat} {L : List As}
    (h : Run w0 F w (Go.Fw.slc t k v cs n :: Go.Fw.slc t' k' v' cs' n' :: L)) : ∃ ob ob', Slc w t k v cs n ob ∧ Slc w t' k' v' cs' n' ob' ∧ ∀ x, ob = some x → ob' ≠ some x := by
  obtain ⟨_, G, _, G1, ⟨⟨ob, h1, hb1⟩, _⟩, _, G2, ⟨⟨ob', h3, hb⟩, _⟩, g6, _⟩ := h
  exact ⟨ob, ob', h1, h3, fun x e e' => (g6 x (hb x e')).2 (hb1 x e)⟩

theorem side_of {w0 w : World} {F : Nat → Prop} {cb b : Nat} {k : Cl} {R : Raw} {ps : List Cal} {evs : List Ev} {L : List As}
    (h : Run w0 F w (clA cb k :: gwA b R :: calA k.pv ps :: evA R.ev evs :: L)) (hwb : k.wb = b) : ∃ op oe, Side w cb b k R ps op evs oe := by
  have n1 := h.blk_blk
  obtain ⟨op, hp, n5⟩ := h.at2.to1.blk_slc
  obtain ⟨oe, he, n3⟩ := h.at3.to1.blk_slc
  obtain ⟨op', hp', n4⟩ := h.drop.blk_slc
  obtain ⟨oe', he', n2⟩ := h.drop.at2.to1.blk_slc
  obtain ⟨op2, oe2, hp2, he2, n6⟩ := slc_slc h.drop.drop
  obtain rfl := hp'.ob_eq hp
  obtain rfl := hp2.ob_eq hp
  obtain rfl := he'.ob_eq he
  obtain rfl := he2.ob_eq he
  exact ⟨op2, oe2, { cl := h.blk, wb := hwb, gw := h.at1.blk, ps := hp, ev := he, n1 := n1, n2 := n2, n3 := n3, n4 := n4, n5 := n5, n6 := fun x e e' => n6 x e' e }⟩

theorem side_back {w0 w w' : World} {F : Nat → Prop} {cb b : Nat} {k k' : Cl} {R R' : Raw} {ps : List Cal} {op : Option Nat} {evs evs' : List Ev} {oe oe' : Option Nat} {L : List As}
    (h : Run w0 F w (clA cb k :: gwA b R :: calA k.pv ps :: evA R.ev evs :: L)) (S : Side w cb b k R ps op evs oe) (S' : Side w' cb b k' R' ps op evs' oe')
    (hf : ∀ x, oe' = some x → oe = some x ∨ w.heap.size ≤ x) (hu : Upd (fun x => x = cb ∨ x = b ∨ oe = some x) w w') :
    Run w0 F w' (clA cb k' :: gwA b R' :: calA k'.pv ps :: evA R'.ev evs' :: L) := by
  refine Run.open (L := [clA cb k', gwA b R', calA k'.pv ps, evA R'.ev evs']) ((Run.shut (L := [clA cb k, gwA b R, calA k.pv ps, evA R.ev evs]) h).did fun G ⟨⟨G1, ⟨g1, _, _⟩, g4, G2, ⟨g2, _, _⟩, g6, G3, ⟨⟨op1, h3, hb3⟩, _⟩, g7, G4, ⟨⟨oe1, h4, hb4⟩, _⟩, g8, _⟩, hG⟩ => ?_)
  obtain rfl := h3.ob_eq S.ps
  obtain rfl := h4.ob_eq S.ev
  have hGb : G b := (g6 _ g2).1
  have hGc : G cb := g4 _ g1
  have hGp : ∀ x, op1 = some x → G x := fun x e => (g7 x (hb3 x e)).1.1
  have hGe : ∀ x, oe1 = some x → G x := fun x e => (g8 x (hb4 x e)).1.1.1
  have hpl : ∀ x, op1 = some x → x < w'.heap.size := fun x e => Slc.lt (e ▸ S'.ps)
  have hel : ∀ x, oe' = some x → x < w'.heap.size := fun x e => Slc.lt (e ▸ S'.ev)
  refine ⟨hu.mono fun x _ e => ?_, fun x => x = cb ∨ x = b ∨ op1 = some x ∨ oe' = some x, fun x e => ?_,
    ⟨fun x => x = cb, ⟨rfl, S'.cl, fun x e => e ▸ S'.cl.lt⟩, fun x e => .inl e,
     fun x => x = b, ⟨rfl, S'.gw, fun x e => e ▸ S'.gw.lt⟩, fun x e => ⟨.inr (.inl e), fun e' => S'.n1 (e'.symm.trans e)⟩,
     fun x => op1 = some x, ⟨⟨op1, S'.ps, fun x e => e⟩, hpl⟩, fun x e => ⟨⟨.inr (.inr (.inl e)), fun e' => S'.n5 (e' ▸ e)⟩, fun e' => S'.n4 (e' ▸ e)⟩,
     fun x => oe' = some x, ⟨⟨oe', S'.ev, fun x e => e⟩, hel⟩, fun x e => ⟨⟨⟨.inr (.inr (.inr e)), fun e' => S'.n3 (e' ▸ e)⟩, fun e' => S'.n2 (e' ▸ e)⟩, fun e' => S'.n6 x e e'⟩, trivial⟩, fun x e => ?_⟩
  · rcases e with e | e | e
    · subst e; exact hGc
    · subst e; exact hGb
    · exact hGe x e
  · rcases e with e | e | e | e
    · subst e; exact .inl hGc
    · subst e; exact .inl hGb
    · exact .inl (hGp x e)
    · rcases hf x e with h | h
      · exact .inl (hGe x h)
      · exact .inr h
  · rcases e with e | e | e | e
    · subst e; exact S'.cl.lt
    · subst e; exact S'.gw.lt
    · exact hpl x e
    · exact hel x e

theorem event_sl {w0 w : World} {F : Nat → Prop} {cb b : Nat} {k : Cl} {R : Raw} {ps : List Cal} {evs : List Ev} {L : List As} (kd : Int) (hkd : kd = 1 ∨ kd = 2 ∨ kd = 3) (n : Nat)
    (h : Run w0 F w (clA cb k :: gwA b R :: calA k.pv ps :: evA R.ev evs :: L)) (hwb : k.wb = b) (hn : k.nth = n) (hlt : n < ps.length) (hm : evs.length ≤ 100000) :
    Calls Tryz.prog 52 #[.pointer (some ⟨cb, 0, none⟩), .int .i64 kd] w fun x w' => ∃ ev, x = .returned (.tuple #[]) ∧
      Run w0 F w' (clA cb k :: gwA b { R with ev := ev } :: calA k.pv ps :: evA ev (evs ++ [evOf kd k ps[n]]) :: L) := by
  obtain ⟨op, oe, S⟩ := side_of h hwb
  have key : ∀ w' ev oe', GwAt w' b { R with ev := ev } → EvS w' ev (evs ++ [evOf kd k ps[n]]) oe' → (∀ x, oe' = some x → oe = some x ∨ w.heap.size ≤ x) → Upd (fun x => x = b ∨ oe = some x) w w' →
      Run w0 F w' (clA cb k :: gwA b { R with ev := ev } :: calA k.pv ps :: evA ev (evs ++ [evOf kd k ps[n]]) :: L) := fun w' ev oe' a1 a2 a3 a4 =>
    side_back (R' := { R with ev := ev }) h S (S.noted a1 a2 a3 a4) a3 (a4.mono fun x _ e => .inr e)
  rcases hkd with rfl | rfl | rfl
  · exact (event1 cb b k R ps op evs oe w n S hn hlt hm).mono fun x w' ⟨ev, oe', e, a1, a2, a3, a4⟩ => ⟨ev, e, key w' ev oe' a1 a2 a3 a4⟩
  · exact (event2 cb b k R ps op evs oe w n S hn hlt hm).mono fun x w' ⟨ev, oe', e, a1, a2, a3, a4⟩ => ⟨ev, e, key w' ev oe' a1 a2 a3 a4⟩
  · exact (event3 cb b k R ps op evs oe w n S hn hlt hm).mono fun x w' ⟨ev, oe', e, a1, a2, a3, a4⟩ => ⟨ev, e, key w' ev oe' a1 a2 a3 a4⟩

theorem begin_sl {w0 w : World} {F : Nat → Prop} {cb b : Nat} {k : Cl} {R : Raw} {ps : List Cal} {evs : List Ev} {L : List As} (n : Nat)
    (h : Run w0 F w (clA cb k :: gwA b R :: calA k.pv ps :: evA R.ev evs :: L)) (hwb : k.wb = b) (hn : k.nth = n) (hlt : n < ps.length) (hm : evs.length ≤ 10000) (hids : (ps[n]).id.size ≤ maxLen) :
    Calls Tryz.prog 50 #[.pointer (some ⟨cb, 0, none⟩)] w fun x w' => ∃ ev, x = .returned (.tuple #[]) ∧
      Run w0 F w' (clA cb (begun k ps[n]) :: gwA b { R with ev := ev } :: calA k.pv ps :: evA ev (evs ++ begunE k ps[n]) :: L) := by
  obtain ⟨op, oe, S⟩ := side_of h hwb
  exact (begin_calls cb b k R ps op evs oe w n S hn hlt hm hids).mono fun x w' ⟨ev, oe', e, a1, a2, a3⟩ => ⟨ev, e, side_back h S a1 a2 a3⟩

theorem end_sl {w0 w : World} {F : Nat → Prop} {cb b : Nat} {k : Cl} {R : Raw} {ps : List Cal} {evs : List Ev} {L : List As} (n : Nat)
    (h : Run w0 F w (clA cb k :: gwA b R :: calA k.pv ps :: evA R.ev evs :: L)) (hwb : k.wb = b) (hn : k.nth = n) (hlt : n < ps.length) (hm : evs.length ≤ 10000) (hps : ps.length ≤ 1000000) (a : Option Addr) (m cap : Nat) (hov : k.ov = .slice a m cap) :
    Calls Tryz.prog 56 #[.pointer (some ⟨cb, 0, none⟩)] w fun x w' => ∃ ev, x = .returned (.tuple #[]) ∧
      Run w0 F w' (clA cb (ended k n) :: gwA b { R with ev := ev } :: calA k.pv ps :: evA ev (evs ++ [evOf 3 k ps[n]]) :: L) := by
  obtain ⟨op, oe, S⟩ := side_of h hwb
  exact (end_calls cb b k R ps op evs oe w n S hn hlt hm hps a m cap hov).mono fun x w' ⟨ev, oe', e, a1, a2, a3⟩ => ⟨ev, e, side_back h S a1 a2 a3⟩

/-! ### The locks -/
def lk0 : Lk := ⟨0, 0, []⟩
/-- The array of the locks of a world, and their lines. -/
def locksA (bl : Nat) (ks : List Lk) : As := exs fun x : Array Value × (Nat → Value) =>
  all [Go.Fw.prop (∀ i (h : i < ks.length), LkAt x.1 (i * 3) ks[i] (x.2 i)), Go.Fw.blk bl x.1 98, sep (fun i => lineA (x.2 i) (ks.getD i lk0).line) (List.range ks.length)]

theorem locks_focus {w0 w : World} {F : Nat → Prop} {bl : Nat} {ks : List Lk} {L : List As} (h : Run w0 F w (locksA bl ks :: L)) (i : Nat) (hi : i < ks.length) :
    ∃ c lv Rest, LkAt c (i * 3) ks[i] lv ∧ Run w0 F w (Go.Fw.blk bl c 98 :: lineA lv ks[i].line :: Rest :: L) ∧
      ∀ (L' : List As) (k' : Lk) (lv' : Value), Wand (Go.Fw.blk bl (lkC c (i * 3) k' lv') 98 :: lineA lv' k'.line :: Rest :: L') (locksA bl (ks.set i k') :: L') := by
  obtain ⟨⟨c, lvs⟩, h⟩ := h.exs
  obtain ⟨hp, h⟩ := h.open.prop
  have him : i ∈ List.range ks.length := List.mem_range.2 hi
  have h2 := (h.at1.pick him).at2
  have hg : ks.getD i lk0 = ks[i] := by simp [hi]
  dsimp only at hp h2
  rw [hg] at h2
  refine ⟨c, lvs i, _, hp i hi, h2, fun L' k' lv' w1 w' F' h3 => ?_⟩
  refine Run.ex (lkC c (i * 3) k' lv', fun j => if j = i then lv' else lvs j) (Run.shut (Run.fact (Run.to1 ?_) ?_))
  · rw [List.length_set]
    refine Run.unpick (f := fun j => lineA (lvs j) (ks.getD j lk0).line) (g := fun j => lineA ((fun j => if j = i then lv' else lvs j) j) ((ks.set i k').getD j lk0).line) him List.nodup_range (fun j hj hji => ?_) ?_
    · simp only [if_neg hji]
      have e : (ks.set i k').getD j lk0 = ks.getD j lk0 := by
        simp only [List.getD_eq_getElem?_getD, List.getElem?_set_ne (Ne.symm hji)]
      rw [e]
    · have e : (ks.set i k').getD i lk0 = k' := by simp [List.getD_eq_getElem?_getD, hi]
      simp only [e, if_true]
      exact h3.to2
  · intro j hj
    rw [List.length_set] at hj
    by_cases hji : j = i
    · subst hji
      rw [List.getElem_set_self]
      simp only [if_true]
      exact LkAt.of (hp j hi).lt k' lv'
    · rw [List.getElem_set_ne (Ne.symm hji)]
      simp only [if_neg hji]
      have hk := hp j hj
      refine ⟨?_, ?_, ?_⟩
      · rw [lkC_get, if_neg (by omega), if_neg (by omega), if_neg (by omega)]; exact hk.rd
      · rw [lkC_get, if_neg (by omega), if_neg (by omega), if_neg (by omega)]; exact hk.wr
      · rw [lkC_get, if_neg (by omega), if_neg (by omega), if_neg (by omega)]; exact hk.ln

theorem ask_sl {w0 w : World} {F : Nat → Prop} {L : List As} {q o : Nat} {c : Array Value} {ty : TypeId} {k : Lk} {lv : Value} (h : Run w0 F w (Go.Fw.blk q c ty :: lineA lv k.line :: L)) (hk : LkAt c o k lv) (t : Int) (write : Bool) (hm : k.line.length ≤ 1000) :
    Calls Tryz.prog 60 #[.pointer (some ⟨q, o, none⟩), .int .i64 t, .bool write] w fun e w' => ∃ lv', e = .returned (.tuple #[.bool (askR k t write).1, .int .i64 (askR k t write).2.1]) ∧
      Run w0 F w' (Go.Fw.blk q (lkC c o (askR k t write).2.2 lv') ty :: lineA lv' (askR k t write).2.2.line :: L) := by
  obtain ⟨ob, hs, hne⟩ := h.blk_slc
  have hq := h.blk.lt
  exact (ask_calls q o c ty k lv ob t write w h.blk hk hs hne hm).mono fun e w' ⟨lv', ob', he, a1, a2, a3, a4⟩ => ⟨lv', he, h.did2 hs a1 a2 a4 a3 fun e => by
    rcases a3 q e with h | h
    · exact hne h
    · omega⟩
theorem drop_sl {w0 w : World} {F : Nat → Prop} {L : List As} {q o : Nat} {c : Array Value} {ty : TypeId} {k : Lk} {lv : Value} (h : Run w0 F w (Go.Fw.blk q c ty :: lineA lv k.line :: L)) (hk : LkAt c o k lv) (t : Int) (hm : k.line.length ≤ 1000) :
    Calls Tryz.prog 61 #[.pointer (some ⟨q, o, none⟩), .int .i64 t] w fun e w' => ∃ v lv', e = .returned (.tuple #[v, .int .i64 (dropR k t).1]) ∧
      Run w0 F w' (Go.Fw.blk q (lkC c o (dropR k t).2 lv') ty :: lineA lv' (dropR k t).2.line :: L) := by
  obtain ⟨ob, hs, hne⟩ := h.blk_slc
  exact (drop_calls q o c ty k lv ob t w h.blk hk hs hne hm).mono fun e w' ⟨v, lv', he, a1, a2, a3⟩ => ⟨v, lv', he, h.did2 hs a1 a2 (a3.mono fun x _ e => .inl e) (fun x e => .inl e) hne⟩

/-- The lock of a number, and what it is good for. -/
theorem gw_focus {w0 w : World} {F : Nat → Prop} {b : Nat} {R : Raw} {ks : List Lk} {L : List As} (h : Run w0 F w (gwA b R :: locksA R.bl ks :: lineA R.lv R.line.line :: L)) (hlen : ks.length = R.n) (i : Int) (h0 : 0 ≤ i) (h1 : i < R.n + 1) :
    ∃ q o c ty lv L1, lockP R b i = some ⟨q, o, none⟩ ∧ LkAt c o (lkGet R ks i) lv ∧ Run w0 F w (Go.Fw.blk q c ty :: lineA lv (lkGet R ks i).line :: L1) ∧
      ∀ (k' : Lk) (lv' : Value), Wand (Go.Fw.blk q (lkC c o k' lv') ty :: lineA lv' k'.line :: L1)
        (gwA b (lkPut R ks i k' lv').1 :: locksA (lkPut R ks i k' lv').1.bl (lkPut R ks i k' lv').2 :: lineA (lkPut R ks i k' lv').1.lv (lkPut R ks i k' lv').1.line.line :: L) := by
  obtain ⟨i, rfl⟩ := Int.eq_ofNat_of_zero_le h0
  by_cases hi : i = R.n
  · subst hi
    refine ⟨b, 6, R.cs, 107, R.lv, locksA R.bl ks :: L, ?_, ?_, ?_, fun k' lv' w1 w' F' h3 => ?_⟩
    · unfold lockP; rw [if_neg (by omega), if_pos rfl]
    · unfold lkGet; rw [if_pos rfl]; exact ⟨rfl, rfl, rfl⟩
    · unfold lkGet; rw [if_pos rfl]; exact h.at2.to1
    · unfold lkPut; rw [if_pos rfl]
      have h4 : Run _ _ _ (gwA b { R with line := k', lv := lv' } :: lineA lv' k'.line :: locksA R.bl ks :: L) := h3
      exact h4.at1.to2
  · have hi' : i < ks.length := by rw [hlen]; omega
    have hni : ¬ (i : Int) = R.n := by omega
    have hget : lkGet R ks i = ks[i] := by
      unfold lkGet; rw [if_neg hni]; simp [List.getD_eq_getElem?_getD, hi']
    obtain ⟨c, lv, Rest, hk, h2, hback⟩ := locks_focus h.at1 i hi'
    refine ⟨R.bl, i * 3, c, 98, lv, Rest :: gwA b R :: lineA R.lv R.line.line :: L, ?_, by rw [hget]; exact hk, by rw [hget]; exact h2, fun k' lv' w1 w' F' h3 => ?_⟩
    · unfold lockP; rw [if_neg (by omega), if_neg hni]; simp
    · have hput : lkPut R ks i k' lv' = (R, ks.set i k') := by unfold lkPut; rw [if_neg hni]; simp
      rw [hput]
      exact Run.to1 ((hback _ k' lv').do h3)

set_option maxHeartbeats 400000 in
theorem gheld_sl {w0 w : World} {F : Nat → Prop} {b : Nat} {R : Raw} {ks : List Lk} {L : List As} (h : Run w0 F w (gwA b R :: locksA R.bl ks :: lineA R.lv R.line.line :: L)) (hlen : ks.length = R.n) (hn : R.n ≤ 2000) (i t : Int) :
    Calls Tryz.prog 12 #[.pointer (some ⟨b, 0, none⟩), .int .i64 i, .int .i64 t] w fun e w' => e = .returned (.int .i64 (gheldV R ks i t)) ∧ w = w' := by
  have hb := h.blk
  have hbl : R.bl < w.heap.size := by
    obtain ⟨x, h2⟩ := h.at1.exs
    exact (h2.open.drop.blk).lt
  have E := Go.Fw.hid (show gheldV R ks i t = if 0 ≤ i ∧ i < R.n + 1 then heldV (lkGet R ks i).rd (lkGet R ks i).wr t else 0 from rfl)
  by_cases hi : 0 ≤ i ∧ i < R.n + 1
  · obtain ⟨q, o, c, ty, lv, L1, hp, hk, h2, _⟩ := gw_focus h hlen i hi.1 hi.2
    have h0 := (h2.blk.cell o).trans hk.rd
    have h1 := (h2.blk.cell (o + 1)).trans hk.wr
    have E1 := Go.Fw.hid (show gheldV R ks i t = heldV (lkGet R ks i).rd (lkGet R ks i).wr t by rw [E.out, if_pos hi])
    clear E
    generalize lkGet R ks i = k at *
    go_enter Tryz.func12, Tryz.ntmps12
    go_wp2_with (first | (go_at_call 45; refine (lock_calls b R i _ hb hn hbl).mono ?_; rw [hp]; rintro e w' ⟨rfl, rfl⟩) | (go_at_call 47; refine (held_calls q o t _ k.rd k.wr h0 h1).mono ?_; rintro e w' ⟨rfl, rfl⟩))
    go_ret
    exact ⟨by rw [E1.out]; rfl, rfl⟩
  · have E1 := Go.Fw.hid (show gheldV R ks i t = 0 by rw [E.out, if_neg hi])
    have hp := lockP_none (b := b) hi
    clear E
    go_enter Tryz.func12, Tryz.ntmps12
    go_wp2_with (first | (go_at_call 45; refine (lock_calls b R i _ hb hn hbl).mono ?_; rw [hp]; rintro e w' ⟨rfl, rfl⟩) | (go_at_call 47; refine (held_nil _ _).mono ?_; rintro e w' ⟨rfl, rfl⟩))
    go_ret
    exact ⟨by rw [E1.out]; rfl, rfl⟩

set_option maxHeartbeats 400000 in
theorem gask_sl {w0 w : World} {F : Nat → Prop} {b : Nat} {R : Raw} {ks : List Lk} {L : List As} (h : Run w0 F w (gwA b R :: locksA R.bl ks :: lineA R.lv R.line.line :: L)) (hlen : ks.length = R.n) (hn : R.n ≤ 2000) (i t : Int) (write : Bool)
    (h0 : 0 ≤ i) (h1 : i < R.n + 1) (hm : (lkGet R ks i).line.length ≤ 1000) :
    Calls Tryz.prog 22 #[.pointer (some ⟨b, 0, none⟩), .int .i64 i, .int .i64 t, .bool write] w fun e w' => ∃ lv,
      e = .returned (.tuple #[.bool (askR (lkGet R ks i) t write).1, .int .i64 (askR (lkGet R ks i) t write).2.1]) ∧
      Run w0 F w' (gwA b (lkPut R ks i (askR (lkGet R ks i) t write).2.2 lv).1 :: locksA (lkPut R ks i (askR (lkGet R ks i) t write).2.2 lv).1.bl (lkPut R ks i (askR (lkGet R ks i) t write).2.2 lv).2 ::
        lineA (lkPut R ks i (askR (lkGet R ks i) t write).2.2 lv).1.lv (lkPut R ks i (askR (lkGet R ks i) t write).2.2 lv).1.line.line :: L) := by
  have hb := h.blk
  have hbl : R.bl < w.heap.size := by
    obtain ⟨x, h2⟩ := h.at1.exs
    exact (h2.open.drop.blk).lt
  obtain ⟨q, o, c, ty, lv, L1, hp, hk, h2, hback⟩ := gw_focus h hlen i h0 h1
  have hask := ask_sl h2 hk t write hm
  replace hback := Go.Fw.hid hback
  generalize hres : askR (lkGet R ks i) t write = res at *
  have hres' := Go.Fw.hid hres
  clear hres
  go_enter Tryz.func22, Tryz.ntmps22
  go_wp2_with (first | (go_at_call 45; refine (lock_calls b R i _ hb hn hbl).mono ?_; rw [hp]; rintro e w' ⟨rfl, rfl⟩) | (go_at_call 60; refine hask.mono ?_; rintro e w' ⟨lv', rfl, h3⟩))
  go_ret2
  exact ⟨_, rfl, (hback.out _ _).do h3⟩
set_option maxHeartbeats 400000 in
theorem gdrop_sl {w0 w : World} {F : Nat → Prop} {b : Nat} {R : Raw} {ks : List Lk} {L : List As} (h : Run w0 F w (gwA b R :: locksA R.bl ks :: lineA R.lv R.line.line :: L)) (hlen : ks.length = R.n) (hn : R.n ≤ 2000) (i t : Int)
    (h0 : 0 ≤ i) (h1 : i < R.n + 1) (hm : (lkGet R ks i).line.length ≤ 1000) :
    Calls Tryz.prog 23 #[.pointer (some ⟨b, 0, none⟩), .int .i64 i, .int .i64 t] w fun e w' => ∃ lv,
      e = .returned (.int .i64 (dropR (lkGet R ks i) t).1) ∧
      Run w0 F w' (gwA b (lkPut R ks i (dropR (lkGet R ks i) t).2 lv).1 :: locksA (lkPut R ks i (dropR (lkGet R ks i) t).2 lv).1.bl (lkPut R ks i (dropR (lkGet R ks i) t).2 lv).2 ::
        lineA (lkPut R ks i (dropR (lkGet R ks i) t).2 lv).1.lv (lkPut R ks i (dropR (lkGet R ks i) t).2 lv).1.line.line :: L) := by
  have hb := h.blk
  have hbl : R.bl < w.heap.size := by
    obtain ⟨x, h2⟩ := h.at1.exs
    exact (h2.open.drop.blk).lt
  obtain ⟨q, o, c, ty, lv, L1, hp, hk, h2, hback⟩ := gw_focus h hlen i h0 h1
  have hask := drop_sl h2 hk t hm
  replace hback := Go.Fw.hid hback
  generalize hres : dropR (lkGet R ks i) t = res at *
  have hres' := Go.Fw.hid hres
  clear hres
  go_enter Tryz.func23, Tryz.ntmps23
  go_wp2_with (first | (go_at_call 45; refine (lock_calls b R i _ hb hn hbl).mono ?_; rw [hp]; rintro e w' ⟨rfl, rfl⟩) | (go_at_call 61; refine hask.mono ?_; rintro e w' ⟨v', lv', rfl, h3⟩))
  go_ret
  exact ⟨_, rfl, (hback.out _ _).do h3⟩
end Go.Proofs.YtmlnjifiaddhjaaGreat
end
section
open Go Go.RowKit Go.Fw
namespace Go.Proofs.YtmlnjifiaddhjaaGreat
set_option maxRecDepth 100000

/-! ### client.Ready, ask, skip -/
set_option maxHeartbeats 1000000 in
theorem ready_sl {w0 w : World} {F : Nat → Prop} {cb b : Nat} {k : Cl} {R : Raw} {ks : List Lk} {ps : List Cal} {evs : List Ev} {L : List As}
    (h : Run w0 F w (clA cb k :: gwA b R :: calA k.pv ps :: evA R.ev evs :: locksA R.bl ks :: lineA R.lv R.line.line :: L)) (hwb : k.wb = b) (hlen : ks.length = R.n) (hn : R.n ≤ 2000) :
    Calls Tryz.prog 18 #[.pointer (some ⟨cb, 0, none⟩)] w fun e w' => e = .returned (.bool (readyV k R ks ps.length)) ∧ Upd Non w w' := by
  subst hwb
  have hcl := h.blk
  obtain ⟨op, hps⟩ := h.at2.slc
  have hover := fun W (hu : Upd Non w W) => over_calls cb k ps op W (hu.blk hcl fun x => x) (Slc.upd hps hu fun _ _ x => x)
  have hheld := fun W (hu : Upd Non w W) => gheld_sl (h.ro hu).at1.drop1.drop1.drop1 hlen hn k.wants k.task
  have E := Go.Fw.hid (show readyV k R ks ps.length = (!overV k.nth ps.length && (decide (k.wants < 0) || decide (gheldV R ks k.wants k.task ≠ 0))) from rfl)
  cases hov : overV k.nth ps.length with
  | true =>
    rw [hov] at hover
    go_enter Tryz.func18, Tryz.ntmps18
    go_wp2
    refine region1 (Upd Non _) [0, 1, 2, 3, 4, 5, 6, 7, 8, 9, 10, 11, 12, 13, 14, 15, 16, 17, 18, 19, 20, 21] 22 follows (by kernel_rfl) (Upd.refl _ _).drew ?_
    repeat (apply head_cons rfl; (next => (intro W hW; have hck := (hW.blk hcl fun x => x).cell; have hc6 := (hck 6).trans (show k.cs[6]? = some (.int .i64 k.wants) from rfl); have hc3 := (hck 3).trans (show k.cs[3]? = some (.int .i64 k.task) from rfl); have hc0 := (hck 0).trans (show k.cs[0]? = some (.pointer (some ⟨k.wb, 0, none⟩)) from rfl); clear hck; (try simp only [List.getElem_toArray, List.getElem_cons_zero, List.getElem_cons_succ]); go_wp2_with (first | (go_at_call 15; refine (hover _ hW).mono ?_; rintro e w' ⟨rfl, hu⟩) | (go_at_call 12; refine (hheld _ hW).mono ?_; rintro e w' ⟨rfl, rfl⟩)); first | exact ⟨rfl, hW⟩ | exact ⟨rfl, hW.then (by assumption)⟩)); (next => kernel_rfl))
    refine head_nil ?_
    intro W hW
    simp only [List.drop_succ_cons, List.drop_zero]
    go_wp2
    go_ret
    exact ⟨by rw [E.out, hov]; rfl, hW⟩
  | false =>
    rw [hov] at hover
    by_cases hwt : k.wants < 0
    · go_enter Tryz.func18, Tryz.ntmps18
      go_wp2
      refine region1 (Upd Non _) [0, 1, 2, 3, 4, 5, 6, 7, 8, 9, 10, 11, 12, 13, 14, 15, 16, 17, 18, 19, 20, 21] 22 follows (by kernel_rfl) (Upd.refl _ _).drew ?_
      repeat (apply head_cons rfl; (next => (intro W hW; have hck := (hW.blk hcl fun x => x).cell; have hc6 := (hck 6).trans (show k.cs[6]? = some (.int .i64 k.wants) from rfl); have hc3 := (hck 3).trans (show k.cs[3]? = some (.int .i64 k.task) from rfl); have hc0 := (hck 0).trans (show k.cs[0]? = some (.pointer (some ⟨k.wb, 0, none⟩)) from rfl); clear hck; (try simp only [List.getElem_toArray, List.getElem_cons_zero, List.getElem_cons_succ]); go_wp2_with (first | (go_at_call 15; refine (hover _ hW).mono ?_; rintro e w' ⟨rfl, hu⟩) | (go_at_call 12; refine (hheld _ hW).mono ?_; rintro e w' ⟨rfl, rfl⟩)); first | exact ⟨rfl, hW⟩ | exact ⟨rfl, hW.then (by assumption)⟩)); (next => kernel_rfl))
      refine head_nil ?_
      intro W hW
      simp only [List.drop_succ_cons, List.drop_zero]
      go_wp2
      go_ret
      exact ⟨by rw [E.out, hov]; simp [hwt], hW⟩
    · by_cases hh : gheldV R ks k.wants k.task = 0
      · rw [hh] at hheld
        go_enter Tryz.func18, Tryz.ntmps18
        go_wp2
        refine region1 (Upd Non _) [0, 1, 2, 3, 4, 5, 6, 7, 8, 9, 10, 11, 12, 13, 14, 15, 16, 17, 18, 19, 20, 21] 22 follows (by kernel_rfl) (Upd.refl _ _).drew ?_
        repeat (apply head_cons rfl; (next => (intro W hW; have hck := (hW.blk hcl fun x => x).cell; have hc6 := (hck 6).trans (show k.cs[6]? = some (.int .i64 k.wants) from rfl); have hc3 := (hck 3).trans (show k.cs[3]? = some (.int .i64 k.task) from rfl); have hc0 := (hck 0).trans (show k.cs[0]? = some (.pointer (some ⟨k.wb, 0, none⟩)) from rfl); clear hck; (try simp only [List.getElem_toArray, List.getElem_cons_zero, List.getElem_cons_succ]); go_wp2_with (first | (go_at_call 15; refine (hover _ hW).mono ?_; rintro e w' ⟨rfl, hu⟩) | (go_at_call 12; refine (hheld _ hW).mono ?_; rintro e w' ⟨rfl, rfl⟩)); first | exact ⟨rfl, hW⟩ | exact ⟨rfl, hW.then (by assumption)⟩)); (next => kernel_rfl))
        refine head_nil ?_
        intro W hW
        simp only [List.drop_succ_cons, List.drop_zero]
        go_wp2_with (go_at_call 12; refine (hheld _ hW).mono ?_; rintro e w' ⟨rfl, rfl⟩)
        go_ret
        exact ⟨by rw [E.out, hov]; simp [hh], hW⟩
      · have hhb : (gheldV R ks k.wants k.task == 0) = false := by simpa using hh
        generalize hgv : gheldV R ks k.wants k.task = gv at *
        go_enter Tryz.func18, Tryz.ntmps18
        go_wp2
        refine region1 (Upd Non _) [0, 1, 2, 3, 4, 5, 6, 7, 8, 9, 10, 11, 12, 13, 14, 15, 16, 17, 18, 19, 20, 21] 22 follows (by kernel_rfl) (Upd.refl _ _).drew ?_
        repeat (apply head_cons rfl; (next => (intro W hW; have hck := (hW.blk hcl fun x => x).cell; have hc6 := (hck 6).trans (show k.cs[6]? = some (.int .i64 k.wants) from rfl); have hc3 := (hck 3).trans (show k.cs[3]? = some (.int .i64 k.task) from rfl); have hc0 := (hck 0).trans (show k.cs[0]? = some (.pointer (some ⟨k.wb, 0, none⟩)) from rfl); clear hck; (try simp only [List.getElem_toArray, List.getElem_cons_zero, List.getElem_cons_succ]); go_wp2_with (first | (go_at_call 15; refine (hover _ hW).mono ?_; rintro e w' ⟨rfl, hu⟩) | (go_at_call 12; refine (hheld _ hW).mono ?_; rintro e w' ⟨rfl, rfl⟩)); first | exact ⟨rfl, hW⟩ | exact ⟨rfl, hW.then (by assumption)⟩)); (next => kernel_rfl))
        refine head_nil ?_
        intro W hW
        simp only [List.drop_succ_cons, List.drop_zero]
        go_wp2_with (go_at_call 12; refine (hheld _ hW).mono ?_; rintro e w' ⟨rfl, rfl⟩)
        go_ret
        exact ⟨by rw [E.out, hov]; simp [hh], hW⟩

set_option maxHeartbeats 1000000 in
theorem cask_sl {w0 w : World} {F : Nat → Prop} {cb b : Nat} {k : Cl} {R : Raw} {ks : List Lk} {L : List As}
    (h : Run w0 F w (clA cb k :: gwA b R :: locksA R.bl ks :: lineA R.lv R.line.line :: L)) (hwb : k.wb = b) (hlen : ks.length = R.n) (hn : R.n ≤ 2000) (kd i : Int)
    (h0 : 0 ≤ i) (h1 : i < R.n + 1) (hm : (lkGet R ks i).line.length ≤ 1000) :
    Calls Tryz.prog 51 #[.pointer (some ⟨cb, 0, none⟩), .agg #[.int .i64 kd, .int .i64 i]] w fun x w' => ∃ lv, x = .returned (.tuple #[]) ∧
      Run w0 F w' (clA cb (asked k i (askR (lkGet R ks i) k.task (decide (kd = 3))).1) :: gwA b (lkPut R ks i (askR (lkGet R ks i) k.task (decide (kd = 3))).2.2 lv).1 :: locksA (lkPut R ks i (askR (lkGet R ks i) k.task (decide (kd = 3))).2.2 lv).1.bl (lkPut R ks i (askR (lkGet R ks i) k.task (decide (kd = 3))).2.2 lv).2 ::
        lineA (lkPut R ks i (askR (lkGet R ks i) k.task (decide (kd = 3))).2.2 lv).1.lv (lkPut R ks i (askR (lkGet R ks i) k.task (decide (kd = 3))).2.2 lv).1.line.line :: L) := by
  subst hwb
  have hX := h.box #[.int .i64 kd, .int .i64 i] 137
  have hask := gask_sl (b := k.wb) (R := R) (ks := ks) (hX.drew.to4.to4) hlen hn i k.task (decide (kd = 3)) h0 h1 hm
  have htx := hX.blk
  have hcx := hX.at1.blk
  generalize hres : askR (lkGet R ks i) k.task (decide (kd = 3)) = res at *
  have hres' := Go.Fw.hid hres
  clear hres
  go_enter Tryz.func51, Tryz.ntmps51
  go_wp2
  refine region3 (fun W => Blk W w.heap.size #[.int .i64 kd, .int .i64 i] 137 ∧ Blk W cb k.cs 133) [0, 1, 2, 3, 4, 5, 6, 7, 8, 9, 10, 11, 12] [(13, [14, 15, 16, 17])] 18 follows (by kernel_rfl) ⟨htx.drew, hcx.drew⟩ ?_
  repeat (apply headS_cons rfl; (next => (rintro W ⟨hW1, hW2⟩; have ht := hW1.cell; have hck := hW2.cell; have hk0 := (hck 0).trans (show k.cs[0]? = some (.pointer (some ⟨k.wb, 0, none⟩)) from rfl); have hk3 := (hck 3).trans (show k.cs[3]? = some (.int .i64 k.task) from rfl); clear hck; (try simp only [List.getElem_toArray, List.getElem_cons_zero, List.getElem_cons_succ]); go_wp2; first | exact ⟨rfl, rfl⟩ | exact ⟨rfl, trivial⟩ | exact rfl)); (next => kernel_rfl))
  refine headS_nil ?_
  refine midG_cons rfl fun K hK => ?_
  go_wp2_with (go_at_call 22; refine hask.mono ?_; rintro x w3 ⟨lv, rfl, h3⟩)
  have hb3 := h3.at3.blk
  have hc3 := h3.at4.blk
  refine hK _ _ ⟨hb3, hc3⟩ ?_
  clear hK
  repeat (apply headS_cons rfl; (next => (rintro W ⟨hW1, hW2⟩; (try simp only [List.getElem_toArray, List.getElem_cons_zero, List.getElem_cons_succ]); go_wp2; first | exact ⟨rfl, rfl⟩ | exact ⟨rfl, trivial⟩ | exact rfl)); (next => kernel_rfl))
  refine headS_nil (midG_nil ?_)
  simp only [List.drop_succ_cons, List.drop_zero]
  have htx3 := hb3.cell
  have hc63 := (hc3.cell 6).trans (show k.cs[6]? = some (.int .i64 k.wants) from rfl)
  have hcf3 := hc3.frozen
  have hcl3 := hc3.lt
  cases hres1 : res.1 with
  | true =>
    go_wp2
    refine bodyPost_end (results_none rfl _ _ _) rfl ⟨lv, rfl, ?_⟩
    have hak : asked k i res.1 = k := by rw [hres1]; rfl
    rw [hak]; exact (h3.drop3).at3
  | false =>
    go_wp2
    have hak : asked k i res.1 = { k with wants := i } := by rw [hres1]; rfl
    refine bodyPost_end (results_none rfl _ _ _) rfl ⟨lv, rfl, ?_⟩
    rw [hak]; exact (h3.drop3.at3).set 6 (.int .i64 i)
end Go.Proofs.YtmlnjifiaddhjaaGreat
end
section
open Go Go.RowKit Go.Fw
namespace Go.Proofs.YtmlnjifiaddhjaaGreat
set_option maxRecDepth 100000

/-! ### client.skip over the line's three steps -/
set_option maxHeartbeats 1000000 in
theorem skip_once {w0 w : World} {F : Nat → Prop} {cb b : Nat} {k : Cl} {R : Raw} {os : List (Int × Int)} {L : List As} (h : Run w0 F w (clA cb k :: gwA b R :: opA k.ov os :: L)) (hwb : k.wb = b) (p : Nat) (he : k.rep.err ≠ 0)
    (hp : k.pos = p) (hlt : p + 4 < os.length) (hlk : os[p + 1].2 = R.c.st + 1) (hlk2 : os[p + 4].2 ≠ R.c.st + 1) (h0 : 0 ≤ R.c.st) (h1 : R.c.st ≤ 1000) (hlen : os.length ≤ 100000) :
    Calls Tryz.prog 54 #[.pointer (some ⟨cb, 0, none⟩)] w fun x w' => x = .returned (.tuple #[]) ∧ Run w0 F w' (clA cb { k with pos := (p : Int) + 3 } :: gwA b R :: opA k.ov os :: L) := by
  subst hwb
  have hcl := h.blk
  have hgw : GwAt w k.wb R := h.at1.blk
  obtain ⟨oo, ho⟩ := h.at2.slc
  have h7 := (hcl.cell 7).trans (show k.cs[7]? = some (.int .i64 k.rep.err) from rfl)
  obtain ⟨b', off, cap, hov, _, _, _, _, hcell⟩ := Slc.form ho (by omega)
  have hx1 := hcell (p + 1) 1 (by omega) (by decide)
  simp only [(opCells_get os (p + 1) (by omega)).2] at hx1
  clear hcell
  have hk2 := (hcl.cell 2).trans (show k.cs[2]? = some k.ov from rfl)
  rw [hov] at hk2
  have hk5 := (hcl.cell 5).trans (show k.cs[5]? = some (.int .i64 k.pos) from rfl)
  rw [hp] at hk5
  have hk0 := (hcl.cell 0).trans (show k.cs[0]? = some (.pointer (some ⟨k.wb, 0, none⟩)) from rfl)
  have hconf := fun W (hu : Upd Non w W) => config_calls k.wb R W (hgw.upd hu fun x => x)
  have hline := fun W => line_calls R.c W h0 h1
  have hlkH := Go.Fw.hid hlk
  generalize hlv : os[p + 1].2 = lk at *
  have hlb : (lk == R.c.st + 1) = true := by simpa using hlk
  clear hlk
  have hebn : (k.rep.err != 0) = true := by simpa using he
  have hcf := hcl.frozen
  have hcll := hcl.lt
  go_enter Tryz.func54, Tryz.ntmps54
  go_wp2
  (try go_step3)
  go_wp2
  (try go_step3)
  go_wp2
  go_rounds 2
  refine region0 [0, 1, 2, 3, 4, 5, 6, 7, 8] 9 follows (by kernel_rfl) ?_
  repeat (apply head0_cons rfl; (next => (go_wp2; first | exact ⟨rfl, rfl⟩ | exact ⟨rfl, trivial⟩ | exact rfl)); (next => kernel_rfl))
  refine head0_nil ?_; simp only [List.drop_succ_cons, List.drop_zero]
  go_wp2_with (first | (go_at_call 49; refine (hconf _ (Upd.refl _ _).drew).mono ?_; rintro x w2 ⟨rfl, hu2⟩; have hu2' := (Upd.refl Non w).drew.then hu2; have hc2 := (hu2'.blk hcl fun x => x); have hk52 := (hc2.cell 5).trans (show k.cs[5]? = some (.int .i64 k.pos) from rfl); rw [hp] at hk52; have hf2 := hc2.frozen; have hl2 := hc2.lt) | (go_at_call 28; refine (hline _).mono ?_; rintro x w3 ⟨rfl, rfl⟩))
  have h4 := ((h.ro hu2').set 5 (.int .i64 ((p : Int) + 3))).alloc (.cells R.c.cs 23)
  replace h4 : Run w0 F _ (clA cb { k with pos := (p : Int) + 3 } :: gwA k.wb R :: opA k.ov os :: L) := h4
  clear hk5 hk0 h7 hx1 hk2 hcf hcll hconf hu2 hu2' hk52 hf2 hl2 hc2 hgw ho
  generalize hw4 : (w2.setCell ⟨cb, 5, none⟩ (.int .i64 ((p : Int) + 3))).alloc (.cells R.c.cs 23) = w4 at *
  rw [rounds_succ]
  have hcl4 := h4.blk
  have hgw4 : GwAt w4 k.wb R := h4.at1.blk
  obtain ⟨oo4, ho4⟩ := h4.at2.slc
  have g7 := (hcl4.cell 7).trans (show _ = some (.int .i64 k.rep.err) from rfl)
  obtain ⟨b4, off4, cap4, hov4, _, _, _, _, hcell⟩ := Slc.form ho4 (by omega)
  rw [hov] at hov4
  injection hov4 with e1 e2 e3
  injection e1 with e1
  injection e1 with e11 e12
  subst e11 e12 e3
  have gx1 := hcell (p + 4) 1 hlt (by decide)
  simp only [(opCells_get os (p + 4) hlt).2] at gx1
  clear hcell
  have g2 := (hcl4.cell 2).trans (show _ = some k.ov from rfl)
  rw [hov] at g2
  have g5 := (hcl4.cell 5).trans (show _ = some (.int .i64 ((p : Int) + 3)) from rfl)
  have g0 := (hcl4.cell 0).trans (show _ = some (.pointer (some ⟨k.wb, 0, none⟩)) from rfl)
  have hconf := fun W (hu : Upd Non w4 W) => config_calls k.wb R W (hgw4.upd hu fun x => x)
  generalize hlv2 : os[p + 4].2 = lk2 at *
  have hlb2 : (lk2 == R.c.st + 1) = false := by simpa using hlk2
  clear hlk2
  go_wp2
  refine region0 [0, 1, 2, 3, 4, 5, 6, 7, 8] 9 follows (by kernel_rfl) ?_
  repeat (apply head0_cons rfl; (next => (go_wp2; first | exact ⟨rfl, rfl⟩ | exact ⟨rfl, trivial⟩ | exact rfl)); (next => kernel_rfl))
  refine head0_nil ?_; simp only [List.drop_succ_cons, List.drop_zero]
  go_wp2_with (first | (go_at_call 49; refine (hconf _ (Upd.refl _ _).drew).mono ?_; rintro x w5 ⟨rfl, hu5⟩) | (go_at_call 28; refine (hline _).mono ?_; rintro x w6 ⟨rfl, rfl⟩))
  rw [Exit.noGoto_normal]
  exact bodyPost_end (results_none rfl _ _ _) rfl ⟨rfl, h4.ro (((Upd.refl Non w4).drew.then hu5).alloc _)⟩
end Go.Proofs.YtmlnjifiaddhjaaGreat
end
section
open Go Go.RowKit Go.Fw
namespace Go.Proofs.YtmlnjifiaddhjaaGreat
set_option maxRecDepth 100000

/-! ### client.Step -/
/-- A client with its steps, ready to do the one at its place. -/
structure Doings (k : Cl) (R : Raw) (ks : List Lk) (ps : List Cal) (os : List (Int × Int)) (b n p : Nat) : Prop where
  wb : k.wb = b
  len : ks.length = R.n
  rn : R.n ≤ 2000
  nth : k.nth = n
  nl : n < ps.length
  pos : k.pos = p
  pl : p < os.length
  ready : readyV k R ks ps.length = true
  ol : os.length ≤ 100000

set_option maxHeartbeats 2000000 in
theorem step_ask_sl
    {w0 w : World} {F : Nat → Prop} {cb b : Nat} {k : Cl} {R : Raw} {ks : List Lk} {ps : List Cal} {evs : List Ev} {os : List (Int × Int)} {L : List As} {n p : Nat} (D : Doings k R ks ps os b n p)
        (h : Run w0 F w (clA cb k :: gwA b R :: calA k.pv ps :: evA R.ev evs :: locksA R.bl ks :: lineA R.lv R.line.line :: opA k.ov os :: L))
    (i : Int) (kd : Int) (hkd : kd = 2 ∨ kd = 3) (ho : os[p]'D.pl = (kd, i)) (h0 : 0 ≤ i) (h1 : i < R.n + 1) (hm : (lkGet R ks i).line.length ≤ 1000) :
    Calls Tryz.prog 16 #[.pointer (some ⟨cb, 0, none⟩)] w fun x w' => ∃ lv, x = .returned (.tuple #[]) ∧
      Run w0 F w' (clA cb { asked { k with wants := -1 } i (askR (lkGet R ks i) k.task (decide (kd = 3))).1 with pos := (p : Int) + 1 } :: gwA b (lkPut R ks i (askR (lkGet R ks i) k.task (decide (kd = 3))).2.2 lv).1 :: calA k.pv ps :: evA R.ev evs ::
        locksA (lkPut R ks i (askR (lkGet R ks i) k.task (decide (kd = 3))).2.2 lv).1.bl (lkPut R ks i (askR (lkGet R ks i) k.task (decide (kd = 3))).2.2 lv).2 ::
        lineA (lkPut R ks i (askR (lkGet R ks i) k.task (decide (kd = 3))).2.2 lv).1.lv (lkPut R ks i (askR (lkGet R ks i) k.task (decide (kd = 3))).2.2 lv).1.line.line :: opA k.ov os :: L) := by
  rcases hkd with rfl | rfl
  all_goals
    obtain ⟨hwb, hlen, hrn, hn, hnl, hp, hpl, hr, hol⟩ := D
    subst hwb
    have hcl := h.blk
    have hready := ready_sl h rfl hlen hrn
    rw [hr] at hready
    obtain ⟨op, hps⟩ := h.at2.slc
    obtain ⟨pb, off, cap, arr, hpv, hop, hpb, hpl2, hpart⟩ := Slc.part hps hnl
    rw [calCells_part ps n hnl] at hpart
    go_enter Tryz.func16, Tryz.ntmps16
    go_wp2_with (go_at_call 18; refine hready.mono ?_; rintro x w1 ⟨rfl, hu1⟩)
    refine region3 (Upd Non _) [0, 1, 2, 3, 4, 5, 6, 7, 8, 9] [(10, [])] 11 follows (by kernel_rfl) (Upd.refl _ _).drew ?_
    repeat (apply headS_cons rfl; (next => (intro W hW; have h1 := (((hu1.then hW).blk hcl (fun x => x)).cell 1).trans (show k.cs[1]? = some k.pv from rfl); rw [hpv] at h1; have h4 := (((hu1.then hW).blk hcl (fun x => x)).cell 4).trans (show k.cs[4]? = some (.int .i64 k.nth) from rfl); rw [hn] at h4; (try simp only [List.getElem_toArray, List.getElem_cons_zero, List.getElem_cons_succ]); go_wp2_with (refine wpList_load_agg agCal rfl _ rfl rfl ((hu1.then hW).blk hpb fun x => x) hpl2 ?_; rw [hpart]); first | exact ⟨rfl, rfl⟩ | exact ⟨rfl, trivial⟩ | exact rfl)); (next => kernel_rfl))
    refine headS_nil ?_
    refine midG_cons rfl fun K hK => ?_
    go_wp2
    refine hK _ _ ((Upd.refl _ _).drew.alloc _) (headS_nil (midG_nil ?_))
    clear hK
    simp only [List.drop_succ_cons, List.drop_zero]
    refine wpList_store_agg agCal rfl _ _ rfl rfl rfl (Blk.drew (Blk.new w1 _ _)) rfl (Nat.le_refl _) (Cal.one _) ?_
    intro w2 hb2 hu2
    replace hb2 : Blk w2 w1.heap.size (ps[n]).cs 55 := hb2.cast rfl
    have hU2 : Upd Non w w2 := Upd.step (hu1.alloc _).drew hu2 fun x hx e => by have := hu1.size; omega
    have h2 := (h.blk_new hb2 hU2 hu1.size).to7
    have hcl2 := h2.blk
    have hk2 := (hcl2.cell 2).trans (show k.cs[2]? = some k.ov from rfl)
    have hk6 := (hcl2.cell 6).trans (show k.cs[6]? = some (.int .i64 k.wants) from rfl)
    have hkf := hcl2.frozen
    have hkl := hcl2.lt
    obtain ⟨oo2, ho2⟩ := h2.at6.slc
    obtain ⟨b', off', cap', hov, _, _, _, _, _⟩ := Slc.form ho2 (by omega)
    rw [hov] at hk2
    have hqn := eq_nil_op b' off' os.length cap'
    go_wp2
    have h3 : Run w0 F (w2.setCell ⟨cb, 6, none⟩ (.int .i64 (-1))) (clA cb { k with wants := -1 } :: gwA k.wb R :: calA k.pv ps :: evA R.ev evs :: locksA R.bl ks :: lineA R.lv R.line.line :: opA k.ov os :: Go.Fw.blk w1.heap.size (ps[n]).cs 55 :: L) := h2.set 6 (.int .i64 (-1))
    generalize hw3 : w2.setCell ⟨cb, 6, none⟩ (.int .i64 (-1)) = w3 at *
    clear hw3 hk2 hk6 hkf hkl hcl2 ho2 h2 hpart hpb hready hqn hb2
    have hcl3 := h3.blk
    obtain ⟨oo, D3⟩ := h3.at6.slc
    obtain ⟨b5, off5, cap5, arr5, hov5, hoo5, hb5, hl5, hpart5⟩ := Slc.part D3 hpl
    rw [opCells_part os p hpl, ho] at hpart5
    refine region3 (Upd Non _) [0, 1, 2, 3, 4, 5, 6, 7, 8, 9] [(10, [])] 11 follows (by kernel_rfl) (Upd.refl _ _).drew ?_
    repeat (apply headS_cons rfl; (next => (intro W hW; have h2 := ((hW.blk hcl3 (fun x => x)).cell 2).trans (show _ = some k.ov from rfl); rw [hov5] at h2; have h5 := ((hW.blk hcl3 (fun x => x)).cell 5).trans (show _ = some (.int .i64 k.pos) from rfl); rw [hp] at h5; (try simp only [List.getElem_toArray, List.getElem_cons_zero, List.getElem_cons_succ]); go_wp2_with (refine wpList_load_agg agOp rfl _ rfl rfl (hW.blk hb5 fun x => x) hl5 ?_; rw [hpart5]); first | exact ⟨rfl, rfl⟩ | exact ⟨rfl, trivial⟩ | exact rfl)); (next => kernel_rfl))
    refine headS_nil ?_
    refine midG_cons rfl fun K hK => ?_
    go_wp2
    refine hK _ _ ((Upd.refl _ _).drew.alloc _) (headS_nil (midG_nil ?_))
    clear hK
    simp only [List.drop_succ_cons, List.drop_zero]
    clear hpart5 hb5 hl5
    go_wp2_with (go_at_call 51; refine (cask_sl ((h3.alloc _).drew.sw) rfl hlen hrn _ i h0 h1 hm).mono ?_; rintro x w5 ⟨lv, rfl, h5⟩; have hc5 := (h5.blk.cell 5).trans (show _ = some (.int .i64 (asked { k with wants := -1 } i (askR (lkGet R ks i) k.task _).1).pos) from rfl); rw [asked_pos] at hc5; simp only [hp] at hc5; have hf5 := h5.blk.frozen; have hl5' := h5.blk.lt)
    refine bodyPost_end (results_none rfl _ _ _) rfl ⟨lv, rfl, ?_⟩
    exact (h5.set 5 (.int .i64 ((p : Int) + 1))).sw.drop7
end Go.Proofs.YtmlnjifiaddhjaaGreat
end
section
open Go Go.RowKit Go.Fw
namespace Go.Proofs.YtmlnjifiaddhjaaGreat
set_option maxRecDepth 100000

/-- Where a client stands behind 'skip'. -/
def SkipTo (os : List (Int × Int)) (line err : Int) (p q : Nat) : Prop :=
  (err = 0 ∧ q = p) ∨ (err ≠ 0 ∧ (∃ h : p + 1 < os.length, os[p + 1].2 ≠ line) ∧ q = p) ∨ (err ≠ 0 ∧ (∃ h : p + 4 < os.length, os[p + 1].2 = line ∧ os[p + 4].2 ≠ line) ∧ q = p + 3)

theorem skip_sl {w0 w : World} {F : Nat → Prop} {cb b : Nat} {k : Cl} {R : Raw} {os : List (Int × Int)} {L : List As} (h : Run w0 F w (clA cb k :: gwA b R :: opA k.ov os :: L)) (hwb : k.wb = b) (p q : Nat)
    (hp : k.pos = p) (hs : SkipTo os (R.c.st + 1) k.rep.err p q) (h0 : 0 ≤ R.c.st) (h1 : R.c.st ≤ 1000) (hlen : os.length ≤ 100000) :
    Calls Tryz.prog 54 #[.pointer (some ⟨cb, 0, none⟩)] w fun x w' => x = .returned (.tuple #[]) ∧ Run w0 F w' (clA cb { k with pos := (q : Int) } :: gwA b R :: opA k.ov os :: L) := by
  obtain ⟨oo, ho⟩ := h.at2.slc
  have hk : ∀ (k : Cl), k.pos = (p : Int) → { k with pos := (p : Int) } = k := fun k e => by cases k; simp only at e; subst e; rfl
  rcases hs with ⟨he, rfl⟩ | ⟨he, ⟨hl, hk1⟩, rfl⟩ | ⟨he, ⟨hl, hk1, hk2⟩, rfl⟩
  · exact (skip_ok cb k w h.blk he).mono fun x w' ⟨hx, hw⟩ => ⟨hx, by subst hw; rw [hk k hp]; exact h⟩
  · exact (skip_stop cb b k R os oo w q h.blk hwb h.at1.blk he ho hp hl hk1 h0 h1 hlen).mono fun x w' ⟨hx, hu⟩ => ⟨hx, by rw [hk k hp]; exact h.ro hu⟩
  · exact (skip_once h hwb p he hp hl hk1 hk2 h0 h1 hlen).mono fun x w' ⟨hx, hr⟩ => ⟨hx, hr⟩

set_option maxHeartbeats 2000000 in
theorem step_end_sl
    {w0 w : World} {F : Nat → Prop} {cb b : Nat} {k : Cl} {R : Raw} {ks : List Lk} {ps : List Cal} {evs : List Ev} {os : List (Int × Int)} {L : List As} {n p : Nat} (D : Doings k R ks ps os b n p)
        (h : Run w0 F w (clA cb k :: gwA b R :: calA k.pv ps :: evA R.ev evs :: locksA R.bl ks :: lineA R.lv R.line.line :: opA k.ov os :: L))
    (i : Int) (ho : os[p]'D.pl = (7, i)) (hm : evs.length ≤ 10000) (hpsl : ps.length ≤ 1000000) :
    Calls Tryz.prog 16 #[.pointer (some ⟨cb, 0, none⟩)] w fun x w' => ∃ ev, x = .returned (.tuple #[]) ∧
      Run w0 F w' (clA cb { ended { k with wants := -1 } n with pos := 0 } :: gwA b { R with ev := ev } :: calA k.pv ps :: evA ev (evs ++ [evOf 3 { k with wants := -1 } (ps[n]'D.nl)]) ::
        locksA R.bl ks :: lineA R.lv R.line.line :: opA (.slice none 0 0) [] :: L) := by
  obtain ⟨hwb, hlen, hrn, hn, hnl, hp, hpl, hr, hol⟩ := D
  subst hwb
  have hcl := h.blk
  have hready := ready_sl h rfl hlen hrn
  rw [hr] at hready
  obtain ⟨op, hps⟩ := h.at2.slc
  obtain ⟨pb, off, cap, arr, hpv, hop, hpb, hpl2, hpart⟩ := Slc.part hps hnl
  rw [calCells_part ps n hnl] at hpart
  go_enter Tryz.func16, Tryz.ntmps16
  go_wp2_with (go_at_call 18; refine hready.mono ?_; rintro x w1 ⟨rfl, hu1⟩)
  refine region3 (Upd Non _) [0, 1, 2, 3, 4, 5, 6, 7, 8, 9] [(10, [])] 11 follows (by kernel_rfl) (Upd.refl _ _).drew ?_
  repeat (apply headS_cons rfl; (next => (intro W hW; have h1 := (((hu1.then hW).blk hcl (fun x => x)).cell 1).trans (show k.cs[1]? = some k.pv from rfl); rw [hpv] at h1; have h4 := (((hu1.then hW).blk hcl (fun x => x)).cell 4).trans (show k.cs[4]? = some (.int .i64 k.nth) from rfl); rw [hn] at h4; (try simp only [List.getElem_toArray, List.getElem_cons_zero, List.getElem_cons_succ]); go_wp2_with (refine wpList_load_agg agCal rfl _ rfl rfl ((hu1.then hW).blk hpb fun x => x) hpl2 ?_; rw [hpart]); first | exact ⟨rfl, rfl⟩ | exact ⟨rfl, trivial⟩ | exact rfl)); (next => kernel_rfl))
  refine headS_nil ?_
  refine midG_cons rfl fun K hK => ?_
  go_wp2
  refine hK _ _ ((Upd.refl _ _).drew.alloc _) (headS_nil (midG_nil ?_))
  clear hK
  simp only [List.drop_succ_cons, List.drop_zero]
  refine wpList_store_agg agCal rfl _ _ rfl rfl rfl (Blk.drew (Blk.new w1 _ _)) rfl (Nat.le_refl _) (Cal.one _) ?_
  intro w2 hb2 hu2
  replace hb2 : Blk w2 w1.heap.size (ps[n]).cs 55 := hb2.cast rfl
  have hU2 : Upd Non w w2 := Upd.step (hu1.alloc _).drew hu2 fun x hx e => by have := hu1.size; omega
  have h2 := (h.blk_new hb2 hU2 hu1.size).to7
  have hcl2 := h2.blk
  have hk2 := (hcl2.cell 2).trans (show k.cs[2]? = some k.ov from rfl)
  have hk6 := (hcl2.cell 6).trans (show k.cs[6]? = some (.int .i64 k.wants) from rfl)
  have hkf := hcl2.frozen
  have hkl := hcl2.lt
  obtain ⟨oo2, ho2⟩ := h2.at6.slc
  obtain ⟨b', off', cap', hov, _, _, _, _, _⟩ := Slc.form ho2 (by omega)
  rw [hov] at hk2
  have hqn := eq_nil_op b' off' os.length cap'
  go_wp2
  have h3 : Run w0 F (w2.setCell ⟨cb, 6, none⟩ (.int .i64 (-1))) (clA cb { k with wants := -1 } :: gwA k.wb R :: calA k.pv ps :: evA R.ev evs :: locksA R.bl ks :: lineA R.lv R.line.line :: opA k.ov os :: Go.Fw.blk w1.heap.size (ps[n]).cs 55 :: L) := h2.set 6 (.int .i64 (-1))
  generalize hw3 : w2.setCell ⟨cb, 6, none⟩ (.int .i64 (-1)) = w3 at *
  clear hw3 hk2 hk6 hkf hkl hcl2 ho2 h2 hpart hpb hready hqn hb2
  have hcl3 := h3.blk
  obtain ⟨oo, D3⟩ := h3.at6.slc
  obtain ⟨b5, off5, cap5, arr5, hov5, hoo5, hb5, hl5, hpart5⟩ := Slc.part D3 hpl
  rw [opCells_part os p hpl, ho] at hpart5
  refine region3 (Upd Non _) [0, 1, 2, 3, 4, 5, 6, 7, 8, 9] [(10, [])] 11 follows (by kernel_rfl) (Upd.refl _ _).drew ?_
  repeat (apply headS_cons rfl; (next => (intro W hW; have h2 := ((hW.blk hcl3 (fun x => x)).cell 2).trans (show _ = some k.ov from rfl); rw [hov5] at h2; have h5 := ((hW.blk hcl3 (fun x => x)).cell 5).trans (show _ = some (.int .i64 k.pos) from rfl); rw [hp] at h5; (try simp only [List.getElem_toArray, List.getElem_cons_zero, List.getElem_cons_succ]); go_wp2_with (refine wpList_load_agg agOp rfl _ rfl rfl (hW.blk hb5 fun x => x) hl5 ?_; rw [hpart5]); first | exact ⟨rfl, rfl⟩ | exact ⟨rfl, trivial⟩ | exact rfl)); (next => kernel_rfl))
  refine headS_nil ?_
  refine midG_cons rfl fun K hK => ?_
  go_wp2
  refine hK _ _ ((Upd.refl _ _).drew.alloc _) (headS_nil (midG_nil ?_))
  clear hK
  simp only [List.drop_succ_cons, List.drop_zero]
  clear hpart5 hb5 hl5
  go_wp2_with (go_at_call 56; refine (end_sl n (h3.alloc _).drew rfl hn hnl hm hpsl (some ⟨b5, off5, none⟩) os.length cap5 hov5).mono ?_; rintro x w5 ⟨ev, rfl, h5⟩; have hc5 := (h5.blk.cell 5).trans (show _ = some (.int .i64 (-1)) from rfl); have hf5 := h5.blk.frozen; have hl5' := h5.blk.lt)
  refine bodyPost_end (results_none rfl _ _ _) rfl ⟨ev, rfl, ?_⟩
  exact ((h5.set 5 (.int .i64 0)).drop6.drop6.slc_nil _ _).to6

set_option maxHeartbeats 2000000 in
theorem step_drop_sl
    {w0 w : World} {F : Nat → Prop} {cb b : Nat} {k : Cl} {R : Raw} {ks : List Lk} {ps : List Cal} {evs : List Ev} {os : List (Int × Int)} {L : List As} {n p : Nat} (D : Doings k R ks ps os b n p)
        (h : Run w0 F w (clA cb k :: gwA b R :: calA k.pv ps :: evA R.ev evs :: locksA R.bl ks :: lineA R.lv R.line.line :: opA k.ov os :: L))
    (i : Int) (ho : os[p]'D.pl = (5, i)) (h0 : 0 ≤ i) (h1 : i < R.n + 1) (hm : (lkGet R ks i).line.length ≤ 1000) (hst0 : 0 ≤ R.c.st) (hst1 : R.c.st ≤ 1000) (q : Nat)
    (hq : (R.c.st ≤ i ∧ q = p) ∨ (i < R.c.st ∧ SkipTo os (R.c.st + 1) k.rep.err p q)) :
    Calls Tryz.prog 16 #[.pointer (some ⟨cb, 0, none⟩)] w fun x w' => ∃ lv, x = .returned (.tuple #[]) ∧
      Run w0 F w' (clA cb { k with wants := -1, pos := (q : Int) + 1 } :: gwA b (lkPut R ks i (dropR (lkGet R ks i) k.task).2 lv).1 :: calA k.pv ps :: evA R.ev evs ::
        locksA (lkPut R ks i (dropR (lkGet R ks i) k.task).2 lv).1.bl (lkPut R ks i (dropR (lkGet R ks i) k.task).2 lv).2 ::
        lineA (lkPut R ks i (dropR (lkGet R ks i) k.task).2 lv).1.lv (lkPut R ks i (dropR (lkGet R ks i) k.task).2 lv).1.line.line :: opA k.ov os :: L) := by
  have hq' := Go.Fw.hid hq
  have hdec : decide (i < R.c.st) = decide (i < R.c.st) := rfl
  obtain ⟨hwb, hlen, hrn, hn, hnl, hp, hpl, hr, hol⟩ := D
  subst hwb
  have hcl := h.blk
  have hready := ready_sl h rfl hlen hrn
  rw [hr] at hready
  obtain ⟨op, hps⟩ := h.at2.slc
  obtain ⟨pb, off, cap, arr, hpv, hop, hpb, hpl2, hpart⟩ := Slc.part hps hnl
  rw [calCells_part ps n hnl] at hpart
  go_enter Tryz.func16, Tryz.ntmps16
  go_wp2_with (go_at_call 18; refine hready.mono ?_; rintro x w1 ⟨rfl, hu1⟩)
  refine region3 (Upd Non _) [0, 1, 2, 3, 4, 5, 6, 7, 8, 9] [(10, [])] 11 follows (by kernel_rfl) (Upd.refl _ _).drew ?_
  repeat (apply headS_cons rfl; (next => (intro W hW; have h1 := (((hu1.then hW).blk hcl (fun x => x)).cell 1).trans (show k.cs[1]? = some k.pv from rfl); rw [hpv] at h1; have h4 := (((hu1.then hW).blk hcl (fun x => x)).cell 4).trans (show k.cs[4]? = some (.int .i64 k.nth) from rfl); rw [hn] at h4; (try simp only [List.getElem_toArray, List.getElem_cons_zero, List.getElem_cons_succ]); go_wp2_with (refine wpList_load_agg agCal rfl _ rfl rfl ((hu1.then hW).blk hpb fun x => x) hpl2 ?_; rw [hpart]); first | exact ⟨rfl, rfl⟩ | exact ⟨rfl, trivial⟩ | exact rfl)); (next => kernel_rfl))
  refine headS_nil ?_
  refine midG_cons rfl fun K hK => ?_
  go_wp2
  refine hK _ _ ((Upd.refl _ _).drew.alloc _) (headS_nil (midG_nil ?_))
  clear hK
  simp only [List.drop_succ_cons, List.drop_zero]
  refine wpList_store_agg agCal rfl _ _ rfl rfl rfl (Blk.drew (Blk.new w1 _ _)) rfl (Nat.le_refl _) (Cal.one _) ?_
  intro w2 hb2 hu2
  replace hb2 : Blk w2 w1.heap.size (ps[n]).cs 55 := hb2.cast rfl
  have hU2 : Upd Non w w2 := Upd.step (hu1.alloc _).drew hu2 fun x hx e => by have := hu1.size; omega
  have h2 := (h.blk_new hb2 hU2 hu1.size).to7
  have hcl2 := h2.blk
  have hk2 := (hcl2.cell 2).trans (show k.cs[2]? = some k.ov from rfl)
  have hk6 := (hcl2.cell 6).trans (show k.cs[6]? = some (.int .i64 k.wants) from rfl)
  have hkf := hcl2.frozen
  have hkl := hcl2.lt
  obtain ⟨oo2, ho2⟩ := h2.at6.slc
  obtain ⟨b', off', cap', hov, _, _, _, _, _⟩ := Slc.form ho2 (by omega)
  rw [hov] at hk2
  have hqn := eq_nil_op b' off' os.length cap'
  go_wp2
  have h3 : Run w0 F (w2.setCell ⟨cb, 6, none⟩ (.int .i64 (-1))) (clA cb { k with wants := -1 } :: gwA k.wb R :: calA k.pv ps :: evA R.ev evs :: locksA R.bl ks :: lineA R.lv R.line.line :: opA k.ov os :: Go.Fw.blk w1.heap.size (ps[n]).cs 55 :: L) := h2.set 6 (.int .i64 (-1))
  generalize hw3 : w2.setCell ⟨cb, 6, none⟩ (.int .i64 (-1)) = w3 at *
  clear hw3 hk2 hk6 hkf hkl hcl2 ho2 h2 hpart hpb hready hqn hb2
  have hcl3 := h3.blk
  obtain ⟨oo, D3⟩ := h3.at6.slc
  obtain ⟨b5, off5, cap5, arr5, hov5, hoo5, hb5, hl5, hpart5⟩ := Slc.part D3 hpl
  rw [opCells_part os p hpl, ho] at hpart5
  refine region3 (Upd Non _) [0, 1, 2, 3, 4, 5, 6, 7, 8, 9] [(10, [])] 11 follows (by kernel_rfl) (Upd.refl _ _).drew ?_
  repeat (apply headS_cons rfl; (next => (intro W hW; have h2 := ((hW.blk hcl3 (fun x => x)).cell 2).trans (show _ = some k.ov from rfl); rw [hov5] at h2; have h5 := ((hW.blk hcl3 (fun x => x)).cell 5).trans (show _ = some (.int .i64 k.pos) from rfl); rw [hp] at h5; (try simp only [List.getElem_toArray, List.getElem_cons_zero, List.getElem_cons_succ]); go_wp2_with (refine wpList_load_agg agOp rfl _ rfl rfl (hW.blk hb5 fun x => x) hl5 ?_; rw [hpart5]); first | exact ⟨rfl, rfl⟩ | exact ⟨rfl, trivial⟩ | exact rfl)); (next => kernel_rfl))
  refine headS_nil ?_
  refine midG_cons rfl fun K hK => ?_
  go_wp2
  refine hK _ _ ((Upd.refl _ _).drew.alloc _) (headS_nil (midG_nil ?_))
  clear hK
  simp only [List.drop_succ_cons, List.drop_zero]
  clear hpart5 hb5 hl5
  have h3b := (h3.sw.box #[.int .i64 5, .int .i64 i] 137).drew.drew.to4.to4
  have hc30 := (hcl3.cell 0).trans (show _ = some (.pointer (some ⟨k.wb, 0, none⟩)) from rfl)
  have hc33 := (hcl3.cell 3).trans (show _ = some (.int .i64 k.task) from rfl)
  have hlt3 := hcl3.lt
  have hdrop := gdrop_sl h3b hlen hrn i k.task h0 h1 hm
  go_wp2
  refine region0 [0, 1, 2, 3, 4, 5, 6, 7, 8, 9] 10 follows (by kernel_rfl) ?_
  repeat (apply head0_cons rfl; (next => ((try simp only [List.getElem_toArray, List.getElem_cons_zero, List.getElem_cons_succ]); go_wp2; first | exact ⟨rfl, rfl⟩ | exact ⟨rfl, trivial⟩ | exact rfl)); (next => kernel_rfl))
  refine head0_nil ?_; simp only [List.drop_succ_cons, List.drop_zero]
  go_wp2_with (go_at_call 23; refine hdrop.mono ?_; rintro x w5 ⟨lv, rfl, h5⟩)
  have hput := lkPut_fst R ks i (dropR (lkGet R ks i) k.task).2 lv
  generalize hR' : (lkPut R ks i (dropR (lkGet R ks i) k.task).2 lv).1 = R' at *
  generalize hks' : (lkPut R ks i (dropR (lkGet R ks i) k.task).2 lv).2 = ks' at *
  have hcst : R'.c.st = R.c.st := by rw [hput.2.1]
  have hcl5 := h5.at4.blk
  have htx5 := h5.at3.blk
  have hgw5 : GwAt w5 k.wb R' := h5.blk
  have hconf := fun W (hu : Upd Non w5 W) => config_calls k.wb R' W (hgw5.upd hu fun x => x)
  have hcuts := fun W => cuts_calls R.c W
  refine region3 (Upd Non _) [0, 1, 2, 3, 4, 5] [(6, []), (7, [])] 8 follows (by kernel_rfl) (Upd.refl _ _).drew ?_
  repeat (apply headS_cons rfl; (next => (intro W hW; have ht := ((hW.blk htx5 fun x => x)).cell; have hk0 := ((hW.blk hcl5 (fun x => x)).cell 0).trans (show _ = some (.pointer (some ⟨k.wb, 0, none⟩)) from rfl); (try simp only [List.getElem_toArray, List.getElem_cons_zero, List.getElem_cons_succ]); go_wp2; first | exact ⟨rfl, rfl⟩ | exact ⟨rfl, trivial⟩ | exact rfl)); (next => kernel_rfl))
  refine headS_nil ?_
  refine midG_cons rfl fun K hK => ?_
  go_wp2_with (go_at_call 49; refine (hconf _ (Upd.refl _ _).drew).mono ?_; rintro x w6 ⟨rfl, hu6⟩)
  refine hK _ _ ((Upd.refl _ _).drew.then hu6) (headS_nil ?_)
  clear hK
  refine midG_cons rfl fun K hK => ?_
  go_wp2_with (go_at_call 53; refine (hcuts _).mono ?_; rintro x w7 ⟨rfl, rfl⟩)
  refine hK _ _ (((Upd.refl _ _).drew.then hu6).alloc _) (headS_nil (midG_nil ?_))
  clear hK
  simp only [List.drop_succ_cons, List.drop_zero]
  have hu7 : Upd Non w5 (w6.alloc (.cells R.c.cs 23)) := ((Upd.refl Non w5).drew.then hu6).alloc _
  have h7 := ((h5.ro hu7).at4.drop4.at6.to2)
  have hfin : ∀ (W : World) (q : Nat), Run w0 F W (clA cb { k with wants := -1, pos := (q : Int) } :: gwA k.wb R' :: opA k.ov os :: locksA R'.bl ks' :: lineA R'.lv R'.line.line :: calA k.pv ps :: evA R.ev evs :: Go.Fw.blk w1.heap.size (ps[n]).cs 55 :: L) →
      Run w0 F (W.setCell ⟨cb, 5, none⟩ (.int .i64 ((q : Int) + 1))) (clA cb { k with wants := -1, pos := (q : Int) + 1 } :: gwA k.wb R' :: calA k.pv ps :: evA R.ev evs :: locksA R'.bl ks' :: lineA R'.lv R'.line.line :: opA k.ov os :: L) := fun W q hW => by
    have h8 : Run w0 F (W.setCell ⟨cb, 5, none⟩ (.int .i64 ((q : Int) + 1))) (clA cb { k with wants := -1, pos := (q : Int) + 1 } :: _) := hW.set 5 (.int .i64 ((q : Int) + 1))
    exact (h8.drop7.at2.to6).sw
  have hfin' := Go.Fw.hid hfin
  clear hfin
  obtain ⟨hge, rfl⟩ | ⟨hlt, hsk⟩ := hq'.out
  · have hni : ¬ i < R.c.st := by omega
    have hk75 := ((hu7.blk hcl5 fun x => x).cell 5).trans (show _ = some (.int .i64 k.pos) from rfl)
    rw [hp] at hk75
    have hf7 := (hu7.blk hcl5 fun x => x).frozen
    have hl7 := (hu7.blk hcl5 fun x => x).lt
    have hkeq : ({ k with wants := -1 } : Cl) = { k with wants := -1, pos := (q : Int) } := by rw [← hp]
    rw [hkeq] at h7
    have h8 := Go.Fw.hid (hfin'.out _ _ h7)
    clear h7 hge hkeq hpv hov hov5 ho hn
    go_wp2
    have hpost := h8.out
    clear h8
    subst hR' hks'
    first
      | exact bodyPost_end (results_none rfl _ _ _) rfl ⟨lv, rfl, hpost⟩
      | exact bodyPost_end (results_none rfl _ _ _) rfl ⟨rfl, lv, hpost⟩
  · have hskip := skip_sl h7 rfl p q hp (by rw [hcst]; exact hsk) (by omega) (by omega) hol
    have hq5 : (q : Int) ≤ 200000 := by
      rcases hsk with ⟨_, e⟩ | ⟨_, ⟨e1, _⟩, e⟩ | ⟨_, ⟨e1, _⟩, e⟩ <;> omega
    clear h7 hsk
    go_wp2_with (go_at_call 54; refine hskip.mono ?_; rintro x w8 ⟨rfl, h8⟩; have hc8 := h8.blk; have hk75 := (hc8.cell 5).trans (show _ = some (.int .i64 (q : Int)) from rfl); have hf8 := hc8.frozen; have hl8 := hc8.lt)
    have hpost := hfin'.out _ _ h8
    subst hR' hks'
    first
      | exact bodyPost_end (results_none rfl _ _ _) rfl ⟨lv, rfl, hpost⟩
      | exact bodyPost_end (results_none rfl _ _ _) rfl ⟨rfl, lv, hpost⟩
end Go.Proofs.YtmlnjifiaddhjaaGreat
end
section
open Go Go.RowKit Go.Fw
namespace Go.Proofs.YtmlnjifiaddhjaaGreat
set_option maxRecDepth 100000

set_option maxHeartbeats 2000000 in
theorem step_do_sl (P : Rep → Raw → List Lk → List As → Prop)
    {w0 w : World} {F : Nat → Prop} {cb b : Nat} {k : Cl} {R : Raw} {ks : List Lk} {ps : List Cal} {evs : List Ev} {os : List (Int × Int)} {L : List As} {n p : Nat} (D : Doings k R ks ps os b n p)
        (h : Run w0 F w (clA cb k :: gwA b R :: calA k.pv ps :: evA R.ev evs :: locksA R.bl ks :: lineA R.lv R.line.line :: opA k.ov os :: L))
    (i : Int) (ho : os[p]'D.pl = (4, i)) (hm : evs.length ≤ 10000)
    (hdo : ∀ (W : World) (E : List As), Run w0 F W (gwA b R :: locksA R.bl ks :: lineA R.lv R.line.line :: (L ++ E)) → Calls Tryz.prog 42 #[.pointer (some ⟨b, 0, none⟩), .agg (ps[n]'D.nl).cs] W fun x W' => ∃ rep R' ks' L',
      x = .returned (.agg rep.cs) ∧ R'.ev = R.ev ∧ P rep R' ks' L' ∧ Run w0 F W' (gwA b R' :: locksA R'.bl ks' :: lineA R'.lv R'.line.line :: (L' ++ E))) :
    Calls Tryz.prog 16 #[.pointer (some ⟨cb, 0, none⟩)] w fun x w' => ∃ rep R' ks' L' ev, x = .returned (.tuple #[]) ∧ P rep R' ks' L' ∧
      Run w0 F w' (clA cb { k with wants := -1, rep := rep, pos := (p : Int) + 1 } :: gwA b { R' with ev := ev } :: calA k.pv ps :: evA ev (evs ++ [evOf 2 { k with wants := -1, rep := rep } (ps[n]'D.nl)]) ::
        locksA R'.bl ks' :: lineA R'.lv R'.line.line :: opA k.ov os :: L') := by
  replace hdo := Go.Fw.hid hdo
  obtain ⟨hwb, hlen, hrn, hn, hnl, hp, hpl, hr, hol⟩ := D
  subst hwb
  have hcl := h.blk
  have hready := ready_sl h rfl hlen hrn
  rw [hr] at hready
  obtain ⟨op, hps⟩ := h.at2.slc
  obtain ⟨pb, off, cap, arr, hpv, hop, hpb, hpl2, hpart⟩ := Slc.part hps hnl
  rw [calCells_part ps n hnl] at hpart
  go_enter Tryz.func16, Tryz.ntmps16
  go_wp2_with (go_at_call 18; refine hready.mono ?_; rintro x w1 ⟨rfl, hu1⟩)
  refine region3 (Upd Non _) [0, 1, 2, 3, 4, 5, 6, 7, 8, 9] [(10, [])] 11 follows (by kernel_rfl) (Upd.refl _ _).drew ?_
  repeat (apply headS_cons rfl; (next => (intro W hW; have h1 := (((hu1.then hW).blk hcl (fun x => x)).cell 1).trans (show k.cs[1]? = some k.pv from rfl); rw [hpv] at h1; have h4 := (((hu1.then hW).blk hcl (fun x => x)).cell 4).trans (show k.cs[4]? = some (.int .i64 k.nth) from rfl); rw [hn] at h4; (try simp only [List.getElem_toArray, List.getElem_cons_zero, List.getElem_cons_succ]); go_wp2_with (refine wpList_load_agg agCal rfl _ rfl rfl ((hu1.then hW).blk hpb fun x => x) hpl2 ?_; rw [hpart]); first | exact ⟨rfl, rfl⟩ | exact ⟨rfl, trivial⟩ | exact rfl)); (next => kernel_rfl))
  refine headS_nil ?_
  refine midG_cons rfl fun K hK => ?_
  go_wp2
  refine hK _ _ ((Upd.refl _ _).drew.alloc _) (headS_nil (midG_nil ?_))
  clear hK
  simp only [List.drop_succ_cons, List.drop_zero]
  refine wpList_store_agg agCal rfl _ _ rfl rfl rfl (Blk.drew (Blk.new w1 _ _)) rfl (Nat.le_refl _) (Cal.one _) ?_
  intro w2 hb2 hu2
  replace hb2 : Blk w2 w1.heap.size (ps[n]).cs 55 := hb2.cast rfl
  have hU2 : Upd Non w w2 := Upd.step (hu1.alloc _).drew hu2 fun x hx e => by have := hu1.size; omega
  have h2 := (h.blk_new hb2 hU2 hu1.size).to7
  have hcl2 := h2.blk
  have hk2 := (hcl2.cell 2).trans (show k.cs[2]? = some k.ov from rfl)
  have hk6 := (hcl2.cell 6).trans (show k.cs[6]? = some (.int .i64 k.wants) from rfl)
  have hkf := hcl2.frozen
  have hkl := hcl2.lt
  obtain ⟨oo2, ho2⟩ := h2.at6.slc
  obtain ⟨b', off', cap', hov, _, _, _, _, _⟩ := Slc.form ho2 (by omega)
  rw [hov] at hk2
  have hqn := eq_nil_op b' off' os.length cap'
  go_wp2
  have h3 : Run w0 F (w2.setCell ⟨cb, 6, none⟩ (.int .i64 (-1))) (clA cb { k with wants := -1 } :: gwA k.wb R :: calA k.pv ps :: evA R.ev evs :: locksA R.bl ks :: lineA R.lv R.line.line :: opA k.ov os :: Go.Fw.blk w1.heap.size (ps[n]).cs 55 :: L) := h2.set 6 (.int .i64 (-1))
  generalize hw3 : w2.setCell ⟨cb, 6, none⟩ (.int .i64 (-1)) = w3 at *
  clear hw3 hk2 hk6 hkf hkl hcl2 ho2 h2 hpart hpb hready hqn hb2
  have hcl3 := h3.blk
  obtain ⟨oo, D3⟩ := h3.at6.slc
  obtain ⟨b5, off5, cap5, arr5, hov5, hoo5, hb5, hl5, hpart5⟩ := Slc.part D3 hpl
  rw [opCells_part os p hpl, ho] at hpart5
  refine region3 (Upd Non _) [0, 1, 2, 3, 4, 5, 6, 7, 8, 9] [(10, [])] 11 follows (by kernel_rfl) (Upd.refl _ _).drew ?_
  repeat (apply headS_cons rfl; (next => (intro W hW; have h2 := ((hW.blk hcl3 (fun x => x)).cell 2).trans (show _ = some k.ov from rfl); rw [hov5] at h2; have h5 := ((hW.blk hcl3 (fun x => x)).cell 5).trans (show _ = some (.int .i64 k.pos) from rfl); rw [hp] at h5; (try simp only [List.getElem_toArray, List.getElem_cons_zero, List.getElem_cons_succ]); go_wp2_with (refine wpList_load_agg agOp rfl _ rfl rfl (hW.blk hb5 fun x => x) hl5 ?_; rw [hpart5]); first | exact ⟨rfl, rfl⟩ | exact ⟨rfl, trivial⟩ | exact rfl)); (next => kernel_rfl))
  refine headS_nil ?_
  refine midG_cons rfl fun K hK => ?_
  go_wp2
  refine hK _ _ ((Upd.refl _ _).drew.alloc _) (headS_nil (midG_nil ?_))
  clear hK
  simp only [List.drop_succ_cons, List.drop_zero]
  clear hpart5 hb5 hl5
  have hc30 := fun W (hW : Upd Non w3 W) => ((hW.blk hcl3 fun x => x).cell 0).trans (show _ = some (.pointer (some ⟨k.wb, 0, none⟩)) from rfl)
  have hbx3 := h3.at7.blk
  have hlt3 := hcl3.lt
  have h3d := Run.rot (L1 := [clA cb { k with wants := -1 }, calA k.pv ps, evA R.ev evs, opA k.ov os, Go.Fw.blk w1.heap.size (ps[n]).cs 55]) ((h3.sw.alloc (.cells #[.int .i64 4, .int .i64 i] 137)).drew.drew).to3
  have hdo3 := hdo.out _ _ h3d
  go_wp2
  refine region3 (fun W => Blk W cb ({ k with wants := -1 } : Cl).cs 133 ∧ Blk W w1.heap.size (ps[n]).cs 55) [0, 1, 2, 3, 4, 5] [(6, [])] 7 follows (by kernel_rfl) ⟨(hcl3.alloc _).drew.drew, (hbx3.alloc _).drew.drew⟩ ?_
  repeat (apply headS_cons rfl; (next => (rintro W ⟨hW1, hW2⟩; have hc30' := (hW1.cell 0).trans (show _ = some (.pointer (some ⟨k.wb, 0, none⟩)) from rfl); (try simp only [List.getElem_toArray, List.getElem_cons_zero, List.getElem_cons_succ]); go_wp2_with (refine wpList_load_agg agCal rfl _ rfl rfl hW2 (Nat.le_refl 11) ?_; rw [show Go.Fw.part (ps[n]).cs 0 11 = (ps[n]).cs from rfl]); first | exact ⟨rfl, rfl⟩ | exact ⟨rfl, trivial⟩ | exact rfl)); (next => kernel_rfl))
  refine headS_nil ?_
  refine midG_cons rfl fun K hK => ?_
  go_wp2_with (go_at_call 42; refine hdo3.mono ?_; rintro x w5 ⟨rep, R', ks', L', rfl, hRe, hP, h5⟩)
  have h5r := Run.rot h5
  have hcl5 := h5r.at3.blk
  have hbx5 := h5r.at7.blk
  refine hK _ _ ⟨hcl5, hbx5⟩ (headS_nil (midG_nil ?_))
  clear hK
  simp only [List.drop_succ_cons, List.drop_zero]
  have h6 := h5r.at3
  clear hdo3 h3d h5 h5r hbx5
  replace hP := Go.Fw.hid hP
  replace hRe := Go.Fw.hid hRe
  go_wp2_with (first | (refine wpList_store_agg agRep rfl _ _ rfl rfl rfl hcl5 rfl (show 7 + 13 ≤ _ from Nat.le_refl 20) (Rep.one _) ?_; intro w6 hb6 hu6; have h7 : Run w0 F w6 (clA cb { k with wants := -1, rep := rep } :: _) := h6.blk_did (hb6.cast (put_clrep _ _)) hu6; have h8 := h7.sw; rw [← hRe.out] at h8) | (go_at_call 52; refine (event_sl 2 (.inr (.inl rfl)) n h8 rfl hn hnl (by omega)).mono ?_; rintro x w9 ⟨ev, rfl, h9⟩; have hc9 := (h9.blk.cell 5).trans (show _ = some (.int .i64 k.pos) from rfl); rw [hp] at hc9; have hf9 := h9.blk.frozen; have hl9 := h9.blk.lt))
  have h10 : Run w0 F _ (clA cb { k with wants := -1, rep := rep, pos := (p : Int) + 1 } :: _) := (h9.set 5 (.int .i64 ((p : Int) + 1))).drop7
  exact bodyPost_end (results_none rfl _ _ _) rfl ⟨rep, R', ks', L', ev, rfl, hP.out, h10⟩
end Go.Proofs.YtmlnjifiaddhjaaGreat
end
section
open Go Go.RowKit Go.Fw
namespace Go.Proofs.YtmlnjifiaddhjaaGreat
set_option maxRecDepth 100000

set_option maxHeartbeats 400000 in
theorem gkey_calls (s : ByteArray) (w : World) (hm : s.size ≤ maxLen) (hb : idOk s = true) :
    Calls Tryz.prog 55 #[.string s] w fun e w' => e = .returned (.agg #[.int .u64 (keyOf s).1, .int .u64 (keyOf s).2]) ∧ Upd Non w w' := by
  have hpack := fun W => pack_yes s W hm hb
  go_enter Tryz.func55, Tryz.ntmps55
  go_wp2_with (go_at_call 86; refine (hpack _).mono ?_; rintro e w1 ⟨rfl, hw1⟩; have hb1 := hw1.blk (Blk.new _ _ _) (fun x => x); have hc1 := fun o => (hb1.alloc o).cell; have hc2 := hb1.cell; have hf2 := hb1.frozen; have hl2 := hb1.lt)
  refine bodyPost_ret (results_agg agKey rfl _ _ _ _ _ rfl ((((hb1.set 0 (.int .u64 (keyOf s).1)).set 1 (.int .u64 (keyOf s).2)).alloc _).cast rfl) rfl) rfl ⟨rfl, ?_⟩
  exact (((((Upd.refl _ _).alloc _).then hw1).setCell (.inl (Nat.le_refl _)) _).setCell (.inl (Nat.le_refl _)) _).alloc _

set_option maxHeartbeats 2000000 in
theorem step_begin_sl {w0 w : World} {F : Nat → Prop} {cb b : Nat} {k : Cl} {R : Raw} {ks : List Lk} {ps : List Cal} {evs : List Ev} {L : List As} {n : Nat}
    (hwb : k.wb = b) (hlen : ks.length = R.n) (hrn : R.n ≤ 2000) (hn : k.nth = n) (hnl : n < ps.length) (hr : readyV k R ks ps.length = true)
    (h : Run w0 F w (clA cb k :: gwA b R :: calA k.pv ps :: evA R.ev evs :: locksA R.bl ks :: lineA R.lv R.line.line :: L)) (hov : k.ov = .slice none 0 0)
    (hm : evs.length ≤ 10000) (hids : (ps[n]).id.size ≤ maxLen) (hwf : R.c.wf) (hok : R.c.ok = true) (hst1 : R.c.st ≤ 1000) (hin : (ps[n]).err = 0 → InnerOk R.c ps[n]) :
    Calls Tryz.prog 16 #[.pointer (some ⟨cb, 0, none⟩)] w fun x w' => ∃ ev ov, x = .returned (.tuple #[]) ∧
      Run w0 F w' (clA cb { begun { k with ov := ov, wants := -1 } ps[n] with pos := 1 } :: gwA b { R with ev := ev } :: calA k.pv ps :: evA ev (evs ++ begunE { k with ov := ov, wants := -1 } ps[n]) ::
        locksA R.bl ks :: lineA R.lv R.line.line :: opA ov (opsL R.c ps[n]) :: L) := by
  have hops := fun W => ops_calls R.c ps[n] W hwf hok hst1 hids hin
  have hlen1 := innerL_len R.c ps[n] hst1
  have hol : 0 < (opsL R.c ps[n]).length ∧ (opsL R.c ps[n]).length ≤ 2200 := by
    unfold opsL; simp only [List.length_append, List.length_cons, List.length_nil]; split <;> simp <;> omega
  have ho0 : (opsL R.c ps[n])[0]'hol.1 = (1, 0) := rfl
  clear hlen1
  generalize opsL R.c ps[n] = os at *
  obtain ⟨hol, hol2⟩ := hol
  subst hwb
  have hcl := h.blk
  have hready := ready_sl h rfl hlen hrn
  rw [hr] at hready
  obtain ⟨op, hps⟩ := h.at2.slc
  obtain ⟨pb, off, cap, arr, hpv, hop, hpb, hpl2, hpart⟩ := Slc.part hps hnl
  rw [calCells_part ps n hnl] at hpart
  go_enter Tryz.func16, Tryz.ntmps16
  go_wp2_with (go_at_call 18; refine hready.mono ?_; rintro x w1 ⟨rfl, hu1⟩)
  refine region3 (Upd Non _) [0, 1, 2, 3, 4, 5, 6, 7, 8, 9] [(10, [])] 11 follows (by kernel_rfl) (Upd.refl _ _).drew ?_
  repeat (apply headS_cons rfl; (next => (intro W hW; have h1 := (((hu1.then hW).blk hcl (fun x => x)).cell 1).trans (show k.cs[1]? = some k.pv from rfl); rw [hpv] at h1; have h4 := (((hu1.then hW).blk hcl (fun x => x)).cell 4).trans (show k.cs[4]? = some (.int .i64 k.nth) from rfl); rw [hn] at h4; (try simp only [List.getElem_toArray, List.getElem_cons_zero, List.getElem_cons_succ]); go_wp2_with (refine wpList_load_agg agCal rfl _ rfl rfl ((hu1.then hW).blk hpb fun x => x) hpl2 ?_; rw [hpart]); first | exact ⟨rfl, rfl⟩ | exact ⟨rfl, trivial⟩ | exact rfl)); (next => kernel_rfl))
  refine headS_nil ?_
  refine midG_cons rfl fun K hK => ?_
  go_wp2
  refine hK _ _ ((Upd.refl _ _).drew.alloc _) (headS_nil (midG_nil ?_))
  clear hK
  simp only [List.drop_succ_cons, List.drop_zero]
  refine wpList_store_agg agCal rfl _ _ rfl rfl rfl (Blk.drew (Blk.new w1 _ _)) rfl (Nat.le_refl _) (Cal.one _) ?_
  intro w2 hb2 hu2
  replace hb2 : Blk w2 w1.heap.size (ps[n]).cs 55 := hb2.cast rfl
  have hU2 : Upd Non w w2 := Upd.step (hu1.alloc _).drew hu2 fun x hx e => by have := hu1.size; omega
  have h2 := (h.blk_new hb2 hU2 hu1.size).to6
  have hcl2 := h2.blk
  have hk2 := (hcl2.cell 2).trans (show k.cs[2]? = some k.ov from rfl)
  rw [hov] at hk2
  have hkf := hcl2.frozen
  have hkl := hcl2.lt
  have hqn := eq_nil_op0
  have hgw2 : GwAt w2 k.wb R := h2.at1.blk
  have hconf := fun W (hu : Upd Non w2 W) => config_calls k.wb R W (hgw2.upd hu fun x => x)
  clear hready hpart hpb
  go_wp2
  refine region3 (fun W => W.cell? ⟨cb, 0, none⟩ = some (.pointer (some ⟨k.wb, 0, none⟩)) ∧ Blk W w1.heap.size (ps[n]).cs 55) [0, 1, 2, 3, 4, 5, 7] [(6, []), (8, [9, 10]), (11, [])] 12 follows (by kernel_rfl) ⟨hcl2.cell 0, hb2.drew⟩ ?_
  repeat (apply headS_cons rfl; (next => (rintro W ⟨hk0, hW2⟩; (try simp only [List.getElem_toArray, List.getElem_cons_zero, List.getElem_cons_succ]); go_wp2_with (refine wpList_load_agg agCal rfl _ rfl rfl hW2 (Nat.le_refl 11) ?_; rw [show Go.Fw.part (ps[n]).cs 0 11 = (ps[n]).cs from rfl]); first | exact ⟨rfl, rfl⟩ | exact ⟨rfl, trivial⟩ | exact rfl)); (next => kernel_rfl))
  refine headS_nil ?_
  refine midG_cons rfl fun K hK => ?_
  go_wp2_with (go_at_call 49; refine (hconf _ (Upd.refl _ _).drew).mono ?_; rintro x w3 ⟨rfl, hu3⟩)
  have hu23 : Upd Non w2 w3 := (Upd.refl _ _).drew.then hu3
  have hcl3 := hu23.blk hcl2 fun x => x
  refine hK _ _ ⟨hcl3.cell 0, hu23.blk hb2 fun x => x⟩ (headS_nil ?_)
  clear hK
  refine midG_cons rfl fun K hK => ?_
  go_wp2_with (go_at_call 48; refine (hops _).mono ?_; rintro x w4 ⟨ov, oo, rfl, ho4, hf4, hu4⟩)
  obtain ⟨a4, c4, rfl, hq1, hq2, hq3⟩ := Slc.val ho4
  clear hq1 hq2 hq3
  have hu24 : Upd Non w2 w4 := hu23.then hu4
  have hcl4 := hu24.blk hcl2 fun x => x
  have hb4 := hu24.blk hb2 fun x => x
  have h4 := ((h2.ro hu23).slc_new ho4 hu4 hf4).to6
  refine hK _ _ ⟨hcl4.cell 0, hb4⟩ ?_
  clear hK
  repeat (apply headS_cons rfl; (next => (rintro W ⟨hk0, hW2⟩; (try simp only [List.getElem_toArray, List.getElem_cons_zero, List.getElem_cons_succ]); go_wp2; first | exact ⟨rfl, rfl⟩ | exact ⟨rfl, trivial⟩ | exact rfl)); (next => kernel_rfl))
  refine headS_nil ?_
  have hk42 := (hcl4.cell 2).trans (show k.cs[2]? = some k.ov from rfl)
  have hkf4 := hcl4.frozen
  have hkl4 := hcl4.lt
  refine midG_cons rfl fun K hK => ?_
  go_wp2
  have h5 : Run w0 F (w4.setCell ⟨cb, 2, none⟩ (.slice a4 os.length c4)) (clA cb { k with ov := .slice a4 os.length c4 } :: _) := h4.set 2 _
  have hcl5 := h5.blk
  refine hK _ _ ⟨hcl5.cell 0, h5.at7.blk⟩ (headS_nil (midG_nil ?_))
  clear hK
  simp only [List.drop_succ_cons, List.drop_zero]
  have hk55 := (hcl5.cell 5).trans (show _ = some (.int .i64 k.pos) from rfl)
  have hk56 := (hcl5.cell 6).trans (show _ = some (.int .i64 k.wants) from rfl)
  have hkf5 := hcl5.frozen
  have hkl5 := hcl5.lt
  clear hk42 hkf4 hkl4 hk2 hkf hkl hcl4 hcl3 hcl2 hb2 hb4 h4 h2 hqn hconf hops
  generalize hw5 : w4.setCell ⟨cb, 2, none⟩ (.slice a4 os.length c4) = w5 at *
  clear hw5
  go_wp2
  have h6 : Run w0 F ((w5.setCell ⟨cb, 5, none⟩ (.int .i64 0)).setCell ⟨cb, 6, none⟩ (.int .i64 (-1))) (clA cb { k with ov := .slice a4 os.length c4, wants := -1, pos := 0 } :: gwA k.wb R :: calA k.pv ps :: evA R.ev evs :: locksA R.bl ks :: lineA R.lv R.line.line :: opA (.slice a4 os.length c4) os :: Go.Fw.blk w1.heap.size (ps[n]).cs 55 :: L) := (h5.set 5 (.int .i64 0)).set 6 (.int .i64 (-1))
  generalize hw6 : (w5.setCell ⟨cb, 5, none⟩ (.int .i64 0)).setCell ⟨cb, 6, none⟩ (.int .i64 (-1)) = w6 at *
  clear hw6 hk55 hk56 hkf5 hkl5 hcl5 h5
  have hcl6 := h6.blk
  obtain ⟨oo6, D6⟩ := h6.at6.slc
  obtain ⟨b7, off7, cap7, arr7, hov7, hoo7, hb7, hl7, hpart7⟩ := Slc.part D6 hol
  rw [opCells_part _ 0 hol, ho0] at hpart7
  simp only [Nat.zero_mul, Nat.add_zero] at hl7 hpart7
  injection hov7 with e1 e2 e3
  subst e1; clear e2; subst e3
  refine region3 (Upd Non w6) [0, 1, 2, 3, 4, 5, 6, 7, 8, 9] [(10, [])] 11 follows (by kernel_rfl) (Upd.refl _ _).drew ?_
  repeat (apply headS_cons rfl; (next => (intro W hW; have h2 := ((hW.blk hcl6 (fun x => x)).cell 2).trans (show _ = some (.slice (some ⟨b7, off7, none⟩) os.length c4) from rfl); have h5 := ((hW.blk hcl6 (fun x => x)).cell 5).trans (show _ = some (.int .i64 0) from rfl); (try simp only [List.getElem_toArray, List.getElem_cons_zero, List.getElem_cons_succ]); go_wp2_with (refine wpList_load_agg agOp rfl _ rfl rfl (hW.blk hb7 fun x => x) hl7 ?_; rw [hpart7]); first | exact ⟨rfl, rfl⟩ | exact ⟨rfl, trivial⟩ | exact rfl)); (next => kernel_rfl))
  refine headS_nil ?_
  refine midG_cons rfl fun K hK => ?_
  go_wp2
  refine hK _ _ ((Upd.refl _ _).drew.alloc _) (headS_nil (midG_nil ?_))
  clear hK
  simp only [List.drop_succ_cons, List.drop_zero]
  clear hpart7 hb7 hl7
  go_wp2_with (go_at_call 50; refine (begin_sl n (h6.alloc _).drew rfl hn hnl hm hids).mono ?_; rintro x w8 ⟨ev, rfl, h8⟩; have hc8 := (h8.blk.cell 5).trans (show _ = some (.int .i64 0) from rfl); have hf8 := h8.blk.frozen; have hl8 := h8.blk.lt)
  have h9 : Run w0 F (w8.setCell ⟨cb, 5, none⟩ (.int .i64 1)) (clA cb { begun { k with ov := .slice (some ⟨b7, off7, none⟩) os.length c4, wants := -1 } ps[n] with pos := 1 } :: _) := (h8.set 5 (.int .i64 1)).drop7
  exact bodyPost_end (results_none rfl _ _ _) rfl ⟨ev, _, rfl, h9⟩
end Go.Proofs.YtmlnjifiaddhjaaGreat
end
section
open Go Go.RowKit Go.Fw
namespace Go.Proofs.YtmlnjifiaddhjaaGreat
set_option maxRecDepth 100000

theorem blk_ne {w : World} {b b' : Nat} {c c' : Array Value} {t t' : TypeId} (h : Blk w b c t) (h' : Blk w b' c' t') (hne : t ≠ t') : b ≠ b' := by
  intro e; subst e
  have e : some (Obj.cells c t (0, 0)) = some (Obj.cells c' t' (0, 0)) := h.symm.trans h'
  injection e with e; injection e with _ e; exact hne e
theorem map_ne {w : World} {b b' : Nat} {c : Array Value} {t : TypeId} {es : Array MapEntry} {cl : Nat} (h : Blk w b c t) (h' : w.heap[b']? = some (.map es cl)) : b' ≠ b := by
  intro e; subst e
  have e : some (Obj.cells c t (0, 0)) = some (Obj.map es cl) := h.symm.trans h'
  injection e with e; cases e

theorem Slc.ext {w w' : World} {t : TypeId} {k : Nat} {v : Value} {cs : List Value} {n : Nat} {ob : Option Nat} (h : Slc w t k v cs n ob) (he : ∀ b, ob = some b → w'.heap[b]? = w.heap[b]?) : Slc w' t k v cs n ob := by
  obtain ⟨hl, h | ⟨b, off, cap, arr, hv, e, hb, h4, h5, h6, h7⟩⟩ := h
  · exact ⟨hl, .inl h⟩
  · exact ⟨hl, .inr ⟨b, off, cap, arr, hv, e, (he b e).trans hb, h4, h5, h6, h7⟩⟩

/-- A store in which nothing is yet. -/
structure StoreEmpty (w : World) (F : Nat → Prop) (st : Nat) (c : Cfg) (sv : Value) (rest : List Value) (ss : List (Nat × Nat)) (ob : Option Nat) : Prop where
  strs : StrsAt w st sv rest ss ob
  each : ∀ s ∈ ss, StripeAt w c s.1 s.2 #[] 0 0
  right : rightB ss.length = true
  f1 : F st
  f2 : ∀ x, ob = some x → F x
  f3 : ∀ s ∈ ss, F s.1 ∧ F s.2
  f4 : ∀ k, F k → k < w.heap.size
def storeE (st : Nat) (c : Cfg) : As where
  on w F := ∃ sv rest ss ob, StoreEmpty w F st c sv rest ss ob
  lt := fun ⟨_, _, _, _, h⟩ hk => h.f4 _ hk
  ext := fun ⟨sv, rest, ss, ob, h⟩ he => ⟨sv, rest, ss, ob, {
    strs := { blk := (he _ h.f1).trans h.strs.blk, sl := Slc.ext h.strs.sl fun b e => he b (h.f2 b e), pos := h.strs.pos, le := h.strs.le }
    each := fun s hs => { blk := (he _ (h.f3 s hs).1).trans (h.each s hs).blk, map := (he _ (h.f3 s hs).2).trans (h.each s hs).map }
    right := h.right, f1 := h.f1, f2 := h.f2, f3 := h.f3, f4 := fun k hk => lt_of_get (h.f4 k hk) (he k hk) }⟩

theorem Run.sep_nil {w0 w : World} {F : Nat → Prop} {f : Nat → As} {L : List As} (t : TypeId) (k : Nat) : ∀ (bs : List Nat), (∀ i ∈ bs, f i = Go.Fw.slc t k (.slice none 0 0) [] 0) → Run w0 F w L → Run w0 F w (sep f bs :: L)
  | [], _, h => Run.shut (L := []) h
  | i :: bs, hf, h => by
    refine Run.sep_cons ?_
    rw [hf i (List.mem_cons_self ..)]
    exact (Run.sep_nil t k bs (fun j hj => hf j (List.mem_cons_of_mem _ hj)) h).slc_nil t k

theorem world_run {w0 w w' : World} {F : Nat → Prop} {L : List As} {c : Cfg} {b : Nat} {R : Raw} (h : Run w0 F w L) (N : NewWorld w' w.heap.size c b R) (hu : Upd Non w w') (hr : rightB c.st = true) :
    Run w0 F w' (gwA b R :: locksA R.bl (List.replicate R.n lk0) :: lineA R.lv R.line.line :: evA R.ev [] :: storeE R.st c :: L) := by
  obtain ⟨base', bt, mt, sv, ss, ob, hb', S⟩ := N.st
  have hright := rightB_bd hr
  have hge : ((c.st.toNat : Nat) : Int) = c.st := by omega
  have hG3 : ∀ k, (k = R.st ∨ ob = some k ∨ ∃ s ∈ ss, k = s.1 ∨ k = s.2) → w.heap.size ≤ k ∧ k < w'.heap.size ∧ k ≠ b ∧ k ≠ R.bl := by
    rintro k (rfl | e | ⟨s, hs, rfl | rfl⟩)
    · exact ⟨N.lt.1, S.blk.lt, by have := N.lt; omega, by have := N.lt; omega⟩
    · subst e
      obtain ⟨_, ⟨_, _, e⟩ | ⟨b1, off, cap, arr, _, e, hb, _⟩⟩ := S.sl
      · cases e
      · injection e with e; subst e
        exact ⟨Nat.le_trans hb' (S.ob0 _ rfl).1, hb.lt, blk_ne hb N.at_ (by decide), blk_ne hb N.bl (by decide)⟩
    · have hs1 := (S.str s hs).blk
      exact ⟨Nat.le_trans hb' (S.ss0 s hs).1, hs1.lt, blk_ne hs1 N.at_ (by decide), blk_ne hs1 N.bl (by decide)⟩
    · have hs2 := (S.str s hs).map
      exact ⟨Nat.le_trans hb' (S.ss0 s hs).2, (Array.getElem?_eq_some_iff.1 hs2).1, map_ne N.at_ hs2, map_ne N.bl hs2⟩
  have hlt := N.lt
  have h1 : Run w0 F w' (gwA b R :: Go.Fw.blk R.bl (lockCells R.n) 98 :: storeE R.st c :: L) := by
    refine h.new (L' := [gwA b R, Go.Fw.blk R.bl (lockCells R.n) 98, storeE R.st c]) ⟨hu, fun k => w.heap.size ≤ k, fun k hk => .inr hk,
      fun k => k = b, ⟨rfl, N.at_, fun k e => e ▸ N.at_.lt⟩, fun k e => by omega,
      fun k => k = R.bl, ⟨rfl, N.bl, fun k e => e ▸ N.bl.lt⟩, fun k e => ⟨by omega, by omega⟩,
      fun k => k = R.st ∨ ob = some k ∨ ∃ s ∈ ss, k = s.1 ∨ k = s.2, ⟨sv, [.pointer (some ⟨bt, 0, none⟩), .int .i64 0, .bool false], ss, ob, ?_⟩, fun k e => ?_, trivial⟩
    · exact {
        strs := { blk := S.blk, sl := by rw [S.len]; exact S.sl, pos := by rw [S.len]; omega, le := by rw [S.len]; omega }
        each := S.str
        right := by rw [S.len, hge]; exact hr
        f1 := .inl rfl, f2 := fun x e => .inr (.inl e), f3 := fun s hs => ⟨.inr (.inr ⟨s, hs, .inl rfl⟩), .inr (.inr ⟨s, hs, .inr rfl⟩)⟩
        f4 := fun k hk => (hG3 k hk).2.1 }
    · obtain ⟨a1, a2, a3, a4⟩ := hG3 k e
      exact ⟨⟨a1, a3⟩, a4⟩
  have hl : lineA R.lv R.line.line = Go.Fw.slc 180 2 (.slice none 0 0) [] 0 := by rw [N.line.1, N.line.2]; rfl
  have he : evA R.ev [] = Go.Fw.slc 83 34 (.slice none 0 0) [] 0 := by rw [N.rest.2.2.2.2.2.2]; rfl
  rw [hl, he]
  have h2 : Run w0 F w' (Go.Fw.blk R.bl (lockCells R.n) 98 :: gwA b R :: Go.Fw.slc 180 2 (.slice none 0 0) [] 0 :: Go.Fw.slc 83 34 (.slice none 0 0) [] 0 :: storeE R.st c :: L) :=
    ((((h1.at2).slc_nil 83 34).slc_nil 180 2).at3).at4
  have h3 : Run w0 F w' (locksA R.bl (List.replicate R.n lk0) :: gwA b R :: Go.Fw.slc 180 2 (.slice none 0 0) [] 0 :: Go.Fw.slc 83 34 (.slice none 0 0) [] 0 :: storeE R.st c :: L) := by
    refine Run.ex (lockCells R.n, fun _ => .slice none 0 0) (Run.shut (Run.fact (Run.to1 (Run.sep_nil 180 2 _ (fun i hi => ?_) h2)) fun i hi => ?_))
    · have e : ((List.replicate R.n lk0).getD i lk0) = lk0 := by
        simp only [List.getD_eq_getElem?_getD, List.getElem?_replicate]; split <;> rfl
      rw [e]; rfl
    · have e : (List.replicate R.n lk0)[i] = lk0 := List.getElem_replicate ..
      rw [e]; exact lockCells_at R.n i (by simpa using hi)
  exact h3.to1
end Go.Proofs.YtmlnjifiaddhjaaGreat
end
section
open Go Go.RowKit Go.Fw
namespace Go.Proofs.YtmlnjifiaddhjaaGreat
set_option maxRecDepth 100000

theorem cnew_run {w0 w : World} {F : Nat → Prop} {L : List As} {b : Nat} {R : Raw} (h : Run w0 F w L) (hg : GwAt w b R) (hn : R.n ≤ 2000) (t : Int) (ht : 0 ≤ t ∧ t < 32) (v : Value) (ps : List Cal) (op : Option Nat) (hp : CalsS w v ps op) (hl : ps.length ≤ 1000000) :
    Calls Tryz.prog 14 #[.pointer (some ⟨b, 0, none⟩), .int .i64 t, v] w fun e w' => ∃ cb pv, e = .returned (.pointer (some ⟨cb, 0, none⟩)) ∧
      Run w0 F w' (clA cb ⟨b, pv, .slice none 0 0, t, 0, 0, -1, Rep.zero⟩ :: calA pv ps :: L) :=
  (cnew_calls b R t v ps op w hg hn ht hp hl).mono fun e w' ⟨cb, pv, ob, he, h1, h2, h3, h4, h5⟩ => ⟨cb, pv, he,
    h.new (L' := [clA cb ⟨b, pv, .slice none 0 0, t, 0, 0, -1, Rep.zero⟩, calA pv ps]) ⟨h5, fun k => w.heap.size ≤ k, fun k hk => .inr hk,
      fun k => k = cb, ⟨rfl, h1, fun k e => e ▸ Blk.lt h1⟩, fun k e => by subst e; exact h3, fun k => ob = some k, ⟨⟨ob, h2, fun x e => e⟩, fun k e => Slc.lt (e ▸ h2)⟩, fun k e => ⟨(h4 k e).1, (h4 k e).2⟩, trivial⟩⟩

/-! ### Chapter 32's example: one client that reads -/
def aCal : Cal := ⟨7, ⟨#[97]⟩, 0, 0, 0, ⟨0, 0, 0, 0, 0, 0⟩⟩
def c1 : Cfg := ⟨1, 1, 1, 1⟩
theorem aErr : aCal.err = 0 := by kernel_rfl
def awO : List (Int × Int) := [(1, 0), (2, 0), (4, 0), (5, 0), (7, 0)]
theorem aOps : opsL c1 aCal = awO := by kernel_rfl
def awK (b : Nat) (pv ov : Value) : Nat → Cl
  | 0 => ⟨b, pv, ov, 0, 0, 0, -1, Rep.zero⟩
  | 1 => ⟨b, pv, ov, 0, 0, 1, -1, Rep.zero⟩
  | 2 => ⟨b, pv, ov, 0, 0, 2, -1, Rep.zero⟩
  | 3 => ⟨b, pv, ov, 0, 0, 3, -1, Rep.e 5⟩
  | 4 => ⟨b, pv, ov, 0, 0, 4, -1, Rep.e 5⟩
  | _ => ⟨b, pv, ov, 0, 1, 0, -1, Rep.e 5⟩
def awE1 : Ev := ⟨1, 0, 0, aCal, Rep.zero, 0, 0, 0, 0, 0, 0, 0⟩
def awE2 : Ev := ⟨2, 0, 0, aCal, Rep.e 5, 0, 0, 0, 0, 0, 0, 0⟩
def awE3 : Ev := ⟨3, 0, 0, Cal.zero, Rep.e 5, 0, 0, 0, 0, 0, 0, 0⟩
def awE : Nat → List Ev
  | 0 => []
  | 1 => [awE1]
  | 2 => [awE1]
  | 3 => [awE1, awE2]
  | 4 => [awE1, awE2]
  | _ => [awE1, awE2, awE3]
def lk1 : Lk := ⟨1, 0, []⟩
def awL : Nat → List Lk
  | 2 => [lk1, lk0]
  | 3 => [lk1, lk0]
  | _ => [lk0, lk0]
theorem awAsk : askR lk0 0 false = (true, 0, lk1) := by kernel_rfl
theorem awDrop : (dropR lk1 0).2 = lk0 := by kernel_rfl

def awS (b : Nat) (R : Raw) : As := storeE R.st c1
structure AwOk (R : Raw) : Prop where
  c : R.c = c1
  n : R.n = 2
  line : R.line = lk0
/-- Behind so many steps. -/
def AwSt (w0 : World) (F : Nat → Prop) (w : World) (b cb j : Nat) : Prop := ∃ pv ov R, AwOk R ∧ ((j = 0 ∨ j = 5) → ov = .slice none 0 0) ∧
  Run w0 F w (clA cb (awK b pv ov j) :: gwA b R :: calA pv [aCal] :: evA R.ev (awE j) :: locksA R.bl (awL j) :: lineA R.lv R.line.line :: opA ov (if j = 0 ∨ j = 5 then [] else awO) :: [storeE R.st c1])

theorem awReady (b : Nat) (pv ov : Value) (R : Raw) (ks : List Lk) (k : Cl) (h1 : k.nth = 0) (h2 : k.wants = -1) : readyV k R ks 1 = true := by
  unfold readyV overV; rw [h1, h2]; rfl

theorem aw_step0 {w0 w : World} {F : Nat → Prop} {b cb : Nat} (h : AwSt w0 F w b cb 0) :
    Calls Tryz.prog 16 #[.pointer (some ⟨cb, 0, none⟩)] w fun x w' => x = .returned (.tuple #[]) ∧ AwSt w0 F w' b cb 1 := by
  obtain ⟨pv, ov, R, hR, hov, h⟩ := h
  obtain rfl := hov (.inl rfl)
  have hin : InnerOk R.c aCal := innerOk_one R.c aCal (by rw [hR.c]; decide) (by rw [hR.c]; decide) (by rw [hR.c]; kernel_rfl) (by decide) (.inr (.inr (.inl ⟨rfl, by kernel_rfl⟩)))
  refine (step_begin_sl (n := 0) (ps := [aCal]) rfl (by rw [hR.n]; rfl) (by rw [hR.n]; decide) rfl (by decide) (awReady b pv (.slice none 0 0) R _ _ rfl rfl) h.drop6 rfl (by decide) (by decide) (by rw [hR.c]; exact ⟨by unfold isI64; decide, by unfold isI64; decide, by unfold isI64; decide, by unfold isI64; decide⟩) (by rw [hR.c]; kernel_rfl) (by rw [hR.c]; decide) (fun _ => hin)).mono fun x w' ⟨ev, ov, hx, h2⟩ => ⟨hx, pv, ov, { R with ev := ev }, ⟨hR.c, hR.n, hR.line⟩, fun e => by omega, ?_⟩
  have e1 : opsL R.c [aCal][0] = awO := by rw [hR.c]; exact aOps
  have e2 : (begun { awK b pv (.slice none 0 0) 0 with ov := ov, wants := -1 } aCal) = awK b pv ov 0 := by unfold begun; rw [aErr]; rfl
  have e3 : begunE { awK b pv (.slice none 0 0) 0 with ov := ov, wants := -1 } aCal = [awE1] := by unfold begunE; rw [if_pos aErr, e2]; rfl
  have e4 : [aCal][0] = aCal := rfl
  rw [e1, e4, e3, e2] at h2
  exact h2

theorem aw_step1 {w0 w : World} {F : Nat → Prop} {b cb : Nat} (h : AwSt w0 F w b cb 1) :
    Calls Tryz.prog 16 #[.pointer (some ⟨cb, 0, none⟩)] w fun x w' => x = .returned (.tuple #[]) ∧ AwSt w0 F w' b cb 2 := by
  obtain ⟨pv, ov, R, hR, hov, h⟩ := h
  have hg : lkGet R (awL 1) 0 = lk0 := by unfold lkGet; rw [hR.n]; rfl
  refine (step_ask_sl (n := 0) (p := 1) (ps := [aCal]) (os := awO) ⟨rfl, by rw [hR.n]; rfl, by rw [hR.n]; decide, rfl, by decide, rfl, by decide, awReady b pv ov R _ _ rfl rfl, by decide⟩ h 0 2 (.inl rfl) rfl (by decide) (by rw [hR.n]; decide) (by rw [hg]; decide)).mono fun x w' ⟨lv, hx, h2⟩ => ⟨hx, pv, ov, R, hR, fun e => by omega, ?_⟩
  have hdec : decide ((2 : Int) = 3) = false := by decide
  have ht : (awK b pv ov 1).task = 0 := rfl
  rw [hg, hdec, ht, awAsk] at h2
  have hput : lkPut R (awL 1) 0 lk1 lv = (R, awL 2) := by unfold lkPut; rw [hR.n]; rfl
  dsimp only at h2
  rw [hput] at h2
  exact h2

theorem aw_step2 {w0 w : World} {F : Nat → Prop} {b cb : Nat} (h : AwSt w0 F w b cb 2) :
    Calls Tryz.prog 16 #[.pointer (some ⟨cb, 0, none⟩)] w fun x w' => x = .returned (.tuple #[]) ∧ AwSt w0 F w' b cb 3 := by
  obtain ⟨pv, ov, R, hR, hov, h⟩ := h
  refine (step_do_sl (fun rep R' ks' L' => rep = Rep.e 5 ∧ R' = R ∧ ks' = awL 2 ∧ L' = [storeE R.st c1]) (n := 0) (p := 2) (ps := [aCal]) (os := awO) ⟨rfl, by rw [hR.n]; rfl, by rw [hR.n]; decide, rfl, by decide, rfl, by decide, awReady b pv ov R _ _ rfl rfl, by decide⟩ h 0 rfl (by decide) ?_).mono fun x w' ⟨rep, R', ks', L', ev, hx, ⟨e1, e2, e3, e4⟩, h2⟩ => ⟨hx, pv, ov, { R with ev := ev }, ⟨hR.c, hR.n, hR.line⟩, fun e => by omega, ?_⟩
  · intro W E hW
    obtain ⟨G, sv, rest, ss, ob, S⟩ := hW.at3.get
    refine (gdo_read_empty hW.blk S.strs S.each S.right aCal rfl (by kernel_rfl) (by decide)).mono fun e w' ⟨he, hu⟩ => ⟨Rep.e 5, R, awL 2, [storeE R.st c1], he, rfl, ⟨rfl, rfl, rfl, rfl⟩, hW.ro hu⟩
  · subst e1 e2 e3 e4
    exact h2

theorem aw_step3 {w0 w : World} {F : Nat → Prop} {b cb : Nat} (h : AwSt w0 F w b cb 3) :
    Calls Tryz.prog 16 #[.pointer (some ⟨cb, 0, none⟩)] w fun x w' => x = .returned (.tuple #[]) ∧ AwSt w0 F w' b cb 4 := by
  obtain ⟨pv, ov, R, hR, hov, h⟩ := h
  have hg : lkGet R (awL 3) 0 = lk1 := by unfold lkGet; rw [hR.n]; rfl
  refine (step_drop_sl (n := 0) (p := 3) (ps := [aCal]) (os := awO) ⟨rfl, by rw [hR.n]; rfl, by rw [hR.n]; decide, rfl, by decide, rfl, by decide, awReady b pv ov R _ _ rfl rfl, by decide⟩ h 0 rfl (by decide) (by rw [hR.n]; decide) (by rw [hg]; decide) (by rw [hR.c]; decide) (by rw [hR.c]; decide) 3
    (.inr ⟨by rw [hR.c]; decide, .inr (.inl ⟨(show (5 : Int) ≠ 0 by decide), ⟨by decide, by rw [hR.c]; decide⟩, rfl⟩)⟩)).mono fun x w' ⟨lv, hx, h2⟩ => ⟨hx, pv, ov, R, hR, fun e => by omega, ?_⟩
  have ht : (awK b pv ov 3).task = 0 := rfl
  rw [hg, ht, awDrop] at h2
  have hput : lkPut R (awL 3) 0 lk0 lv = (R, awL 4) := by unfold lkPut; rw [hR.n]; rfl
  rw [hput] at h2
  exact h2

theorem aw_step4 {w0 w : World} {F : Nat → Prop} {b cb : Nat} (h : AwSt w0 F w b cb 4) :
    Calls Tryz.prog 16 #[.pointer (some ⟨cb, 0, none⟩)] w fun x w' => x = .returned (.tuple #[]) ∧ AwSt w0 F w' b cb 5 := by
  obtain ⟨pv, ov, R, hR, hov, h⟩ := h
  refine (step_end_sl (n := 0) (p := 4) (ps := [aCal]) (os := awO) ⟨rfl, by rw [hR.n]; rfl, by rw [hR.n]; decide, rfl, by decide, rfl, by decide, awReady b pv ov R _ _ rfl rfl, by decide⟩ h 0 rfl (by decide) (by decide)).mono fun x w' ⟨ev, hx, h2⟩ => ⟨hx, pv, .slice none 0 0, { R with ev := ev }, ⟨hR.c, hR.n, hR.line⟩, fun _ => rfl, ?_⟩
  exact h2

theorem aw_step {w0 w : World} {F : Nat → Prop} {b cb j : Nat} (hj : j < 5) (h : AwSt w0 F w b cb j) :
    Calls Tryz.prog 16 #[.pointer (some ⟨cb, 0, none⟩)] w fun x w' => x = .returned (.tuple #[]) ∧ AwSt w0 F w' b cb (j + 1) := by
  have hc : j = 0 ∨ j = 1 ∨ j = 2 ∨ j = 3 ∨ j = 4 := by omega
  clear hj
  rcases hc with rfl | rfl | rfl | rfl | rfl
  · exact aw_step0 h
  · exact aw_step1 h
  · exact aw_step2 h
  · exact aw_step3 h
  · exact aw_step4 h

theorem aw_over {w0 w : World} {F : Nat → Prop} {b cb j : Nat} (hj : j ≤ 5) (h : AwSt w0 F w b cb j) :
    Calls Tryz.prog 15 #[.pointer (some ⟨cb, 0, none⟩)] w fun x w' => x = .returned (.bool (decide (j = 5))) ∧ Upd Non w w' := by
  obtain ⟨pv, ov, R, hR, hov, h⟩ := h
  obtain ⟨op, hp⟩ := h.at2.slc
  have hpv : (awK b pv ov j).pv = pv := by unfold awK; split <;> rfl
  have ho := over_calls cb (awK b pv ov j) [aCal] op w h.blk (by rw [hpv]; exact hp)
  have e : overV (awK 0 (.bool true) (.bool true) j).nth [aCal].length = decide (j = 5) := by
    clear ho hpv hp hov h
    have hc : j = 0 ∨ j = 1 ∨ j = 2 ∨ j = 3 ∨ j = 4 ∨ j = 5 := by omega
    clear hj
    rcases hc with rfl | rfl | rfl | rfl | rfl | rfl <;> decide
  have e2 : (awK b pv ov j).nth = (awK 0 (.bool true) (.bool true) j).nth := by unfold awK; split <;> rfl
  rw [e2, e] at ho
  exact ho
end Go.Proofs.YtmlnjifiaddhjaaGreat
end
section
open Go Go.RowKit Go.Fw
namespace Go.Proofs.YtmlnjifiaddhjaaGreat
set_option maxRecDepth 100000

/-! ### flywheelref05.Bits, flywheelref17.Right -/
def bitsR (n : Int) : Int := if n = 1 then 0 else if n = 2 then 1 else if n = 4 then 2 else if n = 8 then 3 else if n = 16 then 4 else if n = 32 then 5 else if n = 64 then 6 else -1
theorem bitsR_iff (n : Int) : decide (0 ≤ bitsR n) = rightB n := by
  cases h : rightB n with
  | true => rcases right_cases h with rfl | rfl | rfl | rfl | rfl | rfl | rfl <;> rfl
  | false =>
    have h2 : ¬ (n = 1 ∨ n = 2 ∨ n = 4 ∨ n = 8 ∨ n = 16 ∨ n = 32 ∨ n = 64) := by
      rintro (rfl | rfl | rfl | rfl | rfl | rfl | rfl) <;> revert h <;> decide
    simp only [not_or] at h2
    obtain ⟨a, b, c, d, e, f, g⟩ := h2
    unfold bitsR; simp only [a, b, c, d, e, f, g, if_false]; rfl

set_option maxHeartbeats 1000000 in
theorem bitsR_calls (n : Int) (w : World) : Calls Tryz.prog 25 #[.int .i64 n] w fun e w' => e = .returned (.int .i64 (bitsR n)) ∧ w = w' := by
  by_cases h : n = 1 ∨ n = 2 ∨ n = 4 ∨ n = 8 ∨ n = 16 ∨ n = 32 ∨ n = 64
  · rcases h with rfl | rfl | rfl | rfl | rfl | rfl | rfl
    all_goals
      go_enter Tryz.func25, Tryz.ntmps25
      go_wp2
      go_rounds 8
      go_ret
      exact ⟨rfl, rfl⟩
  · simp only [not_or] at h
    have e : Hid (bitsR n = -1) := Go.Fw.hid (by
      obtain ⟨a, b, c, d, e, f, g⟩ := h
      unfold bitsR; simp only [a, b, c, d, e, f, g, if_false])
    obtain ⟨a, b, c, d, e', f, g⟩ := h
    have a' : (n == 1) = false := by simpa using a
    have b' : (n == 2) = false := by simpa using b
    have c' : (n == 4) = false := by simpa using c
    have d' : (n == 8) = false := by simpa using d
    have e'' : (n == 16) = false := by simpa using e'
    have f' : (n == 32) = false := by simpa using f
    have g' : (n == 64) = false := by simpa using g
    clear a b c d e' f g
    go_enter Tryz.func25, Tryz.ntmps25
    go_wp2
    go_rounds 8
    go_ret
    exact ⟨retI e.out.symm, rfl⟩

set_option maxHeartbeats 1000000 in
theorem rright_calls (c : Cfg) (w : World) :
    Calls Tryz.prog 7 #[c.v] w fun e w' => e = .returned (.bool c.ok) ∧ w' = w.alloc (.cells c.cs 23) := by
  obtain ⟨st, sa, lo, hi⟩ := c
  have HE : Hid (Cfg.ok ⟨st, sa, lo, hi⟩ = (rightB st && decide (1 ≤ sa) && decide (sa ≤ 256) && decide (1 ≤ lo) && decide (lo ≤ 256) && decide (1 ≤ hi) && decide (hi ≤ 64))) := Go.Fw.hid rfl
  have hbi := bitsR_iff st
  simp only [Cfg.v, Cfg.cs]
  cases h0 : rightB st with
  | false =>
    rw [h0] at hbi
    have hb : decide (0 ≤ bitsR st) = false := hbi
    have hc := fun W => bitsR_calls st W
    generalize bitsR st = bs at *
    clear hbi
    go_enter Tryz.func7, Tryz.ntmps7
    go_wp2_with (go_at_call 25; refine (hc _).mono ?_; rintro e w' ⟨rfl, rfl⟩)
    go_ret
    exact ⟨retB (by rw [HE.out, h0]; rfl), rfl⟩
  | true =>
    rw [h0] at hbi
    have hb : decide (0 ≤ bitsR st) = true := hbi
    have hc := fun W => bitsR_calls st W
    generalize bitsR st = bs at *
    clear hbi
    by_cases g1 : 1 ≤ sa
    case neg =>
      have g1' : decide (1 ≤ sa) = false := by simpa using g1
      clear g1
      go_enter Tryz.func7, Tryz.ntmps7
      go_wp2_with (go_at_call 25; refine (hc _).mono ?_; rintro e w' ⟨rfl, rfl⟩)
      go_ret
      exact ⟨retB (by rw [HE.out, h0, g1']; rfl), rfl⟩
    have g1' : decide (1 ≤ sa) = true := by simpa using g1
    clear g1
    by_cases g2 : sa ≤ 256
    case neg =>
      have g2' : decide (sa ≤ 256) = false := by simpa using g2
      clear g2
      go_enter Tryz.func7, Tryz.ntmps7
      go_wp2_with (go_at_call 25; refine (hc _).mono ?_; rintro e w' ⟨rfl, rfl⟩)
      go_ret
      exact ⟨retB (by rw [HE.out, h0, g1', g2']; rfl), rfl⟩
    have g2' : decide (sa ≤ 256) = true := by simpa using g2
    clear g2
    by_cases g3 : 1 ≤ lo
    case neg =>
      have g3' : decide (1 ≤ lo) = false := by simpa using g3
      clear g3
      go_enter Tryz.func7, Tryz.ntmps7
      go_wp2_with (go_at_call 25; refine (hc _).mono ?_; rintro e w' ⟨rfl, rfl⟩)
      go_ret
      exact ⟨retB (by rw [HE.out, h0, g1', g2', g3']; rfl), rfl⟩
    have g3' : decide (1 ≤ lo) = true := by simpa using g3
    clear g3
    by_cases g4 : lo ≤ 256
    case neg =>
      have g4' : decide (lo ≤ 256) = false := by simpa using g4
      clear g4
      go_enter Tryz.func7, Tryz.ntmps7
      go_wp2_with (go_at_call 25; refine (hc _).mono ?_; rintro e w' ⟨rfl, rfl⟩)
      go_ret
      exact ⟨retB (by rw [HE.out, h0, g1', g2', g3', g4']; rfl), rfl⟩
    have g4' : decide (lo ≤ 256) = true := by simpa using g4
    clear g4
    by_cases g5 : 1 ≤ hi
    case neg =>
      have g5' : decide (1 ≤ hi) = false := by simpa using g5
      clear g5
      go_enter Tryz.func7, Tryz.ntmps7
      go_wp2_with (go_at_call 25; refine (hc _).mono ?_; rintro e w' ⟨rfl, rfl⟩)
      go_ret
      exact ⟨retB (by rw [HE.out, h0, g1', g2', g3', g4', g5']; rfl), rfl⟩
    have g5' : decide (1 ≤ hi) = true := by simpa using g5
    clear g5
    go_enter Tryz.func7, Tryz.ntmps7
    go_wp2_with (go_at_call 25; refine (hc _).mono ?_; rintro e w' ⟨rfl, rfl⟩)
    go_ret
    exact ⟨retB (by rw [HE.out, h0, g1', g2', g3', g4', g5']; rfl), rfl⟩
end Go.Proofs.YtmlnjifiaddhjaaGreat
end
section
open Go Go.RowKit Go.Fw
namespace Go.Proofs.YtmlnjifiaddhjaaGreat
set_option maxRecDepth 100000

theorem c1wf : c1.wf := ⟨by unfold isI64; decide, by unfold isI64; decide, by unfold isI64; decide, by unfold isI64; decide⟩
theorem c1ok : c1.ok = true := by kernel_rfl
theorem c1v : c1.v = .agg #[.int .i64 1, .int .i64 1, .int .i64 1, .int .i64 1] := rfl

theorem AwSt.ro {w0 w w' : World} {F : Nat → Prop} {b cb j : Nat} (h : AwSt w0 F w b cb j) (hu : Upd Non w w') : AwSt w0 F w' b cb j :=
  let ⟨pv, ov, R, h1, h2, h3⟩ := h; ⟨pv, ov, R, h1, h2, h3.ro hu⟩
theorem aw_start {w0 w w1 w' : World} {F : Nat → Prop} {b cb : Nat} {pv : Value} {R : Raw} (N : NewWorld w1 w0.heap.size c1 b R) (h : Run w F w' (clA cb ⟨b, pv, .slice none 0 0, 0, 0, 0, -1, Rep.zero⟩ :: calA pv [aCal] :: gwA b R :: locksA R.bl (List.replicate R.n lk0) :: lineA R.lv R.line.line :: evA R.ev [] :: storeE R.st c1 :: [])) :
    AwSt w F w' b cb 0 := by
  have hn : R.n = 2 := N.n
  refine ⟨pv, .slice none 0 0, R, ⟨N.cfg, hn, N.line.1⟩, fun _ => rfl, ?_⟩
  rw [hn] at h
  have h2 : Run w F w' (clA cb (awK b pv (.slice none 0 0) 0) :: gwA b R :: calA pv [aCal] :: evA R.ev [] :: locksA R.bl [lk0, lk0] :: lineA R.lv R.line.line :: storeE R.st c1 :: []) := h.at2.to1.at5.to3
  exact ((h2.slc_nil _ _).to6)

set_option maxHeartbeats 1000000 in
theorem awake32_calls (w : World) : Calls Tryz.prog 13 #[] w fun e w' => e = .returned (.bool true) ∧ Upd Non w w' := by
  have hnew := fun W => gnew_calls c1 W c1wf c1ok (by decide) (by decide)
  rw [c1v] at hnew
  go_enter Tryz.func13, Tryz.ntmps13
  go_wp2_with (go_at_call 8; refine (hnew _).mono ?_; rintro x w1 ⟨b, R, rfl, N, hu1⟩)
  have h1 := world_run (Run.nil w Non) N hu1 (by kernel_rfl)
  have h1a := h1.alloc (.cells aCal.cs 55)
  have hcnew := cnew_run h1a h1a.blk (by rw [N.n]; decide) 0 (by decide) (.slice (some ⟨w1.heap.size, 0, none⟩) 1 1) [aCal] (some w1.heap.size) (Slc.of_blk (n := 1) (Blk.new w1 aCal.cs 55) rfl (by decide)) (by decide)
  clear h1 h1a
  go_wp2_with (go_at_call 14; refine hcnew.mono ?_; rintro x w2 ⟨cb, pv, rfl, h2⟩)
  have h3 := aw_start N h2
  clear h2 hcnew hnew N hu1
  go_loopw [4] (fun n wr => ∃ j : Nat, j ≤ 5 ∧ n = .int .i64 j ∧ AwSt w Non wr b cb j) (fun n _ => 9 - (intOf n).toNat)
  case atStart => exact ⟨0, by omega, rfl, h3⟩
  case round =>
    obtain ⟨j, hj, rfl, hst⟩ := hrel
    have hover := aw_over hj hst
    by_cases hj5 : j = 5
    · subst hj5
      have hd : decide (5 = 5) = true := rfl
      rw [hd] at hover
      obtain ⟨pv', ov, R', hR, _, hs⟩ := hst
      go_wp2_with (go_at_call 15; refine hover.mono ?_; rintro x w3 ⟨rfl, hu3⟩)
      have h3' := hs.ro hu3
      obtain ⟨oe, he⟩ := h3'.at3.slc
      have hgw : GwAt w3 b R' := h3'.at1.blk
      have hev := events_calls b R' [awE1, awE2, awE3] oe w3 hgw he (by decide) (by decide)
      clear he hgw
      go_wp2_with (go_at_call 19; refine hev.mono ?_; rintro x w4 ⟨v4, ob4, rfl, ho4, hf4, hu4⟩; obtain ⟨b4, off4, cap4, rfl, _, hcap, hmax, hlt4, hcell⟩ := Slc.form ho4 (by decide); have hc1 := (hcell 1 14 (by decide) (by decide)).trans (show _ = some (.int .i64 5) from rfl); have hc2 := (hcell 2 0 (by decide) (by decide)).trans (show _ = some (.int .i64 3) from rfl); simp only [Nat.add_zero, Nat.one_mul] at hc1 hc2; clear hcell)
      go_ret
      exact ⟨rfl, h3'.upd.then hu4⟩
    · have hd : decide (j = 5) = false := by simpa using hj5
      rw [hd] at hover
      have hlt : (j : Int) < 9 := by omega
      have hj4 : j < 5 := by omega
      have hstep := fun W (hu : Upd Non _ W) => aw_step (w := W) hj4 (hst.ro hu)
      go_wp2_with (first | (go_at_call 15; refine hover.mono ?_; rintro x w3 ⟨rfl, hu3⟩) | (go_at_call 16; refine (hstep _ hu3).mono ?_; rintro x w4 ⟨rfl, h4⟩))
      go_roundw
      case rel => exact ⟨j + 1, by omega, by go_num, h4⟩
      case measure => simp [intOf]; omega
end Go.Proofs.YtmlnjifiaddhjaaGreat
end
section
open Go Go.RowKit Go.Fw
namespace Go.Proofs.YtmlnjifiaddhjaaGreat
set_option maxRecDepth 100000

theorem calsNil (w : World) : CalsS w (.slice none 0 0) [] none := Slc.nil w _ _
theorem cstep_nil (w : World) : Calls Tryz.prog 16 #[.pointer none] w fun e w' => e = .returned (.tuple #[]) ∧ Upd Non w w' := step_nil w

theorem cfg_ok {c : Cfg} (h : c.ok = true) : rightB c.st = true ∧ 0 ≤ c.st ∧ c.st ≤ 1000 := by
  unfold Cfg.ok at h
  simp only [Bool.and_eq_true] at h
  have := rightB_bd h.1.1.1.1.1.1
  exact ⟨h.1.1.1.1.1.1, by omega, by omega⟩

set_option maxHeartbeats 1000000 in
theorem clientNone_yes (c : Cfg) (t : Int) (w : World) (hwf : c.wf) (hok : c.ok = true) (ht0 : 0 ≤ t) (ht1 : t < 32) :
    Calls Tryz.prog 4 #[c.v, .int .i64 t] w fun e w' => e = .returned (.bool true) ∧ Upd Non w w' := by
  have hright := fun W => rright_calls c W
  have haw := fun W => awake32_calls W
  obtain ⟨hr, hst0, hst1⟩ := cfg_ok hok
  have hnew := fun W => gnew_calls c W hwf hok hst0 hst1
  rw [hok] at hright
  have hr' := Go.Fw.hid hr
  clear hr hwf hok
  have hb0 := Blk.new w c.cs 23
  obtain ⟨st, sa, lo, hi⟩ := c
  simp only [Cfg.v, Cfg.cs] at *
  go_enter Tryz.func4, Tryz.ntmps4
  go_wp2_with (first
    | (go_at_call 13; refine (haw _).mono ?_; rintro e w1 ⟨rfl, hu1⟩; have hb1 := hu1.blk hb0 (fun x => x); have hc1 := hb1.cell)
    | (go_at_call 8; refine (hnew _).mono ?_; rintro x w2 ⟨b, R, rfl, N, hu2⟩; have h2 := world_run (Run.nil w1 Non) N hu2 hr'.out; have hN := Go.Fw.hid N; clear N)
    | (go_at_call 14; refine (cnew_run h2 h2.blk (by rw [hN.out.n]; simp only; omega) t ⟨ht0, ht1⟩ (.slice none 0 0) [] none (calsNil _) (by decide)).mono ?_; rintro x w3 ⟨cb, pv, rfl, h3⟩; have hb3 := h3.upd.blk hb1 (fun x => x); have hc3 := hb3.cell; obtain ⟨op3, hp3⟩ := h3.at1.slc)
    | (go_at_call 7; refine (hright _).mono ?_; rintro x w4 ⟨rfl, rfl⟩)
    | (go_at_call 15; refine (over_calls cb ⟨b, pv, .slice none 0 0, t, 0, 0, -1, Rep.zero⟩ [] op3 _ (Blk.alloc h3.blk _) (Slc.upd hp3 ((Upd.refl Non _).alloc _) fun _ _ x => x)).mono ?_; rintro x w5 ⟨rfl, hu5⟩))
  go_ret
  exact ⟨rfl, ((((Upd.refl Non w).alloc _).then hu1).then ((h3.upd.alloc _).then hu5))⟩

set_option maxHeartbeats 1000000 in
theorem clientNone_out (c : Cfg) (t : Int) (w : World) (hwf : c.wf) (hok : c.ok = true) (ht : t < 0 ∨ 32 ≤ t) :
    Calls Tryz.prog 4 #[c.v, .int .i64 t] w fun e w' => e = .returned (.bool true) ∧ Upd Non w w' := by
  have hright := fun W => rright_calls c W
  have haw := fun W => awake32_calls W
  obtain ⟨hr, hst0, hst1⟩ := cfg_ok hok
  have hnew := fun W => gnew_calls c W hwf hok hst0 hst1
  rw [hok] at hright
  have hr' := Go.Fw.hid hr
  clear hr hwf hok
  have hb0 := Blk.new w c.cs 23
  have hnt : Hid (¬ (0 ≤ t ∧ t < 32)) := Go.Fw.hid (by omega)
  obtain ⟨st, sa, lo, hi⟩ := c
  simp only [Cfg.v, Cfg.cs] at *
  rcases ht with ht | ht
  · go_enter Tryz.func4, Tryz.ntmps4
    go_wp2_with (first
      | (go_at_call 13; refine (haw _).mono ?_; rintro e w1 ⟨rfl, hu1⟩; have hb1 := hu1.blk hb0 (fun x => x); have hc1 := hb1.cell)
      | (go_at_call 8; refine (hnew _).mono ?_; rintro x w2 ⟨b, R, rfl, N, hu2⟩; have hN := Go.Fw.hid N; clear N; have hb2 := hu2.blk hb1 (fun x => x); have hc2 := hb2.cell)
      | (go_at_call 14; refine (cnew_bad b R t _ _ hN.out.at_ (by rw [hN.out.n]; simp only; omega) hnt.out).mono ?_; rintro x w3 ⟨rfl, rfl⟩)
      | (go_at_call 7; refine (hright _).mono ?_; rintro x w4 ⟨rfl, rfl⟩)
      | (go_at_call 16; refine (cstep_nil _).mono ?_; rintro x w5 ⟨rfl, hu5⟩)
      | (go_at_call 17; refine (where_nil _).mono ?_; rintro x w6 ⟨rfl, rfl⟩)
      | (go_at_call 15; refine (over_nil _).mono ?_; rintro x w7 ⟨rfl, hu7⟩)
      | (go_at_call 18; refine (ready_nil _).mono ?_; rintro x w8 ⟨rfl, hu8⟩))
    go_ret
    exact ⟨rfl, (((((((Upd.refl Non w).alloc _).then hu1).then hu2).alloc _).then hu5).then hu7).then hu8⟩
  · have ht2 : ¬ t < 32 := by omega
    go_enter Tryz.func4, Tryz.ntmps4
    go_wp2_with (first
      | (go_at_call 13; refine (haw _).mono ?_; rintro e w1 ⟨rfl, hu1⟩; have hb1 := hu1.blk hb0 (fun x => x); have hc1 := hb1.cell)
      | (go_at_call 8; refine (hnew _).mono ?_; rintro x w2 ⟨b, R, rfl, N, hu2⟩; have hN := Go.Fw.hid N; clear N; have hb2 := hu2.blk hb1 (fun x => x); have hc2 := hb2.cell)
      | (go_at_call 14; refine (cnew_bad b R t _ _ hN.out.at_ (by rw [hN.out.n]; simp only; omega) hnt.out).mono ?_; rintro x w3 ⟨rfl, rfl⟩)
      | (go_at_call 7; refine (hright _).mono ?_; rintro x w4 ⟨rfl, rfl⟩)
      | (go_at_call 16; refine (cstep_nil _).mono ?_; rintro x w5 ⟨rfl, hu5⟩)
      | (go_at_call 17; refine (where_nil _).mono ?_; rintro x w6 ⟨rfl, rfl⟩)
      | (go_at_call 15; refine (over_nil _).mono ?_; rintro x w7 ⟨rfl, hu7⟩)
      | (go_at_call 18; refine (ready_nil _).mono ?_; rintro x w8 ⟨rfl, hu8⟩))
    go_ret
    exact ⟨rfl, (((((((Upd.refl Non w).alloc _).then hu1).then hu2).alloc _).then hu5).then hu7).then hu8⟩
set_option maxHeartbeats 1000000 in
theorem clientNone_no (c : Cfg) (t : Int) (w : World) (hwf : c.wf) (hok : c.ok = false) :
    Calls Tryz.prog 4 #[c.v, .int .i64 t] w fun e w' => e = .returned (.bool true) ∧ Upd Non w w' := by
  have hright := fun W => rright_calls c W
  have haw := fun W => awake32_calls W
  have hnew := fun W => gnew_bad c W hwf hok
  rw [hok] at hright
  clear hwf hok
  have hb0 := Blk.new w c.cs 23
  obtain ⟨st, sa, lo, hi⟩ := c
  simp only [Cfg.v, Cfg.cs] at *
  go_enter Tryz.func4, Tryz.ntmps4
  go_wp2_with (first
    | (go_at_call 13; refine (haw _).mono ?_; rintro e w1 ⟨rfl, hu1⟩; have hb1 := hu1.blk hb0 (fun x => x); have hc1 := hb1.cell)
    | (go_at_call 8; refine (hnew _).mono ?_; rintro x w2 ⟨rfl, hu2⟩; have hb2 := hu2.blk hb1 (fun x => x); have hc2 := hb2.cell)
    | (go_at_call 14; refine (cnew_nil t _ _).mono ?_; rintro x w3 ⟨rfl, rfl⟩)
    | (go_at_call 7; refine (hright _).mono ?_; rintro x w4 ⟨rfl, rfl⟩)
    | (go_at_call 16; refine (cstep_nil _).mono ?_; rintro x w5 ⟨rfl, hu5⟩)
    | (go_at_call 17; refine (where_nil _).mono ?_; rintro x w6 ⟨rfl, rfl⟩)
    | (go_at_call 15; refine (over_nil _).mono ?_; rintro x w7 ⟨rfl, hu7⟩)
    | (go_at_call 18; refine (ready_nil _).mono ?_; rintro x w8 ⟨rfl, hu8⟩))
  go_ret
  exact ⟨rfl, (((((((Upd.refl Non w).alloc _).then hu1).then hu2).alloc _).then hu5).then hu7).then hu8⟩

theorem clientNone_calls (c : Cfg) (t : Int) (w : World) (hwf : c.wf) :
    Calls Tryz.prog 4 #[c.v, .int .i64 t] w fun e w' => e = .returned (.bool true) ∧ Upd Non w w' := by
  cases hok : c.ok with
  | true =>
    by_cases ht : 0 ≤ t ∧ t < 32
    · exact clientNone_yes c t w hwf hok ht.1 ht.2
    · exact clientNone_out c t w hwf hok (by omega)
  | false => exact clientNone_no c t w hwf hok
end Go.Proofs.YtmlnjifiaddhjaaGreat
end
section
open Go Go.RowKit Go.Fw Go.ChangeShapes Go.WideShapes Go.ChangeAt Go.Joins
namespace Go.Proofs.YtmlnjifiaddhjaaGreat
set_option maxRecDepth 100000

theorem lawOwn : ownKnob Tryz.prog.godebug = none := by kernel_rfl

/-- What a law's call leaves behind, where it has only made new memory. -/
theorem law_post {H : Type} {enc : TypeId × Value → H} {P : Program} {f : Func} {s : ChangeSpec} {apart : Bool} {W W' : World} {args : Array Value} {ds gs : List (DataW H)} {before pa pv : List MemPlace} {t : TypeId}
    (hW : DataW.Whole enc P f.params.toList s.vars apart W args.toList ds gs before) (hu : Upd Non W W') (ht : f.resultTypes = #[t]) (hb : P.underlying t = some .bool)
    (hr : (s.fn H (ds ++ gs)).results = [.lit (.bool true)])
    (hargs : DataW.TrodAll enc P W' 0 (fun b => decide (b < W.heap.size)) true f.params.toList args.toList (s.fn H (ds ++ gs)).args pa)
    (hvars : DataW.TrodVars enc P W' (fun b => decide (b < W.heap.size)) s.vars (s.fn H (ds ++ gs)).vars pv) :
    s.post enc P f apart true false false W args (.bool true) W' := by
  refine ⟨ds, gs, before, [], pa, pv, hW, ?_, hargs, hvars, Below.frame hu.below _, fun e => by cases e⟩
  rw [ht, hr]
  exact trodAll_cons_mk (shut_bool hb true) trodAll_mk0

theorem cellsCfg : Tryz.prog.cellsOf 23 = 4 := by kernel_rfl

section
variable {H : Type} {enc : TypeId × Value → H} {w : World} {base : Nat} {held : Bool} {spare : Nat → Bool}

theorem isI64_of {a : Int} (h : (Lit.int .i64 a).wf = true) : isI64 a := by
  have h2 : -9223372036854775808 ≤ a ∧ a ≤ 9223372036854775807 := by simpa [Lit.wf, IntKind.min, IntKind.max, IntKind.signed, IntKind.bits] using h
  exact h2
theorem wf_of {a : Int} (h : isI64 a) : (Lit.int .i64 a).wf = true := by
  unfold isI64 at h
  simpa [Lit.wf, IntKind.min, IntKind.max, IntKind.signed, IntKind.bits] using h

/-- How a config reads. -/
def Cfg.d (c : Cfg) : DataW H := .agg [.lit (.int .i64 c.st), .lit (.int .i64 c.sa), .lit (.int .i64 c.lo), .lit (.int .i64 c.hi)]
theorem shut_cfg (c : Cfg) (h : c.wf) : DataW.Trod enc Tryz.prog w base spare held 23 c.v c.d [] := by
  have one : ∀ {a : Int}, isI64 a → ∃ n, DataW.trod enc Tryz.prog w base spare held n 3 [.int .i64 a] = some (.lit (.int .i64 a), []) := fun {a} ha => by
    have h2 := shut_int (enc := enc) (w := w) (base := base) (spare := spare) (held := held) Tryz.underlying3 (wf_of ha)
    exact h2
  exact shut_agg4 (y0 := (.lit (.int .i64 c.st), [])) (y1 := (.lit (.int .i64 c.sa), [])) (y2 := (.lit (.int .i64 c.lo), [])) (y3 := (.lit (.int .i64 c.hi), [])) Tryz.underlying23 (by kernel_rfl) cellsCfg (one h.st) (one h.sa) (one h.lo) (one h.hi)
theorem open_cfg {r : Reach} {b0 : Nat} {v : Value} {d : DataW H} {p : List MemPlace} (hv : Value.okWide Tryz.prog w r b0 23 v) (h : DataW.Trod enc Tryz.prog w base spare held 23 v d p) :
    ∃ c : Cfg, v = c.v ∧ d = c.d ∧ p = [] ∧ c.wf := by
  obtain ⟨c0, c1, c2, c3, y0, y1, y2, y3, m, rfl, rfl, rfl, h0, h1, h2, h3⟩ := open_agg4 Tryz.underlying23 (by kernel_rfl) cellsCfg hv h
  obtain ⟨a0, e0, rfl, w0⟩ := DataW.trod_int Tryz.underlying3 h0
  obtain ⟨a1, e1, rfl, w1⟩ := DataW.trod_int Tryz.underlying3 h1
  obtain ⟨a2, e2, rfl, w2⟩ := DataW.trod_int Tryz.underlying3 h2
  obtain ⟨a3, e3, rfl, w3⟩ := DataW.trod_int Tryz.underlying3 h3
  simp at e0 e1 e2 e3
  subst e0 e1 e2 e3
  exact ⟨⟨a0, a1, a2, a3⟩, rfl, rfl, rfl, ⟨isI64_of w0, isI64_of w1, isI64_of w2, isI64_of w3⟩⟩
end

theorem clientNone_lifted (os : Os) (started : os.Started) (H : Type) (enc : TypeId × Value → H) :
    ReturnsInHanded {} Tryz.checked os 4 .any (Rows.clientNoneSpec.pre6 enc Tryz.prog Tryz.f4 Rows.clientNoneRow.domain false) (Rows.clientNoneSpec.post enc Tryz.prog Tryz.f4 false true false false) := by
  refine returnsInHanded_of_change (C := Tryz.checked) lawOwn started (by kernel_rfl) Tryz.func4
    (ChangeSpec.witness6 (enc := enc) (C := Tryz.checked) false ⟨#[], #[.agg #[.int .i64 0, .int .i64 0, .int .i64 0, .int .i64 0], .int .i64 0], []⟩ 8 (by kernel_rfl) (by kernel_rfl) (by kernel_rfl) (by kernel_rfl)) ?_
  intro W base args ds gs before hval0 hW _ _
  have hval : ∀ (j : Nat) t v, Tryz.f4.params[j]? = some t → args[j]? = some v → Value.okWide Tryz.prog W .any base t v := hval0
  have hW' := hW
  obtain ⟨p, q, hA0, hV, rfl, _, _⟩ := hW
  have hA : DataW.TrodAll enc Tryz.prog W 0 (fun _ => true) true Tryz.f4.params.toList args.toList ds p := hA0
  rw [Tryz.params4] at hA hval
  obtain ⟨v0, v1, d0, d1, p0, p1, rfl, rfl, rfl, h0, h1⟩ := trodAll_two hA
  obtain ⟨rfl, rfl⟩ := trodVars_none hV
  obtain ⟨c, rfl, rfl, rfl, hc⟩ := open_cfg (hval 0 23 v0 rfl rfl) h0
  obtain ⟨t, rfl, rfl, rfl, wt⟩ := open_int Tryz.underlying3 (hval 1 3 v1 rfl rfl) h1
  clear hA0 hval0 hval hA
  refine (clientNone_calls c t W hc).mono fun e W' ⟨he, hu⟩ => ⟨_, he, ?_⟩
  exact law_post (pa := [] ++ []) (pv := []) hW' hu rfl Tryz.underlying4 rfl (trodAll_mk2 (shut_cfg c hc) (shut_int Tryz.underlying3 wt)) rfl

/-- Without a world, or a number that may be, there is no client; a nil one is over: the given statement. -/
theorem clientNone_holds : Rows.ClientNoneSaid :=
  OpenClaim.holds_of_wide 4 Tryz.f4 rfl rfl rfl rfl rfl rfl rfl ⟨rfl, rfl, rfl, rfl, rfl⟩ rfl rfl rfl rfl rfl (by kernel_rfl) Tryz.func4 (by kernel_rfl)
    (of_decide_eq_true (by kernel_rfl)) (by unfold Func.isWrapper; first | (rw [if_pos (by decide +kernel)]; kernel_rfl) | (rw [if_neg (by decide +kernel)]; exact ⟨rfl, rfl⟩))
    (fun os started H enc _ => clientNone_lifted os started H enc)

#print axioms clientNone_holds
end Go.Proofs.YtmlnjifiaddhjaaGreat
end
